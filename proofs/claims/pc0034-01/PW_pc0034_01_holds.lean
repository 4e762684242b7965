import PyProof.Rows.All
import Wide.All
import OpenK.AllK
import Wide.FinOn
import KE.KSuper
import Lean
import PySem.Challenge.RW_pc0034_01

set_option Elab.async false

section
namespace Mine
open PySem

/-- own values -/
inductive V where
  | none
  | bool (b : Bool)
  | int (i : Int)
  | str (s : Str)
  | tup (l : List V)
  | lst (l : List V)
  | rng (a b : Int)
  | ref (i : Nat)

/-- own objects that may turn -/
inductive MO where
  | list (l : List V)
  | dictI (l : List (Int × V))
  | dictS (l : List (Str × V))
  | inst (c : Nat) (d : Nat)
  | attrs (l : List (Nat × V))

abbrev Hp := List MO
abbrev Ev := Nat → Option V

inductive O1 where
  | neg | not | len | tuple | maxL | minL | dictC | abs | sum | rng1 | popL
  deriving DecidableEq
inductive O2 where
  | add | sub | mul | fdiv | fmod | pow
  | eq | ne | lt | le | gt | ge | isB | isNB | inn
  | idx | slTo | slFrom | max2 | min2 | rng2 | app
  deriving DecidableEq

inductive Tg where
  | nm (x : Nat)
  | tup (l : List Nat)

mutual
inductive Ex where
  | none
  | bool (b : Bool)
  | int (i : Int)
  | str (s : Str)
  | var (x : Nat)
  | tup (es : Exs)
  | lstF (es : Exs)
  | lstM
  | dict0
  | dictS (ks : List Str) (es : Exs)
  | op1 (o : O1) (a : Ex)
  | op2 (o : O2) (a b : Ex)
  | and2 (a b : Ex)
  | ite (c : Cn) (a b : Ex)
  | attr (a : Ex) (n : Nat)
  | call (f : Nat) (es : Exs)
  | meth (a : Ex) (n : Nat) (es : Exs)
  | new (c : Nat) (es : Exs)
  | sup (f : Nat) (es : Exs)
  | comp (ls : List Nat) (elt : Ex) (t : Tg) (it : Ex) (ifs : Cns) (rest : Gens)
inductive Exs where
  | nil
  | cons (e : Ex) (es : Exs)
inductive Cn where
  | cmp (o : O2) (a b : Ex)
  | not (c : Cn)
  | and (cs : Cns)
  | or (cs : Cns)
  | ite (c a b : Cn)
  | val (e : Ex)
inductive Cns where
  | nil
  | cons (c : Cn) (cs : Cns)
inductive Gens where
  | nil
  | cons (t : Tg) (it : Ex) (ifs : Cns) (rest : Gens)
end

mutual
inductive St where
  | ret (e : Ex)
  | asg (x : Nat) (e : Ex)
  | asgU (x : Nat) (e : Ex)
  | asgT (ts : List Tg) (e : Ex)
  | asgS (xs : List Nat) (es : Exs)
  | asgA (o : Ex) (n : Nat) (e : Ex)
  | asgI (o i e : Ex)
  | expr (e : Ex)
  | ife (c : Cn) (a b : Sts)
  | for_ (t : Tg) (it : Ex) (b : Sts)
  | whl (n : Nat) (c : Cn) (b : Sts)
  | brk
inductive Sts where
  | nil
  | cons (s : St) (ss : Sts)
end

def lim : Nat := 100000
/-- a str of the program's own -/
def okStr (s : Str) : Bool := PyData.canLay0 (.str s)
/-- plain data, no deeper than n -/
def okD : Nat → V → Bool
  | _, .none => true
  | _, .int _ => true
  | _, .str s => okStr s
  | n + 1, .tup l => l.all (okD n)
  | n + 1, .lst l => l.all (okD n)
  | _, _ => false

def upd (x : Nat) (v : V) (ρ : Ev) : Ev := fun y => if y = x then some v else ρ y
def updL : List Nat → List V → Ev → Ev
  | x :: xs, v :: vs, ρ => updL xs vs (upd x v ρ)
  | _, _, ρ => ρ
def drops (ls : List Nat) (ρ : Ev) : Ev := fun y => if ls.contains y then none else ρ y

/-- the items of what is a list now -/
def view (σ : Hp) : V → V
  | .ref i => match σ[i]? with
    | some (.list l) => .lst l
    | _ => .ref i
  | v => v
def intL (a b : Int) : List V := (List.range (b - a).toNat).map fun (k : Nat) => V.int (a + (k : Int))
/-- what a loop goes over: nothing that may turn -/
def itemsI : V → Option (List V)
  | .tup l => if l.length ≤ lim then some l else none
  | .lst l => if l.length ≤ lim then some l else none
  | .rng a b => if b - a ≤ (lim : Int) ∧ a.natAbs ≤ lim ∧ b.natAbs ≤ lim then some (intL a b) else none
  | _ => none
def intsOf : List V → Option (List Int)
  | [] => some []
  | .int i :: r => (intsOf r).map (i :: ·)
  | _ => none
def sIdx (i : Int) (n : Nat) : Option Nat := if 0 ≤ i then (if i < (n : Int) then some i.toNat else none) else (if 0 ≤ i + n then some (i + n).toNat else none)
def getK {K : Type} [DecidableEq K] (k : K) (l : List (K × V)) : Option V := (l.find? fun p => decide (p.1 = k)).map (·.2)
def putK {K : Type} [DecidableEq K] (k : K) (v : V) (l : List (K × V)) : List (K × V) :=
  if l.any (fun p => decide (p.1 = k)) then l.map (fun p => if p.1 = k then (p.1, v) else p) else l ++ [(k, v)]
/-- an instance's own names -/
def putA (k : Nat) (v : V) : List (Nat × V) → List (Nat × V)
  | [] => [(k, v)]
  | p :: r => if p.1 = k then (p.1, v) :: r else p :: putA k v r

noncomputable def eqD (σ : Hp) (a b : V) : Option Bool :=
  match a, b with
  | .ref i, .ref j => match σ[i]?, σ[j]? with
    | some (.dictI l), some (.dictI l') =>
      if (l.all fun p => okD 20 p.2) && (l'.all fun p => okD 20 p.2) then
        some (decide (l.length = l'.length) && l.all fun p => (getK p.1 l').any fun v => @decide (p.2 = v) (Classical.propDecidable _))
      else none
    | some (.list l), some (.list l') => if okD 20 (.lst l) && okD 20 (.lst l') then some (@decide (l = l') (Classical.propDecidable _)) else none
    | _, _ => none
  | a, b => if okD 20 (view σ a) && okD 20 (view σ b) then some (@decide (view σ a = view σ b) (Classical.propDecidable _)) else none

noncomputable def inD (σ : Hp) (x c : V) : Option Bool :=
  match view σ c with
  | .lst l => if okD 20 x && l.all (okD 20) then some (@decide (x ∈ l) (Classical.propDecidable _)) else none
  | _ => none

def pureV (σ : Hp) (r : Option V) : Option (V × Hp) := r.map fun v => (v, σ)

def o1 : O1 → V → Hp → Option (V × Hp)
  | .neg, .int i, σ => some (.int (-i), σ)
  | .not, .bool b, σ => some (.bool (!b), σ)
  | .len, v, σ => match view σ v with
    | .tup l => if l.length ≤ lim then some (.int l.length, σ) else none
    | .lst l => if l.length ≤ lim then some (.int l.length, σ) else none
    | _ => none
  | .tuple, v, σ => match view σ v with
    | .tup l => some (.tup l, σ)
    | .lst l => if l.length ≤ lim then some (.tup l, σ) else none
    | .rng a b => (itemsI (.rng a b)).map fun l => (.tup l, σ)
    | _ => none
  | .maxL, .lst l, σ => match intsOf l with
    | some (i :: r) => if l.length ≤ lim then some (.int (r.foldl max i), σ) else none
    | _ => none
  | .minL, .lst l, σ => match intsOf l with
    | some (i :: r) => if l.length ≤ lim then some (.int (r.foldl min i), σ) else none
    | _ => none
  | .dictC, .ref i, σ => match σ[i]? with
    | some (.dictI l) => if l.length ≤ lim then some (.ref σ.length, σ ++ [.dictI l]) else none
    | _ => none
  | .abs, .int i, σ => some (.int (i.natAbs : Int), σ)
  | .sum, .lst l, σ => match intsOf l with
    | some is => if l.length ≤ lim then some (.int is.sum, σ) else none
    | _ => none
  | .rng1, .int i, σ => if i.natAbs ≤ lim then some (.rng 0 i, σ) else none
  | .popL, .ref i, σ => match σ[i]? with
    | some (.list l) => match l.getLast? with
      | some v => if l.length ≤ lim then some (v, σ.set i (.list l.dropLast)) else none
      | none => none
    | _ => none
  | _, _, _ => none

def isNoneB : V → Bool
  | .none => true
  | _ => false

noncomputable def o2 : O2 → V → V → Hp → Option (V × Hp)
  | .add, .int a, .int b, σ => some (.int (a + b), σ)
  | .add, .tup a, .tup b, σ => if a.length + b.length ≤ lim then some (.tup (a ++ b), σ) else none
  | .add, .lst a, .lst b, σ => if a.length + b.length ≤ lim then some (.lst (a ++ b), σ) else none
  | .sub, .int a, .int b, σ => some (.int (a - b), σ)
  | .mul, .int a, .int b, σ => if a.natAbs ≤ lim ∧ b.natAbs ≤ lim then some (.int (a * b), σ) else none
  | .fdiv, .int a, .int b, σ => if b ≠ 0 ∧ a.natAbs ≤ lim ∧ b.natAbs ≤ lim then some (.int (a.fdiv b), σ) else none
  | .fmod, .int a, .int b, σ => if b ≠ 0 then some (.int (a.fmod b), σ) else none
  | .pow, .int a, .int b, σ => if 0 ≤ b ∧ b ≤ 100 ∧ a.natAbs ≤ lim then some (.int (a ^ b.toNat), σ) else none
  | .eq, a, b, σ => (eqD σ a b).map fun r => (.bool r, σ)
  | .ne, a, b, σ => (eqD σ a b).map fun r => (.bool (!r), σ)
  | .lt, .int a, .int b, σ => some (.bool (decide (a < b)), σ)
  | .le, .int a, .int b, σ => some (.bool (decide (a ≤ b)), σ)
  | .gt, .int a, .int b, σ => some (.bool (decide (b < a)), σ)
  | .ge, .int a, .int b, σ => some (.bool (decide (b ≤ a)), σ)
  | .isB, .bool a, .bool b, σ => some (.bool (a == b), σ)
  | .isNB, .bool a, .bool b, σ => some (.bool (!(a == b)), σ)
  | .isB, v, .none, σ => some (.bool (isNoneB v), σ)
  | .isNB, v, .none, σ => some (.bool (!isNoneB v), σ)
  | .inn, a, b, σ => (inD σ a b).map fun r => (.bool r, σ)
  | .idx, a, .int i, σ => match view σ a with
    | .tup l => if i.natAbs ≤ lim then pureV σ ((sIdx i l.length).bind fun k => l[k]?) else none
    | .lst l => if i.natAbs ≤ lim ∧ l.length ≤ lim then pureV σ ((sIdx i l.length).bind fun k => l[k]?) else none
    | .ref j => match σ[j]? with
      | some (.dictI l) => pureV σ (getK i l)
      | _ => none
    | _ => none
  | .idx, .ref j, .str x, σ => match σ[j]? with
    | some (.dictS l) => pureV σ (getK x l)
    | _ => none
  | .slTo, a, .int i, σ => match view σ a with
    | .tup l => if i = -1 ∧ 2 ≤ l.length ∧ l.length ≤ lim then some (.tup l.dropLast, σ) else none
    | .lst l => if 0 ≤ i ∧ l.length ≤ lim then some (.lst (l.take i.toNat), σ) else none
    | _ => none
  | .slFrom, a, .int i, σ => match view σ a with
    | .lst l => if 0 ≤ i ∧ l.length ≤ lim then some (.lst (l.drop i.toNat), σ) else none
    | _ => none
  | .max2, .int a, .int b, σ => some (.int (max a b), σ)
  | .min2, .int a, .int b, σ => some (.int (min a b), σ)
  | .rng2, .int a, .int b, σ => if a.natAbs ≤ lim ∧ b.natAbs ≤ lim then some (.rng a b, σ) else none
  | .app, .ref i, v, σ => match σ[i]? with
    | some (.list l) => if l.length ≤ lim then some (.none, σ.set i (.list (l ++ [v]))) else none
    | _ => none
  | _, _, _, _ => none

/-- what must hold before the second one is looked at -/
def pre2 : O2 → V → Hp → Bool
  | .app, .ref i, σ => match σ[i]? with
    | some (.list _) => true
    | _ => false
  | .app, _, _ => false
  | _, _, _ => true

/-- o[i] = v -/
def store (o i v : V) (σ : Hp) : Option Hp :=
  match o, i with
  | .ref j, .int k => match σ[j]? with
    | some (.dictI l) => if l.length ≤ lim then some (σ.set j (.dictI (putK k v l))) else none
    | some (.list l) => if k.natAbs ≤ lim ∧ l.length ≤ lim then (sIdx k l.length).map fun n => σ.set j (.list (l.set n v)) else none
    | _ => none
  | .ref j, .str k => match σ[j]? with
    | some (.dictS l) => if l.length ≤ lim then some (σ.set j (.dictS (putK k v l))) else none
    | _ => none
  | _, _ => none
def attrOf (o : V) (n : Nat) (σ : Hp) : Option V :=
  match o with
  | .ref i => match σ[i]? with
    | some (.inst _ d) => match σ[d]? with
      | some (.attrs l) => getK n l
      | _ => none
    | _ => none
  | _ => none
def putAttr (o : V) (n : Nat) (v : V) (σ : Hp) : Option Hp :=
  match o with
  | .ref i => match σ[i]? with
    | some (.inst _ d) => match σ[d]? with
      | some (.attrs l) => if l.length ≤ 500 then some (σ.set d (.attrs (putA n v l))) else none
      | _ => none
    | _ => none
  | _ => none

def bindTg : Tg → V → Ev → Option Ev
  | .nm x, v, ρ => some (upd x v ρ)
  | .tup xs, .tup l, ρ => if xs.length = l.length ∧ l.length ≤ lim then some (updL xs l ρ) else none
  | _, _, _ => none
def bindTgs : List Tg → List V → Ev → Option Ev
  | [], [], ρ => some ρ
  | t :: ts, v :: vs, ρ => (bindTg t v ρ).bind fun ρ' => bindTgs ts vs ρ'
  | _, _, _ => none

inductive Fl where
  | nxt | brk | ret (v : V)

def loopI (f : V → Hp → Option Hp) : List V → Hp → Option Hp
  | [], σ => some σ
  | x :: xs, σ => (f x σ).bind fun r => loopI f xs r
/-- one more item for the list that a comprehension makes -/
def emit1 (n : Nat) (y : V) (σ : Hp) : Option Hp := match σ[n]? with
  | some (.list acc) => if acc.length ≤ lim then some (σ.set n (.list (acc ++ [y]))) else none
  | _ => none
noncomputable def sealC (σ : Hp) (q : Hp) : Option (V × Hp) := match q[σ.length]? with
  | some (.list acc) => @ite _ (acc.all (okD 20) = true ∧ acc.length ≤ lim ∧ q = σ ++ [.list acc]) (Classical.propDecidable _) (some (.lst acc, σ)) none
  | _ => none
def loopS (f : V → Ev → Hp → Option (Fl × Ev × Hp)) : List V → Ev → Hp → Option (Fl × Ev × Hp)
  | [], ρ, σ => some (.nxt, ρ, σ)
  | x :: xs, ρ, σ => (f x ρ σ).bind fun r => match r.1 with
    | .nxt => loopS f xs r.2.1 r.2.2
    | .brk => some (.nxt, r.2.1, r.2.2)
    | .ret v => some (.ret v, r.2.1, r.2.2)
def loopW (c : Ev → Hp → Option (Bool × Hp)) (b : Ev → Hp → Option (Fl × Ev × Hp)) : Nat → Ev → Hp → Option (Fl × Ev × Hp)
  | 0, _, _ => none
  | n + 1, ρ, σ => (c ρ σ).bind fun r => match r.1 with
    | false => some (.nxt, ρ, r.2)
    | true => (b ρ r.2).bind fun q => match q.1 with
      | .nxt => loopW c b n q.2.1 q.2.2
      | .brk => some (.nxt, q.2.1, q.2.2)
      | .ret v => some (.ret v, q.2.1, q.2.2)

structure Orc where
  call : Nat → List V → Hp → Option (V × Hp)
  mt : Nat → Nat → Option Nat
  ini : Nat → Option Nat
  self : Nat

mutual
noncomputable def ev (C : Orc) : Ex → Ev → Hp → Option (V × Hp)
  | .none, _, σ => some (.none, σ)
  | .bool b, _, σ => some (.bool b, σ)
  | .int i, _, σ => some (.int i, σ)
  | .str s, _, σ => some (.str s, σ)
  | .var x, ρ, σ => (ρ x).map fun v => (v, σ)
  | .tup es, ρ, σ => (evs C es ρ σ).map fun r => (.tup r.1, r.2)
  | .lstF es, ρ, σ => (evs C es ρ σ).map fun r => (.lst r.1, r.2)
  | .lstM, _, σ => some (.ref σ.length, σ ++ [.list []])
  | .dict0, _, σ => some (.ref σ.length, σ ++ [.dictI []])
  | .dictS ks es, ρ, σ => (evs C es ρ σ).map fun r => (.ref r.2.length, r.2 ++ [.dictS (ks.zip r.1)])
  | .op1 o a, ρ, σ => (ev C a ρ σ).bind fun r => o1 o r.1 r.2
  | .op2 o a b, ρ, σ => (ev C a ρ σ).bind fun r => match pre2 o r.1 r.2 with
    | true => (ev C b ρ r.2).bind fun q => o2 o r.1 q.1 q.2
    | false => none
  | .and2 a b, ρ, σ => (ev C a ρ σ).bind fun r => match r.1 with
    | .bool true => ev C b ρ r.2
    | .bool false => some (.bool false, r.2)
    | _ => none
  | .ite c a b, ρ, σ => (evc C c ρ σ).bind fun r => match r.1 with
    | true => ev C a ρ r.2
    | false => ev C b ρ r.2
  | .attr a n, ρ, σ => (ev C a ρ σ).bind fun r => (attrOf r.1 n r.2).map fun v => (v, r.2)
  | .call f es, ρ, σ => (evs C es ρ σ).bind fun r => C.call f r.1 r.2
  | .meth a n es, ρ, σ => (ev C a ρ σ).bind fun r => match r.1 with
    | .ref i => match r.2[i]? with
      | some (.inst c d) => match r.2[d]?, C.mt c n with
        | some (.attrs l), some f => match getK n l with
          | none => (evs C es ρ r.2).bind fun q => C.call f (.ref i :: q.1) q.2
          | some _ => none
        | _, _ => none
      | _ => none
    | _ => none
  | .new c es, ρ, σ => (evs C es ρ σ).bind fun r => match C.ini c with
    | some f => (C.call f (.ref (r.2.length + 1) :: r.1) (r.2 ++ [.attrs [], .inst c r.2.length])).bind fun q => match q.1 with
      | .none => some (.ref (r.2.length + 1), q.2)
      | _ => none
    | none => none
  | .sup f es, ρ, σ => (ρ C.self).bind fun v => match v with
    | .ref i => match σ[i]? with
      | some (.inst 1 d) => match σ[d]? with
        | some (.attrs _) => (evs C es ρ σ).bind fun r => C.call f (.ref i :: r.1) r.2
        | _ => none
      | _ => none
    | _ => none
  | .comp ls elt t it ifs rest, ρ, σ => (ev C it ρ σ).bind fun r => (itemsI r.1).bind fun l =>
      (loopI (fun x σ' => (bindTg t x (drops ls ρ)).bind fun ρ' => (evca C ifs ρ' σ').bind fun b => match b.1 with
        | true => evg C rest (fun ρ'' σ'' => (ev C elt ρ'' σ'').bind fun y => emit1 r.2.length y.1 y.2) ρ' b.2
        | false => some b.2) l (r.2 ++ [.list []])).bind fun q => sealC r.2 q
noncomputable def evs (C : Orc) : Exs → Ev → Hp → Option (List V × Hp)
  | .nil, _, σ => some ([], σ)
  | .cons e es, ρ, σ => (ev C e ρ σ).bind fun r => (evs C es ρ r.2).map fun q => (r.1 :: q.1, q.2)
noncomputable def evc (C : Orc) : Cn → Ev → Hp → Option (Bool × Hp)
  | .cmp o a b, ρ, σ => (ev C a ρ σ).bind fun r => (ev C b ρ r.2).bind fun q => (o2 o r.1 q.1 q.2).bind fun p => match p.1 with
    | .bool x => some (x, p.2)
    | _ => none
  | .not c, ρ, σ => (evc C c ρ σ).map fun r => (!r.1, r.2)
  | .and cs, ρ, σ => evca C cs ρ σ
  | .or cs, ρ, σ => evco C cs ρ σ
  | .ite c a b, ρ, σ => (evc C c ρ σ).bind fun r => match r.1 with
    | true => evc C a ρ r.2
    | false => evc C b ρ r.2
  | .val e, ρ, σ => (ev C e ρ σ).bind fun r => match r.1 with
    | .bool x => some (x, r.2)
    | _ => none
noncomputable def evca (C : Orc) : Cns → Ev → Hp → Option (Bool × Hp)
  | .nil, _, σ => some (true, σ)
  | .cons c cs, ρ, σ => (evc C c ρ σ).bind fun r => match r.1 with
    | true => evca C cs ρ r.2
    | false => some (false, r.2)
noncomputable def evco (C : Orc) : Cns → Ev → Hp → Option (Bool × Hp)
  | .nil, _, σ => some (false, σ)
  | .cons c cs, ρ, σ => (evc C c ρ σ).bind fun r => match r.1 with
    | true => some (true, r.2)
    | false => evco C cs ρ r.2
noncomputable def evg (C : Orc) : Gens → (Ev → Hp → Option Hp) → Ev → Hp → Option Hp
  | .nil, emit, ρ, σ => emit ρ σ
  | .cons t it ifs rest, emit, ρ, σ => (ev C it ρ σ).bind fun r => (itemsI r.1).bind fun l =>
      loopI (fun x σ' => (bindTg t x ρ).bind fun ρ' => (evca C ifs ρ' σ').bind fun b => match b.1 with
        | true => evg C rest emit ρ' b.2
        | false => some b.2) l r.2
end

mutual
noncomputable def exe (C : Orc) : St → Ev → Hp → Option (Fl × Ev × Hp)
  | .ret e, ρ, σ => (ev C e ρ σ).map fun r => (.ret r.1, ρ, r.2)
  | .asg x e, ρ, σ => (ev C e ρ σ).map fun r => (.nxt, upd x r.1 ρ, r.2)
  | .asgU x e, ρ, σ => (ev C e ρ σ).map fun r => (.nxt, upd x r.1 ρ, r.2)
  | .asgT ts e, ρ, σ => (ev C e ρ σ).bind fun r => match r.1 with
    | .tup l => (bindTgs ts l ρ).map fun ρ' => (.nxt, ρ', r.2)
    | _ => none
  | .asgS xs es, ρ, σ => (evs C es ρ σ).bind fun r => if xs.length = r.1.length then some (.nxt, updL xs r.1 ρ, r.2) else none
  | .asgA o n e, ρ, σ => (ev C e ρ σ).bind fun r => (ev C o ρ r.2).bind fun q => (putAttr q.1 n r.1 q.2).map fun σ' => (.nxt, ρ, σ')
  | .asgI o i e, ρ, σ => (ev C e ρ σ).bind fun r => (ev C o ρ r.2).bind fun q => (ev C i ρ q.2).bind fun p => (store q.1 p.1 r.1 p.2).map fun σ' => (.nxt, ρ, σ')
  | .expr e, ρ, σ => (ev C e ρ σ).bind fun r => match r.1 with
    | .none => some (.nxt, ρ, r.2)
    | .bool _ => some (.nxt, ρ, r.2)
    | .int _ => some (.nxt, ρ, r.2)
    | _ => none
  | .ife c a b, ρ, σ => (evc C c ρ σ).bind fun r => match r.1 with
    | true => exs C a ρ r.2
    | false => exs C b ρ r.2
  | .for_ t it b, ρ, σ => (ev C it ρ σ).bind fun r => (itemsI r.1).bind fun l => loopS (fun x ρ' σ' => (bindTg t x ρ').bind fun ρ'' => exs C b ρ'' σ') l ρ r.2
  | .whl n c b, ρ, σ => loopW (fun ρ' σ' => evc C c ρ' σ') (fun ρ' σ' => exs C b ρ' σ') n ρ σ
  | .brk, ρ, σ => some (.brk, ρ, σ)
noncomputable def exs (C : Orc) : Sts → Ev → Hp → Option (Fl × Ev × Hp)
  | .nil, ρ, σ => some (.nxt, ρ, σ)
  | .cons s ss, ρ, σ => (exe C s ρ σ).bind fun r => match r.1 with
    | .nxt => exs C ss r.2.1 r.2.2
    | f => some (f, r.2.1, r.2.2)
end

structure Fn where
  params : List Nat
  body : Sts
structure Tab where
  fn : Nat → Option Fn
  mt : Nat → Nat → Option Nat
  ini : Nat → Option Nat
  self : Nat
noncomputable def run (T : Tab) : Nat → Nat → List V → Hp → Option (V × Hp)
  | 0, _, _, _ => none
  | n + 1, f, args, σ => match T.fn f with
    | some fn => if fn.params.length = args.length then
        (exs ⟨run T n, T.mt, T.ini, T.self⟩ fn.body (updL fn.params args fun _ => none) σ).bind fun r => match r.1 with
        | .ret v => some (v, r.2.2)
        | .nxt => some (.none, r.2.2)
        | .brk => none
      else none
    | none => none
end Mine

end

section
namespace Mine
open PySem
def nmT : List Str := [(Str.ofString "self"), (Str.ofString "d"), (Str.ofString "k"), (Str.ofString "low"), (Str.ofString "high"), (Str.ofString "v"), (Str.ofString "e"), (Str.ofString "found"), (Str.ofString "i"), (Str.ofString "j"), (Str.ofString "literal"), (Str.ofString "x"), (Str.ofString "sign"), (Str.ofString "domains"), (Str.ofString "firsts"), (Str.ofString "trail"), (Str.ofString "marks"), (Str.ofString "news"), (Str.ofString "speaker"), (Str.ofString "is_failed"), (Str.ofString "clash"), (Str.ofString "domain"), (Str.ofString "fail"), (Str.ofString "reasons"), (Str.ofString "old"), (Str.ofString "fresh"), (Str.ofString "enter"), (Str.ofString "n"), (Str.ofString "mark"), (Str.ofString "entry"), (Str.ofString "scope"), (Str.ofString "strength"), (Str.ofString "number"), (Str.ofString "xs"), (Str.ofString "z"), (Str.ofString "store"), (Str.ofString "some"), (Str.ofString "most"), (Str.ofString "strike"), (Str.ofString "least"), (Str.ofString "able"), (Str.ofString "others"), (Str.ofString "hand"), (Str.ofString "many"), (Str.ofString "lot"), (Str.ofString "store_now"), (Str.ofString "size"), (Str.ofString "dom"), (Str.ofString "lots"), (Str.ofString "deeds"), (Str.ofString "late"), (Str.ofString "lowest"), (Str.ofString "row"), (Str.ofString "script"), (Str.ofString "cells"), (Str.ofString "cell"), (Str.ofString "shift"), (Str.ofString "first"), (Str.ofString "base"), (Str.ofString "mask"), (Str.ofString "new_var"), (Str.ofString "rule"), (Str.ofString "push"), (Str.ofString "lap"), (Str.ofString "once"), (Str.ofString "answers"), (Str.ofString "opened"), (Str.ofString "decide"), (Str.ofString "pop")]
-- 0 self
-- 1 d
-- 2 k
-- 3 low
-- 4 high
-- 5 v
-- 6 e
-- 7 found
-- 8 i
-- 9 j
-- 10 literal
-- 11 x
-- 12 sign
-- 13 domains
-- 14 firsts
-- 15 trail
-- 16 marks
-- 17 news
-- 18 speaker
-- 19 is_failed
-- 20 clash
-- 21 domain
-- 22 fail
-- 23 reasons
-- 24 old
-- 25 fresh
-- 26 enter
-- 27 n
-- 28 mark
-- 29 entry
-- 30 scope
-- 31 strength
-- 32 number
-- 33 xs
-- 34 z
-- 35 store
-- 36 some
-- 37 most
-- 38 strike
-- 39 least
-- 40 able
-- 41 others
-- 42 hand
-- 43 many
-- 44 lot
-- 45 store_now
-- 46 size
-- 47 dom
-- 48 lots
-- 49 deeds
-- 50 late
-- 51 lowest
-- 52 row
-- 53 script
-- 54 cells
-- 55 cell
-- 56 shift
-- 57 first
-- 58 base
-- 59 mask
-- 60 new_var
-- 61 rule
-- 62 push
-- 63 lap
-- 64 once
-- 65 answers
-- 66 opened
-- 67 decide
-- 68 pop
def f_least : Fn := ⟨[1],
  (.cons (.ret (.op2 .idx (.op2 .idx (.var 1) (.int 0)) (.int 0)))
  .nil)⟩
def f_greatest : Fn := ⟨[1],
  (.cons (.ret (.op2 .idx (.op2 .idx (.var 1) (.op1 .neg (.int 1))) (.int 1)))
  .nil)⟩
def f_up_to : Fn := ⟨[1, 2],
  (.cons (.ret (.op1 .tuple (.comp [3, 4] (.tup (.cons (.var 3) (.cons (.op2 .min2 (.var 4) (.var 2)) .nil))) (.tup [3, 4]) (.var 1) (.cons (.cmp .le (.var 3) (.var 2)) .nil) .nil)))
  .nil)⟩
def f_from_on : Fn := ⟨[1, 2],
  (.cons (.ret (.op1 .tuple (.comp [3, 4] (.tup (.cons (.op2 .max2 (.var 3) (.var 2)) (.cons (.var 4) .nil))) (.tup [3, 4]) (.var 1) (.cons (.cmp .ge (.var 4) (.var 2)) .nil) .nil)))
  .nil)⟩
def f_without : Fn := ⟨[1, 5],
  (.cons (.ret (.op2 .add (.call 2 (.cons (.var 1) (.cons (.op2 .sub (.var 5) (.int 1)) .nil))) (.call 3 (.cons (.var 1) (.cons (.op2 .add (.var 5) (.int 1)) .nil)))))
  .nil)⟩
def f_meet : Fn := ⟨[1, 6],
  (.cons (.asgS [7, 8, 9] (.cons .lstM (.cons (.int 0) (.cons (.int 0) .nil))))
  (.cons (.whl 5000 (.and (.cons (.cmp .lt (.var 8) (.op1 .len (.var 1))) (.cons (.cmp .lt (.var 9) (.op1 .len (.var 6))) .nil)))
   (.cons (.asgS [3, 4] (.cons (.op2 .max2 (.op2 .idx (.op2 .idx (.var 1) (.var 8)) (.int 0)) (.op2 .idx (.op2 .idx (.var 6) (.var 9)) (.int 0))) (.cons (.op2 .min2 (.op2 .idx (.op2 .idx (.var 1) (.var 8)) (.int 1)) (.op2 .idx (.op2 .idx (.var 6) (.var 9)) (.int 1))) .nil)))
   (.cons (.ife (.cmp .le (.var 3) (.var 4))
    (.cons (.expr (.op2 .app (.var 7) (.tup (.cons (.var 3) (.cons (.var 4) .nil)))))
    .nil)
    .nil)
   (.cons (.ife (.cmp .lt (.op2 .idx (.op2 .idx (.var 1) (.var 8)) (.int 1)) (.op2 .idx (.op2 .idx (.var 6) (.var 9)) (.int 1)))
    (.cons (.asg 8 (.op2 .add (.var 8) (.int 1)))
    .nil)
    (.cons (.asg 9 (.op2 .add (.var 9) (.int 1)))
    .nil))
   .nil))))
  (.cons (.ret (.op1 .tuple (.var 7)))
  .nil)))⟩
def f_negation : Fn := ⟨[10],
  (.cons (.asgT [.nm 11, .nm 12, .nm 2] (.var 10))
  (.cons (.ife (.cmp .eq (.var 12) (.str (Str.ofString "<=")))
   (.cons (.ret (.tup (.cons (.var 11) (.cons (.str (Str.ofString ">=")) (.cons (.op2 .add (.var 2) (.int 1)) .nil)))))
   .nil)
   .nil)
  (.cons (.ife (.cmp .eq (.var 12) (.str (Str.ofString ">=")))
   (.cons (.ret (.tup (.cons (.var 11) (.cons (.str (Str.ofString "<=")) (.cons (.op2 .sub (.var 2) (.int 1)) .nil)))))
   .nil)
   .nil)
  (.cons (.ret (.ite (.cmp .eq (.var 12) (.str (Str.ofString "="))) (.tup (.cons (.var 11) (.cons (.str (Str.ofString "!=")) (.cons (.var 2) .nil)))) (.tup (.cons (.var 11) (.cons (.str (Str.ofString "=")) (.cons (.var 2) .nil))))))
  .nil))))⟩
def f_struck : Fn := ⟨[10, 1],
  (.cons (.asgS [12, 2] (.cons (.op2 .idx (.var 10) (.int 1)) (.cons (.op2 .idx (.var 10) (.int 2)) .nil)))
  (.cons (.ife (.cmp .eq (.var 12) (.str (Str.ofString "<=")))
   (.cons (.ret (.call 2 (.cons (.var 1) (.cons (.var 2) .nil))))
   .nil)
   .nil)
  (.cons (.ife (.cmp .eq (.var 12) (.str (Str.ofString ">=")))
   (.cons (.ret (.call 3 (.cons (.var 1) (.cons (.var 2) .nil))))
   .nil)
   .nil)
  (.cons (.ret (.ite (.cmp .eq (.var 12) (.str (Str.ofString "="))) (.call 5 (.cons (.var 1) (.cons (.tup (.cons (.tup (.cons (.var 2) (.cons (.var 2) .nil))) .nil)) .nil))) (.call 4 (.cons (.var 1) (.cons (.var 2) .nil)))))
  .nil))))⟩
def f_Store_init : Fn := ⟨[0],
  (.cons (.asgA (.var 0) 13 .lstM)
  (.cons (.asgA (.var 0) 14 .lstM)
  (.cons (.asgA (.var 0) 15 .lstM)
  (.cons (.asgA (.var 0) 16 .lstM)
  (.cons (.asgA (.var 0) 17 .dict0)
  (.cons (.asgA (.var 0) 18 (.op1 .neg (.int 1)))
  (.cons (.asgA (.var 0) 19 (.bool false))
  (.cons (.asgA (.var 0) 20 (.tup .nil))
  .nil))))))))⟩
def f_Store_new_var : Fn := ⟨[0, 21],
  (.cons (.expr (.op2 .app (.attr (.var 0) 13) (.var 21)))
  (.cons (.expr (.op2 .app (.attr (.var 0) 14) (.var 21)))
  (.cons (.ife (.cmp .eq (.var 21) (.tup .nil))
   (.cons (.expr (.meth (.var 0) 22 (.cons (.tup .nil) .nil)))
   .nil)
   .nil)
  (.cons (.ret (.op2 .sub (.op1 .len (.attr (.var 0) 13)) (.int 1)))
  .nil))))⟩
def f_Store_size : Fn := ⟨[0],
  (.cons (.ret (.op1 .len (.attr (.var 0) 13)))
  .nil)⟩
def f_Store_dom : Fn := ⟨[0, 11],
  (.cons (.ret (.op2 .idx (.attr (.var 0) 13) (.var 11)))
  .nil)⟩
def f_Store_low : Fn := ⟨[0, 11],
  (.cons (.ret (.call 0 (.cons (.op2 .idx (.attr (.var 0) 13) (.var 11)) .nil)))
  .nil)⟩
def f_Store_high : Fn := ⟨[0, 11],
  (.cons (.ret (.call 1 (.cons (.op2 .idx (.attr (.var 0) 13) (.var 11)) .nil)))
  .nil)⟩
def f_Store_enter : Fn := ⟨[0, 10, 23, 18],
  (.cons (.asg 11 (.op2 .idx (.var 10) (.int 0)))
  (.cons (.asg 24 (.op2 .idx (.attr (.var 0) 13) (.var 11)))
  (.cons (.asg 25 (.call 7 (.cons (.var 10) (.cons (.var 24) .nil))))
  (.cons (.ife (.cmp .eq (.var 25) (.tup .nil))
   (.cons (.ret (.meth (.var 0) 22 (.cons (.op2 .add (.ite (.cmp .isB (.var 23) .none) (.tup .nil) (.var 23)) (.tup (.cons (.call 6 (.cons (.var 10) .nil)) .nil))) .nil)))
   .nil)
   .nil)
  (.cons (.ife (.cmp .eq (.var 25) (.var 24))
   (.cons (.ret (.bool true))
   .nil)
   .nil)
  (.cons (.expr (.op2 .app (.attr (.var 0) 15) (.tup (.cons (.var 11) (.cons (.var 24) (.cons (.var 10) (.cons (.var 23) (.cons (.var 18) .nil))))))))
  (.cons (.asgI (.attr (.var 0) 13) (.var 11) (.var 25))
  (.cons (.asgI (.attr (.var 0) 17) (.var 11) (.bool true))
  (.cons (.ret (.bool true))
  .nil)))))))))⟩
def f_Store_strike : Fn := ⟨[0, 10, 23],
  (.cons (.ret (.meth (.var 0) 26 (.cons (.var 10) (.cons (.op1 .tuple (.var 23)) (.cons (.attr (.var 0) 18) .nil)))))
  .nil)⟩
def f_Store_decide : Fn := ⟨[0, 10],
  (.cons (.ret (.meth (.var 0) 26 (.cons (.var 10) (.cons .none (.cons (.op1 .neg (.int 1)) .nil)))))
  .nil)⟩
def f_Store_fail : Fn := ⟨[0, 23],
  (.cons (.asgA (.var 0) 19 (.bool true))
  (.cons (.asgA (.var 0) 20 (.op1 .tuple (.var 23)))
  (.cons (.ret (.bool false))
  .nil)))⟩
def f_Store_push : Fn := ⟨[0],
  (.cons (.expr (.op2 .app (.attr (.var 0) 16) (.op1 .len (.attr (.var 0) 15))))
  .nil)⟩
def f_Store_pop : Fn := ⟨[0, 27],
  (.cons (.ife (.cmp .lt (.var 27) (.int 1))
   (.cons (.ret .none)
   .nil)
   .nil)
  (.cons (.asg 28 (.op2 .idx (.attr (.var 0) 16) (.op2 .sub (.op1 .len (.attr (.var 0) 16)) (.var 27))))
  (.cons (.asgA (.var 0) 16 (.op2 .slTo (.attr (.var 0) 16) (.op2 .sub (.op1 .len (.attr (.var 0) 16)) (.var 27))))
  (.cons (.whl 5000 (.cmp .gt (.op1 .len (.attr (.var 0) 15)) (.var 28))
   (.cons (.asg 29 (.op1 .popL (.attr (.var 0) 15)))
   (.cons (.asgI (.attr (.var 0) 13) (.op2 .idx (.var 29) (.int 0)) (.op2 .idx (.var 29) (.int 1)))
   .nil)))
  (.cons (.asgA (.var 0) 17 .dict0)
  (.cons (.asgA (.var 0) 19 (.op2 .inn (.tup .nil) (.attr (.var 0) 14)))
  (.cons (.asgA (.var 0) 20 (.tup .nil))
  .nil)))))))⟩
def f_Propagator_init : Fn := ⟨[0, 30, 31],
  (.cons (.asgA (.var 0) 32 (.op1 .neg (.int 1)))
  (.cons (.asgA (.var 0) 30 (.op1 .tuple (.var 30)))
  (.cons (.asgA (.var 0) 31 (.var 31))
  .nil)))⟩
def f_Extreme_init : Fn := ⟨[0, 30],
  (.cons (.expr (.sup 20 (.cons (.var 30) (.cons (.str (Str.ofString "bounds")) .nil))))
  .nil)⟩
def f_Greatest_init : Fn := ⟨[0, 33, 34],
  (.cons (.expr (.sup 21 (.cons (.op2 .add (.op1 .tuple (.var 33)) (.tup (.cons (.var 34) .nil))) .nil)))
  .nil)⟩
def f_Greatest_once : Fn := ⟨[0, 35],
  (.cons (.asgT [.nm 36, .nm 34] (.tup (.cons (.op2 .slTo (.attr (.var 0) 30) (.op1 .neg (.int 1))) (.cons (.op2 .idx (.attr (.var 0) 30) (.op1 .neg (.int 1))) .nil))))
  (.cons (.asg 37 (.op1 .maxL (.comp [11] (.meth (.var 35) 4 (.cons (.var 11) .nil)) (.nm 11) (.var 36) .nil .nil)))
  (.cons (.ife (.not (.val (.meth (.var 35) 38 (.cons (.tup (.cons (.var 34) (.cons (.str (Str.ofString "<=")) (.cons (.var 37) .nil)))) (.cons (.op1 .tuple (.comp [11] (.tup (.cons (.var 11) (.cons (.str (Str.ofString "<=")) (.cons (.var 37) .nil)))) (.nm 11) (.var 36) .nil .nil)) .nil)))))
   (.cons (.ret (.bool false))
   .nil)
   .nil)
  (.cons (.for_ (.nm 11) (.var 36)
   (.cons (.ife (.not (.val (.meth (.var 35) 38 (.cons (.tup (.cons (.var 34) (.cons (.str (Str.ofString ">=")) (.cons (.meth (.var 35) 3 (.cons (.var 11) .nil)) .nil)))) (.cons (.tup (.cons (.tup (.cons (.var 11) (.cons (.str (Str.ofString ">=")) (.cons (.meth (.var 35) 3 (.cons (.var 11) .nil)) .nil)))) .nil)) .nil)))))
    (.cons (.ret (.bool false))
    .nil)
    .nil)
   .nil))
  (.cons (.for_ (.nm 11) (.var 36)
   (.cons (.ife (.not (.val (.meth (.var 35) 38 (.cons (.tup (.cons (.var 11) (.cons (.str (Str.ofString "<=")) (.cons (.meth (.var 35) 4 (.cons (.var 34) .nil)) .nil)))) (.cons (.tup (.cons (.tup (.cons (.var 34) (.cons (.str (Str.ofString "<=")) (.cons (.meth (.var 35) 4 (.cons (.var 34) .nil)) .nil)))) .nil)) .nil)))))
    (.cons (.ret (.bool false))
    .nil)
    .nil)
   .nil))
  (.cons (.asg 39 (.meth (.var 35) 3 (.cons (.var 34) .nil)))
  (.cons (.asg 40 (.comp [2] (.var 2) (.nm 2) (.op1 .rng1 (.op1 .len (.var 36))) (.cons (.cmp .ge (.meth (.var 35) 4 (.cons (.op2 .idx (.var 36) (.var 2)) .nil)) (.var 39)) .nil) .nil))
  (.cons (.ife (.cmp .ne (.op1 .len (.var 40)) (.int 1))
   (.cons (.ret (.bool true))
   .nil)
   .nil)
  (.cons (.asgU 41 (.comp [2] (.tup (.cons (.op2 .idx (.var 36) (.var 2)) (.cons (.str (Str.ofString "<=")) (.cons (.op2 .sub (.var 39) (.int 1)) .nil)))) (.nm 2) (.op1 .rng1 (.op1 .len (.var 36))) (.cons (.cmp .ne (.var 2) (.op2 .idx (.var 40) (.int 0))) .nil) .nil))
  (.cons (.ret (.meth (.var 35) 38 (.cons (.tup (.cons (.op2 .idx (.var 36) (.op2 .idx (.var 40) (.int 0))) (.cons (.str (Str.ofString ">=")) (.cons (.var 39) .nil)))) (.cons (.op1 .tuple (.op2 .add (.lstF (.cons (.tup (.cons (.var 34) (.cons (.str (Str.ofString ">=")) (.cons (.var 39) .nil)))) .nil)) (.var 41))) .nil))))
  .nil))))))))))⟩
def f_law_pick : Fn := ⟨[42, 43],
  (.cons (.asgI (.var 42) (.str (Str.ofString "spot")) (.op2 .add (.op2 .idx (.var 42) (.str (Str.ofString "spot"))) (.int 1)))
  (.cons (.ife (.cmp .le (.op2 .idx (.var 42) (.str (Str.ofString "spot"))) (.op1 .len (.op2 .idx (.var 42) (.str (Str.ofString "cells")))))
   (.cons (.ret (.op2 .fmod (.op2 .idx (.op2 .idx (.var 42) (.str (Str.ofString "cells"))) (.op2 .sub (.op2 .idx (.var 42) (.str (Str.ofString "spot"))) (.int 1))) (.var 43)))
   .nil)
   .nil)
  (.cons (.asgI (.var 42) (.str (Str.ofString "stir")) (.op2 .fmod (.op2 .add (.op2 .mul (.op2 .idx (.var 42) (.str (Str.ofString "stir"))) (.int 29)) (.int 13)) (.int 1021)))
  (.cons (.ret (.op2 .fmod (.op2 .fdiv (.op2 .idx (.var 42) (.str (Str.ofString "stir"))) (.int 3)) (.var 43)))
  .nil))))⟩
def f_law_spans : Fn := ⟨[44],
  (.cons (.asg 7 .lstM)
  (.cons (.for_ (.nm 5) (.var 44)
   (.cons (.ife (.and (.cons (.cmp .ne (.var 7) (.lstF .nil)) (.cons (.cmp .eq (.op2 .idx (.op2 .idx (.var 7) (.op1 .neg (.int 1))) (.int 1)) (.op2 .sub (.var 5) (.int 1))) .nil)))
    (.cons (.asgI (.var 7) (.op1 .neg (.int 1)) (.tup (.cons (.op2 .idx (.op2 .idx (.var 7) (.op1 .neg (.int 1))) (.int 0)) (.cons (.var 5) .nil))))
    .nil)
    (.cons (.expr (.op2 .app (.var 7) (.tup (.cons (.var 5) (.cons (.var 5) .nil)))))
    .nil))
   .nil))
  (.cons (.ret (.op1 .tuple (.var 7)))
  .nil)))⟩
def f_law_lots : Fn := ⟨[45],
  (.cons (.asg 7 .dict0)
  (.cons (.for_ (.nm 11) (.op1 .rng1 (.meth (.var 45) 46 .nil))
   (.cons (.asgI (.var 7) (.var 11) (.comp [3, 4, 5] (.var 5) (.tup [3, 4]) (.meth (.var 45) 47 (.cons (.var 11) .nil)) .nil (.cons (.nm 5) (.op2 .rng2 (.var 3) (.op2 .add (.var 4) (.int 1))) .nil .nil)))
   .nil))
  (.cons (.ret (.var 7))
  .nil)))⟩
def f_law_kept : Fn := ⟨[44, 12, 2],
  (.cons (.ret (.comp [5] (.var 5) (.nm 5) (.var 44) (.cons (.ite (.cmp .eq (.var 12) (.str (Str.ofString "<="))) (.cmp .le (.var 5) (.var 2)) (.cmp .ge (.var 5) (.var 2))) .nil) .nil))
  .nil)⟩
def f_law_struck : Fn := ⟨[48, 49, 10, 23],
  (.cons (.asgT [.nm 11, .nm 12, .nm 2] (.var 10))
  (.cons (.asg 50 (.call 27 (.cons (.op2 .idx (.var 48) (.var 11)) (.cons (.var 12) (.cons (.var 2) .nil)))))
  (.cons (.ife (.cmp .eq (.var 50) (.lstF .nil))
   (.cons (.ret (.op2 .add (.var 23) (.tup (.cons (.ite (.cmp .eq (.var 12) (.str (Str.ofString "<="))) (.tup (.cons (.var 11) (.cons (.str (Str.ofString ">=")) (.cons (.op2 .add (.var 2) (.int 1)) .nil)))) (.tup (.cons (.var 11) (.cons (.str (Str.ofString "<=")) (.cons (.op2 .sub (.var 2) (.int 1)) .nil))))) .nil))))
   .nil)
   .nil)
  (.cons (.ife (.cmp .ne (.var 50) (.op2 .idx (.var 48) (.var 11)))
   (.cons (.expr (.op2 .app (.var 49) (.tup (.cons (.var 11) (.cons (.call 25 (.cons (.op2 .idx (.var 48) (.var 11)) .nil)) (.cons (.var 10) (.cons (.var 23) (.cons (.op1 .neg (.int 1)) .nil))))))))
   (.cons (.asgI (.var 48) (.var 11) (.var 50))
   .nil))
   .nil)
  (.cons (.ret .none)
  .nil)))))⟩
def f_law_once : Fn := ⟨[48, 36, 34],
  (.cons (.asgT [.nm 48, .nm 49] (.tup (.cons (.op1 .dictC (.var 48)) (.cons .lstM .nil))))
  (.cons (.asg 37 (.op1 .maxL (.comp [11] (.op1 .maxL (.op2 .idx (.var 48) (.var 11))) (.nm 11) (.var 36) .nil .nil)))
  (.cons (.asg 20 (.call 28 (.cons (.var 48) (.cons (.var 49) (.cons (.tup (.cons (.var 34) (.cons (.str (Str.ofString "<=")) (.cons (.var 37) .nil)))) (.cons (.op1 .tuple (.comp [11] (.tup (.cons (.var 11) (.cons (.str (Str.ofString "<=")) (.cons (.var 37) .nil)))) (.nm 11) (.var 36) .nil .nil)) .nil))))))
  (.cons (.for_ (.nm 11) (.var 36)
   (.cons (.ife (.cmp .isB (.var 20) .none)
    (.cons (.asg 20 (.call 28 (.cons (.var 48) (.cons (.var 49) (.cons (.tup (.cons (.var 34) (.cons (.str (Str.ofString ">=")) (.cons (.op1 .minL (.op2 .idx (.var 48) (.var 11))) .nil)))) (.cons (.tup (.cons (.tup (.cons (.var 11) (.cons (.str (Str.ofString ">=")) (.cons (.op1 .minL (.op2 .idx (.var 48) (.var 11))) .nil)))) .nil)) .nil))))))
    .nil)
    .nil)
   .nil))
  (.cons (.for_ (.nm 11) (.var 36)
   (.cons (.ife (.cmp .isB (.var 20) .none)
    (.cons (.asg 20 (.call 28 (.cons (.var 48) (.cons (.var 49) (.cons (.tup (.cons (.var 11) (.cons (.str (Str.ofString "<=")) (.cons (.op1 .maxL (.op2 .idx (.var 48) (.var 34))) .nil)))) (.cons (.tup (.cons (.tup (.cons (.var 34) (.cons (.str (Str.ofString "<=")) (.cons (.op1 .maxL (.op2 .idx (.var 48) (.var 34))) .nil)))) .nil)) .nil))))))
    .nil)
    .nil)
   .nil))
  (.cons (.asg 51 (.op1 .minL (.op2 .idx (.var 48) (.var 34))))
  (.cons (.asg 40 (.comp [11] (.var 11) (.nm 11) (.var 36) (.cons (.cmp .ge (.op1 .maxL (.op2 .idx (.var 48) (.var 11))) (.var 51)) .nil) .nil))
  (.cons (.ife (.and (.cons (.cmp .isB (.var 20) .none) (.cons (.cmp .eq (.op1 .len (.var 40)) (.int 1)) .nil)))
   (.cons (.asg 23 (.op2 .add (.tup (.cons (.tup (.cons (.var 34) (.cons (.str (Str.ofString ">=")) (.cons (.var 51) .nil)))) .nil)) (.op1 .tuple (.comp [11] (.tup (.cons (.var 11) (.cons (.str (Str.ofString "<=")) (.cons (.op2 .sub (.var 51) (.int 1)) .nil)))) (.nm 11) (.var 36) (.cons (.cmp .ne (.var 11) (.op2 .idx (.var 40) (.int 0))) .nil) .nil))))
   (.cons (.asg 20 (.call 28 (.cons (.var 48) (.cons (.var 49) (.cons (.tup (.cons (.op2 .idx (.var 40) (.int 0)) (.cons (.str (Str.ofString ">=")) (.cons (.var 51) .nil)))) (.cons (.var 23) .nil))))))
   .nil))
   .nil)
  (.cons (.ret (.tup (.cons (.var 48) (.cons (.var 49) (.cons (.var 20) .nil)))))
  .nil)))))))))⟩
def f_law_answers : Fn := ⟨[48, 36, 34, 52],
  (.cons (.ife (.cmp .eq (.op1 .len (.var 52)) (.op1 .len (.var 36)))
   (.cons (.ret (.ite (.cmp .inn (.op1 .maxL (.var 52)) (.op2 .idx (.var 48) (.var 34))) (.lstF (.cons (.op2 .add (.var 52) (.lstF (.cons (.op1 .maxL (.var 52)) .nil))) .nil)) (.lstF .nil)))
   .nil)
   .nil)
  (.cons (.ret (.comp [5, 7] (.var 7) (.nm 5) (.op2 .idx (.var 48) (.op2 .idx (.var 36) (.op1 .len (.var 52)))) .nil (.cons (.nm 7) (.call 30 (.cons (.var 48) (.cons (.var 36) (.cons (.var 34) (.cons (.op2 .add (.var 52) (.lstF (.cons (.var 5) .nil))) .nil))))) .nil .nil)))
  .nil))⟩
def f_law : Fn := ⟨[53],
  (.cons (.asgU 54 (.comp [55] (.op2 .fmod (.op1 .abs (.var 55)) (.int 1000003)) (.nm 55) (.op2 .slTo (.var 53) (.int 50)) .nil .nil))
  (.cons (.asg 42 (.dictS [(Str.ofString "cells"), (Str.ofString "spot"), (Str.ofString "stir")] (.cons (.var 54) (.cons (.int 0) (.cons (.op2 .fmod (.op2 .add (.int 5) (.op1 .sum (.var 54))) (.int 1021)) .nil)))))
  (.cons (.asg 43 (.op2 .add (.int 1) (.call 24 (.cons (.var 42) (.cons (.int 3) .nil)))))
  (.cons (.asgS [56, 57] (.cons (.call 24 (.cons (.var 42) (.cons (.int 2) .nil))) (.cons .dict0 .nil)))
  (.cons (.asgS [36, 34] (.cons (.op1 .tuple (.op2 .rng2 (.var 56) (.op2 .add (.var 56) (.var 43)))) (.cons (.ite (.cmp .eq (.var 56) (.int 1)) (.int 0) (.var 43)) .nil)))
  (.cons (.for_ (.nm 11) (.op2 .add (.var 36) (.tup (.cons (.var 34) .nil)))
   (.cons (.asgT [.nm 58, .nm 59] (.tup (.cons (.op2 .sub (.call 24 (.cons (.var 42) (.cons (.int 7) .nil))) (.int 3)) (.cons (.op2 .add (.int 1) (.call 24 (.cons (.var 42) (.cons (.int 15) .nil)))) .nil))))
   (.cons (.asgI (.var 57) (.var 11) (.comp [2] (.op2 .add (.var 58) (.var 2)) (.nm 2) (.op1 .rng1 (.int 4)) (.cons (.cmp .eq (.op2 .fmod (.op2 .fdiv (.var 59) (.op2 .pow (.int 2) (.var 2))) (.int 2)) (.int 1)) .nil) .nil))
   .nil)))
  (.cons (.asg 45 (.new 0 .nil))
  (.cons (.for_ (.nm 11) (.op1 .rng1 (.op2 .add (.var 43) (.int 1)))
   (.cons (.expr (.meth (.var 45) 60 (.cons (.call 25 (.cons (.op2 .idx (.var 57) (.var 11)) .nil)) .nil)))
   .nil))
  (.cons (.asgS [61, 48] (.cons (.new 1 (.cons (.var 36) (.cons (.var 34) .nil))) (.cons (.var 57) .nil)))
  (.cons (.expr (.meth (.var 45) 62 .nil))
  (.cons (.for_ (.nm 63) (.op1 .rng1 (.int 3))
   (.cons (.asgT [.nm 28, .tup [50, 49, 20]] (.tup (.cons (.op1 .len (.attr (.var 45) 15)) (.cons (.call 29 (.cons (.var 48) (.cons (.var 36) (.cons (.var 34) .nil)))) .nil))))
   (.cons (.ife (.or (.cons (.cmp .isNB (.meth (.var 61) 64 (.cons (.var 45) .nil)) (.op2 .isB (.var 20) .none)) (.cons (.cmp .isB (.attr (.var 45) 19) (.op2 .isB (.var 20) .none)) .nil)))
    (.cons (.ret (.bool false))
    .nil)
    .nil)
   (.cons (.ife (.or (.cons (.cmp .ne (.op2 .slFrom (.attr (.var 45) 15) (.var 28)) (.var 49)) (.cons (.cmp .ne (.call 26 (.cons (.var 45) .nil)) (.var 50)) .nil)))
    (.cons (.ret (.bool false))
    .nil)
    .nil)
   (.cons (.asg 65 (.call 30 (.cons (.var 48) (.cons (.var 36) (.cons (.var 34) (.cons (.lstF .nil) .nil))))))
   (.cons (.ife (.cmp .isNB (.var 20) .none)
    (.cons (.ife (.or (.cons (.cmp .ne (.var 65) (.lstF .nil)) (.cons (.cmp .ne (.attr (.var 45) 20) (.var 20)) .nil)))
     (.cons (.ret (.bool false))
     .nil)
     .nil)
    (.cons (.brk)
    .nil))
    .nil)
   (.cons (.ife (.cmp .ne (.call 30 (.cons (.var 50) (.cons (.var 36) (.cons (.var 34) (.cons (.lstF .nil) .nil))))) (.var 65))
    (.cons (.ret (.bool false))
    .nil)
    .nil)
   (.cons (.asgU 66 (.comp [11] (.var 11) (.nm 11) (.op1 .rng1 (.op2 .add (.var 43) (.int 1))) (.cons (.cmp .gt (.op1 .len (.op2 .idx (.var 50) (.var 11))) (.int 1)) .nil) .nil))
   (.cons (.ife (.cmp .eq (.var 66) (.lstF .nil))
    (.cons (.brk)
    .nil)
    .nil)
   (.cons (.asg 11 (.op2 .idx (.var 66) (.call 24 (.cons (.var 42) (.cons (.op1 .len (.var 66)) .nil)))))
   (.cons (.asg 48 (.op1 .dictC (.var 50)))
   (.cons (.asgI (.var 48) (.var 11) (.lstF (.cons (.op2 .idx (.op2 .idx (.var 50) (.var 11)) (.call 24 (.cons (.var 42) (.cons (.op1 .len (.op2 .idx (.var 50) (.var 11))) .nil)))) .nil)))
   (.cons (.expr (.meth (.var 45) 67 (.cons (.tup (.cons (.var 11) (.cons (.str (Str.ofString "=")) (.cons (.op2 .idx (.op2 .idx (.var 48) (.var 11)) (.int 0)) .nil)))) .nil)))
   .nil)))))))))))))
  (.cons (.expr (.meth (.var 45) 68 (.cons (.int 1) .nil)))
  (.cons (.ret (.and2 (.op1 .not (.attr (.var 45) 19)) (.op2 .eq (.call 26 (.cons (.var 45) .nil)) (.var 57))))
  .nil)))))))))))))⟩
def fnT : List Fn := [f_least, f_greatest, f_up_to, f_from_on, f_without, f_meet, f_negation, f_struck, f_Store_init, f_Store_new_var, f_Store_size, f_Store_dom, f_Store_low, f_Store_high, f_Store_enter, f_Store_strike, f_Store_decide, f_Store_fail, f_Store_push, f_Store_pop, f_Propagator_init, f_Extreme_init, f_Greatest_init, f_Greatest_once, f_law_pick, f_law_spans, f_law_lots, f_law_kept, f_law_struck, f_law_once, f_law_answers, f_law]
-- ids: 0 least, 1 greatest, 2 up_to, 3 from_on, 4 without, 5 meet, 6 negation, 7 struck, 8 Store.__init__, 9 Store.new_var, 10 Store.size, 11 Store.dom, 12 Store.low, 13 Store.high, 14 Store.enter, 15 Store.strike, 16 Store.decide, 17 Store.fail, 18 Store.push, 19 Store.pop, 20 Propagator.__init__, 21 Extreme.__init__, 22 Greatest.__init__, 23 Greatest.once, 24 _law_pick, 25 _law_spans, 26 _law_lots, 27 _law_kept, 28 _law_struck, 29 _law_once, 30 _law_answers, 31 law
def mtT : Nat → Nat → Option Nat
  | 0, 60 => some 9
  | 0, 46 => some 10
  | 0, 47 => some 11
  | 0, 3 => some 12
  | 0, 4 => some 13
  | 0, 26 => some 14
  | 0, 38 => some 15
  | 0, 67 => some 16
  | 0, 22 => some 17
  | 0, 62 => some 18
  | 0, 68 => some 19
  | 1, 64 => some 23
  | _, _ => none
def iniT : Nat → Option Nat
  | 0 => some 8
  | 1 => some 22
  | _ => none
def TB : Tab := ⟨fun f => fnT[f]?, mtT, iniT, 0⟩
end Mine

end

section
namespace Mine
open PySem PySem.W PyProof.Rows
set_option Elab.async false
set_option autoImplicit false

/-- two lists, item by item -/
inductive All2 {α β : Type} (R : α → β → Prop) : List α → List β → Prop
  | nil : All2 R [] []
  | cons {a b l m} : R a b → All2 R l m → All2 R (a :: l) (b :: m)
namespace All2
variable {α β : Type} {R R' : α → β → Prop}
theorem length {l : List α} {m : List β} (h : All2 R l m) : l.length = m.length := by
  induction h with
  | nil => rfl
  | cons _ _ ih => simp [ih]
theorem mono {l : List α} {m : List β} (h : All2 R l m) (f : ∀ a b, R a b → R' a b) : All2 R' l m := by
  induction h with
  | nil => exact .nil
  | cons a _ ih => exact .cons (f _ _ a) ih
theorem append {l l' : List α} {m m' : List β} (h : All2 R l m) (h' : All2 R l' m') : All2 R (l ++ l') (m ++ m') := by
  induction h with
  | nil => exact h'
  | cons a _ ih => exact .cons a ih
theorem get {l : List α} {m : List β} (h : All2 R l m) : ∀ {i : Nat} {a : α}, l[i]? = some a → ∃ b, m[i]? = some b ∧ R a b := by
  induction h with
  | nil => intro i a e; simp at e
  | cons r _ ih =>
    intro i a e
    cases i with
    | zero => simp only [List.getElem?_cons_zero, Option.some.injEq] at e; subst e; exact ⟨_, by simp, r⟩
    | succ i => simp only [List.getElem?_cons_succ] at e ⊢; exact ih e
theorem get' {l : List α} {m : List β} (h : All2 R l m) : ∀ {i : Nat} {b : β}, m[i]? = some b → ∃ a, l[i]? = some a ∧ R a b := by
  induction h with
  | nil => intro i a e; simp at e
  | cons r _ ih =>
    intro i a e
    cases i with
    | zero => simp only [List.getElem?_cons_zero, Option.some.injEq] at e; subst e; exact ⟨_, by simp, r⟩
    | succ i => simp only [List.getElem?_cons_succ] at e ⊢; exact ih e
theorem take {l : List α} {m : List β} (h : All2 R l m) : ∀ n, All2 R (l.take n) (m.take n) := by
  induction h with
  | nil => intro n; simp; exact .nil
  | cons r _ ih =>
    intro n
    cases n with
    | zero => simp; exact .nil
    | succ n => simp only [List.take_succ_cons]; exact .cons r (ih n)
theorem drop {l : List α} {m : List β} (h : All2 R l m) : ∀ n, All2 R (l.drop n) (m.drop n) := by
  induction h with
  | nil => intro n; simp; exact .nil
  | cons r h' ih =>
    intro n
    cases n with
    | zero => simp only [List.drop_zero]; exact .cons r h'
    | succ n => simp only [List.drop_succ_cons]; exact ih n
theorem set {l : List α} {m : List β} (h : All2 R l m) : ∀ (n : Nat) {a : α} {b : β}, R a b → All2 R (l.set n a) (m.set n b) := by
  induction h with
  | nil => intro n a b _; simp; exact .nil
  | cons r h' ih =>
    intro n a b q
    cases n with
    | zero => simp only [List.set_cons_zero]; exact .cons q h'
    | succ n => simp only [List.set_cons_succ]; exact .cons r (ih n q)
theorem snoc_inv {l : List α} {a : α} {m : List β} (h : All2 R (l ++ [a]) m) : ∃ m' b, m = m' ++ [b] ∧ All2 R l m' ∧ R a b := by
  induction l generalizing m with
  | nil => cases h with | cons r h => cases h; exact ⟨[], _, rfl, .nil, r⟩
  | cons x l ih =>
    cases h with
    | cons r h =>
      obtain ⟨m', b, rfl, h1, h2⟩ := ih h
      exact ⟨_ :: m', b, rfl, .cons r h1, h2⟩
end All2

structure Glb where
  prog : Program
  w : World
  h₀ : Heap
  K : Frag
  nm : Nat → Str
  N : Nat
  cls : Nat → Addr
  fnA : Nat → Addr
  atN : Nat → Bool
  fnN : Nat → Str
  clN : Nat → Str
  mg : Str → Option Value
  mb : Str → Option Value

mutual
inductive RV (h : Heap) (adr : List Addr) : V → Value → Prop
  | none : RV h adr .none .none
  | bool (b : Bool) : RV h adr (.bool b) (.bool b)
  | int (i : Int) (t : Tok) : RV h adr (.int i) (.int i t)
  | str (s : Str) (t : Tok) : RV h adr (.str s) (.str s t)
  | tup {a : Addr} {l : List V} {vs : List Value} : IsTup h a vs.toArray → a ∉ adr → RVs h adr l vs → RV h adr (.tup l) (.ref a)
  | lst {a : Addr} {l : List V} {vs : List Value} : h.IsList a vs.toArray → a ∉ adr → RVs h adr l vs → RV h adr (.lst l) (.ref a)
  | rng {a b : Int} {r : Addr} {t u v : Tok} : IsRange h r a b 1 t u v → r ∉ adr → RV h adr (.rng a b) (.ref r)
  | ref {i : Nat} {a : Addr} : adr[i]? = some a → RV h adr (.ref i) (.ref a)
inductive RVs (h : Heap) (adr : List Addr) : List V → List Value → Prop
  | nil : RVs h adr [] []
  | cons {x : V} {v : Value} {l : List V} {vs : List Value} : RV h adr x v → RVs h adr l vs → RVs h adr (x :: l) (v :: vs)
end

theorem rvs_iff {h : Heap} {adr : List Addr} {l : List V} {vs : List Value} : RVs h adr l vs ↔ All2 (RV h adr) l vs := by
  constructor
  · intro x
    induction l generalizing vs with
    | nil => cases x; exact .nil
    | cons a l ih => cases x with | cons r x => exact .cons r (ih x)
  · intro x
    induction x with
    | nil => exact .nil
    | cons r _ ih => exact .cons r ih

/-- what stays between two states: the heap grows, all but the own objects stand as they stood -/
structure Ext (adr adr' : List Addr) (h h' : Heap) : Prop where
  pre : ∃ e, adr' = adr ++ e ∧ ∀ a ∈ e, h.get? a = none
  keep : ∀ a o, h.get? a = some o → a ∉ adr → h'.get? a = some o
  ex : ∀ a o, h.get? a = some o → ∃ o', h'.get? a = some o'

theorem Ext.refl (adr : List Addr) (h : Heap) : Ext adr adr h h := ⟨⟨[], by simp, fun _ h => nomatch h⟩, fun _ _ e _ => e, fun _ o e => ⟨o, e⟩⟩
theorem Ext.notIn {adr adr' : List Addr} {h h' : Heap} (x : Ext adr adr' h h') {a : Addr} {o : Obj} (e : h.get? a = some o) (hn : a ∉ adr) : a ∉ adr' := by
  obtain ⟨⟨e', rfl, hf⟩, _, _⟩ := x
  intro hm
  rcases List.mem_append.mp hm with hm | hm
  · exact hn hm
  · rw [hf a hm] at e; cases e
theorem Ext.trans {adr adr' adr'' : List Addr} {h h' h'' : Heap} (x : Ext adr adr' h h') (y : Ext adr' adr'' h' h'') : Ext adr adr'' h h'' := by
  have x' := x
  obtain ⟨⟨e1, rfl, f1⟩, k1, z1⟩ := x
  obtain ⟨⟨e2, rfl, f2⟩, k2, z2⟩ := y
  refine ⟨⟨e1 ++ e2, by simp, fun a ha => ?_⟩, fun a o e hn => k2 a o (k1 a o e hn) (x'.notIn e hn), fun a o e => ?_⟩
  · rcases List.mem_append.mp ha with ha | ha
    · exact f1 a ha
    · cases q : h.get? a with
      | none => rfl
      | some o => obtain ⟨o', e'⟩ := z1 a o q; rw [f2 a ha] at e'; cases e'
  · obtain ⟨o', e'⟩ := z1 a o e
    exact z2 a o' e'
theorem Ext.idx {adr adr' : List Addr} {h h' : Heap} (x : Ext adr adr' h h') {i : Nat} {a : Addr} (e : adr[i]? = some a) : adr'[i]? = some a := by
  obtain ⟨⟨e', rfl, _⟩, _, _⟩ := x
  rw [List.getElem?_append_left]; exact e
  exact (List.getElem?_eq_some_iff.mp e).1

theorem isTup_keep {h h' : Heap} {a : Addr} {items : Array Value} (x : IsTup h a items) (k : ∀ o, h.get? a = some o → h'.get? a = some o) : IsTup h' a items :=
  let ⟨o, ho, r⟩ := x; ⟨o, k o ho, r⟩
theorem isList_keep {h h' : Heap} {a : Addr} {items : Array Value} (x : h.IsList a items) (k : ∀ o, h.get? a = some o → h'.get? a = some o) : h'.IsList a items :=
  let ⟨o, ho, r⟩ := x; ⟨o, k o ho, r⟩

mutual
theorem RV.mono {adr adr' : List Addr} {h h' : Heap} (x : Ext adr adr' h h') : ∀ {V : V} {v : Value}, RV h adr V v → RV h' adr' V v
  | _, _, .none => .none
  | _, _, .bool b => .bool b
  | _, _, .int i t => .int i t
  | _, _, .str s t => .str s t
  | _, _, .tup ht hn hr => by
    obtain ⟨o, ho, r⟩ := ht
    exact .tup ⟨o, x.keep _ _ ho hn, r⟩ (x.notIn ho hn) (RVs.mono x hr)
  | _, _, .lst ht hn hr => by
    obtain ⟨o, ho, r⟩ := ht
    exact .lst ⟨o, x.keep _ _ ho hn, r⟩ (x.notIn ho hn) (RVs.mono x hr)
  | _, _, .rng hr hn => .rng (x.keep _ _ hr hn) (x.notIn hr hn)
  | _, _, .ref e => .ref (x.idx e)
theorem RVs.mono {adr adr' : List Addr} {h h' : Heap} (x : Ext adr adr' h h') : ∀ {l : List V} {vs : List Value}, RVs h adr l vs → RVs h' adr' l vs
  | _, _, .nil => .nil
  | _, _, .cons r rs => .cons (RV.mono x r) (RVs.mono x rs)
end

/-- keys as they are, values item by item -/
def PairsR {K : Type} (h : Heap) (adr : List Addr) (l : List (K × V)) (kvs : List (K × Value)) : Prop := All2 (fun p q => p.1 = q.1 ∧ RV h adr p.2 q.2) l kvs
def AttrsR (G : Glb) (h : Heap) (adr : List Addr) (l : List (Nat × V)) (es : List DictEntry) : Prop :=
  All2 (fun p e => p.1 < G.N ∧ (∃ t, e.key = .str (G.nm p.1) t) ∧ RV h adr p.2 e.val) l es

def RO (G : Glb) (h : Heap) (adr : List Addr) : MO → Addr → Prop
  | .list l, a => ∃ (vs : List Value) (n : Nat), h.get? a = some { cls := .type "list", data := .seq vs.toArray n } ∧ RVs h adr l vs
  | .dictI l, a => ∃ kvs : List (Int × Value), h.DictOf (intKind G.prog G.w) a kvs ∧ PairsR h adr l kvs
  | .dictS l, a => ∃ kvs : List (Str × Value), h.DictOf (strKind G.prog G.w) a kvs ∧ PairsR h adr l kvs
  | .inst c d, a => ∃ dx, adr[d]? = some dx ∧ h.get? a = some (instObj (G.cls c) dx)
  | .attrs l, a => ∃ es n, h.get? a = some (dictOf es n) ∧ AttrsR G h adr l es

theorem RO.mono {G : Glb} {adr adr' : List Addr} {h h' : Heap} (x : Ext adr adr' h h') {o : MO} {a : Addr} (r : RO G h adr o a) (k : ∀ o, h.get? a = some o → h'.get? a = some o) : RO G h' adr' o a := by
  cases o with
  | list l => obtain ⟨vs, n, h1, h2⟩ := r; exact ⟨vs, n, k _ h1, RVs.mono x h2⟩
  | dictI l =>
    obtain ⟨kvs, ⟨o, es, ep, ho, h1⟩, h2⟩ := r
    exact ⟨kvs, ⟨o, es, ep, k o ho, h1⟩, h2.mono fun _ _ q => ⟨q.1, q.2.mono x⟩⟩
  | dictS l =>
    obtain ⟨kvs, ⟨o, es, ep, ho, h1⟩, h2⟩ := r
    exact ⟨kvs, ⟨o, es, ep, k o ho, h1⟩, h2.mono fun _ _ q => ⟨q.1, q.2.mono x⟩⟩
  | inst c d => obtain ⟨dx, h1, h2⟩ := r; exact ⟨dx, x.idx h1, k _ h2⟩
  | attrs l => obtain ⟨es, n, h1, h2⟩ := r; exact ⟨es, n, k _ h1, h2.mono fun _ _ q => ⟨q.1, q.2.1, q.2.2.mono x⟩⟩

theorem RO.some {G : Glb} {adr : List Addr} {h : Heap} {o : MO} {a : Addr} (r : RO G h adr o a) : ∃ ob, h.get? a = Option.some ob := by
  cases o with
  | list l => obtain ⟨vs, n, ho, _⟩ := r; exact ⟨_, ho⟩
  | dictI l => obtain ⟨kvs, ⟨o, es, ep, ho, _⟩, _⟩ := r; exact ⟨o, ho⟩
  | dictS l => obtain ⟨kvs, ⟨o, es, ep, ho, _⟩, _⟩ := r; exact ⟨o, ho⟩
  | inst c d => obtain ⟨dx, _, h2⟩ := r; exact ⟨_, h2⟩
  | attrs l => obtain ⟨es, n, h1, _⟩ := r; exact ⟨_, h1⟩

structure Ok (G : Glb) (adr : List Addr) (σ : Hp) (h : Heap) : Prop where
  len : adr.length = σ.length
  nodup : adr.Nodup
  base : ∀ a ∈ adr, G.h₀.get? a = none
  keep : ∀ b o, G.h₀.get? b = some o → h.get? b = some o
  objs : ∀ (i : Nat) (o : MO), σ[i]? = some o → ∃ a, adr[i]? = some a ∧ RO G h adr o a

theorem Ok.mem {G : Glb} {adr : List Addr} {σ : Hp} {h : Heap} (x : Ok G adr σ h) {a : Addr} (ha : a ∈ adr) : ∃ o, h.get? a = some o := by
  obtain ⟨i, hi, e⟩ := List.mem_iff_getElem.mp ha
  obtain ⟨a', e', r⟩ := x.objs i (σ[i]'(x.len ▸ hi)) (by simp)
  rw [List.getElem?_eq_getElem hi, e] at e'
  cases e'
  exact r.some
theorem Ok.ne {G : Glb} {adr : List Addr} {σ : Hp} {h : Heap} (x : Ok G adr σ h) {i j : Nat} {a b : Addr} (hi : adr[i]? = some a) (hj : adr[j]? = some b) (hij : i ≠ j) : a ≠ b := by
  rintro rfl
  obtain ⟨h1, e1⟩ := List.getElem?_eq_some_iff.mp hi
  obtain ⟨h2, e2⟩ := List.getElem?_eq_some_iff.mp hj
  exact hij ((List.getElem_inj x.nodup).mp (e1.trans e2.symm))

/-- nothing own is touched -/
theorem Ok.mono {G : Glb} {adr : List Addr} {σ : Hp} {h h' : Heap} (x : Ok G adr σ h) (k : ∀ a o, h.get? a = some o → h'.get? a = some o) : Ok G adr σ h' ∧ Ext adr adr h h' := by
  have e : Ext adr adr h h' := ⟨⟨[], by simp, fun _ h => nomatch h⟩, fun a o q _ => k a o q, fun a o q => ⟨o, k a o q⟩⟩
  refine ⟨⟨x.len, x.nodup, x.base, fun b o q => k b o (x.keep b o q), fun i o q => ?_⟩, e⟩
  obtain ⟨a, ha, r⟩ := x.objs i o q
  exact ⟨a, ha, r.mono e (k a)⟩
theorem mem_of_get {l : List Addr} {i : Nat} {a : Addr} (e : l[i]? = some a) : a ∈ l := List.mem_of_getElem? e
/-- one own object is turned -/
theorem Ok.set {G : Glb} {adr : List Addr} {σ : Hp} {h h' : Heap} (x : Ok G adr σ h) {i : Nat} {a : Addr} {o : MO} (hi : adr[i]? = some a) (k : ∀ b o, b ≠ a → h.get? b = some o → h'.get? b = some o)
    (ha : ∃ o', h'.get? a = some o') (r : Ext adr adr h h' → RO G h' adr o a) : Ok G adr (σ.set i o) h' ∧ Ext adr adr h h' := by
  have hm := mem_of_get hi
  have e : Ext adr adr h h' := by
    refine ⟨⟨[], by simp, fun _ h => nomatch h⟩, fun b o q hn => k b o (fun z => hn (z ▸ hm)) q, fun b o q => ?_⟩
    by_cases hb : b = a
    · subst hb; exact ha
    · exact ⟨o, k b o hb q⟩
  refine ⟨⟨by rw [List.length_set]; exact x.len, x.nodup, x.base, fun b o q => k b o (fun z => ?_) (x.keep b o q), fun j p q => ?_⟩, e⟩
  · rw [z, x.base a hm] at q; cases q
  · by_cases hj : i = j
    · subst hj
      have hlt : i < σ.length := x.len ▸ (List.getElem?_eq_some_iff.mp hi).1
      rw [List.getElem?_set_self hlt] at q
      cases q
      exact ⟨a, hi, r e⟩
    · rw [List.getElem?_set_ne hj] at q
      obtain ⟨b, hb, rb⟩ := x.objs j p q
      exact ⟨b, hb, rb.mono e fun o z => k b o (fun z' => x.ne hi hb hj z'.symm) z⟩
/-- a new own object -/
theorem Ok.new {G : Glb} {adr : List Addr} {σ : Hp} {h h' : Heap} (x : Ok G adr σ h) {a : Addr} {o : MO} (hf : h.get? a = none) (k : ∀ b o, h.get? b = some o → h'.get? b = some o)
    (r : Ext adr (adr ++ [a]) h h' → RO G h' (adr ++ [a]) o a) : Ok G (adr ++ [a]) (σ ++ [o]) h' ∧ Ext adr (adr ++ [a]) h h' := by
  have e : Ext adr (adr ++ [a]) h h' := ⟨⟨[a], rfl, fun b hb => by rw [List.mem_singleton.mp hb]; exact hf⟩, fun a o q _ => k a o q, fun a o q => ⟨o, k a o q⟩⟩
  have hn : a ∉ adr := fun hm => by obtain ⟨o, ho⟩ := x.mem hm; rw [hf] at ho; cases ho
  refine ⟨⟨by simp [x.len], ?_, fun b hb => ?_, fun b o q => k b o (x.keep b o q), fun i p q => ?_⟩, e⟩
  · rw [List.nodup_append]
    refine ⟨x.nodup, by simp, fun b hb c hc => ?_⟩
    rw [List.mem_singleton.mp hc]
    rintro rfl
    exact hn hb
  · rcases List.mem_append.mp hb with hb | hb
    · exact x.base b hb
    · rw [List.mem_singleton.mp hb]
      cases q : G.h₀.get? a with
      | none => rfl
      | some o => rw [x.keep a o q] at hf; cases hf
  · by_cases hi : i < σ.length
    · rw [List.getElem?_append_left hi] at q
      obtain ⟨b, hb, rb⟩ := x.objs i p q
      exact ⟨b, e.idx hb, rb.mono e (k b)⟩
    · have hi' : i = σ.length := by
        have := (List.getElem?_eq_some_iff.mp q).1
        simp only [List.length_append, List.length_singleton] at this
        omega
      subst hi'
      simp at q
      subst q
      refine ⟨a, ?_, r e⟩
      rw [← x.len]; simp
end Mine

end

section
namespace Mine
open PySem PySem.W PyProof.Rows PySem.Calls
set_option Elab.async false
set_option autoImplicit false

def Post (G : Glb) (adr : List Addr) (σ' : Hp) (s : Shared) (adr' : List Addr) (s' : Shared) : Prop :=
  (∃ h tk, s' = { s with heap := h, toks := tk }) ∧ Ext adr adr' s.heap s'.heap ∧ Ok G adr' σ' s'.heap
/-- what is wanted behind: for every way in which the value may be borne -/
def Kv (G : Glb) (adr : List Addr) (s : Shared) (X : V) (σ' : Hp) (Q : Value → Shared → Prop) : Prop :=
  ∀ adr' v s', Post G adr σ' s adr' s' → RV s'.heap adr' X v → Q v s'
def Room (A : Around) (n : Nat) : Prop := A.handled = none ∧ A.depth + 5 * n ≤ 900 ∧ A.units + 60 * n ≤ 9000

theorem Room.units {A : Around} {n : Nat} (h : Room A n) : A.units + 200 < cLine := by have := h.2.2; show _ < 9900; omega
theorem Room.in1 {A : Around} {n : Nat} (h : Room A n) (k : Nat) (hk : A.units + k ≤ 9000 - 60 * n ∨ True) : A.in1.handled = none := h.1

section
variable {G : Glb} {adr adr' adr'' : List Addr} {σ σ' σ'' : Hp} {s s' s'' : Shared}
theorem Post.refl (ok : Ok G adr σ s.heap) : Post G adr σ s adr s := ⟨⟨s.heap, s.toks, rfl⟩, Ext.refl _ _, ok⟩
theorem Post.toks (ok : Ok G adr σ s.heap) (t : Nat) : Post G adr σ s adr { s with toks := t } := ⟨⟨s.heap, t, rfl⟩, Ext.refl _ _, ok⟩
theorem Post.ok (p : Post G adr σ' s adr' s') : Ok G adr' σ' s'.heap := p.2.2
theorem Post.ext (p : Post G adr σ' s adr' s') : Ext adr adr' s.heap s'.heap := p.2.1
theorem Post.trans (p : Post G adr σ' s adr' s') (q : Post G adr' σ'' s' adr'' s'') : Post G adr σ'' s adr'' s'' := by
  obtain ⟨⟨h, tk, rfl⟩, e, o⟩ := p
  obtain ⟨⟨h', tk', rfl⟩, e', o'⟩ := q
  exact ⟨⟨h', tk', rfl⟩, e.trans e', o'⟩
/-- all that stood stands -/
theorem Post.grow (ok : Ok G adr σ s.heap) {h : Heap} (t : Nat) (k : ∀ a o, s.heap.get? a = some o → h.get? a = some o) : Post G adr σ s adr { s with heap := h, toks := t } :=
  ⟨⟨h, t, rfl⟩, (ok.mono k).2, (ok.mono k).1⟩
theorem Ok.fresh (ok : Ok G adr σ s.heap) {a : Addr} (h : s.heap.get? a = none) : a ∉ adr := fun hm => by obtain ⟨o, ho⟩ := ok.mem hm; rw [h] at ho; cases ho
theorem size_none (h : Heap) : h.get? h.objs.size = none := by
  cases q : h.get? h.objs.size with
  | none => rfl
  | some o => exact absurd (Heap.lt_size q) (Nat.lt_irrefl _)
theorem none_of_ge {h : Heap} {a : Addr} (hl : h.objs.size ≤ a) : h.get? a = none := by
  cases q : h.get? a with
  | none => rfl
  | some o => exact absurd (Heap.lt_size q) (Nat.not_lt.mpr hl)
theorem Post.push (ok : Ok G adr σ s.heap) (o : Obj) (t : Nat) : Post G adr σ s adr { s with heap := s.heap.push o, toks := t } := Post.grow ok t fun _ _ e => Heap.get?_push_of_some _ e
end

section
variable {G : Glb} {adr : List Addr} {σ σ' : Hp} {A : Around} {E : Value → Shared → Prop} {s : Shared} {Q : Value → Shared → Prop} {X : V}

/-- a new tuple -/
theorem new_tup {vs : List Value} {l : List V} (ok : Ok G adr σ s.heap) (rs : RVs s.heap adr l vs) (hz : vs.length ≤ sizeLine) (k : Kv G adr s (.tup l) σ Q) : wpAny (model G.prog G.w) A (newTuple vs) Q E s := by
  refine wpAny_newObj_type ?_ (by show vs.toArray.size ≤ sizeLine; rw [List.size_toArray]; exact hz)
  have p := Post.push ok { cls := .type "tuple", data := .seq vs.toArray } s.toks
  exact k adr _ _ p (.tup (IsTup.new _ _) (ok.fresh (size_none _)) (RVs.mono p.ext rs))
theorem new_lst {vs : List Value} {l : List V} (ok : Ok G adr σ s.heap) (rs : RVs s.heap adr l vs) (hz : vs.length ≤ sizeLine) (k : Kv G adr s (.lst l) σ Q) : wpAny (model G.prog G.w) A (newList vs) Q E s := by
  refine wpAny_newObj_type ?_ (by show vs.toArray.size ≤ sizeLine; rw [List.size_toArray]; exact hz)
  have p := Post.push ok { cls := .type "list", data := .seq vs.toArray } s.toks
  exact k adr _ _ p (.lst ⟨_, Heap.get?_push_size _ rfl, rfl, 0, rfl⟩ (ok.fresh (size_none _)) (RVs.mono p.ext rs))
/-- a new list that may turn -/
theorem new_mlist (ok : Ok G adr σ s.heap) (k : Kv G adr s (.ref σ.length) (σ ++ [.list []]) Q) : wpAny (model G.prog G.w) A (newList []) Q E s := by
  refine wpAny_newObj_type ?_ (by show (0 : Nat) ≤ _; exact Nat.zero_le _)
  have q := ok.new (a := s.heap.objs.size) (o := .list []) (h' := s.heap.push { cls := .type "list", data := .seq ([] : List Value).toArray }) (size_none _) (fun _ _ e => Heap.get?_push_of_some _ e)
    (fun _ => ⟨[], 0, Heap.get?_push_size _ rfl, .nil⟩)
  refine k (adr ++ [s.heap.objs.size]) _ _ ⟨⟨_, s.toks, rfl⟩, q.2, q.1⟩ (.ref ?_)
  rw [← ok.len]; simp
theorem new_mdict (ok : Ok G adr σ s.heap) (k : Kv G adr s (.ref σ.length) (σ ++ [.dictI []]) Q) : wpAny (model G.prog G.w) A newDict Q E s := by
  unfold newDict
  refine wpAny_newObj_type ?_ (by show (0 : Nat) ≤ _; exact Nat.zero_le _)
  have q := ok.new (a := s.heap.objs.size) (o := .dictI []) (h' := s.heap.push { cls := .type "dict", data := .dict #[] }) (size_none _) (fun _ _ e => Heap.get?_push_of_some _ e)
    (fun _ => ⟨[], Heap.DictOf.new _, .nil⟩)
  refine k (adr ++ [s.heap.objs.size]) _ _ ⟨⟨_, s.toks, rfl⟩, q.2, q.1⟩ (.ref ?_)
  rw [← ok.len]; simp

/-- an int made anew, nothing else -/
theorem k_int (ok : Ok G adr σ s.heap) {i : Int} (k : Kv G adr s (.int i) σ Q) : Q (.int i s.toks) { s with toks := s.toks + 1 } := k adr _ _ (Post.toks ok _) (.int _ _)
theorem k_int' (ok : Ok G adr σ s.heap) {i : Int} (k : Kv G adr s (.int i) σ Q) (t u : Nat) : Q (.int i t) { s with toks := u } := k adr _ _ (Post.toks ok _) (.int _ _)
theorem k_bool (ok : Ok G adr σ s.heap) {b : Bool} (k : Kv G adr s (.bool b) σ Q) : Q (.bool b) s := k adr _ _ (Post.refl ok) (.bool _)
theorem k_none (ok : Ok G adr σ s.heap) (k : Kv G adr s .none σ Q) : Q .none s := k adr _ _ (Post.refl ok) .none
end
end Mine

end

section
namespace Mine
open PySem PySem.W PyProof.Rows PySem.Calls
set_option Elab.async false
set_option autoImplicit false

theorem RVs.length {h : Heap} {adr : List Addr} {l : List V} {vs : List Value} (x : RVs h adr l vs) : l.length = vs.length := (rvs_iff.mp x).length

/-- a list that stands, frozen or not -/
theorem view_lst {G : Glb} {adr : List Addr} {σ : Hp} {h : Heap} {a : V} {va : Value} {l : List V} (ok : Ok G adr σ h) (r : RV h adr a va) (e : view σ a = .lst l) :
    ∃ x vs, va = .ref x ∧ h.IsList x vs.toArray ∧ RVs h adr l vs := by
  cases r with
  | lst hl _ rs => simp only [view] at e; cases e; exact ⟨_, _, rfl, hl, rs⟩
  | @ref i x hi =>
    simp only [view] at e
    split at e
    · rename_i l' q
      cases e
      obtain ⟨a', ha', vs, n, ho, rs⟩ := ok.objs _ _ q
      rw [hi] at ha'; cases ha'
      exact ⟨_, vs, rfl, ⟨_, ho, rfl, n, rfl⟩, rs⟩
    · cases e
  | _ => simp only [view] at e; cases e
theorem view_tup {σ : Hp} {a : V} {l : List V} (e : view σ a = .tup l) : a = .tup l := by
  cases a with
  | ref i =>
    simp only [view] at e
    split at e <;> cases e
  | _ => simp only [view] at e; exact e
theorem view_rng {σ : Hp} {a : V} {x y : Int} (e : view σ a = .rng x y) : a = .rng x y := by
  cases a with
  | ref i =>
    simp only [view] at e
    split at e <;> cases e
  | _ => simp only [view] at e; exact e
theorem view_ref {σ : Hp} {a : V} {j : Nat} (e : view σ a = .ref j) : a = .ref j := by
  cases a with
  | ref i =>
    simp only [view] at e
    split at e
    · cases e
    · exact e
  | _ => simp only [view] at e; exact e

theorem intsOf_are {h : Heap} {adr : List Addr} : ∀ {l : List V} {vs : List Value} {ns : List Int}, RVs h adr l vs → intsOf l = some ns → IntsAre vs ns
  | [], _, _, .nil, e => by cases e; exact .nil
  | .int i :: l, _, _, .cons r rs, e => by
    simp only [intsOf, Option.map_eq_some_iff] at e
    obtain ⟨ns, e, rfl⟩ := e
    cases r
    exact .cons _ _ (intsOf_are rs e)
  | .none :: _, _, _, .cons _ _, e => by cases e
  | .bool _ :: _, _, _, .cons _ _, e => by cases e
  | .str _ :: _, _, _, .cons _ _, e => by cases e
  | .tup _ :: _, _, _, .cons _ _, e => by cases e
  | .lst _ :: _, _, _, .cons _ _, e => by cases e
  | .rng _ _ :: _, _, _, .cons _ _, e => by cases e
  | .ref _ :: _, _, _, .cons _ _, e => by cases e
theorem intsOf_len : ∀ {l : List V} {ns : List Int}, intsOf l = some ns → ns.length = l.length
  | [], _, e => by cases e; rfl
  | .int i :: l, _, e => by
    simp only [intsOf, Option.map_eq_some_iff] at e
    obtain ⟨ns, e, rfl⟩ := e
    simp [intsOf_len e]
  | .none :: _, _, e => by cases e
  | .bool _ :: _, _, e => by cases e
  | .str _ :: _, _, e => by cases e
  | .tup _ :: _, _, e => by cases e
  | .lst _ :: _, _, e => by cases e
  | .rng _ _ :: _, _, e => by cases e
  | .ref _ :: _, _, e => by cases e

theorem foldl_max (l : List Int) : ∀ i : Int, i ≤ l.foldl max i ∧ (∀ a ∈ l, a ≤ l.foldl max i) ∧ (l.foldl max i = i ∨ l.foldl max i ∈ l) := by
  induction l with
  | nil => intro i; simp
  | cons x l ih =>
    intro i
    obtain ⟨h1, h2, h3⟩ := ih (max i x)
    simp only [List.foldl_cons]
    refine ⟨by omega, fun a ha => ?_, ?_⟩
    · rcases List.mem_cons.mp ha with rfl | ha
      · omega
      · exact h2 a ha
    · rcases h3 with h3 | h3
      · rw [h3]
        rcases Int.le_total i x with h | h
        · right; rw [Int.max_eq_right h]; simp
        · left; exact Int.max_eq_left h
      · right; exact List.mem_cons_of_mem _ h3
theorem foldl_min (l : List Int) : ∀ i : Int, l.foldl min i ≤ i ∧ (∀ a ∈ l, l.foldl min i ≤ a) ∧ (l.foldl min i = i ∨ l.foldl min i ∈ l) := by
  induction l with
  | nil => intro i; simp
  | cons x l ih =>
    intro i
    obtain ⟨h1, h2, h3⟩ := ih (min i x)
    simp only [List.foldl_cons]
    refine ⟨by omega, fun a ha => ?_, ?_⟩
    · rcases List.mem_cons.mp ha with rfl | ha
      · omega
      · exact h2 a ha
    · rcases h3 with h3 | h3
      · rw [h3]
        rcases Int.le_total i x with h | h
        · left; exact Int.min_eq_left h
        · right; rw [Int.min_eq_right h]; simp
      · right; exact List.mem_cons_of_mem _ h3
theorem max_unique {i : Int} {l : List Int} {m : Int} (hm : m ∈ i :: l) (h : ∀ a ∈ i :: l, a ≤ m) : m = l.foldl max i := by
  obtain ⟨h1, h2, h3⟩ := foldl_max l i
  have a1 : l.foldl max i ≤ m := by
    rcases h3 with h3 | h3
    · rw [h3]; exact h i (List.mem_cons_self ..)
    · exact h _ (List.mem_cons_of_mem _ h3)
  have a2 : m ≤ l.foldl max i := by
    rcases List.mem_cons.mp hm with rfl | hm
    · exact h1
    · exact h2 m hm
  omega
theorem min_unique {i : Int} {l : List Int} {m : Int} (hm : m ∈ i :: l) (h : ∀ a ∈ i :: l, m ≤ a) : m = l.foldl min i := by
  obtain ⟨h1, h2, h3⟩ := foldl_min l i
  have a1 : m ≤ l.foldl min i := by
    rcases h3 with h3 | h3
    · rw [h3]; exact h i (List.mem_cons_self ..)
    · exact h _ (List.mem_cons_of_mem _ h3)
  have a2 : l.foldl min i ≤ m := by
    rcases List.mem_cons.mp hm with rfl | hm
    · exact h1
    · exact h2 m hm
  omega

section
variable {G : Glb} {adr : List Addr} {σ σ' : Hp} {A : Around} {E : Value → Shared → Prop} {s : Shared} {Q : Value → Shared → Prop} {X : V} {n : Nat}

theorem lim_size {k : Nat} (h : k ≤ lim) : k ≤ sizeLine := by rw [sizeLine_eq]; unfold lim at h; omega

theorem ok_max {l : List V} {i : Int} {r : List Int} {va : Value} (ok : Ok G adr σ s.heap) (hA : Room A n) (rl : RV s.heap adr (.lst l) va) (e : intsOf l = some (i :: r)) (k : Kv G adr s (.int (r.foldl max i)) σ Q) :
    wpAny (model G.prog G.w) A (call (.builtin "max") [va]) Q E s := by
  cases rl with
  | @lst x _ vs hl _ rs =>
    have hi := intsOf_are rs e
    obtain ⟨xs, ex⟩ := hi.allInts.items
    have hns : (i :: r) = xs.toList.map (·.1) := by rw [← hi.numsOf, ← nums_intItems, ← ex]
    have hsz : 0 < xs.size := by
      have h3 : (i :: r).length = xs.size := by rw [hns, List.length_map, Array.length_toList]
      rw [← h3]; exact Nat.succ_pos _
    rw [ex] at hl
    refine max_intList hA.1 hl hsz fun v h' tk hv hk => ?_
    obtain ⟨t, rfl⟩ := intItems_at hv
    obtain ⟨h1, h2⟩ := argBest_gt (numAt xs) (xs.size - 1)
    have p := Post.grow ok tk hk
    refine k adr _ _ p ?_
    have hin : ∀ j, j < xs.size → numAt xs j ∈ (i :: r) := fun j hj => by
      rw [hns]
      refine List.mem_map.mpr ⟨xs[j], ?_, ?_⟩
      · exact Array.mem_toList_iff.mpr (Array.getElem_mem hj)
      · simp [numAt, hj]
    have hm : numAt xs (argBest (fun i j => decide (numAt xs i > numAt xs j)) (xs.size - 1)) = r.foldl max i := by
      refine max_unique (hin _ (by omega)) fun a ha => ?_
      rw [hns] at ha
      obtain ⟨p, hp, rfl⟩ := List.mem_map.mp ha
      obtain ⟨j, hj, rfl⟩ := Array.mem_iff_getElem.mp (Array.mem_toList_iff.mp hp)
      have := h2 j (by omega)
      simpa [numAt, hj] using this
    rw [hm]
    exact .int _ _
theorem ok_min {l : List V} {i : Int} {r : List Int} {va : Value} (ok : Ok G adr σ s.heap) (hA : Room A n) (rl : RV s.heap adr (.lst l) va) (e : intsOf l = some (i :: r)) (k : Kv G adr s (.int (r.foldl min i)) σ Q) :
    wpAny (model G.prog G.w) A (call (.builtin "min") [va]) Q E s := by
  cases rl with
  | @lst x _ vs hl _ rs =>
    have hi := intsOf_are rs e
    obtain ⟨xs, ex⟩ := hi.allInts.items
    have hns : (i :: r) = xs.toList.map (·.1) := by rw [← hi.numsOf, ← nums_intItems, ← ex]
    have hsz : 0 < xs.size := by
      have h3 : (i :: r).length = xs.size := by rw [hns, List.length_map, Array.length_toList]
      rw [← h3]; exact Nat.succ_pos _
    rw [ex] at hl
    refine min_intList hA.1 hl hsz fun v h' tk hv hk => ?_
    obtain ⟨t, rfl⟩ := intItems_at hv
    obtain ⟨h1, h2⟩ := argBest_lt (numAt xs) (xs.size - 1)
    have p := Post.grow ok tk hk
    refine k adr _ _ p ?_
    have hin : ∀ j, j < xs.size → numAt xs j ∈ (i :: r) := fun j hj => by
      rw [hns]
      refine List.mem_map.mpr ⟨xs[j], ?_, ?_⟩
      · exact Array.mem_toList_iff.mpr (Array.getElem_mem hj)
      · simp [numAt, hj]
    have hm : numAt xs (argBest (fun i j => decide (numAt xs i < numAt xs j)) (xs.size - 1)) = r.foldl min i := by
      refine min_unique (hin _ (by omega)) fun a ha => ?_
      rw [hns] at ha
      obtain ⟨p, hp, rfl⟩ := List.mem_map.mp ha
      obtain ⟨j, hj, rfl⟩ := Array.mem_iff_getElem.mp (Array.mem_toList_iff.mp hp)
      have := h2 j (by omega)
      simpa [numAt, hj] using this
    rw [hm]
    exact .int _ _
theorem ok_sum {l : List V} {r : List Int} {va : Value} (ok : Ok G adr σ s.heap) (hA : Room A n) (rl : RV s.heap adr (.lst l) va) (e : intsOf l = some r) (k : Kv G adr s (.int r.sum) σ Q) :
    wpAny (model G.prog G.w) A (call (.builtin "sum") [va]) Q E s := by
  cases rl with
  | @lst x _ vs hl _ rs =>
    have hi := intsOf_are rs e
    obtain ⟨xs, hx⟩ := hi.allInts.items
    have hl' := hx ▸ hl
    refine sum_intListG hA.1 hl' fun h' tk t' hk => ?_
    have e1 : r = xs.toList.map (·.1) := by
      rw [← nums_intItems, ← hx]
      exact (show numsOf vs.toArray.toList = r from hi.numsOf).symm
    have e2 : preSum (numAt xs) xs.size = r.sum := by
      rw [preSum_eq, List.take_of_length_le (by simp), e1]
    rw [e2]
    exact k adr _ _ (Post.grow ok tk hk) (.int _ _)
end
end Mine

end

section
namespace Mine
open PySem PySem.W PyProof.Rows PySem.Calls
set_option Elab.async false
set_option autoImplicit false
set_option maxRecDepth 100000

section
variable {prog : Program} {w : World} {A : Around} {E : Value → Shared → Prop} {s : Shared}
theorem collect_range {Q : List Value → Shared → Prop} {r : Addr} {a b : Int} {t u v : Tok} {n : Nat} (hh : A.handled = none) (hr : IsRange s.heap r a b 1 t u v) (hsmall : Builtin.Range.small a b 1 = true)
    (hn : Builtin.Range.rangeSize a b 1 = n) (hlen : n ≤ 2 ^ 24)
    (hQ : ∀ h' tk (acc : Array Value), (∀ b o, s.heap.get? b = some o → h'.get? b = some o) → ItemsOf (fun i v => ∃ t, v = .int (a + i * 1) t) acc n → Q acc.toList { s with heap := h', toks := tk }) :
    wpAny (model prog w) A (collect (.ref r)) Q E s := by
  unfold collect
  refine wpAny_bind (wpAny_runValue (codeAny_builtin F.entry_proto_collect ?_))
  rw [Around.under_plainId F.plain_proto_collect _]
  show wpAny _ A.in1 (newList [] >>= fun l => again (.builtin "list.__iadd__" ⟨[l, .ref r], []⟩)) _ _ s
  refine wpAny_bind (wpAny_newObj_type ?_)
  refine wpAny_pure ⟨plainId_quiet F.plain_list_iadd _, codeAny_builtin F.entry_list_iadd ?_⟩
  rw [Around.under_plainId F.plain_list_iadd _]
  show wpAny _ A.in1 (Builtin.List.listExtendWith (.ref s.heap.objs.size) (.ref r) (.ref s.heap.objs.size)) _ _ _
  have fin' : ∀ (h' : Heap) (tk : Nat) (acc : Array Value) (c' : Nat), (∀ b o, b ≠ s.heap.objs.size → (s.heap.push { cls := .type "list", data := .seq ([] : List Value).toArray }).get? b = some o → h'.get? b = some o) →
      h'.get? s.heap.objs.size = some { cls := .type "list", dict := none, data := .seq acc c', slots := #[] } → ItemsOf (fun i v => ∃ t, v = .int (a + i * 1) t) acc n → wpAny (model prog w) A (match Value.ref s.heap.objs.size with
      | Value.ref a => do
        match (← load a).data with
          | Data.seq xs _ => pure xs.toList
          | _ => unsupported "internal:collect"
      | _ => unsupported "internal:collect") Q E { s with heap := h', toks := tk } := by
    intro h' tk acc c' hk hS hacc
    show wpAny _ A (load s.heap.objs.size >>= _) _ _ _
    exact wpAny_bind (wpAny_load hS (wpAny_pure (hQ h' tk acc (fun b o e => hk b o (Nat.ne_of_lt (Heap.lt_size e)) (Heap.get?_push_of_some _ e)) hacc)))
  refine wpAny_mono (wpAny_extend_range (A := A) (R := fun r s' => ∃ (h' : Heap) (tk : Nat) (acc : Array Value) (c' : Nat), r = .ok (.ret (.ref s.heap.objs.size)) ∧ s' = { s with heap := h', toks := tk } ∧ (∀ b o, b ≠ s.heap.objs.size → (s.heap.push { cls := .type "list", data := .seq ([] : List Value).toArray }).get? b = some o → h'.get? b = some o) ∧
      h'.get? s.heap.objs.size = some { cls := .type "list", dict := none, data := .seq acc c', slots := #[] } ∧ ItemsOf (fun i v => ∃ t, v = .int (a + i * 1) t) acc n)
    hh (s := { s with heap := s.heap.push { cls := .type "list", data := .seq ([] : List Value).toArray } }) (Heap.get?_push_of_some _ hr) hsmall hn hlen s.heap.objs.size (.ref s.heap.objs.size) 0 (Heap.get?_push_size _ rfl)
    fun h' tk acc c' hk hS hacc => ⟨h', tk, acc, c', rfl, rfl, hk, hS, hacc⟩) (fun fin s' h => ?_) (fun e s' h => ?_)
  · cases fin with
    | done f =>
      obtain ⟨h', tk, acc, c', e, rfl, hk, hS, hacc⟩ := h
      cases e
      exact fin' h' tk acc c' hk hS hacc
    | again c' => exact ⟨h.1, codeAny_mono h.2 fun r s'' hr => by obtain ⟨h', tk, acc, c', rfl, rfl, hk, hS, hacc⟩ := hr; exact fin' h' tk acc c' hk hS hacc⟩
  · obtain ⟨_, _, _, _, e', _⟩ := h
    exact absurd e' (by simp)

theorem code_tuple_range {Q₁ : Value → Shared → Prop} {r : Addr} {a b : Int} {t u v : Tok} {n : Nat} (hh : A.handled = none) (hr : IsRange s.heap r a b 1 t u v) (hsmall : Builtin.Range.small a b 1 = true)
    (hn : Builtin.Range.rangeSize a b 1 = n) (hlen : n ≤ 2 ^ 24)
    (h : ∀ (h' : Heap) (tk : Nat) (acc : Array Value), (∀ b o, s.heap.get? b = some o → h'.get? b = some o) → ItemsOf (fun i v => ∃ t, v = .int (a + i * 1) t) acc n → Q₁ (.ref h'.objs.size) { s with heap := h'.push { cls := .type "tuple", data := .seq acc }, toks := tk }) :
    codeAny (model prog w) A (.call (.builtin "tuple.__new__") ⟨[.type "tuple", .ref r], []⟩) (wants Q₁ E) s := by
  refine codeAny_of_tree ?_
  show wpAny _ A.in1 (do checkBuiltinCall "tuple.__new__" ⟨[.type "tuple", .ref r], []⟩; again (.builtin "tuple.__new__" ⟨[.type "tuple", .ref r], []⟩)) _ _ s
  refine wpAny_bind (wpAny_of_eq (F.newCall_tuple_1 _) (wpAny_pure ⟨plainId_quiet F.plain_tuple_new _, codeAny_builtin F.entry_tuple_new ?_⟩))
  rw [Around.under_plainId F.plain_tuple_new _]
  have hsub := sub_tuple_self
  have hinit := init_tuple_lookup
  have hmh := madeHere_tuple
  have hT : s.TypeIs (.ref r) "range" := ⟨_, hr, rfl⟩
  obtain ⟨hp, g, d, tk, os⟩ := s
  wp_walk using wpAny_typeOf hT, collect_range (A := A.in1) hh hr hsmall hn hlen
  intro h' tk acc hk hacc
  show wpAny _ _ (Builtin.Tuple.tupleExact acc.toList.toArray >>= fun v => ret v) _ _ _
  unfold Builtin.Tuple.tupleExact
  refine wpAny_bind (wpAny_newObj_type ?_ (by show acc.toList.toArray.size ≤ sizeLine; simp only [Array.toArray_toList]; rw [hacc.1, sizeLine_eq]; omega))
  refine wpAny_pure ?_
  have e : acc.toList.toArray = acc := by simp
  rw [e]
  exact h h' tk acc hk hacc

theorem tuple_range {Q : Value → Shared → Prop} {r : Addr} {a b : Int} {t u v : Tok} {n : Nat} (hh : A.handled = none) (hr : IsRange s.heap r a b 1 t u v) (hsmall : Builtin.Range.small a b 1 = true)
    (hn : Builtin.Range.rangeSize a b 1 = n) (hlen : n ≤ 2 ^ 24)
    (h : ∀ (h' : Heap) (tk : Nat) (acc : Array Value), (∀ b o, s.heap.get? b = some o → h'.get? b = some o) → ItemsOf (fun i v => ∃ t, v = .int (a + i * 1) t) acc n → Q (.ref h'.objs.size) { s with heap := h'.push { cls := .type "tuple", data := .seq acc }, toks := tk }) :
    wpAny (model prog w) A (call (.type "tuple") [.ref r]) Q E s := by
  refine callType_codes (Q₁ := fun obj s₁ => s₁.TypeIs obj "tuple" ∧ Q obj s₁) F.called_tuple (F.typeCall_tuple_1 _) F.entry_object_init
    (code_tuple_range (A := A.in1) hh hr hsmall hn hlen fun h' tk acc hk hacc => ⟨⟨_, Heap.get?_push_size _ rfl, rfl⟩, h h' tk acc hk hacc⟩) fun obj s₁ h₁ => ?_
  exact ⟨h₁.1, F.args_object_init_2 obj _, object_init_meets F.called_tuple.init.lookup F.called_tuple.made (by decide) prog w A.in1 _ s₁ ⟨h₁.1, rfl, h₁.2⟩⟩
end
end Mine

end

section
namespace Mine
open PySem PySem.W PyProof.Rows PySem.Calls
set_option Elab.async false
set_option autoImplicit false

def t1 : O1 → Value → Sem Value
  | .neg, v => unaryOp .USub v
  | .not, v => unaryOp .Not v
  | .len, v => call (.builtin "len") [v]
  | .tuple, v => call (.type "tuple") [v]
  | .maxL, v => call (.builtin "max") [v]
  | .minL, v => call (.builtin "min") [v]
  | .dictC, v => call (.type "dict") [v]
  | .abs, v => call (.builtin "abs") [v]
  | .sum, v => call (.builtin "sum") [v]
  | .rng1, v => call (.type "range") [v]
  | .popL, v => call (.builtin "list.pop") [v]

section
variable {G : Glb} {adr : List Addr} {σ σ' : Hp} {A : Around} {E : Value → Shared → Prop} {s : Shared} {Q : Value → Shared → Prop} {X : V} {n : Nat} {a : V} {va : Value}

theorem rngItems {x y : Int} {l : List V} (e : itemsI (.rng x y) = some l) : l = intL x y ∧ Builtin.Range.small x y 1 = true ∧ Builtin.Range.rangeSize x y 1 = ((y - x).toNat : Int) ∧ (y - x).toNat ≤ lim := by
  simp only [itemsI] at e
  split at e
  · rename_i h
    cases e
    refine ⟨rfl, ?_, ?_, ?_⟩
    · obtain ⟨h1, h2, h3⟩ := h
      have f : ∀ z : Int, z.natAbs ≤ lim + lim → Builtin.Range.rangeFitsLong z = true := fun z hz => by
        unfold Builtin.Range.rangeFitsLong
        unfold lim at hz
        simp only [Bool.and_eq_true, decide_eq_true_eq]
        omega
      have hs : (Builtin.Range.rangeSize x y 1).natAbs ≤ lim + lim := by rw [rangeSize_one]; split <;> omega
      unfold Builtin.Range.small
      rw [f x (by omega), f y (by omega), f 1 (by unfold lim; omega), f _ hs]
      simp only [Bool.and_true, Bool.true_and, show (1 : Int) > 0 by decide, if_true]
      rw [f (y + (1 - 1)) (by omega), Bool.or_true]
    · rw [rangeSize_one]; split <;> omega
    · omega
  · cases e
theorem rv_intL {h : Heap} {adr : List Addr} {x y : Int} {acc : Array Value} (hacc : ItemsOf (fun i v => ∃ t, v = .int (x + i * 1) t) acc (y - x).toNat) : RVs h adr (intL x y) acc.toList := by
  rw [rvs_iff]
  obtain ⟨hz, hi⟩ := hacc
  have key : ∀ (k : Nat) (l : List Value) (m : Nat), l.length = k → (∀ (j : Nat) (v : Value), l[j]? = some v → ∃ t, v = Value.int (x + ((m + j : Nat) : Int)) t) → All2 (RV h adr) ((List.range' m k).map fun (j : Nat) => V.int (x + (j : Int))) l := by
    intro k
    induction k with
    | zero => intro l m hl _; rw [List.length_eq_zero_iff] at hl; subst hl; exact .nil
    | succ k ih =>
      intro l m hl hi
      cases l with
      | nil => cases hl
      | cons v l =>
        rw [List.range'_succ, List.map_cons]
        obtain ⟨t, e⟩ := hi 0 v rfl
        refine .cons (by rw [e]; exact .int _ _) (ih l (m + 1) (by simpa using hl) fun j v hj => ?_)
        obtain ⟨t, e⟩ := hi (j + 1) v (by simpa using hj)
        exact ⟨t, by rw [e]; congr 2; omega⟩
  unfold intL
  rw [List.range_eq_range']
  refine key _ _ 0 (by simpa using hz) fun j v hj => ?_
  obtain ⟨t, e⟩ := hi j v (by simpa using hj)
  exact ⟨t, by rw [e]; congr 1⟩

theorem o1_len {l : List V} (ok : Ok G adr σ s.heap) (ra : RV s.heap adr a va) (e : view σ a = .tup l ∨ view σ a = .lst l) (hz : l.length ≤ lim) (k : Kv G adr s (.int l.length) σ Q) :
    wpAny (model G.prog G.w) A (call (.builtin "len") [va]) Q E s := by
  have hlim : ∀ m, m ≤ lim → (m : Int) < 2 ^ 63 := fun m h => by unfold lim at h; omega
  rcases e with e | e
  · have := view_tup e
    subst this
    cases ra with
    | @tup x _ vs ht _ rs =>
      refine len_tuple ht (by rw [List.size_toArray, ← rs.length]; exact hlim _ hz) ?_
      rw [List.size_toArray, ← rs.length]
      exact k_int' ok k _ _
  · obtain ⟨x, vs, rfl, hl, rs⟩ := view_lst ok ra e
    refine len_list hl (by rw [List.size_toArray, ← rs.length]; exact hlim _ hz) ?_
    rw [List.size_toArray, ← rs.length]
    exact k_int' ok k _ _
theorem o1_tuple_tup {l : List V} (ok : Ok G adr σ s.heap) (ra : RV s.heap adr (.tup l) va) (k : Kv G adr s (.tup l) σ Q) : wpAny (model G.prog G.w) A (call (.type "tuple") [va]) Q E s := by
  cases ra with
  | @tup x _ vs ht hn rs => exact call_tuple_tup ht (k adr _ _ (Post.refl ok) (.tup ht hn rs))
theorem o1_tuple_lst {l : List V} (ok : Ok G adr σ s.heap) (ra : RV s.heap adr a va) (e : view σ a = .lst l) (hz : l.length ≤ lim) (k : Kv G adr s (.tup l) σ Q) : wpAny (model G.prog G.w) A (call (.type "tuple") [va]) Q E s := by
  obtain ⟨x, vs, rfl, hl, rs⟩ := view_lst ok ra e
  refine call_tuple_list hl (fun h' hk => ?_) (by rw [List.size_toArray, ← rs.length]; exact lim_size hz)
  have p : Post G adr σ s adr { s with heap := h'.push { cls := .type "tuple", data := .seq vs.toArray } } := Post.grow ok s.toks fun _ _ e => Heap.get?_push_of_some _ (hk _ _ e)
  refine k adr _ _ p (.tup (IsTup.new _ _) ?_ (RVs.mono p.ext rs))
  intro hm
  obtain ⟨o, ho⟩ := ok.mem hm
  have := hk _ _ ho
  rw [size_none] at this; cases this
theorem o1_tuple_rng {x y : Int} {l : List V} (ok : Ok G adr σ s.heap) (hA : Room A n) (ra : RV s.heap adr (.rng x y) va) (e : itemsI (.rng x y) = some l) (k : Kv G adr s (.tup l) σ Q) : wpAny (model G.prog G.w) A (call (.type "tuple") [va]) Q E s := by
  obtain ⟨rfl, h1, h2, h3⟩ := rngItems e
  cases ra with
  | rng hr hn =>
    refine tuple_range hA.1 hr h1 h2 (by unfold lim at h3; omega) fun h' tk acc hk hacc => ?_
    have p : Post G adr σ s adr { s with heap := h'.push { cls := .type "tuple", data := .seq acc }, toks := tk } := Post.grow ok tk fun _ _ e => Heap.get?_push_of_some _ (hk _ _ e)
    refine k adr _ _ p (.tup (vs := acc.toList) ?_ ?_ (rv_intL hacc))
    · have := IsTup.new h' acc
      simpa using this
    · intro hm
      obtain ⟨o, ho⟩ := ok.mem hm
      have := hk _ _ ho
      rw [size_none] at this; cases this
theorem o1_pop {i : Nat} {l : List V} {x : V} (ok : Ok G adr σ s.heap) (ra : RV s.heap adr (.ref i) va) (e : σ[i]? = some (.list l)) (hx : l.getLast? = some x) (hz : l.length ≤ lim)
    (k : Kv G adr s x (σ.set i (.list l.dropLast)) Q) : wpAny (model G.prog G.w) A (call (.builtin "list.pop") [va]) Q E s := by
  cases ra with
  | @ref _ b hb =>
    obtain ⟨b', hb', vs, m, ho, rs⟩ := ok.objs _ _ e
    rw [hb] at hb'; cases hb'
    have hl : l = l.dropLast ++ [x] := by
      rw [List.getLast?_eq_some_iff] at hx
      obtain ⟨l', rfl⟩ := hx
      simp
    have ra := rvs_iff.mp rs
    rw [hl] at ra
    obtain ⟨vs', v, rfl, r1, r2⟩ := ra.snoc_inv
    refine Copied.pop_at ho (y := v) (by simp) (fun h' hs ho' => ?_) (by rw [List.size_toArray, ← rs.length]; exact lim_size hz)
    have q := ok.set (i := i) (o := .list l.dropLast) (h' := h') hb (fun c o hc e => (hs.2 c hc).trans e) ⟨_, ho'⟩ (fun x => ⟨vs', m + 1, by simpa using ho', RVs.mono x (rvs_iff.mpr r1)⟩)
    exact k adr _ _ ⟨⟨h', s.toks, rfl⟩, q.2, q.1⟩ (r2.mono q.2)
theorem o1_dict {i : Nat} {l : List (Int × V)} (ok : Ok G adr σ s.heap) (hm : ∀ a ∈ adr, a ≠ sysModules) (ra : RV s.heap adr (.ref i) va) (e : σ[i]? = some (.dictI l)) (hz : l.length ≤ lim)
    (k : Kv G adr s (.ref σ.length) (σ ++ [.dictI l]) Q) : wpAny (model G.prog G.w) A (call (.type "dict") [va]) Q E s := by
  cases ra with
  | @ref _ b hb =>
    obtain ⟨b', hb', kvs, hd, rs⟩ := ok.objs _ _ e
    rw [hb] at hb'; cases hb'
    refine kt_call_dict (by have := hm b (mem_of_get hb); simpa using this) hd (by rw [← rs.length]; exact lim_size hz) fun h' hd' hs => ?_
    have hk : ∀ c o, s.heap.get? c = some o → h'.get? c = some o := fun c o e => hs.extBut c o (Nat.ne_of_lt (Heap.lt_size e)) (Heap.get?_push_of_some _ e)
    have q := ok.new (a := s.heap.objs.size) (o := .dictI l) (h' := h') (size_none _) hk (fun x => ⟨kvs, hd', rs.mono fun _ _ q => ⟨q.1, q.2.mono x⟩⟩)
    refine k (adr ++ [s.heap.objs.size]) _ _ ⟨⟨h', s.toks, rfl⟩, q.2, q.1⟩ (.ref ?_)
    rw [← ok.len]; simp

theorem view_cases (σ : Hp) (a : V) : (∃ i, a = .ref i) ∨ view σ a = a := by
  cases a <;> first | exact .inl ⟨_, rfl⟩ | exact .inr rfl

structure GOk (G : Glb) : Prop where
  sys : ∃ o, G.h₀.get? sysModules = some o
theorem GOk.ne (g : GOk G) {h : Heap} (ok : Ok G adr σ h) : ∀ a ∈ adr, a ≠ sysModules := fun a ha e => by
  obtain ⟨o, ho⟩ := g.sys
  have := ok.base a ha
  rw [e, ho] at this; cases this

theorem o1Ok {o : O1} (g : GOk G) (e : o1 o a σ = some (X, σ')) (ra : RV s.heap adr a va) (ok : Ok G adr σ s.heap) (hA : Room A n) (k : Kv G adr s X σ' Q) :
    wpAny (model G.prog G.w) A (t1 o va) Q E s := by
  cases o with
  | neg =>
    cases ra <;> simp only [o1] at e <;> cases e
    exact PyProof.Rows.neg_int (k_int ok k)
  | not =>
    cases ra <;> simp only [o1] at e <;> cases e
    exact not_value (wpAny_truthy_bool (k_bool ok k))
  | len =>
    have e' := e
    simp only [o1] at e'
    split at e'
    · rename_i l h
      split at e'
      · cases e'; exact o1_len ok ra (.inl h) (by assumption) k
      · cases e'
    · rename_i l h
      split at e'
      · cases e'; exact o1_len ok ra (.inr h) (by assumption) k
      · cases e'
    · cases e'
  | tuple =>
    simp only [o1] at e
    split at e
    · rename_i l h
      cases e
      have := view_tup h
      subst this
      exact o1_tuple_tup ok ra k
    · rename_i l h
      split at e
      · cases e; exact o1_tuple_lst ok ra h (by assumption) k
      · cases e
    · rename_i x y h
      have := view_rng h
      subst this
      simp only [Option.map_eq_some_iff] at e
      obtain ⟨l, hl, e⟩ := e
      cases e
      exact o1_tuple_rng ok hA ra hl k
    · cases e
  | maxL =>
    cases a <;> simp only [o1] at e <;> try cases e
    split at e
    · split at e
      · cases e; exact ok_max ok hA ra (by assumption) k
      · cases e
    · cases e
  | minL =>
    cases a <;> simp only [o1] at e <;> try cases e
    split at e
    · split at e
      · cases e; exact ok_min ok hA ra (by assumption) k
      · cases e
    · cases e
  | dictC =>
    cases a <;> simp only [o1] at e <;> try cases e
    split at e
    · split at e
      · cases e; exact o1_dict ok (g.ne ok) ra (by assumption) (by assumption) k
      · cases e
    · cases e
  | abs =>
    cases ra <;> simp only [o1] at e <;> cases e
    rename_i i t
    refine call_abs_int fun u tk => ?_
    have : (if i < 0 then -i else i) = (i.natAbs : Int) := by split <;> omega
    rw [this]
    exact k_int' ok k _ _
  | sum =>
    cases a <;> simp only [o1] at e <;> try cases e
    split at e
    · split at e
      · cases e; exact ok_sum ok hA ra (by assumption) k
      · cases e
    · cases e
  | rng1 =>
    cases ra <;> simp only [o1] at e <;> try cases e
    split at e
    · cases e
      rename_i i t _
      refine call_range_1 ?_
      have p := Post.push ok { cls := .type "range", data := .fields #[.int 0 s.toks, .int i t, .int 1 (s.toks + 1)] } (s.toks + 1 + 1)
      exact k adr _ _ p (.rng (IsRange.new _ _ _ _ _ _ _) (ok.fresh (size_none _)))
    · cases e
  | popL =>
    cases a <;> simp only [o1] at e <;> try cases e
    split at e
    · split at e
      · split at e
        · cases e; exact o1_pop ok ra (by assumption) (by assumption) (by assumption) k
        · cases e
      · cases e
    · cases e
end
end Mine

end

section
namespace Mine
open PySem PySem.W PyProof.Rows PySem.Calls
set_option Elab.async false
set_option autoImplicit false

mutual
def toP : V → PyData
  | .none => .none
  | .bool b => .bool b
  | .int i => .int i
  | .str s => .str s
  | .tup l => .tuple (toPs l)
  | .lst l => .list (toPs l)
  | .rng _ _ => .none
  | .ref _ => .none
def toPs : List V → List PyData
  | [] => []
  | x :: r => toP x :: toPs r
end

theorem okD_tup {n : Nat} {l : List V} (h : okD (n + 1) (.tup l) = true) : ∀ x ∈ l, okD n x = true := List.all_eq_true.mp h
theorem okD_lst {n : Nat} {l : List V} (h : okD (n + 1) (.lst l) = true) : ∀ x ∈ l, okD n x = true := List.all_eq_true.mp h

mutual
theorem reads_of {h : Heap} {adr : List Addr} : ∀ {X : V} {v : Value} {n : Nat}, RV h adr X v → okD n X = true → ∃ as, Reads h v (toP X) as
  | _, _, _, .none, _ => ⟨[], .none⟩
  | _, _, _, .bool _, _ => ⟨[], .bool _⟩
  | _, _, _, .int _ _, _ => ⟨[], .int _ _⟩
  | _, _, _, .str _ _, _ => ⟨[], .str _ _⟩
  | _, _, 0, .tup _ _ _, e => nomatch e
  | _, _, n + 1, .tup ht _ rs, e => by
    obtain ⟨o, ho, hc, m, hd⟩ := ht
    obtain ⟨as, q⟩ := readsAll_of rs (okD_tup e)
    exact ⟨as, .tuple ho hc hd q⟩
  | _, _, 0, .lst _ _ _, e => nomatch e
  | _, _, n + 1, .lst ht _ rs, e => by
    obtain ⟨o, ho, hc, m, hd⟩ := ht
    obtain ⟨as, q⟩ := readsAll_of rs (okD_lst e)
    exact ⟨_ :: as, .list ho hc hd q⟩
  | _, _, 0, .rng _ _, e => nomatch e
  | _, _, _ + 1, .rng _ _, e => nomatch e
  | _, _, 0, .ref _, e => nomatch e
  | _, _, _ + 1, .ref _, e => nomatch e
theorem readsAll_of {h : Heap} {adr : List Addr} : ∀ {l : List V} {vs : List Value} {n : Nat}, RVs h adr l vs → (∀ x ∈ l, okD n x = true) → ∃ as, ReadsAll h vs (toPs l) as
  | _, _, _, .nil, _ => ⟨[], .nil⟩
  | _, _, _, .cons r rs, e => by
    obtain ⟨a, q⟩ := reads_of r (e _ (List.mem_cons_self ..))
    obtain ⟨b, p⟩ := readsAll_of rs fun x hx => e x (List.mem_cons_of_mem _ hx)
    exact ⟨a ++ b, .cons q p⟩
end

theorem lay_of : ∀ (n : Nat) (X : V), okD n X = true → (toP X).canLay0 = true ∧ (toP X).depth ≤ n := by
  intro n
  induction n with
  | zero =>
    intro X e
    cases X <;> first | (exfalso; simp [okD] at e; done) | exact ⟨rfl, Nat.le_refl _⟩ | exact ⟨e, Nat.le_refl _⟩
  | succ n ih =>
    have all : ∀ l : List V, (∀ x ∈ l, okD n x = true) → PyData.canLayAll0 (toPs l) = true ∧ PyData.depthAll (toPs l) ≤ n := by
      intro l
      induction l with
      | nil => intro _; exact ⟨by simp [toPs, PyData.canLayAll0], by simp [toPs, PyData.depthAll]⟩
      | cons x l ihl =>
        intro h
        obtain ⟨a, b⟩ := ih x (h x (List.mem_cons_self ..))
        obtain ⟨c, d⟩ := ihl fun y hy => h y (List.mem_cons_of_mem _ hy)
        refine ⟨by simp [toPs, PyData.canLayAll0, a, c], ?_⟩
        simp only [toPs, PyData.depthAll]
        omega
    intro X e
    cases X with
    | tup l =>
      obtain ⟨a, b⟩ := all l (okD_tup e)
      exact ⟨by simpa [toP, PyData.canLay0] using a, by simp only [toP, PyData.depth]; omega⟩
    | lst l =>
      obtain ⟨a, b⟩ := all l (okD_lst e)
      exact ⟨by simpa [toP, PyData.canLay0] using a, by simp only [toP, PyData.depth]; omega⟩
    | none => exact ⟨rfl, Nat.zero_le _⟩
    | bool b => exact nomatch e
    | int i => exact ⟨rfl, Nat.zero_le _⟩
    | str s => exact ⟨e, Nat.zero_le _⟩
    | rng a b => exact nomatch e
    | ref i => exact nomatch e
theorem layAll_of {n : Nat} {l : List V} (h : ∀ x ∈ l, okD n x = true) : PyData.canLayAll0 (toPs l) = true ∧ PyData.depthAll (toPs l) ≤ n := by
  have := lay_of (n + 1) (.lst l) (List.all_eq_true.mpr h)
  refine ⟨by simpa [toP, PyData.canLay0] using this.1, ?_⟩
  have h2 := this.2
  simp only [toP, PyData.depth] at h2
  omega

theorem eqv_of : ∀ (n : Nat) (X Y : V) (m : Nat), okD n X = true → okD m Y = true → (PyData.eqv (toP X) (toP Y) = true ↔ X = Y) := by
  intro n
  induction n with
  | zero =>
    intro X Y m e f
    cases X <;> first
      | (exfalso; simp [okD] at e; done)
      | (cases m <;> cases Y <;> first | (exfalso; simp [okD] at f; done) | (simp [toP, PyData.eqv]))
  | succ n ih =>
    have all : ∀ (l l' : List V) (m : Nat), (∀ x ∈ l, okD n x = true) → (∀ x ∈ l', okD m x = true) → (PyData.eqvAll (toPs l) (toPs l') = true ↔ l = l') := by
      intro l
      induction l with
      | nil => intro l' m _ _; cases l' <;> simp [toPs, PyData.eqvAll]
      | cons x l ihl =>
        intro l' m h h'
        cases l' with
        | nil => simp [toPs, PyData.eqvAll]
        | cons y l' =>
          simp only [toPs, PyData.eqvAll, Bool.and_eq_true]
          rw [ih x y m (h x (List.mem_cons_self ..)) (h' y (List.mem_cons_self ..)), ihl l' m (fun z hz => h z (List.mem_cons_of_mem _ hz)) (fun z hz => h' z (List.mem_cons_of_mem _ hz))]
          constructor
          · rintro ⟨rfl, rfl⟩; rfl
          · intro e; cases e; exact ⟨rfl, rfl⟩
    intro X Y m e f
    cases X with
    | tup l =>
      cases m <;> cases Y <;> first | (exfalso; simp [okD] at f; done) | (simp [toP, PyData.eqv]; done) | (simp only [toP, PyData.eqv]; rw [all _ _ _ (okD_tup e) (okD_tup f)]; simp)
    | lst l =>
      cases m <;> cases Y <;> first | (exfalso; simp [okD] at f; done) | (simp [toP, PyData.eqv]; done) | (simp only [toP, PyData.eqv]; rw [all _ _ _ (okD_lst e) (okD_lst f)]; simp)
    | none => cases m <;> cases Y <;> first | (exfalso; simp [okD] at f; done) | (simp [toP, PyData.eqv])
    | bool b => exact nomatch e
    | int i => cases m <;> cases Y <;> first | (exfalso; simp [okD] at f; done) | (simp [toP, PyData.eqv])
    | str s => cases m <;> cases Y <;> first | (exfalso; simp [okD] at f; done) | (simp [toP, PyData.eqv])
    | rng a b => exact nomatch e
    | ref i => exact nomatch e
theorem eqv_dec {n m : Nat} {X Y : V} (e : okD n X = true) (f : okD m Y = true) : PyData.eqv (toP X) (toP Y) = @decide (X = Y) (Classical.propDecidable _) := by
  have := eqv_of n X Y m e f
  by_cases h : X = Y
  · rw [this.mpr h]; simp [h]
  · have h' : PyData.eqv (toP X) (toP Y) ≠ true := fun z => h (this.mp z)
    rw [Bool.eq_false_iff.mpr h']; simp [h]

section
variable {G : Glb} {adr : List Addr} {σ σ' : Hp} {A : Around} {E : Value → Shared → Prop} {s : Shared} {Q : Value → Shared → Prop} {X : V} {n : Nat} {a b : V} {va vb : Value}

theorem view_ref_cases (σ : Hp) (i : Nat) : view σ (.ref i) = .ref i ∨ ∃ l, σ[i]? = some (.list l) ∧ view σ (.ref i) = .lst l := by
  simp only [view]
  split
  · exact .inr ⟨_, by assumption, rfl⟩
  · exact .inl rfl
theorem okD_ref {k i : Nat} : okD k (.ref i) = false := by cases k <;> rfl
theorem view_reads {k : Nat} (ok : Ok G adr σ s.heap) (ra : RV s.heap adr a va) (e : okD k (view σ a) = true) : ∃ as, Reads s.heap va (toP (view σ a)) as := by
  rcases view_cases σ a with ⟨i, rfl⟩ | h
  · rcases view_ref_cases σ i with h | ⟨l, _, h⟩
    · rw [h, okD_ref] at e; cases e
    · obtain ⟨x, vs, rfl, ⟨o, ho, hc, m, hd⟩, rs⟩ := view_lst ok ra h
      rw [h] at e ⊢
      cases k with
      | zero => exact nomatch e
      | succ k =>
        obtain ⟨as, q⟩ := readsAll_of rs (okD_lst e)
        exact ⟨x :: as, .list ho hc hd q⟩
  · rw [h] at e ⊢
    exact reads_of ra e

theorem cmp_data (ok : Ok G adr σ s.heap) (hA : Room A n) (ra : RV s.heap adr a va) (rb : RV s.heap adr b vb) (ea : okD 20 (view σ a) = true) (eb : okD 20 (view σ b) = true) :
    (∀ {Q : Value → Shared → Prop}, Kv G adr s (.bool (@decide (view σ a = view σ b) (Classical.propDecidable _))) σ Q → wpAny (model G.prog G.w) A (compareOp .Eq va vb) Q E s) ∧
    (∀ {Q : Value → Shared → Prop}, Kv G adr s (.bool (!@decide (view σ a = view σ b) (Classical.propDecidable _))) σ Q → wpAny (model G.prog G.w) A (compareOp .NotEq va vb) Q E s) := by
  obtain ⟨as, qa⟩ := view_reads ok ra ea
  obtain ⟨bs, qb⟩ := view_reads ok rb eb
  have la := lay_of _ _ ea
  have lb := lay_of _ _ eb
  have hu : A.units + min (toP (view σ a)).depth (toP (view σ b)).depth < cLine := by have := hA.units; omega
  have he := eqv_dec ea eb
  refine ⟨fun k => SeqAt.compareEq_reads qa qb la.1 lb.1 hu ?_, fun k => SeqAt.compareNe_reads qa qb la.1 lb.1 hu ?_⟩
  · rw [he]; exact k_bool ok k
  · rw [he]; exact k_bool ok k

theorem pairs_get {K : Type} [DecidableEq K] {h : Heap} (k : K) {l : List (K × V)} {kvs : List (K × Value)} (p : PairsR h adr l kvs) :
    (getK k l = none ∧ valueAt kvs k = none) ∨ ∃ x v, getK k l = some x ∧ valueAt kvs k = some v ∧ RV h adr x v := by
  induction p with
  | nil => exact .inl ⟨rfl, rfl⟩
  | @cons p q l kvs h1 _ ih =>
    unfold getK valueAt at ih ⊢
    by_cases hk : p.1 = k
    · have hk' : q.1 = k := h1.1 ▸ hk
      simp only [List.find?_cons, hk, hk', decide_true, Option.map_some]
      exact .inr ⟨_, _, rfl, rfl, h1.2⟩
    · have hk' : ¬ q.1 = k := h1.1 ▸ hk
      simp only [List.find?_cons, hk, hk', decide_false]
      exact ih

theorem getK_mem {K : Type} [DecidableEq K] {k : K} {l : List (K × V)} {x : V} (e : getK k l = some x) : ∃ p ∈ l, p.2 = x := by
  unfold getK at e
  simp only [Option.map_eq_some_iff] at e
  obtain ⟨p, hp, rfl⟩ := e
  exact ⟨p, List.mem_of_find?_eq_some hp, rfl⟩

theorem hits_of {l' : List (Int × V)} {kvs' : List (Int × Value)} (p' : PairsR s.heap adr l' kvs') (hA : A.units + 100 < cLine) (o' : ∀ p ∈ l', okD 20 p.2 = true) :
    ∀ {l : List (Int × V)} {kvs : List (Int × Value)}, PairsR s.heap adr l kvs → (∀ p ∈ l, okD 20 p.2 = true) →
      KeqHits A s kvs' kvs (l.all fun p => (getK p.1 l').any fun v => @decide (p.2 = v) (Classical.propDecidable _)) := by
  intro l kvs p
  induction p with
  | nil => intro _; exact .nil
  | @cons p q l kvs h1 _ ih =>
    intro ho
    have ih' := ih fun z hz => ho z (List.mem_cons_of_mem _ hz)
    have op := ho p (List.mem_cons_self ..)
    obtain ⟨qk, qv⟩ := q
    obtain ⟨pk, pv⟩ := p
    obtain ⟨e1, r1⟩ := h1
    dsimp only at e1 r1 op
    subst e1
    rw [List.all_cons]
    rcases pairs_get pk p' with ⟨g1, g2⟩ | ⟨x, v, g1, g2, r2⟩
    · rw [g1]
      exact .miss g2
    · rw [g1]
      refine .hit (y := v) g2 ?_ ih'
      obtain ⟨z, hz, rfl⟩ := getK_mem g1
      have oz := o' z hz
      obtain ⟨as, ra⟩ := reads_of r1 op
      obtain ⟨bs, rb⟩ := reads_of r2 oz
      have la := lay_of _ _ op
      have lb := lay_of _ _ oz
      have := SeqAt.eqAt_reads _ _ A s qv v as bs ra rb la.1 lb.1 (by omega)
      rw [eqv_dec op oz] at this
      exact this

theorem cmpOk {r : Bool} (g : GOk G) (e : eqD σ a b = some r) (ok : Ok G adr σ s.heap) (hA : Room A n) (ra : RV s.heap adr a va) (rb : RV s.heap adr b vb) :
    (∀ {Q : Value → Shared → Prop}, Kv G adr s (.bool r) σ Q → wpAny (model G.prog G.w) A (compareOp .Eq va vb) Q E s) ∧
    (∀ {Q : Value → Shared → Prop}, Kv G adr s (.bool (!r)) σ Q → wpAny (model G.prog G.w) A (compareOp .NotEq va vb) Q E s) := by
  have plain : ∀ (e : (if okD 20 (view σ a) && okD 20 (view σ b) then some (@decide (view σ a = view σ b) (Classical.propDecidable _)) else none) = some r),
      (∀ {Q : Value → Shared → Prop}, Kv G adr s (.bool r) σ Q → wpAny (model G.prog G.w) A (compareOp .Eq va vb) Q E s) ∧
      (∀ {Q : Value → Shared → Prop}, Kv G adr s (.bool (!r)) σ Q → wpAny (model G.prog G.w) A (compareOp .NotEq va vb) Q E s) := by
    intro e
    split at e
    · rename_i h
      cases e
      have h' := Bool.and_eq_true_iff.mp h
      exact cmp_data ok hA ra rb h'.1 h'.2
    · cases e
  unfold eqD at e
  split at e
  · rename_i i j
    split at e
    · rename_i l l' h1 h2
      split at e
      · rename_i ho
        cases e
        have ho' := Bool.and_eq_true_iff.mp ho
        cases ra with
        | @ref _ x hx =>
          cases rb with
          | @ref _ y hy =>
            obtain ⟨x', hx', kvs, d1, p1⟩ := ok.objs _ _ h1
            rw [hx] at hx'; cases hx'
            obtain ⟨y', hy', kvs', d2, p2⟩ := ok.objs _ _ h2
            rw [hy] at hy'; cases hy'
            have n1 : (x == sysModules) = false := by simpa using g.ne ok x (mem_of_get hx)
            have n2 : (y == sysModules) = false := by simpa using g.ne ok y (mem_of_get hy)
            have hits := hits_of (A := A.in1) p2 (by have := hA.units; simp; omega) (fun p hp => List.all_eq_true.mp ho'.2 p hp) p1 (fun p hp => List.all_eq_true.mp ho'.1 p hp)
            have hl : decide (l.length = l'.length) = (kvs.length == kvs'.length) := by
              rw [← p1.length, ← p2.length]
              by_cases h : l.length = l'.length <;> simp [h]
            have hu : A.units < cLine := by have := hA.units; omega
            refine ⟨fun k => keq_eq n1 n2 d1 d2 hu (fun _ => hits) ?_, fun k => keq_ne n1 n2 d1 d2 hu (fun _ => hits) ?_⟩
            · rw [← hl]; exact k_bool ok k
            · rw [← hl]; exact k_bool ok k
      · cases e
    · rename_i l l' h1 h2
      refine plain ?_
      have v1 : view σ (.ref i) = .lst l := by simp only [view, h1]
      have v2 : view σ (.ref j) = .lst l' := by simp only [view, h2]
      rw [v1, v2]
      split at e
      · rename_i ho
        rw [if_pos ho]
        cases e
        simp
      · cases e
    · cases e
  · exact plain e

theorem any_dec {n m : Nat} {a : V} (ha : okD m a = true) : ∀ {l : List V}, (∀ x ∈ l, okD n x = true) → ((toPs l).any fun y => PyData.eqv y (toP a)) = @decide (a ∈ l) (Classical.propDecidable _)
  | [], _ => by simp [toPs]
  | y :: l, h => by
    have ih := any_dec (n := n) ha (l := l) fun z hz => h z (List.mem_cons_of_mem _ hz)
    simp only [toPs, List.any_cons]
    rw [ih, eqv_dec (h y (List.mem_cons_self ..)) ha]
    by_cases h1 : y = a
    · subst h1; simp
    · have h2 : ¬ a = y := fun e => h1 e.symm
      simp [h1, h2]

theorem inOk {r : Bool} (e : inD σ a b = some r) (ok : Ok G adr σ s.heap) (hA : Room A n) (ra : RV s.heap adr a va) (rb : RV s.heap adr b vb) (k : Kv G adr s (.bool r) σ Q) :
    wpAny (model G.prog G.w) A (compareOp .In va vb) Q E s := by
  unfold inD at e
  split at e
  · rename_i l h
    split at e
    · rename_i ho
      cases e
      have ho' := Bool.and_eq_true_iff.mp ho
      obtain ⟨as, q1⟩ := reads_of ra ho'.1
      obtain ⟨x, vs, rfl, ⟨o, hob, hc, m, hd⟩, rs⟩ := view_lst ok rb h
      have hall : ∀ x ∈ l, okD 20 x = true := List.all_eq_true.mp ho'.2
      obtain ⟨bs, q2⟩ := readsAll_of rs hall
      have la := lay_of _ _ ho'.1
      have lb := layAll_of hall
      refine SeqAt.in_list_reads (.list hob hc hd q2) q1 lb.1 la.1 (by have := hA.units; omega) ?_
      rw [any_dec ho'.1 hall]
      exact k_bool ok k
    · cases e
  · cases e
end
end Mine

end

section
namespace Mine
open PySem PySem.W PyProof.Rows PySem.Calls
set_option Elab.async false
set_option autoImplicit false

def t2 : O2 → Value → Value → Sem Value
  | .add, a, b => binaryOp .Add a b
  | .sub, a, b => binaryOp .Sub a b
  | .mul, a, b => binaryOp .Mult a b
  | .fdiv, a, b => binaryOp .FloorDiv a b
  | .fmod, a, b => binaryOp .Mod a b
  | .pow, a, b => binaryOp .Pow a b
  | .eq, a, b => compareOp .Eq a b
  | .ne, a, b => compareOp .NotEq a b
  | .lt, a, b => compareOp .Lt a b
  | .le, a, b => compareOp .LtE a b
  | .gt, a, b => compareOp .Gt a b
  | .ge, a, b => compareOp .GtE a b
  | .isB, a, b => compareOp .Is a b
  | .isNB, a, b => compareOp .IsNot a b
  | .inn, a, b => compareOp .In a b
  | .idx, a, b => getItem a b
  | .slTo, _, _ => unsupported ""
  | .slFrom, _, _ => unsupported ""
  | .max2, a, b => call (.builtin "max") [a, b]
  | .min2, a, b => call (.builtin "min") [a, b]
  | .rng2, a, b => call (.type "range") [a, b]
  | .app, a, b => call (.builtin "list.append") [a, b]

section
variable {G : Glb} {adr : List Addr} {σ σ' : Hp} {A : Around} {E : Value → Shared → Prop} {s : Shared} {Q : Value → Shared → Prop} {X : V} {n : Nat} {a b : V} {va vb : Value}

theorem RVs.append {h : Heap} {adr : List Addr} {l l' : List V} {vs vs' : List Value} (x : RVs h adr l vs) (y : RVs h adr l' vs') : RVs h adr (l ++ l') (vs ++ vs') :=
  rvs_iff.mpr ((rvs_iff.mp x).append (rvs_iff.mp y))

theorem add_tup {l m : List V} (ok : Ok G adr σ s.heap) (ra : RV s.heap adr (.tup l) va) (rb : RV s.heap adr (.tup m) vb) (hz : l.length + m.length ≤ lim) (k : Kv G adr s (.tup (l ++ m)) σ Q) :
    wpAny (model G.prog G.w) A (binaryOp .Add va vb) Q E s := by
  cases ra with
  | @tup t _ vs ht hn rs =>
    cases rb with
    | @tup u _ ws hu hn' rs' =>
      obtain ⟨⟨cls, dd, data, sl⟩, ho, hc, n, hd⟩ := id ht
      obtain ⟨⟨cls2, dd2, data2, sl2⟩, ho2, hc2, n2, hd2⟩ := id hu
      simp only at hc hd hc2 hd2
      subst hc hd hc2 hd2
      by_cases hv : vs = []
      · have hl : l = [] := by subst hv; cases rs; rfl
        subst hl
        exact concat_meets ⟨_, ho, rfl⟩ ⟨_, ho2, rfl⟩ noFill_tuple_add seq_tuple_add PySem.F.slot_tuple_add PySem.F.entry_tuple_add (PySem.F.args_tuple_add_2 _ _)
          (tuple_addW0 t u vs.toArray ws.toArray n n2 dd dd2 sl sl2 (by simp [hv])) ⟨ho, ho2, k adr _ _ (Post.refl ok) (.tup hu hn' rs')⟩
      · by_cases hw : ws = []
        · have hm : m = [] := by subst hw; cases rs'; rfl
          subst hm
          rw [List.append_nil] at k
          exact concat_meets ⟨_, ho, rfl⟩ ⟨_, ho2, rfl⟩ noFill_tuple_add seq_tuple_add PySem.F.slot_tuple_add PySem.F.entry_tuple_add (PySem.F.args_tuple_add_2 _ _)
            (tuple_addW1 t u vs.toArray ws.toArray n n2 dd dd2 sl sl2 (by simpa using hv) (by simp [hw])) ⟨ho, ho2, k adr _ _ (Post.refl ok) (.tup ht hn rs)⟩
        · refine concat_meets ⟨_, ho, rfl⟩ ⟨_, ho2, rfl⟩ noFill_tuple_add seq_tuple_add PySem.F.slot_tuple_add PySem.F.entry_tuple_add (PySem.F.args_tuple_add_2 _ _)
            (tuple_addW2 t u vs.toArray ws.toArray n n2 dd dd2 sl sl2 (by simpa using hv) (by simpa using hw) (by rw [List.size_toArray, List.size_toArray, ← rs.length, ← rs'.length]; exact lim_size hz)) ⟨ho, ho2, ?_⟩
          have e : vs.toArray ++ ws.toArray = (vs ++ ws).toArray := by simp
          rw [e]
          have p := Post.push ok { cls := .type "tuple", data := .seq (vs ++ ws).toArray } s.toks
          exact k adr _ _ p (.tup (IsTup.new _ _) (ok.fresh (size_none _)) (RVs.mono p.ext (rs.append rs')))
theorem add_lst {l m : List V} (ok : Ok G adr σ s.heap) (ra : RV s.heap adr (.lst l) va) (rb : RV s.heap adr (.lst m) vb) (hz : l.length + m.length ≤ lim) (k : Kv G adr s (.lst (l ++ m)) σ Q) :
    wpAny (model G.prog G.w) A (binaryOp .Add va vb) Q E s := by
  cases ra with
  | @lst t _ vs ht hn rs =>
    cases rb with
    | @lst u _ ws hu hn' rs' =>
      obtain ⟨⟨cls, dd, data, sl⟩, ho, hc, n, hd⟩ := id ht
      obtain ⟨⟨cls2, dd2, data2, sl2⟩, ho2, hc2, n2, hd2⟩ := id hu
      simp only at hc hd hc2 hd2
      subst hc hd hc2 hd2
      refine concat_meets ⟨_, ho, rfl⟩ ⟨_, ho2, rfl⟩ noFill_list_add seq_list_add PySem.F.slot_list_add PySem.F.entry_list_add (PySem.F.args_list_add_2 _ _)
        (list_addW t u vs.toArray ws.toArray n n2 dd dd2 sl sl2 (by rw [List.size_toArray, List.size_toArray, ← rs.length, ← rs'.length]; exact lim_size hz)) ⟨ho, ho2, ?_⟩
      have e : vs.toArray ++ ws.toArray = (vs ++ ws).toArray := by simp
      rw [e]
      have p := Post.push ok { cls := .type "list", data := .seq (vs ++ ws).toArray } s.toks
      exact k adr _ _ p (.lst ⟨_, Heap.get?_push_size _ rfl, rfl, 0, rfl⟩ (ok.fresh (size_none _)) (RVs.mono p.ext (rs.append rs')))

theorem sIdx_eq {i : Int} {n k : Nat} (e : sIdx i n = some k) : seqIndex? i n = some k ∧ k < n ∧ ((0 ≤ i ∧ k = i.toNat) ∨ (i < 0 ∧ -(n : Int) ≤ i ∧ k = (i + n).toNat)) := by
  unfold sIdx at e
  by_cases h : 0 ≤ i
  · rw [if_pos h] at e
    have h0 : ¬ i < 0 := by omega
    split at e
    · rename_i h1
      cases e
      have q : seqIndex? i n = some i.toNat := by
        unfold seqIndex?
        simp only [h0, if_false]
        rw [if_pos (by simp only [Bool.and_eq_true, decide_eq_true_eq]; omega)]
      exact ⟨q, by omega, Or.inl ⟨h, rfl⟩⟩
    · cases e
  · rw [if_neg h] at e
    have h0 : i < 0 := by omega
    split at e
    · rename_i h1
      cases e
      have q : seqIndex? i n = some (i + n).toNat := by
        unfold seqIndex?
        simp only [h0, if_true]
        rw [if_pos (by simp only [Bool.and_eq_true, decide_eq_true_eq]; omega)]
      exact ⟨q, by omega, Or.inr ⟨h0, by omega, rfl⟩⟩
    · cases e

theorem rng_post {i j : Int} {t u v : Tok} (ok : Ok G adr σ s.heap) (tk : Nat) (k : Kv G adr s (.rng i j) σ Q) :
    Q (.ref s.heap.objs.size) { s with heap := s.heap.push { cls := .type "range", data := .fields #[.int i t, .int j u, .int 1 v] }, toks := tk } :=
  k adr _ _ (Post.push ok _ _) (.rng (IsRange.new _ _ _ _ _ _ _) (ok.fresh (size_none _)))

theorem idxOk (e : o2 .idx a b σ = some (X, σ')) (ra : RV s.heap adr a va) (rb : RV s.heap adr b vb) (ok : Ok G adr σ s.heap) (k : Kv G adr s X σ' Q) :
    wpAny (model G.prog G.w) A (getItem va vb) Q E s ∧ ∃ T id, s.TypeIs va T ∧ typeLookup (.type T) "__getitem__" = pure (some (.builtin id)) := by
  cases rb with
  | int i t =>
    simp only [o2] at e
    split at e
    · rename_i l h
      have := view_tup h
      subst this
      split at e
      · rename_i hi
        simp only [pureV, Option.map_eq_some_iff, Option.bind_eq_some_iff] at e
        obtain ⟨x, ⟨j, hj, hx⟩, e⟩ := e
        cases e
        obtain ⟨h1, h2, _⟩ := sIdx_eq hj
        cases ra with
        | @tup y _ vs ht hn rs =>
          obtain ⟨v, hv, r⟩ := (rvs_iff.mp rs).get hx
          refine ⟨getItem_tuple ht (by unfold lim at hi; omega) (by unfold lim at hi; omega) (by rw [List.size_toArray, ← rs.length]; exact h1) (by simpa using hv) (k adr _ _ (Post.refl ok) r), "tuple", _, ht.typeIs, slot_tuple_getitem.lookup⟩
      · cases e
    · rename_i l h
      obtain ⟨x, vs, rfl, hl, rs⟩ := view_lst ok ra h
      split at e
      · rename_i hi
        simp only [pureV, Option.map_eq_some_iff, Option.bind_eq_some_iff] at e
        obtain ⟨x, ⟨j, hj, hx⟩, e⟩ := e
        cases e
        obtain ⟨h1, h2, h3⟩ := sIdx_eq hj
        obtain ⟨v, hv, r⟩ := (rvs_iff.mp rs).get hx
        refine ⟨?_, "list", _, hl.typeIs, slot_list_getitem.lookup⟩
        rcases h3 with ⟨h3, rfl⟩ | ⟨h3, h4, rfl⟩
        · exact wpAny_getItem_list hl h3 (by unfold lim at hi; omega) (by simpa using hv) (k adr _ _ (Post.refl ok) r)
        · exact wpAny_getItem_list_neg hl h3 (by rw [List.size_toArray, ← rs.length]; exact h4) (by unfold lim at hi; omega) (by rw [List.size_toArray, ← rs.length]; simpa using hv) (k adr _ _ (Post.refl ok) r)
      · cases e
    · rename_i j h
      have := view_ref h
      subst this
      split at e
      · rename_i l hl
        simp only [pureV, Option.map_eq_some_iff] at e
        obtain ⟨x, hx, e⟩ := e
        cases e
        cases ra with
        | @ref _ y hy =>
          obtain ⟨y', hy', kvs, d1, p1⟩ := ok.objs _ _ hl
          rw [hy] at hy'; cases hy'
          rcases pairs_get i p1 with ⟨g1, _⟩ | ⟨x', v, g1, g2, r⟩
          · rw [hx] at g1; cases g1
          · rw [hx] at g1; cases g1
            exact ⟨wpAny_getItem_of (intKind_is _ _ i t) d1.mapOf g2 (k adr _ _ (Post.toks ok _) r), "dict", _, d1.typeIs, slot_dict_getitem.lookup⟩
      · cases e
    · cases e
  | str x t =>
    cases a <;> simp only [o2] at e <;> try cases e
    split at e
    · rename_i l hl
      simp only [pureV, Option.map_eq_some_iff] at e
      obtain ⟨y, hx, e⟩ := e
      cases e
      cases ra with
      | @ref _ z hz =>
        obtain ⟨z', hz', kvs, d1, p1⟩ := ok.objs _ _ hl
        rw [hz] at hz'; cases hz'
        rcases pairs_get x p1 with ⟨g1, _⟩ | ⟨x', v, g1, g2, r⟩
        · rw [hx] at g1; cases g1
        · rw [hx] at g1; cases g1
          exact ⟨wpAny_getItem_of (strKind_is _ _ x t) d1.mapOf g2 (k adr _ _ (Post.toks ok _) r), "dict", _, d1.typeIs, slot_dict_getitem.lookup⟩
    · cases e
  | _ => cases a <;> simp [o2] at e

theorem appOk {i : Nat} {l : List V} {x : V} {vx : Value} (ok : Ok G adr σ s.heap) (ra : RV s.heap adr (.ref i) va) (rx : RV s.heap adr x vx) (e : σ[i]? = some (.list l)) (hz : l.length ≤ lim)
    (k : Kv G adr s .none (σ.set i (.list (l ++ [x]))) Q) : wpAny (model G.prog G.w) A (call (.builtin "list.append") [va, vx]) Q E s := by
  cases ra with
  | @ref _ b hb =>
    obtain ⟨b', hb', vs, m, ho, rs⟩ := ok.objs _ _ e
    rw [hb] at hb'; cases hb'
    refine append_at ho (fun h' hs ho' => ?_) (by rw [List.size_toArray, ← rs.length]; exact lim_size hz)
    have q := ok.set (i := i) (o := .list (l ++ [x])) (h' := h') hb (fun c o hc e => (hs.2 c hc).trans e) ⟨_, ho'⟩ (fun y => ⟨vs ++ [vx], m + 1, by simpa using ho', RVs.mono y (rs.append (.cons rx .nil))⟩)
    exact k adr _ _ ⟨⟨h', s.toks, rfl⟩, q.2, q.1⟩ .none

theorem natAbs_bounds {i : Int} (h : i.natAbs ≤ lim) : -100000 ≤ i ∧ i ≤ 100000 := by unfold lim at h; omega

theorem o2Ok {o : O2} (g : GOk G) (e : o2 o a b σ = some (X, σ')) (ra : RV s.heap adr a va) (rb : RV s.heap adr b vb) (ok : Ok G adr σ s.heap) (hA : Room A n) (k : Kv G adr s X σ' Q)
    (h1 : o ≠ .slTo) (h2 : o ≠ .slFrom) : wpAny (model G.prog G.w) A (t2 o va vb) Q E s := by
  cases o with
  | add =>
    cases ra <;> cases rb <;> simp only [o2] at e <;> try cases e
    · exact PyProof.Rows.add_int (k_int ok k)
    · rename_i h1 h2 h3 _ _ _ h4 h5 h6
      split at e
      · cases e; exact add_tup ok (.tup h1 h2 h3) (.tup h4 h5 h6) (by assumption) k
      · cases e
    · rename_i h1 h2 h3 _ _ _ h4 h5 h6
      split at e
      · cases e; exact add_lst ok (.lst h1 h2 h3) (.lst h4 h5 h6) (by assumption) k
      · cases e
  | sub =>
    cases ra <;> cases rb <;> simp only [o2] at e <;> try cases e
    exact PyProof.Rows.sub_int (k_int ok k)
  | mul =>
    cases ra <;> cases rb <;> simp only [o2] at e <;> try cases e
    split at e
    · rename_i h
      cases e
      exact PyProof.Rows.mul_int (k_int ok k) (by have q := natAbs_bounds h.1; exact IntMulOk.of_left (intBits_le_64 (by omega) (by omega)))
    · cases e
  | fdiv =>
    cases ra <;> cases rb <;> simp only [o2] at e <;> try cases e
    split at e
    · rename_i h
      cases e
      exact PyProof.Rows.floordiv_int h.1 (k_int ok k) (Or.inl (PyProof.noPylong_small (by have := h.2.2; unfold lim at this; omega)))
    · cases e
  | fmod =>
    cases ra <;> cases rb <;> simp only [o2] at e <;> try cases e
    split at e
    · rename_i h
      cases e
      exact PyProof.Rows.mod_int h (k_int ok k)
    · cases e
  | pow =>
    cases ra <;> cases rb <;> simp only [o2] at e <;> try cases e
    split at e
    · rename_i h
      cases e
      exact PyProof.Rows.pow_int_small h.1 (by omega) (by have := h.2.2; unfold lim at this; omega) (k_int ok k)
    · cases e
  | eq =>
    simp only [o2, Option.map_eq_some_iff] at e
    obtain ⟨r, e, q⟩ := e
    cases q
    exact (cmpOk g e ok hA ra rb).1 k
  | ne =>
    simp only [o2, Option.map_eq_some_iff] at e
    obtain ⟨r, e, q⟩ := e
    cases q
    exact (cmpOk g e ok hA ra rb).2 k
  | lt =>
    cases ra <;> cases rb <;> simp only [o2] at e <;> try cases e
    exact PyProof.Rows.lt_int (k_bool ok k)
  | le =>
    cases ra <;> cases rb <;> simp only [o2] at e <;> try cases e
    exact PyProof.Rows.le_int (k_bool ok k)
  | gt =>
    cases ra <;> cases rb <;> simp only [o2] at e <;> try cases e
    exact PyProof.Rows.gt_int (k_bool ok k)
  | ge =>
    cases ra <;> cases rb <;> simp only [o2] at e <;> try cases e
    exact PyProof.Rows.ge_int (k_bool ok k)
  | isB =>
    cases b <;> try (cases a <;> simp [o2] at e; done)
    · cases rb
      have e' : X = .bool (isNoneB a) ∧ σ' = σ := by cases a <;> simp [o2] at e ⊢ <;> exact ⟨e.1.symm, e.2.symm⟩
      obtain ⟨rfl, rfl⟩ := e'
      refine is_none ?_
      have : (va == Value.none) = isNoneB a := by cases ra <;> rfl
      rw [this]
      exact k_bool ok k
    · cases a <;> simp only [o2] at e <;> try cases e
      cases ra; cases rb
      rename_i x y
      show wpAny _ A (do return Value.bool (← isSame (.bool y) (.bool x))) Q E s
      refine wpAny_bind (wpAny_pure (wpAny_pure ?_))
      have : (Value.bool y == Value.bool x) = (y == x) := by cases x <;> cases y <;> rfl
      rw [this]
      exact k_bool ok k
  | isNB =>
    cases b <;> try (cases a <;> simp [o2] at e; done)
    · cases rb
      have e' : X = .bool (!isNoneB a) ∧ σ' = σ := by cases a <;> simp [o2] at e ⊢ <;> exact ⟨e.1.symm, e.2.symm⟩
      obtain ⟨rfl, rfl⟩ := e'
      refine isNot_none ?_
      have : (!(va == Value.none)) = !isNoneB a := by cases ra <;> rfl
      rw [this]
      exact k_bool ok k
    · cases a <;> simp only [o2] at e <;> try cases e
      cases ra; cases rb
      rename_i x y
      show wpAny _ A (do return Value.bool (!(← isSame (.bool y) (.bool x)))) Q E s
      refine wpAny_bind (wpAny_pure (wpAny_pure ?_))
      have : (Value.bool y == Value.bool x) = (y == x) := by cases x <;> cases y <;> rfl
      rw [this]
      exact k_bool ok k
  | inn =>
    simp only [o2, Option.map_eq_some_iff] at e
    obtain ⟨r, e, q⟩ := e
    cases q
    exact inOk e ok hA ra rb k
  | idx => exact (idxOk e ra rb ok k).1
  | slTo => exact absurd rfl h1
  | slFrom => exact absurd rfl h2
  | max2 =>
    cases ra <;> cases rb <;> simp only [o2] at e <;> try cases e
    rename_i i t j u
    refine max_two_ints hA.1 fun h' tk hk => ?_
    have p := Post.grow ok tk hk
    split
    · have : max i j = j := by omega
      rw [this] at k; exact k adr _ _ p (.int _ _)
    · have : max i j = i := by omega
      rw [this] at k; exact k adr _ _ p (.int _ _)
  | min2 =>
    cases ra <;> cases rb <;> simp only [o2] at e <;> try cases e
    rename_i i t j u
    refine min_two_ints hA.1 fun h' tk hk => ?_
    have p := Post.grow ok tk hk
    split
    · have : min i j = j := by omega
      rw [this] at k; exact k adr _ _ p (.int _ _)
    · have : min i j = i := by omega
      rw [this] at k; exact k adr _ _ p (.int _ _)
  | rng2 =>
    cases ra <;> cases rb <;> simp only [o2] at e <;> try cases e
    split at e
    · cases e
      exact call_range_2 (rng_post ok _ k)
    · cases e
  | app =>
    cases a <;> simp only [o2] at e <;> try cases e
    split at e
    · split at e
      · cases e; exact appOk ok ra rb (by assumption) (by assumption) k
      · cases e
    · cases e
end
end Mine

end

section
namespace Mine
open PySem PySem.W PyProof.Rows PySem.Calls
set_option Elab.async false
set_option autoImplicit false

section
variable {prog : Program} {w : World} {A : Around} {E : Value → Shared → Prop} {s : Shared}

theorem adjust_but (n : Nat) (hn : 1 ≤ n) : Builtin.Slice.sliceAdjust none (some (-1)) 1 (n : Int) = ((0 : Int), ((n - 1 : Nat) : Int)) := by
  unfold Builtin.Slice.sliceAdjust
  have h1 : ¬ ((1 : Int) < 0) := by omega
  have h2 : ((-1 : Int) < 0) := by omega
  simp only [h1, h2, if_false, if_true]
  congr 1
  omega
theorem places_but (n : Nat) : Builtin.Slice.slicePlaces (0 : Int) (n : Int) 1 = n := by
  unfold Builtin.Slice.slicePlaces
  have h1 : (1 : Int) > 0 := by omega
  simp only [h1, if_true, Int.ediv_one]
  split <;> omega

theorem sliceApplied_but {sl : Addr} {n : Nat} {u : Tok} {Q : Int × Int × Nat → Shared → Prop} (hs : s.heap.IsSliceOf sl .none (.int (-1) u) .none) (hn : 1 ≤ n) (h : Q ((0 : Int), 1, n - 1) s) :
    wpAny (model prog w) A (Builtin.Slice.sliceApplied (.ref sl) (pure (n : Int))) Q E s := by
  obtain ⟨os, hos, hcs, hds⟩ := id hs
  unfold Builtin.Slice.sliceApplied Builtin.Slice.sliceFields
  refine wpAny_bind (wpAny_bind (wpAny_field hos hds (x := .none) rfl (wpAny_bind (wpAny_field hos hds (x := .int (-1) u) rfl (wpAny_bind (wpAny_field hos hds (x := .none) rfl (wpAny_pure ?_)))))))
  refine wpAny_bind (slicePart_none ?_)
  show wpAny _ _ (if ((1 : Int) == 0) = true then _ else _) _ _ s
  rw [if_neg (by decide)]
  refine wpAny_bind (slicePart_none (wpAny_bind (slicePart_int (wpAny_bind (wpAny_pure ?_)))))
  show wpAny _ _ (match Builtin.Slice.sliceAdjust none (some (-1)) 1 (n : Int) with | (lo, hi) => pure (lo, (1 : Int), Builtin.Slice.slicePlaces lo hi 1)) _ _ s
  rw [adjust_but n hn]
  show wpAny _ _ (pure ((0 : Int), (1 : Int), Builtin.Slice.slicePlaces (0 : Int) ((n - 1 : Nat) : Int) 1)) _ _ s
  rw [places_but]
  exact wpAny_pure h

theorem pick_but (xs : Array Value) (k : Nat) : ((List.range k).filterMap fun (j : Nat) => xs[((0 : Int) + (j : Int) * 1).toNat]?).toArray = (xs.toList.take k).toArray := by
  have e : (fun (j : Nat) => xs[((0 : Int) + (j : Int) * 1).toNat]?) = fun j => xs[0 + j]? := by
    funext j
    have : ((0 : Int) + (j : Int) * 1).toNat = 0 + j := by omega
    rw [this]
  rw [e]
  have := pick_run xs 0 k
  rw [List.filterMap_map] at this
  have e2 : ((fun x => xs[x]?) ∘ fun x => 0 + x) = fun j => xs[0 + j]? := rfl
  rw [e2] at this
  rw [this, List.drop_zero]

theorem getItem_tuple_but {t sl : Addr} {items : Array Value} {u : Tok} {Q : Value → Shared → Prop} (ht : IsTup s.heap t items) (hs : s.heap.IsSliceOf sl .none (.int (-1) u) .none) (h1 : 1 ≤ items.size)
    (h : Q (.ref s.heap.objs.size) { s with heap := s.heap.push { cls := .type "tuple", data := .seq (items.toList.take (items.size - 1)).toArray } })
    (hsz : items.size ≤ sizeLine) : wpAny (model prog w) A (getItem (.ref t) (.ref sl)) Q E s := by
  have hdrop : sizeOk (.seq (items.toList.take (items.size - 1)).toArray) := by
    show (items.toList.take (items.size - 1)).toArray.size ≤ sizeLine
    rw [List.size_toArray, List.length_take, Array.length_toList]
    omega
  obtain ⟨os, hos, hcs, hds⟩ := id hs
  have hTs : s.TypeIs (.ref sl) "slice" := ⟨os, hos, hcs⟩
  unfold getItem
  try with_reducible refine wpAny_holding ?_
  first | refine wpAny_bind (wpAny_pure ?_) | skip
  refine wpAny_bind (wpAny_sequenceKey ht.typeIs (by decide) ?_)
  refine wpAny_bind (wpAny_callSpecial?_slot (name := Str.ofString "__getitem__") ht.typeIs slot_tuple_getitem
    (wpAny_call_entry slot_tuple_getitem ht.typeIs entry_tuple_getitem ?_ (args_tuple_getitem _ _)))
  show wpAny _ _ (Builtin.Tuple.tupleItemsOf (.ref t) >>= _) _ _ s
  refine wpAny_bind (tupleItemsOf_ ht ?_)
  refine wpAny_bind (wpAny_typeOf hTs ?_)
  rw [if_pos (by decide)]
  refine wpAny_bind (sliceApplied_but hs h1 ?_)
  have hno : ¬ (((0 : Int) == 0 && (1 : Int) == 1 && (items.size - 1) == items.size) = true) := by
    have : (items.size - 1 == items.size) = false := by rw [beq_eq_false_iff_ne]; omega
    rw [this]; simp
  show wpAny _ _ (if ((0 : Int) == 0 && (1 : Int) == 1 && (items.size - 1) == items.size) = true then _ else _) _ _ s
  rw [if_neg hno, pick_but items]
  first
    | exact wpAny_bind (m := Builtin.Tuple.tupleExact _) (wpAny_newObj_type (wpAny_pure ⟨_, rfl, wpAny_pure h⟩) hdrop)
    | exact wpAny_bind (m := Builtin.Tuple.tupleExact _) (wpAny_newObj_type (wpAny_bind (wpAny_pure (wpAny_pure ⟨_, rfl, wpAny_pure h⟩))) hdrop)
    | exact wpAny_bind (wpAny_bind (m := Builtin.Tuple.tupleExact _) (wpAny_newObj_type (wpAny_pure (wpAny_pure ⟨_, rfl, wpAny_pure h⟩)) hdrop))
    | exact wpAny_bind (wpAny_bind (m := Builtin.Tuple.tupleExact _) (wpAny_newObj_type (wpAny_pure ⟨_, rfl, wpAny_pure h⟩) hdrop))
end

section
variable {G : Glb} {adr : List Addr} {σ σ' : Hp} {A : Around} {E : Value → Shared → Prop} {s : Shared} {Q : Value → Shared → Prop} {X : V} {n : Nat} {a b : V} {va vb : Value}

theorem slToOk {value : Expr} {lo hi : Option Expr} {p : Pos} (e : o2 .slTo a b σ = some (X, σ')) (ra : RV s.heap adr a va) (rb : RV s.heap adr b vb) (ok : Ok G adr σ s.heap) (k : Kv G adr s X σ' Q) :
    wpAny (model G.prog G.w) A (subscriptTail value (.Slice lo hi none p) va (.ref s.heap.objs.size)) Q E { s with heap := s.heap.push { cls := .type "slice", data := .fields #[.none, vb, .none] } } := by
  have pp := Post.push ok { cls := .type "slice", data := .fields #[.none, vb, .none] } s.toks
  cases rb with
  | int i t =>
    simp only [o2] at e
    split at e
    · rename_i l h
      have := view_tup h
      subst this
      split at e
      · rename_i hz
        obtain ⟨rfl, h2, h3⟩ := hz
        cases e
        cases ra with
        | @tup y _ vs ht hn rs =>
          have ht' : IsTup (s.heap.push { cls := .type "slice", data := .fields #[.none, .int (-1) t, .none] }) y vs.toArray := isTup_keep ht fun _ e => Heap.get?_push_of_some _ e
          have hl := rs.length
          refine tail_any (T := "tuple") ht'.typeIs slot_tuple_getitem.lookup (getItem_tuple_but (u := t) ht' (Heap.IsSliceOf.new ..) (by rw [List.size_toArray]; omega) ?_ (by rw [List.size_toArray, ← hl]; exact lim_size h3)) rfl
          have e2 : (vs.toArray.toList.take (vs.toArray.size - 1)) = vs.take (vs.length - 1) := by simp
          rw [e2]
          have q := Post.push pp.ok { cls := .type "tuple", data := .seq (vs.take (vs.length - 1)).toArray } s.toks
          refine k adr _ _ (pp.trans q) (.tup (IsTup.new _ _) (pp.ok.fresh (size_none _)) (RVs.mono (pp.trans q).ext ?_))
          rw [List.dropLast_eq_take, hl]
          exact rvs_iff.mpr ((rvs_iff.mp rs).take _)
      · cases e
    · rename_i l h
      obtain ⟨x, vs, rfl, hl, rs⟩ := view_lst ok ra h
      split at e
      · rename_i hz
        cases e
        have hl' := isList_keep (h' := s.heap.push { cls := .type "slice", data := .fields #[.none, .int i t, .none] }) hl fun _ e => Heap.get?_push_of_some _ e
        refine tail_any (T := "list") hl'.typeIs slot_list_getitem.lookup (wpAny_getItem_list_slice hl' (Heap.IsSliceOf.new ..) .none (.int i t) .none (by simp) ?_ (by rw [List.size_toArray, ← rs.length]; exact lim_size hz.2)) rfl
        have ei : i = (i.toNat : Int) := by omega
        have e2 : slicePick vs.toArray none (some i) none = (vs.take i.toNat).toArray := by
          have := slicePick_upto' vs.toArray i.toNat
          rw [← ei] at this
          exact this
        rw [e2]
        have q := Post.push pp.ok { cls := .type "list", data := .seq (vs.take i.toNat).toArray } s.toks
        exact k adr _ _ (pp.trans q) (.lst ⟨_, Heap.get?_push_size _ rfl, rfl, 0, rfl⟩ (pp.ok.fresh (size_none _)) (RVs.mono (pp.trans q).ext (rvs_iff.mpr ((rvs_iff.mp rs).take _))))
      · cases e
    · cases e
  | _ => cases a <;> simp [o2] at e

theorem slFromOk {value : Expr} {lo hi : Option Expr} {p : Pos} (e : o2 .slFrom a b σ = some (X, σ')) (ra : RV s.heap adr a va) (rb : RV s.heap adr b vb) (ok : Ok G adr σ s.heap) (k : Kv G adr s X σ' Q) :
    wpAny (model G.prog G.w) A (subscriptTail value (.Slice lo hi none p) va (.ref s.heap.objs.size)) Q E { s with heap := s.heap.push { cls := .type "slice", data := .fields #[vb, .none, .none] } } := by
  have pp := Post.push ok { cls := .type "slice", data := .fields #[vb, .none, .none] } s.toks
  cases rb with
  | int i t =>
    simp only [o2] at e
    split at e
    · rename_i l h
      obtain ⟨x, vs, rfl, hl, rs⟩ := view_lst ok ra h
      split at e
      · rename_i hz
        cases e
        have hl' := isList_keep (h' := s.heap.push { cls := .type "slice", data := .fields #[.int i t, .none, .none] }) hl fun _ e => Heap.get?_push_of_some _ e
        refine tail_any (T := "list") hl'.typeIs slot_list_getitem.lookup (wpAny_getItem_list_slice hl' (Heap.IsSliceOf.new ..) (.int i t) .none .none (by simp) ?_ (by rw [List.size_toArray, ← rs.length]; exact lim_size hz.2)) rfl
        have ei : i = (i.toNat : Int) := by omega
        have e2 : slicePick vs.toArray (some i) none none = (vs.drop i.toNat).toArray := by
          have := slicePick_from' vs.toArray i.toNat
          rw [← ei] at this
          exact this
        rw [e2]
        have q := Post.push pp.ok { cls := .type "list", data := .seq (vs.drop i.toNat).toArray } s.toks
        exact k adr _ _ (pp.trans q) (.lst ⟨_, Heap.get?_push_size _ rfl, rfl, 0, rfl⟩ (pp.ok.fresh (size_none _)) (RVs.mono (pp.trans q).ext (rvs_iff.mpr ((rvs_iff.mp rs).drop _))))
      · cases e
    · cases e
  | _ => cases a <;> simp [o2] at e
end
end Mine

end

section
namespace Mine
open PySem PySem.W PyProof.Rows PySem.Calls
set_option Elab.async false
set_option autoImplicit false

/-- the class facts that a run leans on -/
structure CFacts (G : Glb) (T : Tab) : Prop extends GOk G where
  inH : G.K.In G.h₀
  inj : ∀ i j, i < G.N → j < G.N → G.nm i = G.nm j → i = j
  atG : ∀ c n, G.atN n = true → n < G.N ∧ plainGet G.K (G.cls c) (G.nm n) = true ∧ (∃ at', findIn G.K (.ref (G.cls c)) (G.nm n) = some at' ∧ noGet G.K at' = true) ∧ takerIn G.K (G.cls c) (G.nm n) = some none
  hasD : ∀ c, hasDictIn G.K (G.cls c) = true
  setG : ∀ c, findIn G.K (.ref (G.cls c)) "__setattr__" = some (some (.builtin "object.__setattr__")) ∧ plainOver G.K (G.cls c) = true
  mts : ∀ c n f, T.mt c n = some f → n < G.N ∧ plainGet G.K (G.cls c) (G.nm n) = true ∧ findIn G.K (.ref (G.cls c)) (G.nm n) = some (some (.ref (G.fnA f))) ∧ isFn G.K (.ref (G.fnA f)) = true
  news : ∀ c f, T.ini c = some f → makesIn G.K (G.cls c) = true ∧ findIn G.K (.ref (G.cls c)) "__init__" = some (some (.ref (G.fnA f))) ∧ isFn G.K (.ref (G.fnA f)) = true

section
variable {G : Glb} {adr : List Addr} {σ σ' : Hp} {A : Around} {E : Value → Shared → Prop} {s : Shared} {X : V} {n : Nat} {a b : V} {va vb : Value} {T : Tab}

theorem Ok.inK (g : CFacts G T) {h : Heap} (ok : Ok G adr σ h) : G.K.In h := g.inH.keeps ok.keep

theorem put_map {K : Type} [DecidableEq K] {h : Heap} (k : K) {x : V} {v : Value} (r : RV h adr x v) {l : List (K × V)} {kvs : List (K × Value)} (p : PairsR h adr l kvs) :
    PairsR h adr (l.map fun p => if p.1 = k then (p.1, x) else p) (kvs.map fun kv => if kv.1 = k then (kv.1, v) else kv) := by
  induction p with
  | nil => exact .nil
  | @cons p q l kvs h1 _ ih =>
    simp only [List.map_cons]
    refine .cons ?_ ih
    by_cases hk : p.1 = k
    · rw [if_pos hk, if_pos (h1.1 ▸ hk)]; exact ⟨h1.1, r⟩
    · rw [if_neg hk, if_neg (h1.1 ▸ hk)]; exact h1
theorem put_pairs {K : Type} [DecidableEq K] {h : Heap} (k : K) {x : V} {v : Value} (r : RV h adr x v) {l : List (K × V)} {kvs : List (K × Value)} (p : PairsR h adr l kvs) : PairsR h adr (putK k x l) (stored kvs k v) := by
  have ha : (l.any fun p => decide (p.1 = k)) = kvs.any fun kv => decide (kv.1 = k) := by
    induction p with
    | nil => rfl
    | cons q _ ih => simp only [List.any_cons, q.1, ih]
  unfold putK stored
  rw [ha]
  split
  · exact put_map k r p
  · exact p.append (.cons ⟨rfl, r⟩ .nil)

theorem PairsR.mono {K : Type} {adr' : List Addr} {h h' : Heap} (x : Ext adr adr' h h') {l : List (K × V)} {kvs : List (K × Value)} (p : PairsR h adr l kvs) : PairsR h' adr' l kvs :=
  All2.mono p fun _ _ q => ⟨q.1, q.2.mono x⟩

theorem storeOk {o i v : V} {vo vi vv : Value} {Q : Unit → Shared → Prop} (e : store o i v σ = some σ') (ro : RV s.heap adr o vo) (ri : RV s.heap adr i vi) (rv : RV s.heap adr v vv) (ok : Ok G adr σ s.heap)
    (k : ∀ adr' s', Post G adr σ' s adr' s' → Q () s') : wpAny (model G.prog G.w) A (setItem vo vi vv) Q E s := by
  unfold store at e
  split at e
  · rename_i j kk
    cases ri with
    | int _ t =>
    cases ro with
    | @ref _ b hb =>
    split at e
    · rename_i l hl
      split at e
      · rename_i hz
        cases e
        obtain ⟨b', hb', kvs, d1, p1⟩ := ok.objs _ _ hl
        rw [hb] at hb'; cases hb'
        refine wpAny_setItem_pairs (intKind_is _ _ kk t) d1 (fun h' hm hs => ?_) (by rw [← p1.length]; exact lim_size hz)
        have q := ok.set (i := j) (o := .dictI (putK kk v l)) (h' := h') hb (fun c o hc e => (hs.2 c hc).trans e) ⟨_, hm.choose_spec.choose_spec.choose_spec.1⟩ (fun x => ⟨_, hm, PairsR.mono x (put_pairs kk rv p1)⟩)
        exact k adr _ ⟨⟨h', _, rfl⟩, q.2, q.1⟩
      · cases e
    · rename_i l hl
      split at e
      · rename_i hz
        obtain ⟨m, hm, rfl⟩ := Option.map_eq_some_iff.mp e
        obtain ⟨b', hb', vs, c, ho, rs⟩ := ok.objs _ _ hl
        rw [hb] at hb'; cases hb'
        obtain ⟨h1, h2, h3⟩ := sIdx_eq hm
        have hle : l.length = vs.length := rs.length
        have hset : s.heap.update b (Obj.mapSeq (·.setIfInBounds m vv)) = s.heap.update b (Obj.mapSeq (·.setIfInBounds m vv)) := rfl
        have fin : Q () { s with heap := s.heap.update b (Obj.mapSeq (·.setIfInBounds m vv)) } := by
          have hs := Heap.SameBut.update s.heap b (Obj.mapSeq (·.setIfInBounds m vv))
          have ho' : ∃ c', (s.heap.update b (Obj.mapSeq (·.setIfInBounds m vv))).get? b = some { cls := .type "list", data := .seq (vs.set m vv).toArray c' } := by
            have e1 : ∃ c', Obj.mapSeq (·.setIfInBounds m vv) ({ cls := .type "list", data := .seq vs.toArray c } : Obj) = { cls := .type "list", data := .seq (vs.set m vv).toArray c' } := by
              have : ∀ (f : Array Value → Array Value) (y : Array Value), f vs.toArray = y → ∃ c', Obj.mapSeq f ({ cls := .type "list", data := .seq vs.toArray c } : Obj) = { cls := .type "list", data := .seq y c' } := by
                intro f y e; subst e; exact ⟨_, rfl⟩
              exact this _ _ (List.setIfInBounds_toArray ..)
            obtain ⟨c', e1⟩ := e1
            exact ⟨c', e1 ▸ Heap.get?_update_self _ ho (by rw [e1]; rfl)⟩
          obtain ⟨c', ho'⟩ := ho'
          have q := ok.set (i := j) (o := .list (l.set m v)) (h' := s.heap.update b (Obj.mapSeq (·.setIfInBounds m vv))) hb (fun c o hc e => (hs.2 c hc).trans e) ⟨_, ho'⟩
            (fun y => ⟨_, _, ho', RVs.mono y (rvs_iff.mpr ((rvs_iff.mp rs).set m rv))⟩)
          exact k adr _ ⟨⟨_, s.toks, rfl⟩, q.2, q.1⟩
        rcases h3 with ⟨h3, rfl⟩ | ⟨h3, h4, rfl⟩
        · exact ki_setAt (items := vs.toArray) ho h3 (by unfold lim at hz; omega) (by rw [List.size_toArray]; omega) fin
        · refine ki_setBack (items := vs.toArray) ho h3 (by rw [List.size_toArray]; omega) (by unfold lim at hz; omega) ?_
          rw [List.size_toArray, ← hle]
          exact fin
      · cases e
    · cases e
  · rename_i j kk
    cases ri with
    | str _ t =>
    cases ro with
    | @ref _ b hb =>
    split at e
    · rename_i l hl
      split at e
      · rename_i hz
        cases e
        obtain ⟨b', hb', kvs, d1, p1⟩ := ok.objs _ _ hl
        rw [hb] at hb'; cases hb'
        refine wpAny_setItem_pairs (strKind_is _ _ kk t) d1 (fun h' hm hs => ?_) (by rw [← p1.length]; exact lim_size hz)
        have q := ok.set (i := j) (o := .dictS (putK kk v l)) (h' := h') hb (fun c o hc e => (hs.2 c hc).trans e) ⟨_, hm.choose_spec.choose_spec.choose_spec.1⟩ (fun x => ⟨_, hm, PairsR.mono x (put_pairs kk rv p1)⟩)
        exact k adr _ ⟨⟨h', _, rfl⟩, q.2, q.1⟩
      · cases e
    · cases e
  · cases e

/-- the entries of an instance, seen by name -/
theorem attrs_get (g : CFacts G T) {h : Heap} {k : Nat} (hk : k < G.N) {l : List (Nat × V)} {es : List DictEntry} (p : AttrsR G h adr l es) :
    (getK k l = none ∧ getL (G.nm k) es = some none) ∨ ∃ x v, getK k l = some x ∧ getL (G.nm k) es = some (some v) ∧ RV h adr x v := by
  induction p with
  | nil => exact .inl ⟨rfl, rfl⟩
  | @cons p q l es h1 h2 ih =>
    obtain ⟨hn, ⟨t, hq⟩, r⟩ := h1
    unfold getK getL at ih ⊢
    by_cases hp : p.1 = k
    · have : q.key.isStr (G.nm k) = true := by rw [hq, ← hp]; exact beq_self_eq_true _
      simp only [List.find?_cons, hp, decide_true, Option.map_some, this]
      exact .inr ⟨_, _, rfl, rfl, r⟩
    · have : q.key.isStr (G.nm k) = false := by
        rw [hq]
        refine beq_eq_false_iff_ne.mpr fun z => hp (g.inj _ _ hn hk z)
      have hr : q.refKey = false := by unfold DictEntry.refKey; rw [hq]
      simp only [List.find?_cons, hp, decide_false, this, List.any_cons, hr, Bool.false_or]
      exact ih
theorem attrs_put (g : CFacts G T) {h : Heap} {k : Nat} (hk : k < G.N) {x : V} {v : Value} {hs : Int} {t : Tok} (r : RV h adr x v) {l : List (Nat × V)} {es : List DictEntry} (p : AttrsR G h adr l es) :
    AttrsR G h adr (putA k x l) (putL (G.nm k) hs (.str (G.nm k) t) v es) := by
  induction p with
  | nil => exact .cons ⟨hk, ⟨t, rfl⟩, r⟩ .nil
  | @cons p q l es h1 h2 ih =>
    have h1' := h1
    obtain ⟨hn, ⟨t', hq⟩, r'⟩ := h1
    unfold putA putL
    by_cases hp : p.1 = k
    · have : q.key.isStr (G.nm k) = true := by rw [hq, ← hp]; exact beq_self_eq_true _
      rw [if_pos hp, if_pos this]
      exact .cons ⟨hn, ⟨t', hq⟩, r⟩ h2
    · have : ¬ q.key.isStr (G.nm k) = true := by
        rw [hq]
        exact fun z => hp (g.inj _ _ hn hk (beq_iff_eq.mp z))
      rw [if_neg hp, if_neg this]
      exact .cons h1' ih

theorem RV.handed {h : Heap} {X : V} {v : Value} (r : RV h adr X v) : handedIn v = true := by cases r <;> rfl

theorem instAt_of (ok : Ok G adr σ s.heap) {i c d : Nat} {l : List (Nat × V)} {x : Addr} (hi : adr[i]? = some x) (e1 : σ[i]? = some (.inst c d)) (e2 : σ[d]? = some (.attrs l)) :
    ∃ dx es m, adr[d]? = some dx ∧ s.heap.get? dx = some (dictOf es m) ∧ AttrsR G s.heap adr l es ∧ InstAt s.heap x (instObj (G.cls c) dx) (G.cls c) (some (dictOf es m)) := by
  obtain ⟨x', hx', dx, hd, hx⟩ := ok.objs _ _ e1
  rw [hi] at hx'; cases hx'
  obtain ⟨dx', hd', es, m, ho, p⟩ := ok.objs _ _ e2
  rw [hd] at hd'; cases hd'
  exact ⟨dx, es, m, hd, ho, p, ⟨hx, rfl, rfl, ho⟩⟩

theorem attrOk {k : Nat} {expr : Bool} {Q : Value → Shared → Prop} (g : CFacts G T) (hk : G.atN k = true) (e : attrOf a k σ = some X) (ra : RV s.heap adr a va) (ok : Ok G adr σ s.heap) (kk : Kv G adr s X σ Q) :
    wpAny (model G.prog G.w) A (getAttr va (G.nm k) expr) Q E s := by
  unfold attrOf at e
  split at e
  · rename_i i
    split at e
    · rename_i c d hc
      split at e
      · rename_i l hl
        cases ra with
        | @ref _ x hx =>
          obtain ⟨dx, es, m, hd, ho, p, I⟩ := instAt_of ok hx hc hl
          obtain ⟨hN, pg, ⟨at', f1, f2⟩, _⟩ := g.atG c k hk
          rcases attrs_get g hN p with ⟨q, _⟩ | ⟨y, v, q1, q2, r⟩
          · rw [e] at q; cases q
          · rw [e] at q1; cases q1
            exact get_value (ok.inK g) I (plainGet_of pg).1 (findObj_own (g.hasD c) f1 f2 q2) r.handed (kk adr _ _ (Post.toks ok _) r)
      · cases e
    · cases e
  · cases e

theorem osa_mine {K : Frag} {x dx C : Addr} {prog : Program} {w : World} {R : Result → Shared → Prop} {ox : Obj} {name : Str} {tk : Tok} {v : Value} {es₀ es : List DictEntry} {n₀ n : Nat} {od' : Obj} (X : K.In s.heap)
    (I : InstAt s.heap x ox C (some (dictOf es₀ n₀))) (hd : ox.dict = some dx) (hp : plainOver K C = true) (ht : takerIn K C name = some none) (hh : (clsIn K C).any (·.hasDict) = true)
    (hl : (lookIn name (dictOf es₀ n₀)).isSome = true)
    (e : Obj.putName name (PyData.keyHash w.params name) (.str name s.toks) v (dictOf es₀ n₀) = od') (e' : od' = dictOf es n) (hz : es.length ≤ 1000)
    (h : (s.heap.update dx (Obj.putName name (PyData.keyHash w.params name) (.str name s.toks) v)).get? dx = some od' → R (.ok (.ret .none)) { s with heap := s.heap.update dx (Obj.putName name (PyData.keyHash w.params name) (.str name s.toks) v), toks := s.toks + 1 }) :
    codeAny (model prog w) A (.call (.builtin "object.__setattr__") ⟨[.ref x, .str name tk, v], []⟩) R s := by
  refine osa_open X I hp ht fun b => ?_
  obtain ⟨cd, hc, hd'⟩ := any_some hh
  obtain ⟨hx, hcl, hn, D⟩ := I
  obtain ⟨oc, odi, oda, osl⟩ := ox
  dsimp only at hcl hd
  subst hcl hd
  have D' : (s.heap.update dx (Obj.putName name (PyData.keyHash w.params name) (.str name s.toks) v)).get? dx = some od' := e ▸ Heap.get?_update_self _ D (by rw [e, e']; rfl)
  refine wpAny_bind (wpAny_pure (wpAny_bind (wpAny_bind (wpAny_loadPart hx (wpAny_bind ((looks_clsIn X hc).here ?_))))))
  rw [hd']
  refine wpAny_pure (a := some dx) (wpAny_bind (wpAny_pure (wpAny_bind ?_)))
  unfold nsSet
  refine wpAny_bind (wpAny_bind (wpAny_askSetting (wpAny_pure (wpAny_bind (wpAny_mkText (wpAny_bind (wpAny_loadPart D ?_)))))))
  unfold lookIn at hl
  dsimp only at hl ⊢
  have c : (!es₀.toArray.any (·.key.isStr name) && es₀.toArray.any (·.refKey)) = false := by
    rw [← Array.any_toList, ← Array.any_toList]
    split at hl
    · rename_i en he
      rw [List.any_eq_true.mpr ⟨en, List.mem_of_find?_eq_some he, List.find?_some he⟩]; rfl
    · split at hl
      · cases hl
      · rename_i z; rw [Bool.not_eq_true] at z; rw [z, Bool.and_false]
  rw [aRefKeyMayBeTheName_at, c]
  refine wpAny_updatePart D ?_
  refine wpAny_bind (wpAny_lookBehind D' (by rw [e']; exact pastItsLine_dict (by rw [List.size_toArray, sizeLine_eq]; omega)) ?_)
  exact wpAny_pure (h D')

theorem All2.len_put {l : List (Nat × V)} (k : Nat) (x : V) : (putA k x l).length ≤ l.length + 1 := by
  induction l with
  | nil => exact Nat.le_refl _
  | cons p l ih => unfold putA; split <;> simp only [List.length_cons] <;> omega

theorem putAttrOk {k : Nat} {v : V} {vv : Value} {Q : Unit → Shared → Prop} (g : CFacts G T) (hk : G.atN k = true) (e : putAttr a k v σ = some σ') (ra : RV s.heap adr a va) (rv : RV s.heap adr v vv) (ok : Ok G adr σ s.heap)
    (kk : ∀ adr' s', Post G adr σ' s adr' s' → Q () s') : wpAny (model G.prog G.w) A (setAttr va (G.nm k) vv) Q E s := by
  unfold putAttr at e
  split at e
  · rename_i i
    split at e
    · rename_i c d hc
      split at e
      · rename_i l hl
        split at e
        · rename_i hz
          cases e
          cases ra with
          | @ref _ x hx =>
            obtain ⟨dx, es, m, hd, ho, p, I⟩ := instAt_of ok hx hc hl
            obtain ⟨hN, pg, _, tk⟩ := g.atG c k hk
            have hsome : (lookIn (G.nm k) (dictOf es m)).isSome = true := by
              rw [lookIn_dict]
              rcases attrs_get g hN p with ⟨_, q⟩ | ⟨_, _, _, q, _⟩ <;> rw [q] <;> rfl
            have hp := attrs_put g (hs := PyData.keyHash G.w.params (G.nm k)) (t := s.toks + 1) hN rv p
            refine set_plain (ok.inK g) I (g.setG c).1 (osa_mine (s := { s with toks := s.toks + 1 }) (dx := dx) (ok.inK g) I rfl (g.setG c).2 tk (g.hasD c) hsome rfl (putName_dict _ _ _ _ _ _) ?_ fun D => ?_)
            · rw [← hp.length]; have := All2.len_put (l := l) k v; omega
            · rw [putName_dict] at D
              have hs := Heap.SameBut.update s.heap dx (Obj.putName (G.nm k) (PyData.keyHash G.w.params (G.nm k)) (.str (G.nm k) (s.toks + 1)) vv)
              have q := ok.set (i := d) (o := .attrs (putA k v l)) hd (fun c o hc e => (hs.2 c hc).trans e) ⟨_, D⟩ (fun y => ⟨_, _, D, hp.mono fun _ _ q => ⟨q.1, q.2.1, q.2.2.mono y⟩⟩)
              exact kk adr _ ⟨⟨_, _, rfl⟩, q.2, q.1⟩
        · cases e
      · cases e
    · cases e
  · cases e
end
end Mine

end

section
namespace Mine
open PySem PySem.W PyProof.Rows PySem.Calls
set_option Elab.async false
set_option autoImplicit false

/-- no frame and no cell -/
def notScr (o : Obj) : Prop := match o.data with
  | .dict .. => False
  | .cell _ => False
  | _ => True
def Scr (h : Heap) (c : Addr) : Prop := ∃ o, h.get? c = some o ∧ ¬ notScr o
theorem Scr.ne {h : Heap} {c a : Addr} (x : Scr h c) {o : Obj} (e : h.get? a = some o) (n : notScr o) : a ≠ c := by
  rintro rfl
  obtain ⟨o', e', n'⟩ := x
  rw [e] at e'; cases e'
  exact n' n
theorem Scr.of_ns {h : Heap} {c : Addr} {m : Str → Option Value} (x : h.Ns c m) : Scr h c := by
  obtain ⟨o, es, ep, e, hd, _⟩ := x
  exact ⟨o, e, by unfold notScr; rw [hd]; exact id⟩
theorem Scr.of_cell {h : Heap} {c : Addr} {v : Option Value} (x : h.IsCell c v) : Scr h c := by
  obtain ⟨o, e, hd⟩ := x
  exact ⟨o, e, by unfold notScr; rw [hd]; exact id⟩
theorem notScr_seq {o : Obj} {xs : Array Value} {n : Nat} (e : o.data = .seq xs n) : notScr o := by unfold notScr; rw [e]; trivial
theorem notScr_fields {o : Obj} {xs : Array Value} (e : o.data = .fields xs) : notScr o := by unfold notScr; rw [e]; trivial

section
variable {adr : List Addr} {h h' : Heap} {c : Addr}
mutual
theorem RV.scr (sc : Scr h c) (hs : Heap.SameBut c h h') : ∀ {V : V} {v : Value}, RV h adr V v → RV h' adr V v
  | _, _, .none => .none
  | _, _, .bool b => .bool b
  | _, _, .int i t => .int i t
  | _, _, .str s t => .str s t
  | _, _, .tup ht hn hr => by
    obtain ⟨o, ho, hc, n, hd⟩ := ht
    exact .tup ⟨o, (hs.2 _ (sc.ne ho (notScr_seq hd))).trans ho, hc, n, hd⟩ hn (RVs.scr sc hs hr)
  | _, _, .lst ht hn hr => by
    obtain ⟨o, ho, hc, n, hd⟩ := ht
    exact .lst ⟨o, (hs.2 _ (sc.ne ho (notScr_seq hd))).trans ho, hc, n, hd⟩ hn (RVs.scr sc hs hr)
  | _, _, .rng hr hn => .rng ((hs.2 _ (sc.ne hr (notScr_fields rfl))).trans hr) hn
  | _, _, .ref e => .ref e
theorem RVs.scr (sc : Scr h c) (hs : Heap.SameBut c h h') : ∀ {l : List V} {vs : List Value}, RVs h adr l vs → RVs h' adr l vs
  | _, _, .nil => .nil
  | _, _, .cons r rs => .cons (RV.scr sc hs r) (RVs.scr sc hs rs)
end
theorem RO.scr {G : Glb} (sc : Scr h c) (hs : Heap.SameBut c h h') {o : MO} {a : Addr} (ne : a ≠ c) (r : RO G h adr o a) : RO G h' adr o a := by
  have k : ∀ o, h.get? a = Option.some o → h'.get? a = Option.some o := fun o e => (hs.2 _ ne).trans e
  cases o with
  | list l => obtain ⟨vs, n, h1, h2⟩ := r; exact ⟨vs, n, k _ h1, RVs.scr sc hs h2⟩
  | dictI l =>
    obtain ⟨kvs, ⟨o, es, ep, ho, h1⟩, h2⟩ := r
    exact ⟨kvs, ⟨o, es, ep, k o ho, h1⟩, All2.mono h2 fun _ _ q => ⟨q.1, q.2.scr sc hs⟩⟩
  | dictS l =>
    obtain ⟨kvs, ⟨o, es, ep, ho, h1⟩, h2⟩ := r
    exact ⟨kvs, ⟨o, es, ep, k o ho, h1⟩, All2.mono h2 fun _ _ q => ⟨q.1, q.2.scr sc hs⟩⟩
  | inst c d => obtain ⟨dx, h1, h2⟩ := r; exact ⟨dx, h1, k _ h2⟩
  | attrs l => obtain ⟨es, n, h1, h2⟩ := r; exact ⟨es, n, k _ h1, All2.mono h2 fun _ _ q => ⟨q.1, q.2.1, q.2.2.scr sc hs⟩⟩
end

theorem Ok.scr {G : Glb} {adr : List Addr} {σ : Hp} {h h' : Heap} {c : Addr} (ok : Ok G adr σ h) (hc : c ∉ adr) (h0 : G.h₀.get? c = none) (sc : Scr h c) (hs : Heap.SameBut c h h') : Ok G adr σ h' := by
  refine ⟨ok.len, ok.nodup, ok.base, fun b o e => (hs.2 b ?_).trans (ok.keep b o e), fun i o e => ?_⟩
  · rintro rfl; rw [h0] at e; cases e
  · obtain ⟨a, ha, r⟩ := ok.objs i o e
    exact ⟨a, ha, r.scr sc hs (fun z => hc (z ▸ mem_of_get ha))⟩

def isVar : Option NameKind → Bool
  | some .local => true
  | some .cell => true
  | some .free => true
  | _ => false
/-- the names of a frame, in a heap -/
structure Vals (G : Glb) (env : Env) (ρ : Ev) (adr : List Addr) (h : Heap) (m cm : Str → Option Value) : Prop where
  ns : h.Ns env.locals m
  cell : ∀ n c, env.cells.lookup n = some c → h.IsCell c (cm n)
  at_ : ∀ x v, ρ x = some v → x < G.N ∧ (isVar (env.kindOf (G.nm x)) = true → ∃ vv, RV h adr v vv ∧ ((env.kindOf (G.nm x) = some .local ∧ m (G.nm x) = some vv) ∨
    ((env.kindOf (G.nm x) = some .cell ∨ env.kindOf (G.nm x) = some .free) ∧ ∃ c, env.cells.lookup (G.nm x) = some c ∧ cm (G.nm x) = some vv)))

structure Fr (G : Glb) (env : Env) (fn : Bool) (ρ : Ev) (hE : Heap) (adr : List Addr) (h : Heap) : Prop where
  kind : env.scope.kind = .function
  glob : env.globals = mainGlobals
  blt : env.builtins = builtinsNs
  base : ∀ b o, G.h₀.get? b = some o → hE.get? b = some o
  lFresh : hE.get? env.locals = none
  lN : env.locals ∉ adr
  cN : ∀ n c, env.cells.lookup n = some c → c ∉ adr
  cFresh : fn = true → ∀ n c, env.kindOf n = some .cell → env.cells.lookup n = some c → hE.get? c = none
  hasC : ∀ n, (env.kindOf n = some .cell ∨ env.kindOf n = some .free) → ∃ c, env.cells.lookup n = some c
  apart : fn = true → env.cells.Pairwise fun x y => x.2 ≠ y.2
  vals : ∃ m cm, Vals G env ρ adr h m cm

theorem Fr.ext {G : Glb} {env : Env} {fn : Bool} {ρ : Ev} {hE h h' : Heap} {adr adr' : List Addr} (F : Fr G env fn ρ hE adr h) (x : Ext adr adr' h h') : Fr G env fn ρ hE adr' h' := by
  obtain ⟨m, cm, v⟩ := F.vals
  have kl : ∀ o, h.get? env.locals = some o → h'.get? env.locals = some o := fun o e => x.keep _ _ e F.lN
  obtain ⟨o, es, ep, ho, r⟩ := id v.ns
  refine { F with lN := x.notIn ho F.lN, cN := fun n c e => ?_, vals := ⟨m, cm, ⟨⟨o, es, ep, kl o ho, r⟩, fun n c e => ?_, fun y w e => ?_⟩⟩ }
  · obtain ⟨o, ho, _⟩ := v.cell n c e; exact x.notIn ho (F.cN n c e)
  · obtain ⟨o, ho, hd⟩ := v.cell n c e; exact ⟨o, x.keep _ _ ho (F.cN n c e), hd⟩
  · obtain ⟨hx, g⟩ := v.at_ y w e; exact ⟨hx, fun i => by obtain ⟨vv, r, q⟩ := g i; exact ⟨vv, r.mono x, q⟩⟩

/-- less is known -/
theorem Fr.less {G : Glb} {env : Env} {fn : Bool} {ρ ρ' : Ev} {hE h : Heap} {adr : List Addr} (F : Fr G env fn ρ hE adr h) (l : ∀ x v, ρ' x = some v → ρ x = some v) : Fr G env fn ρ' hE adr h := by
  obtain ⟨m, cm, v⟩ := F.vals
  exact { F with vals := ⟨m, cm, v.ns, v.cell, fun x w e => v.at_ x w (l x w e)⟩ }

def SS (s s' : Shared) : Prop := ∃ h tk, s' = { s with heap := h, toks := tk }
theorem SS.refl (s : Shared) : SS s s := ⟨s.heap, s.toks, rfl⟩
theorem SS.trans {s s' s'' : Shared} (a : SS s s') (b : SS s' s'') : SS s s'' := by
  obtain ⟨h, t, rfl⟩ := a; obtain ⟨h', t', rfl⟩ := b; exact ⟨h', t', rfl⟩
theorem Post.ss {G : Glb} {adr adr' : List Addr} {σ : Hp} {s s' : Shared} (p : Post G adr σ s adr' s') : SS s s' := p.1

/-- all that is known between two statements -/
structure Inv (G : Glb) (env : Env) (fn : Bool) (adrE : List Addr) (hE : Heap) (ρ : Ev) (adr : List Addr) (σ : Hp) (h : Heap) : Prop where
  fr : Fr G env fn ρ hE adr h
  ok : Ok G adr σ h
  ext : Ext adrE adr hE h

theorem Inv.post {G : Glb} {env : Env} {fn : Bool} {adrE adr adr' : List Addr} {hE : Heap} {ρ : Ev} {σ σ' : Hp} {s s' : Shared} (I : Inv G env fn adrE hE ρ adr σ s.heap) (p : Post G adr σ' s adr' s') :
    Inv G env fn adrE hE ρ adr' σ' s'.heap := ⟨I.fr.ext p.ext, p.ok, I.ext.trans p.ext⟩

/-- the names' own facts -/
structure NFacts (G : Glb) : Prop where
  inj : ∀ i j, i < G.N → j < G.N → G.nm i = G.nm j → i = j
  plain : ∀ i, i < G.N → (G.nm i == ("__classdict__" : Str)) = false ∧ (G.nm i == ("__debug__" : Str)) = false ∧ (G.nm i == (".0" : Str)) = false

section
variable {G : Glb} {env : Env} {fn : Bool} {ρ : Ev} {hE : Heap} {adr adrE : List Addr} {σ : Hp} {A : Around} {E : Value → Shared → Prop} {s : Shared} {n : Nat} {M : Model}

theorem loadOk {x : Nat} {v : V} {Q : Value → Shared → Prop} (nf : NFacts G) (F : Fr G env fn ρ hE adr s.heap) (e : ρ x = some v) (hv : isVar (env.kindOf (G.nm x)) = true) (k : ∀ vv, RV s.heap adr v vv → Q vv s) : wpAny M A (loadName env (G.nm x)) Q E s := by
  obtain ⟨m, cm, V⟩ := F.vals
  obtain ⟨hx, g⟩ := V.at_ x v e
  obtain ⟨vv, r, q⟩ := g hv
  rcases q with ⟨h1, h2⟩ | ⟨h1 | h1, c, h2, h3⟩
  · exact wpAny_loadName_local F.kind h1 V.ns h2 (k vv r)
  · exact wpAny_loadName_cell F.kind h1 h2 (h3 ▸ V.cell _ _ h2) (k vv r)
  · exact wpAny_loadName_free F.kind h1 h2 (h3 ▸ V.cell _ _ h2) (k vv r) (nf.plain x hx).1

/-- what one store into the frame keeps -/
structure Stored (adr : List Addr) (h h' : Heap) : Prop where
  rv : ∀ V v, RV h adr V v → RV h' adr V v
  plain : ∀ b o, h.get? b = some o → notScr o → h'.get? b = some o
  ex : ∀ b o, h.get? b = some o → ∃ o', h'.get? b = some o'
theorem Stored.refl (adr : List Addr) (h : Heap) : Stored adr h h := ⟨fun _ _ r => r, fun _ _ e _ => e, fun _ o e => ⟨o, e⟩⟩
theorem Stored.trans {h h' h'' : Heap} (a : Stored adr h h') (b : Stored adr h' h'') : Stored adr h h'' :=
  ⟨fun V v r => b.rv V v (a.rv V v r), fun c o e n => b.plain c o (a.plain c o e n) n, fun c o e => by obtain ⟨o', e'⟩ := a.ex c o e; exact b.ex c o' e'⟩

theorem storeNameOk {x : Nat} {v : V} {vv : Value} {Q : Unit → Shared → Prop} (nf : NFacts G) (I : Inv G env fn adrE hE ρ adr σ s.heap) (r : RV s.heap adr v vv) (hx : x < G.N)
    (hk : env.kindOf (G.nm x) = some .local ∨ (fn = true ∧ env.kindOf (G.nm x) = some .cell))
    (k : ∀ s', SS s s' → Inv G env fn adrE hE (upd x v ρ) adr σ s'.heap → Stored adr s.heap s'.heap → (∃ c, (c = env.locals ∨ ∃ n, env.cells.lookup n = some c) ∧ Heap.SameBut c s.heap s'.heap) → Q () s') : wpAny M A (storeName env (G.nm x) vv) Q E s := by
  obtain ⟨F, ok, ex⟩ := I
  obtain ⟨m, cm, V⟩ := F.vals
  have nb : ∀ c, hE.get? c = none → G.h₀.get? c = none := fun c e => by
    cases q : G.h₀.get? c with
    | none => rfl
    | some o => rw [F.base c o q] at e; cases e
  have ext : ∀ c, hE.get? c = none → ∀ h', Heap.SameBut c s.heap h' → Scr s.heap c → Ext adrE adr hE h' := fun c e h' hs sc =>
    ⟨ex.pre, fun a o q hn => (hs.2 a (by rintro rfl; rw [e] at q; cases q)).trans (ex.keep a o q hn), fun a o q => by
      obtain ⟨o', q'⟩ := ex.ex a o q
      exact ⟨o', (hs.2 a (by rintro rfl; rw [e] at q; cases q)).trans q'⟩⟩
  have st : ∀ c h', Heap.SameBut c s.heap h' → Scr s.heap c → (∃ o, h'.get? c = some o) → Stored adr s.heap h' := fun c h' hs sc hx => ⟨fun V v r => r.scr sc hs, fun b o e n => (hs.2 b (sc.ne e n)).trans e, fun b o e => by
    by_cases z : b = c
    · subst z; exact hx
    · exact ⟨o, (hs.2 b z).trans e⟩⟩
  rcases hk with hk | ⟨rfl, hk⟩
  · refine wpAny_storeName_local hk V.ns (fun h' hn hs => ?_) (by rw [F.kind]; rfl)
    have sc := Scr.of_ns V.ns
    refine k _ ⟨h', _, rfl⟩ ⟨{ F with vals := ⟨_, cm, ⟨hn, fun y c e => (V.cell y c e).sameBut hs ?_, fun y w e => ?_⟩⟩ }, ok.scr F.lN (nb _ F.lFresh) sc hs, ext _ F.lFresh h' hs sc⟩ (st _ h' hs sc (by obtain ⟨o, _, _, e, _⟩ := hn; exact ⟨o, e⟩)) ⟨_, .inl rfl, hs⟩
    · rintro rfl
      obtain ⟨o, e1, d1⟩ := V.cell y _ e
      obtain ⟨o2, es, ep, e2, d2, _⟩ := V.ns
      rw [e1] at e2; cases e2; rw [d1] at d2; cases d2
    · unfold upd at e
      by_cases hy : y = x
      · rw [if_pos hy] at e; cases e
        subst hy
        exact ⟨hx, fun _ => ⟨vv, r.scr sc hs, .inl ⟨hk, if_pos rfl⟩⟩⟩
      · rw [if_neg hy] at e
        obtain ⟨hy', g⟩ := V.at_ y w e
        have hne : G.nm y ≠ G.nm x := fun z => hy (nf.inj _ _ hy' hx z)
        refine ⟨hy', fun i => ?_⟩
        obtain ⟨ww, rw', q⟩ := g i
        exact ⟨ww, rw'.scr sc hs, q.imp (fun q => ⟨q.1, by rw [if_neg hne]; exact q.2⟩) id⟩
  · obtain ⟨c, hc⟩ := F.hasC _ (.inl hk)
    have hcell := V.cell _ _ hc
    refine wpAny_storeName_cell F.kind hk hc hcell fun h' hn hs => ?_
    have sc := Scr.of_cell hcell
    have hf := F.cFresh rfl _ _ hk hc
    have hlc : env.locals ≠ c := by
      rintro rfl
      obtain ⟨o, e1, d1⟩ := hcell
      obtain ⟨o2, es, ep, e2, d2, _⟩ := V.ns
      rw [e1] at e2; cases e2; rw [d1] at d2; cases d2
    refine k _ ⟨h', _, rfl⟩ ⟨{ F with vals := ⟨m, fun y => if y = G.nm x then some vv else cm y, ⟨V.ns.sameBut hs hlc, fun y c' e => ?_, fun y w e => ?_⟩⟩ }, ok.scr (F.cN _ _ hc) (nb _ hf) sc hs, ext _ hf h' hs sc⟩ (st _ h' hs sc (by obtain ⟨o, e, _⟩ := hn; exact ⟨o, e⟩)) ⟨_, .inr ⟨_, hc⟩, hs⟩
    · by_cases hy : y = G.nm x
      · subst hy
        rw [hc] at e; cases e
        simpa using hn
      · rw [if_neg hy]
        exact (V.cell y c' e).sameBut hs fun z => hy (name_of_addr (F.apart rfl) (mem_of_lookup e) (z ▸ mem_of_lookup hc))
    · unfold upd at e
      by_cases hy : y = x
      · rw [if_pos hy] at e; cases e
        subst hy
        exact ⟨hx, fun _ => ⟨vv, r.scr sc hs, .inr ⟨.inl hk, c, hc, if_pos rfl⟩⟩⟩
      · rw [if_neg hy] at e
        obtain ⟨hy', g⟩ := V.at_ y w e
        have hne : G.nm y ≠ G.nm x := fun z => hy (nf.inj _ _ hy' hx z)
        refine ⟨hy', fun i => ?_⟩
        obtain ⟨ww, rw', q⟩ := g i
        exact ⟨ww, rw'.scr sc hs, q.imp id (fun q => ⟨q.1, by obtain ⟨c', a, b⟩ := q.2; exact ⟨c', a, by rw [if_neg hne]; exact b⟩⟩)⟩
end
end Mine

end

section
namespace Mine
open PySem PySem.W PyProof.Rows PySem.Calls
set_option Elab.async false
set_option autoImplicit false

def ownIts : List String := ["enumerate", "zip", "dict_itemiterator", "dict_reverseitemiterator", "odict_iterator", "itertools.zip_longest", "itertools.pairwise"]

/-- an iterator over these values -/
structure Iter (G : Glb) (A : Around) (I : Addr) (l : List V) (fp : List Addr) (P : Nat → Value → Prop) (St : Nat → Heap → Prop) : Prop where
  W : Walks G.prog G.w A I fp [I] l.length P St
  live : ∀ i h, St i h → ∀ b ∈ fp, ∃ o, h.get? b = some o ∧ notScr o
  cls : ∀ i h, St i h → ∃ o n vs, h.get? I = some o ∧ o.cls = .type n ∧ o.data = .fields vs ∧ ownIts.contains n = false ∧ n ≠ "tuple" ∧ n ≠ "list" ∧ n ≠ "range"

section
variable {G : Glb} {adr : List Addr} {σ : Hp} {A : Around} {E : Value → Shared → Prop} {s : Shared} {n : Nat}

theorem ownTuple {target : Expr} {I : Addr} {v : Value} {Q : Unit → Shared → Prop} (h : ∃ o n vs, s.heap.get? I = some o ∧ o.cls = .type n ∧ o.data = .fields vs ∧ ownIts.contains n = false) (hQ : Q () s) :
    wpAny (model G.prog G.w) A (letOwnedTupleGo target (.ref I) v) Q E s := by
  obtain ⟨o, nn, vs, ho, hc, hd, hn⟩ := h
  cases target with
  | Tuple elts x1 pos =>
    cases v with
    | ref T =>
      unfold letOwnedTupleGo
      refine wpAny_bind (wpAny_load ho ?_)
      rw [hc, hd]
      show wpAny _ A (if (ownIts.contains nn && vs[0]? == some (rawInt T)) = true then _ else _) Q E s
      rw [if_neg (by rw [hn, Bool.false_and]; decide)]
      exact wpAny_pure hQ
    | _ => exact wpAny_pure hQ
  | List elts pos =>
    cases v with
    | ref T =>
      unfold letOwnedTupleGo
      refine wpAny_bind (wpAny_load ho ?_)
      rw [hc, hd]
      show wpAny _ A (if (ownIts.contains nn && vs[0]? == some (rawInt T)) = true then _ else _) Q E s
      rw [if_neg (by rw [hn, Bool.false_and]; decide)]
      exact wpAny_pure hQ
    | _ => exact wpAny_pure hQ
  | _ => exact wpAny_pure hQ

theorem iterOk {X : V} {vx : Value} {l : List V} {Q : Value → Shared → Prop} (hh : A.handled = none) (ok : Ok G adr σ s.heap) (ra : RV s.heap adr X vx) (e : itemsI X = some l)
    (k : ∀ I fp P St s', s.heap.get? I = none → (∃ h, s' = { s with heap := h }) → (∀ a o, s.heap.get? a = some o → s'.heap.get? a = some o) → Iter G A I l fp P St → St 0 s'.heap → (∀ b ∈ fp, b ∉ adr) →
      (∀ i v x, P i v → l[i]? = some x → RV s'.heap adr x v) → Q (.ref I) s') : wpAny (model G.prog G.w) A (pyIter vx) Q E s := by
  have fr := ok.fresh (size_none s.heap)
  cases ra with
  | @tup t _ vs ht hn rs =>
    simp only [itemsI] at e
    split at e <;> cases e
    obtain ⟨o, ho, _⟩ := id ht
    have hne : t ≠ s.heap.objs.size := Nat.ne_of_lt (Heap.lt_size ho)
    refine wpAny_pyIter_tuple ht ?_
    have kk : ∀ a o, s.heap.get? a = some o → (s.heap.push { cls := .type "tuple_iterator", data := .fields #[.ref t, .int 0 0] }).get? a = some o := fun _ _ e => Heap.get?_push_of_some _ e
    refine k _ [s.heap.objs.size, t] (fun i v => vs.toArray[i]? = some v) (fun i h => h.IsTupleIter s.heap.objs.size t i ∧ h.IsTuple t vs.toArray) _ (size_none _) ⟨_, rfl⟩ kk ⟨?_, ?_, ?_⟩ ⟨⟨_, Heap.get?_push_size _ rfl, rfl, rfl⟩, isTup_keep ht fun _ e => kk _ _ e⟩ ?_ ?_
    · have := Walks.tuple (prog := G.prog) (w := G.w) hh s.heap.objs.size t hne vs.toArray
      have e1 : vs.toArray.size = l.length := by rw [List.size_toArray, rs.length]
      rw [e1] at this
      exact this
    · rintro i h ⟨⟨o, h1, _, h3⟩, ⟨o', h4, _, nn, h6⟩⟩ b hb
      rcases List.mem_cons.mp hb with rfl | hb
      · exact ⟨o, h1, notScr_fields h3⟩
      · rw [List.mem_singleton.mp hb]; exact ⟨o', h4, notScr_seq h6⟩
    · rintro i h ⟨⟨o, h1, h2, h3⟩, _⟩
      exact ⟨o, _, _, h1, h2, h3, by decide, by decide, by decide, by decide⟩
    · intro b hb
      rcases List.mem_cons.mp hb with rfl | hb
      · exact fr
      · rw [List.mem_singleton.mp hb]; exact hn
    · intro i v x hv hx
      obtain ⟨v', hv', r⟩ := (rvs_iff.mp rs).get hx
      have : v' = v := by simp only [List.getElem?_toArray] at hv; rw [hv'] at hv; exact Option.some.inj hv
      subst this
      exact r.mono (ok.mono kk).2
  | @lst t _ vs ht hn rs =>
    simp only [itemsI] at e
    split at e <;> cases e
    obtain ⟨o, ho, _⟩ := id ht
    have hne : t ≠ s.heap.objs.size := Nat.ne_of_lt (Heap.lt_size ho)
    refine wpAny_pyIter_list ht ?_
    have kk : ∀ a o, s.heap.get? a = some o → (s.heap.push { cls := .type "list_iterator", data := .fields #[.ref t, .int 0 0] }).get? a = some o := fun _ _ e => Heap.get?_push_of_some _ e
    refine k _ [s.heap.objs.size, t] (fun i v => vs.toArray[i]? = some v) (fun i h => h.IsListIter s.heap.objs.size t i ∧ h.IsList t vs.toArray) _ (size_none _) ⟨_, rfl⟩ kk ⟨?_, ?_, ?_⟩ ⟨⟨_, Heap.get?_push_size _ rfl, rfl, rfl⟩, isList_keep ht fun _ e => kk _ _ e⟩ ?_ ?_
    · have := Walks.list (prog := G.prog) (w := G.w) hh s.heap.objs.size t hne vs.toArray
      have e1 : vs.toArray.size = l.length := by rw [List.size_toArray, rs.length]
      rw [e1] at this
      exact this
    · rintro i h ⟨⟨o, h1, _, h3⟩, ⟨o', h4, _, nn, h6⟩⟩ b hb
      rcases List.mem_cons.mp hb with rfl | hb
      · exact ⟨o, h1, notScr_fields h3⟩
      · rw [List.mem_singleton.mp hb]; exact ⟨o', h4, notScr_seq h6⟩
    · rintro i h ⟨⟨o, h1, h2, h3⟩, _⟩
      exact ⟨o, _, _, h1, h2, h3, by decide, by decide, by decide, by decide⟩
    · intro b hb
      rcases List.mem_cons.mp hb with rfl | hb
      · exact fr
      · rw [List.mem_singleton.mp hb]; exact hn
    · intro i v x hv hx
      obtain ⟨v', hv', r⟩ := (rvs_iff.mp rs).get hx
      have : v' = v := by simp only [List.getElem?_toArray] at hv; rw [hv'] at hv; exact Option.some.inj hv
      subst this
      exact r.mono (ok.mono kk).2
  | @rng a b r t u v hr hn =>
    obtain ⟨rfl, h1, h2, h3⟩ := rngItems e
    refine wpAny_pyIter_range hr h1 ?_
    rw [h2]
    have kk : ∀ y o, s.heap.get? y = some o → (s.heap.push { cls := .type "range_iterator", data := .fields #[rawInt a, rawInt ((b - a).toNat : Int), rawInt 1] }).get? y = some o := fun _ _ e => Heap.get?_push_of_some _ e
    have hlen : (intL a b).length = (b - a).toNat := by unfold intL; simp
    refine k _ [s.heap.objs.size] (fun i v => ∃ t, v = .int (a + i * 1) t) (fun i h => IsRangeIter h s.heap.objs.size (a + (i : Nat) * 1) (((b - a).toNat : Int) - (i : Nat)) 1) _ (size_none _) ⟨_, rfl⟩ kk ⟨?_, ?_, ?_⟩ ?_ ?_ ?_
    · rw [hlen]
      exact Walks.range (prog := G.prog) (w := G.w) hh s.heap.objs.size a 1 (b - a).toNat
    · intro i h h1 b hb
      rw [List.mem_singleton.mp hb]; exact ⟨_, h1, notScr_fields rfl⟩
    · intro i h h1
      exact ⟨_, _, _, h1, rfl, rfl, by decide, by decide, by decide, by decide⟩
    · have : (a + ((0 : Nat) : Int) * 1) = a := by simp
      rw [this]
      have : (((b - a).toNat : Int) - ((0 : Nat) : Int)) = ((b - a).toNat : Int) := by simp
      rw [this]
      exact Heap.get?_push_size _ rfl
    · intro b hb
      rw [List.mem_singleton.mp hb]; exact fr
    · rintro i v x ⟨t, rfl⟩ hx
      have : x = .int (a + i * 1) := by
        unfold intL at hx
        simp only [List.getElem?_map, Option.map_eq_some_iff] at hx
        obtain ⟨j, hj, rfl⟩ := hx
        have := List.getElem?_eq_some_iff.mp hj
        obtain ⟨h5, h6⟩ := this
        simp at h6
        subst h6
        congr 1; omega
      subst this
      exact .int _ _
  | _ => cases e
end

/-- may this name be stored into, in this scope -/
def mStN (G : Glb) (fn : Bool) (sc : Scope) (x : Nat) (id : Str) : Bool := id == G.nm x && decide (x < G.N) && (sc.names.lookup id == some .local || (fn && sc.names.lookup id == some .cell))
def mStNs (G : Glb) (fn : Bool) (sc : Scope) : List Nat → List Expr → Bool
  | [], [] => true
  | x :: xs, .Name id _ :: es => mStN G fn sc x id && mStNs G fn sc xs es
  | _, _ => false
def mTg (G : Glb) (fn : Bool) (sc : Scope) : Tg → Expr → Bool
  | .nm x, .Name id _ => mStN G fn sc x id
  | .tup xs, .Tuple es _ _ => mStNs G fn sc xs es
  | _, _ => false
def mTgs (G : Glb) (fn : Bool) (sc : Scope) : List Tg → List Expr → Bool
  | [], [] => true
  | t :: ts, e :: es => mTg G fn sc t e && mTgs G fn sc ts es
  | _, _ => false

section
variable {G : Glb} {env : Env} {fn : Bool} {ρ ρ' : Ev} {hE : Heap} {adr adrE : List Addr} {σ : Hp} {A : Around} {E : Value → Shared → Prop} {s : Shared} {n : Nat}

theorem mStN_of {sc : Scope} {x : Nat} {id : Str} (h : mStN G fn sc x id = true) : id = G.nm x ∧ x < G.N ∧ (sc.names.lookup (G.nm x) = some .local ∨ (fn = true ∧ sc.names.lookup (G.nm x) = some .cell)) := by
  unfold mStN at h
  simp only [Bool.and_eq_true, Bool.or_eq_true, beq_iff_eq, decide_eq_true_eq] at h
  obtain ⟨⟨rfl, h2⟩, h3⟩ := h
  exact ⟨rfl, h2, h3⟩

theorem bindNames (nf : NFacts G) : ∀ {xs : List Nat} {es : List Expr} {l : List V} {vs : List Value} {ρ : Ev} {s : Shared} {Q : Unit → Shared → Prop}, mStNs G fn env.scope xs es = true → xs.length = l.length → RVs s.heap adr l vs → Inv G env fn adrE hE ρ adr σ s.heap →
    (∀ s', SS s s' → Inv G env fn adrE hE (updL xs l ρ) adr σ s'.heap → Stored adr s.heap s'.heap → Q () s') →
    (assignEach es env).length = vs.length ∧ (assignEach es env).findIdx? (·.1) = none ∧ wpAny (model G.prog G.w) A (assignInOrder ((assignEach es env).map (·.2)) vs) Q E s
  | [], [], l, vs, ρ, s, Q, _, hl, rs, I, k => by
    cases l with
    | nil => cases rs; exact ⟨rfl, rfl, wpAny_pure (k _ (SS.refl _) I (Stored.refl _ _))⟩
    | cons _ _ => cases hl
  | x :: xs, e :: es, l, vs, ρ, s, Q, hm, hl, rs, I, k => by
    cases e <;> try (cases hm; done)
    rename_i id pos
    obtain ⟨h1, h2⟩ := Bool.and_eq_true_iff.mp hm
    obtain ⟨rfl, hx, hk⟩ := mStN_of h1
    cases l with
    | nil => cases hl
    | cons v l =>
    cases rs with
    | @cons _ vv _ vs r rs =>
      have hl' : xs.length = l.length := by simpa using hl
      refine ⟨?_, ?_, ?_⟩
      · show (assignEach es env).length + 1 = vs.length + 1
        have := (bindNames nf (Q := fun _ _ => True) (ρ := ρ) h2 hl' rs I fun _ _ _ _ => trivial).1
        omega
      · have := (bindNames nf (Q := fun _ _ => True) (ρ := ρ) h2 hl' rs I fun _ _ _ _ => trivial).2.1
        show List.findIdx? _ ((false, _) :: assignEach es env) = none
        rw [List.findIdx?_cons]
        simp [this]
      · show wpAny _ A (assignInOrder (assign (.Name (G.nm x) pos) env :: (assignEach es env).map (·.2)) (vv :: vs)) Q E s
        refine wpAny_assignInOrder_more (wpAny_assign_Name (storeNameOk nf I r hx hk fun s' hs I' st _ => ?_))
        exact (bindNames nf h2 hl' (rvs_iff.mpr (All2.mono (rvs_iff.mp rs) fun _ _ q => st.rv _ _ q)) I' fun s'' hs' I'' st' => k s'' (hs.trans hs') I'' (st.trans st')).2.2
  | [], _ :: _, _, _, _, _, _, h, _, _, _, _ => by cases h
  | _ :: _, [], _, _, _, _, _, h, _, _, _, _ => by cases h

theorem unpackOk (nf : NFacts G) (hh : A.handled = none) {xs : List Nat} {es : List Expr} {l : List V} {vv : Value} {Q : Unit → Shared → Prop} {x1 : Nat} {pos : Pos} (hm : mStNs G fn env.scope xs es = true) (hl : xs.length = l.length) (r : RV s.heap adr (.tup l) vv)
    (I : Inv G env fn adrE hE ρ adr σ s.heap) (k : ∀ s', SS s s' → Inv G env fn adrE hE (updL xs l ρ) adr σ s'.heap → Stored adr s.heap s'.heap → Q () s') :
    wpAny (model G.prog G.w) A (assign (.Tuple es x1 pos) env vv) Q E s := by
  cases r with
  | @tup t _ vs ht hn rs =>
    have hsz : (assignEach es env).length = vs.toArray.size ∧ (assignEach es env).findIdx? (·.1) = none := by
      have := bindNames nf (A := A) (E := E) (Q := fun _ _ => True) (ρ := ρ) hm hl rs I fun _ _ _ _ => trivial
      exact ⟨by rw [List.size_toArray]; exact this.1, this.2.1⟩
    refine wpAny_assign_Tuple hh ht hsz.1 hsz.2 fun h' hb => ?_
    have kk : ∀ a o, s.heap.get? a = some o → h'.get? a = some o := fun a o e => hb a o (Nat.ne_of_lt (Heap.lt_size e)) e
    have p := Post.grow I.ok (h := h') s.toks kk
    have := bindNames nf (A := A) (E := E) (s := { s with heap := h' }) (Q := Q) hm hl (RVs.mono p.ext rs) (I.post p) fun s'' hs' I'' st' =>
      k s'' (SS.trans ⟨h', s.toks, rfl⟩ hs') I'' ⟨fun V v r => st'.rv V v (r.mono p.ext), fun b o e n => st'.plain b o (kk b o e) n, fun b o e => st'.ex b o (kk b o e)⟩
    simpa using this.2.2

theorem bindTgOk (nf : NFacts G) (hh : A.handled = none) {t : Tg} {e : Expr} {v : V} {vv : Value} {Q : Unit → Shared → Prop} (hm : mTg G fn env.scope t e = true) (hb : bindTg t v ρ = some ρ') (r : RV s.heap adr v vv)
    (I : Inv G env fn adrE hE ρ adr σ s.heap) (k : ∀ s', SS s s' → Inv G env fn adrE hE ρ' adr σ s'.heap → Stored adr s.heap s'.heap → Q () s') :
    wpAny (model G.prog G.w) A (assign e env vv) Q E s := by
  cases t with
  | nm x =>
    cases e <;> try (cases hm; done)
    cases hb
    obtain ⟨rfl, hx, hk⟩ := mStN_of hm
    exact wpAny_assign_Name (storeNameOk nf I r hx hk fun s' hs I' st _ => k s' hs I' st)
  | tup xs =>
    cases e <;> try (cases hm; done)
    cases v <;> try (cases hb; done)
    unfold bindTg at hb
    dsimp only at hb
    split at hb
    · rename_i hc
      cases hb
      exact unpackOk nf hh hm hc.1 r I k
    · cases hb

theorem bindTgsOk (nf : NFacts G) (hh : A.handled = none) : ∀ {ts : List Tg} {es : List Expr} {l : List V} {vs : List Value} {ρ ρ' : Ev} {s : Shared} {Q : Unit → Shared → Prop}, mTgs G fn env.scope ts es = true → bindTgs ts l ρ = some ρ' → RVs s.heap adr l vs → Inv G env fn adrE hE ρ adr σ s.heap →
    (∀ s', SS s s' → Inv G env fn adrE hE ρ' adr σ s'.heap → Stored adr s.heap s'.heap → Q () s') →
    (assignEach es env).length = vs.length ∧ (assignEach es env).findIdx? (·.1) = none ∧ wpAny (model G.prog G.w) A (assignInOrder ((assignEach es env).map (·.2)) vs) Q E s
  | [], [], l, vs, ρ, ρ', s, Q, _, hb, rs, I, k => by
    cases l with
    | nil => cases rs; cases hb; exact ⟨rfl, rfl, wpAny_pure (k _ (SS.refl _) I (Stored.refl _ _))⟩
    | cons _ _ => cases hb
  | t :: ts, e :: es, l, vs, ρ, ρ', s, Q, hm, hb, rs, I, k => by
    obtain ⟨h1, h2⟩ := Bool.and_eq_true_iff.mp hm
    cases l with
    | nil => cases hb
    | cons v l =>
    obtain ⟨ρ₁, hb1, hb2⟩ := Option.bind_eq_some_iff.mp hb
    cases rs with
    | @cons _ vv _ vs r rs =>
      have he : assignEach (e :: es) env = (false, assign e env) :: assignEach es env := by
        cases t <;> cases e <;> first | rfl | cases h1
      have len : ∀ {ts : List Tg} {es : List Expr} {l : List V} {vs : List Value} {ρ ρ' : Ev}, mTgs G fn env.scope ts es = true → bindTgs ts l ρ = some ρ' → RVs s.heap adr l vs → (assignEach es env).length = vs.length ∧ (assignEach es env).findIdx? (·.1) = none := by
        intro ts
        induction ts with
        | nil =>
          intro es l vs ρ ρ' hm hb rs
          cases es with
          | nil => cases l with
            | nil => cases rs; exact ⟨rfl, rfl⟩
            | cons _ _ => cases hb
          | cons _ _ => cases hm
        | cons t ts ih =>
          intro es l vs ρ ρ' hm hb rs
          cases es with
          | nil => cases hm
          | cons e es =>
          cases l with
          | nil => cases hb
          | cons v l =>
          cases rs with
          | cons r rs =>
            obtain ⟨h1, h2⟩ := Bool.and_eq_true_iff.mp hm
            obtain ⟨ρ₁, hb1, hb2⟩ := Option.bind_eq_some_iff.mp hb
            have he : assignEach (e :: es) env = (false, assign e env) :: assignEach es env := by
              cases t <;> cases e <;> first | rfl | cases h1
            obtain ⟨a, b⟩ := ih h2 hb2 rs
            rw [he]
            refine ⟨by simp [a], ?_⟩
            rw [List.findIdx?_cons]
            simp [b]
      obtain ⟨a, b⟩ := len (ts := t :: ts) (ρ := ρ) hm hb (.cons r rs)
      refine ⟨a, b, ?_⟩
      rw [he]
      show wpAny _ A (assignInOrder (assign e env :: (assignEach es env).map (·.2)) (vv :: vs)) Q E s
      refine wpAny_assignInOrder_more (bindTgOk nf hh h1 hb1 r I fun s' hs I' st => ?_)
      exact (bindTgsOk nf hh h2 hb2 (rvs_iff.mpr (All2.mono (rvs_iff.mp rs) fun _ _ q => st.rv _ _ q)) I' fun s'' hs' I'' st' => k s'' (hs.trans hs') I'' (st.trans st')).2.2
  | [], _ :: _, _, _, _, _, _, _, h, _, _, _, _ => by cases h
  | _ :: _, [], _, _, _, _, _, _, h, _, _, _, _ => by cases h
end
end Mine

end

section
namespace Mine
open PySem PySem.W PyProof.Rows PySem.Calls
set_option Elab.async false
set_option autoImplicit false

def glF : List Nat := [0, 1, 2, 3, 4, 5, 6, 7, 24, 25, 26, 27, 28, 29, 30]
def b1 : O1 → Option (Str × Value)
  | .len => some ("len", .builtin "len")
  | .tuple => some ("tuple", .type "tuple")
  | .maxL => some ("max", .builtin "max")
  | .minL => some ("min", .builtin "min")
  | .dictC => some ("dict", .type "dict")
  | .abs => some ("abs", .builtin "abs")
  | .sum => some ("sum", .builtin "sum")
  | .rng1 => some ("range", .type "range")
  | _ => none
def b2 : O2 → Option (Str × Value)
  | .max2 => some ("max", .builtin "max")
  | .min2 => some ("min", .builtin "min")
  | .rng2 => some ("range", .type "range")
  | _ => none
def binO : O2 → Option Operator
  | .add => some .Add
  | .sub => some .Sub
  | .mul => some .Mult
  | .fdiv => some .FloorDiv
  | .fmod => some .Mod
  | .pow => some .Pow
  | _ => none
def cmpO : O2 → Option CmpOp
  | .eq => some .Eq
  | .ne => some .NotEq
  | .lt => some .Lt
  | .le => some .LtE
  | .gt => some .Gt
  | .ge => some .GtE
  | .isB => some .Is
  | .isNB => some .IsNot
  | .inn => some .In
  | _ => none
/-- no call of super below -/
def baseOk : Expr → Bool
  | .Name .. => true
  | .Attribute .. => true
  | .Subscript .. => true
  | _ => false
def relabS (sc scope : Scope) : Scope :=
  { scope with names := scope.names.map fun (n, k) => if (k == .free && sc.kind == .function && sc.names.lookup n == some .cell) then (n, .cell) else (n, k) }
def scOk (G : Glb) (sc : Scope) (ls : List Nat) (scope : Scope) : Bool :=
  scope.kind == .function && decide (scope.names.map (·.1)).Nodup && scope.names.all fun (n, k) => match k with
    | .local => n == (".0" : Str) || ls.any fun y => decide (y < G.N) && G.nm y == n
    | .free => sc.names.lookup n == some .cell || sc.names.lookup n == some .free
    | .globalImplicit => true
    | _ => false
def glN (sc : Scope) (id : Str) : Bool := sc.names.lookup id == some .globalImplicit && !(id == ("__debug__" : Str))
def isKey (k : Str) : Expr → Bool
  | .Constant (.str s) _ _ => k == s
  | _ => false
def mKeys : List Str → List (Option Expr) → Bool
  | [], [] => true
  | k :: ks, some e :: es => isKey k e && mKeys ks es
  | _, _ => false
def tgNames : Tg → List Nat
  | .nm x => [x]
  | .tup l => l

mutual
def mE (G : Glb) : Scope → Ex → Expr → Bool
  | _, .none, e => match e with
    | .Constant .none _ _ => true
    | _ => false
  | _, .bool b, e => match e with
    | .Constant (.bool c) _ _ => b == c
    | _ => false
  | _, .int i, e => match e with
    | .Constant (.int j) _ _ => i == j
    | _ => false
  | _, .str x, e => match e with
    | .Constant (.str y) _ _ => x == y
    | _ => false
  | sc, .var x, e => match e with
    | .Name id _ => id == G.nm x && isVar (sc.names.lookup id) && decide (x < G.N)
    | _ => false
  | sc, .tup es, e => match e with
    | .Tuple l _ _ => mEs G sc es l && decide (l.length ≤ 100)
    | _ => false
  | sc, .lstF es, e => match e with
    | .List l _ => mEs G sc es l && decide (l.length ≤ 100)
    | _ => false
  | _, .lstM, e => match e with
    | .List [] _ => true
    | _ => false
  | _, .dict0, e => match e with
    | .Dict [] [] _ => true
    | _ => false
  | sc, .dictS ks es, e => match e with
    | .Dict keys vals _ => mKeys ks keys && mEs G sc es vals && decide (ks.length = vals.length ∧ ks.length ≤ 15 ∧ ks ≠ [] ∧ ks.Nodup)
    | _ => false
  | sc, .op1 o a, e => match e with
    | .UnaryOp .USub x _ => decide (o = .neg) && mE G sc a x
    | .UnaryOp .Not x _ => decide (o = .not) && mE G sc a x
    | .Call (.Name id _) [x] [] _ => (match b1 o with | some p => p.1 == id | none => false) && glN sc id && mE G sc a x
    | .Call (.Attribute x m apos) [] [] pos => decide (o = .popL) && m == ("pop" : Str) && apos.endLine == pos.line && baseOk x && mE G sc a x
    | _ => false
  | sc, .op2 o a b, e => match e with
    | .BinOp l op r _ => decide (binO o = some op) && mE G sc a l && mE G sc b r
    | .Compare l [op] [r] _ => decide (cmpO o = some op) && mE G sc a l && mE G sc b r
    | .Subscript v (.Slice none (some i) none _) _ => decide (o = .slTo) && mE G sc a v && mE G sc b i
    | .Subscript v (.Slice (some i) none none _) _ => decide (o = .slFrom) && mE G sc a v && mE G sc b i
    | .Subscript v i _ => decide (o = .idx) && mE G sc a v && mE G sc b i
    | .Call (.Name id _) [x, y] [] _ => (match b2 o with | some p => p.1 == id | none => false) && glN sc id && mE G sc a x && mE G sc b y
    | .Call (.Attribute x m apos) [y] [] pos => decide (o = .app) && m == ("append" : Str) && apos.endLine == pos.line && baseOk x && mE G sc a x && mE G sc b y
    | _ => false
  | sc, .and2 a b, e => match e with
    | .BoolOp .And [x, y] _ => mE G sc a x && mE G sc b y
    | _ => false
  | sc, .ite c a b, e => match e with
    | .IfExp t x y _ => mC G sc c t && mE G sc a x && mE G sc b y
    | _ => false
  | sc, .attr a n, e => match e with
    | .Attribute x m _ => m == G.nm n && G.atN n && baseOk x && mE G sc a x
    | _ => false
  | sc, .call f es, e => match e with
    | .Call (.Name id _) args [] _ => id == G.fnN f && glF.contains f && glN sc id && mEs G sc es args
    | _ => false
  | sc, .meth a n es, e => match e with
    | .Call (.Attribute x m apos) args [] pos => m == G.nm n && decide (n < G.N) && apos.endLine == pos.line && baseOk x && decide (args.length ≤ 20) && mE G sc a x && mEs G sc es args
    | _ => false
  | sc, .new c es, e => match e with
    | .Call (.Name id _) args [] _ => id == G.clN c && decide (c < 2) && glN sc id && mEs G sc es args
    | _ => false
  | _, .sup _ _, _ => false
  | sc, .comp ls elt t it ifs rest, e => match e with
    | .ListComp elt' (g :: gs) scope _ => g.is_async == 0 && scOk G sc ls scope && mE G sc it g.iter && mTg G false (relabS sc scope) t g.target && (tgNames t).all (ls.contains ·) && mCs G (relabS sc scope) ifs g.ifs &&
        mG G (relabS sc scope) (ls.filter fun y => !(tgNames t).contains y) rest gs && mE G (relabS sc scope) elt elt'
    | _ => false
def mEs (G : Glb) : Scope → Exs → List Expr → Bool
  | _, .nil, [] => true
  | sc, .cons e es, x :: xs => mE G sc e x && mEs G sc es xs
  | _, _, _ => false
def mC (G : Glb) : Scope → Cn → Expr → Bool
  | sc, .cmp o a b, e => match e with
    | .Compare l [op] [r] _ => decide (cmpO o = some op) && mE G sc a l && mE G sc b r
    | _ => false
  | sc, .not c, e => match e with
    | .UnaryOp .Not x _ => mC G sc c x
    | _ => false
  | sc, .and cs, e => match e with
    | .BoolOp .And xs _ => mCs G sc cs xs
    | _ => false
  | sc, .or cs, e => match e with
    | .BoolOp .Or xs _ => mCs G sc cs xs
    | _ => false
  | sc, .ite c a b, e => match e with
    | .IfExp t x y _ => mC G sc c t && mC G sc a x && mC G sc b y
    | _ => false
  | sc, .val a, e => match e with
    | .Call f xs kw pos => mE G sc a (.Call f xs kw pos)
    | _ => false
def mCs (G : Glb) : Scope → Cns → List Expr → Bool
  | _, .nil, [] => true
  | sc, .cons c cs, x :: xs => mC G sc c x && mCs G sc cs xs
  | _, _, _ => false
def mG (G : Glb) : Scope → List Nat → Gens → List Comprehension → Bool
  | _, _, .nil, [] => true
  | sc, ds, .cons t it ifs rest, g :: gs => g.is_async == 0 && mE G sc it g.iter && mTg G false sc t g.target && (tgNames t).all (ds.contains ·) && mCs G sc ifs g.ifs && mG G sc (ds.filter fun y => !(tgNames t).contains y) rest gs
  | _, _, _, _ => false
end

def noSwap (sc : Scope) (id : Str) : Expr → Bool
  | .ListComp .. => !(sc.names.lookup id == some .local)
  | .SetComp .. => false
  | .DictComp .. => false
  | _ => true
def isComp : Expr → Bool
  | .ListComp .. => true
  | .SetComp .. => true
  | .DictComp .. => true
  | _ => false
def nameOf (sc : Scope) (line : Nat) : Expr → Option Str
  | .Name id pos => if sc.names.lookup id == some .local && pos.line == line then some id else none
  | _ => none
def isStar : Expr → Bool
  | .Starred .. => true
  | _ => false
/-- what the model answers of two or three stores -/
def swapN (sc : Scope) (ts : List Expr) (value : Expr) : Option (List Str) := match value with
  | .Tuple vs _ _ =>
    if !(ts.length == 2 || ts.length == 3) || vs.length != ts.length then none
    else
      let names := ts.filterMap (nameOf sc ((ts.head?.map (·.pos.line)).getD 0))
      if names.length != ts.length || names.eraseDups.length != names.length then none else some names
  | _ => none
def swapGood : Expr → Bool
  | .Tuple vs _ _ => !(vs.any isStar) && !(vs.all (foldedForSure 8)) && !(vs.all (constantsAlone 8))
  | _ => true

mutual
def mS (G : Glb) (sc : Scope) : St → Stmt → Bool
  | .ret e, st => match st with
    | .Return (some x) _ => mE G sc e x
    | .Return none _ => (match e with | .none => true | _ => false)
    | _ => false
  | .asg x e, st => match st with
    | .Assign [.Name id _] value _ => mStN G true sc x id && mE G sc e value && noSwap sc id value
    | _ => false
  | .asgU x e, st => match st with
    | .Assign [.Name id p'] (.ListComp elt gens scope cpos) _ => mStN G true sc x id && sc.names.lookup id == some .local && p'.line == cpos.line && !(scope.names.any fun (n, k) => n == id && (k == .local || k == .cell)) && mE G sc e (.ListComp elt gens scope cpos)
    | _ => false
  | .asgT ts e, st => match st with
    | .Assign [.Tuple elts _ _] value _ => mTgs G true sc ts elts && mE G sc e value && !(isComp value) && decide (swapN sc elts value = none) && swapGood value
    | _ => false
  | .asgS xs es, st => match st with
    | .Assign [.Tuple elts _ _] (.Tuple vals k p) _ => mStNs G true sc xs elts && decide (xs.Nodup) && mEs G sc es vals && decide (vals.length ≤ 100) && decide (swapN sc elts (.Tuple vals k p) = some (xs.map G.nm)) && swapGood (.Tuple vals k p)
    | _ => false
  | .asgA o n e, st => match st with
    | .Assign [.Attribute x m _] value _ => m == G.nm n && G.atN n && mE G sc o x && mE G sc e value && !(isComp value)
    | _ => false
  | .asgI o i e, st => match st with
    | .Assign [.Subscript x y _] value _ => mE G sc o x && mE G sc i y && mE G sc e value
    | _ => false
  | .expr e, st => match st with
    | .Expr x _ => mE G sc e x && !(isComp x)
    | _ => false
  | .ife c a b, st => match st with
    | .If t x y _ => mC G sc c t && mSs G sc a x && mSs G sc b y
    | _ => false
  | .for_ t it b, st => match st with
    | .For t' it' body [] _ => (match t with | .nm _ => true | _ => false) && mTg G true sc t t' && mE G sc it it' && mSs G sc b body
    | _ => false
  | .whl _ c b, st => match st with
    | .While t body [] _ => mC G sc c t && mSs G sc b body
    | _ => false
  | .brk, st => match st with
    | .Break _ => true
    | _ => false
def mSs (G : Glb) (sc : Scope) : Sts → List Stmt → Bool
  | .nil, [] => true
  | .cons s ss, x :: xs => mS G sc s x && mSs G sc ss xs
  | _, _ => false
end
end Mine

end

section
namespace Mine
open PySem PySem.W PyProof.Rows PySem.Calls
set_option Elab.async false
set_option autoImplicit false

def blts : List (Str × Value) := [("len", .builtin "len"), ("tuple", .type "tuple"), ("max", .builtin "max"), ("min", .builtin "min"), ("dict", .type "dict"), ("abs", .builtin "abs"), ("sum", .builtin "sum"), ("range", .type "range")]

structure GF (G : Glb) (T : Tab) : Prop extends CFacts G T where
  nf : NFacts G
  nsG : G.h₀.Ns mainGlobals G.mg
  nsB : G.h₀.Ns builtinsNs G.mb
  fnG : ∀ f ∈ glF, G.mg (G.fnN f) = some (.ref (G.fnA f)) ∧ keepIn G.K (.ref (G.fnA f)) = true
  mtK : ∀ c m f, T.mt c m = some f → keepIn G.K (.ref (G.fnA f)) = true
  clG : ∀ c, c < 2 → G.mg (G.clN c) = some (.ref (G.cls c)) ∧ keepIn G.K (.ref (G.cls c)) = true
  nolim : G.h₀.NoLimit
  bl : ∀ p ∈ blts, G.mg p.1 = none ∧ G.mb p.1 = some p.2

/-- inside a body: the room of the calls below, and a little more -/
def RoomB (A : Around) (n : Nat) : Prop := A.handled = none ∧ A.depth + 5 * n + 3 ≤ 900 ∧ A.units + 60 * n + 40 ≤ 9000
theorem RoomB.room {A : Around} {n : Nat} (h : RoomB A n) : Room A n := ⟨h.1, by have := h.2.1; omega, by have := h.2.2; omega⟩

section
variable (G : Glb) (C : Orc) (n : Nat)

def SndE (x : Ex) : Prop := ∀ {e : Expr} {env : Env} {fn : Bool} {ρ : Ev} {hE : Heap} {adr : List Addr} {σ σ' : Hp} {s : Shared} {A : Around} {Q : Value → Shared → Prop} {Er : Value → Shared → Prop} {X : V},
  mE G env.scope x e = true → ev C x ρ σ = some (X, σ') → Fr G env fn ρ hE adr s.heap → Ok G adr σ s.heap → RoomB A n → Kv G adr s X σ' Q → wpAny (model G.prog G.w) A (eval e env) Q Er s
def SndEs (x : Exs) : Prop := ∀ {l : List Expr} {env : Env} {fn : Bool} {ρ : Ev} {hE : Heap} {adr : List Addr} {σ σ' : Hp} {s : Shared} {A : Around} {Q : List Value → Shared → Prop} {Er : Value → Shared → Prop} {Xs : List V} {pos : Pos},
  mEs G env.scope x l = true → evs C x ρ σ = some (Xs, σ') → Fr G env fn ρ hE adr s.heap → Ok G adr σ s.heap → RoomB A n →
  (∀ adr' vs s', Post G adr σ' s adr' s' → RVs s'.heap adr' Xs vs → Q vs s') → wpAny (model G.prog G.w) A (spliced (backTo pos (starEach l env))) Q Er s
def SndC (x : Cn) : Prop := ∀ {e : Expr} {env : Env} {fn : Bool} {ρ : Ev} {hE : Heap} {adr : List Addr} {σ σ' : Hp} {s : Shared} {A : Around} {Q : Bool → Shared → Prop} {Er : Value → Shared → Prop} {b : Bool},
  mC G env.scope x e = true → evc C x ρ σ = some (b, σ') → Fr G env fn ρ hE adr s.heap → Ok G adr σ s.heap → RoomB A n →
  (∀ adr' s', Post G adr σ' s adr' s' → Q b s') → wpAny (model G.prog G.w) A (isTrue e env (eval e env)) Q Er s
def ifsOf (ifs : List Expr) (env : Env) : Sem Bool := forIn ifs true fun c r => if r = true then do let ok ← isTrue c env (eval c env); pure (ForInStep.yield ok) else pure (ForInStep.yield r)
def SndCs (x : Cns) : Prop := ∀ {l : List Expr} {env : Env} {fn : Bool} {ρ : Ev} {hE : Heap} {adr : List Addr} {σ σ' : Hp} {s : Shared} {A : Around} {Q : Bool → Shared → Prop} {Er : Value → Shared → Prop} {b : Bool},
  mCs G env.scope x l = true → Fr G env fn ρ hE adr s.heap → Ok G adr σ s.heap → RoomB A n → (∀ adr' s', Post G adr σ' s adr' s' → Q b s') →
  (evca C x ρ σ = some (b, σ') → wpAny (model G.prog G.w) A (allTrue .And l env) Q Er s ∧ wpAny (model G.prog G.w) A (ifsOf l env) Q Er s) ∧
  (evco C x ρ σ = some (b, σ') → wpAny (model G.prog G.w) A (allTrue .Or l env) Q Er s)
end

section
variable {G : Glb} {adr adr₁ : List Addr} {σ σ₁ σ' : Hp} {s s₁ : Shared} {X : V} {Q : Value → Shared → Prop}
theorem Kv.step (p : Post G adr σ₁ s adr₁ s₁) (k : Kv G adr s X σ' Q) : Kv G adr₁ s₁ X σ' Q := fun _ _ _ q r => k _ _ _ (p.trans q) r
theorem step0 {P : List Addr → Shared → Prop} (p : Post G adr σ₁ s adr₁ s₁) (k : ∀ adr' s', Post G adr σ' s adr' s' → P adr' s') : ∀ adr' s', Post G adr₁ σ' s₁ adr' s' → P adr' s' := fun _ _ q => k _ _ (p.trans q)
end

section
variable {G : Glb} {T : Tab} {C : Orc} {n : Nat}

theorem mE_starEach {sc : Scope} {x : Ex} {e : Expr} {rest : List Expr} {env : Env} (h : mE G sc x e = true) : starEach (e :: rest) env = (false, eval e env) :: starEach rest env := by
  cases e <;> first | rfl | (exfalso; cases x <;> simp [mE] at h)
theorem mE_notSet {sc : Scope} {x : Ex} {e : Expr} (h : mE G sc x e = true) : (∀ op, behindInMarks op e = false) ∧ (∀ env y, foldedSetIterable e env y = pure y) := by
  cases e <;> first | exact ⟨fun _ => rfl, fun _ _ => rfl⟩ | (exfalso; cases x <;> simp [mE] at h)
theorem mEs_plain {sc : Scope} {pos : Pos} {env : Env} : ∀ {x : Exs} {l : List Expr}, mEs G sc x l = true → (backTo pos (starEach l env)).any (·.1) = false ∧ (backTo pos (starEach l env)).all (fun x => !x.1) = true
  | .nil, [], _ => ⟨rfl, rfl⟩
  | .cons x xs, e :: es, h => by
    unfold mEs at h
    obtain ⟨h1, h2⟩ := Bool.and_eq_true_iff.mp h
    obtain ⟨a, b⟩ := mEs_plain (pos := pos) (env := env) h2
    rw [mE_starEach h1]
    exact ⟨by show (false || (backTo pos (starEach es env)).any (·.1)) = false; rw [a]; rfl, by show (!false && (backTo pos (starEach es env)).all fun x => !x.1) = true; rw [b]; rfl⟩
  | .nil, _ :: _, h => by simp [mEs] at h
  | .cons _ _, [], h => by simp [mEs] at h
theorem evs_len : ∀ {x : Exs} {l : List Expr} {sc : Scope} {ρ : Ev} {σ σ' : Hp} {Xs : List V}, mEs G sc x l = true → evs C x ρ σ = some (Xs, σ') → Xs.length = l.length
  | .nil, [], _, _, _, _, _, _, e => by unfold evs at e; cases e; rfl
  | .cons x xs, e :: es, sc, ρ, σ, σ', Xs, h, he => by
    unfold mEs at h
    obtain ⟨h1, h2⟩ := Bool.and_eq_true_iff.mp h
    unfold evs at he
    obtain ⟨r, hr, he⟩ := Option.bind_eq_some_iff.mp he
    obtain ⟨q, hq, he⟩ := Option.map_eq_some_iff.mp he
    cases he
    simp [evs_len h2 hq]
  | .nil, _ :: _, _, _, _, _, _, h, _ => by simp [mEs] at h
  | .cons _ _, [], _, _, _, _, _, h, _ => by simp [mEs] at h

theorem snd_nil : SndEs G C n .nil := by
  intro l env fn ρ hE adr σ σ' s A Q Er Xs pos h he F ok hA k
  cases l with
  | nil => unfold evs at he; cases he; exact wpAny_items_nil (k adr [] s (Post.refl ok) .nil)
  | cons _ _ => simp [mEs] at h
theorem snd_cons {x : Ex} {xs : Exs} (hx : SndE G C n x) (hs : SndEs G C n xs) : SndEs G C n (.cons x xs) := by
  intro l env fn ρ hE adr σ σ' s A Q Er Xs pos h he F ok hA k
  cases l with
  | nil => simp [mEs] at h
  | cons e es =>
    unfold mEs at h
    obtain ⟨h1, h2⟩ := Bool.and_eq_true_iff.mp h
    unfold evs at he
    obtain ⟨⟨X, σ₁⟩, hr, he⟩ := Option.bind_eq_some_iff.mp he
    obtain ⟨⟨Ys, σ₂⟩, hq, he⟩ := Option.map_eq_some_iff.mp he
    cases he
    refine wpAny_items_cons (hx h1 hr F ok hA fun adr₁ v s₁ p₁ r₁ => hs h2 hq (F.ext p₁.ext) p₁.ok hA fun adr₂ vs s₂ p₂ rs => ?_) (mE_starEach h1)
    exact k _ _ _ (p₁.trans p₂) (.cons (r₁.mono p₂.ext) rs)

theorem snd_none : SndE G C n .none := by
  intro e env fn ρ hE adr σ σ' s A Q Er X h he F ok hA k
  unfold ev at he; cases he
  cases e <;> simp only [mE] at h <;> try (cases h; done)
  rename_i c _ _
  cases c <;> first | (cases h; done) | exact wpAny_Constant_none (k_none ok k)
theorem snd_bool {b : Bool} : SndE G C n (.bool b) := by
  intro e env fn ρ hE adr σ σ' s A Q Er X h he F ok hA k
  unfold ev at he; cases he
  cases e <;> simp only [mE] at h <;> try (cases h; done)
  rename_i c _ _
  cases c <;> first | (cases h; done) | skip
  have := beq_iff_eq.mp h
  subst this
  exact wpAny_Constant_bool (k_bool ok k)
theorem snd_int {i : Int} : SndE G C n (.int i) := by
  intro e env fn ρ hE adr σ σ' s A Q Er X h he F ok hA k
  unfold ev at he; cases he
  cases e <;> simp only [mE] at h <;> try (cases h; done)
  rename_i c _ _
  cases c <;> first | (cases h; done) | skip
  have := beq_iff_eq.mp h
  subst this
  exact wpAny_Constant_int (k_int ok k)
theorem snd_str {x : Str} : SndE G C n (.str x) := by
  intro e env fn ρ hE adr σ σ' s A Q Er X h he F ok hA k
  unfold ev at he; cases he
  cases e <;> simp only [mE] at h <;> try (cases h; done)
  rename_i c _ _
  cases c <;> first | (cases h; done) | skip
  have := beq_iff_eq.mp h
  subst this
  exact wpAny_Constant_str (k adr _ _ (Post.toks ok _) (.str _ _))
theorem snd_var (g : GF G T) {x : Nat} : SndE G C n (.var x) := by
  intro e env fn ρ hE adr σ σ' s A Q Er X h he F ok hA k
  unfold ev at he
  obtain ⟨v, hv, he⟩ := Option.map_eq_some_iff.mp he
  cases he
  cases e <;> simp only [mE] at h <;> try (cases h; done)
  simp only [Bool.and_eq_true, beq_iff_eq, decide_eq_true_eq] at h
  obtain ⟨⟨rfl, h1⟩, h2⟩ := h
  exact wpAny_Name (loadOk g.nf F hv h1 fun vv r => k adr _ _ (Post.refl ok) r) (g.nf.plain _ h2).2.1
theorem snd_tup {es : Exs} (hs : SndEs G C n es) : SndE G C n (.tup es) := by
  intro e env fn ρ hE adr σ σ' s A Q Er X h he F ok hA k
  unfold ev at he
  obtain ⟨⟨Xs, σ₁⟩, hr, he⟩ := Option.map_eq_some_iff.mp he
  cases he
  cases e <;> simp only [mE] at h <;> try (cases h; done)
  simp only [Bool.and_eq_true, decide_eq_true_eq] at h
  obtain ⟨h1, h2⟩ := h
  have hl := evs_len h1 hr
  refine wpAny_Tuple (hs h1 hr F ok hA fun adr₁ vs s₁ p₁ rs => ⟨?_, ?_⟩)
  · rw [← rs.length, sizeLine_eq]; omega
  · have p := Post.push p₁.ok { cls := .type "tuple", data := .seq vs.toArray } s₁.toks
    exact k _ _ _ (p₁.trans p) (.tup (IsTup.new _ _) (p₁.ok.fresh (size_none _)) (RVs.mono p.ext rs))
theorem snd_lstF {es : Exs} (hs : SndEs G C n es) : SndE G C n (.lstF es) := by
  intro e env fn ρ hE adr σ σ' s A Q Er X h he F ok hA k
  unfold ev at he
  obtain ⟨⟨Xs, σ₁⟩, hr, he⟩ := Option.map_eq_some_iff.mp he
  cases he
  cases e <;> simp only [mE] at h <;> try (cases h; done)
  simp only [Bool.and_eq_true, decide_eq_true_eq] at h
  obtain ⟨h1, h2⟩ := h
  have hl := evs_len h1 hr
  refine PySem.wpAny_List (hs h1 hr F ok hA fun adr₁ vs s₁ p₁ rs => ⟨?_, ?_⟩)
  · rw [← rs.length, sizeLine_eq]; omega
  · have p := Post.push p₁.ok { cls := .type "list", data := .seq vs.toArray } s₁.toks
    exact k _ _ _ (p₁.trans p) (.lst ⟨_, Heap.get?_push_size _ rfl, rfl, 0, rfl⟩ (p₁.ok.fresh (size_none _)) (RVs.mono p.ext rs))
theorem snd_lstM : SndE G C n .lstM := by
  intro e env fn ρ hE adr σ σ' s A Q Er X h he F ok hA k
  unfold ev at he; cases he
  cases e <;> simp only [mE] at h <;> try (cases h; done)
  rename_i l _
  cases l with
  | cons _ _ => cases h
  | nil =>
    rw [arm_eval_List]
    exact wpAny_bind (wpAny_standAt (wpAny_bind (wpAny_items_nil (new_mlist ok k))))
theorem snd_dict0 : SndE G C n .dict0 := by
  intro e env fn ρ hE adr σ σ' s A Q Er X h he F ok hA k
  unfold ev at he; cases he
  cases e <;> simp only [mE] at h <;> try (cases h; done)
  rename_i l m _
  cases l with
  | cons _ _ => cases h
  | nil =>
    cases m with
    | cons _ _ => cases h
    | nil =>
      refine wpAny_Dict_empty ?_
      have q := ok.new (a := s.heap.objs.size) (o := .dictI []) (h' := s.heap.push { cls := .type "dict", data := .dict #[] }) (size_none _) (fun _ _ e => Heap.get?_push_of_some _ e)
        (fun _ => ⟨[], Heap.DictOf.new _, .nil⟩)
      refine k (adr ++ [s.heap.objs.size]) _ _ ⟨⟨_, s.toks, rfl⟩, q.2, q.1⟩ (.ref ?_)
      rw [← ok.len]; simp
end
end Mine

end

section
namespace Mine
open PySem PySem.W PyProof.Rows PySem.Calls
set_option Elab.async false
set_option autoImplicit false

/-- the calls below are sound -/
def CallOk (G : Glb) (C : Orc) (n : Nat) : Prop := ∀ {f : Nat} {args : List V} {vals : List Value} {σ σ' : Hp} {X : V} {adr : List Addr} {s : Shared} {A : Around} {R : Result → Shared → Prop},
  C.call f args σ = some (X, σ') → RVs s.heap adr args vals → Ok G adr σ s.heap → Room A n → (∀ adr' v s', Post G adr σ' s adr' s' → RV s'.heap adr' X v → R (.ok (.ret v)) s') →
  codeAny (model G.prog G.w) A (.call (.ref (G.fnA f)) ⟨vals, []⟩) R s

section
variable {G : Glb} {T : Tab} {C : Orc} {n : Nat} {env : Env} {fn : Bool} {ρ : Ev} {hE : Heap} {adr : List Addr} {σ σ' σ₁ : Hp} {s : Shared} {A : Around} {Q : Value → Shared → Prop} {Er : Value → Shared → Prop} {X : V}

theorem nameBl (g : GF G T) (F : Fr G env fn ρ hE adr s.heap) (ok : Ok G adr σ s.heap) {id : Str} {pos : Pos} {v : Value} (h : glN env.scope id = true) (hm : G.mg id = none) (hb : G.mb id = some v) (hQ : Q v s) :
    wpAny (model G.prog G.w) A (eval (.Name id pos) env) Q Er s := by
  unfold glN at h
  simp only [Bool.and_eq_true, beq_iff_eq, Bool.not_eq_true'] at h
  exact Name_function_global F.kind h.1 (loadGlobal_builtin (by rw [F.glob]; exact g.nsG.keeps ok.keep) hm (by rw [F.blt]; exact g.nsB.keeps ok.keep) hb hQ) h.2
theorem nameGl (g : GF G T) (F : Fr G env fn ρ hE adr s.heap) (ok : Ok G adr σ s.heap) {id : Str} {pos : Pos} {v : Value} (h : glN env.scope id = true) (hm : G.mg id = some v) (hQ : Q v s) :
    wpAny (model G.prog G.w) A (eval (.Name id pos) env) Q Er s := by
  unfold glN at h
  simp only [Bool.and_eq_true, beq_iff_eq, Bool.not_eq_true'] at h
  exact Name_function_global F.kind h.1 (loadGlobal_global (by rw [F.glob]; exact g.nsG.keeps ok.keep) hm hQ) h.2

theorem callBl {v : Value} (hv : (∃ id, v = .builtin id) ∨ ∃ T, v = .type T) {x : Ex} {xs : Exs} {e : Expr} {es : List Expr} {sc : Scope} {pos : Pos} {E' : Value → Shared → Prop} (hm : mEs G sc (.cons x xs) (e :: es) = true)
    (h : wpAny (model G.prog G.w) A (spliced (backTo pos (starEach (e :: es) env))) (fun vs s₁ => wpAny (model G.prog G.w) A (call v vs) Q E' s₁) E' s) :
    wpAny (model G.prog G.w) A (callWith pos v [] (backTo pos (starEach (e :: es) env)) []) Q E' s := by
  have hp := (mEs_plain (pos := pos) (env := env) hm).1
  have he : mE G sc x e = true := by unfold mEs at hm; exact (Bool.and_eq_true_iff.mp hm).1
  rw [mE_starEach he] at h hp ⊢
  rcases hv with ⟨id, rfl⟩ | ⟨T, rfl⟩
  · exact callWith_builtin hp (evalArgs_plain h)
  · exact callWith_excType hp (evalArgs_plain h)

theorem callKOk (g : GF G T) {es : Exs} {l : List Expr} {Xs : List V} {f : Value} {first : List Value} {pos : Pos} (hs : SndEs G C n es) (hm : mEs G env.scope es l = true) (he : evs C es ρ σ = some (Xs, σ₁)) (F : Fr G env fn ρ hE adr s.heap) (ok : Ok G adr σ s.heap) (hA : RoomB A n)
    (hk : keepIn G.K f = true) (h : ∀ adr' vs s', Post G adr σ₁ s adr' s' → RVs s'.heap adr' Xs vs → wpAny (model G.prog G.w) A (call f (first ++ vs)) Q Er s') :
    wpAny (model G.prog G.w) A (callWith pos f first (backTo pos (starEach l env)) []) Q Er s := by
  cases l with
  | nil =>
    cases es with
    | cons _ _ => simp [mEs] at hm
    | nil =>
      unfold evs at he; cases he
      exact callWith_K0 (ok.inK g.toCFacts) hk (h adr [] s (Post.refl ok) .nil)
  | cons e l =>
    cases es with
    | nil => simp [mEs] at hm
    | cons x xs =>
      have hm' := hm
      unfold mEs at hm'
      obtain ⟨h1, h2⟩ := Bool.and_eq_true_iff.mp hm'
      exact callWith_K (h₀ := G.h₀) g.inH hk (hs hm he F ok hA fun adr' vs s' p rs => ⟨p.ok.inK g.toCFacts, h _ _ _ p rs⟩) (mE_starEach h1) (mEs_plain h2).1

theorem base_eq {x : Expr} (h : baseOk x = true) (m : Str) (env : Env) (t : Sem Value) : attributeBase x m env t = t := by
  cases x <;> first | rfl | cases h

theorem callF {f : Nat} {args : List V} {vals : List Value} (c : CallOk G C n) (e : C.call f args σ = some (X, σ')) (rs : RVs s.heap adr args vals) (ok : Ok G adr σ s.heap) (hA : Room A n) (k : Kv G adr s X σ' Q) :
    wpAny (model G.prog G.w) A (call (.ref (G.fnA f)) vals) Q Er s := wpAny_call (c e rs ok hA fun _ _ _ p r => k _ _ _ p r)
end

section
variable {G : Glb} {T : Tab} {C : Orc} {n : Nat}

theorem b1_t1 {o : O1} {p : Str × Value} (h : b1 o = some p) : p ∈ blts ∧ ((∃ id, p.2 = .builtin id) ∨ ∃ T, p.2 = .type T) ∧ ∀ v, t1 o v = call p.2 [v] := by
  cases o <;> simp only [b1, Option.some.injEq, reduceCtorEq] at h <;> subst h <;> refine ⟨by simp [blts], ?_, fun _ => rfl⟩ <;> first | exact .inl ⟨_, rfl⟩ | exact .inr ⟨_, rfl⟩
theorem b2_t2 {o : O2} {p : Str × Value} (h : b2 o = some p) : p ∈ blts ∧ ((∃ id, p.2 = .builtin id) ∨ ∃ T, p.2 = .type T) ∧ (∀ u v, t2 o u v = call p.2 [u, v]) ∧ (∀ a σ, pre2 o a σ = true) ∧ o ≠ .slTo ∧ o ≠ .slFrom := by
  cases o <;> simp only [b2, Option.some.injEq, reduceCtorEq] at h <;> subst h <;> refine ⟨by simp [blts], ?_, fun _ _ => rfl, fun a _ => by cases a <;> rfl, by decide, by decide⟩ <;> first | exact .inl ⟨_, rfl⟩ | exact .inr ⟨_, rfl⟩
theorem bin_t2 {o : O2} {op : Operator} (h : binO o = some op) : (∀ u v, t2 o u v = binaryOp op u v) ∧ o ≠ .slTo ∧ o ≠ .slFrom := by
  cases o <;> simp only [binO, Option.some.injEq, reduceCtorEq] at h <;> subst h <;> exact ⟨fun _ _ => rfl, by decide, by decide⟩
theorem cmp_t2 {o : O2} {op : CmpOp} (h : cmpO o = some op) : (∀ u v, t2 o u v = compareOp op u v) ∧ o ≠ .slTo ∧ o ≠ .slFrom := by
  cases o <;> simp only [cmpO, Option.some.injEq, reduceCtorEq] at h <;> subst h <;> exact ⟨fun _ _ => rfl, by decide, by decide⟩

theorem snd_op1 (g : GF G T) {o : O1} {a : Ex} (ha : SndE G C n a) : SndE G C n (.op1 o a) := by
  intro e env fn ρ hE adr σ σ' s A Q Er X h he F ok hA k
  unfold ev at he
  obtain ⟨⟨Y, σ₁⟩, hr, he⟩ := Option.bind_eq_some_iff.mp he
  dsimp only at he
  unfold mE at h
  split at h
  · simp only [Bool.and_eq_true, decide_eq_true_eq] at h
    obtain ⟨rfl, h⟩ := h
    exact wpAny_UnaryOp (ha h hr F ok hA fun adr₁ v s₁ p₁ r₁ => o1Ok g.toGOk he r₁ p₁.ok hA.room (k.step p₁))
  · simp only [Bool.and_eq_true, decide_eq_true_eq] at h
    obtain ⟨rfl, h⟩ := h
    exact wpAny_UnaryOp (ha h hr F ok hA fun adr₁ v s₁ p₁ r₁ => o1Ok g.toGOk he r₁ p₁.ok hA.room (k.step p₁))
  · rename_i id np x pos
    simp only [Bool.and_eq_true] at h
    obtain ⟨⟨hb, hg⟩, h⟩ := h
    split at hb
    · rename_i p hp
      have := beq_iff_eq.mp hb
      subst this
      obtain ⟨hm, hv, ht⟩ := b1_t1 hp
      obtain ⟨m1, m2⟩ := g.bl p hm
      have hms : mEs G env.scope (.cons a .nil) [x] = true := by simp [mEs, h]
      refine wpAny_Call_ofName (nameBl g F ok hg m1 m2 (callBl hv hms ?_))
      refine snd_cons ha snd_nil hms (σ' := σ₁) (Xs := [Y]) (by unfold evs; rw [hr]; simp [evs]) F ok hA fun adr₁ vs s₁ p₁ rs => ?_
      cases rs with
      | cons r rs =>
        cases rs
        rw [← ht]
        exact o1Ok g.toGOk he r p₁.ok hA.room (k.step p₁)
    · cases hb
  · rename_i x m apos pos
    simp only [Bool.and_eq_true, decide_eq_true_eq] at h
    obtain ⟨⟨⟨⟨rfl, hm⟩, hline⟩, hb⟩, h⟩ := h
    have := beq_iff_eq.mp hm
    subst this
    rw [arm_eval_Call, base_eq hb]
    refine wpAny_bind (ha h hr F ok hA fun adr₁ v s₁ p₁ r₁ => wpAny_bind (wpAny_standAt ?_))
    have he' := he
    cases Y <;> simp only [o1] at he <;> try (cases he; done)
    split at he <;> try (cases he; done)
    rename_i i l hl
    cases r₁ with
    | @ref _ b hbb =>
      obtain ⟨b', hb', vs, m, ho, rs⟩ := p₁.ok.objs _ _ hl
      rw [hbb] at hb'; cases hb'
      have hpos : methodCallPos true x env apos pos = pure pos := by unfold methodCallPos; simp [beq_iff_eq.mp hline]
      unfold methodCall
      have hform : methodCallForm (([] : List Expr).length + ([] : List Keyword).length) (backTo pos (starEach [] env)) (backToKw pos (keywordEach [] env)) = true := rfl
      rw [hform]
      refine wpAny_bind (wpAny_holding (Copied.getMethod_pop_at ho rfl rfl ?_))
      refine wpAny_bind (wpAny_of_eq hpos ?_)
      refine callWith_builtin (id := "list.pop") rfl (evalArgs_nil3 ?_)
      exact o1Ok (o := .popL) g.toGOk he' (.ref hbb) p₁.ok hA.room (k.step p₁)
  · cases h

theorem snd_op2 (g : GF G T) {o : O2} {a b : Ex} (ha : SndE G C n a) (hb : SndE G C n b) : SndE G C n (.op2 o a b) := by
  intro e env fn ρ hE adr σ σ' s A Q Er X h he F ok hA k
  unfold ev at he
  obtain ⟨⟨Y, σ₁⟩, hr, he⟩ := Option.bind_eq_some_iff.mp he
  dsimp only at he
  split at he
  case h_2 => cases he
  rename_i hpre
  obtain ⟨⟨Z, σ₂⟩, hq, he⟩ := Option.bind_eq_some_iff.mp he
  dsimp only at he
  unfold mE at h
  split at h
  · simp only [Bool.and_eq_true, decide_eq_true_eq] at h
    obtain ⟨⟨h1, h2⟩, h3⟩ := h
    obtain ⟨ht, n1, n2⟩ := bin_t2 h1
    refine wpAny_BinOp (ha h2 hr F ok hA fun adr₁ v s₁ p₁ r₁ => hb h3 hq (F.ext p₁.ext) p₁.ok hA fun adr₂ u s₂ p₂ r₂ => ?_)
    rw [← ht]
    exact o2Ok g.toGOk he (r₁.mono p₂.ext) r₂ p₂.ok hA.room (k.step (p₁.trans p₂)) n1 n2
  · simp only [Bool.and_eq_true, decide_eq_true_eq] at h
    obtain ⟨⟨h1, h2⟩, h3⟩ := h
    obtain ⟨ht, n1, n2⟩ := cmp_t2 h1
    refine wpAny_Compare1 (ha h2 hr F ok hA fun adr₁ v s₁ p₁ r₁ => hb h3 hq (F.ext p₁.ext) p₁.ok hA fun adr₂ u s₂ p₂ r₂ => ?_) ((mE_notSet h3).1 _)
    rw [← ht]
    exact o2Ok g.toGOk he (r₁.mono p₂.ext) r₂ p₂.ok hA.room (k.step (p₁.trans p₂)) n1 n2
  · simp only [Bool.and_eq_true, decide_eq_true_eq] at h
    obtain ⟨⟨rfl, h2⟩, h3⟩ := h
    refine Subscript_ (ha h2 hr F ok hA fun adr₁ v s₁ p₁ r₁ => wpAny_Slice ?_)
    rw [evalPart_none]
    refine wpAny_pure ?_
    rw [evalPart_some]
    refine hb h3 hq (F.ext p₁.ext) p₁.ok hA fun adr₂ u s₂ p₂ r₂ => ?_
    exact wpAny_pure (slToOk he (r₁.mono p₂.ext) r₂ p₂.ok (k.step (p₁.trans p₂)))
  · simp only [Bool.and_eq_true, decide_eq_true_eq] at h
    obtain ⟨⟨rfl, h2⟩, h3⟩ := h
    refine Subscript_ (ha h2 hr F ok hA fun adr₁ v s₁ p₁ r₁ => wpAny_Slice ?_)
    rw [evalPart_some]
    refine hb h3 hq (F.ext p₁.ext) p₁.ok hA fun adr₂ u s₂ p₂ r₂ => ?_
    rw [evalPart_none]
    refine wpAny_pure (wpAny_pure ?_)
    exact slFromOk he (r₁.mono p₂.ext) r₂ p₂.ok (k.step (p₁.trans p₂))
  · rename_i v i _ _ _
    simp only [Bool.and_eq_true, decide_eq_true_eq] at h
    obtain ⟨⟨rfl, h2⟩, h3⟩ := h
    refine Subscript_ (ha h2 hr F ok hA fun adr₁ v s₁ p₁ r₁ => hb h3 hq (F.ext p₁.ext) p₁.ok hA fun adr₂ u s₂ p₂ r₂ => ?_)
    obtain ⟨hg, T', id, hT, hl⟩ := idxOk (E := Er) he (r₁.mono p₂.ext) r₂ p₂.ok (k.step (p₁.trans p₂))
    refine tail_any hT hl hg (ops := [v, u]) ?_
    cases i <;> first | rfl | (exfalso; cases b <;> simp [mE] at h3)
  · rename_i id np x y pos
    simp only [Bool.and_eq_true] at h
    obtain ⟨⟨⟨hbl, hg⟩, h2⟩, h3⟩ := h
    split at hbl
    · rename_i p hp
      have := beq_iff_eq.mp hbl
      subst this
      obtain ⟨hm, hv, ht, _, n1, n2⟩ := b2_t2 hp
      obtain ⟨m1, m2⟩ := g.bl p hm
      have hms : mEs G env.scope (.cons a (.cons b .nil)) [x, y] = true := by simp [mEs, h2, h3]
      refine wpAny_Call_ofName (nameBl g F ok hg m1 m2 (callBl hv hms ?_))
      refine snd_cons ha (snd_cons hb snd_nil) hms (σ' := σ₂) (Xs := [Y, Z]) (by unfold evs; rw [hr]; simp [evs, hq]) F ok hA fun adr₁ vs s₁ p₁ rs => ?_
      cases rs with
      | cons r rs =>
        cases rs with
        | cons r' rs =>
          cases rs
          rw [← ht]
          exact o2Ok g.toGOk he r r' p₁.ok hA.room (k.step p₁) n1 n2
    · cases hbl
  · rename_i x m apos y pos
    simp only [Bool.and_eq_true, decide_eq_true_eq] at h
    obtain ⟨⟨⟨⟨⟨rfl, hm⟩, hline⟩, hbs⟩, h2⟩, h3⟩ := h
    have := beq_iff_eq.mp hm
    subst this
    rw [arm_eval_Call, base_eq hbs]
    refine wpAny_bind (ha h2 hr F ok hA fun adr₁ v s₁ p₁ r₁ => wpAny_bind (wpAny_standAt ?_))
    cases Y <;> simp only [pre2] at hpre <;> try (cases hpre; done)
    split at hpre <;> try (cases hpre; done)
    rename_i i l hl
    cases r₁ with
    | @ref _ bb hbb =>
      obtain ⟨b', hb', vs, mm, ho, rs⟩ := p₁.ok.objs _ _ hl
      rw [hbb] at hb'; cases hb'
      have hpos : methodCallPos true x env apos pos = pure pos := by unfold methodCallPos; simp [beq_iff_eq.mp hline]
      have hms : mEs G env.scope (.cons b .nil) [y] = true := by simp [mEs, h3]
      have hform : methodCallForm (([y] : List Expr).length + ([] : List Keyword).length) (backTo pos (starEach [y] env)) (backToKw pos (keywordEach [] env)) = true := by
        unfold methodCallForm
        rw [(mEs_plain hms).2]; rfl
      unfold methodCall
      rw [hform]
      refine wpAny_bind (wpAny_holding (Calls.getMethod_list_append ho rfl rfl ?_))
      refine wpAny_bind (wpAny_of_eq hpos ?_)
      have hpl := (mEs_plain (pos := pos) (env := env) hms).1
      have key : wpAny (model G.prog G.w) A (spliced (backTo pos (starEach [y] env))) (fun vs s' => wpAny (model G.prog G.w) A (call (.builtin "list.append") ([.ref bb] ++ vs)) Q Er s') Er s₁ := by
        refine snd_cons hb snd_nil hms (σ' := σ₂) (Xs := [Z]) (by unfold evs; rw [hq]; simp [evs]) (F.ext p₁.ext) p₁.ok hA fun adr₂ vs s₂ p₂ rs => ?_
        cases rs with
        | cons r' rs =>
          cases rs
          exact o2Ok (o := .app) g.toGOk he (.ref (p₂.ext.idx hbb)) r' p₂.ok hA.room (k.step (p₁.trans p₂)) (by decide) (by decide)
      rw [mE_starEach h3] at key hpl ⊢
      exact callWith_builtin hpl (evalArgs_plain key)
  · cases h

theorem snd_and2 {a b : Ex} (ha : SndE G C n a) (hb : SndE G C n b) : SndE G C n (.and2 a b) := by
  intro e env fn ρ hE adr σ σ' s A Q Er X h he F ok hA k
  unfold ev at he
  obtain ⟨⟨Y, σ₁⟩, hr, he⟩ := Option.bind_eq_some_iff.mp he
  dsimp only at he
  unfold mE at h
  split at h
  case h_2 => cases h
  obtain ⟨h1, h2⟩ := Bool.and_eq_true_iff.mp h
  refine wpAny_And2 (ha h1 hr F ok hA fun adr₁ v s₁ p₁ r₁ => ?_)
  cases Y with
  | bool t =>
    cases r₁
    refine wpAny_truthy_bool ?_
    cases t with
    | true => exact hb h2 he (F.ext p₁.ext) p₁.ok hA (k.step p₁)
    | false => cases he; exact k _ _ _ p₁ (.bool _)
  | _ => cases he

theorem snd_ite {c : Cn} {a b : Ex} (hc : SndC G C n c) (ha : SndE G C n a) (hb : SndE G C n b) : SndE G C n (.ite c a b) := by
  intro e env fn ρ hE adr σ σ' s A Q Er X h he F ok hA k
  unfold ev at he
  obtain ⟨⟨t, σ₁⟩, hr, he⟩ := Option.bind_eq_some_iff.mp he
  dsimp only at he
  unfold mE at h
  split at h
  case h_2 => cases h
  simp only [Bool.and_eq_true] at h
  obtain ⟨⟨h1, h2⟩, h3⟩ := h
  refine wpAny_IfExp (hc h1 hr F ok hA fun adr₁ s₁ p₁ => ?_)
  cases t with
  | true => exact ha h2 he (F.ext p₁.ext) p₁.ok hA (k.step p₁)
  | false => exact hb h3 he (F.ext p₁.ext) p₁.ok hA (k.step p₁)

theorem snd_attr (g : GF G T) {a : Ex} {m : Nat} (ha : SndE G C n a) : SndE G C n (.attr a m) := by
  intro e env fn ρ hE adr σ σ' s A Q Er X h he F ok hA k
  unfold ev at he
  obtain ⟨⟨Y, σ₁⟩, hr, he⟩ := Option.bind_eq_some_iff.mp he
  dsimp only at he
  obtain ⟨v, hv, he⟩ := Option.map_eq_some_iff.mp he
  cases he
  unfold mE at h
  split at h
  case h_2 => cases h
  simp only [Bool.and_eq_true] at h
  obtain ⟨⟨⟨h1, h2⟩, h3⟩, h4⟩ := h
  have := beq_iff_eq.mp h1
  subst this
  rw [arm_eval_Attribute, base_eq h3]
  refine wpAny_bind (ha h4 hr F ok hA fun adr₁ v s₁ p₁ r₁ => wpAny_bind (wpAny_standAt (wpAny_bind (wpAny_holding ?_))))
  exact attrOk g.toCFacts h2 hv r₁ p₁.ok fun adr₂ u s₂ p₂ r₂ => wpAny_bind (wpAny_letTemporaryGo (wpAny_pure (k _ _ _ (p₁.trans p₂) r₂)))

theorem snd_call (g : GF G T) (c : CallOk G C n) {f : Nat} {es : Exs} (hs : SndEs G C n es) : SndE G C n (.call f es) := by
  intro e env fn ρ hE adr σ σ' s A Q Er X h he F ok hA k
  unfold ev at he
  obtain ⟨⟨Ys, σ₁⟩, hr, he⟩ := Option.bind_eq_some_iff.mp he
  dsimp only at he
  unfold mE at h
  split at h
  case h_2 => cases h
  simp only [Bool.and_eq_true] at h
  obtain ⟨⟨⟨h1, h2⟩, h3⟩, h4⟩ := h
  have := beq_iff_eq.mp h1
  subst this
  obtain ⟨m1, m2⟩ := g.fnG f (by simpa using h2)
  refine wpAny_Call_ofName (nameGl g F ok h3 m1 ?_)
  exact callKOk g hs h4 hr F ok hA m2 fun adr' vs s' p rs => callF c he rs p.ok hA.room (k.step p)

theorem snd_meth (g : GF G T) (c : CallOk G C n) (hmt : C.mt = T.mt) {a : Ex} {m : Nat} {es : Exs} (ha : SndE G C n a) (hs : SndEs G C n es) : SndE G C n (.meth a m es) := by
  intro e env fn ρ hE adr σ σ' s A Q Er X h he F ok hA k
  unfold ev at he
  obtain ⟨⟨Y, σ₁⟩, hr, he⟩ := Option.bind_eq_some_iff.mp he
  dsimp only at he
  unfold mE at h
  split at h
  case h_2 => cases h
  rename_i x mm apos args pos
  simp only [Bool.and_eq_true, decide_eq_true_eq] at h
  obtain ⟨⟨⟨⟨⟨⟨h1, h2⟩, hline⟩, hbs⟩, hlen⟩, h3⟩, h4⟩ := h
  have := beq_iff_eq.mp h1
  subst this
  split at he
  case h_2 => cases he
  rename_i i
  split at he
  case h_2 => cases he
  rename_i cc d hc
  split at he
  case h_2 => cases he
  rename_i l f hl hf
  split at he
  case h_2 => cases he
  rename_i hno
  obtain ⟨⟨Ys, σ₂⟩, hq, he⟩ := Option.bind_eq_some_iff.mp he
  dsimp only at he
  rw [hmt] at hf
  obtain ⟨hN, pg, f1, f2⟩ := g.mts _ _ _ hf
  rw [arm_eval_Call, base_eq hbs]
  refine wpAny_bind (ha h3 hr F ok hA fun adr₁ v s₁ p₁ r₁ => wpAny_bind (wpAny_standAt ?_))
  cases r₁ with
  | @ref _ bb hbb =>
    obtain ⟨dx, es', mm', hd, ho, p, I⟩ := instAt_of p₁.ok hbb hc hl
    have hgl : getL (G.nm m) es' = some none := by
      rcases attrs_get g.toCFacts hN p with ⟨_, q⟩ | ⟨y, v, q1, _⟩
      · exact q
      · rw [hno] at q1; cases q1
    have hpos : methodCallPos true x env apos pos = pure pos := by unfold methodCallPos; simp [beq_iff_eq.mp hline]
    have hform : methodCallForm (args.length + ([] : List Keyword).length) (backTo pos (starEach args env)) (backToKw pos (keywordEach [] env)) = true := by
      unfold methodCallForm
      rw [(mEs_plain h4).2]
      show (true && true && decide (args.length + 0 + 0 < 30)) = true
      simp; omega
    unfold methodCall
    rw [hform]
    refine wpAny_bind (wpAny_holding (method_fn (p₁.ok.inK g.toCFacts) I (plainGet_of pg).1 (plainGet_of pg).2 f1 (beq_iff_eq.mp f2) (by show (lookIn (G.nm m) (dictOf es' mm')).map _ = _; rw [lookIn_dict, hgl]; rfl) ?_))
    refine wpAny_bind (wpAny_of_eq hpos ?_)
    refine callKOk g hs h4 hq (F.ext p₁.ext) p₁.ok hA (g.mtK _ _ _ hf) fun adr' vs s' p' rs => ?_
    exact callF c he (.cons (.ref (p'.ext.idx hbb)) rs) p'.ok hA.room (k.step (p₁.trans p'))
end
end Mine

end

section
namespace Mine
open PySem PySem.W PyProof.Rows PySem.Calls
set_option Elab.async false
set_option autoImplicit false

section
variable {adr : List Addr} {h h' : Heap} {c : Addr}
mutual
theorem RV.adopt (sc : Scr h c) (hs : Heap.SameBut c h h') : ∀ {V : V} {v : Value}, RV h adr V v → RV h' (adr ++ [c]) V v
  | _, _, .none => .none
  | _, _, .bool b => .bool b
  | _, _, .int i t => .int i t
  | _, _, .str s t => .str s t
  | _, _, .tup ht hn hr => by
    obtain ⟨o, ho, hc, n, hd⟩ := ht
    have ne := sc.ne ho (notScr_seq hd)
    exact .tup ⟨o, (hs.2 _ ne).trans ho, hc, n, hd⟩ (fun m => by rcases List.mem_append.mp m with m | m; exact hn m; exact ne (List.mem_singleton.mp m)) (RVs.adopt sc hs hr)
  | _, _, .lst ht hn hr => by
    obtain ⟨o, ho, hc, n, hd⟩ := ht
    have ne := sc.ne ho (notScr_seq hd)
    exact .lst ⟨o, (hs.2 _ ne).trans ho, hc, n, hd⟩ (fun m => by rcases List.mem_append.mp m with m | m; exact hn m; exact ne (List.mem_singleton.mp m)) (RVs.adopt sc hs hr)
  | _, _, .rng hr hn => by
    have ne := sc.ne hr (notScr_fields rfl)
    exact .rng ((hs.2 _ ne).trans hr) (fun m => by rcases List.mem_append.mp m with m | m; exact hn m; exact ne (List.mem_singleton.mp m))
  | _, _, .ref e => .ref (by rw [List.getElem?_append_left (List.getElem?_eq_some_iff.mp e).1]; exact e)
theorem RVs.adopt (sc : Scr h c) (hs : Heap.SameBut c h h') : ∀ {l : List V} {vs : List Value}, RVs h adr l vs → RVs h' (adr ++ [c]) l vs
  | _, _, .nil => .nil
  | _, _, .cons r rs => .cons (RV.adopt sc hs r) (RVs.adopt sc hs rs)
end
theorem RO.adopt {G : Glb} (sc : Scr h c) (hs : Heap.SameBut c h h') {o : MO} {a : Addr} (ne : a ≠ c) (r : RO G h adr o a) : RO G h' (adr ++ [c]) o a := by
  have k : ∀ o, h.get? a = Option.some o → h'.get? a = Option.some o := fun o e => (hs.2 _ ne).trans e
  cases o with
  | list l => obtain ⟨vs, n, h1, h2⟩ := r; exact ⟨vs, n, k _ h1, RVs.adopt sc hs h2⟩
  | dictI l =>
    obtain ⟨kvs, ⟨o, es, ep, ho, h1⟩, h2⟩ := r
    exact ⟨kvs, ⟨o, es, ep, k o ho, h1⟩, All2.mono h2 fun _ _ q => ⟨q.1, q.2.adopt sc hs⟩⟩
  | dictS l =>
    obtain ⟨kvs, ⟨o, es, ep, ho, h1⟩, h2⟩ := r
    exact ⟨kvs, ⟨o, es, ep, k o ho, h1⟩, All2.mono h2 fun _ _ q => ⟨q.1, q.2.adopt sc hs⟩⟩
  | inst c d => obtain ⟨dx, h1, h2⟩ := r; exact ⟨dx, by rw [List.getElem?_append_left (List.getElem?_eq_some_iff.mp h1).1]; exact h1, k _ h2⟩
  | attrs l => obtain ⟨es, n, h1, h2⟩ := r; exact ⟨es, n, k _ h1, All2.mono h2 fun _ _ q => ⟨q.1, q.2.1, q.2.2.adopt sc hs⟩⟩
end

theorem Ok.adopt {G : Glb} {adr : List Addr} {σ : Hp} {h h' : Heap} {c : Addr} {o : MO} (ok : Ok G adr σ h) (hc : c ∉ adr) (h0 : G.h₀.get? c = none) (sc : Scr h c) (hs : Heap.SameBut c h h') (r : RO G h' (adr ++ [c]) o c) :
    Ok G (adr ++ [c]) (σ ++ [o]) h' := by
  refine ⟨by simp [ok.len], ?_, fun b hb => ?_, fun b o e => (hs.2 b ?_).trans (ok.keep b o e), fun i o' e => ?_⟩
  · rw [List.nodup_append]
    refine ⟨ok.nodup, by simp, fun b hb d hd => ?_⟩
    rw [List.mem_singleton.mp hd]
    rintro rfl
    exact hc hb
  · rcases List.mem_append.mp hb with hb | hb
    · exact ok.base b hb
    · rw [List.mem_singleton.mp hb]; exact h0
  · rintro rfl; rw [h0] at e; cases e
  · by_cases hi : i < σ.length
    · rw [List.getElem?_append_left hi] at e
      obtain ⟨b, hb, rb⟩ := ok.objs i o' e
      exact ⟨b, by rw [List.getElem?_append_left (List.getElem?_eq_some_iff.mp hb).1]; exact hb, rb.adopt sc hs (fun z => hc (z ▸ mem_of_get hb))⟩
    · have hi' : i = σ.length := by
        have := (List.getElem?_eq_some_iff.mp e).1
        simp only [List.length_append, List.length_singleton] at this
        omega
      subst hi'
      simp at e
      subst e
      refine ⟨c, ?_, r⟩
      rw [← ok.len]; simp

theorem merged_new {K : Type} [DecidableEq K] : ∀ (more acc : List (K × Value)), ((acc ++ more).map (·.1)).Nodup → merged acc more = acc ++ more
  | [], acc, _ => by simp [merged]
  | p :: r, acc, h => by
    have hn : acc.any (fun kv => decide (kv.1 = p.1)) = false := by
      rw [List.any_eq_false]
      intro x hx e
      rw [List.map_append, List.nodup_append] at h
      exact h.2.2 x.1 (List.mem_map_of_mem hx) p.1 (by simp) (by simpa using e)
    have hs : stored acc p.1 p.2 = acc ++ [p] := by unfold stored; rw [hn]; rfl
    show merged (stored acc p.1 p.2) r = _
    rw [hs, merged_new r (acc ++ [p]) (by simpa using h)]
    simp

/-- the pairs of a display -/
def pairsOf (env : Env) (pos : Pos) : List (Option Expr) → List Expr → List (Sem Value × Sem Value)
  | some k :: ks, v :: vs => (eval k env, do let x ← eval v env; standAt pos; pure x) :: pairsOf env pos ks vs
  | _, _ => []
theorem pairs_shape {env : Env} {pos : Pos} : ∀ {ks : List Str} {keys : List (Option Expr)} {vals : List Expr}, mKeys ks keys = true → ks.length = vals.length →
    (evalEachOpt keys env).zip ((evalEach vals env).map fun v => do let x ← v; standAt pos; pure x) = (pairsOf env pos keys vals).map (fun p => (some p.1, p.2)) ∧ (pairsOf env pos keys vals).length = vals.length
  | [], [], [], _, _ => ⟨rfl, rfl⟩
  | [], [], _ :: _, _, h => by cases h
  | [], _ :: _, _, h, _ => by simp [mKeys] at h
  | k :: ks, [], _, h, _ => by simp [mKeys] at h
  | k :: ks, none :: keys, _, h, _ => by simp [mKeys] at h
  | k :: ks, some e :: keys, [], _, h => by cases h
  | k :: ks, some e :: keys, v :: vals, h, hl => by
    have h' : mKeys ks keys = true := by unfold mKeys at h; exact (Bool.and_eq_true_iff.mp h).2
    obtain ⟨a, b⟩ := pairs_shape (env := env) (pos := pos) h' (by simpa using hl)
    refine ⟨?_, by simp [pairsOf, b]⟩
    exact congrArg (List.cons _) a

section
variable (G : Glb) (C : Orc) (n : Nat)
def SndPs (x : Exs) : Prop := ∀ {keys : List (Option Expr)} {ks : List Str} {l : List Expr} {env : Env} {fn : Bool} {ρ : Ev} {hE : Heap} {adr : List Addr} {σ σ' : Hp} {s : Shared} {A : Around} {Q : List (Value × Value) → Shared → Prop} {Er : Value → Shared → Prop} {Xs : List V} {pos : Pos},
  mKeys ks keys = true → ks.length = l.length → mEs G env.scope x l = true → evs C x ρ σ = some (Xs, σ') → Fr G env fn ρ hE adr s.heap → Ok G adr σ s.heap → RoomB A n →
  (∀ adr' vs vals s', Post G adr σ' s adr' s' → RVs s'.heap adr' Xs vals → Carries (strKind G.prog G.w) vs (ks.zip vals) → Q vs s') → wpAny (model G.prog G.w) A (evalPairs (pairsOf env pos keys l)) Q Er s
end

section
variable {G : Glb} {T : Tab} {C : Orc} {n : Nat}
theorem snd_pnil : SndPs G C n .nil := by
  intro keys ks l env fn ρ hE adr σ σ' s A Q Er Xs pos hk hl h he F ok hA k
  cases l with
  | cons _ _ => simp [mEs] at h
  | nil =>
    unfold evs at he; cases he
    have : pairsOf env pos keys [] = [] := by cases keys with
      | nil => rfl
      | cons x _ => cases x <;> rfl
    rw [this]
    exact evalPairs_nil (k adr [] [] s (Post.refl ok) .nil (by cases ks <;> trivial))
theorem snd_pcons {x : Ex} {xs : Exs} (hx : SndE G C n x) (hs : SndPs G C n xs) : SndPs G C n (.cons x xs) := by
  intro keys ks l env fn ρ hE adr σ σ' s A Q Er Xs pos hk hl h he F ok hA k
  cases l with
  | nil => simp [mEs] at h
  | cons e es =>
    unfold mEs at h
    obtain ⟨h1, h2⟩ := Bool.and_eq_true_iff.mp h
    unfold evs at he
    obtain ⟨⟨X, σ₁⟩, hr, he⟩ := Option.bind_eq_some_iff.mp he
    obtain ⟨⟨Ys, σ₂⟩, hq, he⟩ := Option.map_eq_some_iff.mp he
    cases he
    cases ks with
    | nil => cases hl
    | cons y ks =>
    cases keys with
    | nil => simp [mKeys] at hk
    | cons q keys =>
    cases q with
    | none => simp [mKeys] at hk
    | some q =>
    unfold mKeys at hk
    obtain ⟨hk1, hk2⟩ := Bool.and_eq_true_iff.mp hk
    unfold isKey at hk1
    split at hk1
    case h_2 => cases hk1
    have := beq_iff_eq.mp hk1
    subst this
    refine evalPairs_cons (wpAny_Constant_str ?_)
    have p0 := Post.toks ok (s.toks + 1)
    refine wpAny_bind (hx h1 hr (F.ext p0.ext) p0.ok hA fun adr₁ v s₁ p₁ r₁ => wpAny_bind (wpAny_standAt (wpAny_pure ?_)))
    refine hs hk2 (by simpa using hl) h2 hq ((F.ext p0.ext).ext p₁.ext) p₁.ok hA fun adr₂ vs vals s₂ p₂ rs hc => ?_
    exact k _ _ (v :: vals) _ ((p0.trans p₁).trans p₂) (.cons (r₁.mono p₂.ext) rs) ⟨strKind_is _ _ _ _, rfl, hc⟩

theorem zip_pairsR {h : Heap} {adr : List Addr} : ∀ {ks : List Str} {Xs : List V} {vals : List Value}, RVs h adr Xs vals → PairsR h adr (ks.zip Xs) (ks.zip vals)
  | [], _, _, _ => by simp only [List.zip_nil_left]; exact .nil
  | _ :: _, _, _, .nil => .nil
  | _ :: _, _, _, .cons r rs => .cons ⟨rfl, r⟩ (zip_pairsR rs)

theorem snd_dictS {ks : List Str} {es : Exs} (hs : SndPs G C n es) : SndE G C n (.dictS ks es) := by
  intro e env fn ρ hE adr σ σ' s A Q Er X h he F ok hA k
  unfold ev at he
  obtain ⟨⟨Xs, σ₁⟩, hr, he⟩ := Option.map_eq_some_iff.mp he
  cases he
  unfold mE at h
  split at h
  case h_2 => cases h
  rename_i keys vals pos
  simp only [Bool.and_eq_true, decide_eq_true_eq] at h
  obtain ⟨⟨h1, h2⟩, h3, h4, h5, h6⟩ := h
  obtain ⟨sh, sl⟩ := pairs_shape (env := env) (pos := pos) h1 h3
  have hne : pairsOf env pos keys vals ≠ [] := by
    intro z
    rw [z] at sl
    have : ks.length = 0 := by rw [h3, ← sl]; rfl
    exact h5 (List.length_eq_zero_iff.mp this)
  refine wpAny_Dict_pairs (knd := strKind G.prog G.w) sh hne (by omega) ?_
  have p0 := Post.push ok { cls := .type "dict", data := .dict #[] } s.toks
  have hd0 : (s.heap.push { cls := .type "dict", data := .dict #[] }).get? s.heap.objs.size = some { cls := .type "dict", data := .dict #[] } := Heap.get?_push_size _ rfl
  have hdn := ok.fresh (size_none s.heap)
  refine hs h1 h3 h2 hr (F.ext p0.ext) p0.ok hA fun adr₁ vs vals' s₁ p₁ rs hc => ?_
  have hd1 := p₁.ext.keep _ _ hd0 hdn
  have hdn1 := p₁.ext.notIn hd0 hdn
  have hlen : ks.length = vals'.length := by rw [← rs.length, evs_len h2 hr, h3]
  have hmer : merged [] (ks.zip vals') = ks.zip vals' := by
    rw [merged_new _ [] (by simp only [List.nil_append]; rw [List.map_fst_zip (by omega)]; exact h6)]; rfl
  have hsc : Scr s₁.heap s.heap.objs.size := ⟨_, hd1, by unfold notScr; exact id⟩
  have hd0' : ({ s with heap := s.heap.push { cls := .type "dict", data := .dict #[] } } : Shared).heap.DictOf (strKind G.prog G.w) s.heap.objs.size [] := Heap.DictOf.new _
  refine ⟨ks.zip vals', hc, ?_, fun h' hm hsb => ?_⟩
  · obtain ⟨o, es', ep, ho, rr⟩ := hd0'
    have : o = { cls := .type "dict", data := .dict #[] } := by rw [hd0] at ho; exact (Option.some.inj ho).symm
    exact ⟨o, es', ep, by rw [hd1, this], rr⟩
  rw [hmer] at hm
  have h0 : G.h₀.get? s.heap.objs.size = none := by
    cases q : G.h₀.get? s.heap.objs.size with
    | none => rfl
    | some o => have := ok.keep _ _ q; rw [size_none] at this; cases this
  have okk := p₁.ok.adopt (o := .dictS (ks.zip Xs)) hdn1 h0 hsc hsb ⟨_, hm, zip_pairsR (RVs.adopt hsc hsb rs)⟩
  have lt : ∀ a o, s.heap.get? a = some o → a ≠ s.heap.objs.size := fun a o e => Nat.ne_of_lt (Heap.lt_size e)
  have ext : Ext adr (adr₁ ++ [s.heap.objs.size]) s.heap h' := by
    obtain ⟨⟨e1, rfl, f1⟩, k1, z1⟩ := (p0.trans p₁).ext
    refine ⟨⟨e1 ++ [s.heap.objs.size], by simp, fun a ha => ?_⟩, fun a o e hn => (hsb.2 a (lt a o e)).trans (k1 a o e hn), fun a o e => ?_⟩
    · rcases List.mem_append.mp ha with ha | ha
      · exact f1 a ha
      · rw [List.mem_singleton.mp ha]; exact size_none _
    · obtain ⟨o', e'⟩ := z1 a o e
      exact ⟨o', (hsb.2 a (lt a o e)).trans e'⟩
  obtain ⟨hh, tk, rfl⟩ := p₁.ss
  refine k (adr₁ ++ [s.heap.objs.size]) _ _ ⟨⟨h', _, rfl⟩, ext, okk⟩ (.ref ?_)
  rw [← p₁.ok.len]; simp

theorem snd_cmp (g : GF G T) {o : O2} {a b : Ex} (ha : SndE G C n a) (hb : SndE G C n b) : SndC G C n (.cmp o a b) := by
  intro e env fn ρ hE adr σ σ' s A Q Er x h he F ok hA k
  unfold evc at he
  obtain ⟨⟨Y, σ₁⟩, hr, he⟩ := Option.bind_eq_some_iff.mp he
  obtain ⟨⟨Z, σ₂⟩, hq, he⟩ := Option.bind_eq_some_iff.mp he
  obtain ⟨⟨W, σ₃⟩, hp, he⟩ := Option.bind_eq_some_iff.mp he
  dsimp only at he hp hq
  unfold mC at h
  split at h
  case h_2 => cases h
  simp only [Bool.and_eq_true, decide_eq_true_eq] at h
  obtain ⟨⟨h1, h2⟩, h3⟩ := h
  obtain ⟨ht, n1, n2⟩ := cmp_t2 h1
  refine wpAny_isTrue_Compare1 (ha h2 hr F ok hA fun adr₁ v s₁ p₁ r₁ => hb h3 hq (F.ext p₁.ext) p₁.ok hA fun adr₂ u s₂ p₂ r₂ => ?_) ((mE_notSet h3).1 _)
  rw [← ht]
  refine o2Ok g.toGOk hp (r₁.mono p₂.ext) r₂ p₂.ok hA.room (fun adr₃ v₃ s₃ p₃ r₃ => ?_) n1 n2
  cases W with
  | bool t =>
    cases he
    cases r₃
    exact wpAny_truthy_bool (k _ _ ((p₁.trans p₂).trans p₃))
  | _ => cases he

theorem snd_cnot {c : Cn} (hc : SndC G C n c) : SndC G C n (.not c) := by
  intro e env fn ρ hE adr σ σ' s A Q Er x h he F ok hA k
  unfold evc at he
  obtain ⟨⟨Y, σ₁⟩, hr, he⟩ := Option.map_eq_some_iff.mp he
  cases he
  unfold mC at h
  split at h
  case h_2 => cases h
  exact wpAny_isTrue_Not (hc h hr F ok hA k)
theorem snd_cand {cs : Cns} (hc : SndCs G C n cs) : SndC G C n (.and cs) := by
  intro e env fn ρ hE adr σ σ' s A Q Er x h he F ok hA k
  unfold evc at he
  unfold mC at h
  split at h
  case h_2 => cases h
  exact wpAny_isTrue_BoolOp ((hc h F ok hA k).1 he).1
theorem snd_cor {cs : Cns} (hc : SndCs G C n cs) : SndC G C n (.or cs) := by
  intro e env fn ρ hE adr σ σ' s A Q Er x h he F ok hA k
  unfold evc at he
  unfold mC at h
  split at h
  case h_2 => cases h
  exact wpAny_isTrue_BoolOp ((hc h F ok hA k).2 he)
theorem snd_cite {c a b : Cn} (hc : SndC G C n c) (ha : SndC G C n a) (hb : SndC G C n b) : SndC G C n (.ite c a b) := by
  intro e env fn ρ hE adr σ σ' s A Q Er x h he F ok hA k
  unfold evc at he
  obtain ⟨⟨t, σ₁⟩, hr, he⟩ := Option.bind_eq_some_iff.mp he
  dsimp only at he
  unfold mC at h
  split at h
  case h_2 => cases h
  simp only [Bool.and_eq_true] at h
  obtain ⟨⟨h1, h2⟩, h3⟩ := h
  rw [arm_isTrue_IfExp]
  refine wpAny_bind (hc h1 hr F ok hA fun adr₁ s₁ p₁ => ?_)
  cases t with
  | true => exact ha h2 he (F.ext p₁.ext) p₁.ok hA (step0 p₁ k)
  | false => exact hb h3 he (F.ext p₁.ext) p₁.ok hA (step0 p₁ k)
theorem snd_cval {a : Ex} (ha : SndE G C n a) : SndC G C n (.val a) := by
  intro e env fn ρ hE adr σ σ' s A Q Er x h he F ok hA k
  unfold evc at he
  obtain ⟨⟨Y, σ₁⟩, hr, he⟩ := Option.bind_eq_some_iff.mp he
  dsimp only at he
  unfold mC at h
  split at h
  case h_2 => cases h
  refine wpAny_isTrue_value (ha h hr F ok hA fun adr₁ v s₁ p₁ r₁ => ?_) rfl
  cases Y with
  | bool t => cases he; cases r₁; exact wpAny_truthy_bool (k _ _ p₁)
  | _ => cases he

theorem ifs_false {env : Env} {A : Around} {Q : Bool → Shared → Prop} {Er : Value → Shared → Prop} {s : Shared} : ∀ (l : List Expr), Q false s →
    wpAny (model G.prog G.w) A (forIn l false fun c r => if r = true then do let ok ← isTrue c env (eval c env); pure (ForInStep.yield ok) else pure (ForInStep.yield r)) Q Er s
  | [], h => by rw [List.forIn_nil]; exact wpAny_pure h
  | c :: l, h => by
    rw [List.forIn_cons]
    refine wpAny_bind ?_
    rw [if_neg (by decide)]
    exact wpAny_pure (ifs_false l h)

theorem snd_csnil : SndCs G C n .nil := by
  intro l env fn ρ hE adr σ σ' s A Q Er b h F ok hA k
  cases l with
  | cons _ _ => simp [mCs] at h
  | nil =>
    refine ⟨fun he => ?_, fun he => ?_⟩
    · unfold evca at he; cases he
      exact ⟨wpAny_allTrue_And_nil (k _ _ (Post.refl ok)), by unfold ifsOf; rw [List.forIn_nil]; exact wpAny_pure (k _ _ (Post.refl ok))⟩
    · unfold evco at he; cases he
      exact wpAny_allTrue_Or_nil (k _ _ (Post.refl ok))
theorem snd_cscons {c : Cn} {cs : Cns} (hc : SndC G C n c) (hs : SndCs G C n cs) : SndCs G C n (.cons c cs) := by
  intro l env fn ρ hE adr σ σ' s A Q Er b h F ok hA k
  cases l with
  | nil => simp [mCs] at h
  | cons e l =>
    unfold mCs at h
    obtain ⟨h1, h2⟩ := Bool.and_eq_true_iff.mp h
    refine ⟨fun he => ?_, fun he => ?_⟩
    · unfold evca at he
      obtain ⟨⟨t, σ₁⟩, hr, he⟩ := Option.bind_eq_some_iff.mp he
      dsimp only at he
      refine ⟨wpAny_allTrue_And_cons (hc h1 hr F ok hA fun adr₁ s₁ p₁ => ?_), ?_⟩
      · cases t with
        | true => exact ((hs h2 (F.ext p₁.ext) p₁.ok hA (step0 p₁ k)).1 he).1
        | false => cases he; exact k _ _ p₁
      · unfold ifsOf
        rw [List.forIn_cons]
        refine wpAny_bind ?_
        rw [if_pos rfl]
        refine wpAny_bind (hc h1 hr F ok hA fun adr₁ s₁ p₁ => wpAny_pure ?_)
        cases t with
        | true => exact ((hs h2 (F.ext p₁.ext) p₁.ok hA (step0 p₁ k)).1 he).2
        | false => cases he; exact ifs_false l (k _ _ p₁)
    · unfold evco at he
      obtain ⟨⟨t, σ₁⟩, hr, he⟩ := Option.bind_eq_some_iff.mp he
      dsimp only at he
      refine wpAny_allTrue_Or_cons (hc h1 hr F ok hA fun adr₁ s₁ p₁ => ?_)
      cases t with
      | true => cases he; exact k _ _ p₁
      | false => exact (hs h2 (F.ext p₁.ext) p₁.ok hA (step0 p₁ k)).2 he
end
end Mine

end

section
namespace Mine
open PySem PySem.W PyProof.Rows PySem.Calls
set_option Elab.async false
set_option autoImplicit false

/-- what any piece of a run leaves as it was -/
structure Hold (adr adr' : List Addr) (h h' : Heap) : Prop where
  plain : ∀ b o, h.get? b = some o → notScr o → b ∉ adr → h'.get? b = some o
  rv : ∀ V v, RV h adr V v → RV h' adr' V v
  nin : ∀ b o, h.get? b = some o → b ∉ adr → b ∉ adr'
  ex : ∀ b o, h.get? b = some o → ∃ o', h'.get? b = some o'
  idx : ∀ (i : Nat) (a : Addr), adr[i]? = some a → adr'[i]? = some a
theorem Hold.refl (adr : List Addr) (h : Heap) : Hold adr adr h h := ⟨fun _ _ e _ _ => e, fun _ _ r => r, fun _ _ _ n => n, fun _ o e => ⟨o, e⟩, fun _ _ e => e⟩
theorem Hold.trans {adr adr' adr'' : List Addr} {h h' h'' : Heap} (a : Hold adr adr' h h') (b : Hold adr' adr'' h' h'') : Hold adr adr'' h h'' := by
  refine ⟨fun c o e n m => b.plain c o (a.plain c o e n m) n (a.nin c o e m), fun V v r => b.rv V v (a.rv V v r), fun c o e m => ?_, fun c o e => ?_, fun i x e => b.idx i x (a.idx i x e)⟩
  · obtain ⟨o', e'⟩ := a.ex c o e; exact b.nin c o' e' (a.nin c o e m)
  · obtain ⟨o', e'⟩ := a.ex c o e; exact b.ex c o' e'

/-- an object that no value is -/
def notVal (o : Obj) : Prop := o.cls ≠ .type "tuple" ∧ o.cls ≠ .type "list" ∧ o.cls ≠ .type "range"
section
variable {adr : List Addr} {h h' : Heap} {c : Addr}
mutual
theorem RV.but (nv : ∀ o, h.get? c = some o → notVal o) (hk : ∀ b o, b ≠ c → h.get? b = some o → h'.get? b = some o) : ∀ {V : V} {v : Value}, RV h adr V v → RV h' adr V v
  | _, _, .none => .none
  | _, _, .bool b => .bool b
  | _, _, .int i t => .int i t
  | _, _, .str s t => .str s t
  | _, _, .tup ht hn hr => by
    obtain ⟨o, ho, hc, n, hd⟩ := ht
    have ne : _ ≠ c := fun z => (nv o (z ▸ ho)).1 hc
    exact .tup ⟨o, hk _ _ ne ho, hc, n, hd⟩ hn (RVs.but nv hk hr)
  | _, _, .lst ht hn hr => by
    obtain ⟨o, ho, hc, n, hd⟩ := ht
    have ne : _ ≠ c := fun z => (nv o (z ▸ ho)).2.1 hc
    exact .lst ⟨o, hk _ _ ne ho, hc, n, hd⟩ hn (RVs.but nv hk hr)
  | _, _, .rng hr hn => by
    refine .rng (hk _ _ ?_ hr) hn
    rintro rfl
    exact (nv _ hr).2.2 rfl
  | _, _, .ref e => .ref e
theorem RVs.but (nv : ∀ o, h.get? c = some o → notVal o) (hk : ∀ b o, b ≠ c → h.get? b = some o → h'.get? b = some o) : ∀ {l : List V} {vs : List Value}, RVs h adr l vs → RVs h' adr l vs
  | _, _, .nil => .nil
  | _, _, .cons r rs => .cons (RV.but nv hk r) (RVs.but nv hk rs)
end
theorem RO.but {G : Glb} (nv : ∀ o, h.get? c = Option.some o → notVal o) (hk : ∀ b o, b ≠ c → h.get? b = Option.some o → h'.get? b = Option.some o) {o : MO} {a : Addr} (ne : a ≠ c) (r : RO G h adr o a) : RO G h' adr o a := by
  have k : ∀ o, h.get? a = Option.some o → h'.get? a = Option.some o := fun o e => hk _ _ ne e
  cases o with
  | list l => obtain ⟨vs, n, h1, h2⟩ := r; exact ⟨vs, n, k _ h1, RVs.but nv hk h2⟩
  | dictI l =>
    obtain ⟨kvs, ⟨o, es, ep, ho, h1⟩, h2⟩ := r
    exact ⟨kvs, ⟨o, es, ep, k o ho, h1⟩, All2.mono h2 fun _ _ q => ⟨q.1, q.2.but nv hk⟩⟩
  | dictS l =>
    obtain ⟨kvs, ⟨o, es, ep, ho, h1⟩, h2⟩ := r
    exact ⟨kvs, ⟨o, es, ep, k o ho, h1⟩, All2.mono h2 fun _ _ q => ⟨q.1, q.2.but nv hk⟩⟩
  | inst c d => obtain ⟨dx, h1, h2⟩ := r; exact ⟨dx, h1, k _ h2⟩
  | attrs l => obtain ⟨es, n, h1, h2⟩ := r; exact ⟨es, n, k _ h1, All2.mono h2 fun _ _ q => ⟨q.1, q.2.1, q.2.2.but nv hk⟩⟩
end

theorem Hold.of_stored {adr : List Addr} {h h' : Heap} (x : Stored adr h h') : Hold adr adr h h' := ⟨fun b o e n _ => x.plain b o e n, x.rv, fun _ _ _ m => m, x.ex, fun _ _ e => e⟩
theorem Hold.of_ext {adr adr' : List Addr} {h h' : Heap} (x : Ext adr adr' h h') : Hold adr adr' h h' :=
  ⟨fun b o e _ m => x.keep b o e m, fun _ _ r => r.mono x, fun _ _ e m => x.notIn e m, x.ex, fun _ _ e => x.idx e⟩

section
variable {G : Glb} {env : Env} {fn : Bool} {ρ ρ' : Ev} {hE : Heap} {adr adrE : List Addr} {σ : Hp} {A : Around} {E : Value → Shared → Prop} {s : Shared} {n : Nat}

/-- one step of an iterator -/
theorem stepIt {I : Addr} {h h' : Heap} (J : Inv G env fn adrE hE ρ adr σ h) (hI : I ∉ adr) (hf : hE.get? I = none) (nv : ∃ o, h.get? I = some o ∧ notVal o ∧ notScr o) (hk : ∀ b o, b ≠ I → h.get? b = some o → h'.get? b = some o) :
    Inv G env fn adrE hE ρ adr σ h' ∧ (∀ V v, RV h adr V v → RV h' adr V v) := by
  obtain ⟨F, ok, ex⟩ := J
  obtain ⟨oI, eI, nI, sI⟩ := nv
  have nv' : ∀ o, h.get? I = some o → notVal o := fun o e => by rw [eI] at e; cases e; exact nI
  have rv : ∀ V v, RV h adr V v → RV h' adr V v := fun _ _ r => r.but nv' hk
  have scr : ∀ b, Scr h b → b ≠ I := fun b x => by
    rintro rfl
    obtain ⟨o, e, nn⟩ := x
    rw [eI] at e; cases e; exact nn sI
  obtain ⟨m, cm, v⟩ := F.vals
  refine ⟨⟨{ F with vals := ⟨m, cm, ⟨?_, fun y c e => ?_, fun x w e => ?_⟩⟩ }, ⟨ok.len, ok.nodup, ok.base, fun b o e => hk b o ?_ (ok.keep b o e), fun i o e => ?_⟩, ⟨ex.pre, fun a o e m => hk a o ?_ (ex.keep a o e m), fun a o e => ?_⟩⟩, rv⟩
  · obtain ⟨o, es, ep, ho, r⟩ := id v.ns
    exact ⟨o, es, ep, hk _ _ (scr _ (Scr.of_ns v.ns)) ho, r⟩
  · obtain ⟨o, ho, r⟩ := v.cell y c e
    exact ⟨o, hk _ _ (scr _ (Scr.of_cell (v.cell y c e))) ho, r⟩
  · obtain ⟨hx, g⟩ := v.at_ x w e
    exact ⟨hx, fun i => by obtain ⟨vv, r, q⟩ := g i; exact ⟨vv, rv _ _ r, q⟩⟩
  · rintro rfl
    have := F.base _ _ e
    rw [hf] at this; cases this
  · obtain ⟨a, ha, r⟩ := ok.objs i o e
    exact ⟨a, ha, r.but nv' hk (fun z => hI (z ▸ mem_of_get ha))⟩
  · rintro rfl; rw [hf] at e; cases e
  · obtain ⟨o', e'⟩ := ex.ex a o e
    exact ⟨o', hk _ _ (by rintro rfl; rw [hf] at e; cases e) e'⟩

theorem bind_more {t : Tg} {v : V} (h : bindTg t v ρ = some ρ') (hn : ∀ y ∈ tgNames t, ρ y = none) : ∀ x w, ρ x = some w → ρ' x = some w := by
  have up : ∀ (xs : List Nat) (l : List V) (ρ : Ev) (x : Nat), x ∉ xs → updL xs l ρ x = ρ x := by
    intro xs
    induction xs with
    | nil => intro l ρ x _; cases l <;> rfl
    | cons y ys ih =>
      intro l ρ x hx
      cases l with
      | nil => rfl
      | cons v l =>
        show updL ys l (upd y v ρ) x = ρ x
        rw [ih l _ x (fun z => hx (List.mem_cons_of_mem _ z))]
        unfold upd
        rw [if_neg (fun z => hx (by rw [z]; exact List.mem_cons_self))]
  intro x w e
  cases t with
  | nm y =>
    cases h
    unfold upd
    by_cases z : x = y
    · subst z; rw [hn x (by simp [tgNames])] at e; cases e
    · rw [if_neg z]; exact e
  | tup xs =>
    cases v <;> try (cases h; done)
    unfold bindTg at h
    dsimp only at h
    split at h
    · cases h
      rw [up]; exact e
      intro z; rw [hn x z] at e; cases e
    · cases h
theorem bind_none {t : Tg} {v : V} (h : bindTg t v ρ = some ρ') {x : Nat} (hx : x ∉ tgNames t) (e : ρ x = none) : ρ' x = none := by
  have up : ∀ (xs : List Nat) (l : List V) (ρ : Ev) (x : Nat), x ∉ xs → updL xs l ρ x = ρ x := by
    intro xs
    induction xs with
    | nil => intro l ρ x _; cases l <;> rfl
    | cons y ys ih =>
      intro l ρ x hx
      cases l with
      | nil => rfl
      | cons v l =>
        show updL ys l (upd y v ρ) x = ρ x
        rw [ih l _ x (fun z => hx (List.mem_cons_of_mem _ z))]
        unfold upd
        rw [if_neg (fun z => hx (by rw [z]; exact List.mem_cons_self))]
  cases t with
  | nm y =>
    cases h
    unfold upd
    rw [if_neg (fun z => hx (by simp [tgNames, z]))]; exact e
  | tup xs =>
    cases v <;> try (cases h; done)
    unfold bindTg at h
    dsimp only at h
    split at h
    · cases h
      rw [up xs _ _ _ hx]; exact e
    · cases h
end

/-- the tail of one turn of a comprehension, and what comes behind it -/
def turnTail (elt : Expr) (gens : List Comprehension) (scope : Scope) (pos : Pos) (depth : Nat) (acc : Value) (env : Env) (k : Sem Fin) : Sem Fin :=
  match gens[depth]? with
  | some g' => do
    let x ← eval g'.iter env
    standAt g'.iter.pos
    if (g'.is_async != 0) = true then do
      let x ← foldedIterable g'.iter x
      let _ ← runOwn (.compStart (.ListComp elt gens scope pos) depth (← holding [x] (if (g'.is_async != 0) = true then asyncIter x else pyIter x)) acc env) env
      k
    else do
      let x ← foldedSetIterable g'.iter env x
      let _ ← runOwn (.compStart (.ListComp elt gens scope pos) depth (← holding [x] (if (g'.is_async != 0) = true then asyncIter x else pyIter x)) acc env) env
      k
  | none => do
    (do let _ ← call (.builtin "list.append") [acc, ← eval elt env])
    k

section
variable {prog : Program} {w : World} {A : Around} {R : Result → Shared → Prop} {s : Shared}

theorem compTurn_at {elt : Expr} {gens : List Comprehension} {scope : Scope} {pos : Pos} {depth : Nat} {it acc : Value} {env : Env} {target iter : Expr} {ifs : List Expr} (hg : gens[depth]? = some ⟨target, iter, ifs, 0⟩) :
    compTurn (.ListComp elt gens scope pos) depth it acc env = (do
      standAt iter.pos
      match ← pyNext it with
      | none => pure (.done .next)
      | some v =>
        letOwnedTupleGo target it v
        assign target env v
        let ok ← ifsOf ifs env
        if ok = true then
          turnTail elt gens scope pos (depth + 1) acc env (again (.compLoop (.ListComp elt gens scope pos) depth it acc env))
        else
          again (.compLoop (.ListComp elt gens scope pos) depth it acc env)) := by
  unfold compTurn turnTail ifsOf
  simp only [hg, bne_self_eq_false, Bool.false_eq_true, if_false]
  rfl

theorem compLoop_ok {elt : Expr} {gens : List Comprehension} {scope : Scope} {pos : Pos} {depth : Nat} {it acc : Value} {env : Env} {target iter : Expr} {ifs : List Expr} (hg : gens[depth]? = some ⟨target, iter, ifs, 0⟩) (I : Nat → Shared → Prop)
    (turn : ∀ (n : Nat) (s : Shared) (E : Value → Shared → Prop), I n s → wpAny (model prog w) A (pyNext it) (fun r s₁ => match r with
      | none => R (.ok .next) s₁
      | some v => wpAny (model prog w) A (letOwnedTupleGo target it v) (fun _ s₁' => wpAny (model prog w) A (assign target env v) (fun _ s₂ =>
          wpAny (model prog w) A (ifsOf ifs env) (fun ok s₃ =>
            if ok = true then ∀ (k : Sem Fin) (QF : Fin → Shared → Prop), (∀ s₅, (∃ m, m < n ∧ I m s₅) → wpAny (model prog w) A k QF E s₅) → wpAny (model prog w) A (turnTail elt gens scope pos (depth + 1) acc env k) QF E s₃
            else ∃ m, m < n ∧ I m s₃) E s₂) E s₁') E s₁) E s)
    (n : Nat) (h : I n s) : codeAny (model prog w) A (.compLoop (.ListComp elt gens scope pos) depth it acc env) R s := by
  refine codeAny_loop rfl I (fun n s hI => ?_) n h
  have hA : A.under (.compLoop (.ListComp elt gens scope pos) depth it acc env) = A := Around.under_of_weight rfl
  rw [hA]
  show wpAny _ A ((compTurn (.ListComp elt gens scope pos) depth it acc env).onRaise (fun x => do noteFrame x env; theTreesLotGoes x)) _ _ s
  refine wpAny_noted ?_
  rw [compTurn_at hg]
  refine wpAny_bind (wpAny_standAt (wpAny_bind (wpAny_mono (turn n s _ hI) (fun r s₁ h₁ => ?_) fun _ _ h' => h')))
  cases r with
  | none => exact wpAny_pure h₁
  | some v =>
    refine wpAny_bind (wpAny_mono h₁ (fun _ s₁' h₁ => ?_) fun _ _ h' => h')
    refine wpAny_bind (wpAny_mono h₁ (fun _ s₂ h₂ => wpAny_bind (wpAny_mono h₂ (fun ok s₃ h₃ => ?_) fun _ _ h' => h')) fun _ _ h' => h')
    cases ok with
    | false => exact wpAny_pure ⟨rfl, h₃⟩
    | true => exact h₃ _ _ fun s₅ h₅ => wpAny_pure ⟨rfl, h₅⟩

theorem compStart_ok {elt : Expr} {gens : List Comprehension} {scope : Scope} {pos : Pos} {depth : Nat} {it acc : Value} {env : Env} {target iter : Expr} {ifs : List Expr} (hg : gens[depth]? = some ⟨target, iter, ifs, 0⟩)
    (h0 : codeAny (model prog w) A (.compLoop (.ListComp elt gens scope pos) depth it acc env) R s)
    (h : ∀ E, wpAny (model prog w) A (pyIter it) (fun it' s' => codeAny (model prog w) A (.compLoop (.ListComp elt gens scope pos) depth it' acc env) R s') E s) :
    codeAny (model prog w) A (.compStart (.ListComp elt gens scope pos) depth it acc env) R s := by
  refine codeAny_of_tree ?_
  have hA : A.under (.compStart (.ListComp elt gens scope pos) depth it acc env) = A := Around.under_of_weight rfl
  rw [hA]
  show wpAny _ _ ((compStart (.ListComp elt gens scope pos) depth it acc env).onRaise (fun x => do noteFrame x env; standAt theWindowsPlace)) _ _ s
  refine wpAny_notedAt ?_
  unfold compStart
  have hcl : clausesOf (.ListComp elt gens scope pos) = gens := rfl
  rw [hcl, hg]
  show wpAny _ _ (ask >>= _) _ _ s
  refine wpAny_bind (wpAny_askSetting (wpAny_ite ?_))
  split
  · first
      | exact wpAny_bind (wpAny_pure (wpAny_pure (And.intro rfl h0)))
      | exact wpAny_pure (And.intro rfl h0)
  · refine wpAny_bind (wpAny_rule ?_)
    show wpAny _ _ (standAt iter.pos >>= _) _ _ s
    exact wpAny_bind (wpAny_standAt (wpAny_bind (wpAny_mono (h _) (fun it' s' h' => wpAny_pure (And.intro rfl h')) fun _ _ x => x)))
end
end Mine

end

section
namespace Mine
open PySem PySem.W PyProof.Rows PySem.Calls
set_option Elab.async false
set_option autoImplicit false

/-- what the tail of a turn does -/
def TailOk (G : Glb) (n : Nat) (cenv : Env) (adrE : List Addr) (hE : Heap) (ds : List Nat) (D : Addr) (ix : Nat) (tc : Sem Fin → Sem Fin) (tf : Ev → Hp → Option Hp) : Prop :=
  ∀ {ρ : Ev} {adr : List Addr} {σ σ' : Hp} {s : Shared} {A : Around} {k : Sem Fin} {QF : Fin → Shared → Prop} {Er : Value → Shared → Prop}, tf ρ σ = some σ' → Inv G cenv false adrE hE ρ adr σ s.heap → adr[ix]? = some D → (∀ y ∈ ds, ρ y = none) → RoomB A n →
    (∀ adr' s', SS s s' → Inv G cenv false adrE hE ρ adr' σ' s'.heap → Hold adr adr' s.heap s'.heap → wpAny (model G.prog G.w) A k QF Er s') → wpAny (model G.prog G.w) A (tc k) QF Er s

/-- one turn, as the interpreter sees it -/
noncomputable def turnF (C : Orc) (t : Tg) (ifs : Cns) (ρ : Ev) (tf : Ev → Hp → Option Hp) (x : V) (σ : Hp) : Option Hp :=
  (bindTg t x ρ).bind fun ρ' => (evca C ifs ρ' σ).bind fun b => match b.1 with
    | true => tf ρ' b.2
    | false => some b.2

section
variable {G : Glb} {T : Tab} {C : Orc} {n : Nat} {cenv : Env} {adrE adr₀ : List Addr} {hE : Heap} {D : Addr} {ix : Nat}

theorem genLoop (g : GF G T) {ρ : Ev} {ds : List Nat} {t : Tg} {ifs : Cns} {elt : Expr} {gens : List Comprehension} {scope : Scope} {pos : Pos} {depth : Nat} {acc : Value} {target iter : Expr} {ifs' : List Expr} {tf : Ev → Hp → Option Hp}
    (hs : SndCs G C n ifs) (hg : gens[depth]? = some ⟨target, iter, ifs', 0⟩) (hm : mTg G false cenv.scope t target = true) (ht : (tgNames t).all (ds.contains ·) = true) (hc : mCs G cenv.scope ifs ifs' = true)
    (tl : TailOk G n cenv adrE hE (ds.filter fun y => !(tgNames t).contains y) D ix (turnTail elt gens scope pos (depth + 1) acc cenv) tf)
    {A : Around} (hA : RoomB A n) {I : Addr} {l : List V} {fp : List Addr} {P : Nat → Value → Prop} {St : Nat → Heap → Prop} (it : Iter G A I l fp P St) {R : Result → Shared → Prop} {σ σ' : Hp} {adr : List Addr} {s₀ s₁ : Shared}
    (st : St 0 s₁.heap) (hfp : ∀ b ∈ fp, b ∉ adr) (hf0 : s₀.heap.get? I = none) (hfE : hE.get? I = none) (hH : Hold adr₀ adr s₀.heap s₁.heap) (hv : ∀ i v x, P i v → l[i]? = some x → RV s₁.heap adr x v)
    (J : Inv G cenv false adrE hE ρ adr σ s₁.heap) (hix : adr[ix]? = some D) (hds : ∀ y ∈ ds, ρ y = none) (he : loopI (turnF C t ifs ρ tf) l σ = some σ')
    (k : ∀ adr' s', SS s₁ s' → Inv G cenv false adrE hE ρ adr' σ' s'.heap → Hold adr₀ adr' s₀.heap s'.heap → adr'[ix]? = some D → R (.ok .next) s') :
    codeAny (model G.prog G.w) A (.compLoop (.ListComp elt gens scope pos) depth (.ref I) acc cenv) R s₁ := by
  have hIfp : I ∈ fp := it.W.sub I (by simp)
  refine compLoop_ok hg (fun m s' => ∃ (i : Nat) (adr' : List Addr) (σi : Hp), m = l.length + 1 - i ∧ i ≤ l.length ∧ SS s₁ s' ∧ St i s'.heap ∧ Inv G cenv false adrE hE ρ adr' σi s'.heap ∧ loopI (turnF C t ifs ρ tf) (l.drop i) σi = some σ' ∧
      (∀ b ∈ fp, b ∉ adr') ∧ (∀ j v x, P j v → l[j]? = some x → RV s'.heap adr' x v) ∧ Hold adr₀ adr' s₀.heap s'.heap ∧ adr'[ix]? = some D) ?_ (l.length + 1)
    ⟨0, adr, σ, rfl, Nat.zero_le _, SS.refl _, st, J, he, hfp, hv, hH, hix⟩
  rintro m s' E ⟨i, adr', σi, rfl, hi, hss, hst, J', he', hfp', hv', hH', hix'⟩
  have nvI : ∃ o, s'.heap.get? I = some o ∧ notVal o ∧ notScr o := by
    obtain ⟨o, nm, vs, h1, h2, h3, h4, h5, h6, h7⟩ := it.cls i _ hst
    refine ⟨o, h1, ⟨?_, ?_, ?_⟩, notScr_fields h3⟩ <;> rw [h2] <;> intro z <;> cases z <;> contradiction
  have stepH : ∀ (h₁ : Heap), (∀ b o, b ≠ I → s'.heap.get? b = some o → h₁.get? b = some o) → (∀ V v, RV s'.heap adr' V v → RV h₁ adr' V v) → Hold adr₀ adr' s₀.heap h₁ := fun h₁ hk rv =>
    ⟨fun b o e nn mm => hk b o (by rintro rfl; rw [hf0] at e; cases e) (hH'.plain b o e nn mm), fun V v r => rv V v (hH'.rv V v r), hH'.nin, fun b o e => by
      obtain ⟨o', e'⟩ := hH'.ex b o e
      exact ⟨o', hk b o' (by rintro rfl; rw [hf0] at e; cases e) e'⟩, hH'.idx⟩
  by_cases hlt : i < l.length
  · refine it.W.item i _ _ _ hlt hst fun v h₁ tk₁ hPv hst₁ hk₁ => ?_
    have hk : ∀ b o, b ≠ I → s'.heap.get? b = some o → h₁.get? b = some o := fun b o ne e => hk₁ b o (by simpa using ne) e
    obtain ⟨J₁, rv₁⟩ := stepIt J' (hfp' I hIfp) hfE nvI hk
    have hdrop : l.drop i = l[i] :: l.drop (i + 1) := List.drop_eq_getElem_cons hlt
    rw [hdrop] at he'
    unfold loopI at he'
    obtain ⟨σ₂, hF, he₂⟩ := Option.bind_eq_some_iff.mp he'
    unfold turnF at hF
    obtain ⟨ρ', hb, hF⟩ := Option.bind_eq_some_iff.mp hF
    obtain ⟨⟨t', σb⟩, hev, hF⟩ := Option.bind_eq_some_iff.mp hF
    dsimp only at hF
    refine ownTuple (G := G) (s := { s' with heap := h₁, toks := tk₁ }) (by obtain ⟨o, nm, vs, h1, h2, h3, h4, _⟩ := it.cls (i + 1) _ hst₁; exact ⟨o, nm, vs, h1, h2, h3, h4⟩) ?_
    have hrx : RV h₁ adr' l[i] v := rv₁ _ _ (hv' i v _ hPv (by simp [hlt]))
    refine bindTgOk (s := { s' with heap := h₁, toks := tk₁ }) g.nf hA.1 hm hb hrx J₁ fun s₂ hs₂ J₂ st₂ => ?_
    refine ((hs hc J₂.fr J₂.ok hA fun adr₃ s₃ p₃ => ?_).1 hev).2
    have J₃ := J₂.post p₃
    have H₃ : Hold adr' adr₃ h₁ s₃.heap := (Hold.of_stored st₂).trans (Hold.of_ext p₃.ext)
    have hss₃ : SS s₁ s₃ := (hss.trans ⟨h₁, tk₁, rfl⟩).trans (hs₂.trans p₃.ss)
    have hless : ∀ x w, ρ x = some w → ρ' x = some w := bind_more hb fun y hy => hds y (by
      have := List.all_eq_true.mp ht y hy
      simpa using this)
    have fin : ∀ adr₄ s₄, SS s₁ s₄ → Inv G cenv false adrE hE ρ' adr₄ σ₂ s₄.heap → Hold adr' adr₄ h₁ s₄.heap → ∃ m, m < l.length + 1 - i ∧ ∃ (i : Nat) (adr' : List Addr) (σi : Hp), m = l.length + 1 - i ∧ i ≤ l.length ∧ SS s₁ s₄ ∧ St i s₄.heap ∧ Inv G cenv false adrE hE ρ adr' σi s₄.heap ∧ loopI (turnF C t ifs ρ tf) (l.drop i) σi = some σ' ∧
        (∀ b ∈ fp, b ∉ adr') ∧ (∀ j v x, P j v → l[j]? = some x → RV s₄.heap adr' x v) ∧ Hold adr₀ adr' s₀.heap s₄.heap ∧ adr'[ix]? = some D := by
      intro adr₄ s₄ hss₄ J₄ H₄
      have fpk : ∀ b ∈ fp, ∃ o, h₁.get? b = some o ∧ notScr o := it.live (i + 1) _ hst₁
      refine ⟨l.length + 1 - (i + 1), by omega, i + 1, adr₄, σ₂, rfl, hlt, hss₄, ?_, ⟨J₄.fr.less hless, J₄.ok, J₄.ext⟩, he₂, ?_, ?_, ?_, ?_⟩
      · refine it.W.frame (i + 1) h₁ _ hst₁ fun b hbf o e => ?_
        obtain ⟨o', e', nn⟩ := fpk b hbf
        rw [e] at e'; cases e'
        exact H₄.plain b o e nn (hfp' b hbf)
      · intro b hbf
        obtain ⟨o', e', nn⟩ := fpk b hbf
        exact H₄.nin b o' e' (hfp' b hbf)
      · intro j u x hP hx
        exact H₄.rv _ _ (rv₁ _ _ (hv' j u x hP hx))
      · exact (stepH h₁ hk rv₁).trans H₄
      · exact H₄.idx _ _ hix'
    cases t' with
    | false =>
      rw [if_neg (by decide)]
      cases hF
      exact fin adr₃ s₃ hss₃ J₃ H₃
    | true =>
      rw [if_pos rfl]
      intro k' QF hk'
      refine tl hF J₃ (H₃.idx _ _ hix') (fun y hy => ?_) hA fun adr₄ s₄ hss₄ J₄ H₄ => hk' s₄ (fin adr₄ s₄ (hss₃.trans hss₄) J₄ (H₃.trans H₄))
      obtain ⟨hy1, hy2⟩ := List.mem_filter.mp hy
      exact bind_none hb (by simpa using hy2) (hds y hy1)
  · have hin : i = l.length := by omega
    subst hin
    refine it.W.done _ _ _ hst fun h₁ tk₁ hk₁ => ?_
    have hk : ∀ b o, b ≠ I → s'.heap.get? b = some o → h₁.get? b = some o := fun b o ne e => hk₁ b o (by simpa using ne) e
    obtain ⟨J₁, rv₁⟩ := stepIt J' (hfp' I hIfp) hfE nvI hk
    rw [List.drop_length] at he'
    unfold loopI at he'
    cases he'
    exact k adr' _ (hss.trans ⟨h₁, tk₁, rfl⟩) J₁ (stepH h₁ hk rv₁) hix'

def SndG (G : Glb) (C : Orc) (n : Nat) (x : Gens) : Prop := ∀ {gs : List Comprehension} {elt : Expr} {gens : List Comprehension} {scope : Scope} {pos : Pos} {depth : Nat} {acc : Value} {cenv : Env} {adrE : List Addr} {hE : Heap} {ds : List Nat} {D : Addr} {ix : Nat} {emit : Ev → Hp → Option Hp},
  mG G cenv.scope ds x gs = true → gens.drop depth = gs → TailOk G n cenv adrE hE [] D ix (fun k => do (do let _ ← call (.builtin "list.append") [acc, ← eval elt cenv]); k) emit →
  TailOk G n cenv adrE hE ds D ix (turnTail elt gens scope pos depth acc cenv) (evg C x emit)

theorem drop_head {α : Type} {l r : List α} {a : α} {d : Nat} (h : l.drop d = a :: r) : l[d]? = some a ∧ l.drop (d + 1) = r := by
  constructor
  · have := congrArg (fun x => x[0]?) h
    simpa using this
  · have := congrArg List.tail h
    simpa using this

theorem snd_gnil : SndG G C n .nil := by
  intro gs elt gens scope pos depth acc cenv adrE hE ds D ix emit h hd em ρ adr σ σ' s A k QF Er he J hix hds hA hk
  cases gs with
  | cons _ _ => simp [mG] at h
  | nil =>
    unfold evg at he
    have hn : gens[depth]? = none := by
      have := congrArg (fun x => x[0]?) hd
      simpa using this
    unfold turnTail
    rw [hn]
    exact em he J hix (fun _ h => nomatch h) hA hk

theorem snd_gcons (g : GF G T) {t : Tg} {it : Ex} {ifs : Cns} {rest : Gens} (hi : SndE G C n it) (hs : SndCs G C n ifs) (hr : SndG G C n rest) : SndG G C n (.cons t it ifs rest) := by
  intro gs elt gens scope pos depth acc cenv adrE hE ds D ix emit h hd em ρ adr σ σ' s A k QF Er he J hix hds hA hk
  cases gs with
  | nil => simp [mG] at h
  | cons gg gs =>
    obtain ⟨target, iter, ifs', as⟩ := gg
    unfold mG at h
    simp only [Bool.and_eq_true, beq_iff_eq] at h
    obtain ⟨⟨⟨⟨⟨rfl, h1⟩, h2⟩, h3⟩, h4⟩, h5⟩ := h
    obtain ⟨hg, hd'⟩ := drop_head hd
    have tl : TailOk G n cenv adrE hE (ds.filter fun y => !(tgNames t).contains y) D ix (turnTail elt gens scope pos (depth + 1) acc cenv) (evg C rest emit) := hr h5 hd' em
    unfold evg at he
    obtain ⟨⟨X, σ₁⟩, hev, he⟩ := Option.bind_eq_some_iff.mp he
    obtain ⟨l, hl, he⟩ := Option.bind_eq_some_iff.mp he
    dsimp only at hl he
    unfold turnTail
    rw [hg]
    refine wpAny_bind (hi h1 hev J.fr J.ok hA fun adr₁ v s₁ p₁ r₁ => wpAny_bind (wpAny_standAt ?_))
    have e0 : ((0 : Int) != 0) = false := rfl
    simp only [e0, Bool.false_eq_true, if_false]
    rw [(mE_notSet h1).2]
    refine wpAny_bind (wpAny_pure (wpAny_bind (wpAny_holding ?_)))
    have J₁ := J.post p₁
    refine iterOk hA.1 p₁.ok r₁ hl fun I fp P St s₂ hfI hss2 hgrow itr hst hfp hv => ?_
    obtain ⟨h₂, rfl⟩ := hss2
    have J₂ : Inv G cenv false adrE hE ρ adr₁ σ₁ h₂ := J₁.post (Post.grow p₁.ok (h := h₂) s₁.toks hgrow)
    have H₂ : Hold adr₁ adr₁ s₁.heap h₂ := Hold.of_ext (Post.grow p₁.ok (h := h₂) s₁.toks hgrow).ext
    have hfE : hE.get? I = none := by
      cases q : hE.get? I with
      | none => rfl
      | some o => obtain ⟨o', e'⟩ := J₁.ext.ex I o q; rw [hfI] at e'; cases e'
    refine wpAny_bind (wpAny_runOwn ?_)
    have key : ∀ R : Result → Shared → Prop, (∀ adr' s', SS { s₁ with heap := h₂ } s' → Inv G cenv false adrE hE ρ adr' σ' s'.heap → Hold adr₁ adr' s₁.heap s'.heap → R (.ok .next) s') →
        codeAny (model G.prog G.w) A (.compLoop (.ListComp elt gens scope pos) depth (.ref I) acc cenv) R { s₁ with heap := h₂ } := fun R kk =>
      genLoop (s₀ := s₁) (s₁ := { s₁ with heap := h₂ }) g hs hg h2 h3 h4 tl hA itr hst hfp hfI hfE H₂ hv J₂ (p₁.ext.idx hix) hds he fun adr' s' a b c _ => kk adr' s' a b c
    show codeAny (model G.prog G.w) A _ _ _
    refine compStart_ok hg ?_ fun E => itr.W.self 0 _ _ E hst ?_
    all_goals
      refine key _ fun adr' s' hs' J' H' => ?_
      exact hk adr' s' ((p₁.ss.trans ⟨h₂, s₁.toks, rfl⟩).trans hs') J' ((Hold.of_ext p₁.ext).trans H')
end
end Mine

end

section
namespace Mine
open PySem PySem.W PyProof.Rows PySem.Calls
set_option Elab.async false
set_option autoImplicit false

/-- the closure of a comprehension -/
def closL (env : Env) : List (Str × NameKind) → List (Str × Addr) → List (Str × Addr)
  | [], acc => acc
  | (n, k) :: r, acc => if k == .free then closL env r ((n, (env.cells.lookup n).getD 0) :: acc) else closL env r acc

theorem closureFor_eq {scope : Scope} {env : Env} (h : ∀ x ∈ scope.names, x.2 = .free → ∃ c, env.cells.lookup x.1 = some c) : closureFor scope env = pure (closL env scope.names []) := by
  unfold closureFor
  have key : ∀ (names : List (Str × NameKind)) (acc : List (Str × Addr)), (∀ x ∈ names, x.2 = .free → ∃ c, env.cells.lookup x.1 = some c) →
      (forIn names acc fun (x : Str × NameKind) (cs : List (Str × Addr)) => (if (x.2 == .free) = true then do let a ← cellOf env x.1; pure (ForInStep.yield ((x.1, a) :: cs)) else pure (ForInStep.yield cs) : Sem (ForInStep (List (Str × Addr))))) = pure (closL env names acc) := by
    intro names
    induction names with
    | nil => intro acc _; rfl
    | cons x r ih =>
      intro acc hx
      obtain ⟨nm, kd⟩ := x
      rw [List.forIn_cons]
      unfold closL
      by_cases hk : (kd == NameKind.free) = true
      · obtain ⟨c, hc⟩ := hx (nm, kd) List.mem_cons_self (beq_iff_eq.mp hk)
        have : cellOf env nm = pure c := by unfold cellOf; rw [hc]
        simp only [hk, if_true, this, pure_bind, hc, Option.getD_some]
        exact ih _ fun y hy => hx y (List.mem_cons_of_mem _ hy)
      · simp only [hk, if_false, pure_bind]
        exact ih _ fun y hy => hx y (List.mem_cons_of_mem _ hy)
  have := key scope.names [] h
  show ((forIn scope.names [] fun (x : Str × NameKind) (cs : List (Str × Addr)) => (if (x.2 == .free) = true then do let a ← cellOf env x.1; pure (ForInStep.yield ((x.1, a) :: cs)) else pure (ForInStep.yield cs) : Sem (ForInStep (List (Str × Addr))))) >>= fun s => pure s) = _
  rw [this]
  rfl

theorem closL_mem {env : Env} : ∀ (names : List (Str × NameKind)) (acc : List (Str × Addr)), (∀ x ∈ names, x.2 = .free → ∃ c, env.cells.lookup x.1 = some c) → (∀ x ∈ acc, env.cells.lookup x.1 = some x.2) →
    (∀ x ∈ closL env names acc, env.cells.lookup x.1 = some x.2) ∧ (∀ x ∈ acc, x ∈ closL env names acc) ∧ (∀ x ∈ names, x.2 = .free → ∃ c, (x.1, c) ∈ closL env names acc)
  | [], acc, _, ha => ⟨ha, fun _ h => h, fun _ h => nomatch h⟩
  | (nm, kd) :: r, acc, h, ha => by
    unfold closL
    have hr : ∀ x ∈ r, x.2 = .free → ∃ c, env.cells.lookup x.1 = some c := fun x hx => h x (List.mem_cons_of_mem _ hx)
    by_cases hk : (kd == NameKind.free) = true
    · rw [if_pos hk]
      obtain ⟨c, hc⟩ := h (nm, kd) List.mem_cons_self (beq_iff_eq.mp hk)
      have ha' : ∀ x ∈ (nm, (env.cells.lookup nm).getD 0) :: acc, env.cells.lookup x.1 = some x.2 := fun x hx => by
        rcases List.mem_cons.mp hx with rfl | hx
        · dsimp only at hc ⊢; rw [hc]; rfl
        · exact ha x hx
      obtain ⟨a, b, d⟩ := closL_mem r _ hr ha'
      refine ⟨a, fun x hx => b x (List.mem_cons_of_mem _ hx), fun x hx hf => ?_⟩
      rcases List.mem_cons.mp hx with rfl | hx
      · exact ⟨_, b _ List.mem_cons_self⟩
      · exact d x hx hf
    · rw [if_neg hk]
      obtain ⟨a, b, d⟩ := closL_mem r acc hr ha
      refine ⟨a, b, fun x hx hf => ?_⟩
      rcases List.mem_cons.mp hx with rfl | hx
      · exact absurd (beq_iff_eq.mpr hf) hk
      · exact d x hx hf
theorem lookup_of_mem {α β : Type} [BEq α] [LawfulBEq α] : ∀ {l : List (α × β)} {x : α} {y : β}, (x, y) ∈ l → ∃ z, l.lookup x = some z
  | [], _, _, h => nomatch h
  | (a, b) :: r, x, y, h => by
    rw [List.lookup_cons]
    cases e : x == a with
    | true => exact ⟨b, rfl⟩
    | false =>
      rcases List.mem_cons.mp h with h | h
      · cases h; simp at e
      · exact lookup_of_mem h

theorem lookup_map {f : Str → NameKind → NameKind} : ∀ (l : List (Str × NameKind)) (x : Str), (l.map fun (n, k) => (n, f n k)).lookup x = (l.lookup x).map (f x)
  | [], _ => rfl
  | (n, k) :: r, x => by
    show List.lookup x ((n, f n k) :: r.map fun (n, k) => (n, f n k)) = _
    rw [List.lookup_cons, List.lookup_cons]
    cases e : x == n with
    | true => rw [beq_iff_eq.mp e]; rfl
    | false => exact lookup_map r x
theorem relab_lookup (sc scope : Scope) (x : Str) : (relabS sc scope).names.lookup x = (scope.names.lookup x).map fun k => if (k == .free && sc.kind == .function && sc.names.lookup x == some .cell) then .cell else k := by
  have : (relabS sc scope).names = scope.names.map fun (n, k) => (n, if (k == .free && sc.kind == .function && sc.names.lookup n == some .cell) then NameKind.cell else k) := by
    show scope.names.map _ = _
    apply List.map_congr_left
    rintro ⟨n, k⟩ _
    dsimp only
    split <;> rfl
  rw [this, lookup_map (f := fun n k => if (k == .free && sc.kind == .function && sc.names.lookup n == some .cell) then NameKind.cell else k)]
theorem lookup_mem {α : Type} : ∀ {l : List (Str × α)} {n : Str} {c : α}, l.lookup n = some c → (n, c) ∈ l := PySem.mem_of_lookup

structure ScFacts (G : Glb) (sc : Scope) (ls : List Nat) (scope : Scope) : Prop where
  kind : scope.kind = .function
  noCell : ∀ x ∈ scope.names, x.2 ≠ .cell
  local_ : ∀ x ∈ scope.names, x.2 = .local → x.1 = (".0" : Str) ∨ ∃ y ∈ ls, y < G.N ∧ G.nm y = x.1
  free : ∀ x ∈ scope.names, x.2 = .free → sc.names.lookup x.1 = some .cell ∨ sc.names.lookup x.1 = some .free
  names : ∀ x ∈ scope.names, scope.names.lookup x.1 = some x.2

theorem lookup_nodup {α : Type} : ∀ {l : List (Str × α)}, (l.map (·.1)).Nodup → ∀ x ∈ l, l.lookup x.1 = some x.2
  | [], _, _, h => nomatch h
  | (a, b) :: r, h, x, hx => by
    rw [List.map_cons, List.nodup_cons] at h
    rw [List.lookup_cons]
    rcases List.mem_cons.mp hx with rfl | hx
    · simp
    · have : (x.1 == a) = false := beq_eq_false_iff_ne.mpr fun z => h.1 (List.mem_map.mpr ⟨x, hx, z⟩)
      rw [this]
      exact lookup_nodup h.2 x hx

theorem scFacts {G : Glb} {sc : Scope} {ls : List Nat} {scope : Scope} (h : scOk G sc ls scope = true) : ScFacts G sc ls scope := by
  unfold scOk at h
  simp only [Bool.and_eq_true, beq_iff_eq, decide_eq_true_eq] at h
  obtain ⟨⟨h1, h2⟩, h3⟩ := h
  have h3 := List.all_eq_true.mp h3
  refine ⟨h1, fun x hx e => ?_, fun x hx e => ?_, fun x hx e => ?_, lookup_nodup h2⟩
  · have := h3 x hx
    obtain ⟨n, k⟩ := x
    dsimp only at e this
    subst e
    cases this
  · have := h3 x hx
    obtain ⟨n, k⟩ := x
    dsimp only at e this
    subst e
    rcases Bool.or_eq_true_iff.mp this with this | this
    · exact .inl (beq_iff_eq.mp this)
    · obtain ⟨y, hy, e⟩ := List.any_eq_true.mp this
      simp only [Bool.and_eq_true, decide_eq_true_eq, beq_iff_eq] at e
      exact .inr ⟨y, hy, e.1, e.2⟩
  · have := h3 x hx
    obtain ⟨n, k⟩ := x
    dsimp only at e this
    subst e
    simpa using this

theorem compFr {G : Glb} {env : Env} {fn : Bool} {ρ : Ev} {hE hE' h₁ h₂ : Heap} {adr₁ adr₂ : List Addr} {ls : List Nat} {scope : Scope} {C : Addr} (nf : NFacts G) (F : Fr G env fn ρ hE adr₁ h₁) (sf : ScFacts G env.scope ls scope)
    (hx : Ext adr₁ adr₂ h₁ h₂) (hn : h₂.Ns C fun _ => none) (hC : hE'.get? C = none) (hCn : C ∉ adr₂) (hb : ∀ b o, G.h₀.get? b = some o → hE'.get? b = some o) :
    Fr G (compEnvC scope (closL env scope.names []) C env) false (drops ls ρ) hE' adr₂ h₂ ∧ closureFor scope env = pure (closL env scope.names []) := by
  have hfree : ∀ x ∈ scope.names, x.2 = .free → ∃ c, env.cells.lookup x.1 = some c := fun x hx e => F.hasC x.1 (sf.free x hx e)
  obtain ⟨c1, _, c3⟩ := closL_mem scope.names [] hfree (fun _ h => nomatch h)
  have cl : ∀ n c, (closL env scope.names []).lookup n = some c → env.cells.lookup n = some c := fun n c e => c1 _ (lookup_mem e)
  have kd : ∀ x, (compEnvC scope (closL env scope.names []) C env).kindOf x = (scope.names.lookup x).map fun k => if (k == .free && env.scope.kind == .function && env.scope.names.lookup x == some .cell) then .cell else k := fun x => relab_lookup env.scope scope x
  have isfree : ∀ x, ((compEnvC scope (closL env scope.names []) C env).kindOf x = some .cell ∨ (compEnvC scope (closL env scope.names []) C env).kindOf x = some .free) → scope.names.lookup x = some .free := by
    intro x h
    rw [kd] at h
    cases q : scope.names.lookup x with
    | none => rw [q] at h; rcases h with h | h <;> cases h
    | some k =>
      rw [q] at h
      have hm := lookup_mem q
      simp only [Option.map_some, Option.some.injEq] at h
      by_cases hk : k = .free
      · rw [hk]
      · have : (k == NameKind.free) = false := beq_eq_false_iff_ne.mpr hk
        simp only [this, Bool.false_and, Bool.false_eq_true, if_false] at h
        rcases h with h | h
        · exact absurd h (sf.noCell _ hm)
        · exact absurd h hk
  have has : ∀ x, scope.names.lookup x = some .free → ∃ c, (closL env scope.names []).lookup x = some c := fun x e => by
    obtain ⟨c, hc⟩ := c3 _ (lookup_mem e) rfl
    exact lookup_of_mem hc
  have F' := F.ext hx
  obtain ⟨m, cm, v⟩ := F'.vals
  refine ⟨⟨sf.kind, F.glob, F.blt, hb, hC, hCn, fun n c e => F'.cN n c (cl n c e), (fun h => nomatch h), fun x h => has x (isfree x h), (fun h => nomatch h), ⟨fun _ => none, cm, hn, fun n c e => v.cell n c (cl n c e), fun x w e => ?_⟩⟩, closureFor_eq hfree⟩
  unfold drops at e
  split at e
  · cases e
  · rename_i hls
    obtain ⟨hN, gg⟩ := v.at_ x w e
    refine ⟨hN, fun hv => ?_⟩
    have hfr : scope.names.lookup (G.nm x) = some .free := by
      cases q : (compEnvC scope (closL env scope.names []) C env).kindOf (G.nm x) with
      | none => rw [q] at hv; cases hv
      | some k =>
        cases k <;> rw [q] at hv <;> try (cases hv; done)
        · exfalso
          rw [kd] at q
          cases q' : scope.names.lookup (G.nm x) with
          | none => rw [q'] at q; cases q
          | some k' =>
            rw [q'] at q
            simp only [Option.map_some, Option.some.injEq] at q
            have : k' = .local := by
              split at q
              · cases q
              · exact q
            subst this
            rcases sf.local_ _ (lookup_mem q') rfl with z | ⟨y, hy, hyN, e'⟩
            · have := (nf.plain x hN).2.2
              dsimp only at z
              rw [z] at this
              exact absurd this (by decide)
            have := nf.inj _ _ hyN hN e'
            subst this
            exact hls (by simpa using hy)
        · exact isfree _ (.inl q)
        · exact isfree _ (.inr q)
    have hout := sf.free _ (lookup_mem hfr) rfl
    obtain ⟨c, hc⟩ := has _ hfr
    have hv' : isVar (env.kindOf (G.nm x)) = true := by
      rcases hout with h | h <;> (show isVar (env.scope.names.lookup (G.nm x)) = true) <;> rw [h] <;> rfl
    obtain ⟨vv, r, q⟩ := gg hv'
    refine ⟨vv, r, .inr ⟨?_, c, hc, ?_⟩⟩
    · rw [kd, hfr]
      simp only [Option.map_some]
      split
      · exact .inl rfl
      · exact .inr rfl
    · rcases q with ⟨q1, _⟩ | ⟨_, c', q2, q3⟩
      · exfalso
        rcases hout with h | h
        · have : env.scope.names.lookup (G.nm x) = some .local := q1
          rw [h] at this; cases this
        · have : env.scope.names.lookup (G.nm x) = some .local := q1
          rw [h] at this; cases this
      · exact q3

theorem okD_drop {h : Heap} {adr : List Addr} {D : Addr} : ∀ {n : Nat} {X : V} {v : Value}, RV h (adr ++ [D]) X v → okD n X = true → RV h adr X v
  | _, _, _, .none, _ => .none
  | _, _, _, .bool b, _ => .bool b
  | _, _, _, .int i t, _ => .int i t
  | _, _, _, .str x t, _ => .str x t
  | 0, _, _, .tup _ _ _, e => by cases e
  | n + 1, _, _, .tup (l := l) (vs := vs) ht hn hr, e => by
    refine .tup ht (fun m => hn (List.mem_append_left _ m)) (rvs_iff.mpr ?_)
    have a := rvs_iff.mp hr
    have e' := okD_tup e
    clear hr ht hn e
    induction a with
    | nil => exact .nil
    | cons r _ ih => exact .cons (okD_drop r (e' _ List.mem_cons_self)) (ih fun x hx => e' x (List.mem_cons_of_mem _ hx))
  | 0, _, _, .lst _ _ _, e => by cases e
  | n + 1, _, _, .lst ht hn hr, e => by
    refine .lst ht (fun m => hn (List.mem_append_left _ m)) (rvs_iff.mpr ?_)
    have a := rvs_iff.mp hr
    have e' := okD_lst e
    clear hr ht hn e
    induction a with
    | nil => exact .nil
    | cons r _ ih => exact .cons (okD_drop r (e' _ List.mem_cons_self)) (ih fun x hx => e' x (List.mem_cons_of_mem _ hx))
  | _, _, _, .rng hr hn, _ => .rng hr fun m => hn (List.mem_append_left _ m)
  | _, _, _, .ref _, e => by rw [okD_ref] at e; cases e
end Mine

end

section
namespace Mine
open PySem PySem.W PyProof.Rows PySem.Calls
set_option Elab.async false
set_option autoImplicit false

section
variable {h h1 : Heap} {adr : List Addr} {D : Addr}
mutual
theorem RV.drop : ∀ {X : V} {v w : Value}, RV h (adr ++ [D]) X v → RV h1 adr X w → RV h adr X v
  | _, _, _, .none, _ => .none
  | _, _, _, .bool b, _ => .bool b
  | _, _, _, .int i t, _ => .int i t
  | _, _, _, .str x t, _ => .str x t
  | _, _, _, .tup ht hn hr, .tup _ _ hr' => .tup ht (fun m => hn (List.mem_append_left _ m)) (RVs.drop hr hr')
  | _, _, _, .lst ht hn hr, .lst _ _ hr' => .lst ht (fun m => hn (List.mem_append_left _ m)) (RVs.drop hr hr')
  | _, _, _, .rng hr hn, _ => .rng hr fun m => hn (List.mem_append_left _ m)
  | _, _, _, .ref e, .ref e' => .ref (by rw [List.getElem?_append_left (List.getElem?_eq_some_iff.mp e').1] at e; exact e)
theorem RVs.drop : ∀ {l : List V} {vs ws : List Value}, RVs h (adr ++ [D]) l vs → RVs h1 adr l ws → RVs h adr l vs
  | _, _, _, .nil, _ => .nil
  | _, _, _, .cons r rs, .cons r' rs' => .cons (RV.drop r r') (RVs.drop rs rs')
end
theorem pairs_drop {K : Type} : ∀ {l : List (K × V)} {kvs kvs' : List (K × Value)}, PairsR h (adr ++ [D]) l kvs → PairsR h1 adr l kvs' → PairsR h adr l kvs
  | _, _, _, .nil, _ => .nil
  | _, _, _, .cons r rs, .cons r' rs' => .cons ⟨r.1, r.2.drop r'.2⟩ (pairs_drop rs rs')
theorem attrs_drop {G : Glb} : ∀ {l : List (Nat × V)} {es es' : List DictEntry}, AttrsR G h (adr ++ [D]) l es → AttrsR G h1 adr l es' → AttrsR G h adr l es
  | _, _, _, .nil, _ => .nil
  | _, _, _, .cons r rs, .cons r' rs' => .cons ⟨r.1, r.2.1, r.2.2.drop r'.2.2⟩ (attrs_drop rs rs')
theorem RO.drop {G : Glb} {o : MO} {a b : Addr} (r : RO G h (adr ++ [D]) o a) (r' : RO G h1 adr o b) : RO G h adr o a := by
  cases o with
  | list l => obtain ⟨vs, n, e1, e2⟩ := r; obtain ⟨ws, m, _, f2⟩ := r'; exact ⟨vs, n, e1, e2.drop f2⟩
  | dictI l => obtain ⟨vs, e1, e2⟩ := r; obtain ⟨ws, _, f2⟩ := r'; exact ⟨vs, e1, pairs_drop e2 f2⟩
  | dictS l => obtain ⟨vs, e1, e2⟩ := r; obtain ⟨ws, _, f2⟩ := r'; exact ⟨vs, e1, pairs_drop e2 f2⟩
  | inst c d =>
    obtain ⟨dx, e1, e2⟩ := r
    obtain ⟨dy, f1, _⟩ := r'
    exact ⟨dx, by rw [List.getElem?_append_left (List.getElem?_eq_some_iff.mp f1).1] at e1; exact e1, e2⟩
  | attrs l => obtain ⟨es, n, e1, e2⟩ := r; obtain ⟨fs, m, _, f2⟩ := r'; exact ⟨es, n, e1, attrs_drop e2 f2⟩
end

/-- the end of a comprehension -/
theorem sealOk {G : Glb} {adr₁ adr' : List Addr} {σ₁ σ' σf : Hp} {h₁ h' : Heap} {X : V} {D : Addr} (ok₁ : Ok G adr₁ σ₁ h₁) (ok' : Ok G adr' σ' h') (ext : Ext adr₁ adr' h₁ h') (hD : adr'[σ₁.length]? = some D) (e : sealC σ₁ σ' = some (X, σf)) :
    σf = σ₁ ∧ Ok G adr₁ σ₁ h' ∧ Ext adr₁ adr₁ h₁ h' ∧ RV h' adr₁ X (.ref D) := by
  unfold sealC at e
  split at e
  case h_2 => cases e
  rename_i acc ha
  split at e
  case isFalse => cases e
  rename_i hc
  cases e
  obtain ⟨h1, h2, h3⟩ := hc
  have hadr : adr' = adr₁ ++ [D] := by
    obtain ⟨e, rfl, _⟩ := ext.pre
    have hl := ok'.len
    rw [h3] at hl
    simp only [List.length_append, List.length_singleton, ok₁.len] at hl
    have he : e.length = 1 := by omega
    obtain ⟨d, rfl⟩ := List.length_eq_one_iff.mp he
    rw [← ok₁.len] at hD
    simp at hD
    rw [hD]
  subst hadr
  have hDn : D ∉ adr₁ := by
    have := ok'.nodup
    rw [List.nodup_append] at this
    exact fun m => this.2.2 D m D (by simp) rfl
  obtain ⟨D', hD', vs, c, ho, rs⟩ := ok'.objs _ _ ha
  rw [hD] at hD'; cases hD'
  refine ⟨rfl, ⟨ok₁.len, ok₁.nodup, ok₁.base, ok'.keep, fun i o e => ?_⟩, ⟨⟨[], by simp, fun _ h => nomatch h⟩, ext.keep, ext.ex⟩, ?_⟩
  · have hi := (List.getElem?_eq_some_iff.mp e).1
    obtain ⟨a, ha', r⟩ := ok'.objs i o (by rw [h3, List.getElem?_append_left hi]; exact e)
    obtain ⟨b, hb, r'⟩ := ok₁.objs i o e
    refine ⟨a, ?_, r.drop r'⟩
    rw [List.getElem?_append_left (by rw [ok₁.len]; exact hi)] at ha'
    exact ha'
  · refine .lst ⟨_, ho, rfl, c, rfl⟩ hDn (rvs_iff.mpr ?_)
    have a := rvs_iff.mp rs
    have h1' := List.all_eq_true.mp h1
    clear rs ho ha h1 h2 h3 ok' hD ext
    induction a with
    | nil => exact .nil
    | cons r _ ih => exact .cons (okD_drop r (h1' _ List.mem_cons_self)) (ih fun x hx => h1' x (List.mem_cons_of_mem _ hx))

theorem Post.scr {G : Glb} {adr adr' : List Addr} {σ : Hp} {s s' : Shared} {C : Addr} {h' : Heap} (p : Post G adr σ s adr' s') (hC : C ∉ adr') (h0 : G.h₀.get? C = none) (hs0 : s.heap.get? C = none) (sc : Scr s'.heap C) (hs : Heap.SameBut C s'.heap h') :
    Post G adr σ s adr' { s' with heap := h' } := by
  obtain ⟨⟨hh, tk, rfl⟩, x, o⟩ := p
  refine ⟨⟨h', tk, rfl⟩, ⟨x.pre, fun b o e m => (hs.2 b (by rintro rfl; rw [hs0] at e; cases e)).trans (x.keep b o e m), fun b o e => ?_⟩, o.scr hC h0 sc hs⟩
  obtain ⟨o', e'⟩ := x.ex b o e
  exact ⟨o', (hs.2 b (by rintro rfl; rw [hs0] at e; cases e)).trans e'⟩

section
variable {G : Glb} {T : Tab} {C : Orc} {n : Nat}

theorem compCore (g : GF G T) {ls : List Nat} {elt it : Ex} {t : Tg} {ifs : Cns} {rest : Gens} (helt : SndE G C n elt) (hi : SndE G C n it) (hs : SndCs G C n ifs) (hr : SndG G C n rest)
    {elt' : Expr} {gens : List Comprehension} {scope : Scope} {pos : Pos} {env : Env} {fn : Bool} {ρ : Ev} {hE : Heap} {adr : List Addr} {σ σ' : Hp} {s : Shared} {A : Around} {Q : Value → Shared → Prop} {Er : Value → Shared → Prop} {X : V} {use : Option (Value → Sem Unit)}
    (h : mE G env.scope (.comp ls elt t it ifs rest) (.ListComp elt' gens scope pos) = true) (he : ev C (.comp ls elt t it ifs rest) ρ σ = some (X, σ')) (F : Fr G env fn ρ hE adr s.heap) (ok : Ok G adr σ s.heap) (hA : RoomB A n)
    (K : ∀ adr' s' acc Cx m, Post G adr σ' s adr' s' → RV s'.heap adr' X acc → Cx ∉ adr' → G.h₀.get? Cx = none → s.heap.get? Cx = none → s'.heap.Ns Cx m → compPost (model G.prog G.w) A Er use Q acc Cx (.ok .next) s') :
    wpAny (model G.prog G.w) A (comprehension (.ListComp elt' gens scope pos) scope env (firstIterPos gens pos) (newList []) (firstAsync gens) (firstIter gens env) use) Q Er s := by
  unfold mE at h
  cases gens with
  | nil => cases h
  | cons g0 gs =>
  obtain ⟨target, iter, ifs', as⟩ := g0
  simp only [Bool.and_eq_true, beq_iff_eq] at h
  obtain ⟨⟨⟨⟨⟨⟨⟨rfl, hsc⟩, h1⟩, h2⟩, h3⟩, h4⟩, h5⟩, h6⟩ := h
  have sf := scFacts hsc
  unfold ev at he
  obtain ⟨⟨Y, σ₁⟩, hev, he⟩ := Option.bind_eq_some_iff.mp he
  obtain ⟨l, hl, he⟩ := Option.bind_eq_some_iff.mp he
  obtain ⟨σq, hloop, he⟩ := Option.bind_eq_some_iff.mp he
  dsimp only at hl hloop he
  have hfree : ∀ x ∈ scope.names, x.2 = .free → ∃ c, env.cells.lookup x.1 = some c := fun x hx e => F.hasC x.1 (sf.free x hx e)
  have hclos := closureFor_eq (scope := scope) (env := env) hfree
  show wpAny _ A (comprehension (.ListComp elt' (⟨target, iter, ifs', 0⟩ :: gs) scope pos) scope env iter.pos (newList []) false (eval iter env) use) Q Er s
  refine wpAny_comprehension_free rfl (fun x => (mE_notSet h1).2 env x) hclos sf.kind (fun x hx e => by rw [← e]; exact sf.names x hx) ?_
  refine hi h1 hev F ok hA fun adr₁ v s₁ p₁ r₁ => ?_
  refine iterOk hA.1 p₁.ok r₁ hl fun I fp P St s₂ hfI hss2 hgrow itr hst hfp hv => ?_
  obtain ⟨h₂, rfl⟩ := hss2
  refine wpAny_newObj_type ?_ (by show (0 : Nat) ≤ _; exact Nat.zero_le _)
  refine wpAny_newFunctionEnv sf.noCell (by intro y hy; simp at hy) (fun h₄ hns hsb => ?_) sf.kind
  dsimp only at hns hsb ⊢
  have o₂ := (p₁.ok.mono hgrow).1
  have e₂ := (p₁.ok.mono hgrow).2
  generalize hH3 : h₂.push { cls := .type "list", dict := none, data := .seq ([] : List Value).toArray } = h₃ at hns hsb ⊢
  have k₃ : ∀ a o, h₂.get? a = some o → h₃.get? a = some o := fun a o e => hH3 ▸ Heap.get?_push_of_some _ e
  have hD₃ : h₃.get? h₂.objs.size = some { cls := .type "list", data := .seq ([] : List Value).toArray } := hH3 ▸ Heap.get?_push_size _ rfl
  have hz₃ : h₃.objs.size = h₂.objs.size + 1 := by rw [← hH3, Heap.size_push]
  have k₄ : ∀ a o, h₃.get? a = some o → h₄.get? a = some o := fun a o e => hsb.extBut a o (Nat.ne_of_lt (Heap.lt_size e)) (Heap.get?_push_of_some _ e)
  have q₃ := o₂.new (a := h₂.objs.size) (o := .list []) (h' := h₃) (size_none _) k₃ (fun _ => ⟨[], 0, hD₃, .nil⟩)
  have o₄ := (q₃.1.mono k₄).1
  have e₄ := (q₃.1.mono k₄).2
  have ext₁₄ : Ext adr₁ (adr₁ ++ [h₂.objs.size]) s₁.heap h₄ := (e₂.trans q₃.2).trans e₄
  have hDn : h₂.get? h₂.objs.size = none := size_none _
  have up : ∀ a, h₂.get? a = none → s₁.heap.get? a = none := fun a e => by
    cases q : s₁.heap.get? a with
    | none => rfl
    | some o => rw [hgrow a o q] at e; cases e
  have hC₂ : h₂.get? h₃.objs.size = none := none_of_ge (by rw [hz₃]; omega)
  have hC₁ := up _ hC₂
  have hb₁ : ∀ b o, G.h₀.get? b = some o → s₁.heap.get? b = some o := p₁.ok.keep
  have hC₀ : G.h₀.get? h₃.objs.size = none := by
    cases q : G.h₀.get? h₃.objs.size with
    | none => rfl
    | some o => rw [hb₁ _ o q] at hC₁; cases hC₁
  have hCs : s.heap.get? h₃.objs.size = none := by
    cases q : s.heap.get? h₃.objs.size with
    | none => rfl
    | some o => obtain ⟨o', e'⟩ := p₁.ext.ex _ o q; rw [hC₁] at e'; cases e'
  have hCn : h₃.objs.size ∉ adr₁ ++ [h₂.objs.size] := by
    intro m
    rcases List.mem_append.mp m with m | m
    · exact o₂.fresh hC₂ m
    · have := List.mem_singleton.mp m; omega
  obtain ⟨FC, _⟩ := compFr (C := h₃.objs.size) g.nf (F.ext p₁.ext) sf ext₁₄ hns hC₁ hCn hb₁
  have J : Inv G (compEnvC scope (closL env scope.names []) h₃.objs.size env) false adr₁ s₁.heap (drops ls ρ) (adr₁ ++ [h₂.objs.size]) (σ₁ ++ [.list []]) h₄ := ⟨FC, o₄, ext₁₄⟩
  have hlive := itr.live 0 _ hst
  have hst₄ : St 0 h₄ := itr.W.frame 0 h₂ h₄ hst fun b hb o e => k₄ b o (k₃ b o e)
  have hfp₄ : ∀ b ∈ fp, b ∉ adr₁ ++ [h₂.objs.size] := fun b hb m => by
    rcases List.mem_append.mp m with m | m
    · exact hfp b hb m
    · obtain ⟨o, e, _⟩ := hlive b hb
      rw [List.mem_singleton.mp m, hDn] at e; cases e
  have hv₄ : ∀ i v x, P i v → l[i]? = some x → RV h₄ (adr₁ ++ [h₂.objs.size]) x v := fun i v x hP hx => (hv i v x hP hx).mono (q₃.2.trans e₄)
  have hix : (adr₁ ++ [h₂.objs.size])[σ₁.length]? = some h₂.objs.size := by rw [← p₁.ok.len]; simp
  have hds : ∀ y ∈ ls, drops ls ρ y = none := fun y hy => by
    unfold drops
    rw [if_pos (by simpa using hy)]
  have em : TailOk G n (compEnvC scope (closL env scope.names []) h₃.objs.size env) adr₁ s₁.heap [] h₂.objs.size σ₁.length (fun k => do (do let _ ← call (.builtin "list.append") [Value.ref h₂.objs.size, ← eval elt' (compEnvC scope (closL env scope.names []) h₃.objs.size env)]); k)
      (fun ρ'' σ'' => (ev C elt ρ'' σ'').bind fun y => emit1 σ₁.length y.1 y.2) := by
    intro ρ₂ adr₂ σ₂ σ₃ s₂ A₂ k QF Er₂ hem J₂ hix₂ _ hA₂ hk
    obtain ⟨⟨y, σ₄⟩, hy, hem⟩ := Option.bind_eq_some_iff.mp hem
    dsimp only at hem
    refine wpAny_bind (wpAny_bind (helt h6 hy J₂.fr J₂.ok hA₂ fun adr₃ vy s₃ p₃ r₃ => wpAny_bind ?_))
    unfold emit1 at hem
    split at hem
    case h_2 => cases hem
    rename_i acc hacc
    split at hem
    case isFalse => cases hem
    rename_i hz
    cases hem
    have J₃ := J₂.post p₃
    refine appOk J₃.ok (.ref (p₃.ext.idx hix₂)) r₃ hacc hz fun adr₅ v₅ s₅ p₅ _ => wpAny_pure ?_
    exact hk adr₅ s₅ (p₃.ss.trans p₅.ss) (J₃.post p₅) ((Hold.of_ext p₃.ext).trans (Hold.of_ext p₅.ext))
  have tl : TailOk G n (compEnvC scope (closL env scope.names []) h₃.objs.size env) adr₁ s₁.heap (ls.filter fun y => !(tgNames t).contains y) h₂.objs.size σ₁.length
      (turnTail elt' (⟨target, iter, ifs', 0⟩ :: gs) scope pos 1 (.ref h₂.objs.size) (compEnvC scope (closL env scope.names []) h₃.objs.size env)) (evg C rest fun ρ'' σ'' => (ev C elt ρ'' σ'').bind fun y => emit1 σ₁.length y.1 y.2) := hr h5 rfl em
  have key : ∀ s₄ : Shared, s₄ = { s₁ with heap := h₄, toks := s₁.toks + ([] : List (Str × Value)).length } →
      codeAny (model G.prog G.w) A (.compLoop (.ListComp elt' (⟨target, iter, ifs', 0⟩ :: gs) scope pos) 0 (.ref I) (.ref h₂.objs.size) (compEnvC scope (closL env scope.names []) h₃.objs.size env))
        (compPost (model G.prog G.w) A Er use Q (.ref h₂.objs.size) h₃.objs.size) s₄ := by
    rintro s₄ rfl
    refine genLoop (s₀ := s₁) (adr₀ := adr₁) g hs (depth := 0) rfl h2 h3 h4 tl hA itr hst₄ hfp₄ hfI hfI (Hold.of_ext ext₁₄) hv₄ J hix hds hloop fun adr' s' hss J' H' hix' => ?_
    obtain ⟨rfl, okf, extf, rv⟩ := sealOk p₁.ok J'.ok J'.ext hix' he
    obtain ⟨m, cm, vv⟩ := J'.fr.vals
    have pf : Post G adr₁ σ' s₁ adr₁ s' := ⟨SS.trans ⟨h₄, _, rfl⟩ hss, extf, okf⟩
    exact K adr₁ s' _ _ m (p₁.trans pf) rv (o₂.fresh hC₂) hC₀ hCs vv.ns
  show codeAny _ A (.compStart (.ListComp elt' (⟨target, iter, ifs', 0⟩ :: gs) scope pos) 0 (.ref I) (.ref h₂.objs.size) (compEnvC scope (closL env scope.names []) h₃.objs.size env)) _ _
  exact compStart_ok (depth := 0) rfl (key _ rfl) fun E => itr.W.self 0 _ _ E hst₄ (key _ rfl)

theorem snd_comp (g : GF G T) {ls : List Nat} {elt it : Ex} {t : Tg} {ifs : Cns} {rest : Gens} (helt : SndE G C n elt) (hi : SndE G C n it) (hs : SndCs G C n ifs) (hr : SndG G C n rest) : SndE G C n (.comp ls elt t it ifs rest) := by
  intro e env fn ρ hE adr σ σ' s A Q Er X h he F ok hA k
  have h' := h
  unfold mE at h
  split at h
  case h_2 => cases h
  rename_i elt' g0 gs scope pos
  rw [eval_ListComp]
  refine compCore g helt hi hs hr h' he F ok hA fun adr' s' acc Cx m p r c1 c2 c3 ns => ?_
  refine ⟨m, ns, fun h'' hs'' => ?_⟩
  have sc := Scr.of_ns ns
  exact k adr' acc _ (p.scr c1 c2 c3 sc hs'') (r.scr sc hs'')
end
end Mine

end

section
namespace Mine
open PySem PySem.W PyProof.Rows PySem.Calls
set_option Elab.async false
set_option autoImplicit false

def FlR (h : Heap) (adr : List Addr) : Fl → Flow → Prop
  | .nxt, f => f = .next
  | .brk, f => f = .brk
  | .ret v, f => ∃ vv, f = .ret vv ∧ RV h adr v vv

section
variable (G : Glb) (C : Orc) (n : Nat)
def SndS (x : St) : Prop := ∀ {st : Stmt} {env : Env} {ρ ρ' : Ev} {hE : Heap} {adrE adr : List Addr} {σ σ' : Hp} {fl : Fl} {s : Shared} {A : Around} {Q : Flow → Shared → Prop} {Er : Value → Shared → Prop},
  mS G env.scope x st = true → exe C x ρ σ = some (fl, ρ', σ') → Inv G env true adrE hE ρ adr σ s.heap → RoomB A n →
  (∀ adr' s' f, SS s s' → Inv G env true adrE hE ρ' adr' σ' s'.heap → Hold adr adr' s.heap s'.heap → FlR s'.heap adr' fl f → Q f s') → wpAny (model G.prog G.w) A (exec st env) Q Er s
def SndSs (x : Sts) : Prop := ∀ {l : List Stmt} {env : Env} {ρ ρ' : Ev} {hE : Heap} {adrE adr : List Addr} {σ σ' : Hp} {fl : Fl} {s : Shared} {A : Around} {Q : Flow → Shared → Prop} {Er : Value → Shared → Prop},
  mSs G env.scope x l = true → exs C x ρ σ = some (fl, ρ', σ') → Inv G env true adrE hE ρ adr σ s.heap → RoomB A n →
  (∀ adr' s' f, SS s s' → Inv G env true adrE hE ρ' adr' σ' s'.heap → Hold adr adr' s.heap s'.heap → FlR s'.heap adr' fl f → Q f s') → wpAny (model G.prog G.w) A (execs l env) Q Er s
end

section
variable {G : Glb} {T : Tab} {C : Orc} {n : Nat}

theorem snd_ssnil : SndSs G C n .nil := by
  intro l env ρ ρ' hE adrE adr σ σ' fl s A Q Er h he J hA k
  cases l with
  | cons _ _ => simp [mSs] at h
  | nil =>
    unfold exs at he; cases he
    exact wpAny_execs_nil (k adr s _ (SS.refl _) J (Hold.refl _ _) rfl)
theorem snd_sscons {x : St} {xs : Sts} (hx : SndS G C n x) (hs : SndSs G C n xs) : SndSs G C n (.cons x xs) := by
  intro l env ρ ρ' hE adrE adr σ σ' fl s A Q Er h he J hA k
  cases l with
  | nil => simp [mSs] at h
  | cons st l =>
    unfold mSs at h
    obtain ⟨h1, h2⟩ := Bool.and_eq_true_iff.mp h
    unfold exs at he
    obtain ⟨⟨f₁, ρ₁, σ₁⟩, hr, he⟩ := Option.bind_eq_some_iff.mp he
    dsimp only at he
    refine wpAny_execs_cons (hx h1 hr J hA fun adr₁ s₁ f hss J₁ H₁ hf => ?_)
    cases f₁ with
    | nxt =>
      cases hf
      dsimp only at he
      exact hs h2 he J₁ hA fun adr₂ s₂ f₂ hss₂ J₂ H₂ hf₂ => k adr₂ s₂ f₂ (hss.trans hss₂) J₂ (H₁.trans H₂) hf₂
    | brk =>
      cases hf
      cases he
      exact k adr₁ s₁ _ hss J₁ H₁ rfl
    | ret v =>
      obtain ⟨vv, rfl, r⟩ := hf
      cases he
      exact k adr₁ s₁ _ hss J₁ H₁ ⟨vv, rfl, r⟩

theorem snd_ret {e : Ex} (he' : SndE G C n e) : SndS G C n (.ret e) := by
  intro st env ρ ρ' hE adrE adr σ σ' fl s A Q Er h he J hA k
  unfold exe at he
  obtain ⟨⟨X, σ₁⟩, hr, he⟩ := Option.map_eq_some_iff.mp he
  cases he
  unfold mS at h
  split at h
  · exact wpAny_Return_some (he' h hr J.fr J.ok hA fun adr₁ v s₁ p₁ r₁ => k adr₁ s₁ _ p₁.ss (J.post p₁) (Hold.of_ext p₁.ext) ⟨v, rfl, r₁⟩)
  · split at h
    · unfold ev at hr; cases hr
      exact wpAny_Return_none (k adr s _ (SS.refl _) J (Hold.refl _ _) ⟨.none, rfl, .none⟩)
    · cases h
  · cases h
theorem snd_brk : SndS G C n .brk := by
  intro st env ρ ρ' hE adrE adr σ σ' fl s A Q Er h he J hA k
  unfold exe at he; cases he
  unfold mS at h
  split at h
  · exact wpAny_Break (k adr s _ (SS.refl _) J (Hold.refl _ _) rfl)
  · cases h

theorem fin_store {env : Env} {hE : Heap} {adrE adr adr₁ : List Addr} {σ₁ : Hp} {ρ' : Ev} {s s₁ : Shared} {Q : Flow → Shared → Prop} (p : Post G adr σ₁ s adr₁ s₁)
    (k : ∀ adr' s' f, SS s s' → Inv G env true adrE hE ρ' adr' σ₁ s'.heap → Hold adr adr' s.heap s'.heap → FlR s'.heap adr' .nxt f → Q f s') :
    ∀ s', SS s₁ s' → Inv G env true adrE hE ρ' adr₁ σ₁ s'.heap → Stored adr₁ s₁.heap s'.heap → Q .next s' := fun s' hs J st =>
  k adr₁ s' _ (p.ss.trans hs) J ((Hold.of_ext p.ext).trans (Hold.of_stored st)) rfl

theorem Inv.scr {env : Env} {fn : Bool} {adrE adr : List Addr} {hE h h' : Heap} {ρ : Ev} {σ : Hp} {c : Addr} (J : Inv G env fn adrE hE ρ adr σ h) (hc : c ∉ adr) (hf : hE.get? c = none) (sc : Scr h c) (hs : Heap.SameBut c h h') (h1 : env.locals ≠ c) (h2 : ∀ y d, env.cells.lookup y = some d → d ≠ c) :
    Inv G env fn adrE hE ρ adr σ h' := by
  obtain ⟨F, ok, ex⟩ := J
  obtain ⟨m, cm, v⟩ := F.vals
  have h0 : G.h₀.get? c = none := by
    cases q : G.h₀.get? c with
    | none => rfl
    | some o => rw [F.base c o q] at hf; cases hf
  refine ⟨{ F with vals := ⟨m, cm, v.ns.sameBut hs h1, fun y d e => (v.cell y d e).sameBut hs (h2 y d e), fun x w e => ?_⟩ }, ok.scr hc h0 sc hs, ⟨ex.pre, fun a o e n => (hs.2 a (by rintro rfl; rw [hf] at e; cases e)).trans (ex.keep a o e n), fun a o e => ?_⟩⟩
  · obtain ⟨hx, g⟩ := v.at_ x w e
    exact ⟨hx, fun i => by obtain ⟨vv, r, q⟩ := g i; exact ⟨vv, r.scr sc hs, q⟩⟩
  · obtain ⟨o', e'⟩ := ex.ex a o e
    exact ⟨o', (hs.2 a (by rintro rfl; rw [hf] at e; cases e)).trans e'⟩

theorem noSwap_false {env : Env} {id : Str} {p' : Pos} {line : Nat} {value : Expr} (h : noSwap env.scope id value = true) : swapsWith value (some (.Name id p')) line env = pure false := by
  cases value <;> try rfl
  · unfold noSwap at h
    have h' : (env.kindOf id == some NameKind.local) = false := by
      have : (env.scope.names.lookup id == some NameKind.local) = false := by
        cases q : (env.scope.names.lookup id == some NameKind.local) with
        | false => rfl
        | true => rw [q] at h; cases h
      exact this
    unfold swapsWith
    dsimp only
    rw [h', Bool.and_false, Bool.false_and, Bool.false_and]
  · cases h
  · cases h

theorem snd_asg (g : GF G T) {x : Nat} {e : Ex} (he' : SndE G C n e) : SndS G C n (.asg x e) := by
  intro st env ρ ρ' hE adrE adr σ σ' fl s A Q Er h he J hA k
  unfold exe at he
  obtain ⟨⟨X, σ₁⟩, hr, he⟩ := Option.map_eq_some_iff.mp he
  cases he
  unfold mS at h
  split at h
  case h_2 => cases h
  simp only [Bool.and_eq_true] at h
  obtain ⟨⟨h1, h2⟩, h3⟩ := h
  obtain ⟨rfl, hN, hk⟩ := mStN_of h1
  exact wpAny_Assign_Name (he' h2 hr J.fr J.ok hA fun adr₁ v s₁ p₁ r₁ => storeNameOk g.nf (J.post p₁) r₁ hN hk fun s' hs J' st' _ => fin_store p₁ k s' hs J' st') (noSwap_false h3)

theorem snd_asgU (g : GF G T) {x : Nat} {e : Ex} {ls : List Nat} {elt it : Ex} {t : Tg} {ifs : Cns} {rest : Gens} (hee : e = .comp ls elt t it ifs rest) (helt : SndE G C n elt) (hi : SndE G C n it) (hs : SndCs G C n ifs) (hrr : SndG G C n rest) : SndS G C n (.asgU x e) := by
  subst hee
  intro st env ρ ρ' hE adrE adr σ σ' fl s A Q Er h he J hA k
  unfold exe at he
  obtain ⟨⟨X, σ₁⟩, hr, he⟩ := Option.map_eq_some_iff.mp he
  cases he
  unfold mS at h
  split at h
  case h_2 => cases h
  rename_i id p' elt' gens scope cpos pos
  simp only [Bool.and_eq_true] at h
  obtain ⟨⟨⟨⟨h1, h2⟩, h3⟩, h4⟩, h5⟩ := h
  obtain ⟨rfl, hN, hk⟩ := mStN_of h1
  have hsw : swapsWith (.ListComp elt' gens scope cpos) (some (.Name (G.nm x) p')) pos.line env = pure true := by
    unfold swapsWith
    dsimp only
    have b1 : (env.blockKind == ScopeKind.function) = true := by unfold Env.blockKind; rw [J.fr.kind]; rfl
    have b2 : (env.kindOf (G.nm x) == some NameKind.local) = true := h2
    have b3 : (p'.line == (Expr.ListComp elt' gens scope cpos).pos.line) = true := h3
    rw [b1, b2, b3, h4]
    rfl
  rw [exec_Assign_Name_used _ _ _ _ hsw]
  refine wpAny_bind (wpAny_standAt (wpAny_bind ?_))
  show wpAny _ A (do let _ ← comprehension (.ListComp elt' gens scope cpos) scope env (firstIterPos gens cpos) (newList []) (firstAsync gens) (firstIter gens env) (some (assign (.Name (G.nm x) p') env))) _ _ s
  refine wpAny_bind (wpAny_mono (compCore (Q := fun _ s' => Q .next s') (use := some (assign (.Name (G.nm x) p') env)) g helt hi hs hrr h5 hr J.fr J.ok hA fun adr₁ s₁ acc Cx m p₁ r₁ c1 c2 c3 ns => ?_) (fun _ s' hq => wpAny_pure (wpAny_pure hq)) fun _ _ e => e)
  show wpAny _ A (assign (.Name (G.nm x) p') env acc) _ _ _
  refine wpAny_assign_Name (storeNameOk g.nf (J.post p₁) r₁ hN hk fun s₂ hs₂ J₂ st₂ hc => ?_)
  obtain ⟨c, hc, sb⟩ := hc
  obtain ⟨mm, cm, vv⟩ := J.fr.vals
  have n1 : env.locals ≠ Cx := by
    rintro rfl
    obtain ⟨o, _, _, e, _⟩ := vv.ns
    rw [c3] at e; cases e
  have n2 : ∀ y d, env.cells.lookup y = some d → d ≠ Cx := by
    rintro y d e rfl
    obtain ⟨o, e', _⟩ := vv.cell y d e
    rw [c3] at e'; cases e'
  have ne : Cx ≠ c := by
    rcases hc with rfl | ⟨y, e⟩
    · exact fun z => n1 z.symm
    · exact fun z => n2 y c e z.symm
  have ns₂ := ns.sameBut sb ne
  have hfE : hE.get? Cx = none := by
    cases q : hE.get? Cx with
    | none => rfl
    | some o => obtain ⟨o', e'⟩ := J.ext.ex _ o q; rw [c3] at e'; cases e'
  refine ⟨m, ns₂, fun h'' hs'' => ?_⟩
  have sc₂ := Scr.of_ns ns₂
  refine k adr₁ _ _ ((p₁.ss.trans hs₂).trans ⟨h'', s₂.toks, rfl⟩) (J₂.scr c1 hfE sc₂ hs'' n1 n2) ?_ rfl
  have H := (Hold.of_ext p₁.ext).trans (Hold.of_stored st₂)
  refine ⟨fun b o e nn m => (hs''.2 b (by rintro rfl; rw [c3] at e; cases e)).trans (H.plain b o e nn m), fun V v r => (H.rv V v r).scr sc₂ hs'', H.nin, fun b o e => ?_, H.idx⟩
  obtain ⟨o', e'⟩ := H.ex b o e
  exact ⟨o', (hs''.2 b (by rintro rfl; rw [c3] at e; cases e)).trans e'⟩
end
end Mine

end

section
namespace Mine
open PySem PySem.W PyProof.Rows PySem.Calls
set_option Elab.async false
set_option autoImplicit false

theorem updL_comm {x : Nat} {v : V} : ∀ {xs : List Nat} {l : List V} {ρ : Ev}, x ∉ xs → updL xs l (upd x v ρ) = upd x v (updL xs l ρ)
  | [], l, ρ, _ => by cases l <;> rfl
  | y :: ys, [], ρ, _ => rfl
  | y :: ys, w :: l, ρ, h => by
    show updL ys l (upd y w (upd x v ρ)) = upd x v (updL ys l (upd y w ρ))
    have ne : y ≠ x := fun z => h (by rw [z]; exact List.mem_cons_self)
    have : upd y w (upd x v ρ) = upd x v (upd y w ρ) := by
      funext z
      unfold upd
      by_cases h1 : z = y
      · subst h1; rw [if_pos rfl, if_neg ne, if_pos rfl]
      · rw [if_neg h1]
        by_cases h2 : z = x
        · rw [if_pos h2, if_pos h2]
        · rw [if_neg h2, if_neg h2, if_neg h1]
    rw [this, updL_comm (fun z => h (List.mem_cons_of_mem _ z))]
theorem updL_snoc {x : Nat} {v : V} : ∀ {xs : List Nat} {l : List V} {ρ : Ev}, xs.length = l.length → updL (xs ++ [x]) (l ++ [v]) ρ = upd x v (updL xs l ρ)
  | [], [], _, _ => rfl
  | y :: ys, w :: l, ρ, h => by
    show updL (ys ++ [x]) (l ++ [v]) (upd y w ρ) = _
    rw [updL_snoc (by simpa using h)]
    rfl
  | [], _ :: _, _, h => by cases h
  | _ :: _, [], _, h => by cases h
theorem updL_rev : ∀ {xs : List Nat} {l : List V} {ρ : Ev}, xs.Nodup → xs.length = l.length → updL xs.reverse l.reverse ρ = updL xs l ρ
  | [], [], _, _, _ => rfl
  | x :: xs, v :: l, ρ, hn, hl => by
    rw [List.reverse_cons, List.reverse_cons, updL_snoc (by simpa using hl), updL_rev (List.nodup_cons.mp hn).2 (by simpa using hl)]
    show _ = updL xs l (upd x v ρ)
    rw [updL_comm (List.nodup_cons.mp hn).1]
  | [], _ :: _, _, _, h => by cases h
  | _ :: _, [], _, _, h => by cases h

section
variable {G : Glb} {T : Tab} {C : Orc} {n : Nat}

theorem swapped_eq {env : Env} {ts : List Expr} {a : Nat} {b : Pos} {value : Expr} (hk : env.scope.kind = .function) (hg : swapGood value = true) : swappedStores [.Tuple ts a b] value env = pure (swapN env.scope ts value) := by
  have hb : (env.blockKind != ScopeKind.function) = false := by unfold Env.blockKind; rw [hk]; rfl
  cases value <;> try rfl
  rename_i vs k p
  unfold swapGood at hg
  simp only [Bool.and_eq_true, Bool.not_eq_true'] at hg
  obtain ⟨⟨g1, g2⟩, g3⟩ := hg
  unfold swappedStores swapN
  dsimp only
  rw [hb, Bool.or_false]
  by_cases c1 : (!(ts.length == 2 || ts.length == 3) || vs.length != ts.length) = true
  · rw [if_pos c1, if_pos c1]
  · rw [if_neg c1, if_neg c1]
    show (if (vs.any isStar) = true then pure none else
      if ((ts.filterMap (nameOf env.scope ((ts.head?.map (fun e : Expr => e.pos.line)).getD 0))).length != ts.length || (ts.filterMap (nameOf env.scope ((ts.head?.map (fun e : Expr => e.pos.line)).getD 0))).eraseDups.length != (ts.filterMap (nameOf env.scope ((ts.head?.map (fun e : Expr => e.pos.line)).getD 0))).length) = true then pure none else
      if vs.all (foldedForSure 8) = true then pure none else
      if vs.all (constantsAlone 8) = true then (do unsupported "assign.tuple-of-constant-expressions:order-of-the-stores"; pure (some (ts.filterMap (nameOf env.scope ((ts.head?.map (fun e : Expr => e.pos.line)).getD 0))))) else pure (some (ts.filterMap (nameOf env.scope ((ts.head?.map (fun e : Expr => e.pos.line)).getD 0))))) = _
    simp only [g1, Bool.false_eq_true, if_false, g2, g3]
    split <;> rfl

theorem storeNames (nf : NFacts G) {env : Env} {hE : Heap} {adrE adr : List Addr} {σ : Hp} {A : Around} {E : Value → Shared → Prop} : ∀ {xs : List Nat} {l : List V} {vs : List Value} {ρ : Ev} {s : Shared} {Q : Unit → Shared → Prop},
    (∀ x ∈ xs, x < G.N ∧ (env.kindOf (G.nm x) = some .local ∨ (true = true ∧ env.kindOf (G.nm x) = some .cell))) → xs.length = l.length → RVs s.heap adr l vs → Inv G env true adrE hE ρ adr σ s.heap →
    (∀ s', SS s s' → Inv G env true adrE hE (updL xs l ρ) adr σ s'.heap → Stored adr s.heap s'.heap → Q () s') → wpAny (model G.prog G.w) A (assignInOrder (xs.map fun x => bindName env (G.nm x)) vs) Q E s
  | [], l, vs, ρ, s, Q, _, hl, rs, J, k => by
    cases l with
    | cons _ _ => cases hl
    | nil => cases rs; exact wpAny_assignInOrder_none (k s (SS.refl _) J (Stored.refl _ _))
  | x :: xs, l, vs, ρ, s, Q, hx, hl, rs, J, k => by
    cases l with
    | nil => cases hl
    | cons v l =>
    cases rs with
    | cons r rs =>
      obtain ⟨hN, hk⟩ := hx x List.mem_cons_self
      refine wpAny_assignInOrder_more (wpAny_bindName (storeNameOk nf J r hN hk fun s' hs J' st _ => ?_))
      exact storeNames nf (fun y hy => hx y (List.mem_cons_of_mem _ hy)) (by simpa using hl) (rvs_iff.mpr (All2.mono (rvs_iff.mp rs) fun _ _ q => st.rv _ _ q)) J' fun s'' hs' J'' st' => k s'' (hs.trans hs') J'' (st.trans st')

theorem mStNs_all {fn : Bool} {sc : Scope} : ∀ {xs : List Nat} {es : List Expr}, mStNs G fn sc xs es = true → ∀ x ∈ xs, x < G.N ∧ (sc.names.lookup (G.nm x) = some .local ∨ (fn = true ∧ sc.names.lookup (G.nm x) = some .cell))
  | [], _, _, _, h => nomatch h
  | x :: xs, [], h, _, _ => by simp [mStNs] at h
  | x :: xs, e :: es, h, y, hy => by
    cases e <;> try (simp [mStNs] at h; done)
    unfold mStNs at h
    obtain ⟨h1, h2⟩ := Bool.and_eq_true_iff.mp h
    obtain ⟨_, a, b⟩ := mStN_of h1
    rcases List.mem_cons.mp hy with rfl | hy
    · exact ⟨a, b⟩
    · exact mStNs_all h2 y hy

theorem notComp_swap {env : Env} {value : Expr} {t : Option Expr} {line : Nat} (h : isComp value = false) : swapsWith value t line env = pure false := by
  cases value <;> first | rfl | cases h

theorem snd_asgT (g : GF G T) {ts : List Tg} {e : Ex} (he' : SndE G C n e) : SndS G C n (.asgT ts e) := by
  intro st env ρ ρ' hE adrE adr σ σ' fl s A Q Er h he J hA k
  unfold exe at he
  obtain ⟨⟨X, σ₁⟩, hr, he⟩ := Option.bind_eq_some_iff.mp he
  dsimp only at he
  cases X <;> try (cases he; done)
  rename_i l
  obtain ⟨ρ₁, hb, he⟩ := Option.map_eq_some_iff.mp he
  cases he
  unfold mS at h
  split at h
  case h_2 => cases h
  rename_i elts a b value pos
  simp only [Bool.and_eq_true, decide_eq_true_eq, Bool.not_eq_true'] at h
  obtain ⟨⟨⟨⟨h1, h2⟩, h3⟩, h4⟩, h5⟩ := h
  refine wpAny_Assign_stores (he' h2 hr J.fr J.ok hA fun adr₁ v s₁ p₁ r₁ => ?_) (show swapsWith value (some (.Tuple elts a b)) pos.line env = pure false from notComp_swap h3) (by rw [swapped_eq J.fr.kind h5, h4])
  cases r₁ with
  | @tup t _ vs ht hn rs =>
    show wpAny _ A (assign (.Tuple elts a b) env (.ref t)) _ Er s₁
    have J₁ := J.post p₁
    have hsz := bindTgsOk g.nf hA.1 (A := A) (E := Er) (Q := fun _ _ => True) h1 hb rs J₁ fun _ _ _ _ => trivial
    refine wpAny_assign_Tuple hA.1 ht (by rw [List.size_toArray]; exact hsz.1) hsz.2.1 fun h' hb' => ?_
    have kk : ∀ a o, s₁.heap.get? a = some o → h'.get? a = some o := fun a o e => hb' a o (Nat.ne_of_lt (Heap.lt_size e)) e
    have p := Post.grow p₁.ok (h := h') s₁.toks kk
    have key := (bindTgsOk g.nf hA.1 (A := A) (E := Er) (s := { s₁ with heap := h' }) (Q := fun _ => Q .next) h1 hb (RVs.mono p.ext rs) (J₁.post p) fun s₂ hs₂ J₂ st₂ => ?_).2.2
    · simpa using key
    · exact k adr₁ s₂ _ ((p₁.ss.trans p.ss).trans hs₂) J₂ (((Hold.of_ext p₁.ext).trans (Hold.of_ext p.ext)).trans (Hold.of_stored st₂)) rfl

theorem snd_asgS (g : GF G T) {xs : List Nat} {es : Exs} (hs : SndEs G C n es) : SndS G C n (.asgS xs es) := by
  intro st env ρ ρ' hE adrE adr σ σ' fl s A Q Er h he J hA k
  unfold exe at he
  obtain ⟨⟨Xs, σ₁⟩, hr, he⟩ := Option.bind_eq_some_iff.mp he
  dsimp only at he
  split at he
  case isFalse => cases he
  rename_i hlen
  cases he
  unfold mS at h
  split at h
  case h_2 => cases h
  rename_i elts a b vals kk p pos
  simp only [Bool.and_eq_true, decide_eq_true_eq] at h
  obtain ⟨⟨⟨⟨⟨h1, h2⟩, h3⟩, h4⟩, h5⟩, h6⟩ := h
  rw [exec_Assign_arm]
  refine wpAny_bind (wpAny_standAt ?_)
  rw [show swapsWithSole [.Tuple elts a b] (.Tuple vals kk p) pos.line env = pure false from rfl]
  refine wpAny_bind (wpAny_pure ?_)
  rw [if_neg (by decide)]
  have hl' := evs_len h3 hr
  refine wpAny_bind (PySem.wpAny_Tuple (hs h3 hr J.fr J.ok hA fun adr₁ vs s₁ p₁ rs => ⟨by rw [← rs.length, sizeLine_eq]; omega, ?_⟩))
  rw [swapped_eq J.fr.kind h6, h5]
  refine wpAny_bind (wpAny_pure ?_)
  have p₂ := Post.push p₁.ok { cls := .type "tuple", data := .seq vs.toArray } s₁.toks
  have J₂ := (J.post p₁).post p₂
  have rs₂ := RVs.mono p₂.ext rs
  generalize hs2 : ({ s₁ with heap := s₁.heap.push { cls := .type "tuple", data := .seq vs.toArray } } : Shared) = s₂ at p₂ J₂ rs₂ ⊢
  have ht : IsTup s₂.heap s₁.heap.objs.size vs.toArray := by rw [← hs2]; exact IsTup.new _ _
  unfold assignStores
  refine wpAny_bind (wpAny_rule (wpAny_bind ?_))
  have hsz : (xs.map G.nm).length = vs.toArray.size := by rw [List.length_map, List.size_toArray, hlen, rs.length]
  rw [hsz]
  refine wpAny_unpackItems_tuple hA.1 ht fun h' hb' => ?_
  have kk' : ∀ a o, s₂.heap.get? a = some o → h'.get? a = some o := fun a o e => hb' a o (Nat.ne_of_lt (Heap.lt_size e)) e
  have p₃ := Post.grow p₂.ok (h := h') s₂.toks kk'
  refine wpAny_bind ?_
  have e1 : (xs.map G.nm).reverse.map (fun n => bindName env n) = xs.reverse.map fun x => bindName env (G.nm x) := by rw [← List.map_reverse, List.map_map]; rfl
  rw [e1]
  have rs₃ : RVs h' adr₁ Xs.reverse vs.reverse := by
    have a := rvs_iff.mp (RVs.mono p₃.ext rs₂)
    refine rvs_iff.mpr ?_
    clear rs rs₂ hsz ht hs2 p₂ J₂ p₃ hl' hlen h3 hr k hb' kk'
    have rev : ∀ {l : List V} {vs : List Value}, All2 (RV h' adr₁) l vs → All2 (RV h' adr₁) l.reverse vs.reverse := by
      intro l vs x
      induction x with
      | nil => exact .nil
      | cons r _ ih => rw [List.reverse_cons, List.reverse_cons]; exact ih.append (.cons r .nil)
    exact rev a
  have := storeNames g.nf (A := A) (E := Er) (s := { s₂ with heap := h' }) (Q := fun _ s' => wpAny (model G.prog G.w) A (pure Flow.next) Q Er s') (xs := xs.reverse) (ρ := ρ) (fun x hx => mStNs_all h1 x (List.mem_reverse.mp hx)) (by simpa using hlen) rs₃ (J₂.post p₃) fun s₄ hs₄ J₄ st₄ => wpAny_pure ?_
  · simpa using this
  · rw [updL_rev h2 hlen] at J₄
    exact k adr₁ s₄ _ (((p₁.ss.trans p₂.ss).trans p₃.ss).trans hs₄) J₄ ((((Hold.of_ext p₁.ext).trans (Hold.of_ext p₂.ext)).trans (Hold.of_ext p₃.ext)).trans (Hold.of_stored st₄)) rfl
end
end Mine

end

section
namespace Mine
open PySem PySem.W PyProof.Rows PySem.Calls
set_option Elab.async false
set_option autoImplicit false

section
variable {G : Glb} {T : Tab} {C : Orc} {n : Nat}

theorem snd_asgA (g : GF G T) {o e : Ex} {m : Nat} (ho : SndE G C n o) (he' : SndE G C n e) : SndS G C n (.asgA o m e) := by
  intro st env ρ ρ' hE adrE adr σ σ' fl s A Q Er h he J hA k
  unfold exe at he
  obtain ⟨⟨X, σ₁⟩, hr, he⟩ := Option.bind_eq_some_iff.mp he
  obtain ⟨⟨Y, σ₂⟩, hq, he⟩ := Option.bind_eq_some_iff.mp he
  dsimp only at he hq
  obtain ⟨σ₃, hp, he⟩ := Option.map_eq_some_iff.mp he
  cases he
  unfold mS at h
  split at h
  case h_2 => cases h
  rename_i x mm apos value pos
  simp only [Bool.and_eq_true, Bool.not_eq_true'] at h
  obtain ⟨⟨⟨⟨h1, h2⟩, h3⟩, h4⟩, h5⟩ := h
  have := beq_iff_eq.mp h1
  subst this
  refine wpAny_Assign_stores (he' h4 hr J.fr J.ok hA fun adr₁ v s₁ p₁ r₁ => ?_) (show swapsWith value (some (.Attribute x (G.nm m) apos)) pos.line env = pure false from notComp_swap h5) rfl
  show wpAny _ A (assign (.Attribute x (G.nm m) apos) env v) _ Er s₁
  rw [arm_assign_Attribute]
  have J₁ := J.post p₁
  refine wpAny_bind (wpAny_holding (ho h3 hq J₁.fr J₁.ok hA fun adr₂ u s₂ p₂ r₂ => wpAny_bind (wpAny_standAt (wpAny_bind (wpAny_holding ?_)))))
  have J₂ := J₁.post p₂
  refine putAttrOk g.toCFacts h2 hp r₂ (r₁.mono p₂.ext) J₂.ok fun adr₃ s₃ p₃ => ?_
  exact wpAny_release (k adr₃ s₃ _ ((p₁.ss.trans p₂.ss).trans p₃.ss) (J₂.post p₃) (((Hold.of_ext p₁.ext).trans (Hold.of_ext p₂.ext)).trans (Hold.of_ext p₃.ext)) rfl)

theorem snd_asgI (g : GF G T) {o i e : Ex} (ho : SndE G C n o) (hi : SndE G C n i) (he' : SndE G C n e) : SndS G C n (.asgI o i e) := by
  intro st env ρ ρ' hE adrE adr σ σ' fl s A Q Er h he J hA k
  unfold exe at he
  obtain ⟨⟨X, σ₁⟩, hr, he⟩ := Option.bind_eq_some_iff.mp he
  obtain ⟨⟨Y, σ₂⟩, hq, he⟩ := Option.bind_eq_some_iff.mp he
  obtain ⟨⟨Z, σ₃⟩, hz, he⟩ := Option.bind_eq_some_iff.mp he
  dsimp only at he hq hz
  obtain ⟨σ₄, hp, he⟩ := Option.map_eq_some_iff.mp he
  cases he
  unfold mS at h
  split at h
  case h_2 => cases h
  rename_i x y apos value pos
  simp only [Bool.and_eq_true] at h
  obtain ⟨⟨h1, h2⟩, h3⟩ := h
  refine wpAny_Assign_Subscript (he' h3 hr J.fr J.ok hA fun adr₁ v s₁ p₁ r₁ => ?_) (by cases value <;> rfl)
  have J₁ := J.post p₁
  refine ho h1 hq J₁.fr J₁.ok hA fun adr₂ u s₂ p₂ r₂ => ?_
  have J₂ := J₁.post p₂
  refine hi h2 hz J₂.fr J₂.ok hA fun adr₃ t s₃ p₃ r₃ => ?_
  have J₃ := J₂.post p₃
  refine storeOk hp (r₂.mono p₃.ext) r₃ ((r₁.mono p₂.ext).mono p₃.ext) J₃.ok fun adr₄ s₄ p₄ => ?_
  exact k adr₄ s₄ _ (((p₁.ss.trans p₂.ss).trans p₃.ss).trans p₄.ss) (J₃.post p₄) ((((Hold.of_ext p₁.ext).trans (Hold.of_ext p₂.ext)).trans (Hold.of_ext p₃.ext)).trans (Hold.of_ext p₄.ext)) rfl

theorem snd_expr {e : Ex} (he' : SndE G C n e) : SndS G C n (.expr e) := by
  intro st env ρ ρ' hE adrE adr σ σ' fl s A Q Er h he J hA k
  unfold exe at he
  obtain ⟨⟨X, σ₁⟩, hr, he⟩ := Option.bind_eq_some_iff.mp he
  dsimp only at he
  unfold mS at h
  split at h
  case h_2 => cases h
  rename_i x pos
  simp only [Bool.and_eq_true, Bool.not_eq_true'] at h
  obtain ⟨h1, h2⟩ := h
  refine wpAny_Expr (he' h1 hr J.fr J.ok hA fun adr₁ v s₁ p₁ r₁ => ?_) (by unfold interactive; rw [J.fr.kind]; rfl) (notComp_swap h2)
  have fin : Q .next s₁ → (match v with | .ref _ => False | _ => Q .next s₁) ∨ (∃ a, v = .ref a) := fun q => by cases v <;> first | exact .inl q | exact .inr ⟨_, rfl⟩
  cases X with
  | none => cases he; cases r₁; exact k adr₁ s₁ _ p₁.ss (J.post p₁) (Hold.of_ext p₁.ext) rfl
  | bool b => cases he; cases r₁; exact k adr₁ s₁ _ p₁.ss (J.post p₁) (Hold.of_ext p₁.ext) rfl
  | int i => cases he; cases r₁; exact k adr₁ s₁ _ p₁.ss (J.post p₁) (Hold.of_ext p₁.ext) rfl
  | _ => cases he

theorem snd_ife {c : Cn} {a b : Sts} (hc : SndC G C n c) (ha : SndSs G C n a) (hb : SndSs G C n b) : SndS G C n (.ife c a b) := by
  intro st env ρ ρ' hE adrE adr σ σ' fl s A Q Er h he J hA k
  unfold exe at he
  obtain ⟨⟨t, σ₁⟩, hr, he⟩ := Option.bind_eq_some_iff.mp he
  dsimp only at he
  unfold mS at h
  split at h
  case h_2 => cases h
  simp only [Bool.and_eq_true] at h
  obtain ⟨⟨h1, h2⟩, h3⟩ := h
  refine wpAny_If (hc h1 hr J.fr J.ok hA fun adr₁ s₁ p₁ => ?_)
  have kk : ∀ adr' s' f, SS s₁ s' → Inv G env true adrE hE ρ' adr' σ' s'.heap → Hold adr₁ adr' s₁.heap s'.heap → FlR s'.heap adr' fl f → Q f s' := fun adr' s' f ss J' H hf => k adr' s' f (p₁.ss.trans ss) J' ((Hold.of_ext p₁.ext).trans H) hf
  cases t with
  | true => exact ha h2 he (J.post p₁) hA kk
  | false => exact hb h3 he (J.post p₁) hA kk

theorem snd_whl {m : Nat} {c : Cn} {b : Sts} (hc : SndC G C n c) (hb : SndSs G C n b) : SndS G C n (.whl m c b) := by
  intro st env ρ ρ' hE adrE adr σ σ' fl s A Q Er h he J hA k
  unfold exe at he
  unfold mS at h
  split at h
  case h_2 => cases h
  rename_i test body pos
  obtain ⟨h1, h2⟩ := Bool.and_eq_true_iff.mp h
  refine wpAny_While ?_
  refine codeAny_whileLoop (fun m s' => ∃ ρ₁ adr₁ σ₁, SS s s' ∧ Inv G env true adrE hE ρ₁ adr₁ σ₁ s'.heap ∧ Hold adr adr₁ s.heap s'.heap ∧ loopW (fun ρ' σ' => evc C c ρ' σ') (fun ρ' σ' => exs C b ρ' σ') m ρ₁ σ₁ = some (fl, ρ', σ')) ?_ m
    ⟨ρ, adr, σ, SS.refl _, J, Hold.refl _ _, he⟩
  rintro m s' ⟨ρ₁, adr₁, σ₁, hss, J₁, H₁, he⟩
  cases m with
  | zero => unfold loopW at he; cases he
  | succ m =>
    unfold loopW at he
    obtain ⟨⟨t, σ₂⟩, hr, he⟩ := Option.bind_eq_some_iff.mp he
    dsimp only at he
    refine hc h1 hr J₁.fr J₁.ok hA fun adr₂ s₂ p₂ => ?_
    have J₂ := J₁.post p₂
    have H₂ := H₁.trans (Hold.of_ext p₂.ext)
    cases t with
    | false =>
      cases he
      rw [if_neg (by decide)]
      exact wpAny_execs_nil (k adr₂ s₂ _ (hss.trans p₂.ss) J₂ H₂ rfl)
    | true =>
      rw [if_pos rfl]
      obtain ⟨⟨f, ρ₃, σ₃⟩, hq, he⟩ := Option.bind_eq_some_iff.mp he
      dsimp only at he
      refine hb h2 hq J₂ hA fun adr₃ s₃ f' hs₃ J₃ H₃ hf => ?_
      cases f with
      | nxt => cases hf; exact ⟨m, Nat.lt_succ_self _, ρ₃, adr₃, σ₃, (hss.trans p₂.ss).trans hs₃, J₃, H₂.trans H₃, he⟩
      | brk => cases hf; cases he; exact k adr₃ s₃ _ ((hss.trans p₂.ss).trans hs₃) J₃ (H₂.trans H₃) rfl
      | ret v => obtain ⟨vv, rfl, r⟩ := hf; cases he; exact k adr₃ s₃ _ ((hss.trans p₂.ss).trans hs₃) J₃ (H₂.trans H₃) ⟨vv, rfl, r⟩

theorem snd_for (g : GF G T) {t : Tg} {it : Ex} {b : Sts} (hi : SndE G C n it) (hb : SndSs G C n b) : SndS G C n (.for_ t it b) := by
  intro st env ρ ρ' hE adrE adr σ σ' fl s A Q Er h he J hA k
  unfold exe at he
  obtain ⟨⟨X, σ₁⟩, hr, he⟩ := Option.bind_eq_some_iff.mp he
  obtain ⟨l, hl, he⟩ := Option.bind_eq_some_iff.mp he
  dsimp only at he hl
  unfold mS at h
  split at h
  case h_2 => cases h
  rename_i target iter body pos
  simp only [Bool.and_eq_true] at h
  obtain ⟨⟨⟨h0, h1⟩, h2⟩, h3⟩ := h
  refine wpAny_For (hi h2 hr J.fr J.ok hA fun adr₁ v s₁ p₁ r₁ => ?_) (fun x => (mE_notSet h2).2 env x)
  have J₁ := J.post p₁
  refine iterOk hA.1 J₁.ok r₁ hl fun I fp P St s₂ hfI hss2 hgrow itr hst hfp hv => ?_
  obtain ⟨h₂, rfl⟩ := hss2
  have pg := Post.grow J₁.ok (h := h₂) s₁.toks hgrow
  have J₂ : Inv G env true adrE hE ρ adr₁ σ₁ h₂ := J₁.post pg
  have hfE : hE.get? I = none := by
    cases q : hE.get? I with
    | none => rfl
    | some o => obtain ⟨o', e'⟩ := J₁.ext.ex I o q; rw [hfI] at e'; cases e'
  have hIfp : I ∈ fp := itr.W.sub I (by simp)
  refine codeAny_forLoop (fun m s' => ∃ (i : Nat) (ρ₁ : Ev) (adr' : List Addr) (σi : Hp), m = l.length + 1 - i ∧ i ≤ l.length ∧ SS s₁ s' ∧ St i s'.heap ∧ Inv G env true adrE hE ρ₁ adr' σi s'.heap ∧ loopS (fun x ρ' σ' => (bindTg t x ρ').bind fun ρ'' => exs C b ρ'' σ') (l.drop i) ρ₁ σi = some (fl, ρ', σ') ∧
      (∀ b ∈ fp, b ∉ adr') ∧ (∀ j v x, P j v → l[j]? = some x → RV s'.heap adr' x v) ∧ Hold adr₁ adr' s₁.heap s'.heap) ?_ (l.length + 1)
    ⟨0, ρ, adr₁, σ₁, rfl, Nat.zero_le _, pg.ss, hst, J₂, he, hfp, hv, Hold.of_ext pg.ext⟩ (by
      intro v
      cases t with
      | nm x => cases target <;> first | rfl | (simp [mTg] at h1)
      | tup l => cases h0)
  rintro m s' ⟨i, ρ₁, adr', σi, rfl, hin, hss, hst', J', he', hfp', hv', H'⟩
  have nvI : ∃ o, s'.heap.get? I = some o ∧ notVal o ∧ notScr o := by
    obtain ⟨o, nm, vs, h1, h2, h3, h4, h5, h6, h7⟩ := itr.cls i _ hst'
    refine ⟨o, h1, ⟨?_, ?_, ?_⟩, notScr_fields h3⟩ <;> rw [h2] <;> intro z <;> cases z <;> contradiction
  have stepH : ∀ (h₁ : Heap), (∀ b o, b ≠ I → s'.heap.get? b = some o → h₁.get? b = some o) → (∀ V v, RV s'.heap adr' V v → RV h₁ adr' V v) → Hold adr₁ adr' s₁.heap h₁ := fun h₁ hk rv =>
    ⟨fun b o e nn mm => hk b o (by rintro rfl; rw [hfI] at e; cases e) (H'.plain b o e nn mm), fun V v r => rv V v (H'.rv V v r), H'.nin, fun b o e => by
      obtain ⟨o', e'⟩ := H'.ex b o e
      exact ⟨o', hk b o' (by rintro rfl; rw [hfI] at e; cases e) e'⟩, H'.idx⟩
  by_cases hlt : i < l.length
  · refine itr.W.item i _ _ _ hlt hst' fun v h₁ tk₁ hPv hst₁ hk₁ => ?_
    have hk : ∀ b o, b ≠ I → s'.heap.get? b = some o → h₁.get? b = some o := fun b o ne e => hk₁ b o (by simpa using ne) e
    obtain ⟨Ja, rva⟩ := stepIt J' (hfp' I hIfp) hfE nvI hk
    have hdrop : l.drop i = l[i] :: l.drop (i + 1) := List.drop_eq_getElem_cons hlt
    rw [hdrop] at he'
    unfold loopS at he'
    obtain ⟨⟨f₂, ρ₂, σ₂⟩, hF, he₂⟩ := Option.bind_eq_some_iff.mp he'
    obtain ⟨ρb, hbt, hF⟩ := Option.bind_eq_some_iff.mp hF
    dsimp only at he₂
    have hrx : RV h₁ adr' l[i] v := rva _ _ (hv' i v _ hPv (by simp [hlt]))
    refine bindTgOk (s := { s' with heap := h₁, toks := tk₁ }) g.nf hA.1 h1 hbt hrx Ja fun s₃ hs₃ J₃ st₃ => ?_
    refine hb h3 hF J₃ hA fun adr₄ s₄ f hs₄ J₄ H₄ hf => ?_
    have Hb : Hold adr' adr₄ h₁ s₄.heap := (Hold.of_stored st₃).trans H₄
    have hss₄ : SS s₁ s₄ := (hss.trans ⟨h₁, tk₁, rfl⟩).trans (hs₃.trans hs₄)
    have Hall := (stepH h₁ hk rva).trans Hb
    cases f₂ with
    | nxt =>
      cases hf
      dsimp only at he₂
      have fpk : ∀ b ∈ fp, ∃ o, h₁.get? b = some o ∧ notScr o := itr.live (i + 1) _ hst₁
      refine ⟨l.length + 1 - (i + 1), by omega, i + 1, ρ₂, adr₄, σ₂, rfl, hlt, hss₄, ?_, J₄, he₂, ?_, ?_, Hall⟩
      · refine itr.W.frame (i + 1) h₁ _ hst₁ fun b hbf o e => ?_
        obtain ⟨o', e', nn⟩ := fpk b hbf
        rw [e] at e'; cases e'
        exact Hb.plain b o e nn (hfp' b hbf)
      · intro b hbf
        obtain ⟨o', e', nn⟩ := fpk b hbf
        exact Hb.nin b o' e' (hfp' b hbf)
      · intro j u x hP hx
        exact Hb.rv _ _ (rva _ _ (hv' j u x hP hx))
    | brk =>
      cases hf
      cases he₂
      exact k adr₄ s₄ _ (p₁.ss.trans hss₄) J₄ ((Hold.of_ext p₁.ext).trans Hall) rfl
    | ret w =>
      obtain ⟨vv, rfl, r⟩ := hf
      cases he₂
      exact k adr₄ s₄ _ (p₁.ss.trans hss₄) J₄ ((Hold.of_ext p₁.ext).trans Hall) ⟨vv, rfl, r⟩
  · have hin' : i = l.length := by omega
    subst hin'
    refine itr.W.done _ _ _ hst' fun h₁ tk₁ hk₁ => ?_
    have hk : ∀ b o, b ≠ I → s'.heap.get? b = some o → h₁.get? b = some o := fun b o ne e => hk₁ b o (by simpa using ne) e
    obtain ⟨Ja, rva⟩ := stepIt J' (hfp' I hIfp) hfE nvI hk
    rw [List.drop_length] at he'
    unfold loopS at he'
    cases he'
    exact wpAny_execs_nil (k adr' _ _ (p₁.ss.trans (hss.trans ⟨h₁, tk₁, rfl⟩)) Ja ((Hold.of_ext p₁.ext).trans (stepH h₁ hk rva)) rfl)
end
end Mine

end

section
namespace Mine
open PySem PySem.W PyProof.Rows PySem.Calls
set_option Elab.async false
set_option autoImplicit false

section
variable {G : Glb} {T : Tab} {C : Orc} {n : Nat}

theorem snd_sup {f : Nat} {es : Exs} : SndE G C n (.sup f es) := by
  intro e env fn ρ hE adr σ σ' s A Q Er X h he F ok hA k
  unfold mE at h
  cases h

theorem under_type {A : Around} {as : List Value} {v : Addr} (h : RoomB A n) : Room (A.under (.builtin "type.__call__" ⟨.ref v :: as, []⟩)) n := by
  have hw : (Code.builtin "type.__call__" ⟨.ref v :: as, []⟩).weight = 1 := by
    unfold Code.weight
    have h1 : (Code.builtin "type.__call__" ⟨.ref v :: as, []⟩).frames = 0 := by rfl
    have h2 : (Code.builtin "type.__call__" ⟨.ref v :: as, []⟩).isCreation = true := rfl
    have h3 : (Code.builtin "type.__call__" ⟨.ref v :: as, []⟩).isGuard = false := by rfl
    have h4 : (Code.builtin "type.__call__" ⟨.ref v :: as, []⟩).isCaller = false := by rfl
    rw [h1, h2, h3, h4]; rfl
  have hu : (Code.builtin "type.__call__" ⟨.ref v :: as, []⟩).cUnits = 1 := by rfl
  obtain ⟨a, b, c⟩ := h
  refine ⟨a, ?_, ?_⟩
  · show A.depth + (Code.builtin "type.__call__" ⟨.ref v :: as, []⟩).weight + 5 * n ≤ 900
    rw [hw]; omega
  · show A.units + (Code.builtin "type.__call__" ⟨.ref v :: as, []⟩).cUnits + 60 * n ≤ 9000
    rw [hu]; omega

theorem snd_new (g : GF G T) (c : CallOk G C n) (hini : C.ini = T.ini) {cc : Nat} {es : Exs} (hs : SndEs G C n es) : SndE G C n (.new cc es) := by
  intro e env fn ρ hE adr σ σ' s A Q Er X h he F ok hA k
  unfold ev at he
  obtain ⟨⟨Ys, σ₁⟩, hr, he⟩ := Option.bind_eq_some_iff.mp he
  dsimp only at he
  unfold mE at h
  split at h
  case h_2 => cases h
  simp only [Bool.and_eq_true, decide_eq_true_eq] at h
  obtain ⟨⟨⟨h1, h2⟩, h3⟩, h4⟩ := h
  have := beq_iff_eq.mp h1
  subst this
  split at he
  case h_2 => cases he
  rename_i f hf
  obtain ⟨⟨Z, σ₂⟩, hq, he⟩ := Option.bind_eq_some_iff.mp he
  dsimp only at he
  cases Z <;> try (cases he; done)
  cases he
  rw [hini] at hf
  obtain ⟨m1, m2, m3⟩ := g.news cc f hf
  obtain ⟨q1, q2⟩ := g.clG cc h2
  refine wpAny_Call_ofName (nameGl g F ok h3 q1 ?_)
  refine callKOk g hs h4 hr F ok hA q2 fun adr₁ vs s₁ p₁ rs => ?_
  have X₁ := p₁.ok.inK g.toCFacts
  have ok₁ := p₁.ok
  have ha := ok₁.new (a := s₁.heap.objs.size) (o := .attrs []) (h' := s₁.heap.push emptyDict) (size_none _) (fun _ _ e => Heap.get?_push_of_some _ e)
    (fun _ => ⟨[], 0, Heap.get?_push_size _ rfl, .nil⟩)
  have hz : (s₁.heap.push emptyDict).objs.size = s₁.heap.objs.size + 1 := Heap.size_push ..
  have hb := ha.1.new (a := s₁.heap.objs.size + 1) (o := .inst cc σ₁.length) (h' := (s₁.heap.push emptyDict).push (instObj (G.cls cc) s₁.heap.objs.size)) (by rw [← hz]; exact size_none _) (fun _ _ e => Heap.get?_push_of_some _ e)
    (fun _ => ⟨s₁.heap.objs.size, by rw [List.getElem?_append_left (by simp [ok₁.len]), ← ok₁.len]; simp, by rw [← hz]; exact Heap.get?_push_size _ rfl⟩)
  have hadr : (adr₁ ++ [s₁.heap.objs.size] ++ [s₁.heap.objs.size + 1])[σ₁.length + 1]? = some (s₁.heap.objs.size + 1) := by rw [← ok₁.len]; simp
  have hext := ha.2.trans hb.2
  refine wpAny_call ?_
  obtain ⟨hh, g0, d, t, os⟩ := s₁
  refine make_core (makes_of X₁ m1) (looks_findIn X₁ m2) (fun self => bind_fn X₁ self (beq_iff_eq.mp m3)) (.inl rfl) ?_
  have hσ : σ₁ ++ [MO.attrs []] ++ [MO.inst cc σ₁.length] = σ₁ ++ [.attrs [], .inst cc σ₁.length] := by simp
  refine c hq (.cons (.ref hadr) (RVs.mono hext rs)) (hσ ▸ hb.1) (under_type hA) fun adr₂ v s₂ p₂ r₂ => ?_
  cases r₂
  refine ⟨rfl, ?_⟩
  have pn : Post G adr₁ (σ₁ ++ [.attrs [], .inst cc σ₁.length]) ⟨hh, g0, d, t, os⟩ (adr₁ ++ [hh.objs.size] ++ [hh.objs.size + 1]) ⟨(hh.push emptyDict).push (instObj (G.cls cc) hh.objs.size), g0, d, t, os⟩ := ⟨⟨_, _, rfl⟩, hext, hσ ▸ hb.1⟩
  exact k adr₂ _ s₂ ((p₁.trans pn).trans p₂) (.ref (p₂.ext.idx hadr))
end

theorem snd_asgU_any {G : Glb} {C : Orc} {n : Nat} {x : Nat} {e : Ex} (k : ∀ ls elt t it ifs rest, e = .comp ls elt t it ifs rest → SndS G C n (.asgU x e)) : SndS G C n (.asgU x e) := by
  cases e with
  | comp ls elt t it ifs rest => exact k _ _ _ _ _ _ rfl
  | _ =>
    intro st env ρ ρ' hE adrE adr σ σ' fl s A Q Er h he J hA k
    exfalso
    unfold mS at h
    split at h
    case h_2 => cases h
    simp [mE] at h

set_option linter.unusedSectionVars false
section
variable {G : Glb} {T : Tab} {C : Orc} {n : Nat} (g : GF G T) (c : CallOk G C n) (hmt : C.mt = T.mt) (hini : C.ini = T.ini)
include g c hmt hini
mutual
theorem soundE : ∀ x : Ex, SndE G C n x
  | .none => snd_none
  | .bool _ => snd_bool
  | .int _ => snd_int
  | .str _ => snd_str
  | .var _ => snd_var g
  | .tup es => snd_tup (soundEs es)
  | .lstF es => snd_lstF (soundEs es)
  | .lstM => snd_lstM
  | .dict0 => snd_dict0
  | .dictS _ es => snd_dictS (soundPs es)
  | .op1 _ a => snd_op1 g (soundE a)
  | .op2 _ a b => snd_op2 g (soundE a) (soundE b)
  | .and2 a b => snd_and2 (soundE a) (soundE b)
  | .ite t a b => snd_ite (soundC t) (soundE a) (soundE b)
  | .attr a _ => snd_attr g (soundE a)
  | .call _ es => snd_call g c (soundEs es)
  | .meth a _ es => snd_meth g c hmt (soundE a) (soundEs es)
  | .new _ es => snd_new g c hini (soundEs es)
  | .sup _ _ => snd_sup
  | .comp _ elt _ it ifs rest => snd_comp g (soundE elt) (soundE it) (soundCs ifs) (soundG rest)
theorem soundEs : ∀ x : Exs, SndEs G C n x
  | .nil => snd_nil
  | .cons e es => snd_cons (soundE e) (soundEs es)
theorem soundPs : ∀ x : Exs, SndPs G C n x
  | .nil => snd_pnil
  | .cons e es => snd_pcons (soundE e) (soundPs es)
theorem soundC : ∀ x : Cn, SndC G C n x
  | .cmp _ a b => snd_cmp g (soundE a) (soundE b)
  | .not a => snd_cnot (soundC a)
  | .and cs => snd_cand (soundCs cs)
  | .or cs => snd_cor (soundCs cs)
  | .ite t a b => snd_cite (soundC t) (soundC a) (soundC b)
  | .val a => snd_cval (soundE a)
theorem soundCs : ∀ x : Cns, SndCs G C n x
  | .nil => snd_csnil
  | .cons a cs => snd_cscons (soundC a) (soundCs cs)
theorem soundG : ∀ x : Gens, SndG G C n x
  | .nil => snd_gnil
  | .cons _ it ifs rest => snd_gcons g (soundE it) (soundCs ifs) (soundG rest)
end
mutual
theorem soundS : ∀ x : St, SndS G C n x
  | .ret e => snd_ret (soundE g c hmt hini e)
  | .asg _ e => snd_asg g (soundE g c hmt hini e)
  | .asgU _ _ => snd_asgU_any fun _ elt _ it ifs rest h => snd_asgU g h (soundE g c hmt hini elt) (soundE g c hmt hini it) (soundCs g c hmt hini ifs) (soundG g c hmt hini rest)
  | .asgT _ e => snd_asgT g (soundE g c hmt hini e)
  | .asgS _ es => snd_asgS g (soundEs g c hmt hini es)
  | .asgA o _ e => snd_asgA g (soundE g c hmt hini o) (soundE g c hmt hini e)
  | .asgI o i e => snd_asgI g (soundE g c hmt hini o) (soundE g c hmt hini i) (soundE g c hmt hini e)
  | .expr e => snd_expr (soundE g c hmt hini e)
  | .ife t a b => snd_ife (soundC g c hmt hini t) (soundSs a) (soundSs b)
  | .for_ _ it b => snd_for g (soundE g c hmt hini it) (soundSs b)
  | .whl _ t b => snd_whl (soundC g c hmt hini t) (soundSs b)
  | .brk => snd_brk
theorem soundSs : ∀ x : Sts, SndSs G C n x
  | .nil => snd_ssnil
  | .cons s ss => snd_sscons (soundS s) (soundSs ss)
end
end
end Mine

end

section
namespace Mine
open PySem PySem.W PyProof.Rows PySem.Calls
set_option Elab.async false
set_option autoImplicit false

structure FnOk (G : Glb) (f : Nat) (fn : Fn) (fd : FuncData) (body : List Stmt) : Prop where
  at_ : ∃ o, G.h₀.get? (G.fnA f) = some o ∧ o.data = .func fd
  co : fd.scope.isCoroutine = false
  gen : fd.scope.isGenerator = false
  kind : fd.scope.kind = .function
  bodyE : fd.body = .stmts body
  clos : fd.closure = []
  glob : fd.globals = mainGlobals
  blt : fd.builtins = builtinsNs
  code : G.h₀.CodeRec fd.code fd.qualname
  bind : ∀ vals : List Value, vals.length = fn.params.length → bindArgs fd ⟨vals, []⟩ = pure ((fn.params.map G.nm).zip vals)
  pars : ∀ p ∈ fn.params, p < G.N ∧ (fd.scope.names.lookup (G.nm p) = some .local ∨ fd.scope.names.lookup (G.nm p) = some .cell)
  noFree : ∀ x ∈ fd.scope.names, x.2 ≠ .free
  m : mSs G fd.scope fn.body body = true

noncomputable def orc (T : Tab) (n : Nat) : Orc := ⟨run T n, T.mt, T.ini, T.self⟩

theorem cellsFrom_has : ∀ (names : List (Str × NameKind)) (k : Nat) (acc : List (Str × Addr)), (∀ x ∈ acc, x ∈ cellsFrom k names acc) ∧ (∀ x ∈ names, x.2 = .cell → ∃ c, (x.1, c) ∈ cellsFrom k names acc)
  | [], _, acc => ⟨fun _ h => h, fun _ h => nomatch h⟩
  | (nm, kd) :: r, k, acc => by
    unfold cellsFrom
    by_cases hk : (kd == NameKind.cell) = true
    · rw [if_pos hk]
      obtain ⟨a, b⟩ := cellsFrom_has r (k + 1) ((nm, k) :: acc)
      refine ⟨fun x hx => a x (List.mem_cons_of_mem _ hx), fun x hx e => ?_⟩
      rcases List.mem_cons.mp hx with rfl | hx
      · exact ⟨k, a _ List.mem_cons_self⟩
      · exact b x hx e
    · rw [if_neg hk]
      obtain ⟨a, b⟩ := cellsFrom_has r k acc
      refine ⟨a, fun x hx e => ?_⟩
      rcases List.mem_cons.mp hx with rfl | hx
      · exact absurd (beq_iff_eq.mpr e) hk
      · exact b x hx e

def BRel (G : Glb) (kindOf : Str → Option NameKind) (h : Heap) (adr : List Addr) (ρ : Ev) (m cm : Str → Option Value) : Prop :=
  ∀ x v, ρ x = some v → x < G.N ∧ ∃ vv, RV h adr v vv ∧ ((kindOf (G.nm x) = some .local ∧ m (G.nm x) = some vv) ∨ (kindOf (G.nm x) = some .cell ∧ cm (G.nm x) = some vv))

theorem bindRel {G : Glb} (nf : NFacts G) {kindOf : Str → Option NameKind} {h : Heap} {adr : List Addr} : ∀ {ps : List Nat} {vs : List V} {vals : List Value} {ρ : Ev} {m cm : Str → Option Value}, (∀ p ∈ ps, p < G.N ∧ (kindOf (G.nm p) = some .local ∨ kindOf (G.nm p) = some .cell)) → ps.length = vs.length → RVs h adr vs vals →
    BRel G kindOf h adr ρ m cm → BRel G kindOf h adr (updL ps vs ρ) (bindL kindOf ((ps.map G.nm).zip vals) m) (bindC kindOf ((ps.map G.nm).zip vals) cm)
  | [], [], _, ρ, m, cm, _, _, .nil, b => b
  | p :: ps, v :: vs, vv :: vals, ρ, m, cm, hp, hl, .cons r rs, b => by
    obtain ⟨hN, hk⟩ := hp p List.mem_cons_self
    have hp' := fun q hq => hp q (List.mem_cons_of_mem _ hq)
    show BRel G kindOf h adr (updL ps vs (upd p v ρ)) (bindL kindOf ((G.nm p, vv) :: (ps.map G.nm).zip vals) m) (bindC kindOf ((G.nm p, vv) :: (ps.map G.nm).zip vals) cm)
    unfold bindL bindC
    refine bindRel nf hp' (by simpa using hl) rs fun x w e => ?_
    unfold upd at e
    by_cases hx : x = p
    · subst hx
      rw [if_pos rfl] at e
      cases e
      refine ⟨hN, vv, r, ?_⟩
      rcases hk with hk | hk
      · refine .inl ⟨hk, ?_⟩
        rw [if_pos hk]
        simp
      · refine .inr ⟨hk, ?_⟩
        rw [if_neg (by rw [hk]; decide)]
        simp
    · rw [if_neg hx] at e
      obtain ⟨hxN, ww, rw', q⟩ := b x w e
      have ne : G.nm x ≠ G.nm p := fun z => hx (nf.inj _ _ hxN hN z)
      refine ⟨hxN, ww, rw', ?_⟩
      rcases q with ⟨q1, q2⟩ | ⟨q1, q2⟩
      · refine .inl ⟨q1, ?_⟩
        split
        · show (if G.nm x = G.nm p then some vv else m (G.nm x)) = some ww
          rw [if_neg ne]; exact q2
        · exact q2
      · refine .inr ⟨q1, ?_⟩
        split
        · exact q2
        · show (if G.nm x = G.nm p then some vv else cm (G.nm x)) = some ww
          rw [if_neg ne]; exact q2
  | [], _ :: _, _, _, _, _, _, h, _, _ => by cases h
  | _ :: _, [], _, _, _, _, _, h, _, _ => by cases h

theorem callFn {G : Glb} {T : Tab} {n f : Nat} {fn : Fn} {fd : FuncData} {body : List Stmt} (g : GF G T) (fo : FnOk G f fn fd body) (hT : T.fn f = some fn) (c : CallOk G (orc T n) n)
    {args : List V} {vals : List Value} {σ σ' : Hp} {X : V} {adr : List Addr} {s : Shared} {A : Around} {R : Result → Shared → Prop}
    (e : run T (n + 1) f args σ = some (X, σ')) (rs : RVs s.heap adr args vals) (ok : Ok G adr σ s.heap) (hA : Room A (n + 1)) (k : ∀ adr' v s', Post G adr σ' s adr' s' → RV s'.heap adr' X v → R (.ok (.ret v)) s') :
    codeAny (model G.prog G.w) A (.call (.ref (G.fnA f)) ⟨vals, []⟩) R s := by
  unfold run at e
  rw [hT] at e
  dsimp only at e
  split at e
  case isFalse => cases e
  rename_i hlen
  obtain ⟨⟨fl, ρ', σ₁⟩, hex, e⟩ := Option.bind_eq_some_iff.mp e
  dsimp only at e
  obtain ⟨o, ho, hd⟩ := fo.at_
  have hcm : ∀ x, fd.scope.names.lookup x = some .cell → ∃ c, (cellsFrom (s.heap.objs.size + 1) fd.scope.names []).lookup x = some c := fun x hx => by
    obtain ⟨c, hc⟩ := (cellsFrom_has fd.scope.names (s.heap.objs.size + 1) []).2 _ (lookup_mem hx) rfl
    exact lookup_of_mem hc
  have hlv : vals.length = fn.params.length := by rw [← rs.length, hlen]
  refine codeAny_call_cells (body := body) (binds := (fn.params.map G.nm).zip vals) (by have := hA.2.1; unfold recursionLimit; omega) (ok.keep _ _ ho) hd (g.nolim.keeps ok.keep) (fo.code.keeps ok.keep) fo.bodyE (fo.bind vals hlv) fo.clos (fun x hx => ?_) (fun s₁ ic => ?_) fo.co fo.gen fo.kind
  · have hx1 : x.1 ∈ fn.params.map G.nm := by
      obtain ⟨a, b⟩ := x
      exact (List.of_mem_zip hx).1
    obtain ⟨p, hp, e'⟩ := List.mem_map.mp hx1
    obtain ⟨_, hk⟩ := fo.pars p hp
    rw [← e']
    rcases hk with hk | hk
    · exact .inl hk
    · obtain ⟨c, hc⟩ := hcm _ hk
      exact .inr ⟨hk, by rw [hc]; rfl⟩
  · obtain ⟨hic, hcell, hap, hab⟩ := ic
    have hss : SS s s₁ := hic.same
    have hkeep := hic.keep
    have hok := ok.mono hkeep
    have hL : (callEnvC fd s.heap.objs.size (G.fnA f)).locals = s.heap.objs.size := rfl
    have hcA : ∀ y d, (callEnvC fd s.heap.objs.size (G.fnA f)).cells.lookup y = some d → s.heap.get? d = none := fun y d e => none_of_ge (Nat.le_of_lt (hab y d (PySem.mem_of_lookup e)))
    have br : BRel G (callEnvC fd s.heap.objs.size (G.fnA f)).kindOf s.heap adr (updL fn.params args fun _ => none) (bindL (callEnvC fd s.heap.objs.size (G.fnA f)).kindOf ((fn.params.map G.nm).zip vals) fun _ => none) (bindC (callEnvC fd s.heap.objs.size (G.fnA f)).kindOf ((fn.params.map G.nm).zip vals) fun _ => none) :=
      bindRel g.nf (fun p hp => fo.pars p hp) hlen rs fun _ _ e => nomatch e
    have F : Fr G (callEnvC fd s.heap.objs.size (G.fnA f)) true (updL fn.params args fun _ => none) s.heap adr s₁.heap := by
      refine ⟨fo.kind, fo.glob, fo.blt, ok.keep, size_none _, ok.fresh (size_none _), fun y d e => ok.fresh (hcA y d e), fun _ y d _ e => hcA y d e, fun y hy => ?_, fun _ => hap, ⟨_, _, hic.ns, hcell, fun x w e => ?_⟩⟩
      · rcases hy with hy | hy
        · exact hcm y hy
        · exact absurd rfl (fo.noFree _ (lookup_mem hy))
      · obtain ⟨hN, vv, r, q⟩ := br x w e
        refine ⟨hN, fun _ => ⟨vv, r.mono hok.2, ?_⟩⟩
        rcases q with q | ⟨q1, q2⟩
        · exact .inl q
        · obtain ⟨d, hd'⟩ := hcm _ q1
          exact .inr ⟨.inl q1, d, hd', q2⟩
    have J : Inv G (callEnvC fd s.heap.objs.size (G.fnA f)) true adr s.heap (updL fn.params args fun _ => none) adr σ s₁.heap := ⟨F, hok.1, hok.2⟩
    have hB : RoomB (A.deeper (callEnvC fd s.heap.objs.size (G.fnA f))) n := by
      obtain ⟨a, b, d⟩ := hA
      refine ⟨a, ?_, ?_⟩
      · show A.depth + 1 + 5 * n + 3 ≤ 900; omega
      · show A.units + 3 + 60 * n + 40 ≤ 9000; omega
    refine soundSs g c rfl rfl fn.body fo.m hex J hB fun adr' s' fl' hs' J' _ hf => ?_
    have hp : ∀ σ₂, σ₁ = σ₂ → Post G adr σ₂ s adr' s' := fun σ₂ z => z ▸ ⟨hss.trans hs', J'.ext, J'.ok⟩
    cases fl with
    | nxt => cases hf; cases e; exact k adr' _ s' (hp _ rfl) .none
    | brk => cases e
    | ret v => obtain ⟨vv, rfl, r⟩ := hf; cases e; exact k adr' _ s' (hp _ rfl) r

/-- a def whose calls are sound once the calls below are -/
def StepOk (G : Glb) (T : Tab) (f : Nat) : Prop := ∀ (n : Nat), CallOk G (orc T n) n → ∀ {args : List V} {vals : List Value} {σ σ' : Hp} {X : V} {adr : List Addr} {s : Shared} {A : Around} {R : Result → Shared → Prop},
  run T (n + 1) f args σ = some (X, σ') → RVs s.heap adr args vals → Ok G adr σ s.heap → Room A (n + 1) → (∀ adr' v s', Post G adr σ' s adr' s' → RV s'.heap adr' X v → R (.ok (.ret v)) s') →
  codeAny (model G.prog G.w) A (.call (.ref (G.fnA f)) ⟨vals, []⟩) R s

theorem callAll {G : Glb} {T : Tab} (hf : ∀ f fn, T.fn f = some fn → StepOk G T f) (n : Nat) : CallOk G (orc T n) n := by
  induction n with
  | zero =>
    intro f args vals σ σ' X adr s A R e rs ok hA k
    have e' : run T 0 f args σ = some (X, σ') := e
    unfold run at e'
    cases e'
  | succ n ih =>
    intro f args vals σ σ' X adr s A R e rs ok hA k
    have e' : run T (n + 1) f args σ = some (X, σ') := e
    cases hfn : T.fn f with
    | none => unfold run at e'; rw [hfn] at e'; cases e'
    | some fn => exact hf f fn hfn n ih e' rs ok hA k
end Mine

end

section
namespace Mine
open PySem PySem.W PyProof.Rows PySem.Calls
set_option Elab.async false
set_option autoImplicit false

structure SupOk (G : Glb) (T : Tab) (f f' : Nat) (es : Exs) (fn : Fn) (fd : FuncData) (args : List Expr) (p0 p1 apos pos epos : Pos) (cc cda D : Addr) (cdD : ClassData) : Prop where
  fnE : T.fn f = some fn
  bodyM : fn.body = .cons (.expr (.sup f' es)) .nil
  self : ∃ ps, fn.params = T.self :: ps
  selfN : T.self < G.N
  at_ : ∃ o, G.h₀.get? (G.fnA f) = some o ∧ o.data = .func fd
  co : fd.scope.isCoroutine = false
  gen : fd.scope.isGenerator = false
  kind : fd.scope.kind = .function
  bodyE : fd.body = .stmts [.Expr (.Call (.Attribute (.Call (.Name "super" p0) [] [] p1) "__init__" apos) args [] pos) epos]
  clos : fd.closure = [(("__class__" : Str), cc)]
  glob : fd.globals = mainGlobals
  blt : fd.builtins = builtinsNs
  code : G.h₀.CodeRec fd.code fd.qualname
  bind : ∀ vals : List Value, vals.length = fn.params.length → bindArgs fd ⟨vals, []⟩ = pure ((fn.params.map G.nm).zip vals)
  pars : ∀ p ∈ fn.params, p < G.N ∧ fd.scope.names.lookup (G.nm p) = some .local
  noCell : ∀ x ∈ fd.scope.names, x.2 ≠ .cell
  free : ∀ x ∈ fd.scope.names, x.2 = .free → x.1 = ("__class__" : Str)
  first : ∃ ar, (fd.params.posonlyargs ++ fd.params.args).head? = some ar ∧ ar.arg = G.nm T.self
  codeA : fd.code = .ref cda
  codeO : ∃ oc vs file tf, G.h₀.get? cda = some oc ∧ oc.data = .fields vs ∧ vs[2]? = some (.str file tf) ∧ ((G.prog.main.file : Str) == file) = true
  cell : G.h₀.IsCell cc (some (.ref D))
  clsD : ∃ oD, G.h₀.get? D = some oD ∧ oD.data = .cls cdD
  sGl : G.mg "super" = none
  sBl : G.mb "super" = some (.type "super")
  sKind : fd.scope.names.lookup ("super" : Str) = some .globalImplicit
  cKind : fd.scope.names.lookup ("__class__" : Str) = some .free
  top : (G.prog.main.scope.names.lookup ("super" : Str)).isSome = false
  mro : mroIn G.K (G.cls 1) (.ref D) = some true
  third : nsIn G.K cStatics "thirdparty.any" = some none
  sup : ks_superIn G.K (G.cls 1) D "__init__" = some (some (.ref (G.fnA f')))
  supT : typeIn G.K (.ref (G.fnA f')) = some (.type "function")
  supF : fnIn G.K (G.fnA f') = true
  isC : (clsIn G.K (G.cls 1)).isSome = true
  m : mEs G fd.scope es args = true
  ne : args ≠ []
  few : args.length ≤ 20
  line : (apos.endLine == pos.line) = true

theorem bindL_rev {kindOf : Str → Option NameKind} : ∀ (binds : List (Str × Value)) (m : Str → Option Value), (∀ x ∈ binds, kindOf x.1 = some .local) → bindL kindOf binds m = fun x => (binds.reverse.lookup x).or (m x)
  | [], m, _ => by funext x; simp [bindL]
  | (nm, v) :: r, m, h => by
    have h1 := h (nm, v) List.mem_cons_self
    unfold bindL
    rw [if_pos h1, bindL_rev r _ fun x hx => h x (List.mem_cons_of_mem _ hx)]
    funext x
    rw [List.reverse_cons, List.lookup_append, Option.or_assoc]
    congr 1
    by_cases hx : x = nm
    · subst hx; simp
    · have : (x == nm) = false := beq_eq_false_iff_ne.mpr hx
      simp [hx, List.lookup_cons, this]

theorem supStep {G : Glb} {T : Tab} {f f' : Nat} {es : Exs} {fn : Fn} {fd : FuncData} {args : List Expr} {p0 p1 apos pos epos : Pos} {cc cda D : Addr} {cdD : ClassData} (g : GF G T) (so : SupOk G T f f' es fn fd args p0 p1 apos pos epos cc cda D cdD) : StepOk G T f := by
  intro n c as vals σ σ' X adr s A R e rs ok hA k
  unfold run at e
  rw [so.fnE] at e
  dsimp only at e
  split at e
  case isFalse => cases e
  rename_i hlen
  rw [so.bodyM] at e
  obtain ⟨⟨fl, ρ', σ₁⟩, hex, e⟩ := Option.bind_eq_some_iff.mp e
  dsimp only at e
  unfold exs at hex
  obtain ⟨⟨f₁, ρ₁, σ₂⟩, hst, hex⟩ := Option.bind_eq_some_iff.mp hex
  dsimp only at hex
  unfold exe at hst
  obtain ⟨⟨Y, σ₃⟩, hev, hst⟩ := Option.bind_eq_some_iff.mp hst
  dsimp only at hst
  have hfin : f₁ = .nxt ∧ σ₂ = σ₃ := by cases Y <;> first | (cases hst; exact ⟨rfl, rfl⟩) | cases hst
  obtain ⟨rfl, rfl⟩ := hfin
  dsimp only at hex
  unfold exs at hex
  cases hex
  dsimp only at e
  cases e
  unfold ev at hev
  obtain ⟨v, hv, hev⟩ := Option.bind_eq_some_iff.mp hev
  dsimp only at hev
  split at hev
  case h_2 => cases hev
  rename_i i
  split at hev
  case h_2 => cases hev
  rename_i d hi
  split at hev
  case h_2 => cases hev
  rename_i la hl
  obtain ⟨⟨Ys, σ₅⟩, hq, hcall⟩ := Option.bind_eq_some_iff.mp hev
  dsimp only at hcall
  obtain ⟨o, ho, hd⟩ := so.at_
  have hlv : vals.length = fn.params.length := by rw [← rs.length, hlen]
  have hloc : ∀ x ∈ (fn.params.map G.nm).zip vals, fd.scope.names.lookup x.1 = some .local := fun x hx => by
    have hx1 : x.1 ∈ fn.params.map G.nm := by obtain ⟨a, b⟩ := x; exact (List.of_mem_zip hx).1
    obtain ⟨p, hp, e'⟩ := List.mem_map.mp hx1
    rw [← e']; exact (so.pars p hp).2
  refine ks_codeAny_call_defAt (fd := fd) (body := [.Expr (.Call (.Attribute (.Call (.Name "super" p0) [] [] p1) "__init__" apos) args [] pos) epos]) (binds := (fn.params.map G.nm).zip vals) (by have := hA.2.1; unfold recursionLimit; omega) (ok.keep _ _ ho) hd (g.nolim.keeps ok.keep) (so.code.keeps ok.keep) so.bodyE (BindsTo.of_eq (so.bind vals hlv)) so.noCell hloc (fun h₁ hns hk₁ => ?_) so.co so.gen so.kind
  generalize hs1 : ({ s with heap := h₁, toks := s.toks + ((fn.params.map G.nm).zip vals).length } : Shared) = s₁
  have hh1 : s₁.heap = h₁ := by rw [← hs1]
  have hss : SS s s₁ := ⟨h₁, _, hs1.symm⟩
  have hok := ok.mono hk₁
  rw [← hh1] at hns hk₁ hok
  generalize hen : callEnv fd s.heap.objs.size (G.fnA f) = env
  have eL : env.locals = s.heap.objs.size := by rw [← hen]; rfl
  have eS : env.scope = fd.scope := by rw [← hen]; rfl
  have eC : env.cells = [(("__class__" : Str), cc)] := by rw [← hen]; exact so.clos
  have ek : ∀ x, env.kindOf x = fd.scope.names.lookup x := fun x => by show env.scope.names.lookup x = _; rw [eS]
  have hcc0 : G.h₀.get? cc ≠ none := by obtain ⟨oo, e, _⟩ := so.cell; rw [e]; exact fun z => nomatch z
  have hccA : cc ∉ adr := fun m => hcc0 (ok.base _ m)
  have hcl : ∀ y d, env.cells.lookup y = some d → y = ("__class__" : Str) ∧ d = cc := fun y d e => by
    rw [eC, List.lookup_cons] at e
    cases hy : y == ("__class__" : Str) with
    | true => rw [hy] at e; cases e; exact ⟨beq_iff_eq.mp hy, rfl⟩
    | false => rw [hy] at e; cases e
  have br : BRel G env.kindOf s.heap adr (updL fn.params as fun _ => none) (bindL env.kindOf ((fn.params.map G.nm).zip vals) fun _ => none) (bindC env.kindOf ((fn.params.map G.nm).zip vals) fun _ => none) :=
    bindRel g.nf (fun p hp => ⟨(so.pars p hp).1, .inl (by rw [ek]; exact (so.pars p hp).2)⟩) hlen rs fun _ _ e => nomatch e
  have hbl : bindL env.kindOf ((fn.params.map G.nm).zip vals) (fun _ => none) = fun x => ((fn.params.map G.nm).zip vals).reverse.lookup x := by
    rw [bindL_rev _ _ fun x hx => by rw [ek]; exact hloc x hx]
    funext x; simp
  rw [hbl] at br
  have F : Fr G env true (updL fn.params as fun _ => none) s.heap adr s₁.heap := by
    refine ⟨by rw [eS]; exact so.kind, by rw [← hen]; exact so.glob, by rw [← hen]; exact so.blt, ok.keep, by rw [eL]; exact size_none _, by rw [eL]; exact ok.fresh (size_none _), fun y d e => by rw [(hcl y d e).2]; exact hccA, fun _ y d e _ => ?_, fun y hy => ?_, fun _ => by rw [eC]; simp, ⟨_, fun _ => some (.ref D), by rw [eL]; exact hns, fun y d e => ?_, fun x w e => ?_⟩⟩
    · rw [ek] at e
      exact absurd rfl (so.noCell _ (lookup_mem e))
    · rw [ek] at hy
      rcases hy with hy | hy
      · exact absurd rfl (so.noCell _ (lookup_mem hy))
      · have := so.free _ (lookup_mem hy) rfl
        dsimp only at this
        subst this
        exact ⟨cc, by rw [eC]; rfl⟩
    · rw [(hcl y d e).2]
      obtain ⟨oo, e1, e2⟩ := so.cell
      exact ⟨oo, hk₁ _ _ (ok.keep _ _ e1), e2⟩
    · obtain ⟨hN, vv, r, q⟩ := br x w e
      refine ⟨hN, fun _ => ⟨vv, r.mono hok.2, ?_⟩⟩
      rcases q with q | ⟨q1, _⟩
      · exact .inl q
      · rw [ek] at q1
        exact absurd rfl (so.noCell _ (lookup_mem q1))
  have hB : RoomB (A.deeper env) n := by
    obtain ⟨a, b, d⟩ := hA
    refine ⟨a, ?_, ?_⟩
    · show A.depth + 1 + 5 * n + 3 ≤ 900; omega
    · show A.units + 3 + 60 * n + 40 ≤ 9000; omega
  have X₁ : G.K.In s₁.heap := hok.1.inK g.toCFacts
  obtain ⟨ar, har, harn⟩ := so.first
  obtain ⟨oc, cvs, file, tf, hc1, hc2, hc3, hc4⟩ := so.codeO
  obtain ⟨oD, hD1, hD2⟩ := so.clsD
  have kk0 : ∀ b o, G.h₀.get? b = some o → s₁.heap.get? b = some o := hok.1.keep
  have sI := ok.objs _ _ hi
  obtain ⟨x0, hx0, _⟩ := sI
  have ok₁ := hok.1
  obtain ⟨dx, es', mm', hd', ho', pa, I⟩ := instAt_of ok₁ hx0 hi hl
  obtain ⟨mN, cmN, VN⟩ := F.vals
  refine ks_wpAt_execs_cons (ks_wpAt_Expr_any (ks_wpAt_MethodCall (pl := (do return (← importBound (.Call (.Name "super" p0) [] [] p1) env).getD true)) ?_ ?_) (by unfold interactive; rw [eS, so.kind]; rfl) rfl)
  case refine_2 =>
    rw [arm_eval_Call]
    have hform : methodCallForm (args.length + ([] : List Keyword).length) (backTo pos (starEach args env)) (backToKw pos (keywordEach [] env)) = true := by
      unfold methodCallForm
      rw [(mEs_plain so.m).2]
      show (true && true && decide (args.length + 0 + 0 < 30)) = true
      have := so.few
      simp; omega
    have hpos : methodCallPos true (.Call (.Name "super" p0) [] [] p1) env apos pos = pure pos := by unfold methodCallPos; simp [beq_iff_eq.mp so.line]
    unfold methodCall
    rw [hform]
    simp only [hpos, pure_bind]
    rfl
  have hsu : env.kindOf ("super" : Str) = some .globalImplicit := by rw [ek]; exact so.sKind
  have hcu : env.kindOf ("__class__" : Str) = some .free := by rw [ek]; exact so.cKind
  have heq : env = callEnv fd s.heap.objs.size (G.fnA f) := hen.symm
  rw [← hen]
  refine ks_wpAt_super_base (env := callEnv fd s.heap.objs.size (G.fnA f)) (by rw [hen]; exact hsu) (by rw [hen]; exact hcu) (by decide) rfl (kk0 _ _ ho) hd har so.codeA (kk0 _ _ hc1) hc2 hc3 hc4 so.top ?_
  rw [hen]
  refine ks_loadName_global F.kind hsu (loadGlobal_builtin (by rw [F.glob]; exact g.nsG.keeps kk0) so.sGl (by rw [F.blt]; exact g.nsB.keeps kk0) so.sBl ⟨rfl, ?_⟩)
  refine wpAny_loadName_free F.kind hcu (by rw [eC]; rfl) (v := .ref D) (by obtain ⟨oo, e1, e2⟩ := so.cell; exact ⟨oo, kk0 _ _ e1, e2⟩) ?_
  rw [harn]
  refine loadOk g.nf F hv (by
    obtain ⟨ps, hps⟩ := so.self
    rw [ek, (so.pars T.self (by rw [hps]; exact List.mem_cons_self)).2]; rfl) fun vv rv => ?_
  cases rv with
  | @ref _ x hx =>
  rw [hx0] at hx; cases hx
  clear hs1
  obtain ⟨hh, g0, dd, t, os⟩ := s₁
  dsimp only at *
  refine ks_wpAny_isType_cls (kk0 _ _ hD1) hD2 ⟨rfl, ?_⟩
  refine ks_wpAny_call_super (kk0 _ _ hD1) hD2 I.at_ I.cls (fun c e => ?_) (looks_mroIn X₁ so.mro) (fun h' hso kS => ?_)
  · have := I.no
    unfold notCls at this
    rw [e] at this
    exact Bool.noConfusion this
  have pS : Post G adr σ ⟨hh, g0, dd, t, os⟩ adr ⟨h', g0, dd, t, os⟩ := Post.grow (s := ⟨hh, g0, dd, t, os⟩) ok₁ t kS
  have XS : G.K.In h' := X₁.keeps kS
  have IS : InstAt h' x0 (instObj (G.cls 1) dx) (G.cls 1) (some (dictOf es' mm')) := ⟨kS _ _ I.at_, I.cls, I.no, kS _ _ ho'⟩
  obtain ⟨cdC, hcdC⟩ := Option.isSome_iff_exists.mp so.isC
  have hm := so.sup
  unfold ks_superIn at hm
  rw [hcdC] at hm
  obtain ⟨of, hof, hofc⟩ : ∃ of, h'.get? (G.fnA f') = some of ∧ of.cls = .type "function" := by
    have ht' : (G.K.lookup (G.fnA f')).map (·.cls) = some (.type "function") := so.supT
    cases z : G.K.lookup (G.fnA f') with
    | none => rw [z] at ht'; cases ht'
    | some of => rw [z] at ht'; exact ⟨of, XS _ _ z, Option.some.inj ht'⟩
  refine ks_wpAny_getMethod_super hso (looks_opaque XS so.third) (l₀ := cdC.mro) (fun A Q E s k q => wpAny_bind ((looks_clsIn XS hcdC) A _ E s k (wpAny_pure q))) rfl XS hm hof hofc (ks_ne XS IS hcdC) (by decide) ?_
  generalize hH : h'.push { cls := .type "method", data := .fields #[.ref (G.fnA f'), .ref x0] } = h₂
  have kM : ∀ a o, h'.get? a = some o → h₂.get? a = some o := fun a o e => hH ▸ Heap.get?_push_of_some _ e
  have hqm : h₂.get? h'.objs.size = some (methodObj (.ref (G.fnA f')) (.ref x0)) := hH ▸ Heap.get?_push_size _ rfl
  have pM : Post G adr σ ⟨h', g0, dd, t, os⟩ adr ⟨h₂, g0, dd, t + 1, os⟩ := Post.grow (s := ⟨h', g0, dd, t, os⟩) pS.ok (t + 1) kM
  have p₀ := pS.trans pM
  have hqA : h'.objs.size ∉ adr := pS.ok.fresh (size_none _)
  have okM : Ok G adr σ h₂ := pM.ok
  obtain ⟨a0, as0, hargs⟩ := List.exists_cons_of_ne_nil so.ne
  have hes := so.m
  rw [hargs] at hes
  cases es with
  | nil => simp [mEs] at hes
  | cons e0 es0 =>
  have hes' := hes
  unfold mEs at hes'
  obtain ⟨m1, m2⟩ := Bool.and_eq_true_iff.mp hes'
  rw [hargs, mE_starEach m1]
  have hpl : (backTo pos (starEach as0 env)).any (·.1) = false := (mEs_plain m2).1
  refine callWith_of (P := MethP G.K h'.objs.size (G.fnA f') (.ref x0)) (by show ((false || (backTo pos (starEach as0 env)).any (·.1)) || false) = false; rw [hpl]; rfl) (keeps_M so.supF) ?_
  refine evalArgs_plain ?_
  have snd : SndEs G (orc T n) n (.cons e0 es0) := soundEs g c rfl rfl _
  have hF₂ : Fr G env true (updL fn.params as fun _ => none) s.heap adr h₂ := F.ext p₀.ext
  have key := snd (l := a0 :: as0) (pos := pos) (s := ⟨h₂, g0, dd, t + 1, os⟩) (A := A.deeper env) (Er := fun e s' => wpAny (model G.prog G.w) (A.deeper env) (leaving env e) (fun _ s'' => R (.error e) s'') (fun e' s'' => R (.error e') s'') s')
    (Q := fun vs s' => MethP G.K h'.objs.size (G.fnA f') (.ref x0) s'.heap ∧ wpAny (model G.prog G.w) (A.deeper env) (call (.ref h'.objs.size) ([] ++ vs)) (fun _ s' => _root_.PySem.wpAt (model G.prog G.w) (A.deeper env) (.func [.Expr (.Call (.Attribute (.Call (.Name "super" p0) [] [] p1) "__init__" apos) (a0 :: as0) [] pos) epos] env) (execs [] env) (fun f s' => R (.ok (.ret (match f with | .ret v => v | _ => .none))) s')
        (fun e s' => wpAny (model G.prog G.w) (A.deeper env) (leaving env e) (fun _ s'' => R (.error e) s'') (fun e' s'' => R (.error e') s'') s') s') (fun e s' => wpAny (model G.prog G.w) (A.deeper env) (leaving env e) (fun _ s'' => R (.error e) s'') (fun e' s'' => R (.error e') s'') s') s')
    (by rw [eS]; exact hes) hq hF₂ okM hB fun adr₂ vs s₂ p₂ rs₂ => ?_
  · rw [mE_starEach m1] at key
    exact key
  · have hm2 : s₂.heap.get? h'.objs.size = some (methodObj (.ref (G.fnA f')) (.ref x0)) := p₂.ext.keep _ _ hqm hqA
    refine ⟨⟨hm2, p₂.ok.inK g.toCFacts⟩, wpAny_call (method_call hm2 ?_)⟩
    refine c hcall (.cons (.ref (p₂.ext.idx hx0)) rs₂) p₂.ok hB.room fun adr₃ v₃ s₃ p₃ _ => ?_
    refine wpAt_of_wpAny (wpAny_execs_nil ?_)
    have pS0 : Post G adr σ s adr ⟨hh, g0, dd, t, os⟩ := ⟨hss, hok.2, hok.1⟩
    exact k adr₃ _ s₃ (((pS0.trans p₀).trans p₂).trans p₃) .none
end Mine

end

section
open PySem PySem.W PyProof.Rows
set_option Elab.async false
set_option maxRecDepth 100000
set_option maxHeartbeats 8000000
namespace Mine
open_top hd for PySem.Challenge.rw_pc0034_01
end Mine

end

section
namespace Mine
open PySem PySem.W PyProof.Rows PySem.Calls
set_option Elab.async false
set_option autoImplicit false
set_option maxRecDepth 100000
set_option maxHeartbeats 4000000

def fnAT : List Nat := [28, 35, 54, 59, 66, 73, 80, 87, 108, 115, 122, 129, 143, 150, 192, 199, 206, 213, 220, 227, 262, 306, 341, 353, 372, 379, 384, 389, 396, 401, 406]
def fnNT : Nat → Str
  | 0 => "least"
  | 1 => "greatest"
  | 2 => "up_to"
  | 3 => "from_on"
  | 4 => "without"
  | 5 => "meet"
  | 6 => "negation"
  | 7 => "struck"
  | 24 => "_law_pick"
  | 25 => "_law_spans"
  | 26 => "_law_lots"
  | 27 => "_law_kept"
  | 28 => "_law_struck"
  | 29 => "_law_once"
  | 30 => "_law_answers"
  | _ => "law"
noncomputable def Gl (w : World) (h₀ : Heap) (fa : Addr) (mg mb : Str → Option Value) : Glb where
  prog := PySem.Challenge.rw_pc0034_01.row.prog
  w := w
  h₀ := h₀
  K := Mine.hd.heap_39 w.params
  nm := fun i => nmT.getD i "x"
  N := 69
  cls := fun c => if c = 0 then 244 else 363
  fnA := fun f => fnAT.getD f fa
  atN := fun n => [13, 14, 15, 16, 17, 18, 19, 20, 30, 31, 32].contains n
  fnN := fnNT
  clN := fun c => if c = 0 then "Store" else "Greatest"
  mg := mg
  mb := mb

def fdAt (K : Frag) (a : Addr) : FuncData := match K.lookup a with
  | some ⟨_, _, .func fd, _⟩ => fd
  | _ => default
def stAt (fd : FuncData) : List Stmt := match fd.body with
  | .stmts b => b
  | _ => []
def fdChk (G : Glb) (fn : Fn) (fd : FuncData) : Bool :=
  !fd.scope.isCoroutine && !fd.scope.isGenerator && fd.scope.kind == .function && fd.closure.isEmpty && fd.globals == mainGlobals && fd.builtins == builtinsNs &&
  (fn.params.all fun p => decide (p < G.N) && (fd.scope.names.lookup (G.nm p) == some .local || fd.scope.names.lookup (G.nm p) == some .cell)) && (fd.scope.names.all fun x => !(x.2 == .free)) &&
  (match fd.body with
    | .stmts b => mSs G fd.scope fn.body b
    | _ => false)
def fnChk (G : Glb) (a : Addr) (fn : Fn) : Bool := match G.K.lookup a with
  | some ⟨_, _, .func fd, _⟩ => fdChk G fn fd && codeIn G.K fd.code fd.qualname
  | _ => false

theorem fnOk_fd {G : Glb} {f : Nat} {fn : Fn} {fd : FuncData} (at_ : ∃ o, G.h₀.get? (G.fnA f) = some o ∧ o.data = .func fd) (hc : G.h₀.CodeRec fd.code fd.qualname) (h : fdChk G fn fd = true)
    (hb : ∀ vals : List Value, vals.length = fn.params.length → bindArgs fd ⟨vals, []⟩ = pure ((fn.params.map G.nm).zip vals)) : FnOk G f fn fd (stAt fd) := by
  unfold fdChk at h
  simp only [Bool.and_eq_true, Bool.not_eq_true', beq_iff_eq] at h
  obtain ⟨⟨⟨⟨⟨⟨⟨⟨h1, h2⟩, h3⟩, h4⟩, h5⟩, h6⟩, h7⟩, h8⟩, h9⟩ := h
  have hbody : fd.body = .stmts (stAt fd) ∧ mSs G fd.scope fn.body (stAt fd) = true := by
    unfold stAt
    split at h9
    · rename_i b e; rw [e]; exact ⟨rfl, h9⟩
    · cases h9
  refine ⟨at_, h1, h2, h3, hbody.1, List.isEmpty_iff.mp h4, h5, h6, hc, hb, fun p hp => ?_, fun x hx e => ?_, hbody.2⟩
  · have := List.all_eq_true.mp h7 p hp
    simpa using this
  · have := List.all_eq_true.mp h8 x hx
    rw [e] at this
    cases this
theorem fnOk_of {G : Glb} {f : Nat} {fn : Fn} (X : G.K.In G.h₀) (h : fnChk G (G.fnA f) fn = true) (hb : ∀ vals : List Value, vals.length = fn.params.length → bindArgs (fdAt G.K (G.fnA f)) ⟨vals, []⟩ = pure ((fn.params.map G.nm).zip vals)) :
    FnOk G f fn (fdAt G.K (G.fnA f)) (stAt (fdAt G.K (G.fnA f))) := by
  unfold fnChk at h
  split at h
  case h_2 => cases h
  rename_i c d fd sl e
  obtain ⟨h1, h2⟩ := Bool.and_eq_true_iff.mp h
  have hfd : fdAt G.K (G.fnA f) = fd := by unfold fdAt; rw [e]
  rw [hfd] at hb ⊢
  exact fnOk_fd ⟨_, X _ _ e, rfl⟩ (codeRec_of X h2) h1 hb

section
variable (w : World) (h₀ : Heap) (fa : Addr) (mg mb : Str → Option Value)
theorem chk0 : fnChk (Gl w h₀ fa mg mb) 28 f_least = true := by kernel_rfl
theorem bnd0 : ∀ vals : List Value, vals.length = f_least.params.length → bindArgs (fdAt (Gl w h₀ fa mg mb).K 28) ⟨vals, []⟩ = pure ((f_least.params.map (Gl w h₀ fa mg mb).nm).zip vals)
  | [_], _ => by kernel_rfl
theorem chk1 : fnChk (Gl w h₀ fa mg mb) 35 f_greatest = true := by kernel_rfl
theorem bnd1 : ∀ vals : List Value, vals.length = f_greatest.params.length → bindArgs (fdAt (Gl w h₀ fa mg mb).K 35) ⟨vals, []⟩ = pure ((f_greatest.params.map (Gl w h₀ fa mg mb).nm).zip vals)
  | [_], _ => by kernel_rfl
theorem chk2 : fnChk (Gl w h₀ fa mg mb) 54 f_up_to = true := by kernel_rfl
theorem bnd2 : ∀ vals : List Value, vals.length = f_up_to.params.length → bindArgs (fdAt (Gl w h₀ fa mg mb).K 54) ⟨vals, []⟩ = pure ((f_up_to.params.map (Gl w h₀ fa mg mb).nm).zip vals)
  | [_, _], _ => by kernel_rfl
theorem chk3 : fnChk (Gl w h₀ fa mg mb) 59 f_from_on = true := by kernel_rfl
theorem bnd3 : ∀ vals : List Value, vals.length = f_from_on.params.length → bindArgs (fdAt (Gl w h₀ fa mg mb).K 59) ⟨vals, []⟩ = pure ((f_from_on.params.map (Gl w h₀ fa mg mb).nm).zip vals)
  | [_, _], _ => by kernel_rfl
theorem chk4 : fnChk (Gl w h₀ fa mg mb) 66 f_without = true := by kernel_rfl
theorem bnd4 : ∀ vals : List Value, vals.length = f_without.params.length → bindArgs (fdAt (Gl w h₀ fa mg mb).K 66) ⟨vals, []⟩ = pure ((f_without.params.map (Gl w h₀ fa mg mb).nm).zip vals)
  | [_, _], _ => by kernel_rfl
theorem chk5 : fnChk (Gl w h₀ fa mg mb) 73 f_meet = true := by kernel_rfl
theorem bnd5 : ∀ vals : List Value, vals.length = f_meet.params.length → bindArgs (fdAt (Gl w h₀ fa mg mb).K 73) ⟨vals, []⟩ = pure ((f_meet.params.map (Gl w h₀ fa mg mb).nm).zip vals)
  | [_, _], _ => by kernel_rfl
theorem chk6 : fnChk (Gl w h₀ fa mg mb) 80 f_negation = true := by kernel_rfl
theorem bnd6 : ∀ vals : List Value, vals.length = f_negation.params.length → bindArgs (fdAt (Gl w h₀ fa mg mb).K 80) ⟨vals, []⟩ = pure ((f_negation.params.map (Gl w h₀ fa mg mb).nm).zip vals)
  | [_], _ => by kernel_rfl
theorem chk7 : fnChk (Gl w h₀ fa mg mb) 87 f_struck = true := by kernel_rfl
theorem bnd7 : ∀ vals : List Value, vals.length = f_struck.params.length → bindArgs (fdAt (Gl w h₀ fa mg mb).K 87) ⟨vals, []⟩ = pure ((f_struck.params.map (Gl w h₀ fa mg mb).nm).zip vals)
  | [_, _], _ => by kernel_rfl
theorem chk8 : fnChk (Gl w h₀ fa mg mb) 108 f_Store_init = true := by kernel_rfl
theorem bnd8 : ∀ vals : List Value, vals.length = f_Store_init.params.length → bindArgs (fdAt (Gl w h₀ fa mg mb).K 108) ⟨vals, []⟩ = pure ((f_Store_init.params.map (Gl w h₀ fa mg mb).nm).zip vals)
  | [_], _ => by kernel_rfl
theorem chk9 : fnChk (Gl w h₀ fa mg mb) 115 f_Store_new_var = true := by kernel_rfl
theorem bnd9 : ∀ vals : List Value, vals.length = f_Store_new_var.params.length → bindArgs (fdAt (Gl w h₀ fa mg mb).K 115) ⟨vals, []⟩ = pure ((f_Store_new_var.params.map (Gl w h₀ fa mg mb).nm).zip vals)
  | [_, _], _ => by kernel_rfl
theorem chk10 : fnChk (Gl w h₀ fa mg mb) 122 f_Store_size = true := by kernel_rfl
theorem bnd10 : ∀ vals : List Value, vals.length = f_Store_size.params.length → bindArgs (fdAt (Gl w h₀ fa mg mb).K 122) ⟨vals, []⟩ = pure ((f_Store_size.params.map (Gl w h₀ fa mg mb).nm).zip vals)
  | [_], _ => by kernel_rfl
theorem chk11 : fnChk (Gl w h₀ fa mg mb) 129 f_Store_dom = true := by kernel_rfl
theorem bnd11 : ∀ vals : List Value, vals.length = f_Store_dom.params.length → bindArgs (fdAt (Gl w h₀ fa mg mb).K 129) ⟨vals, []⟩ = pure ((f_Store_dom.params.map (Gl w h₀ fa mg mb).nm).zip vals)
  | [_, _], _ => by kernel_rfl
theorem chk12 : fnChk (Gl w h₀ fa mg mb) 143 f_Store_low = true := by kernel_rfl
theorem bnd12 : ∀ vals : List Value, vals.length = f_Store_low.params.length → bindArgs (fdAt (Gl w h₀ fa mg mb).K 143) ⟨vals, []⟩ = pure ((f_Store_low.params.map (Gl w h₀ fa mg mb).nm).zip vals)
  | [_, _], _ => by kernel_rfl
theorem chk13 : fnChk (Gl w h₀ fa mg mb) 150 f_Store_high = true := by kernel_rfl
theorem bnd13 : ∀ vals : List Value, vals.length = f_Store_high.params.length → bindArgs (fdAt (Gl w h₀ fa mg mb).K 150) ⟨vals, []⟩ = pure ((f_Store_high.params.map (Gl w h₀ fa mg mb).nm).zip vals)
  | [_, _], _ => by kernel_rfl
theorem chk14 : fnChk (Gl w h₀ fa mg mb) 192 f_Store_enter = true := by kernel_rfl
theorem bnd14 : ∀ vals : List Value, vals.length = f_Store_enter.params.length → bindArgs (fdAt (Gl w h₀ fa mg mb).K 192) ⟨vals, []⟩ = pure ((f_Store_enter.params.map (Gl w h₀ fa mg mb).nm).zip vals)
  | [_, _, _, _], _ => by kernel_rfl
theorem chk15 : fnChk (Gl w h₀ fa mg mb) 199 f_Store_strike = true := by kernel_rfl
theorem bnd15 : ∀ vals : List Value, vals.length = f_Store_strike.params.length → bindArgs (fdAt (Gl w h₀ fa mg mb).K 199) ⟨vals, []⟩ = pure ((f_Store_strike.params.map (Gl w h₀ fa mg mb).nm).zip vals)
  | [_, _, _], _ => by kernel_rfl
theorem chk16 : fnChk (Gl w h₀ fa mg mb) 206 f_Store_decide = true := by kernel_rfl
theorem bnd16 : ∀ vals : List Value, vals.length = f_Store_decide.params.length → bindArgs (fdAt (Gl w h₀ fa mg mb).K 206) ⟨vals, []⟩ = pure ((f_Store_decide.params.map (Gl w h₀ fa mg mb).nm).zip vals)
  | [_, _], _ => by kernel_rfl
theorem chk17 : fnChk (Gl w h₀ fa mg mb) 213 f_Store_fail = true := by kernel_rfl
theorem bnd17 : ∀ vals : List Value, vals.length = f_Store_fail.params.length → bindArgs (fdAt (Gl w h₀ fa mg mb).K 213) ⟨vals, []⟩ = pure ((f_Store_fail.params.map (Gl w h₀ fa mg mb).nm).zip vals)
  | [_, _], _ => by kernel_rfl
theorem chk18 : fnChk (Gl w h₀ fa mg mb) 220 f_Store_push = true := by kernel_rfl
theorem bnd18 : ∀ vals : List Value, vals.length = f_Store_push.params.length → bindArgs (fdAt (Gl w h₀ fa mg mb).K 220) ⟨vals, []⟩ = pure ((f_Store_push.params.map (Gl w h₀ fa mg mb).nm).zip vals)
  | [_], _ => by kernel_rfl
theorem chk19 : fnChk (Gl w h₀ fa mg mb) 227 f_Store_pop = true := by kernel_rfl
theorem bnd19 : ∀ vals : List Value, vals.length = f_Store_pop.params.length → bindArgs (fdAt (Gl w h₀ fa mg mb).K 227) ⟨vals, []⟩ = pure ((f_Store_pop.params.map (Gl w h₀ fa mg mb).nm).zip vals)
  | [_, _], _ => by kernel_rfl
theorem chk20 : fnChk (Gl w h₀ fa mg mb) 262 f_Propagator_init = true := by kernel_rfl
theorem bnd20 : ∀ vals : List Value, vals.length = f_Propagator_init.params.length → bindArgs (fdAt (Gl w h₀ fa mg mb).K 262) ⟨vals, []⟩ = pure ((f_Propagator_init.params.map (Gl w h₀ fa mg mb).nm).zip vals)
  | [_, _, _], _ => by kernel_rfl
theorem bnd21 : ∀ vals : List Value, vals.length = f_Extreme_init.params.length → bindArgs (fdAt (Gl w h₀ fa mg mb).K 306) ⟨vals, []⟩ = pure ((f_Extreme_init.params.map (Gl w h₀ fa mg mb).nm).zip vals)
  | [_, _], _ => by kernel_rfl
theorem bnd22 : ∀ vals : List Value, vals.length = f_Greatest_init.params.length → bindArgs (fdAt (Gl w h₀ fa mg mb).K 341) ⟨vals, []⟩ = pure ((f_Greatest_init.params.map (Gl w h₀ fa mg mb).nm).zip vals)
  | [_, _, _], _ => by kernel_rfl
theorem chk23 : fnChk (Gl w h₀ fa mg mb) 353 f_Greatest_once = true := by kernel_rfl
theorem bnd23 : ∀ vals : List Value, vals.length = f_Greatest_once.params.length → bindArgs (fdAt (Gl w h₀ fa mg mb).K 353) ⟨vals, []⟩ = pure ((f_Greatest_once.params.map (Gl w h₀ fa mg mb).nm).zip vals)
  | [_, _], _ => by kernel_rfl
theorem chk24 : fnChk (Gl w h₀ fa mg mb) 372 f_law_pick = true := by kernel_rfl
theorem bnd24 : ∀ vals : List Value, vals.length = f_law_pick.params.length → bindArgs (fdAt (Gl w h₀ fa mg mb).K 372) ⟨vals, []⟩ = pure ((f_law_pick.params.map (Gl w h₀ fa mg mb).nm).zip vals)
  | [_, _], _ => by kernel_rfl
theorem chk25 : fnChk (Gl w h₀ fa mg mb) 379 f_law_spans = true := by kernel_rfl
theorem bnd25 : ∀ vals : List Value, vals.length = f_law_spans.params.length → bindArgs (fdAt (Gl w h₀ fa mg mb).K 379) ⟨vals, []⟩ = pure ((f_law_spans.params.map (Gl w h₀ fa mg mb).nm).zip vals)
  | [_], _ => by kernel_rfl
theorem chk26 : fnChk (Gl w h₀ fa mg mb) 384 f_law_lots = true := by kernel_rfl
theorem bnd26 : ∀ vals : List Value, vals.length = f_law_lots.params.length → bindArgs (fdAt (Gl w h₀ fa mg mb).K 384) ⟨vals, []⟩ = pure ((f_law_lots.params.map (Gl w h₀ fa mg mb).nm).zip vals)
  | [_], _ => by kernel_rfl
theorem chk27 : fnChk (Gl w h₀ fa mg mb) 389 f_law_kept = true := by kernel_rfl
theorem bnd27 : ∀ vals : List Value, vals.length = f_law_kept.params.length → bindArgs (fdAt (Gl w h₀ fa mg mb).K 389) ⟨vals, []⟩ = pure ((f_law_kept.params.map (Gl w h₀ fa mg mb).nm).zip vals)
  | [_, _, _], _ => by kernel_rfl
theorem chk28 : fnChk (Gl w h₀ fa mg mb) 396 f_law_struck = true := by kernel_rfl
theorem bnd28 : ∀ vals : List Value, vals.length = f_law_struck.params.length → bindArgs (fdAt (Gl w h₀ fa mg mb).K 396) ⟨vals, []⟩ = pure ((f_law_struck.params.map (Gl w h₀ fa mg mb).nm).zip vals)
  | [_, _, _, _], _ => by kernel_rfl
theorem chk29 : fnChk (Gl w h₀ fa mg mb) 401 f_law_once = true := by kernel_rfl
theorem bnd29 : ∀ vals : List Value, vals.length = f_law_once.params.length → bindArgs (fdAt (Gl w h₀ fa mg mb).K 401) ⟨vals, []⟩ = pure ((f_law_once.params.map (Gl w h₀ fa mg mb).nm).zip vals)
  | [_, _, _], _ => by kernel_rfl
theorem chk30 : fnChk (Gl w h₀ fa mg mb) 406 f_law_answers = true := by kernel_rfl
theorem bnd30 : ∀ vals : List Value, vals.length = f_law_answers.params.length → bindArgs (fdAt (Gl w h₀ fa mg mb).K 406) ⟨vals, []⟩ = pure ((f_law_answers.params.map (Gl w h₀ fa mg mb).nm).zip vals)
  | [_, _, _, _], _ => by kernel_rfl
end
end Mine

end

section
namespace Mine
open PySem PySem.W PyProof.Rows PySem.Calls
set_option Elab.async false
set_option autoImplicit false
set_option maxRecDepth 100000
set_option maxHeartbeats 4000000

theorem names_inj : ((List.range 69).all fun i => (List.range 69).all fun j => decide (i = j) || !(nmT.getD i "x" == nmT.getD j "x")) = true := by kernel_rfl
theorem names_plain : ((List.range 69).all fun i => !(nmT.getD i "x" == ("__classdict__" : Str)) && !(nmT.getD i "x" == ("__debug__" : Str)) && !(nmT.getD i "x" == (".0" : Str))) = true := by kernel_rfl
def attrChk (K : Frag) (C : Addr) (n : Str) : Bool := plainGet K C n && (match findIn K (.ref C) n with
  | some at' => noGet K at'
  | none => false) && (match takerIn K C n with
  | some none => true
  | _ => false)
theorem attrs_ok (P : Params) : ([244, 363].all fun C => [13, 14, 15, 16, 17, 18, 19, 20, 30, 31, 32].all fun n => attrChk (Mine.hd.heap_39 P) C (nmT.getD n "x")) = true := by kernel_rfl
theorem attr_of {K : Frag} {C : Addr} {n : Str} (h : attrChk K C n = true) : plainGet K C n = true ∧ (∃ at', findIn K (.ref C) n = some at' ∧ noGet K at' = true) ∧ takerIn K C n = some none := by
  unfold attrChk at h
  simp only [Bool.and_eq_true] at h
  obtain ⟨⟨h1, h2⟩, h3⟩ := h
  refine ⟨h1, ?_, ?_⟩
  · split at h2
    · rename_i a e; exact ⟨a, e, h2⟩
    · cases h2
  · split at h3
    · assumption
    · cases h3

theorem nfacts (w : World) (h₀ : Heap) (fa : Addr) (mg mb : Str → Option Value) : NFacts (Gl w h₀ fa mg mb) := by
  refine ⟨fun i j hi hj e => ?_, fun i hi => ?_⟩
  · have := List.all_eq_true.mp (List.all_eq_true.mp names_inj i (List.mem_range.mpr hi)) j (List.mem_range.mpr hj)
    rcases Bool.or_eq_true_iff.mp this with h | h
    · exact of_decide_eq_true h
    · have e' : nmT.getD i "x" = nmT.getD j "x" := e
      rw [e'] at h
      simp at h
  · have := List.all_eq_true.mp names_plain i (List.mem_range.mpr hi)
    simp only [Bool.and_eq_true, Bool.not_eq_true'] at this
    exact ⟨this.1.1, this.1.2, this.2⟩

theorem gfacts {w : World} {h₀ : Heap} {fa : Addr} {mg mb : Str → Option Value} (X : (Mine.hd.heap_39 w.params).In h₀) (tg : h₀.Ns mainGlobals mg) (tb : h₀.Ns builtinsNs mb) (nl : h₀.NoLimit)
    (bi : ∀ x : Str, x ≠ "__name__" → mb x = bootBuiltins x) (sy : ∃ o, h₀.get? sysModules = some o) : GF (Gl w h₀ fa mg mb) TB := by
  have cl : ∀ c, (Gl w h₀ fa mg mb).cls c = 244 ∨ (Gl w h₀ fa mg mb).cls c = 363 := fun c => by
    show (if c = 0 then 244 else 363) = 244 ∨ (if c = 0 then 244 else 363) = 363
    split
    · exact .inl rfl
    · exact .inr rfl
  refine { sys := sy, inH := X, inj := (nfacts w h₀ fa mg mb).inj, atG := fun c n hn => ?_, hasD := fun c => ?_, setG := fun c => ?_, mts := fun c n f h => ?_, news := fun c f h => ?_, nf := nfacts w h₀ fa mg mb, nsG := tg, nsB := tb, fnG := fun f hf => ?_, mtK := fun c n f h => ?_, clG := fun c hc => ?_, nolim := nl, bl := fun p hp => ?_ }
  · have hn' : n ∈ [13, 14, 15, 16, 17, 18, 19, 20, 30, 31, 32] := by
      have : [13, 14, 15, 16, 17, 18, 19, 20, 30, 31, 32].contains n = true := hn
      simpa using this
    have hC : (Gl w h₀ fa mg mb).cls c ∈ [244, 363] := by rcases cl c with h | h <;> rw [h] <;> simp
    have := List.all_eq_true.mp (List.all_eq_true.mp (attrs_ok w.params) _ hC) n hn'
    obtain ⟨a, b, d⟩ := attr_of this
    refine ⟨?_, a, b, d⟩
    show n < 69
    simp only [List.mem_cons, List.not_mem_nil, or_false] at hn'
    omega
  · rcases cl c with h | h <;> rw [h] <;> kernel_rfl
  · rcases cl c with h | h <;> rw [h] <;> exact ⟨by kernel_rfl, by kernel_rfl⟩
  · have h' : mtT c n = some f := h
    unfold mtT at h'
    split at h' <;> cases h' <;> exact ⟨by (show _ < 69); decide, by kernel_rfl, by kernel_rfl, by kernel_rfl⟩
  · have h' : iniT c = some f := h
    unfold iniT at h'
    split at h' <;> cases h' <;> exact ⟨by kernel_rfl, by kernel_rfl, by kernel_rfl⟩
  · simp only [glF, List.mem_cons, List.not_mem_nil, or_false] at hf
    rcases hf with rfl | rfl | rfl | rfl | rfl | rfl | rfl | rfl | rfl | rfl | rfl | rfl | rfl | rfl | rfl <;> exact ⟨mg_of X tg (by kernel_rfl), by kernel_rfl⟩
  · have h' : mtT c n = some f := h
    unfold mtT at h'
    split at h' <;> cases h' <;> kernel_rfl
  · have : c = 0 ∨ c = 1 := by omega
    rcases this with rfl | rfl <;> exact ⟨mg_of X tg (by kernel_rfl), by kernel_rfl⟩
  · simp only [blts, List.mem_cons, List.not_mem_nil, or_false] at hp
    rcases hp with rfl | rfl | rfl | rfl | rfl | rfl | rfl | rfl <;> exact ⟨mg_none_of X tg (by kernel_rfl), (bi _ (by decide)).trans (by first | boot_by_name | rfl | kernel_rfl)⟩
end Mine

end

section
namespace Mine
open PySem PySem.W PyProof.Rows PySem.Calls
set_option Elab.async false
set_option autoImplicit false
set_option maxRecDepth 100000
set_option maxHeartbeats 4000000

theorem step_of {G : Glb} {T : Tab} {f : Nat} {fn : Fn} {fd : FuncData} {body : List Stmt} (g : GF G T) (hT : T.fn f = some fn) (fo : FnOk G f fn fd body) : StepOk G T f :=
  fun n c {_ _ _ _ _ _ _ _ _} e rs ok hA k => callFn g fo hT c e rs ok hA k

def isFd (K : Frag) (a : Addr) : Bool := match K.lookup a with
  | some ⟨_, _, .func _, _⟩ => true
  | _ => false
theorem fd_at {K : Frag} {h : Heap} (X : K.In h) {a : Addr} (e : isFd K a = true) : ∃ o, h.get? a = some o ∧ o.data = .func (fdAt K a) := by
  unfold isFd at e
  split at e
  case h_2 => cases e
  rename_i c d fd sl q
  refine ⟨_, X _ _ q, ?_⟩
  unfold fdAt
  rw [q]
def isCellIn (K : Frag) (a D : Addr) : Bool := match K.lookup a with
  | some ⟨_, _, .cell (some (.ref x)), _⟩ => x == D
  | _ => false
theorem cell_at {K : Frag} {h : Heap} (X : K.In h) {a D : Addr} (e : isCellIn K a D = true) : h.IsCell a (some (.ref D)) := by
  unfold isCellIn at e
  split at e
  case h_2 => cases e
  rename_i q
  have := beq_iff_eq.mp e
  subst this
  exact ⟨_, X _ _ q, rfl⟩
theorem cls_at {K : Frag} {h : Heap} (X : K.In h) {D : Addr} (e : (clsIn K D).isSome = true) : ∃ cd, ∃ o, h.get? D = some o ∧ o.data = .cls cd := by
  unfold clsIn at e
  split at e
  · rename_i q; exact ⟨_, _, X _ _ q, rfl⟩
  · cases e
def fileIn (K : Frag) (a : Addr) (file : Str) : Bool := match K.lookup a with
  | some ⟨_, _, .fields vs, _⟩ => (match (vs[2]? : Option Value) with
    | some (Value.str f _) => file == f
    | _ => false)
  | _ => false
theorem file_at {K : Frag} {h : Heap} (X : K.In h) {a : Addr} {fl : Str} (e : fileIn K a fl = true) : ∃ oc vs file tf, h.get? a = some oc ∧ oc.data = .fields vs ∧ vs[2]? = some (.str file tf) ∧ (fl == file) = true := by
  unfold fileIn at e
  split at e
  case h_2 => cases e
  rename_i vs _ q
  split at e
  case h_2 => cases e
  rename_i f t hv
  exact ⟨_, vs, f, t, X _ _ q, rfl, hv, e⟩
structure SupP where
  args : List Expr
  p0 : Pos
  p1 : Pos
  apos : Pos
  pos : Pos
  epos : Pos
def supP (fd : FuncData) : SupP := match fd.body with
  | .stmts [.Expr (.Call (.Attribute (.Call (.Name _ p0) _ _ p1) _ apos) args _ pos) epos] => ⟨args, p0, p1, apos, pos, epos⟩
  | _ => ⟨[], ⟨0, 0, 0, 0⟩, ⟨0, 0, 0, 0⟩, ⟨0, 0, 0, 0⟩, ⟨0, 0, 0, 0⟩, ⟨0, 0, 0, 0⟩⟩
theorem all_prop {α : Type} {l : List α} {p : α → Bool} {P : α → Prop} (h : l.all p = true) (hp : ∀ x, p x = true → P x) : ∀ x ∈ l, P x := fun x hx => hp x (List.all_eq_true.mp h x hx)

def es21 : Exs := .cons (.var 30) (.cons (.str (Str.ofString "bounds")) .nil)
def es22 : Exs := .cons (.op2 .add (.op1 .tuple (.var 33)) (.tup (.cons (.var 34) .nil))) .nil

section
variable {w : World} {h₀ : Heap} {fa : Addr} {mg mb : Str → Option Value} (X : (Mine.hd.heap_39 w.params).In h₀) (tg : h₀.Ns mainGlobals mg) (bi : ∀ x : Str, x ≠ "__name__" → mb x = bootBuiltins x)
include X tg bi
theorem sup21 : ∃ cdD, SupOk (Gl w h₀ fa mg mb) TB 21 20 es21 f_Extreme_init (fdAt (Mine.hd.heap_39 w.params) 306) (supP (fdAt (Mine.hd.heap_39 w.params) 306)).args (supP (fdAt (Mine.hd.heap_39 w.params) 306)).p0 (supP (fdAt (Mine.hd.heap_39 w.params) 306)).p1
    (supP (fdAt (Mine.hd.heap_39 w.params) 306)).apos (supP (fdAt (Mine.hd.heap_39 w.params) 306)).pos (supP (fdAt (Mine.hd.heap_39 w.params) 306)).epos 294 305 323 cdD := by
  obtain ⟨cdD, hD⟩ := cls_at X (D := 323) (by kernel_rfl)
  refine ⟨cdD, ?_⟩
  exact {
    fnE := rfl
    bodyM := rfl
    self := ⟨_, rfl⟩
    selfN := by (show 0 < 69); decide
    at_ := fd_at X (a := 306) (by kernel_rfl)
    co := by kernel_rfl
    gen := by kernel_rfl
    kind := by kernel_rfl
    bodyE := by kernel_rfl
    clos := by kernel_rfl
    glob := by kernel_rfl
    blt := by kernel_rfl
    code := codeRec_of X (by kernel_rfl)
    bind := bnd21 w h₀ fa mg mb
    pars := all_prop (p := fun p => decide (p < 69) && decide ((fdAt (Mine.hd.heap_39 w.params) 306).scope.names.lookup (nmT.getD p "x") = some .local)) (by kernel_rfl) fun x hx => (Bool.and_eq_true_iff.mp hx).imp of_decide_eq_true of_decide_eq_true
    noCell := all_prop (p := fun x => !decide (x.2 = .cell)) (by kernel_rfl) fun x hx => by simpa using hx
    free := all_prop (p := fun x => !decide (x.2 = .free) || x.1 == ("__class__" : Str)) (by kernel_rfl) fun x hx => by simpa [Decidable.imp_iff_not_or] using hx
    first := ⟨((fdAt (Mine.hd.heap_39 w.params) 306).params.args.head?).getD ⟨"x", none, ⟨0, 0, 0, 0⟩⟩, by kernel_rfl, by kernel_rfl⟩
    codeA := by kernel_rfl
    codeO := file_at X (by kernel_rfl)
    cell := cell_at X (by kernel_rfl)
    clsD := hD
    sGl := mg_none_of X tg (by kernel_rfl)
    sBl := (bi _ (by decide)).trans (by first | boot_by_name | rfl | kernel_rfl)
    sKind := by kernel_rfl
    cKind := by kernel_rfl
    top := by kernel_rfl
    mro := by kernel_rfl
    third := by kernel_rfl
    sup := by kernel_rfl
    supT := by kernel_rfl
    supF := by kernel_rfl
    isC := by kernel_rfl
    m := by kernel_rfl
    ne := fun z => by
      have : (supP (fdAt (Mine.hd.heap_39 w.params) 306)).args.isEmpty = false := by kernel_rfl
      rw [z] at this; cases this
    few := by
      have : decide ((supP (fdAt (Mine.hd.heap_39 w.params) 306)).args.length ≤ 20) = true := by kernel_rfl
      exact of_decide_eq_true this
    line := by kernel_rfl }
theorem sup22 : ∃ cdD, SupOk (Gl w h₀ fa mg mb) TB 22 21 es22 f_Greatest_init (fdAt (Mine.hd.heap_39 w.params) 341) (supP (fdAt (Mine.hd.heap_39 w.params) 341)).args (supP (fdAt (Mine.hd.heap_39 w.params) 341)).p0 (supP (fdAt (Mine.hd.heap_39 w.params) 341)).p1
    (supP (fdAt (Mine.hd.heap_39 w.params) 341)).apos (supP (fdAt (Mine.hd.heap_39 w.params) 341)).pos (supP (fdAt (Mine.hd.heap_39 w.params) 341)).epos 329 340 363 cdD := by
  obtain ⟨cdD, hD⟩ := cls_at X (D := 363) (by kernel_rfl)
  refine ⟨cdD, ?_⟩
  exact {
    fnE := rfl
    bodyM := rfl
    self := ⟨_, rfl⟩
    selfN := by (show 0 < 69); decide
    at_ := fd_at X (a := 341) (by kernel_rfl)
    co := by kernel_rfl
    gen := by kernel_rfl
    kind := by kernel_rfl
    bodyE := by kernel_rfl
    clos := by kernel_rfl
    glob := by kernel_rfl
    blt := by kernel_rfl
    code := codeRec_of X (by kernel_rfl)
    bind := bnd22 w h₀ fa mg mb
    pars := all_prop (p := fun p => decide (p < 69) && decide ((fdAt (Mine.hd.heap_39 w.params) 341).scope.names.lookup (nmT.getD p "x") = some .local)) (by kernel_rfl) fun x hx => (Bool.and_eq_true_iff.mp hx).imp of_decide_eq_true of_decide_eq_true
    noCell := all_prop (p := fun x => !decide (x.2 = .cell)) (by kernel_rfl) fun x hx => by simpa using hx
    free := all_prop (p := fun x => !decide (x.2 = .free) || x.1 == ("__class__" : Str)) (by kernel_rfl) fun x hx => by simpa [Decidable.imp_iff_not_or] using hx
    first := ⟨((fdAt (Mine.hd.heap_39 w.params) 341).params.args.head?).getD ⟨"x", none, ⟨0, 0, 0, 0⟩⟩, by kernel_rfl, by kernel_rfl⟩
    codeA := by kernel_rfl
    codeO := file_at X (by kernel_rfl)
    cell := cell_at X (by kernel_rfl)
    clsD := hD
    sGl := mg_none_of X tg (by kernel_rfl)
    sBl := (bi _ (by decide)).trans (by first | boot_by_name | rfl | kernel_rfl)
    sKind := by kernel_rfl
    cKind := by kernel_rfl
    top := by kernel_rfl
    mro := by kernel_rfl
    third := by kernel_rfl
    sup := by kernel_rfl
    supT := by kernel_rfl
    supF := by kernel_rfl
    isC := by kernel_rfl
    m := by kernel_rfl
    ne := fun z => by
      have : (supP (fdAt (Mine.hd.heap_39 w.params) 341)).args.isEmpty = false := by kernel_rfl
      rw [z] at this; cases this
    few := by
      have : decide ((supP (fdAt (Mine.hd.heap_39 w.params) 341)).args.length ≤ 20) = true := by kernel_rfl
      exact of_decide_eq_true this
    line := by kernel_rfl }
end
end Mine

end

section
namespace Mine
open PySem PySem.W PyProof.Rows PySem.Calls
set_option Elab.async false
set_option autoImplicit false
set_option maxRecDepth 100000
set_option maxHeartbeats 4000000

section
variable {w : World} {h₀ : Heap} {fa : Addr} {mg mb : Str → Option Value}
theorem steps (X : (Mine.hd.heap_39 w.params).In h₀) (tg : h₀.Ns mainGlobals mg) (tb : h₀.Ns builtinsNs mb) (nl : h₀.NoLimit)
    (bi : ∀ x : Str, x ≠ "__name__" → mb x = bootBuiltins x) (sy : ∃ o, h₀.get? sysModules = some o) {fd : FuncData} {body : List Stmt} (law : FnOk (Gl w h₀ fa mg mb) 31 f_law fd body) :
    ∀ f fn, TB.fn f = some fn → StepOk (Gl w h₀ fa mg mb) TB f := by
  have g := gfacts (fa := fa) X tg tb nl bi sy
  intro f fn h
  match f, h with
  | 0, h => have z : _ = fn := Option.some.inj h; subst z; exact step_of g rfl (fnOk_of (G := Gl w h₀ fa mg mb) X (chk0 w h₀ fa mg mb) (bnd0 w h₀ fa mg mb))
  | 1, h => have z : _ = fn := Option.some.inj h; subst z; exact step_of g rfl (fnOk_of (G := Gl w h₀ fa mg mb) X (chk1 w h₀ fa mg mb) (bnd1 w h₀ fa mg mb))
  | 2, h => have z : _ = fn := Option.some.inj h; subst z; exact step_of g rfl (fnOk_of (G := Gl w h₀ fa mg mb) X (chk2 w h₀ fa mg mb) (bnd2 w h₀ fa mg mb))
  | 3, h => have z : _ = fn := Option.some.inj h; subst z; exact step_of g rfl (fnOk_of (G := Gl w h₀ fa mg mb) X (chk3 w h₀ fa mg mb) (bnd3 w h₀ fa mg mb))
  | 4, h => have z : _ = fn := Option.some.inj h; subst z; exact step_of g rfl (fnOk_of (G := Gl w h₀ fa mg mb) X (chk4 w h₀ fa mg mb) (bnd4 w h₀ fa mg mb))
  | 5, h => have z : _ = fn := Option.some.inj h; subst z; exact step_of g rfl (fnOk_of (G := Gl w h₀ fa mg mb) X (chk5 w h₀ fa mg mb) (bnd5 w h₀ fa mg mb))
  | 6, h => have z : _ = fn := Option.some.inj h; subst z; exact step_of g rfl (fnOk_of (G := Gl w h₀ fa mg mb) X (chk6 w h₀ fa mg mb) (bnd6 w h₀ fa mg mb))
  | 7, h => have z : _ = fn := Option.some.inj h; subst z; exact step_of g rfl (fnOk_of (G := Gl w h₀ fa mg mb) X (chk7 w h₀ fa mg mb) (bnd7 w h₀ fa mg mb))
  | 8, h => have z : _ = fn := Option.some.inj h; subst z; exact step_of g rfl (fnOk_of (G := Gl w h₀ fa mg mb) X (chk8 w h₀ fa mg mb) (bnd8 w h₀ fa mg mb))
  | 9, h => have z : _ = fn := Option.some.inj h; subst z; exact step_of g rfl (fnOk_of (G := Gl w h₀ fa mg mb) X (chk9 w h₀ fa mg mb) (bnd9 w h₀ fa mg mb))
  | 10, h => have z : _ = fn := Option.some.inj h; subst z; exact step_of g rfl (fnOk_of (G := Gl w h₀ fa mg mb) X (chk10 w h₀ fa mg mb) (bnd10 w h₀ fa mg mb))
  | 11, h => have z : _ = fn := Option.some.inj h; subst z; exact step_of g rfl (fnOk_of (G := Gl w h₀ fa mg mb) X (chk11 w h₀ fa mg mb) (bnd11 w h₀ fa mg mb))
  | 12, h => have z : _ = fn := Option.some.inj h; subst z; exact step_of g rfl (fnOk_of (G := Gl w h₀ fa mg mb) X (chk12 w h₀ fa mg mb) (bnd12 w h₀ fa mg mb))
  | 13, h => have z : _ = fn := Option.some.inj h; subst z; exact step_of g rfl (fnOk_of (G := Gl w h₀ fa mg mb) X (chk13 w h₀ fa mg mb) (bnd13 w h₀ fa mg mb))
  | 14, h => have z : _ = fn := Option.some.inj h; subst z; exact step_of g rfl (fnOk_of (G := Gl w h₀ fa mg mb) X (chk14 w h₀ fa mg mb) (bnd14 w h₀ fa mg mb))
  | 15, h => have z : _ = fn := Option.some.inj h; subst z; exact step_of g rfl (fnOk_of (G := Gl w h₀ fa mg mb) X (chk15 w h₀ fa mg mb) (bnd15 w h₀ fa mg mb))
  | 16, h => have z : _ = fn := Option.some.inj h; subst z; exact step_of g rfl (fnOk_of (G := Gl w h₀ fa mg mb) X (chk16 w h₀ fa mg mb) (bnd16 w h₀ fa mg mb))
  | 17, h => have z : _ = fn := Option.some.inj h; subst z; exact step_of g rfl (fnOk_of (G := Gl w h₀ fa mg mb) X (chk17 w h₀ fa mg mb) (bnd17 w h₀ fa mg mb))
  | 18, h => have z : _ = fn := Option.some.inj h; subst z; exact step_of g rfl (fnOk_of (G := Gl w h₀ fa mg mb) X (chk18 w h₀ fa mg mb) (bnd18 w h₀ fa mg mb))
  | 19, h => have z : _ = fn := Option.some.inj h; subst z; exact step_of g rfl (fnOk_of (G := Gl w h₀ fa mg mb) X (chk19 w h₀ fa mg mb) (bnd19 w h₀ fa mg mb))
  | 20, h => have z : _ = fn := Option.some.inj h; subst z; exact step_of g rfl (fnOk_of (G := Gl w h₀ fa mg mb) X (chk20 w h₀ fa mg mb) (bnd20 w h₀ fa mg mb))
  | 23, h => have z : _ = fn := Option.some.inj h; subst z; exact step_of g rfl (fnOk_of (G := Gl w h₀ fa mg mb) X (chk23 w h₀ fa mg mb) (bnd23 w h₀ fa mg mb))
  | 24, h => have z : _ = fn := Option.some.inj h; subst z; exact step_of g rfl (fnOk_of (G := Gl w h₀ fa mg mb) X (chk24 w h₀ fa mg mb) (bnd24 w h₀ fa mg mb))
  | 25, h => have z : _ = fn := Option.some.inj h; subst z; exact step_of g rfl (fnOk_of (G := Gl w h₀ fa mg mb) X (chk25 w h₀ fa mg mb) (bnd25 w h₀ fa mg mb))
  | 26, h => have z : _ = fn := Option.some.inj h; subst z; exact step_of g rfl (fnOk_of (G := Gl w h₀ fa mg mb) X (chk26 w h₀ fa mg mb) (bnd26 w h₀ fa mg mb))
  | 27, h => have z : _ = fn := Option.some.inj h; subst z; exact step_of g rfl (fnOk_of (G := Gl w h₀ fa mg mb) X (chk27 w h₀ fa mg mb) (bnd27 w h₀ fa mg mb))
  | 28, h => have z : _ = fn := Option.some.inj h; subst z; exact step_of g rfl (fnOk_of (G := Gl w h₀ fa mg mb) X (chk28 w h₀ fa mg mb) (bnd28 w h₀ fa mg mb))
  | 29, h => have z : _ = fn := Option.some.inj h; subst z; exact step_of g rfl (fnOk_of (G := Gl w h₀ fa mg mb) X (chk29 w h₀ fa mg mb) (bnd29 w h₀ fa mg mb))
  | 30, h => have z : _ = fn := Option.some.inj h; subst z; exact step_of g rfl (fnOk_of (G := Gl w h₀ fa mg mb) X (chk30 w h₀ fa mg mb) (bnd30 w h₀ fa mg mb))
  | 21, h => obtain ⟨_, s⟩ := sup21 (fa := fa) X tg bi; exact supStep g s
  | 22, h => obtain ⟨_, s⟩ := sup22 (fa := fa) X tg bi; exact supStep g s
  | 31, h => exact step_of g rfl law
  | n + 32, h => exact nomatch h

theorem ints_rv {h : Heap} {a : Addr} {vs : List Value} {ns : List Int} (hL : h.IsList a vs.toArray) (hI : IntsAre vs ns) : RV h [] (.lst (ns.map V.int)) (.ref a) := by
  refine .lst hL (by simp) ?_
  clear hL
  induction hI with
  | nil => exact .nil
  | cons n t _ ih => exact .cons (.int n t) ih

theorem ok_nil (g : GF (Gl w h₀ fa mg mb) TB) : Ok (Gl w h₀ fa mg mb) [] [] h₀ := ⟨rfl, by simp, (fun _ h => nomatch h), fun _ _ e => e, (fun _ _ e => nomatch e)⟩

theorem joined (X : (Mine.hd.heap_39 w.params).In h₀) (tg : h₀.Ns mainGlobals mg) (tb : h₀.Ns builtinsNs mb) (nl : h₀.NoLimit)
    (bi : ∀ x : Str, x ≠ "__name__" → mb x = bootBuiltins x) (sy : ∃ o, h₀.get? sysModules = some o) {fd : FuncData} {body : List Stmt} (law : FnOk (Gl w h₀ fa mg mb) 31 f_law fd body)
    {a : Addr} {vs : List Value} {ns : List Int} (hL : h₀.IsList a vs.toArray) (hI : IntsAre vs ns) {n : Nat} {σ' : Hp} (hn : n ≤ 100) (hr : run TB n 31 [.lst (ns.map V.int)] [] = some (.bool true, σ'))
    {A : Around} (hA1 : A.handled = none) (hA2 : A.depth ≤ 310) (hA3 : A.units ≤ 100) {s : Shared} (hs : s.heap = h₀) {R : Result → Shared → Prop}
    (hR : ∀ h tk, (∀ b o, h₀.get? b = some o → h.get? b = some o) → R (.ok (.ret (.bool true))) { s with heap := h, toks := tk }) :
    codeAny (model PySem.Challenge.rw_pc0034_01.row.prog w) A (.call (.ref fa) ⟨[.ref a], []⟩) R s := by
  subst hs
  have g := gfacts (fa := fa) X tg tb nl bi sy
  have c : CallOk (Gl w s.heap fa mg mb) (orc TB n) n := callAll (steps X tg tb nl bi sy law) n
  refine c (f := 31) (adr := []) (σ := []) hr (.cons (ints_rv hL hI) .nil) (ok_nil g) ⟨hA1, by omega, by omega⟩ fun adr' v s' p r => ?_
  cases r
  obtain ⟨⟨h, tk, rfl⟩, e, _⟩ := p
  exact hR h tk fun b o q => e.keep b o q (by simp)
end
end Mine

end

section
namespace Mine
open PySem
set_option Elab.async false
set_option autoImplicit false

/-- a span and a domain, as values -/
def spV (p : Int × Int) : V := .tup [.int p.1, .int p.2]
def doV (d : List (Int × Int)) : V := .tup (d.map spV)
def liV (l : List Int) : V := .lst (l.map .int)

section
variable {C : Orc} {ρ : Ev} {σ : Hp}
theorem ev_none : ev C .none ρ σ = some (.none, σ) := by simp only [ev]
theorem ev_bool {b : Bool} : ev C (.bool b) ρ σ = some (.bool b, σ) := by simp only [ev]
theorem ev_int {i : Int} : ev C (.int i) ρ σ = some (.int i, σ) := by simp only [ev]
theorem ev_str {x : Str} : ev C (.str x) ρ σ = some (.str x, σ) := by simp only [ev]
theorem ev_var {x : Nat} : ev C (.var x) ρ σ = (ρ x).map fun v => (v, σ) := by simp only [ev]
theorem ev_tup {es : Exs} : ev C (.tup es) ρ σ = (evs C es ρ σ).map fun r => (.tup r.1, r.2) := by simp only [ev]
theorem ev_lstF {es : Exs} : ev C (.lstF es) ρ σ = (evs C es ρ σ).map fun r => (.lst r.1, r.2) := by simp only [ev]
theorem ev_lstM : ev C .lstM ρ σ = some (.ref σ.length, σ ++ [.list []]) := by simp only [ev]
theorem ev_dict0 : ev C .dict0 ρ σ = some (.ref σ.length, σ ++ [.dictI []]) := by simp only [ev]
theorem ev_dictS {ks : List Str} {es : Exs} : ev C (.dictS ks es) ρ σ = (evs C es ρ σ).map fun r => (.ref r.2.length, r.2 ++ [.dictS (ks.zip r.1)]) := by simp only [ev]
theorem ev_op1 {o : O1} {a : Ex} : ev C (.op1 o a) ρ σ = (ev C a ρ σ).bind fun r => o1 o r.1 r.2 := by simp only [ev]
theorem ev_op2 {o : O2} {a b : Ex} : ev C (.op2 o a b) ρ σ = (ev C a ρ σ).bind fun r => match pre2 o r.1 r.2 with
    | true => (ev C b ρ r.2).bind fun q => o2 o r.1 q.1 q.2
    | false => none := by simp only [ev] <;> rfl
theorem ev_and2 {a b : Ex} : ev C (.and2 a b) ρ σ = (ev C a ρ σ).bind fun r => match r.1 with
    | .bool true => ev C b ρ r.2
    | .bool false => some (.bool false, r.2)
    | _ => none := by simp only [ev] <;> rfl
theorem ev_ite {c : Cn} {a b : Ex} : ev C (.ite c a b) ρ σ = (evc C c ρ σ).bind fun r => match r.1 with
    | true => ev C a ρ r.2
    | false => ev C b ρ r.2 := by simp only [ev] <;> rfl
theorem ev_attr {a : Ex} {n : Nat} : ev C (.attr a n) ρ σ = (ev C a ρ σ).bind fun r => (attrOf r.1 n r.2).map fun v => (v, r.2) := by simp only [ev]
theorem ev_call {f : Nat} {es : Exs} : ev C (.call f es) ρ σ = (evs C es ρ σ).bind fun r => C.call f r.1 r.2 := by simp only [ev]
theorem ev_meth {a : Ex} {n : Nat} {es : Exs} {i c d f : Nat} {as : List (Nat × V)} {σ₁ : Hp} (h1 : ev C a ρ σ = some (.ref i, σ₁)) (h2 : σ₁[i]? = some (.inst c d)) (h3 : σ₁[d]? = some (.attrs as)) (h4 : C.mt c n = some f) (h5 : getK n as = none) :
    ev C (.meth a n es) ρ σ = (evs C es ρ σ₁).bind fun q => C.call f (.ref i :: q.1) q.2 := by simp only [ev, h1, Option.bind_some, h2, h3, h4, h5]
theorem evs_nil : evs C .nil ρ σ = some ([], σ) := by simp only [evs]
theorem evs_cons {e : Ex} {es : Exs} : evs C (.cons e es) ρ σ = (ev C e ρ σ).bind fun r => (evs C es ρ r.2).map fun q => (r.1 :: q.1, q.2) := by simp only [evs]

noncomputable def turnI (C : Orc) (ls : List Nat) (elt : Ex) (t : Tg) (ifs : Cns) (rest : Gens) (ρ : Ev) (n : Nat) (x : V) (σ' : Hp) : Option Hp :=
  (bindTg t x (drops ls ρ)).bind fun ρ' => (evca C ifs ρ' σ').bind fun b => match b.1 with
    | true => evg C rest (fun ρ'' σ'' => (ev C elt ρ'' σ'').bind fun y => emit1 n y.1 y.2) ρ' b.2
    | false => some b.2
/-- a comprehension whose turns leave the own heap as it is -/
theorem ev_comp {ls : List Nat} {elt it : Ex} {t : Tg} {ifs : Cns} {rest : Gens} {X : V} {l : List V} {σ₁ : Hp} (f : V → List V)
    (h1 : ev C it ρ σ = some (X, σ₁)) (h2 : itemsI X = some l)
    (step : ∀ x ∈ l, ∀ acc : List V, acc.length ≤ lim → ∃ ρ' b, bindTg t x (drops ls ρ) = some ρ' ∧ evca C ifs ρ' (σ₁ ++ [.list acc]) = some (b, σ₁ ++ [.list acc]) ∧
      (b = true → acc.length + (f x).length ≤ lim → evg C rest (fun ρ'' σ'' => (ev C elt ρ'' σ'').bind fun y => emit1 σ₁.length y.1 y.2) ρ' (σ₁ ++ [.list acc]) = some (σ₁ ++ [.list (acc ++ f x)])) ∧ (b = false → f x = []))
    (hok : ∀ y ∈ l.flatMap f, okD 20 y = true) (hlen : (l.flatMap f).length ≤ lim) : ev C (.comp ls elt t it ifs rest) ρ σ = some (.lst (l.flatMap f), σ₁) := by
  have key : ∀ (l : List V) (acc : List V), (∀ x ∈ l, ∀ acc : List V, acc.length ≤ lim → ∃ ρ' b, bindTg t x (drops ls ρ) = some ρ' ∧ evca C ifs ρ' (σ₁ ++ [.list acc]) = some (b, σ₁ ++ [.list acc]) ∧
      (b = true → acc.length + (f x).length ≤ lim → evg C rest (fun ρ'' σ'' => (ev C elt ρ'' σ'').bind fun y => emit1 σ₁.length y.1 y.2) ρ' (σ₁ ++ [.list acc]) = some (σ₁ ++ [.list (acc ++ f x)])) ∧ (b = false → f x = [])) →
      acc.length + (l.flatMap f).length ≤ lim → loopI (turnI C ls elt t ifs rest ρ σ₁.length) l (σ₁ ++ [.list acc]) = some (σ₁ ++ [.list (acc ++ l.flatMap f)]) := by
    intro l
    induction l with
    | nil => intro acc _ _; simp [loopI]
    | cons x l ih =>
      intro acc hs hl
      rw [List.flatMap_cons, List.length_append] at hl
      obtain ⟨ρ', b, e1, e2, e3, e4⟩ := hs x List.mem_cons_self acc (by omega)
      unfold loopI
      have ht : turnI C ls elt t ifs rest ρ σ₁.length x (σ₁ ++ [.list acc]) = some (σ₁ ++ [.list (acc ++ f x)]) := by
        unfold turnI
        rw [e1, Option.bind_some, e2, Option.bind_some]
        cases b with
        | true => exact e3 rfl (by omega)
        | false => dsimp only; rw [e4 rfl, List.append_nil]
      rw [ht, Option.bind_some, ih _ (fun y hy => hs y (List.mem_cons_of_mem _ hy)) (by rw [List.length_append]; omega), List.flatMap_cons, List.append_assoc]
  simp only [ev]
  rw [h1, Option.bind_some]
  dsimp only
  rw [h2, Option.bind_some]
  show (loopI (turnI C ls elt t ifs rest ρ σ₁.length) l (σ₁ ++ [.list []])).bind (fun q => sealC σ₁ q) = _
  rw [key l [] step (by simpa using hlen), Option.bind_some, List.nil_append]
  unfold sealC
  have : (σ₁ ++ [MO.list (l.flatMap f)])[σ₁.length]? = some (.list (l.flatMap f)) := by simp
  rw [this]
  dsimp only
  rw [if_pos ⟨List.all_eq_true.mpr hok, hlen, rfl⟩]

theorem evg_nil {elt : Ex} {σ₁ : Hp} {acc : List V} {y : V} (h : ev C elt ρ (σ₁ ++ [.list acc]) = some (y, σ₁ ++ [.list acc])) (hl : acc.length ≤ lim) :
    evg C .nil (fun ρ'' σ'' => (ev C elt ρ'' σ'').bind fun y => emit1 σ₁.length y.1 y.2) ρ (σ₁ ++ [.list acc]) = some (σ₁ ++ [.list (acc ++ [y])]) := by
  simp only [evg]
  rw [h, Option.bind_some]
  unfold emit1
  have : (σ₁ ++ [MO.list acc])[σ₁.length]? = some (.list acc) := by simp
  dsimp only
  rw [this]
  dsimp only
  rw [if_pos hl]
  simp

/-- one generator, a filter and a map -/
theorem ev_comp1 {ls : List Nat} {elt it : Ex} {t : Tg} {ifs : Cns} {X : V} {l : List V} {σ₁ : Hp} (p : V → Bool) (f : V → V)
    (h1 : ev C it ρ σ = some (X, σ₁)) (h2 : itemsI X = some l)
    (step : ∀ x ∈ l, ∀ acc : List V, ∃ ρ', bindTg t x (drops ls ρ) = some ρ' ∧ evca C ifs ρ' (σ₁ ++ [.list acc]) = some (p x, σ₁ ++ [.list acc]) ∧ (p x = true → ev C elt ρ' (σ₁ ++ [.list acc]) = some (f x, σ₁ ++ [.list acc])))
    (hok : ∀ x ∈ l, p x = true → okD 20 (f x) = true) (hlen : l.length < lim) : ev C (.comp ls elt t it ifs .nil) ρ σ = some (.lst ((l.filter p).map f), σ₁) := by
  have e : ∀ l : List V, l.flatMap (fun x => if p x = true then [f x] else []) = (l.filter p).map f := by
    intro l
    induction l with
    | nil => rfl
    | cons x l ih =>
      rw [List.flatMap_cons, ih, List.filter_cons]
      split <;> simp
  have hl : ((l.filter p).map f).length ≤ lim := by
    rw [List.length_map]
    have := List.length_filter_le p l
    omega
  rw [← e] at hl ⊢
  refine ev_comp _ h1 h2 (fun x hx acc ha => ?_) (fun y hy => ?_) hl
  · obtain ⟨ρ', e1, e2, e3⟩ := step x hx acc
    refine ⟨ρ', p x, e1, e2, fun hp _ => ?_, fun hp => by rw [if_neg (by rw [hp]; decide)]⟩
    rw [if_pos hp]
    exact evg_nil (e3 hp) ha
  · rw [e] at hy
    obtain ⟨x, hx, rfl⟩ := List.mem_map.mp hy
    obtain ⟨h1, h2⟩ := List.mem_filter.mp hx
    exact hok x h1 h2
end
end Mine

end

section
namespace Mine
open PySem
set_option Elab.async false
set_option autoImplicit false

def upTo (d : List (Int × Int)) (k : Int) : List (Int × Int) := (d.filter fun p => decide (p.1 ≤ k)).map fun p => (p.1, min p.2 k)
def fromOn (d : List (Int × Int)) (k : Int) : List (Int × Int) := (d.filter fun p => decide (k ≤ p.2)).map fun p => (max p.1 k, p.2)

/-- one more value behind the spans -/
def addS (acc : List (Int × Int)) (v : Int) : List (Int × Int) := match acc.getLast? with
  | some p => if p.2 = v - 1 then acc.dropLast ++ [(p.1, v)] else acc ++ [(v, v)]
  | none => [(v, v)]
def spans (l : List Int) : List (Int × Int) := l.foldl addS []
theorem spans_snoc (l : List Int) (v : Int) : spans (l ++ [v]) = addS (spans l) v := by unfold spans; rw [List.foldl_append]; rfl
theorem addS_nil (v : Int) : addS [] v = [(v, v)] := rfl
theorem addS_snoc (i : List (Int × Int)) (p : Int × Int) (v : Int) : addS (i ++ [p]) v = if p.2 = v - 1 then i ++ [(p.1, v)] else i ++ [p] ++ [(v, v)] := by
  unfold addS
  simp
/-- strictly rising -/
def Up (l : List Int) : Prop := l.Pairwise (· < ·)
theorem Up.snoc {l : List Int} {v : Int} (h : Up (l ++ [v])) : Up l ∧ ∀ x ∈ l, x < v := by
  unfold Up at h ⊢
  rw [List.pairwise_append] at h
  exact ⟨h.1, fun x hx => h.2.2 x hx v (by simp)⟩
theorem snoc_cases {α : Type} (l : List α) : l = [] ∨ ∃ i a, l = i ++ [a] := by
  rcases List.eq_nil_or_concat l with h | ⟨i, a, h⟩
  · exact .inl h
  · exact .inr ⟨i, a, by simpa using h⟩
theorem snoc_ind {α : Type} {P : List α → Prop} (h0 : P []) (h1 : ∀ l a, P l → P (l ++ [a])) : ∀ l, P l := by
  intro l
  have : ∀ n (l : List α), l.length = n → P l := by
    intro n
    induction n with
    | zero => intro l h; rw [List.length_eq_zero_iff.mp h]; exact h0
    | succ n ih =>
      intro l h
      rcases snoc_cases l with rfl | ⟨i, a, rfl⟩
      · cases h
      · exact h1 i a (ih i (by simpa using h))
  exact this _ l rfl

theorem spans_last (l : List Int) (v : Int) : ∃ j a, spans (l ++ [v]) = j ++ [(a, v)] := by
  rw [spans_snoc]
  rcases snoc_cases (spans l) with h | ⟨i, p, h⟩
  · rw [h]; exact ⟨[], v, rfl⟩
  · rw [h, addS_snoc]
    split
    · exact ⟨i, p.1, rfl⟩
    · exact ⟨i ++ [p], v, rfl⟩
theorem spans_mem : ∀ l : List Int, ∀ p ∈ spans l, p.1 ≤ p.2 ∧ p.1 ∈ l ∧ p.2 ∈ l := by
  refine snoc_ind ?_ ?_
  · intro p h; cases h
  · intro l v ih p hp
    rw [spans_snoc] at hp
    rcases snoc_cases (spans l) with h | ⟨i, q, h⟩
    · rw [h, addS_nil] at hp
      rw [List.mem_singleton.mp hp]
      simp
    · rw [h, addS_snoc] at hp
      rw [h] at ih
      have hq := ih q (by simp)
      split at hp
      · rcases List.mem_append.mp hp with hp | hp
        · obtain ⟨a, b, c⟩ := ih p (List.mem_append_left _ hp)
          exact ⟨a, List.mem_append_left _ b, List.mem_append_left _ c⟩
        · rw [List.mem_singleton.mp hp]
          refine ⟨?_, List.mem_append_left _ hq.2.1, by simp⟩
          show q.1 ≤ v
          have := hq.1
          omega
      · rcases List.mem_append.mp hp with hp | hp
        · obtain ⟨a, b, c⟩ := ih p hp
          exact ⟨a, List.mem_append_left _ b, List.mem_append_left _ c⟩
        · rw [List.mem_singleton.mp hp]
          simp
theorem spans_nil {l : List Int} : spans l = [] ↔ l = [] := by
  constructor
  · intro h
    rcases snoc_cases l with rfl | ⟨i, v, rfl⟩
    · rfl
    · obtain ⟨j, a, e⟩ := spans_last i v
      rw [h] at e
      simp at e
  · rintro rfl; rfl
theorem upTo_id {d : List (Int × Int)} {k : Int} (h : ∀ p ∈ d, p.1 ≤ p.2 ∧ p.2 ≤ k) : upTo d k = d := by
  induction d with
  | nil => rfl
  | cons p d ih =>
    have hp := h p List.mem_cons_self
    have := ih fun q hq => h q (List.mem_cons_of_mem _ hq)
    unfold upTo at this ⊢
    rw [List.filter_cons, if_pos (by simp; omega), List.map_cons, this]
    have e : min p.2 k = p.2 := by omega
    rw [e]
theorem upTo_append (d e : List (Int × Int)) (k : Int) : upTo (d ++ e) k = upTo d k ++ upTo e k := by unfold upTo; rw [List.filter_append, List.map_append]
theorem fromOn_append (d e : List (Int × Int)) (k : Int) : fromOn (d ++ e) k = fromOn d k ++ fromOn e k := by unfold fromOn; rw [List.filter_append, List.map_append]
theorem fromOn_none {d : List (Int × Int)} {k : Int} (h : ∀ p ∈ d, p.2 < k) : fromOn d k = [] := by
  unfold fromOn
  rw [List.filter_eq_nil_iff.mpr]
  · rfl
  · intro p hp
    have := h p hp
    simp; omega

theorem upTo_spans (k : Int) : ∀ l : List Int, Up l → upTo (spans l) k = spans (l.filter fun v => decide (v ≤ k)) := by
  refine snoc_ind (fun _ => rfl) ?_
  intro l v ih hu
  obtain ⟨hl, hlt⟩ := hu.snoc
  rw [List.filter_append]
  by_cases hv : v ≤ k
  · have e1 : l.filter (fun v => decide (v ≤ k)) = l := List.filter_eq_self.mpr fun x hx => by have := hlt x hx; simp; omega
    have e2 : [v].filter (fun v => decide (v ≤ k)) = [v] := by simp [hv]
    rw [e1, e2]
    refine upTo_id fun p hp => ?_
    obtain ⟨a, b, c⟩ := spans_mem _ p hp
    refine ⟨a, ?_⟩
    rcases List.mem_append.mp c with c | c
    · have := hlt _ c; omega
    · rw [List.mem_singleton.mp c]; exact hv
  · have e2 : [v].filter (fun v => decide (v ≤ k)) = [] := by simp; omega
    rw [e2, List.append_nil, ← ih hl, spans_snoc]
    rcases snoc_cases (spans l) with h | ⟨i, q, h⟩
    · rw [h]
      unfold upTo
      rw [addS_nil, List.filter_cons, if_neg (by simp; omega)]
    · rw [h, addS_snoc]
      split
      · rename_i e
        rw [upTo_append, upTo_append]
        congr 1
        unfold upTo
        simp only [List.filter_cons, List.filter_nil]
        split
        · simp; omega
        · rfl
      · rw [upTo_append (i ++ [q])]
        have : upTo [(v, v)] k = [] := by
          unfold upTo
          rw [List.filter_cons, if_neg (by simp; omega)]
          rfl
        rw [this, List.append_nil]

theorem fromOn_spans (k : Int) : ∀ l : List Int, Up l → fromOn (spans l) k = spans (l.filter fun v => decide (k ≤ v)) := by
  refine snoc_ind (fun _ => rfl) ?_
  intro l v ih hu
  obtain ⟨hl, hlt⟩ := hu.snoc
  rw [List.filter_append]
  by_cases hv : k ≤ v
  · have e2 : [v].filter (fun v => decide (k ≤ v)) = [v] := by simp [hv]
    rw [e2, spans_snoc, spans_snoc, ← ih hl]
    have one : ∀ a b : Int, k ≤ b → fromOn [(a, b)] k = [(max a k, b)] := fun a b h => by
      unfold fromOn
      rw [List.filter_cons, if_pos (by simpa using h)]
      rfl
    rcases snoc_cases (spans l) with h | ⟨i, q, h⟩
    · rw [h, addS_nil, one v v hv]
      have : max v k = v := by omega
      rw [this]
      rfl
    · have hmem := spans_mem l
      rw [h] at hmem
      have hq := hmem q (by simp)
      have hqv := hlt _ hq.2.2
      rw [h, addS_snoc, fromOn_append i [q]]
      by_cases hqk : k ≤ q.2
      · have e3 : fromOn [q] k = [(max q.1 k, q.2)] := one q.1 q.2 hqk
        rw [e3, addS_snoc]
        split
        · rw [fromOn_append, one _ _ hv]
        · rw [fromOn_append, fromOn_append, e3, one v v hv]
          have : max v k = v := by omega
          rw [this]
      · have hall : fromOn (i ++ [q]) k = [] := by
          refine fromOn_none fun p hp => ?_
          obtain ⟨_, _, c⟩ := hmem p hp
          -- every value of l is at most the last one
          have hle : ∀ x ∈ l, x ≤ q.2 := by
            rcases snoc_cases l with rfl | ⟨l', y, rfl⟩
            · intro x hx; cases hx
            · obtain ⟨j, a, e⟩ := spans_last l' y
              rw [h] at e
              have := List.append_inj' e rfl
              have hy : q = (a, y) := by simpa using this.2
              intro x hx
              have : q.2 = y := by rw [hy]
              rcases List.mem_append.mp hx with hx | hx
              · have := hl.snoc.2 x hx; omega
              · rw [List.mem_singleton.mp hx]; omega
          have := hle _ c
          omega
        have h2 := hall
        rw [fromOn_append] at h2
        rw [h2, addS_nil]
        split
        · rename_i e
          rw [fromOn_append, one _ _ hv]
          have h3 : fromOn i k = [] := (List.append_eq_nil_iff.mp h2).1
          rw [h3]
          have : max q.1 k = v := by have := hq.1; omega
          simp [this]
        · rw [fromOn_append, hall, one v v hv]
          have : max v k = v := by omega
          rw [this]
          rfl
  · have e2 : [v].filter (fun v => decide (k ≤ v)) = [] := by simp; omega
    have e1 : l.filter (fun v => decide (k ≤ v)) = [] := List.filter_eq_nil_iff.mpr fun x hx => by have := hlt x hx; simp; omega
    rw [e1, e2]
    refine fromOn_none fun p hp => ?_
    obtain ⟨_, _, c⟩ := spans_mem _ p hp
    rcases List.mem_append.mp c with c | c
    · have := hlt _ c; omega
    · rw [List.mem_singleton.mp c]; omega

def iR (a b : Int) : List Int := (List.range (b - a).toNat).map fun (i : Nat) => a + (i : Int)
theorem iR_succ {a v : Int} (h : a ≤ v) : iR a (v + 1) = iR a v ++ [v] := by
  unfold iR
  have : (v + 1 - a).toNat = (v - a).toNat + 1 := by omega
  rw [this, List.range_succ, List.map_append, List.map_cons, List.map_nil]
  congr 2
  omega
theorem spans_flat : ∀ l : List Int, Up l → (spans l).flatMap (fun p => iR p.1 (p.2 + 1)) = l := by
  refine snoc_ind (fun _ => rfl) ?_
  intro l v ih hu
  obtain ⟨hl, hlt⟩ := hu.snoc
  have ih := ih hl
  have self : iR v (v + 1) = [v] := by
    rw [iR_succ (Int.le_refl v)]
    unfold iR
    simp
  rw [spans_snoc]
  rcases snoc_cases (spans l) with h | ⟨i, q, h⟩
  · rw [h] at ih ⊢
    rw [addS_nil]
    simp only [List.flatMap_cons, List.flatMap_nil, List.append_nil] at ih ⊢
    rw [self, ← ih]
    rfl
  · rw [h] at ih ⊢
    have hq := spans_mem l q (by rw [h]; simp)
    rw [addS_snoc]
    split
    · rename_i e
      rw [List.flatMap_append] at ih ⊢
      simp only [List.flatMap_cons, List.flatMap_nil, List.append_nil] at ih ⊢
      have e1 : q.2 + 1 = v := by omega
      rw [e1] at ih
      rw [iR_succ (by omega), ← List.append_assoc, ih]
    · rw [List.flatMap_append, ih]
      simp [self]
theorem spans_inj {l m : List Int} (hl : Up l) (hm : Up m) (h : spans l = spans m) : l = m := by rw [← spans_flat l hl, ← spans_flat m hm, h]
theorem spans_head (x : Int) : ∀ l : List Int, ∃ b r, spans (x :: l) = (x, b) :: r := by
  refine snoc_ind ⟨x, [], rfl⟩ ?_
  rintro l v ⟨b, r, h⟩
  rw [← List.cons_append, spans_snoc, h]
  rcases snoc_cases r with rfl | ⟨i, q, rfl⟩
  · have := addS_snoc [] (x, b) v
    rw [List.nil_append] at this
    rw [this]
    split
    · exact ⟨v, [], rfl⟩
    · exact ⟨b, [(v, v)], rfl⟩
  · rw [← List.cons_append, addS_snoc]
    split
    · exact ⟨b, i ++ [(q.1, v)], by simp⟩
    · exact ⟨b, i ++ [q] ++ [(v, v)], by simp⟩
theorem Up.filter {l : List Int} (h : Up l) (p : Int → Bool) : Up (l.filter p) := List.Pairwise.filter _ h
theorem min_up {x : Int} : ∀ {l : List Int}, Up (x :: l) → l.foldl min x = x := by
  intro l h
  have hx : ∀ y ∈ l, x < y := (List.pairwise_cons.mp h).1
  clear h
  induction l with
  | nil => rfl
  | cons y l ih =>
    have := hx y List.mem_cons_self
    have e : min x y = x := by omega
    rw [List.foldl_cons, e]
    exact ih fun z hz => hx z (List.mem_cons_of_mem _ hz)
theorem max_up : ∀ {l : List Int} {x v : Int}, (∀ y ∈ x :: l, y ≤ v) → v ∈ x :: l → l.foldl max x = v := by
  intro l
  induction l with
  | nil => intro x v h1 h2; rw [List.mem_singleton.mp h2]; rfl
  | cons y l ih =>
    intro x v h1 h2
    rw [List.foldl_cons]
    refine ih (fun z hz => ?_) ?_
    · rcases List.mem_cons.mp hz with rfl | hz
      · have a := h1 x List.mem_cons_self
        have b := h1 y (by simp)
        omega
      · exact h1 z (by simp [hz])
    · rcases List.mem_cons.mp h2 with rfl | h2
      · have b := h1 y (by simp)
        have : max v y = v := by omega
        rw [this]; exact List.mem_cons_self
      · rcases List.mem_cons.mp h2 with rfl | h2
        · have b := h1 x (by simp)
          have : max x v = v := by omega
          rw [this]; exact List.mem_cons_self
        · exact List.mem_cons_of_mem _ h2
end Mine

end

section
namespace Mine
open PySem
set_option Elab.async false
set_option autoImplicit false

noncomputable def oB (n : Nat) : Orc := ⟨run TB n, mtT, iniT, 0⟩
def retF (r : Fl × Ev × Hp) : Option (V × Hp) := match r.1 with
  | .ret v => some (v, r.2.2)
  | .nxt => some (.none, r.2.2)
  | .brk => none
theorem run_eq {n f : Nat} {fn : Fn} {args : List V} {σ : Hp} (h : fnT[f]? = some fn) (hl : fn.params.length = args.length) : run TB (n + 1) f args σ = (exs (oB n) fn.body (updL fn.params args fun _ => none) σ).bind retF := by
  have h' : TB.fn f = some fn := h
  unfold run
  rw [h']
  dsimp only
  rw [if_pos hl]
  rfl

section
variable {C : Orc} {ρ ρ' : Ev} {σ σ' σ'' : Hp}
theorem exs_nil : exs C .nil ρ σ = some (.nxt, ρ, σ) := by simp only [exs]
theorem exs_nxt {s : St} {ss : Sts} (h : exe C s ρ σ = some (.nxt, ρ', σ')) : exs C (.cons s ss) ρ σ = exs C ss ρ' σ' := by simp only [exs, h, Option.bind_some]
theorem exs_ret {s : St} {ss : Sts} {v : V} (h : exe C s ρ σ = some (.ret v, ρ', σ')) : exs C (.cons s ss) ρ σ = some (.ret v, ρ', σ') := by simp only [exs, h, Option.bind_some]
theorem exs_brk {s : St} {ss : Sts} (h : exe C s ρ σ = some (.brk, ρ', σ')) : exs C (.cons s ss) ρ σ = some (.brk, ρ', σ') := by simp only [exs, h, Option.bind_some]
theorem exe_ret {e : Ex} {v : V} (h : ev C e ρ σ = some (v, σ')) : exe C (.ret e) ρ σ = some (.ret v, ρ, σ') := by simp only [exe, h, Option.map_some]
theorem exe_asg {x : Nat} {e : Ex} {v : V} (h : ev C e ρ σ = some (v, σ')) : exe C (.asg x e) ρ σ = some (.nxt, upd x v ρ, σ') := by simp only [exe, h, Option.map_some]
theorem exe_asgU {x : Nat} {e : Ex} {v : V} (h : ev C e ρ σ = some (v, σ')) : exe C (.asgU x e) ρ σ = some (.nxt, upd x v ρ, σ') := by simp only [exe, h, Option.map_some]
theorem exe_asgT {ts : List Tg} {e : Ex} {l : List V} (h : ev C e ρ σ = some (.tup l, σ')) (h2 : bindTgs ts l ρ = some ρ') : exe C (.asgT ts e) ρ σ = some (.nxt, ρ', σ') := by simp only [exe, h, Option.bind_some, h2, Option.map_some]
theorem exe_asgS {xs : List Nat} {es : Exs} {l : List V} (h : evs C es ρ σ = some (l, σ')) (h2 : xs.length = l.length) : exe C (.asgS xs es) ρ σ = some (.nxt, updL xs l ρ, σ') := by simp only [exe, h, Option.bind_some, if_pos h2]
theorem exe_asgA {o e : Ex} {n : Nat} {v w : V} (h : ev C e ρ σ = some (v, σ')) {σ₂ σ₃ : Hp} (h2 : ev C o ρ σ' = some (w, σ₂)) (h3 : putAttr w n v σ₂ = some σ₃) : exe C (.asgA o n e) ρ σ = some (.nxt, ρ, σ₃) := by
  simp only [exe, h, Option.bind_some, h2, h3, Option.map_some]
theorem exe_asgI {o i e : Ex} {v w u : V} {σ₁ σ₂ σ₃ σ₄ : Hp} (h : ev C e ρ σ = some (v, σ₁)) (h2 : ev C o ρ σ₁ = some (w, σ₂)) (h3 : ev C i ρ σ₂ = some (u, σ₃)) (h4 : store w u v σ₃ = some σ₄) : exe C (.asgI o i e) ρ σ = some (.nxt, ρ, σ₄) := by
  simp only [exe, h, Option.bind_some, h2, h3, h4, Option.map_some]
theorem exe_expr {e : Ex} {v : V} (h : ev C e ρ σ = some (v, σ')) (hv : v = .none ∨ (∃ b, v = .bool b) ∨ ∃ i, v = .int i) : exe C (.expr e) ρ σ = some (.nxt, ρ, σ') := by
  rcases hv with rfl | ⟨_, rfl⟩ | ⟨_, rfl⟩ <;> simp only [exe, h, Option.bind_some]
theorem exe_ife {c : Cn} {a b : Sts} {t : Bool} (h : evc C c ρ σ = some (t, σ')) : exe C (.ife c a b) ρ σ = if t = true then exs C a ρ σ' else exs C b ρ σ' := by
  simp only [exe, h, Option.bind_some]
  cases t <;> rfl
theorem exe_for {t : Tg} {it : Ex} {b : Sts} {X : V} {l : List V} (h : ev C it ρ σ = some (X, σ')) (h2 : itemsI X = some l) : exe C (.for_ t it b) ρ σ = loopS (fun x ρ' σ' => (bindTg t x ρ').bind fun ρ'' => exs C b ρ'' σ') l ρ σ' := by
  simp only [exe, h, Option.bind_some, h2]
theorem exe_whl {n : Nat} {c : Cn} {b : Sts} : exe C (.whl n c b) ρ σ = loopW (fun ρ' σ' => evc C c ρ' σ') (fun ρ' σ' => exs C b ρ' σ') n ρ σ := by simp only [exe]
theorem exe_brk : exe C .brk ρ σ = some (.brk, ρ, σ) := by simp only [exe]
theorem evc_cmp {o : O2} {a b : Ex} {u v : V} {σ₁ σ₂ σ₃ : Hp} {t : Bool} (h : ev C a ρ σ = some (u, σ₁)) (h2 : ev C b ρ σ₁ = some (v, σ₂)) (h3 : o2 o u v σ₂ = some (.bool t, σ₃)) : evc C (.cmp o a b) ρ σ = some (t, σ₃) := by
  simp only [evc, h, Option.bind_some, h2, h3]
theorem evc_cmpP {o : O2} {a b : Ex} {u v : V} {t : Bool} (h : ev C a ρ σ = some (u, σ)) (h2 : ev C b ρ σ = some (v, σ)) (h3 : o2 o u v σ = some (.bool t, σ)) : evc C (.cmp o a b) ρ σ = some (t, σ) := evc_cmp h h2 h3
theorem evc_not {c : Cn} {t : Bool} (h : evc C c ρ σ = some (t, σ')) : evc C (.not c) ρ σ = some (!t, σ') := by simp only [evc, h, Option.map_some]
theorem evc_val {e : Ex} {t : Bool} (h : ev C e ρ σ = some (.bool t, σ')) : evc C (.val e) ρ σ = some (t, σ') := by simp only [evc, h, Option.bind_some]
theorem evca_nil : evca C .nil ρ σ = some (true, σ) := by simp only [evca]
theorem evca_one {c : Cn} {t : Bool} (h : evc C c ρ σ = some (t, σ')) : evca C (.cons c .nil) ρ σ = some (t, σ') := by
  simp only [evca, h, Option.bind_some]
  cases t <;> rfl
theorem evc_and2 {c d : Cn} {t : Bool} {u : Bool} (h : evc C c ρ σ = some (t, σ')) (h2 : t = true → evc C d ρ σ' = some (u, σ')) : evc C (.and (.cons c (.cons d .nil))) ρ σ = some (t && u, σ') := by
  simp only [evc, evca, h, Option.bind_some]
  cases t with
  | false => rfl
  | true => simp only [h2 rfl, Option.bind_some]; cases u <;> rfl
theorem evc_or2 {c d : Cn} {t : Bool} {u : Bool} (h : evc C c ρ σ = some (t, σ')) (h2 : t = false → evc C d ρ σ' = some (u, σ'')) (h3 : t = true → σ' = σ'') : evc C (.or (.cons c (.cons d .nil))) ρ σ = some (t || u, σ'') := by
  simp only [evc, evco, h, Option.bind_some]
  cases t with
  | true => rw [h3 rfl]; rfl
  | false => simp only [h2 rfl, Option.bind_some]; cases u <;> rfl
end


theorem doV_items {d : List (Int × Int)} (h : d.length ≤ lim) : itemsI (doV d) = some (d.map spV) := by
  unfold doV
  simp only [itemsI]
  rw [if_pos (by simpa using h)]

theorem run_up_to {n : Nat} {σ : Hp} {d : List (Int × Int)} {k : Int} (hd : d.length < lim) : run TB (n + 1) 2 [doV d, .int k] σ = some (doV (upTo d k), σ) := by
  rw [run_eq (fn := f_up_to) rfl rfl]
  have hc : ev (oB n) (.comp [3, 4] (.tup (.cons (.var 3) (.cons (.op2 .min2 (.var 4) (.var 2)) .nil))) (.tup [3, 4]) (.var 1) (.cons (.cmp .le (.var 3) (.var 2)) .nil) .nil) (updL f_up_to.params [doV d, .int k] fun _ => none) σ = some (.lst ((upTo d k).map spV), σ) := by
    rw [ev_comp1 (X := doV d) (l := d.map spV) (fun x => match x with | .tup (.int a :: _) => decide (a ≤ k) | _ => false) (fun x => match x with | .tup [.int a, .int b] => .tup [.int a, .int (min b k)] | _ => .none)]
    · congr 2
      unfold upTo
      rw [List.filter_map, List.map_map, List.map_map]
      rfl
    · simp [ev_var, updL, upd, f_up_to]
    · exact doV_items (by omega)
    · intro x hx acc
      obtain ⟨⟨a, b⟩, hp, rfl⟩ := List.mem_map.mp hx
      refine ⟨_, rfl, ?_, fun _ => ?_⟩
      · refine evca_one (evc_cmpP (u := .int a) (v := .int k) ?_ ?_ ?_) <;> simp [ev_var, updL, upd, drops, f_up_to, o2, spV]
      · simp [ev_tup, evs_cons, evs_nil, ev_op2, ev_var, updL, upd, drops, f_up_to, o2, spV, pre2]
    · intro x hx _
      obtain ⟨⟨a, b⟩, hp, rfl⟩ := List.mem_map.mp hx
      rfl
    · simpa using hd
  unfold f_up_to at hc ⊢
  rw [exs_ret (exe_ret (v := doV (upTo d k)) (σ' := σ) ?_)]
  · rfl
  · rw [ev_op1, hc]
    simp [o1, view, doV, lim]
    unfold upTo
    have := List.length_filter_le (fun p : Int × Int => decide (p.1 ≤ k)) d
    have h2 : d.length < 100000 := hd
    simp
    omega
end Mine

end

section
namespace Mine
open PySem
set_option Elab.async false
set_option autoImplicit false

def LE : Str := Str.ofString "<="
def GE : Str := Str.ofString ">="
def EQ : Str := Str.ofString "="
theorem ok_LE : okStr (Str.ofString "<=") = true := by kernel_rfl
theorem ok_GE : okStr (Str.ofString ">=") = true := by kernel_rfl
theorem ok_EQ : okStr (Str.ofString "=") = true := by kernel_rfl
theorem ne_GL : Str.ofString ">=" ≠ Str.ofString "<=" := by decide
theorem ne_LG : Str.ofString "<=" ≠ Str.ofString ">=" := by decide
theorem ne_EL : Str.ofString "=" ≠ Str.ofString "<=" := by decide
theorem ne_EG : Str.ofString "=" ≠ Str.ofString ">=" := by decide
def litV (x : Int) (s : Str) (k : Int) : V := .tup [.int x, .str s, .int k]

section
variable {σ : Hp}
theorem eqD_plain {a b : V} (ha : okD 20 a = true) (hb : okD 20 b = true) : eqD σ a b = some (@decide (a = b) (Classical.propDecidable _)) := by
  cases a <;> cases b <;> simp_all [eqD, view, okD] <;> (congr 1)
theorem okD_int {n : Nat} {i : Int} : okD n (.int i) = true := by cases n <;> rfl
theorem okD_none {n : Nat} : okD n .none = true := by cases n <;> rfl
theorem okD_str {n : Nat} {s : Str} : okD n (.str s) = okStr s := by cases n <;> rfl
theorem okD_tup' {n : Nat} {l : List V} : okD (n + 1) (.tup l) = l.all (okD n) := rfl
theorem okD_lst' {n : Nat} {l : List V} : okD (n + 1) (.lst l) = l.all (okD n) := rfl
theorem okD_doV {n : Nat} {d : List (Int × Int)} : okD (n + 2) (doV d) = true := by
  unfold doV
  rw [okD_tup', List.all_map, List.all_eq_true]
  intro p _
  simp [spV, okD_tup', okD_int]
theorem okD_liV {n : Nat} {l : List Int} : okD (n + 1) (liV l) = true := by
  unfold liV
  rw [okD_lst', List.all_map, List.all_eq_true]
  intro p _
  exact okD_int
theorem o2_eq {a b : V} (ha : okD 20 a = true) (hb : okD 20 b = true) : o2 .eq a b σ = some (.bool (@decide (a = b) (Classical.propDecidable _)), σ) := by
  simp only [o2, eqD_plain ha hb, Option.map_some]
theorem o2_eq_t {a b : V} (ha : okD 20 a = true) (hb : okD 20 b = true) (h : a = b) : o2 .eq a b σ = some (.bool true, σ) := by
  rw [o2_eq ha hb, @decide_eq_true _ (Classical.propDecidable _) h]
theorem o2_eq_f {a b : V} (ha : okD 20 a = true) (hb : okD 20 b = true) (h : a ≠ b) : o2 .eq a b σ = some (.bool false, σ) := by
  rw [o2_eq ha hb, @decide_eq_false _ (Classical.propDecidable _) h]
theorem o2_ne_t {a b : V} (ha : okD 20 a = true) (hb : okD 20 b = true) (h : a ≠ b) : o2 .ne a b σ = some (.bool true, σ) := by
  simp only [o2, eqD_plain ha hb, Option.map_some, @decide_eq_false _ (Classical.propDecidable _) h, Bool.not_false]
theorem o2_ne_f {a b : V} (ha : okD 20 a = true) (hb : okD 20 b = true) (h : a = b) : o2 .ne a b σ = some (.bool false, σ) := by
  simp only [o2, eqD_plain ha hb, Option.map_some, @decide_eq_true _ (Classical.propDecidable _) h, Bool.not_true]

theorem doV_inj {d e : List (Int × Int)} (h : doV d = doV e) : d = e := by
  unfold doV at h
  have := V.tup.inj h
  refine List.map_inj_right ?_ |>.mp this
  rintro ⟨a, b⟩ ⟨c, d⟩ h
  simp [spV] at h
  simp [h]
theorem liV_inj {d e : List Int} (h : liV d = liV e) : d = e := by
  unfold liV at h
  have := V.lst.inj h
  exact (List.map_inj_right (fun a b h => V.int.inj h)).mp this

theorem run_least {n : Nat} {p : Int × Int} {d : List (Int × Int)} : run TB (n + 1) 0 [doV (p :: d)] σ = some (.int p.1, σ) := by
  simp [run, TB, fnT, f_least, exs, exe, ev, updL, upd, pre2, o2, view, doV, spV, sIdx, pureV, lim]
theorem run_greatest {n : Nat} {p : Int × Int} {d : List (Int × Int)} : run TB (n + 1) 1 [doV (d ++ [p])] σ = some (.int p.2, σ) := by
  have h : ¬ ((0 : Int) ≤ -1) := by omega
  have h1 : (0 : Int) ≤ -1 + ((d.length : Int) + 1) := by omega
  have h2 : (-1 + ((d.length : Int) + 1)).toNat = d.length := by omega
  simp [run, TB, fnT, f_greatest, exs, exe, ev, updL, upd, pre2, o1, o2, view, doV, spV, sIdx, pureV, lim, h1, h2]
theorem run_from_on {n : Nat} {d : List (Int × Int)} {k : Int} (hd : d.length < lim) : run TB (n + 1) 3 [doV d, .int k] σ = some (doV (fromOn d k), σ) := by
  rw [run_eq (fn := f_from_on) rfl rfl]
  have hc : ev (oB n) (.comp [3, 4] (.tup (.cons (.op2 .max2 (.var 3) (.var 2)) (.cons (.var 4) .nil))) (.tup [3, 4]) (.var 1) (.cons (.cmp .ge (.var 4) (.var 2)) .nil) .nil) (updL f_from_on.params [doV d, .int k] fun _ => none) σ = some (.lst ((fromOn d k).map spV), σ) := by
    rw [ev_comp1 (X := doV d) (l := d.map spV) (fun x => match x with | .tup [_, .int b] => decide (k ≤ b) | _ => false) (fun x => match x with | .tup [.int a, .int b] => .tup [.int (max a k), .int b] | _ => .none)]
    · congr 2
      unfold fromOn
      rw [List.filter_map, List.map_map, List.map_map]
      rfl
    · simp [ev_var, updL, upd, f_from_on]
    · exact doV_items (by omega)
    · intro x hx acc
      obtain ⟨⟨a, b⟩, hp, rfl⟩ := List.mem_map.mp hx
      refine ⟨_, rfl, ?_, fun _ => ?_⟩
      · refine evca_one (evc_cmpP (u := .int b) (v := .int k) ?_ ?_ ?_) <;> simp [ev_var, updL, upd, drops, f_from_on, o2, spV]
      · simp [ev_tup, evs_cons, evs_nil, ev_op2, ev_var, updL, upd, drops, f_from_on, o2, spV, pre2]
    · intro x hx _
      obtain ⟨⟨a, b⟩, hp, rfl⟩ := List.mem_map.mp hx
      rfl
    · simpa using hd
  unfold f_from_on at hc ⊢
  rw [exs_ret (exe_ret (v := doV (fromOn d k)) (σ' := σ) ?_)]
  · rfl
  · rw [ev_op1, hc]
    simp [o1, view, doV, lim]
    unfold fromOn
    have := List.length_filter_le (fun p : Int × Int => decide (k ≤ p.2)) d
    have h2 : d.length < 100000 := hd
    simp
    omega
theorem run_struck_le {n : Nat} {d : List (Int × Int)} {x k : Int} (hd : d.length < lim) : run TB (n + 2) 7 [litV x LE k, doV d] σ = some (doV (upTo d k), σ) := by
  have h := run_up_to (n := n) (σ := σ) (k := k) hd
  rw [run_eq (fn := f_struck) rfl rfl]
  simp [f_struck, exs, exe, ev, evs, evc, updL, upd, o2, pre2, view, sIdx, pureV, lim, litV, LE, eqD, okD, ok_LE, oB, h, retF]
theorem run_struck_ge {n : Nat} {d : List (Int × Int)} {x k : Int} (hd : d.length < lim) : run TB (n + 2) 7 [litV x GE k, doV d] σ = some (doV (fromOn d k), σ) := by
  have h := run_from_on (n := n) (σ := σ) (k := k) hd
  rw [run_eq (fn := f_struck) rfl rfl]
  simp [f_struck, exs, exe, ev, evs, evc, updL, upd, o2, pre2, view, sIdx, pureV, lim, litV, GE, eqD, okD, ok_LE, ok_GE, ne_GL, oB, h, retF]
theorem run_neg_le {n : Nat} {x k : Int} : run TB (n + 1) 6 [litV x LE k] σ = some (litV x GE (k + 1), σ) := by
  rw [run_eq (fn := f_negation) rfl rfl]
  simp [f_negation, exs, exe, ev, evs, evc, updL, upd, o2, pre2, view, sIdx, pureV, lim, litV, LE, GE, eqD, okD, ok_LE, ok_GE, retF, bindTgs, bindTg]
theorem run_neg_ge {n : Nat} {x k : Int} : run TB (n + 1) 6 [litV x GE k] σ = some (litV x LE (k - 1), σ) := by
  rw [run_eq (fn := f_negation) rfl rfl]
  simp [f_negation, exs, exe, ev, evs, evc, updL, upd, o2, pre2, view, sIdx, pureV, lim, litV, LE, GE, eqD, okD, ok_LE, ok_GE, retF, bindTgs, bindTg, ne_GL]
end
end Mine

end

section
namespace Mine
open PySem
set_option Elab.async false
set_option autoImplicit false

/-- what is out of S stays -/
def Kp (S : List Nat) (σ σ' : Hp) : Prop := ∀ i o, i ∉ S → σ[i]? = some o → σ'[i]? = some o
theorem Kp.refl {S : List Nat} {σ : Hp} : Kp S σ σ := fun _ _ _ h => h
theorem Kp.trans {S : List Nat} {σ σ' σ'' : Hp} (h : Kp S σ σ') (h' : Kp S σ' σ'') : Kp S σ σ'' := fun i o a b => h' i o a (h i o a b)
theorem Kp.mono {S S' : List Nat} {σ σ' : Hp} (h : Kp S σ σ') (s : ∀ i ∈ S, i ∈ S') : Kp S' σ σ' := fun i o a b => h i o (fun q => a (s i q)) b
theorem Kp.set {S : List Nat} {σ : Hp} {i : Nat} {o : MO} (h : i ∈ S) : Kp S σ (σ.set i o) := by
  intro j q a b
  rw [List.getElem?_set_ne (by rintro rfl; exact a h)]
  exact b
theorem Kp.app {S : List Nat} {σ : Hp} {l : List MO} : Kp S σ (σ ++ l) := by
  intro j q _ b
  rw [List.getElem?_append_left (List.getElem?_eq_some_iff.mp b).1]
  exact b
theorem set_self {σ : Hp} {i : Nat} {o o' : MO} (h : σ[i]? = some o) : (σ.set i o')[i]? = some o' := by
  rw [List.getElem?_set_self (List.getElem?_eq_some_iff.mp h).1]
theorem set_ne {σ : Hp} {i j : Nat} {o' : MO} {r : Option MO} (h : σ[j]? = r) (e : i ≠ j) : (σ.set i o')[j]? = r := by
  rw [List.getElem?_set_ne e]; exact h

section
variable {σ : Hp}
theorem sIdx_nat {x n : Nat} (h : x < n) : sIdx (x : Int) n = some x := by
  unfold sIdx
  rw [if_pos (by omega), if_pos (by omega)]
  simp
theorem getE_lt {α : Type} {l : List α} {x : Nat} {v : α} (h : l[x]? = some v) : x < l.length := (List.getElem?_eq_some_iff.mp h).1
theorem idx_ref {j : Nat} {l : List V} {x : Nat} {v : V} (h : σ[j]? = some (.list l)) (hx : l[x]? = some v) (hl : l.length ≤ lim) : o2 .idx (.ref j) (.int (x : Int)) σ = some (v, σ) := by
  have := getE_lt hx
  simp only [o2, view, h]
  rw [if_pos ⟨by simp; omega, hl⟩, sIdx_nat this]
  simp [hx, pureV]
theorem idx_lst {l : List V} {x : Nat} {v : V} (hx : l[x]? = some v) (hl : l.length ≤ lim) : o2 .idx (.lst l) (.int (x : Int)) σ = some (v, σ) := by
  have := getE_lt hx
  simp only [o2, view]
  rw [if_pos ⟨by simp; omega, hl⟩, sIdx_nat this]
  simp [hx, pureV]
theorem idx_tup {l : List V} {x : Nat} {v : V} (hx : l[x]? = some v) (hl : l.length ≤ lim) : o2 .idx (.tup l) (.int (x : Int)) σ = some (v, σ) := by
  have := getE_lt hx
  simp only [o2, view]
  rw [if_pos (by simp; omega), sIdx_nat this]
  simp [hx, pureV]
theorem idx_dict {j : Nat} {l : List (Int × V)} {k : Int} {v : V} (h : σ[j]? = some (.dictI l)) (hx : getK k l = some v) : o2 .idx (.ref j) (.int k) σ = some (v, σ) := by
  simp only [o2, view, h, hx, pureV, Option.map_some]
theorem len_ref {j : Nat} {l : List V} (h : σ[j]? = some (.list l)) (hl : l.length ≤ lim) : o1 .len (.ref j) σ = some (.int l.length, σ) := by
  simp only [o1, view, h, if_pos hl]
theorem st_list {j : Nat} {l : List V} {x : Nat} {v : V} (h : σ[j]? = some (.list l)) (hx : x < l.length) (hl : l.length ≤ lim) : store (.ref j) (.int (x : Int)) v σ = some (σ.set j (.list (l.set x v))) := by
  simp only [store, h]
  rw [if_pos ⟨by simp; omega, hl⟩, sIdx_nat hx]
  rfl
theorem st_dict {j : Nat} {l : List (Int × V)} {k : Int} {v : V} (h : σ[j]? = some (.dictI l)) (hl : l.length ≤ lim) : store (.ref j) (.int k) v σ = some (σ.set j (.dictI (putK k v l))) := by
  simp only [store, h, if_pos hl]
theorem app_ref {j : Nat} {l : List V} {v : V} (h : σ[j]? = some (.list l)) (hl : l.length ≤ lim) : o2 .app (.ref j) v σ = some (.none, σ.set j (.list (l ++ [v]))) := by
  simp only [o2, h, if_pos hl]
theorem pre_app {j : Nat} {l : List V} {v : V} (h : σ[j]? = some (.list l)) : pre2 .app (.ref j) σ = true := by
  simp only [pre2, h]
end

def mn : List Int → Int
  | [] => 0
  | i :: r => r.foldl min i
def mx : List Int → Int
  | [] => 0
  | i :: r => r.foldl max i
theorem intsOf_map : ∀ l : List Int, intsOf (l.map .int) = some l
  | [] => rfl
  | i :: l => by simp [intsOf, intsOf_map l]
theorem o1_maxL {l : List Int} {σ : Hp} (h : l ≠ []) (hl : l.length ≤ lim) : o1 .maxL (liV l) σ = some (.int (mx l), σ) := by
  cases l with
  | nil => exact absurd rfl h
  | cons i r =>
    simp only [liV, o1, intsOf_map]
    rw [if_pos (by simpa using hl)]
    rfl
theorem o1_minL {l : List Int} {σ : Hp} (h : l ≠ []) (hl : l.length ≤ lim) : o1 .minL (liV l) σ = some (.int (mn l), σ) := by
  cases l with
  | nil => exact absurd rfl h
  | cons i r =>
    simp only [liV, o1, intsOf_map]
    rw [if_pos (by simpa using hl)]
    rfl
theorem mx_le {l : List Int} : ∀ v ∈ l, v ≤ mx l := by
  cases l with
  | nil => intro v h; cases h
  | cons i r =>
    have : ∀ (r : List Int) (i : Int), i ≤ r.foldl max i ∧ ∀ v ∈ r, v ≤ r.foldl max i := by
      intro r
      induction r with
      | nil => intro i; simp
      | cons j r ih =>
        intro i
        obtain ⟨a, b⟩ := ih (max i j)
        rw [List.foldl_cons]
        refine ⟨by omega, fun v hv => ?_⟩
        rcases List.mem_cons.mp hv with rfl | hv
        · omega
        · exact b v hv
    intro v hv
    obtain ⟨a, b⟩ := this r i
    rcases List.mem_cons.mp hv with rfl | hv
    · exact a
    · exact b v hv
theorem mx_mem {l : List Int} (h : l ≠ []) : mx l ∈ l := by
  cases l with
  | nil => exact absurd rfl h
  | cons i r =>
    have : ∀ (r : List Int) (i : Int), r.foldl max i = i ∨ r.foldl max i ∈ r := by
      intro r
      induction r with
      | nil => intro i; simp
      | cons j r ih =>
        intro i
        rw [List.foldl_cons]
        rcases ih (max i j) with a | a
        · rw [a]
          have : max i j = i ∨ max i j = j := by omega
          rcases this with e | e
          · exact .inl e
          · rw [e]; exact .inr List.mem_cons_self
        · exact .inr (List.mem_cons_of_mem _ a)
    rcases this r i with e | e
    · show r.foldl max i ∈ _
      rw [e]; exact List.mem_cons_self
    · exact List.mem_cons_of_mem _ e
theorem mn_le {l : List Int} : ∀ v ∈ l, mn l ≤ v := by
  cases l with
  | nil => intro v h; cases h
  | cons i r =>
    have : ∀ (r : List Int) (i : Int), r.foldl min i ≤ i ∧ ∀ v ∈ r, r.foldl min i ≤ v := by
      intro r
      induction r with
      | nil => intro i; simp
      | cons j r ih =>
        intro i
        obtain ⟨a, b⟩ := ih (min i j)
        rw [List.foldl_cons]
        refine ⟨by omega, fun v hv => ?_⟩
        rcases List.mem_cons.mp hv with rfl | hv
        · omega
        · exact b v hv
    intro v hv
    obtain ⟨a, b⟩ := this r i
    rcases List.mem_cons.mp hv with rfl | hv
    · exact a
    · exact b v hv
theorem mn_mem {l : List Int} (h : l ≠ []) : mn l ∈ l := by
  cases l with
  | nil => exact absurd rfl h
  | cons i r =>
    have : ∀ (r : List Int) (i : Int), r.foldl min i = i ∨ r.foldl min i ∈ r := by
      intro r
      induction r with
      | nil => intro i; simp
      | cons j r ih =>
        intro i
        rw [List.foldl_cons]
        rcases ih (min i j) with a | a
        · rw [a]
          have : min i j = i ∨ min i j = j := by omega
          rcases this with e | e
          · exact .inl e
          · rw [e]; exact .inr List.mem_cons_self
        · exact .inr (List.mem_cons_of_mem _ a)
    rcases this r i with e | e
    · show r.foldl min i ∈ _
      rw [e]; exact List.mem_cons_self
    · exact List.mem_cons_of_mem _ e
theorem spans_mn {l : List Int} (hu : Up l) (h : l ≠ []) : ∃ b r, spans l = (mn l, b) :: r := by
  cases l with
  | nil => exact absurd rfl h
  | cons x l =>
    have : mn (x :: l) = x := min_up hu
    rw [this]
    exact spans_head x l
theorem spans_mx {l : List Int} (hu : Up l) (h : l ≠ []) : ∃ j a, spans l = j ++ [(a, mx l)] := by
  rcases snoc_cases l with rfl | ⟨i, v, rfl⟩
  · exact absurd rfl h
  · have hm := mx_mem h
    have hv := mx_le v (by simp : v ∈ i ++ [v])
    have e : mx (i ++ [v]) = v := by
      rcases List.mem_append.mp hm with hm | hm
      · have := hu.snoc.2 _ hm; omega
      · exact List.mem_singleton.mp hm
    rw [e]
    exact spans_last i v

/-- the store's state -/
structure SI (σ : Hp) (D F T M : List V) (N : List (Int × V)) (b : Bool) (c : V) : Prop where
  i3 : σ[3]? = some (.inst 0 2)
  i2 : σ[2]? = some (.attrs [(13, .ref 4), (14, .ref 5), (15, .ref 6), (16, .ref 7), (17, .ref 8), (18, .int (-1)), (19, .bool b), (20, c)])
  i4 : σ[4]? = some (.list D)
  i5 : σ[5]? = some (.list F)
  i6 : σ[6]? = some (.list T)
  i7 : σ[7]? = some (.list M)
  i8 : σ[8]? = some (.dictI N)
theorem SI.kp {σ σ' : Hp} {D F T M : List V} {N : List (Int × V)} {b : Bool} {c : V} {S : List Nat} (s : SI σ D F T M N b c) (k : Kp S σ σ') (h : ∀ i ∈ S, i < 2 ∨ 8 < i) : SI σ' D F T M N b c := by
  refine ⟨k _ _ ?_ s.i3, k _ _ ?_ s.i2, k _ _ ?_ s.i4, k _ _ ?_ s.i5, k _ _ ?_ s.i6, k _ _ ?_ s.i7, k _ _ ?_ s.i8⟩ <;> (intro q; have := h _ q; omega)

section
variable {n : Nat} {σ : Hp} {D F T M : List V} {N : List (Int × V)} {b : Bool} {c : V}
theorem SI.attr (s : SI σ D F T M N b c) {k : Nat} {v : V} (h : getK k [(13, .ref 4), (14, .ref 5), (15, .ref 6), (16, .ref 7), (17, .ref 8), (18, .int (-1)), (19, .bool b), (20, c)] = some v) : attrOf (.ref 3) k σ = some v := by
  simp only [attrOf, s.i3, s.i2, h]

theorem run_low (s : SI σ D F T M N b c) {x : Nat} {l : List Int} (hx : D[x]? = some (doV (spans l))) (hD : D.length ≤ lim) (hu : Up l) (hl : l ≠ []) :
    run TB (n + 2) 12 [.ref 3, .int (x : Int)] σ = some (.int (mn l), σ) := by
  obtain ⟨b', r, e⟩ := spans_mn hu hl
  rw [run_eq (fn := f_Store_low) rfl rfl]
  unfold f_Store_low
  rw [exs_ret (exe_ret (v := .int (mn l)) (σ' := σ) ?_)]
  · rfl
  · have h1 : ev (oB (n + 1)) (.op2 .idx (.attr (.var 0) 13) (.var 11)) (updL [0, 11] [.ref 3, .int (x : Int)] fun _ => none) σ = some (doV (spans l), σ) := by
      simp [ev, updL, upd, s.attr (k := 13) rfl, pre2, idx_ref s.i4 hx hD]
    simp only [ev_call, evs_cons, evs_nil, h1, Option.bind_some, Option.map_some, e]
    exact run_least
theorem run_high (s : SI σ D F T M N b c) {x : Nat} {l : List Int} (hx : D[x]? = some (doV (spans l))) (hD : D.length ≤ lim) (hu : Up l) (hl : l ≠ []) :
    run TB (n + 2) 13 [.ref 3, .int (x : Int)] σ = some (.int (mx l), σ) := by
  obtain ⟨j, a, e⟩ := spans_mx hu hl
  rw [run_eq (fn := f_Store_high) rfl rfl]
  unfold f_Store_high
  rw [exs_ret (exe_ret (v := .int (mx l)) (σ' := σ) ?_)]
  · rfl
  · have h1 : ev (oB (n + 1)) (.op2 .idx (.attr (.var 0) 13) (.var 11)) (updL [0, 11] [.ref 3, .int (x : Int)] fun _ => none) σ = some (doV (spans l), σ) := by
      simp [ev, updL, upd, s.attr (k := 13) rfl, pre2, idx_ref s.i4 hx hD]
    simp only [ev_call, evs_cons, evs_nil, h1, Option.bind_some, Option.map_some, e]
    exact run_greatest
end
end Mine

end

section
namespace Mine
open PySem
set_option Elab.async false
set_option autoImplicit false
set_option linter.unusedSimpArgs false
set_option linter.unusedVariables false

abbrev LF := Nat → List Int
def upf (x : Nat) (l : List Int) (L : LF) : LF := fun y => if y = x then l else L y
abbrev Lit := Nat × Bool × Int
def sg (g : Bool) : Str := if g then GE else LE
def lv (l : Lit) : V := litV l.1 (sg l.2.1) l.2.2
def lvs (l : List Lit) : V := .tup (l.map lv)
structure TE where
  x : Nat
  old : List Int
  lit : V
  rs : V
def TE.v (e : TE) : V := .tup [.int e.x, doV (spans e.old), e.lit, e.rs, .int (-1)]
structure Q where
  L : LF
  T : List TE
def kept (g : Bool) (k : Int) (l : List Int) : List Int := l.filter fun v => if g then decide (k ≤ v) else decide (v ≤ k)
def neg (l : Lit) : Lit := (l.1, !l.2.1, if l.2.1 then l.2.2 - 1 else l.2.2 + 1)
def strP (x : Nat) (g : Bool) (k : Int) (R : List Lit) (q : Q) : Q × Option (List Lit) :=
  if kept g k (q.L x) = [] then (q, some (R ++ [neg (x, g, k)]))
  else if kept g k (q.L x) = q.L x then (q, none)
  else (⟨upf x (kept g k (q.L x)) q.L, q.T ++ [⟨x, q.L x, lv (x, g, k), lvs R⟩]⟩, none)
def doms (m : Nat) (L : LF) : List V := (List.range (m + 1)).map fun x => doV (spans (L x))
theorem doms_get {m x : Nat} {L : LF} (h : x ≤ m) : (doms m L)[x]? = some (doV (spans (L x))) := by
  unfold doms
  rw [List.getElem?_map, List.getElem?_range (by omega)]
  rfl
theorem doms_len {m : Nat} {L : LF} : (doms m L).length = m + 1 := by simp [doms]
theorem doms_set {m x : Nat} {L : LF} {l : List Int} : (doms m L).set x (doV (spans l)) = doms m (upf x l L) := by
  apply List.ext_getElem?
  intro i
  by_cases hi : i < m + 1
  · by_cases e : x = i
    · subst e
      rw [List.getElem?_set_self (by rw [doms_len]; exact hi), doms_get (by omega)]
      simp [upf]
    · rw [List.getElem?_set_ne e, doms_get (by omega), doms_get (by omega)]
      have : ¬ i = x := fun q => e q.symm
      simp [upf, this]
  · rw [List.getElem?_eq_none (by rw [List.length_set, doms_len]; omega), List.getElem?_eq_none (by rw [doms_len]; omega)]
/-- the lots are as they should be -/
def WF (m : Nat) (L : LF) : Prop := ∀ x, x ≤ m → Up (L x) ∧ L x ≠ [] ∧ (L x).length ≤ 4
theorem kept_up {g : Bool} {k : Int} {l : List Int} (h : Up l) : Up (kept g k l) := h.filter _
theorem kept_len {g : Bool} {k : Int} {l : List Int} : (kept g k l).length ≤ l.length := List.length_filter_le _ _
theorem strP_wf {m x : Nat} {g : Bool} {k : Int} {R : List Lit} {q : Q} (h : WF m q.L) : WF m (strP x g k R q).1.L := by
  unfold strP
  split
  · exact h
  · split
    · exact h
    · rename_i h1 _
      intro y hy
      show Up (upf x _ q.L y) ∧ _
      unfold upf
      dsimp only
      by_cases e : y = x
      · subst e
        simp only [if_true]
        exact ⟨kept_up (h y hy).1, h1, Nat.le_trans kept_len (h y hy).2.2⟩
      · simp only [if_neg e]
        exact h y hy
theorem spans_len : ∀ l : List Int, (spans l).length ≤ l.length := by
  refine snoc_ind (by simp [spans]) ?_
  intro l v ih
  rw [spans_snoc]
  rcases snoc_cases (spans l) with h | ⟨i, p, h⟩
  · rw [h, addS_nil]; simp
  · rw [h] at ih ⊢
    rw [addS_snoc]
    simp at ih
    split <;> simp <;> omega
theorem okD_lv {n : Nat} {l : Lit} : okD (n + 1) (lv l) = true := by
  unfold lv litV sg
  rw [okD_tup']
  cases l.2.1 <;> simp [okD_int, okD_str, ok_LE, ok_GE, LE, GE]
theorem okD_lvs {n : Nat} {l : List Lit} : okD (n + 2) (lvs l) = true := by
  unfold lvs
  rw [okD_tup', List.all_map, List.all_eq_true]
  intro p _
  exact okD_lv
theorem doV_nil : doV [] = .tup [] := rfl

theorem putK_len {K : Type} [DecidableEq K] {k : K} {v : V} {l : List (K × V)} : (putK k v l).length ≤ l.length + 1 := by
  unfold putK
  split <;> simp

section
variable {n : Nat} {σ : Hp} {F M : List V} {N : List (Int × V)} {b : Bool} {c : V}

theorem run_fail {D T : List V} (s : SI σ D F T M N b c) {R : List V} : run TB (n + 1) 17 [.ref 3, .tup R] σ =
    some (.bool false, σ.set 2 (.attrs [(13, .ref 4), (14, .ref 5), (15, .ref 6), (16, .ref 7), (17, .ref 8), (18, .int (-1)), (19, .bool true), (20, .tup R)])) := by
  rw [run_eq (fn := f_Store_fail) rfl rfl]
  unfold f_Store_fail
  dsimp only
  rw [exs_nxt (exe_asgA (v := .bool true) (w := .ref 3) (σ' := σ) (σ₂ := σ) (σ₃ := σ.set 2 (.attrs [(13, .ref 4), (14, .ref 5), (15, .ref 6), (16, .ref 7), (17, .ref 8), (18, .int (-1)), (19, .bool true), (20, c)]))
    ev_bool (by simp [ev, updL, upd]) (by simp [putAttr, s.i3, s.i2, putA]))]
  rw [exs_nxt (exe_asgA (v := .tup R) (w := .ref 3) (σ' := σ.set 2 (.attrs [(13, .ref 4), (14, .ref 5), (15, .ref 6), (16, .ref 7), (17, .ref 8), (18, .int (-1)), (19, .bool true), (20, c)])) (σ₂ := σ.set 2 (.attrs [(13, .ref 4), (14, .ref 5), (15, .ref 6), (16, .ref 7), (17, .ref 8), (18, .int (-1)), (19, .bool true), (20, c)])) (σ₃ := (σ.set 2 (.attrs [(13, .ref 4), (14, .ref 5), (15, .ref 6), (16, .ref 7), (17, .ref 8), (18, .int (-1)), (19, .bool true), (20, c)])).set 2 (.attrs [(13, .ref 4), (14, .ref 5), (15, .ref 6), (16, .ref 7), (17, .ref 8), (18, .int (-1)), (19, .bool true), (20, .tup R)]))
    (by simp [ev, updL, upd, o1, view]) (by simp [ev, updL, upd]) (by simp only [putAttr, set_ne (o' := .attrs [(13, .ref 4), (14, .ref 5), (15, .ref 6), (16, .ref 7), (17, .ref 8), (18, .int (-1)), (19, .bool true), (20, c)]) s.i3 (by decide : 2 ≠ 3), set_self s.i2]; rfl))]
  rw [exs_ret (exe_ret ev_bool), List.set_set]
  rfl
theorem SI.fail {D T : List V} (s : SI σ D F T M N b c) {R : V} : SI (σ.set 2 (.attrs [(13, .ref 4), (14, .ref 5), (15, .ref 6), (16, .ref 7), (17, .ref 8), (18, .int (-1)), (19, .bool true), (20, R)])) D F T M N true R :=
  ⟨set_ne s.i3 (by decide), set_self s.i2, set_ne s.i4 (by decide), set_ne s.i5 (by decide), set_ne s.i6 (by decide), set_ne s.i7 (by decide), set_ne s.i8 (by decide)⟩
theorem run_struck {g : Bool} {k : Int} {x : Int} {l : List Int} (hu : Up l) (hl : l.length ≤ 4) : run TB (n + 2) 7 [litV x (sg g) k, doV (spans l)] σ = some (doV (spans (kept g k l)), σ) := by
  have := spans_len l
  have hd : (spans l).length < lim := by unfold lim; omega
  cases g with
  | true => unfold sg kept; simp only [if_true]; rw [← fromOn_spans k l hu]; exact run_struck_ge hd
  | false => unfold sg kept; simp only [Bool.false_eq_true, if_false]; rw [← upTo_spans k l hu]; exact run_struck_le hd
theorem run_neg {g : Bool} {k : Int} {x : Nat} : run TB (n + 1) 6 [litV x (sg g) k] σ = some (lv (neg (x, g, k)), σ) := by
  cases g with
  | true => exact run_neg_ge
  | false => exact run_neg_le

theorem run_strike {m x : Nat} {g : Bool} {k : Int} {R : List Lit} {q : Q} {T0 : List TE} (s : SI σ (doms m q.L) F ((T0 ++ q.T).map TE.v) M N b c)
    (hN : N.length ≤ (T0 ++ q.T).length) (hT : (T0 ++ q.T).length ≤ 1000) (hm : m ≤ 3) (w : WF m q.L) (hx : x ≤ m) (hR : R.length ≤ 100) :
    ∃ σ' N', run TB (n + 5) 15 [.ref 3, lv (x, g, k), lvs R] σ = some (.bool (strP x g k R q).2.isNone, σ') ∧ Kp [2, 4, 6, 8] σ σ' ∧
      SI σ' (doms m (strP x g k R q).1.L) F ((T0 ++ (strP x g k R q).1.T).map TE.v) M N' (b || (strP x g k R q).2.isSome) (match (strP x g k R q).2 with | none => c | some l => lvs l) ∧
      N'.length ≤ (T0 ++ (strP x g k R q).1.T).length := by
  obtain ⟨hu, hne, hl⟩ := w x hx
  have e1 : run TB (n + 5) 15 [.ref 3, lv (x, g, k), lvs R] σ = run TB (n + 4) 14 [.ref 3, lv (x, g, k), lvs R, .int (-1)] σ := by
    rw [run_eq (fn := f_Store_strike) rfl rfl]
    have h1 : ev (oB (n + 4)) (.meth (.var 0) 26 (.cons (.var 10) (.cons (.op1 .tuple (.var 23)) (.cons (.attr (.var 0) 18) .nil)))) (updL [0, 10, 23] [.ref 3, lv (x, g, k), lvs R] fun _ => none) σ = run TB (n + 4) 14 [.ref 3, lv (x, g, k), lvs R, .int (-1)] σ := by
      rw [ev_meth (i := 3) (c := 0) (d := 2) (f := 14) (σ₁ := σ) (by simp [ev, updL, upd]) s.i3 s.i2 rfl rfl]
      simp [ev, evs, updL, upd, o1, view, lvs, s.attr (k := 18) rfl, oB]
    unfold f_Store_strike
    simp only [exs, exe, h1]
    cases run TB (n + 4) 14 [.ref 3, lv (x, g, k), lvs R, .int (-1)] σ <;> rfl
  rw [e1, run_eq (fn := f_Store_enter) rfl rfl]
  unfold f_Store_enter
  have d0 := doms_get (L := q.L) hx
  have dl : (doms m q.L).length ≤ lim := by rw [doms_len]; unfold lim; omega
  have hst := fun (n : Nat) => run_struck (n := n) (σ := σ) (g := g) (k := k) (x := x) hu hl
  dsimp only
  rw [exs_nxt (exe_asg (v := .int x) (σ' := σ) (by simp [ev, updL, upd, pre2, lv, litV, o2, view, sIdx, pureV, lim]))]
  rw [exs_nxt (exe_asg (v := doV (spans (q.L x))) (σ' := σ) (by simp [ev, updL, upd, s.attr (k := 13) rfl, pre2, idx_ref s.i4 d0 dl]))]
  rw [exs_nxt (exe_asg (v := doV (spans (kept g k (q.L x)))) (σ' := σ) (by
    simp only [ev_call, evs_cons, evs_nil, ev_var, updL, upd]
    simp
    exact hst (n + 1)))]
  by_cases c1 : kept g k (q.L x) = []
  · -- nothing left
    have hs : strP x g k R q = (q, some (R ++ [neg (x, g, k)])) := by unfold strP; rw [if_pos c1]
    rw [hs]
    have hf : run TB (n + 3) 17 [.ref 3, .tup (R.map lv ++ [lv (neg (x, g, k))])] σ = _ := run_fail (n := n + 2) s
    have hn := run_neg (n := n + 2) (σ := σ) (g := g) (k := k) (x := x)
    have hlen : R.length + 1 ≤ lim := by unfold lim; omega
    have hsome : ∀ v : V, v = lvs R → isNoneB v = false := by rintro _ rfl; rfl
    refine ⟨σ.set 2 (.attrs [(13, .ref 4), (14, .ref 5), (15, .ref 6), (16, .ref 7), (17, .ref 8), (18, .int (-1)), (19, .bool true), (20, .tup (R.map lv ++ [lv (neg (x, g, k))]))]), N, ?_, Kp.set (by simp), ?_, hN⟩
    · have hev : ∀ ρ : Ev, ρ 0 = some (.ref 3) → ρ 23 = some (lvs R) → ρ 10 = some (lv (x, g, k)) → ev (oB (n + 3)) (.meth (.var 0) 22 (.cons (.op2 .add (.ite (.cmp .isB (.var 23) .none) (.tup .nil) (.var 23)) (.tup (.cons (.call 6 (.cons (.var 10) .nil)) .nil))) .nil)) ρ σ =
          some (.bool false, σ.set 2 (.attrs [(13, .ref 4), (14, .ref 5), (15, .ref 6), (16, .ref 7), (17, .ref 8), (18, .int (-1)), (19, .bool true), (20, .tup (R.map lv ++ [lv (neg (x, g, k))]))])) := by
        intro ρ h0 h23 h10
        rw [ev_meth (i := 3) (c := 0) (d := 2) (f := 17) (σ₁ := σ) (by simp [ev, h0]) s.i3 s.i2 rfl rfl]
        have hn' : run TB (n + 3) 6 [lv (x, g, k)] σ = some (lv (neg (x, g, k)), σ) := hn
        simp [ev, evs, evc, h23, h10, o2, oB, hn', pre2, lvs, isNoneB, hlen, hf]
      rw [exs_ret (v := .bool false) (ρ' := _) (σ' := σ.set 2 (.attrs [(13, .ref 4), (14, .ref 5), (15, .ref 6), (16, .ref 7), (17, .ref 8), (18, .int (-1)), (19, .bool true), (20, .tup (R.map lv ++ [lv (neg (x, g, k))]))])) (by
        rw [exe_ife (t := true) (σ' := σ) (evc_cmpP (u := doV []) (v := .tup []) (by simp [ev, updL, upd, c1]; rfl) (by simp [ev, evs]) (o2_eq_t rfl rfl rfl))]
        rw [if_pos rfl]
        exact exs_ret (exe_ret (hev _ (by simp [updL, upd]) (by simp [updL, upd]) (by simp [updL, upd]))))]
      rfl
    · have := s.fail (R := .tup (R.map lv ++ [lv (neg (x, g, k))]))
      simpa [lvs] using this
  · rw [exs_nxt (ρ' := _) (σ' := σ) (by
      rw [exe_ife (t := false) (σ' := σ) (evc_cmpP (u := doV (spans (kept g k (q.L x)))) (v := .tup []) (by simp [ev, updL, upd]) (by simp [ev, evs]) (o2_eq_f okD_doV rfl (by
        intro h
        exact c1 (spans_nil.mp (doV_inj (h.trans doV_nil.symm))))))]
      rw [if_neg (by decide)]
      exact exs_nil)]
    by_cases c2 : kept g k (q.L x) = q.L x
    · have hs : strP x g k R q = (q, none) := by unfold strP; rw [if_neg c1, if_pos c2]
      rw [hs]
      refine ⟨σ, N, ?_, Kp.refl, by simpa using s, hN⟩
      rw [exs_ret (v := .bool true) (ρ' := _) (σ' := σ) (by
        rw [exe_ife (t := true) (σ' := σ) (evc_cmpP (u := doV (spans (kept g k (q.L x)))) (v := doV (spans (q.L x))) (by simp [ev, updL, upd]) (by simp [ev, updL, upd]) (o2_eq_t okD_doV okD_doV (by rw [c2])))]
        rw [if_pos rfl]
        exact exs_ret (exe_ret ev_bool))]
      rfl
    · have hs : strP x g k R q = (⟨upf x (kept g k (q.L x)) q.L, q.T ++ [⟨x, q.L x, lv (x, g, k), lvs R⟩]⟩, none) := by unfold strP; rw [if_neg c1, if_neg c2]
      rw [hs]
      rw [exs_nxt (ρ' := _) (σ' := σ) (by
        rw [exe_ife (t := false) (σ' := σ) (evc_cmpP (u := doV (spans (kept g k (q.L x)))) (v := doV (spans (q.L x))) (by simp [ev, updL, upd]) (by simp [ev, updL, upd]) (o2_eq_f okD_doV okD_doV (by
          intro h
          exact c2 (spans_inj (kept_up hu) hu (doV_inj h)))))]
        rw [if_neg (by decide)]
        exact exs_nil)]
      have tl : ((T0 ++ q.T).map TE.v).length ≤ lim := by rw [List.length_map]; unfold lim; omega
      have dx : x < (doms m q.L).length := by rw [doms_len]; omega
      have nl : N.length ≤ lim := by unfold lim; omega
      let e : TE := ⟨x, q.L x, lv (x, g, k), lvs R⟩
      let σ1 := σ.set 6 (.list ((T0 ++ q.T).map TE.v ++ [e.v]))
      let σ2 := σ1.set 4 (.list ((doms m q.L).set x (doV (spans (kept g k (q.L x))))))
      let σ3 := σ2.set 8 (.dictI (putK (x : Int) (.bool true) N))
      have a1 : σ1[3]? = some (.inst 0 2) := set_ne s.i3 (by decide)
      have a2 : σ1[2]? = _ := set_ne s.i2 (by decide)
      have a3 : σ1[4]? = _ := set_ne s.i4 (by decide)
      have b1 : σ2[3]? = some (.inst 0 2) := set_ne a1 (by decide)
      have b2 : σ2[2]? = _ := set_ne a2 (by decide)
      have b3 : σ2[8]? = some (.dictI N) := set_ne (set_ne s.i8 (by decide)) (by decide)
      have s3 : SI σ3 (doms m (upf x (kept g k (q.L x)) q.L)) F ((T0 ++ (q.T ++ [e])).map TE.v) M (putK (x : Int) (.bool true) N) b c := by
        refine ⟨set_ne b1 (by decide), set_ne b2 (by decide), ?_, ?_, ?_, ?_, set_self b3⟩
        · rw [← doms_set]; exact set_ne (set_self a3) (by decide)
        · exact set_ne (set_ne (set_ne s.i5 (by decide)) (by decide)) (by decide)
        · have : (T0 ++ (q.T ++ [e])).map TE.v = (T0 ++ q.T).map TE.v ++ [e.v] := by simp
          rw [this]
          exact set_ne (set_ne (set_self s.i6) (by decide)) (by decide)
        · exact set_ne (set_ne (set_ne s.i7 (by decide)) (by decide)) (by decide)
      refine ⟨σ3, putK (x : Int) (.bool true) N, ?_, ?_, by simpa using s3, ?_⟩
      · rw [exs_nxt (exe_expr (v := .none) (σ' := σ1) (by
          have := app_ref (v := e.v) s.i6 tl
          have p := pre_app (v := e.v) s.i6
          simp [ev, evs, updL, upd, s.attr (k := 15) rfl, p]
          exact this) (.inl rfl))]
        have at1 : attrOf (.ref 3) 13 σ1 = some (.ref 4) := by simp only [attrOf, a1, a2]; rfl
        rw [exs_nxt (exe_asgI (v := doV (spans (kept g k (q.L x)))) (w := .ref 4) (u := .int x) (σ₁ := σ1) (σ₂ := σ1) (σ₃ := σ1) (σ₄ := σ2) (by simp [ev, updL, upd]) (by simp [ev, updL, upd, at1]) (by simp [ev, updL, upd]) (st_list a3 dx dl))]
        have at2 : attrOf (.ref 3) 17 σ2 = some (.ref 8) := by simp only [attrOf, b1, b2]; rfl
        rw [exs_nxt (exe_asgI (v := .bool true) (w := .ref 8) (u := .int x) (σ₁ := σ2) (σ₂ := σ2) (σ₃ := σ2) (σ₄ := σ3) (by simp [ev]) (by simp [ev, updL, upd, at2]) (by simp [ev, updL, upd]) (st_dict b3 nl))]
        rw [exs_ret (exe_ret ev_bool)]
        rfl
      · exact ((Kp.set (by simp)).trans (Kp.set (by simp))).trans (Kp.set (by simp))
      · have := putK_len (k := (x : Int)) (v := .bool true) (l := N)
        simp at hN ⊢
        omega
end
end Mine

end

section
namespace Mine
open PySem
set_option Elab.async false
set_option autoImplicit false
set_option linter.unusedSimpArgs false
set_option linter.unusedVariables false

abbrev Rz := Q × Option (List Lit)
def andQ (r : Rz) (f : Q → Rz) : Rz := match r.2 with
  | none => f r.1
  | some _ => r
def chain : List (Q → Rz) → Q → Rz
  | [], q => (q, none)
  | f :: fs, q => andQ (f q) (chain fs)
def mostQ (xs : List Nat) (L : LF) : Int := mx (xs.map fun x => mx (L x))
def s1 (xs : List Nat) (z : Nat) (q : Q) : Rz := strP z false (mostQ xs q.L) (xs.map fun x => (x, false, mostQ xs q.L)) q
def sA (z x : Nat) (q : Q) : Rz := strP z true (mn (q.L x)) [(x, true, mn (q.L x))] q
def sB (z x : Nat) (q : Q) : Rz := strP x false (mx (q.L z)) [(z, false, mx (q.L z))] q
def ableQ (xs : List Nat) (z : Nat) (L : LF) : List Nat := xs.filter fun x => decide (mn (L z) ≤ mx (L x))
def s4 (xs : List Nat) (z : Nat) (q : Q) : Rz := match ableQ xs z q.L with
  | [a] => strP a true (mn (q.L z)) ((z, true, mn (q.L z)) :: (xs.filter fun x => decide (x ≠ a)).map fun x => (x, false, mn (q.L z) - 1)) q
  | _ => (q, none)
def onceP (xs : List Nat) (z : Nat) (q : Q) : Rz := andQ (andQ (andQ (s1 xs z q) (chain (xs.map (sA z)))) (chain (xs.map (sB z)))) (s4 xs z)

theorem strP_T {x : Nat} {g : Bool} {k : Int} {R : List Lit} {q : Q} : (strP x g k R q).1.T.length ≤ q.T.length + 1 := by
  unfold strP
  split
  · simp
  · split <;> simp
theorem chain_T {f : Nat → Q → Rz} (h : ∀ x q, (f x q).1.T.length ≤ q.T.length + 1) : ∀ (xs : List Nat) (q : Q), (chain (xs.map f) q).1.T.length ≤ q.T.length + xs.length := by
  intro xs
  induction xs with
  | nil => intro q; simp [chain]
  | cons x xs ih =>
    intro q
    simp only [List.map_cons, chain, andQ, List.length_cons]
    have := h x q
    split
    · have := ih (f x q).1; omega
    · omega

def clc (c : V) : Option (List Lit) → V
  | none => c
  | some l => lvs l
def SQ (m : Nat) (F M : List V) (T0 : List TE) (q : Q) (b : Bool) (c : V) (σ : Hp) : Prop :=
  ∃ N, SI σ (doms m q.L) F ((T0 ++ q.T).map TE.v) M N b c ∧ N.length ≤ (T0 ++ q.T).length ∧ WF m q.L

def natV (xs : List Nat) : List V := xs.map fun (x : Nat) => V.int (x : Int)
theorem ev_compN {C : Orc} {ρ : Ev} {σ σ₁ : Hp} {ls : List Nat} {elt it : Ex} {y : Nat} {ifs : Cns} {X : V} {xs : List Nat} (p : Nat → Bool) (f : Nat → V)
    (h1 : ev C it ρ σ = some (X, σ₁)) (h2 : itemsI X = some (natV xs))
    (step : ∀ x ∈ xs, ∀ acc : List V, evca C ifs (upd y (.int (x : Int)) (drops ls ρ)) (σ₁ ++ [.list acc]) = some (p x, σ₁ ++ [.list acc]) ∧ (p x = true → ev C elt (upd y (.int (x : Int)) (drops ls ρ)) (σ₁ ++ [.list acc]) = some (f x, σ₁ ++ [.list acc])))
    (hok : ∀ x ∈ xs, p x = true → okD 20 (f x) = true) (hlen : xs.length < lim) : ev C (.comp ls elt (.nm y) it ifs .nil) ρ σ = some (.lst ((xs.filter p).map f), σ₁) := by
  have := ev_comp1 (C := C) (ρ := ρ) (σ := σ) (ls := ls) (elt := elt) (it := it) (t := .nm y) (ifs := ifs) (X := X) (l := natV xs) (σ₁ := σ₁) (fun v => match v with | .int i => p i.toNat | _ => false) (fun v => match v with | .int i => f i.toNat | _ => .none) h1 h2 ?_ ?_ ?_
  · rw [this]
    congr 2
    unfold natV
    rw [List.filter_map, List.map_map]
    simp [Function.comp_def]
  · intro v hv acc
    obtain ⟨x, hx, rfl⟩ := List.mem_map.mp hv
    obtain ⟨a, b⟩ := step x hx acc
    exact ⟨_, rfl, by simpa using a, by simpa using b⟩
  · intro v hv
    obtain ⟨x, hx, rfl⟩ := List.mem_map.mp hv
    simpa using hok x hx
  · simpa [natV] using hlen
theorem natV_items {xs : List Nat} (h : xs.length ≤ lim) : itemsI (.tup (natV xs)) = some (natV xs) := by
  simp only [itemsI]
  rw [if_pos (by simpa [natV] using h)]
theorem filter_tt {α : Type} (l : List α) : l.filter (fun _ => true) = l := List.filter_eq_self.mpr (fun _ _ => rfl)

section
variable {n : Nat} {σ : Hp} {F M : List V} {c : V} {m : Nat} {T0 : List TE} {q : Q} {b : Bool} {ρ : Ev}
theorem SQ.kp {σ' : Hp} {S : List Nat} (s : SQ m F M T0 q b c σ) (k : Kp S σ σ') (h : ∀ i ∈ S, i < 2 ∨ 8 < i) : SQ m F M T0 q b c σ' := by
  obtain ⟨N, a, e⟩ := s
  exact ⟨N, a.kp k h, e⟩
theorem SQ.app {l : List MO} (s : SQ m F M T0 q b c σ) : SQ m F M T0 q b c (σ ++ l) := s.kp (S := []) Kp.app (by simp)
theorem ev_strike {x : Nat} {g : Bool} {k : Int} {R : List Lit} {es : Exs} (h35 : ρ 35 = some (.ref 3)) (s : SQ m F M T0 q false c σ) (hT : (T0 ++ q.T).length ≤ 1000) (hm : m ≤ 3) (hx : x ≤ m) (hR : R.length ≤ 100)
    (he : evs (oB (n + 5)) es ρ σ = some ([lv (x, g, k), lvs R], σ)) :
    ∃ σ', Kp [2, 4, 6, 8] σ σ' ∧ SQ m F M T0 (strP x g k R q).1 (strP x g k R q).2.isSome (clc c (strP x g k R q).2) σ' ∧ ev (oB (n + 5)) (.meth (.var 35) 38 es) ρ σ = some (.bool (strP x g k R q).2.isNone, σ') := by
  obtain ⟨N, a, hN, w⟩ := s
  obtain ⟨σ', N', e1, e2, e3, e4⟩ := run_strike (n := n) (g := g) (k := k) a hN hT hm w hx hR
  refine ⟨σ', e2, ⟨N', ?_, e4, strP_wf w⟩, ?_⟩
  · rw [Bool.false_or] at e3
    cases h : (strP x g k R q).2 <;> (rw [h] at e3; exact e3)
  · rw [ev_meth (i := 3) (c := 0) (d := 2) (f := 15) (σ₁ := σ) (by simp [ev, h35]) a.i3 a.i2 rfl rfl, he]
    exact e1
theorem ev_low {e : Ex} {x : Nat} (h35 : ρ 35 = some (.ref 3)) (s : SQ m F M T0 q b c σ) (hm : m ≤ 3) (hx : x ≤ m) (he : ev (oB (n + 2)) e ρ σ = some (.int (x : Int), σ)) :
    ev (oB (n + 2)) (.meth (.var 35) 3 (.cons e .nil)) ρ σ = some (.int (mn (q.L x)), σ) := by
  obtain ⟨N, a, _, w⟩ := s
  rw [ev_meth (i := 3) (c := 0) (d := 2) (f := 12) (σ₁ := σ) (by simp [ev, h35]) a.i3 a.i2 rfl rfl]
  simp only [evs_cons, evs_nil, he, Option.bind_some, Option.map_some]
  exact run_low a (doms_get hx) (by rw [doms_len]; unfold lim; omega) (w x hx).1 (w x hx).2.1
theorem ev_high {e : Ex} {x : Nat} (h35 : ρ 35 = some (.ref 3)) (s : SQ m F M T0 q b c σ) (hm : m ≤ 3) (hx : x ≤ m) (he : ev (oB (n + 2)) e ρ σ = some (.int (x : Int), σ)) :
    ev (oB (n + 2)) (.meth (.var 35) 4 (.cons e .nil)) ρ σ = some (.int (mx (q.L x)), σ) := by
  obtain ⟨N, a, _, w⟩ := s
  rw [ev_meth (i := 3) (c := 0) (d := 2) (f := 13) (σ₁ := σ) (by simp [ev, h35]) a.i3 a.i2 rfl rfl]
  simp only [evs_cons, evs_nil, he, Option.bind_some, Option.map_some]
  exact run_high a (doms_get hx) (by rw [doms_len]; unfold lim; omega) (w x hx).1 (w x hx).2.1

def flo (o : Option (List Lit)) : Fl := if o.isNone then .nxt else .ret (.bool false)
theorem exe_strike {x : Nat} {g : Bool} {k : Int} {R : List Lit} {es : Exs} (h35 : ρ 35 = some (.ref 3)) (s : SQ m F M T0 q false c σ) (hT : (T0 ++ q.T).length ≤ 1000) (hm : m ≤ 3) (hx : x ≤ m) (hR : R.length ≤ 100)
    (he : evs (oB (n + 5)) es ρ σ = some ([lv (x, g, k), lvs R], σ)) :
    ∃ σ', Kp [2, 4, 6, 8] σ σ' ∧ SQ m F M T0 (strP x g k R q).1 (strP x g k R q).2.isSome (clc c (strP x g k R q).2) σ' ∧
      exe (oB (n + 5)) (.ife (.not (.val (.meth (.var 35) 38 es))) (.cons (.ret (.bool false)) .nil) .nil) ρ σ = some (flo (strP x g k R q).2, ρ, σ') := by
  obtain ⟨σ', a, b, d⟩ := ev_strike (n := n) (g := g) (k := k) h35 s hT hm hx hR he
  refine ⟨σ', a, b, ?_⟩
  rw [exe_ife (evc_not (evc_val d))]
  unfold flo
  cases h : (strP x g k R q).2 with
  | none => simp [exs_nil]
  | some l => simp [exs, exe, ev]

def EI (xs : List Nat) (z : Nat) (ρ : Ev) : Prop := ρ 35 = some (.ref 3) ∧ ρ 36 = some (.tup (natV xs)) ∧ ρ 34 = some (.int (z : Int))
theorem EI.upd {xs : List Nat} {z x : Nat} {v : V} (h : EI xs z ρ) (hx : x ≠ 34 ∧ x ≠ 35 ∧ x ≠ 36) : EI xs z (upd x v ρ) := by
  unfold EI Mine.upd at *
  simp [hx.1.symm, hx.2.1.symm, hx.2.2.symm, h]

theorem loop_strike {f : Nat → Q → Rz} {I : Ev → Prop} {body : V → Ev → Hp → Option (Fl × Ev × Hp)} (hf : ∀ x q, (f x q).1.T.length ≤ q.T.length + 1) :
    ∀ (xs : List Nat) (q : Q) (ρ : Ev) (σ : Hp),
    (∀ x ∈ xs, ∀ ρ σ q, I ρ → SQ m F M T0 q false c σ → (T0 ++ q.T).length ≤ 1000 → ∃ ρ' σ', Kp [2, 4, 6, 8] σ σ' ∧ SQ m F M T0 (f x q).1 (f x q).2.isSome (clc c (f x q).2) σ' ∧ I ρ' ∧ body (.int (x : Int)) ρ σ = some (flo (f x q).2, ρ', σ')) →
    I ρ → SQ m F M T0 q false c σ → (T0 ++ q.T).length + xs.length ≤ 1000 →
    ∃ ρ' σ', Kp [2, 4, 6, 8] σ σ' ∧ SQ m F M T0 (chain (xs.map f) q).1 (chain (xs.map f) q).2.isSome (clc c (chain (xs.map f) q).2) σ' ∧ I ρ' ∧ loopS body (natV xs) ρ σ = some (flo (chain (xs.map f) q).2, ρ', σ') := by
  intro xs
  induction xs with
  | nil => intro q ρ σ _ hI s _; exact ⟨ρ, σ, Kp.refl, s, hI, rfl⟩
  | cons x xs ih =>
    intro q ρ σ st hI s hT
    obtain ⟨ρ', σ', k1, s1, i1, e1⟩ := st x List.mem_cons_self ρ σ q hI s (by omega)
    have hg := hf x q
    simp only [List.map_cons, chain, andQ, natV, loopS, e1, Option.bind_some]
    cases h : (f x q).2 with
    | none =>
      rw [h] at s1
      simp only [flo, Option.isNone_none, if_true]
      obtain ⟨ρ'', σ'', k2, s2, i2, e2⟩ := ih (f x q).1 ρ' σ' (fun y hy => st y (List.mem_cons_of_mem _ hy)) i1 s1 (by simp at hT ⊢; omega)
      exact ⟨ρ'', σ'', k1.trans k2, s2, i2, e2⟩
    | some l =>
      refine ⟨ρ', σ', k1, s1, i1, ?_⟩
      simp [flo, h]

theorem natV_len {xs : List Nat} : (natV xs).length = xs.length := by simp [natV]
theorem natV_get {xs : List Nat} {k : Nat} (h : k < xs.length) : (natV xs)[k]? = some (.int ((xs.getD k 0 : Nat) : Int)) := by
  unfold natV
  rw [List.getElem?_map, List.getElem?_eq_getElem h]
  simp [List.getD, h]
theorem map_getD (xs : List Nat) : (List.range xs.length).map (fun k => xs.getD k 0) = xs := by
  apply List.ext_getElem?
  intro i
  by_cases h : i < xs.length
  · rw [List.getElem?_map, List.getElem?_range h, List.getElem?_eq_getElem h]
    simp [List.getD, h]
  · rw [List.getElem?_eq_none (by simpa using h), List.getElem?_eq_none (by simpa using h)]
theorem filter_getD (xs : List Nat) (p : Nat → Bool) : xs.filter p = ((List.range xs.length).filter fun k => p (xs.getD k 0)).map fun k => xs.getD k 0 := by
  conv => lhs; rw [← map_getD xs]
  rw [List.filter_map]
  rfl
end
end Mine

end

section
namespace Mine
open PySem
set_option Elab.async false
set_option autoImplicit false
set_option linter.unusedSimpArgs false
set_option linter.unusedVariables false

theorem andQ_some {r : Rz} {f : Q → Rz} {l : List Lit} (h : r.2 = some l) : andQ r f = r := by unfold andQ; rw [h]
theorem andQ_none {r : Rz} {f : Q → Rz} (h : r.2 = none) : andQ r f = f r.1 := by unfold andQ; rw [h]
def kOn {α : Type} (o : Option (List Lit)) (r s : α) : α := match o with
  | none => r
  | some _ => s
theorem exs_flo {C : Orc} {s : St} {ss : Sts} {ρ ρ' : Ev} {σ σ' : Hp} {o : Option (List Lit)} (h : exe C s ρ σ = some (flo o, ρ', σ')) :
    exs C (.cons s ss) ρ σ = kOn o (exs C ss ρ' σ') (some (.ret (.bool false), ρ', σ')) := by
  cases o with
  | none => exact exs_nxt h
  | some l => exact exs_ret h
section
variable {C : Orc} {ρ : Ev} {σ σ₁ σ₂ σ₃ σ₄ : Hp}
theorem evs0 : evs C .nil ρ σ = some ([], σ) := evs_nil
theorem evs1 {a : Ex} {u : V} (h : ev C a ρ σ = some (u, σ₁)) : evs C (.cons a .nil) ρ σ = some ([u], σ₁) := by simp only [evs_cons, evs_nil, h, Option.bind_some, Option.map_some]
theorem evsC {a : Ex} {as : Exs} {u : V} {us : List V} (h : ev C a ρ σ = some (u, σ₁)) (h2 : evs C as ρ σ₁ = some (us, σ₂)) : evs C (.cons a as) ρ σ = some (u :: us, σ₂) := by simp only [evs_cons, h, h2, Option.bind_some, Option.map_some]
theorem evO1 {o : O1} {a : Ex} {u v : V} (h : ev C a ρ σ = some (u, σ₁)) (h2 : o1 o u σ₁ = some (v, σ₂)) : ev C (.op1 o a) ρ σ = some (v, σ₂) := by simp only [ev_op1, h, h2, Option.bind_some]
theorem evO2 {o : O2} {a b : Ex} {u v w : V} (h : ev C a ρ σ = some (u, σ₁)) (hp : pre2 o u σ₁ = true) (h2 : ev C b ρ σ₁ = some (v, σ₂)) (h3 : o2 o u v σ₂ = some (w, σ₃)) : ev C (.op2 o a b) ρ σ = some (w, σ₃) := by simp only [ev_op2, h, h2, h3, hp, Option.bind_some]
theorem evV {x : Nat} {v : V} (h : ρ x = some v) : ev C (.var x) ρ σ = some (v, σ) := by simp only [ev_var, h, Option.map_some]
theorem evT {es : Exs} {l : List V} (h : evs C es ρ σ = some (l, σ₁)) : ev C (.tup es) ρ σ = some (.tup l, σ₁) := by simp only [ev_tup, h, Option.map_some]
theorem evL {es : Exs} {l : List V} (h : evs C es ρ σ = some (l, σ₁)) : ev C (.lstF es) ρ σ = some (.lst l, σ₁) := by simp only [ev_lstF, h, Option.map_some]
theorem evCall {f : Nat} {es : Exs} {l : List V} {r : Option (V × Hp)} (h : evs C es ρ σ = some (l, σ₁)) (h2 : C.call f l σ₁ = r) : ev C (.call f es) ρ σ = r := by simp only [ev_call, h, h2, Option.bind_some]
theorem evA {a : Ex} {k : Nat} {u v : V} (h : ev C a ρ σ = some (u, σ₁)) (h2 : attrOf u k σ₁ = some v) : ev C (.attr a k) ρ σ = some (v, σ₁) := by simp only [ev_attr, h, h2, Option.bind_some, Option.map_some]
end
theorem o2_neI {a b : Int} {σ : Hp} : o2 .ne (.int a) (.int b) σ = some (.bool (decide (a ≠ b)), σ) := by
  by_cases h : a = b
  · rw [o2_ne_f okD_int okD_int (by rw [h])]; simp [h]
  · rw [o2_ne_t okD_int okD_int (by simpa using h)]; simp [h]
theorem o2_eqI {a b : Int} {σ : Hp} : o2 .eq (.int a) (.int b) σ = some (.bool (decide (a = b)), σ) := by
  by_cases h : a = b
  · rw [o2_eq_t okD_int okD_int (by rw [h])]; simp [h]
  · rw [o2_eq_f okD_int okD_int (by simpa using h)]; simp [h]
theorem rng_items {k : Nat} (h : k ≤ lim) : itemsI (.rng 0 (k : Int)) = some (natV (List.range k)) := by
  simp only [itemsI]
  rw [if_pos ⟨by omega, by simp, by simpa using h⟩]
  unfold intL natV
  simp
theorem rng1_nat {k : Nat} {σ : Hp} (h : k ≤ lim) : o1 .rng1 (.int (k : Int)) σ = some (.rng 0 k, σ) := by
  simp only [o1]
  rw [if_pos (by simpa using h)]
theorem getD_inj {xs : List Nat} (nd : xs.Nodup) {i j : Nat} (hi : i < xs.length) (hj : j < xs.length) (h : xs.getD i 0 = xs.getD j 0) : i = j := by
  simp [List.getD, hi, hj] at h
  exact (List.getElem_inj nd).mp h
theorem getD_mem {xs : List Nat} {i : Nat} (hi : i < xs.length) : xs.getD i 0 ∈ xs := by
  simp [List.getD, hi]

section
variable {n : Nat} {σ : Hp} {F M : List V} {c : V} {m : Nat} {T0 : List TE} {q : Q} {ρ : Ev} {xs : List Nat} {z : Nat}
theorem s1_T : (s1 xs z q).1.T.length ≤ q.T.length + 1 := strP_T

theorem tail_once (e : EI xs z ρ) (s : SQ m F M T0 q false c σ) (hT : (T0 ++ q.T).length ≤ 1000) (hm : m ≤ 3) (hx : ∀ x ∈ xs, x ≤ m) (hz : z ≤ m) (hl : xs.length ≤ 3) (nd : xs.Nodup) :
    ∃ ρ' σ', Kp [2, 4, 6, 8] σ σ' ∧ SQ m F M T0 (s4 xs z q).1 (s4 xs z q).2.isSome (clc c (s4 xs z q).2) σ' ∧
    exs (oB (n + 5)) (Sts.cons (.asg 39 (.meth (.var 35) 3 (.cons (.var 34) .nil)))
  (.cons (.asg 40 (.comp [2] (.var 2) (.nm 2) (.op1 .rng1 (.op1 .len (.var 36))) (.cons (.cmp .ge (.meth (.var 35) 4 (.cons (.op2 .idx (.var 36) (.var 2)) .nil)) (.var 39)) .nil) .nil))
  (.cons (.ife (.cmp .ne (.op1 .len (.var 40)) (.int 1))
   (.cons (.ret (.bool true))
   .nil)
   .nil)
  (.cons (.asgU 41 (.comp [2] (.tup (.cons (.op2 .idx (.var 36) (.var 2)) (.cons (.str (Str.ofString "<=")) (.cons (.op2 .sub (.var 39) (.int 1)) .nil)))) (.nm 2) (.op1 .rng1 (.op1 .len (.var 36))) (.cons (.cmp .ne (.var 2) (.op2 .idx (.var 40) (.int 0))) .nil) .nil))
  (.cons (.ret (.meth (.var 35) 38 (.cons (.tup (.cons (.op2 .idx (.var 36) (.op2 .idx (.var 40) (.int 0))) (.cons (.str (Str.ofString ">=")) (.cons (.var 39) .nil)))) (.cons (.op1 .tuple (.op2 .add (.lstF (.cons (.tup (.cons (.var 34) (.cons (.str (Str.ofString ">=")) (.cons (.var 39) .nil)))) .nil)) (.var 41))) .nil))))
  .nil))))) ρ σ = some (.ret (.bool (s4 xs z q).2.isNone), ρ', σ') := by
  have hl' : xs.length ≤ lim := by unfold lim; omega
  have hlv : (natV xs).length ≤ lim := by rw [natV_len]; exact hl'
  rw [exs_nxt (exe_asg (ev_low (n := n + 3) e.1 s hm hz (by simp [ev, e.2.2])))]
  generalize hρ1 : upd 39 (.int (mn (q.L z))) ρ = ρ1
  have e1 : EI xs z ρ1 := by rw [← hρ1]; exact e.upd (by decide)
  have l1 : ρ1 39 = some (.int (mn (q.L z))) := by rw [← hρ1]; rfl
  clear hρ1
  let A := (List.range xs.length).filter fun k => decide (mn (q.L z) ≤ mx (q.L (xs.getD k 0)))
  have hA : A.length ≤ 3 := Nat.le_trans (List.length_filter_le _ _) (by simpa using hl)
  have hAL : ableQ xs z q.L = A.map fun k => xs.getD k 0 := filter_getD xs _
  have rg : ∀ (ρ : Ev) (σ : Hp), ρ 36 = some (.tup (natV xs)) → ev (oB (n + 5)) (.op1 .rng1 (.op1 .len (.var 36))) ρ σ = some (.rng 0 xs.length, σ) := by
    intro ρ σ h
    have := rng1_nat (σ := σ) hl'
    simp [ev, h, o1, view, natV_len, hl']
  have ix : ∀ (ρ : Ev) (σ : Hp) (k : Nat), ρ 36 = some (.tup (natV xs)) → ρ 2 = some (.int (k : Int)) → k < xs.length → ev (oB (n + 5)) (.op2 .idx (.var 36) (.var 2)) ρ σ = some (.int ((xs.getD k 0 : Nat) : Int), σ) := by
    intro ρ σ k h h2 hk
    simp only [ev_op2, ev_var, h, h2, pre2, Option.map_some, Option.bind_some]
    exact idx_tup (natV_get hk) hlv
  have hab : ev (oB (n + 5)) (.comp [2] (.var 2) (.nm 2) (.op1 .rng1 (.op1 .len (.var 36))) (.cons (.cmp .ge (.meth (.var 35) 4 (.cons (.op2 .idx (.var 36) (.var 2)) .nil)) (.var 39)) .nil) .nil) ρ1 σ = some (.lst (natV A), σ) := by
    refine ev_compN (xs := List.range xs.length) (fun k => decide (mn (q.L z) ≤ mx (q.L (xs.getD k 0)))) (fun k => .int (k : Int)) (rg _ _ e1.2.1) (rng_items hl') (fun k hk acc => ?_) (fun _ _ _ => okD_int) (by rw [List.length_range]; unfold lim; omega)
    have hk' : k < xs.length := List.mem_range.mp hk
    refine ⟨evca_one (evc_cmpP (u := .int (mx (q.L (xs.getD k 0)))) (v := .int (mn (q.L z))) ?_ ?_ rfl), fun _ => ?_⟩
    · refine ev_high (n := n + 3) (by simp [upd, drops, e1.1]) s.app hm (hx _ (getD_mem hk')) ?_
      exact ix _ _ k (by simp [upd, drops, e1.2.1]) (by simp [upd]) hk'
    · simp [ev, upd, drops, l1]
    · simp [ev, upd]
  rw [exs_nxt (exe_asg hab)]
  generalize hρ2 : upd 40 (.lst (natV A)) ρ1 = ρ2
  have e2 : EI xs z ρ2 := by rw [← hρ2]; exact e1.upd (by decide)
  have l2 : ρ2 39 = some (.int (mn (q.L z))) := by rw [← hρ2]; simp [upd, l1]
  have a2 : ρ2 40 = some (.lst (natV A)) := by rw [← hρ2]; rfl
  clear hρ2
  have hAlim : A.length ≤ lim := by unfold lim; omega
  have hne : evc (oB (n + 5)) (.cmp .ne (.op1 .len (.var 40)) (.int 1)) ρ2 σ = some (decide ((A.length : Int) ≠ 1), σ) := by
    refine evc_cmpP (u := .int A.length) (v := .int 1) ?_ ev_int o2_neI
    simp [ev, a2, o1, view, natV_len, hAlim]
  by_cases hA1 : A.length = 1
  · obtain ⟨k0, hk0⟩ := List.length_eq_one_iff.mp hA1
    have hk0m : k0 < xs.length := by
      have : k0 ∈ A := by rw [hk0]; simp
      exact List.mem_range.mp (List.mem_filter.mp this).1
    have hs4 : s4 xs z q = strP (xs.getD k0 0) true (mn (q.L z)) ((z, true, mn (q.L z)) :: (xs.filter fun x => decide (x ≠ xs.getD k0 0)).map fun x => (x, false, mn (q.L z) - 1)) q := by
      unfold s4
      rw [hAL, hk0]
      rfl
    rw [exs_nxt (ρ' := ρ2) (σ' := σ) (by
      rw [exe_ife hne, if_neg (by simp [hA1])]
      exact exs_nil)]
    have i0 : ∀ (ρ : Ev) (σ : Hp), ρ 40 = some (.lst (natV A)) → ev (oB (n + 5)) (.op2 .idx (.var 40) (.int 0)) ρ σ = some (.int (k0 : Int), σ) := by
      intro ρ σ h
      rw [hk0] at h
      simp only [ev_op2, ev_var, ev_int, h, pre2, Option.map_some, Option.bind_some]
      exact idx_lst (x := 0) rfl (by simp [natV, lim])
    let O := (xs.filter fun x => decide (x ≠ xs.getD k0 0)).map fun x => ((x, false, mn (q.L z) - 1) : Lit)
    have hO : ((List.range xs.length).filter fun (k : Nat) => decide ((k : Int) ≠ (k0 : Int))).map (fun k => lv (xs.getD k 0, false, mn (q.L z) - 1)) = O.map lv := by
      show _ = (List.map _ (xs.filter _)).map lv
      rw [filter_getD xs, List.map_map, List.map_map]
      congr 1
      refine List.filter_congr fun k hk => ?_
      have hk' := List.mem_range.mp hk
      by_cases h : k = k0
      · simp [h]
      · have h2 : xs.getD k 0 ≠ xs.getD k0 0 := fun q => h (getD_inj nd hk' hk0m q)
        have h3 : (k : Int) ≠ (k0 : Int) := by omega
        rw [decide_eq_true h2, decide_eq_true h3]
    have hot : ev (oB (n + 5)) (.comp [2] (.tup (.cons (.op2 .idx (.var 36) (.var 2)) (.cons (.str (Str.ofString "<=")) (.cons (.op2 .sub (.var 39) (.int 1)) .nil)))) (.nm 2) (.op1 .rng1 (.op1 .len (.var 36))) (.cons (.cmp .ne (.var 2) (.op2 .idx (.var 40) (.int 0))) .nil) .nil) ρ2 σ = some (.lst (O.map lv), σ) := by
      rw [← hO]
      refine ev_compN (xs := List.range xs.length) (fun (k : Nat) => decide ((k : Int) ≠ (k0 : Int))) (fun k => lv (xs.getD k 0, false, mn (q.L z) - 1)) (rg _ _ e2.2.1) (rng_items hl') (fun k hk acc => ?_) (fun _ _ _ => okD_lv) (by rw [List.length_range]; unfold lim; omega)
      have hk' : k < xs.length := List.mem_range.mp hk
      refine ⟨evca_one (evc_cmpP (u := .int k) (v := .int k0) (by simp [ev, upd]) (i0 _ _ (by simp [upd, drops, a2])) o2_neI), fun _ => ?_⟩
      have := ix (upd 2 (.int (k : Int)) (drops [2] ρ2)) (σ ++ [.list acc]) k (by simp [upd, drops, e2.2.1]) (by simp [upd]) hk'
      simp only [ev_tup, evs_cons, this, evs_nil, Option.bind_some, Option.map_some, ev_str]
      simp [ev, upd, drops, l2, pre2, o2]
      rfl
    rw [exs_nxt (exe_asgU hot)]
    generalize hρ3 : upd 41 (.lst (O.map lv)) ρ2 = ρ3
    have e3 : EI xs z ρ3 := by rw [← hρ3]; exact e2.upd (by decide)
    have l3 : ρ3 39 = some (.int (mn (q.L z))) := by rw [← hρ3]; simp [upd, l2]
    have a3 : ρ3 40 = some (.lst (natV A)) := by rw [← hρ3]; simp [upd, a2]
    have o3 : ρ3 41 = some (.lst (O.map lv)) := by rw [← hρ3]; rfl
    clear hρ3
    have hOl : O.length ≤ 3 := by
      show (List.map _ _).length ≤ 3
      rw [List.length_map]
      exact Nat.le_trans (List.length_filter_le _ _) hl
    have hOl' : 1 + O.length ≤ lim := by unfold lim; omega
    have hOl'' : O.length + 1 ≤ lim := by unfold lim; omega
    obtain ⟨σ', b1, b2, b3⟩ := ev_strike (n := n) (x := xs.getD k0 0) (g := true) (k := mn (q.L z)) (R := (z, true, mn (q.L z)) :: O) (ρ := ρ3) (es := (.cons (.tup (.cons (.op2 .idx (.var 36) (.op2 .idx (.var 40) (.int 0))) (.cons (.str (Str.ofString ">=")) (.cons (.var 39) .nil)))) (.cons (.op1 .tuple (.op2 .add (.lstF (.cons (.tup (.cons (.var 34) (.cons (.str (Str.ofString ">=")) (.cons (.var 39) .nil)))) .nil)) (.var 41))) .nil)))
      e3.1 s hT hm (hx _ (getD_mem hk0m)) (by simp; omega) (by
        have h1 : ev (oB (n + 5)) (.op2 .idx (.var 36) (.op2 .idx (.var 40) (.int 0))) ρ3 σ = some (.int ((xs.getD k0 0 : Nat) : Int), σ) := by
          rw [ev_op2]
          simp only [ev_var, e3.2.1, i0 _ _ a3, pre2, Option.map_some, Option.bind_some]
          exact idx_tup (natV_get hk0m) hlv
        simp only [evs_cons, ev_tup, h1, evs_nil, Option.bind_some, Option.map_some, ev_str, ev_var, l3]
        simp [ev, evs, o3, e3.2.2, l3, o2, o1, view, hOl', hOl'', pre2, lvs, lv, litV, sg, GE])
    rw [hs4]
    exact ⟨_, σ', b1, b2, by rw [exs_ret (exe_ret b3)]⟩
  · have hs4 : s4 xs z q = (q, none) := by
      unfold s4
      rw [hAL]
      match A, hA1 with
      | [], _ => rfl
      | [_], h => exact absurd rfl h
      | _ :: _ :: _, _ => rfl
    rw [hs4]
    refine ⟨_, σ, Kp.refl, s, exs_ret (ρ' := ρ2) ?_⟩
    rw [exe_ife hne, if_pos (by simp; omega)]
    exact exs_ret (exe_ret ev_bool)
end
end Mine

end

section
namespace Mine
open PySem
set_option Elab.async false
set_option autoImplicit false
set_option linter.unusedSimpArgs false
set_option linter.unusedVariables false

section
variable {n : Nat} {σ : Hp} {F M : List V} {c : V} {m : Nat} {T0 : List TE} {q : Q} {ρ : Ev} {xs : List Nat} {z : Nat}

theorem run_once {ro ra : Nat} (i10 : σ[ro]? = some (.inst 1 ra)) (i9 : σ[ra]? = some (.attrs [(32, .int (-1)), (30, .tup (natV (xs ++ [z]))), (31, .str (Str.ofString "bounds"))]))
    (s : SQ m F M T0 q false c σ) (hT : (T0 ++ q.T).length ≤ 900) (hm : m ≤ 3) (hx : ∀ x ∈ xs, x ≤ m) (hz : z ≤ m) (hne : xs ≠ []) (hl : xs.length ≤ 3) (nd : xs.Nodup) :
    ∃ σ', run TB (n + 6) 23 [.ref ro, .ref 3] σ = some (.bool (onceP xs z q).2.isNone, σ') ∧ Kp [2, 4, 6, 8] σ σ' ∧ SQ m F M T0 (onceP xs z q).1 (onceP xs z q).2.isSome (clc c (onceP xs z q).2) σ' := by
  have hl' : xs.length ≤ lim := by unfold lim; omega
  have hl1 : xs.length + 1 ≤ lim := by unfold lim; omega
  have hpos : 1 ≤ xs.length := by cases xs with | nil => exact absurd rfl hne | cons _ _ => simp
  have hw : ∀ x, x ≤ m → Up (q.L x) ∧ q.L x ≠ [] ∧ (q.L x).length ≤ 4 := by obtain ⟨_, _, _, w⟩ := s; exact w
  rw [run_eq (fn := f_Greatest_once) rfl rfl]
  unfold f_Greatest_once
  dsimp only
  have hat : ∀ ρ : Ev, ρ 0 = some (.ref ro) → ev (oB (n + 5)) (.attr (.var 0) 30) ρ σ = some (.tup (natV (xs ++ [z])), σ) := by
    intro ρ h
    simp [ev, h, attrOf, i10, i9, getK]
  have hz1 : (natV (xs ++ [z]))[xs.length]? = some (.int (z : Int)) := by simp [natV]
  have hd : (natV (xs ++ [z])).dropLast = natV xs := by simp [natV]
  have hn1 : (natV (xs ++ [z])).length = xs.length + 1 := by simp [natV]
  have hsi : sIdx (-1) (xs.length + 1) = some xs.length := by
    unfold sIdx
    rw [if_neg (by decide), if_pos (by omega)]
    congr 1
    omega
  rw [exs_nxt (exe_asgT (l := [.tup (natV xs), .int (z : Int)]) (σ' := σ) (by
    have h0 : (updL [0, 35] [V.ref ro, V.ref 3] fun _ => none) 0 = some (.ref ro) := by simp [updL, upd]
    refine evT (evsC (evO2 (hat _ h0) rfl (evO1 ev_int rfl) (σ₃ := σ) ?_) (evs1 (evO2 (hat _ h0) rfl (evO1 ev_int rfl) ?_)))
    · simp only [o2, view, hn1, hd]
      rw [if_pos ⟨trivial, by omega, hl1⟩]
    · simp only [o2, view, hn1, hsi, hz1, pureV, Option.bind_some, Option.map_some]
      rw [if_pos (by simp [lim])]) rfl)]
  generalize hρ0 : (upd 34 (.int (z : Int)) (upd 36 (.tup (natV xs)) (updL [0, 35] [V.ref ro, V.ref 3] fun _ => none))) = ρ0
  have e0 : EI xs z ρ0 := by rw [← hρ0]; simp [EI, upd, updL]
  clear hρ0
  have hmx : ∀ (ρ : Ev), EI xs z ρ → ev (oB (n + 5)) (.comp [11] (.meth (.var 35) 4 (.cons (.var 11) .nil)) (.nm 11) (.var 36) .nil .nil) ρ σ = some (liV (xs.map fun x => mx (q.L x)), σ) := by
    intro ρ e
    have := ev_compN (C := oB (n + 5)) (ρ := ρ) (σ := σ) (σ₁ := σ) (ls := [11]) (elt := .meth (.var 35) 4 (.cons (.var 11) .nil)) (it := .var 36) (y := 11) (ifs := .nil) (X := .tup (natV xs)) (xs := xs) (fun _ => true) (fun x => .int (mx (q.L x)))
      (by simp [ev, e.2.1]) (natV_items hl') (fun x hx' acc => ⟨evca_nil, fun _ => ev_high (n := n + 3) (by simp [upd, drops, e.1]) s.app hm (hx x hx') (by simp [ev, upd])⟩) (fun _ _ _ => okD_int) (by unfold lim; omega)
    rw [this, filter_tt]
    simp [liV, Function.comp_def]
  rw [exs_nxt (exe_asg (v := .int (mostQ xs q.L)) (σ' := σ) (by
    rw [ev_op1, hmx _ e0]
    exact o1_maxL (by simpa using hne) (by rw [List.length_map]; exact hl')))]
  generalize hρ1 : upd 37 (.int (mostQ xs q.L)) ρ0 = ρ1
  have e1 : EI xs z ρ1 := by rw [← hρ1]; exact e0.upd (by decide)
  have m1 : ρ1 37 = some (.int (mostQ xs q.L)) := by rw [← hρ1]; rfl
  clear hρ1
  have hrs : ev (oB (n + 5)) (.comp [11] (.tup (.cons (.var 11) (.cons (.str (Str.ofString "<=")) (.cons (.var 37) .nil)))) (.nm 11) (.var 36) .nil .nil) ρ1 σ = some (.lst ((xs.map fun x => ((x, false, mostQ xs q.L) : Lit)).map lv), σ) := by
    have := ev_compN (C := oB (n + 5)) (ρ := ρ1) (σ := σ) (σ₁ := σ) (ls := [11]) (elt := .tup (.cons (.var 11) (.cons (.str (Str.ofString "<=")) (.cons (.var 37) .nil)))) (it := .var 36) (y := 11) (ifs := .nil) (X := .tup (natV xs)) (xs := xs) (fun _ => true) (fun x => lv (x, false, mostQ xs q.L))
      (by simp [ev, e1.2.1]) (natV_items hl') (fun x hx' acc => ⟨evca_nil, fun _ => by simp [ev, evs, upd, drops, m1, lv, litV, sg, LE]⟩) (fun _ _ _ => okD_lv) (by unfold lim; omega)
    rw [this, filter_tt, List.map_map]
    rfl
  obtain ⟨σ1, k1, q1, x1⟩ := exe_strike (n := n) (x := z) (g := false) (k := mostQ xs q.L) (R := xs.map fun x => (x, false, mostQ xs q.L)) (ρ := ρ1) (es := (.cons (.tup (.cons (.var 34) (.cons (.str (Str.ofString "<=")) (.cons (.var 37) .nil)))) (.cons (.op1 .tuple (.comp [11] (.tup (.cons (.var 11) (.cons (.str (Str.ofString "<=")) (.cons (.var 37) .nil)))) (.nm 11) (.var 36) .nil .nil)) .nil)))
    e1.1 s (by omega) hm hz (by rw [List.length_map]; omega) (by
      refine evsC (evT (evsC (evV e1.2.2) (evsC ev_str (evs1 (evV m1))))) (evs1 (evO1 hrs ?_))
      simp only [o1, view]
      rw [if_pos (by simpa using hl')]
      rfl)
  have hs1 : strP z false (mostQ xs q.L) (xs.map fun x => (x, false, mostQ xs q.L)) q = s1 xs z q := rfl
  rw [hs1] at x1 q1
  rw [exs_flo x1]
  unfold onceP
  cases h1 : (s1 xs z q).2 with
  | some l =>
    rw [h1] at q1
    rw [andQ_some (r := s1 xs z q) h1, andQ_some (r := s1 xs z q) h1, andQ_some (r := s1 xs z q) h1, h1]
    exact ⟨σ1, rfl, k1, q1⟩
  | none =>
  rw [h1] at q1
  rw [andQ_none (r := s1 xs z q) h1]
  have T1 := s1_T (q := q) (xs := xs) (z := z)
  dsimp only [kOn]
  -- the first loop
  rw [List.length_append] at hT
  have hb1 : (T0 ++ (s1 xs z q).1.T).length + xs.length ≤ 1000 := by rw [List.length_append]; omega
  obtain ⟨ρ2, σ2, k2, q2, e2, x2⟩ := loop_strike (f := sA z) (I := EI xs z) (body := fun v ρ' σ' => (bindTg (.nm 11) v ρ').bind fun ρ'' => exs (oB (n + 5))
     (.cons (.ife (.not (.val (.meth (.var 35) 38 (.cons (.tup (.cons (.var 34) (.cons (.str (Str.ofString ">=")) (.cons (.meth (.var 35) 3 (.cons (.var 11) .nil)) .nil)))) (.cons (.tup (.cons (.tup (.cons (.var 11) (.cons (.str (Str.ofString ">=")) (.cons (.meth (.var 35) 3 (.cons (.var 11) .nil)) .nil)))) .nil)) .nil)))))
    (.cons (.ret (.bool false))
    .nil)
    .nil)
   .nil) ρ'' σ') (fun _ _ => strP_T) xs (s1 xs z q).1 ρ1 σ1 (by
      intro x hx' ρ σ q e s hT
      have e' : EI xs z (upd 11 (.int (x : Int)) ρ) := e.upd (by decide)
      have hlo := ev_low (n := n + 3) (e := .var 11) e'.1 s hm (hx x hx') (by simp [ev, upd])
      obtain ⟨σ', a1, a2, a3⟩ := exe_strike (n := n) (x := z) (g := true) (k := mn (q.L x)) (R := [(x, true, mn (q.L x))]) (ρ := upd 11 (.int (x : Int)) ρ) (es := (.cons (.tup (.cons (.var 34) (.cons (.str (Str.ofString ">=")) (.cons (.meth (.var 35) 3 (.cons (.var 11) .nil)) .nil)))) (.cons (.tup (.cons (.tup (.cons (.var 11) (.cons (.str (Str.ofString ">=")) (.cons (.meth (.var 35) 3 (.cons (.var 11) .nil)) .nil)))) .nil)) .nil)))
        e'.1 s hT hm hz (by simp) (by
          exact evsC (evT (evsC (evV e'.2.2) (evsC ev_str (evs1 hlo)))) (evs1 (evT (evs1 (evT (evsC (evV rfl) (evsC ev_str (evs1 hlo))))))))
      refine ⟨_, σ', a1, a2, e', ?_⟩
      simp only [bindTg, Option.bind_some]
      rw [exs_flo a3]
      unfold sA
      cases (strP z true (mn (q.L x)) [(x, true, mn (q.L x))] q).2 with
      | none => exact exs_nil (C := oB (n + 5))
      | some _ => rfl) e1 q1 hb1
  rw [exs_flo ((exe_for (X := .tup (natV xs)) (by simp [ev, e1.2.1]) (natV_items hl')).trans x2)]
  have T2 := chain_T (f := sA z) (fun _ _ => strP_T) xs (s1 xs z q).1
  generalize hr2 : chain (xs.map (sA z)) (s1 xs z q).1 = r2 at *
  cases h2 : r2.2 with
  | some l =>
    rw [h2] at q2
    rw [andQ_some h2, andQ_some h2, h2]
    exact ⟨σ2, rfl, k1.trans k2, q2⟩
  | none =>
  rw [h2] at q2
  rw [andQ_none h2]
  dsimp only [kOn]
  -- the second loop
  have hb2 : (T0 ++ r2.1.T).length + xs.length ≤ 1000 := by rw [List.length_append]; omega
  obtain ⟨ρ3, σ3, k3, q3, e3, x3⟩ := loop_strike (f := sB z) (I := EI xs z) (body := fun v ρ' σ' => (bindTg (.nm 11) v ρ').bind fun ρ'' => exs (oB (n + 5))
     (.cons (.ife (.not (.val (.meth (.var 35) 38 (.cons (.tup (.cons (.var 11) (.cons (.str (Str.ofString "<=")) (.cons (.meth (.var 35) 4 (.cons (.var 34) .nil)) .nil)))) (.cons (.tup (.cons (.tup (.cons (.var 34) (.cons (.str (Str.ofString "<=")) (.cons (.meth (.var 35) 4 (.cons (.var 34) .nil)) .nil)))) .nil)) .nil)))))
    (.cons (.ret (.bool false))
    .nil)
    .nil)
   .nil) ρ'' σ') (fun _ _ => strP_T) xs r2.1 ρ2 σ2 (by
      intro x hx' ρ σ q e s hT
      have e' : EI xs z (upd 11 (.int (x : Int)) ρ) := e.upd (by decide)
      have hlo := ev_high (n := n + 3) (e := .var 34) e'.1 s hm hz (by simp [ev, e'.2.2])
      obtain ⟨σ', a1, a2, a3⟩ := exe_strike (n := n) (x := x) (g := false) (k := mx (q.L z)) (R := [(z, false, mx (q.L z))]) (ρ := upd 11 (.int (x : Int)) ρ) (es := (.cons (.tup (.cons (.var 11) (.cons (.str (Str.ofString "<=")) (.cons (.meth (.var 35) 4 (.cons (.var 34) .nil)) .nil)))) (.cons (.tup (.cons (.tup (.cons (.var 34) (.cons (.str (Str.ofString "<=")) (.cons (.meth (.var 35) 4 (.cons (.var 34) .nil)) .nil)))) .nil)) .nil)))
        e'.1 s hT hm (hx x hx') (by simp) (by
          exact evsC (evT (evsC (evV rfl) (evsC ev_str (evs1 hlo)))) (evs1 (evT (evs1 (evT (evsC (evV e'.2.2) (evsC ev_str (evs1 hlo))))))))
      refine ⟨_, σ', a1, a2, e', ?_⟩
      simp only [bindTg, Option.bind_some]
      rw [exs_flo a3]
      unfold sB
      cases (strP x false (mx (q.L z)) [(z, false, mx (q.L z))] q).2 with
      | none => exact exs_nil (C := oB (n + 5))
      | some _ => rfl) e2 q2 hb2
  rw [exs_flo ((exe_for (X := .tup (natV xs)) (by simp [ev, e2.2.1]) (natV_items hl')).trans x3)]
  have T3 := chain_T (f := sB z) (fun _ _ => strP_T) xs r2.1
  generalize hr3 : chain (xs.map (sB z)) r2.1 = r3 at *
  cases h3 : r3.2 with
  | some l =>
    rw [h3] at q3
    rw [andQ_some h3, h3]
    exact ⟨σ3, rfl, (k1.trans k2).trans k3, q3⟩
  | none =>
  rw [h3] at q3
  rw [andQ_none h3]
  dsimp only [kOn]
  have hb3 : (T0 ++ r3.1.T).length ≤ 1000 := by rw [List.length_append]; omega
  obtain ⟨ρ4, σ4, k4, q4, x4⟩ := tail_once (n := n) e3 q3 hb3 hm hx hz hl nd
  rw [x4]
  exact ⟨σ4, rfl, ((k1.trans k2).trans k3).trans k4, q4⟩
end
end Mine

end

section
namespace Mine
open PySem
set_option Elab.async false
set_option autoImplicit false
set_option linter.unusedSimpArgs false
set_option linter.unusedVariables false

theorem app_get {σ : Hp} {a : MO} : (σ ++ [a])[σ.length]? = some a := by simp
theorem app_set {σ : Hp} {a b : MO} : (σ ++ [a]).set σ.length b = σ ++ [b] := by simp
theorem eqD_rl {σ : Hp} {i : Nat} {l l' : List V} (h : σ[i]? = some (.list l)) (ok : okD 20 (.lst l) = true) (ok' : okD 20 (.lst l') = true) : eqD σ (.ref i) (.lst l') = some (@decide (l = l') (Classical.propDecidable _)) := by
  have hv : view σ (.ref i) = .lst l := by simp only [view, h]
  have hv' : view σ (.lst l') = .lst l' := rfl
  unfold eqD
  show (if okD 20 (view σ (.ref i)) && okD 20 (view σ (.lst l')) then some (@decide (view σ (.ref i) = view σ (.lst l')) (Classical.propDecidable _)) else none) = _
  rw [hv, hv', ok, ok']
  simp
theorem ne_rl_t {σ : Hp} {i : Nat} {l l' : List V} (h : σ[i]? = some (.list l)) (ok : okD 20 (.lst l) = true) (ok' : okD 20 (.lst l') = true) (e : l ≠ l') : o2 .ne (.ref i) (.lst l') σ = some (.bool true, σ) := by
  simp only [o2, eqD_rl h ok ok', Option.map_some, @decide_eq_false _ (Classical.propDecidable _) e, Bool.not_false]
theorem ne_rl_f {σ : Hp} {i : Nat} {l l' : List V} (h : σ[i]? = some (.list l)) (ok : okD 20 (.lst l) = true) (ok' : okD 20 (.lst l') = true) (e : l = l') : o2 .ne (.ref i) (.lst l') σ = some (.bool false, σ) := by
  simp only [o2, eqD_rl h ok ok', Option.map_some, @decide_eq_true _ (Classical.propDecidable _) e, Bool.not_true]
theorem okD_sps {n : Nat} {d : List (Int × Int)} : okD (n + 2) (.lst (d.map spV)) = true := by
  rw [okD_lst', List.all_map, List.all_eq_true]
  intro p _
  simp [spV, okD_tup', okD_int]
theorem idxm1_ref {σ : Hp} {j : Nat} {l : List V} {v : V} (h : σ[j]? = some (.list (l ++ [v]))) (hl : (l ++ [v]).length ≤ lim) : o2 .idx (.ref j) (.int (-1)) σ = some (v, σ) := by
  simp only [o2, view, h]
  have h1 : sIdx (-1) (l ++ [v]).length = some l.length := by
    unfold sIdx
    rw [if_neg (by decide), if_pos (by simp; omega)]
    congr 1
    simp; omega
  rw [if_pos ⟨by simp [lim], hl⟩, h1]
  simp [pureV]
theorem stm1 {σ : Hp} {j : Nat} {l : List V} {v w : V} (h : σ[j]? = some (.list (l ++ [v]))) (hl : (l ++ [v]).length ≤ lim) : store (.ref j) (.int (-1)) w σ = some (σ.set j (.list (l ++ [w]))) := by
  simp only [store, h]
  have h1 : sIdx (-1) (l ++ [v]).length = some l.length := by
    unfold sIdx
    rw [if_neg (by decide), if_pos (by simp; omega)]
    congr 1
    simp; omega
  rw [if_pos ⟨by simp [lim], hl⟩, h1]
  simp
theorem neg1 {C : Orc} {ρ : Ev} {σ : Hp} : ev C (.op1 .neg (.int 1)) ρ σ = some (.int (-1), σ) := evO1 ev_int rfl
theorem addS_len {acc : List (Int × Int)} {v : Int} : (addS acc v).length ≤ acc.length + 1 := by
  rcases snoc_cases acc with h | ⟨i, p, h⟩
  · rw [h, addS_nil]; simp
  · rw [h, addS_snoc]
    split <;> simp

section
variable {n : Nat} {σ : Hp} {ρ : Ev}
theorem spans_step {C : Orc} {v : Int} {acc : List (Int × Int)} (h7 : ρ 7 = some (.ref σ.length)) (hl : acc.length < lim) (h5 : ρ 5 = some (.int v)) : exs C (.cons (.ife (.and (.cons (.cmp .ne (.var 7) (.lstF .nil)) (.cons (.cmp .eq (.op2 .idx (.op2 .idx (.var 7) (.op1 .neg (.int 1))) (.int 1)) (.op2 .sub (.var 5) (.int 1))) .nil)))
    (.cons (.asgI (.var 7) (.op1 .neg (.int 1)) (.tup (.cons (.op2 .idx (.op2 .idx (.var 7) (.op1 .neg (.int 1))) (.int 0)) (.cons (.var 5) .nil))))
    .nil)
    (.cons (.expr (.op2 .app (.var 7) (.tup (.cons (.var 5) (.cons (.var 5) .nil)))))
    .nil))
   .nil) ρ (σ ++ [.list (acc.map spV)]) = some (.nxt, ρ, σ ++ [.list ((addS acc v).map spV)]) := by
  have hg : (σ ++ [MO.list (acc.map spV)])[σ.length]? = some (.list (acc.map spV)) := app_get
  have happ : exs C (.cons (.expr (.op2 .app (.var 7) (.tup (.cons (.var 5) (.cons (.var 5) .nil))))) .nil) ρ (σ ++ [.list (acc.map spV)]) = some (.nxt, ρ, σ ++ [.list ((acc ++ [(v, v)]).map spV)]) := by
    rw [exs_nxt (exe_expr (v := .none) (evO2 (evV h7) (by simp only [pre2, hg]) (evT (evsC (evV h5) (evs1 (evV h5)))) (app_ref hg (by rw [List.length_map]; omega))) (.inl rfl)), exs_nil, app_set]
    simp [spV]
  rcases snoc_cases acc with h | ⟨i, p, h⟩
  · subst h
    rw [exs_nxt (ρ' := ρ) (σ' := σ ++ [.list ((addS [] v).map spV)]) ?_, exs_nil]
    rw [exe_ife (evc_and2 (t := false) (u := true) (evc_cmpP (u := .ref σ.length) (v := .lst []) (evV h7) (evL evs0) (ne_rl_f hg rfl rfl rfl)) (by simp))]
    rw [if_neg (by simp)]
    exact happ
  · subst h
    have hg' : (σ ++ [MO.list ((i ++ [p]).map spV)])[σ.length]? = some (.list (i.map spV ++ [spV p])) := by rw [hg]; simp
    have hl2 : (i.map spV ++ [spV p]).length ≤ lim := by simp at hl ⊢; omega
    have hi : ev C (.op2 .idx (.var 7) (.op1 .neg (.int 1))) ρ (σ ++ [.list ((i ++ [p]).map spV)]) = some (spV p, σ ++ [.list ((i ++ [p]).map spV)]) := evO2 (evV h7) rfl neg1 (idxm1_ref hg' hl2)
    rw [exs_nxt (ρ' := ρ) (σ' := σ ++ [.list ((addS (i ++ [p]) v).map spV)]) ?_, exs_nil]
    have hb : o2 .idx (spV p) (.int 1) (σ ++ [.list ((i ++ [p]).map spV)]) = some (.int p.2, σ ++ [.list ((i ++ [p]).map spV)]) := idx_tup (x := 1) rfl (by simp [lim])
    have ha : o2 .idx (spV p) (.int 0) (σ ++ [.list ((i ++ [p]).map spV)]) = some (.int p.1, σ ++ [.list ((i ++ [p]).map spV)]) := idx_tup (x := 0) rfl (by simp [lim])
    rw [exe_ife (evc_and2 (t := true) (u := decide (p.2 = v - 1)) (evc_cmpP (u := .ref σ.length) (v := .lst []) (evV h7) (evL evs0) (ne_rl_t hg okD_sps rfl (by simp)))
      (fun _ => evc_cmpP (u := .int p.2) (v := .int (v - 1)) (evO2 hi rfl ev_int hb) (evO2 (evV h5) rfl ev_int rfl) o2_eqI))]
    rw [addS_snoc]
    by_cases c : p.2 = v - 1
    · rw [if_pos (by simp [c]), if_pos c]
      rw [exs_nxt (exe_asgI (v := spV (p.1, v)) (w := .ref σ.length) (u := .int (-1)) (evT (evsC (evO2 hi rfl ev_int ha) (evs1 (evV h5)))) (evV h7) neg1 (stm1 hg' hl2)), exs_nil, app_set]
      simp
    · rw [if_neg (by simp [c]), if_neg c]
      exact happ
theorem run_spans {l : List Int} (hl : l.length < lim) : run TB (n + 1) 25 [liV l] σ = some (doV (spans l), σ ++ [.list ((spans l).map spV)]) := by
  rw [run_eq (fn := f_law_spans) rfl rfl]
  unfold f_law_spans
  dsimp only
  rw [exs_nxt (exe_asg ev_lstM)]
  have key : ∀ (l : List Int) (acc : List (Int × Int)) (ρ : Ev), ρ 7 = some (.ref σ.length) → acc.length + l.length < lim → ∃ ρ', ρ' 7 = some (.ref σ.length) ∧ loopS (fun x ρ' σ' => (bindTg (.nm 5) x ρ').bind fun ρ'' => exs (oB n) (.cons (.ife (.and (.cons (.cmp .ne (.var 7) (.lstF .nil)) (.cons (.cmp .eq (.op2 .idx (.op2 .idx (.var 7) (.op1 .neg (.int 1))) (.int 1)) (.op2 .sub (.var 5) (.int 1))) .nil)))
    (.cons (.asgI (.var 7) (.op1 .neg (.int 1)) (.tup (.cons (.op2 .idx (.op2 .idx (.var 7) (.op1 .neg (.int 1))) (.int 0)) (.cons (.var 5) .nil))))
    .nil)
    (.cons (.expr (.op2 .app (.var 7) (.tup (.cons (.var 5) (.cons (.var 5) .nil)))))
    .nil))
   .nil) ρ'' σ') (l.map .int) ρ (σ ++ [.list (acc.map spV)]) = some (.nxt, ρ', σ ++ [.list ((l.foldl addS acc).map spV)]) := by
    intro l
    induction l with
    | nil => intro acc ρ h _; exact ⟨ρ, h, rfl⟩
    | cons v l ih =>
      intro acc ρ h hl
      have h' : upd 5 (.int v) ρ 7 = some (.ref σ.length) := by simp [upd, h]
      have := addS_len (acc := acc) (v := v)
      obtain ⟨ρ', a, b⟩ := ih (addS acc v) (upd 5 (.int v) ρ) h' (by simp at hl; omega)
      refine ⟨ρ', a, ?_⟩
      simp only [List.map_cons, loopS, bindTg, Option.bind_some]
      rw [spans_step (v := v) h' (by simp at hl; omega) (by simp [upd])]
      exact b
  obtain ⟨ρ', a, b⟩ := key l [] (upd 7 (.ref σ.length) (updL [44] [liV l] fun _ => none)) (by simp [upd]) (by simpa using hl)
  have hit : itemsI (liV l) = some (l.map .int) := by
    unfold liV
    simp only [itemsI]
    rw [if_pos (by simp; omega)]
  rw [exs_nxt ((exe_for (X := liV l) (σ := σ ++ [MO.list []]) (σ' := σ ++ [MO.list []]) (evV (by simp [upd, updL])) hit).trans b)]
  have hsl : ((spans l).map spV).length ≤ lim := by
    have := spans_len l
    rw [List.length_map]; omega
  rw [exs_ret (exe_ret (v := doV (spans l)) (σ' := σ ++ [.list ((spans l).map spV)]) (evO1 (evV a) (by
    show o1 .tuple (.ref σ.length) (σ ++ [.list ((spans l).map spV)]) = _
    simp only [o1, view, app_get, hsl, if_true]
    rfl)))]
  rfl

theorem evc_ite' {C : Orc} {c a b : Cn} {t u : Bool} {σ₁ σ₂ : Hp} (h : evc C c ρ σ = some (t, σ₁)) (h1 : t = true → evc C a ρ σ₁ = some (u, σ₂)) (h2 : t = false → evc C b ρ σ₁ = some (u, σ₂)) : evc C (.ite c a b) ρ σ = some (u, σ₂) := by
  simp only [evc, h, Option.bind_some]
  cases t with
  | true => exact h1 rfl
  | false => exact h2 rfl
theorem ev_ite' {C : Orc} {c : Cn} {a b : Ex} {t : Bool} {u : V} {σ₁ σ₂ : Hp} (h : evc C c ρ σ = some (t, σ₁)) (h1 : t = true → ev C a ρ σ₁ = some (u, σ₂)) (h2 : t = false → ev C b ρ σ₁ = some (u, σ₂)) : ev C (.ite c a b) ρ σ = some (u, σ₂) := by
  rw [ev_ite, h, Option.bind_some]
  cases t with
  | true => exact h1 rfl
  | false => exact h2 rfl
theorem sg_le {g : Bool} : o2 .eq (.str (sg g)) (.str (Str.ofString "<=")) σ = some (.bool (!g), σ) := by
  cases g with
  | true => exact o2_eq_f ok_GE ok_LE (by intro h; exact ne_GL (V.str.inj h))
  | false => exact o2_eq_t ok_LE ok_LE rfl
theorem liV_items {l : List Int} (h : l.length ≤ lim) : itemsI (liV l) = some (l.map .int) := by
  unfold liV
  simp only [itemsI]
  rw [if_pos (by simpa using h)]
theorem run_kept {l : List Int} {g : Bool} {k : Int} (hl : l.length < lim) : run TB (n + 1) 27 [liV l, .str (sg g), .int k] σ = some (liV (kept g k l), σ) := by
  rw [run_eq (fn := f_law_kept) rfl rfl]
  unfold f_law_kept
  dsimp only
  rw [exs_ret (exe_ret (v := liV (kept g k l)) (σ' := σ) ?_)]
  · rfl
  have := ev_comp1 (C := oB n) (ρ := updL [44, 12, 2] [liV l, .str (sg g), .int k] fun _ => none) (σ := σ) (ls := [5]) (elt := .var 5) (it := .var 44) (t := .nm 5) (ifs := (.cons (.ite (.cmp .eq (.var 12) (.str (Str.ofString "<="))) (.cmp .le (.var 5) (.var 2)) (.cmp .ge (.var 5) (.var 2))) .nil)) (X := liV l) (l := l.map .int) (σ₁ := σ)
    (fun v => match v with | .int v => if g then decide (k ≤ v) else decide (v ≤ k) | _ => false) id (evV (by simp [upd, updL])) (liV_items (by omega)) ?_ ?_ (by simpa using hl)
  · rw [this]
    congr 2
    unfold kept liV
    rw [List.map_id, List.filter_map]
    rfl
  · intro v hv acc
    obtain ⟨x, hx, rfl⟩ := List.mem_map.mp hv
    refine ⟨_, rfl, evca_one (evc_ite' (t := !g) (evc_cmpP (u := .str (sg g)) (v := .str (Str.ofString "<=")) (evV (by simp [upd, updL, drops])) ev_str sg_le) (fun h => ?_) (fun h => ?_)), fun _ => evV (by simp [upd])⟩
    · have : g = false := by simpa using h
      subst this
      exact evc_cmpP (u := .int x) (v := .int k) (evV (by simp [upd])) (evV (by simp [upd, updL, drops])) rfl
    · have : g = true := by simpa using h
      subst this
      exact evc_cmpP (u := .int x) (v := .int k) (evV (by simp [upd])) (evV (by simp [upd, updL, drops])) rfl
  · intro v hv _
    obtain ⟨x, hx, rfl⟩ := List.mem_map.mp hv
    exact okD_int
end

/-- the dict of the lots -/
def dic (ks : List Nat) (L : LF) : List (Int × V) := ks.map fun (x : Nat) => ((x : Int), liV (L x))
theorem dic_get {ks : List Nat} {L : LF} {x : Nat} (h : x ∈ ks) : getK (x : Int) (dic ks L) = some (liV (L x)) := by
  unfold getK dic
  induction ks with
  | nil => cases h
  | cons y ks ih =>
    rw [List.map_cons, List.find?_cons]
    by_cases e : y = x
    · subst e; simp
    · have : decide ((y : Int) = (x : Int)) = false := by simp; omega
      simp only [this]
      exact ih ((List.mem_cons.mp h).resolve_left (fun q => e q.symm))
theorem dic_len {ks : List Nat} {L : LF} : (dic ks L).length = ks.length := by simp [dic]
theorem dic_put {ks : List Nat} {L : LF} {x : Nat} {l : List Int} (h : x ∈ ks) : putK (x : Int) (liV l) (dic ks L) = dic ks (upf x l L) := by
  unfold putK
  rw [if_pos (by
    rw [List.any_eq_true]
    exact ⟨((x : Int), liV (L x)), List.mem_map.mpr ⟨x, h, rfl⟩, by simp⟩)]
  unfold dic
  rw [List.map_map]
  refine List.map_congr_left fun y _ => ?_
  simp only [Function.comp, upf]
  by_cases e : y = x
  · subst e; simp
  · have : ¬ (y : Int) = (x : Int) := by omega
    simp [e, this]
theorem dic_new {ks : List Nat} {L : LF} {x : Nat} {l : List Int} (h : x ∉ ks) : putK (x : Int) (liV l) (dic ks L) = dic (ks ++ [x]) (upf x l L) := by
  unfold putK
  rw [if_neg (by
    rw [List.any_eq_true]
    rintro ⟨p, hp, e⟩
    obtain ⟨y, hy, rfl⟩ := List.mem_map.mp hp
    simp at e
    have : y = x := by omega
    subst this
    exact h hy)]
  unfold dic
  rw [List.map_append]
  congr 1
  · refine List.map_congr_left fun y hy => ?_
    have : y ≠ x := fun e => h (e ▸ hy)
    simp [upf, this]
  · simp [upf]
end Mine

end

section
namespace Mine
open PySem
set_option Elab.async false
set_option autoImplicit false
set_option linter.unusedSimpArgs false
set_option linter.unusedVariables false

theorem addT {a b : List V} {σ : Hp} (h : a.length + b.length ≤ lim) : o2 .add (.tup a) (.tup b) σ = some (.tup (a ++ b), σ) := by simp only [o2, if_pos h]
theorem addL {a b : List V} {σ : Hp} (h : a.length + b.length ≤ lim) : o2 .add (.lst a) (.lst b) σ = some (.lst (a ++ b), σ) := by simp only [o2, if_pos h]

theorem evCB {n f : Nat} {es : Exs} {l : List V} {r : Option (V × Hp)} {ρ : Ev} {σ σ₁ : Hp} (h : evs (oB n) es ρ σ = some (l, σ₁)) (h2 : run TB n f l σ₁ = r) : ev (oB n) (.call f es) ρ σ = r := evCall h h2
theorem Kp.new {σ σ' : Hp} {l : List MO} {S : List Nat} (h : Kp S (σ ++ l) σ') (hS : ∀ i ∈ S, σ.length ≤ i) : Kp [] σ σ' := by
  intro i o _ e
  have := (List.getElem?_eq_some_iff.mp e).1
  refine h i o (fun q => ?_) (Kp.app i o (S := []) (by simp) e)
  have := hS i q
  omega
section
variable {n : Nat} {σ : Hp} {ρ : Ev} {a b : Nat} {ks : List Nat} {q : Q}

theorem run_lstruck {x : Nat} {g : Bool} {k : Int} {R : List Lit} (hab : a ≠ b) (ha : σ[a]? = some (.dictI (dic ks q.L))) (hb : σ[b]? = some (.list (q.T.map TE.v)))
    (hx : x ∈ ks) (hks : ks.length ≤ 100) (hT : q.T.length ≤ 1000) (hR : R.length ≤ 100) (hl : (q.L x).length ≤ 4) (hu : Up (q.L x)) :
    ∃ σ', run TB (n + 2) 28 [.ref a, .ref b, lv (x, g, k), lvs R] σ = some (clc .none (strP x g k R q).2, σ') ∧ Kp [a, b] σ σ' ∧
      σ'[a]? = some (.dictI (dic ks (strP x g k R q).1.L)) ∧ σ'[b]? = some (.list ((strP x g k R q).1.T.map TE.v)) := by
  have hlim : (q.L x).length < lim := by unfold lim; omega
  rw [run_eq (fn := f_law_struck) rfl rfl]
  unfold f_law_struck
  dsimp only
  rw [exs_nxt (exe_asgT (l := [.int x, .str (sg g), .int k]) (σ' := σ) (evV rfl) rfl)]
  generalize hρ : upd 2 (.int k) (upd 12 (.str (sg g)) (upd 11 (.int (x : Int)) (updL [48, 49, 10, 23] [V.ref a, .ref b, lv (x, g, k), lvs R] fun _ => none))) = ρ
  have r48 : ρ 48 = some (.ref a) := by rw [← hρ]; rfl
  have r49 : ρ 49 = some (.ref b) := by rw [← hρ]; rfl
  have r10 : ρ 10 = some (lv (x, g, k)) := by rw [← hρ]; rfl
  have r23 : ρ 23 = some (lvs R) := by rw [← hρ]; rfl
  have r11 : ρ 11 = some (.int (x : Int)) := by rw [← hρ]; rfl
  have r12 : ρ 12 = some (.str (sg g)) := by rw [← hρ]; rfl
  have r2 : ρ 2 = some (.int k) := by rw [← hρ]; rfl
  have hix : ev (oB (n + 1)) (.op2 .idx (.var 48) (.var 11)) ρ σ = some (liV (q.L x), σ) := evO2 (evV r48) rfl (evV r11) (idx_dict ha (dic_get hx))
  rw [exs_nxt (exe_asg (v := liV (kept g k (q.L x))) (σ' := σ) (evCB (evsC hix (evsC (evV r12) (evs1 (evV r2)))) (run_kept hlim)))]
  generalize hρ2 : upd 50 (liV (kept g k (q.L x))) ρ = ρ'
  have s48 : ρ' 48 = some (.ref a) := by rw [← hρ2]; simp [upd, r48]
  have s49 : ρ' 49 = some (.ref b) := by rw [← hρ2]; simp [upd, r49]
  have s10 : ρ' 10 = some (lv (x, g, k)) := by rw [← hρ2]; simp [upd, r10]
  have s23 : ρ' 23 = some (lvs R) := by rw [← hρ2]; simp [upd, r23]
  have s11 : ρ' 11 = some (.int (x : Int)) := by rw [← hρ2]; simp [upd, r11]
  have s12 : ρ' 12 = some (.str (sg g)) := by rw [← hρ2]; simp [upd, r12]
  have s2 : ρ' 2 = some (.int k) := by rw [← hρ2]; simp [upd, r2]
  have s50 : ρ' 50 = some (liV (kept g k (q.L x))) := by rw [← hρ2]; simp [upd]
  clear hρ hρ2
  have hix : ev (oB (n + 1)) (.op2 .idx (.var 48) (.var 11)) ρ' σ = some (liV (q.L x), σ) := evO2 (evV s48) rfl (evV s11) (idx_dict ha (dic_get hx))
  by_cases c1 : kept g k (q.L x) = []
  · have hs : strP x g k R q = (q, some (R ++ [neg (x, g, k)])) := by unfold strP; rw [if_pos c1]
    rw [hs]
    refine ⟨σ, ?_, Kp.refl, ha, hb⟩
    have hneg : ev (oB (n + 1)) (.ite (.cmp .eq (.var 12) (.str (Str.ofString "<="))) (.tup (.cons (.var 11) (.cons (.str (Str.ofString ">=")) (.cons (.op2 .add (.var 2) (.int 1)) .nil)))) (.tup (.cons (.var 11) (.cons (.str (Str.ofString "<=")) (.cons (.op2 .sub (.var 2) (.int 1)) .nil))))) ρ' σ = some (lv (neg (x, g, k)), σ) := by
      refine ev_ite' (t := !g) (evc_cmpP (evV s12) ev_str sg_le) (fun h => ?_) (fun h => ?_)
      · have : g = false := by simpa using h
        subst this
        exact evT (evsC (evV s11) (evsC ev_str (evs1 (evO2 (evV s2) rfl ev_int rfl))))
      · have : g = true := by simpa using h
        subst this
        exact evT (evsC (evV s11) (evsC ev_str (evs1 (evO2 (evV s2) rfl ev_int rfl))))
    have he : exs (oB (n + 1)) (.cons (.ret (.op2 .add (.var 23) (.tup (.cons (.ite (.cmp .eq (.var 12) (.str (Str.ofString "<="))) (.tup (.cons (.var 11) (.cons (.str (Str.ofString ">=")) (.cons (.op2 .add (.var 2) (.int 1)) .nil)))) (.tup (.cons (.var 11) (.cons (.str (Str.ofString "<=")) (.cons (.op2 .sub (.var 2) (.int 1)) .nil))))) .nil)))) .nil) ρ' σ = some (.ret (lvs (R ++ [neg (x, g, k)])), ρ', σ) := by
      refine exs_ret (exe_ret (evO2 (evV s23) rfl (evT (evs1 hneg)) ?_))
      unfold lvs
      rw [addT (by simp [lim]; omega)]
      simp
    rw [exs_ret (v := lvs (R ++ [neg (x, g, k)])) (ρ' := ρ') (σ' := σ) (by
      rw [exe_ife (t := true) (σ' := σ) (evc_cmpP (u := liV (kept g k (q.L x))) (v := .lst []) (evV s50) (evL evs0) (o2_eq_t okD_liV rfl (by rw [c1]; rfl))), if_pos rfl]
      exact he)]
    rfl
  · rw [exs_nxt (ρ' := ρ') (σ' := σ) (by
      rw [exe_ife (t := false) (σ' := σ) (evc_cmpP (u := liV (kept g k (q.L x))) (v := .lst []) (evV s50) (evL evs0) (o2_eq_f okD_liV rfl (by
        intro h
        exact c1 (liV_inj (h.trans (rfl : V.lst [] = liV [])))))), if_neg (by decide)]
      exact exs_nil)]
    by_cases c2 : kept g k (q.L x) = q.L x
    · have hs : strP x g k R q = (q, none) := by unfold strP; rw [if_neg c1, if_pos c2]
      rw [hs]
      refine ⟨σ, ?_, Kp.refl, ha, hb⟩
      rw [exs_nxt (ρ' := ρ') (σ' := σ) (by
        rw [exe_ife (t := false) (σ' := σ) (evc_cmpP (u := liV (kept g k (q.L x))) (v := liV (q.L x)) (evV s50) hix (o2_ne_f okD_liV okD_liV (by rw [c2]))), if_neg (by decide)]
        exact exs_nil)]
      rw [exs_ret (exe_ret ev_none)]
      rfl
    · have hs : strP x g k R q = (⟨upf x (kept g k (q.L x)) q.L, q.T ++ [⟨x, q.L x, lv (x, g, k), lvs R⟩]⟩, none) := by unfold strP; rw [if_neg c1, if_neg c2]
      rw [hs]
      let σ1 := σ ++ [MO.list ((spans (q.L x)).map spV)]
      let e : TE := ⟨x, q.L x, lv (x, g, k), lvs R⟩
      let σ2 := σ1.set b (.list (q.T.map TE.v ++ [e.v]))
      let σ3 := σ2.set a (.dictI (putK (x : Int) (liV (kept g k (q.L x))) (dic ks q.L)))
      have kk : Kp [a, b] σ σ1 := Kp.app
      have ha1 : σ1[a]? = some (.dictI (dic ks q.L)) := Kp.app (S := []) _ _ (by simp) ha
      have hb1 : σ1[b]? = some (.list (q.T.map TE.v)) := Kp.app (S := []) _ _ (by simp) hb
      have ha2 : σ2[a]? = some (.dictI (dic ks q.L)) := set_ne ha1 (fun h => hab h.symm)
      have hb2 : σ2[b]? = some (.list (q.T.map TE.v ++ [e.v])) := set_self hb1
      have ha3 : σ3[a]? = _ := set_self ha2
      have hb3 : σ3[b]? = some (.list (q.T.map TE.v ++ [e.v])) := set_ne hb2 hab
      have tl : (q.T.map TE.v).length ≤ lim := by rw [List.length_map]; unfold lim; omega
      refine ⟨σ3, ?_, (kk.trans (Kp.set (by simp))).trans (Kp.set (by simp)), ?_, ?_⟩
      · rw [exs_nxt (ρ' := ρ') (σ' := σ3) (by
          rw [exe_ife (t := true) (σ' := σ) (evc_cmpP (u := liV (kept g k (q.L x))) (v := liV (q.L x)) (evV s50) hix (o2_ne_t okD_liV okD_liV (fun h => c2 (liV_inj h)))), if_pos rfl]
          rw [exs_nxt (exe_expr (v := .none) (σ' := σ2) (evO2 (evV s49) (by simp only [pre2, hb]) (evT (evsC (evV s11) (evsC (evCB (evs1 hix) (run_spans hlim)) (evsC (evV s10) (evsC (evV s23) (evs1 neg1)))))) (app_ref hb1 tl)) (.inl rfl))]
          rw [exs_nxt (exe_asgI (evV s50) (evV s48) (evV s11) (st_dict ha2 (by rw [dic_len]; unfold lim; omega)))]
          exact exs_nil)]
        rw [exs_ret (exe_ret ev_none)]
        rfl
      · rw [ha3, dic_put hx]
      · rw [hb3]
        simp [e]
end
end Mine

end

section
namespace Mine
open PySem
set_option Elab.async false
set_option autoImplicit false
set_option linter.unusedSimpArgs false
set_option linter.unusedVariables false

theorem andQ_chain {r : Rz} {f : Q → Rz} {fs : List (Q → Rz)} : andQ r (chain (f :: fs)) = andQ (andQ r f) (chain fs) := by
  unfold andQ
  cases h : r.2 with
  | none => simp only [chain, andQ]
  | some l => simp only [h]
theorem andQ_T {r : Rz} {f : Q → Rz} (h : ∀ q, (f q).1.T.length ≤ q.T.length + 1) : (andQ r f).1.T.length ≤ r.1.T.length + 1 := by
  unfold andQ
  cases r.2 with
  | none => exact h _
  | some l => dsimp only; omega
theorem loop_l {S : List Nat} {f : Nat → Q → Rz} {J : Rz → Ev → Hp → Prop} {body : V → Ev → Hp → Option (Fl × Ev × Hp)} (hf : ∀ x q, (f x q).1.T.length ≤ q.T.length + 1) :
    ∀ (xs : List Nat) (r : Rz) (ρ : Ev) (σ : Hp),
    (∀ x ∈ xs, ∀ ρ σ r, J r ρ σ → r.1.T.length ≤ 900 → ∃ ρ' σ', Kp S σ σ' ∧ J (andQ r (f x)) ρ' σ' ∧ body (.int (x : Int)) ρ σ = some (.nxt, ρ', σ')) →
    J r ρ σ → r.1.T.length + xs.length ≤ 900 → ∃ ρ' σ', Kp S σ σ' ∧ J (andQ r (chain (xs.map f))) ρ' σ' ∧ loopS body (natV xs) ρ σ = some (.nxt, ρ', σ') := by
  intro xs
  induction xs with
  | nil =>
    intro r ρ σ _ j _
    refine ⟨ρ, σ, Kp.refl, ?_, rfl⟩
    have : andQ r (chain (List.map f [])) = r := by
      unfold andQ
      cases h : r.2 with
      | none => simp only [chain, List.map_nil]; rw [← h]
      | some _ => rfl
    rw [this]; exact j
  | cons x xs ih =>
    intro r ρ σ st j hT
    obtain ⟨ρ', σ', k1, j1, e1⟩ := st x List.mem_cons_self ρ σ r j (by simp at hT; omega)
    have hg := andQ_T (r := r) (hf x)
    obtain ⟨ρ'', σ'', k2, j2, e2⟩ := ih (andQ r (f x)) ρ' σ' (fun y hy => st y (List.mem_cons_of_mem _ hy)) j1 (by simp at hT; omega)
    refine ⟨ρ'', σ'', k1.trans k2, ?_, ?_⟩
    · rw [List.map_cons, andQ_chain]; exact j2
    · simp only [natV, List.map_cons, loopS, e1, Option.bind_some]
      exact e2

def cV (o : Option (List Lit)) : V := clc .none o
theorem cV_isN {o : Option (List Lit)} {σ : Hp} : o2 .isB (cV o) .none σ = some (.bool o.isNone, σ) := by
  cases o <;> rfl
section
variable {n m a b z : Nat} {xs ks : List Nat}
structure LJ (a b m z : Nat) (xs ks : List Nat) (r : Rz) (ρ : Ev) (σ : Hp) : Prop where
  ha : σ[a]? = some (.dictI (dic ks r.1.L))
  hb : σ[b]? = some (.list (r.1.T.map TE.v))
  w : WF m r.1.L
  r48 : ρ 48 = some (.ref a)
  r49 : ρ 49 = some (.ref b)
  r36 : ρ 36 = some (.tup (natV xs))
  r34 : ρ 34 = some (.int (z : Int))
  r20 : ρ 20 = some (cV r.2)
theorem LJ.upd {r : Rz} {ρ : Ev} {σ : Hp} (j : LJ a b m z xs ks r ρ σ) {y : Nat} {v : V} (hy : y ≠ 48 ∧ y ≠ 49 ∧ y ≠ 36 ∧ y ≠ 34 ∧ y ≠ 20) : LJ a b m z xs ks r (upd y v ρ) σ := by
  obtain ⟨h1, h2, h3, h4, h5⟩ := hy
  refine ⟨j.ha, j.hb, j.w, ?_, ?_, ?_, ?_, ?_⟩ <;> simp [Mine.upd, h1.symm, h2.symm, h3.symm, h4.symm, h5.symm, j.r48, j.r49, j.r36, j.r34, j.r20]
theorem LJ.app {r : Rz} {ρ : Ev} {σ : Hp} (j : LJ a b m z xs ks r ρ σ) {l : List MO} : LJ a b m z xs ks r ρ (σ ++ l) :=
  ⟨Kp.app (S := []) _ _ (by simp) j.ha, Kp.app (S := []) _ _ (by simp) j.hb, j.w, j.r48, j.r49, j.r36, j.r34, j.r20⟩
theorem LJ.drops {r : Rz} {ρ : Ev} {σ : Hp} (j : LJ a b m z xs ks r ρ σ) {ls : List Nat} (h : ls.contains 48 = false ∧ ls.contains 49 = false ∧ ls.contains 36 = false ∧ ls.contains 34 = false ∧ ls.contains 20 = false) : LJ a b m z xs ks r (drops ls ρ) σ := by
  obtain ⟨h1, h2, h3, h4, h5⟩ := h
  refine ⟨j.ha, j.hb, j.w, ?_, ?_, ?_, ?_, ?_⟩ <;> simp only [Mine.drops, h1, h2, h3, h4, h5, j.r48, j.r49, j.r36, j.r34, j.r20] <;> rfl

/-- clash = _law_struck(..), from where there is no clash -/
theorem exe_lstruck {r : Rz} {ρ : Ev} {σ : Hp} {x : Nat} {g : Bool} {k : Int} {R : List Lit} {es : Exs} (j : LJ a b m z xs ks r ρ σ) (hab : a ≠ b) (hT : r.1.T.length ≤ 1000) (hks : ks.length ≤ 100) (hR : R.length ≤ 100) (hx : x ≤ m) (hxk : x ∈ ks)
    (hn : r.2 = none) (he : evs (oB (n + 2)) es ρ σ = some ([.ref a, .ref b, lv (x, g, k), lvs R], σ)) :
    ∃ σ', Kp [a, b] σ σ' ∧ LJ a b m z xs ks (andQ r (strP x g k R)) (upd 20 (cV (andQ r (strP x g k R)).2) ρ) σ' ∧
      exe (oB (n + 2)) (.asg 20 (.call 28 es)) ρ σ = some (.nxt, upd 20 (cV (andQ r (strP x g k R)).2) ρ, σ') := by
  obtain ⟨hu, _, hl⟩ := j.w x hx
  obtain ⟨σ', e1, e2, e3, e4⟩ := run_lstruck (n := n) (g := g) (k := k) (R := R) hab j.ha j.hb hxk hks hT hR hl hu
  rw [andQ_none hn]
  refine ⟨σ', e2, ⟨e3, e4, strP_wf j.w, ?_, ?_, ?_, ?_, ?_⟩, exe_asg (evCB he e1)⟩ <;> simp [Mine.upd, j.r48, j.r49, j.r36, j.r34]
theorem exe_lguard {r : Rz} {ρ : Ev} {σ : Hp} {f : Q → Rz} {es : Exs} (j : LJ a b m z xs ks r ρ σ)
    (h : r.2 = none → ∃ σ', Kp [a, b] σ σ' ∧ LJ a b m z xs ks (andQ r f) (upd 20 (cV (andQ r f).2) ρ) σ' ∧ exe (oB (n + 2)) (.asg 20 (.call 28 es)) ρ σ = some (.nxt, upd 20 (cV (andQ r f).2) ρ, σ')) :
    ∃ ρ' σ', Kp [a, b] σ σ' ∧ LJ a b m z xs ks (andQ r f) ρ' σ' ∧ exs (oB (n + 2)) (.cons (.ife (.cmp .isB (.var 20) .none) (.cons (.asg 20 (.call 28 es)) .nil) .nil) .nil) ρ σ = some (.nxt, ρ', σ') := by
  have hc := evc_cmpP (C := oB (n + 2)) (ρ := ρ) (σ := σ) (evV j.r20) ev_none cV_isN
  cases hr : r.2 with
  | none =>
    obtain ⟨σ', k, j', e⟩ := h hr
    refine ⟨_, σ', k, j', ?_⟩
    rw [exs_nxt (by
      rw [exe_ife hc, hr, if_pos (by rfl), exs_nxt e]
      exact exs_nil), exs_nil]
  | some l =>
    refine ⟨ρ, σ, Kp.refl, ?_, ?_⟩
    · rw [andQ_some hr]; exact j
    · rw [exs_nxt (by
        rw [exe_ife hc, hr, if_neg (by simp)]
        exact exs_nil), exs_nil]

theorem tail_lonce {r : Rz} {ρ : Ev} {σ : Hp} (j : LJ a b m z xs ks r ρ σ) (hab : a ≠ b) (hT : r.1.T.length ≤ 1000) (hks : ks.length ≤ 100) (hl : xs.length ≤ 3) (hx : ∀ x ∈ xs, x ≤ m ∧ x ∈ ks) (hz : z ≤ m ∧ z ∈ ks) :
    ∃ ρ' σ', Kp [a, b] σ σ' ∧ LJ a b m z xs ks (andQ r (s4 xs z)) ρ' σ' ∧
    exs (oB (n + 2)) (Sts.cons (.asg 51 (.op1 .minL (.op2 .idx (.var 48) (.var 34))))
  (.cons (.asg 40 (.comp [11] (.var 11) (.nm 11) (.var 36) (.cons (.cmp .ge (.op1 .maxL (.op2 .idx (.var 48) (.var 11))) (.var 51)) .nil) .nil))
  (.cons (.ife (.and (.cons (.cmp .isB (.var 20) .none) (.cons (.cmp .eq (.op1 .len (.var 40)) (.int 1)) .nil)))
   (.cons (.asg 23 (.op2 .add (.tup (.cons (.tup (.cons (.var 34) (.cons (.str (Str.ofString ">=")) (.cons (.var 51) .nil)))) .nil)) (.op1 .tuple (.comp [11] (.tup (.cons (.var 11) (.cons (.str (Str.ofString "<=")) (.cons (.op2 .sub (.var 51) (.int 1)) .nil)))) (.nm 11) (.var 36) (.cons (.cmp .ne (.var 11) (.op2 .idx (.var 40) (.int 0))) .nil) .nil))))
   (.cons (.asg 20 (.call 28 (.cons (.var 48) (.cons (.var 49) (.cons (.tup (.cons (.op2 .idx (.var 40) (.int 0)) (.cons (.str (Str.ofString ">=")) (.cons (.var 51) .nil)))) (.cons (.var 23) .nil))))))
   .nil))
   .nil)
  (.cons (.ret (.tup (.cons (.var 48) (.cons (.var 49) (.cons (.var 20) .nil)))))
  .nil)))) ρ σ = some (.ret (.tup [.ref a, .ref b, cV (andQ r (s4 xs z)).2]), ρ', σ') := by
  have hl' : xs.length ≤ lim := by unfold lim; omega
  have hwl : ∀ x, x ≤ m → r.1.L x ≠ [] ∧ (r.1.L x).length ≤ lim := fun x hx => ⟨(j.w x hx).2.1, by have := (j.w x hx).2.2; unfold lim; omega⟩
  have fin : ∀ {r : Rz} {ρ : Ev} {σ : Hp}, LJ a b m z xs ks r ρ σ → exs (oB (n + 2)) (.cons (.ret (.tup (.cons (.var 48) (.cons (.var 49) (.cons (.var 20) .nil))))) .nil) ρ σ = some (.ret (.tup [.ref a, .ref b, cV r.2]), ρ, σ) :=
    fun j => exs_ret (exe_ret (evT (evsC (evV j.r48) (evsC (evV j.r49) (evs1 (evV j.r20))))))
  rw [exs_nxt (exe_asg (v := .int (mn (r.1.L z))) (σ' := σ) (evO1 (evO2 (evV j.r48) rfl (evV j.r34) (idx_dict j.ha (dic_get hz.2))) (o1_minL (hwl z hz.1).1 (hwl z hz.1).2)))]
  generalize hρ1 : upd 51 (.int (mn (r.1.L z))) ρ = ρ1
  have j1 : LJ a b m z xs ks r ρ1 σ := by rw [← hρ1]; exact j.upd (by decide)
  have l1 : ρ1 51 = some (.int (mn (r.1.L z))) := by rw [← hρ1]; rfl
  clear hρ1
  have hab' : ev (oB (n + 2)) (.comp [11] (.var 11) (.nm 11) (.var 36) (.cons (.cmp .ge (.op1 .maxL (.op2 .idx (.var 48) (.var 11))) (.var 51)) .nil) .nil) ρ1 σ = some (.lst (natV (ableQ xs z r.1.L)), σ) := by
    refine ev_compN (xs := xs) (fun x => decide (mn (r.1.L z) ≤ mx (r.1.L x))) (fun k => .int (k : Int)) (evV j1.r36) (natV_items hl') (fun x hx' acc => ?_) (fun _ _ _ => okD_int) (by unfold lim; omega)
    have j2 : LJ a b m z xs ks r (upd 11 (.int (x : Int)) (drops [11] ρ1)) (σ ++ [.list acc]) := (j1.drops (by decide)).app.upd (by decide)
    refine ⟨evca_one (evc_cmpP (u := .int (mx (r.1.L x))) (v := .int (mn (r.1.L z))) (evO1 (evO2 (evV j2.r48) rfl (evV (by simp [upd])) (idx_dict j2.ha (dic_get (hx x hx').2))) (o1_maxL (hwl x (hx x hx').1).1 (hwl x (hx x hx').1).2)) (evV (by simp [upd, drops, l1])) rfl), fun _ => evV (by simp [upd])⟩
  rw [exs_nxt (exe_asg hab')]
  generalize hρ2 : upd 40 (.lst (natV (ableQ xs z r.1.L))) ρ1 = ρ2
  have j2 : LJ a b m z xs ks r ρ2 σ := by rw [← hρ2]; exact j1.upd (by decide)
  have l2 : ρ2 51 = some (.int (mn (r.1.L z))) := by rw [← hρ2]; simp [upd, l1]
  have a2 : ρ2 40 = some (.lst (natV (ableQ xs z r.1.L))) := by rw [← hρ2]; rfl
  clear hρ2
  have hAl : (ableQ xs z r.1.L).length ≤ 3 := Nat.le_trans (List.length_filter_le _ _) hl
  have hcond : evc (oB (n + 2)) (.and (.cons (.cmp .isB (.var 20) .none) (.cons (.cmp .eq (.op1 .len (.var 40)) (.int 1)) .nil))) ρ2 σ = some (r.2.isNone && decide (((ableQ xs z r.1.L).length : Int) = 1), σ) := by
    refine evc_and2 (evc_cmpP (evV j2.r20) ev_none cV_isN) (fun _ => evc_cmpP (u := .int (ableQ xs z r.1.L).length) (v := .int 1) (evO1 (evV a2) ?_) ev_int o2_eqI)
    simp only [o1, view, natV_len]
    rw [if_pos (by unfold lim; omega)]
  by_cases c : r.2.isNone = true ∧ (ableQ xs z r.1.L).length = 1
  · obtain ⟨cn, cl⟩ := c
    have cn' : r.2 = none := Option.isNone_iff_eq_none.mp cn
    obtain ⟨x0, hx0⟩ := List.length_eq_one_iff.mp cl
    have hxm : x0 ∈ xs := by
      have : x0 ∈ ableQ xs z r.1.L := by rw [hx0]; simp
      exact (List.mem_filter.mp this).1
    have hs4 : s4 xs z r.1 = strP x0 true (mn (r.1.L z)) ((z, true, mn (r.1.L z)) :: (xs.filter fun x => decide (x ≠ x0)).map fun x => (x, false, mn (r.1.L z) - 1)) r.1 := by
      unfold s4
      rw [hx0]
    have hand : andQ r (s4 xs z) = andQ r (strP x0 true (mn (r.1.L z)) ((z, true, mn (r.1.L z)) :: (xs.filter fun x => decide (x ≠ x0)).map fun x => (x, false, mn (r.1.L z) - 1))) := by
      rw [andQ_none cn', andQ_none cn', hs4]
    rw [hand]
    have i0 : ∀ (ρ : Ev) (σ : Hp), ρ 40 = some (.lst (natV (ableQ xs z r.1.L))) → ev (oB (n + 2)) (.op2 .idx (.var 40) (.int 0)) ρ σ = some (.int (x0 : Int), σ) := by
      intro ρ σ h
      rw [hx0] at h
      exact evO2 (evV h) rfl ev_int (idx_lst (x := 0) rfl (by simp [natV, lim]))
    let O := (xs.filter fun x => decide (x ≠ x0)).map fun x => ((x, false, mn (r.1.L z) - 1) : Lit)
    have hOl : O.length ≤ 3 := by
      show (List.map _ _).length ≤ 3
      rw [List.length_map]
      exact Nat.le_trans (List.length_filter_le _ _) hl
    have hot : ev (oB (n + 2)) (.comp [11] (.tup (.cons (.var 11) (.cons (.str (Str.ofString "<=")) (.cons (.op2 .sub (.var 51) (.int 1)) .nil)))) (.nm 11) (.var 36) (.cons (.cmp .ne (.var 11) (.op2 .idx (.var 40) (.int 0))) .nil) .nil) ρ2 σ = some (.lst (O.map lv), σ) := by
      have := ev_compN (C := oB (n + 2)) (ρ := ρ2) (σ := σ) (σ₁ := σ) (ls := [11]) (elt := (.tup (.cons (.var 11) (.cons (.str (Str.ofString "<=")) (.cons (.op2 .sub (.var 51) (.int 1)) .nil))))) (it := .var 36) (y := 11) (ifs := (.cons (.cmp .ne (.var 11) (.op2 .idx (.var 40) (.int 0))) .nil)) (X := .tup (natV xs)) (xs := xs)
        (fun x => decide (x ≠ x0)) (fun x => lv (x, false, mn (r.1.L z) - 1)) (evV j2.r36) (natV_items hl') (fun x hx' acc => ?_) (fun _ _ _ => okD_lv) (by unfold lim; omega)
      · rw [this]
        show _ = some (V.lst (List.map lv (List.map _ _)), σ)
        rw [List.map_map]
        rfl
      · refine ⟨evca_one (evc_cmpP (u := .int x) (v := .int x0) (evV (by simp [upd])) (i0 _ _ (by simp [upd, drops, a2])) ?_), fun _ => evT (evsC (evV (by simp [upd])) (evsC ev_str (evs1 (evO2 (evV (by simp only [upd, drops]; exact l2)) rfl ev_int rfl))))⟩
        rw [o2_neI]
        have : ((x : Int) ≠ (x0 : Int)) ↔ (x ≠ x0) := by omega
        simp only [this]
    have hR : ev (oB (n + 2)) (.op2 .add (.tup (.cons (.tup (.cons (.var 34) (.cons (.str (Str.ofString ">=")) (.cons (.var 51) .nil)))) .nil)) (.op1 .tuple (.comp [11] (.tup (.cons (.var 11) (.cons (.str (Str.ofString "<=")) (.cons (.op2 .sub (.var 51) (.int 1)) .nil)))) (.nm 11) (.var 36) (.cons (.cmp .ne (.var 11) (.op2 .idx (.var 40) (.int 0))) .nil) .nil))) ρ2 σ = some (lvs ((z, true, mn (r.1.L z)) :: O), σ) := by
      refine evO2 (evT (evs1 (evT (evsC (evV j2.r34) (evsC ev_str (evs1 (evV l2))))))) rfl (evO1 (v := .tup (O.map lv)) (σ₂ := σ) hot ?_) ?_
      · simp only [o1, view]
        rw [if_pos (by rw [List.length_map]; unfold lim; omega)]
      · rw [addT (by simp [lim]; omega)]
        rfl
    have j3 : LJ a b m z xs ks r (upd 23 (lvs ((z, true, mn (r.1.L z)) :: O)) ρ2) σ := j2.upd (by decide)
    obtain ⟨σ', k4, j4, e4⟩ := exe_lstruck (n := n) (x := x0) (g := true) (k := mn (r.1.L z)) (R := (z, true, mn (r.1.L z)) :: O) (es := (.cons (.var 48) (.cons (.var 49) (.cons (.tup (.cons (.op2 .idx (.var 40) (.int 0)) (.cons (.str (Str.ofString ">=")) (.cons (.var 51) .nil)))) (.cons (.var 23) .nil)))))
      j3 hab hT hks (by simp; omega) (hx _ hxm).1 (hx _ hxm).2 cn' (evsC (evV j3.r48) (evsC (evV j3.r49) (evsC (evT (evsC (i0 _ _ (by simp [upd, a2])) (evsC ev_str (evs1 (evV (by simp only [upd]; exact l2)))))) (evs1 (evV rfl)))))
    refine ⟨_, σ', k4, j4, ?_⟩
    rw [exs_nxt (by
      rw [exe_ife hcond, if_pos (by simp [cn, cl]), exs_nxt (exe_asg hR), exs_nxt e4]
      exact exs_nil)]
    exact fin j4
  · have hand : andQ r (s4 xs z) = r := by
      cases hr : r.2 with
      | some l => exact andQ_some hr
      | none =>
        rw [andQ_none hr]
        rw [hr] at c
        unfold s4
        match hA : ableQ xs z r.1.L with
        | [] => simp only []; rw [← hr]
        | [x] => rw [hA] at c; simp at c
        | _ :: _ :: _ => simp only []; rw [← hr]
    rw [hand]
    refine ⟨ρ2, σ, Kp.refl, j2, ?_⟩
    rw [exs_nxt (by
      rw [exe_ife hcond, if_neg (by
        simp only [Bool.and_eq_true, decide_eq_true_eq]
        intro h
        exact c ⟨h.1, by omega⟩)]
      exact exs_nil)]
    exact fin j2
end
end Mine

end

section
namespace Mine
open PySem
set_option Elab.async false
set_option autoImplicit false
set_option linter.unusedSimpArgs false
set_option linter.unusedVariables false

theorem s4_T {xs : List Nat} {z : Nat} {q : Q} : (s4 xs z q).1.T.length ≤ q.T.length + 1 := by
  unfold s4
  split
  · exact strP_T
  · simp
section
variable {n m z : Nat} {xs ks : List Nat} {σ : Hp} {L : LF}
theorem run_lonce {a : Nat} (ha : σ[a]? = some (.dictI (dic ks L))) (w : WF m L) (hks : ks.length ≤ 100) (hne : xs ≠ []) (hl : xs.length ≤ 3) (hx : ∀ x ∈ xs, x ≤ m ∧ x ∈ ks) (hz : z ≤ m ∧ z ∈ ks) :
    ∃ σ', run TB (n + 3) 29 [.ref a, .tup (natV xs), .int (z : Int)] σ = some (.tup [.ref σ.length, .ref (σ.length + 1), cV (onceP xs z ⟨L, []⟩).2], σ') ∧ Kp [] σ σ' ∧
      σ'[σ.length]? = some (.dictI (dic ks (onceP xs z ⟨L, []⟩).1.L)) ∧ σ'[σ.length + 1]? = some (.list ((onceP xs z ⟨L, []⟩).1.T.map TE.v)) ∧ WF m (onceP xs z ⟨L, []⟩).1.L ∧ (onceP xs z ⟨L, []⟩).1.T.length ≤ 8 := by
  have hl' : xs.length ≤ lim := by unfold lim; omega
  rw [run_eq (fn := f_law_once) rfl rfl]
  unfold f_law_once
  dsimp only
  have dl : (dic ks L).length ≤ lim := by rw [dic_len]; unfold lim; omega
  have e1 : ev (oB (n + 2)) (.tup (.cons (.op1 .dictC (.var 48)) (.cons .lstM .nil))) (updL [48, 36, 34] [V.ref a, .tup (natV xs), .int (z : Int)] fun _ => none) σ = some (.tup [.ref σ.length, .ref (σ.length + 1)], σ ++ [.dictI (dic ks L)] ++ [.list []]) := by
    have h1 : ev (oB (n + 2)) (.op1 .dictC (.var 48)) (updL [48, 36, 34] [V.ref a, .tup (natV xs), .int (z : Int)] fun _ => none) σ = some (.ref σ.length, σ ++ [.dictI (dic ks L)]) := by
      refine evO1 (evV (v := .ref a) rfl) ?_
      simp only [o1, ha, dl, if_true]
    have h2 := evT (evsC h1 (evs1 (ev_lstM (C := oB (n + 2)) (ρ := updL [48, 36, 34] [V.ref a, .tup (natV xs), .int (z : Int)] fun _ => none) (σ := σ ++ [.dictI (dic ks L)]))))
    rw [h2]
    simp
  rw [exs_nxt (exe_asgT (l := [.ref σ.length, .ref (σ.length + 1)]) e1 rfl)]
  generalize hσ2 : σ ++ [MO.dictI (dic ks L)] ++ [MO.list []] = σ2
  have k2 : ∀ {σ' : Hp}, Kp [σ.length, σ.length + 1] σ2 σ' → Kp [] σ σ' := by
    intro σ' k
    rw [← hσ2, List.append_assoc] at k
    exact k.new (by simp)
  have ha2 : σ2[σ.length]? = some (.dictI (dic ks L)) := by rw [← hσ2]; simp
  have hb2 : σ2[σ.length + 1]? = some (.list []) := by rw [← hσ2]; simp
  have hlen2 : σ2.length = σ.length + 2 := by rw [← hσ2]; simp
  clear hσ2 e1
  generalize hρ : upd 49 (.ref (σ.length + 1)) (upd 48 (.ref σ.length) (updL [48, 36, 34] [V.ref a, .tup (natV xs), .int (z : Int)] fun _ => none)) = ρ
  have r48 : ρ 48 = some (.ref σ.length) := by rw [← hρ]; rfl
  have r49 : ρ 49 = some (.ref (σ.length + 1)) := by rw [← hρ]; rfl
  have r36 : ρ 36 = some (.tup (natV xs)) := by rw [← hρ]; rfl
  have r34 : ρ 34 = some (.int (z : Int)) := by rw [← hρ]; rfl
  clear hρ
  have hab : σ.length ≠ σ.length + 1 := by omega
  generalize σ.length = a' at *
  have hwl : ∀ x, x ≤ m → L x ≠ [] ∧ (L x).length ≤ lim := fun x hx => ⟨(w x hx).2.1, by have := (w x hx).2.2; unfold lim; omega⟩
  -- most
  have hmx : ev (oB (n + 2)) (.comp [11] (.op1 .maxL (.op2 .idx (.var 48) (.var 11))) (.nm 11) (.var 36) .nil .nil) ρ σ2 = some (liV (xs.map fun x => mx (L x)), σ2) := by
    have := ev_compN (C := oB (n + 2)) (ρ := ρ) (σ := σ2) (σ₁ := σ2) (ls := [11]) (elt := (.op1 .maxL (.op2 .idx (.var 48) (.var 11)))) (it := .var 36) (y := 11) (ifs := .nil) (X := .tup (natV xs)) (xs := xs) (fun _ => true) (fun x => .int (mx (L x)))
      (evV r36) (natV_items hl') (fun x hx' acc => ⟨evca_nil, fun _ => evO1 (evO2 (evV (by simp only [upd, drops]; exact r48)) rfl (evV (by simp [upd])) (idx_dict (Kp.app (S := []) _ _ (by simp) ha2) (dic_get (hx x hx').2))) (o1_maxL (hwl x (hx x hx').1).1 (hwl x (hx x hx').1).2)⟩) (fun _ _ _ => okD_int) (by unfold lim; omega)
    rw [this, filter_tt]
    simp [liV, Function.comp_def]
  rw [exs_nxt (exe_asg (v := .int (mostQ xs L)) (σ' := σ2) (evO1 hmx (o1_maxL (by simpa using hne) (by rw [List.length_map]; exact hl'))))]
  generalize hρ1 : upd 37 (.int (mostQ xs L)) ρ = ρ1
  have t48 : ρ1 48 = some (.ref a') := by rw [← hρ1]; simp [upd, r48]
  have t49 : ρ1 49 = some (.ref (a' + 1)) := by rw [← hρ1]; simp [upd, r49]
  have t36 : ρ1 36 = some (.tup (natV xs)) := by rw [← hρ1]; simp [upd, r36]
  have t34 : ρ1 34 = some (.int (z : Int)) := by rw [← hρ1]; simp [upd, r34]
  have m1 : ρ1 37 = some (.int (mostQ xs L)) := by rw [← hρ1]; rfl
  clear hρ1
  have hrs : ev (oB (n + 2)) (.comp [11] (.tup (.cons (.var 11) (.cons (.str (Str.ofString "<=")) (.cons (.var 37) .nil)))) (.nm 11) (.var 36) .nil .nil) ρ1 σ2 = some (.lst ((xs.map fun x => ((x, false, mostQ xs L) : Lit)).map lv), σ2) := by
    have := ev_compN (C := oB (n + 2)) (ρ := ρ1) (σ := σ2) (σ₁ := σ2) (ls := [11]) (elt := .tup (.cons (.var 11) (.cons (.str (Str.ofString "<=")) (.cons (.var 37) .nil)))) (it := .var 36) (y := 11) (ifs := .nil) (X := .tup (natV xs)) (xs := xs) (fun _ => true) (fun x => lv (x, false, mostQ xs L))
      (evV t36) (natV_items hl') (fun x hx' acc => ⟨evca_nil, fun _ => evT (evsC (evV (by simp [upd])) (evsC ev_str (evs1 (evV (by simp only [upd, drops]; exact m1)))))⟩) (fun _ _ _ => okD_lv) (by unfold lim; omega)
    rw [this, filter_tt, List.map_map]
    rfl
  obtain ⟨σ3, f1, f2, f3, f4⟩ := run_lstruck (n := n) (q := ⟨L, []⟩) (x := z) (g := false) (k := mostQ xs L) (R := xs.map fun x => (x, false, mostQ xs L)) hab ha2 hb2 hz.2 hks (by simp) (by rw [List.length_map]; omega) (w z hz.1).2.2 (w z hz.1).1
  have hargs : evs (oB (n + 2)) (.cons (.var 48) (.cons (.var 49) (.cons (.tup (.cons (.var 34) (.cons (.str (Str.ofString "<=")) (.cons (.var 37) .nil)))) (.cons (.op1 .tuple (.comp [11] (.tup (.cons (.var 11) (.cons (.str (Str.ofString "<=")) (.cons (.var 37) .nil)))) (.nm 11) (.var 36) .nil .nil)) .nil)))) ρ1 σ2 = some ([.ref a', .ref (a' + 1), lv (z, false, mostQ xs L), lvs (xs.map fun x => (x, false, mostQ xs L))], σ2) := by
    refine evsC (evV t48) (evsC (evV t49) (evsC (evT (evsC (evV t34) (evsC ev_str (evs1 (evV m1))))) (evs1 (evO1 (σ₂ := σ2) hrs ?_))))
    simp only [o1, view]
    rw [if_pos (by simpa using hl')]
    rfl
  rw [exs_nxt (exe_asg (evCB hargs f1))]
  have hs1 : strP z false (mostQ xs L) (xs.map fun x => (x, false, mostQ xs L)) ⟨L, []⟩ = s1 xs z ⟨L, []⟩ := rfl
  rw [hs1] at f3 f4 ⊢
  have w1 : WF m (s1 xs z ⟨L, []⟩).1.L := strP_wf w
  have T1 : (s1 xs z ⟨L, []⟩).1.T.length ≤ 0 + 1 := s1_T (q := ⟨L, []⟩)
  have hon : onceP xs z ⟨L, []⟩ = andQ (andQ (andQ (s1 xs z ⟨L, []⟩) (chain (xs.map (sA z)))) (chain (xs.map (sB z)))) (s4 xs z) := rfl
  rw [hon]
  have j0 : LJ a' (a' + 1) m z xs ks (s1 xs z ⟨L, []⟩) (upd 20 (clc .none (s1 xs z ⟨L, []⟩).2) ρ1) σ3 := by
    refine ⟨f3, f4, w1, ?_, ?_, ?_, ?_, ?_⟩ <;> simp [upd, t48, t49, t36, t34, cV]
  clear hs1 hon
  generalize s1 xs z ⟨L, []⟩ = r0 at *
  generalize upd 20 (clc .none r0.2) ρ1 = ρ2 at *
  -- the first loop
  obtain ⟨ρ3, σ4, k3, j3, e3⟩ := loop_l (f := sA z) (J := LJ a' (a' + 1) m z xs ks) (S := [a', a' + 1]) (body := fun v ρ' σ' => (bindTg (.nm 11) v ρ').bind fun ρ'' => exs (oB (n + 2))
    (.cons (.ife (.cmp .isB (.var 20) .none)
    (.cons (.asg 20 (.call 28 (.cons (.var 48) (.cons (.var 49) (.cons (.tup (.cons (.var 34) (.cons (.str (Str.ofString ">=")) (.cons (.op1 .minL (.op2 .idx (.var 48) (.var 11))) .nil)))) (.cons (.tup (.cons (.tup (.cons (.var 11) (.cons (.str (Str.ofString ">=")) (.cons (.op1 .minL (.op2 .idx (.var 48) (.var 11))) .nil)))) .nil)) .nil))))))
    .nil)
    .nil)
   .nil) ρ'' σ') (fun _ _ => strP_T) xs r0 ρ2 σ3 (by
      intro x hx' ρ σ r j hT
      have j' : LJ a' (a' + 1) m z xs ks r (upd 11 (.int (x : Int)) ρ) σ := j.upd (by decide)
      have hxx := hx x hx'
      simp only [bindTg, Option.bind_some]
      refine exe_lguard j' fun hn => ?_
      have hmn : ev (oB (n + 2)) (.op1 .minL (.op2 .idx (.var 48) (.var 11))) (upd 11 (.int (x : Int)) ρ) σ = some (.int (mn (r.1.L x)), σ) := by
        refine evO1 (evO2 (evV j'.r48) rfl (evV rfl) (idx_dict j'.ha (dic_get hxx.2))) (o1_minL (j'.w x hxx.1).2.1 ?_)
        have := (j'.w x hxx.1).2.2
        unfold lim; omega
      have hh := exe_lstruck (n := n) (x := z) (g := true) (k := mn (r.1.L x)) (R := [(x, true, mn (r.1.L x))]) j' hab (by omega) hks (by simp) hz.1 hz.2 hn
        (evsC (evV j'.r48) (evsC (evV j'.r49) (evsC (evT (evsC (evV j'.r34) (evsC ev_str (evs1 hmn)))) (evs1 (evT (evs1 (evT (evsC (evV (x := 11) rfl) (evsC ev_str (evs1 hmn))))))))))
      rw [andQ_none hn] at hh ⊢
      exact hh) j0 (by omega)
  rw [exs_nxt ((exe_for (X := .tup (natV xs)) (evV j0.r36) (natV_items hl')).trans e3)]
  have T2 : (andQ r0 (chain (xs.map (sA z)))).1.T.length ≤ 1 + xs.length := by
    unfold andQ
    cases r0.2 with
    | none => have := chain_T (f := sA z) (fun _ _ => strP_T) xs r0.1; dsimp only; omega
    | some _ => dsimp only; omega
  generalize andQ r0 (chain (xs.map (sA z))) = r1 at *
  -- the second loop
  obtain ⟨ρ4, σ5, k4, j4, e4⟩ := loop_l (f := sB z) (J := LJ a' (a' + 1) m z xs ks) (S := [a', a' + 1]) (body := fun v ρ' σ' => (bindTg (.nm 11) v ρ').bind fun ρ'' => exs (oB (n + 2))
    (.cons (.ife (.cmp .isB (.var 20) .none)
    (.cons (.asg 20 (.call 28 (.cons (.var 48) (.cons (.var 49) (.cons (.tup (.cons (.var 11) (.cons (.str (Str.ofString "<=")) (.cons (.op1 .maxL (.op2 .idx (.var 48) (.var 34))) .nil)))) (.cons (.tup (.cons (.tup (.cons (.var 34) (.cons (.str (Str.ofString "<=")) (.cons (.op1 .maxL (.op2 .idx (.var 48) (.var 34))) .nil)))) .nil)) .nil))))))
    .nil)
    .nil)
   .nil) ρ'' σ') (fun _ _ => strP_T) xs r1 ρ3 σ4 (by
      intro x hx' ρ σ r j hT
      have j' : LJ a' (a' + 1) m z xs ks r (upd 11 (.int (x : Int)) ρ) σ := j.upd (by decide)
      have hxx := hx x hx'
      simp only [bindTg, Option.bind_some]
      refine exe_lguard j' fun hn => ?_
      have hmn : ev (oB (n + 2)) (.op1 .maxL (.op2 .idx (.var 48) (.var 34))) (upd 11 (.int (x : Int)) ρ) σ = some (.int (mx (r.1.L z)), σ) := by
        refine evO1 (evO2 (evV j'.r48) rfl (evV j'.r34) (idx_dict j'.ha (dic_get hz.2))) (o1_maxL (j'.w z hz.1).2.1 ?_)
        have := (j'.w z hz.1).2.2
        unfold lim; omega
      have hh := exe_lstruck (n := n) (x := x) (g := false) (k := mx (r.1.L z)) (R := [(z, false, mx (r.1.L z))]) j' hab (by omega) hks (by simp) hxx.1 hxx.2 hn
        (evsC (evV j'.r48) (evsC (evV j'.r49) (evsC (evT (evsC (evV (x := 11) rfl) (evsC ev_str (evs1 hmn)))) (evs1 (evT (evs1 (evT (evsC (evV j'.r34) (evsC ev_str (evs1 hmn))))))))))
      rw [andQ_none hn] at hh ⊢
      exact hh) j3 (by omega)
  rw [exs_nxt ((exe_for (X := .tup (natV xs)) (evV j3.r36) (natV_items hl')).trans e4)]
  have T3 : (andQ r1 (chain (xs.map (sB z)))).1.T.length ≤ 1 + xs.length + xs.length := by
    unfold andQ
    cases r1.2 with
    | none => have := chain_T (f := sB z) (fun _ _ => strP_T) xs r1.1; dsimp only; omega
    | some _ => dsimp only; omega
  generalize andQ r1 (chain (xs.map (sB z))) = r2 at *
  obtain ⟨ρ5, σ6, k5, j5, e5⟩ := tail_lonce (n := n) j4 hab (by omega) hks hl hx hz
  rw [e5]
  have T4 := andQ_T (r := r2) (f := s4 xs z) (fun _ => s4_T)
  exact ⟨σ6, rfl, k2 (((f2.trans k3).trans k4).trans k5), j5.ha, j5.hb, j5.w, by omega⟩
end
end Mine

end

section
namespace Mine
open PySem
set_option Elab.async false
set_option autoImplicit false
set_option linter.unusedSimpArgs false
set_option linter.unusedVariables false

def Bd (m : Nat) (L : LF) : Prop := ∀ x, x ≤ m → ∀ v ∈ L x, v.natAbs ≤ 100
theorem evg_in {C : Orc} {ρ : Ev} {σ₁ : Hp} {acc l : List V} {y : Nat} {it : Ex} {X : V} (h1 : ev C it ρ (σ₁ ++ [.list acc]) = some (X, σ₁ ++ [.list acc])) (h2 : itemsI X = some l) (hl : acc.length + l.length ≤ lim) :
    evg C (.cons (.nm y) it .nil .nil) (fun ρ'' σ'' => (ev C (.var y) ρ'' σ'').bind fun u => emit1 σ₁.length u.1 u.2) ρ (σ₁ ++ [.list acc]) = some (σ₁ ++ [.list (acc ++ l)]) := by
  have key : ∀ (l acc : List V), acc.length + l.length ≤ lim → loopI (fun x σ' => (bindTg (.nm y) x ρ).bind fun ρ' => (evca C .nil ρ' σ').bind fun b => match b.1 with
        | true => evg C .nil (fun ρ'' σ'' => (ev C (.var y) ρ'' σ'').bind fun u => emit1 σ₁.length u.1 u.2) ρ' b.2
        | false => some b.2) l (σ₁ ++ [.list acc]) = some (σ₁ ++ [.list (acc ++ l)]) := by
    intro l
    induction l with
    | nil => intro acc _; simp [loopI]
    | cons x l ih =>
      intro acc hl
      simp only [loopI, bindTg, Option.bind_some, evca_nil]
      have := evg_nil (C := C) (ρ := upd y x ρ) (elt := .var y) (σ₁ := σ₁) (acc := acc) (y := x) (evV (by simp [upd])) (by simp at hl; omega)
      rw [this, Option.bind_some]
      have h3 := ih (acc ++ [x]) (by simp at hl ⊢; omega)
      simp only [bindTg, Option.bind_some, evca_nil] at h3
      rw [h3]
      simp
  unfold evg
  rw [h1, Option.bind_some]
  dsimp only
  rw [h2, Option.bind_some]
  exact key l acc hl

section
variable {n m : Nat} {σ : Hp} {F M T D : List V} {N : List (Int × V)} {b : Bool} {c : V} {L : LF} {ρ : Ev}
/-- what the lots want of the store -/
structure SD (σ : Hp) (D : List V) (as : List (Nat × V)) : Prop where
  i3 : σ[3]? = some (.inst 0 2)
  i2 : σ[2]? = some (.attrs as)
  i4 : σ[4]? = some (.list D)
  a13 : getK 13 as = some (.ref 4)
  a46 : getK 46 as = none
  a47 : getK 47 as = none
theorem SI.sd (s : SI σ D F T M N b c) : SD σ D [(13, .ref 4), (14, .ref 5), (15, .ref 6), (16, .ref 7), (17, .ref 8), (18, .int (-1)), (19, .bool b), (20, c)] := ⟨s.i3, s.i2, s.i4, rfl, rfl, rfl⟩
theorem SD.app {as : List (Nat × V)} {l : List MO} (s : SD σ D as) : SD (σ ++ l) D as := ⟨Kp.app (S := []) _ _ (by simp) s.i3, Kp.app (S := []) _ _ (by simp) s.i2, Kp.app (S := []) _ _ (by simp) s.i4, s.a13, s.a46, s.a47⟩
theorem SD.attr {as : List (Nat × V)} (s : SD σ D as) : attrOf (.ref 3) 13 σ = some (.ref 4) := by
  simp only [attrOf, s.i3, s.i2, s.a13]
theorem run_size {as : List (Nat × V)} (s : SD σ D as) (hD : D.length ≤ lim) : run TB (n + 1) 10 [.ref 3] σ = some (.int D.length, σ) := by
  rw [run_eq (fn := f_Store_size) rfl rfl]
  unfold f_Store_size
  dsimp only
  rw [exs_ret (exe_ret (evO1 (evA (evV (v := .ref 3) rfl) s.attr) (len_ref s.i4 hD)))]
  rfl
theorem run_dom {as : List (Nat × V)} (s : SD σ D as) (hD : D.length ≤ lim) {x : Nat} {v : V} (hx : D[x]? = some v) : run TB (n + 1) 11 [.ref 3, .int (x : Int)] σ = some (v, σ) := by
  rw [run_eq (fn := f_Store_dom) rfl rfl]
  unfold f_Store_dom
  dsimp only
  rw [exs_ret (exe_ret (evO2 (evA (evV (v := .ref 3) rfl) s.attr) rfl (evV (v := .int (x : Int)) rfl) (idx_ref s.i4 hx hD)))]
  rfl
theorem rng_iR {a b : Int} (h : b - a ≤ (lim : Int) ∧ a.natAbs ≤ lim ∧ b.natAbs ≤ lim) : itemsI (.rng a b) = some ((iR a b).map .int) := by
  simp only [itemsI]
  rw [if_pos h]
  unfold intL iR
  simp [Function.comp_def]
theorem iR_len {a b : Int} : (iR a b).length = (b - a).toNat := by simp [iR]

theorem ev_lots_comp {as : List (Nat × V)} (s : SD σ (doms m L) as) (hm : m ≤ 3) (w : WF m L) (bd : Bd m L) {x : Nat} (hx : x ≤ m) (h45 : ρ 45 = some (.ref 3)) (h11 : ρ 11 = some (.int (x : Int))) :
    ev (oB (n + 1)) (.comp [3, 4, 5] (.var 5) (.tup [3, 4]) (.meth (.var 45) 47 (.cons (.var 11) .nil)) .nil (.cons (.nm 5) (.op2 .rng2 (.var 3) (.op2 .add (.var 4) (.int 1))) .nil .nil)) ρ σ = some (liV (L x), σ) := by
  obtain ⟨hu, hne, hl⟩ := w x hx
  have hsl := spans_len (L x)
  have hflat : ((spans (L x)).map spV).flatMap (fun v => match v with | .tup [.int a, .int b] => (iR a (b + 1)).map V.int | _ => []) = (L x).map V.int := by
    conv => rhs; rw [← spans_flat (L x) hu]
    rw [List.flatMap_map, List.map_flatMap]
    rfl
  have := ev_comp (C := oB (n + 1)) (ρ := ρ) (σ := σ) (ls := [3, 4, 5]) (elt := .var 5) (it := .meth (.var 45) 47 (.cons (.var 11) .nil)) (t := .tup [3, 4]) (ifs := .nil) (rest := .cons (.nm 5) (.op2 .rng2 (.var 3) (.op2 .add (.var 4) (.int 1))) .nil .nil) (X := doV (spans (L x))) (l := (spans (L x)).map spV) (σ₁ := σ)
    (fun v => match v with | .tup [.int a, .int b] => (iR a (b + 1)).map V.int | _ => []) ?_ (doV_items (by unfold lim; omega)) ?_ ?_ ?_
  · rw [this, hflat]; rfl
  · rw [ev_meth (i := 3) (c := 0) (d := 2) (f := 11) (σ₁ := σ) (evV h45) s.i3 s.i2 rfl s.a47, evs1 (evV h11), Option.bind_some]
    exact run_dom s (by rw [doms_len]; unfold lim; omega) (doms_get hx)
  · intro v hv acc hacc
    obtain ⟨⟨a, b⟩, hp, rfl⟩ := List.mem_map.mp hv
    obtain ⟨hab, ha, hb⟩ := spans_mem _ _ hp
    have hA := bd x hx _ ha
    have hB := bd x hx _ hb
    dsimp only at hab hA hB
    refine ⟨updL [3, 4] [.int a, .int b] (drops [3, 4, 5] ρ), true, ?_, evca_nil, fun _ hlen => ?_, fun h => nomatch h⟩
    · simp [bindTg, spV, lim]
    · refine evg_in (X := .rng a (b + 1)) ?_ (rng_iR ⟨by unfold lim; omega, by unfold lim; omega, by unfold lim; omega⟩) hlen
      refine evO2 (evV (v := .int a) (by simp [updL, upd])) rfl (evO2 (evV (v := .int b) (by simp [updL, upd])) rfl ev_int rfl) ?_
      simp only [o2]
      rw [if_pos ⟨by unfold lim; omega, by unfold lim; omega⟩]
  · rw [hflat]
    intro y hy
    obtain ⟨i, _, rfl⟩ := List.mem_map.mp hy
    exact okD_int
  · rw [hflat, List.length_map]
    unfold lim; omega
theorem upf_self {x : Nat} : upf x (L x) L = L := by
  funext y
  unfold upf
  split
  · rename_i h; rw [h]
  · rfl
theorem run_lots {as : List (Nat × V)} (s : SD σ (doms m L) as) (hm : m ≤ 3) (w : WF m L) (bd : Bd m L) : run TB (n + 2) 26 [.ref 3] σ = some (.ref σ.length, σ ++ [.dictI (dic (List.range (m + 1)) L)]) := by
  rw [run_eq (fn := f_law_lots) rfl rfl]
  unfold f_law_lots
  dsimp only
  rw [exs_nxt (exe_asg ev_dict0)]
  have key : ∀ (xs acc : List Nat) (ρ : Ev), ρ 7 = some (.ref σ.length) → ρ 45 = some (.ref 3) → (∀ x ∈ xs, x ≤ m) → (acc ++ xs).Nodup → (acc ++ xs).length ≤ 100 → ∃ ρ', ρ' 7 = some (.ref σ.length) ∧ loopS (fun x ρ' σ' => (bindTg (.nm 11) x ρ').bind fun ρ'' => exs (oB (n + 1))
     (.cons (.asgI (.var 7) (.var 11) (.comp [3, 4, 5] (.var 5) (.tup [3, 4]) (.meth (.var 45) 47 (.cons (.var 11) .nil)) .nil (.cons (.nm 5) (.op2 .rng2 (.var 3) (.op2 .add (.var 4) (.int 1))) .nil .nil)))
   .nil) ρ'' σ') (natV xs) ρ (σ ++ [.dictI (dic acc L)]) = some (.nxt, ρ', σ ++ [.dictI (dic (acc ++ xs) L)]) := by
    intro xs
    induction xs with
    | nil => intro acc ρ h7 _ _ _ _; exact ⟨ρ, h7, by simp [natV, loopS]⟩
    | cons x xs ih =>
      intro acc ρ h7 h45 hx nd hl
      have e : acc ++ x :: xs = (acc ++ [x]) ++ xs := by simp
      rw [e] at nd hl ⊢
      have hnx : x ∉ acc := by
        intro hmem
        have h1 := (List.nodup_append.mp nd).1
        exact (List.nodup_append.mp h1).2.2 x hmem x (by simp) rfl
      obtain ⟨ρ', a, bb⟩ := ih (acc ++ [x]) (upd 11 (.int (x : Int)) ρ) (by simp [upd, h7]) (by simp [upd, h45]) (fun y hy => hx y (List.mem_cons_of_mem _ hy)) nd hl
      refine ⟨ρ', a, ?_⟩
      simp only [natV, List.map_cons, loopS, bindTg, Option.bind_some]
      have hc := ev_lots_comp (n := n) (ρ := upd 11 (.int (x : Int)) ρ) (s.app (l := [.dictI (dic acc L)])) hm w bd (hx x List.mem_cons_self) (by simp [upd, h45]) (by simp [upd])
      rw [exs_nxt (exe_asgI hc (evV (v := .ref σ.length) (by simp [upd, h7])) (evV (v := .int (x : Int)) (by simp [upd])) (st_dict app_get (by rw [dic_len]; simp at hl; unfold lim; omega))), exs_nil, dic_new hnx, upf_self, app_set]
      exact bb
  obtain ⟨ρ', a, e⟩ := key (List.range (m + 1)) [] (upd 7 (.ref σ.length) (updL [45] [.ref 3] fun _ => none)) (by simp [upd]) (by simp [upd, updL]) (fun x hx => by have := List.mem_range.mp hx; omega) (by simpa using List.nodup_range) (by simp; omega)
  have s' : SD (σ ++ [MO.dictI []]) (doms m L) as := s.app
  have hr : ev (oB (n + 1)) (.op1 .rng1 (.meth (.var 45) 46 .nil)) (upd 7 (.ref σ.length) (updL [45] [.ref 3] fun _ => none)) (σ ++ [MO.dictI []]) = some (.rng 0 ((m + 1 : Nat) : Int), σ ++ [MO.dictI []]) := by
    refine evO1 (u := .int ((m + 1 : Nat) : Int)) (σ₁ := σ ++ [MO.dictI []]) ?_ (rng1_nat (by unfold lim; omega))
    rw [ev_meth (i := 3) (c := 0) (d := 2) (f := 10) (σ₁ := σ ++ [MO.dictI []]) (evV (by simp [upd, updL])) s'.i3 s'.i2 rfl s'.a46, evs0, Option.bind_some]
    have := run_size (n := n) s' (by rw [doms_len]; unfold lim; omega)
    rw [doms_len] at this
    exact this
  rw [exs_nxt ((exe_for (σ := σ ++ [MO.dictI []]) (σ' := σ ++ [MO.dictI []]) hr (rng_items (by unfold lim; omega))).trans e)]
  rw [exs_ret (exe_ret (evV a))]
  rfl
theorem dic_eqD {i j : Nat} {ks ks' : List Nat} {L' : LF} (hi : σ[i]? = some (.dictI (dic ks L))) (hj : σ[j]? = some (.dictI (dic ks' L'))) (hl : ks.length = ks'.length) (hk : ∀ x ∈ ks, x ∈ ks') (h : ∀ x ∈ ks, L x = L' x) : eqD σ (.ref i) (.ref j) = some true := by
  have ok : ∀ (ks : List Nat) (L : LF), ((dic ks L).all fun p => okD 20 p.2) = true := by
    intro ks L
    unfold dic
    rw [List.all_map, List.all_eq_true]
    intro x _
    exact okD_liV
  unfold eqD
  simp only [hi, hj, ok, Bool.and_self, if_true, dic_len, hl, decide_true, Bool.true_and]
  congr 1
  rw [List.all_eq_true]
  intro p hp
  obtain ⟨x, hx, rfl⟩ := List.mem_map.mp hp
  rw [dic_get (hk x hx)]
  simp [h x hx]
end
end Mine

end

section
namespace Mine
open PySem
set_option Elab.async false
set_option autoImplicit false
set_option linter.unusedSimpArgs false
set_option linter.unusedVariables false

def ansP (L : LF) (z : Nat) : List Nat → List Int → List (List Int)
  | [], row => if mx row ∈ L z then [row ++ [mx row]] else []
  | x :: xs, row => (L x).flatMap fun v => ansP L z xs (row ++ [v])
theorem flat_len {α β : Type} {k : Nat} {f : α → List β} : ∀ {l : List α}, (∀ x ∈ l, (f x).length ≤ k) → (l.flatMap f).length ≤ l.length * k := by
  intro l
  induction l with
  | nil => intro _; simp
  | cons x l ih =>
    intro h
    rw [List.flatMap_cons, List.length_append, List.length_cons, Nat.add_mul]
    have := h x List.mem_cons_self
    have := ih fun y hy => h y (List.mem_cons_of_mem _ hy)
    omega
theorem ansP_len {L : LF} {z m : Nat} (w : WF m L) : ∀ (xs : List Nat) (row : List Int), (∀ x ∈ xs, x ≤ m) → (ansP L z xs row).length ≤ 4 ^ xs.length := by
  intro xs
  induction xs with
  | nil => intro row _; unfold ansP; split <;> simp
  | cons x xs ih =>
    intro row h
    have h1 := flat_len (k := 4 ^ xs.length) (f := fun v => ansP L z xs (row ++ [v])) (l := L x) (fun v _ => ih _ fun y hy => h y (List.mem_cons_of_mem _ hy))
    have h2 := (w x (h x List.mem_cons_self)).2.2
    have h3 : (L x).length * 4 ^ xs.length ≤ 4 * 4 ^ xs.length := Nat.mul_le_mul_right _ h2
    unfold ansP
    rw [List.length_cons, Nat.pow_succ]
    omega
def lliV (l : List (List Int)) : V := .lst (l.map liV)
theorem okD_lli {n : Nat} {l : List (List Int)} : okD (n + 2) (lliV l) = true := by
  unfold lliV
  rw [okD_lst', List.all_map, List.all_eq_true]
  intro p _
  exact okD_liV
theorem lliV_inj {d e : List (List Int)} (h : lliV d = lliV e) : d = e := by
  unfold lliV at h
  exact (List.map_inj_right (fun a b h => liV_inj h)).mp (V.lst.inj h)

section
variable {n m z a : Nat} {σ : Hp} {L : LF} {ks xs : List Nat}
theorem inn_ints {v : Int} {l : List Int} : o2 .inn (.int v) (liV l) σ = some (.bool (decide (v ∈ l)), σ) := by
  have h1 : ((l.map V.int).all (okD 20)) = true := by
    rw [List.all_map, List.all_eq_true]
    intro p _
    exact okD_int
  have h2 : (V.int v ∈ l.map V.int) ↔ v ∈ l := by
    constructor
    · intro h
      obtain ⟨x, hx, e⟩ := List.mem_map.mp h
      rw [← V.int.inj e]; exact hx
    · intro h; exact List.mem_map.mpr ⟨v, h, rfl⟩
  simp only [o2, inD, view, liV, h1, okD_int, Bool.and_self, if_true, Option.map_some]
  congr 3
  by_cases h : v ∈ l
  · rw [decide_eq_true h, @decide_eq_true _ (Classical.propDecidable _) (h2.mpr h)]
  · rw [decide_eq_false h, @decide_eq_false _ (Classical.propDecidable _) (fun q => h (h2.mp q))]
theorem liV_len {l : List Int} (h : l.length ≤ lim) : o1 .len (liV l) σ = some (.int l.length, σ) := by
  simp only [o1, liV, view, List.length_map, if_pos h]
theorem addLi {l l' : List Int} (h : l.length + l'.length ≤ lim) : o2 .add (liV l) (liV l') σ = some (liV (l ++ l'), σ) := by
  unfold liV
  rw [addL (by simpa using h), List.map_append]
theorem run_answers (w : WF m L) (hks : ∀ x, x ≤ m → x ∈ ks) (hx : ∀ x ∈ xs, x ≤ m) (hz : z ≤ m) (hne : xs ≠ []) (hl : xs.length ≤ 3) :
    ∀ (rest pre : List Nat) (row : List Int) (σ : Hp), xs = pre ++ rest → row.length = pre.length → σ[a]? = some (.dictI (dic ks L)) →
    run TB (n + rest.length + 1) 30 [.ref a, .tup (natV xs), .int (z : Int), liV row] σ = some (lliV (ansP L z rest row), σ) := by
  intro rest
  induction rest with
  | nil =>
    intro pre row σ hp hr ha
    have hrl : row.length = xs.length := by rw [hr, hp]; simp
    have hrn : row ≠ [] := by
      intro h
      rw [h] at hrl
      exact hne (List.length_eq_zero_iff.mp hrl.symm)
    have hrlim : row.length ≤ lim := by rw [hrl]; unfold lim; omega
    rw [List.length_nil, run_eq (fn := f_law_answers) rfl rfl]
    unfold f_law_answers
    dsimp only
    generalize hρ : updL [48, 36, 34, 52] [V.ref a, .tup (natV xs), .int (z : Int), liV row] (fun _ => none) = ρ
    have r48 : ρ 48 = some (.ref a) := by rw [← hρ]; rfl
    have r36 : ρ 36 = some (.tup (natV xs)) := by rw [← hρ]; rfl
    have r34 : ρ 34 = some (.int (z : Int)) := by rw [← hρ]; rfl
    have r52 : ρ 52 = some (liV row) := by rw [← hρ]; rfl
    clear hρ
    have hmx := evO1 (C := oB n) (σ₁ := σ) (evV r52) (o1_maxL (σ := σ) hrn hrlim)
    have hcond : evc (oB n) (.cmp .eq (.op1 .len (.var 52)) (.op1 .len (.var 36))) ρ σ = some (true, σ) := by
      have := evc_cmpP (C := oB n) (ρ := ρ) (σ := σ) (o := .eq) (a := .op1 .len (.var 52)) (b := .op1 .len (.var 36)) (u := .int row.length) (v := .int xs.length) (t := decide ((row.length : Int) = (xs.length : Int))) (evO1 (evV r52) (liV_len hrlim)) (evO1 (evV r36) (by simp only [o1, view, natV_len]; rw [if_pos (by unfold lim; omega)])) o2_eqI
      rw [this, hrl]
      simp
    have hret : ev (oB n) (.ite (.cmp .inn (.op1 .maxL (.var 52)) (.op2 .idx (.var 48) (.var 34))) (.lstF (.cons (.op2 .add (.var 52) (.lstF (.cons (.op1 .maxL (.var 52)) .nil))) .nil)) (.lstF .nil)) ρ σ = some (lliV (ansP L z [] row), σ) := by
      refine ev_ite' (t := decide (mx row ∈ L z)) (evc_cmpP hmx (evO2 (evV r48) rfl (evV r34) (idx_dict ha (dic_get (hks z hz)))) inn_ints) (fun h => ?_) (fun h => ?_)
      · have h' : mx row ∈ L z := by simpa using h
        have : ansP L z [] row = [row ++ [mx row]] := by unfold ansP; rw [if_pos h']
        rw [this]
        exact evL (evs1 (evO2 (evV r52) rfl (evL (evs1 hmx)) (addLi (l' := [mx row]) (by simp; rw [hrl]; unfold lim; omega))))
      · have h' : ¬ mx row ∈ L z := by simpa using h
        have : ansP L z [] row = [] := by unfold ansP; rw [if_neg h']
        rw [this]
        exact evL evs0
    rw [exs_ret (by rw [exe_ife hcond, if_pos rfl]; exact exs_ret (exe_ret hret))]
    rfl
  | cons x rest ih =>
    intro pre row σ hp hr ha
    have hxl : xs.length = pre.length + (rest.length + 1) := by rw [hp]; simp
    have hrlim : row.length ≤ lim := by rw [hr]; unfold lim; omega
    have hxx : x ∈ xs := by rw [hp]; simp
    have hxm := hx x hxx
    obtain ⟨hu, hn0, hl4⟩ := w x hxm
    rw [run_eq (fn := f_law_answers) rfl rfl]
    unfold f_law_answers
    dsimp only
    generalize hρ : updL [48, 36, 34, 52] [V.ref a, .tup (natV xs), .int (z : Int), liV row] (fun _ => none) = ρ
    have r48 : ρ 48 = some (.ref a) := by rw [← hρ]; rfl
    have r36 : ρ 36 = some (.tup (natV xs)) := by rw [← hρ]; rfl
    have r34 : ρ 34 = some (.int (z : Int)) := by rw [← hρ]; rfl
    have r52 : ρ 52 = some (liV row) := by rw [← hρ]; rfl
    clear hρ
    have hcond : evc (oB (n + (rest.length + 1))) (.cmp .eq (.op1 .len (.var 52)) (.op1 .len (.var 36))) ρ σ = some (false, σ) := by
      have := evc_cmpP (C := oB (n + (rest.length + 1))) (ρ := ρ) (σ := σ) (o := .eq) (a := .op1 .len (.var 52)) (b := .op1 .len (.var 36)) (u := .int row.length) (v := .int xs.length) (t := decide ((row.length : Int) = (xs.length : Int))) (evO1 (evV r52) (liV_len hrlim)) (evO1 (evV r36) (by simp only [o1, view, natV_len]; rw [if_pos (by unfold lim; omega)])) o2_eqI
      rw [this]
      congr 2
      simp; omega
    rw [List.length_cons]
    rw [exs_nxt (ρ' := ρ) (σ' := σ) (by
      rw [exe_ife hcond, if_neg (by decide)]
      exact exs_nil)]
    have hix : ev (oB (n + (rest.length + 1))) (.op2 .idx (.var 48) (.op2 .idx (.var 36) (.op1 .len (.var 52)))) ρ σ = some (liV (L x), σ) := by
      refine evO2 (evV r48) rfl (evO2 (evV r36) rfl (evO1 (evV r52) (liV_len hrlim)) (idx_tup (x := row.length) (v := .int (x : Int)) ?_ ?_)) (idx_dict ha (dic_get (hks x hxm)))
      · rw [hr, hp]; simp [natV]
      · rw [natV_len]; unfold lim; omega
    have hbnd : ∀ v : Int, (ansP L z rest (row ++ [v])).length ≤ 64 := by
      intro v
      have h1 := ansP_len (z := z) w rest (row ++ [v]) (fun y hy => hx y (by rw [hp]; simp [hy]))
      have h2 : 4 ^ rest.length ≤ 4 ^ 3 := Nat.pow_le_pow_right (by decide) (by omega)
      omega
    have hfl : ((L x).map V.int).flatMap (fun v => match v with | .int i => (ansP L z rest (row ++ [i])).map liV | _ => []) = (ansP L z (x :: rest) row).map liV := by
      rw [List.flatMap_map]
      show _ = List.map liV ((L x).flatMap fun v => ansP L z rest (row ++ [v]))
      rw [List.map_flatMap]
    have hcomp := ev_comp (C := oB (n + (rest.length + 1))) (ρ := ρ) (σ := σ) (ls := [5, 7]) (elt := .var 7) (it := .op2 .idx (.var 48) (.op2 .idx (.var 36) (.op1 .len (.var 52)))) (t := .nm 5) (ifs := .nil) (rest := (.cons (.nm 7) (.call 30 (.cons (.var 48) (.cons (.var 36) (.cons (.var 34) (.cons (.op2 .add (.var 52) (.lstF (.cons (.var 5) .nil))) .nil))))) .nil .nil)) (X := liV (L x)) (l := (L x).map .int) (σ₁ := σ)
      (fun v => match v with | .int i => (ansP L z rest (row ++ [i])).map liV | _ => []) hix (liV_items (by unfold lim; omega)) ?_ ?_ ?_
    · rw [exs_ret (exe_ret (hcomp.trans (by rw [hfl])))]
      rfl
    · intro v hv acc hacc
      obtain ⟨i, hi, rfl⟩ := List.mem_map.mp hv
      refine ⟨upd 5 (.int i) (drops [5, 7] ρ), true, rfl, evca_nil, fun _ hlen => ?_, fun h => nomatch h⟩
      refine evg_in (X := lliV (ansP L z rest (row ++ [i]))) ?_ ?_ hlen
      · refine evCB (evsC (evV (v := .ref a) (by simp only [upd, drops]; exact r48)) (evsC (evV (v := .tup (natV xs)) (by simp only [upd, drops]; exact r36)) (evsC (evV (v := .int (z : Int)) (by simp only [upd, drops]; exact r34)) (evs1 (evO2 (evV (v := liV row) (by simp only [upd, drops]; exact r52)) rfl (evL (evs1 (evV rfl))) (addLi (l' := [i]) (by simp; rw [hr]; unfold lim; omega))))))) ?_
        exact ih (pre ++ [x]) (row ++ [i]) _ (by rw [hp]; simp) (by simp [hr]) (Kp.app (S := []) _ _ (by simp) ha)
      · unfold lliV
        simp only [itemsI]
        rw [if_pos (by have := hbnd i; simp; unfold lim; omega)]
    · rw [hfl]
      intro y hy
      obtain ⟨l, _, rfl⟩ := List.mem_map.mp hy
      exact okD_liV
    · rw [hfl, List.length_map]
      have h1 := ansP_len (z := z) w (x :: rest) row (fun y hy => hx y (by rw [hp]; exact List.mem_append_right _ hy))
      have h2 : 4 ^ (x :: rest).length ≤ 4 ^ 3 := Nat.pow_le_pow_right (by decide) (by rw [List.length_cons]; omega)
      unfold lim; omega
end

/-- the hand -/
def handO (cells : List Int) (s t : Int) : MO := .dictS [(Str.ofString "cells", liV cells), (Str.ofString "spot", .int s), (Str.ofString "stir", .int t)]
def HO (σ : Hp) : Prop := ∃ cells s t, σ[0]? = some (handO cells s t) ∧ cells.length ≤ 50 ∧ 0 ≤ s ∧ 0 ≤ t ∧ t < 1021
theorem HO.kp {S : List Nat} {σ σ' : Hp} (h : HO σ) (k : Kp S σ σ') (h0 : 0 ∉ S) : HO σ' := by
  obtain ⟨cells, s, t, e, r⟩ := h
  exact ⟨cells, s, t, k _ _ h0 e, r⟩
theorem nCS : Str.ofString "cells" ≠ Str.ofString "spot" := by decide
theorem nCT : Str.ofString "cells" ≠ Str.ofString "stir" := by decide
theorem nST : Str.ofString "spot" ≠ Str.ofString "stir" := by decide
section
variable {n : Nat} {σ : Hp} {cells : List Int} {s t : Int}
theorem idx_s {j : Nat} {l : List (Str × V)} {x : Str} {v : V} (h : σ[j]? = some (.dictS l)) (e : getK x l = some v) : o2 .idx (.ref j) (.str x) σ = some (v, σ) := by
  simp only [o2, view, h, e, pureV, Option.map_some]
theorem st_s {j : Nat} {l : List (Str × V)} {x : Str} {v : V} (h : σ[j]? = some (.dictS l)) (e : l.length ≤ lim) : store (.ref j) (.str x) v σ = some (σ.set j (.dictS (putK x v l))) := by
  simp only [store, h, if_pos e]
theorem hand_c : getK (Str.ofString "cells") [(Str.ofString "cells", liV cells), (Str.ofString "spot", V.int s), (Str.ofString "stir", V.int t)] = some (liV cells) := by
  simp [getK]
theorem hand_s : getK (Str.ofString "spot") [(Str.ofString "cells", liV cells), (Str.ofString "spot", V.int s), (Str.ofString "stir", V.int t)] = some (V.int s) := by
  simp [getK, nCS]
theorem hand_t : getK (Str.ofString "stir") [(Str.ofString "cells", liV cells), (Str.ofString "spot", V.int s), (Str.ofString "stir", V.int t)] = some (V.int t) := by
  simp [getK, nCT, nST]
theorem hand_ps {s' : Int} : putK (Str.ofString "spot") (V.int s') [(Str.ofString "cells", liV cells), (Str.ofString "spot", V.int s), (Str.ofString "stir", V.int t)] = [(Str.ofString "cells", liV cells), (Str.ofString "spot", V.int s'), (Str.ofString "stir", V.int t)] := by
  simp [putK, nCS, nST.symm]
theorem hand_pt {t' : Int} : putK (Str.ofString "stir") (V.int t') [(Str.ofString "cells", liV cells), (Str.ofString "spot", V.int s), (Str.ofString "stir", V.int t)] = [(Str.ofString "cells", liV cells), (Str.ofString "spot", V.int s), (Str.ofString "stir", V.int t')] := by
  simp [putK, nCT, nST]
theorem run_pick (h : HO σ) {k : Int} (hk : 0 < k) : ∃ r σ', 0 ≤ r ∧ r < k ∧ run TB (n + 1) 24 [.ref 0, .int k] σ = some (.int r, σ') ∧ HO σ' ∧ Kp [0] σ σ' ∧ σ'.length = σ.length := by
  obtain ⟨cells, s, t, h0, hc, hs, ht, ht'⟩ := h
  have fm : ∀ x : Int, 0 ≤ x.fmod k ∧ x.fmod k < k := fun x => ⟨Int.fmod_nonneg_of_pos x hk, Int.fmod_lt_of_pos x hk⟩
  rw [run_eq (fn := f_law_pick) rfl rfl]
  unfold f_law_pick
  dsimp only
  generalize hρ : updL [42, 43] [V.ref 0, .int k] (fun _ => none) = ρ
  have r42 : ρ 42 = some (.ref 0) := by rw [← hρ]; rfl
  have r43 : ρ 43 = some (.int k) := by rw [← hρ]; rfl
  clear hρ
  have g0 : σ[0]? = some (.dictS [(Str.ofString "cells", liV cells), (Str.ofString "spot", V.int s), (Str.ofString "stir", V.int t)]) := h0
  let σ1 := σ.set 0 (handO cells (s + 1) t)
  have g1 : σ1[0]? = some (.dictS [(Str.ofString "cells", liV cells), (Str.ofString "spot", V.int (s + 1)), (Str.ofString "stir", V.int t)]) := set_self h0
  have k1 : Kp [0] σ σ1 := Kp.set (by simp)
  have hst : store (.ref 0) (.str (Str.ofString "spot")) (.int (s + 1)) σ = some σ1 := by
    rw [st_s g0 (by simp [lim]), hand_ps]
    rfl
  rw [exs_nxt (exe_asgI (evO2 (evO2 (evV r42) rfl ev_str (idx_s g0 hand_s)) rfl ev_int rfl) (evV r42) ev_str hst)]
  have hspot := evO2 (C := oB n) (ρ := ρ) (evV r42) rfl ev_str (idx_s g1 hand_s)
  have hcells := evO2 (C := oB n) (ρ := ρ) (evV r42) rfl ev_str (idx_s g1 hand_c)
  have hcond : evc (oB n) (.cmp .le (.op2 .idx (.var 42) (.str (Str.ofString "spot"))) (.op1 .len (.op2 .idx (.var 42) (.str (Str.ofString "cells"))))) ρ σ1 = some (decide (s + 1 ≤ (cells.length : Int)), σ1) :=
    evc_cmpP hspot (evO1 hcells (liV_len (by unfold lim; omega))) rfl
  by_cases c : s + 1 ≤ (cells.length : Int)
  · obtain ⟨i, rfl⟩ := Int.eq_ofNat_of_zero_le hs
    have hi : i < cells.length := by omega
    have hget : (cells.map V.int)[i]? = some (V.int cells[i]) := by rw [List.getElem?_map, List.getElem?_eq_getElem hi]; rfl
    refine ⟨(cells[i]).fmod k, σ1, (fm _).1, (fm _).2, ?_, ⟨cells, _, t, g1, hc, by omega, ht, ht'⟩, k1, by simp [σ1]⟩
    rw [exs_ret (v := .int ((cells[i]).fmod k)) (ρ' := ρ) (σ' := σ1) (by
      rw [exe_ife hcond, if_pos (by simpa using c)]
      refine exs_ret (exe_ret (evO2 (evO2 hcells rfl (evO2 hspot rfl ev_int rfl) (w := .int cells[i]) (σ₃ := σ1) ?_) rfl (evV r43) ?_))
      · have e : ((i : Int) + 1 - 1) = (i : Int) := by omega
        show o2 .idx (liV cells) (.int ((i : Int) + 1 - 1)) σ1 = _
        rw [e]
        exact idx_lst hget (by rw [List.length_map]; unfold lim; omega)
      · simp only [o2]
        rw [if_pos (by omega)])]
    rfl
  · let t' := (t * 29 + 13).fmod 1021
    have ht1 : 0 ≤ t' := Int.fmod_nonneg_of_pos _ (by decide)
    have ht2 : t' < 1021 := Int.fmod_lt_of_pos _ (by decide)
    let σ2 := σ1.set 0 (handO cells (s + 1) t')
    have g2 : σ2[0]? = some (.dictS [(Str.ofString "cells", liV cells), (Str.ofString "spot", V.int (s + 1)), (Str.ofString "stir", V.int t')]) := set_self g1
    have k2 : Kp [0] σ1 σ2 := Kp.set (by simp)
    refine ⟨(t'.fdiv 3).fmod k, σ2, (fm _).1, (fm _).2, ?_, ⟨cells, s + 1, t', g2, hc, by omega, ht1, ht2⟩, k1.trans k2, by simp [σ2, σ1]⟩
    rw [exs_nxt (ρ' := ρ) (σ' := σ1) (by
      rw [exe_ife hcond, if_neg (by simp; omega)]
      exact exs_nil)]
    have hst2 : store (.ref 0) (.str (Str.ofString "stir")) (.int t') σ1 = some σ2 := by
      rw [st_s g1 (by simp [lim]), hand_pt]
      rfl
    have hm1 : o2 .mul (.int t) (.int 29) σ1 = some (.int (t * 29), σ1) := by
      simp only [o2]
      rw [if_pos ⟨by unfold lim; omega, by simp [lim]⟩]
    have hm2 : o2 .fmod (.int (t * 29 + 13)) (.int 1021) σ1 = some (.int t', σ1) := by
      simp only [o2]
      rw [if_pos (by decide)]
    rw [exs_nxt (exe_asgI (evO2 (evO2 (evO2 (evO2 (evV r42) rfl ev_str (idx_s g1 hand_t)) rfl ev_int hm1) rfl ev_int rfl) rfl ev_int hm2) (evV r42) ev_str hst2)]
    have hd : o2 .fdiv (.int t') (.int 3) σ2 = some (.int (t'.fdiv 3), σ2) := by
      simp only [o2]
      rw [if_pos ⟨by decide, by unfold lim; omega, by simp [lim]⟩]
    have hm3 : o2 .fmod (.int (t'.fdiv 3)) (.int k) σ2 = some (.int ((t'.fdiv 3).fmod k), σ2) := by
      simp only [o2]
      rw [if_pos (by omega)]
    rw [exs_ret (exe_ret (evO2 (evO2 (evO2 (evV r42) rfl ev_str (idx_s g2 hand_t)) rfl ev_int hd) rfl (evV r43) hm3))]
    rfl
end
end Mine

end

section
namespace Mine
open PySem
set_option Elab.async false
set_option autoImplicit false
set_option linter.unusedSimpArgs false
set_option linter.unusedVariables false

theorem flat_congr {α β : Type} {f g : α → List β} : ∀ {l : List α}, (∀ x ∈ l, f x = g x) → l.flatMap f = l.flatMap g := by
  intro l
  induction l with
  | nil => intro _; rfl
  | cons x l ih =>
    intro h
    rw [List.flatMap_cons, List.flatMap_cons, h x List.mem_cons_self, ih fun y hy => h y (List.mem_cons_of_mem _ hy)]
theorem flat_filter {α β : Type} {f g : α → List β} {p : α → Bool} : ∀ {l : List α}, (∀ x ∈ l, p x = true → f x = g x) → (∀ x ∈ l, p x = false → g x = []) → (l.filter p).flatMap f = l.flatMap g := by
  intro l
  induction l with
  | nil => intro _ _; rfl
  | cons x l ih =>
    intro h h'
    have := ih (fun y hy => h y (List.mem_cons_of_mem _ hy)) (fun y hy => h' y (List.mem_cons_of_mem _ hy))
    rw [List.filter_cons, List.flatMap_cons]
    cases c : p x with
    | true => rw [if_pos rfl, List.flatMap_cons, h x List.mem_cons_self c, this]
    | false => rw [if_neg (by decide), h' x List.mem_cons_self c, this]; rfl

section
variable {L : LF} {z x m : Nat}
theorem map_glue {f : Nat → Int} {y : Nat} {v : Int} {xs : List Nat} (h : y ∉ xs) : xs.map (fun w => if w = y then v else f w) = xs.map f := by
  refine List.map_congr_left fun w hw => ?_
  have : w ≠ y := fun e => h (e ▸ hw)
  simp [this]
theorem ansP_ne : ∀ (xs : List Nat) (row : List Int), xs.Nodup → ansP L z xs row ≠ [] → ∃ f : Nat → Int, (∀ y ∈ xs, f y ∈ L y) ∧ mx (row ++ xs.map f) ∈ L z := by
  intro xs
  induction xs with
  | nil =>
    intro row _ h
    unfold ansP at h
    split at h
    · rename_i h'; exact ⟨fun _ => 0, by simp, by simpa using h'⟩
    · exact absurd rfl h
  | cons y xs ih =>
    intro row nd h
    obtain ⟨hy, nd'⟩ := List.nodup_cons.mp nd
    obtain ⟨r, hr⟩ := List.exists_mem_of_ne_nil _ h
    unfold ansP at hr
    obtain ⟨v, hv, hr'⟩ := List.mem_flatMap.mp hr
    obtain ⟨f, h1, h2⟩ := ih (row ++ [v]) nd' (by intro e; rw [e] at hr'; cases hr')
    refine ⟨fun w => if w = y then v else f w, fun w hw => ?_, ?_⟩
    · rcases List.mem_cons.mp hw with rfl | hw
      · simpa using hv
      · have : w ≠ y := fun e => hy (e ▸ hw)
        simpa [this] using h1 w hw
    · rw [List.map_cons, map_glue hy]
      simpa using h2
theorem ansP_A {p : Int → Bool} (hxz : x ≠ z) : ∀ (xs : List Nat) (row : List Int), xs.Nodup →
    (∀ f : Nat → Int, (∀ y ∈ xs, f y ∈ L y) → mx (row ++ xs.map f) ∈ L z → x ∈ xs → p (f x) = true) → ansP (upf x ((L x).filter p) L) z xs row = ansP L z xs row := by
  intro xs
  induction xs with
  | nil =>
    intro row _ _
    have : z ≠ x := fun e => hxz e.symm
    simp [ansP, upf, this]
  | cons y xs ih =>
    intro row nd H
    obtain ⟨hy, nd'⟩ := List.nodup_cons.mp nd
    have glue : ∀ v ∈ L y, ∀ f : Nat → Int, (∀ y ∈ xs, f y ∈ L y) → mx (row ++ [v] ++ xs.map f) ∈ L z → x ∈ y :: xs → p (if x = y then v else f x) = true := by
      intro v hv f h1 h2 hx
      refine H (fun w => if w = y then v else f w) (fun w hw => ?_) ?_ hx
      · rcases List.mem_cons.mp hw with rfl | hw
        · simpa using hv
        · have : w ≠ y := fun e => hy (e ▸ hw)
          simpa [this] using h1 w hw
      · rw [List.map_cons, map_glue hy]
        simpa using h2
    have IH : ∀ v ∈ L y, ansP (upf x ((L x).filter p) L) z xs (row ++ [v]) = ansP L z xs (row ++ [v]) := by
      intro v hv
      refine ih (row ++ [v]) nd' fun f h1 h2 hx => ?_
      have := glue v hv f h1 h2 (List.mem_cons_of_mem _ hx)
      have e : x ≠ y := fun e => hy (e ▸ hx)
      simpa [e] using this
    unfold ansP
    by_cases e : y = x
    · subst e
      have : upf y ((L y).filter p) L y = (L y).filter p := by simp [upf]
      rw [this]
      refine flat_filter (fun v hv _ => IH v hv) (fun v hv hp => ?_)
      refine Classical.byContradiction fun h => ?_
      obtain ⟨f, h1, h2⟩ := ansP_ne xs _ nd' h
      have := glue v hv f h1 h2 List.mem_cons_self
      rw [if_pos rfl, hp] at this
      cases this
    · have : upf x ((L x).filter p) L y = L y := by simp [upf, e]
      rw [this]
      exact flat_congr IH
theorem ansP_B {p : Int → Bool} : ∀ (xs : List Nat) (row : List Int), xs.Nodup → z ∉ xs →
    (∀ f : Nat → Int, (∀ y ∈ xs, f y ∈ L y) → mx (row ++ xs.map f) ∈ L z → p (mx (row ++ xs.map f)) = true) → ansP (upf z ((L z).filter p) L) z xs row = ansP L z xs row := by
  intro xs
  induction xs with
  | nil =>
    intro row _ _ H
    have h := H (fun _ => 0) (by simp)
    simp only [List.map_nil, List.append_nil] at h
    unfold ansP
    have e : upf z ((L z).filter p) L z = (L z).filter p := by simp [upf]
    rw [e]
    by_cases c : mx row ∈ L z
    · rw [if_pos c, if_pos (List.mem_filter.mpr ⟨c, h c⟩)]
    · rw [if_neg c, if_neg fun q => c (List.mem_filter.mp q).1]
  | cons y xs ih =>
    intro row nd hz H
    obtain ⟨hy, nd'⟩ := List.nodup_cons.mp nd
    have hzy : y ≠ z := fun e => hz (by rw [e]; exact List.mem_cons_self)
    unfold ansP
    have e : upf z ((L z).filter p) L y = L y := by simp [upf, hzy]
    rw [e]
    refine flat_congr fun v hv => ih (row ++ [v]) nd' (fun q => hz (List.mem_cons_of_mem _ q)) fun f h1 h2 => ?_
    have := H (fun w => if w = y then v else f w) (fun w hw => ?_) ?_
    · rw [List.map_cons, map_glue hy] at this
      simpa using this
    · rcases List.mem_cons.mp hw with rfl | hw
      · simpa using hv
      · have : w ≠ y := fun e => hy (e ▸ hw)
        simpa [this] using h1 w hw
    · rw [List.map_cons, map_glue hy]
      simpa using h2
theorem ansP_nil {xs : List Nat} (h : x ∈ xs ∨ x = z) (hx : L x = []) : ∀ row, xs.Nodup → ansP L z xs row = [] := by
  intro row nd
  refine Classical.byContradiction fun q => ?_
  obtain ⟨f, h1, h2⟩ := ansP_ne xs row nd q
  rcases h with h | h
  · have := h1 x h
    rw [hx] at this
    cases this
  · rw [← h, hx] at h2
    cases h2

/-- a step that loses no answer -/
def Snd (z : Nat) (xs : List Nat) (g : Q → Rz) : Prop := ∀ q, ((g q).2 = none → ansP (g q).1.L z xs [] = ansP q.L z xs []) ∧ ((g q).2 ≠ none → ansP q.L z xs [] = [])
theorem Snd.andQ {xs : List Nat} {f g : Q → Rz} (h1 : Snd z xs f) (h2 : Snd z xs g) : Snd z xs fun q => andQ (f q) g := by
  intro q
  obtain ⟨a, b⟩ := h1 q
  dsimp only
  cases h : (f q).2 with
  | none =>
    obtain ⟨c, d⟩ := h2 (f q).1
    rw [andQ_none h]
    exact ⟨fun e => (c e).trans (a h), fun e => by rw [← a h]; exact d e⟩
  | some l =>
    rw [andQ_some h]
    exact ⟨fun e => (by rw [h] at e; cases e), fun _ => b (by rw [h]; simp)⟩
theorem Snd.chain {xs : List Nat} : ∀ {fs : List (Q → Rz)}, (∀ f ∈ fs, Snd z xs f) → Snd z xs (chain fs) := by
  intro fs
  induction fs with
  | nil => intro _ q; exact ⟨fun _ => rfl, fun h => absurd rfl h⟩
  | cons f fs ih =>
    intro h
    exact (h f List.mem_cons_self).andQ (ih fun g hg => h g (List.mem_cons_of_mem _ hg))
def holds (g : Bool) (k v : Int) : Bool := if g then decide (k ≤ v) else decide (v ≤ k)
theorem strP_snd {xs : List Nat} {g : Bool} {k : Int} {R : List Lit} {q : Q} (nd : xs.Nodup) (hz : z ∉ xs) (hx : x ∈ xs ∨ x = z)
    (h1 : x ∈ xs → ∀ f : Nat → Int, (∀ y ∈ xs, f y ∈ q.L y) → mx (xs.map f) ∈ q.L z → holds g k (f x) = true)
    (h2 : x = z → ∀ f : Nat → Int, (∀ y ∈ xs, f y ∈ q.L y) → mx (xs.map f) ∈ q.L z → holds g k (mx (xs.map f)) = true) :
    ((strP x g k R q).2 = none → ansP (strP x g k R q).1.L z xs [] = ansP q.L z xs []) ∧ ((strP x g k R q).2 ≠ none → ansP q.L z xs [] = []) := by
  have key : ansP (upf x (kept g k (q.L x)) q.L) z xs [] = ansP q.L z xs [] := by
    by_cases c : x = z
    · subst c
      exact ansP_B (p := holds g k) xs [] nd hz (by simpa using h2 rfl)
    · have hxs := hx.resolve_right c
      exact ansP_A (p := holds g k) c xs [] nd (by simpa using fun f a b _ => h1 hxs f a b)
  unfold strP
  split
  · rename_i e
    refine ⟨fun h => (nomatch h), fun _ => ?_⟩
    rw [← key]
    refine ansP_nil hx ?_ _ nd
    simp [upf, e]
  · split
    · exact ⟨fun _ => rfl, fun h => absurd rfl h⟩
    · exact ⟨fun _ => key, fun h => absurd rfl h⟩

theorem onceP_snd {xs : List Nat} (nd : xs.Nodup) (hz : z ∉ xs) (hne : xs ≠ []) : Snd z xs (onceP xs z) := by
  have tops : ∀ f : Nat → Int, ∃ y ∈ xs, f y = mx (xs.map f) := by
    intro f
    have := mx_mem (l := xs.map f) (by simpa using hne)
    obtain ⟨y, hy, e⟩ := List.mem_map.mp this
    exact ⟨y, hy, e⟩
  have lel : ∀ (f : Nat → Int), ∀ y ∈ xs, f y ≤ mx (xs.map f) := fun f y hy => mx_le _ (List.mem_map.mpr ⟨y, hy, rfl⟩)
  have S1 : Snd z xs (s1 xs z) := by
    intro q
    refine strP_snd nd hz (.inr rfl) (fun h => absurd h hz) fun _ f a b => ?_
    obtain ⟨y, hy, e⟩ := tops f
    have h1 := mx_le _ (a y hy)
    have h2 : mx (q.L y) ≤ mostQ xs q.L := mx_le _ (List.mem_map.mpr ⟨y, hy, rfl⟩)
    simp only [holds, Bool.false_eq_true, if_false]
    simp only [decide_eq_true_eq]
    omega
  have SA : ∀ x ∈ xs, Snd z xs (sA z x) := by
    intro x hx q
    refine strP_snd nd hz (.inr rfl) (fun h => absurd h hz) fun _ f a b => ?_
    have h1 := mn_le _ (a x hx)
    have h2 := lel f x hx
    simp only [holds, if_true, decide_eq_true_eq]
    omega
  have SB : ∀ x ∈ xs, Snd z xs (sB z x) := by
    intro x hx q
    refine strP_snd nd hz (.inl hx) (fun _ f a b => ?_) fun h => absurd (h ▸ hx) hz
    have h1 := mx_le _ b
    have h2 := lel f x hx
    simp only [holds, Bool.false_eq_true, if_false]
    simp only [decide_eq_true_eq]
    omega
  have S4 : Snd z xs (s4 xs z) := by
    intro q
    unfold s4
    match hA : ableQ xs z q.L with
    | [] => exact ⟨fun _ => rfl, fun h => absurd rfl h⟩
    | _ :: _ :: _ => exact ⟨fun _ => rfl, fun h => absurd rfl h⟩
    | [x] =>
      have hx : x ∈ xs := by
        have : x ∈ ableQ xs z q.L := by rw [hA]; simp
        exact (List.mem_filter.mp this).1
      dsimp only
      refine strP_snd nd hz (.inl hx) (fun _ f a b => ?_) fun h => absurd (h ▸ hx) hz
      obtain ⟨y, hy, e⟩ := tops f
      have h1 := mn_le _ b
      have h2 := mx_le _ (a y hy)
      have : y ∈ ableQ xs z q.L := List.mem_filter.mpr ⟨hy, by simp; omega⟩
      rw [hA] at this
      have hyx : y = x := List.mem_singleton.mp this
      subst hyx
      simp only [holds, if_true, decide_eq_true_eq]
      omega
  have h1 : Snd z xs (chain (xs.map (sA z))) := Snd.chain fun f hf => by
    obtain ⟨x, hx, rfl⟩ := List.mem_map.mp hf
    exact SA x hx
  have h2 : Snd z xs (chain (xs.map (sB z))) := Snd.chain fun f hf => by
    obtain ⟨x, hx, rfl⟩ := List.mem_map.mp hf
    exact SB x hx
  exact ((S1.andQ h1).andQ h2).andQ S4

/-- what each strP keeps, onceP keeps -/
theorem onceP_pres {P : Q → Prop} {xs : List Nat} {q : Q} (hx : ∀ x ∈ xs, x ≤ m) (hz : z ≤ m) (h : ∀ x g k R q, x ≤ m → P q → P (strP x g k R q).1) (hq : P q) : P (onceP xs z q).1 := by
  have hand : ∀ {r : Rz} {f : Q → Rz}, P r.1 → (∀ q, P q → P (f q).1) → P (andQ r f).1 := by
    intro r f a b
    unfold andQ
    cases r.2 with
    | none => exact b _ a
    | some _ => exact a
  have hch : ∀ (fs : List (Q → Rz)), (∀ f ∈ fs, ∀ q, P q → P (f q).1) → ∀ q, P q → P (chain fs q).1 := by
    intro fs
    induction fs with
    | nil => intro _ q a; exact a
    | cons f fs ih =>
      intro a q b
      exact hand (a f List.mem_cons_self q b) (ih fun g hg => a g (List.mem_cons_of_mem _ hg))
  refine hand (hand (hand ?_ ?_) ?_) ?_
  · exact h _ _ _ _ _ hz hq
  · exact hch _ fun f hf => by
      obtain ⟨x, hx', rfl⟩ := List.mem_map.mp hf
      exact fun q a => h _ _ _ _ _ hz a
  · exact hch _ fun f hf => by
      obtain ⟨x, hx', rfl⟩ := List.mem_map.mp hf
      exact fun q a => h _ _ _ _ _ (hx x hx') a
  · intro q a
    unfold s4
    split
    · rename_i y hA
      have : y ∈ ableQ xs z q.L := by rw [hA]; simp
      exact h _ _ _ _ _ (hx y (List.mem_filter.mp this).1) a
    · exact a

def undo (T : List TE) (L : LF) : LF := T.foldr (fun e L => upf e.x e.old L) L
theorem undo_snoc {T : List TE} {e : TE} : undo (T ++ [e]) L = undo T (upf e.x e.old L) := by unfold undo; rw [List.foldr_append]; rfl
theorem undo_append {T T' : List TE} : undo (T ++ T') L = undo T (undo T' L) := by unfold undo; rw [List.foldr_append]
theorem upf_upf {l : List Int} : upf x (L x) (upf x l L) = L := by
  funext y
  unfold upf
  split
  · rename_i h; rw [h]
  · rfl
structure QI (m : Nat) (L0 : LF) (q : Q) : Prop where
  w : WF m q.L
  b : Bd m q.L
  t : ∀ e ∈ q.T, e.x ≤ m ∧ okD 18 e.lit = true ∧ okD 18 e.rs = true
  u : undo q.T q.L = L0
theorem strP_QI {L0 : LF} {g : Bool} {k : Int} {R : List Lit} {q : Q} (hx : x ≤ m) (h : QI m L0 q) : QI m L0 (strP x g k R q).1 := by
  refine ⟨strP_wf h.w, ?_, ?_, ?_⟩
  · unfold strP
    split
    · exact h.b
    · split
      · exact h.b
      · intro y hy v hv
        dsimp only [upf] at hv
        split at hv
        · rename_i e
          subst e
          exact h.b y hy v (List.mem_filter.mp hv).1
        · exact h.b y hy v hv
  · unfold strP
    split
    · exact h.t
    · split
      · exact h.t
      · intro e he
        rcases List.mem_append.mp he with he | he
        · exact h.t e he
        · rw [List.mem_singleton.mp he]
          exact ⟨hx, okD_lv, okD_lvs⟩
  · unfold strP
    split
    · exact h.u
    · split
      · exact h.u
      · dsimp only
        rw [undo_snoc]
        dsimp only
        rw [upf_upf]
        exact h.u
theorem onceP_QI {xs : List Nat} {L0 : LF} {q : Q} (hx : ∀ x ∈ xs, x ≤ m) (hz : z ≤ m) (h : QI m L0 q) : QI m L0 (onceP xs z q).1 :=
  onceP_pres hx hz (fun _ _ _ _ _ a b => strP_QI a b) h
theorem okD_teV {e : TE} {n : Nat} (h1 : okD (n + 2) e.lit = true) (h2 : okD (n + 2) e.rs = true) : okD (n + 3) e.v = true := by
  unfold TE.v
  rw [okD_tup']
  simp [okD_int, okD_doV, h1, h2]
end
end Mine

end

section
namespace Mine
open PySem
set_option Elab.async false
set_option autoImplicit false
set_option linter.unusedSimpArgs false
set_option linter.unusedVariables false

theorem spans_split {v : Int} : ∀ l : List Int, Up l → v ∈ l → ∃ A a b B, spans l = A ++ (a, b) :: B ∧ (∀ p ∈ A, p.1 ≤ p.2 ∧ p.2 < v) ∧ a ≤ v ∧ v ≤ b := by
  refine snoc_ind (fun _ h => nomatch h) ?_
  intro l w ih hu hv
  obtain ⟨hl, hlt⟩ := hu.snoc
  rw [spans_snoc]
  rcases List.mem_append.mp hv with hv | hv
  · obtain ⟨A, a, b, B, e, h1, h2, h3⟩ := ih hl hv
    rw [e]
    rcases snoc_cases B with rfl | ⟨B', p, rfl⟩
    · have := addS_snoc A (a, b) w
      rw [this]
      split
      · refine ⟨A, a, w, [], rfl, h1, h2, ?_⟩
        have := hlt v hv
        omega
      · exact ⟨A, a, b, [(w, w)], by simp, h1, h2, h3⟩
    · have := addS_snoc (A ++ (a, b) :: B') p w
      rw [List.append_assoc, List.cons_append] at this
      rw [this]
      split
      · exact ⟨A, a, b, B' ++ [(p.1, w)], by simp, h1, h2, h3⟩
      · exact ⟨A, a, b, B' ++ [p] ++ [(w, w)], by simp, h1, h2, h3⟩
  · have e := List.mem_singleton.mp hv
    subst e
    have hA : ∀ p ∈ spans l, p.1 ≤ p.2 ∧ p.2 < v := fun p hp => ⟨(spans_mem l p hp).1, hlt _ (spans_mem l p hp).2.2⟩
    rcases snoc_cases (spans l) with h | ⟨i, q, h⟩
    · rw [h]
      exact ⟨[], v, v, [], rfl, by simp, Int.le_refl _, Int.le_refl _⟩
    · rw [h] at hA ⊢
      rw [addS_snoc]
      split
      · refine ⟨i, q.1, v, [], rfl, fun p hp => hA p (List.mem_append_left _ hp), ?_, Int.le_refl _⟩
        have := hA q (by simp)
        omega
      · exact ⟨i ++ [q], v, v, [], rfl, hA, Int.le_refl _, Int.le_refl _⟩

section
variable {n f : Nat} {σ : Hp} {ρ : Ev}
def meetB : Sts := (.cons (.asgS [3, 4] (.cons (.op2 .max2 (.op2 .idx (.op2 .idx (.var 1) (.var 8)) (.int 0)) (.op2 .idx (.op2 .idx (.var 6) (.var 9)) (.int 0))) (.cons (.op2 .min2 (.op2 .idx (.op2 .idx (.var 1) (.var 8)) (.int 1)) (.op2 .idx (.op2 .idx (.var 6) (.var 9)) (.int 1))) .nil)))
   (.cons (.ife (.cmp .le (.var 3) (.var 4))
    (.cons (.expr (.op2 .app (.var 7) (.tup (.cons (.var 3) (.cons (.var 4) .nil)))))
    .nil)
    .nil)
   (.cons (.ife (.cmp .lt (.op2 .idx (.op2 .idx (.var 1) (.var 8)) (.int 1)) (.op2 .idx (.op2 .idx (.var 6) (.var 9)) (.int 1)))
    (.cons (.asg 8 (.op2 .add (.var 8) (.int 1)))
    .nil)
    (.cons (.asg 9 (.op2 .add (.var 9) (.int 1)))
    .nil))
   .nil)))
def meetC : Cn := (.and (.cons (.cmp .lt (.var 8) (.op1 .len (.var 1))) (.cons (.cmp .lt (.var 9) (.op1 .len (.var 6))) .nil)))
structure MI (d : List (Int × Int)) (v : Int) (f i j : Nat) (ρ : Ev) : Prop where
  r1 : ρ 1 = some (doV d)
  r6 : ρ 6 = some (doV [(v, v)])
  r7 : ρ 7 = some (.ref f)
  r8 : ρ 8 = some (.int (i : Int))
  r9 : ρ 9 = some (.int (j : Int))
theorem doV_idx {d : List (Int × Int)} {i : Nat} {p : Int × Int} (h : d[i]? = some p) (hl : d.length ≤ lim) : o2 .idx (doV d) (.int (i : Int)) σ = some (spV p, σ) :=
  idx_tup (by rw [List.getElem?_map, h]; rfl) (by rw [List.length_map]; exact hl)
theorem sp0 {p : Int × Int} : o2 .idx (spV p) (.int 0) σ = some (.int p.1, σ) := idx_tup (x := 0) rfl (by simp [lim])
theorem sp1 {p : Int × Int} : o2 .idx (spV p) (.int 1) σ = some (.int p.2, σ) := idx_tup (x := 1) rfl (by simp [lim])
theorem doV_len {d : List (Int × Int)} (hl : d.length ≤ lim) : o1 .len (doV d) σ = some (.int d.length, σ) := by
  simp only [o1, doV, view, List.length_map, if_pos hl]
theorem meet_cond {C : Orc} {d : List (Int × Int)} {v : Int} {i j : Nat} (h : MI d v f i j ρ) (hl : d.length ≤ lim) : evc C meetC ρ σ = some (decide ((i : Int) < d.length) && decide ((j : Int) < 1), σ) := by
  refine evc_and2 (evc_cmpP (evV h.r8) (evO1 (evV h.r1) (doV_len hl)) rfl) (fun _ => evc_cmpP (evV h.r9) (evO1 (evV h.r6) (doV_len (by simp [lim]))) rfl)
theorem meet_less {C : Orc} {d : List (Int × Int)} {v : Int} {i : Nat} {p : Int × Int} (h : MI d v f i 0 ρ) (hl : d.length ≤ lim) (hp : d[i]? = some p) (h1 : p.1 ≤ p.2) (h2 : p.2 < v) : ∃ ρ', exs C meetB ρ σ = some (.nxt, ρ', σ) ∧ MI d v f (i + 1) 0 ρ' := by
  have a : ∀ ρ : Ev, ρ 1 = some (doV d) → ρ 8 = some (.int (i : Int)) → ev C (.op2 .idx (.var 1) (.var 8)) ρ σ = some (spV p, σ) := fun ρ x y => evO2 (evV x) rfl (evV y) (doV_idx hp hl)
  have b : ∀ ρ : Ev, ρ 6 = some (doV [(v, v)]) → ρ 9 = some (.int ((0 : Nat) : Int)) → ev C (.op2 .idx (.var 6) (.var 9)) ρ σ = some (spV (v, v), σ) := fun ρ x y => evO2 (evV x) rfl (evV y) (doV_idx rfl (by simp [lim]))
  unfold meetB
  rw [exs_nxt (exe_asgS (l := [.int (max p.1 v), .int (min p.2 v)]) (σ' := σ) (evsC (evO2 (evO2 (a _ h.r1 h.r8) rfl ev_int sp0) rfl (evO2 (b _ h.r6 h.r9) rfl ev_int sp0) rfl) (evs1 (evO2 (evO2 (a _ h.r1 h.r8) rfl ev_int sp1) rfl (evO2 (b _ h.r6 h.r9) rfl ev_int sp1) rfl))) rfl)]
  generalize hρ : updL [3, 4] [.int (max p.1 v), .int (min p.2 v)] ρ = ρ1
  have m : MI d v f i 0 ρ1 := by
    rw [← hρ]
    refine ⟨?_, ?_, ?_, ?_, ?_⟩ <;> simp only [updL, upd] <;> simp [h.r1, h.r6, h.r7, h.r8, h.r9]
  have m3 : ρ1 3 = some (.int (max p.1 v)) := by rw [← hρ]; rfl
  have m4 : ρ1 4 = some (.int (min p.2 v)) := by rw [← hρ]; rfl
  clear hρ
  rw [exs_nxt (ρ' := ρ1) (σ' := σ) (by
    rw [exe_ife (evc_cmpP (evV m3) (evV m4) rfl), if_neg (by simp; omega)]
    exact exs_nil)]
  refine ⟨upd 8 (.int ((i + 1 : Nat) : Int)) ρ1, ?_, ?_⟩
  · rw [exs_nxt (by
      rw [exe_ife (evc_cmpP (evO2 (a _ m.r1 m.r8) rfl ev_int sp1) (evO2 (b _ m.r6 m.r9) rfl ev_int sp1) rfl), if_pos (by simpa using h2)]
      rw [exs_nxt (exe_asg (evO2 (evV m.r8) rfl ev_int rfl))]
      exact exs_nil), exs_nil]
    simp
  · refine ⟨?_, ?_, ?_, ?_, ?_⟩ <;> simp only [upd] <;> simp [m.r1, m.r6, m.r7, m.r9]
theorem meet_hit {C : Orc} {d : List (Int × Int)} {v : Int} {i : Nat} {p : Int × Int} (h : MI d v f i 0 ρ) (hl : d.length ≤ lim) (hp : d[i]? = some p) (h1 : p.1 ≤ v) (h2 : v ≤ p.2) (hf : σ[f]? = some (.list [])) : ∃ ρ', exs C meetB ρ σ = some (.nxt, ρ', σ.set f (.list [spV (v, v)])) ∧ MI d v f i 1 ρ' := by
  have a : ∀ (ρ : Ev) (σ : Hp), ρ 1 = some (doV d) → ρ 8 = some (.int (i : Int)) → ev C (.op2 .idx (.var 1) (.var 8)) ρ σ = some (spV p, σ) := fun ρ σ x y => evO2 (evV x) rfl (evV y) (doV_idx hp hl)
  have b : ∀ (ρ : Ev) (σ : Hp), ρ 6 = some (doV [(v, v)]) → ρ 9 = some (.int ((0 : Nat) : Int)) → ev C (.op2 .idx (.var 6) (.var 9)) ρ σ = some (spV (v, v), σ) := fun ρ σ x y => evO2 (evV x) rfl (evV y) (doV_idx rfl (by simp [lim]))
  have e1 : max p.1 v = v := by omega
  have e2 : min p.2 v = v := by omega
  unfold meetB
  rw [exs_nxt (exe_asgS (l := [.int v, .int v]) (σ' := σ) (evsC (evO2 (evO2 (a _ _ h.r1 h.r8) rfl ev_int sp0) rfl (evO2 (b _ _ h.r6 h.r9) rfl ev_int sp0) (by simp only [o2]; rw [e1])) (evs1 (evO2 (evO2 (a _ _ h.r1 h.r8) rfl ev_int sp1) rfl (evO2 (b _ _ h.r6 h.r9) rfl ev_int sp1) (by simp only [o2]; rw [e2])))) rfl)]
  generalize hρ : updL [3, 4] [.int v, .int v] ρ = ρ1
  have m : MI d v f i 0 ρ1 := by
    rw [← hρ]
    refine ⟨?_, ?_, ?_, ?_, ?_⟩ <;> simp only [updL, upd] <;> simp [h.r1, h.r6, h.r7, h.r8, h.r9]
  have m3 : ρ1 3 = some (.int v) := by rw [← hρ]; rfl
  have m4 : ρ1 4 = some (.int v) := by rw [← hρ]; rfl
  clear hρ
  rw [exs_nxt (ρ' := ρ1) (σ' := σ.set f (.list [spV (v, v)])) (by
    rw [exe_ife (evc_cmpP (evV m3) (evV m4) rfl), if_pos (by simp)]
    rw [exs_nxt (exe_expr (v := .none) (evO2 (evV m.r7) (by simp only [pre2, hf]) (evT (evsC (evV m3) (evs1 (evV m4)))) (app_ref hf (by simp))) (.inl rfl))]
    exact exs_nil)]
  refine ⟨upd 9 (.int ((1 : Nat) : Int)) ρ1, ?_, ?_⟩
  · rw [exs_nxt (by
      rw [exe_ife (evc_cmpP (evO2 (a _ _ m.r1 m.r8) rfl ev_int sp1) (evO2 (b _ _ m.r6 m.r9) rfl ev_int sp1) rfl), if_neg (by simp; omega)]
      rw [exs_nxt (exe_asg (evO2 (evV m.r9) rfl ev_int rfl))]
      exact exs_nil), exs_nil]
    rfl
  · refine ⟨?_, ?_, ?_, ?_, ?_⟩ <;> simp only [upd] <;> simp [m.r1, m.r6, m.r7, m.r8]
theorem meet_loop {C : Orc} {v a b : Int} {B : List (Int × Int)} (h1 : a ≤ v) (h2 : v ≤ b) (hf : σ[f]? = some (.list [])) : ∀ (A P : List (Int × Int)) (ρ : Ev) (k : Nat), (P ++ (A ++ (a, b) :: B)).length ≤ lim → (∀ p ∈ A, p.1 ≤ p.2 ∧ p.2 < v) → MI (P ++ (A ++ (a, b) :: B)) v f P.length 0 ρ →
    ∃ ρ', loopW (fun ρ' σ' => evc C meetC ρ' σ') (fun ρ' σ' => exs C meetB ρ' σ') (A.length + 2 + k) ρ σ = some (.nxt, ρ', σ.set f (.list [spV (v, v)])) ∧ ρ' 7 = some (.ref f) := by
  intro A
  induction A with
  | nil =>
    intro P ρ k hl _ m
    obtain ⟨ρ', e, m'⟩ := meet_hit (C := C) m hl (p := (a, b)) (by simp) h1 h2 hf
    have c1 := meet_cond (C := C) (σ := σ) m hl
    have c2 := meet_cond (C := C) (σ := σ.set f (.list [spV (v, v)])) m' hl
    refine ⟨ρ', ?_, m'.r7⟩
    have e3 : ([] : List (Int × Int)).length + 2 + k = (k + 1) + 1 := by simp; omega
    rw [e3]
    unfold loopW
    rw [c1, Option.bind_some]
    have t1 : (decide ((P.length : Int) < (P ++ ([] ++ (a, b) :: B)).length) && decide (((0 : Nat) : Int) < 1)) = true := by simp; omega
    rw [t1]
    dsimp only
    rw [e, Option.bind_some]
    dsimp only
    unfold loopW
    rw [c2, Option.bind_some]
    have t2 : (decide ((P.length : Int) < (P ++ ([] ++ (a, b) :: B)).length) && decide (((1 : Nat) : Int) < 1)) = false := by simp
    rw [t2]
  | cons p A ih =>
    intro P ρ k hl hA m
    obtain ⟨hp1, hp2⟩ := hA p List.mem_cons_self
    obtain ⟨ρ', e, m'⟩ := meet_less (C := C) (σ := σ) m hl (p := p) (by simp) hp1 hp2
    have c1 := meet_cond (C := C) (σ := σ) m hl
    have el : P ++ (p :: A ++ (a, b) :: B) = (P ++ [p]) ++ (A ++ (a, b) :: B) := by simp
    rw [el] at m' hl
    obtain ⟨ρ'', e', r7⟩ := ih (P ++ [p]) ρ' k hl (fun q hq => hA q (List.mem_cons_of_mem _ hq)) (by simpa using m')
    refine ⟨ρ'', ?_, r7⟩
    have e3 : (p :: A).length + 2 + k = (A.length + 2 + k) + 1 := by simp; omega
    rw [e3]
    unfold loopW
    rw [c1, Option.bind_some]
    have t1 : (decide ((P.length : Int) < (P ++ (p :: A ++ (a, b) :: B)).length) && decide (((0 : Nat) : Int) < 1)) = true := by simp; omega
    rw [t1]
    dsimp only
    rw [e, Option.bind_some]
    exact e'
theorem run_meet {l : List Int} {v : Int} (hu : Up l) (hl : l.length ≤ 4) (hv : v ∈ l) : run TB (n + 1) 5 [doV (spans l), doV [(v, v)]] σ = some (doV [(v, v)], σ ++ [.list [spV (v, v)]]) := by
  obtain ⟨A, a, b, B, e, hA, h1, h2⟩ := spans_split l hu hv
  have hsl := spans_len l
  have hl2 : (spans l).length ≤ lim := by unfold lim; omega
  rw [run_eq (fn := f_meet) rfl rfl]
  unfold f_meet
  dsimp only
  rw [exs_nxt (exe_asgS (l := [.ref σ.length, .int 0, .int 0]) (σ' := σ ++ [.list []]) (evsC ev_lstM (evsC ev_int (evs1 ev_int))) rfl)]
  have hf : (σ ++ [MO.list []])[σ.length]? = some (.list []) := app_get
  have hAl : A.length ≤ 4 := by
    have : (spans l).length = A.length + (B.length + 1) := by rw [e]; simp
    omega
  have mi : MI (spans l) v σ.length 0 0 (updL [7, 8, 9] [.ref σ.length, .int 0, .int 0] (updL [1, 6] [doV (spans l), doV [(v, v)]] fun _ => none)) := by
    refine ⟨?_, ?_, ?_, ?_, ?_⟩ <;> simp [updL, upd]
  obtain ⟨ρ', e', r7⟩ := meet_loop (C := oB n) (σ := σ ++ [.list []]) (f := σ.length) h1 h2 hf A [] (updL [7, 8, 9] [.ref σ.length, .int 0, .int 0] (updL [1, 6] [doV (spans l), doV [(v, v)]] fun _ => none)) (5000 - (A.length + 2)) (by rw [List.nil_append, ← e]; exact hl2) hA (by rw [List.nil_append, ← e]; exact mi)
  have ek : A.length + 2 + (5000 - (A.length + 2)) = 5000 := by omega
  rw [ek, app_set] at e'
  have hw : exe (oB n) (.whl 5000 meetC meetB) (updL [7, 8, 9] [.ref σ.length, .int 0, .int 0] (updL [1, 6] [doV (spans l), doV [(v, v)]] fun _ => none)) (σ ++ [.list []]) = some (.nxt, ρ', σ ++ [.list [spV (v, v)]]) := by
    rw [exe_whl]; exact e'
  unfold meetC meetB at hw
  rw [exs_nxt hw]
  rw [exs_ret (exe_ret (v := doV [(v, v)]) (σ' := σ ++ [.list [spV (v, v)]]) (evO1 (evV r7) (by
    show o1 .tuple (.ref σ.length) (σ ++ [.list [spV (v, v)]]) = _
    simp only [o1, view, app_get]
    rw [if_pos (by simp [lim])]
    rfl)))]
  rfl
theorem run_struck_eq {l : List Int} {x v : Int} (hu : Up l) (hl : l.length ≤ 4) (hv : v ∈ l) : run TB (n + 2) 7 [litV x EQ v, doV (spans l)] σ = some (doV (spans [v]), σ ++ [.list [spV (v, v)]]) := by
  rw [run_eq (fn := f_struck) rfl rfl]
  unfold f_struck
  dsimp only
  generalize hρ0 : updL [10, 1] [litV x EQ v, doV (spans l)] (fun _ => none) = ρ0
  have q10 : ρ0 10 = some (litV x EQ v) := by rw [← hρ0]; rfl
  have q1 : ρ0 1 = some (doV (spans l)) := by rw [← hρ0]; rfl
  clear hρ0
  have t1 : o2 .idx (litV x EQ v) (.int 1) σ = some (.str EQ, σ) := idx_tup (x := 1) rfl (by simp [lim])
  have t2 : o2 .idx (litV x EQ v) (.int 2) σ = some (.int v, σ) := idx_tup (x := 2) rfl (by simp [lim])
  rw [exs_nxt (exe_asgS (l := [.str EQ, .int v]) (σ' := σ) (evsC (evO2 (evV q10) rfl ev_int t1) (evs1 (evO2 (evV q10) rfl ev_int t2))) rfl)]
  generalize hρ : updL [12, 2] [.str EQ, .int v] ρ0 = ρ
  have r12 : ρ 12 = some (.str EQ) := by rw [← hρ]; simp [updL, upd]
  have r2 : ρ 2 = some (.int v) := by rw [← hρ]; simp [updL, upd]
  have r1 : ρ 1 = some (doV (spans l)) := by rw [← hρ]; simp [updL, upd, q1]
  clear hρ
  rw [exs_nxt (ρ' := ρ) (σ' := σ) (by
    rw [exe_ife (t := false) (evc_cmpP (evV r12) ev_str (o2_eq_f ok_EQ ok_LE (by intro h; exact ne_EL (V.str.inj h)))), if_neg (by decide)]
    exact exs_nil)]
  rw [exs_nxt (ρ' := ρ) (σ' := σ) (by
    rw [exe_ife (t := false) (evc_cmpP (evV r12) ev_str (o2_eq_f ok_EQ ok_GE (by intro h; exact ne_EG (V.str.inj h)))), if_neg (by decide)]
    exact exs_nil)]
  rw [exs_ret (exe_ret (ev_ite' (t := true) (evc_cmpP (evV r12) ev_str (o2_eq_t ok_EQ ok_EQ rfl)) (fun _ => evCB (evsC (evV r1) (evs1 (evT (evs1 (evT (evsC (evV r2) (evs1 (evV r2)))))))) (run_meet hu hl hv)) (fun h => nomatch h)))]
  rfl

theorem run_decide {m x : Nat} {v : Int} {T : List TE} {L : LF} {F M : List V} {N : List (Int × V)} {b : Bool} {c : V} (s : SI σ (doms m L) F (T.map TE.v) M N b c)
    (hN : N.length ≤ T.length) (hT : T.length ≤ 1000) (hm : m ≤ 3) (w : WF m L) (hx : x ≤ m) (hv : v ∈ L x) (hne : L x ≠ [v]) :
    ∃ σ' N', run TB (n + 4) 16 [.ref 3, litV x EQ v] σ = some (.bool true, σ') ∧ Kp [4, 6, 8] σ σ' ∧
      SI σ' (doms m (upf x [v] L)) F ((T ++ [TE.mk x (L x) (litV x EQ v) .none]).map TE.v) M N' b c ∧ N'.length ≤ T.length + 1 := by
  obtain ⟨hu, hne0, hl⟩ := w x hx
  have d0 := doms_get (L := L) hx
  have dl : (doms m L).length ≤ lim := by rw [doms_len]; unfold lim; omega
  have e1 : run TB (n + 4) 16 [.ref 3, litV x EQ v] σ = run TB (n + 3) 14 [.ref 3, litV x EQ v, .none, .int (-1)] σ := by
    rw [run_eq (fn := f_Store_decide) rfl rfl]
    have h1 : ev (oB (n + 3)) (.meth (.var 0) 26 (.cons (.var 10) (.cons .none (.cons (.op1 .neg (.int 1)) .nil)))) (updL [0, 10] [.ref 3, litV x EQ v] fun _ => none) σ = run TB (n + 3) 14 [.ref 3, litV x EQ v, .none, .int (-1)] σ := by
      rw [ev_meth (i := 3) (c := 0) (d := 2) (f := 14) (σ₁ := σ) (evV rfl) s.i3 s.i2 rfl rfl, evsC (evV rfl) (evsC ev_none (evs1 neg1)), Option.bind_some]
      rfl
    unfold f_Store_decide
    simp only [exs, exe, h1]
    cases run TB (n + 3) 14 [.ref 3, litV x EQ v, .none, .int (-1)] σ <;> rfl
  rw [e1, run_eq (fn := f_Store_enter) rfl rfl]
  unfold f_Store_enter
  dsimp only
  generalize hρ0 : updL [0, 10, 23, 18] [V.ref 3, litV x EQ v, .none, .int (-1)] (fun _ => none) = ρ0
  have q0 : ρ0 0 = some (.ref 3) := by rw [← hρ0]; rfl
  have q10 : ρ0 10 = some (litV x EQ v) := by rw [← hρ0]; rfl
  have q23 : ρ0 23 = some .none := by rw [← hρ0]; rfl
  have q18 : ρ0 18 = some (.int (-1)) := by rw [← hρ0]; rfl
  clear hρ0
  have t0 : o2 .idx (litV x EQ v) (.int 0) σ = some (.int (x : Int), σ) := idx_tup (x := 0) rfl (by simp [lim])
  rw [exs_nxt (exe_asg (v := .int x) (σ' := σ) (evO2 (evV q10) rfl ev_int t0))]
  rw [exs_nxt (exe_asg (v := doV (spans (L x))) (σ' := σ) (evO2 (evA (evV (v := .ref 3) (by simp [upd, q0])) (s.attr (k := 13) rfl)) rfl (evV (v := .int x) (by simp [upd])) (idx_ref s.i4 d0 dl)))]
  let σ0 := σ ++ [MO.list [spV (v, v)]]
  have s0 : SI σ0 (doms m L) F (T.map TE.v) M N b c := s.kp (S := []) Kp.app (by simp)
  have k0 : Kp [4, 6, 8] σ σ0 := Kp.app
  rw [exs_nxt (exe_asg (v := doV (spans [v])) (σ' := σ0) (evCB (evsC (evV (v := litV x EQ v) (by simp [upd, q10])) (evs1 (evV (v := doV (spans (L x))) (by simp [upd])))) (run_struck_eq hu hl hv)))]
  generalize hρ : upd 25 (doV (spans [v])) (upd 24 (doV (spans (L x))) (upd 11 (.int (x : Int)) ρ0)) = ρ
  have r0 : ρ 0 = some (.ref 3) := by rw [← hρ]; simp [upd, q0]
  have r10 : ρ 10 = some (litV x EQ v) := by rw [← hρ]; simp [upd, q10]
  have r23 : ρ 23 = some .none := by rw [← hρ]; simp [upd, q23]
  have r18 : ρ 18 = some (.int (-1)) := by rw [← hρ]; simp [upd, q18]
  have r11 : ρ 11 = some (.int (x : Int)) := by rw [← hρ]; simp [upd]
  have r24 : ρ 24 = some (doV (spans (L x))) := by rw [← hρ]; simp [upd]
  have r25 : ρ 25 = some (doV (spans [v])) := by rw [← hρ]; simp [upd]
  clear hρ
  rw [exs_nxt (ρ' := ρ) (σ' := σ0) (by
    rw [exe_ife (t := false) (evc_cmpP (evV r25) (evT evs0) (o2_eq_f okD_doV rfl (by
      intro h
      have := spans_nil.mp (doV_inj (h.trans doV_nil.symm))
      cases this))), if_neg (by decide)]
    exact exs_nil)]
  rw [exs_nxt (ρ' := ρ) (σ' := σ0) (by
    rw [exe_ife (t := false) (evc_cmpP (evV r25) (evV r24) (o2_eq_f okD_doV okD_doV (by
      intro h
      exact hne (spans_inj (by simp [Up]) hu (doV_inj h)).symm))), if_neg (by decide)]
    exact exs_nil)]
  have tl : (T.map TE.v).length ≤ lim := by rw [List.length_map]; unfold lim; omega
  have dx : x < (doms m L).length := by rw [doms_len]; omega
  have nl : N.length ≤ lim := by unfold lim; omega
  let e : TE := ⟨x, L x, litV x EQ v, .none⟩
  let σ1 := σ0.set 6 (.list (T.map TE.v ++ [e.v]))
  let σ2 := σ1.set 4 (.list ((doms m L).set x (doV (spans [v]))))
  let σ3 := σ2.set 8 (.dictI (putK (x : Int) (.bool true) N))
  have a1 : σ1[3]? = some (.inst 0 2) := set_ne s0.i3 (by decide)
  have a2 : σ1[2]? = _ := set_ne s0.i2 (by decide)
  have a3 : σ1[4]? = _ := set_ne s0.i4 (by decide)
  have b1 : σ2[3]? = some (.inst 0 2) := set_ne a1 (by decide)
  have b2 : σ2[2]? = _ := set_ne a2 (by decide)
  have b3 : σ2[8]? = some (.dictI N) := set_ne (set_ne s0.i8 (by decide)) (by decide)
  have s3 : SI σ3 (doms m (upf x [v] L)) F ((T ++ [e]).map TE.v) M (putK (x : Int) (.bool true) N) b c := by
    refine ⟨set_ne b1 (by decide), set_ne b2 (by decide), ?_, ?_, ?_, ?_, set_self b3⟩
    · rw [← doms_set]; exact set_ne (set_self a3) (by decide)
    · exact set_ne (set_ne (set_ne s0.i5 (by decide)) (by decide)) (by decide)
    · have : (T ++ [e]).map TE.v = T.map TE.v ++ [e.v] := by simp
      rw [this]
      exact set_ne (set_ne (set_self s0.i6) (by decide)) (by decide)
    · exact set_ne (set_ne (set_ne s0.i7 (by decide)) (by decide)) (by decide)
  have at1 : attrOf (.ref 3) 13 σ1 = some (.ref 4) := by simp only [attrOf, a1, a2]; rfl
  have at2 : attrOf (.ref 3) 17 σ2 = some (.ref 8) := by simp only [attrOf, b1, b2]; rfl
  refine ⟨σ3, putK (x : Int) (.bool true) N, ?_, ((k0.trans (Kp.set (by simp))).trans (Kp.set (by simp))).trans (Kp.set (by simp)), s3, ?_⟩
  · rw [exs_nxt (exe_expr (v := .none) (σ' := σ1) (evO2 (evA (evV r0) (s0.attr (k := 15) rfl)) (by simp only [pre2, s0.i6]) (evT (evsC (evV r11) (evsC (evV r24) (evsC (evV r10) (evsC (evV r23) (evs1 (evV r18))))))) (app_ref s0.i6 tl)) (.inl rfl))]
    rw [exs_nxt (exe_asgI (σ₄ := σ2) (evV r25) (evA (evV r0) at1) (evV r11) (st_list a3 dx dl))]
    rw [exs_nxt (exe_asgI (σ₄ := σ3) ev_bool (evA (evV r0) at2) (evV r11) (st_dict b3 nl))]
    rw [exs_ret (exe_ret ev_bool)]
    rfl
  · have := putK_len (k := (x : Int)) (v := .bool true) (l := N)
    omega
end
end Mine

end

section
namespace Mine
open PySem
set_option Elab.async false
set_option autoImplicit false
set_option linter.unusedSimpArgs false
set_option linter.unusedVariables false

theorem getK_cons {k y : Nat} {v : V} {l : List (Nat × V)} : getK k ((y, v) :: l) = if y = k then some v else getK k l := by
  unfold getK
  rw [List.find?_cons]
  by_cases h : y = k <;> simp [h]
section
variable {n : Nat} {σ : Hp} {D F M T : List V} {N : List (Int × V)} {b : Bool} {c : V}

/-- self.k = v -/
theorem put_at {i d c' : Nat} {as : List (Nat × V)} {k : Nat} {v : V} (h3 : σ[i]? = some (.inst c' d)) (h2 : σ[d]? = some (.attrs as)) (hl : as.length ≤ 500) : putAttr (.ref i) k v σ = some (σ.set d (.attrs (putA k v as))) := by
  simp only [putAttr, h3, h2, if_pos hl]

theorem run_init {h0 h1 : MO} : ∃ σ', run TB (n + 1) 8 [.ref 3] [h0, h1, .attrs [], .inst 0 2] = some (.none, σ') ∧ SI σ' [] [] [] [] [] false (.tup []) ∧ Kp [2] [h0, h1, .attrs [], .inst 0 2] σ' := by
  refine ⟨[h0, h1, .attrs [(13, .ref 4), (14, .ref 5), (15, .ref 6), (16, .ref 7), (17, .ref 8), (18, .int (-1)), (19, .bool false), (20, .tup [])], .inst 0 2, .list [], .list [], .list [], .list [], .dictI []], ?_, ⟨rfl, rfl, rfl, rfl, rfl, rfl, rfl⟩, ?_⟩
  · rw [run_eq (fn := f_Store_init) rfl rfl]
    unfold f_Store_init
    dsimp only
    generalize hρ : updL [0] [V.ref 3] (fun _ => none) = ρ
    have r0 : ρ 0 = some (.ref 3) := by rw [← hρ]; rfl
    clear hρ
    rw [exs_nxt (exe_asgA (σ₃ := [h0, h1, .attrs [(13, .ref 4)], .inst 0 2, .list []]) ev_lstM (evV r0) rfl)]
    rw [exs_nxt (exe_asgA (σ₃ := [h0, h1, .attrs [(13, .ref 4), (14, .ref 5)], .inst 0 2, .list [], .list []]) ev_lstM (evV r0) rfl)]
    rw [exs_nxt (exe_asgA (σ₃ := [h0, h1, .attrs [(13, .ref 4), (14, .ref 5), (15, .ref 6)], .inst 0 2, .list [], .list [], .list []]) ev_lstM (evV r0) rfl)]
    rw [exs_nxt (exe_asgA (σ₃ := [h0, h1, .attrs [(13, .ref 4), (14, .ref 5), (15, .ref 6), (16, .ref 7)], .inst 0 2, .list [], .list [], .list [], .list []]) ev_lstM (evV r0) rfl)]
    rw [exs_nxt (exe_asgA (σ₃ := [h0, h1, .attrs [(13, .ref 4), (14, .ref 5), (15, .ref 6), (16, .ref 7), (17, .ref 8)], .inst 0 2, .list [], .list [], .list [], .list [], .dictI []]) ev_dict0 (evV r0) rfl)]
    rw [exs_nxt (exe_asgA (σ₃ := [h0, h1, .attrs [(13, .ref 4), (14, .ref 5), (15, .ref 6), (16, .ref 7), (17, .ref 8), (18, .int (-1))], .inst 0 2, .list [], .list [], .list [], .list [], .dictI []]) neg1 (evV r0) rfl)]
    rw [exs_nxt (exe_asgA (σ₃ := [h0, h1, .attrs [(13, .ref 4), (14, .ref 5), (15, .ref 6), (16, .ref 7), (17, .ref 8), (18, .int (-1)), (19, .bool false)], .inst 0 2, .list [], .list [], .list [], .list [], .dictI []]) ev_bool (evV r0) rfl)]
    rw [exs_nxt (exe_asgA (σ₃ := [h0, h1, .attrs [(13, .ref 4), (14, .ref 5), (15, .ref 6), (16, .ref 7), (17, .ref 8), (18, .int (-1)), (19, .bool false), (20, .tup [])], .inst 0 2, .list [], .list [], .list [], .list [], .dictI []]) (evT evs0) (evV r0) rfl)]
    rw [exs_nil]
    rfl
  · intro i o hi h
    match i, hi, h with
    | 0, _, h => exact h
    | 1, _, h => exact h
    | 2, hi, _ => exact absurd (by simp) hi
    | 3, _, h => exact h
    | i + 4, _, h => cases h

theorem run_newvar (s : SI σ D F T M N b c) {d : List (Int × Int)} (hd : d ≠ []) (hD : D.length ≤ 100) (hF : F.length ≤ 100) :
    ∃ σ' i, run TB (n + 1) 9 [.ref 3, doV d] σ = some (.int i, σ') ∧ SI σ' (D ++ [doV d]) (F ++ [doV d]) T M N b c ∧ Kp [4, 5] σ σ' := by
  rw [run_eq (fn := f_Store_new_var) rfl rfl]
  unfold f_Store_new_var
  dsimp only
  generalize hρ : updL [0, 21] [V.ref 3, doV d] (fun _ => none) = ρ
  have r0 : ρ 0 = some (.ref 3) := by rw [← hρ]; rfl
  have r21 : ρ 21 = some (doV d) := by rw [← hρ]; rfl
  clear hρ
  let σ1 := σ.set 4 (.list (D ++ [doV d]))
  have s1 : SI σ1 (D ++ [doV d]) F T M N b c := ⟨set_ne s.i3 (by decide), set_ne s.i2 (by decide), set_self s.i4, set_ne s.i5 (by decide), set_ne s.i6 (by decide), set_ne s.i7 (by decide), set_ne s.i8 (by decide)⟩
  let σ2 := σ1.set 5 (.list (F ++ [doV d]))
  have s2 : SI σ2 (D ++ [doV d]) (F ++ [doV d]) T M N b c := ⟨set_ne s1.i3 (by decide), set_ne s1.i2 (by decide), set_ne s1.i4 (by decide), set_self s1.i5, set_ne s1.i6 (by decide), set_ne s1.i7 (by decide), set_ne s1.i8 (by decide)⟩
  refine ⟨σ2, ((D ++ [doV d]).length : Int) - 1, ?_, s2, (Kp.set (by simp)).trans (Kp.set (by simp))⟩
  rw [exs_nxt (exe_expr (v := .none) (σ' := σ1) (evO2 (evA (evV r0) (s.attr (k := 13) rfl)) (by simp only [pre2, s.i4]) (evV r21) (app_ref s.i4 (by unfold lim; omega))) (.inl rfl))]
  rw [exs_nxt (exe_expr (v := .none) (σ' := σ2) (evO2 (evA (evV r0) (s1.attr (k := 14) rfl)) (by simp only [pre2, s1.i5]) (evV r21) (app_ref s1.i5 (by unfold lim; omega))) (.inl rfl))]
  rw [exs_nxt (ρ' := ρ) (σ' := σ2) (by
    rw [exe_ife (t := false) (evc_cmpP (evV r21) (evT evs0) (o2_eq_f okD_doV rfl (by
      intro h
      exact hd (doV_inj (h.trans doV_nil.symm))))), if_neg (by decide)]
    exact exs_nil)]
  rw [exs_ret (exe_ret (evO2 (evO1 (evA (evV r0) (s2.attr (k := 13) rfl)) (len_ref s2.i4 (by simp; unfold lim; omega))) rfl ev_int rfl))]
  rfl

theorem run_push (s : SI σ D F T M N b c) (hT : T.length ≤ 1000) (hM : M.length ≤ 100) : ∃ σ', run TB (n + 1) 18 [.ref 3] σ = some (.none, σ') ∧ SI σ' D F T (M ++ [.int T.length]) N b c ∧ Kp [7] σ σ' := by
  rw [run_eq (fn := f_Store_push) rfl rfl]
  unfold f_Store_push
  dsimp only
  generalize hρ : updL [0] [V.ref 3] (fun _ => none) = ρ
  have r0 : ρ 0 = some (.ref 3) := by rw [← hρ]; rfl
  clear hρ
  let σ1 := σ.set 7 (.list (M ++ [.int T.length]))
  have s1 : SI σ1 D F T (M ++ [.int T.length]) N b c := ⟨set_ne s.i3 (by decide), set_ne s.i2 (by decide), set_ne s.i4 (by decide), set_ne s.i5 (by decide), set_ne s.i6 (by decide), set_self s.i7, set_ne s.i8 (by decide)⟩
  refine ⟨σ1, ?_, s1, Kp.set (by simp)⟩
  rw [exs_nxt (exe_expr (v := .none) (σ' := σ1) (evO2 (evA (evV r0) (s.attr (k := 16) rfl)) (by simp only [pre2, s.i7]) (evO1 (evA (evV r0) (s.attr (k := 15) rfl)) (len_ref s.i6 (by unfold lim; omega))) (app_ref s.i7 (by unfold lim; omega))) (.inl rfl)), exs_nil]
  rfl

theorem run_ginit {ro ra z : Nat} {xs : List Nat} (ho : σ[ro]? = some (.inst 1 ra)) (ha : σ[ra]? = some (.attrs [])) (hl : xs.length ≤ 3) (hor : ro ≠ ra) :
    ∃ σ', run TB (n + 3) 22 [.ref ro, .tup (natV xs), .int (z : Int)] σ = some (.none, σ') ∧ σ'[ro]? = some (.inst 1 ra) ∧ σ'[ra]? = some (.attrs [(32, .int (-1)), (30, .tup (natV (xs ++ [z]))), (31, .str (Str.ofString "bounds"))]) ∧ Kp [ra] σ σ' := by
  let σ1 := σ.set ra (.attrs [(32, .int (-1))])
  let σ2 := σ1.set ra (.attrs [(32, .int (-1)), (30, .tup (natV (xs ++ [z])))])
  let σ3 := σ2.set ra (.attrs [(32, .int (-1)), (30, .tup (natV (xs ++ [z]))), (31, .str (Str.ofString "bounds"))])
  have o1' : σ1[ro]? = some (.inst 1 ra) := set_ne ho (fun h => hor h.symm)
  have o2' : σ2[ro]? = some (.inst 1 ra) := set_ne o1' (fun h => hor h.symm)
  have o3' : σ3[ro]? = some (.inst 1 ra) := set_ne o2' (fun h => hor h.symm)
  have a1 : σ1[ra]? = some (.attrs [(32, .int (-1))]) := set_self ha
  have a2 : σ2[ra]? = some (.attrs [(32, .int (-1)), (30, .tup (natV (xs ++ [z])))]) := set_self a1
  have a3 : σ3[ra]? = some (.attrs [(32, .int (-1)), (30, .tup (natV (xs ++ [z]))), (31, .str (Str.ofString "bounds"))]) := set_self a2
  refine ⟨σ3, ?_, o3', a3, ((Kp.set (by simp)).trans (Kp.set (by simp))).trans (Kp.set (by simp))⟩
  have hP : run TB (n + 1) 20 [.ref ro, .tup (natV (xs ++ [z])), .str (Str.ofString "bounds")] σ = some (.none, σ3) := by
    rw [run_eq (fn := f_Propagator_init) rfl rfl]
    unfold f_Propagator_init
    dsimp only
    generalize hρ : updL [0, 30, 31] [V.ref ro, .tup (natV (xs ++ [z])), .str (Str.ofString "bounds")] (fun _ => none) = ρ
    have r0 : ρ 0 = some (.ref ro) := by rw [← hρ]; rfl
    have r30 : ρ 30 = some (.tup (natV (xs ++ [z]))) := by rw [← hρ]; rfl
    have r31 : ρ 31 = some (.str (Str.ofString "bounds")) := by rw [← hρ]; rfl
    clear hρ
    rw [exs_nxt (exe_asgA (σ₃ := σ1) neg1 (evV r0) (put_at ho ha (by simp)))]
    rw [exs_nxt (exe_asgA (v := .tup (natV (xs ++ [z]))) (σ₃ := σ2) (evO1 (evV r30) rfl) (evV r0) (put_at o1' a1 (by simp)))]
    rw [exs_nxt (exe_asgA (σ₃ := σ3) (evV r31) (evV r0) (put_at o2' a2 (by simp)))]
    rw [exs_nil]
    rfl
  have hE : run TB (n + 2) 21 [.ref ro, .tup (natV (xs ++ [z]))] σ = some (.none, σ3) := by
    rw [run_eq (fn := f_Extreme_init) rfl rfl]
    unfold f_Extreme_init
    dsimp only
    have : ev (oB (n + 1)) (.sup 20 (.cons (.var 30) (.cons (.str (Str.ofString "bounds")) .nil))) (updL [0, 30] [V.ref ro, .tup (natV (xs ++ [z]))] fun _ => none) σ = some (.none, σ3) := by
      have e0 : (updL [0, 30] [V.ref ro, .tup (natV (xs ++ [z]))] fun _ => none) (oB (n + 1)).self = some (.ref ro) := rfl
      simp only [ev, e0, Option.bind_some, ho, ha]
      rw [evsC (evV (v := .tup (natV (xs ++ [z]))) rfl) (evs1 ev_str)]
      exact hP
    rw [exs_nxt (exe_expr this (.inl rfl)), exs_nil]
    rfl
  rw [run_eq (fn := f_Greatest_init) rfl rfl]
  unfold f_Greatest_init
  dsimp only
  have : ev (oB (n + 2)) (.sup 21 (.cons (.op2 .add (.op1 .tuple (.var 33)) (.tup (.cons (.var 34) .nil))) .nil)) (updL [0, 33, 34] [V.ref ro, .tup (natV xs), .int (z : Int)] fun _ => none) σ = some (.none, σ3) := by
    have e0 : (updL [0, 33, 34] [V.ref ro, .tup (natV xs), .int (z : Int)] fun _ => none) (oB (n + 2)).self = some (.ref ro) := rfl
    simp only [ev, e0, Option.bind_some, ho, ha]
    have hadd : o2 .add (.tup (natV xs)) (.tup [.int (z : Int)]) σ = some (.tup (natV (xs ++ [z])), σ) := by
      rw [addT (by simp [natV, lim]; omega)]
      simp [natV]
    rw [evs1 (evO2 (evO1 (σ₂ := σ) (v := .tup (natV xs)) (evV (v := .tup (natV xs)) rfl) rfl) rfl (evT (evs1 (evV rfl))) hadd)]
    exact hE
  rw [exs_nxt (exe_expr this (.inl rfl)), exs_nil]
  rfl

/-- the state after a pop -/
theorem run_pop {m : Nat} {L L0 : LF} {T : List TE} {F : List V} (s : SI σ (doms m L) F (T.map TE.v) [.int 0] N b c) (hm : m ≤ 3) (hT : T.length ≤ 1000) (hx : ∀ e ∈ T, e.x ≤ m) (hu : undo T L = L0)
    (hF : F = doms m L0) (w0 : WF m L0) : ∃ σ' as, run TB (n + 1) 19 [.ref 3, .int 1] σ = some (.none, σ') ∧ SD σ' (doms m L0) as ∧ getK 19 as = some (.bool false) ∧ Kp [2, 4, 6] σ σ' := by
  rw [run_eq (fn := f_Store_pop) rfl rfl]
  unfold f_Store_pop
  dsimp only
  generalize hρ : updL [0, 27] [V.ref 3, .int 1] (fun _ => none) = ρ
  have r0 : ρ 0 = some (.ref 3) := by rw [← hρ]; rfl
  have r27 : ρ 27 = some (.int 1) := by rw [← hρ]; rfl
  clear hρ
  have tlim : T.length ≤ lim := by unfold lim; omega
  rw [exs_nxt (ρ' := ρ) (σ' := σ) (by
    rw [exe_ife (t := false) (evc_cmpP (evV r27) ev_int rfl), if_neg (by decide)]
    exact exs_nil)]
  have hml : ∀ ρ : Ev, ρ 0 = some (.ref 3) → ρ 27 = some (.int 1) → ev (oB n) (.op2 .sub (.op1 .len (.attr (.var 0) 16)) (.var 27)) ρ σ = some (.int 0, σ) := fun ρ a b => evO2 (evO1 (evA (evV a) (s.attr (k := 16) rfl)) (len_ref s.i7 (by simp [lim]))) rfl (evV b) rfl
  have h0 : o2 .idx (.ref 7) (.int 0) σ = some (.int 0, σ) := idx_ref (x := 0) s.i7 rfl (by simp [lim])
  rw [exs_nxt (exe_asg (evO2 (evA (evV r0) (s.attr (k := 16) rfl)) rfl (hml _ r0 r27) h0))]
  generalize hρ1 : upd 28 (.int 0) ρ = ρ1
  have q0 : ρ1 0 = some (.ref 3) := by rw [← hρ1]; simp [upd, r0]
  have q27 : ρ1 27 = some (.int 1) := by rw [← hρ1]; simp [upd, r27]
  have q28 : ρ1 28 = some (.int 0) := by rw [← hρ1]; simp [upd]
  clear hρ1
  have hsl : o2 .slTo (.ref 7) (.int 0) σ = some (.lst [], σ) := by
    simp only [o2, view, s.i7]
    rw [if_pos (by simp [lim])]
    rfl
  let as1 : List (Nat × V) := [(13, .ref 4), (14, .ref 5), (15, .ref 6), (16, .lst []), (17, .ref 8), (18, .int (-1)), (19, .bool b), (20, c)]
  let σ1 := σ.set 2 (.attrs as1)
  rw [exs_nxt (exe_asgA (σ₃ := σ1) (evO2 (evA (evV q0) (s.attr (k := 16) rfl)) rfl (hml _ q0 q27) hsl) (evV q0) (put_at s.i3 s.i2 (by simp)))]
  have key : ∀ (T : List TE) (L : LF) (σ : Hp) (ρ : Ev) (k : Nat), T.length ≤ 1000 → (∀ e ∈ T, e.x ≤ m) → σ[3]? = some (.inst 0 2) → σ[2]? = some (.attrs as1) → σ[4]? = some (.list (doms m L)) → σ[6]? = some (.list (T.map TE.v)) → ρ 0 = some (.ref 3) → ρ 28 = some (.int 0) →
      ∃ ρ' σ', loopW (fun ρ' σ' => evc (oB n) (.cmp .gt (.op1 .len (.attr (.var 0) 15)) (.var 28)) ρ' σ') (fun ρ' σ' => exs (oB n)
   (.cons (.asg 29 (.op1 .popL (.attr (.var 0) 15)))
   (.cons (.asgI (.attr (.var 0) 13) (.op2 .idx (.var 29) (.int 0)) (.op2 .idx (.var 29) (.int 1)))
   .nil)) ρ' σ') (T.length + 1 + k) ρ σ = some (.nxt, ρ', σ') ∧ Kp [4, 6] σ σ' ∧ σ'[4]? = some (.list (doms m (undo T L))) ∧ ρ' 0 = some (.ref 3) := by
    refine snoc_ind ?_ ?_
    · intro L σ ρ k _ _ h3 h2 h4 h6 p0 p28
      refine ⟨ρ, σ, ?_, Kp.refl, h4, p0⟩
      have at15 : attrOf (.ref 3) 15 σ = some (.ref 6) := by simp only [attrOf, h3, h2]; rfl
      have e3 : ([] : List TE).length + 1 + k = k + 1 := by simp; omega
      rw [e3]
      unfold loopW
      rw [evc_cmpP (evO1 (evA (evV p0) at15) (len_ref h6 (by simp))) (evV p28) rfl, Option.bind_some]
      rfl
    · intro T e ih L σ ρ k hl hx h3 h2 h4 h6 p0 p28
      have at15 : attrOf (.ref 3) 15 σ = some (.ref 6) := by simp only [attrOf, h3, h2]; rfl
      have hxe : e.x ≤ m := hx e (by simp)
      have hl6 : ((T ++ [e]).map TE.v).length ≤ lim := by rw [List.length_map]; unfold lim; omega
      let σ1 := σ.set 6 (.list (T.map TE.v))
      let σ2 := σ1.set 4 (.list ((doms m L).set e.x (doV (spans e.old))))
      have b3 : σ1[3]? = _ := set_ne h3 (by decide)
      have b2 : σ1[2]? = _ := set_ne h2 (by decide)
      have b4 : σ1[4]? = _ := set_ne h4 (by decide)
      have b6 : σ1[6]? = some (.list (T.map TE.v)) := set_self h6
      have at13 : attrOf (.ref 3) 13 σ1 = some (.ref 4) := by simp only [attrOf, b3, b2]; rfl
      have c4 : σ2[4]? = some (.list (doms m (upf e.x e.old L))) := by rw [← doms_set]; exact set_self b4
      obtain ⟨ρ', σ', e1, e2, e3, e4⟩ := ih (upf e.x e.old L) σ2 (upd 29 e.v ρ) k (by simp at hl; omega) (fun e' he => hx e' (by simp [he])) (set_ne b3 (by decide)) (set_ne b2 (by decide)) c4 (set_ne b6 (by decide)) (by simp [upd, p0]) (by simp [upd, p28])
      refine ⟨ρ', σ', ?_, ((Kp.set (by simp)).trans (Kp.set (by simp))).trans e2, ?_, e4⟩
      · have e5 : (T ++ [e]).length + 1 + k = (T.length + 1 + k) + 1 := by simp; omega
        rw [e5]
        unfold loopW
        rw [evc_cmpP (t := true) (evO1 (evA (evV p0) at15) (len_ref h6 hl6)) (evV p28) (by simp [o2]), Option.bind_some]
        dsimp only
        have hpop : o1 .popL (.ref 6) σ = some (e.v, σ1) := by
          simp only [o1, h6]
          rw [List.map_append, List.map_cons, List.map_nil]
          rw [List.getLast?_concat]
          dsimp only
          rw [if_pos (by simpa using hl6), List.dropLast_concat]
        have ev : e.v = .tup [.int (e.x : Int), doV (spans e.old), e.lit, e.rs, .int (-1)] := rfl
        have i0 : o2 .idx e.v (.int 0) σ1 = some (.int (e.x : Int), σ1) := idx_tup (x := 0) rfl (by simp [lim])
        have i1 : o2 .idx e.v (.int 1) σ1 = some (doV (spans e.old), σ1) := idx_tup (x := 1) rfl (by simp [lim])
        rw [exs_nxt (exe_asg (evO1 (evA (evV p0) at15) hpop))]
        rw [exs_nxt (exe_asgI (σ₄ := σ2) (evO2 (evV (by simp [upd])) rfl ev_int i1) (evA (evV (v := .ref 3) (by simp [upd, p0])) at13) (evO2 (evV (by simp [upd])) rfl ev_int i0) (st_list b4 (by rw [doms_len]; omega) (by rw [doms_len]; unfold lim; omega))), exs_nil, Option.bind_some]
        exact e1
      · rw [undo_snoc]; exact e3
  have c3 : σ1[3]? = some (.inst 0 2) := set_ne s.i3 (by decide)
  have c2 : σ1[2]? = some (.attrs as1) := set_self s.i2
  obtain ⟨ρ2, σ2, e1, e2, e3, e4⟩ := key T L σ1 ρ1 (5000 - (T.length + 1)) hT hx c3 c2 (set_ne s.i4 (by decide)) (set_ne s.i6 (by decide)) q0 q28
  have ek : T.length + 1 + (5000 - (T.length + 1)) = 5000 := by omega
  rw [ek] at e1
  rw [exs_nxt (exe_whl.trans e1)]
  have d3 : σ2[3]? = some (.inst 0 2) := e2 _ _ (by simp) c3
  have d2 : σ2[2]? = some (.attrs as1) := e2 _ _ (by simp) c2
  have d5 : σ2[5]? = some (.list F) := e2 _ _ (by simp) (set_ne s.i5 (by decide))
  let σ3 := σ2 ++ [MO.dictI []]
  have f3 : σ3[3]? = some (.inst 0 2) := Kp.app (S := []) _ _ (by simp) d3
  have f2 : σ3[2]? = some (.attrs as1) := Kp.app (S := []) _ _ (by simp) d2
  have f4 : σ3[4]? = some (.list (doms m (undo T L))) := Kp.app (S := []) _ _ (by simp) e3
  have f5 : σ3[5]? = some (.list F) := Kp.app (S := []) _ _ (by simp) d5
  let as2 : List (Nat × V) := [(13, .ref 4), (14, .ref 5), (15, .ref 6), (16, .lst []), (17, .ref σ2.length), (18, .int (-1)), (19, .bool b), (20, c)]
  let σ4 := σ3.set 2 (.attrs as2)
  have g3 : σ4[3]? = some (.inst 0 2) := set_ne f3 (by decide)
  have g2 : σ4[2]? = some (.attrs as2) := set_self f2
  have g5 : σ4[5]? = some (.list F) := set_ne f5 (by decide)
  have at14 : attrOf (.ref 3) 14 σ4 = some (.ref 5) := by simp only [attrOf, g3, g2]; rfl
  have hin : o2 .inn (.tup []) (.ref 5) σ4 = some (.bool false, σ4) := by
    have hall : F.all (okD 20) = true := by
      rw [hF]
      unfold doms
      rw [List.all_map, List.all_eq_true]
      intro x _
      exact okD_doV
    have hnin : ¬ (V.tup [] ∈ F) := by
      rw [hF]
      unfold doms
      intro h
      obtain ⟨x, hx, e⟩ := List.mem_map.mp h
      have hx' := List.mem_range.mp hx
      exact (w0 x (by omega)).2.1 (spans_nil.mp (doV_inj (e.trans doV_nil.symm)))
    have hok : okD 20 (.tup []) = true := rfl
    simp only [o2, inD, view, g5, hall, hok, Bool.and_self, if_true, Option.map_some, @decide_eq_false _ (Classical.propDecidable _) hnin]
  let as3 : List (Nat × V) := [(13, .ref 4), (14, .ref 5), (15, .ref 6), (16, .lst []), (17, .ref σ2.length), (18, .int (-1)), (19, .bool false), (20, c)]
  let σ5 := σ4.set 2 (.attrs as3)
  have j3 : σ5[3]? = some (.inst 0 2) := set_ne g3 (by decide)
  have j2 : σ5[2]? = some (.attrs as3) := set_self g2
  let as4 : List (Nat × V) := [(13, .ref 4), (14, .ref 5), (15, .ref 6), (16, .lst []), (17, .ref σ2.length), (18, .int (-1)), (19, .bool false), (20, .tup [])]
  let σ6 := σ5.set 2 (.attrs as4)
  refine ⟨σ6, as4, ?_, ⟨set_ne j3 (by decide), set_self j2, ?_, rfl, rfl, rfl⟩, rfl, ?_⟩
  · rw [exs_nxt (exe_asgA (σ₃ := σ4) ev_dict0 (evV e4) (put_at f3 f2 (by simp [as1])))]
    rw [exs_nxt (exe_asgA (σ₃ := σ5) (evO2 (evT evs0) rfl (evA (evV e4) at14) hin) (evV e4) (put_at g3 g2 (by simp [as2])))]
    rw [exs_nxt (exe_asgA (σ₃ := σ6) (evT evs0) (evV e4) (put_at j3 j2 (by simp [as3])))]
    rw [exs_nil]
    rfl
  · rw [← hu]
    exact set_ne (set_ne (set_ne f4 (by decide)) (by decide)) (by decide)
  · have k1 : Kp [2, 4, 6] σ σ1 := Kp.set (by simp)
    have k2 : Kp [2, 4, 6] σ1 σ2 := e2.mono (by intro i hi; simp at hi ⊢; omega)
    have k3 : Kp [2, 4, 6] σ2 σ3 := Kp.app
    exact ((((k1.trans k2).trans k3).trans (Kp.set (by simp))).trans (Kp.set (by simp))).trans (Kp.set (by simp))
end
end Mine

end

section
namespace Mine
open PySem
set_option Elab.async false
set_option autoImplicit false
set_option linter.unusedSimpArgs false
set_option linter.unusedVariables false

structure FX (xs : List Nat) (z m : Nat) : Prop where
  len : xs.length = m
  m1 : 1 ≤ m
  m3 : m ≤ 3
  nd : (xs ++ [z]).Nodup
  le : ∀ x ∈ xs ++ [z], x ≤ m
  all : ∀ x, x ≤ m → x ∈ xs ++ [z]
theorem fx_of {s m : Nat} (hs : s < 2) (h1 : 1 ≤ m) (h3 : m ≤ 3) : FX (List.range' s m) (if s = 1 then 0 else m) m := by
  refine ⟨by simp, h1, h3, ?_, ?_, ?_⟩
  all_goals
    have hs' : s = 0 ∨ s = 1 := by omega
    have hm' : m = 1 ∨ m = 2 ∨ m = 3 := by omega
    rcases hs' with rfl | rfl <;> rcases hm' with rfl | rfl | rfl <;> decide
section
variable {xs : List Nat} {z m : Nat}
theorem FX.ne (h : FX xs z m) : xs ≠ [] := by
  intro e
  have := h.len
  have := h.m1
  rw [e] at *
  simp at *
  omega
theorem FX.l3 (h : FX xs z m) : xs.length ≤ 3 := by rw [h.len]; exact h.m3
theorem FX.ndx (h : FX xs z m) : xs.Nodup := (List.nodup_append.mp h.nd).1
theorem FX.zx (h : FX xs z m) : z ∉ xs := fun q => (List.nodup_append.mp h.nd).2.2 z q z (by simp) rfl
theorem FX.xm (h : FX xs z m) : ∀ x ∈ xs, x ≤ m := fun x hx => h.le x (List.mem_append_left _ hx)
theorem FX.zm (h : FX xs z m) : z ≤ m := h.le z (by simp)
theorem FX.kl (h : FX xs z m) : (xs ++ [z]).length = m + 1 := by simp [h.len]
end

def bits (mask : Int) : List Nat := (List.range 4).filter fun k => decide ((mask.fdiv ((2 : Int) ^ k)).fmod 2 = 1)
def lotOf (base mask : Int) : List Int := (bits mask).map fun (k : Nat) => base + (k : Int)
def Gd (l : List Int) : Prop := Up l ∧ l ≠ [] ∧ l.length ≤ 4 ∧ ∀ v ∈ l, v.natAbs ≤ 100
theorem lot_good {base mask : Int} (h1 : -3 ≤ base) (h2 : base ≤ 3) (h3 : 1 ≤ mask) (h4 : mask ≤ 15) : Gd (lotOf base mask) := by
  refine ⟨?_, ?_, ?_, ?_⟩
  · unfold lotOf bits Up
    rw [List.pairwise_map]
    refine List.Pairwise.filter _ ?_
    refine List.Pairwise.imp ?_ List.pairwise_lt_range
    intro a b h
    omega
  · unfold lotOf
    have hm : mask = 1 ∨ mask = 2 ∨ mask = 3 ∨ mask = 4 ∨ mask = 5 ∨ mask = 6 ∨ mask = 7 ∨ mask = 8 ∨ mask = 9 ∨ mask = 10 ∨ mask = 11 ∨ mask = 12 ∨ mask = 13 ∨ mask = 14 ∨ mask = 15 := by omega
    have : bits mask ≠ [] := by
      rcases hm with rfl | rfl | rfl | rfl | rfl | rfl | rfl | rfl | rfl | rfl | rfl | rfl | rfl | rfl | rfl <;> decide
    simpa using this
  · unfold lotOf bits
    rw [List.length_map]
    exact Nat.le_trans (List.length_filter_le _ _) (by simp)
  · intro v hv
    obtain ⟨k, hk, rfl⟩ := List.mem_map.mp hv
    have := List.mem_range.mp (List.mem_filter.mp hk).1
    omega

section
variable {n : Nat} {σ : Hp} {ρ : Ev}
theorem ev_bits {base mask : Int} (r58 : ρ 58 = some (.int base)) (r59 : ρ 59 = some (.int mask)) (h3 : 1 ≤ mask) (h4 : mask ≤ 15) :
    ev (oB n) (.comp [2] (.op2 .add (.var 58) (.var 2)) (.nm 2) (.op1 .rng1 (.int 4)) (.cons (.cmp .eq (.op2 .fmod (.op2 .fdiv (.var 59) (.op2 .pow (.int 2) (.var 2))) (.int 2)) (.int 1)) .nil) .nil) ρ σ = some (liV (lotOf base mask), σ) := by
  have := ev_compN (C := oB n) (ρ := ρ) (σ := σ) (σ₁ := σ) (ls := [2]) (elt := .op2 .add (.var 58) (.var 2)) (it := .op1 .rng1 (.int 4)) (y := 2) (ifs := (.cons (.cmp .eq (.op2 .fmod (.op2 .fdiv (.var 59) (.op2 .pow (.int 2) (.var 2))) (.int 2)) (.int 1)) .nil)) (X := .rng 0 ((4 : Nat) : Int)) (xs := List.range 4)
    (fun k => decide ((mask.fdiv ((2 : Int) ^ k)).fmod 2 = 1)) (fun k => .int (base + (k : Int))) (evO1 ev_int (rng1_nat (k := 4) (by simp [lim]))) (rng_items (by simp [lim])) (fun k hk acc => ?_) (fun _ _ _ => okD_int) (by simp [lim])
  · rw [this]
    unfold lotOf bits liV
    rw [List.map_map]
    rfl
  · have hk' := List.mem_range.mp hk
    have p0 : 0 < (2 : Int) ^ k ∧ (2 : Int) ^ k ≤ 8 := by
      have : k = 0 ∨ k = 1 ∨ k = 2 ∨ k = 3 := by omega
      rcases this with rfl | rfl | rfl | rfl <;> decide
    have hp : o2 .pow (.int 2) (.int (k : Int)) (σ ++ [.list acc]) = some (.int ((2 : Int) ^ k), σ ++ [.list acc]) := by
      simp only [o2]
      rw [if_pos ⟨by omega, by omega, by simp [lim]⟩]
      simp
    have hd : o2 .fdiv (.int mask) (.int ((2 : Int) ^ k)) (σ ++ [.list acc]) = some (.int (mask.fdiv ((2 : Int) ^ k)), σ ++ [.list acc]) := by
      simp only [o2]
      rw [if_pos ⟨by omega, by unfold lim; omega, by unfold lim; omega⟩]
    have hf : ∀ a : Int, o2 .fmod (.int a) (.int 2) (σ ++ [.list acc]) = some (.int (a.fmod 2), σ ++ [.list acc]) := by
      intro a
      simp only [o2]
      rw [if_pos (by decide)]
    refine ⟨evca_one (evc_cmpP (evO2 (evO2 (evV (v := .int mask) (by simp only [upd, drops]; exact r59)) rfl (evO2 ev_int rfl (evV rfl) hp) hd) rfl ev_int (hf _)) ev_int o2_eqI), fun _ => evO2 (evV (v := .int base) (by simp only [upd, drops]; exact r58)) rfl (evV rfl) rfl⟩

def firstB : Sts := (.cons (.asgT [.nm 58, .nm 59] (.tup (.cons (.op2 .sub (.call 24 (.cons (.var 42) (.cons (.int 7) .nil))) (.int 3)) (.cons (.op2 .add (.int 1) (.call 24 (.cons (.var 42) (.cons (.int 15) .nil)))) .nil))))
   (.cons (.asgI (.var 57) (.var 11) (.comp [2] (.op2 .add (.var 58) (.var 2)) (.nm 2) (.op1 .rng1 (.int 4)) (.cons (.cmp .eq (.op2 .fmod (.op2 .fdiv (.var 59) (.op2 .pow (.int 2) (.var 2))) (.int 2)) (.int 1)) .nil) .nil))
   .nil))
structure FE (xs : List Nat) (z m : Nat) (ρ : Ev) : Prop where
  r42 : ρ 42 = some (.ref 0)
  r57 : ρ 57 = some (.ref 1)
  r43 : ρ 43 = some (.int (m : Int))
  r36 : ρ 36 = some (.tup (natV xs))
  r34 : ρ 34 = some (.int (z : Int))
theorem FE.upd {xs : List Nat} {z m y : Nat} {v : V} (h : FE xs z m ρ) (hy : y ≠ 42 ∧ y ≠ 57 ∧ y ≠ 43 ∧ y ≠ 36 ∧ y ≠ 34) : FE xs z m (upd y v ρ) := by
  obtain ⟨h1, h2, h3, h4, h5⟩ := hy
  refine ⟨?_, ?_, ?_, ?_, ?_⟩ <;> simp only [Mine.upd] <;> simp [h1.symm, h2.symm, h3.symm, h4.symm, h5.symm, h.r42, h.r57, h.r43, h.r36, h.r34]
theorem first_loop {xs : List Nat} {z m : Nat} : ∀ (ys acc : List Nat) (L : LF) (ρ : Ev) (σ : Hp), (acc ++ ys).Nodup → (acc ++ ys).length ≤ 100 → HO σ → σ[1]? = some (.dictI (dic acc L)) → σ.length = 2 → (∀ x ∈ acc, Gd (L x)) → FE xs z m ρ →
    ∃ L' ρ' σ', loopS (fun x ρ' σ' => (bindTg (.nm 11) x ρ').bind fun ρ'' => exs (oB (n + 1)) firstB ρ'' σ') (natV ys) ρ σ = some (.nxt, ρ', σ') ∧ HO σ' ∧ σ'[1]? = some (.dictI (dic (acc ++ ys) L')) ∧ σ'.length = 2 ∧ (∀ x ∈ acc ++ ys, Gd (L' x)) ∧ FE xs z m ρ' := by
  intro ys
  induction ys with
  | nil => intro acc L ρ σ _ _ h0 h1 h2 h3 h4; exact ⟨L, ρ, σ, rfl, h0, by simpa using h1, h2, by simpa using h3, h4⟩
  | cons x ys ih =>
    intro acc L ρ σ nd hl h0 h1 h2 h3 h4
    have e : acc ++ x :: ys = (acc ++ [x]) ++ ys := by simp
    rw [e] at nd hl ⊢
    have hnx : x ∉ acc := by
      intro hmem
      have h1 := (List.nodup_append.mp nd).1
      exact (List.nodup_append.mp h1).2.2 x hmem x (by simp) rfl
    have f0 : FE xs z m (upd 11 (.int (x : Int)) ρ) := h4.upd (by decide)
    have f11 : upd 11 (.int (x : Int)) ρ 11 = some (.int (x : Int)) := rfl
    generalize hρ1 : upd 11 (.int (x : Int)) ρ = ρ1 at *
    obtain ⟨r, σ1, p1, p2, p3, p4, p5, p6⟩ := run_pick (n := n) h0 (k := 7) (by decide)
    obtain ⟨r', σ2, q1, q2, q3, q4, q5, q6⟩ := run_pick (n := n) p4 (k := 15) (by decide)
    have d1 : σ2[1]? = some (.dictI (dic acc L)) := q5 _ _ (by simp) (p5 _ _ (by simp) h1)
    let l := lotOf (r - 3) (1 + r')
    have hg : Gd l := lot_good (by omega) (by omega) (by omega) (by omega)
    let σ3 := σ2.set 1 (.dictI (dic (acc ++ [x]) (upf x l L)))
    have d3 : σ3[1]? = some (.dictI (dic (acc ++ [x]) (upf x l L))) := set_self d1
    have hx : exs (oB (n + 1)) firstB ρ1 σ = some (.nxt, upd 59 (.int (1 + r')) (upd 58 (.int (r - 3)) ρ1), σ3) := by
      unfold firstB
      rw [exs_nxt (exe_asgT (l := [.int (r - 3), .int (1 + r')]) (σ' := σ2) (evT (evsC (evO2 (evCB (evsC (evV f0.r42) (evs1 ev_int)) p3) rfl ev_int rfl) (evs1 (evO2 ev_int rfl (evCB (evsC (evV f0.r42) (evs1 ev_int)) q3) rfl)))) rfl)]
      have hb := ev_bits (n := n + 1) (σ := σ2) (ρ := upd 59 (.int (1 + r')) (upd 58 (.int (r - 3)) ρ1)) (base := r - 3) (mask := 1 + r') rfl rfl (by omega) (by omega)
      rw [exs_nxt (exe_asgI hb (evV (v := .ref 1) (by simp [upd, f0.r57])) (evV (v := .int (x : Int)) (by simp [upd, f11])) (st_dict d1 (by rw [dic_len]; simp at hl; unfold lim; omega))), exs_nil, dic_new hnx]
    obtain ⟨L', ρ', σ', e1, e2, e3, e4, e5, e6⟩ := ih (acc ++ [x]) (upf x l L) (upd 59 (.int (1 + r')) (upd 58 (.int (r - 3)) ρ1)) σ3 nd hl (q4.kp (S := [1]) (Kp.set (by simp)) (by simp)) d3 (by simp [σ3, q6, p6, h2]) (by
      intro y hy
      unfold upf
      by_cases c : y = x
      · rw [if_pos c]; exact hg
      · rw [if_neg c]
        rcases List.mem_append.mp hy with hy | hy
        · exact h3 y hy
        · exact absurd (List.mem_singleton.mp hy) c) ((f0.upd (by decide)).upd (by decide))
    refine ⟨L', ρ', σ', ?_, e2, e3, e4, e5, e6⟩
    simp only [natV, List.map_cons, loopS, bindTg, Option.bind_some]
    rw [hρ1, hx]
    exact e1
end
end Mine

end

section
namespace Mine
open PySem
set_option Elab.async false
set_option autoImplicit false
set_option linter.unusedSimpArgs false
set_option linter.unusedVariables false

section
variable {n : Nat} {σ : Hp} {ρ : Ev}
theorem ne_lr_f {j : Nat} {l : List V} (h : σ[j]? = some (.list l)) (ok : okD 20 (.lst l) = true) : o2 .ne (.lst l) (.ref j) σ = some (.bool false, σ) := by
  have hv : view σ (.ref j) = .lst l := by simp only [view, h]
  have hv' : view σ (.lst l) = .lst l := rfl
  have he : eqD σ (.lst l) (.ref j) = some true := by
    unfold eqD
    show (if okD 20 (view σ (.lst l)) && okD 20 (view σ (.ref j)) then some (@decide (view σ (.lst l) = view σ (.ref j)) (Classical.propDecidable _)) else none) = _
    rw [hv, hv', ok]
    simp
  simp only [o2, he, Option.map_some, Bool.not_true]
theorem ne_dd_f {i j : Nat} (h : eqD σ (.ref i) (.ref j) = some true) : o2 .ne (.ref i) (.ref j) σ = some (.bool false, σ) := by
  simp only [o2, h, Option.map_some, Bool.not_true]
theorem len_lst {l : List V} (h : l.length ≤ lim) : o1 .len (.lst l) σ = some (.int l.length, σ) := by simp only [o1, view, if_pos h]

structure LN (xs : List Nat) (z m ro : Nat) (ρ : Ev) : Prop where
  r42 : ρ 42 = some (.ref 0)
  r57 : ρ 57 = some (.ref 1)
  r43 : ρ 43 = some (.int (m : Int))
  r36 : ρ 36 = some (.tup (natV xs))
  r34 : ρ 34 = some (.int (z : Int))
  r45 : ρ 45 = some (.ref 3)
  r61 : ρ 61 = some (.ref ro)
theorem LN.upd {xs : List Nat} {z m ro y : Nat} {v : V} (h : LN xs z m ro ρ) (hy : y ≠ 42 ∧ y ≠ 57 ∧ y ≠ 43 ∧ y ≠ 36 ∧ y ≠ 34 ∧ y ≠ 45 ∧ y ≠ 61) : LN xs z m ro (upd y v ρ) := by
  obtain ⟨h1, h2, h3, h4, h5, h6, h7⟩ := hy
  refine ⟨?_, ?_, ?_, ?_, ?_, ?_, ?_⟩ <;> simp only [Mine.upd] <;> simp [h1.symm, h2.symm, h3.symm, h4.symm, h5.symm, h6.symm, h7.symm, h.r42, h.r57, h.r43, h.r36, h.r34, h.r45, h.r61]
structure HB (xs : List Nat) (z ro ra : Nat) (L0 : LF) (σ : Hp) : Prop where
  h : HO σ
  f : σ[1]? = some (.dictI (dic (xs ++ [z]) L0))
  o : σ[ro]? = some (.inst 1 ra)
  a : σ[ra]? = some (.attrs [(32, .int (-1)), (30, .tup (natV (xs ++ [z]))), (31, .str (Str.ofString "bounds"))])
  r : 8 < ro ∧ 8 < ra
theorem HB.kp {xs : List Nat} {z ro ra : Nat} {L0 : LF} {σ' : Hp} {S : List Nat} (h : HB xs z ro ra L0 σ) (k : Kp S σ σ') (hS : ∀ i ∈ S, 2 ≤ i ∧ i ≤ 8) : HB xs z ro ra L0 σ' := by
  have hr := h.r
  refine ⟨h.h.kp k (fun q => ?_), k _ _ (fun q => ?_) h.f, k _ _ (fun q => ?_) h.o, k _ _ (fun q => ?_) h.a, h.r⟩ <;> (have := hS _ q; omega)
theorem HB.pick {xs : List Nat} {z ro ra : Nat} {L0 : LF} {σ' : Hp} (h : HB xs z ro ra L0 σ) (k : Kp [0] σ σ') (h' : HO σ') : HB xs z ro ra L0 σ' := by
  have hr := h.r
  refine ⟨h', k _ _ (by simp) h.f, k _ _ (by simp; omega) h.o, k _ _ (by simp; omega) h.a, h.r⟩
structure LPre (xs : List Nat) (z m ro ra : Nat) (L0 : LF) (B : Nat) (L : LF) (T : List TE) (N : List (Int × V)) (c : V) (a : Nat) (ρ : Ev) (σ : Hp) : Prop where
  hb : HB xs z ro ra L0 σ
  ea : a = 1 ∨ 8 < a
  ha : σ[a]? = some (.dictI (dic (xs ++ [z]) L))
  s : SI σ (doms m L) (doms m L0) (T.map TE.v) [.int 0] N false c
  hN : N.length ≤ T.length
  hT : T.length ≤ B
  w : WF m L
  b : Bd m L
  t : ∀ e ∈ T, e.x ≤ m
  u : undo T L = L0
  e : LN xs z m ro ρ
  r48 : ρ 48 = some (.ref a)
structure LPost (xs : List Nat) (z m ro ra : Nat) (L0 : LF) (L : LF) (T : List TE) (N : List (Int × V)) (b : Bool) (c : V) (ρ : Ev) (σ : Hp) : Prop where
  hb : HB xs z ro ra L0 σ
  s : SI σ (doms m L) (doms m L0) (T.map TE.v) [.int 0] N b c
  hT : T.length ≤ 1000
  t : ∀ e ∈ T, e.x ≤ m
  u : undo T L = L0
  e : LN xs z m ro ρ

def lapB : Sts := (.cons (.asgT [.nm 28, .tup [50, 49, 20]] (.tup (.cons (.op1 .len (.attr (.var 45) 15)) (.cons (.call 29 (.cons (.var 48) (.cons (.var 36) (.cons (.var 34) .nil)))) .nil))))
   (.cons (.ife (.or (.cons (.cmp .isNB (.meth (.var 61) 64 (.cons (.var 45) .nil)) (.op2 .isB (.var 20) .none)) (.cons (.cmp .isB (.attr (.var 45) 19) (.op2 .isB (.var 20) .none)) .nil)))
    (.cons (.ret (.bool false))
    .nil)
    .nil)
   (.cons (.ife (.or (.cons (.cmp .ne (.op2 .slFrom (.attr (.var 45) 15) (.var 28)) (.var 49)) (.cons (.cmp .ne (.call 26 (.cons (.var 45) .nil)) (.var 50)) .nil)))
    (.cons (.ret (.bool false))
    .nil)
    .nil)
   (.cons (.asg 65 (.call 30 (.cons (.var 48) (.cons (.var 36) (.cons (.var 34) (.cons (.lstF .nil) .nil))))))
   (.cons (.ife (.cmp .isNB (.var 20) .none)
    (.cons (.ife (.or (.cons (.cmp .ne (.var 65) (.lstF .nil)) (.cons (.cmp .ne (.attr (.var 45) 20) (.var 20)) .nil)))
     (.cons (.ret (.bool false))
     .nil)
     .nil)
    (.cons (.brk)
    .nil))
    .nil)
   (.cons (.ife (.cmp .ne (.call 30 (.cons (.var 50) (.cons (.var 36) (.cons (.var 34) (.cons (.lstF .nil) .nil))))) (.var 65))
    (.cons (.ret (.bool false))
    .nil)
    .nil)
   (.cons (.asgU 66 (.comp [11] (.var 11) (.nm 11) (.op1 .rng1 (.op2 .add (.var 43) (.int 1))) (.cons (.cmp .gt (.op1 .len (.op2 .idx (.var 50) (.var 11))) (.int 1)) .nil) .nil))
   (.cons (.ife (.cmp .eq (.var 66) (.lstF .nil))
    (.cons (.brk)
    .nil)
    .nil)
   (.cons (.asg 11 (.op2 .idx (.var 66) (.call 24 (.cons (.var 42) (.cons (.op1 .len (.var 66)) .nil)))))
   (.cons (.asg 48 (.op1 .dictC (.var 50)))
   (.cons (.asgI (.var 48) (.var 11) (.lstF (.cons (.op2 .idx (.op2 .idx (.var 50) (.var 11)) (.call 24 (.cons (.var 42) (.cons (.op1 .len (.op2 .idx (.var 50) (.var 11))) .nil)))) .nil)))
   (.cons (.expr (.meth (.var 45) 67 (.cons (.tup (.cons (.var 11) (.cons (.str (Str.ofString "=")) (.cons (.op2 .idx (.op2 .idx (.var 48) (.var 11)) (.int 0)) .nil)))) .nil)))
   .nil))))))))))))

theorem lap {xs : List Nat} {z m ro ra B a : Nat} {L0 L : LF} {T : List TE} {N : List (Int × V)} {c : V} (fx : FX xs z m) (p : LPre xs z m ro ra L0 B L T N c a ρ σ) (hB : B ≤ 800) :
    ∃ fl ρ' σ', exs (oB (n + 7)) lapB ρ σ = some (fl, ρ', σ') ∧ ((fl = .nxt ∧ ∃ L' T' N' c' a', LPre xs z m ro ra L0 (B + 9) L' T' N' c' a' ρ' σ') ∨ (fl = .brk ∧ ∃ L' T' N' b' c', LPost xs z m ro ra L0 L' T' N' b' c' ρ' σ')) := by
  have hm := fx.m3
  have hT := p.hT
  have tl : (T.map TE.v).length ≤ lim := by rw [List.length_map]; unfold lim; omega
  have hks : (xs ++ [z]).length ≤ 100 := by rw [fx.kl]; omega
  have hxk : ∀ x ∈ xs, x ≤ m ∧ x ∈ xs ++ [z] := fun x hx => ⟨fx.xm x hx, List.mem_append_left _ hx⟩
  have hzk : z ≤ m ∧ z ∈ xs ++ [z] := ⟨fx.zm, by simp⟩
  -- what once says
  obtain ⟨σ1, a1, a2, a3, a4, a5, a6⟩ := run_lonce (n := n + 4) p.ha p.w hks fx.ne fx.l3 hxk hzk
  have qi : QI m L (onceP xs z ⟨L, []⟩).1 := onceP_QI fx.xm fx.zm ⟨p.w, p.b, by simp, rfl⟩
  have snd := onceP_snd (z := z) fx.ndx fx.zx fx.ne ⟨L, []⟩
  have s1 := p.s.kp a2 (by simp)
  have hb1 := p.hb.kp a2 (by simp)
  have ha1 : σ1[a]? = _ := a2 _ _ (by simp) p.ha
  have hlen : 8 < σ.length := getE_lt p.s.i8
  have sq1 : SQ m (doms m L0) [.int 0] T ⟨L, []⟩ false c σ1 := ⟨N, by simpa using s1, by simpa using p.hN, p.w⟩
  obtain ⟨σ2, b1, b2, N', b3, b4, b5⟩ := run_once (n := n + 1) hb1.o hb1.a sq1 (by simp; omega) hm fx.xm fx.zm fx.ne fx.l3 fx.ndx
  generalize onceP xs z ⟨L, []⟩ = r at *
  have hb2 := hb1.kp b2 (by simp)
  have ha2 : σ2[a]? = some (.dictI (dic (xs ++ [z]) L)) := b2 _ _ (by have := p.ea; simp; omega) ha1
  have c2 : σ2[σ.length]? = some (.dictI (dic (xs ++ [z]) r.1.L)) := b2 _ _ (by simp; omega) a3
  have d2 : σ2[σ.length + 1]? = some (.list (r.1.T.map TE.v)) := b2 _ _ (by simp; omega) a4
  generalize σ.length = la at *
  unfold lapB
  rw [exs_nxt (exe_asgT (l := [.int (T.map TE.v).length, .tup [.ref la, .ref (la + 1), cV r.2]]) (σ' := σ1) (ρ' := updL [50, 49, 20] [.ref la, .ref (la + 1), cV r.2] (upd 28 (.int (T.map TE.v).length) ρ))
    (evT (evsC (evO1 (evA (evV p.e.r45) (p.s.attr (k := 15) rfl)) (len_ref p.s.i6 tl)) (evs1 (evCB (evsC (evV p.r48) (evsC (evV p.e.r36) (evs1 (evV p.e.r34)))) a1)))) (by simp [bindTgs, bindTg, lim]))]
  generalize hρ1 : updL [50, 49, 20] [.ref la, .ref (la + 1), cV r.2] (upd 28 (.int (T.map TE.v).length) ρ) = ρ1
  have e1 : LN xs z m ro ρ1 := by
    rw [← hρ1]
    simp only [updL]
    exact (((p.e.upd (by decide)).upd (by decide)).upd (by decide)).upd (by decide)
  have q48 : ρ1 48 = some (.ref a) := by rw [← hρ1]; simp [updL, upd, p.r48]
  have q50 : ρ1 50 = some (.ref la) := by rw [← hρ1]; simp [updL, upd]
  have q49 : ρ1 49 = some (.ref (la + 1)) := by rw [← hρ1]; simp [updL, upd]
  have q20 : ρ1 20 = some (cV r.2) := by rw [← hρ1]; simp [updL, upd]
  have q28 : ρ1 28 = some (.int (T.map TE.v).length) := by rw [← hρ1]; simp [updL, upd]
  clear hρ1
  have his : ∀ (ρ : Ev) (σ : Hp), ρ 20 = some (cV r.2) → ev (oB (n + 7)) (.op2 .isB (.var 20) .none) ρ σ = some (.bool r.2.isNone, σ) := fun ρ σ h => evO2 (evV h) rfl ev_none cV_isN
  have honce : ev (oB (n + 7)) (.meth (.var 61) 64 (.cons (.var 45) .nil)) ρ1 σ1 = some (.bool r.2.isNone, σ2) := by
    rw [ev_meth (i := ro) (c := 1) (d := ra) (f := 23) (σ₁ := σ1) (evV e1.r61) hb1.o hb1.a rfl rfl, evs1 (evV e1.r45), Option.bind_some]
    exact b1
  rw [exs_nxt (ρ' := ρ1) (σ' := σ2) (by
    rw [exe_ife (t := false) (σ' := σ2) (evc_or2 (t := false) (u := false) (σ' := σ2) (evc_cmp honce (his _ _ q20) (by simp [o2])) (fun _ => evc_cmpP (evA (evV e1.r45) (b3.attr (k := 19) rfl)) (his _ _ q20) (by cases r.2 <;> rfl)) (fun h => nomatch h)), if_neg (by decide)]
    exact exs_nil)]
  -- the trail and the domains
  have okl : okD 20 (.lst (r.1.T.map TE.v)) = true := by
    rw [okD_lst', List.all_map, List.all_eq_true]
    intro e he
    exact okD_teV (n := 16) (qi.t e he).2.1 (qi.t e he).2.2
  have hTl : (T ++ r.1.T).length ≤ 808 := by rw [List.length_append]; omega
  have tl2 : ((T ++ r.1.T).map TE.v).length ≤ lim := by rw [List.length_map]; unfold lim; omega
  have hsl : o2 .slFrom (.ref 6) (.int (T.map TE.v).length) σ2 = some (.lst (r.1.T.map TE.v), σ2) := by
    simp only [o2, view, b3.i6]
    rw [if_pos ⟨by omega, tl2⟩]
    simp
  have hlots := run_lots (n := n + 5) b3.sd hm b5 qi.b
  let σ3 := σ2 ++ [MO.dictI (dic (List.range (m + 1)) r.1.L)]
  have s3 : SI σ3 (doms m r.1.L) (doms m L0) ((T ++ r.1.T).map TE.v) [.int 0] N' r.2.isSome (clc c r.2) := b3.kp (S := []) Kp.app (by simp)
  have hb3 : HB xs z ro ra L0 σ3 := hb2.kp (S := []) Kp.app (by simp)
  have ha3 : σ3[a]? = some (.dictI (dic (xs ++ [z]) L)) := Kp.app (S := []) _ _ (by simp) ha2
  have c3 : σ3[la]? = some (.dictI (dic (xs ++ [z]) r.1.L)) := Kp.app (S := []) _ _ (by simp) c2
  rw [exs_nxt (ρ' := ρ1) (σ' := σ3) (by
    rw [exe_ife (t := false) (σ' := σ3) (evc_or2 (t := false) (u := false) (σ' := σ2) (evc_cmpP (evO2 (evA (evV e1.r45) (b3.attr (k := 15) rfl)) rfl (evV q28) hsl) (evV q49) (ne_lr_f d2 okl)) (fun _ => evc_cmp (evCB (evs1 (evV e1.r45)) hlots) (evV q50) (ne_dd_f (dic_eqD app_get c3 (by rw [fx.kl, List.length_range]) (fun x hx => fx.all x (by have := List.mem_range.mp hx; omega)) (fun _ _ => rfl)))) (fun h => nomatch h)), if_neg (by decide)]
    exact exs_nil)]
  have hans : ∀ (L : LF) (a : Nat), WF m L → σ3[a]? = some (.dictI (dic (xs ++ [z]) L)) → run TB (n + 7) 30 [.ref a, .tup (natV xs), .int (z : Int), .lst []] σ3 = some (lliV (ansP L z xs []), σ3) := by
    intro L a w ha
    have h := run_answers (n := n + 6 - xs.length) w fx.all fx.xm fx.zm fx.ne fx.l3 xs [] [] σ3 rfl rfl ha
    have e : (n + 6 - xs.length) + xs.length + 1 = n + 7 := by have := fx.l3; omega
    rw [e] at h
    exact h
  rw [exs_nxt (exe_asg (evCB (evsC (evV q48) (evsC (evV e1.r36) (evsC (evV e1.r34) (evs1 (evL evs0))))) (hans L a p.w ha3)))]
  generalize hρ2 : upd 65 (lliV (ansP L z xs [])) ρ1 = ρ2
  have e2 : LN xs z m ro ρ2 := by rw [← hρ2]; exact e1.upd (by decide)
  have t50 : ρ2 50 = some (.ref la) := by rw [← hρ2]; simp [upd, q50]
  have t20 : ρ2 20 = some (cV r.2) := by rw [← hρ2]; simp [upd, q20]
  have t65 : ρ2 65 = some (lliV (ansP L z xs [])) := by rw [← hρ2]; simp [upd]
  clear hρ2
  have hund : undo (T ++ r.1.T) r.1.L = L0 := by rw [undo_append, qi.u, p.u]
  have htx : ∀ e ∈ T ++ r.1.T, e.x ≤ m := by
    intro e he
    rcases List.mem_append.mp he with he | he
    · exact p.t e he
    · exact (qi.t e he).1
  have hcn : evc (oB (n + 7)) (.cmp .isNB (.var 20) .none) ρ2 σ3 = some (!r.2.isNone, σ3) := evc_cmpP (evV t20) ev_none (by cases r.2 <;> rfl)
  cases hr : r.2 with
  | some l =>
    have hans0 : ansP L z xs [] = [] := snd.2 (by rw [hr]; simp)
    rw [hans0] at t65
    rw [hr] at t20 s3 hcn
    refine ⟨.brk, ρ2, σ3, ?_, .inr ⟨rfl, r.1.L, T ++ r.1.T, N', _, _, ⟨hb3, s3, by omega, htx, hund, e2⟩⟩⟩
    have hbr : exe (oB (n + 7)) (.ife (.cmp .isNB (.var 20) .none) (.cons (.ife (.or (.cons (.cmp .ne (.var 65) (.lstF .nil)) (.cons (.cmp .ne (.attr (.var 45) 20) (.var 20)) .nil))) (.cons (.ret (.bool false)) .nil) .nil) (.cons .brk .nil)) .nil) ρ2 σ3 = some (.brk, ρ2, σ3) := by
      rw [exe_ife hcn, if_pos (by rfl)]
      rw [exs_nxt (ρ' := ρ2) (σ' := σ3) (by
        rw [exe_ife (t := false) (σ' := σ3) (evc_or2 (t := false) (u := false) (σ' := σ3) (evc_cmpP (evV t65) (evL evs0) (o2_ne_f okD_lli rfl rfl)) (fun _ => evc_cmpP (evA (evV e2.r45) (s3.attr (k := 20) rfl)) (evV t20) (o2_ne_f okD_lvs okD_lvs rfl)) (fun h => nomatch h)), if_neg (by decide)]
        exact exs_nil)]
      exact exs_brk exe_brk
    exact exs_brk hbr
  | none =>
  have hans1 : ansP r.1.L z xs [] = ansP L z xs [] := snd.1 hr
  rw [hr] at t20 s3 hcn
  rw [exs_nxt (ρ' := ρ2) (σ' := σ3) (by
    rw [exe_ife hcn, if_neg (by decide)]
    exact exs_nil)]
  rw [exs_nxt (ρ' := ρ2) (σ' := σ3) (by
    rw [exe_ife (t := false) (σ' := σ3) (evc_cmpP (evCB (evsC (evV t50) (evsC (evV e2.r36) (evsC (evV e2.r34) (evs1 (evL evs0))))) (hans r.1.L la b5 c3)) (evV t65) (o2_ne_f okD_lli okD_lli (by rw [hans1]))), if_neg (by decide)]
    exact exs_nil)]
  let O := (List.range (m + 1)).filter fun x => decide ((1 : Int) < ((r.1.L x).length : Int))
  have hOl : O.length ≤ 4 := Nat.le_trans (List.length_filter_le _ _) (by rw [List.length_range]; omega)
  have hop : ev (oB (n + 7)) (.comp [11] (.var 11) (.nm 11) (.op1 .rng1 (.op2 .add (.var 43) (.int 1))) (.cons (.cmp .gt (.op1 .len (.op2 .idx (.var 50) (.var 11))) (.int 1)) .nil) .nil) ρ2 σ3 = some (.lst (natV O), σ3) := by
    refine ev_compN (xs := List.range (m + 1)) (fun x => decide ((1 : Int) < ((r.1.L x).length : Int))) (fun k => .int (k : Int)) (evO1 (evO2 (evV e2.r43) rfl ev_int rfl) (rng1_nat (k := m + 1) (by unfold lim; omega))) (rng_items (by unfold lim; omega)) (fun x hx acc => ?_) (fun _ _ _ => okD_int) (by rw [List.length_range]; unfold lim; omega)
    have hx' := List.mem_range.mp hx
    refine ⟨evca_one (evc_cmpP (evO1 (evO2 (evV (v := .ref la) (by simp only [upd, drops]; exact t50)) rfl (evV rfl) (idx_dict (Kp.app (S := []) _ _ (by simp) c3) (dic_get (fx.all x (by omega))))) (liV_len (by have := (b5 x (by omega)).2.2; unfold lim; omega))) ev_int rfl), fun _ => evV rfl⟩
  rw [exs_nxt (exe_asgU hop)]
  generalize hρ3 : upd 66 (.lst (natV O)) ρ2 = ρ3
  have e3 : LN xs z m ro ρ3 := by rw [← hρ3]; exact e2.upd (by decide)
  have u50 : ρ3 50 = some (.ref la) := by rw [← hρ3]; simp [upd, t50]
  have u66 : ρ3 66 = some (.lst (natV O)) := by rw [← hρ3]; simp [upd]
  clear hρ3
  have okO : okD 20 (.lst (natV O)) = true := by
    unfold natV
    rw [okD_lst', List.all_map, List.all_eq_true]
    intro x _
    exact okD_int
  by_cases hO : O = []
  · refine ⟨.brk, ρ3, σ3, ?_, .inr ⟨rfl, r.1.L, T ++ r.1.T, N', _, _, ⟨hb3, s3, by omega, htx, hund, e3⟩⟩⟩
    refine exs_brk ?_
    rw [exe_ife (t := true) (σ' := σ3) (evc_cmpP (evV u66) (evL evs0) (o2_eq_t okO rfl (by rw [hO]; rfl))), if_pos rfl]
    exact exs_brk exe_brk
  rw [exs_nxt (ρ' := ρ3) (σ' := σ3) (by
    rw [exe_ife (t := false) (σ' := σ3) (evc_cmpP (evV u66) (evL evs0) (o2_eq_f okO rfl (by
      intro h
      apply hO
      have := V.lst.inj h
      unfold natV at this
      simpa using this))), if_neg (by decide)]
    exact exs_nil)]
  have hOpos : 0 < O.length := by
    cases hOO : O with
    | nil => exact absurd hOO hO
    | cons _ _ => simp
  obtain ⟨r1, σ4, f1, f2, f3, f4, f5, f6⟩ := run_pick (n := n + 6) hb3.h (k := ((natV O).length : Int)) (by rw [natV_len]; omega)
  obtain ⟨i, rfl⟩ := Int.eq_ofNat_of_zero_le f1
  have hi : i < O.length := by rw [natV_len] at f2; omega
  have hxO : O.getD i 0 ∈ O := getD_mem hi
  have hxi := natV_get hi
  generalize O.getD i 0 = x at *
  have hxm : x ≤ m := by
    have := List.mem_range.mp (List.mem_filter.mp hxO).1
    omega
  have hx1 : 1 < (r.1.L x).length := by
    have := (List.mem_filter.mp hxO).2
    simp at this
    omega
  have hOlim : (natV O).length ≤ lim := by rw [natV_len]; unfold lim; omega
  have s4 := s3.kp f5 (by simp)
  have hb4 := hb3.pick f5 f4
  have c4 : σ4[la]? = _ := f5 _ _ (by simp; omega) c3
  rw [exs_nxt (exe_asg (evO2 (evV u66) rfl (evCB (evsC (evV e3.r42) (evs1 (evO1 (evV u66) (len_lst hOlim)))) f3) (idx_lst hxi hOlim)))]
  generalize hρ4 : upd 11 (.int (x : Int)) ρ3 = ρ4
  have e4 : LN xs z m ro ρ4 := by rw [← hρ4]; exact e3.upd (by decide)
  have v50 : ρ4 50 = some (.ref la) := by rw [← hρ4]; simp [upd, u50]
  have v11 : ρ4 11 = some (.int (x : Int)) := by rw [← hρ4]; simp [upd]
  clear hρ4
  have dl : (dic (xs ++ [z]) r.1.L).length ≤ lim := by rw [dic_len]; unfold lim; omega
  let a' := σ4.length
  have ha' : 8 < a' := getE_lt s4.i8
  let σ5 := σ4 ++ [MO.dictI (dic (xs ++ [z]) r.1.L)]
  have hcp : o1 .dictC (.ref la) σ4 = some (.ref a', σ5) := by
    simp only [o1, c4, dl, if_true]
    rfl
  have s5 := s4.kp (S := []) (Kp.app (l := [MO.dictI (dic (xs ++ [z]) r.1.L)])) (by simp)
  have hb5 : HB xs z ro ra L0 σ5 := hb4.kp (S := []) Kp.app (by simp)
  have c5 : σ5[la]? = some (.dictI (dic (xs ++ [z]) r.1.L)) := Kp.app (S := []) _ _ (by simp) c4
  have g5 : σ5[a']? = some (.dictI (dic (xs ++ [z]) r.1.L)) := app_get
  rw [exs_nxt (exe_asg (evO1 (evV v50) hcp))]
  generalize hρ5 : upd 48 (.ref a') ρ4 = ρ5
  have e5 : LN xs z m ro ρ5 := by rw [← hρ5]; exact e4.upd (by decide)
  have w50 : ρ5 50 = some (.ref la) := by rw [← hρ5]; simp [upd, v50]
  have w11 : ρ5 11 = some (.int (x : Int)) := by rw [← hρ5]; simp [upd, v11]
  have w48 : ρ5 48 = some (.ref a') := by rw [← hρ5]; simp [upd]
  clear hρ5
  have hxl : (r.1.L x).length ≤ lim := by have := (b5 x hxm).2.2; unfold lim; omega
  obtain ⟨r2, σ6, g1, g2, g3, g4, g6, g7⟩ := run_pick (n := n + 6) hb5.h (k := ((r.1.L x).length : Int)) (by omega)
  obtain ⟨j, rfl⟩ := Int.eq_ofNat_of_zero_le g1
  have hj : j < (r.1.L x).length := by omega
  have hvj : ((r.1.L x).map V.int)[j]? = some (.int (r.1.L x)[j]) := by rw [List.getElem?_map, List.getElem?_eq_getElem hj]; rfl
  have hvm : (r.1.L x)[j] ∈ r.1.L x := List.getElem_mem hj
  generalize (r.1.L x)[j] = v at *
  have s6 := s5.kp g6 (by simp)
  have hb6 := hb5.pick g6 g4
  have g8 : σ6[a']? = some (.dictI (dic (xs ++ [z]) r.1.L)) := g6 _ _ (by simp; omega) g5
  have hget : ∀ σ : Hp, σ[la]? = some (.dictI (dic (xs ++ [z]) r.1.L)) → ev (oB (n + 7)) (.op2 .idx (.var 50) (.var 11)) ρ5 σ = some (liV (r.1.L x), σ) := fun σ h => evO2 (evV w50) rfl (evV w11) (idx_dict h (dic_get (fx.all x hxm)))
  let L' := upf x [v] r.1.L
  let σ7 := σ6.set a' (.dictI (dic (xs ++ [z]) L'))
  have s7 : SI σ7 (doms m r.1.L) (doms m L0) ((T ++ r.1.T).map TE.v) [.int 0] N' false c := s6.kp (S := [a']) (Kp.set (by simp)) (by simp; omega)
  have g9 : σ7[a']? = some (.dictI (dic (xs ++ [z]) L')) := set_self g8
  have hne1 : a' ≠ ro ∧ a' ≠ ra := by
    have h1 := getE_lt hb4.o
    have h2 := getE_lt hb4.a
    show σ4.length ≠ ro ∧ σ4.length ≠ ra
    omega
  have hb7 : HB xs z ro ra L0 σ7 := ⟨hb6.h.kp (S := [a']) (Kp.set (by simp)) (by simp; omega), set_ne hb6.f (by omega), set_ne hb6.o hne1.1, set_ne hb6.a hne1.2, hb6.r⟩
  have hst : store (.ref a') (.int (x : Int)) (.lst [.int v]) σ6 = some σ7 := by
    rw [st_dict g8 dl]
    show some (σ6.set a' (.dictI (putK (x : Int) (liV [v]) (dic (xs ++ [z]) r.1.L)))) = _
    rw [dic_put (fx.all x hxm)]
  rw [exs_nxt (exe_asgI (v := .lst [.int v]) (σ₄ := σ7) (evL (evs1 (evO2 (hget _ c5) rfl (evCB (evsC (evV e5.r42) (evs1 (evO1 (hget _ c5) (liV_len hxl)))) g3) (idx_lst hvj (by rw [List.length_map]; exact hxl))))) (evV w48) (evV w11) hst)]
  have hnev : r.1.L x ≠ [v] := by
    intro h
    rw [h] at hx1
    simp at hx1
  obtain ⟨σ8, N8, k1, k2, k3, k4⟩ := run_decide (n := n + 3) s7 b4 (by omega) hm b5 hxm hvm hnev
  have hdec : ev (oB (n + 7)) (.meth (.var 45) 67 (.cons (.tup (.cons (.var 11) (.cons (.str (Str.ofString "=")) (.cons (.op2 .idx (.op2 .idx (.var 48) (.var 11)) (.int 0)) .nil)))) .nil)) ρ5 σ7 = some (.bool true, σ8) := by
    rw [ev_meth (i := 3) (c := 0) (d := 2) (f := 16) (σ₁ := σ7) (evV e5.r45) s7.i3 s7.i2 rfl rfl]
    have h0 : o2 .idx (liV [v]) (.int 0) σ7 = some (.int v, σ7) := idx_lst (x := 0) rfl (by simp [lim])
    have hL' : L' x = [v] := by simp [L', upf]
    rw [evs1 (evT (evsC (evV w11) (evsC ev_str (evs1 (evO2 (evO2 (evV w48) rfl (evV w11) (idx_dict g9 (by rw [dic_get (fx.all x hxm), hL']))) rfl ev_int h0))))), Option.bind_some]
    exact k1
  rw [exs_nxt (exe_expr hdec (.inr (.inl ⟨true, rfl⟩))), exs_nil]
  refine ⟨.nxt, ρ5, σ8, rfl, .inl ⟨rfl, L', (T ++ r.1.T) ++ [TE.mk x (r.1.L x) (litV x EQ v) .none], N8, c, a', ⟨hb7.kp k2 (by simp), .inr ha', k2 _ _ (by simp; omega) g9, k3, by rw [List.length_append]; exact k4, ?_, ?_, ?_, ?_, ?_, e5, w48⟩⟩⟩
  · rw [List.length_append, List.length_append]
    simp
    omega
  · intro y hy
    show Up (upf x [v] r.1.L y) ∧ _
    by_cases cy : y = x
    · subst cy
      simp [upf, Up, L']
    · simp only [L', upf, if_neg cy]
      exact b5 y hy
  · intro y hy u hu
    by_cases cy : y = x
    · subst cy
      simp [L', upf] at hu
      subst hu
      exact qi.b y hy _ hvm
    · simp only [L', upf, if_neg cy] at hu
      exact qi.b y hy u hu
  · intro e he
    rcases List.mem_append.mp he with he | he
    · exact htx e he
    · rw [List.mem_singleton.mp he]
      exact hxm
  · rw [undo_snoc]
    show undo (T ++ r.1.T) (upf x (r.1.L x) (upf x [v] r.1.L)) = L0
    rw [upf_upf]
    exact hund
end
end Mine

end

section
namespace Mine
open PySem
set_option Elab.async false
set_option autoImplicit false
set_option linter.unusedSimpArgs false
set_option linter.unusedVariables false

section
variable {n : Nat} {σ : Hp} {ρ : Ev}
def nvB : Sts := .cons (.expr (.meth (.var 45) 60 (.cons (.call 25 (.cons (.op2 .idx (.var 57) (.var 11)) .nil)) .nil))) .nil
theorem nv_loop {xs ks : List Nat} {z m : Nat} {L : LF} : ∀ (ys acc : List Nat) (ρ : Ev) (σ : Hp), SI σ (acc.map fun x => doV (spans (L x))) (acc.map fun x => doV (spans (L x))) [] [] [] false (.tup []) → HO σ → σ[1]? = some (.dictI (dic ks L)) → FE xs z m ρ → ρ 45 = some (.ref 3) →
    (∀ x ∈ ys, x ∈ ks ∧ Gd (L x)) → (acc ++ ys).length ≤ 100 →
    ∃ ρ' σ', loopS (fun x ρ' σ' => (bindTg (.nm 11) x ρ').bind fun ρ'' => exs (oB (n + 1)) nvB ρ'' σ') (natV ys) ρ σ = some (.nxt, ρ', σ') ∧ SI σ' ((acc ++ ys).map fun x => doV (spans (L x))) ((acc ++ ys).map fun x => doV (spans (L x))) [] [] [] false (.tup []) ∧ HO σ' ∧ σ'[1]? = some (.dictI (dic ks L)) ∧ FE xs z m ρ' ∧ ρ' 45 = some (.ref 3) := by
  intro ys
  induction ys with
  | nil => intro acc ρ σ s h0 h1 f h45 _ _; exact ⟨ρ, σ, rfl, by simpa using s, h0, h1, f, h45⟩
  | cons x ys ih =>
    intro acc ρ σ s h0 h1 f h45 hy hl
    obtain ⟨hxk, hg⟩ := hy x List.mem_cons_self
    have e : acc ++ x :: ys = (acc ++ [x]) ++ ys := by simp
    rw [e] at hl ⊢
    have f1 : FE xs z m (upd 11 (.int (x : Int)) ρ) := f.upd (by decide)
    have l1 : (L x).length < lim := by have := hg.2.2.1; unfold lim; omega
    have hsp := run_spans (n := n) (σ := σ) l1
    have s1 := s.kp (S := []) (Kp.app (l := [MO.list ((spans (L x)).map spV)])) (by simp)
    have hlen : acc.length ≤ 100 := by simp at hl; omega
    obtain ⟨σ2, i, e2, s2, k2⟩ := run_newvar (n := n) s1 (d := spans (L x)) (fun h => hg.2.1 (spans_nil.mp h)) (by rw [List.length_map]; exact hlen) (by rw [List.length_map]; exact hlen)
    have kk : Kp [4, 5] σ σ2 := Kp.trans (Kp.app (l := [MO.list ((spans (L x)).map spV)])) k2
    have hb : exs (oB (n + 1)) nvB (upd 11 (.int (x : Int)) ρ) σ = some (.nxt, upd 11 (.int (x : Int)) ρ, σ2) := by
      unfold nvB
      rw [exs_nxt (exe_expr (v := .int i) (σ' := σ2) (by
        rw [ev_meth (i := 3) (c := 0) (d := 2) (f := 9) (σ₁ := σ) (evV (by simp [upd, h45])) s.i3 s.i2 rfl rfl]
        rw [evs1 (evCB (evs1 (evO2 (evV f1.r57) rfl (evV rfl) (idx_dict h1 (dic_get hxk)))) hsp), Option.bind_some]
        exact e2) (.inr (.inr ⟨i, rfl⟩))), exs_nil]
    obtain ⟨ρ', σ', a1, a2, a3, a4, a5, a6⟩ := ih (acc ++ [x]) (upd 11 (.int (x : Int)) ρ) σ2 (by simpa using s2) (h0.kp kk (by simp)) (kk _ _ (by simp) h1) f1 (by simp [upd, h45]) (fun y hy' => hy y (List.mem_cons_of_mem _ hy')) hl
    refine ⟨ρ', σ', ?_, a2, a3, a4, a5, a6⟩
    simp only [natV, List.map_cons, loopS, bindTg, Option.bind_some]
    rw [hb]
    exact a1

theorem lap_loop {xs : List Nat} {z m ro ra : Nat} {L0 : LF} (fx : FX xs z m) : ∀ (ys : List Nat) (B : Nat) (ρ : Ev) (σ : Hp), B + 9 * ys.length ≤ 800 → (∃ L T N c a, LPre xs z m ro ra L0 B L T N c a ρ σ) →
    ∃ ρ' σ', loopS (fun x ρ' σ' => (bindTg (.nm 63) x ρ').bind fun ρ'' => exs (oB (n + 7)) lapB ρ'' σ') (natV ys) ρ σ = some (.nxt, ρ', σ') ∧ ∃ L T N b c, LPost xs z m ro ra L0 L T N b c ρ' σ' := by
  intro ys
  induction ys with
  | nil =>
    intro B ρ σ hB ⟨L, T, N, c, a, p⟩
    exact ⟨ρ, σ, rfl, L, T, N, _, _, ⟨p.hb, p.s, by have := p.hT; simp at hB; omega, p.t, p.u, p.e⟩⟩
  | cons x ys ih =>
    intro B ρ σ hB ⟨L, T, N, c, a, p⟩
    have p' : LPre xs z m ro ra L0 B L T N c a (upd 63 (.int (x : Int)) ρ) σ := ⟨p.hb, p.ea, p.ha, p.s, p.hN, p.hT, p.w, p.b, p.t, p.u, p.e.upd (by decide), by simp [upd, p.r48]⟩
    rw [List.length_cons] at hB
    obtain ⟨fl, ρ1, σ1, e1, h1⟩ := lap (n := n) fx p' (by omega)
    simp only [natV, List.map_cons, loopS, bindTg, Option.bind_some, e1]
    rcases h1 with ⟨rfl, h1⟩ | ⟨rfl, h1⟩
    · exact ih (B + 9) ρ1 σ1 (by omega) h1
    · exact ⟨ρ1, σ1, rfl, h1⟩

theorem evNew {n c f : Nat} {es : Exs} {l : List V} {σ₁ σ₂ : Hp} (h : evs (oB n) es ρ σ = some (l, σ₁)) (hi : iniT c = some f) (h2 : run TB n f (.ref (σ₁.length + 1) :: l) (σ₁ ++ [.attrs [], .inst c σ₁.length]) = some (.none, σ₂)) :
    ev (oB n) (.new c es) ρ σ = some (.ref (σ₁.length + 1), σ₂) := by
  have e0 : (oB n).ini c = some f := hi
  have h2' : (oB n).call f (.ref (σ₁.length + 1) :: l) (σ₁ ++ [.attrs [], .inst c σ₁.length]) = some (.none, σ₂) := h2
  unfold ev
  rw [h, Option.bind_some]
  simp only [e0]
  rw [h2']
  rfl
theorem rngT {s m : Nat} (hs : s < 2) (hm : m ≤ 3) : o1 .tuple (.rng (s : Int) ((s : Int) + (m : Int))) σ = some (.tup (natV (List.range' s m)), σ) := by
  simp only [o1, view, itemsI]
  rw [if_pos ⟨by unfold lim; omega, by unfold lim; omega, by unfold lim; omega⟩]
  simp only [Option.map_some]
  congr 3
  unfold intL natV
  have : ((s : Int) + (m : Int) - (s : Int)).toNat = m := by omega
  rw [this, List.range'_eq_map_range, List.map_map]
  refine List.map_congr_left fun k _ => ?_
  simp


set_option maxHeartbeats 2000000 in
theorem plain0 {n : Nat} (ns : List Int) (h : ns.length ≤ 63) : ∃ σ', run TB (n + 8) 31 [.lst (ns.map V.int)] [] = some (.bool true, σ') := by
  rw [run_eq (fn := f_law) rfl rfl]
  unfold f_law
  dsimp only
  generalize hρ0 : updL [53] [V.lst (ns.map V.int)] (fun _ => none) = ρ0
  have r53 : ρ0 53 = some (liV ns) := by rw [← hρ0]; rfl
  clear hρ0
  let cells : List Int := (ns.take 50).map fun (c : Int) => ((c.natAbs : Int)).fmod 1000003
  have hcl : cells.length ≤ 50 := by simp [cells]; omega
  have hlt : (ns.take 50).length ≤ 50 := by simp; omega
  have hcells : ev (oB (n + 7)) (.comp [55] (.op2 .fmod (.op1 .abs (.var 55)) (.int 1000003)) (.nm 55) (.op2 .slTo (.var 53) (.int 50)) .nil .nil) ρ0 [] = some (liV cells, []) := by
    have hsl : o2 .slTo (liV ns) (.int 50) [] = some (liV (ns.take 50), []) := by
      unfold liV
      simp only [o2, view]
      rw [if_pos ⟨by decide, by rw [List.length_map]; unfold lim; omega⟩]
      simp
    have := ev_comp1 (C := oB (n + 7)) (ρ := ρ0) (σ := []) (ls := [55]) (elt := .op2 .fmod (.op1 .abs (.var 55)) (.int 1000003)) (it := .op2 .slTo (.var 53) (.int 50)) (t := .nm 55) (ifs := .nil) (X := liV (ns.take 50)) (l := (ns.take 50).map .int) (σ₁ := [])
      (fun _ => true) (fun v => match v with | .int c => .int ((c.natAbs : Int).fmod 1000003) | _ => .none) (evO2 (evV r53) rfl ev_int hsl) (liV_items (by unfold lim; omega)) ?_ ?_ (by rw [List.length_map]; unfold lim; omega)
    · rw [this, filter_tt, List.map_map]
      simp only [cells, liV, List.map_map]
      rfl
    · intro v hv acc
      obtain ⟨x, hx, rfl⟩ := List.mem_map.mp hv
      refine ⟨_, rfl, evca_nil, fun _ => evO2 (evO1 (evV rfl) rfl) rfl ev_int ?_⟩
      simp only [o2]
      rw [if_pos (by decide)]
    · intro v hv _
      obtain ⟨x, hx, rfl⟩ := List.mem_map.mp hv
      exact okD_int
  rw [exs_nxt (exe_asgU hcells)]
  generalize hρ1 : upd 54 (liV cells) ρ0 = ρ1
  have r54 : ρ1 54 = some (liV cells) := by rw [← hρ1]; rfl
  clear hρ1
  have hsum : o1 .sum (liV cells) [] = some (.int cells.sum, []) := by
    simp only [liV, o1, intsOf_map]
    rw [if_pos (by rw [List.length_map]; unfold lim; omega)]
  let t0 : Int := (5 + cells.sum).fmod 1021
  have ht0 : 0 ≤ t0 := Int.fmod_nonneg_of_pos _ (by decide)
  have ht1 : t0 < 1021 := Int.fmod_lt_of_pos _ (by decide)
  have hfm : o2 .fmod (.int (5 + cells.sum)) (.int 1021) [] = some (.int t0, []) := by
    simp only [o2]
    rw [if_pos (by decide)]
  have hd : ev (oB (n + 7)) (.dictS [(Str.ofString "cells"), (Str.ofString "spot"), (Str.ofString "stir")] (.cons (.var 54) (.cons (.int 0) (.cons (.op2 .fmod (.op2 .add (.int 5) (.op1 .sum (.var 54))) (.int 1021)) .nil)))) ρ1 [] = some (.ref 0, [handO cells 0 t0]) := by
    rw [ev_dictS, evsC (evV r54) (evsC ev_int (evs1 (evO2 (evO2 ev_int rfl (evO1 (evV r54) hsum) rfl) rfl ev_int hfm))), Option.map_some]
    rfl
  rw [exs_nxt (exe_asg hd)]
  generalize hρ2 : upd 42 (.ref 0) ρ1 = ρ2
  have q42 : ρ2 42 = some (.ref 0) := by rw [← hρ2]; rfl
  clear hρ2
  have ho : HO [handO cells 0 t0] := ⟨cells, 0, t0, rfl, hcl, Int.le_refl _, ht0, ht1⟩
  have hl0 : [handO cells 0 t0].length = 1 := rfl
  generalize [handO cells 0 t0] = σ0 at ho hl0 ⊢
  -- how many, the shift
  obtain ⟨r1, σ1, a1, a2, a3, a4, a5, a6⟩ := run_pick (n := n + 6) ho (k := 3) (by decide)
  obtain ⟨i1, rfl⟩ := Int.eq_ofNat_of_zero_le a1
  rw [exs_nxt (exe_asg (v := .int ((i1 + 1 : Nat) : Int)) (evO2 ev_int rfl (evCB (evsC (evV q42) (evs1 ev_int)) a3) (by
    show some (V.int (1 + (i1 : Int)), σ1) = _
    congr 3
    omega)))]
  have hm1 : 1 ≤ i1 + 1 := by omega
  have hm3 : i1 + 1 ≤ 3 := by omega
  generalize i1 + 1 = m at hm1 hm3 ⊢
  generalize hρ3 : upd 43 (.int (m : Int)) ρ2 = ρ3
  have p42 : ρ3 42 = some (.ref 0) := by rw [← hρ3]; simp [upd, q42]
  have p43 : ρ3 43 = some (.int (m : Int)) := by rw [← hρ3]; rfl
  clear hρ3
  obtain ⟨r2, σ2, b1, b2, b3, b4, b5, b6⟩ := run_pick (n := n + 6) a4 (k := 2) (by decide)
  obtain ⟨s, rfl⟩ := Int.eq_ofNat_of_zero_le b1
  have hs2 : s < 2 := by omega
  have hl2 : σ2.length = 1 := by rw [b6, a6, hl0]
  have hd0 : ev (oB (n + 7)) .dict0 ρ3 σ2 = some (.ref 1, σ2 ++ [.dictI []]) := by rw [ev_dict0, hl2]
  rw [exs_nxt (exe_asgS (l := [.int (s : Int), .ref 1]) (evsC (evCB (evsC (evV p42) (evs1 ev_int)) b3) (evs1 hd0)) rfl)]
  have hl3 : (σ2 ++ [MO.dictI []]).length = 2 := by simp [hl2]
  have ho3 : HO (σ2 ++ [MO.dictI []]) := b4.kp (S := []) Kp.app (by simp)
  have hf3 : (σ2 ++ [MO.dictI []])[1]? = some (.dictI []) := by
    have := app_get (σ := σ2) (a := MO.dictI [])
    rw [hl2] at this
    exact this
  generalize σ2 ++ [MO.dictI []] = σ3 at hl3 ho3 hf3 ⊢
  generalize hρ4 : updL [56, 57] [.int (s : Int), .ref 1] ρ3 = ρ4
  have t42 : ρ4 42 = some (.ref 0) := by rw [← hρ4]; simp [updL, upd, p42]
  have t43 : ρ4 43 = some (.int (m : Int)) := by rw [← hρ4]; simp [updL, upd, p43]
  have t56 : ρ4 56 = some (.int (s : Int)) := by rw [← hρ4]; simp [updL, upd]
  have t57 : ρ4 57 = some (.ref 1) := by rw [← hρ4]; simp [updL, upd]
  clear hρ4
  have fx := fx_of hs2 hm1 hm3
  have hrng : o2 .rng2 (.int (s : Int)) (.int ((s : Int) + (m : Int))) σ3 = some (.rng (s : Int) ((s : Int) + (m : Int)), σ3) := by
    simp only [o2]
    rw [if_pos ⟨by unfold lim; omega, by unfold lim; omega⟩]
  have hz : ev (oB (n + 7)) (.ite (.cmp .eq (.var 56) (.int 1)) (.int 0) (.var 43)) ρ4 σ3 = some (.int (((if s = 1 then 0 else m : Nat)) : Int), σ3) := by
    refine ev_ite' (t := decide ((s : Int) = 1)) (evc_cmpP (evV t56) ev_int o2_eqI) (fun h => ?_) (fun h => ?_)
    · have : s = 1 := by have := of_decide_eq_true h; omega
      rw [if_pos this]
      exact ev_int
    · have : ¬ s = 1 := by have := of_decide_eq_false h; omega
      rw [if_neg this]
      exact evV t43
  rw [exs_nxt (exe_asgS (l := [.tup (natV (List.range' s m)), .int (((if s = 1 then 0 else m : Nat)) : Int)]) (evsC (evO1 (evO2 (evV t56) rfl (evO2 (evV t56) rfl (evV t43) rfl) hrng) (rngT hs2 hm3)) (evs1 hz)) rfl)]
  generalize List.range' s m = xs at fx ⊢
  generalize (if s = 1 then 0 else m) = z at fx ⊢
  have hm := fx.m3
  generalize hρ5 : updL [36, 34] [.tup (natV xs), .int (z : Int)] ρ4 = ρ5
  have f5 : FE xs z m ρ5 := by
    rw [← hρ5]
    refine ⟨?_, ?_, ?_, ?_, ?_⟩ <;> simp [updL, upd, t42, t43, t57]
  clear hρ5
  -- the first lots
  have hks : (xs ++ [z]).length ≤ 100 := by rw [fx.kl]; omega
  obtain ⟨L, ρ6, σ4, c1, c2, c3, c4, c5, c6⟩ := first_loop (n := n + 6) (xs := xs) (z := z) (m := m) (xs ++ [z]) [] (fun _ => []) ρ5 σ3 fx.nd hks ho3 hf3 hl3 (by simp) f5
  rw [List.nil_append] at c3 c5
  have hit : ev (oB (n + 7)) (.op2 .add (.var 36) (.tup (.cons (.var 34) .nil))) ρ5 σ3 = some (.tup (natV (xs ++ [z])), σ3) := by
    refine evO2 (evV f5.r36) rfl (evT (evs1 (evV f5.r34))) ?_
    rw [addT (by have := fx.l3; simp [natV, lim]; omega)]
    simp [natV]
  have hfor : exe (oB (n + 7)) (.for_ (.nm 11) (.op2 .add (.var 36) (.tup (.cons (.var 34) .nil))) firstB) ρ5 σ3 = some (.nxt, ρ6, σ4) := (exe_for hit (natV_items (by unfold lim; omega))).trans c1
  unfold firstB at hfor
  rw [exs_nxt hfor]
  clear hfor hit c1
  have gd : ∀ x, x ≤ m → Gd (L x) := fun x hx => c5 x (fx.all x hx)
  have w : WF m L := fun x hx => ⟨(gd x hx).1, (gd x hx).2.1, (gd x hx).2.2.1⟩
  have bd : Bd m L := fun x hx => (gd x hx).2.2.2
  -- the store
  obtain ⟨h0, h1, rfl⟩ : ∃ h0 h1, σ4 = [h0, h1] := by
    match σ4, c4 with
    | [h0, h1], _ => exact ⟨h0, h1, rfl⟩
  obtain ⟨σ5, d1, d2, d3⟩ := run_init (n := n + 6) (h0 := h0) (h1 := h1)
  have hnew : ev (oB (n + 7)) (.new 0 .nil) ρ6 [h0, h1] = some (.ref 3, σ5) := by
    exact evNew (n := n + 7) (f := 8) (σ₁ := [h0, h1]) evs0 rfl d1
  rw [exs_nxt (exe_asg hnew)]
  have c2' : HO [h0, h1, MO.attrs [], MO.inst 0 2] := c2.kp (S := []) (Kp.app (l := [MO.attrs [], MO.inst 0 2])) (by simp)
  have c3' : [h0, h1, MO.attrs [], MO.inst 0 2][1]? = some (.dictI (dic (xs ++ [z]) L)) := c3
  have g2 : HO σ5 := c2'.kp d3 (by simp)
  have g3 : σ5[1]? = some (.dictI (dic (xs ++ [z]) L)) := d3 _ _ (by simp) c3'
  obtain ⟨ρ7, σ6, k1, k2, k3, k4, k5, k6⟩ := nv_loop (n := n + 6) (xs := xs) (z := z) (m := m) (ks := xs ++ [z]) (L := L) (List.range (m + 1)) [] (upd 45 (.ref 3) ρ6) σ5 d2 g2 g3 (c6.upd (by decide)) rfl (fun x hx => by
    have := List.mem_range.mp hx
    exact ⟨fx.all x (by omega), gd x (by omega)⟩) (by simp; omega)
  rw [List.nil_append] at k2
  have hfor : exe (oB (n + 7)) (.for_ (.nm 11) (.op1 .rng1 (.op2 .add (.var 43) (.int 1))) nvB) (upd 45 (.ref 3) ρ6) σ5 = some (.nxt, ρ7, σ6) :=
    (exe_for (evO1 (evO2 (evV (v := .int (m : Int)) (by simp [upd, c6.r43])) rfl ev_int rfl) (rng1_nat (k := m + 1) (by unfold lim; omega))) (rng_items (by unfold lim; omega))).trans k1
  unfold nvB at hfor
  rw [exs_nxt hfor]
  clear hfor k1
  change SI σ6 (doms m L) (doms m L) [] [] [] false (.tup []) at k2
  -- the rule
  have h8 : 8 < σ6.length := getE_lt k2.i8
  let σ7 := σ6 ++ [MO.attrs [], MO.inst 1 σ6.length]
  have k7 : Kp [] σ6 σ7 := Kp.app
  have n1 : σ7[σ6.length + 1]? = some (.inst 1 σ6.length) := by simp [σ7]
  have n2 : σ7[σ6.length]? = some (.attrs []) := by simp [σ7]
  obtain ⟨σ8, l1, l2, l3, l4⟩ := run_ginit (n := n + 4) (z := z) n1 n2 fx.l3 (by omega)
  have hrule : ev (oB (n + 7)) (.new 1 (.cons (.var 36) (.cons (.var 34) .nil))) ρ7 σ6 = some (.ref (σ6.length + 1), σ8) := by
    exact evNew (n := n + 7) (f := 22) (evsC (evV k5.r36) (evs1 (evV k5.r34))) rfl l1
  rw [exs_nxt (exe_asgS (l := [.ref (σ6.length + 1), .ref 1]) (evsC hrule (evs1 (evV k5.r57))) rfl)]
  have s8 : SI σ8 (doms m L) (doms m L) [] [] [] false (.tup []) := (k2.kp k7 (by simp)).kp l4 (by simp; omega)
  have o8 : HO σ8 := (k3.kp k7 (by simp)).kp l4 (by simp; omega)
  have f8 : σ8[1]? = some (.dictI (dic (xs ++ [z]) L)) := l4 _ _ (by simp; omega) (k7 _ _ (by simp) k4)
  have hb8 : HB xs z (σ6.length + 1) σ6.length L σ8 := ⟨o8, f8, l2, l3, by omega, h8⟩
  generalize σ6.length + 1 = ro at *
  generalize σ6.length = ra at *
  generalize hρ8 : updL [61, 48] [.ref ro, .ref 1] ρ7 = ρ8
  have e8 : LN xs z m ro ρ8 := by
    rw [← hρ8]
    refine ⟨?_, ?_, ?_, ?_, ?_, ?_, ?_⟩ <;> simp [updL, upd, k5.r42, k5.r57, k5.r43, k5.r36, k5.r34, k6]
  have u48 : ρ8 48 = some (.ref 1) := by rw [← hρ8]; simp [updL, upd]
  clear hρ8
  obtain ⟨σ9, v1, v2, v3⟩ := run_push (n := n + 6) s8 (by simp) (by simp)
  have hpush : ev (oB (n + 7)) (.meth (.var 45) 62 .nil) ρ8 σ8 = some (.none, σ9) := by
    rw [ev_meth (i := 3) (c := 0) (d := 2) (f := 18) (σ₁ := σ8) (evV e8.r45) s8.i3 s8.i2 rfl rfl, evs0, Option.bind_some]
    exact v1
  rw [exs_nxt (exe_expr hpush (.inl rfl))]
  have hb9 := hb8.kp v3 (by simp)
  -- the laps
  have pre : LPre xs z m ro ra L 0 L [] [] (.tup []) 1 ρ8 σ9 := ⟨hb9, .inl rfl, hb9.f, v2, by simp, by simp, w, bd, by simp, rfl, e8, u48⟩
  obtain ⟨ρ9, σ10, w1, L', T', N', b', c', w2⟩ := lap_loop (n := n) fx (List.range 3) 0 ρ8 σ9 (by simp) ⟨L, [], [], _, 1, pre⟩
  have hfor : exe (oB (n + 7)) (.for_ (.nm 63) (.op1 .rng1 (.int 3)) lapB) ρ8 σ9 = some (.nxt, ρ9, σ10) := (exe_for (evO1 ev_int (rng1_nat (k := 3) (by simp [lim]))) (rng_items (by simp [lim]))).trans w1
  unfold lapB at hfor
  rw [exs_nxt hfor]
  clear hfor w1
  -- the pop
  obtain ⟨σ11, as, x1, x2, x3, x4⟩ := run_pop (n := n + 6) w2.s hm w2.hT w2.t w2.u rfl w
  have hpop : ev (oB (n + 7)) (.meth (.var 45) 68 (.cons (.int 1) .nil)) ρ9 σ10 = some (.none, σ11) := by
    rw [ev_meth (i := 3) (c := 0) (d := 2) (f := 19) (σ₁ := σ10) (evV w2.e.r45) w2.s.i3 w2.s.i2 rfl rfl, evs1 ev_int, Option.bind_some]
    exact x1
  rw [exs_nxt (exe_expr hpop (.inl rfl))]
  have hb11 := w2.hb.kp x4 (by simp)
  have hlots := run_lots (n := n + 5) x2 hm w bd
  have hfail : ev (oB (n + 7)) (.op1 .not (.attr (.var 45) 19)) ρ9 σ11 = some (.bool true, σ11) := by
    have : attrOf (.ref 3) 19 σ11 = some (.bool false) := by simp only [attrOf, x2.i3, x2.i2, x3]
    exact evO1 (evA (evV w2.e.r45) this) rfl
  have heq : ev (oB (n + 7)) (.op2 .eq (.call 26 (.cons (.var 45) .nil)) (.var 57)) ρ9 σ11 = some (.bool true, σ11 ++ [.dictI (dic (List.range (m + 1)) L)]) := by
    refine evO2 (evCB (evs1 (evV w2.e.r45)) hlots) rfl (evV w2.e.r57) ?_
    have := dic_eqD (σ := σ11 ++ [.dictI (dic (List.range (m + 1)) L)]) (i := σ11.length) (j := 1) app_get (Kp.app (S := []) _ _ (by simp) hb11.f) (by rw [fx.kl, List.length_range]) (fun x hx => fx.all x (by have := List.mem_range.mp hx; omega)) (fun _ _ => rfl)
    simp only [o2, this, Option.map_some]
  refine ⟨σ11 ++ [.dictI (dic (List.range (m + 1)) L)], ?_⟩
  · rw [exs_ret (v := .bool true) (ρ' := ρ9) (σ' := σ11 ++ [.dictI (dic (List.range (m + 1)) L)]) (exe_ret (by rw [ev_and2, hfail, Option.bind_some]; exact heq))]
    rfl
end
theorem plain (ns : List Int) (h : ns.length ≤ 63) : ∃ n σ', n ≤ 100 ∧ run TB n 31 [.lst (ns.map V.int)] [] = some (.bool true, σ') := by
  obtain ⟨σ', e⟩ := plain0 (n := 0) ns h
  exact ⟨0 + 8, σ', by decide, e⟩
end Mine

end

section
open PySem PySem.W PyProof.Rows
set_option Elab.async false
set_option maxRecDepth 100000 in
set_option maxHeartbeats 8000000 in
theorem PySem.Challenge.cw_pc0034_01_holds : PySem.Challenge.rw_pc0034_01.Holds := by
  refine Mine.hd ?_
  k_fill
  intro w s₀ s₁ mg mb G Y fa o pm cd doc dV kV ho hd hcd hD hmg hg args vals as hpre hlay hrd hwl hlo
  have KX := kIn_of Y
  refine Ground.open G ?_
  intro T B D TE TW
  wrow_args hpre hlay hrd hwl hlo
  refine enter_call ?_
  rename_i ns _ _ _ _ _ _ _ a vs _ hL _ _ _ hI _ hlen _
  have hns : ns.length ≤ 63 := by omega
  obtain ⟨n, σ', hn, hr⟩ := Mine.plain ns hns
  have sy : ∃ o, s₁.heap.get? sysModules = some o := by
    obtain ⟨mm, ⟨oo, _, _, e, _⟩, _⟩ := (T.seer (by kernel_rfl)).mods
    exact ⟨oo, e⟩
  have hdV : dV = .none := by
    rcases hD.pos with ⟨_, h⟩ | ⟨h, _⟩
    · exact h
    · exact absurd rfl h
  subst hdV
  refine Mine.joined KX T.g T.b T.nolimit T.builtins sy (Mine.fnOk_fd (f := 31) ⟨o, ho, hd⟩ hcd (by kernel_rfl) ?_) hL hI hn hr rfl ?_ ?_ rfl ?_
  · intro vals hv
    match vals, hv with
    | [v], _ => kernel_rfl
  · show 1 + claimMargin ≤ 310
    decide
  · show 4 ≤ 100
    decide
  · intro h tk hk
    refine GoodW.toG ⟨.inl ⟨_, .bool true, [], rfl, fun _ => rfl, .bool true, ?_, unshared_nil⟩, hk, rfl, hg⟩
    kernel_rfl


end
