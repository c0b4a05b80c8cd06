import PyProof.Rows.All
import Wide.All
import OpenK.AllK
import Wide.FinOn
import HandS.ForMost
import HandS.ForExc
import HandS.Style
import HandS.IsInst
import HandS.Zip
import HandS.Deep
import HandS.Flow
import HandS.TryOnly
import HandS.Walk
import HandS.Lambda
import HandS.TupAny
import HandS.TupLe
import HandS.TupMul
import HandS.SortInts
import HandS.Rev
import HandS.Conv
import HandS.EndTab
import KE.KSortTup
import KE.GoesMore
import KE.GoesEnum
import HandS.WordsExc
import HandS.ExcIs
import HandS.HeadWalk
import PySem.Challenge.RW_fillsalike_k00_whole_nets_and_ways
set_option Elab.async false
set_option linter.all false
set_option autoImplicit false
/-! Pz, part A: plain data, a small pure language, what it computes. -/
namespace Pz
open PySem L2

/-- a value as plain data -/
inductive D where
  | non | bl (b : Bool) | int (i : Int) | str (s : Str)
  | tup (xs : List D) | lst (xs : List D)
  | hd (n : Nat) | fn (n : Nat) | scr (ns : List Int)
  deriving Inhabited

mutual
/-- no list anywhere in it -/
def D.lf : D → Bool
  | .lst _ => false
  | .tup xs => D.lfs xs
  | _ => true
def D.lfs : List D → Bool
  | [] => true
  | x :: xs => D.lf x && D.lfs xs
end
mutual
/-- equality as Python tells it -/
def D.eq : D → D → Bool
  | .non, .non => true
  | .bl a, .bl b => a == b
  | .bl a, .int j => (if a then 1 else 0) == j
  | .int i, .bl b => i == (if b then 1 else 0)
  | .int i, .int j => i == j
  | .str a, .str b => decide (a = b)
  | .tup xs, .tup ys => D.eqs xs ys
  | .lst xs, .lst ys => D.eqs xs ys
  | _, _ => false
def D.eqs : List D → List D → Bool
  | [], [] => true
  | x :: xs, y :: ys => D.eq x y && D.eqs xs ys
  | _, _ => false
end
mutual
/-- nothing but data in it; at most n deep -/
def D.dp : Nat → D → Bool
  | _, .non => true
  | _, .bl _ => true
  | _, .int _ => true
  | _, .str s => PyData.strOk s
  | 0, .tup _ => false
  | n + 1, .tup xs => D.dps n xs
  | 0, .lst _ => false
  | n + 1, .lst xs => D.dps n xs
  | _, .hd _ => false
  | _, .fn _ => false
  | _, .scr _ => false
def D.dps : Nat → List D → Bool
  | _, [] => true
  | n, x :: xs => D.dp n x && D.dps n xs
end
def D.tru : D → Option Bool
  | .non => some false
  | .bl b => some b
  | .int i => some (i != 0)
  | .str s => if s.length ≤ 16777216 then some (s.length != 0) else none
  | .tup xs => some (!xs.isEmpty)
  | .lst xs => some (!xs.isEmpty)
  | _ => none
def D.ints : List D → Option (List Int)
  | [] => some []
  | .int i :: r => (D.ints r).map (i :: ·)
  | _ :: _ => none
def D.bls : List D → Option (List Bool)
  | [] => some []
  | .bl i :: r => (D.bls r).map (i :: ·)
  | _ :: _ => none

abbrev Env := List (Option (D × Bool))
abbrev Sto := List (List D)
/-- what comes of a piece: a value, an exception of the c-th class, or nothing is told -/
inductive R (α : Type) where
  | ok (a : α) | ex (c : Nat) (S : Sto) | bad
def R.bind {α β : Type} : R α → (α → R β) → R β
  | .ok a, f => f a
  | .ex c S, _ => .ex c S
  | .bad, _ => .bad
def R.of {α : Type} : Option α → R α
  | some a => .ok a
  | none => .bad
/-- exceptions are not told -/
def R.noex {α : Type} : R α → R α
  | .ex _ _ => .bad
  | r => r
@[simp] theorem R.bind_ok {α β : Type} (a : α) (f : α → R β) : (R.ok a).bind f = f a := rfl
@[simp] theorem R.bind_ex {α β : Type} (c : Nat) (S : Sto) (f : α → R β) : (R.ex c S : R α).bind f = .ex c S := rfl
@[simp] theorem R.bind_bad {α β : Type} (f : α → R β) : (R.bad : R α).bind f = .bad := rfl

inductive BOp where | add | sub | mul | fdiv | mod | pow
  deriving DecidableEq
inductive COp where | eq | ne | lt | le | gt | ge | is | isn | mem | nme
  deriving DecidableEq
inductive Bi where | len | abs | list | tuple | sorted | int | all | any | sum | min | max
  deriving DecidableEq
inductive Ty where | int | bool | str | tuple | list
  deriving DecidableEq
mutual
inductive Tg where
  | nm (i : Nat) | tp (ts : Tgs)
inductive Tgs where
  | nil | cons (t : Tg) (ts : Tgs)
end
mutual
def Tg.vars : Tg → List Nat
  | .nm i => [i]
  | .tp ts => ts.vars
def Tgs.vars : Tgs → List Nat
  | .nil => []
  | .cons t ts => t.vars ++ ts.vars
end

mutual
inductive PX where
  | var (i : Nat) | con (d : D) | glo (j : Nat) | fnv (j : Nat)
  | bin (o : BOp) (a b : PX) | neg (a : PX)
  | cmp (o : COp) (a b : PX) | chn (o o' : COp) (a b c : PX)
  | bop (k : Bool) (xs : PXs) | not (a : PX) | ife (t a b : PX)
  | call (j : Nat) (xs : PXs) | calv (i : Nat) (xs : PXs)
  | bi (b : Bi) (xs : PXs) | isi (a : PX) (T : Ty)
  | ix (a b : PX) | sl (a : PX) (lo hi : PXo) | rev (a : PX)
  | tup (xs : PXs) | lst (xs : PXs)
  | lc (own : List Nat) (elt : PX) (t : Tg) (it : PIt) (c : PXs)
  | lam (j : Nat) (a : PX)
  | cvr1 (t : Bool) (a : PX) | cvr2 (t : Bool) (a b : PX)
inductive PXs where
  | nil | cons (x : PX) (xs : PXs)
inductive PXo where
  | no | so (x : PX)
inductive PIt where
  | val (x : PX) | rng1 (a : PX) | rng2 (a b : PX) | zip (a b : PX) | enum (a : PX)
end

/-! ### what operators tell -/
def lexLtB : List Int → List Int → Bool
  | [], [] => false
  | [], _ :: _ => true
  | _ :: _, [] => false
  | x :: xs, y :: ys => if x = y then lexLtB xs ys else decide (x < y)
def CMulB (i j : Int) : Bool := (decide (-(2 ^ 64) < i) && decide (i < 2 ^ 64)) || (decide (-(2 ^ 64) < j) && decide (j < 2 ^ 64))
def line : Nat := 16777216
def binEv : BOp → D → D → Option (D × Bool)
  | .add, .int i, .int j => some (.int (i + j), false)
  | .add, .str a, .str b => if a.length + b.length ≤ line then some (.str (a ++ b), false) else none
  | .add, .tup xs, .tup ys => if xs.length + ys.length ≤ line then some (.tup (xs ++ ys), false) else none
  | .add, .lst xs, .lst ys => if xs.length + ys.length ≤ line then some (.lst (xs ++ ys), true) else none
  | .sub, .int i, .int j => some (.int (i - j), false)
  | .mul, .int i, .int j => if CMulB i j then some (.int (i * j), false) else none
  | .mul, .lst xs, .int k => if -(2 ^ 63) ≤ k ∧ k < 2 ^ 63 ∧ xs.length * k.toNat ≤ line then some (.lst (List.replicate k.toNat xs).flatten, true) else none
  | .mul, .tup xs, .int k => if 2 ≤ k ∧ k ≤ 1000 ∧ xs.length ≤ 1000 ∧ xs.isEmpty = false then some (.tup (List.replicate k.toNat xs).flatten, false) else none
  | .fdiv, .int i, .int j => if 0 < j ∧ j < 1073741824 then some (.int (i / j), false) else none
  | .mod, .int i, .int j => if 0 < j then some (.int (i % j), false) else none
  | .pow, .int i, .int j => if 0 ≤ j ∧ j ≤ 1000000 ∧ i.natAbs < 2 ^ 64 then some (.int (i ^ j.toNat), false) else none
  | _, _, _ => none
def dpth : Nat := 60
def memB (x : D) : List D → Bool
  | [] => false
  | y :: ys => D.eq y x || memB x ys
def ordEv (k : Bool → Bool → Bool) (x y : D) : Option Bool :=
  -- k lt eq
  match x, y with
  | .int i, .int j => some (k (decide (i < j)) (decide (i = j)))
  | .tup xs, .tup ys => match D.ints xs, D.ints ys with
    | some ns, some ms => some (k (lexLtB ns ms) (decide (ns = ms)))
    | _, _ => none
  | _, _ => none
def eqEv (x y : D) : Option Bool := if D.dp dpth x && D.dp dpth y then some (D.eq x y) else none
def isEv : D → D → Option Bool
  | .non, .non => some true
  | _, .non => some false
  | .bl a, .bl b => some (a == b)
  | _, _ => none
def memEv : D → D → Option Bool
  | x, .lst ys => if D.dp dpth x && D.dps dpth ys then some (memB x ys) else none
  | x, .tup ys => if D.dp dpth x && D.dps dpth ys then some (memB x ys) else none
  | _, _ => none
def cmpEv (o : COp) (x y : D) : Option Bool :=
  match o with
  | .eq => eqEv x y
  | .ne => (eqEv x y).map (!·)
  | .lt => ordEv (fun l _ => l) x y
  | .le => ordEv (fun l e => l || e) x y
  | .gt => ordEv (fun l e => !l && !e) x y
  | .ge => ordEv (fun l _ => !l) x y
  | .is => isEv x y
  | .isn => (isEv x y).map (!·)
  | .mem => memEv x y
  | .nme => (memEv x y).map (!·)
/-- insertion -/
def insB {α : Type} (lt : α → α → Bool) (x : α) : List α → List α
  | [] => [x]
  | y :: ys => if lt y x then y :: insB lt x ys else x :: y :: ys
def sortB {α : Type} (lt : α → α → Bool) : List α → List α
  | [] => []
  | x :: xs => insB lt x (sortB lt xs)
/-- a tuple of ints, not empty -/
def itOf : D → Option (List Int)
  | .tup (x :: xs) => D.ints (x :: xs)
  | _ => none
def itsOf : List D → Option (List (List Int))
  | [] => some []
  | d :: ds => (itOf d).bind fun n => (itsOf ds).map fun r => n :: r
def dI (ns : List Int) : List D := ns.map D.int
def sortEv (ds : List D) : Option (List D) :=
  match D.ints ds with
  | some ns => some (dI (sortB (fun a b => decide (a < b)) ns))
  | none => (itsOf ds).map fun nss => (sortB lexLtB nss).map fun ns => .tup (dI ns)
def maxB : List Int → Int → Int
  | [], m => m
  | x :: xs, m => maxB xs (if m < x then x else m)
def minB : List Int → Int → Int
  | [], m => m
  | x :: xs, m => minB xs (if x < m then x else m)
def biEv : Bi → List D → Option (D × Bool)
  | .len, [.tup xs] => some (.int xs.length, false)
  | .len, [.lst xs] => some (.int xs.length, false)
  | .len, [.str s] => if s.length ≤ line then some (.int s.length, false) else none
  | .abs, [.int i] => some (.int (if i < 0 then -i else i), false)
  | .list, [.tup xs] => some (.lst xs, true)
  | .list, [.lst xs] => some (.lst xs, true)
  | .list, [.scr ns] => some (.lst (ns.map D.int), true)
  | .tuple, [.tup xs] => some (.tup xs, false)
  | .tuple, [.lst xs] => some (.tup xs, false)
  | .sorted, [.lst xs] => (sortEv xs).map fun ys => (.lst ys, true)
  | .sorted, [.tup xs] => (sortEv xs).map fun ys => (.lst ys, true)
  | .int, [.int i] => some (.int i, false)
  | .int, [.bl b] => some (.int (if b then 1 else 0), false)
  | .all, [.lst xs] => (D.bls xs).map fun bs => (.bl (bs.all id), false)
  | .any, [.lst xs] => (D.bls xs).map fun bs => (.bl (bs.any id), false)
  | .sum, [.lst xs] => (D.ints xs).map fun ns => (.int ns.sum, false)
  | .max, [.lst xs] => match D.ints xs with | some (n :: ns) => some (.int (maxB ns n), false) | _ => none
  | .min, [.lst xs] => match D.ints xs with | some (n :: ns) => some (.int (minB ns n), false) | _ => none
  | .max, [.int i, .int j] => some (.int (if j > i then j else i), false)
  | .min, [.int i, .int j] => some (.int (if j < i then j else i), false)
  | _, _ => none
def isTy : Ty → D → Option Bool
  | _, .hd _ => none
  | _, .fn _ => none
  | _, .scr _ => none
  | .int, .int _ => some true
  | .int, .bl _ => some true
  | .bool, .bl _ => some true
  | .str, .str _ => some true
  | .tuple, .tup _ => some true
  | .list, .lst _ => some true
  | _, _ => some false
def ixEv (S : Sto) : D → D → Option D
  | .tup xs, .int i => atI xs i
  | .lst xs, .int i => atI xs i
  | .hd n, .int i => (S[n]?).bind fun xs => atI xs i
  | .str s, .int i => if s.length ≤ line then (atI s.cps.toList i).map fun c => .str ⟨#[c]⟩ else none
  | _, _ => none
def cutD (xs : List D) (lo hi : Option Int) : List D := (xs.drop (HT.sIx xs.length 0 lo)).take (HT.sIx xs.length xs.length hi - HT.sIx xs.length 0 lo)
def slEv : D → Option Int → Option Int → Option (D × Bool)
  | .tup xs, lo, hi => some (.tup (cutD xs lo hi), false)
  | .lst xs, lo, hi => some (.lst (cutD xs lo hi), true)
  | _, _, _ => none
def revEv : D → Option (D × Bool)
  | .tup xs => some (.tup xs.reverse, false)
  | .lst xs => some (.lst xs.reverse, true)
  | _ => none
def D.oInt : D → Option (Option Int)
  | .int i => some (some i)
  | _ => none
/-- the items of a thing that is walked -/
def itemsOf : D → Option (List D)
  | .tup xs => some xs
  | .lst xs => some xs
  | .str s => some (s.cps.toList.map fun c => .str ⟨#[c]⟩)
  | _ => none
def seqOf : D → Option (List D)
  | .tup xs => some xs
  | .lst xs => some xs
  | _ => none
/-- no lists among its items -/
def seqLf (d : D) : Bool := match seqOf d with | some ds => D.lfs ds | none => true
def isLst : D → Bool
  | .lst _ => true
  | _ => false
def rngD (lo : Int) (n : Nat) : List D := (List.range n).map fun (i : Nat) => .int (lo + (i : Int))
def smallI (i : Int) : Bool := decide (-(2 ^ 62) ≤ i) && decide (i < 2 ^ 62)
def zipD : List D → List D → List D
  | x :: xs, y :: ys => .tup [x, y] :: zipD xs ys
  | _, _ => []
def enumD : Nat → List D → List D
  | _, [] => []
  | k, x :: xs => .tup [.int k, x] :: enumD (k + 1) xs

/-! ### stores -/
def wipeE (E : Env) : List Nat → Env
  | [] => E
  | v :: vs => (wipeE E vs).set v none
mutual
/-- a target of a comprehension -/
def bindC : Tg → D → Env → Option Env
  | .nm i, d, E => some (E.set i (some (d, false)))
  | .tp ts, .tup ds, E => bindAll ts ds E
  | .tp _, _, _ => none
def bindAll : Tgs → List D → Env → Option Env
  | .nil, [], E => some E
  | .cons t ts, d :: ds, E => (bindC t d E).bind fun E1 => bindAll ts ds E1
  | _, _, _ => none
end
def clr (E : Env) : Env := E.map fun o => o.map fun p => (p.1, false)
def itLf : D → Bool
  | .lst xs => D.lfs xs
  | _ => false
def put (i : Nat) (d : D) (o : Bool) (E : Env) : Env :=
  if d.lf then E.set i (some (d, false)) else if o && itLf d then E.set i (some (d, true)) else (clr E).set i (some (d, false))
mutual
def putT : Tg → D → Bool → Env → Option Env
  | .nm i, d, o, E => some (put i d o E)
  | .tp ts, .tup ds, _, E => putAll ts ds E
  | .tp _, _, _, _ => none
def putAll : Tgs → List D → Env → Option Env
  | .nil, [], E => some E
  | .cons t ts, d :: ds, E => (putT t d false E).bind fun E1 => putAll ts ds E1
  | _, _, _ => none
end

/-- a range as a tuple, a list -/
def cvrEv (t : Bool) (S : Sto) : D → D → R (D × Bool × Sto)
  | .int i, .int j => if smallI i && smallI j && decide ((j - i).toNat ≤ line) then (if t then .ok (.tup (rngD i (j - i).toNat), false, S) else .ok (.lst (rngD i (j - i).toNat), true, S)) else .bad
  | _, _ => .bad
abbrev CF := Nat → List D → Sto → R (D × Bool × Sto)
/-- the turns of a comprehension -/
def lcGo (t : Tg) (own : List Nat) (fc : Env → Sto → R (Bool × Sto)) (fe : Env → Sto → R (D × Bool × Sto)) (E : Env) : List D → Sto → R (List D × Sto)
  | [], S => .ok ([], S)
  | x :: xs, S => match bindC t x (wipeE E own) with
    | none => .bad
    | some E1 => (fc E1 S).noex.bind fun p => if p.1 then (fe E1 p.2).noex.bind fun q => (lcGo t own fc fe E xs q.2.2).bind fun r => .ok (q.1 :: r.1, r.2) else lcGo t own fc fe E xs p.2
/-- a def that calls the lambda that it gets: what it gives behind the call (none: what the call gave), and for each class that it catches -/
structure Hdl where
  ok : Option D
  cs : List (Option D)
structure Gv where
  vals : List D
  hds : List Hdl
def lamEv (hs : List Hdl) (j : Nat) (r : R (D × Bool × Sto)) : R (D × Bool × Sto) := match hs[j]? with
  | none => .bad
  | some h => match r with
    | .ok p => match h.ok with
      | some d => .ok (d, false, p.2.2)
      | none => .ok p
    | .ex c S => match h.cs[c]? with
      | some (some d) => .ok (d, false, S)
      | _ => .bad
    | .bad => .bad
/-- and, or by truth -/
def shortB (k : Bool) (d : D) : Option Bool := d.tru.map fun b => b == k
mutual
def ev (cf : CF) (gl : Gv) : PX → Env → Sto → R (D × Bool × Sto)
  | .var i, E, S => match E[i]? with
    | some (some p) => .ok (p.1, false, S)
    | _ => .bad
  | .con d, _, S => .ok (d, false, S)
  | .glo j, _, S => match gl.vals[j]? with
    | some d => .ok (d, false, S)
    | none => .bad
  | .fnv j, _, S => .ok (.fn j, false, S)
  | .bin o a b, E, S => (ev cf gl a E S).bind fun x => (ev cf gl b E x.2.2).bind fun y => (R.of (binEv o x.1 y.1)).bind fun z => .ok (z.1, z.2, y.2.2)
  | .neg a, E, S => (ev cf gl a E S).bind fun x => match x.1 with
    | .int i => .ok (.int (-i), false, x.2.2)
    | _ => .bad
  | .cmp o a b, E, S => (ev cf gl a E S).bind fun x => (ev cf gl b E x.2.2).bind fun y => (R.of (cmpEv o x.1 y.1)).bind fun z => .ok (.bl z, false, y.2.2)
  | .chn o o' a b c, E, S => (ev cf gl a E S).bind fun x => (ev cf gl b E x.2.2).bind fun y => (R.of (cmpEv o x.1 y.1)).bind fun z =>
      if z then (ev cf gl c E y.2.2).bind fun u => (R.of (cmpEv o' y.1 u.1)).bind fun z' => .ok (.bl z', false, u.2.2) else .ok (.bl false, false, y.2.2)
  | .bop k xs, E, S => evB cf gl k xs E S
  | .not a, E, S => (ev cf gl a E S).bind fun x => (R.of x.1.tru).bind fun b => .ok (.bl (!b), false, x.2.2)
  | .ife t a b, E, S => (ev cf gl t E S).bind fun x => (R.of x.1.tru).bind fun c => if c then ev cf gl a E x.2.2 else ev cf gl b E x.2.2
  | .call j xs, E, S => (evs cf gl xs E S).bind fun p => cf j (p.1.map (·.1)) p.2
  | .calv i xs, E, S => match E[i]? with
    | some (some (.fn j, _)) => (evs cf gl xs E S).bind fun p => cf j (p.1.map (·.1)) p.2
    | _ => .bad
  | .bi b xs, E, S => (evs cf gl xs E S).bind fun p => (R.of (biEv b (p.1.map (·.1)))).bind fun z => .ok (z.1, z.2, p.2)
  | .isi a T, E, S => (ev cf gl a E S).bind fun x => (R.of (isTy T x.1)).bind fun z => .ok (.bl z, false, x.2.2)
  | .ix a b, E, S => (ev cf gl a E S).bind fun x => (ev cf gl b E x.2.2).bind fun y => (R.of (ixEv y.2.2 x.1 y.1)).bind fun z => .ok (z, false, y.2.2)
  | .sl a lo hi, E, S => (ev cf gl a E S).bind fun x => (evo cf gl lo E x.2.2).bind fun l => (evo cf gl hi E l.2).bind fun h => (R.of (slEv x.1 l.1 h.1)).bind fun z => .ok (z.1, z.2, h.2)
  | .rev a, E, S => (ev cf gl a E S).bind fun x => (R.of (revEv x.1)).bind fun z => .ok (z.1, z.2, x.2.2)
  | .tup xs, E, S => (evs cf gl xs E S).bind fun p => if p.1.length ≤ line then .ok (.tup (p.1.map (·.1)), false, p.2) else .bad
  | .lst xs, E, S => (evs cf gl xs E S).bind fun p => if p.1.length ≤ line then .ok (.lst (p.1.map (·.1)), true, p.2) else .bad
  | .lc own elt t it c, E, S => (evi cf gl it E S).bind fun p => if p.1.length ≤ line then
      (lcGo t own (fun E1 S1 => evC cf gl c E1 S1) (fun E1 S1 => ev cf gl elt E1 S1) E p.1 p.2.2).bind fun q => .ok (.lst q.1, true, q.2) else .bad
  | .lam j a, E, S => lamEv gl.hds j (ev cf gl a E S)
  | .cvr1 t a, E, S => (ev cf gl a E S).bind fun p => cvrEv t p.2.2 (.int 0) p.1
  | .cvr2 t a b, E, S => (ev cf gl a E S).bind fun p => (ev cf gl b E p.2.2).bind fun q => cvrEv t q.2.2 p.1 q.1
def evs (cf : CF) (gl : Gv) : PXs → Env → Sto → R (List (D × Bool) × Sto)
  | .nil, _, S => .ok ([], S)
  | .cons x xs, E, S => (ev cf gl x E S).bind fun p => (evs cf gl xs E p.2.2).bind fun q => .ok ((p.1, p.2.1) :: q.1, q.2)
/-- a and b .., a or b .. -/
def evB (cf : CF) (gl : Gv) (k : Bool) : PXs → Env → Sto → R (D × Bool × Sto)
  | .nil, _, _ => .bad
  | .cons x .nil, E, S => ev cf gl x E S
  | .cons x (.cons y ys), E, S => (ev cf gl x E S).bind fun p => (R.of p.1.tru).bind fun c => if c == k then evB cf gl k (.cons y ys) E p.2.2 else .ok (p.1, false, p.2.2)
/-- the tests of a clause -/
def evC (cf : CF) (gl : Gv) : PXs → Env → Sto → R (Bool × Sto)
  | .nil, _, S => .ok (true, S)
  | .cons x .nil, E, S => (ev cf gl x E S).bind fun p => (R.of p.1.tru).bind fun c => .ok (c, p.2.2)
  | .cons _ (.cons _ _), _, _ => .bad
def evo (cf : CF) (gl : Gv) : PXo → Env → Sto → R (Option Int × Sto)
  | .no, _, S => .ok (none, S)
  | .so x, E, S => (ev cf gl x E S).bind fun p => (R.of p.1.oInt).bind fun i => .ok (i, p.2.2)
def evi (cf : CF) (gl : Gv) : PIt → Env → Sto → R (List D × Bool × Sto)
  | .val x, E, S => (ev cf gl x E S).bind fun p => (R.of (itemsOf p.1)).bind fun ds => .ok (ds, (p.2.1 || !isLst p.1) && D.lfs ds, p.2.2)
  | .rng1 a, E, S => (ev cf gl a E S).bind fun p => match p.1 with
    | .int j => if smallI j then .ok (rngD 0 j.toNat, true, p.2.2) else .bad
    | _ => .bad
  | .rng2 a b, E, S => (ev cf gl a E S).bind fun p => (ev cf gl b E p.2.2).bind fun q => match p.1, q.1 with
    | .int i, .int j => if smallI i && smallI j then .ok (rngD i (j - i).toNat, true, q.2.2) else .bad
    | _, _ => .bad
  | .zip a b, E, S => (ev cf gl a E S).bind fun p => (ev cf gl b E p.2.2).bind fun q => if isLst p.1 == isLst q.1 then (R.of (seqOf p.1)).bind fun xs => (R.of (seqOf q.1)).bind fun ys => .ok (zipD xs ys, ((p.2.1 || !isLst p.1) && D.lfs xs) && ((q.2.1 || !isLst q.1) && D.lfs ys), q.2.2) else .bad
  | .enum a, E, S => (ev cf gl a E S).bind fun p => (R.of (seqOf p.1)).bind fun xs => .ok (enumD 0 xs, (p.2.1 || !isLst p.1) && D.lfs xs, p.2.2)
end

/-! ### statements -/
mutual
inductive QS where
  | asg (t : Tg) (e : PX) | par (is : List Nat) (es : PXs) | mv (i j : Nat) | mkh (i : Nat) (e : PX)
  | seti (i : Nat) (k e : PX) | app (i : Nat) (e : PX) | exp (e : PX)
  | ite (c : PX) (a b : QSs)
  | for_ (t : Tg) (it : PIt) (hide : Bool) (b : QSs) | whl (m : Nat) (c : PX) (b : QSs)
  | ret (e : PX) | retv (i : Nat) | retN | rai (c : Nat)
  | brk | cnt | pas
inductive QSs where
  | nil | cons (s : QS) (r : QSs)
end
inductive RS where
  | nx (E : Env) (S : Sto) | rt (d : D) (o : Bool) (S : Sto) | bk (E : Env) (S : Sto) | ct (E : Env) (S : Sto) | ex (c : Nat) (S : Sto) | bad
def R.st {α : Type} : R α → (α → RS) → RS
  | .ok a, f => f a
  | .ex c S, _ => .ex c S
  | .bad, _ => .bad
def RS.of {α : Type} : Option α → (α → RS) → RS
  | some a, f => f a
  | none, _ => .bad
def RS.then_ : RS → (Env → Sto → RS) → RS
  | .nx E S, f => f E S
  | r, _ => r
def parGood (p : D × Bool) : Bool := p.1.lf || (p.2 && itLf p.1)
def parSet (k : Bool) : List Nat → List (D × Bool) → Env → Option Env
  | [], [], E => some E
  | i :: is, p :: ps, E => parSet k is ps (E.set i (some (p.1, k && !p.1.lf)))
  | _, _, _ => none
def parAll (is : List Nat) (ps : List (D × Bool)) (E : Env) : Option Env := if ps.all parGood then parSet true is ps E else parSet false is ps (clr E)
/-- the name that is walked -/
def itVar : PIt → Option Nat
  | .val (.var i) => some i
  | .enum (.var i) => some i
  | _ => none
/-- a loop's start: a list of ours that is walked is out of sight, or given up -/
def loopE (E : Env) (it : PIt) (sf h : Bool) : Env :=
  if sf then E else match itVar it with
    | some i => match E[i]? with
      | some (some (_, true)) => if h then E.set i none else clr E
      | _ => E
    | none => clr E
/-- a loop's end: it is in sight again -/
def backE (E0 : Env) (it : PIt) (sf h : Bool) (E : Env) : Env :=
  if sf then E else match itVar it with
    | some i => match E0[i]? with
      | some (some (d, true)) => if h then E.set i (some (d, true)) else E
      | _ => E
    | none => E
def forGo (t : Tg) (fb : Env → Sto → RS) : List D → Env → Sto → RS
  | [], E, S => .nx E S
  | x :: xs, E, S => RS.of (putT t x false E) fun E1 => match fb E1 S with
    | .nx E2 S2 => forGo t fb xs E2 S2
    | .ct E2 S2 => forGo t fb xs E2 S2
    | .bk E2 S2 => .bk E2 S2
    | r => r
def whlGo (fc : Env → Sto → R (Bool × Sto)) (fb : Env → Sto → RS) : Nat → Env → Sto → RS
  | 0, _, _ => .bad
  | m + 1, E, S => (fc E S).st fun p => if p.1 then match fb E p.2 with
    | .nx E2 S2 => whlGo fc fb m E2 S2
    | .ct E2 S2 => whlGo fc fb m E2 S2
    | .bk E2 S2 => .nx E2 S2
    | r => r else .nx E p.2
def RS.mapE (f : Env → Env) : RS → RS
  | .nx E S => .nx (f E) S
  | .bk E S => .nx (f E) S
  | .ct _ _ => .bad
  | r => r
def setEv (i : Nat) : D → Bool → D → D → Env → Sto → RS
  | .lst ds, true, x, .int z, E, S => RS.of (ixN ds.length z) fun j => .nx (E.set i (some (.lst (ds.set j x), true))) S
  | .hd n, _, x, .int z, E, S => RS.of (S[n]?) fun ds => RS.of (ixN ds.length z) fun j => .nx E (S.set n (ds.set j x))
  | _, _, _, _, _, _ => .bad
/-- a list of its own -/
def ownL (E : Env) (i : Nat) : Option (List D) := match E[i]? with
  | some (some (.lst ds, true)) => some ds
  | _ => none
mutual
def exe (cf : CF) (gl : Gv) : QS → Env → Sto → RS
  | .asg t e, E, S => (ev cf gl e E S).st fun p => RS.of (putT t p.1 p.2.1 E) fun E' => .nx E' p.2.2
  | .par is es, E, S => (evs cf gl es E S).st fun p => RS.of (parAll is p.1 E) fun E' => .nx E' p.2
  | .mv i j, E, S => match E[j]? with
    | some (some (d, o)) => if o then .nx ((E.set j none).set i (some (d, true))) S else .nx (put i d false E) S
    | _ => .bad
  | .mkh i e, E, S => (ev cf gl e E S).st fun p => match p.1 with
    | .lst ds => if p.2.1 && D.lfs ds then .nx (E.set i (some (.hd p.2.2.length, false))) (p.2.2 ++ [ds]) else .bad
    | _ => .bad
  | .seti i k e, E, S => (ev cf gl e E S).st fun p => match E[i]? with
    | some (some u) => (ev cf gl k E p.2.2).st fun q => if p.1.lf then setEv i u.1 u.2 p.1 q.1 E q.2.2 else .bad
    | _ => .bad
  | .app i e, E, S => match ownL E i with
    | some ds => (ev cf gl e E S).st fun p => if p.1.lf && decide (ds.length < line) then .nx (E.set i (some (.lst (ds ++ [p.1]), true))) p.2.2 else .bad
    | none => .bad
  | .exp e, E, S => (ev cf gl e E S).st fun p => .nx E p.2.2
  | .ite c a b, E, S => (ev cf gl c E S).st fun p => RS.of p.1.tru fun z => if z then exes cf gl a E p.2.2 else exes cf gl b E p.2.2
  | .for_ t it h b, E, S => (evi cf gl it E S).st fun p => (forGo t (fun E1 S1 => exes cf gl b E1 S1) p.1 (loopE E it p.2.1 h) p.2.2).mapE fun E' => backE E it p.2.1 h E'
  | .whl m c b, E, S => whlGo (fun E1 S1 => (ev cf gl c E1 S1).bind fun p => (R.of p.1.tru).bind fun z => .ok (z, p.2.2)) (fun E1 S1 => exes cf gl b E1 S1) m E S
  | .ret e, E, S => (ev cf gl e E S).st fun p => .rt p.1 p.2.1 p.2.2
  | .retv i, E, S => match E[i]? with
    | some (some (d, o)) => .rt d o S
    | _ => .bad
  | .retN, _, S => .rt .non false S
  | .rai c, _, S => .ex c S
  | .brk, E, S => .bk E S
  | .cnt, E, S => .ct E S
  | .pas, E, S => .nx E S
def exes (cf : CF) (gl : Gv) : QSs → Env → Sto → RS
  | .nil, E, S => .nx E S
  | .cons s r, E, S => (exe cf gl s E S).then_ fun E' S' => exes cf gl r E' S'
end
structure Def where
  np : Nat
  ns : Nat
  body : QSs
structure Prog where
  defs : List Def
  gl : Gv
def RS.fin : RS → R (D × Bool × Sto)
  | .nx _ S => .ok (.non, false, S)
  | .rt d o S => .ok (d, o, S)
  | .ex c S => .ex c S
  | _ => .bad
def startE (n : Nat) (ds : List D) : Env := ds.map (fun d => some (d, false)) ++ List.replicate (n - ds.length) none
def callD (p : Prog) : Nat → CF
  | 0, _, _, _ => .bad
  | n + 1, j, ds, S => match p.defs[j]? with
    | some f => if ds.length = f.np ∧ f.np ≤ f.ns then (exes (callD p n) p.gl f.body (startE f.ns ds) S).fin else .bad
    | none => .bad
end Pz

set_option Elab.async false
set_option linter.all false
set_option autoImplicit false
set_option maxRecDepth 100000
/-! Pz, part B: how data lies in the heap. -/
namespace Pz
open PySem PySem.Spec PyProof.Rows L2

/-- what is fixed: the program's facts -/
structure Gx where
  P : Program
  w : World
  K : PySem.W.Frag
  mg : Str → Option Value
  fa : Nat → Addr
  T : List (Addr × Str)
  ca : Nat → Addr

/-- a list that is never written: locked -/
def LsF (K : PySem.W.Frag) (H : Hp) (a : Addr) (xs : List V) : Prop := ∃ o, H a = some (.frz o (.lst xs))

/-- the script: locked, or the module's own -/
def ScF (K : PySem.W.Frag) (H : Hp) (a : Addr) (xs : List V) : Prop := (∃ o, H a = some (.frz o (.lst xs))) ∨
    ∃ (o : Obj) (its : Array Value) (n : Nat), K.lookup a = some o ∧ o.cls = .type "list" ∧ o.dict = none ∧ o.data = .seq its n ∧ its.size ≤ sizeLine ∧ Vals xs its.toList
mutual
/-- v is the data d; its lists that may be written stand at addresses that A allows; ρ: where the handles stand -/
inductive Rp (g : Gx) (ρ : List Addr) (A : Addr → Prop) (H : Hp) : V → D → Prop
  | non : Rp g ρ A H .non .non
  | bl (b : Bool) : Rp g ρ A H (.bl b) (.bl b)
  | int (i : Int) : Rp g ρ A H (.int i) (.int i)
  | str (x : Str) : Rp g ρ A H (.str x) (.str x)
  | tup {a : Addr} {xs : List V} {ds : List D} : SqT g.K H a xs → RpL g ρ A H xs ds → ds.length ≤ line → Rp g ρ A H (.ref a) (.tup ds)
  | lst {a : Addr} {xs : List V} {ds : List D} : H a = some (.lst xs) → A a → RpL g ρ A H xs ds → ds.length ≤ line → Rp g ρ A H (.ref a) (.lst ds)
  | lsf {a : Addr} {xs : List V} {ds : List D} : LsF g.K H a xs → RpL g ρ A H xs ds → ds.length ≤ line → Rp g ρ A H (.ref a) (.lst ds)
  | hd {a : Addr} {n : Nat} : ρ[n]? = some a → Rp g ρ A H (.ref a) (.hd n)
  | fn (n : Nat) : Rp g ρ A H (.ref (g.fa n)) (.fn n)
  | scr {a : Addr} {ns : List Int} : ScF g.K H a (ns.map V.int) → ns.length ≤ line → Rp g ρ A H (.ref a) (.scr ns)
inductive RpL (g : Gx) (ρ : List Addr) (A : Addr → Prop) (H : Hp) : List V → List D → Prop
  | nil : RpL g ρ A H [] []
  | cons {v : V} {vs : List V} {d : D} {ds : List D} : Rp g ρ A H v d → RpL g ρ A H vs ds → RpL g ρ A H (v :: vs) (d :: ds)
end

/-- no data there -/
def nd (H : Hp) (a : Addr) : Prop := ∀ o, H a = some o → ∃ ps, o = .tbl ps
theorem nd.of {H : Hp} {a : Addr} (h : H a = none) : nd H a := fun o e => by rw [h] at e; cases e
theorem nd.nt {H : Hp} {a : Addr} {o : HO} (h : nd H a) (e : H a = some o) (t : ∀ ps, o ≠ .tbl ps) : False := by
  obtain ⟨ps, z⟩ := h o e
  exact t ps z
theorem nd.no {H : Hp} {a : Addr} {xs : List V} (e : H a = some (.lst xs)) : ¬ nd H a := fun h => h.nt e fun _ z => nomatch z
theorem nd.upd {H : Hp} {a p : Addr} {o : HO} (h : nd (upd H p o) a) (hp : nd H p) : nd H a := by
  by_cases z : a = p
  · rw [z]; exact hp
  · exact fun u hu => h u (by rw [upd_ne z]; exact hu)
/-- how the heap and the handles go on -/
structure Ext (H : Hp) (ρ : List Addr) (H' : Hp) (ρ' : List Addr) : Prop where
  keep : ∀ a o, H a = some o → a ∉ ρ → (∀ ps, o ≠ .tbl ps) → H' a = some o
  tup : ∀ a xs, H a = some (.tup xs) → H' a = some (.tup xs)
  frz : ∀ a o u, H a = some (.frz o u) → H' a = some (.frz o u)
  dom : ∀ a, nd H' a → nd H a
  pre : ρ <+: ρ'
  new : ∀ a, a ∈ ρ' → a ∉ ρ → nd H a
theorem Ext.refl (H : Hp) (ρ : List Addr) : Ext H ρ H ρ := ⟨fun _ _ h _ _ => h, fun _ _ h => h, fun _ _ _ h => h, fun _ h => h, List.prefix_refl _, fun _ h n => absurd h n⟩
theorem Ext.trans {H1 H2 H3 : Hp} {ρ1 ρ2 ρ3 : List Addr} (a : Ext H1 ρ1 H2 ρ2) (b : Ext H2 ρ2 H3 ρ3) : Ext H1 ρ1 H3 ρ3 where
  keep := fun c o h n t => by
    exact b.keep c o (a.keep c o h n t) (fun hc => (a.new c hc n).nt h t) t
  tup := fun c xs h => b.tup c xs (a.tup c xs h)
  frz := fun c o u h => b.frz c o u (a.frz c o u h)
  dom := fun c h => a.dom c (b.dom c h)
  pre := a.pre.trans b.pre
  new := fun c h n => by
    by_cases h2 : c ∈ ρ2
    · exact a.new c h2 n
    · exact a.dom c (b.new c h h2)
/-- a new thing is laid -/
theorem Ext.laid {H : Hp} {ρ : List Addr} {p : Addr} {o : HO} (h : H p = none) : Ext H ρ (upd H p o) ρ where
  keep := fun a u e _ _ => by rw [upd_ne (ne_of_none e h)]; exact e
  tup := fun a u e => by rw [upd_ne (ne_of_none e h)]; exact e
  frz := fun a u v e => by rw [upd_ne (ne_of_none e h)]; exact e
  dom := fun a e => e.upd (nd.of h)
  pre := List.prefix_refl _
  new := fun _ h n => absurd h n
theorem Ext.seqT {K : PySem.W.Frag} {H H' : Hp} {ρ ρ' : List Addr} {a : Addr} {xs : List V} (e : Ext H ρ H' ρ') (h : SqT K H a xs) : SqT K H' a xs := by
  rcases h with (h | ⟨o, h⟩) | h
  · exact .inl (.inl (e.tup _ _ h))
  · exact .inl (.inr ⟨o, e.frz _ _ _ h⟩)
  · exact .inr h
theorem Ext.lsF {K : PySem.W.Frag} {H H' : Hp} {ρ ρ' : List Addr} {a : Addr} {xs : List V} (e : Ext H ρ H' ρ') (h : LsF K H a xs) : LsF K H' a xs := by
  obtain ⟨o, h⟩ := h
  exact ⟨o, e.frz _ _ _ h⟩
theorem Ext.getp {H H' : Hp} {ρ ρ' : List Addr} (e : Ext H ρ H' ρ') {n : Nat} {a : Addr} (h : ρ[n]? = some a) : ρ'[n]? = some a := by
  obtain ⟨t, rfl⟩ := e.pre
  obtain ⟨hn, _⟩ := List.getElem?_eq_some_iff.mp h
  rw [List.getElem?_append_left hn]; exact h

section
variable {g : Gx} {ρ ρ' : List Addr} {A A' : Addr → Prop} {H H' : Hp}
mutual
/-- the data stays: lists that A allowed stay and are allowed -/
theorem Rp.go (hl : ∀ a xs, A a → H a = some (.lst xs) → H' a = some (.lst xs) ∧ A' a) (ht : ∀ a xs, SqT g.K H a xs → SqT g.K H' a xs) (hf : ∀ a o u, H a = some (.frz o u) → H' a = some (.frz o u)) (hp : ∀ (n : Nat) a, ρ[n]? = some a → ρ'[n]? = some a) :
    ∀ {v : V} {d : D}, Rp g ρ A H v d → Rp g ρ' A' H' v d
  | _, _, .non => .non
  | _, _, .bl b => .bl b
  | _, _, .int i => .int i
  | _, _, .str x => .str x
  | _, _, .tup h r l => .tup (ht _ _ h) (RpL.go hl ht hf hp r) l
  | _, _, .lst h a r l => .lst (hl _ _ a h).1 (hl _ _ a h).2 (RpL.go hl ht hf hp r) l
  | _, _, .lsf h r l => .lsf (let ⟨o, h⟩ := h; ⟨o, hf _ _ _ h⟩) (RpL.go hl ht hf hp r) l
  | _, _, .scr h l => .scr (h.imp (fun ⟨o, h⟩ => ⟨o, hf _ _ _ h⟩) id) l
  | _, _, .hd h => .hd (hp _ _ h)
  | _, _, .fn n => .fn n
theorem RpL.go (hl : ∀ a xs, A a → H a = some (.lst xs) → H' a = some (.lst xs) ∧ A' a) (ht : ∀ a xs, SqT g.K H a xs → SqT g.K H' a xs) (hf : ∀ a o u, H a = some (.frz o u) → H' a = some (.frz o u)) (hp : ∀ (n : Nat) a, ρ[n]? = some a → ρ'[n]? = some a) :
    ∀ {vs : List V} {ds : List D}, RpL g ρ A H vs ds → RpL g ρ' A' H' vs ds
  | _, _, .nil => .nil
  | _, _, .cons h r => .cons (Rp.go hl ht hf hp h) (RpL.go hl ht hf hp r)
end
mutual
/-- data without lists: only the tuples count -/
theorem Rp.golf (ht : ∀ a xs, SqT g.K H a xs → SqT g.K H' a xs) (hf : ∀ a o u, H a = some (.frz o u) → H' a = some (.frz o u)) (hp : ∀ (n : Nat) a, ρ[n]? = some a → ρ'[n]? = some a) : ∀ {v : V} {d : D}, d.lf = true → Rp g ρ A H v d → Rp g ρ' A' H' v d
  | _, _, _, .non => .non
  | _, _, _, .bl b => .bl b
  | _, _, _, .int i => .int i
  | _, _, _, .str x => .str x
  | _, _, e, .tup h r l => .tup (ht _ _ h) (RpL.golf ht hf hp e r) l
  | _, _, e, .lst h a r l => by simp [D.lf] at e
  | _, _, e, .lsf h r l => by simp [D.lf] at e
  | _, _, _, .scr h l => .scr (h.imp (fun ⟨o, h⟩ => ⟨o, hf _ _ _ h⟩) id) l
  | _, _, _, .hd h => .hd (hp _ _ h)
  | _, _, _, .fn n => .fn n
theorem RpL.golf (ht : ∀ a xs, SqT g.K H a xs → SqT g.K H' a xs) (hf : ∀ a o u, H a = some (.frz o u) → H' a = some (.frz o u)) (hp : ∀ (n : Nat) a, ρ[n]? = some a → ρ'[n]? = some a) : ∀ {vs : List V} {ds : List D}, D.lfs ds = true → RpL g ρ A H vs ds → RpL g ρ' A' H' vs ds
  | _, _, _, .nil => .nil
  | _, _, e, .cons h r => by
    simp only [D.lfs, Bool.and_eq_true] at e
    exact .cons (Rp.golf ht hf hp e.1 h) (RpL.golf ht hf hp e.2 r)
end
theorem RpL.length : ∀ {vs : List V} {ds : List D}, RpL g ρ A H vs ds → vs.length = ds.length
  | _, _, .nil => rfl
  | _, _, .cons _ r => by rw [List.length_cons, List.length_cons, RpL.length r]
theorem RpL.get : ∀ {vs : List V} {ds : List D} {i : Nat} {v : V}, RpL g ρ A H vs ds → vs[i]? = some v → ∃ d, ds[i]? = some d ∧ Rp g ρ A H v d
  | _, _, _, _, .nil, e => by simp at e
  | _, _, 0, _, .cons h _, e => by simp at e; subst e; exact ⟨_, rfl, h⟩
  | _, _, i + 1, _, .cons _ r, e => by
    obtain ⟨d, e1, h⟩ := RpL.get (i := i) r (by simpa using e)
    exact ⟨d, by simpa using e1, h⟩
theorem RpL.getD : ∀ {vs : List V} {ds : List D} {i : Nat} {d : D}, RpL g ρ A H vs ds → ds[i]? = some d → ∃ v, vs[i]? = some v ∧ Rp g ρ A H v d
  | _, _, _, _, .nil, e => by simp at e
  | _, _, 0, _, .cons h _, e => by simp at e; subst e; exact ⟨_, rfl, h⟩
  | _, _, i + 1, _, .cons _ r, e => by
    obtain ⟨v, e1, h⟩ := RpL.getD (i := i) r (by simpa using e)
    exact ⟨v, by simpa using e1, h⟩
theorem RpL.append : ∀ {vs ws : List V} {ds es : List D}, RpL g ρ A H vs ds → RpL g ρ A H ws es → RpL g ρ A H (vs ++ ws) (ds ++ es)
  | _, _, _, _, .nil, s => s
  | _, _, _, _, .cons h r, s => .cons h (RpL.append r s)
theorem RpL.take : ∀ (n : Nat) {vs : List V} {ds : List D}, RpL g ρ A H vs ds → RpL g ρ A H (vs.take n) (ds.take n)
  | 0, _, _, _ => .nil
  | _ + 1, _, _, .nil => .nil
  | n + 1, _, _, .cons h r => .cons h (RpL.take n r)
theorem RpL.drop : ∀ (n : Nat) {vs : List V} {ds : List D}, RpL g ρ A H vs ds → RpL g ρ A H (vs.drop n) (ds.drop n)
  | 0, _, _, r => r
  | _ + 1, _, _, .nil => .nil
  | n + 1, _, _, .cons _ r => RpL.drop n r
theorem RpL.reverse {vs : List V} {ds : List D} (h : RpL g ρ A H vs ds) : RpL g ρ A H vs.reverse ds.reverse := by
  induction vs generalizing ds with
  | nil => cases h; exact .nil
  | cons v vs ih =>
    cases h with
    | cons h r => rw [List.reverse_cons, List.reverse_cons]; exact (ih r).append (.cons h .nil)
theorem RpL.set : ∀ (j : Nat) {vs : List V} {ds : List D} {v : V} {d : D}, RpL g ρ A H vs ds → Rp g ρ A H v d → RpL g ρ A H (vs.set j v) (ds.set j d)
  | _, _, _, _, _, .nil, _ => .nil
  | 0, _, _, _, _, .cons _ r, s => .cons s r
  | j + 1, _, _, _, _, .cons h r, s => .cons h (RpL.set j r s)
theorem RpL.rep {vs : List V} {ds : List D} (h : RpL g ρ A H vs ds) : ∀ k : Nat, RpL g ρ A H (List.replicate k vs).flatten (List.replicate k ds).flatten
  | 0 => .nil
  | k + 1 => by
    rw [List.replicate_succ, List.replicate_succ, List.flatten_cons, List.flatten_cons]
    exact h.append (h.rep k)
theorem Rp.go' (e : Ext H ρ H' ρ') (hA : ∀ a, A a → ¬ nd H a → a ∉ ρ ∧ A' a) {v : V} {d : D} (h : Rp g ρ A H v d) : Rp g ρ' A' H' v d :=
  h.go (fun a xs ha hx => ⟨e.keep a _ hx (hA a ha (nd.no hx)).1 (fun _ z => by cases z), (hA a ha (nd.no hx)).2⟩) (fun _ _ z => e.seqT z) (fun _ _ _ z => e.frz _ _ _ z) fun _ _ z => e.getp z
theorem RpL.go' (e : Ext H ρ H' ρ') (hA : ∀ a, A a → ¬ nd H a → a ∉ ρ ∧ A' a) {v : List V} {d : List D} (h : RpL g ρ A H v d) : RpL g ρ' A' H' v d :=
  h.go (fun a xs ha hx => ⟨e.keep a _ hx (hA a ha (nd.no hx)).1 (fun _ z => by cases z), (hA a ha (nd.no hx)).2⟩) (fun _ _ z => e.seqT z) (fun _ _ _ z => e.frz _ _ _ z) fun _ _ z => e.getp z
theorem Rp.golf' (e : Ext H ρ H' ρ') {v : V} {d : D} (hd : d.lf = true) (h : Rp g ρ A H v d) : Rp g ρ' A' H' v d := h.golf (fun _ _ z => e.seqT z) (fun _ _ _ z => e.frz _ _ _ z) (fun _ _ z => e.getp z) hd
theorem RpL.golf' (e : Ext H ρ H' ρ') {v : List V} {d : List D} (hd : D.lfs d = true) (h : RpL g ρ A H v d) : RpL g ρ' A' H' v d := h.golf (fun _ _ z => e.seqT z) (fun _ _ _ z => e.frz _ _ _ z) (fun _ _ z => e.getp z) hd
end

/-- what expressions may reach: lists that are no handles and not forbidden -/
def Al (ρ : List Addr) (B : Addr → Prop) : Addr → Prop := fun a => a ∉ ρ ∧ ¬ B a
/-- the handles' lists -/
structure StoR (g : Gx) (H : Hp) (ρ : List Addr) (S : Sto) : Prop where
  len : ρ.length = S.length
  nd : ρ.Nodup
  tab : LamX.Tabs g.T H
  at_ : ∀ (n : Nat) (a : Addr), ρ[n]? = some a → ∃ xs ds, H a = some (.lst xs) ∧ S[n]? = some ds ∧ RpL g ρ (fun _ => False) H xs ds ∧ D.lfs ds = true ∧ ds.length ≤ line
/-- B is forbidden, and stands -/
def Bok (B : Addr → Prop) (H : Hp) : Prop := ∀ a, B a → ¬ nd H a
section
variable {g : Gx} {ρ ρ' : List Addr} {B : Addr → Prop} {H H' : Hp}
theorem Bok.go (h : Bok B H) (e : Ext H ρ H' ρ') : Bok B H' := fun a b z => h a b (e.dom a z)
theorem Rp.ext (e : Ext H ρ H' ρ') {v : V} {d : D} (h : Rp g ρ (Al ρ B) H v d) : Rp g ρ' (Al ρ' B) H' v d :=
  h.go' e fun a ha hn => ⟨ha.1, fun z => hn (e.new a z ha.1), ha.2⟩
theorem RpL.ext (e : Ext H ρ H' ρ') {v : List V} {d : List D} (h : RpL g ρ (Al ρ B) H v d) : RpL g ρ' (Al ρ' B) H' v d :=
  h.go' e fun a ha hn => ⟨ha.1, fun z => hn (e.new a z ha.1), ha.2⟩
/-- the slots' values -/
structure EnvE (g : Gx) (ρ : List Addr) (B : Addr → Prop) (H : Hp) (σ : L2.St) (E : Env) : Prop where
  len : E.length ≤ σ.length
  at_ : ∀ (i : Nat) (d : D) (o : Bool), E[i]? = some (some (d, o)) → ∃ v, σ[i]? = some (some v) ∧ Rp g ρ (Al ρ B) H v d
theorem EnvE.ext (e : Ext H ρ H' ρ') {σ : L2.St} {E : Env} (h : EnvE g ρ B H σ E) : EnvE g ρ' B H' σ E := ⟨h.len, fun i d o hi =>
  let ⟨v, h1, h2⟩ := h.at_ i d o hi
  ⟨v, h1, h2.ext e⟩⟩
/-- a new list -/
def Fresh (H H' : Hp) (ρ' : List Addr) (v : V) : Prop := ∃ a xs, v = .ref a ∧ nd H a ∧ H' a = some (.lst xs) ∧ a ∉ ρ'
/-- the start of an expression -/
structure St0 (g : Gx) (B : Addr → Prop) (σ : L2.St) (H : Hp) (E : Env) (S : Sto) (ρ : List Addr) : Prop where
  env : EnvE g ρ B H σ E
  sto : StoR g H ρ S
  bok : Bok B H
theorem St0.go {σ : L2.St} {E : Env} {S S' : Sto} (h : St0 g B σ H E S ρ) (e : Ext H ρ H' ρ') (s : StoR g H' ρ' S') : St0 g B σ H' E S' ρ' := ⟨h.env.ext e, s, h.bok.go e⟩
end
/-- the data behind an expression -/
structure Got (g : Gx) (B : Addr → Prop) (H : Hp) (ρ : List Addr) (v : V) (d : D) (o : Bool) (H' : Hp) (ρ' : List Addr) (S' : Sto) : Prop where
  ext : Ext H ρ H' ρ'
  sto : StoR g H' ρ' S'
  rep : Rp g ρ' (Al ρ' B) H' v d
  own : o = true → Fresh H H' ρ' v
structure GotL (g : Gx) (B : Addr → Prop) (H : Hp) (ρ : List Addr) (v : List V) (d : List D) (H' : Hp) (ρ' : List Addr) (S' : Sto) : Prop where
  ext : Ext H ρ H' ρ'
  sto : StoR g H' ρ' S'
  rep : RpL g ρ' (Al ρ' B) H' v d
/-- an exception of the c-th class leaves -/
def WOut (g : Gx) (W : WX) (σ : L2.St) (H : Hp) (ρ : List Addr) (c : Nat) (S : Sto) : Prop := ∀ H' ρ', Ext H ρ H' ρ' → StoR g H' ρ' S → W (.ref (g.ca c)) none σ H'
abbrev FE (α : Type) := Env → Sto → R α
/-- what is known behind a piece -/
def post {α : Type} (g : Gx) (W : WX) (σ : L2.St) (H : Hp) (ρ : List Addr) : R α → (α → Prop) → Prop
  | .ok a, P => P a
  | .ex c S, _ => WOut g W σ H ρ c S
  | .bad, _ => False
theorem WOut.go {g : Gx} {W : WX} {σ : L2.St} {H H' : Hp} {ρ ρ' : List Addr} {c : Nat} {S : Sto} (h : WOut g W σ H ρ c S) (e : Ext H ρ H' ρ') : WOut g W σ H' ρ' c S := fun H2 ρ2 e2 s => h H2 ρ2 (e.trans e2) s
theorem post_bind {α β : Type} {g : Gx} {W : WX} {σ : L2.St} {H : Hp} {ρ : List Addr} {r : R α} {k : α → R β} {P : β → Prop} (h : post g W σ H ρ (r.bind k) P) : post g W σ H ρ r fun a => post g W σ H ρ (k a) P := by
  cases r with
  | ok a => exact h
  | ex c S => exact h
  | bad => exact h
theorem post.imp {α : Type} {g : Gx} {W : WX} {σ : L2.St} {H : Hp} {ρ : List Addr} {r : R α} {P P' : α → Prop} (h : post g W σ H ρ r P) (i : ∀ a, r = .ok a → P a → P' a) : post g W σ H ρ r P' := by
  cases r with
  | ok a => exact i a rfl h
  | ex c S => exact h
  | bad => exact h
theorem post.go {α : Type} {g : Gx} {W : WX} {σ : L2.St} {H H' : Hp} {ρ ρ' : List Addr} {r : R α} {P P' : α → Prop} (h : post g W σ H ρ r P) (e : Ext H ρ H' ρ') (i : ∀ a, P a → P' a) : post g W σ H' ρ' r P' := by
  cases r with
  | ok a => exact i a h
  | ex c S => exact WOut.go h e
  | bad => exact h
theorem post_of {α : Type} {g : Gx} {W : WX} {σ : L2.St} {H : Hp} {ρ : List Addr} {o : Option α} {P : α → Prop} (h : post g W σ H ρ (R.of o) P) : ∃ a, o = some a ∧ P a := by
  cases o with
  | none => exact h.elim
  | some a => exact ⟨a, rfl, h⟩
/-- the reading of an expression that is told as f -/
def tE (g : Gx) (W : WX) (f : FE (D × Bool × Sto)) : TE := fun σ H Q => ∃ B E S ρ, St0 g B σ H E S ρ ∧
  post g W σ H ρ (f E S) fun p => ∀ v H' ρ', Got g B H ρ v p.1 p.2.1 H' ρ' p.2.2 → Q v H'
/-- a test -/
def tT (g : Gx) (W : WX) (f : FE (Bool × Sto)) : TT := fun σ H Q => ∃ B E S ρ, St0 g B σ H E S ρ ∧
  post g W σ H ρ (f E S) fun p => ∀ H' ρ', Ext H ρ H' ρ' → StoR g H' ρ' p.2 → Q p.1 H'
/-- new lists among values, all apart -/
def FreshL (H H' : Hp) (ρ' : List Addr) (ps : List (D × Bool)) (vs : List V) : Prop := ∀ (i : Nat) (d : D), ps[i]? = some (d, true) → ∃ v, vs[i]? = some v ∧ Fresh H H' ρ' v ∧ ∀ (j : Nat), j ≠ i → ∀ (d' : D), ps[j]? = some (d', true) → vs[j]? ≠ some v
def tA (g : Gx) (W : WX) (f : FE (List (D × Bool) × Sto)) : TA := fun σ H Q => ∃ B E S ρ, St0 g B σ H E S ρ ∧
  post g W σ H ρ (f E S) fun p => ∀ vs H' ρ', GotL g B H ρ vs (p.1.map (·.1)) H' ρ' p.2 → FreshL H H' ρ' p.1 vs → Q vs H'
theorem PE.imp {X : Cx} {e : Expr} {t t' : TE} (h : PE X e t) (i : ∀ σ H Q, t' σ H Q → t σ H Q) : PE X e t' := ⟨fun pins s σ H Q I hw => h.run pins s σ H Q I (i σ H Q hw)⟩
theorem PT.imp {X : Cx} {e : Expr} {t t' : TT} (h : PT X e t) (i : ∀ σ H Q, t' σ H Q → t σ H Q) : PT X e t' := ⟨fun pins s σ H Q I hw => h.run pins s σ H Q I (i σ H Q hw)⟩
theorem PA.imp {X : Cx} {e : List Expr} {t t' : TA} (h : PA X e t) (i : ∀ σ H Q, t' σ H Q → t σ H Q) : PA X e t' := ⟨fun pos pins s σ H Q I hw => h.run pos pins s σ H Q I (i σ H Q hw)⟩
theorem QSs.imp' {X : Cx} {e : List Stmt} {t t' : TS} (h : L2.PSs X e t) (i : ∀ D σ H, t' D σ H → t D σ H) : L2.PSs X e t' := ⟨fun pins s σ H Q I hw => h.run pins s σ H Q I (i Q σ H hw)⟩
theorem QS.imp' {X : Cx} {e : Stmt} {t t' : TS} (h : L2.PS X e t) (i : ∀ D σ H, t' D σ H → t D σ H) : L2.PS X e t' := ⟨fun pins s σ H Q I hw => h.run pins s σ H Q I (i Q σ H hw)⟩
end Pz

set_option Elab.async false
set_option linter.all false
set_option autoImplicit false
set_option maxRecDepth 100000
set_option maxHeartbeats 1000000
/-! Pz, part C: operators, by values. -/
namespace Pz
open PySem PySem.Spec PyProof.Rows L2

theorem line_eq : line = sizeLine := by rw [sizeLine_eq]; rfl
mutual
def D.py : D → PyData
  | .non => .none
  | .bl b => .bool b
  | .int i => .int i
  | .str s => .str s
  | .tup xs => .tuple (D.pys xs)
  | .lst xs => .list (D.pys xs)
  | .hd _ => .none
  | .fn _ => .none
  | .scr _ => .none
def D.pys : List D → List PyData
  | [] => []
  | x :: xs => D.py x :: D.pys xs
end
mutual
theorem eq_eqv : ∀ (n m : Nat) (x y : D), x.dp n = true → y.dp m = true → D.eq x y = PyData.eqv x.py y.py
  | n, m, x, y, hx, hy => by
    cases x <;> cases y <;> cases n <;> cases m <;> first
      | (simp [D.dp] at hx hy; done)
      | (simp [D.eq, D.py, PyData.eqv]; done)
      | (simp [D.dp] at hx; done)
      | (simp [D.dp] at hy; done)
      | skip
    all_goals simp only [D.eq, D.py, PyData.eqv]
    all_goals first
      | exact eqs_eqv _ _ _ _ (by simpa [D.dp] using hx) (by simpa [D.dp] using hy)
      | rfl
      | (rw [Bool.beq_eq_decide_eq])
theorem eqs_eqv : ∀ (n m : Nat) (x y : List D), D.dps n x = true → D.dps m y = true → D.eqs x y = PyData.eqvAll (D.pys x) (D.pys y)
  | _, _, [], [], _, _ => by simp [D.eqs, D.pys, PyData.eqvAll]
  | _, _, [], _ :: _, _, _ => by simp [D.eqs, D.pys, PyData.eqvAll]
  | _, _, _ :: _, [], _, _ => by simp [D.eqs, D.pys, PyData.eqvAll]
  | n, m, x :: xs, y :: ys, hx, hy => by
    simp only [D.dps, Bool.and_eq_true] at hx hy
    simp only [D.eqs, D.pys, PyData.eqvAll]
    rw [eq_eqv n m x y hx.1 hy.1, eqs_eqv n m xs ys hx.2 hy.2]
end
mutual
theorem dp_lay : ∀ (n : Nat) (x : D), x.dp n = true → x.py.canLay0 = true ∧ x.py.depth ≤ n
  | n, x, hx => by
    cases x <;> cases n <;> first
      | (simp [D.dp] at hx; done)
      | (simp [D.py, PyData.canLay0, PyData.depth]; done)
      | skip
    all_goals first
      | (simp only [D.dp] at hx; simp [D.py, PyData.canLay0, PyData.depth, hx]; done)
      | (have h := dps_lay _ _ (by simpa [D.dp] using hx)
         simp only [D.py, PyData.canLay0, PyData.depth]
         exact ⟨h.1, by omega⟩)
theorem dps_lay : ∀ (n : Nat) (x : List D), D.dps n x = true → PyData.canLayAll0 (D.pys x) = true ∧ PyData.depthAll (D.pys x) ≤ n
  | _, [], _ => by simp [D.pys, PyData.canLayAll0, PyData.depthAll]
  | n, x :: xs, h => by
    simp only [D.dps, Bool.and_eq_true] at h
    have h1 := dp_lay n x h.1
    have h2 := dps_lay n xs h.2
    simp only [D.pys, PyData.canLayAll0, PyData.depthAll, Bool.and_eq_true]
    exact ⟨⟨h1.1, h2.1⟩, by omega⟩
end
theorem dp_shaped {x : D} (h : x.dp dpth = true) : SeqAt.shaped x.py = true := by
  have q := dp_lay _ _ h
  show (x.py.canLay0 && decide (x.py.depth ≤ 64)) = true
  rw [Bool.and_eq_true]
  exact ⟨q.1, decide_eq_true (Nat.le_trans q.2 (by decide))⟩
section
variable {g : Gx} {ρ : List Addr} {A : Addr → Prop} {H : Hp}
mutual
theorem Rp.dpd : ∀ {v : V} {d : D} (n : Nat), d.dp n = true → Rp g ρ A H v d → Dp g.K H v d.py
  | _, _, _, _, .non => by rw [D.py]; exact .non
  | _, _, _, _, .bl b => by rw [D.py]; exact .bl b
  | _, _, _, _, .int i => by rw [D.py]; exact .int i
  | _, _, _, _, .str x => by rw [D.py]; exact .str x
  | _, _, 0, e, .tup _ _ _ => by simp [D.dp] at e
  | _, _, n + 1, e, .tup h r _ => by rw [D.py]; exact .tup h (RpL.dpd n (by simpa [D.dp] using e) r)
  | _, _, 0, e, .lst _ _ _ _ => by simp [D.dp] at e
  | _, _, n + 1, e, .lst h _ r _ => by rw [D.py]; exact .lst (SqL.of h) (RpL.dpd n (by simpa [D.dp] using e) r)
  | _, _, 0, e, .lsf _ _ _ => by simp [D.dp] at e
  | _, _, n + 1, e, .lsf ⟨o, h⟩ r _ => by rw [D.py]; exact .lst (.inl (.inr ⟨o, h⟩)) (RpL.dpd n (by simpa [D.dp] using e) r)
  | _, _, _, e, .hd _ => by simp [D.dp] at e
  | _, _, _, e, .fn _ => by simp [D.dp] at e
  | _, _, _, e, .scr _ _ => by simp [D.dp] at e
theorem RpL.dpd : ∀ {vs : List V} {ds : List D} (n : Nat), D.dps n ds = true → RpL g ρ A H vs ds → DpAll g.K H vs (D.pys ds)
  | _, _, _, _, .nil => by rw [D.pys]; exact .nil
  | _, _, n, e, .cons h r => by
    simp only [D.dps, Bool.and_eq_true] at e
    rw [D.pys]
    exact .cons (Rp.dpd n e.1 h) (RpL.dpd n e.2 r)
end
theorem RpL.ints : ∀ {vs : List V} {ds : List D} {ns : List Int}, D.ints ds = some ns → RpL g ρ A H vs ds → vs = ns.map V.int
  | _, _, ns, e, .nil => by simp [D.ints] at e; subst e; rfl
  | _, _, ns, e, .cons h r => by
    cases h <;> simp only [D.ints, Option.map_eq_some_iff, reduceCtorEq] at e
    obtain ⟨ms, e1, rfl⟩ := e
    rw [RpL.ints e1 r]; rfl
theorem RpL.bls : ∀ {vs : List V} {ds : List D} {ns : List Bool}, D.bls ds = some ns → RpL g ρ A H vs ds → vs = ns.map V.bl
  | _, _, ns, e, .nil => by simp [D.bls] at e; subst e; rfl
  | _, _, ns, e, .cons h r => by
    cases h <;> simp only [D.bls, Option.map_eq_some_iff, reduceCtorEq] at e
    obtain ⟨ms, e1, rfl⟩ := e
    rw [RpL.bls e1 r]; rfl
/-- a list that is read -/
theorem Rp.rd {v : V} {ds : List D} (h : Rp g ρ A H v (.lst ds)) : ∃ a xs, v = .ref a ∧ Rd H a (.lst xs) ∧ RpL g ρ A H xs ds ∧ ds.length ≤ line := by
  cases h with
  | lst e _ r l => exact ⟨_, _, rfl, .inl e, r, l⟩
  | lsf e r l => exact ⟨_, _, rfl, .inr e, r, l⟩
theorem Rp.td {v : V} {ds : List D} (h : Rp g ρ A H v (.tup ds)) : ∃ a xs, v = .ref a ∧ SqT g.K H a xs ∧ RpL g ρ A H xs ds ∧ ds.length ≤ line := by
  cases h with
  | tup e r l => exact ⟨_, _, rfl, e, r, l⟩
end
theorem memB_any : ∀ (n m : Nat) (x : D) (ys : List D), x.dp n = true → D.dps m ys = true → memB x ys = (D.pys ys).any (fun y => PyData.eqv y x.py)
  | _, _, _, [], _, _ => by simp [memB, D.pys]
  | n, m, x, y :: ys, hx, hy => by
    simp only [D.dps, Bool.and_eq_true] at hy
    simp only [memB, D.pys, List.any_cons]
    rw [eq_eqv m n y x hy.1 hx, memB_any n m x ys hx hy.2]

/-- an operator of two values, by the data -/
def r2 (g : Gx) (f : D → D → Option (D × Bool)) : R2 := fun x y H Q => ∃ B ρ S d e z, StoR g H ρ S ∧ Rp g ρ (Al ρ B) H x d ∧ Rp g ρ (Al ρ B) H y e ∧ Bok B H ∧ f d e = some z ∧ ∀ v H', Got g B H ρ v z.1 z.2 H' ρ S → Q v H'
section
variable {X : Cx} {g : Gx} {B : Addr → Prop} {ρ : List Addr} {H : Hp} {S : Sto}
theorem Got.same {v : V} {d : D} (s : StoR g H ρ S) (h : Rp g ρ (Al ρ B) H v d) : Got g B H ρ v d false H ρ S := ⟨Ext.refl _ _, s, h, fun z => nomatch z⟩
theorem StoR.go {H' : Hp} {ρ' : List Addr} (s : StoR g H ρ S) (e : Ext H ρ H' ρ') (h : ρ' = ρ) (k : ∀ a, a ∈ ρ → H' a = H a) (t : LamX.Tabs g.T H') : StoR g H' ρ' S := by
  subst h
  refine ⟨s.len, s.nd, t, fun n a hn => ?_⟩
  obtain ⟨xs, ds, h1, h2, h3, h4, h5⟩ := s.at_ n a hn
  exact ⟨xs, ds, (k a (List.mem_of_getElem? hn)).trans h1, h2, h3.golf' e h4, h4, h5⟩
theorem StoR.some {a : Addr} (s : StoR g H ρ S) (h : a ∈ ρ) : ¬ Pz.nd H a := by
  obtain ⟨n, hn, e⟩ := List.mem_iff_getElem.mp h
  obtain ⟨xs, ds, h1, _⟩ := s.at_ n a (by rw [List.getElem?_eq_getElem hn, e])
  exact Pz.nd.no h1
theorem tabs_wr {T : List (Addr × Str)} {a : Addr} {xs ys : List V} (t : LamX.Tabs T H) (h : H a = Option.some (.lst xs)) : LamX.Tabs T (upd H a (.lst ys)) := fun p hp => by
  obtain ⟨ps, h1, h2, h3⟩ := t p hp
  refine ⟨ps, ?_, h2, fun pos cv e => ?_⟩
  · rw [upd_ne (fun z => by rw [z, h] at h1; cases h1)]; exact h1
  · obtain ⟨c, e1, e2⟩ := h3 pos cv e
    refine ⟨c, e1, ?_⟩
    rw [upd_ne (fun z => by rw [z, h] at e2; cases e2)]; exact e2
theorem StoR.laid {p : Addr} {o : HO} (s : StoR g H ρ S) (h : H p = none) : StoR g (upd H p o) ρ S :=
  s.go (Ext.laid h) rfl (fun a ha => upd_ne fun z => s.some ha (by rw [z]; exact Pz.nd.of h)) (s.tab.ext fun b o e => by rw [upd_ne (ne_of_none e h)]; exact e)
/-- a new tuple, a new list -/
theorem Got.tup {xs : List V} {ds : List D} (s : StoR g H ρ S) (r : RpL g ρ (Al ρ B) H xs ds) (l : ds.length ≤ line) {p : Addr} (h : H p = none) : Got g B H ρ (.ref p) (.tup ds) false (upd H p (.tup xs)) ρ S :=
  ⟨Ext.laid h, s.laid h, .tup (SqT.of upd_same) (r.ext (Ext.laid h)) l, fun z => nomatch z⟩
theorem Got.lst {xs : List V} {ds : List D} (b : Bok B H) (s : StoR g H ρ S) (r : RpL g ρ (Al ρ B) H xs ds) (l : ds.length ≤ line) {p : Addr} (h : H p = none) : Got g B H ρ (.ref p) (.lst ds) true (upd H p (.lst xs)) ρ S :=
  ⟨Ext.laid h, s.laid h, .lst upd_same ⟨fun z => s.some z (nd.of h), fun z => b p z (nd.of h)⟩ (r.ext (Ext.laid h)) l, fun _ => ⟨p, xs, rfl, nd.of h, upd_same, fun z => s.some z (nd.of h)⟩⟩
theorem Inv.lstR {pins : List (Addr × Obj)} {σ : L2.St} {s : Shared} {l : Addr} {xs : List V} (I : Inv X pins σ H s) (h : Rd H l (.lst xs)) : xs.length ≤ sizeLine ∧ ∃ (its : List Value) (n : Nat), Vals xs its ∧ xs.length = its.length ∧ s.heap.get? l = some { cls := .type "list", data := .seq its.toArray n } := by
  obtain ⟨z, its, n, r, e⟩ := h.ok I.hok
  exact ⟨z, its, n, r, r.length, e⟩
def rCatR : R2 := fun x y H Q => ∃ l b xs zs, x = .ref l ∧ y = .ref b ∧ Rd H l (.lst xs) ∧ Rd H b (.lst zs) ∧ xs.length + zs.length ≤ sizeLine ∧ ∀ p, H p = none → Q (.ref p) (upd H p (.lst (xs ++ zs)))
theorem op_catR : OpR X (binaryOp .Add) rCatR := by
  intro pins s σ H x y v u Q I rx ry h
  obtain ⟨l, b, xs, zs, rfl, rfl, hH, hB, hz, q⟩ := h
  cases rx
  cases ry
  obtain ⟨z, its, n, r, hl, e⟩ := Pz.Inv.lstR I hH
  obtain ⟨z2, its2, n2, r2, hl2, e2⟩ := Pz.Inv.lstR I hB
  refine PySem.P.add_list e e2 ?_ (by rw [List.size_toArray, List.size_toArray]; omega)
  have ea : its.toArray ++ its2.toArray = (its ++ its2).toArray := by simp
  rw [ea]
  exact ⟨.ref _, _, I.lnew (t' := s.toks) (r.append r2) (by rw [List.length_append]; omega), rfl, q _ I.fresh⟩
def rRepR : R2 := fun x y H Q => ∃ l k xs, x = .ref l ∧ y = .int k ∧ Rd H l (.lst xs) ∧ -(2 ^ 63) ≤ k ∧ k < 2 ^ 63 ∧ xs.length * k.toNat ≤ sizeLine ∧
  ∀ p, H p = none → Q (.ref p) (upd H p (.lst (List.replicate k.toNat xs).flatten))
theorem op_repR : OpR X (binaryOp .Mult) rRepR := by
  intro pins s σ H x y v u Q I rx ry h
  obtain ⟨l, k, xs, rfl, rfl, hH, h1, h2, hz, q⟩ := h
  cases rx
  obtain ⟨t, rfl⟩ := ry
  obtain ⟨z, its, n, r, hl, e⟩ := Pz.Inv.lstR I hH
  have hlen : its.toArray.size * k.toNat ≤ sizeLine := by rw [List.size_toArray, ← hl]; exact hz
  have hcap : ¬ its.toArray.size * k.toNat > (2 ^ 63 - 1) / 8 := by
    have : (sizeLine : Nat) ≤ (2 ^ 63 - 1) / 8 := by decide
    omega
  have hfit : ¬ (!Builtin.List.listFitsIndex k) = true := by
    rw [fitsIndex_both h1 h2]
    exact Bool.false_ne_true
  have hlong : ¬ Builtin.List.listTooLong (its.toArray.size * k.toNat) = true := by
    rw [notLongL hlen]
    exact Bool.false_ne_true
  have hnew : List.foldl (fun x1 x2 => x1 ++ x2) #[] (List.replicate (if its.toArray.isEmpty = true then 0 else k.toNat) its.toArray) = (List.replicate k.toNat its).flatten.toArray := by
    have f0 : ∀ m : Nat, List.foldl (fun x1 x2 => x1 ++ x2) #[] (List.replicate m its.toArray) = (List.replicate m its).flatten.toArray := fun m => by
      have := foldl_rep its m []
      rw [List.nil_append] at this
      exact this
    rw [f0]
    cases its with
    | nil => simp
    | cons a r' => rw [if_neg (by simp)]
  refine wpAny_binaryOp_repeat_ref (T := "list") (U := "int") (by decide) ⟨_, e, rfl⟩ (fun s' => typeIs_int s' k t) noFill_list_mul F.fills_int_mul F.slot_int_rmul repeat_list F.slot_int_index.lookup
    (call_meets F.slot_int_rmul (typeIs_int s k t) F.entry_int_rmul (F.args_int_rmul_2 _ _) (int___rmul___int_list k t l its.toArray n)
      ⟨e, rfl, ⟨_, e, rfl⟩, call_meets F.slot_list_mul ⟨_, e, rfl⟩ F.entry_list_mul (F.args_list_mul_2 _ _) (AutoListH.list___mul___list_int_3 l its.toArray n k t hfit hcap hlong) ⟨e, ?_⟩⟩)
  rw [hnew]
  exact ⟨.ref _, _, I.lnew (t' := s.toks) (r.rep k.toNat) (by rw [PyProof.Rows.lm_len_rep_flat, Nat.mul_comm]; exact hz), rfl, q _ I.fresh⟩

def opB : BOp → Operator
  | .add => .Add | .sub => .Sub | .mul => .Mult | .fdiv => .FloorDiv | .mod => .Mod | .pow => .Pow
theorem op_bin (hK : X.K = g.K) (o : BOp) : OpR X (binaryOp (opB o)) (r2 g (binEv o)) := by
  intro pins s σ H x y v u Q I rx ry h
  obtain ⟨B, ρ, S, d, e, z, sS, hd, he, hB, hz, k⟩ := h
  unfold binEv at hz
  split at hz
  · -- int + int
    cases hd; cases he; cases hz
    exact op_add pins s σ H _ _ v u Q I rx ry ⟨_, _, rfl, rfl, k _ _ (.same sS (.int _))⟩
  · cases hd; cases he
    split at hz
    · cases hz
      rename_i hl
      exact op_add_str pins s σ H _ _ v u Q I rx ry ⟨_, _, rfl, rfl, by rw [← line_eq]; exact hl, k _ _ (.same sS (.str _))⟩
    · cases hz
  · split at hz
    · cases hz
      rename_i hl
      obtain ⟨a, xs, rfl, ha, ra, la⟩ := hd.td
      obtain ⟨b, ys, rfl, hb, rb, lb⟩ := he.td
      have e1 := ra.length
      have e2 := rb.length
      refine op_catA pins s σ H _ _ v u Q I rx ry ⟨a, b, xs, ys, rfl, rfl, by rw [hK]; exact ha, by rw [hK]; exact hb, by rw [← line_eq, e1, e2]; exact hl, fun z => ?_, fun z1 z2 => ?_, fun _ _ p hp => ?_⟩
      · subst z
        have := List.eq_nil_of_length_eq_zero (e1.symm.trans rfl)
        subst this
        exact k _ _ (.same sS he)
      · subst z2
        have := List.eq_nil_of_length_eq_zero (e2.symm.trans rfl)
        subst this
        refine k _ _ (.same sS ?_)
        rw [List.append_nil]; exact hd
      · exact k _ _ (.tup sS (ra.append rb) (by rw [List.length_append]; exact hl) hp)
    · cases hz
  · split at hz
    · cases hz
      rename_i hl
      obtain ⟨a, xs, rfl, ha, ra, la⟩ := hd.rd
      obtain ⟨b, ys, rfl, hb, rb, lb⟩ := he.rd
      exact op_catR pins s σ H _ _ v u Q I rx ry ⟨a, b, xs, ys, rfl, rfl, ha, hb, by rw [← line_eq, ra.length, rb.length]; exact hl, fun p hp => k _ _ (.lst hB sS (ra.append rb) (by rw [List.length_append]; exact hl) hp)⟩
    · cases hz
  · cases hd; cases he; cases hz
    exact op_sub pins s σ H _ _ v u Q I rx ry ⟨_, _, rfl, rfl, k _ _ (.same sS (.int _))⟩
  · cases hd; cases he
    split at hz
    · cases hz
      rename_i hl
      refine op_mul pins s σ H _ _ v u Q I rx ry ⟨_, _, rfl, rfl, ?_, k _ _ (.same sS (.int _))⟩
      simpa [CMulB, CMul] using hl
    · cases hz
  · split at hz
    · cases hz
      rename_i hl
      obtain ⟨a, xs, rfl, ha, ra, la⟩ := hd.rd
      cases he
      exact op_repR pins s σ H _ _ v u Q I rx ry ⟨a, _, xs, rfl, rfl, ha, hl.1, hl.2.1, by rw [← line_eq, ra.length]; exact hl.2.2, fun p hp => k _ _ (.lst hB sS (ra.rep _) (by rw [PyProof.Rows.lm_len_rep_flat, Nat.mul_comm]; exact hl.2.2) hp)⟩
    · cases hz
  · split at hz
    · cases hz
      rename_i hl
      obtain ⟨a, xs, rfl, ha, ra, la⟩ := hd.td
      cases he
      have e1 := ra.length
      refine op_repT pins s σ H _ _ v u Q I rx ry ⟨a, _, xs, rfl, rfl, by rw [hK]; exact ha, fun z => ?_, hl.1, hl.2.1, by omega, fun p hp => k _ _ (.tup sS (ra.rep _) ?_ hp)⟩
      · subst z
        have := List.eq_nil_of_length_eq_zero (e1.symm.trans rfl)
        rw [this] at hl
        simp at hl
      · rw [PyProof.Rows.lm_len_rep_flat]
        exact Nat.le_trans (Nat.mul_le_mul (Int.toNat_le.mpr (show _ ≤ ((1000 : Nat) : Int) from hl.2.1)) hl.2.2.1) (by decide)
    · cases hz
  · cases hd; cases he
    split at hz
    · cases hz
      rename_i hl
      exact op_fdiv pins s σ H _ _ v u Q I rx ry ⟨_, _, rfl, rfl, hl, k _ _ (.same sS (.int _))⟩
    · cases hz
  · cases hd; cases he
    split at hz
    · cases hz
      rename_i hl
      exact op_mod pins s σ H _ _ v u Q I rx ry ⟨_, _, rfl, rfl, hl, k _ _ (.same sS (.int _))⟩
    · cases hz
  · cases hd; cases he
    split at hz
    · cases hz
      rename_i hl
      exact op_pow pins s σ H _ _ v u Q I rx ry ⟨_, _, rfl, rfl, hl, k _ _ (.same sS (.int _))⟩
    · cases hz
  · cases hz
end
end Pz

set_option Elab.async false
set_option linter.all false
set_option autoImplicit false
set_option maxRecDepth 100000
set_option maxHeartbeats 1000000
/-! Pz, part D: comparisons, built-in functions, subscripts, by values. -/
namespace Pz
open PySem PySem.Spec PyProof.Rows L2

/-! ### the order of tuples of ints -/
def lexR (r : Int → Int → Bool) (z : Nat → Nat → Bool) : List Int → List Int → Bool
  | x :: xs, y :: ys => if x = y then lexR r z xs ys else r x y
  | xs, ys => z xs.length ys.length
theorem lexAt_R (r : Int → Int → Bool) (z : Nat → Nat → Bool) (hz : ∀ a b, z (a + 1) (b + 1) = z a b) (ns ms : List Int) : ∀ (xs ys : List Int) (i : Nat), ns.drop i = xs → ms.drop i = ys → i ≤ ns.length → i ≤ ms.length →
    Ob.lexAt (fun j => decide (ns.getD j 0 = ms.getD j 0)) (fun j => r (ns.getD j 0) (ms.getD j 0)) (z ns.length ms.length) i (min xs.length ys.length) = lexR r z xs ys
  | [], ys, i, h1, h2, l1, l2 => by
    have e1 : ns.length = i := by have := congrArg List.length h1; rw [List.length_drop] at this; simp at this; omega
    have e2 : ms.length = ys.length + i := by have := congrArg List.length h2; rw [List.length_drop] at this; omega
    have : min ([] : List Int).length ys.length = 0 := by simp
    rw [this, Ob.lexAt_zero]
    show _ = z 0 ys.length
    rw [e1, e2]
    have q : ∀ (k a b : Nat), z (a + k) (b + k) = z a b := fun k => by
      induction k with
      | zero => intro a b; rfl
      | succ k ih => intro a b; rw [← Nat.add_assoc, ← Nat.add_assoc, hz, ih]
    have := q i 0 ys.length
    rw [Nat.zero_add] at this
    exact this
  | x :: xs, [], i, h1, h2, l1, l2 => by
    have e1 : ms.length = i := by have := congrArg List.length h2; rw [List.length_drop] at this; simp at this; omega
    have e2 : ns.length = (x :: xs).length + i := by have := congrArg List.length h1; rw [List.length_drop] at this; omega
    have : min (x :: xs).length ([] : List Int).length = 0 := by simp
    rw [this, Ob.lexAt_zero]
    show _ = z (x :: xs).length 0
    rw [e1, e2]
    have q : ∀ (k a b : Nat), z (a + k) (b + k) = z a b := fun k => by
      induction k with
      | zero => intro a b; rfl
      | succ k ih => intro a b; rw [← Nat.add_assoc, ← Nat.add_assoc, hz, ih]
    have := q i (x :: xs).length 0
    rw [Nat.zero_add] at this
    exact this
  | x :: xs, y :: ys, i, h1, h2, l1, l2 => by
    have a1 : ns[i]? = some x := by rw [← List.head?_drop, h1]; rfl
    have a2 : ms[i]? = some y := by rw [← List.head?_drop, h2]; rfl
    obtain ⟨b1, _⟩ := List.getElem?_eq_some_iff.mp a1
    obtain ⟨b2, _⟩ := List.getElem?_eq_some_iff.mp a2
    have g1 : ns.getD i 0 = x := by rw [List.getD_eq_getElem?_getD, a1]; rfl
    have g2 : ms.getD i 0 = y := by rw [List.getD_eq_getElem?_getD, a2]; rfl
    have d1 : ns.drop (i + 1) = xs := by rw [← List.tail_drop, h1]; rfl
    have d2 : ms.drop (i + 1) = ys := by rw [← List.tail_drop, h2]; rfl
    have : min (x :: xs).length (y :: ys).length = min xs.length ys.length + 1 := by simp only [List.length_cons]; omega
    rw [this, Ob.lexAt_succ]
    simp only [g1, g2, decide_eq_true_eq]
    show _ = if x = y then lexR r z xs ys else r x y
    by_cases e : x = y
    · rw [if_pos e, if_pos e]
      exact lexAt_R r z hz ns ms xs ys (i + 1) d1 d2 b1 b2
    · rw [if_neg e, if_neg e]
theorem lexAt_R0 (r : Int → Int → Bool) (z : Nat → Nat → Bool) (hz : ∀ a b, z (a + 1) (b + 1) = z a b) (ns ms : List Int) :
    Ob.lexAt (fun j => decide (ns.getD j 0 = ms.getD j 0)) (fun j => r (ns.getD j 0) (ms.getD j 0)) (z ns.length ms.length) 0 (min ns.length ms.length) = lexR r z ns ms :=
  lexAt_R r z hz ns ms ns ms 0 rfl rfl (Nat.zero_le _) (Nat.zero_le _)
theorem lexR_lt : ∀ ns ms : List Int, lexR (fun a b => decide (a < b)) (fun a b => decide (a < b)) ns ms = lexLtB ns ms
  | [], [] => rfl
  | [], _ :: _ => by simp [lexR, lexLtB]
  | _ :: _, [] => by simp [lexR, lexLtB]
  | x :: xs, y :: ys => by
    simp only [lexR, lexLtB]
    rw [lexR_lt xs ys]
theorem lexR_le : ∀ ns ms : List Int, lexR (fun a b => decide (a ≤ b)) (fun a b => decide (a ≤ b)) ns ms = (lexLtB ns ms || decide (ns = ms))
  | [], [] => rfl
  | [], _ :: _ => by simp [lexR, lexLtB]
  | _ :: _, [] => by simp [lexR, lexLtB]
  | x :: xs, y :: ys => by
    simp only [lexR, lexLtB]
    rw [lexR_le xs ys]
    by_cases e : x = y
    · simp [e]
    · simp [e]; omega
theorem lexR_gt : ∀ ns ms : List Int, lexR (fun a b => decide (b < a)) (fun a b => decide (a > b)) ns ms = (!lexLtB ns ms && !decide (ns = ms))
  | [], [] => rfl
  | [], _ :: _ => by simp [lexR, lexLtB]
  | _ :: _, [] => by simp [lexR, lexLtB]
  | x :: xs, y :: ys => by
    simp only [lexR, lexLtB]
    rw [lexR_gt xs ys]
    by_cases e : x = y
    · simp [e]
    · simp [e]; rw [Bool.eq_iff_iff]; simp; omega
theorem lexR_ge : ∀ ns ms : List Int, lexR (fun a b => decide (b ≤ a)) (fun a b => decide (a ≥ b)) ns ms = !lexLtB ns ms
  | [], [] => rfl
  | [], _ :: _ => by simp [lexR, lexLtB]
  | _ :: _, [] => by simp [lexR, lexLtB]
  | x :: xs, y :: ys => by
    simp only [lexR, lexLtB]
    rw [lexR_ge xs ys]
    by_cases e : x = y
    · simp [e]
    · simp [e]; rw [Bool.eq_iff_iff]; simp
section
variable {X : Cx}
theorem op_ordT (op : CmpOp) (r : Int → Int → Bool) (z : Nat → Nat → Bool) (hz : ∀ a b, z (a + 1) (b + 1) = z a b) (hu : X.A.units < cLine)
    (rule : ∀ {s : Shared} {l b : Addr} {items items2 : Array Value} {e q : Nat → Bool}, s.heap.IsTuple l items → s.heap.IsTuple b items2 →
      (∀ j (h1 : j < items.size) (h2 : j < items2.size), SeqAt.EqAt X.A.in1 s items[j] items2[j] (e j)) → (∀ j (h1 : j < items.size) (h2 : j < items2.size), e j = false → Ob.RcOp op X.A.in1 s items[j] items2[j] (q j)) →
      Ob.RcOp op X.A s (.ref l) (.ref b) (Ob.lexAt e q (z items.size items2.size) 0 (min items.size items2.size)))
    (int : ∀ (A : Around) (s : Shared) (a b : Int) (t u : Tok), Ob.RcOp op A s (.int a t) (.int b u) (r a b)) (hcmp : ∀ a b, compareOp op a b = richCompare op a b) :
    OpR X (compareOp op) (fun x y H Q => ∃ (a b : Addr) (ns ms : List Int), x = .ref a ∧ y = .ref b ∧ SqT X.K H a (ns.map V.int) ∧ SqT X.K H b (ms.map V.int) ∧ Q (.bl (lexR r z ns ms)) H) := by
  intro pins s σ H x y v u Q I rx ry h
  obtain ⟨a, b, ns, ms, rfl, rfl, ha, hb, q⟩ := h
  cases rx
  cases ry
  obtain ⟨its, r1, p1, _⟩ := I.tuple ha
  obtain ⟨its2, r2, p2, _⟩ := I.tuple hb
  have i1 : IntsAre its ns := Vals.ints r1
  have i2 : IntsAre its2 ms := Vals.ints r2
  have e1 : its.toArray.size = ns.length := by rw [List.size_toArray]; exact i1.length
  have e2 : its2.toArray.size = ms.length := by rw [List.size_toArray]; exact i2.length
  have at1 : ∀ j (h1 : j < its.toArray.size), ∃ t, its.toArray[j] = .int (ns.getD j 0) t := fun j h1 => PyProof.Rows.IntsAre.int_at i1 _ _ (by simp at h1; simp [h1])
  have at2 : ∀ j (h1 : j < its2.toArray.size), ∃ t, its2.toArray[j] = .int (ms.getD j 0) t := fun j h1 => PyProof.Rows.IntsAre.int_at i2 _ _ (by simp at h1; simp [h1])
  have R := rule (s := s) (e := fun j => decide (ns.getD j 0 = ms.getD j 0)) (q := fun j => r (ns.getD j 0) (ms.getD j 0)) p1 p2 (fun j h1 h2 => by
    obtain ⟨t, et⟩ := at1 j h1
    obtain ⟨t', et'⟩ := at2 j h2
    rw [et, et']
    have z : (ns.getD j 0 == ms.getD j 0) = decide (ns.getD j 0 = ms.getD j 0) := by
      by_cases q : ns.getD j 0 = ms.getD j 0
      · rw [decide_eq_true q]; exact beq_iff_eq.mpr q
      · rw [decide_eq_false q]; exact beq_eq_false_iff_ne.mpr q
    rw [← z]
    exact SeqAt.EqAt.int_int _ _ _ _) (fun j h1 h2 _ => by
    obtain ⟨t, et⟩ := at1 j h1
    obtain ⟨t', et'⟩ := at2 j h2
    rw [et, et']
    exact int _ _ _ _ _ _)
  rw [e1, e2, lexAt_R0 r z hz] at R
  show wpAny (model X.prog X.w) X.A (compareOp op (.ref a) (.ref b)) (EP X pins σ Q) X.xe s
  rw [hcmp]
  exact R X.prog X.w X.xe (EP X pins σ Q) ⟨.bl _, H, I, rfl, q⟩
end
def opC : COp → CmpOp
  | .eq => .Eq | .ne => .NotEq | .lt => .Lt | .le => .LtE | .gt => .Gt | .ge => .GtE | .is => .Is | .isn => .IsNot | .mem => .In | .nme => .NotIn
/-- a comparison of two values, by the data -/
def r2b (g : Gx) (f : D → D → Option Bool) : R2 := fun x y H Q => ∃ B ρ S d e z, StoR g H ρ S ∧ Rp g ρ (Al ρ B) H x d ∧ Rp g ρ (Al ρ B) H y e ∧ f d e = some z ∧ Q (.bl z) H
section
variable {X : Cx} {g : Gx}
theorem op_ord (hK : X.K = g.K) (hu : X.A.units < cLine) (op : CmpOp) (k : Bool → Bool → Bool)
    (hi : OpR X (compareOp op) (rI0 fun i j => .bl (k (decide (i < j)) (decide (i = j)))))
    (ht : OpR X (compareOp op) (fun x y H Q => ∃ (a b : Addr) (ns ms : List Int), x = .ref a ∧ y = .ref b ∧ SqT X.K H a (ns.map V.int) ∧ SqT X.K H b (ms.map V.int) ∧ Q (.bl (k (lexLtB ns ms) (decide (ns = ms)))) H)) :
    OpR X (compareOp op) (r2b g (ordEv k)) := by
  intro pins s σ H x y v u Q I rx ry h
  obtain ⟨B, ρ, S, d, e, z, sS, hd, he, hz, q⟩ := h
  unfold ordEv at hz
  split at hz
  · cases hd; cases he; cases hz
    exact hi pins s σ H _ _ v u Q I rx ry ⟨_, _, rfl, rfl, q⟩
  · split at hz
    · rename_i ns ms e1 e2
      cases hz
      obtain ⟨a, xs, rfl, ha, ra, _⟩ := hd.td
      obtain ⟨b, ys, rfl, hb, rb, _⟩ := he.td
      rw [ra.ints e1] at ha
      rw [rb.ints e2] at hb
      exact ht pins s σ H _ _ v u Q I rx ry ⟨a, b, ns, ms, rfl, rfl, by rw [hK]; exact ha, by rw [hK]; exact hb, q⟩
    · cases hz
  · cases hz
theorem Rp.ne_non {ρ : List Addr} {A : Addr → Prop} {H : Hp} {x : V} {d : D} (h : Rp g ρ A H x d) (hn : d ≠ .non) : x ≠ .non := by
  cases h <;> first | exact absurd rfl hn | (intro z; cases z)
theorem eqEv_some {d e : D} {z : Bool} (h : eqEv d e = some z) : d.dp dpth = true ∧ e.dp dpth = true ∧ D.eq d e = z := by
  unfold eqEv at h
  split at h
  · rename_i c
    rw [Bool.and_eq_true] at c
    exact ⟨c.1, c.2, Option.some.inj h⟩
  · cases h
theorem memEv_some {d e : D} {z : Bool} (h : memEv d e = some z) : ∃ ys, (e = .lst ys ∨ e = .tup ys) ∧ d.dp dpth = true ∧ D.dps dpth ys = true ∧ memB d ys = z := by
  unfold memEv at h
  split at h
  · split at h
    · rename_i c
      rw [Bool.and_eq_true] at c
      exact ⟨_, .inl rfl, c.1, c.2, Option.some.inj h⟩
    · cases h
  · split at h
    · rename_i c
      rw [Bool.and_eq_true] at c
      exact ⟨_, .inr rfl, c.1, c.2, Option.some.inj h⟩
    · cases h
  · cases h
theorem op_cmp (hK : X.K = g.K) (hu : X.A.units + 65 < cLine) (o : COp) : OpR X (compareOp (opC o)) (r2b g (cmpEv o)) := by
  have hu0 : X.A.units < cLine := by omega
  have hu1 : X.A.units + 64 < cLine := by omega
  cases o with
  | lt => exact op_ord hK hu0 .Lt (fun l _ => l) op_lt (by
      have h := op_ordT (X := X) .Lt (fun a b => decide (a < b)) (fun a b => decide (a < b)) (fun a b => by simp) hu0 (fun h1 h2 h3 h4 => Ob.RcOp.tuples_lt h1 h2 hu0 h3 h4) (fun _ _ a b t u => Ob.RcOp.lt_int a b t u) (fun _ _ => rfl)
      simp only [lexR_lt] at h
      exact h)
  | le => exact op_ord hK hu0 .LtE (fun l e => l || e) (by
      have h := op_le (X := X)
      intro pins s σ H x y v u Q I rx ry hh
      obtain ⟨i, j, rfl, rfl, q⟩ := hh
      refine h pins s σ H _ _ v u Q I rx ry ⟨i, j, rfl, rfl, ?_⟩
      have e : (decide (i < j) || decide (i = j)) = decide (i ≤ j) := by rw [Bool.eq_iff_iff]; simp; omega
      show Q (.bl (decide (i ≤ j))) H
      rw [← e]; exact q) (by
      have h := op_ordT (X := X) .LtE (fun a b => decide (a ≤ b)) (fun a b => decide (a ≤ b)) (fun a b => by simp) hu0 (fun h1 h2 h3 h4 => Ob.RcOp.tuples_le h1 h2 hu0 h3 h4) (fun _ _ a b t u => Ob.RcOp.le_int a b t u) (fun _ _ => rfl)
      simp only [lexR_le] at h
      exact h)
  | gt => exact op_ord hK hu0 .Gt (fun l e => !l && !e) (by
      have h := op_gt (X := X)
      intro pins s σ H x y v u Q I rx ry hh
      obtain ⟨i, j, rfl, rfl, q⟩ := hh
      refine h pins s σ H _ _ v u Q I rx ry ⟨i, j, rfl, rfl, ?_⟩
      have e : (!decide (i < j) && !decide (i = j)) = decide (j < i) := by rw [Bool.eq_iff_iff]; simp; omega
      show Q (.bl (decide (j < i))) H
      rw [← e]; exact q) (by
      have h := op_ordT (X := X) .Gt (fun a b => decide (b < a)) (fun a b => decide (a > b)) (fun a b => by simp) hu0 (fun h1 h2 h3 h4 => Ob.RcOp.tuples_gt h1 h2 hu0 h3 h4) (fun _ _ a b t u => Ob.RcOp.gt_int a b t u) (fun _ _ => rfl)
      simp only [lexR_gt] at h
      exact h)
  | ge => exact op_ord hK hu0 .GtE (fun l _ => !l) (by
      have h := op_ge (X := X)
      intro pins s σ H x y v u Q I rx ry hh
      obtain ⟨i, j, rfl, rfl, q⟩ := hh
      refine h pins s σ H _ _ v u Q I rx ry ⟨i, j, rfl, rfl, ?_⟩
      have e : (!decide (i < j)) = decide (j ≤ i) := by rw [Bool.eq_iff_iff]; simp
      show Q (.bl (decide (j ≤ i))) H
      rw [← e]; exact q) (by
      have h := op_ordT (X := X) .GtE (fun a b => decide (b ≤ a)) (fun a b => decide (a ≥ b)) (fun a b => by simp) hu0 (fun h1 h2 h3 h4 => Ob.RcOp.tuples_ge h1 h2 hu0 h3 h4) (fun _ _ a b t u => Ob.RcOp.ge_int a b t u) (fun _ _ => rfl)
      simp only [lexR_ge] at h
      exact h)
  | eq =>
    intro pins s σ H x y v u Q I rx ry h
    obtain ⟨B, ρ, S, d, e, z, sS, hd, he, hz, q⟩ := h
    obtain ⟨c1, c2, rfl⟩ := eqEv_some hz
    refine op_eqD hu1 pins s σ H x y v u Q I rx ry ⟨d.py, e.py, by rw [hK]; exact hd.dpd _ c1, by rw [hK]; exact he.dpd _ c2, dp_shaped c1, dp_shaped c2, ?_⟩
    rw [← eq_eqv _ _ _ _ c1 c2]; exact q
  | ne =>
    intro pins s σ H x y v u Q I rx ry h
    obtain ⟨B, ρ, S, d, e, z, sS, hd, he, hz, q⟩ := h
    obtain ⟨z', hz', rfl⟩ := Option.map_eq_some_iff.mp hz
    obtain ⟨c1, c2, rfl⟩ := eqEv_some hz'
    refine op_neD hu1 pins s σ H x y v u Q I rx ry ⟨d.py, e.py, by rw [hK]; exact hd.dpd _ c1, by rw [hK]; exact he.dpd _ c2, dp_shaped c1, dp_shaped c2, ?_⟩
    rw [← eq_eqv _ _ _ _ c1 c2]; exact q
  | is =>
    intro pins s σ H x y v u Q I rx ry h
    obtain ⟨B, ρ, S, d, e, z, sS, hd, he, hz, q⟩ := h
    replace hz : isEv d e = some z := hz
    unfold isEv at hz
    split at hz
    · cases hd; cases he; cases hz
      exact op_isN pins s σ H _ _ v u Q I rx ry ⟨rfl, q⟩
    · rename_i hn
      cases he; cases hz
      refine op_isN pins s σ H _ _ v u Q I rx ry ⟨rfl, ?_⟩
      rw [decide_eq_false (hd.ne_non fun z => hn z)]; exact q
    · cases hd; cases he; cases hz
      refine op_is_bl pins s σ H _ _ v u Q I rx ry ⟨_, _, rfl, rfl, ?_⟩
      rw [← Bool.beq_eq_decide_eq]; exact q
    · cases hz
  | isn =>
    intro pins s σ H x y v u Q I rx ry h
    obtain ⟨B, ρ, S, d, e, z, sS, hd, he, hz, q⟩ := h
    obtain ⟨z', hz', rfl⟩ := Option.map_eq_some_iff.mp hz
    unfold isEv at hz'
    split at hz'
    · cases hd; cases he; cases hz'
      exact op_notN pins s σ H _ _ v u Q I rx ry ⟨rfl, q⟩
    · rename_i hn
      cases he; cases hz'
      refine op_notN pins s σ H _ _ v u Q I rx ry ⟨rfl, ?_⟩
      rw [decide_eq_false (hd.ne_non fun z => hn z)]; exact q
    · cases hd; cases he; cases hz'
      refine op_isnot_bl pins s σ H _ _ v u Q I rx ry ⟨_, _, rfl, rfl, ?_⟩
      rw [← Bool.beq_eq_decide_eq]; exact q
    · cases hz'
  | mem =>
    intro pins s σ H x y v u Q I rx ry h
    obtain ⟨B, ρ, S, d, e, z, sS, hd, he, hz, q⟩ := h
    obtain ⟨ys, ho, c1, c2, rfl⟩ := memEv_some hz
    obtain ⟨as, q1⟩ := Dp.reads I d.py x v (by rw [hK]; exact hd.dpd _ c1) rx
    have sd := dp_shaped c1
    have e1 := memB_any _ _ d ys c1 c2
    have l := dps_lay _ _ c2
    rcases ho with rfl | rfl
    · obtain ⟨bs, q2⟩ := Dp.reads I (D.lst ys).py y u (by rw [hK]; exact he.dpd (dpth + 1) (by simpa [D.dp] using c2)) ry
      rw [D.py] at q2
      exact SeqAt.in_list_reads q2 q1 l.1 (SeqAt.canLay_of_shaped sd) (room_in_shaped sd hu) ⟨.bl _, H, I, rfl, by rw [← e1]; exact q⟩
    · obtain ⟨bs, q2⟩ := Dp.reads I (D.tup ys).py y u (by rw [hK]; exact he.dpd (dpth + 1) (by simpa [D.dp] using c2)) ry
      rw [D.py] at q2
      exact SeqAt.in_tuple_reads q2 q1 l.1 (SeqAt.canLay_of_shaped sd) (room_in_shaped sd hu) ⟨.bl _, H, I, rfl, by rw [← e1]; exact q⟩
  | nme =>
    intro pins s σ H x y v u Q I rx ry h
    obtain ⟨B, ρ, S, d, e, z, sS, hd, he, hz, q⟩ := h
    obtain ⟨z', hz', rfl⟩ := Option.map_eq_some_iff.mp hz
    obtain ⟨ys, ho, c1, c2, rfl⟩ := memEv_some hz'
    obtain ⟨as, q1⟩ := Dp.reads I d.py x v (by rw [hK]; exact hd.dpd _ c1) rx
    have sd := dp_shaped c1
    have e1 := memB_any _ _ d ys c1 c2
    have l := dps_lay _ _ c2
    rcases ho with rfl | rfl
    · obtain ⟨bs, q2⟩ := Dp.reads I (D.lst ys).py y u (by rw [hK]; exact he.dpd (dpth + 1) (by simpa [D.dp] using c2)) ry
      rw [D.py] at q2
      exact SeqAt.notIn_list_reads q2 q1 l.1 (SeqAt.canLay_of_shaped sd) (room_in_shaped sd hu) ⟨.bl _, H, I, rfl, by rw [← e1]; exact q⟩
    · obtain ⟨bs, q2⟩ := Dp.reads I (D.tup ys).py y u (by rw [hK]; exact he.dpd (dpth + 1) (by simpa [D.dp] using c2)) ry
      rw [D.py] at q2
      exact SeqAt.notIn_tuple_reads q2 q1 l.1 (SeqAt.canLay_of_shaped sd) (room_in_shaped sd hu) ⟨.bl _, H, I, rfl, by rw [← e1]; exact q⟩
end
end Pz
namespace Pz
open PySem PySem.Spec PyProof.Rows L2
/-! ### truth, types -/
section
variable {X : Cx} {g : Gx}
theorem Rp.tru {ρ : List Addr} {A : Addr → Prop} {H : Hp} {x : V} {d : D} {k : Bool} (h : Rp g ρ A H x d) (hk : d.tru = some k) : TruV g.K x H k := by
  cases h with
  | non => cases hk; rfl
  | bl b => cases hk; rfl
  | int i => cases hk; rfl
  | str s =>
    simp only [D.tru] at hk
    split at hk
    · rename_i hl
      cases hk
      refine ⟨by rw [← line_eq]; exact hl, ?_⟩
      rw [Bool.eq_iff_iff]; simp
    · cases hk
  | tup h r l =>
    cases hk
    refine .inr (.inl ⟨_, h, ?_⟩)
    cases r <;> rfl
  | lst h a r l =>
    cases hk
    refine .inl ⟨_, SqL.of h, ?_⟩
    cases r <;> rfl
  | lsf h r l =>
    cases hk
    obtain ⟨o, h⟩ := h
    refine .inl ⟨_, .inl (.inr ⟨o, h⟩), ?_⟩
    cases r <;> rfl
  | hd h => cases hk
  | fn n => cases hk
  | scr h l => cases hk
def tyN : D → String
  | .non => "NoneType" | .bl _ => "bool" | .int _ => "int" | .str _ => "str" | .tup _ => "tuple" | .lst _ => "list" | _ => ""
def tyS : Ty → String
  | .int => "int" | .bool => "bool" | .str => "str" | .tuple => "tuple" | .list => "list"
theorem Rp.tyx {ρ : List Addr} {A : Addr → Prop} {H : Hp} {x : V} {d : D} {T : Ty} {b : Bool} (h : Rp g ρ A H x d) (hk : isTy T d = some b) : TyX g.K H x (.type (tyN d)) := by
  cases h with
  | non => exact .base .non
  | bl b => exact .base (.bl b)
  | int i => exact .base (.int i)
  | str s => exact .base (.str s)
  | tup h r l =>
    rcases h with (h | ⟨o, h⟩) | ⟨o, its, n, h1, h2, h3, _⟩
    · exact .base (.tup h)
    · exact .fTuple h
    · exact .kTuple h1 h2
  | lst h a r l => exact .base (.lst h)
  | lsf h r l => obtain ⟨o, h⟩ := h; exact .base (.frz h)
  | hd h => cases T <;> cases hk
  | fn n => cases T <;> cases hk
  | scr h l => cases T <;> cases hk
theorem kit_of_isTy {T : Ty} {d : D} {b : Bool} (h : isTy T d = some b) : kitB (tyN d) (tyS T) = some b := by
  cases d <;> cases T <;> simp only [isTy, Option.some.injEq, reduceCtorEq] at h <;> subst h <;> dsimp only [tyN, tyS] <;> decide +kernel
/-- isinstance(x, T) -/
theorem call_isiD (hK : X.K = g.K) (T : Ty) : CallR X (.builtin "isinstance") (fun xs H Q => ∃ B ρ x d b, xs = [x, .ty (tyS T)] ∧ Rp g ρ (Al ρ B) H x d ∧ isTy T d = some b ∧ Q (.bl b) H) := by
  intro pins s σ H xs us Q I r h
  obtain ⟨B, ρ, x, d, b, rfl, hd, hb, q⟩ := h
  exact call_isi pins s σ H _ us Q I r ⟨x, .ty (tyS T), .type (tyN d), .type (tyS T), b, rfl, .ty _, by rw [hK]; exact hd.tyx hb, kit_ty (kit_of_isTy hb), q⟩
/-! ### subscripts -/
theorem atI_rel {α β : Type} {R : α → β → Prop} {xs : List α} {ys : List β} (hl : xs.length = ys.length) (hg : ∀ (i : Nat) (y : β), ys[i]? = some y → ∃ x, xs[i]? = some x ∧ R x y) {i : Int} {y : β} (h : atI ys i = some y) : ∃ x, atI xs i = some x ∧ R x y := by
  unfold atI at h ⊢
  rw [hl]
  cases e : ixN ys.length i with
  | none => rw [e] at h; cases h
  | some j =>
    rw [e] at h
    exact hg j y h
theorem RpL.atI {ρ : List Addr} {A : Addr → Prop} {H : Hp} {xs : List V} {ds : List D} {i : Int} {d : D} (r : RpL g ρ A H xs ds) (h : atI ds i = some d) : ∃ v, L2.atI xs i = some v ∧ Rp g ρ A H v d :=
  atI_rel (R := fun v d => Rp g ρ A H v d) r.length (fun j y e => r.getD e) h
/-- x[i] -/
def r2x (g : Gx) : R2 := fun x y H Q => ∃ B ρ S d e z, StoR g H ρ S ∧ Rp g ρ (Al ρ B) H x d ∧ Rp g ρ (Al ρ B) H y e ∧ ixEv S d e = some z ∧ ∀ v, Rp g ρ (Al ρ B) H v z → Q v H
theorem ix_D (hK : X.K = g.K) : IxR X (r2x g) := by
  intro value slice pins s σ H x y v u Q I rx ry h hsub
  obtain ⟨B, ρ, S, d, e, z, sS, hd, he, hz, q⟩ := h
  unfold ixEv at hz
  split at hz
  · obtain ⟨a, xs, rfl, ha, ra, _⟩ := hd.td
    cases he
    obtain ⟨w, hw, rw'⟩ := ra.atI hz
    exact ix_tup value slice pins s σ H _ _ v u Q I rx ry ⟨a, xs, _, w, rfl, rfl, by rw [hK]; exact ha, hw, q w rw'⟩ hsub
  · obtain ⟨a, xs, rfl, ha, ra, _⟩ := hd.rd
    cases he
    obtain ⟨w, hw, rw'⟩ := ra.atI hz
    exact ix_list value slice pins s σ H _ _ v u Q I rx ry ⟨a, xs, _, w, rfl, rfl, .inl ha, hw, q w rw'⟩ hsub
  · cases hd with
    | hd hn =>
      cases he
      obtain ⟨xs, ds, h1, h2, h3, h4, h5⟩ := sS.at_ _ _ hn
      rw [h2] at hz
      obtain ⟨w, hw, rw'⟩ := h3.atI hz
      refine ix_list value slice pins s σ H _ _ v u Q I rx ry ⟨_, xs, _, w, rfl, rfl, SqL.of h1, hw, q w (rw'.golf' (Ext.refl _ _) ?_)⟩ hsub
      have : ∀ (l : List D) (i : Int) (z : D), D.lfs l = true → atI l i = some z → z.lf = true := fun l i z hl ha => by
        obtain ⟨j, _, hj, _⟩ := atI_get ha
        have : ∀ (l : List D) (j : Nat), D.lfs l = true → l[j]? = some z → z.lf = true := fun l => by
          induction l with
          | nil => intro j _ h; simp at h
          | cons y l ih =>
            intro j hl h
            simp only [D.lfs, Bool.and_eq_true] at hl
            cases j with
            | zero => simp at h; subst h; exact hl.1
            | succ j => exact ih j hl.2 (by simpa using h)
        exact this l j hl hj
      exact this _ _ _ h4 hz
  · cases hd; cases he
    split at hz
    · rename_i hl
      obtain ⟨c, hc, rfl⟩ := Option.map_eq_some_iff.mp hz
      exact ix_str value slice pins s σ H _ _ v u Q I rx ry ⟨_, _, c, rfl, rfl, by rw [← line_eq]; exact hl, hc, q _ (.str _)⟩ hsub
    · cases hz
  · cases hz
theorem cutD_rel {ρ : List Addr} {A : Addr → Prop} {H : Hp} {xs : List V} {ds : List D} (r : RpL g ρ A H xs ds) (lo hi : Option Int) : RpL g ρ A H (cutV xs lo hi) (cutD ds lo hi) := by
  unfold cutV cutD
  rw [r.length]
  exact (r.drop _).take _
theorem cutD_length (xs : List D) (lo hi : Option Int) : (cutD xs lo hi).length ≤ xs.length := by
  unfold cutD
  rw [List.length_take, List.length_drop]
  omega
/-- x[lo:hi] -/
def rSlD (g : Gx) : V → Option Int → Option Int → Hp → VK → Prop := fun x lo hi H Q => ∃ B ρ S d z, StoR g H ρ S ∧ Rp g ρ (Al ρ B) H x d ∧ Bok B H ∧ slEv d lo hi = some z ∧ ∀ v H', Got g B H ρ v z.1 z.2 H' ρ S → Q v H'
theorem sl_D (hK : X.K = g.K) : SlR X (rSlD g) := by
  intro pins s σ H x v vl vu lo hi sl Q I rx hs pl pu h
  obtain ⟨B, ρ, S, d, z, sS, hd, hB, hz, k⟩ := h
  unfold slEv at hz
  split at hz
  · cases hz
    obtain ⟨a, xs, rfl, ha, ra, la⟩ := hd.td
    have e1 := ra.length
    refine sl_tupA pins s σ H _ v vl vu _ _ sl Q I rx hs pl pu ⟨a, xs, rfl, by rw [hK]; exact ha, fun hw => ?_, fun hw p hp => ?_⟩
    · refine k _ _ (.same sS ?_)
      rw [e1] at hw
      unfold cutD
      rw [hw.1, hw.2, Nat.sub_zero, List.drop_zero, List.take_length]
      exact hd
    · exact k _ _ (.tup sS (cutD_rel ra _ _) (Nat.le_trans (cutD_length _ _ _) la) hp)
  · cases hz
    obtain ⟨a, xs, rfl, ha, ra, la⟩ := hd.rd
    exact sl_list pins s σ H _ v vl vu _ _ sl Q I rx hs pl pu ⟨a, xs, rfl, .inl ha, fun p hp => k _ _ (.lst hB sS (cutD_rel ra _ _) (Nat.le_trans (cutD_length _ _ _) la) hp)⟩
  · cases hz
end
end Pz

set_option Elab.async false
set_option linter.all false
set_option autoImplicit false
set_option maxRecDepth 100000
set_option maxHeartbeats 1000000
/-! Pz, part E: t[::-1], built-in functions. -/
namespace Pz
open PySem PySem.Spec PyProof.Rows L2 HT
section
variable {prog : Program} {w : World} {A : Around} {E : Value → Shared → Prop} {s : Shared}
theorem sliceApplied_rev {sl : Addr} {vl vu : Value} {t : Tok} {n : Nat} {Q : Int × Int × Nat → Shared → Prop} (hs : s.heap.IsSliceOf sl vl vu (.int (-1) t)) (pl : IsPart vl none) (pu : IsPart vu none)
    (h : Q ((n : Int) - 1, -1, n) s) : wpAny (model prog w) A (Builtin.Slice.sliceApplied (.ref sl) (pure (n : Int))) Q E s := by
  obtain ⟨os, hos, hcs, hds⟩ := id hs
  unfold Builtin.Slice.sliceApplied Builtin.Slice.sliceFields
  refine wpAny_bind (wpAny_bind (wpAny_field hos hds (x := vl) rfl (wpAny_bind (wpAny_field hos hds (x := vu) rfl (wpAny_bind (wpAny_field hos hds (x := .int (-1) t) rfl (wpAny_pure ?_)))))))
  refine wpAny_bind (slicePart_int ?_)
  show wpAny _ _ (if ((-1 : Int) == 0) = true then _ else _) _ _ s
  rw [if_neg (by decide)]
  refine wpAny_bind (slicePart_ pl (wpAny_bind (slicePart_ pu (wpAny_bind (wpAny_pure ?_)))))
  show wpAny _ _ (match Builtin.Slice.sliceAdjust none none (-1) (n : Int) with | (lo, hi) => pure (lo, (-1 : Int), Builtin.Slice.slicePlaces lo hi (-1))) _ _ s
  have e : Builtin.Slice.sliceAdjust none none (-1) (n : Int) = ((n : Int) - 1, -1) := by
    unfold Builtin.Slice.sliceAdjust
    rfl
  rw [e]
  have e2 : Builtin.Slice.slicePlaces ((n : Int) - 1) (-1) (-1) = n := by
    unfold Builtin.Slice.slicePlaces
    rw [if_neg (by decide)]
    by_cases h0 : n = 0
    · subst h0; rfl
    · rw [if_pos (by omega)]
      have e1 : (- -1 : Int) = 1 := rfl
      rw [e1, Int.ediv_one]
      omega
  show wpAny _ _ (pure ((n : Int) - 1, (-1 : Int), Builtin.Slice.slicePlaces ((n : Int) - 1) (-1) (-1))) _ _ s
  rw [e2]
  exact wpAny_pure h
theorem pick_rev (xs : Array Value) : ((List.range xs.size).filterMap fun (m : Nat) => xs[((xs.size : Int) - 1 + (m : Int) * (-1)).toNat]?).toArray = xs.toList.reverse.toArray := by
  congr 1
  have h : ∀ (l : List Nat), (∀ m ∈ l, m < xs.size) → l.filterMap (fun (m : Nat) => xs[((xs.size : Int) - 1 + (m : Int) * (-1)).toNat]?) = l.map fun m => xs.toList.reverse.getD m default := by
    intro l
    induction l with
    | nil => intro _; rfl
    | cons m l ih =>
      intro hl
      have hm := hl m (List.mem_cons_self)
      have e1 : ((xs.size : Int) - 1 + (m : Int) * (-1)).toNat = xs.size - 1 - m := by omega
      rw [List.filterMap_cons, e1]
      have e2 : xs[xs.size - 1 - m]? = some xs[xs.size - 1 - m] := Array.getElem?_eq_getElem (by omega)
      rw [e2]
      show _ :: _ = _
      rw [ih (fun k hk => hl k (List.mem_cons_of_mem _ hk)), List.map_cons]
      congr 1
      rw [List.getD_eq_getElem?_getD, List.getElem?_reverse (by simpa using hm)]
      simp only [Array.length_toList, Array.getElem?_toList, e2]
      rfl
  rw [h _ (fun m hm => List.mem_range.mp hm)]
  apply List.ext_getElem?
  intro i
  rw [List.getElem?_map]
  by_cases hi : i < xs.size
  · rw [List.getElem?_range hi]
    have : i < xs.toList.reverse.length := by simpa using hi
    rw [List.getElem?_eq_getElem this]
    show some (xs.toList.reverse.getD i default) = _
    rw [List.getD_eq_getElem?_getD, List.getElem?_eq_getElem this]
    rfl
  · rw [List.getElem?_eq_none (by simpa using hi), List.getElem?_eq_none (by simpa using hi)]
    rfl
theorem getItem_tuple_rev {t sl : Addr} {items : Array Value} {vl vu : Value} {tk : Tok} {Q : Value → Shared → Prop} (ht : IsTup s.heap t items) (hs : s.heap.IsSliceOf sl vl vu (.int (-1) tk)) (pl : IsPart vl none) (pu : IsPart vu none)
    (h : Q (.ref s.heap.objs.size) { s with heap := s.heap.push { cls := .type "tuple", data := .seq items.toList.reverse.toArray } })
    (hsz : items.size ≤ sizeLine) : wpAny (model prog w) A (getItem (.ref t) (.ref sl)) Q E s := by
  have htake : sizeOk (.seq items.toList.reverse.toArray) := by
    show items.toList.reverse.toArray.size ≤ sizeLine
    rw [List.size_toArray, List.length_reverse, Array.length_toList]
    exact hsz
  obtain ⟨os, hos, hcs, hds⟩ := id hs
  have hTs : s.TypeIs (.ref sl) "slice" := ⟨os, hos, hcs⟩
  unfold getItem
  try with_reducible refine wpAny_holding ?_
  first | refine wpAny_bind (wpAny_pure ?_) | skip
  refine wpAny_bind (wpAny_sequenceKey ht.typeIs (by decide) ?_)
  refine wpAny_bind (wpAny_callSpecial?_slot (name := Str.ofString "__getitem__") ht.typeIs PyProof.Rows.slot_tuple_getitem
    (wpAny_call_entry PyProof.Rows.slot_tuple_getitem ht.typeIs entry_tuple_getitem ?_ (args_tuple_getitem _ _)))
  show wpAny _ _ (Builtin.Tuple.tupleItemsOf (.ref t) >>= _) _ _ s
  refine wpAny_bind (tupleItemsOf_ ht ?_)
  refine wpAny_bind (wpAny_typeOf hTs ?_)
  rw [if_pos (by decide)]
  refine wpAny_bind (sliceApplied_rev hs pl pu ?_)
  have hno : ¬ ((((items.size : Int) - 1) == 0 && (-1 : Int) == 1 && items.size == items.size) = true) := by
    intro q
    rw [Bool.and_eq_true, Bool.and_eq_true] at q
    exact absurd q.1.2 (by decide)
  show wpAny _ _ (if ((((items.size : Int) - 1)) == 0 && (-1 : Int) == 1 && items.size == items.size) = true then _ else _) _ _ s
  rw [if_neg hno, pick_rev]
  first
    | exact wpAny_bind (m := Builtin.Tuple.tupleExact _) (wpAny_newObj_type (wpAny_pure ⟨_, rfl, wpAny_pure h⟩) htake)
    | exact wpAny_bind (m := Builtin.Tuple.tupleExact _) (wpAny_newObj_type (wpAny_bind (wpAny_pure (wpAny_pure ⟨_, rfl, wpAny_pure h⟩))) htake)
    | exact wpAny_bind (wpAny_bind (m := Builtin.Tuple.tupleExact _) (wpAny_newObj_type (wpAny_pure (wpAny_pure ⟨_, rfl, wpAny_pure h⟩)) htake))
    | exact wpAny_bind (wpAny_bind (m := Builtin.Tuple.tupleExact _) (wpAny_newObj_type (wpAny_pure ⟨_, rfl, wpAny_pure h⟩) htake))
end
section
variable {X : Cx} {g : Gx}
/-- x[::-1] -/
def tRevD (g : Gx) (te : TE) : TE := fun σ H Q => te σ H fun x H1 => ∃ B ρ S d z, StoR g H1 ρ S ∧ Rp g ρ (Al ρ B) H1 x d ∧ Bok B H1 ∧ revEv d = some z ∧ ∀ v H', Got g B H1 ρ v z.1 z.2 H' ρ S → Q v H'
theorem pe_revD (hK : X.K = g.K) {e : Expr} {te : TE} {k : Nat} {p1 p2 p3 pos : Pos} (he : PE X e te) : PE X (.Subscript e (.Slice none none (some (.UnaryOp .USub (.Constant (.int 1) k p1) p2)) p3) pos) (tRevD g te) := by
  refine ⟨fun pins s σ H Q I h => ?_⟩
  refine Subscript_ (thn (he.run pins s σ H _ I h) fun v s1 ⟨x, H1, I1, r1, q1⟩ => ?_)
  obtain ⟨B, ρ, S, d, z, sS, hd, hB, hz, kk⟩ := q1
  have hst : PO X (some (.UnaryOp .USub (.Constant (.int 1) k p1) p2)) (tPart (tUn (rU fun i => .int (-i)) (tC (.int 1)))) := po_some (pe_un un_neg pe_int)
  refine wpAny_Slice (thn (po_none.run pins s1 σ H1 (fun o H2 => o = none ∧ H2 = H1) I1 ⟨rfl, rfl⟩) fun vl s2 ⟨l, H2, I2, pl, el, e2⟩ => ?_)
  subst el e2
  refine thn (po_none.run pins s2 σ H2 (fun o H3 => o = none ∧ H3 = H2) I2 ⟨rfl, rfl⟩) fun vu s3 ⟨u, H3, I3, pu, eu, e3⟩ => ?_
  subst eu e3
  refine thn (hst.run pins s3 σ H3 (fun o H4 => o = some (-1) ∧ H4 = H3) I3 ⟨1, rfl, -1, rfl, rfl, rfl⟩) fun vs s4 ⟨o, H4, I4, ps, eo, e4⟩ => ?_
  subst eo e4
  have I5 : L2.Inv X pins σ H4 { s4 with heap := s4.heap.push { cls := .type "slice", data := .fields #[vl, vu, vs] } } := I4.kept (t' := s4.toks) fun b ob q => Heap.get?_push_of_some _ q
  unfold revEv at hz
  split at hz
  · cases hz
    obtain ⟨a, xs, rfl, ha, ra, la⟩ := hd.td
    cases r1
    obtain ⟨its, r, ht, hz⟩ := I5.tuple (show SqT X.K H4 a xs by rw [hK]; exact ha)
    have hlen := r.length
    cases ps with
    | int i tk =>
      show wpAny (model X.prog X.w) X.A (subscriptTail e (.Slice none none (some (.UnaryOp .USub (.Constant (.int 1) k p1) p2)) p3) (.ref a) (.ref s4.heap.objs.size)) (EP X pins σ Q) X.xe { s4 with heap := s4.heap.push { cls := .type "slice", data := .fields #[vl, vu, .int (-1) tk] } }
      refine tail_any (ops := [.ref a, .ref s4.heap.objs.size]) ht.typeIs (PyProof.Rows.slot_tuple_getitem.lookup) ?_ (by with_unfolding_all rfl)
      refine getItem_tuple_rev ht (Heap.IsSliceOf.new _ vl vu (.int (-1) tk)) pl pu ?_ (by rw [List.size_toArray]; omega)
      refine ⟨.ref _, _, I5.laid (t' := s4.toks) (o := .tup xs.reverse) (fun b ob q => Heap.get?_push_of_some _ q) (Nat.le_refl _) ?_, rfl, kk _ _ (.tup sS ra.reverse (by rw [List.length_reverse]; exact la) (I5.hok.fresh (Nat.le_refl _)))⟩
      exact ⟨by rw [List.length_reverse]; exact hz, _, r.reverse, IsTup.new _ _⟩
  · cases hz
    obtain ⟨a, xs, rfl, ha, ra, la⟩ := hd.rd
    cases r1
    obtain ⟨its, r, ht, hz⟩ := I5.list (show SqL X.K H4 a xs from .inl ha)
    have hlen := r.length
    show wpAny (model X.prog X.w) X.A (subscriptTail e (.Slice none none (some (.UnaryOp .USub (.Constant (.int 1) k p1) p2)) p3) (.ref a) (.ref s4.heap.objs.size)) (EP X pins σ Q) X.xe { s4 with heap := s4.heap.push { cls := .type "slice", data := .fields #[vl, vu, vs] } }
    refine tail_any (ops := [.ref a, .ref s4.heap.objs.size]) ht.isList.typeIs (PySem.slot_list_getitem.lookup) ?_ (by with_unfolding_all rfl)
    refine wpAny_getItem_list_slice ht.isList (Heap.IsSliceOf.new _ vl vu vs) pl pu ps (by decide) ?_ (by rw [List.size_toArray]; omega)
    rw [PySem.W.krv_pick]
    refine ⟨.ref _, _, I5.laid (t' := s4.toks) (o := .lst xs.reverse) (fun b ob q => Heap.get?_push_of_some _ q) (Nat.le_refl _) ?_, rfl, kk _ _ (.lst hB sS ra.reverse (by rw [List.length_reverse]; exact la) (I5.hok.fresh (Nat.le_refl _)))⟩
    exact ⟨by rw [List.length_reverse]; exact hz, _, 0, r.reverse, Heap.get?_push_size _ rfl⟩
  · cases hz
end
end Pz

set_option Elab.async false
set_option linter.all false
set_option autoImplicit false
set_option maxRecDepth 100000
set_option maxHeartbeats 1000000
/-! Pz, part F: sorted. -/
namespace Pz
open PySem PySem.Spec PyProof.Rows L2
section
variable {prog : Program} {w : World} {A : Around} {E : Value → Shared → Prop} {s : Shared}
/-- sorted(v): a list or a tuple -/
theorem collect_seq {l : Addr} {vs : List Value} {T : String} {Q : List Value → Shared → Prop} (hT : T = "list" ∨ T = "tuple") (hl : ∃ o n, s.heap.get? l = some o ∧ o.cls = .type T ∧ o.data = .seq vs.toArray n)
    (h : Q vs { s with heap := (s.heap.push (seqObj "list" #[] 0)).update s.heap.objs.size (Obj.mapSeq (· ++ vs.toArray)) }) (hsz : vs.length ≤ sizeLine) :
    wpAny (model prog w) A (collect (.ref l)) Q E s := by
  obtain ⟨o, n, ho, hc, hd⟩ := hl
  unfold collect
  refine wpAny_bind (wpAny_runValue (codeAny_builtin entry_proto_collect' ?_))
  show wpAny _ _ (do again (.builtin "list.__iadd__" ⟨[← newList [], .ref l], []⟩)) _ _ s
  refine wpAny_bind (wpAny_newList (wpAny_pure ⟨Code.quiet_builtin _ (by decide +kernel), codeAny_builtin entry_list_iadd' ?_⟩))
  show wpAny _ _ (Builtin.List.listExtendWith (.ref s.heap.objs.size) (.ref l) (.ref s.heap.objs.size)) _ _ { s with heap := s.heap.push (seqObj "list" #[] 0) }
  unfold Builtin.List.listExtendWith
  have ho' : (s.heap.push (seqObj "list" #[] 0)).get? l = some o := Heap.get?_push_of_some _ ho
  refine wpAny_bind (wpAny_typeOf (T := T) ⟨o, ho', hc⟩ ?_)
  have ht : (Value.type T == Value.type "list" || Value.type T == Value.type "tuple") = true := by
    rcases hT with rfl | rfl <;> rfl
  rw [if_pos (by
    rcases hT with rfl | rfl
    · first | rfl | simp | decide
    · first | rfl | simp | decide)]
  refine wpAny_bind (listItems_at ho' hd ?_)
  refine wpAny_bind (listItems_at (xs := #[]) (n := 0) (Heap.get?_push_size _ rfl) rfl ?_)
  rw [if_neg (by simp)]
  refine wpAny_bind (listUpdate_at (xs := #[]) (n := 0) (Heap.get?_push_size _ rfl) rfl ?_ (Nat.zero_le _) (by show (#[] ++ vs.toArray).size ≤ sizeLine + 1; simp only [Array.size_append, List.size_toArray, List.length_nil]; omega))
  refine wpAny_pure ?_
  show wpAny (model prog w) A (do
      let o ← load s.heap.objs.size
      match o.data with
      | .seq xs _ => pure xs.toList
      | _ => unsupported "internal:collect") Q E { s with heap := (s.heap.push (seqObj "list" #[] 0)).update s.heap.objs.size (Obj.mapSeq (· ++ vs.toArray)) }
  refine wpAny_bind (wpAny_load (get?_update_seq (Heap.get?_push_size _ rfl) _) ?_)
  show wpAny _ _ (pure ((#[] : Array Value) ++ vs.toArray).toList) Q E _
  rw [show ((#[] : Array Value) ++ vs.toArray).toList = vs by simp]
  exact wpAny_pure h
theorem sorted_seq {l : Addr} {vs : List Value} {T : String} {ltv : Value → Value → Bool} {Q : Value → Shared → Prop} (O : SrtO.Swo ltv) (hT : T = "list" ∨ T = "tuple") (hl : ∃ o n, s.heap.get? l = some o ∧ o.cls = .type T ∧ o.data = .seq vs.toArray n) (hz : vs.length ≤ sizeLine)
    (hS : 2 ≤ vs.length → ∀ (h₁ : Heap) (a : Addr), h₁.get? a = some (seqObj "list" vs.toArray 0) → (∀ b o, s.heap.get? b = some o → b ≠ a ∧ h₁.get? b = some o) → SrtO.SortableO prog w A.in1.in1 { s with heap := h₁ } a vs ltv)
    (h : ∀ out : List Value, SrtO.Srtd ltv out → SrtO.Stb ltv out vs → Q (.ref (s.heap.objs.size + 1)) { s with heap := sortedAll s.heap vs out.toArray }) :
    wpAny (model prog w) A (call (.builtin "sorted") [.ref l]) Q E s := by
  refine Calls.call_function_entry kind_sorted plain_sorted entry_sorted (args_sorted1 _) ?_
  unfold Builtin.«sorted»
  refine wpAny_bind (m := checkCount "sorted" 1 1 _) (wpAny_pure ?_)
  refine wpAny_bind (collect_seq hT hl ?_ hz)
  refine wpAny_bind (wpAny_newList ?_ hz)
  have hsz : ((s.heap.push (seqObj "list" #[] 0)).update s.heap.objs.size (Obj.mapSeq (· ++ vs.toArray))).objs.size = s.heap.objs.size + 1 := by
    rw [Heap.size_update, size_push']
  have hoL : (((s.heap.push (seqObj "list" #[] 0)).update s.heap.objs.size (Obj.mapSeq (· ++ vs.toArray))).push (seqObj "list" vs.toArray 0)).get? (s.heap.objs.size + 1) = some (seqObj "list" vs.toArray 0) := by
    rw [← hsz]; exact Heap.get?_push_size _ rfl
  have keep : ∀ b o, s.heap.get? b = some o → b ≠ s.heap.objs.size + 1 ∧ (((s.heap.push (seqObj "list" #[] 0)).update s.heap.objs.size (Obj.mapSeq (· ++ vs.toArray))).push (seqObj "list" vs.toArray 0)).get? b = some o := fun b o q => by
    have hlt : b < s.heap.objs.size := Heap.lt_size q
    refine ⟨Nat.ne_of_lt (Nat.lt_succ_of_lt hlt), Heap.get?_push_of_some _ ?_⟩
    rw [Heap.get?_update_ne _ _ _ _ (Nat.ne_of_lt hlt)]
    exact Heap.get?_push_of_some _ q
  show wpAny _ _ _ _ _ { s with heap := ((s.heap.push (seqObj "list" #[] 0)).update s.heap.objs.size (Obj.mapSeq (· ++ vs.toArray))).push (seqObj "list" vs.toArray 0) }
  rw [hsz]
  refine wpAny_bind (wpAny_holding (wpAny_call_entry slot_list_sort ⟨_, hoL, rfl⟩ entry_list_sort (SrtO.list_sort_ord O hoL hz (fun h2 => hS h2 _ _ hoL keep) fun out hs hb => ⟨_, rfl, ?_⟩) (args_list_sort _)))
  exact wpAny_pure ⟨_, rfl, h out hs hb⟩

/-! ### tuples of ints, none empty -/
def IsIT (h : Heap) (v : Value) (ns : List Int) : Prop := ∃ (a : Addr) (o : Obj) (its : List Value) (n : Nat), v = .ref a ∧ h.get? a = some o ∧ o.cls = .type "tuple" ∧ o.data = .seq its.toArray n ∧ IntsAre its ns
theorem IsIT.keeps {h h' : Heap} {v : Value} {ns : List Int} (p : IsIT h v ns) (k : ∀ b o, h.get? b = some o → o.cls = .type "tuple" → h'.get? b = some o) : IsIT h' v ns := by
  obtain ⟨a, o, its, n, e, ho, hc, hd, hi⟩ := p
  exact ⟨a, o, its, n, e, k _ _ ho hc, hc, hd, hi⟩
theorem lexLtB_irr : ∀ ns : List Int, lexLtB ns ns = false
  | [] => rfl
  | x :: xs => by simp [lexLtB, lexLtB_irr xs]
theorem lexLtB_asym : ∀ ns ms : List Int, lexLtB ns ms = true → lexLtB ms ns = false
  | [], [], h => by simp [lexLtB] at h
  | [], _ :: _, _ => rfl
  | _ :: _, [], h => by simp [lexLtB] at h
  | x :: xs, y :: ys, h => by
    simp only [lexLtB] at h ⊢
    by_cases e : x = y
    · subst e
      rw [if_pos rfl] at h ⊢
      exact lexLtB_asym xs ys h
    · rw [if_neg e] at h
      rw [if_neg (Ne.symm e)]
      have := of_decide_eq_true h
      exact decide_eq_false (by omega)
theorem lexLtB_tr : ∀ x y z : List Int, lexLtB y x = false → lexLtB z y = false → lexLtB z x = false
  | [], _, [], _, _ => rfl
  | [], _, _ :: _, _, _ => rfl
  | _ :: _, [], [], h, _ => by simp [lexLtB] at h
  | _ :: _, _ :: _, [], _, h => by simp [lexLtB] at h
  | _ :: _, [], _ :: _, h, _ => by simp [lexLtB] at h
  | x :: xs, y :: ys, z :: zs, h1, h2 => by
    simp only [lexLtB] at h1 h2 ⊢
    by_cases e1 : y = x
    · subst e1
      rw [if_pos rfl] at h1
      by_cases e2 : z = y
      · subst e2
        rw [if_pos rfl] at h2 ⊢
        exact lexLtB_tr xs ys zs h1 h2
      · rw [if_neg e2] at h2 ⊢
        exact h2
    · rw [if_neg e1] at h1
      have a1 := of_decide_eq_false h1
      by_cases e2 : z = y
      · subst e2
        rw [if_neg e1]
        exact h1
      · rw [if_neg e2] at h2
        have a2 := of_decide_eq_false h2
        rw [if_neg (by omega)]
        exact decide_eq_false (by omega)
theorem lexLtB_total : ∀ ns ms : List Int, lexLtB ns ms = false → lexLtB ms ns = false → ns = ms
  | [], [], _, _ => rfl
  | [], _ :: _, h, _ => by simp [lexLtB] at h
  | _ :: _, [], _, h => by simp [lexLtB] at h
  | x :: xs, y :: ys, h1, h2 => by
    simp only [lexLtB] at h1 h2
    by_cases e : x = y
    · subst e
      rw [if_pos rfl] at h1 h2
      rw [lexLtB_total xs ys h1 h2]
    · rw [if_neg e] at h1
      rw [if_neg (Ne.symm e)] at h2
      have a1 := of_decide_eq_false h1
      have a2 := of_decide_eq_false h2
      omega
theorem swo_it (k : Value → List Int) : SrtO.Swo fun v u => lexLtB (k v) (k u) := ⟨fun _ _ h => lexLtB_asym _ _ h, fun _ _ _ h1 h2 => lexLtB_tr _ _ _ h1 h2⟩
theorem lex_it {b : Bool} {Q : Bool → Shared → Prop} : ∀ {xs ys : List Value} {ns ms : List Int} (i : Nat), IntsAre xs ns → IntsAre ys ms → Q (lexLtB ns ms) s → PySem.W.KatLex prog w A b (decide (ns.length < ms.length)) Q (xs.zip ys) i s
  | _, _, _, _, i, .nil, .nil, h => PySem.W.kat_nil h
  | _, _, _, _, i, .nil, .cons _ _ _, h => PySem.W.kat_nil (by simpa [lexLtB] using h)
  | _, _, _, _, i, .cons _ _ _, .nil, h => PySem.W.kat_nil (by simpa [lexLtB] using h)
  | _, _, _, _, i, .cons x t rx, .cons y u ry, h => by
    refine PySem.W.kat_cons (SeqAt.EqAt.int_int x t y u prog w _ _ ?_)
    refine PySem.W.kat_go (fun e1 => ?_) (fun e1 => ?_)
    · have ex : x = y := by simpa using e1
      subst ex
      refine PySem.W.kat_yes ?_
      simp only [List.length_cons, Nat.add_lt_add_iff_right]
      exact lex_it (i + 1) rx ry (by simpa [lexLtB] using h)
    · have ex : ¬ x = y := by simpa using e1
      simp only [lexLtB, if_neg ex] at h
      exact PySem.W.kat_no (TS.oneLt_ints _ h)
end
section
variable {prog : Program} {w : World} {A : Around} {E : Value → Shared → Prop} {s : Shared}
theorem it_cmp {vs : List Value} {k : Value → List Int} (hp : ∀ v ∈ vs, IsIT s.heap v (k v)) : SrtO.Cmp prog w A s (tuples' true) (fun p => p.1 ∈ vs) (SrtO.lt2 fun v u => lexLtB (k v) (k u)) := by
  intro p q hm hm'
  have h1 := hp _ hm
  have h2 := hp _ hm'
  show wpAny (model prog w) A (keyLt' (tuples' true) p.1 q.1) (fun r s' => s' = s ∧ r = lexLtB (k p.1) (k q.1)) (fun _ _ => False) s
  generalize k p.1 = ns at h1 ⊢
  generalize k q.1 = ms at h2 ⊢
  obtain ⟨a, o, its, n, e, ho, hc, hd, hi⟩ := h1
  obtain ⟨a', o', its', n', e', ho', hc', hd', hi'⟩ := h2
  rw [e, e']
  refine PySem.W.kat_lt ho hd ho' hd' ?_
  rw [List.size_toArray, List.size_toArray, hi.length, hi'.length]
  exact lex_it 0 hi hi' ⟨rfl, rfl⟩
theorem firsts_it {h : Heap} {k : Value → List Int} : ∀ {vs : List Value}, (∀ v ∈ vs, IsIT h v (k v) ∧ k v ≠ []) → ∃ fs : List Value, PySem.W.KatTups h vs fs ∧ fs.length = vs.length ∧ ∀ f ∈ fs, ∃ x t, f = Value.int x t
  | [], _ => ⟨[], PySem.W.KatTups.nil, rfl, fun _ hm => by simp at hm⟩
  | v :: vs, hp => by
    obtain ⟨fs, h1, h2, h3⟩ := firsts_it (vs := vs) fun v' hm => hp v' (List.mem_cons_of_mem _ hm)
    obtain ⟨⟨a, o, its, n, e, ho, hc, hd, hi⟩, hne⟩ := hp v (List.mem_cons_self ..)
    subst e
    generalize k (Value.ref a) = ns at hi hne
    cases hi with
    | nil => exact absurd rfl hne
    | cons x t rx =>
      refine ⟨.int x t :: fs, PySem.W.KatTups.cons ho hc hd (by simp) h1, by rw [List.length_cons, List.length_cons, h2], fun f hm => ?_⟩
      rcases List.mem_cons.mp hm with rfl | hm
      · exact ⟨x, t, rfl⟩
      · exact h3 f hm
theorem it_sortable {a : Addr} {vs : List Value} {k : Value → List Int} (h0 : 0 < vs.length) (hp : ∀ v ∈ vs, IsIT s.heap v (k v) ∧ k v ≠ []) (ha : ∀ o, s.heap.get? a = some o → o.cls ≠ .type "tuple") : SrtO.SortableO prog w A s a vs fun v u => lexLtB (k v) (k u) := by
  intro h' keep
  have hp' : ∀ v ∈ vs, IsIT h' v (k v) ∧ k v ≠ [] := fun v hm => ⟨(hp v hm).1.keeps fun b o e c => keep b o (fun z => by subst z; exact ha o e c) e, (hp v hm).2⟩
  obtain ⟨fs, h1, h2, h3⟩ := firsts_it hp'
  refine ⟨tuples' true, fun Q E hq => ?_, it_cmp fun v hm => (hp' v hm).1⟩
  refine PySem.W.kat_kind (T := .type "int") h1 (by omega) (fun f hm => ?_) (by rfl) ?_
  · obtain ⟨x, t, rfl⟩ := h3 f hm
    exact PySem.W.Looks.now
  · have e : (Value.type "int" != Value.type "tuple") = true := by first | decide +kernel | rfl | decide
    rw [e]
    exact hq
end
/-! ### by values -/
section
variable {X : Cx}
/-- sorted(xs), ints -/
def rSortI (K : PySem.W.Frag) : List V → Hp → VK → Prop := fun vs H Q => ∃ (a : Addr) (ns : List Int), vs = [V.ref a] ∧ (SqL K H a (ns.map V.int) ∨ SqT K H a (ns.map V.int)) ∧
  ∀ (ns' : List Int) (p : Addr), ns'.Perm ns → ns'.Pairwise (· ≤ ·) → H p = none → Q (.ref p) (upd H p (.lst (ns'.map V.int)))
theorem Inv.seq {pins : List (Addr × Obj)} {σ : L2.St} {H : Hp} {s : Shared} {a : Addr} {xs : List V} (I : L2.Inv X pins σ H s) (h : SqL X.K H a xs ∨ SqT X.K H a xs) :
    ∃ (T : String) (its : List Value), (T = "list" ∨ T = "tuple") ∧ Vals xs its ∧ (∃ o n, s.heap.get? a = some o ∧ o.cls = .type T ∧ o.data = .seq its.toArray n) ∧ xs.length ≤ sizeLine := by
  rcases h with h | h
  · obtain ⟨its, r, p, z⟩ := I.list h
    obtain ⟨o, ho, hc, n, hd⟩ := p.isList
    exact ⟨"list", its, .inl rfl, r, ⟨o, n, ho, hc, hd⟩, z⟩
  · obtain ⟨its, r, p, z⟩ := I.tuple h
    obtain ⟨o, ho, hc, n, hd⟩ := p
    exact ⟨"tuple", its, .inr rfl, r, ⟨o, n, ho, hc, hd⟩, z⟩
theorem cr_sortI : CallR X (.builtin "sorted") (rSortI X.K) := by
  intro pins s σ H vs us Q I r h
  obtain ⟨a, ns, rfl, hs, q⟩ := h
  obtain ⟨T, its, hT, rv, hl, hz⟩ := Pz.Inv.seq I hs
  rw [Vals.ref1 r]
  have hi := rv.ints
  refine sorted_seq SrtO.swo_int hT hl (by rw [← rv.length]; exact hz) (fun h2 h₁ a' _ _ => SrtO.ints_sortable hi h2) fun out h1 h2 => ?_
  obtain ⟨k1, k2, k3⟩ := SrtO.ints_out hi h1 h2
  obtain ⟨ep, he'⟩ := PyProof.Rows.sortedAll_at s.heap its out.toArray
  have hlen : ((out.map SrtO.iv).map V.int).length ≤ sizeLine := by
    rw [List.length_map, k2.length_eq]
    rw [List.length_map] at hz
    exact hz
  exact ⟨.ref _, upd H (s.heap.objs.size + 1) (.lst ((out.map SrtO.iv).map V.int)), I.laid (t' := s.toks) (fun _ _ => PyProof.Rows.sortedAll_old) (Nat.le_succ _) ⟨hlen, out, ep, vals_of_ints k1, he'⟩, rfl, q _ _ k2 k3 (I.hok.fresh (Nat.le_succ _))⟩
/-- sorted(xs), tuples of ints, none empty -/
def rSortT (K : PySem.W.Frag) : List V → Hp → VK → Prop := fun vs H Q => ∃ (a : Addr) (xs : List V) (k : V → List Int), vs = [V.ref a] ∧ (SqL K H a xs ∨ SqT K H a xs) ∧ (∀ x ∈ xs, ∃ t, x = V.ref t ∧ SqT K H t ((k x).map V.int) ∧ k x ≠ []) ∧
  ∀ (ys : List V) (p : Addr), SrtO.Srtd (fun x y => lexLtB (k x) (k y)) ys → ys.Perm xs → H p = none → Q (.ref p) (upd H p (.lst ys))
theorem cr_sortT : CallR X (.builtin "sorted") (rSortT X.K) := by
  intro pins s σ H vs us Q I r h
  obtain ⟨a, xs, k, rfl, hs, hx, q⟩ := h
  obtain ⟨T, its, hT, rv, hl, hz⟩ := Pz.Inv.seq I hs
  obtain ⟨u, rfl, ru⟩ := vals1 r
  obtain rfl : u = Value.ref a := ru
  obtain ⟨e1, e2⟩ := refs_back rv fun x m => by
    obtain ⟨t, e, _⟩ := hx x m
    exact ⟨t, e⟩
  have hit : ∀ v ∈ its, IsIT s.heap v (k (backV v)) ∧ k (backV v) ≠ [] := fun v hv => by
    obtain ⟨t, rfl⟩ := e2 v hv
    have hm : V.ref t ∈ xs := by rw [e1]; exact List.mem_map.mpr ⟨_, hv, rfl⟩
    obtain ⟨t', e, ht, hn⟩ := hx _ hm
    cases e
    obtain ⟨its2, r2, ⟨o, ho, hc, n, hd⟩, _⟩ := I.tuple ht
    exact ⟨⟨t, o, its2, n, rfl, ho, hc, hd, r2.ints⟩, hn⟩
  refine sorted_seq (swo_it fun u => k (backV u)) hT hl (by rw [← rv.length]; exact hz) (fun h2 h₁ a' ha' kk => ?_) fun out h1 h2 => ?_
  · refine it_sortable (s := { s with heap := h₁ }) (by omega) (fun v hv => ⟨(hit v hv).1.keeps fun b o e _ => (kk b o e).2, (hit v hv).2⟩) fun o e => ?_
    have e' : some o = some (seqObj "list" its.toArray 0) := e.symm.trans ha'
    cases e'
    intro c
    exact absurd (Value.type.inj c) (by decide)
  · have h3 : ∀ u ∈ out, ∃ a, u = Value.ref a := fun u hu => e2 u (h2.perm.mem_iff.mp hu)
    obtain ⟨n, hn⟩ := PyProof.Rows.sortedAll_at s.heap its out.toArray
    have hb : (out.map backV).Perm xs := by
      rw [e1]
      exact h2.perm.map _
    refine ⟨.ref (s.heap.objs.size + 1), upd H (s.heap.objs.size + 1) (.lst (out.map backV)), I.laid (t' := s.toks) (fun _ _ => PyProof.Rows.sortedAll_old) (Nat.le_succ _) ⟨?_, out, n, vals_back h3, hn⟩, rfl, q _ _ (SrtO.srtd_map (lt := fun x y => lexLtB (k x) (k y)) h1) hb (I.hok.fresh (Nat.le_succ _))⟩
    rw [hb.length_eq]
    exact hz
end
end Pz

set_option Elab.async false
set_option linter.all false
set_option autoImplicit false
set_option maxRecDepth 100000
set_option maxHeartbeats 1000000
/-! Pz, part G: sorted by the data, built-in functions by the data. -/
namespace Pz
open PySem PySem.Spec PyProof.Rows L2

section
variable {α : Type} {lt : α → α → Bool}
theorem insB_perm (x : α) : ∀ l : List α, (insB lt x l).Perm (x :: l)
  | [] => List.Perm.refl _
  | y :: ys => by
    unfold insB
    split
    · exact ((insB_perm x ys).cons y).trans (List.Perm.swap x y ys)
    · exact List.Perm.refl _
theorem sortB_perm : ∀ l : List α, (sortB lt l).Perm l
  | [] => List.Perm.refl _
  | x :: xs => (insB_perm x _).trans ((sortB_perm xs).cons x)
theorem insB_srtd (O : SrtO.Swo lt) (x : α) : ∀ {l : List α}, SrtO.Srtd lt l → SrtO.Srtd lt (insB lt x l)
  | [], _ => List.pairwise_singleton _ _
  | y :: ys, h => by
    unfold insB
    split
    · rename_i c
      refine List.pairwise_cons.mpr ⟨fun z hz => ?_, insB_srtd O x (List.pairwise_cons.mp h).2⟩
      rcases List.mem_cons.mp ((insB_perm x ys).mem_iff.mp hz) with e | e
      · rw [e]; exact O.asym _ _ c
      · exact SrtO.srtd_head h z e
    · rename_i c
      refine List.pairwise_cons.mpr ⟨fun z hz => ?_, h⟩
      have c' : lt y x = false := by simpa using c
      rcases List.mem_cons.mp hz with e | e
      · rw [e]; exact c'
      · exact O.tr x y z c' (SrtO.srtd_head h z e)
theorem sortB_srtd (O : SrtO.Swo lt) : ∀ l : List α, SrtO.Srtd lt (sortB lt l)
  | [] => List.Pairwise.nil
  | x :: xs => insB_srtd O x (sortB_srtd O xs)
theorem srtd_uniq (O : SrtO.Swo lt) (T : ∀ a b, lt a b = false → lt b a = false → a = b) : ∀ {l m : List α}, SrtO.Srtd lt l → SrtO.Srtd lt m → l.Perm m → l = m
  | [], m, _, _, p => (List.Perm.eq_nil p.symm).symm
  | x :: l, [], _, _, p => absurd p.length_eq (by simp)
  | x :: l, y :: m, hl, hm, p => by
    have h1 : lt x y = false := by
      rcases List.mem_cons.mp (p.mem_iff.mp (List.mem_cons_self (a := x) (l := l))) with e | hx
      · rw [e]; exact O.refl y
      · exact SrtO.srtd_head hm x hx
    have h2 : lt y x = false := by
      rcases List.mem_cons.mp (p.mem_iff.mpr (List.mem_cons_self (a := y) (l := m))) with e | hy
      · rw [e]; exact O.refl x
      · exact SrtO.srtd_head hl y hy
    have e := T x y h1 h2
    subst e
    rw [srtd_uniq O T (List.pairwise_cons.mp hl).2 (List.pairwise_cons.mp hm).2 p.cons_inv]
theorem sortB_uniq (O : SrtO.Swo lt) (T : ∀ a b, lt a b = false → lt b a = false → a = b) {l m : List α} (h : SrtO.Srtd lt l) (p : l.Perm m) : l = sortB lt m :=
  srtd_uniq O T h (sortB_srtd O m) (p.trans (sortB_perm m).symm)
end
theorem swoI : SrtO.Swo (fun a b : Int => decide (a < b)) := ⟨fun x y h => decide_eq_false (by have := of_decide_eq_true h; omega), fun x y z h1 h2 => decide_eq_false (by have := of_decide_eq_false h1; have := of_decide_eq_false h2; omega)⟩
theorem totI (a b : Int) (h1 : decide (a < b) = false) (h2 : decide (b < a) = false) : a = b := by
  have := of_decide_eq_false h1; have := of_decide_eq_false h2; omega
theorem swoL : SrtO.Swo lexLtB := ⟨fun _ _ h => lexLtB_asym _ _ h, fun _ _ _ h1 h2 => lexLtB_tr _ _ _ h1 h2⟩
theorem sortI_uniq {l m : List Int} (h : l.Pairwise (· ≤ ·)) (p : l.Perm m) : l = sortB (fun a b => decide (a < b)) m :=
  sortB_uniq swoI totI (h.imp fun {a b} q => decide_eq_false (by omega)) p

section
variable {g : Gx} {ρ : List Addr} {A : Addr → Prop} {H : Hp}
theorem RpL.ofInts : ∀ ns : List Int, RpL g ρ A H (ns.map V.int) (dI ns)
  | [] => .nil
  | n :: ns => .cons (.int n) (RpL.ofInts ns)
theorem dI_length (ns : List Int) : (dI ns).length = ns.length := by unfold dI; rw [List.length_map]
theorem ints_dI : ∀ ns : List Int, D.ints (dI ns) = some ns
  | [] => rfl
  | n :: ns => by
    show (D.ints (dI ns)).map (n :: ·) = _
    rw [ints_dI ns]; rfl
theorem dI_of_ints : ∀ {ds : List D} {ns : List Int}, D.ints ds = some ns → ds = dI ns
  | [], ns, h => by simp [D.ints] at h; subst h; rfl
  | d :: ds, ns, h => by
    cases d <;> simp only [D.ints, Option.map_eq_some_iff, reduceCtorEq] at h
    obtain ⟨ms, e, rfl⟩ := h
    rw [dI_of_ints e]; rfl
theorem itOf_some {d : D} {ns : List Int} (h : itOf d = some ns) : d = .tup (dI ns) ∧ ns ≠ [] := by
  unfold itOf at h
  split at h
  · rename_i x xs
    have e := dI_of_ints h
    refine ⟨by rw [e], fun z => ?_⟩
    subst z
    cases e
  · cases h
theorem itsOf_some : ∀ {ds : List D} {nss : List (List Int)}, itsOf ds = some nss → ds = nss.map (fun ns => .tup (dI ns)) ∧ ∀ ns ∈ nss, ns ≠ []
  | [], nss, h => by simp [itsOf] at h; subst h; exact ⟨rfl, fun _ h => nomatch h⟩
  | d :: ds, nss, h => by
    simp only [itsOf, Option.bind_eq_some_iff, Option.map_eq_some_iff] at h
    obtain ⟨n, h1, r, h2, rfl⟩ := h
    obtain ⟨e1, e2⟩ := itOf_some h1
    obtain ⟨e3, e4⟩ := itsOf_some h2
    refine ⟨by rw [e1, e3]; rfl, fun ns hns => ?_⟩
    rcases List.mem_cons.mp hns with rfl | hns
    · exact e2
    · exact e4 ns hns
theorem RpL.its : ∀ {vs : List V} {nss : List (List Int)}, RpL g ρ A H vs (nss.map fun ns => .tup (dI ns)) → ∀ v ∈ vs, ∃ t ns, v = .ref t ∧ ns ∈ nss ∧ SqT g.K H t (ns.map V.int)
  | [], _, _, v, hv => nomatch hv
  | w :: vs, [], h, v, hv => by cases h
  | w :: vs, ns :: nss, h, v, hv => by
    cases h with
    | cons h r =>
      rcases List.mem_cons.mp hv with rfl | hv
      · obtain ⟨a, xs, rfl, ha, ra, _⟩ := h.td
        rw [ra.ints (ints_dI ns)] at ha
        exact ⟨a, ns, rfl, List.mem_cons_self, ha⟩
      · obtain ⟨t, ms, h1, h2, h3⟩ := RpL.its r v hv
        exact ⟨t, ms, h1, List.mem_cons_of_mem _ h2, h3⟩
theorem RpL.keyed (k : V → List Int) : ∀ {vs : List V} {nss : List (List Int)}, (∀ (v : V) (t : Addr) (ns : List Int), v ∈ vs → v = .ref t → SqT g.K H t (ns.map V.int) → k v = ns) → RpL g ρ A H vs (nss.map fun ns => .tup (dI ns)) → vs.map k = nss
  | [], [], _, _ => rfl
  | [], _ :: _, _, h => by cases h
  | _ :: _, [], _, h => by cases h
  | w :: vs, ns :: nss, hk, h => by
    cases h with
    | cons h r =>
      obtain ⟨a, xs, rfl, ha, ra, _⟩ := h.td
      rw [ra.ints (ints_dI ns)] at ha
      rw [List.map_cons, hk _ a ns List.mem_cons_self rfl ha, RpL.keyed k (fun v t ns hv => hk v t ns (List.mem_cons_of_mem _ hv)) r]
theorem RpL.ofKeyed (k : V → List Int) : ∀ {ys : List V}, (∀ y ∈ ys, ∃ t, y = .ref t ∧ SqT g.K H t ((k y).map V.int) ∧ (k y).length ≤ line) → RpL g ρ A H ys ((ys.map k).map fun ns => .tup (dI ns))
  | [], _ => .nil
  | y :: ys, h => by
    obtain ⟨t, e, ht, hl⟩ := h y List.mem_cons_self
    refine .cons ?_ (RpL.ofKeyed k fun z hz => h z (List.mem_cons_of_mem _ hz))
    rw [e] at ht ⊢
    exact .tup ht (.ofInts _) (by rw [dI_length, ← e]; exact hl)
end
theorem mapInt_inj : ∀ {a b : List Int}, a.map V.int = b.map V.int → a = b
  | [], [], _ => rfl
  | [], _ :: _, h => by simp at h
  | _ :: _, [], h => by simp at h
  | x :: a, y :: b, h => by
    simp only [List.map_cons, List.cons.injEq, V.int.injEq] at h
    rw [h.1, mapInt_inj h.2]
section
variable {X : Cx} {g : Gx}
theorem sorted_D (hK : X.K = g.K) : CallR X (.builtin "sorted") (fun xs H Q => ∃ B ρ S x d ds es, xs = [x] ∧ (d = .lst ds ∨ d = .tup ds) ∧ StoR g H ρ S ∧ Rp g ρ (Al ρ B) H x d ∧ Bok B H ∧ sortEv ds = some es ∧ ∀ v H', Got g B H ρ v (.lst es) true H' ρ S → Q v H') := by
  intro pins s σ H xs us Q I r h
  obtain ⟨B, ρ, S, x, d, ds, es, rfl, hd, sS, hx, hB, hz, q⟩ := h
  obtain ⟨a, ws, rfl, ha, ra, la⟩ : ∃ a ws, x = .ref a ∧ (SqL X.K H a ws ∨ SqT X.K H a ws) ∧ RpL g ρ (Al ρ B) H ws ds ∧ ds.length ≤ line := by
    rcases hd with rfl | rfl
    · obtain ⟨a, ws, rfl, ha, ra, la⟩ := hx.rd
      exact ⟨a, ws, rfl, .inl (.inl ha), ra, la⟩
    · obtain ⟨a, ws, rfl, ha, ra, la⟩ := hx.td
      exact ⟨a, ws, rfl, .inr (by rw [hK]; exact ha), ra, la⟩
  unfold sortEv at hz
  split at hz
  · rename_i ns e
    cases hz
    rw [ra.ints e] at ha
    refine cr_sortI pins s σ H _ us Q I r ⟨a, ns, rfl, ha, fun ns' p hp hs hf => ?_⟩
    rw [sortI_uniq hs hp]
    refine q _ _ (.lst hB sS (.ofInts _) ?_ hf)
    rw [dI_length, (sortB_perm ns).length_eq, ← dI_length, ← dI_of_ints e]
    exact la
  · obtain ⟨nss, e, rfl⟩ := Option.map_eq_some_iff.mp hz
    obtain ⟨rfl, hne⟩ := itsOf_some e
    have key : ∀ v : V, ∃ k : List Int, ∀ (t : Addr) (ns : List Int), v = .ref t → SqT g.K H t (ns.map V.int) → k = ns := fun v => by
      by_cases c : ∃ (t : Addr) (ns : List Int), v = .ref t ∧ SqT g.K H t (ns.map V.int)
      · obtain ⟨t, ns, rfl, ht⟩ := c
        refine ⟨ns, fun t' ms e ht' => ?_⟩
        cases e
        have e2 := I.tuple_inj (by rw [hK]; exact ht) (by rw [hK]; exact ht')
        exact mapInt_inj e2
      · exact ⟨[], fun t ns e ht => absurd ⟨t, ns, e, ht⟩ c⟩
    have hk : ∀ (v : V) (t : Addr) (ns : List Int), v = .ref t → SqT g.K H t (ns.map V.int) → Classical.choose (key v) = ns := fun v => Classical.choose_spec (key v)
    have kd := RpL.keyed (fun v => Classical.choose (key v)) (fun v t ns _ => hk v t ns) ra
    have hall : ∀ y ∈ ws, ∃ t, y = .ref t ∧ SqT g.K H t ((Classical.choose (key y)).map V.int) ∧ Classical.choose (key y) ≠ [] ∧ (Classical.choose (key y)).length ≤ line := fun y hy => by
      obtain ⟨t, ns, e, h1, h2⟩ := RpL.its ra y hy
      have e2 := hk y t ns e h2
      refine ⟨t, e, by rw [e2]; exact h2, by rw [e2]; exact hne ns h1, ?_⟩
      obtain ⟨its, rv, _, hz⟩ := I.tuple (show SqT X.K H t (ns.map V.int) by rw [hK]; exact h2)
      rw [e2, line_eq]
      rw [List.length_map] at hz
      exact hz
    refine cr_sortT pins s σ H _ us Q I r ⟨a, ws, fun v => Classical.choose (key v), rfl, ha, fun y hy => ?_, fun ys p hs hp hf => ?_⟩
    · obtain ⟨t, e, h1, h2, _⟩ := hall y hy
      exact ⟨t, e, by rw [hK]; exact h1, h2⟩
    · have e3 : ys.map (fun v => Classical.choose (key v)) = sortB lexLtB nss := by
        refine sortB_uniq swoL lexLtB_total (SrtO.srtd_map hs) ?_
        have := hp.map (fun v => Classical.choose (key v))
        rw [kd] at this
        exact this
      have rr := RpL.ofKeyed (g := g) (ρ := ρ) (A := Al ρ B) (H := H) (fun v => Classical.choose (key v)) (ys := ys) fun y hy => by
        obtain ⟨t, e, h1, _, h3⟩ := hall y (hp.mem_iff.mp hy)
        exact ⟨t, e, h1, h3⟩
      rw [e3] at rr
      refine q _ _ (.lst hB sS rr ?_ hf)
      rw [List.length_map, (sortB_perm nss).length_eq]
      rw [List.length_map] at la
      exact la
end
end Pz

set_option Elab.async false
set_option linter.all false
set_option autoImplicit false
set_option maxRecDepth 100000
set_option maxHeartbeats 1000000
/-! Pz, part H: built-in functions by the data. -/
namespace Pz
open PySem PySem.Spec PyProof.Rows L2
theorem maxB_spec : ∀ (ns : List Int) (n : Int), (maxB ns n = n ∨ maxB ns n ∈ ns) ∧ n ≤ maxB ns n ∧ ∀ y ∈ ns, y ≤ maxB ns n
  | [], n => ⟨.inl rfl, Int.le_refl _, fun _ h => nomatch h⟩
  | x :: xs, n => by
    have ih := maxB_spec xs (if n < x then x else n)
    have e : maxB (x :: xs) n = maxB xs (if n < x then x else n) := rfl
    rw [e]
    obtain ⟨h1, h2, h3⟩ := ih
    by_cases c : n < x
    · rw [if_pos c] at h1 h2 h3 ⊢
      refine ⟨.inr ?_, by omega, fun y hy => ?_⟩
      · rcases h1 with h1 | h1
        · rw [h1]; exact List.mem_cons_self
        · exact List.mem_cons_of_mem _ h1
      · rcases List.mem_cons.mp hy with rfl | hy
        · exact h2
        · exact h3 y hy
    · rw [if_neg c] at h1 h2 h3 ⊢
      refine ⟨h1.imp_right (List.mem_cons_of_mem _), h2, fun y hy => ?_⟩
      rcases List.mem_cons.mp hy with rfl | hy
      · omega
      · exact h3 y hy
theorem minB_spec : ∀ (ns : List Int) (n : Int), (minB ns n = n ∨ minB ns n ∈ ns) ∧ minB ns n ≤ n ∧ ∀ y ∈ ns, minB ns n ≤ y
  | [], n => ⟨.inl rfl, Int.le_refl _, fun _ h => nomatch h⟩
  | x :: xs, n => by
    have ih := minB_spec xs (if x < n then x else n)
    have e : minB (x :: xs) n = minB xs (if x < n then x else n) := rfl
    rw [e]
    obtain ⟨h1, h2, h3⟩ := ih
    by_cases c : x < n
    · rw [if_pos c] at h1 h2 h3 ⊢
      refine ⟨.inr ?_, by omega, fun y hy => ?_⟩
      · rcases h1 with h1 | h1
        · rw [h1]; exact List.mem_cons_self
        · exact List.mem_cons_of_mem _ h1
      · rcases List.mem_cons.mp hy with rfl | hy
        · exact h2
        · exact h3 y hy
    · rw [if_neg c] at h1 h2 h3 ⊢
      refine ⟨h1.imp_right (List.mem_cons_of_mem _), h2, fun y hy => ?_⟩
      rcases List.mem_cons.mp hy with rfl | hy
      · omega
      · exact h3 y hy
theorem le_antis {m k : Int} {ns : List Int} (hm : m ∈ ns) (hk : k ∈ ns) (h1 : ∀ y, y ∈ ns → y ≤ m) (h2 : ∀ y, y ∈ ns → y ≤ k) : m = k := Int.le_antisymm (h2 m hm) (h1 k hk)
def biN : Bi → String
  | .len => "len" | .abs => "abs" | .list => "list" | .tuple => "tuple" | .sorted => "sorted" | .int => "int" | .all => "all" | .any => "any" | .sum => "sum" | .max => "max" | .min => "min"
/-- a class, not a function -/
def biT : Bi → Bool
  | .list => true | .tuple => true | .int => true | _ => false
def biF (b : Bi) : Value := if biT b then .type (biN b) else .builtin (biN b)
def rBi (g : Gx) (b : Bi) : List V → Hp → VK → Prop := fun xs H Q => ∃ B ρ S ds z, StoR g H ρ S ∧ RpL g ρ (Al ρ B) H xs ds ∧ Bok B H ∧ biEv b ds = some z ∧ ∀ v H', Got g B H ρ v z.1 z.2 H' ρ S → Q v H'
section
variable {X : Cx} {g : Gx}
theorem RpL.one {ρ : List Addr} {A : Addr → Prop} {H : Hp} {xs : List V} {d : D} (h : RpL g ρ A H xs [d]) : ∃ x, xs = [x] ∧ Rp g ρ A H x d := by
  cases h with
  | cons h r => cases r; exact ⟨_, rfl, h⟩
theorem RpL.two {ρ : List Addr} {A : Addr → Prop} {H : Hp} {xs : List V} {d e : D} (h : RpL g ρ A H xs [d, e]) : ∃ x y, xs = [x, y] ∧ Rp g ρ A H x d ∧ Rp g ρ A H y e := by
  cases h with
  | cons h r =>
    cases r with
    | cons h2 r => cases r; exact ⟨_, _, rfl, h, h2⟩
theorem bi_ok (hK : X.K = g.K) (hc : X.calm = true) (b : Bi) : CallR X (biF b) (rBi g b) := by
  intro pins s σ H xs us Q I r h
  obtain ⟨B, ρ, S, ds, z, sS, hd, hB, hz, q⟩ := h
  unfold biEv at hz
  split at hz
  · cases hz
    obtain ⟨x, rfl, hx⟩ := hd.one
    obtain ⟨a, ws, rfl, ha, ra, _⟩ := hx.td
    refine call_len_seq pins s σ H _ us Q I r ⟨a, ws, rfl, .inr (by rw [hK]; exact ha), ?_⟩
    rw [ra.length]
    exact q _ _ (.same sS (.int _))
  · cases hz
    obtain ⟨x, rfl, hx⟩ := hd.one
    obtain ⟨a, ws, rfl, ha, ra, _⟩ := hx.rd
    refine call_len_seq pins s σ H _ us Q I r ⟨a, ws, rfl, .inl (.inl ha), ?_⟩
    rw [ra.length]
    exact q _ _ (.same sS (.int _))
  · split at hz
    · rename_i hl
      cases hz
      obtain ⟨x, rfl, hx⟩ := hd.one
      cases hx
      exact call_len_str pins s σ H _ us Q I r ⟨_, rfl, by rw [← line_eq]; exact hl, q _ _ (.same sS (.int _))⟩
    · cases hz
  · cases hz
    obtain ⟨x, rfl, hx⟩ := hd.one
    cases hx
    exact call_abs pins s σ H _ us Q I r ⟨_, rfl, q _ _ (.same sS (.int _))⟩
  · cases hz
    obtain ⟨x, rfl, hx⟩ := hd.one
    obtain ⟨a, ws, rfl, ha, ra, la⟩ := hx.td
    exact call_list_of pins s σ H _ us Q I r ⟨a, ws, rfl, .inr (by rw [hK]; exact ha), fun l hl => q _ _ (.lst hB sS ra la hl)⟩
  · cases hz
    obtain ⟨x, rfl, hx⟩ := hd.one
    obtain ⟨a, ws, rfl, ha, ra, la⟩ := hx.rd
    exact call_list_of pins s σ H _ us Q I r ⟨a, ws, rfl, .inl (.inl ha), fun l hl => q _ _ (.lst hB sS ra la hl)⟩
  · cases hz
    rename_i ns
    obtain ⟨x, rfl, hx⟩ := hd.one
    have hS : ∃ a, x = .ref a ∧ SqL g.K H a (ns.map V.int) ∧ ns.length ≤ line := by
      cases hx with
      | scr h l => exact ⟨_, rfl, h.elim (fun ⟨o, h⟩ => .inl (.inr ⟨o, h⟩)) .inr, l⟩
    obtain ⟨a, rfl, ha, la⟩ := hS
    have ra : ∀ ns : List Int, RpL g ρ (Al ρ B) H (ns.map V.int) (ns.map D.int) := fun ns => by
      induction ns with
      | nil => exact .nil
      | cons n ns ih => exact .cons (.int n) ih
    exact call_list_of pins s σ H _ us Q I r ⟨a, _, rfl, .inl (by rw [hK]; exact ha), fun l hl => q _ _ (.lst hB sS (ra ns) (by rw [List.length_map]; exact la) hl)⟩
  · cases hz
    obtain ⟨x, rfl, hx⟩ := hd.one
    obtain ⟨a, ws, rfl, ha, ra, la⟩ := hx.td
    exact call_tuple_of pins s σ H _ us Q I r ⟨a, ws, rfl, .inr ⟨by rw [hK]; exact ha, q _ _ (.same sS hx)⟩⟩
  · cases hz
    obtain ⟨x, rfl, hx⟩ := hd.one
    obtain ⟨a, ws, rfl, ha, ra, la⟩ := hx.rd
    exact call_tuple_of pins s σ H _ us Q I r ⟨a, ws, rfl, .inl ⟨.inl ha, fun l hl => q _ _ (.tup sS ra la hl)⟩⟩
  · obtain ⟨es, he, rfl⟩ := Option.map_eq_some_iff.mp hz
    obtain ⟨x, rfl, hx⟩ := hd.one
    exact sorted_D hK pins s σ H _ us Q I r ⟨B, ρ, S, x, _, _, es, rfl, .inl rfl, sS, hx, hB, he, q⟩
  · obtain ⟨es, he, rfl⟩ := Option.map_eq_some_iff.mp hz
    obtain ⟨x, rfl, hx⟩ := hd.one
    exact sorted_D hK pins s σ H _ us Q I r ⟨B, ρ, S, x, _, _, es, rfl, .inr rfl, sS, hx, hB, he, q⟩
  · cases hz
    obtain ⟨x, rfl, hx⟩ := hd.one
    cases hx
    exact call_int1 pins s σ H _ us Q I r (.inl ⟨_, rfl, q _ _ (.same sS (.int _))⟩)
  · cases hz
    obtain ⟨x, rfl, hx⟩ := hd.one
    cases hx
    exact call_int1 pins s σ H _ us Q I r (.inr ⟨_, rfl, q _ _ (.same sS (.int _))⟩)
  · obtain ⟨bs, he, rfl⟩ := Option.map_eq_some_iff.mp hz
    obtain ⟨x, rfl, hx⟩ := hd.one
    obtain ⟨a, ws, rfl, ha, ra, la⟩ := hx.rd
    rw [ra.bls he] at ha
    exact cr_all hc pins s σ H _ us Q I r ⟨a, bs, rfl, .inl ha, q _ _ (.same sS (.bl _))⟩
  · obtain ⟨bs, he, rfl⟩ := Option.map_eq_some_iff.mp hz
    obtain ⟨x, rfl, hx⟩ := hd.one
    obtain ⟨a, ws, rfl, ha, ra, la⟩ := hx.rd
    rw [ra.bls he] at ha
    exact cr_any hc pins s σ H _ us Q I r ⟨a, bs, rfl, .inl ha, q _ _ (.same sS (.bl _))⟩
  · obtain ⟨bs, he, rfl⟩ := Option.map_eq_some_iff.mp hz
    obtain ⟨x, rfl, hx⟩ := hd.one
    obtain ⟨a, ws, rfl, ha, ra, la⟩ := hx.rd
    rw [ra.ints he] at ha
    exact cr_sum hc pins s σ H _ us Q I r ⟨a, bs, rfl, .inl ha, q _ _ (.same sS (.int _))⟩
  · split at hz
    · rename_i n ns he
      cases hz
      obtain ⟨x, rfl, hx⟩ := hd.one
      obtain ⟨a, ws, rfl, ha, ra, la⟩ := hx.rd
      rw [ra.ints he] at ha
      refine cr_max hc pins s σ H _ us Q I r ⟨a, n :: ns, rfl, .inl ha, by simp, fun m hm hle => ?_⟩
      obtain ⟨h1, h2, h3⟩ := maxB_spec ns n
      have hk : maxB ns n ∈ n :: ns := by
        rcases h1 with h1 | h1
        · rw [h1]; exact List.mem_cons_self
        · exact List.mem_cons_of_mem _ h1
      have : m = maxB ns n := le_antis hm hk hle fun y hy => by
        rcases List.mem_cons.mp hy with rfl | hy
        · exact h2
        · exact h3 y hy
      rw [this]
      exact q _ _ (.same sS (.int _))
    · cases hz
  · split at hz
    · rename_i n ns he
      cases hz
      obtain ⟨x, rfl, hx⟩ := hd.one
      obtain ⟨a, ws, rfl, ha, ra, la⟩ := hx.rd
      rw [ra.ints he] at ha
      refine cr_min hc pins s σ H _ us Q I r ⟨a, n :: ns, rfl, .inl ha, by simp, fun m hm hle => ?_⟩
      obtain ⟨h1, h2, h3⟩ := minB_spec ns n
      have hk : minB ns n ∈ n :: ns := by
        rcases h1 with h1 | h1
        · rw [h1]; exact List.mem_cons_self
        · exact List.mem_cons_of_mem _ h1
      have : m = minB ns n := Int.le_antisymm (hle _ hk) (by
        rcases List.mem_cons.mp hm with rfl | hm
        · exact h2
        · exact h3 m hm)
      rw [this]
      exact q _ _ (.same sS (.int _))
    · cases hz
  · cases hz
    obtain ⟨x, y, rfl, hx, hy⟩ := hd.two
    cases hx; cases hy
    exact call_max2 hc pins s σ H _ us Q I r ⟨_, _, rfl, q _ _ (.same sS (.int _))⟩
  · cases hz
    obtain ⟨x, y, rfl, hx, hy⟩ := hd.two
    cases hx; cases hy
    exact call_min2 hc pins s σ H _ us Q I r ⟨_, _, rfl, q _ _ (.same sS (.int _))⟩
  · cases hz
end
end Pz

set_option Elab.async false
set_option linter.all false
set_option autoImplicit false
set_option maxRecDepth 100000
set_option maxHeartbeats 1000000
/-! Pz, part I: expressions, piece by piece. -/
namespace Pz
open PySem PySem.Spec PyProof.Rows L2
section
variable {X : Cx} {g : Gx} {W : WX} {B : Addr → Prop} {E : Env} {S : Sto} {ρ : List Addr} {σ : L2.St} {H : Hp}
theorem Fresh.back {H2 H' : Hp} {ρ2 ρ' : List Addr} {v : V} (h : Fresh H2 H' ρ' v) (e : Ext H ρ H2 ρ2) : Fresh H H' ρ' v := by
  obtain ⟨a, xs, h1, h2, h3, h4⟩ := h
  exact ⟨a, xs, h1, e.dom a h2, h3, h4⟩
theorem Fresh.go {H2 H' : Hp} {ρ2 ρ' : List Addr} {v : V} (h : Fresh H H2 ρ2 v) (e : Ext H2 ρ2 H' ρ') : Fresh H H' ρ' v := by
  obtain ⟨a, xs, h1, h2, h3, h4⟩ := h
  refine ⟨a, xs, h1, h2, e.keep a _ h3 h4 (fun _ z => by cases z), fun z => ?_⟩
  exact nd.no h3 (e.new a z h4)
theorem Got.base {H1 H' : Hp} {ρ1 ρ' : List Addr} {v : V} {d : D} {o : Bool} {S' : Sto} (G : Got g B H1 ρ1 v d o H' ρ' S') (e : Ext H ρ H1 ρ1) : Got g B H ρ v d o H' ρ' S' := ⟨e.trans G.ext, G.sto, G.rep, fun z => (G.own z).back e⟩
theorem tE.mk {β : Type} {f : FE (D × Bool × Sto)} {k : D × Bool × Sto → R β} {P : β → Prop} {Q : VK} (s0 : St0 g B σ H E S ρ) (h : post g W σ H ρ ((f E S).bind k) P)
    (c : ∀ p v H' ρ', Got g B H ρ v p.1 p.2.1 H' ρ' p.2.2 → St0 g B σ H' E p.2.2 ρ' → post g W σ H' ρ' (k p) P → Q v H') : tE g W f σ H Q :=
  ⟨B, E, S, ρ, s0, (post_bind h).imp fun p _ hp v H' ρ' G => c p v H' ρ' G (s0.go G.ext G.sto) (post.go hp G.ext fun _ z => z)⟩
theorem tE.mk1 {f : FE (D × Bool × Sto)} {P : D × Bool × Sto → Prop} {Q : VK} (s0 : St0 g B σ H E S ρ) (h : post g W σ H ρ (f E S) P)
    (c : ∀ p v H' ρ', Got g B H ρ v p.1 p.2.1 H' ρ' p.2.2 → St0 g B σ H' E p.2.2 ρ' → P p → Q v H') : tE g W f σ H Q :=
  ⟨B, E, S, ρ, s0, h.imp fun p _ hp v H' ρ' G => c p v H' ρ' G (s0.go G.ext G.sto) hp⟩
theorem tT.mk {β : Type} {f : FE (Bool × Sto)} {k : Bool × Sto → R β} {P : β → Prop} {Q : Bool → Hp → Prop} (s0 : St0 g B σ H E S ρ) (h : post g W σ H ρ ((f E S).bind k) P)
    (c : ∀ p H' ρ', Ext H ρ H' ρ' → St0 g B σ H' E p.2 ρ' → post g W σ H' ρ' (k p) P → Q p.1 H') : tT g W f σ H Q :=
  ⟨B, E, S, ρ, s0, (post_bind h).imp fun p _ hp H' ρ' e s => c p H' ρ' e (s0.go e s) (post.go hp e fun _ z => z)⟩
theorem tT.mk1 {f : FE (Bool × Sto)} {P : Bool × Sto → Prop} {Q : Bool → Hp → Prop} (s0 : St0 g B σ H E S ρ) (h : post g W σ H ρ (f E S) P)
    (c : ∀ p H' ρ', Ext H ρ H' ρ' → St0 g B σ H' E p.2 ρ' → P p → Q p.1 H') : tT g W f σ H Q :=
  ⟨B, E, S, ρ, s0, h.imp fun p _ hp H' ρ' e s => c p H' ρ' e (s0.go e s) hp⟩
theorem tA.mk {β : Type} {f : FE (List (D × Bool) × Sto)} {k : List (D × Bool) × Sto → R β} {P : β → Prop} {Q : List V → Hp → Prop} (s0 : St0 g B σ H E S ρ) (h : post g W σ H ρ ((f E S).bind k) P)
    (c : ∀ p vs H' ρ', GotL g B H ρ vs (p.1.map (·.1)) H' ρ' p.2 → FreshL H H' ρ' p.1 vs → St0 g B σ H' E p.2 ρ' → post g W σ H' ρ' (k p) P → Q vs H') : tA g W f σ H Q :=
  ⟨B, E, S, ρ, s0, (post_bind h).imp fun p _ hp vs H' ρ' G F => c p vs H' ρ' G F (s0.go G.ext G.sto) (post.go hp G.ext fun _ z => z)⟩
/-- the end of a piece whose value is as it was -/
abbrev PV (g : Gx) (B : Addr → Prop) (H : Hp) (ρ : List Addr) (Q : VK) : D × Bool × Sto → Prop := fun p => ∀ v H' ρ', Got g B H ρ v p.1 p.2.1 H' ρ' p.2.2 → Q v H'
abbrev PB (g : Gx) (H : Hp) (ρ : List Addr) (Q : Bool → Hp → Prop) : Bool × Sto → Prop := fun p => ∀ H' ρ', Ext H ρ H' ρ' → StoR g H' ρ' p.2 → Q p.1 H'
abbrev evT (f : FE (D × Bool × Sto)) : FE (Bool × Sto) := fun E S => (f E S).bind fun p => (R.of p.1.tru).bind fun c => .ok (c, p.2.2)
end
section
variable {X : Cx} {g : Gx} {W : WX} {a b c e : Expr} {fa fb fc : FE (D × Bool × Sto)} {pos : Pos}
/-! ### operators -/
theorem e_bin {op : Operator} {F : D → D → Option (D × Bool)} (ho : OpR X (binaryOp op) (r2 g F)) (ha : PE X a (tE g W fa)) (hb : PE X b (tE g W fb)) :
    PE X (.BinOp a op b pos) (tE g W fun E S => (fa E S).bind fun x => (fb E x.2.2).bind fun y => (R.of (F x.1 y.1)).bind fun z => .ok (z.1, z.2, y.2.2)) := by
  refine PE.imp (pe_op ho ha hb) fun σ H Q h => ?_
  obtain ⟨B, E, S, ρ, s0, h⟩ := h
  refine tE.mk s0 h fun p v H1 ρ1 G1 s1 h1 => tE.mk s1 h1 fun q u H2 ρ2 G2 s2 h2 => ?_
  obtain ⟨z, hz, hP⟩ := post_of (post_bind h2)
  exact ⟨B, ρ2, q.2.2, p.1, q.1, z, s2.sto, G1.rep.ext G2.ext, G2.rep, s2.bok, hz, fun w H' G => hP w H' ρ2 (G.base (G1.ext.trans G2.ext))⟩
theorem e_neg (ha : PE X a (tE g W fa)) : PE X (.UnaryOp .USub a pos) (tE g W fun E S => (fa E S).bind fun x => match x.1 with
    | .int i => .ok (.int (-i), false, x.2.2)
    | _ => .bad) := by
  refine PE.imp (pe_un un_neg ha) fun σ H Q h => ?_
  obtain ⟨B, E, S, ρ, s0, h⟩ := h
  refine tE.mk s0 h fun p v H1 ρ1 G1 s1 h1 => ?_
  obtain ⟨d, o, S1⟩ := p
  cases d <;> try exact h1.elim
  rename_i i
  have hr := G1.rep
  cases hr
  exact ⟨i, rfl, h1 _ _ ρ1 ⟨G1.ext, G1.sto, .int _, fun z => nomatch z⟩⟩
theorem e_cmp {op : CmpOp} {F : D → D → Option Bool} (ho : OpR X (compareOp op) (r2b g F)) (ha : PE X a (tE g W fa)) (hb : PE X b (tE g W fb)) (hm : behindInMarks op b = false) :
    PE X (.Compare a [op] [b] pos) (tE g W fun E S => (fa E S).bind fun x => (fb E x.2.2).bind fun y => (R.of (F x.1 y.1)).bind fun z => .ok (.bl z, false, y.2.2)) := by
  refine PE.imp (pe_cmpR ho ha hb hm) fun σ H Q h => ?_
  obtain ⟨B, E, S, ρ, s0, h⟩ := h
  refine tE.mk s0 h fun p v H1 ρ1 G1 s1 h1 => tE.mk s1 h1 fun q u H2 ρ2 G2 s2 h2 => ?_
  obtain ⟨z, hz, hP⟩ := post_of (post_bind h2)
  exact ⟨B, ρ2, q.2.2, p.1, q.1, z, s2.sto, G1.rep.ext G2.ext, G2.rep, hz, hP _ H2 ρ2 ((Got.same s2.sto (.bl z)).base (G1.ext.trans G2.ext))⟩
theorem t_cmp {op : CmpOp} {F : D → D → Option Bool} (ho : OpR X (compareOp op) (r2b g F)) (ha : PE X a (tE g W fa)) (hb : PE X b (tE g W fb)) (hm : behindInMarks op b = false) :
    PT X (.Compare a [op] [b] pos) (tT g W (evT fun E S => (fa E S).bind fun x => (fb E x.2.2).bind fun y => (R.of (F x.1 y.1)).bind fun z => .ok (.bl z, false, y.2.2))) := by
  refine PT.imp (pt_cmpR ho ha hb hm) fun σ H Q h => ?_
  obtain ⟨B, E, S, ρ, s0, h⟩ := h
  have h := post_bind h
  show tOp _ _ _ σ H _
  refine tE.mk s0 h fun p v H1 ρ1 G1 s1 h1 => tE.mk s1 h1 fun q u H2 ρ2 G2 s2 h2 => ?_
  obtain ⟨z, hz, hP⟩ := post_of (post_bind h2)
  exact ⟨B, ρ2, q.2.2, p.1, q.1, z, s2.sto, G1.rep.ext G2.ext, G2.rep, hz, z, rfl, hP H2 ρ2 (G1.ext.trans G2.ext) s2.sto⟩
theorem lastM2 {op op' : CmpOp} {b c : Expr} (h : behindInMarks op' c = false) : lastMarks [op, op'] [b, c] = false := h
theorem e_chn {op op' : CmpOp} {F F' : D → D → Option Bool} (ho : OpR X (compareOp op) (r2b g F)) (ho' : OpR X (compareOp op') (r2b g F')) (ha : PE X a (tE g W fa)) (hb : PE X b (tE g W fb)) (hc : PE X c (tE g W fc)) (hm : behindInMarks op' c = false) :
    PE X (.Compare a [op, op'] [b, c] pos) (tE g W fun E S => (fa E S).bind fun x => (fb E x.2.2).bind fun y => (R.of (F x.1 y.1)).bind fun z =>
      if z then (fc E y.2.2).bind fun u => (R.of (F' y.1 u.1)).bind fun z' => .ok (.bl z', false, u.2.2) else .ok (.bl false, false, y.2.2)) := by
  refine PE.imp (pe_chain ho ho' ha hb hc (lastM2 hm)) fun σ H Q h => ?_
  obtain ⟨B, E, S, ρ, s0, h⟩ := h
  refine tE.mk s0 h fun p v H1 ρ1 G1 s1 h1 => tE.mk s1 h1 fun q u H2 ρ2 G2 s2 h2 => ?_
  obtain ⟨z, hz, hP⟩ := post_of (post_bind h2)
  refine ⟨B, ρ2, q.2.2, p.1, q.1, z, s2.sto, G1.rep.ext G2.ext, G2.rep, hz, z, rfl, ?_⟩
  cases z with
  | true =>
    rw [if_pos rfl]
    rw [if_pos rfl] at hP
    refine tE.mk s2 hP fun r w H3 ρ3 G3 s3 h3 => ?_
    obtain ⟨z', hz', hP'⟩ := post_of (post_bind h3)
    exact ⟨B, ρ3, r.2.2, q.1, r.1, z', s3.sto, G2.rep.ext G3.ext, G3.rep, hz', hP' _ H3 ρ3 ((Got.same s3.sto (.bl z')).base ((G1.ext.trans G2.ext).trans G3.ext))⟩
  | false =>
    rw [if_neg Bool.false_ne_true]
    rw [if_neg Bool.false_ne_true] at hP
    exact hP _ H2 ρ2 ((Got.same s2.sto (.bl false)).base (G1.ext.trans G2.ext))
theorem t_chn {op op' : CmpOp} {F F' : D → D → Option Bool} (ho : OpR X (compareOp op) (r2b g F)) (ho' : OpR X (compareOp op') (r2b g F')) (ha : PE X a (tE g W fa)) (hb : PE X b (tE g W fb)) (hc : PE X c (tE g W fc)) (hm : behindInMarks op' c = false) :
    PT X (.Compare a [op, op'] [b, c] pos) (tT g W (evT fun E S => (fa E S).bind fun x => (fb E x.2.2).bind fun y => (R.of (F x.1 y.1)).bind fun z =>
      if z then (fc E y.2.2).bind fun u => (R.of (F' y.1 u.1)).bind fun z' => .ok (.bl z', false, u.2.2) else .ok (.bl false, false, y.2.2))) := by
  refine PT.imp (pt_chain ho ho' ha hb hc (lastM2 hm)) fun σ H Q h => ?_
  obtain ⟨B, E, S, ρ, s0, h⟩ := h
  have h := post_bind h
  show tChain _ _ _ _ _ σ H _
  refine tE.mk s0 h fun p v H1 ρ1 G1 s1 h1 => tE.mk s1 h1 fun q u H2 ρ2 G2 s2 h2 => ?_
  obtain ⟨z, hz, hP⟩ := post_of (post_bind h2)
  refine ⟨B, ρ2, q.2.2, p.1, q.1, z, s2.sto, G1.rep.ext G2.ext, G2.rep, hz, z, rfl, ?_⟩
  cases z with
  | true =>
    rw [if_pos rfl]
    rw [if_pos rfl] at hP
    refine tE.mk s2 hP fun r w H3 ρ3 G3 s3 h3 => ?_
    obtain ⟨z', hz', hP'⟩ := post_of (post_bind h3)
    exact ⟨B, ρ3, r.2.2, q.1, r.1, z', s3.sto, G2.rep.ext G3.ext, G3.rep, hz', z', rfl, hP' H3 ρ3 ((G1.ext.trans G2.ext).trans G3.ext) s3.sto⟩
  | false =>
    rw [if_neg Bool.false_ne_true]
    rw [if_neg Bool.false_ne_true] at hP
    exact ⟨false, rfl, hP H2 ρ2 (G1.ext.trans G2.ext) s2.sto⟩
/-! ### truth -/
theorem t_plain (hK : X.K = g.K) (ha : PE X a (tE g W fa)) (he : ∀ whole, isTrue a X.env whole = (do let v ← whole; standAt a.pos; holding [v] (truthy v))) : PT X a (tT g W (evT fa)) := by
  refine PT.imp (pt_truth ha he) fun σ H Q h => ?_
  obtain ⟨B, E, S, ρ, s0, h⟩ := h
  refine tE.mk s0 h fun p v H1 ρ1 G1 s1 h1 => ?_
  obtain ⟨k, hk, hP⟩ := post_of (post_bind h1)
  exact ⟨k, by rw [hK]; exact G1.rep.tru hk, hP H1 ρ1 G1.ext s1.sto⟩
theorem e_not (hK : X.K = g.K) (ha : PE X a (tE g W fa)) : PE X (.UnaryOp .Not a pos) (tE g W fun E S => (fa E S).bind fun x => (R.of x.1.tru).bind fun b => .ok (.bl (!b), false, x.2.2)) := by
  refine PE.imp (pe_notT ha) fun σ H Q h => ?_
  obtain ⟨B, E, S, ρ, s0, h⟩ := h
  refine tE.mk s0 h fun p v H1 ρ1 G1 s1 h1 => ?_
  obtain ⟨k, hk, hP⟩ := post_of (post_bind h1)
  exact ⟨k, by rw [hK]; exact G1.rep.tru hk, hP _ H1 ρ1 ((Got.same s1.sto (.bl _)).base G1.ext)⟩
theorem t_not (ha : PT X a (tT g W (evT fa))) : PT X (.UnaryOp .Not a pos) (tT g W (evT fun E S => (fa E S).bind fun x => (R.of x.1.tru).bind fun b => .ok (.bl (!b), false, x.2.2))) := by
  refine PT.imp (pt_not ha) fun σ H Q h => ?_
  obtain ⟨B, E, S, ρ, s0, h⟩ := h
  refine ⟨B, E, S, ρ, s0, ?_⟩
  dsimp only [evT] at h
  have h2 : post g W σ H ρ ((fa E S).bind fun p => (R.of p.1.tru).bind fun c => R.ok (c, p.2.2)) (PB g H ρ fun c H1 => Q (!c) H1) := by
    cases e : fa E S with
    | ex c S' => rw [e] at h; exact h
    | bad => rw [e] at h; exact h
    | ok p =>
      rw [e] at h
      cases e2 : p.1.tru with
      | none => simp only [R.bind_ok, e2, R.of, R.bind_bad] at h; exact h.elim
      | some k =>
        simp only [R.bind_ok, e2, R.of] at h ⊢
        exact h
  exact h2
theorem e_ife (hc : PT X c (tT g W (evT fc))) (ha : PE X a (tE g W fa)) (hb : PE X b (tE g W fb)) :
    PE X (.IfExp c a b pos) (tE g W fun E S => (fc E S).bind fun x => (R.of x.1.tru).bind fun c => if c then fa E x.2.2 else fb E x.2.2) := by
  refine PE.imp (pe_ifExp hc ha hb) fun σ H Q h => ?_
  obtain ⟨B, E, S, ρ, s0, h⟩ := h
  have h2 : post g W σ H ρ ((evT fc E S).bind fun x => if x.1 then fa E x.2 else fb E x.2) (PV g B H ρ Q) := by
    cases e : fc E S with
    | ex c S' => simp only [evT, e] at h ⊢; exact h
    | bad => simp only [evT, e] at h ⊢; exact h
    | ok p =>
      cases e2 : p.1.tru with
      | none => simp only [e, R.bind_ok, e2, R.of, R.bind_bad] at h; exact h.elim
      | some k => simp only [evT, e, R.bind_ok, e2, R.of] at h ⊢; exact h
  refine tT.mk s0 h2 fun x H1 ρ1 e1 s1 h1 => ?_
  obtain ⟨k, S1⟩ := x
  cases k with
  | true => exact ⟨B, E, S1, ρ1, s1, h1.imp fun p _ hp v H' ρ' G => hp v H' ρ' (G.base e1)⟩
  | false => exact ⟨B, E, S1, ρ1, s1, h1.imp fun p _ hp v H' ρ' G => hp v H' ρ' (G.base e1)⟩
/-! ### names, constants -/
theorem e_var {i : Nat} {x : Str} (hN : X.N[i]? = some x) (hv : Vis X.env.scope x) (hd : (x == ("__debug__" : Str)) = false) (hcd : (x == ("__classdict__" : Str)) = false) :
    PE X (.Name x pos) (tE g W fun E S => match E[i]? with
    | some (some p) => .ok (p.1, false, S)
    | _ => .bad) := by
  refine PE.imp (pe_var hN hv hd hcd) fun σ H Q h => ?_
  obtain ⟨B, E, S, ρ, s0, h⟩ := h
  dsimp only at h
  split at h
  · rename_i p e
    obtain ⟨v, h1, h2⟩ := s0.env.at_ i p.1 p.2 e
    exact ⟨v, h1, h v H ρ (.same s0.sto h2)⟩
  · exact h.elim
def conV : D → V
  | .non => .non | .bl b => .bl b | .int i => .int i | .str s => .str s | _ => .non
def isCon : D → Bool
  | .non => true | .bl _ => true | .int _ => true | .str _ => true | _ => false
theorem Rp.con {ρ : List Addr} {A : Addr → Prop} {H : Hp} {d : D} (h : isCon d = true) : Rp g ρ A H (conV d) d := by
  cases d <;> first | (cases h; done) | skip
  · exact .non
  · exact .bl _
  · exact .int _
  · exact .str _
theorem e_con {v : V} {d : D} (he : PE X e (tC v)) (hv : ∀ ρ A H, Rp g ρ A H v d) : PE X e (tE g W fun _ S => .ok (d, false, S)) := by
  refine PE.imp he fun σ H Q h => ?_
  obtain ⟨B, E, S, ρ, s0, h⟩ := h
  exact h v H ρ (.same s0.sto (hv _ _ _))
end
end Pz

set_option Elab.async false
set_option linter.all false
set_option autoImplicit false
set_option maxRecDepth 100000
set_option maxHeartbeats 1000000
/-! Pz, part J: argument lists, calls, subscripts, displays. -/
namespace Pz
open PySem PySem.Spec PyProof.Rows L2
section
variable {X : Cx} {g : Gx} {W : WX} {a b c e : Expr} {es : List Expr} {fa fb fc : FE (D × Bool × Sto)} {fs : FE (List (D × Bool) × Sto)} {pos : Pos}
theorem a_nil : PA X [] (tA g W fun _ S => .ok ([], S)) := by
  refine PA.imp pa_nil fun σ H Q h => ?_
  obtain ⟨B, E, S, ρ, s0, h⟩ := h
  exact h [] H ρ ⟨Ext.refl _ _, s0.sto, .nil⟩ fun i d hi => by simp at hi
theorem a_cons {e : Expr} {es : List Expr} (hs : starEach (e :: es) X.env = (false, eval e X.env) :: starEach es X.env) (he : PE X e (tE g W fa)) (hr : PA X es (tA g W fs)) :
    PA X (e :: es) (tA g W fun E S => (fa E S).bind fun p => (fs E p.2.2).bind fun q => .ok ((p.1, p.2.1) :: q.1, q.2)) := by
  refine PA.imp (pa_cons he hr hs) fun σ H Q h => ?_
  obtain ⟨B, E, S, ρ, s0, h⟩ := h
  refine tE.mk s0 h fun p v H1 ρ1 G1 s1 h1 => tA.mk s1 h1 fun q vs H2 ρ2 G2 F2 s2 h2 => ?_
  refine h2 (v :: vs) H2 ρ2 ⟨G1.ext.trans G2.ext, s2.sto, .cons (G1.rep.ext G2.ext) G2.rep⟩ fun i d hi => ?_
  -- a new list of the first one stood before those of the others
  have apart : ∀ {w : V} {k : Nat} {d' : D}, p.2.1 = true → q.1[k]? = some (d', true) → vs[k]? = some w → w ≠ v := fun {w k d'} hp hk hw e => by
    obtain ⟨a, xs, ev, h0, hx, hn⟩ := G1.own hp
    obtain ⟨w', hw', ⟨a', xs', ew, h0', _⟩, _⟩ := F2 k d' hk
    rw [hw] at hw'; cases hw'
    rw [ew, ev] at e
    cases e
    exact nd.no hx h0'
  cases i with
  | zero =>
    have hi : some (p.1, p.2.1) = some (d, true) := hi
    have e2 : p.2.1 = true := congrArg Prod.snd (Option.some.inj hi)
    refine ⟨v, rfl, (G1.own e2).go G2.ext, fun j hj d' hj' => ?_⟩
    cases j with
    | zero => exact absurd rfl hj
    | succ j => exact fun z => apart e2 hj' z rfl
  | succ i =>
    have hi : q.1[i]? = some (d, true) := hi
    obtain ⟨w, hw, hf, ha⟩ := F2 i d hi
    refine ⟨w, hw, hf.back G1.ext, fun j hj d' hj' => ?_⟩
    cases j with
    | zero =>
      have hj' : some (p.1, p.2.1) = some (d', true) := hj'
      have e2 : p.2.1 = true := congrArg Prod.snd (Option.some.inj hj')
      exact fun z => apart e2 hi hw (Option.some.inj z).symm
    | succ j => exact ha j (fun z => hj (by rw [z])) d' hj'
/-! ### calls -/
/-- what the j-th def promises, when it is told as cf j -/
def spF (g : Gx) (n : Nat) (F : List D → Sto → R (D × Bool × Sto)) : Sp := fun vs H Q Ex => ∃ B ds S ρ, vs.length = n ∧ RpL g ρ (Al ρ B) H vs ds ∧ StoR g H ρ S ∧ Bok B H ∧
  match F ds S with
  | .ok p => ∀ v H' ρ', Got g B H ρ v p.1 p.2.1 H' ρ' p.2.2 → Q v H'
  | .ex c S' => ∀ H' ρ', Ext H ρ H' ρ' → StoR g H' ρ' S' → Ex (.ref (g.ca c)) none H'
  | .bad => False
theorem e_call {x : Str} {p pos : Pos} {f : Addr} {fd : FuncData} {ps : List Str} {k : Nat} {F : List D → Sto → R (D × Bool × Sto)} (G : FnOk X.prog X.w X.K X.mg X.base (L2.CX X.prog X.w) k f fd ps (spF g ps.length F)) (hr : Room k X.A) (hg : Gl X x) (hm : X.mg x = some (.ref f)) (hk : PySem.W.keepIn X.K (.ref f) = true) (hb : L2.Binds X.K fd ps [])
    (tk : Takes X W) (ha : PA X (e :: es) (tA g W fs)) (hlen : ∀ E S p, fs E S = .ok p → p.1.length = ps.length) (hdb : (x == ("__debug__" : Str)) = false) (he : starEach (e :: es) X.env = (false, eval e X.env) :: starEach es X.env) (hpl : (backTo pos (starEach es X.env)).any (·.1) = false) :
    PE X (.Call (.Name x p) (e :: es) [] pos) (tE g W fun E S => (fs E S).bind fun p => F (p.1.map (·.1)) p.2) := by
  refine PE.imp (pe_callS (E := fun σ => WE W σ) G hr hg hm hk hb (fun σ => passAt tk σ) ha hdb he hpl) fun σ H Q h => ?_
  obtain ⟨B, E, S, ρ, s0, h⟩ := h
  show tA g W fs σ H _
  refine ⟨B, E, S, ρ, s0, (post_bind h).imp fun q hq hP vs H1 ρ1 G1 F1 => ?_⟩
  refine ⟨B, q.1.map (·.1), q.2, ρ1, by rw [G1.rep.length, List.length_map]; exact hlen E S q hq, G1.rep, G1.sto, s0.bok.go G1.ext, ?_⟩
  have hP' := post.go hP G1.ext fun _ z => z
  cases e : F (q.1.map (·.1)) q.2 with
  | ok r =>
    rw [e] at hP'
    exact fun v H' ρ' G' => hP' v H' ρ' (G'.base G1.ext)
  | ex c S' =>
    rw [e] at hP'
    exact fun H' ρ' e2 s2 => hP' H' ρ' e2 s2
  | bad => rw [e] at hP'; exact hP'.elim
theorem run_S0 {f : Addr} {fd : FuncData} {ps : List Str} {sp : Sp} {Ex : L2.St → XK} {k : Nat} {x : Str} {p pos : Pos} (F : FnOk X.prog X.w X.K X.mg X.base (L2.CX X.prog X.w) k f fd ps sp) (hr : Room k X.A) (hg : Gl X x) (hm : X.mg x = some (.ref f)) (hk : PySem.W.keepIn X.K (.ref f) = true) (hb : L2.Binds X.K fd ps []) (hx : ∀ σ, PassesAt (L2.CX X.prog X.w) X σ (Ex σ))
    (hdb : (x == ("__debug__" : Str)) = false) : PE X (.Call (.Name x p) [] [] pos) (tCallS sp Ex tNil) := by
  refine ⟨fun pins s σ H Q I h => ?_⟩
  refine wpAny_Call_Name_kw (ld_glob I hg hm ?_ hdb)
  exact PySem.W.callWith_K0 I.kIn hk (run_fnS (us := []) F hr hb (hx σ) I .nil h)
theorem e_call0 {x : Str} {p pos : Pos} {f : Addr} {fd : FuncData} {ps : List Str} {k : Nat} {F : List D → Sto → R (D × Bool × Sto)} (G : FnOk X.prog X.w X.K X.mg X.base (L2.CX X.prog X.w) k f fd ps (spF g ps.length F)) (hr : Room k X.A) (hg : Gl X x) (hm : X.mg x = some (.ref f)) (hk : PySem.W.keepIn X.K (.ref f) = true) (hb : L2.Binds X.K fd ps [])
    (tk : Takes X W) (hlen : ps.length = 0) (hdb : (x == ("__debug__" : Str)) = false) :
    PE X (.Call (.Name x p) [] [] pos) (tE g W fun E S => F [] S) := by
  refine PE.imp (run_S0 (Ex := fun σ => WE W σ) G hr hg hm hk hb (fun σ => passAt tk σ) hdb) fun σ H Q h => ?_
  obtain ⟨B, E, S, ρ, s0, h⟩ := h
  refine ⟨B, [], S, ρ, by rw [hlen]; rfl, .nil, s0.sto, s0.bok, ?_⟩
  cases e : F [] S with
  | ok r =>
    simp only [e] at h
    exact h
  | ex c S' =>
    simp only [e] at h
    exact h
  | bad => simp only [e] at h; exact h.elim
/-- a built-in function or class -/
theorem e_bi (hK : X.K = g.K) (hc : X.calm = true) {x : Str} {p pos : Pos} (b : Bi) (hg : Gl X x) (hm : X.mg x = none) (hv : bootBuiltins x = some (biF b)) (ha : PA X (e :: es) (tA g W fs)) (hn : x ≠ "__name__") (hdb : (x == ("__debug__" : Str)) = false)
    (he : starEach (e :: es) X.env = (false, eval e X.env) :: starEach es X.env) (hpl : (backTo pos (starEach es X.env)).any (·.1) = false) :
    PE X (.Call (.Name x p) (e :: es) [] pos) (tE g W fun E S => (fs E S).bind fun p => (R.of (biEv b (p.1.map (·.1)))).bind fun z => .ok (z.1, z.2, p.2)) := by
  have base : PE X (.Call (.Name x p) (e :: es) [] pos) (tCB (rBi g b) (tA g W fs)) := by
    have h := bi_ok (X := X) (g := g) hK hc b
    unfold biF at h hv
    cases hb : biT b with
    | true =>
      rw [hb] at h hv
      exact pe_callTy h hg hm hv ha hn hdb he hpl
    | false =>
      rw [hb] at h hv
      exact pe_callB h hg hm hv ha hn hdb he hpl
  refine PE.imp base fun σ H Q h => ?_
  obtain ⟨B, E, S, ρ, s0, h⟩ := h
  show tA g W fs σ H _
  refine tA.mk s0 h fun q vs H1 ρ1 G1 F1 s1 h1 => ?_
  obtain ⟨z, hz, hP⟩ := post_of (post_bind h1)
  exact ⟨B, ρ1, q.2, _, z, s1.sto, G1.rep, s1.bok, hz, fun v H' G => hP v H' ρ1 (G.base G1.ext)⟩
theorem boot_tyS (T : Ty) : bootBuiltins (Str.ofString (tyS T)) = some (.type (tyS T)) := by cases T <;> decide +kernel
/-- isinstance(a, T) -/
theorem e_isi (hK : X.K = g.K) {p p2 pos : Pos} (T : Ty) (ha : PE X a (tE g W fa)) (hg : Gl X "isinstance") (hm : X.mg "isinstance" = none) (hg2 : Gl X (Str.ofString (tyS T))) (hm2 : X.mg (Str.ofString (tyS T)) = none)
    (hsa : starEach [a, .Name (Str.ofString (tyS T)) p2] X.env = (false, eval a X.env) :: starEach [.Name (Str.ofString (tyS T)) p2] X.env) :
    PE X (.Call (.Name "isinstance" p) [a, .Name (Str.ofString (tyS T)) p2] [] pos) (tE g W fun E S => (fa E S).bind fun x => (R.of (isTy T x.1)).bind fun z => .ok (.bl z, false, x.2.2)) := by
  have hty : PE X (.Name (Str.ofString (tyS T)) p2) (tC (.ty (tyS T))) := pe_bltn hg2 hm2 (boot_tyS T) rfl (by cases T <;> decide) (by cases T <;> decide)
  refine PE.imp (pe_callB (call_isiD (X := X) (g := g) hK T) hg hm (by decide +kernel) (pa_cons ha (pa_cons hty pa_nil) hsa) (by decide) (by decide) hsa rfl) fun σ H Q h => ?_
  obtain ⟨B, E, S, ρ, s0, h⟩ := h
  refine tE.mk s0 h fun q v H1 ρ1 G1 s1 h1 => ?_
  obtain ⟨z, hz, hP⟩ := post_of (post_bind h1)
  exact ⟨B, ρ1, v, q.1, z, rfl, G1.rep, hz, hP _ H1 ρ1 ((Got.same s1.sto (.bl z)).base G1.ext)⟩
/-! ### subscripts -/
theorem e_ix (hK : X.K = g.K) (ha : PE X a (tE g W fa)) (hb : PE X b (tE g W fb)) (hs : PlainIx b) :
    PE X (.Subscript a b pos) (tE g W fun E S => (fa E S).bind fun x => (fb E x.2.2).bind fun y => (R.of (ixEv y.2.2 x.1 y.1)).bind fun z => .ok (z, false, y.2.2)) := by
  refine PE.imp (pe_ix (ix_D hK) ha hb hs) fun σ H Q h => ?_
  obtain ⟨B, E, S, ρ, s0, h⟩ := h
  refine tE.mk s0 h fun p v H1 ρ1 G1 s1 h1 => tE.mk s1 h1 fun q u H2 ρ2 G2 s2 h2 => ?_
  obtain ⟨z, hz, hP⟩ := post_of (post_bind h2)
  exact ⟨B, ρ2, q.2.2, p.1, q.1, z, s2.sto, G1.rep.ext G2.ext, G2.rep, hz, fun w hw => hP w H2 ρ2 ((Got.same s2.sto hw).base (G1.ext.trans G2.ext))⟩
theorem e_rev (hK : X.K = g.K) {k : Nat} {p1 p2 p3 : Pos} (ha : PE X a (tE g W fa)) :
    PE X (.Subscript a (.Slice none none (some (.UnaryOp .USub (.Constant (.int 1) k p1) p2)) p3) pos) (tE g W fun E S => (fa E S).bind fun x => (R.of (revEv x.1)).bind fun z => .ok (z.1, z.2, x.2.2)) := by
  refine PE.imp (pe_revD hK ha) fun σ H Q h => ?_
  obtain ⟨B, E, S, ρ, s0, h⟩ := h
  refine tE.mk s0 h fun p v H1 ρ1 G1 s1 h1 => ?_
  obtain ⟨z, hz, hP⟩ := post_of (post_bind h1)
  exact ⟨B, ρ1, p.2.2, p.1, z, s1.sto, G1.rep, s1.bok, hz, fun w H' G => hP w H' ρ1 (G.base G1.ext)⟩
/-- a part of a slice -/
def tO (g : Gx) (W : WX) (f : FE (Option Int × Sto)) : TO := fun σ H Q => ∃ B E S ρ, St0 g B σ H E S ρ ∧
  post g W σ H ρ (f E S) fun p => ∀ H' ρ', Ext H ρ H' ρ' → StoR g H' ρ' p.2 → Q p.1 H'
theorem PO.imp {e : Option Expr} {t t' : TO} (h : PO X e t) (i : ∀ σ H Q, t' σ H Q → t σ H Q) : PO X e t' := ⟨fun pins s σ H Q I hw => h.run pins s σ H Q I (i σ H Q hw)⟩
theorem o_no : PO X none (tO g W fun _ S => .ok (none, S)) := by
  refine PO.imp po_none fun σ H Q h => ?_
  obtain ⟨B, E, S, ρ, s0, h⟩ := h
  exact h H ρ (Ext.refl _ _) s0.sto
theorem o_so (ha : PE X a (tE g W fa)) : PO X (some a) (tO g W fun E S => (fa E S).bind fun p => (R.of p.1.oInt).bind fun i => .ok (i, p.2.2)) := by
  refine PO.imp (po_some ha) fun σ H Q h => ?_
  obtain ⟨B, E, S, ρ, s0, h⟩ := h
  refine tE.mk s0 h fun p v H1 ρ1 G1 s1 h1 => ?_
  obtain ⟨z, hz, hP⟩ := post_of (post_bind h1)
  have r := G1.rep
  generalize p.1 = d at r hz
  cases r <;> first | (cases hz; done) | skip
  cases hz
  exact ⟨_, rfl, hP H1 ρ1 G1.ext s1.sto⟩
theorem e_sl (hK : X.K = g.K) {lo hi : Option Expr} {fl fh : FE (Option Int × Sto)} {p2 : Pos} (ha : PE X a (tE g W fa)) (hl : PO X lo (tO g W fl)) (hh : PO X hi (tO g W fh)) :
    PE X (.Subscript a (.Slice lo hi none p2) pos) (tE g W fun E S => (fa E S).bind fun x => (fl E x.2.2).bind fun l => (fh E l.2).bind fun h => (R.of (slEv x.1 l.1 h.1)).bind fun z => .ok (z.1, z.2, h.2)) := by
  refine PE.imp (pe_slice (sl_D hK) ha hl hh) fun σ H Q h => ?_
  obtain ⟨B, E, S, ρ, s0, h⟩ := h
  refine tE.mk s0 h fun p v H1 ρ1 G1 s1 h1 => ?_
  refine ⟨B, E, p.2.2, ρ1, s1, (post_bind h1).imp fun l _ hl H2 ρ2 e2 t2 => ?_⟩
  have s2 := s1.go e2 t2
  refine ⟨B, E, l.2, ρ2, s2, (post_bind (post.go hl e2 fun _ z => z)).imp fun h _ hh H3 ρ3 e3 t3 => ?_⟩
  obtain ⟨z, hz, hP⟩ := post_of (post_bind (post.go hh e3 fun _ z => z))
  exact ⟨B, ρ3, h.2, p.1, z, t3, (G1.rep.ext e2).ext e3, (s2.go e3 t3).bok, hz, fun w H' G => hP w H' ρ3 (G.base ((G1.ext.trans e2).trans e3))⟩
/-! ### displays -/
theorem e_tup {k : Nat} (ha : PA X es (tA g W fs)) : PE X (.Tuple es k pos) (tE g W fun E S => (fs E S).bind fun p => if p.1.length ≤ line then .ok (.tup (p.1.map (·.1)), false, p.2) else .bad) := by
  refine PE.imp (pe_tup ha) fun σ H Q h => ?_
  obtain ⟨B, E, S, ρ, s0, h⟩ := h
  show tA g W fs σ H _
  refine tA.mk s0 h fun q vs H1 ρ1 G1 F1 s1 h1 => ?_
  by_cases hl : q.1.length ≤ line
  · rw [if_pos hl] at h1
    have hl2 : vs.length = q.1.length := by rw [G1.rep.length, List.length_map]
    exact ⟨by rw [hl2, ← line_eq]; exact hl, fun p hp => h1 _ _ ρ1 ((Got.tup s1.sto G1.rep (by rw [List.length_map]; exact hl) hp).base G1.ext)⟩
  · rw [if_neg hl] at h1
    exact h1.elim
theorem e_lst (ha : PA X es (tA g W fs)) : PE X (.List es pos) (tE g W fun E S => (fs E S).bind fun p => if p.1.length ≤ line then .ok (.lst (p.1.map (·.1)), true, p.2) else .bad) := by
  refine PE.imp (pe_lst ha) fun σ H Q h => ?_
  obtain ⟨B, E, S, ρ, s0, h⟩ := h
  show tA g W fs σ H _
  refine tA.mk s0 h fun q vs H1 ρ1 G1 F1 s1 h1 => ?_
  by_cases hl : q.1.length ≤ line
  · rw [if_pos hl] at h1
    have hl2 : vs.length = q.1.length := by rw [G1.rep.length, List.length_map]
    exact ⟨by rw [hl2, ← line_eq]; exact hl, fun p hp => h1 _ _ ρ1 ((Got.lst s1.bok s1.sto G1.rep (by rw [List.length_map]; exact hl) hp).base G1.ext)⟩
  · rw [if_neg hl] at h1
    exact h1.elim
end
end Pz

set_option Elab.async false
set_option linter.all false
set_option autoImplicit false
set_option maxRecDepth 100000
set_option maxHeartbeats 1000000
/-! Pz, part K: what is walked. -/
namespace PySem
open Sem (wp)
open AutoSeq1 (wpAny_loadPart')
theorem pz_enumerate_newT (l : Addr) (items : Array Value) (n : Nat) (dct : Option Addr) (sl : Array (Option Value)) :
    Meets (Builtin.«enumerate.__new__» ⟨[.type "enumerate", .ref l], []⟩) (fun _ R s => s.heap.get? l = some { cls := .type "tuple", dict := dct, data := .seq items n, slots := sl } ∧
      R (.ok (.ret (.ref (s.heap.push { cls := .type "tuple_iterator", data := .fields #[.ref l, .int 0 0] }).objs.size)))
        { s with heap := (s.heap.push { cls := .type "tuple_iterator", data := .fields #[.ref l, .int 0 0] }).push { cls := .type "enumerate", data := .fields #[.none, .bool false, .ref s.heap.objs.size, rawInt 0, .none, .none] } }) :=
  .of_wp fun prog w A R s h => by
    obtain ⟨hp, g, d, tk, os⟩ := s; obtain ⟨hl, h⟩ := h
    have hsub := sub_enumerate
    have hL : Heap.IsTuple (Shared.heap ⟨hp, g, d, tk, os⟩) l items := ⟨_, hl, rfl, n, rfl⟩
    wp_walk using wpAny_loadPart' hl
    refine wpAny_stack_any fun st => wpAny_pure ?_
    split
    · rename_i c _ _ _ _ _
      cases (c == Value.type "enumerate")
      · wp_walk using wpAny_loadPart' hl, wpAny_pyIter_tuple hL
        exact ⟨_, rfl, h⟩
      · wp_walk using wpAny_loadPart' hl, wpAny_pyIter_tuple hL
        exact ⟨_, rfl, h⟩
    · wp_walk using wpAny_loadPart' hl, wpAny_pyIter_tuple hL
      exact ⟨_, rfl, h⟩
theorem pz_call_enumerate_tuple {prog : Program} {w : World} {A : Around} {E : Value → Shared → Prop} {s : Shared} {l : Addr} {items : Array Value} {Q : Value → Shared → Prop} (hL : s.heap.IsTuple l items)
    (h : ∀ h', IsEnum h' (s.heap.objs.size + 1) s.heap.objs.size 0 .none → h'.IsTupleIter s.heap.objs.size l 0 → h'.objs.size = s.heap.objs.size + 2 →
      (∀ b o, s.heap.get? b = some o → h'.get? b = some o) → Q (.ref (s.heap.objs.size + 1)) { s with heap := h' }) :
    wpAny (model prog w) A (call (.type "enumerate") [.ref l]) Q E s := by
  obtain ⟨⟨c, dct, dt, sl⟩, hl, hc, n, hd⟩ := hL
  replace hc : c = .type "tuple" := hc
  replace hd : dt = .seq items n := hd
  subst hc hd
  refine callType_new F.called_enumerate (by decide) (F.typeCall_enumerate_1 _) (F.newCall_enumerate_1 _) (fun obj => F.args_object_init_2 obj _) F.entry_enumerate_new
    (pz_enumerate_newT l items n dct sl) ⟨hl, ?_⟩
  have hz : (s.heap.push { cls := .type "tuple_iterator", data := .fields #[.ref l, .int 0 0] }).objs.size = s.heap.objs.size + 1 := Heap.size_push ..
  show _ ∧ _
  rw [hz]
  have he : IsEnum ((s.heap.push { cls := .type "tuple_iterator", data := .fields #[.ref l, .int 0 0] }).push
      { cls := .type "enumerate", data := .fields #[.none, .bool false, .ref s.heap.objs.size, rawInt 0, .none, .none] }) (s.heap.objs.size + 1) s.heap.objs.size 0 .none := by
    have := Heap.get?_push_size (s.heap.push { cls := .type "tuple_iterator", data := .fields #[.ref l, .int 0 0] })
      (o := { cls := .type "enumerate", data := .fields #[.none, .bool false, .ref s.heap.objs.size, rawInt 0, .none, .none] }) rfl
    rw [hz] at this; exact this
  refine ⟨⟨_, he, rfl⟩, h _ he ⟨_, Heap.get?_push_of_some _ (Heap.get?_push_size _ rfl), rfl, rfl⟩ (by rw [Heap.size_push, hz]) fun b o x => Heap.get?_push_of_some _ (Heap.get?_push_of_some _ x)⟩
end PySem
namespace Pz
open PySem PySem.Spec PyProof.Rows L2
/-- the tuple at a as it stands at each turn, each item in a new pair -/
def IteT (K : PySem.W.Frag) (a : Addr) : It :=
  ⟨fun i H => ∃ (xs : List V) (x : V), SqT K H a xs ∧ xs[i]? = some x, fun i H v H' => ∃ T x, v = .ref T ∧ H T = none ∧ H' = upd H T (.tup [.int (i : Nat), x]) ∧ ∀ xs, SqT K H a xs → xs[i]? = some x, fun i H => ∃ xs : List V, SqT K H a xs ∧ xs.length = i⟩
theorem turn_enumT {P : Program} {w : World} {K : PySem.W.Frag} {elts : List Expr} {kk : Nat} {tpos : Pos} (a e it : Addr) :
    Turn P w K (.Tuple elts kk tpos) (IteT K a) [e, it] e (fun i h => (∃ old, IsEnum h e it ((i : Nat) : Int) old) ∧ h.IsTupleIter it a i ∧ e ≠ it) where
  mem := by simp
  obj := fun i h st b hb => by
    obtain ⟨⟨old, he⟩, ⟨o, ho, hc, hd⟩, _⟩ := st
    have e' : b = e ∨ b = it := by simpa using hb
    rcases e' with z | z
    · rw [z]; exact ⟨_, he, fun v q => nomatch q⟩
    · rw [z]; exact ⟨o, ho, fun v q => by rw [hd] at q; cases q⟩
  keep := fun i h h' st k => let ⟨⟨old, he⟩, hi, hne⟩ := st; ⟨⟨old, k e (by simp) _ he⟩, hi.at fun o q => k it (by simp) o q, hne⟩
  item := by
    intro X hP hw hK hc i pins s σ H E I hf st hg
    subst hP hw hK
    obtain ⟨⟨old, he⟩, hit, hne⟩ := st
    obtain ⟨xs, x, hq, hx⟩ := hg
    obtain ⟨its, rv, p, hz⟩ := I.tuple hq
    obtain ⟨u, hu, ru⟩ := rv.get hx
    have hel : e < s.heap.objs.size := Heap.lt_size he
    have hil : it < s.heap.objs.size := by obtain ⟨_, q, _⟩ := hit; exact Heap.lt_size q
    have hai : a ≠ it := fun z => by
      obtain ⟨o1, h1, h2, _⟩ := hit
      obtain ⟨o2, h3, h4, _⟩ := id p
      rw [z, h1] at h3; cases h3
      rw [h2] at h4; exact absurd (Value.type.inj h4) (by decide)
    have hae : e ≠ a := fun z => by
      obtain ⟨o2, h3, h4, _⟩ := id p
      rw [← z] at h3
      have h1 : s.heap.get? e = some _ := he
      rw [h1] at h3; cases h3
      exact absurd (Value.type.inj h4) (by decide)
    have hi : i < its.toArray.size := by
      have := (List.getElem?_eq_some_iff.mp hu).1
      simpa using this
    refine wpAny_pyNext_enum_itemC (n := its.toArray.size) (i := i) (Draws.tuple (prog := X.prog) (w := X.w) (A := X.A.in1) (I.ok.hd hc) it a hai its.toArray) he ⟨hit, p⟩ hi hne (by simp [hne, hae]) fun y h' tk hy ho hit' hT hsz hk => ?_
    have ey : y = u := by
      rw [List.getElem?_toArray, hu] at hy
      exact (Option.some.inj hy).symm
    subst ey
    refine ⟨_, rfl, wpAny_letOwnedTupleGo_enum (s := { s with heap := h', toks := tk + 1 }) ho fun h'' he' sb => ?_⟩
    have hT2 : h''.get? s.heap.objs.size = some { cls := .type "tuple", data := .seq #[.int i tk, y] } := (sb.2 _ (Nat.ne_of_gt hel)).trans hT
    have new : ObjOk X.prog X.w (upd H s.heap.objs.size (.tup [.int (i : Nat), x])) h'' s.heap.objs.size (.tup [.int (i : Nat), x]) :=
      ⟨by show 2 ≤ sizeLine; decide, [.int i tk, y], .cons ⟨_, rfl⟩ (.cons ru .nil), ⟨_, hT2, rfl, _, rfl⟩⟩
    have I1 : L2.Inv X pins σ (upd H s.heap.objs.size (.tup [.int (i : Nat), x])) { s with heap := h'', toks := tk + 1 } :=
      I.turnedNew (ch := [e, it]) (fun b ob hb q => (sb.2 b (fun z => hb (by simp [z]))).trans (hk b ob (fun z => hb (by simp [z])) (fun z => hb (by simp [z])) q)) hf (Nat.le_refl _) new
    refine ⟨.ref s.heap.objs.size, _, I1, rfl, ⟨_, x, rfl, I.hok.fresh (Nat.le_refl _), rfl, fun ys hy => by rw [I.tuple_inj hy hq]; exact hx⟩, ⟨⟨y, ?_⟩, hit'.1.at fun o q => (sb.2 it (Ne.symm hne)).trans q, hne⟩, fun b hb => ?_⟩
    · have e1 : ((i + 1 : Nat) : Int) = (i : Int) + 1 := by omega
      rw [e1]; exact he'
    · have hb' : b < s.heap.objs.size := by
        have e' : b = e ∨ b = it := by simpa using hb
        rcases e' with z | z
        · rw [z]; exact hel
        · rw [z]; exact hil
      rw [upd_ne (Nat.ne_of_lt hb')]
      exact (hf b hb).1
  done := by
    intro X hP hw hK hc i pins s σ H E I hf st hg
    subst hP hw hK
    obtain ⟨⟨old, he⟩, hit, hne⟩ := st
    obtain ⟨xs, hq, hx⟩ := hg
    obtain ⟨its, rv, p, hz⟩ := I.tuple hq
    obtain ⟨f0, f1, f2, f3, f4, f5⟩ := hf it (by simp)
    have hl := rv.length
    have hai : a ≠ it := fun z => by
      obtain ⟨o1, h1, h2, _⟩ := hit
      obtain ⟨o2, h3, h4, _⟩ := id p
      rw [z, h1] at h3; cases h3
      rw [h2] at h4; exact absurd (Value.type.inj h4) (by decide)
    have e : its.toArray.size = i := by rw [List.size_toArray]; omega
    exact wpAny_pyNext_enum_endD (Draws.tuple (prog := X.prog) (w := X.w) (A := X.A.in1) (I.ok.hd hc) it a hai its.toArray) he (by rw [e]; exact ⟨hit, p⟩) fun h' eb => ⟨rfl, I.turned (t' := s.toks) (fun b o hb q => eb b o hb q) f0 f1 f3 f4 f5⟩
  self := fun A i s Q E st h => let ⟨⟨_, he⟩, _⟩ := st; wpAny_pyIter_enum he h

def iEnumA (K : PySem.W.Frag) (ta : TA) : TI := fun σ H R => ta σ H fun vs H1 => ∃ a xs, vs = [.ref a] ∧ ((SqL K H1 a xs ∧ R (Ite K a) H1) ∨ (SqT K H1 a xs ∧ R (IteT K a) H1))
theorem pi_enumA {X : Cx} {e : Expr} {ta : TA} {p pos tpos : Pos} {elts : List Expr} {kk : Nat} (hg : Gl X "enumerate") (hm : X.mg "enumerate" = none) (ha : PA X [e] ta) (hs : starEach [e] X.env = [(false, eval e X.env)]) :
    PI X (.Tuple elts kk tpos) (.Call (.Name "enumerate" p) [e] [] pos) (iEnumA X.K ta) := by
  refine ⟨fun pins s σ H R I h => ?_⟩
  refine Call_ (ld_blt I hg hm boot_enumerate (PyProof.Rows.callWith_type1 (thn (ha.run pos pins s σ H _ I h) fun us s1 ⟨vs, H1, I1, r1, q1⟩ => ?_) hs rfl))
  obtain ⟨a, xs, ex, q1⟩ := q1
  subst ex
  cases r1 with
  | cons r rr =>
    cases rr
    cases r
    have fp : ∀ b, b ∈ [s1.heap.objs.size + 1, s1.heap.objs.size] → FpOk X pins H1 b := fun b hb => by
      have e' : b = s1.heap.objs.size + 1 ∨ b = s1.heap.objs.size := by simpa using hb
      have hle : s1.heap.objs.size ≤ b := by
        rcases e' with z | z
        · rw [z]; exact Nat.le_add_right _ _
        · rw [z]; exact Nat.le_refl _
      exact I1.fpOk hle (I1.hok.fresh hle)
    rcases q1 with ⟨hq, q⟩ | ⟨hq, q⟩
    · obtain ⟨its, rv, p', hz⟩ := I1.list hq
      refine call_enumerate_list p'.isList fun h' he hit hsz hk => wpAny_pyIter_enum he ?_
      have I2 : L2.Inv X pins σ H1 { s1 with heap := h' } := I1.kept (t' := s1.toks) hk
      exact ⟨s1.heap.objs.size + 1, [s1.heap.objs.size + 1, s1.heap.objs.size], _, _, H1, rfl, I2, turn_enum a (s1.heap.objs.size + 1) s1.heap.objs.size, ⟨⟨.none, he⟩, hit, Nat.succ_ne_self _⟩, fp, q⟩
    · obtain ⟨its, rv, p', hz⟩ := I1.tuple hq
      refine pz_call_enumerate_tuple (show s1.heap.IsTuple a its.toArray from p') fun h' he hit hsz hk => wpAny_pyIter_enum he ?_
      have I2 : L2.Inv X pins σ H1 { s1 with heap := h' } := I1.kept (t' := s1.toks) hk
      exact ⟨s1.heap.objs.size + 1, [s1.heap.objs.size + 1, s1.heap.objs.size], _, _, H1, rfl, I2, turn_enumT a (s1.heap.objs.size + 1) s1.heap.objs.size, ⟨⟨.none, he⟩, hit, Nat.succ_ne_self _⟩, fp, q⟩
/-- a list, a tuple, a text -/
def iAny (K : PySem.W.Frag) (tl : TE) : TI := fun σ H R => tl σ H fun x H1 => (∃ a, x = .ref a ∧ ((∃ xs, SqL K H1 a xs) ∧ R (Itl K a) H1 ∨ (∃ xs, SqT K H1 a xs) ∧ R (Itt K a) H1)) ∨ ∃ z, x = .str z ∧ R (Its z) H1
theorem pi_any {X : Cx} {tg l : Expr} {tl : TE} (hl : PE X l tl) : PI X tg l (iAny X.K tl) := by
  refine ⟨fun pins s σ H R I h => ?_⟩
  refine thn (hl.run pins s σ H _ I h) fun v s1 ⟨x, H1, I1, r1, q1⟩ => ?_
  rcases q1 with ⟨a, e, ⟨⟨xs, hq⟩, q⟩ | ⟨⟨xs, hq⟩, q⟩⟩ | ⟨z, e, q⟩
  · subst e
    cases r1
    obtain ⟨its, rv, p, hz⟩ := I1.list hq
    refine wpAny_pyIter_list p.isList ?_
    refine ⟨s1.heap.objs.size, [s1.heap.objs.size], _, _, H1, rfl, I1.kept (t' := s1.toks) fun b o e => Heap.get?_push_of_some _ e, turn_list a _, ⟨_, Heap.get?_push_size _ rfl, rfl, rfl⟩, fun b hb => ?_, q⟩
    have e : b = s1.heap.objs.size := by simpa using hb
    subst e
    exact I1.fpOk (Nat.le_refl _) (I1.hok.fresh (Nat.le_refl _))
  · subst e
    cases r1
    obtain ⟨its, rv, p, hz⟩ := I1.tuple hq
    refine wpAny_pyIter_tuple (show s1.heap.IsTuple a its.toArray from p) ?_
    refine ⟨s1.heap.objs.size, [s1.heap.objs.size], _, _, H1, rfl, I1.kept (t' := s1.toks) fun b o e => Heap.get?_push_of_some _ e, turn_tuple a _, ⟨_, Heap.get?_push_size _ rfl, rfl, rfl⟩, fun b hb => ?_, q⟩
    have e : b = s1.heap.objs.size := by simpa using hb
    subst e
    exact I1.fpOk (Nat.le_refl _) (I1.hok.fresh (Nat.le_refl _))
  · subst e
    obtain ⟨t, rfl⟩ := r1
    cases ha : z.cps.all (· < 128)
    · exact wpAny_pyIter_wide ha (pi_one (tk := s1.toks) I1 _ (turn_str _ z t "str_iterator" (.inr rfl)) ⟨_, Heap.get?_push_size _ rfl, rfl, rfl⟩ q)
    · exact wpAny_pyIter_ascii ha (pi_one (tk := s1.toks) I1 _ (turn_str _ z t "str_ascii_iterator" (.inl rfl)) ⟨_, Heap.get?_push_size _ rfl, rfl, rfl⟩ q)

/-! ### by the data -/
/-- J yields the data ds, one after another, as long as the sources Ps stand -/
structure WalkD (g : Gx) (J : It) (Ps : List (V × D)) (ds : List D) : Prop where
  go : ∀ ρ A H i, (∀ p ∈ Ps, Rp g ρ A H p.1 p.2) → i < ds.length → J.go i H
  yld : ∀ ρ A H i x H', (∀ a, A a → a ∉ ρ) → (∀ p ∈ Ps, Rp g ρ A H p.1 p.2) → i < ds.length → J.yld i H x H' → ∃ d, ds[i]? = some d ∧ (H' = H ∨ ∃ T xs, H T = none ∧ H' = upd H T (.tup xs)) ∧ Rp g ρ A H' x d
  stop : ∀ ρ A H, (∀ p ∈ Ps, Rp g ρ A H p.1 p.2) → J.stop ds.length H
section
variable {g : Gx} {ρ : List Addr} {A : Addr → Prop} {H : Hp}
theorem Rp.ref {a : Addr} {d : D} (h : Rp g ρ A H (.ref a) d) : (∃ xs ds, d = .tup ds ∧ SqT g.K H a xs ∧ RpL g ρ A H xs ds) ∨ (∃ xs ds, d = .lst ds ∧ SqL g.K H a xs ∧ RpL g ρ A H xs ds) ∨ (∃ n, d = .hd n) ∨ (∃ n, d = .fn n) ∨ ∃ n, d = .scr n := by
  generalize e : V.ref a = v at h
  cases h with
  | tup h r l => cases e; exact .inl ⟨_, _, rfl, h, r⟩
  | lst h c r l => cases e; exact .inr (.inl ⟨_, _, rfl, SqL.of h, r⟩)
  | lsf h r l => cases e; obtain ⟨o, h⟩ := h; exact .inr (.inl ⟨_, _, rfl, .inl (.inr ⟨o, h⟩), r⟩)
  | hd h => exact .inr (.inr (.inl ⟨_, rfl⟩))
  | fn n => exact .inr (.inr (.inr (.inl ⟨_, rfl⟩)))
  | scr h l => exact .inr (.inr (.inr (.inr ⟨_, rfl⟩)))
  | _ => cases e
theorem walkD_list {a : Addr} {ds : List D} : WalkD g (Itl g.K a) [(.ref a, .lst ds)] ds where
  go := fun ρ A H i h hi => by
    rcases (h _ List.mem_cons_self).ref with ⟨_, _, e, _⟩ | ⟨xs, es, e, hs, r⟩ | ⟨n, e⟩ | ⟨n, e⟩ | ⟨n, e⟩ <;> cases e
    obtain ⟨v, hv, _⟩ := r.getD (List.getElem?_eq_getElem hi)
    exact ⟨xs, v, hs, hv⟩
  yld := fun ρ A H i x H' hA h hi y => by
    rcases (h _ List.mem_cons_self).ref with ⟨_, _, e, _⟩ | ⟨xs, es, e, hs, r⟩ | ⟨n, e⟩ | ⟨n, e⟩ | ⟨n, e⟩ <;> cases e
    obtain ⟨rfl, y⟩ := y
    obtain ⟨d, h1, h2⟩ := r.get (y xs hs)
    exact ⟨d, h1, .inl rfl, h2⟩
  stop := fun ρ A H h => by
    rcases (h _ List.mem_cons_self).ref with ⟨_, _, e, _⟩ | ⟨xs, es, e, hs, r⟩ | ⟨n, e⟩ | ⟨n, e⟩ | ⟨n, e⟩ <;> cases e
    exact ⟨xs, hs, by rw [r.length]; exact Nat.le_refl _⟩
theorem walkD_tup {a : Addr} {ds : List D} : WalkD g (Itt g.K a) [(.ref a, .tup ds)] ds where
  go := fun ρ A H i h hi => by
    rcases (h _ List.mem_cons_self).ref with ⟨xs, es, e, hs, r⟩ | ⟨xs, es, e, hs, r⟩ | ⟨n, e⟩ | ⟨n, e⟩ | ⟨n, e⟩ <;> cases e
    obtain ⟨v, hv, _⟩ := r.getD (List.getElem?_eq_getElem hi)
    exact ⟨xs, v, hs, hv⟩
  yld := fun ρ A H i x H' hA h hi y => by
    rcases (h _ List.mem_cons_self).ref with ⟨xs, es, e, hs, r⟩ | ⟨xs, es, e, hs, r⟩ | ⟨n, e⟩ | ⟨n, e⟩ | ⟨n, e⟩ <;> cases e
    obtain ⟨rfl, y⟩ := y
    obtain ⟨d, h1, h2⟩ := r.get (y xs hs)
    exact ⟨d, h1, .inl rfl, h2⟩
  stop := fun ρ A H h => by
    rcases (h _ List.mem_cons_self).ref with ⟨xs, es, e, hs, r⟩ | ⟨xs, es, e, hs, r⟩ | ⟨n, e⟩ | ⟨n, e⟩ | ⟨n, e⟩ <;> cases e
    exact ⟨xs, hs, by rw [r.length]; exact Nat.le_refl _⟩
theorem walkD_str {z : Str} : WalkD g (Its z) [] (z.cps.toList.map fun c => .str ⟨#[c]⟩) where
  go := fun ρ A H i h hi => by
    rw [List.length_map, Array.length_toList] at hi
    exact hi
  yld := fun ρ A H i x H' hA h hi y => by
    obtain ⟨rfl, c, hc, rfl⟩ := y
    exact ⟨.str ⟨#[c]⟩, by rw [List.getElem?_map, Array.getElem?_toList, hc]; rfl, .inl rfl, .str _⟩
  stop := fun ρ A H h => by
    rw [List.length_map, Array.length_toList]
    exact Nat.le_refl _
theorem walkD_rng {lo : Int} {n : Nat} : WalkD g (Itr lo n) [] (rngD lo n) where
  go := fun ρ A H i h hi => by
    unfold rngD at hi
    rw [List.length_map, List.length_range] at hi
    exact hi
  yld := fun ρ A H i x H' hA h hi y => by
    obtain ⟨rfl, rfl⟩ := y
    unfold rngD at hi
    rw [List.length_map, List.length_range] at hi
    exact ⟨.int (lo + i), by unfold rngD; rw [List.getElem?_map, List.getElem?_range hi]; rfl, .inl rfl, .int _⟩
  stop := fun ρ A H h => by
    unfold rngD
    rw [List.length_map, List.length_range]
    exact Nat.le_refl _
theorem enumD_get : ∀ (ds : List D) (k i : Nat) (d : D), ds[i]? = some d → (enumD k ds)[i]? = some (.tup [.int ((k + i : Nat) : Int), d])
  | [], _, _, _, h => by simp at h
  | x :: xs, k, 0, d, h => by
    simp at h
    subst h
    rfl
  | x :: xs, k, i + 1, d, h => by
    have := enumD_get xs (k + 1) i d (by simpa using h)
    have e : k + 1 + i = k + (i + 1) := by omega
    rw [e] at this
    simpa [enumD] using this
theorem enumD_length : ∀ (ds : List D) (k : Nat), (enumD k ds).length = ds.length
  | [], _ => rfl
  | x :: xs, k => by
    show (enumD (k + 1) xs).length + 1 = xs.length + 1
    rw [enumD_length]
theorem zipD_get : ∀ (xs ys : List D) (i : Nat) (x y : D), xs[i]? = some x → ys[i]? = some y → (zipD xs ys)[i]? = some (.tup [x, y])
  | [], _, _, _, _, h, _ => by simp at h
  | _ :: _, [], _, _, _, _, h => by simp at h
  | a :: xs, b :: ys, 0, x, y, h1, h2 => by
    simp at h1 h2
    subst h1 h2
    rfl
  | a :: xs, b :: ys, i + 1, x, y, h1, h2 => by
    simpa [zipD] using zipD_get xs ys i x y (by simpa using h1) (by simpa using h2)
theorem zipD_length : ∀ (xs ys : List D), (zipD xs ys).length = min xs.length ys.length
  | [], ys => by simp [zipD]
  | _ :: _, [] => by simp [zipD]
  | a :: xs, b :: ys => by
    show (zipD xs ys).length + 1 = _
    rw [zipD_length]
    simp only [List.length_cons]
    omega
theorem Rp.laidT {T : Addr} {xs : List V} {v : V} {d : D} (hA : ∀ a, A a → a ∉ ρ) (h : Rp g ρ A H v d) (hT : H T = none) : Rp g ρ A (upd H T (.tup xs)) v d :=
  h.go' (Ext.laid hT) fun a ha _ => ⟨hA a ha, ha⟩
theorem walkD_enumL {a : Addr} {ds : List D} : WalkD g (Ite g.K a) [(.ref a, .lst ds)] (enumD 0 ds) where
  go := fun ρ A H i h hi => by
    rw [enumD_length] at hi
    rcases (h _ List.mem_cons_self).ref with ⟨_, _, e, _⟩ | ⟨xs, es, e, hs, r⟩ | ⟨n, e⟩ | ⟨n, e⟩ | ⟨n, e⟩ <;> cases e
    obtain ⟨v, hv, _⟩ := r.getD (List.getElem?_eq_getElem hi)
    exact ⟨xs, v, hs, hv⟩
  yld := fun ρ A H i x H' hA h hi y => by
    rcases (h _ List.mem_cons_self).ref with ⟨_, _, e, _⟩ | ⟨xs, es, e, hs, r⟩ | ⟨n, e⟩ | ⟨n, e⟩ | ⟨n, e⟩ <;> cases e
    obtain ⟨T, v, rfl, hT, rfl, y⟩ := y
    obtain ⟨d, h1, h2⟩ := r.get (y xs hs)
    refine ⟨_, enumD_get ds 0 i d h1, .inr ⟨T, _, hT, rfl⟩, .tup (SqT.of upd_same) (.cons ?_ (.cons (h2.laidT hA hT) .nil)) (by show 2 ≤ line; decide)⟩
    rw [Nat.zero_add]
    exact .int _
  stop := fun ρ A H h => by
    rw [enumD_length]
    rcases (h _ List.mem_cons_self).ref with ⟨_, _, e, _⟩ | ⟨xs, es, e, hs, r⟩ | ⟨n, e⟩ | ⟨n, e⟩ | ⟨n, e⟩ <;> cases e
    exact ⟨xs, hs, by rw [r.length]; exact Nat.le_refl _⟩
theorem walkD_enumT {a : Addr} {ds : List D} : WalkD g (IteT g.K a) [(.ref a, .tup ds)] (enumD 0 ds) where
  go := fun ρ A H i h hi => by
    rw [enumD_length] at hi
    rcases (h _ List.mem_cons_self).ref with ⟨xs, es, e, hs, r⟩ | ⟨xs, es, e, hs, r⟩ | ⟨n, e⟩ | ⟨n, e⟩ | ⟨n, e⟩ <;> cases e
    obtain ⟨v, hv, _⟩ := r.getD (List.getElem?_eq_getElem hi)
    exact ⟨xs, v, hs, hv⟩
  yld := fun ρ A H i x H' hA h hi y => by
    rcases (h _ List.mem_cons_self).ref with ⟨xs, es, e, hs, r⟩ | ⟨xs, es, e, hs, r⟩ | ⟨n, e⟩ | ⟨n, e⟩ | ⟨n, e⟩ <;> cases e
    obtain ⟨T, v, rfl, hT, rfl, y⟩ := y
    obtain ⟨d, h1, h2⟩ := r.get (y xs hs)
    refine ⟨_, enumD_get ds 0 i d h1, .inr ⟨T, _, hT, rfl⟩, .tup (SqT.of upd_same) (.cons ?_ (.cons (h2.laidT hA hT) .nil)) (by show 2 ≤ line; decide)⟩
    rw [Nat.zero_add]
    exact .int _
  stop := fun ρ A H h => by
    rw [enumD_length]
    rcases (h _ List.mem_cons_self).ref with ⟨xs, es, e, hs, r⟩ | ⟨xs, es, e, hs, r⟩ | ⟨n, e⟩ | ⟨n, e⟩ | ⟨n, e⟩ <;> cases e
    exact ⟨xs, hs, r.length⟩
theorem walkD_zipL {a b : Addr} {ds es : List D} : WalkD g (Itz g.K a b) [(.ref a, .lst ds), (.ref b, .lst es)] (zipD ds es) where
  go := fun ρ A H i h hi => by
    rw [zipD_length] at hi
    rcases (h (.ref a, .lst ds) (by simp)).ref with ⟨_, _, e, _⟩ | ⟨xs, _, e, hs, r⟩ | ⟨n, e⟩ | ⟨n, e⟩ | ⟨n, e⟩ <;> cases e
    rcases (h (.ref b, .lst es) (by simp)).ref with ⟨_, _, e, _⟩ | ⟨ys, _, e, hs2, r2⟩ | ⟨n, e⟩ | ⟨n, e⟩ | ⟨n, e⟩ <;> cases e
    obtain ⟨v, hv, _⟩ := r.getD (List.getElem?_eq_getElem (show i < ds.length by omega))
    obtain ⟨v2, hv2, _⟩ := r2.getD (List.getElem?_eq_getElem (show i < es.length by omega))
    exact ⟨xs, ys, v, v2, hs, hs2, hv, hv2⟩
  yld := fun ρ A H i x H' hA h hi y => by
    rcases (h (.ref a, .lst ds) (by simp)).ref with ⟨_, _, e, _⟩ | ⟨xs, _, e, hs, r⟩ | ⟨n, e⟩ | ⟨n, e⟩ | ⟨n, e⟩ <;> cases e
    rcases (h (.ref b, .lst es) (by simp)).ref with ⟨_, _, e, _⟩ | ⟨ys, _, e, hs2, r2⟩ | ⟨n, e⟩ | ⟨n, e⟩ | ⟨n, e⟩ <;> cases e
    obtain ⟨T, v, v2, rfl, hT, rfl, y1, y2⟩ := y
    obtain ⟨d, h1, h2⟩ := r.get (y1 xs hs)
    obtain ⟨d2, h3, h4⟩ := r2.get (y2 ys hs2)
    exact ⟨_, zipD_get _ _ i d d2 h1 h3, .inr ⟨T, _, hT, rfl⟩, .tup (SqT.of upd_same) (.cons (h2.laidT hA hT) (.cons (h4.laidT hA hT) .nil)) (by show 2 ≤ line; decide)⟩
  stop := fun ρ A H h => by
    rw [zipD_length]
    rcases (h (.ref a, .lst ds) (by simp)).ref with ⟨_, _, e, _⟩ | ⟨xs, _, e, hs, r⟩ | ⟨n, e⟩ | ⟨n, e⟩ | ⟨n, e⟩ <;> cases e
    rcases (h (.ref b, .lst es) (by simp)).ref with ⟨_, _, e, _⟩ | ⟨ys, _, e, hs2, r2⟩ | ⟨n, e⟩ | ⟨n, e⟩ | ⟨n, e⟩ <;> cases e
    exact ⟨xs, ys, hs, hs2, by rw [r.length, r2.length]; omega⟩
theorem walkD_zipT {a b : Addr} {ds es : List D} : WalkD g (RZ.ItzT g.K a b) [(.ref a, .tup ds), (.ref b, .tup es)] (zipD ds es) where
  go := fun ρ A H i h hi => by
    rw [zipD_length] at hi
    rcases (h (.ref a, .tup ds) (by simp)).ref with ⟨xs, _, e, hs, r⟩ | ⟨xs, _, e, hs, r⟩ | ⟨n, e⟩ | ⟨n, e⟩ | ⟨n, e⟩ <;> cases e
    rcases (h (.ref b, .tup es) (by simp)).ref with ⟨ys, _, e, hs2, r2⟩ | ⟨ys, _, e, hs2, r2⟩ | ⟨n, e⟩ | ⟨n, e⟩ | ⟨n, e⟩ <;> cases e
    obtain ⟨v, hv, _⟩ := r.getD (List.getElem?_eq_getElem (show i < ds.length by omega))
    obtain ⟨v2, hv2, _⟩ := r2.getD (List.getElem?_eq_getElem (show i < es.length by omega))
    exact ⟨xs, ys, v, v2, hs, hs2, hv, hv2⟩
  yld := fun ρ A H i x H' hA h hi y => by
    rcases (h (.ref a, .tup ds) (by simp)).ref with ⟨xs, _, e, hs, r⟩ | ⟨xs, _, e, hs, r⟩ | ⟨n, e⟩ | ⟨n, e⟩ | ⟨n, e⟩ <;> cases e
    rcases (h (.ref b, .tup es) (by simp)).ref with ⟨ys, _, e, hs2, r2⟩ | ⟨ys, _, e, hs2, r2⟩ | ⟨n, e⟩ | ⟨n, e⟩ | ⟨n, e⟩ <;> cases e
    obtain ⟨T, v, v2, rfl, hT, rfl, y1, y2⟩ := y
    obtain ⟨d, h1, h2⟩ := r.get (y1 xs hs)
    obtain ⟨d2, h3, h4⟩ := r2.get (y2 ys hs2)
    exact ⟨_, zipD_get _ _ i d d2 h1 h3, .inr ⟨T, _, hT, rfl⟩, .tup (SqT.of upd_same) (.cons (h2.laidT hA hT) (.cons (h4.laidT hA hT) .nil)) (by show 2 ≤ line; decide)⟩
  stop := fun ρ A H h => by
    rw [zipD_length]
    rcases (h (.ref a, .tup ds) (by simp)).ref with ⟨xs, _, e, hs, r⟩ | ⟨xs, _, e, hs, r⟩ | ⟨n, e⟩ | ⟨n, e⟩ | ⟨n, e⟩ <;> cases e
    rcases (h (.ref b, .tup es) (by simp)).ref with ⟨ys, _, e, hs2, r2⟩ | ⟨ys, _, e, hs2, r2⟩ | ⟨n, e⟩ | ⟨n, e⟩ | ⟨n, e⟩ <;> cases e
    exact ⟨xs, ys, hs, hs2, by rw [r.length, r2.length]; omega⟩
end
end Pz

set_option Elab.async false
set_option linter.all false
set_option autoImplicit false
set_option maxRecDepth 100000
set_option maxHeartbeats 1000000
/-! Pz, part L: walks and comprehensions. -/
namespace Pz
open PySem PySem.Spec PyProof.Rows L2
section
variable {X : Cx} {g : Gx} {W : WX} {a b c e iter tg : Expr} {fa fb fc : FE (D × Bool × Sto)} {pos : Pos}
/-- the reading of what is walked: vr, the name that is walked -/
def tI (g : Gx) (W : WX) (vr : Option Nat) (f : FE (List D × Bool × Sto)) : TI := fun σ H R => ∃ B E S ρ, St0 g B σ H E S ρ ∧
  post g W σ H ρ (f E S) fun p => ∀ J Ps H' ρ', Ext H ρ H' ρ' → StoR g H' ρ' p.2.2 → WalkD g J Ps p.1 → (∀ q ∈ Ps, Rp g ρ' (Al ρ' B) H' q.1 q.2) →
    (p.2.1 = true → ∀ q ∈ Ps, seqLf q.2 = true ∧ (isLst q.2 = true → Fresh H H' ρ' q.1)) →
    (∀ i : Nat, vr = some i → ∃ (v : V) (d : D) (o : Bool), E[i]? = some (some (d, o)) ∧ σ[i]? = some (some v) ∧ (Ps = [(v, d)] ∨ Ps = [] ∧ isLst d = false) ∧ (seqLf d = true → D.lfs p.1 = true)) → R J H'
theorem PI.imp {t t' : TI} (h : PI X tg iter t) (i : ∀ σ H R, t' σ H R → t σ H R) : PI X tg iter t' := ⟨fun pins s σ H R I hw => h.run pins s σ H R I (i σ H R hw)⟩
theorem seqLf_items {d : D} {ds : List D} (h : itemsOf d = some ds) (k : D.lfs ds = true) : seqLf d = true := by
  cases d <;> first | (cases h; exact k) | rfl
theorem seqLf_seq {d : D} {ds : List D} (h : seqOf d = some ds) (k : D.lfs ds = true) : seqLf d = true := by
  unfold seqLf; rw [h]; exact k
theorem lfs_strs : ∀ xs : List Nat, D.lfs (xs.map fun c => .str ⟨#[c]⟩) = true
  | [] => rfl
  | x :: xs => by rw [List.map_cons, D.lfs, lfs_strs xs]; rfl
theorem seqLf_of {d : D} {ds : List D} (h : itemsOf d = some ds) (k : seqLf d = true) : D.lfs ds = true := by
  cases d <;> first | (cases h; done) | skip
  · cases h; exact lfs_strs _
  · cases h; exact k
  · cases h; exact k
theorem seqLf_of2 {d : D} {ds : List D} (h : seqOf d = some ds) (k : seqLf d = true) : D.lfs ds = true := by
  unfold seqLf at k; rw [h] at k; exact k
theorem enumD_lfs : ∀ (ds : List D) (n : Nat), D.lfs (enumD n ds) = D.lfs ds
  | [], _ => rfl
  | d :: ds, n => by
    simp only [enumD, D.lfs, D.lf, enumD_lfs ds, Bool.true_and, Bool.and_true]
theorem any_J {ρ : List Addr} {A : Addr → Prop} {H : Hp} {v : V} {d : D} {ds : List D} {R : It → Hp → Prop} (h : Rp g ρ A H v d) (hd : itemsOf d = some ds) (r : ∀ J Ps, WalkD g J Ps ds → (Ps = [(v, d)] ∨ Ps = [] ∧ isLst d = false) → R J H) :
    (∃ a, v = .ref a ∧ ((∃ xs, SqL g.K H a xs) ∧ R (Itl g.K a) H ∨ (∃ xs, SqT g.K H a xs) ∧ R (Itt g.K a) H)) ∨ ∃ z, v = .str z ∧ R (Its z) H := by
  cases h with
  | tup h rr l => cases hd; exact .inl ⟨_, rfl, .inr ⟨⟨_, h⟩, r _ _ walkD_tup (.inl rfl)⟩⟩
  | lst h c rr l => cases hd; exact .inl ⟨_, rfl, .inl ⟨⟨_, SqL.of h⟩, r _ _ walkD_list (.inl rfl)⟩⟩
  | lsf h rr l => cases hd; obtain ⟨o, h⟩ := h; exact .inl ⟨_, rfl, .inl ⟨⟨_, .inl (.inr ⟨o, h⟩)⟩, r _ _ walkD_list (.inl rfl)⟩⟩
  | str z => cases hd; exact .inr ⟨z, rfl, r _ _ walkD_str (.inr ⟨rfl, rfl⟩)⟩
  | _ => cases hd
theorem i_val (hK : X.K = g.K) (ha : PE X a (tE g W fa)) : PI X tg a (tI g W none fun E S => (fa E S).bind fun p => (R.of (itemsOf p.1)).bind fun ds => .ok (ds, (p.2.1 || !isLst p.1) && D.lfs ds, p.2.2)) := by
  refine PI.imp (pi_any ha) fun σ H R h => ?_
  obtain ⟨B, E, S, ρ, s0, h⟩ := h
  show tE g W fa σ H _
  refine tE.mk s0 h fun p v H1 ρ1 G1 s1 h1 => ?_
  obtain ⟨ds, hd, hP⟩ := post_of (post_bind h1)
  rw [hK]
  refine any_J G1.rep hd fun J Ps w hps => hP J Ps H1 ρ1 G1.ext s1.sto w (fun q hq => ?_) (fun hs q hq => ?_) fun i z => nomatch z
  · rcases hps with rfl | ⟨rfl, _⟩
    · rw [List.mem_singleton.mp hq]; exact G1.rep
    · cases hq
  · rw [Bool.and_eq_true] at hs
    rcases hps with rfl | ⟨rfl, _⟩
    · have e := List.mem_singleton.mp hq
      subst e
      refine ⟨seqLf_items hd hs.2, fun hl => ?_⟩
      have hs := hs.1
      rcases Bool.or_eq_true _ _ ▸ hs with z | z
      · exact G1.own z
      · rw [hl] at z; cases z
    · cases hq
theorem i_var (hK : X.K = g.K) {i : Nat} {x : Str} (hN : X.N[i]? = some x) (hv : Vis X.env.scope x) (hd : (x == ("__debug__" : Str)) = false) (hcd : (x == ("__classdict__" : Str)) = false) :
    PI X tg (.Name x pos) (tI g W (some i) fun E S => R.bind (match E[i]? with
    | some (some p) => R.ok (p.1, false, S)
    | _ => R.bad) fun p => (R.of (itemsOf p.1)).bind fun ds => .ok (ds, (p.2.1 || !isLst p.1) && D.lfs ds, p.2.2)) := by
  refine PI.imp (pi_any (pe_var hN hv hd hcd)) fun σ H R h => ?_
  obtain ⟨B, E, S, ρ, s0, h⟩ := h
  dsimp only at h
  cases e : E[i]? with
  | none => rw [e] at h; exact h.elim
  | some u =>
    cases u with
    | none => rw [e] at h; exact h.elim
    | some p =>
      rw [e] at h
      simp only [Pz.R.bind_ok] at h
      obtain ⟨v, h1, h2⟩ := s0.env.at_ i p.1 p.2 e
      obtain ⟨ds, hd, hP⟩ := post_of (post_bind h)
      refine ⟨v, h1, ?_⟩
      rw [hK]
      refine any_J h2 hd fun J Ps w hps => hP J Ps H ρ (Ext.refl _ _) s0.sto w (fun q hq => ?_) (fun hs q hq => ?_) fun j z => ?_
      · rcases hps with rfl | ⟨rfl, _⟩
        · rw [List.mem_singleton.mp hq]; exact h2
        · cases hq
      · rw [Bool.and_eq_true] at hs
        rcases hps with rfl | ⟨rfl, _⟩
        · have e := List.mem_singleton.mp hq
          subst e
          refine ⟨seqLf_items hd hs.2, fun hl => ?_⟩
          have hs := hs.1
          rw [hl] at hs; cases hs
        · cases hq
      · cases z
        exact ⟨v, p.1, p.2, e, h1, hps, seqLf_of hd⟩
theorem seq_J {ρ : List Addr} {A : Addr → Prop} {H : Hp} {v : V} {d : D} {ds : List D} (h : Rp g ρ A H v d) (hd : seqOf d = some ds) : ∃ a xs, v = .ref a ∧ ((SqL g.K H a xs ∧ d = .lst ds) ∨ (SqT g.K H a xs ∧ d = .tup ds)) := by
  cases h with
  | tup h rr l => cases hd; exact ⟨_, _, rfl, .inr ⟨h, rfl⟩⟩
  | lst h c rr l => cases hd; exact ⟨_, _, rfl, .inl ⟨SqL.of h, rfl⟩⟩
  | lsf h rr l => cases hd; obtain ⟨o, h⟩ := h; exact ⟨_, _, rfl, .inl ⟨.inl (.inr ⟨o, h⟩), rfl⟩⟩
  | _ => cases hd
theorem i_enum (hK : X.K = g.K) {elts : List Expr} {kk : Nat} {p tpos : Pos} (hg : Gl X "enumerate") (hm : X.mg "enumerate" = none) (hs : starEach [a] X.env = [(false, eval a X.env)]) (ha : PE X a (tE g W fa)) :
    PI X (.Tuple elts kk tpos) (.Call (.Name "enumerate" p) [a] [] pos) (tI g W none fun E S => (fa E S).bind fun p => (R.of (seqOf p.1)).bind fun xs => .ok (enumD 0 xs, (p.2.1 || !isLst p.1) && D.lfs xs, p.2.2)) := by
  refine PI.imp (pi_enumA hg hm (pa_cons ha pa_nil hs) hs) fun σ H R h => ?_
  obtain ⟨B, E, S, ρ, s0, h⟩ := h
  show tE g W fa σ H _
  refine tE.mk s0 h fun p v H1 ρ1 G1 s1 h1 => ?_
  obtain ⟨ds, hd, hP⟩ := post_of (post_bind h1)
  obtain ⟨a', xs, rfl, hq⟩ := seq_J G1.rep hd
  refine ⟨a', xs, rfl, ?_⟩
  rw [hK]
  rcases hq with ⟨hq, e⟩ | ⟨hq, e⟩
  · refine .inl ⟨hq, hP _ [(.ref a', p.1)] H1 ρ1 G1.ext s1.sto (by rw [e]; exact walkD_enumL) (fun q hq => by rw [List.mem_singleton.mp hq]; exact G1.rep) (fun hs q hq => ?_) fun i z => nomatch z⟩
    rw [Bool.and_eq_true] at hs
    have e := List.mem_singleton.mp hq
    subst e
    refine ⟨seqLf_seq hd hs.2, fun hl => ?_⟩
    have hs := hs.1
    rcases Bool.or_eq_true _ _ ▸ hs with z | z
    · exact G1.own z
    · rw [hl] at z; cases z
  · refine .inr ⟨hq, hP _ [(.ref a', p.1)] H1 ρ1 G1.ext s1.sto (by rw [e]; exact walkD_enumT) (fun q hq => by rw [List.mem_singleton.mp hq]; exact G1.rep) (fun hs q hq => ?_) fun i z => nomatch z⟩
    rw [Bool.and_eq_true] at hs
    have e2 := List.mem_singleton.mp hq
    subst e2
    refine ⟨seqLf_seq hd hs.2, fun hl => ?_⟩
    rw [e] at hl; cases hl
theorem i_enumV (hK : X.K = g.K) {elts : List Expr} {kk : Nat} {p p2 tpos : Pos} {i : Nat} {x : Str} (hg : Gl X "enumerate") (hm : X.mg "enumerate" = none) (hN : X.N[i]? = some x) (hv : Vis X.env.scope x) (hd : (x == ("__debug__" : Str)) = false) (hcd : (x == ("__classdict__" : Str)) = false) :
    PI X (.Tuple elts kk tpos) (.Call (.Name "enumerate" p) [.Name x p2] [] pos) (tI g W (some i) fun E S => R.bind (match E[i]? with
    | some (some p) => R.ok (p.1, false, S)
    | _ => R.bad) fun p => (R.of (seqOf p.1)).bind fun xs => .ok (enumD 0 xs, (p.2.1 || !isLst p.1) && D.lfs xs, p.2.2)) := by
  refine PI.imp (pi_enumA hg hm (pa_cons (pe_var hN hv hd hcd) pa_nil rfl) rfl) fun σ H R h => ?_
  obtain ⟨B, E, S, ρ, s0, h⟩ := h
  dsimp only at h
  cases e : E[i]? with
  | none => rw [e] at h; exact h.elim
  | some u =>
    cases u with
    | none => rw [e] at h; exact h.elim
    | some p =>
      rw [e] at h
      simp only [Pz.R.bind_ok] at h
      obtain ⟨v, h1, h2⟩ := s0.env.at_ i p.1 p.2 e
      obtain ⟨ds, hd, hP⟩ := post_of (post_bind h)
      refine ⟨v, h1, ?_⟩
      obtain ⟨a', xs, rfl, hq⟩ := seq_J h2 hd
      refine ⟨a', xs, rfl, ?_⟩
      rw [hK]
      rcases hq with ⟨hq, e2⟩ | ⟨hq, e2⟩
      · refine .inl ⟨hq, hP _ [(.ref a', p.1)] H ρ (Ext.refl _ _) s0.sto (by rw [e2]; exact walkD_enumL) (fun q hq => by rw [List.mem_singleton.mp hq]; exact h2) (fun hs q hq => ?_) fun j z => ?_⟩
        · rw [Bool.and_eq_true] at hs
          have e := List.mem_singleton.mp hq
          subst e
          refine ⟨seqLf_seq hd hs.2, fun hl => ?_⟩
          have hs := hs.1
          rw [hl] at hs; cases hs
        · cases z; exact ⟨_, p.1, p.2, e, h1, .inl rfl, fun z => by rw [enumD_lfs]; exact seqLf_of2 hd z⟩
      · refine .inr ⟨hq, hP _ [(.ref a', p.1)] H ρ (Ext.refl _ _) s0.sto (by rw [e2]; exact walkD_enumT) (fun q hq => by rw [List.mem_singleton.mp hq]; exact h2) (fun hs q hq => ?_) fun j z => ?_⟩
        · rw [Bool.and_eq_true] at hs
          have e := List.mem_singleton.mp hq
          subst e
          refine ⟨seqLf_seq hd hs.2, fun hl => ?_⟩
          have hs := hs.1
          rw [hl] at hs; cases hs
        · cases z; exact ⟨_, p.1, p.2, e, h1, .inl rfl, fun z => by rw [enumD_lfs]; exact seqLf_of2 hd z⟩
theorem i_zip (hK : X.K = g.K) {elts : List Expr} {kk : Nat} {p tpos : Pos} (hg : Gl X "zip") (hm : X.mg "zip" = none) (hs : starEach [a, b] X.env = (false, eval a X.env) :: starEach [b] X.env) (hs2 : starEach [b] X.env = (false, eval b X.env) :: starEach [] X.env) (ha : PE X a (tE g W fa)) (hb : PE X b (tE g W fb)) :
    PI X (.Tuple elts kk tpos) (.Call (.Name "zip" p) [a, b] [] pos) (tI g W none fun E S => (fa E S).bind fun p => (fb E p.2.2).bind fun q => if isLst p.1 == isLst q.1 then (R.of (seqOf p.1)).bind fun xs => (R.of (seqOf q.1)).bind fun ys => .ok (zipD xs ys, ((p.2.1 || !isLst p.1) && D.lfs xs) && ((q.2.1 || !isLst q.1) && D.lfs ys), q.2.2) else .bad) := by
  refine PI.imp (RZ.pi_zipA hg hm (pa_cons ha (pa_cons hb pa_nil hs2) hs) hs (by rw [hs2]; rfl)) fun σ H R h => ?_
  obtain ⟨B, E, S, ρ, s0, h⟩ := h
  show tE g W fa σ H _
  refine tE.mk s0 h fun p v H1 ρ1 G1 s1 h1 => tE.mk s1 h1 fun q u H2 ρ2 G2 s2 h2 => ?_
  by_cases hl : (isLst p.1 == isLst q.1) = true
  · rw [if_pos hl] at h2
    obtain ⟨ds, hd, h3⟩ := post_of (post_bind h2)
    obtain ⟨es, he, hP⟩ := post_of (post_bind h3)
    have r1 := G1.rep.ext G2.ext
    obtain ⟨a', xs, rfl, hq⟩ := seq_J r1 hd
    obtain ⟨b', ys, rfl, hq2⟩ := seq_J G2.rep he
    refine ⟨a', b', xs, ys, rfl, ?_⟩
    have pins : ∀ q' ∈ [(V.ref a', p.1), (V.ref b', q.1)], Rp g ρ2 (Al ρ2 B) H2 q'.1 q'.2 := fun q' hq' => by
      rcases List.mem_cons.mp hq' with rfl | hq'
      · exact r1
      · rw [List.mem_singleton.mp hq']; exact G2.rep
    have fr : (((p.2.1 || !isLst p.1) && D.lfs ds) && ((q.2.1 || !isLst q.1) && D.lfs es)) = true → ∀ q' ∈ [(V.ref a', p.1), (V.ref b', q.1)], seqLf q'.2 = true ∧ (isLst q'.2 = true → Fresh H H2 ρ2 q'.1) := fun hz q' hq' => by
      rw [Bool.and_eq_true, Bool.and_eq_true, Bool.and_eq_true] at hz
      rcases List.mem_cons.mp hq' with rfl | hq'
      · refine ⟨seqLf_seq hd hz.1.2, fun hl' => ?_⟩
        rcases Bool.or_eq_true _ _ ▸ hz.1.1 with z | z
        · exact (G1.own z).go G2.ext
        · rw [hl'] at z; cases z
      · have e2 := List.mem_singleton.mp hq'
        subst e2
        refine ⟨seqLf_seq he hz.2.2, fun hl' => ?_⟩
        rcases Bool.or_eq_true _ _ ▸ hz.2.1 with z | z
        · exact (G2.own z).back G1.ext
        · rw [hl'] at z; cases z
    rw [hK]
    rcases hq with ⟨hq, e⟩ | ⟨hq, e⟩
    · rcases hq2 with ⟨hq2, e2⟩ | ⟨hq2, e2⟩
      · exact .inl ⟨hq, hq2, hP _ _ H2 ρ2 (G1.ext.trans G2.ext) s2.sto (by rw [e, e2]; exact walkD_zipL) pins fr fun i z => nomatch z⟩
      · rw [e, e2] at hl; cases hl
    · rcases hq2 with ⟨hq2, e2⟩ | ⟨hq2, e2⟩
      · rw [e, e2] at hl; cases hl
      · exact .inr ⟨hq, hq2, hP _ _ H2 ρ2 (G1.ext.trans G2.ext) s2.sto (by rw [e, e2]; exact walkD_zipT) pins fr fun i z => nomatch z⟩
  · rw [if_neg hl] at h2
    exact h2.elim
theorem small_of {i : Int} (h : smallI i = true) : -(2 ^ 62) ≤ i ∧ i < 2 ^ 62 := by
  unfold smallI at h
  rw [Bool.and_eq_true] at h
  exact ⟨of_decide_eq_true h.1, of_decide_eq_true h.2⟩
theorem i_rng1 {p : Pos} (hg : Gl X "range") (hm : X.mg "range" = none) (hs : starEach [a] X.env = [(false, eval a X.env)]) (ha : PE X a (tE g W fa)) :
    PI X tg (.Call (.Name "range" p) [a] [] pos) (tI g W none fun E S => (fa E S).bind fun p => match p.1 with
    | .int j => if smallI j then .ok (rngD 0 j.toNat, true, p.2.2) else .bad
    | _ => .bad) := by
  refine PI.imp (pi_range1 hg hm (pa_cons ha pa_nil hs) hs) fun σ H R h => ?_
  obtain ⟨B, E, S, ρ, s0, h⟩ := h
  show tE g W fa σ H _
  refine tE.mk s0 h fun p v H1 ρ1 G1 s1 h1 => ?_
  obtain ⟨d, o, S1⟩ := p
  cases d <;> try exact h1.elim
  rename_i j
  have hr := G1.rep
  cases hr
  dsimp only at h1
  by_cases hj : smallI j = true
  · rw [if_pos hj] at h1
    exact ⟨j, rfl, (small_of hj).1, (small_of hj).2, h1 _ [] H1 ρ1 G1.ext s1.sto walkD_rng (fun _ z => nomatch z) (fun _ _ z => nomatch z) fun _ z => nomatch z⟩
  · rw [if_neg hj] at h1
    exact h1.elim
theorem i_rng2 {p : Pos} (hg : Gl X "range") (hm : X.mg "range" = none) (hs : starEach [a, b] X.env = [(false, eval a X.env), (false, eval b X.env)]) (hs2 : starEach [b] X.env = [(false, eval b X.env)]) (ha : PE X a (tE g W fa)) (hb : PE X b (tE g W fb)) :
    PI X tg (.Call (.Name "range" p) [a, b] [] pos) (tI g W none fun E S => (fa E S).bind fun p => (fb E p.2.2).bind fun q => match p.1, q.1 with
    | .int i, .int j => if smallI i && smallI j then .ok (rngD i (j - i).toNat, true, q.2.2) else .bad
    | _, _ => .bad) := by
  refine PI.imp (pi_range2 hg hm (pa_cons ha (pa_cons hb pa_nil hs2) (by rw [hs, hs2])) hs hs2) fun σ H R h => ?_
  obtain ⟨B, E, S, ρ, s0, h⟩ := h
  show tE g W fa σ H _
  refine tE.mk s0 h fun p v H1 ρ1 G1 s1 h1 => tE.mk s1 h1 fun q u H2 ρ2 G2 s2 h2 => ?_
  obtain ⟨d, o, S1⟩ := p
  obtain ⟨d2, o2, S2⟩ := q
  cases d <;> try exact h2.elim
  cases d2 <;> try exact h2.elim
  rename_i i j
  have hr := G1.rep
  cases hr
  have hr2 := G2.rep
  cases hr2
  dsimp only at h2
  by_cases hj : (smallI i && smallI j) = true
  · rw [if_pos hj] at h2
    rw [Bool.and_eq_true] at hj
    exact ⟨i, j, rfl, ⟨(small_of hj.1).1, (small_of hj.1).2, (small_of hj.2).1, (small_of hj.2).2⟩, h2 _ [] H2 ρ2 (G1.ext.trans G2.ext) s2.sto walkD_rng (fun _ z => nomatch z) (fun _ _ z => nomatch z) fun _ z => nomatch z⟩
  · rw [if_neg hj] at h2
    exact h2.elim
/-! ### tuple(range(..)), list(range(..)) -/
theorem rgV_rep {ρ : List Addr} {A : Addr → Prop} {H : Hp} (i : Int) : ∀ (ks : List Nat), RpL g ρ A H (ks.map fun k => V.int (i + (k : Nat))) (ks.map fun (k : Nat) => D.int (i + (k : Int)))
  | [] => .nil
  | k :: ks => .cons (.int _) (rgV_rep i ks)
theorem cvr_go {B : Addr → Prop} {σ : L2.St} {H H1 : Hp} {ρ ρ1 : List Addr} {S : Sto} {t : Bool} {x y : D} {Q : VK} (e : Ext H ρ H1 ρ1) (b : Bok B H1) (s : StoR g H1 ρ1 S) (h : post g W σ H1 ρ1 (cvrEv t S x y) (PV g B H ρ Q)) :
    ∃ i j : Int, x = .int i ∧ y = .int j ∧ RgOk i j ∧ ∀ q, H1 q = none → (if t then Q (.ref q) (upd H1 q (.tup (rgV i j))) else Q (.ref q) (upd H1 q (.lst (rgV i j)))) := by
  unfold cvrEv at h
  split at h
  · rename_i i j
    by_cases hz : (smallI i && smallI j && decide ((j - i).toNat ≤ line)) = true
    · rw [if_pos hz] at h
      simp only [Bool.and_eq_true, decide_eq_true_eq] at hz
      obtain ⟨⟨h1, h2⟩, h3⟩ := hz
      have hl : (rngD i (j - i).toNat).length ≤ line := by unfold rngD; rw [List.length_map, List.length_range]; exact h3
      refine ⟨i, j, rfl, rfl, ⟨(small_of h1).1, (small_of h1).2, (small_of h2).1, (small_of h2).2, h3⟩, fun q hq => ?_⟩
      cases t with
      | true => exact h _ _ ρ1 ((Got.tup (B := B) s (rgV_rep i _) hl hq).base e)
      | false => exact h _ _ ρ1 ((Got.lst (B := B) b s (rgV_rep i _) hl hq).base e)
    · rw [if_neg hz] at h
      exact h.elim
  · exact h.elim
theorem e_cvr1 {t : Bool} {p1 p2 pos1 : Pos} (hc : X.calm = true) {x : Str} (hx : x = if t then ("tuple" : Str) else ("list" : Str)) (hg : Gl X x) (hm : X.mg x = none) (hg2 : Gl X "range") (hm2 : X.mg "range" = none) (hs : starEach [a] X.env = [(false, eval a X.env)]) (ha : PE X a (tE g W fa)) :
    PE X (.Call (.Name x p1) [.Call (.Name "range" p2) [a] [] pos1] [] pos) (tE g W fun E S => (fa E S).bind fun p => cvrEv t p.2.2 (.int 0) p.1) := by
  subst hx
  cases t with
  | true =>
    refine PE.imp (pe_tupRg hc hg hm (prg_1 hg2 hm2 ha hs)) fun σ H Q h => ?_
    obtain ⟨B, E, S, ρ, s0, h⟩ := h
    refine tE.mk s0 h fun p v H1 ρ1 G1 s1 h1 => ?_
    obtain ⟨i, j, e1, e2, ok, k⟩ := cvr_go G1.ext s1.bok s1.sto h1
    have r := G1.rep
    rw [e2] at r
    cases r
    cases e1
    exact ⟨j, rfl, ok, k⟩
  | false =>
    refine PE.imp (pe_listRg hc hg hm (prg_1 hg2 hm2 ha hs)) fun σ H Q h => ?_
    obtain ⟨B, E, S, ρ, s0, h⟩ := h
    refine tE.mk s0 h fun p v H1 ρ1 G1 s1 h1 => ?_
    obtain ⟨i, j, e1, e2, ok, k⟩ := cvr_go G1.ext s1.bok s1.sto h1
    have r := G1.rep
    rw [e2] at r
    cases r
    cases e1
    exact ⟨j, rfl, ok, k⟩
theorem e_cvr2 {t : Bool} {p1 p2 pos1 : Pos} (hc : X.calm = true) {x : Str} (hx : x = if t then ("tuple" : Str) else ("list" : Str)) (hg : Gl X x) (hm : X.mg x = none) (hg2 : Gl X "range") (hm2 : X.mg "range" = none) (hs : starEach [a, b] X.env = (false, eval a X.env) :: starEach [b] X.env) (hs2 : starEach [b] X.env = (false, eval b X.env) :: starEach [] X.env) (hp : (backTo pos1 (starEach [b] X.env)).any (·.1) = false) (ha : PE X a (tE g W fa)) (hb : PE X b (tE g W fb)) :
    PE X (.Call (.Name x p1) [.Call (.Name "range" p2) [a, b] [] pos1] [] pos) (tE g W fun E S => (fa E S).bind fun p => (fb E p.2.2).bind fun q => cvrEv t q.2.2 p.1 q.1) := by
  subst hx
  cases t with
  | true =>
    refine PE.imp (pe_tupRg hc hg hm (prg_2 hg2 hm2 ha hb hs hs2 hp)) fun σ H Q h => ?_
    obtain ⟨B, E, S, ρ, s0, h⟩ := h
    refine tE.mk s0 h fun p v H1 ρ1 G1 s1 h1 => tE.mk s1 h1 fun q u H2 ρ2 G2 s2 h2 => ?_
    obtain ⟨i, j, e1, e2, ok, k⟩ := cvr_go (G1.ext.trans G2.ext) s2.bok s2.sto h2
    have r := G1.rep
    rw [e1] at r
    cases r
    have r2 := G2.rep
    rw [e2] at r2
    cases r2
    exact ⟨i, j, rfl, rfl, ok, k⟩
  | false =>
    refine PE.imp (pe_listRg hc hg hm (prg_2 hg2 hm2 ha hb hs hs2 hp)) fun σ H Q h => ?_
    obtain ⟨B, E, S, ρ, s0, h⟩ := h
    refine tE.mk s0 h fun p v H1 ρ1 G1 s1 h1 => tE.mk s1 h1 fun q u H2 ρ2 G2 s2 h2 => ?_
    obtain ⟨i, j, e1, e2, ok, k⟩ := cvr_go (G1.ext.trans G2.ext) s2.bok s2.sto h2
    have r := G1.rep
    rw [e1] at r
    cases r
    have r2 := G2.rep
    rw [e2] at r2
    cases r2
    exact ⟨i, j, rfl, rfl, ok, k⟩
end
end Pz

set_option Elab.async false
set_option linter.all false
set_option autoImplicit false
set_option maxRecDepth 100000
set_option maxHeartbeats 1000000
/-! Pz, part M: targets, comprehensions. -/
namespace Pz
open PySem PySem.Spec PyProof.Rows L2
mutual
def tG (K : PySem.W.Frag) : Tg → TG
  | .nm i => gName i
  | .tp ts => gTup K ts.num (tGs K ts)
def tGs (K : PySem.W.Frag) : Tgs → TGs
  | .nil => gNil
  | .cons t ts => gCons (tG K t) (tGs K ts)
def Tgs.num : Tgs → Nat
  | .nil => 0
  | .cons _ ts => ts.num + 1
end
section
variable {g : Gx} {W : WX} {B B' : Addr → Prop} {E E1 : Env} {S : Sto} {ρ ρ' : List Addr} {σ : L2.St} {H H' : Hp}
theorem EnvE.set (h : EnvE g ρ B H σ E) {i : Nat} {v : V} {d : D} {o : Bool} (r : Rp g ρ (Al ρ B) H v d) : EnvE g ρ B H (σ.set i (some v)) (E.set i (some (d, o))) := by
  refine ⟨by rw [List.length_set, List.length_set]; exact h.len, fun j d' o' hj => ?_⟩
  by_cases e : i = j
  · subst e
    have hl : i < E.length := by
      have := (List.getElem?_eq_some_iff.mp hj).1
      simpa using this
    rw [List.getElem?_set_self hl] at hj
    cases hj
    exact ⟨v, List.getElem?_set_self (Nat.lt_of_lt_of_le hl h.len), r⟩
  · rw [List.getElem?_set_ne e] at hj
    obtain ⟨w, h1, h2⟩ := h.at_ j d' o' hj
    exact ⟨w, by rw [List.getElem?_set_ne e]; exact h1, h2⟩
/-- what a target leaves as it was -/
def Off (vs : List Nat) (σ σ' : L2.St) : Prop := σ'.length = σ.length ∧ ∀ i, i ∉ vs → σ'[i]? = σ[i]?
theorem Off.refl (vs : List Nat) (σ : L2.St) : Off vs σ σ := ⟨rfl, fun _ _ => rfl⟩
theorem Off.trans {vs vs' : List Nat} {σ σ1 σ2 : L2.St} (a : Off vs σ σ1) (b : Off vs' σ1 σ2) : Off (vs ++ vs') σ σ2 := ⟨b.1.trans a.1, fun i h => by
  rw [List.mem_append, not_or] at h
  rw [b.2 i h.2, a.2 i h.1]⟩
mutual
theorem bind_ok : ∀ (t : Tg) {v : V} {d : D} {E E1 : Env} {σ : L2.St} {Q : L2.St → Hp → Prop}, bindC t d E = some E1 → Rp g ρ (Al ρ B) H v d → EnvE g ρ B H σ E →
    (∀ σ', EnvE g ρ B H σ' E1 → Off t.vars σ σ' → Q σ' H) → tG g.K t v σ H Q
  | .nm i, v, d, E, E1, σ, Q, hb, r, h, q => by
    cases hb
    exact q _ (h.set r) ⟨List.length_set, fun j hj => List.getElem?_set_ne fun e => hj (by rw [e]; exact List.mem_cons_self)⟩
  | .tp ts, v, d, E, E1, σ, Q, hb, r, h, q => by
    cases d with
    | tup ds =>
      obtain ⟨a, xs, e, hs, hr, hl⟩ := r.td
      refine ⟨a, xs, e, hs, ?_, bindAll_ok ts hb hr h q⟩
      rw [hr.length]
      exact bindAll_num ts hb
    | _ => cases hb
theorem bindAll_ok : ∀ (ts : Tgs) {vs : List V} {ds : List D} {E E1 : Env} {σ : L2.St} {Q : L2.St → Hp → Prop}, bindAll ts ds E = some E1 → RpL g ρ (Al ρ B) H vs ds → EnvE g ρ B H σ E →
    (∀ σ', EnvE g ρ B H σ' E1 → Off ts.vars σ σ' → Q σ' H) → tGs g.K ts vs σ H Q
  | .nil, vs, ds, E, E1, σ, Q, hb, r, h, q => by
    cases ds with
    | nil => cases hb; cases r; exact ⟨rfl, q σ h (Off.refl _ _)⟩
    | cons _ _ => cases hb
  | .cons t ts, vs, ds, E, E1, σ, Q, hb, r, h, q => by
    cases ds with
    | nil => cases hb
    | cons d ds =>
      cases r with
      | cons r rs =>
        cases e : bindC t d E with
        | none => rw [bindAll, e] at hb; cases hb
        | some E2 =>
          rw [bindAll, e] at hb
          exact ⟨_, _, rfl, bind_ok t e r h fun σ' h' o' => bindAll_ok ts hb rs h' fun σ2 h2 o2 => q σ2 h2 (o'.trans o2)⟩
theorem bindAll_num : ∀ (ts : Tgs) {ds : List D} {E E1 : Env}, bindAll ts ds E = some E1 → ds.length = ts.num
  | .nil, ds, E, E1, hb => by
    cases ds with
    | nil => rfl
    | cons _ _ => cases hb
  | .cons t ts, ds, E, E1, hb => by
    cases ds with
    | nil => cases hb
    | cons d ds =>
      cases e : bindC t d E with
      | none => rw [bindAll, e] at hb; cases hb
      | some E2 =>
        rw [bindAll, e] at hb
        rw [List.length_cons, bindAll_num ts hb]; rfl
end
/-! ### wiping -/
theorem wipe_in {σ : L2.St} {i : Nat} : ∀ {vs : List Nat}, i ∈ vs → i < σ.length → (wipe σ vs)[i]? = some none
  | v :: vs, h, hl => by
    unfold wipe
    by_cases e : v = i
    · subst e
      exact List.getElem?_set_self (by rw [wipe_length]; exact hl)
    · rw [List.getElem?_set_ne e]
      exact wipe_in (by rcases List.mem_cons.mp h with z | z; exact absurd z.symm e; exact z) hl
theorem wipe_off {σ σ' : L2.St} {vs ws : List Nat} (h : Off ws (wipe σ vs) σ') (hs : ∀ i ∈ ws, i ∈ vs) : wipe σ' vs = wipe σ vs := by
  refine List.ext_getElem? fun i => ?_
  have hl : σ'.length = σ.length := by rw [h.1, wipe_length]
  by_cases hi : i ∈ vs
  · by_cases hn : i < σ.length
    · rw [wipe_in hi hn, wipe_in hi (by rw [hl]; exact hn)]
    · rw [List.getElem?_eq_none (by rw [wipe_length, hl]; exact Nat.le_of_not_lt hn), List.getElem?_eq_none (by rw [wipe_length]; exact Nat.le_of_not_lt hn)]
  · rw [wipe_out hi, h.2 i fun z => hi (hs i z)]
theorem wipeE_length : ∀ (vs : List Nat) (E : Env), (wipeE E vs).length = E.length
  | [], _ => rfl
  | v :: vs, E => by unfold wipeE; rw [List.length_set]; exact wipeE_length vs E
theorem EnvE.wipe (h : EnvE g ρ B H σ E) : ∀ vs : List Nat, EnvE g ρ B H (wipe σ vs) (wipeE E vs)
  | [] => h
  | v :: vs => by
    have k := h.wipe vs
    unfold L2.wipe wipeE
    refine ⟨by rw [List.length_set, List.length_set]; exact k.len, fun i d o hi => ?_⟩
    by_cases e : v = i
    · subst e
      by_cases hl : v < (wipeE E vs).length
      · rw [List.getElem?_set_self hl] at hi; cases hi
      · rw [List.getElem?_eq_none (by rw [List.length_set]; exact Nat.le_of_not_lt hl)] at hi; cases hi
    · rw [List.getElem?_set_ne e] at hi
      rw [List.getElem?_set_ne e]
      exact k.at_ i d o hi
/-! ### a list of the law's own is written -/
theorem SqT.write {K : PySem.W.Frag} {a b : Addr} {xs ys zs : List V} (hD : H b = some (.lst ys)) (h : SqT K H a xs) : SqT K (upd H b (.lst zs)) a xs := by
  rcases h with (h | ⟨o, h⟩) | h
  · refine .inl (.inl ?_)
    rw [upd_ne (fun e => by rw [e, hD] at h; cases h)]; exact h
  · refine .inl (.inr ⟨o, ?_⟩)
    rw [upd_ne (fun e => by rw [e, hD] at h; cases h)]; exact h
  · exact .inr h
theorem frz_write {a b : Addr} {o : Obj} {u : HO} {ys zs : List V} (hD : H b = some (.lst ys)) (h : H a = some (.frz o u)) : upd H b (.lst zs) a = some (.frz o u) := by
  rw [upd_ne (fun e => by rw [e, hD] at h; cases h)]; exact h
theorem LsF.write {K : PySem.W.Frag} {a b : Addr} {xs ys zs : List V} (hD : H b = some (.lst ys)) (h : LsF K H a xs) : LsF K (upd H b (.lst zs)) a xs := by
  obtain ⟨o, h⟩ := h
  refine ⟨o, ?_⟩
  rw [upd_ne (fun e => by rw [e, hD] at h; cases h)]; exact h
theorem Rp.write {b : Addr} {ys zs : List V} {A : Addr → Prop} (hD : H b = some (.lst ys)) (hA : ¬ A b) {v : V} {d : D} (h : Rp g ρ A H v d) : Rp g ρ A (upd H b (.lst zs)) v d :=
  h.go (fun a xs ha hx => ⟨by rw [upd_ne (fun e => hA (by rw [← e]; exact ha))]; exact hx, ha⟩) (fun _ _ z => SqT.write hD z) (fun _ _ _ z => frz_write hD z) fun _ _ z => z
theorem RpL.write {b : Addr} {ys zs : List V} {A : Addr → Prop} (hD : H b = some (.lst ys)) (hA : ¬ A b) {v : List V} {d : List D} (h : RpL g ρ A H v d) : RpL g ρ A (upd H b (.lst zs)) v d :=
  h.go (fun a xs ha hx => ⟨by rw [upd_ne (fun e => hA (by rw [← e]; exact ha))]; exact hx, ha⟩) (fun _ _ z => SqT.write hD z) (fun _ _ _ z => frz_write hD z) fun _ _ z => z
theorem EnvE.write {b : Addr} {ys zs : List V} (hD : H b = some (.lst ys)) (hA : ¬ Al ρ B b) (h : EnvE g ρ B H σ E) : EnvE g ρ B (upd H b (.lst zs)) σ E := ⟨h.len, fun i d o hi =>
  let ⟨v, h1, h2⟩ := h.at_ i d o hi
  ⟨v, h1, h2.write hD hA⟩⟩
theorem StoR.write {b : Addr} {ys zs : List V} (hD : H b = Option.some (.lst ys)) (hb : b ∉ ρ) (s : StoR g H ρ S) : StoR g (upd H b (.lst zs)) ρ S := ⟨s.len, s.nd, tabs_wr s.tab hD, fun n a hn => by
  obtain ⟨xs, ds, h1, h2, h3, h4, h5⟩ := s.at_ n a hn
  refine ⟨xs, ds, ?_, h2, h3.write hD (fun z => z), h4, h5⟩
  rw [upd_ne (fun e => hb (by rw [← e]; exact List.mem_of_getElem? hn))]; exact h1⟩
theorem Bok.write {b : Addr} {xs : List V} (h : Bok B H) : Bok B (upd H b (.lst xs)) := fun a ha => by
  by_cases e : a = b
  · rw [e]; exact nd.no upd_same
  · exact fun z => h a ha fun u hu => z u (by rw [upd_ne e]; exact hu)
theorem Ext.write {H1 : Hp} {ρ1 : List Addr} {b : Addr} {o : HO} (e : Ext H1 ρ1 H ρ) (h : nd H1 b) : Ext H1 ρ1 (upd H b o) ρ where
  keep := fun a u hu hn ht => by rw [upd_ne (fun z => by rw [z] at hu; exact h.nt hu ht)]; exact e.keep a u hu hn ht
  tup := fun a u hu => by rw [upd_ne (fun z => by rw [z] at hu; exact h.nt hu fun _ q => nomatch q)]; exact e.tup a u hu
  frz := fun a u v hu => by rw [upd_ne (fun z => by rw [z] at hu; exact h.nt hu fun _ q => nomatch q)]; exact e.frz a u v hu
  dom := fun a ha => by
    by_cases z : a = b
    · rw [z]; exact h
    · exact e.dom a fun u hu => ha u (by rw [upd_ne z]; exact hu)
  pre := e.pre
  new := e.new
/-- one address more is forbidden: it was not there -/
theorem Al.more {b : Addr} (h : nd H b) : ∀ a, Al ρ B a → ¬ nd H a → Al ρ (fun x => B x ∨ x = b) a := fun a ha hn => ⟨ha.1, fun z => z.elim ha.2 fun e => hn (by rw [e]; exact h)⟩
theorem Rp.more {b : Addr} (h : nd H b) {v : V} {d : D} (r : Rp g ρ (Al ρ B) H v d) : Rp g ρ (Al ρ fun x => B x ∨ x = b) H v d := r.go' (Ext.refl H ρ) fun a ha hn => ⟨ha.1, Al.more h a ha hn⟩
theorem EnvE.more {b : Addr} (hb : nd H b) (h : EnvE g ρ B H σ E) : EnvE g ρ (fun x => B x ∨ x = b) H σ E := ⟨h.len, fun i d o hi =>
  let ⟨v, h1, h2⟩ := h.at_ i d o hi
  ⟨v, h1, h2.more hb⟩⟩
theorem Rp.less {b : Addr} {v : V} {d : D} (r : Rp g ρ (Al ρ fun x => B x ∨ x = b) H v d) : Rp g ρ (Al ρ B) H v d := r.go (fun a xs ha hx => ⟨hx, ha.1, fun z => ha.2 (.inl z)⟩) (fun _ _ z => z) (fun _ _ _ z => z) fun _ _ z => z
theorem RpL.less {b : Addr} {v : List V} {d : List D} (r : RpL g ρ (Al ρ fun x => B x ∨ x = b) H v d) : RpL g ρ (Al ρ B) H v d := r.go (fun a xs ha hx => ⟨hx, ha.1, fun z => ha.2 (.inl z)⟩) (fun _ _ z => z) (fun _ _ _ z => z) fun _ _ z => z
def W0 : WX := fun _ _ _ _ => False
theorem post_noex {α β : Type} {σ' : L2.St} {r : R α} {k : α → R β} {P : β → Prop} (h : post g W σ H ρ (r.noex.bind k) P) : post g W0 σ' H ρ r fun a => post g W σ H ρ (k a) P := by
  cases r with
  | ok a => exact h
  | ex c S => exact h.elim
  | bad => exact h.elim
end
section
variable {X : Cx} {g : Gx} {W : WX} {pos : Pos} {fe : FE (D × Bool × Sto)} {fc : FE (Bool × Sto)} {fi : FE (List D × Bool × Sto)}
/-- a comprehension's list, while it grows -/
structure Gr (g : Gx) (B : Addr → Prop) (H1 : Hp) (ρ1 : List Addr) (D0 : Addr) (Ps : List (V × D)) (τ : L2.St) (F : Env) (Hc : Hp) (ρc : List Addr) (Sc : Sto) (acc : List V) (ads : List D) : Prop where
  ext : Ext H1 ρ1 Hc ρc
  st : St0 g (fun x => B x ∨ x = D0) τ Hc F Sc ρc
  at_ : Hc D0 = some (.lst acc)
  off : D0 ∉ ρc
  rep : RpL g ρc (Al ρc fun x => B x ∨ x = D0) Hc acc ads
  src : ∀ q ∈ Ps, Rp g ρc (Al ρc fun x => B x ∨ x = D0) Hc q.1 q.2
theorem Gr.go {B : Addr → Prop} {H1 Hc H' : Hp} {ρ1 ρc ρ' : List Addr} {D0 : Addr} {Ps : List (V × D)} {τ : L2.St} {F : Env} {Sc S' : Sto} {acc : List V} {ads : List D} (G : Gr g B H1 ρ1 D0 Ps τ F Hc ρc Sc acc ads) (e : Ext Hc ρc H' ρ') (s : StoR g H' ρ' S') : Gr g B H1 ρ1 D0 Ps τ F H' ρ' S' acc ads where
  ext := G.ext.trans e
  st := G.st.go e s
  at_ := e.keep _ _ G.at_ G.off fun _ z => nomatch z
  off := fun z => by
    exact nd.no G.at_ (e.new _ z G.off)
  rep := G.rep.ext e
  src := fun q hq => (G.src q hq).ext e
theorem Gr.app {B : Addr → Prop} {H1 Hc : Hp} {ρ1 ρc : List Addr} {D0 : Addr} {Ps : List (V × D)} {τ : L2.St} {F : Env} {Sc : Sto} {acc : List V} {ads : List D} {v : V} {d : D} (h1 : nd H1 D0) (G : Gr g B H1 ρ1 D0 Ps τ F Hc ρc Sc acc ads) (r : Rp g ρc (Al ρc fun x => B x ∨ x = D0) Hc v d) : Gr g B H1 ρ1 D0 Ps τ F (upd Hc D0 (.lst (acc ++ [v]))) ρc Sc (acc ++ [v]) (ads ++ [d]) :=
  have nA : ¬ Al ρc (fun x => B x ∨ x = D0) D0 := fun z => z.2 (.inr rfl)
  { ext := G.ext.write h1
    st := ⟨G.st.env.write G.at_ nA, G.st.sto.write G.at_ G.off, G.st.bok.write⟩
    at_ := upd_same
    off := G.off
    rep := (G.rep.append (.cons r .nil)).write G.at_ nA
    src := fun q hq => (G.src q hq).write G.at_ nA }
theorem lcGo_step {t : Tg} {own : List Nat} {E : Env} {x : D} {xs : List D} {S : Sto} {α : Type} {P : α → Prop} {k : List D × Sto → R α} {σ : L2.St} {H : Hp} {ρ : List Addr} (h : post g W σ H ρ ((lcGo t own fc fe E (x :: xs) S).bind k) P) : ∃ E1, bindC t x (wipeE E own) = some E1 ∧
    post g W σ H ρ ((fc E1 S).noex.bind fun p => if p.1 then (fe E1 p.2).noex.bind fun q => (lcGo t own fc fe E xs q.2.2).bind fun r => k (q.1 :: r.1, r.2) else (lcGo t own fc fe E xs p.2).bind k) P := by
  unfold lcGo at h
  cases e : bindC t x (wipeE E own) with
  | none => rw [e] at h; exact h.elim
  | some E1 =>
    refine ⟨E1, rfl, ?_⟩
    rw [e] at h
    dsimp only at h
    cases e2 : (fc E1 S).noex with
    | ex c S' => rw [e2] at h; exact h
    | bad => rw [e2] at h; exact h.elim
    | ok p =>
      rw [e2] at h
      rw [Pz.R.bind_ok] at h ⊢
      by_cases hp : p.1 = true
      · rw [if_pos hp] at h ⊢
        cases e3 : (fe E1 p.2).noex with
        | ex c S' => rw [e3] at h; exact h
        | bad => rw [e3] at h; exact h.elim
        | ok q =>
          rw [e3] at h
          rw [Pz.R.bind_ok] at h ⊢
          cases e4 : lcGo t own fc fe E xs q.2.2 with
          | ex c S' => rw [e4] at h; exact h
          | bad => rw [e4] at h; exact h.elim
          | ok r => rw [e4] at h; exact h
      · rw [if_neg hp] at h ⊢
        exact h
theorem lcGo_noex {t : Tg} {own : List Nat} {E : Env} {c : Nat} {S' : Sto} : ∀ (xs : List D) (S : Sto), lcGo t own fc fe E xs S ≠ .ex c S'
  | [], S => fun h => by unfold lcGo at h; cases h
  | x :: xs, S => fun h => by
    unfold lcGo at h
    cases e : bindC t x (wipeE E own) with
    | none => rw [e] at h; cases h
    | some E1 =>
      rw [e] at h
      dsimp only at h
      cases e2 : fc E1 S with
      | ex c S' => rw [e2] at h; cases h
      | bad => rw [e2] at h; cases h
      | ok p =>
        rw [e2] at h
        simp only [R.noex, Pz.R.bind_ok] at h
        by_cases hp : p.1 = true
        · rw [if_pos hp] at h
          cases e3 : fe E1 p.2 with
          | ex c S' => rw [e3] at h; cases h
          | bad => rw [e3] at h; cases h
          | ok q =>
            rw [e3] at h
            simp only [R.noex, Pz.R.bind_ok] at h
            cases e4 : lcGo t own fc fe E xs q.2.2 with
            | ok r => rw [e4] at h; cases h
            | bad => rw [e4] at h; cases h
            | ex c2 S2 => exact lcGo_noex xs _ e4
        · rw [if_neg hp] at h
          exact lcGo_noex xs _ h
theorem lc_go {t : Tg} {vs : List Nat} {vr : Option Nat} {σ : L2.St} {H : Hp} {Q : VK} (hK : X.K = g.K) (hv : ∀ i ∈ t.vars, i ∈ vs)
    (h : tE g W (fun E S => (fi E S).bind fun p => if p.1.length ≤ line then (lcGo t vs fc fe E p.1 p.2.2).bind fun q => .ok (.lst q.1, true, q.2) else .bad) σ H Q) :
    tLc (tI g W vr fi) (tG X.K t) (tT g W0 fc) (tE g W0 fe) vs σ H Q := by
  obtain ⟨B, E, S, ρ, s0, h⟩ := h
  refine ⟨B, E, S, ρ, s0, (post_bind h).imp fun p _ hp J Ps H1 ρ1 e1 s1 w pins _ _ D0 hD => ?_⟩
  have hp := post.go hp e1 fun _ z => z
  have s1' := s0.go e1 s1
  by_cases hl : p.1.length ≤ line
  · rw [if_pos hl] at hp
    refine ⟨fun i m Hc => ∃ ρc Sc acc ads, i + m = p.1.length ∧ acc.length ≤ i ∧ Gr g B H1 ρ1 D0 Ps (wipe σ vs) (wipeE E vs) Hc ρc Sc acc ads ∧
      post g W σ Hc ρc ((lcGo t vs fc fe E (p.1.drop i) Sc).bind fun q => .ok (.lst (ads ++ q.1), true, q.2)) (PV g B H ρ Q), ⟨p.1.length, ρ1, p.2.2, [], [], by omega, Nat.le_refl _, ?_, ?_⟩, fun i m Hc ⟨ρc, Sc, acc, ads, hm, hla, G, hp⟩ => ?_⟩
    · have e2 : Ext H1 ρ1 (upd H1 D0 (.lst [])) ρ1 := Ext.laid hD
      have nr : D0 ∉ ρ1 := fun z => s1.some z (nd.of hD)
      exact { ext := e2, st := ⟨((s1'.env.more (nd.of hD)).ext e2).wipe vs, s1.laid hD, fun a ha => by
                  rcases ha with z | z
                  · exact (s1'.bok.go e2) a z
                  · rw [z]; exact nd.no upd_same⟩, at_ := upd_same, off := nr, rep := .nil, src := fun q hq => ((pins q hq).more (nd.of hD)).ext e2 }
    · exact hp.go (Ext.laid hD) fun _ z => z
    · by_cases hi : i < p.1.length
      · refine .inr ⟨w.go ρc _ Hc i G.src hi, fun H' => ∃ ρ' S' acc' ads', acc'.length ≤ i + 1 ∧ Gr g B H1 ρ1 D0 Ps (wipe σ vs) (wipeE E vs) H' ρ' S' acc' ads' ∧
          post g W σ H' ρ' ((lcGo t vs fc fe E (p.1.drop (i + 1)) S').bind fun q => .ok (.lst (ads' ++ q.1), true, q.2)) (PV g B H ρ Q), fun H' ⟨ρ', S', acc', ads', hla', G', hp'⟩ => ⟨m - 1, by omega, ρ', S', acc', ads', by omega, hla', G', hp'⟩, fun x H' hy => ?_⟩
        obtain ⟨d, hd, hH, hr⟩ := w.yld ρc _ Hc i x H' (fun a ha => ha.1) G.src hi hy
        have e3 : Ext Hc ρc H' ρc := by
          rcases hH with rfl | ⟨T, ys, hT, rfl⟩
          · exact Ext.refl _ _
          · exact Ext.laid hT
        have s3 : StoR g H' ρc Sc := by
          rcases hH with rfl | ⟨T, ys, hT, rfl⟩
          · exact G.st.sto
          · exact G.st.sto.laid hT
        have G3 := G.go e3 s3
        have hdr : p.1.drop i = d :: p.1.drop (i + 1) := by
          have hd' : p.1[i] = d := by
            rw [List.getElem?_eq_getElem hi] at hd; exact Option.some.inj hd
          rw [← hd']; exact List.drop_eq_getElem_cons hi
        rw [hdr] at hp
        obtain ⟨E1, hb, hp⟩ := lcGo_step (hp.go e3 fun _ z => z)
        rw [hK]
        refine bind_ok t hb hr G3.st.env fun σ2 env2 off2 => ⟨wipe_off off2 hv, ?_⟩
        have st2 : St0 g (fun x => B x ∨ x = D0) σ2 H' E1 Sc ρc := ⟨env2, G3.st.sto, G3.st.bok⟩
        refine ⟨_, E1, Sc, ρc, st2, (post_noex (σ' := σ2) hp).imp fun c _ hc H4 ρ4 e4 s4 => ?_⟩
        have hc := post.go hc e4 fun _ z => z
        have G4 := G3.go e4 s4
        by_cases hct : c.1 = true
        · rw [if_pos hct] at hc
          dsimp only
          rw [if_pos hct]
          refine ⟨_, E1, c.2, ρ4, st2.go e4 s4, (post_noex (σ' := σ2) hc).imp fun q _ hq v H5 ρ5 R5 => ?_⟩
          have hq := post.go hq R5.ext fun _ z => z
          have G5 := G4.go R5.ext R5.sto
          refine ⟨acc, G5.at_, by rw [← line_eq]; omega, ρ5, q.2.2, acc ++ [v], ads ++ [q.1], by rw [List.length_append]; exact Nat.succ_le_succ hla, G5.app (nd.of hD) R5.rep, ?_⟩
          simp only [List.append_assoc, List.singleton_append]
          cases e : lcGo t vs fc fe E (p.1.drop (i + 1)) q.2.2 with
          | ok r =>
            rw [e] at hq
            exact hq
          | ex c S' =>
            exact absurd e (lcGo_noex _ _)
          | bad => rw [e] at hq; exact hq.elim
        · rw [if_neg hct] at hc
          dsimp only
          rw [if_neg hct]
          exact ⟨ρ4, c.2, acc, ads, by omega, G4, hc⟩
      · have hi' : i = p.1.length := by omega
        refine .inl ⟨by rw [hi']; exact w.stop ρc _ Hc G.src, ?_⟩
        rw [hi', List.drop_length] at hp
        simp only [lcGo, Pz.R.bind_ok, List.append_nil] at hp
        refine hp _ Hc ρc ⟨e1.trans G.ext, G.st.sto, ?_, fun _ => ⟨D0, acc, rfl, e1.dom _ (nd.of hD), G.at_, G.off⟩⟩
        have hB : ¬ B D0 := fun z => s1'.bok _ z (nd.of hD)
        exact .lst G.at_ ⟨G.off, hB⟩ G.rep.less (by rw [← G.rep.length]; omega)
  · rw [if_neg hl] at hp
    exact hp.elim
/-- [elt for t in .. if ..] -/
theorem e_lc {elt tg iter : Expr} {ifs : List Expr} {scope : Scope} {own : List (Str × Nat)} {t : Tg} {vr : Option Nat} (hK : X.K = g.K) (hc : X.calm = true) (hN : X.N.Nodup) (hi : PI X tg iter (tI g W vr fi)) (ok : BlkOk X.N X.env.scope scope own)
    (hg : ∀ (s : Shared) (H : Hp) (C : Addr) (cl : List (Str × Addr)) (fp : List Addr), PG (X.blk s H scope (compEnvC scope cl C X.env) fp) tg (tG X.K t)) (ht : ∀ (s : Shared) (H : Hp) (C : Addr) (cl : List (Str × Addr)) (fp : List Addr), PTs (X.blk s H scope (compEnvC scope cl C X.env) fp) ifs (tT g W0 fc))
    (he : ∀ (s : Shared) (H : Hp) (C : Addr) (cl : List (Str × Addr)) (fp : List Addr), PE (X.blk s H scope (compEnvC scope cl C X.env) fp) elt (tE g W0 fe)) (hv : ∀ i ∈ t.vars, i ∈ own.map (·.2)) (hs : ∀ x, foldedSetIterable iter X.env x = pure x) :
    PE X (.ListComp elt [⟨tg, iter, ifs, 0⟩] scope pos) (tE g W fun E S => (fi E S).bind fun p => if p.1.length ≤ line then (lcGo t (own.map (·.2)) fc fe E p.1 p.2.2).bind fun q => .ok (.lst q.1, true, q.2) else .bad) :=
  PE.imp (pe_lc hc hN hi ok hg ht he hs) fun _ _ _ h => lc_go hK hv h
end
end Pz


set_option Elab.async false
set_option linter.all false
set_option autoImplicit false
set_option maxRecDepth 100000
set_option maxHeartbeats 1000000
/-! Pz, part N: and, or. -/
namespace Pz
open PySem PySem.Spec PyProof.Rows L2
section
variable {X : Cx} {g : Gx} {W : WX} {a b c e : Expr} {rest : List Expr} {fa fb fc : FE (D × Bool × Sto)} {pos : Pos}
def opK (k : Bool) : BoolOp := if k then .And else .Or
abbrev evK (k : Bool) (fa fb : FE (D × Bool × Sto)) : FE (D × Bool × Sto) := fun E S => (fa E S).bind fun p => (R.of p.1.tru).bind fun c => if c == k then fb E p.2.2 else .ok (p.1, false, p.2.2)
theorem b_cons (hK : X.K = g.K) (k : Bool) (ha : PE X a (tE g W fa)) (hb : PE X (.BoolOp (opK k) (b :: rest) pos) (tE g W fb)) : PE X (.BoolOp (opK k) (a :: b :: rest) pos) (tE g W (evK k fa fb)) := by
  cases k with
  | true =>
    refine PE.imp (pe_andT ha hb) fun σ H Q h => ?_
    obtain ⟨B, E, S, ρ, s0, h⟩ := h
    refine tE.mk s0 h fun p v H1 ρ1 G1 s1 h1 => ?_
    obtain ⟨k, hk, hP⟩ := post_of (post_bind h1)
    refine ⟨k, by rw [hK]; exact G1.rep.tru hk, ?_⟩
    cases k with
    | true => exact ⟨B, E, p.2.2, ρ1, s1, post.imp (P := PV g B H ρ Q) hP fun p _ hp v H' ρ' G => hp v H' ρ' (G.base G1.ext)⟩
    | false => exact hP v H1 ρ1 ⟨G1.ext, s1.sto, G1.rep, fun z => nomatch z⟩
  | false =>
    refine PE.imp (pe_orT ha hb) fun σ H Q h => ?_
    obtain ⟨B, E, S, ρ, s0, h⟩ := h
    refine tE.mk s0 h fun p v H1 ρ1 G1 s1 h1 => ?_
    obtain ⟨k, hk, hP⟩ := post_of (post_bind h1)
    refine ⟨k, by rw [hK]; exact G1.rep.tru hk, ?_⟩
    cases k with
    | false => exact ⟨B, E, p.2.2, ρ1, s1, post.imp (P := PV g B H ρ Q) hP fun p _ hp v H' ρ' G => hp v H' ρ' (G.base G1.ext)⟩
    | true => exact hP v H1 ρ1 ⟨G1.ext, s1.sto, G1.rep, fun z => nomatch z⟩
theorem bt_one (k : Bool) (ha : PT X a (tT g W (evT fa))) : PW X (.BoolOp (opK k) [a] pos) (tT g W (evT fa)) := by
  cases k with
  | true => exact pw_and1 ha
  | false => exact pw_or1 ha
theorem evK_split {k : Bool} {E : Env} {S : Sto} {σ : L2.St} {H : Hp} {ρ : List Addr} {P : Bool × Sto → Prop} (h : post g W σ H ρ (evT (evK k fa fb) E S) P) :
    post g W σ H ρ ((evT fa E S).bind fun x => if x.1 == k then evT fb E x.2 else .ok (x.1, x.2)) P := by
  simp only [evT, evK] at h ⊢
  cases e : fa E S with
  | ex c S' => rw [e] at h; exact h
  | bad => rw [e] at h; exact h
  | ok p =>
    rw [e] at h
    rw [Pz.R.bind_ok] at h ⊢
    cases e2 : p.1.tru with
    | none => rw [e2] at h; exact h
    | some c =>
      rw [e2] at h
      simp only [R.of, Pz.R.bind_ok] at h ⊢
      by_cases hc : (c == k) = true
      · rw [if_pos hc] at h ⊢; exact h
      · rw [if_neg hc] at h ⊢
        rw [Pz.R.bind_ok, e2] at h
        exact h
theorem bt_cons (k : Bool) (ha : PT X a (tT g W (evT fa))) (hb : PW X (.BoolOp (opK k) (b :: rest) pos) (tT g W (evT fb))) : PW X (.BoolOp (opK k) (a :: b :: rest) pos) (tT g W (evT (evK k fa fb))) := by
  cases k with
  | true =>
    refine ⟨fun wh pins s σ H Q I h => (pw_and ha hb).run wh pins s σ H Q I ?_⟩
    obtain ⟨B, E, S, ρ, s0, h⟩ := h
    refine tT.mk s0 (evK_split h) fun x H1 ρ1 e1 s1 h1 => ?_
    obtain ⟨c, S1⟩ := x
    cases c with
    | true => exact ⟨B, E, S1, ρ1, s1, post.imp (P := PB g H ρ Q) h1 fun p _ hp H' ρ' e s => hp H' ρ' (e1.trans e) s⟩
    | false => exact h1 H1 ρ1 e1 s1.sto
  | false =>
    refine ⟨fun wh pins s σ H Q I h => (pw_or ha hb).run wh pins s σ H Q I ?_⟩
    obtain ⟨B, E, S, ρ, s0, h⟩ := h
    refine tT.mk s0 (evK_split h) fun x H1 ρ1 e1 s1 h1 => ?_
    obtain ⟨c, S1⟩ := x
    cases c with
    | false => exact ⟨B, E, S1, ρ1, s1, post.imp (P := PB g H ρ Q) h1 fun p _ hp H' ρ' e s => hp H' ρ' (e1.trans e) s⟩
    | true => exact h1 H1 ρ1 e1 s1.sto
def tIfT (t ta tb : TT) : TT := fun σ H Q => t σ H fun c H1 => if c = true then ta σ H1 Q else tb σ H1 Q
theorem pt_ifExp {t ta tb : TT} (hc : PT X c t) (ha : PT X a ta) (hb : PT X b tb) : PT X (.IfExp c a b pos) (tIfT t ta tb) := by
  refine ⟨fun pins s σ H Q I h => ?_⟩
  show wpAny _ _ (do if ← isTrue c X.env (eval c X.env) then isTrue a X.env (eval a X.env) else isTrue b X.env (eval b X.env)) _ _ _
  refine wpAny_bind (thn (hc.run pins s σ H _ I h) fun d s1 ⟨H1, I1, q1⟩ => ?_)
  cases d with
  | true => exact ha.run pins s1 σ H1 Q I1 q1
  | false => exact hb.run pins s1 σ H1 Q I1 q1
theorem t_ife (hc : PT X c (tT g W (evT fc))) (ha : PT X a (tT g W (evT fa))) (hb : PT X b (tT g W (evT fb))) :
    PT X (.IfExp c a b pos) (tT g W (evT fun E S => (fc E S).bind fun x => (R.of x.1.tru).bind fun c => if c then fa E x.2.2 else fb E x.2.2)) := by
  refine PT.imp (pt_ifExp hc ha hb) fun σ H Q h => ?_
  obtain ⟨B, E, S, ρ, s0, h⟩ := h
  have h2 : post g W σ H ρ ((evT fc E S).bind fun x => if x.1 then evT fa E x.2 else evT fb E x.2) (PB g H ρ Q) := by
    simp only [evT] at h ⊢
    cases e : fc E S with
    | ex c S' => rw [e] at h; exact h
    | bad => rw [e] at h; exact h
    | ok p =>
      rw [e] at h
      rw [Pz.R.bind_ok] at h ⊢
      cases e2 : p.1.tru with
      | none => rw [e2] at h; exact h
      | some k =>
        rw [e2] at h
        simp only [R.of, Pz.R.bind_ok] at h ⊢
        cases k <;> exact h
  refine tT.mk s0 h2 fun x H1 ρ1 e1 s1 h1 => ?_
  obtain ⟨c, S1⟩ := x
  cases c with
  | true => exact ⟨B, E, S1, ρ1, s1, post.imp (P := PB g H ρ Q) h1 fun p _ hp H' ρ' e s => hp H' ρ' (e1.trans e) s⟩
  | false => exact ⟨B, E, S1, ρ1, s1, post.imp (P := PB g H ρ Q) h1 fun p _ hp H' ρ' e s => hp H' ρ' (e1.trans e) s⟩
theorem ts_nil : PTs X [] (tT g W fun _ S => .ok (true, S)) := ⟨fun pins s σ H Q I h => pts_nil.run pins s σ H Q I (by
  obtain ⟨B, E, S, ρ, s0, h⟩ := h
  exact h H ρ (Ext.refl _ _) s0.sto)⟩
end
end Pz

set_option Elab.async false
set_option linter.all false
set_option autoImplicit false
set_option maxRecDepth 100000
set_option maxHeartbeats 1000000
/-! Pz, part O: the slots of a def's run; lists of its own. -/
namespace Pz
open PySem PySem.Spec PyProof.Rows L2
/-- what stands around a statement: the def's start, what is forbidden, lists out of sight, what is walked -/
structure Fr where
  H0 : Hp
  ρ0 : List Addr
  B : Addr → Prop
  Hd : List (Addr × List V × List D)
  Pn : List (V × D)
def Fr.hid (C : Fr) (a : Addr) : Prop := ∃ xs ds, (a, xs, ds) ∈ C.Hd
/-- a def's own lists -/
def Own (σ : L2.St) (E : Env) (a : Addr) : Prop := ∃ (i : Nat) (d : D), E[i]? = some (some (d, true)) ∧ σ[i]? = some (some (V.ref a))
def BO (C : Fr) (Y : Addr → Prop) (σ : L2.St) (E : Env) (a : Addr) : Prop := C.B a ∨ Own σ E a ∨ C.hid a ∨ Y a
def Bx (C : Fr) (a : Addr) : Prop := C.B a ∨ C.hid a
def NoY : Addr → Prop := fun _ => False
structure EnvS (g : Gx) (C : Fr) (Y : Addr → Prop) (σ : L2.St) (H : Hp) (E : Env) (S : Sto) (ρ : List Addr) : Prop where
  len : E.length ≤ σ.length
  ext : Ext C.H0 C.ρ0 H ρ
  sto : StoR g H ρ S
  bok : Bok C.B C.H0
  free : ∀ (i : Nat) (d : D), E[i]? = some (some (d, false)) → ∃ v, σ[i]? = some (some v) ∧ Rp g ρ (Al ρ (BO C Y σ E)) H v d
  own : ∀ (i : Nat) (d : D), E[i]? = some (some (d, true)) → ∃ a xs ds, d = .lst ds ∧ σ[i]? = some (some (V.ref a)) ∧ H a = some (.lst xs) ∧ a ∉ ρ ∧ nd C.H0 a ∧ RpL g ρ (fun _ => False) H xs ds ∧ D.lfs ds = true ∧ ds.length ≤ line ∧ ¬ C.hid a ∧ ¬ Y a
  inj : ∀ (i j : Nat) (d e : D) (a : Addr), E[i]? = some (some (d, true)) → E[j]? = some (some (e, true)) → σ[i]? = some (some (V.ref a)) → σ[j]? = some (some (V.ref a)) → i = j
  pin : ∀ q ∈ C.Pn, Rp g ρ (Al ρ (BO C Y σ E)) H q.1 q.2
  hid : ∀ p ∈ C.Hd, H p.1 = some (.lst p.2.1) ∧ p.1 ∉ ρ ∧ nd C.H0 p.1 ∧ RpL g ρ (fun _ => False) H p.2.1 p.2.2 ∧ D.lfs p.2.2 = true ∧ p.2.2.length ≤ line
section
variable {g : Gx} {C : Fr} {Y Y' : Addr → Prop} {σ σ' : L2.St} {H H' : Hp} {E E' : Env} {S S' : Sto} {ρ ρ' : List Addr}
theorem Rp.mono {A A' : Addr → Prop} (h : ∀ a, A a → A' a) {v : V} {d : D} (r : Rp g ρ A H v d) : Rp g ρ A' H v d := r.go (fun a xs ha hx => ⟨hx, h a ha⟩) (fun _ _ z => z) (fun _ _ _ z => z) fun _ _ z => z
theorem RpL.mono {A A' : Addr → Prop} (h : ∀ a, A a → A' a) {v : List V} {d : List D} (r : RpL g ρ A H v d) : RpL g ρ A' H v d := r.go (fun a xs ha hx => ⟨hx, h a ha⟩) (fun _ _ z => z) (fun _ _ _ z => z) fun _ _ z => z
theorem RpL.lf {A A' : Addr → Prop} {v : List V} {d : List D} (hd : D.lfs d = true) (r : RpL g ρ A H v d) : RpL g ρ A' H v d := r.golf (fun _ _ z => z) (fun _ _ _ z => z) (fun _ _ z => z) hd
theorem Rp.lf {A A' : Addr → Prop} {v : V} {d : D} (hd : d.lf = true) (r : Rp g ρ A H v d) : Rp g ρ A' H v d := r.golf (fun _ _ z => z) (fun _ _ _ z => z) (fun _ _ z => z) hd
theorem Al.mono {B B' : Addr → Prop} (h : ∀ a, B' a → B a) : ∀ a, Al ρ B a → Al ρ B' a := fun a ha => ⟨ha.1, fun z => ha.2 (h a z)⟩
theorem EnvS.nB (h : EnvS g C Y σ H E S ρ) {a : Addr} (h0 : nd C.H0 a) : ¬ C.B a := fun z => h.bok a z h0
theorem EnvS.st0 (h : EnvS g C Y σ H E S ρ) : St0 g (Bx C) σ H E S ρ where
  env := ⟨h.len, fun i d o hi => by
    cases o with
    | false =>
      obtain ⟨v, h1, h2⟩ := h.free i d hi
      exact ⟨v, h1, h2.mono (Al.mono fun a z => z.elim .inl fun z => .inr (.inr (.inl z)))⟩
    | true =>
      obtain ⟨a, xs, ds, e, h1, h2, h3, h4, h5, h6, h7, h8, h9⟩ := h.own i d hi
      subst e
      exact ⟨_, h1, .lst h2 ⟨h3, fun z => z.elim (h.nB h4) h8⟩ (h5.lf h6) h7⟩⟩
  sto := h.sto
  bok := fun a ha => ha.elim (fun z n => h.bok a z (h.ext.dom a n)) fun ⟨_, _, z⟩ => nd.no (h.hid _ z).1
/-- behind an expression; what it made may be set aside -/
theorem EnvS.go (h : EnvS g C NoY σ H E S ρ) (e : Ext H ρ H' ρ') (s : StoR g H' ρ' S') : EnvS g C (fun a => nd H a) σ H' E S' ρ' where
  len := h.len
  ext := h.ext.trans e
  sto := s
  bok := h.bok
  free := fun i d hi => by
    obtain ⟨v, h1, h2⟩ := h.free i d hi
    exact ⟨v, h1, h2.go' e fun a ha hn => ⟨ha.1, fun z => hn (e.new a z ha.1), fun z => by
      rcases z with z | z | z | z
      · exact ha.2 (.inl z)
      · exact ha.2 (.inr (.inl z))
      · exact ha.2 (.inr (.inr (.inl z)))
      · exact hn z⟩⟩
  own := fun i d hi => by
    obtain ⟨a, xs, ds, e1, h1, h2, h3, h4, h5, h6, h7, h8, h9⟩ := h.own i d hi
    refine ⟨a, xs, ds, e1, h1, e.keep a _ h2 h3 (fun _ z => nomatch z), fun z => ?_, h4, h5.golf' e h6, h6, h7, h8, fun z => ?_⟩
    · exact nd.no h2 (e.new a z h3)
    · exact nd.no h2 z
  inj := h.inj
  pin := fun q hq => (h.pin q hq).go' e fun a ha hn => ⟨ha.1, fun z => hn (e.new a z ha.1), fun z => by
      rcases z with z | z | z | z
      · exact ha.2 (.inl z)
      · exact ha.2 (.inr (.inl z))
      · exact ha.2 (.inr (.inr (.inl z)))
      · exact hn z⟩
  hid := fun p hp => by
    obtain ⟨h1, h2, h3, h4, h5, h6⟩ := h.hid p hp
    refine ⟨e.keep _ _ h1 h2 (fun _ z => nomatch z), fun z => ?_, h3, h4.golf' e h5, h5, h6⟩
    exact nd.no h1 (e.new _ z h2)
/-- what is set aside is let go -/
theorem EnvS.less (k : ∀ a, Y' a → Y a) (h : EnvS g C Y σ H E S ρ) : EnvS g C Y' σ H E S ρ where
  len := h.len
  ext := h.ext
  sto := h.sto
  bok := h.bok
  free := fun i d hi =>
    let ⟨v, h1, h2⟩ := h.free i d hi
    ⟨v, h1, h2.mono (Al.mono fun a z => by
      rcases z with z | z | z | z
      · exact .inl z
      · exact .inr (.inl z)
      · exact .inr (.inr (.inl z))
      · exact .inr (.inr (.inr (k a z))))⟩
  own := fun i d hi =>
    let ⟨a, xs, ds, e1, h1, h2, h3, h4, h5, h6, h7, h8, h9⟩ := h.own i d hi
    ⟨a, xs, ds, e1, h1, h2, h3, h4, h5, h6, h7, h8, fun z => h9 (k a z)⟩
  inj := h.inj
  pin := fun q hq => (h.pin q hq).mono (Al.mono fun a z => by
      rcases z with z | z | z | z
      · exact .inl z
      · exact .inr (.inl z)
      · exact .inr (.inr (.inl z))
      · exact .inr (.inr (.inr (k a z))))
  hid := h.hid
/-- fewer own lists, other slots the same -/
theorem EnvS.own_le (hB : ∀ a, Own σ' E' a → Own σ E a) {a : Addr} (h : Al ρ (BO C Y σ E) a) : Al ρ (BO C Y σ' E') a := Al.mono (fun a z => by
      rcases z with z | z | z
      · exact .inl z
      · exact .inr (.inl (hB a z))
      · exact .inr (.inr z)) a h
theorem EnvS.sub (h : EnvS g C Y σ H E S ρ) (hl : E'.length ≤ σ'.length) (k : ∀ (i : Nat) (d : D) (o : Bool), E'[i]? = some (some (d, o)) → E[i]? = some (some (d, o)) ∧ σ'[i]? = σ[i]?) : EnvS g C Y σ' H E' S ρ :=
  have hB : ∀ a, Own σ' E' a → Own σ E a := fun a ⟨i, d, h1, h2⟩ => ⟨i, d, (k i d true h1).1, by rw [← (k i d true h1).2]; exact h2⟩
  { len := hl
    ext := h.ext
    sto := h.sto
    bok := h.bok
    free := fun i d hi =>
      let ⟨v, h1, h2⟩ := h.free i d (k i d false hi).1
      ⟨v, by rw [(k i d false hi).2]; exact h1, h2.mono fun a ha => EnvS.own_le hB ha⟩
    own := fun i d hi =>
      let ⟨a, xs, ds, e1, h1, h2⟩ := h.own i d (k i d true hi).1
      ⟨a, xs, ds, e1, by rw [(k i d true hi).2]; exact h1, h2⟩
    inj := fun i j d e a hi hj si sj => h.inj i j d e a (k i d true hi).1 (k j e true hj).1 (by rw [← (k i d true hi).2]; exact si) (by rw [← (k j e true hj).2]; exact sj)
    pin := fun q hq => (h.pin q hq).mono fun a ha => EnvS.own_le hB ha
    hid := h.hid }
theorem set_get {α : Type} {xs : List α} {i j : Nat} {x y : α} (h : (xs.set i x)[j]? = some y) : (j = i ∧ y = x ∧ i < xs.length) ∨ (j ≠ i ∧ xs[j]? = some y) := by
  by_cases e : i = j
  · subst e
    by_cases hl : i < xs.length
    · rw [List.getElem?_set_self hl] at h
      exact .inl ⟨rfl, (Option.some.inj h).symm, hl⟩
    · rw [List.getElem?_eq_none (by rw [List.length_set]; exact Nat.le_of_not_lt hl)] at h
      cases h
  · rw [List.getElem?_set_ne e] at h
    exact .inr ⟨fun z => e z.symm, h⟩
/-- a slot is emptied -/
theorem EnvS.drop (h : EnvS g C Y σ H E S ρ) (i : Nat) (v : Option V) : EnvS g C Y (σ.set i v) H (E.set i none) S ρ :=
  h.sub (by rw [List.length_set, List.length_set]; exact h.len) fun j d o hj => by
    rcases set_get hj with ⟨_, e, _⟩ | ⟨hne, hj⟩
    · cases e
    · exact ⟨hj, List.getElem?_set_ne fun z => hne z.symm⟩
/-- .. and filled: with what is no list of its own -/
theorem EnvS.addF (h : EnvS g C Y σ H E S ρ) {i : Nat} (hi : E[i]? = some none ∨ E.length ≤ i) {v : V} {d : D} (hv : i < E.length → σ[i]? = some (some v)) (r : Rp g ρ (Al ρ (BO C Y σ E)) H v d) : EnvS g C Y σ H (E.set i (some (d, false))) S ρ :=
  have hB : ∀ a, Own σ (E.set i (some (d, false))) a → Own σ E a := fun a ⟨j, d', h1, h2⟩ => by
    rcases set_get h1 with ⟨_, e, _⟩ | ⟨hne, hj⟩
    · cases e
    · exact ⟨j, d', hj, h2⟩
  { len := by rw [List.length_set]; exact h.len
    ext := h.ext
    sto := h.sto
    bok := h.bok
    free := fun j d' hj => by
      rcases set_get hj with ⟨e1, e2, hl⟩ | ⟨hne, hj⟩
      · cases e2
        rw [e1]
        exact ⟨v, hv hl, r.mono fun a ha => EnvS.own_le hB ha⟩
      · obtain ⟨w, h1, h2⟩ := h.free j d' hj
        exact ⟨w, h1, h2.mono fun a ha => EnvS.own_le hB ha⟩
    own := fun j d' hj => by
      rcases set_get hj with ⟨_, e, _⟩ | ⟨hne, hj⟩
      · cases e
      · exact h.own j d' hj
    inj := fun j l d' e' a hj hl sj sl => by
      rcases set_get hj with ⟨_, e, _⟩ | ⟨_, hj⟩
      · cases e
      · rcases set_get hl with ⟨_, e, _⟩ | ⟨_, hl⟩
        · cases e
        · exact h.inj j l d' e' a hj hl sj sl
    pin := fun q hq => (h.pin q hq).mono fun a ha => EnvS.own_le hB ha
    hid := h.hid }
/-- .. with a list that was set aside -/
theorem EnvS.addO (h : EnvS g C Y σ H E S ρ) {i : Nat} {a : Addr} {xs : List V} {ds : List D} (hi : E[i]? = some none ∨ E.length ≤ i) (hv : i < E.length → σ[i]? = some (some (V.ref a))) (hY : Y a) (hx : H a = some (.lst xs)) (hr : a ∉ ρ) (h0 : nd C.H0 a)
    (r : RpL g ρ (fun _ => False) H xs ds) (lf : D.lfs ds = true) (hl : ds.length ≤ line) (hh : ¬ C.hid a) : EnvS g C (fun b => Y b ∧ b ≠ a) σ H (E.set i (some (.lst ds, true))) S ρ :=
  have hB : ∀ b, BO C (fun b => Y b ∧ b ≠ a) σ (E.set i (some (.lst ds, true))) b → BO C Y σ E b := fun b z => by
    rcases z with z | z | z | z
    · exact .inl z
    · obtain ⟨j, d', h1, h2⟩ := z
      rcases set_get h1 with ⟨e1, e2, hl⟩ | ⟨hne, hj⟩
      · have := hv hl
        rw [e1, this] at h2
        cases h2
        exact .inr (.inr (.inr hY))
      · exact .inr (.inl ⟨j, d', hj, h2⟩)
    · exact .inr (.inr (.inl z))
    · exact .inr (.inr (.inr z.1))
  have nO : ∀ (j : Nat) (d' : D), E[j]? = some (some (d', true)) → σ[j]? ≠ some (some (V.ref a)) := fun j d' hj z => by
    obtain ⟨b, _, _, _, h1, _, _, _, _, _, _, _, h9⟩ := h.own j d' hj
    rw [z] at h1
    cases h1
    exact h9 hY
  { len := by rw [List.length_set]; exact h.len
    ext := h.ext
    sto := h.sto
    bok := h.bok
    free := fun j d' hj => by
      rcases set_get hj with ⟨_, e, _⟩ | ⟨hne, hj⟩
      · cases e
      · obtain ⟨w, h1, h2⟩ := h.free j d' hj
        exact ⟨w, h1, h2.mono (Al.mono hB)⟩
    own := fun j d' hj => by
      rcases set_get hj with ⟨e1, e2, hl2⟩ | ⟨hne, hj⟩
      · cases e2
        rw [e1]
        exact ⟨a, xs, ds, rfl, hv hl2, hx, hr, h0, r, lf, hl, hh, fun z => z.2 rfl⟩
      · obtain ⟨b, xs', ds', e1, h1, h2, h3, h4, h5, h6, h7, h8, h9⟩ := h.own j d' hj
        exact ⟨b, xs', ds', e1, h1, h2, h3, h4, h5, h6, h7, h8, fun z => h9 z.1⟩
    inj := fun j l d' e' b hj hl sj sl => by
      rcases set_get hj with ⟨e1, e2, hj2⟩ | ⟨_, hj⟩
      · rcases set_get hl with ⟨e3, _, _⟩ | ⟨_, hl⟩
        · rw [e1, e3]
        · have := hv hj2
          rw [e1, this] at sj
          cases sj
          exact absurd sl (nO l e' hl)
      · rcases set_get hl with ⟨e1, e2, hl2⟩ | ⟨_, hl⟩
        · have := hv hl2
          rw [e1, this] at sl
          cases sl
          exact absurd sj (nO j d' hj)
        · exact h.inj j l d' e' b hj hl sj sl
    pin := fun q hq => (h.pin q hq).mono (Al.mono hB)
    hid := h.hid }
theorem clr_get {i : Nat} {d : D} {o : Bool} (h : (clr E)[i]? = some (some (d, o))) : o = false ∧ ∃ o', E[i]? = some (some (d, o')) := by
  unfold clr at h
  rw [List.getElem?_map] at h
  cases e : E[i]? with
  | none => rw [e] at h; cases h
  | some u =>
    cases u with
    | none => rw [e] at h; cases h
    | some p =>
      rw [e] at h
      cases h
      exact ⟨rfl, p.2, rfl⟩
/-- all its lists are given up -/
theorem EnvS.clear (h : EnvS g C Y σ H E S ρ) : EnvS g C Y σ H (clr E) S ρ :=
  have hB : ∀ a, Own σ (clr E) a → False := fun a ⟨j, d', h1, h2⟩ => nomatch (clr_get h1).1
  { len := by unfold clr; rw [List.length_map]; exact h.len
    ext := h.ext
    sto := h.sto
    bok := h.bok
    free := fun j d hj => by
      obtain ⟨_, o, hj⟩ := clr_get hj
      cases o with
      | false =>
        obtain ⟨w, h1, h2⟩ := h.free j d hj
        exact ⟨w, h1, h2.mono fun a ha => EnvS.own_le (fun a z => (hB a z).elim) ha⟩
      | true =>
        obtain ⟨a, xs, ds, e, h1, h2, h3, h4, h5, h6, h7, h8, h9⟩ := h.own j d hj
        subst e
        exact ⟨_, h1, .lst h2 ⟨h3, fun z => by
          rcases z with z | z | z | z
          · exact h.nB h4 z
          · exact hB _ z
          · exact h8 z
          · exact h9 z⟩ (h5.lf h6) h7⟩
    own := fun j d' hj => nomatch (clr_get hj).1
    inj := fun j l d' e' a hj => nomatch (clr_get hj).1
    pin := fun q hq => (h.pin q hq).mono fun a ha => EnvS.own_le (fun a z => (hB a z).elim) ha
    hid := h.hid }
/-! ### stores -/
theorem set_none_get (E : Env) (i : Nat) : (E.set i none)[i]? = some none ∨ (E.set i none).length ≤ i := by
  by_cases h : i < E.length
  · exact .inl (List.getElem?_set_self h)
  · exact .inr (by rw [List.length_set]; exact Nat.le_of_not_lt h)
theorem set_set' {α : Type} (xs : List α) (i : Nat) (x y : α) : (xs.set i x).set i y = xs.set i y := List.set_set ..
theorem EnvS.setF (h : EnvS g C Y σ H E S ρ) {i : Nat} {v : V} {d : D} (r : Rp g ρ (Al ρ (BO C Y (σ.set i (some v)) (E.set i none))) H v d) : EnvS g C Y (σ.set i (some v)) H (E.set i (some (d, false))) S ρ := by
  rw [← set_set' E i none (some (d, false))]
  refine (h.drop i (some v)).addF (set_none_get E i) (fun hl => ?_) r
  rw [List.length_set] at hl
  exact List.getElem?_set_self (Nat.lt_of_lt_of_le hl h.len)
theorem EnvS.setO (h : EnvS g C Y σ H E S ρ) {i : Nat} {a : Addr} {xs : List V} {ds : List D} (hY : Y a) (hx : H a = some (.lst xs)) (hr : a ∉ ρ) (h0 : nd C.H0 a)
    (r : RpL g ρ (fun _ => False) H xs ds) (lf : D.lfs ds = true) (hl : ds.length ≤ line) (hh : ¬ C.hid a) : EnvS g C (fun b => Y b ∧ b ≠ a) (σ.set i (some (.ref a))) H (E.set i (some (.lst ds, true))) S ρ := by
  rw [← set_set' E i none (some (.lst ds, true))]
  refine (h.drop i (some (.ref a))).addO (set_none_get E i) (fun hl => ?_) hY hx hr h0 r lf hl hh
  rw [List.length_set] at hl
  exact List.getElem?_set_self (Nat.lt_of_lt_of_le hl h.len)
/-- a new list among what is set aside -/
structure NewL (g : Gx) (C : Fr) (Y : Addr → Prop) (H : Hp) (ρ : List Addr) (v : V) (a : Addr) : Prop where
  eq : v = .ref a
  mem : Y a
  at_ : ∃ xs, H a = some (.lst xs)
  off : a ∉ ρ
  old : nd C.H0 a
  hid : ¬ C.hid a
theorem NewL.of (h : EnvS g C NoY σ H E S ρ) {v : V} (f : Fresh H H' ρ' v) : ∃ a, NewL g C (fun a => nd H a) H' ρ' v a := by
  obtain ⟨a, xs, e, h1, h2, h3⟩ := f
  refine ⟨a, e, h1, ⟨xs, h2⟩, h3, h.ext.dom a h1, fun ⟨ys, _, z⟩ => ?_⟩
  exact nd.no (h.hid _ z).1 h1
theorem itLf_lst {d : D} (h : itLf d = true) : ∃ ds, d = .lst ds ∧ D.lfs ds = true := by
  cases d <;> first | exact ⟨_, rfl, h⟩ | cases h
theorem Rp.lstAt {A : Addr → Prop} {a : Addr} {xs : List V} {ds : List D} (h : Rp g ρ A H (.ref a) (.lst ds)) (hx : H a = some (.lst xs)) : RpL g ρ A H xs ds ∧ ds.length ≤ line := by
  generalize e : V.ref a = v at h
  generalize e2 : D.lst ds = d at h
  cases h with
  | lst h1 h2 h3 h4 => cases e; cases e2; rw [hx] at h1; cases h1; exact ⟨h3, h4⟩
  | lsf h1 h3 h4 => cases e; obtain ⟨o, h1⟩ := h1; rw [hx] at h1; cases h1
  | _ => first | (cases e; done) | (cases e2; done)
theorem put_ok (h : EnvS g C Y σ H E S ρ) {i : Nat} {v : V} {d : D} {o : Bool} (r : Rp g ρ (Al ρ (Bx C)) H v d) (f : o = true → ∃ a, NewL g C Y H ρ v a) : EnvS g C NoY (σ.set i (some v)) H (put i d o E) S ρ := by
  unfold put
  by_cases hd : d.lf = true
  · rw [if_pos hd]
    exact (h.setF (r.lf hd)).less fun _ z => z.elim
  · rw [if_neg hd]
    by_cases ho : (o && itLf d) = true
    · rw [if_pos ho]
      rw [Bool.and_eq_true] at ho
      obtain ⟨ds, rfl, lf⟩ := itLf_lst ho.2
      obtain ⟨a, N⟩ := f ho.1
      obtain ⟨xs, hx⟩ := N.at_
      have e := N.eq
      subst e
      obtain ⟨q, hl⟩ := r.lstAt hx
      exact (h.setO N.mem hx N.off N.old (q.lf lf) lf hl N.hid).less fun _ z => z.elim
    · rw [if_neg ho]
      refine ((h.less (Y' := NoY) fun _ z => z.elim).clear).setF (r.mono (Al.mono fun a z => ?_))
      rcases z with z | z | z | z
      · exact .inl z
      · obtain ⟨j, d', h1, h2⟩ := z
        rcases set_get h1 with ⟨_, e, _⟩ | ⟨_, hj⟩
        · cases e
        · exact nomatch (clr_get hj).1
      · exact .inr z
      · exact z.elim
theorem Off.set (σ : L2.St) (i : Nat) (v : Option V) : Off [i] σ (σ.set i v) := ⟨List.length_set, fun j hj => List.getElem?_set_ne fun e => hj (by rw [e]; exact List.mem_cons_self)⟩
mutual
theorem putT_ok : ∀ (t : Tg) {v : V} {d : D} {o : Bool} {E E1 : Env} {Y : Addr → Prop} {σ : L2.St} {Q : L2.St → Hp → Prop}, putT t d o E = some E1 → Rp g ρ (Al ρ (Bx C)) H v d → EnvS g C Y σ H E S ρ → (o = true → ∃ a, NewL g C Y H ρ v a) →
    (∀ σ', EnvS g C NoY σ' H E1 S ρ → Off t.vars σ σ' → Q σ' H) → tG g.K t v σ H Q
  | .nm i, v, d, o, E, E1, Y, σ, Q, hb, r, h, f, q => by
    cases hb
    exact q _ (put_ok h r f) (Off.set σ i _)
  | .tp ts, v, d, o, E, E1, Y, σ, Q, hb, r, h, f, q => by
    cases d with
    | tup ds =>
      obtain ⟨a, xs, e, hs, hr, hl⟩ := r.td
      refine ⟨a, xs, e, hs, ?_, putAll_ok ts hb hr (h.less fun _ z => z.elim) q⟩
      rw [hr.length]
      exact putAll_num ts hb
    | _ => cases hb
theorem putAll_ok : ∀ (ts : Tgs) {vs : List V} {ds : List D} {E E1 : Env} {σ : L2.St} {Q : L2.St → Hp → Prop}, putAll ts ds E = some E1 → RpL g ρ (Al ρ (Bx C)) H vs ds → EnvS g C NoY σ H E S ρ →
    (∀ σ', EnvS g C NoY σ' H E1 S ρ → Off ts.vars σ σ' → Q σ' H) → tGs g.K ts vs σ H Q
  | .nil, vs, ds, E, E1, σ, Q, hb, r, h, q => by
    cases ds with
    | nil => cases hb; cases r; exact ⟨rfl, q σ h (Off.refl _ _)⟩
    | cons _ _ => cases hb
  | .cons t ts, vs, ds, E, E1, σ, Q, hb, r, h, q => by
    cases ds with
    | nil => cases hb
    | cons d ds =>
      cases r with
      | cons r rs =>
        cases e : putT t d false E with
        | none => rw [putAll, e] at hb; cases hb
        | some E2 =>
          rw [putAll, e] at hb
          exact ⟨_, _, rfl, putT_ok t e r h (fun z => nomatch z) fun σ' h' o' => putAll_ok ts hb rs h' fun σ2 h2 o2 => q σ2 h2 (o'.trans o2)⟩
theorem putAll_num : ∀ (ts : Tgs) {ds : List D} {E E1 : Env}, putAll ts ds E = some E1 → ds.length = ts.num
  | .nil, ds, E, E1, hb => by
    cases ds with
    | nil => rfl
    | cons _ _ => cases hb
  | .cons t ts, ds, E, E1, hb => by
    cases ds with
    | nil => cases hb
    | cons d ds =>
      cases e : putT t d false E with
      | none => rw [putAll, e] at hb; cases hb
      | some E2 =>
        rw [putAll, e] at hb
        rw [List.length_cons, putAll_num ts hb]; rfl
end
/-- several at once -/
def setAll : List Nat → List V → L2.St → L2.St
  | i :: is, v :: vs, σ => setAll is vs (σ.set i (some v))
  | _, _, σ => σ
theorem parF_ok : ∀ (is : List Nat) {ps : List (D × Bool)} {vs : List V} {E E1 : Env} {σ : L2.St}, parSet false is ps E = some E1 → RpL g ρ (Al ρ (Bx C)) H vs (ps.map (·.1)) → EnvS g C NoY σ H E S ρ → (∀ a, ¬ Own σ E a) →
    EnvS g C NoY (setAll is vs σ) H E1 S ρ ∧ Off is σ (setAll is vs σ)
  | [], ps, vs, E, E1, σ, hb, r, h, n => by
    cases ps with
    | nil => cases hb; cases r; exact ⟨h, Off.refl _ _⟩
    | cons _ _ => cases hb
  | i :: is, ps, vs, E, E1, σ, hb, r, h, n => by
    cases ps with
    | nil => cases hb
    | cons p ps =>
      cases r with
      | cons r rs =>
        have n1 : ∀ a, ¬ Own (σ.set i (some ‹V›)) (E.set i none) a := fun a z => by
          obtain ⟨j, d', h1, h2⟩ := z
          rcases set_get h1 with ⟨_, e, _⟩ | ⟨hne, hj⟩
          · cases e
          · exact n a ⟨j, d', hj, by rw [List.getElem?_set_ne fun z => hne z.symm] at h2; exact h2⟩
        have h1 := h.setF (i := i) (r.mono (Al.mono fun a z => by
          rcases z with z | z | z | z
          · exact .inl z
          · exact (n1 a z).elim
          · exact .inr z
          · exact z.elim))
        obtain ⟨q1, q2⟩ := parF_ok is hb rs h1 fun a z => by
          obtain ⟨j, d', h1, h2⟩ := z
          rcases set_get h1 with ⟨_, e, _⟩ | ⟨hne, hj⟩
          · cases e
          · exact n a ⟨j, d', hj, by rw [List.getElem?_set_ne fun z => hne z.symm] at h2; exact h2⟩
        exact ⟨q1, (Off.set σ i _).trans q2⟩
theorem parT_ok : ∀ (is : List Nat) {ps : List (D × Bool)} {vs : List V} {E E1 : Env} {σ : L2.St} {Y : Addr → Prop}, parSet true is ps E = some E1 → ps.all parGood = true → RpL g ρ (Al ρ (Bx C)) H vs (ps.map (·.1)) → EnvS g C Y σ H E S ρ →
    (∀ (i : Nat) (d : D), ps[i]? = some (d, true) → d.lf = false → ∃ v a, vs[i]? = some v ∧ NewL g C Y H ρ v a ∧ ∀ (j : Nat), j ≠ i → ∀ (d' : D), ps[j]? = some (d', true) → vs[j]? ≠ some v) →
    EnvS g C NoY (setAll is vs σ) H E1 S ρ ∧ Off is σ (setAll is vs σ)
  | [], ps, vs, E, E1, σ, Y, hb, hg, r, h, f => by
    cases ps with
    | nil => cases hb; cases r; exact ⟨h.less fun _ z => z.elim, Off.refl _ _⟩
    | cons _ _ => cases hb
  | i :: is, ps, vs, E, E1, σ, Y, hb, hg, r, h, f => by
    cases ps with
    | nil => cases hb
    | cons p ps =>
      rw [List.all_cons, Bool.and_eq_true] at hg
      cases r with
      | @cons v vs _ _ r rs =>
        by_cases hd : p.1.lf = true
        · have hb' : parSet true is ps (E.set i (some (p.1, false))) = some E1 := by
            have e : (true && !p.1.lf) = false := by rw [hd]; rfl
            rw [← e]; exact hb
          obtain ⟨q1, q2⟩ := parT_ok is hb' hg.2 rs (h.setF (i := i) (v := v) (r.lf hd)) fun k d hk hl => by
            obtain ⟨w, a, h1, h2, h3⟩ := f (k + 1) d hk hl
            exact ⟨w, a, h1, h2, fun j hj d' hj' => h3 (j + 1) (fun z => hj (Nat.succ.inj z)) d' hj'⟩
          exact ⟨q1, (Off.set σ i _).trans q2⟩
        · have hd : p.1.lf = false := by simpa using hd
          have hb' : parSet true is ps (E.set i (some (p.1, true))) = some E1 := by
            have hb2 : parSet true is ps (E.set i (some (p.1, true && !p.1.lf))) = some E1 := hb
            rw [hd] at hb2; exact hb2
          have hg1 := hg.1
          unfold parGood at hg1
          rw [hd, Bool.false_or, Bool.and_eq_true] at hg1
          obtain ⟨ds, e, lf⟩ := itLf_lst hg1.2
          have e0 : (p :: ps)[0]? = some (p.1, true) := by rw [← hg1.1]; rfl
          obtain ⟨w, a, h1, N, h3⟩ := f 0 p.1 e0 hd
          have e1 : v = w := Option.some.inj h1
          subst e1
          have e2 := N.eq
          subst e2
          obtain ⟨xs, hx⟩ := N.at_
          have r : Rp g ρ (Al ρ (Bx C)) H (V.ref a) p.1 := r
          rw [e] at r hb'
          obtain ⟨q, hl⟩ := r.lstAt hx
          obtain ⟨q1, q2⟩ := parT_ok is hb' hg.2 rs (h.setO (i := i) N.mem hx N.off N.old (q.lf lf) lf hl N.hid) fun k d hk hl => by
            obtain ⟨w, a', h1, h2, h3'⟩ := f (k + 1) d hk hl
            refine ⟨w, a', h1, ⟨h2.eq, ⟨h2.mem, fun z => ?_⟩, h2.at_, h2.off, h2.old, h2.hid⟩, fun j hj d' hj' => h3' (j + 1) (fun z => hj (Nat.succ.inj z)) d' hj'⟩
            refine h3 (k + 1) (Nat.succ_ne_zero k) d hk ?_
            rw [← z, ← h2.eq]; exact h1
          exact ⟨q1, (Off.set σ i _).trans q2⟩
theorem par_ok {is : List Nat} {ps : List (D × Bool)} {vs : List V} {E1 : Env} {H1 : Hp} {ρ1 : List Addr} {S1 : Sto} (h : EnvS g C NoY σ H1 E S1 ρ1) (e : Ext H1 ρ1 H ρ) (s : StoR g H ρ S) (hb : parAll is ps E = some E1) (r : RpL g ρ (Al ρ (Bx C)) H vs (ps.map (·.1))) (f : FreshL H1 H ρ ps vs) :
    EnvS g C NoY (setAll is vs σ) H E1 S ρ ∧ Off is σ (setAll is vs σ) := by
  unfold parAll at hb
  have h1 := h.go e s
  by_cases hg : ps.all parGood = true
  · rw [if_pos hg] at hb
    refine parT_ok is hb hg r h1 fun i d hi _ => ?_
    obtain ⟨v, hv, hf, ha⟩ := f i d hi
    obtain ⟨a, N⟩ := NewL.of h hf
    exact ⟨v, a, hv, N, ha⟩
  · rw [if_neg hg] at hb
    exact parF_ok is hb r (h1.less (Y' := NoY) fun _ z => z.elim).clear fun a ⟨j, d', h1, h2⟩ => nomatch (clr_get h1).1
end
end Pz

set_option Elab.async false
set_option linter.all false
set_option autoImplicit false
set_option maxRecDepth 100000
set_option maxHeartbeats 1000000
/-! Pz, part P: statements. -/
namespace Pz
open PySem PySem.Spec PyProof.Rows L2
def postS (g : Gx) (W : WX) (C : Fr) (De : Ends) (σ : L2.St) (vs : List Nat) : RS → Prop
  | .nx E S => ∀ σ' H' ρ', EnvS g C NoY σ' H' E S ρ' → Off vs σ σ' → De.nx σ' H'
  | .bk E S => ∀ σ' H' ρ', EnvS g C NoY σ' H' E S ρ' → Off vs σ σ' → De.bk σ' H'
  | .ct E S => ∀ σ' H' ρ', EnvS g C NoY σ' H' E S ρ' → Off vs σ σ' → De.ct σ' H'
  | .rt d o S => ∀ v H' ρ', Got g C.B C.H0 C.ρ0 v d o H' ρ' S → De.rt v H'
  | .ex c S => ∀ σ' H' ρ', Ext C.H0 C.ρ0 H' ρ' → StoR g H' ρ' S → W (.ref (g.ca c)) none σ' H'
  | .bad => False
/-- the reading of a statement that is told as f; vs: the slots that it may write -/
def tS (g : Gx) (W : WX) (vs : List Nat) (f : Env → Sto → RS) : TS := fun De σ H => ∃ C E S ρ, EnvS g C NoY σ H E S ρ ∧ postS g W C De σ vs (f E S)
section
variable {g : Gx} {W : WX} {C : Fr} {De : Ends} {σ σ' : L2.St} {H H' : Hp} {E : Env} {S S' : Sto} {ρ ρ' : List Addr} {vs ws : List Nat} {fe fa fb fc : FE (D × Bool × Sto)}
theorem Off.mono (h : Off vs σ σ') (k : ∀ i ∈ vs, i ∈ ws) : Off ws σ σ' := ⟨h.1, fun i hi => h.2 i fun z => hi (k i z)⟩
theorem postS.mono {r : RS} (h : postS g W C De σ ws r) (k : ∀ σ2, Off vs σ' σ2 → Off ws σ σ2) : postS g W C De σ' vs r := by
  cases r with
  | nx E S => exact fun σ2 H2 ρ2 h2 o => h σ2 H2 ρ2 h2 (k σ2 o)
  | bk E S => exact fun σ2 H2 ρ2 h2 o => h σ2 H2 ρ2 h2 (k σ2 o)
  | ct E S => exact fun σ2 H2 ρ2 h2 o => h σ2 H2 ρ2 h2 (k σ2 o)
  | rt d o S => exact h
  | ex c S => exact h
  | bad => exact h
theorem st_post {α : Type} {r : R α} {k : α → RS} (hE : EnvS g C NoY σ H E S ρ) (h : postS g W C De σ vs (r.st k)) : post g W σ H ρ r fun a => postS g W C De σ vs (k a) := by
  cases r with
  | ok a => exact h
  | ex c S => exact fun H' ρ' e s => h σ H' ρ' (hE.ext.trans e) s
  | bad => exact h
theorem of_post {α : Type} {r : Option α} {k : α → RS} (h : postS g W C De σ vs (RS.of r k)) : ∃ a, r = some a ∧ postS g W C De σ vs (k a) := by
  cases r with
  | none => exact h.elim
  | some a => exact ⟨a, rfl, h⟩
/-- an expression in a statement -/
theorem tE.st {k : D × Bool × Sto → RS} {Q : VK} (hE : EnvS g C NoY σ H E S ρ) (h : postS g W C De σ vs ((fe E S).st k))
    (c : ∀ p v H' ρ', EnvS g C (fun a => nd H a) σ H' E p.2.2 ρ' → Got g (Bx C) H ρ v p.1 p.2.1 H' ρ' p.2.2 → (p.2.1 = true → ∃ a, NewL g C (fun a => nd H a) H' ρ' v a) → postS g W C De σ vs (k p) → Q v H') : tE g W fe σ H Q :=
  ⟨Bx C, E, S, ρ, hE.st0, (st_post hE h).imp fun p _ hp v H' ρ' G => c p v H' ρ' (hE.go G.ext G.sto) G (fun z => NewL.of hE (G.own z)) hp⟩
theorem EnvS.no {Y : Addr → Prop} (h : EnvS g C Y σ H E S ρ) : EnvS g C NoY σ H E S ρ := h.less fun _ z => z.elim
theorem tT.st {k : D × Bool × Sto → RS} {Q : Bool → Hp → Prop} (hE : EnvS g C NoY σ H E S ρ) (h : postS g W C De σ vs ((fc E S).st fun p => RS.of p.1.tru fun z => k (.bl z, false, p.2.2)))
    (c : ∀ z H' ρ' S', EnvS g C NoY σ H' E S' ρ' → postS g W C De σ vs (k (.bl z, false, S')) → Q z H') : tT g W (evT fc) σ H Q := by
  refine ⟨Bx C, E, S, ρ, hE.st0, ?_⟩
  have h := st_post hE h
  show post g W σ H ρ ((fc E S).bind _) _
  cases e : fc E S with
  | ex c S' => rw [e] at h; exact h
  | bad => rw [e] at h; exact h
  | ok p =>
    rw [e] at h
    obtain ⟨z, hz, h⟩ := of_post h
    rw [Pz.R.bind_ok, hz]
    exact fun H' ρ' e s => c z H' ρ' _ (hE.go e s).no h
theorem tA.st {fs : FE (List (D × Bool) × Sto)} {k : List (D × Bool) × Sto → RS} {Q : List V → Hp → Prop} (hE : EnvS g C NoY σ H E S ρ) (h : postS g W C De σ vs ((fs E S).st k))
    (c : ∀ p us H' ρ', GotL g (Bx C) H ρ us (p.1.map (·.1)) H' ρ' p.2 → FreshL H H' ρ' p.1 us → postS g W C De σ vs (k p) → Q us H') : tA g W fs σ H Q :=
  ⟨Bx C, E, S, ρ, hE.st0, (st_post hE h).imp fun p _ hp us H' ρ' G F => c p us H' ρ' G F hp⟩
end
section
variable {X : Cx} {g : Gx} {W : WX} {pos : Pos} {e a b c : Expr} {vs ws : List Nat} {fe fa fb fc : FE (D × Bool × Sto)} {f f2 : Env → Sto → RS} {st : Stmt} {rest body : List Stmt}
theorem s_nil : PSs X [] (tS g W [] fun E S => .nx E S) := QSs.imp' pss_nil fun De σ H ⟨C, E, S, ρ, hE, h⟩ => h σ H ρ hE (Off.refl _ _)
theorem s_cons (h1 : PS X st (tS g W vs f)) (h2 : PSs X rest (tS g W ws f2)) : PSs X (st :: rest) (tS g W (vs ++ ws) fun E S => (f E S).then_ fun E' S' => f2 E' S') := by
  refine QSs.imp' (pss_cons h1 h2) fun De σ H ⟨C, E, S, ρ, hE, h⟩ => ?_
  refine ⟨C, E, S, ρ, hE, ?_⟩
  dsimp only at h
  cases e : f E S with
  | nx E' S' =>
    rw [e] at h
    exact fun σ' H' ρ' h' o => ⟨C, E', S', ρ', h', postS.mono h fun σ2 o2 => o.trans o2⟩
  | bk E' S' =>
    rw [e] at h
    exact fun σ' H' ρ' h' o => h σ' H' ρ' h' (o.mono fun i hi => List.mem_append_left _ hi)
  | ct E' S' =>
    rw [e] at h
    exact fun σ' H' ρ' h' o => h σ' H' ρ' h' (o.mono fun i hi => List.mem_append_left _ hi)
  | rt d o S' => rw [e] at h; exact h
  | ex c S' => rw [e] at h; exact h
  | bad => rw [e] at h; exact h
theorem s_asg {tg : Expr} {t : Tg} (hK : X.K = g.K) (he : PE X e (tE g W fe)) (hg : PG X tg (tG X.K t)) (hs : swapsWithSole [tg] e pos.line X.env = pure false) (hw : swappedStores [tg] e X.env = pure none)
    (h1 : (assignEach [tg] X.env).map (·.2) = [assign tg X.env]) : PS X (.Assign [tg] e pos) (tS g W t.vars fun E S => (fe E S).st fun p => RS.of (putT t p.1 p.2.1 E) fun E' => .nx E' p.2.2) := by
  refine QS.imp' (ps_asg he hg hs hw h1) fun De σ H ⟨C, E, S, ρ, hE, h⟩ => ?_
  refine tE.st hE h fun p v H' ρ' h' G N hp => ?_
  obtain ⟨E1, hb, hp⟩ := of_post hp
  rw [hK]
  exact putT_ok t hb G.rep h' N fun σ' h2 o => hp σ' H' ρ' h2 o
theorem s_lc {i : Nat} {y : Str} {py : Pos} {elt tg iter : Expr} {ifs : List Expr} {scope : Scope} {own : List (Str × Nat)} {pos spos : Pos} {t : Tg} {vr : Option Nat} {fe : FE (D × Bool × Sto)} {fc : FE (Bool × Sto)} {fi : FE (List D × Bool × Sto)} (hK : X.K = g.K) (hc : X.calm = true) (hN : X.N.Nodup) (hy : X.N[i]? = some y) (hyl : X.env.scope.names.lookup y = some .local)
    (hsw : swapsWith (.ListComp elt [⟨tg, iter, ifs, 0⟩] scope pos) (some (.Name y py)) spos.line X.env = pure true) (hi : PI X tg iter (tI g W vr fi)) (ok : BlkOk X.N X.env.scope scope own)
    (hg : ∀ (s : Shared) (H : Hp) (C : Addr) (cl : List (Str × Addr)) (fp : List Addr), PG (X.blk s H scope (compEnvC scope cl C X.env) fp) tg (tG X.K t)) (ht : ∀ (s : Shared) (H : Hp) (C : Addr) (cl : List (Str × Addr)) (fp : List Addr), PTs (X.blk s H scope (compEnvC scope cl C X.env) fp) ifs (tT g W0 fc))
    (he : ∀ (s : Shared) (H : Hp) (C : Addr) (cl : List (Str × Addr)) (fp : List Addr), PE (X.blk s H scope (compEnvC scope cl C X.env) fp) elt (tE g W0 fe)) (hv : ∀ i ∈ t.vars, i ∈ own.map (·.2)) (hs : ∀ x, foldedSetIterable iter X.env x = pure x) :
    PS X (.Assign [.Name y py] (.ListComp elt [⟨tg, iter, ifs, 0⟩] scope pos) spos) (tS g W [i] fun E S => R.st ((fi E S).bind fun p => if p.1.length ≤ line then (lcGo t (own.map (·.2)) fc fe E p.1 p.2.2).bind fun q => R.ok (D.lst q.1, true, q.2) else .bad) fun p => RS.of (putT (.nm i) p.1 p.2.1 E) fun E' => .nx E' p.2.2) := by
  refine QS.imp' (ps_setLc hc hN hy hyl hsw hi ok hg ht he hs) fun De σ H ⟨C, E, S, ρ, hE, h⟩ => ?_
  refine lc_go hK hv (W := W) (vr := vr) ?_
  refine tE.st (fe := fun E S => (fi E S).bind fun p => if p.1.length ≤ line then (lcGo t (own.map (·.2)) fc fe E p.1 p.2.2).bind fun q => R.ok (D.lst q.1, true, q.2) else .bad) hE h fun p v H' ρ' h' G N hp => ?_
  obtain ⟨E1, hb, hp⟩ := of_post hp
  exact putT_ok (.nm i) hb G.rep h' N fun σ' h2 o => hp σ' H' ρ' h2 o
/-- name = name, the list goes over -/
theorem s_mv {i j : Nat} {x y : Str} {px py : Pos} (hN : X.N.Nodup) (hi : X.N[i]? = some x) (hx : Loc X.env.scope x) (hf : X.fn x = true ∨ X.env.scope.names.lookup x = some .local) (hj : X.N[j]? = some y) (hv : Vis X.env.scope y) (hd : (y == ("__debug__" : Str)) = false) (hcd : (y == ("__classdict__" : Str)) = false) (hij : i ≠ j) :
    PS X (.Assign [.Name x px] (.Name y py) pos) (tS g W [i] fun E S => match E[j]? with
    | some (some (d, o)) => if o then .nx ((E.set j none).set i (some (d, true))) S else .nx (put i d false E) S
    | _ => .bad) := by
  refine QS.imp' (ps_set hN hi hx (pe_var hj hv hd hcd) rfl hf) fun De σ H ⟨C, E, S, ρ, hE, h⟩ => ?_
  dsimp only at h
  cases e : E[j]? with
  | none => rw [e] at h; exact h.elim
  | some u =>
    cases u with
    | none => rw [e] at h; exact h.elim
    | some p =>
      obtain ⟨d, o⟩ := p
      rw [e] at h
      cases o with
      | false =>
        obtain ⟨v, h1, h2⟩ := hE.st0.env.at_ j d false e
        exact ⟨v, h1, h _ H ρ (put_ok hE h2 fun z => nomatch z) (Off.set σ i _)⟩
      | true =>
        obtain ⟨a, xs, ds, e1, h1, h2, h3, h4, h5, h6, h7, h8, h9⟩ := hE.own j d e
        subst e1
        refine ⟨_, h1, h _ H ρ ?_ (Off.set σ i _)⟩
        -- out of its slot: set aside
        have hO : ∀ b, Own σ (E.set j none) b → Own σ E b ∧ b ≠ a := fun b ⟨k, d', k1, k2⟩ => by
          rcases set_get k1 with ⟨_, z, _⟩ | ⟨hne, hk⟩
          · cases z
          · refine ⟨⟨k, d', hk, k2⟩, fun z => ?_⟩
            subst z
            exact hne (hE.inj k j d' _ b hk e k2 h1)
        have hOa : Own σ E a := ⟨j, _, e, h1⟩
        have hB : ∀ b, BO C (fun b => b = a) σ (E.set j none) b → BO C NoY σ E b := fun b z => by
          rcases z with z | z | z | z
          · exact .inl z
          · exact .inr (.inl (hO b z).1)
          · exact .inr (.inr (.inl z))
          · rw [z]; exact .inr (.inl hOa)
        have hA : EnvS g C (fun b => b = a) σ H (E.set j none) S ρ :=
          { len := by rw [List.length_set]; exact hE.len
            ext := hE.ext
            sto := hE.sto
            bok := hE.bok
            free := fun k d' hk => by
              rcases set_get hk with ⟨_, z, _⟩ | ⟨_, hk⟩
              · cases z
              · obtain ⟨w, w1, w2⟩ := hE.free k d' hk
                exact ⟨w, w1, w2.mono (Al.mono hB)⟩
            own := fun k d' hk => by
              rcases set_get hk with ⟨_, z, _⟩ | ⟨hne, hk⟩
              · cases z
              · obtain ⟨b, ys, es, z1, k1, k2, k3, k4, k5, k6, k7, k8, k9⟩ := hE.own k d' hk
                exact ⟨b, ys, es, z1, k1, k2, k3, k4, k5, k6, k7, k8, fun z => hne (by rw [z] at k1; exact hE.inj k j d' _ a hk e k1 h1)⟩
            inj := fun k l d' e' b hk hl sk sl => by
              rcases set_get hk with ⟨_, z, _⟩ | ⟨_, hk⟩
              · cases z
              · rcases set_get hl with ⟨_, z, _⟩ | ⟨_, hl⟩
                · cases z
                · exact hE.inj k l d' e' b hk hl sk sl
            pin := fun q hq => (hE.pin q hq).mono (Al.mono hB)
            hid := hE.hid }
        exact (hA.setO (i := i) rfl h2 h3 h4 h5 h6 h7 h8).no
/-! ### writes -/
theorem Ext.hand {H : Hp} {ρ : List Addr} {a : Addr} {xs ys : List V} (hx : H a = some (.lst xs)) (ha : a ∈ ρ) : Ext H ρ (upd H a (.lst ys)) ρ where
  keep := fun b o h n _ => by rw [upd_ne (fun z => n (by rw [z]; exact ha))]; exact h
  tup := fun b o h => by rw [upd_ne (fun z => by rw [z, hx] at h; cases h)]; exact h
  frz := fun b o u h => by rw [upd_ne (fun z => by rw [z, hx] at h; cases h)]; exact h
  dom := fun b h => by
    by_cases z : b = a
    · rw [z] at h; exact (nd.no upd_same h).elim
    · exact fun u hu => h u (by rw [upd_ne z]; exact hu)
  pre := List.prefix_refl _
  new := fun _ h n => absurd h n
theorem StoR.hand {H : Hp} {ρ : List Addr} {S : Sto} {n : Nat} {a : Addr} {xs ys : List V} {ds : List D} (s : StoR g H ρ S) (ha : ρ[n]? = Option.some a) (hx : H a = Option.some (.lst xs)) (r : RpL g ρ (fun _ => False) H ys ds) (lf : D.lfs ds = true) (hl : ds.length ≤ line) : StoR g (upd H a (.lst ys)) ρ (S.set n ds) where
  len := by rw [List.length_set]; exact s.len
  nd := s.nd
  tab := tabs_wr s.tab hx
  at_ := fun m b hm => by
    have e : Ext H ρ (upd H a (.lst ys)) ρ := Ext.hand hx (List.mem_of_getElem? ha)
    by_cases hb : n = m
    · subst hb
      rw [ha] at hm; cases hm
      refine ⟨ys, ds, upd_same, List.getElem?_set_self ?_, r.golf' e lf, lf, hl⟩
      rw [← s.len]; exact (List.getElem?_eq_some_iff.mp ha).1
    · obtain ⟨zs, es, h1, h2, h3, h4, h5⟩ := s.at_ m b hm
      refine ⟨zs, es, ?_, by rw [List.getElem?_set_ne hb]; exact h2, h3.golf' e h4, h4, h5⟩
      rw [upd_ne (fun z => hb ?_)]
      · exact h1
      · subst z
        obtain ⟨hn, e1⟩ := List.getElem?_eq_some_iff.mp ha
        exact (List.getElem?_inj hn s.nd).mp (ha.trans hm.symm)
/-- an own list is written -/
theorem EnvS.wr {C : Fr} {σ : L2.St} {H : Hp} {E : Env} {S : Sto} {ρ : List Addr} {i : Nat} {a : Addr} {xs ys : List V} {d : D} {es : List D} (h : EnvS g C NoY σ H E S ρ) (hi : E[i]? = some (some (d, true))) (hs : σ[i]? = some (some (.ref a))) (hx : H a = some (.lst xs)) (hr : a ∉ ρ) (h0 : nd C.H0 a) (hh : ¬ C.hid a)
    (r : RpL g ρ (fun _ => False) H ys es) (lf : D.lfs es = true) (hl : es.length ≤ line) : EnvS g C NoY σ (upd H a (.lst ys)) (E.set i (some (.lst es, true))) S ρ :=
  have hOa : Own σ E a := ⟨i, d, hi, hs⟩
  have hO : ∀ b, Own σ (E.set i (some (.lst es, true))) b → Own σ E b := fun b ⟨k, d', k1, k2⟩ => by
    rcases set_get k1 with ⟨z, _, _⟩ | ⟨_, hk⟩
    · exact ⟨i, d, hi, by rw [← z]; exact k2⟩
    · exact ⟨k, d', hk, k2⟩
  have nA : ∀ b, Al ρ (BO C NoY σ E) b → b ≠ a := fun b hb z => hb.2 (by rw [z]; exact .inr (.inl hOa))
  have up : ∀ {v : V} {d : D}, Rp g ρ (Al ρ (BO C NoY σ E)) H v d → Rp g ρ (Al ρ (BO C NoY σ (E.set i (some (.lst es, true))))) (upd H a (.lst ys)) v d := fun r => (r.write hx fun z => nA a z rfl).mono fun b hb => EnvS.own_le hO hb
  { len := by rw [List.length_set]; exact h.len
    ext := h.ext.write h0
    sto := h.sto.write hx hr
    bok := h.bok
    free := fun k d' hk => by
      rcases set_get hk with ⟨_, z, _⟩ | ⟨_, hk⟩
      · cases z
      · obtain ⟨w, w1, w2⟩ := h.free k d' hk
        exact ⟨w, w1, up w2⟩
    own := fun k d' hk => by
      rcases set_get hk with ⟨z1, z2, _⟩ | ⟨hne, hk⟩
      · cases z2
        rw [z1]
        exact ⟨a, ys, es, rfl, hs, upd_same, hr, h0, r.write hx id, lf, hl, hh, id⟩
      · obtain ⟨b, zs, fs, z1, k1, k2, k3, k4, k5, k6, k7, k8, k9⟩ := h.own k d' hk
        refine ⟨b, zs, fs, z1, k1, ?_, k3, k4, k5.write hx id, k6, k7, k8, k9⟩
        rw [upd_ne (fun z => hne (by rw [z] at k1; exact h.inj k i d' d a hk hi k1 hs))]
        exact k2
    inj := fun k l d' e' b hk hl sk sl => by
      rcases set_get hk with ⟨z1, _, _⟩ | ⟨_, hk⟩
      · rcases set_get hl with ⟨z2, _, _⟩ | ⟨_, hl⟩
        · rw [z1, z2]
        · rw [z1] at sk ⊢
          exact h.inj i l d e' b hi hl sk sl
      · rcases set_get hl with ⟨z2, _, _⟩ | ⟨_, hl⟩
        · rw [z2] at sl ⊢
          exact h.inj k i d' d b hk hi sk sl
        · exact h.inj k l d' e' b hk hl sk sl
    pin := fun q hq => up (h.pin q hq)
    hid := fun p hp => by
      obtain ⟨h1, h2, h3, h4, h5, h6⟩ := h.hid p hp
      refine ⟨?_, h2, h3, h4.write hx id, h5, h6⟩
      rw [upd_ne (fun z => hh ⟨p.2.1, p.2.2, by rw [← z]; exact hp⟩)]
      exact h1 }
theorem lfs_set : ∀ {ds : List D} {x : D} (j : Nat), D.lfs ds = true → x.lf = true → D.lfs (ds.set j x) = true
  | [], _, _, _, _ => rfl
  | d :: ds, x, 0, h, k => by
    simp only [D.lfs, Bool.and_eq_true, List.set_cons_zero] at h ⊢
    exact ⟨k, h.2⟩
  | d :: ds, x, j + 1, h, k => by
    simp only [D.lfs, Bool.and_eq_true, List.set_cons_succ] at h ⊢
    exact ⟨h.1, lfs_set j h.2 k⟩
theorem lfs_snoc : ∀ {ds : List D} {x : D}, D.lfs ds = true → x.lf = true → D.lfs (ds ++ [x]) = true
  | [], _, _, k => by simp only [List.nil_append, D.lfs, k, Bool.and_true]
  | d :: ds, x, h, k => by
    simp only [D.lfs, Bool.and_eq_true, List.cons_append] at h ⊢
    exact ⟨h.1, lfs_snoc h.2 k⟩
theorem setEv_or {i : Nat} {d x k : D} {o : Bool} {E : Env} {S : Sto} {P : RS → Prop} (hb : ¬ P .bad) (h : P (setEv i d o x k E S)) :
    (∃ ds z, d = .lst ds ∧ o = true ∧ k = .int z ∧ P (RS.of (ixN ds.length z) fun j => .nx (E.set i (some (.lst (ds.set j x), true))) S)) ∨
    ∃ n z, d = .hd n ∧ k = .int z ∧ P (RS.of (S[n]?) fun ds => RS.of (ixN ds.length z) fun j => .nx E (S.set n (ds.set j x))) := by
  cases d with
  | lst ds =>
    cases o with
    | true =>
      cases k with
      | int z => exact .inl ⟨ds, z, rfl, rfl, rfl, h⟩
      | _ => exact (hb h).elim
    | false => exact (hb h).elim
  | hd n =>
    cases k with
    | int z => exact .inr ⟨n, z, rfl, rfl, h⟩
    | _ => exact (hb h).elim
  | _ => exact (hb h).elim
theorem s_seti {i : Nat} {x : Str} {k : Expr} {p1 p2 pos : Pos} {fk : FE (D × Bool × Sto)} (he : PE X e (tE g W fe)) (hk : PE X k (tE g W fk)) (hi : X.N[i]? = some x) (hv : Vis X.env.scope x) (hd : (x == ("__debug__" : Str)) = false) (hcd : (x == ("__classdict__" : Str)) = false)
    (ha : ∀ v, assign (.Subscript (.Name x p1) k p2) X.env v = (do
      let ov ← holding [v] (eval (.Name x p1) X.env)
      let iv ← holding [v, ov] (eval k X.env)
      standAt p2
      holding [v, ov, iv] (setItem ov iv v)
      release [v, ov, iv] []))
    (hs : swapsWithSole [.Subscript (.Name x p1) k p2] e pos.line X.env = pure false) (hw : swappedStores [.Subscript (.Name x p1) k p2] e X.env = pure none)
    (h1 : (assignEach [.Subscript (.Name x p1) k p2] X.env).map (·.2) = [assign (.Subscript (.Name x p1) k p2) X.env]) :
    PS X (.Assign [.Subscript (.Name x p1) k p2] e pos) (tS g W [] fun E S => (fe E S).st fun p => match E[i]? with
    | some (some u) => (fk E p.2.2).st fun q => if p.1.lf then setEv i u.1 u.2 p.1 q.1 E q.2.2 else .bad
    | _ => .bad) := by
  refine QS.imp' (ps_asg he (pg_sub (pe_var hi hv hd hcd) hk set_list ha) hs hw h1) fun De σ H ⟨C, E, S, ρ, hE, h⟩ => ?_
  refine tE.st hE h fun p v H1 ρ1 E1 G1 N1 hp => ?_
  have hE1 := E1.no
  cases e : E[i]? with
  | none => rw [e] at hp; exact hp.elim
  | some u =>
    cases u with
    | none => rw [e] at hp; exact hp.elim
    | some u =>
      obtain ⟨d, o⟩ := u
      rw [e] at hp
      obtain ⟨w, hw, rw'⟩ := hE1.st0.env.at_ i d o e
      refine ⟨w, hw, tE.st hE1 hp fun q u H2 ρ2 E2 G2 N2 hq => ?_⟩
      have hE2 := E2.no
      by_cases hl : p.1.lf = true
      · rw [if_pos hl] at hq
        have rv : Rp g ρ2 (fun _ => False) H2 v p.1 := (G1.rep.ext G2.ext).lf hl
        have rk := G2.rep
        have rw2 := rw'.ext G2.ext
        rcases setEv_or (P := postS g W C De σ []) id hq with ⟨ds, z, e1, e2, hz, hq2⟩ | ⟨n, z, e1, hz, hq2⟩
        · obtain ⟨j, hj, hq2⟩ := of_post hq2
          have e1 : d = .lst ds := e1
          have e2 : o = true := e2
          subst e1
          subst e2
          obtain ⟨a, xs, es, e1, k1, k2, k3, k4, k5, k6, k7, k8, k9⟩ := hE2.own i _ e
          cases e1
          rw [hw] at k1; cases k1
          rw [hz] at rk
          cases rk
          rw [← k5.length] at hj
          exact ⟨a, xs, z, j, rfl, rfl, k2, hj, hq2 σ _ ρ2 (hE2.wr e hw k2 k3 k4 k8 (k5.set j rv) (lfs_set j k6 hl) (by rw [List.length_set]; exact k7)) (Off.refl _ _)⟩
        · obtain ⟨ds, hds, hq2⟩ := of_post hq2
          obtain ⟨j, hj, hq2⟩ := of_post hq2
          have e1 : d = .hd n := e1
          subst e1
          rw [hz] at rk
          cases rk
          cases rw2 with
          | hd ha =>
            rename_i a
            obtain ⟨xs, es, k1, k2, k3, k4, k5⟩ := hE2.sto.at_ n a ha
            rw [hds] at k2; cases k2
            rw [← k3.length] at hj
            exact ⟨a, xs, z, j, rfl, rfl, k1, hj, hq2 σ _ ρ2 (hE2.go (Ext.hand k1 (List.mem_of_getElem? ha)) (hE2.sto.hand ha k1 (k3.set j rv) (lfs_set j k4 hl) (by rw [List.length_set]; exact k5))).no (Off.refl _ _)⟩
      · rw [if_neg hl] at hq
        exact hq.elim
theorem ownL_get {E : Env} {i : Nat} {ds : List D} (h : ownL E i = some ds) : E[i]? = some (some (.lst ds, true)) := by
  unfold ownL at h
  split at h
  · rename_i e; cases h; exact e
  · cases h
theorem s_app {i : Nat} {x : Str} {p1 apos cpos : Pos} (hK : X.K = g.K) (he : PE X e (tE g W fe)) (hi : X.N[i]? = some x) (hv : Vis X.env.scope x) (hd : (x == ("__debug__" : Str)) = false) (hcd : (x == ("__classdict__" : Str)) = false)
    (hbase : attributeBase (.Name x p1) "append" X.env (eval (.Name x p1) X.env) = eval (.Name x p1) X.env)
    (hfew : ((backTo cpos (starEach [e] X.env)).all (fun x => !x.1) && (backToKw cpos (keywordEach [] X.env)).all (fun x => x.1.isSome)
      && decide ([e].length + ([] : List Keyword).length + (if ([] : List Keyword).isEmpty then 0 else 1) < 30)) = true)
    (hline : (apos.endLine == cpos.line) = true) (hs : starEach [e] X.env = (false, eval e X.env) :: starEach [] X.env) :
    PS X (.Expr (.Call (.Attribute (.Name x p1) "append" apos) [e] [] cpos) pos) (tS g W [] fun E S => match ownL E i with
    | some ds => (fe E S).st fun p => if p.1.lf && decide (ds.length < line) then .nx (E.set i (some (.lst (ds ++ [p.1]), true))) p.2.2 else .bad
    | none => .bad) := by
  refine QS.imp' (ps_expr (pe_bm PySem.F.plainAttrs_list PySem.F.slot_list_append PySem.F.type_list_append mt_append (pe_var hi hv hd hcd) (pa_cons he pa_nil hs) hbase hfew hline hs rfl)) fun De σ H ⟨C, E, S, ρ, hE, h⟩ => ?_
  dsimp only at h
  cases e' : ownL E i with
  | none => rw [e'] at h; exact h.elim
  | some ds =>
    rw [e'] at h
    dsimp only at h
    have e2 := ownL_get e'
    obtain ⟨a, xs, es, e1, k1, k2, k3, k4, k5, k6, k7, k8, k9⟩ := hE.own i _ e2
    refine ⟨_, k1, .inl ⟨rfl, xs, SqL.of k2⟩, tE.st hE h fun p v H1 ρ1 E1 G1 N1 hp => ?_⟩
    have hE1 := E1.no
    obtain ⟨a', xs', es', e1', l1, l2, l3, l4, l5, l6, l7, l8, l9⟩ := hE1.own i _ e2
    cases e1'
    rw [k1] at l1; cases l1
    by_cases hl : (p.1.lf && decide (ds.length < line)) = true
    · rw [if_pos hl] at hp
      rw [Bool.and_eq_true] at hl
      have hz := of_decide_eq_true hl.2
      have hz2 : xs'.length < sizeLine := by rw [l5.length, ← line_eq]; exact hz
      exact ⟨_, xs', v, rfl, rfl, l2, hz2, hp σ _ ρ1 (hE1.wr e2 k1 l2 l3 l4 l8 (l5.append (.cons (G1.rep.lf hl.1) .nil)) (lfs_snoc l6 hl.1) (by rw [List.length_append]; exact hz)) (Off.refl _ _)⟩
    · rw [if_neg hl] at hp
      exact hp.elim
end
end Pz

set_option Elab.async false
set_option linter.all false
set_option autoImplicit false
set_option maxRecDepth 100000
set_option maxHeartbeats 1000000
/-! Pz, part Q: statements, second part. -/
namespace Pz
open PySem PySem.Spec PyProof.Rows L2
section
variable {X : Cx} {g : Gx} {W : WX} {pos : Pos} {e a b c : Expr} {vs ws : List Nat} {fe fa fb fc : FE (D × Bool × Sto)} {f f2 : Env → Sto → RS} {st : Stmt} {rest body orelse : List Stmt}
theorem tT.st' {fT : FE (Bool × Sto)} {C : Fr} {De : Ends} {σ σ0 : L2.St} {H : Hp} {E : Env} {S : Sto} {ρ : List Addr} {k : Bool × Sto → RS} {Q : Bool → Hp → Prop} (hE : EnvS g C NoY σ H E S ρ) (hO : Off vs σ0 σ) (h : postS g W C De σ0 vs ((fT E S).st k))
    (c : ∀ p H' ρ', EnvS g C NoY σ H' E p.2 ρ' → postS g W C De σ0 vs (k p) → Q p.1 H') : tT g W fT σ H Q := by
  refine ⟨Bx C, E, S, ρ, hE.st0, ?_⟩
  cases e : fT E S with
  | ex c S' => rw [e] at h; exact fun H' ρ' e2 s2 => h σ H' ρ' (hE.ext.trans e2) s2
  | bad => rw [e] at h; exact h
  | ok p =>
    rw [e] at h
    exact fun H' ρ' e2 s2 => c p H' ρ' (hE.go e2 s2).no h
theorem s_exp (he : PE X e (tE g W fe)) (hs : swapsWith e none pos.line X.env = pure false) : PS X (.Expr e pos) (tS g W [] fun E S => (fe E S).st fun p => .nx E p.2.2) := by
  refine QS.imp' (ps_expr he hs) fun De σ H ⟨C, E, S, ρ, hE, h⟩ => ?_
  exact tE.st hE h fun p v H' ρ' h' G N hp => hp σ H' ρ' h'.no (Off.refl _ _)
theorem s_ite (hc : PT X c (tT g W (evT fc))) (ha : PSs X body (tS g W vs f)) (hb : PSs X orelse (tS g W ws f2)) :
    PS X (.If c body orelse pos) (tS g W (vs ++ ws) fun E S => (fc E S).st fun p => RS.of p.1.tru fun z => if z then f E p.2.2 else f2 E p.2.2) := by
  refine QS.imp' (ps_if hc ha hb) fun De σ H ⟨C, E, S, ρ, hE, h⟩ => ?_
  refine tT.st (k := fun p => match p.1 with
    | .bl z => if z then f E p.2.2 else f2 E p.2.2
    | _ => .bad) hE h fun z H' ρ' S' h' hp => ?_
  cases z with
  | true => exact ⟨C, E, S', ρ', h', postS.mono hp fun σ2 o => o.mono fun i hi => List.mem_append_left _ hi⟩
  | false => exact ⟨C, E, S', ρ', h', postS.mono hp fun σ2 o => o.mono fun i hi => List.mem_append_right _ hi⟩
theorem Got.up {C : Fr} {H : Hp} {ρ : List Addr} {v : V} {d : D} {o : Bool} {H' : Hp} {ρ' : List Addr} {S' : Sto} (e : Ext C.H0 C.ρ0 H ρ) (G : Got g (Bx C) H ρ v d o H' ρ' S') : Got g C.B C.H0 C.ρ0 v d o H' ρ' S' :=
  let G2 := G.base e
  ⟨G2.ext, G2.sto, G2.rep.mono (Al.mono fun a z => .inl z), G2.own⟩
theorem s_ret (he : PE X e (tE g W fe)) : PS X (.Return (some e) pos) (tS g W [] fun E S => (fe E S).st fun p => .rt p.1 p.2.1 p.2.2) := by
  refine QS.imp' (ps_ret he) fun De σ H ⟨C, E, S, ρ, hE, h⟩ => ?_
  exact tE.st hE h fun p v H' ρ' h' G N hp => hp v H' ρ' (G.up hE.ext)
theorem s_retv {i : Nat} {x : Str} {px : Pos} (hi : X.N[i]? = some x) (hv : Vis X.env.scope x) (hd : (x == ("__debug__" : Str)) = false) (hcd : (x == ("__classdict__" : Str)) = false) :
    PS X (.Return (some (.Name x px)) pos) (tS g W [] fun E S => match E[i]? with
    | some (some (d, o)) => .rt d o S
    | _ => .bad) := by
  refine QS.imp' (ps_ret (pe_var hi hv hd hcd)) fun De σ H ⟨C, E, S, ρ, hE, h⟩ => ?_
  dsimp only at h
  cases e : E[i]? with
  | none => rw [e] at h; exact h.elim
  | some u =>
    cases u with
    | none => rw [e] at h; exact h.elim
    | some p =>
      obtain ⟨d, o⟩ := p
      rw [e] at h
      obtain ⟨v, h1, h2⟩ := hE.st0.env.at_ i d o e
      refine ⟨v, h1, h v H ρ ⟨hE.ext, hE.sto, h2.mono (Al.mono fun a z => .inl z), fun z => ?_⟩⟩
      subst z
      obtain ⟨a, xs, ds, e1, k1, k2, k3, k4, _⟩ := hE.own i d e
      rw [h1] at k1; cases k1
      exact ⟨a, xs, rfl, k4, k2, k3⟩
theorem s_retN : PS X (.Return none pos) (tS g W [] fun _ S => .rt .non false S) := by
  refine QS.imp' ps_retN fun De σ H ⟨C, E, S, ρ, hE, h⟩ => ?_
  exact h .non H ρ ⟨hE.ext, hE.sto, .non, fun z => nomatch z⟩
theorem s_pas : PS X (.Pass pos) (tS g W [] fun E S => .nx E S) := QS.imp' ps_pass fun De σ H ⟨C, E, S, ρ, hE, h⟩ => h σ H ρ hE (Off.refl _ _)
theorem s_brk : PS X (.Break pos) (tS g W [] fun E S => .bk E S) := QS.imp' ps_break fun De σ H ⟨C, E, S, ρ, hE, h⟩ => h σ H ρ hE (Off.refl _ _)
theorem s_cnt : PS X (.Continue pos) (tS g W [] fun E S => .ct E S) := QS.imp' ps_continue fun De σ H ⟨C, E, S, ρ, hE, h⟩ => h σ H ρ hE (Off.refl _ _)
theorem s_rai {ci : Nat} {t : L2.St → Hp → XK → Prop} (hc : X.calm = true) (tk : Takes X W) (he : PMk X e t) (ht : ∀ σ H Q, Q (.ref (g.ca ci)) none H → t σ H Q) : PS X (.Raise (some e) none pos) (tS g W [] fun _ S => .ex ci S) := by
  refine QS.imp' (ps_raise hc tk he) fun De σ H ⟨C, E, S, ρ, hE, h⟩ => ?_
  exact ht σ H _ (h σ H ρ hE.ext hE.sto)
/-! ### several at once -/
theorem parSet_len {k : Bool} : ∀ {is : List Nat} {ps : List (D × Bool)} {E E1 : Env}, parSet k is ps E = some E1 → ps.length = is.length
  | [], [], _, _, _ => rfl
  | [], _ :: _, _, _, h => nomatch h
  | _ :: _, [], _, _, h => nomatch h
  | _ :: is, _ :: ps, _, _, h => by rw [List.length_cons, List.length_cons, parSet_len (is := is) (ps := ps) h]
theorem parAll_len {is : List Nat} {ps : List (D × Bool)} {E E1 : Env} (h : parAll is ps E = some E1) : ps.length = is.length := by
  unfold parAll at h
  split at h
  · exact parSet_len h
  · exact parSet_len h
theorem s_par2 {i j : Nat} {x y : Str} {fs : FE (List (D × Bool) × Sto)} {px py pt : Pos} {kt k2 pt2} (hc : X.calm = true) (hN : X.N.Nodup) (hi : X.N[i]? = some x) (hj : X.N[j]? = some y) (hij : i ≠ j)
    (hx : X.env.scope.names.lookup x = some .local) (hy : X.env.scope.names.lookup y = some .local) (ha : PA X [a, b] (tA g W fs))
    (hw : swappedStores [.Tuple [.Name x px, .Name y py] kt pt] (.Tuple [a, b] k2 pt2) X.env = pure (some [x, y])) :
    PS X (.Assign [.Tuple [.Name x px, .Name y py] kt pt] (.Tuple [a, b] k2 pt2) pos) (tS g W [i, j] fun E S => (fs E S).st fun p => RS.of (parAll [i, j] p.1 E) fun E' => .nx E' p.2) := by
  refine QS.imp' (ps_par hc hN hi hj hij hx hy ha hw) fun De σ H ⟨C, E, S, ρ, hE, h⟩ => ?_
  refine tA.st hE h fun p us H' ρ' G F hp => ?_
  obtain ⟨E1, hb, hp⟩ := of_post hp
  have hl := parAll_len hb
  have hl2 := G.rep.length
  rw [List.length_map, hl] at hl2
  match us, hl2 with
  | [v, w], _ =>
    obtain ⟨q1, q2⟩ := par_ok hE G.ext G.sto hb G.rep F
    exact ⟨v, w, rfl, hp _ H' ρ' q1 q2⟩
theorem s_par3 {i j l : Nat} {x y z : Str} {fs : FE (List (D × Bool) × Sto)} {px py pz pt : Pos} {kt k2 pt2} (hc : X.calm = true) (hN : X.N.Nodup) (hi : X.N[i]? = some x) (hj : X.N[j]? = some y) (hl : X.N[l]? = some z) (hij : i ≠ j) (hil : i ≠ l) (hjl : j ≠ l)
    (hx : X.env.scope.names.lookup x = some .local) (hy : X.env.scope.names.lookup y = some .local) (hz : X.env.scope.names.lookup z = some .local) (ha : PA X [a, b, c] (tA g W fs))
    (hw : swappedStores [.Tuple [.Name x px, .Name y py, .Name z pz] kt pt] (.Tuple [a, b, c] k2 pt2) X.env = pure (some [x, y, z])) :
    PS X (.Assign [.Tuple [.Name x px, .Name y py, .Name z pz] kt pt] (.Tuple [a, b, c] k2 pt2) pos) (tS g W [i, j, l] fun E S => (fs E S).st fun p => RS.of (parAll [i, j, l] p.1 E) fun E' => .nx E' p.2) := by
  refine QS.imp' (ps_par3 hc hN hi hj hl hij hil hjl hx hy hz ha hw) fun De σ H ⟨C, E, S, ρ, hE, h⟩ => ?_
  refine tA.st hE h fun p us H' ρ' G F hp => ?_
  obtain ⟨E1, hb, hp⟩ := of_post hp
  have hl := parAll_len hb
  have hl2 := G.rep.length
  rw [List.length_map, hl] at hl2
  match us, hl2 with
  | [u, v, w], _ =>
    obtain ⟨q1, q2⟩ := par_ok hE G.ext G.sto hb G.rep F
    exact ⟨u, v, w, rfl, hp _ H' ρ' q1 q2⟩
/-! ### a handle -/
theorem EnvS.mkh {C : Fr} {Y : Addr → Prop} {σ : L2.St} {H : Hp} {E : Env} {S : Sto} {ρ : List Addr} {a : Addr} {v : V} {xs : List V} {ds : List D} {i : Nat} (h : EnvS g C Y σ H E S ρ) (N : NewL g C Y H ρ v a) (hx : H a = some (.lst xs)) (r : RpL g ρ (fun _ => False) H xs ds) (lf : D.lfs ds = true) (hl : ds.length ≤ line) :
    EnvS g C NoY (σ.set i (some v)) H (E.set i (some (.hd S.length, false))) (S ++ [ds]) (ρ ++ [a]) := by
  have gp : ∀ (n : Nat) b, ρ[n]? = some b → (ρ ++ [a])[n]? = some b := fun n b e => by
    rw [List.getElem?_append_left (List.getElem?_eq_some_iff.mp e).1]; exact e
  have hA : ∀ b, Al ρ (BO C Y σ E) b → Al (ρ ++ [a]) (BO C NoY σ E) b := fun b hb => ⟨fun z => by
      rcases List.mem_append.mp z with z | z
      · exact hb.1 z
      · rw [List.mem_singleton.mp z] at hb
        exact hb.2 (.inr (.inr (.inr N.mem))), fun z => by
      rcases z with z | z | z | z
      · exact hb.2 (.inl z)
      · exact hb.2 (.inr (.inl z))
      · exact hb.2 (.inr (.inr (.inl z)))
      · exact z⟩
  have go : ∀ {v : V} {d : D}, Rp g ρ (Al ρ (BO C Y σ E)) H v d → Rp g (ρ ++ [a]) (Al (ρ ++ [a]) (BO C NoY σ E)) H v d := fun r => r.go (fun b ys hb hy => ⟨hy, hA b hb⟩) (fun _ _ z => z) (fun _ _ _ z => z) gp
  have goL : ∀ {v : List V} {d : List D}, RpL g ρ (fun _ => False) H v d → RpL g (ρ ++ [a]) (fun _ => False) H v d := fun r => r.go (fun b ys hb hy => hb.elim) (fun _ _ z => z) (fun _ _ _ z => z) gp
  have nm : ∀ {b : Addr}, b ∉ ρ → b ≠ a → b ∉ ρ ++ [a] := fun h1 h2 z => (List.mem_append.mp z).elim h1 fun z => h2 (List.mem_singleton.mp z)
  have h2 : EnvS g C NoY σ H E (S ++ [ds]) (ρ ++ [a]) :=
    { len := h.len
      ext := ⟨h.ext.keep, h.ext.tup, h.ext.frz, h.ext.dom, h.ext.pre.trans (List.prefix_append _ _), fun b hb hn => by
        rcases List.mem_append.mp hb with z | z
        · exact h.ext.new b z hn
        · rw [List.mem_singleton.mp z]; exact N.old⟩
      sto := ⟨by rw [List.length_append, List.length_append, h.sto.len]; rfl, List.nodup_append.mpr ⟨h.sto.nd, List.pairwise_singleton _ _, fun b hb c hc z => N.off (by rw [← List.mem_singleton.mp hc, ← z]; exact hb)⟩, h.sto.tab, fun n b hn => by
        by_cases hl2 : n < ρ.length
        · rw [List.getElem?_append_left hl2] at hn
          obtain ⟨ys, es, k1, k2, k3, k4, k5⟩ := h.sto.at_ n b hn
          refine ⟨ys, es, k1, ?_, goL k3, k4, k5⟩
          rw [List.getElem?_append_left (by rw [← h.sto.len]; exact hl2)]; exact k2
        · have hn2 : n = ρ.length := by
            have := (List.getElem?_eq_some_iff.mp hn).1
            rw [List.length_append, List.length_singleton] at this
            omega
          subst hn2
          rw [List.getElem?_append_right (Nat.le_refl _), Nat.sub_self] at hn
          cases hn
          refine ⟨xs, ds, hx, ?_, goL r, lf, hl⟩
          rw [h.sto.len, List.getElem?_append_right (Nat.le_refl _), Nat.sub_self]; rfl⟩
      bok := h.bok
      free := fun j d hj =>
        let ⟨w, w1, w2⟩ := h.free j d hj
        ⟨w, w1, go w2⟩
      own := fun j d hj => by
        obtain ⟨b, ys, es, z1, k1, k2, k3, k4, k5, k6, k7, k8, k9⟩ := h.own j d hj
        exact ⟨b, ys, es, z1, k1, k2, nm k3 fun z => k9 (by rw [z]; exact N.mem), k4, goL k5, k6, k7, k8, id⟩
      inj := h.inj
      pin := fun q hq => go (h.pin q hq)
      hid := fun p hp => by
        obtain ⟨h1, h2, h3, h4, h5, h6⟩ := h.hid p hp
        exact ⟨h1, nm h2 fun z => N.hid ⟨p.2.1, p.2.2, by rw [← z]; exact hp⟩, h3, goL h4, h5, h6⟩ }
  refine h2.setF ?_
  rw [N.eq]
  refine .hd ?_
  rw [← h.sto.len, List.getElem?_append_right (Nat.le_refl _), Nat.sub_self]; rfl
theorem s_mkh {i : Nat} {x : Str} {px : Pos} (hN : X.N.Nodup) (hi : X.N[i]? = some x) (hx : Loc X.env.scope x) (hf : X.fn x = true ∨ X.env.scope.names.lookup x = some .local) (he : PE X e (tE g W fe)) (hs : swapsWith e (some (.Name x px)) pos.line X.env = pure false) :
    PS X (.Assign [.Name x px] e pos) (tS g W [i] fun E S => (fe E S).st fun p => match p.1 with
    | .lst ds => if p.2.1 && D.lfs ds then .nx (E.set i (some (.hd p.2.2.length, false))) (p.2.2 ++ [ds]) else .bad
    | _ => .bad) := by
  refine QS.imp' (ps_set hN hi hx he hs hf) fun De σ H ⟨C, E, S, ρ, hE, h⟩ => ?_
  refine tE.st hE h fun p v H1 ρ1 E1 G N hp => ?_
  obtain ⟨d, o, S1⟩ := p
  cases d with
  | lst ds =>
    dsimp only at hp
    by_cases hl : (o && D.lfs ds) = true
    · rw [if_pos hl] at hp
      rw [Bool.and_eq_true] at hl
      obtain ⟨a, N⟩ := N hl.1
      obtain ⟨xs, hx⟩ := N.at_
      have r := G.rep
      rw [N.eq] at r
      have r : Rp g ρ1 (Al ρ1 (Bx C)) H1 (.ref a) (.lst ds) := r
      obtain ⟨r1, r2⟩ := r.lstAt hx
      exact hp _ H1 _ (E1.mkh N hx (r1.lf hl.2) hl.2 r2) (Off.set σ i _)
    · rw [if_neg hl] at hp; exact hp.elim
  | _ => exact hp.elim
/-! ### while -/
theorem s_whl {fT : FE (Bool × Sto)} (hp : PassesOwn (model X.prog X.w) X.A X.env X.xe) (hc : PT X c (tT g W fT)) (hb : PSs X body (tS g W vs f)) (m : Nat) : PS X (.While c body [] pos) (tS g W vs fun E S => whlGo fT f m E S) := by
  refine QS.imp' (ps_while hp hc hb) fun De σ H ⟨C, E, S, ρ, hE, h⟩ => ?_
  refine ⟨fun m σ' H' => ∃ E' S' ρ', EnvS g C NoY σ' H' E' S' ρ' ∧ Off vs σ σ' ∧ postS g W C De σ vs (whlGo fT f m E' S'), ⟨m, E, S, ρ, hE, Off.refl _ _, h⟩, fun m σ' H' ⟨E', S', ρ', hE', hO, h'⟩ => ?_⟩
  cases m with
  | zero => exact h'.elim
  | succ m =>
    refine tT.st' hE' hO h' fun p H2 ρ2 hE2 hq => ?_
    by_cases hz : p.1 = true
    · rw [if_pos hz] at hq
      dsimp only
      rw [if_pos hz]
      refine ⟨fun σ3 H3 => ∃ E3 S3 ρ3, EnvS g C NoY σ3 H3 E3 S3 ρ3 ∧ Off vs σ σ3 ∧ postS g W C De σ vs (whlGo fT f m E3 S3), fun σ3 H3 z => ⟨m, Nat.lt_succ_self m, z⟩, C, E', p.2, ρ2, hE2, ?_⟩
      have ov : ∀ {σ3 : L2.St}, Off vs σ' σ3 → Off vs σ σ3 := fun o3 => (hO.trans o3).mono fun i hi => (List.mem_append.mp hi).elim id id
      cases e : f E' p.2 with
      | nx E3 S3 => rw [e] at hq; exact fun σ3 H3 ρ3 h3 o3 => ⟨E3, S3, ρ3, h3, ov o3, hq⟩
      | ct E3 S3 => rw [e] at hq; exact fun σ3 H3 ρ3 h3 o3 => ⟨E3, S3, ρ3, h3, ov o3, hq⟩
      | bk E3 S3 => rw [e] at hq; exact fun σ3 H3 ρ3 h3 o3 => hq σ3 H3 ρ3 h3 (ov o3)
      | rt d o S3 => rw [e] at hq; exact hq
      | ex c S3 => rw [e] at hq; exact hq
      | bad => rw [e] at hq; exact hq
    · rw [if_neg hz] at hq
      dsimp only
      rw [if_neg hz]
      exact hq σ' H2 ρ2 hE2 hO
end
end Pz

set_option Elab.async false
set_option linter.all false
set_option autoImplicit false
set_option maxRecDepth 100000
set_option maxHeartbeats 1000000
/-! Pz, part R: for. -/
namespace Pz
open PySem PySem.Spec PyProof.Rows L2
section
variable {g : Gx} {W : WX} {C : Fr} {De : Ends} {σ σ' : L2.St} {H H' : Hp} {E : Env} {S S' : Sto} {ρ ρ' : List Addr}
/-- what is walked is pinned -/
theorem EnvS.pinned {Y : Addr → Prop} (h : EnvS g C Y σ H E S ρ) {Ps : List (V × D)} (hp : ∀ q ∈ Ps, Rp g ρ (Al ρ (BO C Y σ E)) H q.1 q.2) : EnvS g { C with Pn := Ps ++ C.Pn } Y σ H E S ρ :=
  { len := h.len, ext := h.ext, sto := h.sto, bok := h.bok, free := h.free, own := h.own, inj := h.inj, hid := h.hid
    pin := fun q hq => (List.mem_append.mp hq).elim (hp q) (h.pin q) }
theorem EnvS.unpinned {Y : Addr → Prop} {Ps : List (V × D)} (h : EnvS g { C with Pn := Ps ++ C.Pn } Y σ H E S ρ) : EnvS g C Y σ H E S ρ :=
  { len := h.len, ext := h.ext, sto := h.sto, bok := h.bok, free := h.free, own := h.own, inj := h.inj, hid := h.hid
    pin := fun q hq => h.pin q (List.mem_append_right _ hq) }
/-- an own list goes out of sight -/
theorem EnvS.hide (h : EnvS g C NoY σ H E S ρ) {i : Nat} {a : Addr} {xs : List V} {ds : List D} (hi : E[i]? = some (some (.lst ds, true))) (hs : σ[i]? = some (some (.ref a))) (hx : H a = some (.lst xs)) :
    EnvS g { C with Hd := (a, xs, ds) :: C.Hd } NoY σ H (E.set i none) S ρ :=
  have hO : ∀ b, Own σ (E.set i none) b → Own σ E b ∧ b ≠ a := fun b ⟨k, d', k1, k2⟩ => by
    rcases set_get k1 with ⟨_, z, _⟩ | ⟨hne, hk⟩
    · cases z
    · refine ⟨⟨k, d', hk, k2⟩, fun z => ?_⟩
      subst z
      exact hne (h.inj k i d' _ b hk hi k2 hs)
  have hOa : Own σ E a := ⟨i, _, hi, hs⟩
  have hB : ∀ b, BO { C with Hd := (a, xs, ds) :: C.Hd } NoY σ (E.set i none) b → BO C NoY σ E b := fun b z => by
    rcases z with z | z | z | z
    · exact .inl z
    · exact .inr (.inl (hO b z).1)
    · obtain ⟨ys, es, z⟩ := z
      rcases List.mem_cons.mp z with z | z
      · cases z; exact .inr (.inl hOa)
      · exact .inr (.inr (.inl ⟨ys, es, z⟩))
    · exact z.elim
  { len := by rw [List.length_set]; exact h.len
    ext := h.ext
    sto := h.sto
    bok := h.bok
    free := fun k d' hk => by
      rcases set_get hk with ⟨_, z, _⟩ | ⟨_, hk⟩
      · cases z
      · obtain ⟨w, w1, w2⟩ := h.free k d' hk
        exact ⟨w, w1, w2.mono (Al.mono hB)⟩
    own := fun k d' hk => by
      rcases set_get hk with ⟨_, z, _⟩ | ⟨hne, hk⟩
      · cases z
      · obtain ⟨b, ys, es, z1, k1, k2, k3, k4, k5, k6, k7, k8, k9⟩ := h.own k d' hk
        refine ⟨b, ys, es, z1, k1, k2, k3, k4, k5, k6, k7, fun ⟨zs, fs, z⟩ => ?_, k9⟩
        rcases List.mem_cons.mp z with z | z
        · cases z
          exact hne (h.inj k i d' _ a hk hi k1 hs)
        · exact k8 ⟨zs, fs, z⟩
    inj := fun k l d' e' b hk hl sk sl => by
      rcases set_get hk with ⟨_, z, _⟩ | ⟨_, hk⟩
      · cases z
      · rcases set_get hl with ⟨_, z, _⟩ | ⟨_, hl⟩
        · cases z
        · exact h.inj k l d' e' b hk hl sk sl
    pin := fun q hq => (h.pin q hq).mono (Al.mono hB)
    hid := fun p hp => by
      rcases List.mem_cons.mp hp with z | hp
      · subst z
        obtain ⟨b, ys, es, z1, k1, k2, k3, k4, k5, k6, k7, k8, k9⟩ := h.own i _ hi
        cases z1
        rw [hs] at k1; cases k1
        rw [hx] at k2; cases k2
        exact ⟨hx, k3, k4, k5, k6, k7⟩
      · exact h.hid p hp }
/-- .. and comes back -/
theorem EnvS.show_ {i : Nat} {a : Addr} {xs : List V} {ds : List D} (h : EnvS g { C with Hd := (a, xs, ds) :: C.Hd } NoY σ H E S ρ) (hi : σ[i]? = some (some (.ref a))) (hn : ¬ C.hid a) (hE : E[i]? = some none ∨ E.length ≤ i) : EnvS g C NoY σ H (E.set i (some (.lst ds, true))) S ρ := by
  obtain ⟨p1, p2, p3, p4, p5, p6⟩ := h.hid (a, xs, ds) List.mem_cons_self
  have hid' : ∀ b, Fr.hid { C with Hd := (a, xs, ds) :: C.Hd } b ↔ C.hid b ∨ b = a := fun b => ⟨fun ⟨ys, es, z⟩ => by
    rcases List.mem_cons.mp z with z | z
    · cases z; exact .inr rfl
    · exact .inl ⟨ys, es, z⟩, fun z => by
    rcases z with ⟨ys, es, z⟩ | z
    · exact ⟨ys, es, List.mem_cons_of_mem _ z⟩
    · exact ⟨xs, ds, by rw [z]; exact List.mem_cons_self⟩⟩
  have hB : ∀ b, BO C (fun b => b = a) σ E b → BO { C with Hd := (a, xs, ds) :: C.Hd } NoY σ E b := fun b z => by
    rcases z with z | z | z | z
    · exact .inl z
    · exact .inr (.inl z)
    · exact .inr (.inr (.inl ((hid' b).mpr (.inl z))))
    · exact .inr (.inr (.inl ((hid' b).mpr (.inr z))))
  have h2 : EnvS g C (fun b => b = a) σ H E S ρ :=
    { len := h.len
      ext := h.ext
      sto := h.sto
      bok := h.bok
      free := fun k d' hk =>
        let ⟨w, w1, w2⟩ := h.free k d' hk
        ⟨w, w1, w2.mono (Al.mono hB)⟩
      own := fun k d' hk => by
        obtain ⟨b, ys, es, z1, k1, k2, k3, k4, k5, k6, k7, k8, k9⟩ := h.own k d' hk
        exact ⟨b, ys, es, z1, k1, k2, k3, k4, k5, k6, k7, fun z => k8 ((hid' b).mpr (.inl z)), fun z => k8 ((hid' b).mpr (.inr z))⟩
      inj := h.inj
      pin := fun q hq => (h.pin q hq).mono (Al.mono hB)
      hid := fun p hp => h.hid p (List.mem_cons_of_mem _ hp) }
  exact (h2.addO hE (fun _ => hi) rfl p1 p2 p3 p4 p5 p6 hn).no
end
section
variable {g : Gx} {W : WX} {C : Fr} {De : Ends} {σ σ' : L2.St} {H H' : Hp} {E : Env} {S S' : Sto} {ρ ρ' : List Addr} {X : Cx} {pos : Pos} {body : List Stmt} {tg iter : Expr} {vs : List Nat} {f : Env → Sto → RS} {fi : FE (List D × Bool × Sto)}
theorem lfs_get : ∀ {ds : List D} {i : Nat} {d : D}, D.lfs ds = true → ds[i]? = some d → d.lf = true
  | d :: ds, 0, _, h, e => by
    simp only [D.lfs, Bool.and_eq_true] at h
    cases e; exact h.1
  | d :: ds, i + 1, _, h, e => by
    simp only [D.lfs, Bool.and_eq_true] at h
    exact lfs_get h.2 e
/-- what a loop keeps of what it walks -/
structure Src (g : Gx) (C : Fr) (Ps : List (V × D)) (ds : List D) (H : Hp) (ρ : List Addr) : Prop where
  src : ∃ A : Addr → Prop, (∀ b, A b → b ∉ ρ) ∧ (∀ q ∈ Ps, Rp g ρ A H q.1 q.2) ∧ (D.lfs ds = true ∨ ∀ b, A b → Al ρ (Bx C) b)
/-- a loop's start and end -/
structure LoopOk (g : Gx) (C C' : Fr) (σ : L2.St) (H : Hp) (E' : Env) (S : Sto) (ρ : List Addr) (vs : List Nat) (Ps : List (V × D)) (ds : List D) (back : Env → Env) : Prop where
  start : EnvS g C' NoY σ H E' S ρ
  src : ∀ σ2 H2 E2 S2 ρ2, EnvS g C' NoY σ2 H2 E2 S2 ρ2 → Src g C' Ps ds H2 ρ2
  fin : ∀ σ2 H2 E2 S2 ρ2, EnvS g C' NoY σ2 H2 E2 S2 ρ2 → Off vs σ σ2 → EnvS g C NoY σ2 H2 (back E2) S2 ρ2
  same : C'.B = C.B ∧ C'.H0 = C.H0 ∧ C'.ρ0 = C.ρ0
theorem loop_pin {Ps : List (V × D)} {ds : List D} (h : EnvS g C NoY σ H E S ρ) (hp : ∀ q ∈ Ps, Rp g ρ (Al ρ (BO C NoY σ E)) H q.1 q.2) : LoopOk g C { C with Pn := Ps ++ C.Pn } σ H E S ρ vs Ps ds fun E => E where
  start := h.pinned hp
  src := fun σ2 H2 E2 S2 ρ2 h2 => ⟨_, fun b hb => hb.1, fun q hq => h2.pin q (List.mem_append_left _ hq), .inr (Al.mono fun a z => z.elim .inl fun z => .inr (.inr (.inl z)))⟩
  fin := fun σ2 H2 E2 S2 ρ2 h2 _ => h2.unpinned
  same := ⟨rfl, rfl, rfl⟩
theorem lf_of_seqLf {d : D} (h : seqLf d = true) (hl : isLst d = false) : d.lf = true := by
  cases d <;> first | rfl | exact h | cases hl
theorem loop_ok {H0 : Hp} {S0 : Sto} {ρ0 : List Addr} {it : PIt} {hide sf : Bool} {Ps : List (V × D)} {ds : List D} (h : EnvS g C NoY σ H0 E S0 ρ0) (e : Ext H0 ρ0 H ρ) (s : StoR g H ρ S) (hp : ∀ q ∈ Ps, Rp g ρ (Al ρ (Bx C)) H q.1 q.2)
    (hf : sf = true → ∀ q ∈ Ps, seqLf q.2 = true ∧ (isLst q.2 = true → Fresh H0 H ρ q.1))
    (hv : ∀ i : Nat, itVar it = some i → ∃ (v : V) (d : D) (o : Bool), E[i]? = some (some (d, o)) ∧ σ[i]? = some (some v) ∧ (Ps = [(v, d)] ∨ Ps = [] ∧ isLst d = false) ∧ (seqLf d = true → D.lfs ds = true))
    (hh : hide = true → ∀ i : Nat, itVar it = some i → i ∉ vs) :
    ∃ C', LoopOk g C C' σ H (loopE E it sf hide) S ρ vs Ps ds (backE E it sf hide) := by
  have h1 := h.go e s
  have h2 := h1.no
  unfold loopE backE
  cases hsf : sf with
  | true =>
    simp only [if_true]
    refine ⟨_, loop_pin h2 fun q hq => ?_⟩
    obtain ⟨k1, k2⟩ := hf hsf q hq
    cases hl : isLst q.2 with
    | false => exact (hp q hq).lf (lf_of_seqLf k1 hl)
    | true =>
      obtain ⟨a, N⟩ := NewL.of h (k2 hl)
      have r := hp q hq
      obtain ⟨v, d⟩ := q
      cases d with
      | lst es =>
        obtain ⟨xs, hx⟩ := N.at_
        have ev : v = .ref a := N.eq
        subst ev
        have r : Rp g ρ (Al ρ (Bx C)) H (.ref a) (.lst es) := r
        obtain ⟨r1, r2⟩ := r.lstAt hx
        refine .lst hx ⟨N.off, fun z => ?_⟩ (r1.lf k1) r2
        rcases z with z | z | z | z
        · exact h.nB N.old z
        · obtain ⟨j, d', j1, j2⟩ := z
          obtain ⟨b, ys, es', z1, q1, q2, _⟩ := h.own j d' j1
          rw [j2] at q1; cases q1
          exact nd.no q2 N.mem
        · exact N.hid z
        · exact z.elim
      | _ => cases hl
  | false =>
    simp only [Bool.false_eq_true, if_false]
    cases hi : itVar it with
    | none =>
      refine ⟨_, loop_pin h2.clear fun q hq => (hp q hq).mono (Al.mono fun a z => ?_)⟩
      rcases z with z | z | z | z
      · exact .inl z
      · obtain ⟨j, d', j1, j2⟩ := z
        exact nomatch (clr_get j1).1
      · exact .inr z
      · exact z.elim
    | some i =>
      obtain ⟨v, d, o, hE, hs, hPs, hds⟩ := hv i hi
      have one : ∀ {P : V × D → Prop}, P (v, d) → ∀ q ∈ Ps, P q := fun {P} p q hq => by
        rcases hPs with rfl | ⟨rfl, _⟩
        · rw [List.mem_singleton.mp hq]; exact p
        · cases hq
      dsimp only
      rw [hE]
      cases o with
      | false =>
        dsimp only
        refine ⟨_, loop_pin h2 (one ?_)⟩
        obtain ⟨w, w1, w2⟩ := h2.free i d hE
        rw [hs] at w1; cases w1
        exact w2
      | true =>
        dsimp only
        cases hd : hide with
        | false =>
          simp only [Bool.false_eq_true, if_false]
          refine ⟨_, loop_pin h2.clear (one ?_)⟩
          have hE2 : (clr E)[i]? = some (some (d, false)) := by
            unfold clr; rw [List.getElem?_map, hE]; rfl
          obtain ⟨w, w1, w2⟩ := h2.clear.free i d hE2
          rw [hs] at w1; cases w1
          exact w2
        | true =>
          simp only [if_true]
          obtain ⟨a, xs, es, e1, k1, k2, k3, k4, k5, k6, k7, k8, k9⟩ := h2.own i d hE
          subst e1
          rw [hs] at k1; cases k1
          refine ⟨_, h2.hide hE hs k2, fun σ2 H2 E2 S2 ρ2 h3 => ?_, fun σ2 H2 E2 S2 ρ2 h3 o3 => ?_, rfl, rfl, rfl⟩
          · obtain ⟨p1, p2, p3, p4, p5, p6⟩ := h3.hid (a, xs, es) List.mem_cons_self
            exact ⟨fun b => b = a, fun b hb => by rw [hb]; exact p2, one (.lst p1 rfl (p4.lf p5) p6), .inl (hds k6)⟩
          · have hi2 := hh hd i hi
            have hs2 : σ2[i]? = some (some (.ref a)) := by rw [o3.2 i hi2]; exact hs
            have h4 := h3.drop i (some (.ref a))
            rw [show σ2.set i (some (.ref a)) = σ2 from List.ext_getElem? fun j => by
              by_cases z : i = j
              · subst z
                rw [hs2]
                exact List.getElem?_set_self (List.getElem?_eq_some_iff.mp hs2).1
              · exact List.getElem?_set_ne z] at h4
            have h5 := h4.show_ (i := i) hs2 k8 (set_none_get E2 i)
            rw [set_set'] at h5
            exact h5
theorem s_for {t : Tg} {it : PIt} (hK : X.K = g.K) (hc : X.calm = true) (hp : PassesOwn (model X.prog X.w) X.A X.env X.xe) (hi : PI X tg iter (tI g W (itVar it) fi)) (hg : PG X tg (tG X.K t)) (hb : PSs X body (tS g W vs f)) (hide : Bool) (hh : hide = true → ∀ i : Nat, itVar it = some i → i ∉ t.vars ++ vs)
    (hs : ∀ x, foldedSetIterable iter X.env x = pure x) : PS X (.For tg iter body [] pos) (tS g W (t.vars ++ vs) fun E S => (fi E S).st fun p => (forGo t f p.1 (loopE E it p.2.1 hide) p.2.2).mapE fun E' => backE E it p.2.1 hide E') := by
  refine QS.imp' (ps_for hp hc hi hg hb hs) fun De σ H ⟨C, E, S, ρ, hE, h⟩ => ?_
  refine ⟨Bx C, E, S, ρ, hE.st0, (st_post hE h).imp fun p _ hq J Ps H1 ρ1 e1 s1 w pins fr var => ?_⟩
  obtain ⟨C', L⟩ := loop_ok (vs := t.vars ++ vs) hE e1 s1 pins fr var hh
  obtain ⟨c1, c2, c3⟩ := L.same
  refine ⟨fun i m σ' H' => ∃ E' S' ρ', EnvS g C' NoY σ' H' E' S' ρ' ∧ Off (t.vars ++ vs) σ σ' ∧ i + m = p.1.length ∧ postS g W C De σ (t.vars ++ vs) ((forGo t f (p.1.drop i) E' S').mapE fun E' => backE E it p.2.1 hide E'),
    ⟨p.1.length, _, _, ρ1, L.start, Off.refl _ _, by omega, hq⟩, fun i m σ' H' ⟨E', S', ρ', h', o', hm, hq⟩ => ?_⟩
  obtain ⟨A, hA, hP, hL⟩ := L.src _ _ _ _ _ h'
  by_cases hlt : i < p.1.length
  · refine .inr ⟨w.go ρ' A H' i hP hlt, fun σ3 H3 => ∃ E3 S3 ρ3, EnvS g C' NoY σ3 H3 E3 S3 ρ3 ∧ Off (t.vars ++ vs) σ σ3 ∧ postS g W C De σ (t.vars ++ vs) ((forGo t f (p.1.drop (i + 1)) E3 S3).mapE fun E' => backE E it p.2.1 hide E'),
      fun σ3 H3 ⟨E3, S3, ρ3, h3, o3, q3⟩ => ⟨m - 1, by omega, E3, S3, ρ3, h3, o3, by omega, q3⟩, fun x H2 hy => ?_⟩
    obtain ⟨d, hd, hH, hr⟩ := w.yld ρ' A H' i x H2 hA hP hlt hy
    have e3 : Ext H' ρ' H2 ρ' := by
      rcases hH with rfl | ⟨T, ys, hT, rfl⟩
      · exact Ext.refl _ _
      · exact Ext.laid hT
    have s3 : StoR g H2 ρ' S' := by
      rcases hH with rfl | ⟨T, ys, hT, rfl⟩
      · exact h'.sto
      · exact h'.sto.laid hT
    have h3 := (h'.go e3 s3).no
    have hr2 : Rp g ρ' (Al ρ' (Bx C')) H2 x d := by
      rcases hL with z | z
      · exact hr.lf (lfs_get z hd)
      · exact hr.mono z
    have hdr : p.1.drop i = d :: p.1.drop (i + 1) := by
      have hd' : p.1[i] = d := by
        rw [List.getElem?_eq_getElem hlt] at hd; exact Option.some.inj hd
      rw [← hd']; exact List.drop_eq_getElem_cons hlt
    rw [hdr] at hq
    unfold forGo at hq
    cases hput : putT t d false E' with
    | none => rw [hput] at hq; exact hq.elim
    | some E2 =>
      rw [hput] at hq
      rw [hK]
      refine putT_ok t hput hr2 h3 (fun z => nomatch z) fun σ2 h4 o4 => ⟨C', E2, S', ρ', h4, ?_⟩
      have hq : postS g W C De σ (t.vars ++ vs) (RS.mapE (fun E' => backE E it p.2.1 hide E') (match f E2 S' with
        | .nx E2 S2 => forGo t f (p.1.drop (i + 1)) E2 S2
        | .ct E2 S2 => forGo t f (p.1.drop (i + 1)) E2 S2
        | .bk E2 S2 => .bk E2 S2
        | r => r)) := hq
      have ov : ∀ {σ3 : L2.St}, Off vs σ2 σ3 → Off (t.vars ++ vs) σ σ3 := fun o3 => (o'.trans (o4.trans o3)).mono fun i hi => (List.mem_append.mp hi).elim id id
      cases e : f E2 S' with
      | nx E3 S3 => rw [e] at hq; exact fun σ3 H3 ρ3 k3 o3 => ⟨E3, S3, ρ3, k3, ov o3, hq⟩
      | ct E3 S3 => rw [e] at hq; exact fun σ3 H3 ρ3 k3 o3 => ⟨E3, S3, ρ3, k3, ov o3, hq⟩
      | bk E3 S3 => rw [e] at hq; exact fun σ3 H3 ρ3 k3 o3 => hq σ3 H3 ρ3 (L.fin _ _ _ _ _ k3 (ov o3)) (ov o3)
      | rt d o S3 =>
        rw [e] at hq
        intro v H' ρ' G
        rw [c1, c2, c3] at G
        exact hq v H' ρ' G
      | ex c S3 =>
        rw [e] at hq
        intro σ' H' ρ' G
        rw [c2, c3] at G
        exact hq σ' H' ρ' G
      | bad => rw [e] at hq; exact hq
  · have hi' : i = p.1.length := by omega
    refine .inl ⟨by rw [hi']; exact w.stop ρ' A H' hP, ?_⟩
    rw [hi', List.drop_length] at hq
    exact hq σ' H' ρ' (L.fin _ _ _ _ _ h' o') o'
end
end Pz

set_option Elab.async false
set_option linter.all false
set_option autoImplicit false
set_option maxRecDepth 100000
set_option maxHeartbeats 1000000
/-! Pz, part S: the text is the program (by a look), expressions. -/
namespace Pz
open PySem PySem.Spec PyProof.Rows L2
structure Tb where
  fns : List (Str × Nat)
  gls : List Str
  cls : List Str
  bts : List Str
  hds : List Str
  lm : Bool
def glB (sc : Scope) (x : Str) : Bool := sc.names.lookup x == some .globalImplicit && !(x == ("__debug__" : Str)) && !(x == ("__name__" : Str))
def visB (sc : Scope) (x : Str) : Bool := sc.names.lookup x == some .local || sc.names.lookup x == some .cell || sc.names.lookup x == some .free
def slotB (N : List Str) (sc : Scope) (i : Nat) (x : Str) : Bool := N[i]? == some x && visB sc x && !(x == ("__debug__" : Str)) && !(x == ("__classdict__" : Str))
def conB : D → Const → Bool
  | .non, .none => true
  | .bl a, .bool b => a == b
  | .int a, .int b => a == b
  | .str a, .str b => a == b
  | _, _ => false
def plB (e : Expr) : Bool := match e with
  | .Slice .. => false
  | .Tuple .. => false
  | .Starred .. => false
  | _ => true
def notStar (e : Expr) : Bool := match e with
  | .Starred .. => false
  | _ => true
def notSet (e : Expr) : Bool := match e with
  | .Set .. => false
  | _ => true
def PXs.num : PXs → Nat
  | .nil => 0
  | .cons _ xs => xs.num + 1
def ownN (N : List Str) (own : List Nat) : List (Str × Nat) := own.map fun i => ((N[i]?).getD "", i)
/-- a block's scope -/
def blkB (N : List Str) (sc scope : Scope) (own : List Nat) : Bool :=
  decide (scope.kind = .function) && scope.names.all (fun y => scope.names.lookup y.1 == some y.2) && (ownN N own).all (fun p => N[p.2]? == some p.1)
    && scope.names.all (fun y => !(y.2 == .free) || (sc.names.lookup y.1 == some .cell || sc.names.lookup y.1 == some .free))
    && scope.names.all (fun y => !(y.2 == .local || y.2 == .cell) || ((ownN N own).map (·.1)).contains y.1 || !(N.contains y.1))
theorem blk_ok {N : List Str} {sc scope : Scope} {own : List Nat} (h : blkB N sc scope own = true) : BlkOk N sc scope (ownN N own) := by
  unfold blkB at h
  simp only [Bool.and_eq_true, decide_eq_true_eq, List.all_eq_true, Bool.or_eq_true, Bool.not_eq_true', beq_iff_eq] at h
  obtain ⟨⟨⟨⟨h1, h2⟩, h3⟩, h4⟩, h5⟩ := h
  refine ⟨h1, h2, h3, fun y hy e => ?_, fun y hy e => ?_⟩
  · rcases h4 y hy with z | z
    · rw [e] at z; cases z
    · exact z
  · rcases h5 y hy with (z | z) | z
    · rcases e with e | e <;> (rw [e] at z; cases z)
    · exact .inl (by simpa using z)
    · exact .inr (by simpa using z)
mutual
/-- targets -/
def mG (N : List Str) (sc scf : Scope) : Tg → Expr → Bool
  | .nm i, e => match e with
    | .Name x _ => N[i]? == some x && (sc.names.lookup x == some .local || (sc.names.lookup x == some .cell && scf.names.lookup x == some .cell))
    | _ => false
  | .tp ts, e => match e with
    | .Tuple es _ _ => mGs N sc scf ts es
    | _ => false
def mGs (N : List Str) (sc scf : Scope) : Tgs → List Expr → Bool
  | .nil, es => es.isEmpty
  | .cons t ts, es => match es with
    | e :: es => mG N sc scf t e && mGs N sc scf ts es
    | [] => false
end
def isTup (e : Expr) : Bool := match e with
  | .Tuple .. => true
  | _ => false
def lamSB0 (sc scope : Scope) : Bool := LamX.lamSB sc scope
mutual
def mE (N : List Str) : Tb → Scope → PX → Expr → Bool
  | T, sc, .var i, e => match e with
    | .Name x _ => slotB N sc i x
    | _ => false
  | T, sc, .con d, e => match e with
    | .Constant k _ _ => conB d k
    | _ => false
  | T, sc, .glo j, e => match e with
    | .Name x _ => glB sc x && T.gls[j]? == some x
    | _ => false
  | T, sc, .fnv _, _ => false
  | T, sc, .bin o a b, e => match e with
    | .BinOp l op r _ => opB o == op && mE N T sc a l && mE N T sc b r
    | _ => false
  | T, sc, .neg a, e => match e with
    | .UnaryOp .USub l _ => mE N T sc a l
    | _ => false
  | T, sc, .cmp o a b, e => match e with
    | .Compare l [op] [r] _ => opC o == op && mE N T sc a l && mE N T sc b r && !behindInMarks op r
    | _ => false
  | T, sc, .chn o o' a b c, e => match e with
    | .Compare l [op, op'] [r, r'] _ => opC o == op && opC o' == op' && mE N T sc a l && mE N T sc b r && mE N T sc c r' && !behindInMarks op' r'
    | _ => false
  | T, sc, .bop k xs, e => match e with
    | .BoolOp op (x :: es) _ => opK k == op && mEs N T sc xs (x :: es)
    | _ => false
  | T, sc, .not a, e => match e with
    | .UnaryOp .Not l _ => mE N T sc a l
    | _ => false
  | T, sc, .ife t a b, e => match e with
    | .IfExp t' a' b' _ => mE N T sc t t' && mE N T sc a a' && mE N T sc b b'
    | _ => false
  | T, sc, .call j xs, e => match e with
    | .Call (.Name x _) es [] _ => glB sc x && T.fns[j]? == some (x, xs.num) && mEs N T sc xs es
    | _ => false
  | T, sc, .calv _ _, _ => false
  | T, sc, .bi b xs, e => match e with
    | .Call (.Name x _) (y :: es) [] _ => x == Str.ofString (biN b) && glB sc x && T.bts.contains x && mEs N T sc xs (y :: es)
    | _ => false
  | T, sc, .isi a t, e => match e with
    | .Call (.Name f _) [l, .Name x _] [] _ => f == ("isinstance" : Str) && x == Str.ofString (tyS t) && glB sc f && glB sc x && T.bts.contains f && T.bts.contains x && mE N T sc a l
    | _ => false
  | T, sc, .ix a b, e => match e with
    | .Subscript l r _ => plB r && mE N T sc a l && mE N T sc b r
    | _ => false
  | T, sc, .sl a lo hi, e => match e with
    | .Subscript l (.Slice lo' hi' none _) _ => mE N T sc a l && mO N T sc lo lo' && mO N T sc hi hi'
    | _ => false
  | T, sc, .rev a, e => match e with
    | .Subscript l (.Slice none none (some (.UnaryOp .USub (.Constant (.int 1) _ _) _)) _) _ => mE N T sc a l
    | _ => false
  | T, sc, .tup xs, e => match e with
    | .Tuple es _ _ => mEs N T sc xs es
    | _ => false
  | T, sc, .lst xs, e => match e with
    | .List es _ => mEs N T sc xs es
    | _ => false
  | T, sc, .lam j a, e => match e with
    | .Call (.Name x _) [.Lambda ⟨[], [], none, [], [], none, []⟩ body scope _] [] _ => T.lm && glB sc x && T.hds[j]? == some x && lamSB0 sc scope && mE N { T with lm := false } scope a body
    | _ => false
  | T, sc, .cvr1 t a, e => match e with
    | .Call (.Name x _) [.Call (.Name r _) [y] [] _] [] _ => x == (if t then ("tuple" : Str) else ("list" : Str)) && r == ("range" : Str) && glB sc x && glB sc r && T.bts.contains x && T.bts.contains r && mE N T sc a y
    | _ => false
  | T, sc, .cvr2 t a b, e => match e with
    | .Call (.Name x _) [.Call (.Name r _) [y, z] [] _] [] _ => x == (if t then ("tuple" : Str) else ("list" : Str)) && r == ("range" : Str) && glB sc x && glB sc r && T.bts.contains x && T.bts.contains r && mE N T sc a y && mE N T sc b z
    | _ => false
  | T, sc, .lc own elt t it c, e => match e with
    | .ListComp el [⟨tg, iter, ifs, 0⟩] scope _ => blkB N sc scope own && decide (sc.kind = .function) && mG N (relS scope sc) scope t tg && t.vars.all (own.contains ·) && mI N T sc it iter tg && notSet iter && mC N T (relS scope sc) c ifs && mE N T (relS scope sc) elt el
    | _ => false
def mEs (N : List Str) : Tb → Scope → PXs → List Expr → Bool
  | T, sc, .nil, es => es.isEmpty
  | T, sc, .cons x xs, es => match es with
    | e :: es => mE N T sc x e && mEs N T sc xs es
    | [] => false
def mC (N : List Str) : Tb → Scope → PXs → List Expr → Bool
  | T, sc, .nil, es => es.isEmpty
  | T, sc, .cons x .nil, es => match es with
    | [e] => mE N T sc x e
    | _ => false
  | T, sc, .cons _ (.cons _ _), _ => false
def mO (N : List Str) : Tb → Scope → PXo → Option Expr → Bool
  | T, sc, .no, e => e.isNone
  | T, sc, .so x, e => match e with
    | some e => mE N T sc x e
    | none => false
def mI (N : List Str) : Tb → Scope → PIt → Expr → Expr → Bool
  | T, sc, .val x, e, _ => mE N T sc x e
  | T, sc, .rng1 a, e, _ => match e with
    | .Call (.Name f _) [x] [] _ => f == ("range" : Str) && glB sc f && T.bts.contains f && mE N T sc a x
    | _ => false
  | T, sc, .rng2 a b, e, _ => match e with
    | .Call (.Name f _) [x, y] [] _ => f == ("range" : Str) && glB sc f && T.bts.contains f && mE N T sc a x && mE N T sc b y
    | _ => false
  | T, sc, .zip a b, e, tg => match e with
    | .Call (.Name f _) [x, y] [] _ => f == ("zip" : Str) && glB sc f && T.bts.contains f && isTup tg && mE N T sc a x && mE N T sc b y
    | _ => false
  | T, sc, .enum a, e, tg => match e with
    | .Call (.Name f _) [x] [] _ => f == ("enumerate" : Str) && glB sc f && T.bts.contains f && isTup tg && mE N T sc a x
    | _ => false
end
/-- what the def h, that calls the lambda that it gets, makes of the lambda's reading -/
def TTh (g : Gx) (h : Hdl) : (XK → Hp → VK → Prop) → Hp → VK → Prop := fun tl H Q =>
  tl (fun cls dd H' => dd = none ∧ ∃ c d, cls = .ref (g.ca c) ∧ h.cs[c]? = some (some d) ∧ isCon d = true ∧ Q (conV d) H') H fun v H' => match h.ok with
    | some d => Q (conV d) H'
    | none => Q v H'
def HdlOk (g : Gx) (X : Cx) (x : Str) (h : Hdl) : Prop :=
  ∃ (a : Str) (f : Addr) (oc : Value) (od : Option Addr) (osl : Array (Option Value)) (pg : Arguments) (bg : List Stmt) (sg : Scope) (dV kV doc pm : Value) (an : Option Addr) (cdv ct : Value) (Ng : List Str),
    X.mg x = some (.ref f) ∧ PySem.W.keepIn X.K (.ref f) = true ∧ X.K.lookup f = some ⟨oc, od, .func (PySem.W.fnOf x x pg bg sg dV kV doc pm an cdv ct), osl⟩ ∧ PySem.W.codeIn X.K cdv x = true ∧
    L2.Binds X.K (PySem.W.fnOf x x pg bg sg dV kV doc pm an cdv ct) [a] [] ∧ FnScope Ng [a] sg ∧ Ng[0]? = some a ∧ Vis sg a ∧ (a == ("__debug__" : Str)) = false ∧ (a == ("__classdict__" : Str)) = false ∧
    (∀ (c : Nat) (d : D), h.cs[c]? = some (some d) → isCon d = true) ∧ (∀ d : D, h.ok = some d → isCon d = true) ∧ ∀ q, LamX.GivesTo X Ng x sg f cdv bg a q (TTh g h)
/-- what a context has of the module -/
structure GOk (g : Gx) (T : Tb) (gl : Gv) (cf : CF) (n : Nat) (X : Cx) : Prop where
  hK : X.K = g.K
  calm : X.calm = true
  room : Room (3 * n) X.A
  lroom : T.lm = true → Room (3 * n + 2) X.A
  fn : ∀ (j : Nat) (x : Str) (a : Nat), T.fns[j]? = some (x, a) → ∃ (f : Addr) (fd : FuncData) (ps : List Str), ps.length = a ∧ X.mg x = some (.ref f) ∧ PySem.W.keepIn X.K (.ref f) = true ∧ L2.Binds X.K fd ps [] ∧
    FnOk X.prog X.w X.K X.mg X.base (L2.CX X.prog X.w) (3 * n) f fd ps (spF g ps.length (cf j))
  bt : ∀ x ∈ T.bts, X.mg x = none
  gv : ∀ (j : Nat) (x : Str), T.gls[j]? = some x → ∃ (v : V) (u : Value) (d : D), X.mg x = some u ∧ RelV v u ∧ gl.vals[j]? = some d ∧ ∀ ρ A H, Rp g ρ A H v d
  cl : ∀ (c : Nat) (x : Str), T.cls[c]? = some x → ∃ (B newId initId : String) (bmB : List Value), ExcBaseFacts B newId initId bmB ∧ PySem.W.excIn X.K (g.ca c) bmB newId = true ∧ X.mg x = some (.ref (g.ca c)) ∧ PySem.W.keepIn X.K (.ref (g.ca c)) = true ∧ Raises X (.ref (g.ca c))
  hd : T.lm = true → ∀ (j : Nat) (x : Str), T.hds[j]? = some x → ∃ h, gl.hds[j]? = some h ∧ HdlOk g X x h
  lam : T.lm = true → ∃ (c P : Addr), X.env.code = .ref c ∧ LamX.TabB X.base X.mg c P ∧ (P, X.env.qual ++ "<lambda>") ∈ g.T ∧ ∀ p ∈ g.T, p.1 = P → p.2 = X.env.qual ++ "<lambda>"
  nd : X.N.Nodup
theorem GOk.hu {g : Gx} {T : Tb} {gl : Gv} {cf : CF} {n : Nat} {X : Cx} (h : GOk g T gl cf n X) : X.A.units + 65 < cLine := by
  have := h.room.un
  omega
theorem GOk.blk {g : Gx} {T : Tb} {gl : Gv} {cf : CF} {n : Nat} {X : Cx} (h : GOk g T gl cf n X) (s : Shared) (H : Hp) (scope : Scope) (cl : List (Str × Addr)) (Ca : Addr) (fp : List Addr) : GOk g T gl cf n (X.blk s H scope (compEnvC scope cl Ca X.env) fp) := ⟨h.hK, h.calm, h.room, h.lroom, h.fn, h.bt, h.gv, h.cl, fun e j x hx => let ⟨h', k1, k2⟩ := h.hd e j x hx; ⟨h', k1, by unfold HdlOk at k2 ⊢; exact k2⟩, h.lam, h.nd⟩
end Pz

set_option Elab.async false
set_option linter.all false
set_option autoImplicit false
set_option maxRecDepth 100000
set_option maxHeartbeats 1000000
/-! Pz, part T: a look is enough, expressions. -/
namespace Pz
open PySem PySem.Spec PyProof.Rows L2
section
variable {g : Gx} {T : Tb} {gl : Gv} {cf : CF} {n : Nat}
/-- what is needed of a context -/
structure COk (g : Gx) (T : Tb) (gl : Gv) (cf : CF) (n : Nat) (X : Cx) (W : WX) (N : List Str) (sc scf : Scope) : Prop where
  G : GOk g T gl cf n X
  tk : Takes X W
  scE : X.env.scope = sc
  N : X.N = N
  fn : ∀ x, scf.names.lookup x = some .cell → X.fn x = true
variable {X : Cx} {W : WX} {N : List Str} {sc scf : Scope}
theorem slot_of (C : COk g T gl cf n X W N sc scf) {i : Nat} {x : Str} (h : slotB N sc i x = true) : X.N[i]? = some x ∧ Vis X.env.scope x ∧ (x == ("__debug__" : Str)) = false ∧ (x == ("__classdict__" : Str)) = false := by
  unfold slotB visB at h
  simp only [Bool.and_eq_true, beq_iff_eq, Bool.or_eq_true, Bool.not_eq_true'] at h
  obtain ⟨⟨⟨h1, h2⟩, h3⟩, h4⟩ := h
  rw [C.N, C.scE]
  refine ⟨h1, ?_, h3, h4⟩
  rcases h2 with (h | h) | h
  · exact .inl h
  · exact .inr (.inl h)
  · exact .inr (.inr h)
theorem gl_of (C : COk g T gl cf n X W N sc scf) {x : Str} (h : glB sc x = true) : Gl X x ∧ (x == ("__debug__" : Str)) = false ∧ x ≠ "__name__" := by
  unfold glB at h
  simp only [Bool.and_eq_true, beq_iff_eq, Bool.not_eq_true'] at h
  obtain ⟨⟨h1, h2⟩, h3⟩ := h
  refine ⟨?_, h2, by simpa using h3⟩
  show X.env.scope.names.lookup x = _
  rw [C.scE]; exact h1
theorem mem_of_contains {xs : List Str} {x : Str} (h : xs.contains x = true) : x ∈ xs := by simpa using h
theorem star_cons {e : Expr} {es : List Expr} {env : PySem.Env} (h : notStar e = true) : starEach (e :: es) env = (false, eval e env) :: starEach es env := by
  cases e <;> first | rfl | cases h
theorem star_all (env : PySem.Env) : ∀ (es : List Expr), es.all notStar = true → (starEach es env).all (fun x => !x.1) = true
  | [], _ => rfl
  | e :: es, h => by
    rw [List.all_cons, Bool.and_eq_true] at h
    rw [star_cons h.1, List.all_cons, star_all env es h.2]; rfl
theorem backTo_any (pos : Pos) : ∀ (es : List (Bool × Sem Value)), es.all (fun x => !x.1) = true → (backTo pos es).any (·.1) = false ∧ (backTo pos es).all (fun x => !x.1) = true
  | [], _ => ⟨rfl, rfl⟩
  | (b, t) :: es, h => by
    rw [List.all_cons, Bool.and_eq_true] at h
    obtain ⟨h1, h2⟩ := backTo_any pos es h.2
    cases b with
    | true => cases h.1
    | false => exact ⟨by show (false || (backTo pos es).any (·.1)) = false; rw [h1]; rfl, by show (true && (backTo pos es).all _) = true; rw [h2]; rfl⟩
theorem plainIx {e : Expr} (h : plB e = true) : PlainIx e := by
  cases e <;> first | (intro o i; rfl) | cases h
theorem fs_of {e : Expr} {env : PySem.Env} (h : notSet e = true) : ∀ x, foldedSetIterable e env x = pure x := by
  cases e <;> first | (intro x; rfl) | cases h
theorem isTup_of {e : Expr} (h : isTup e = true) : ∃ es k p, e = .Tuple es k p := by
  cases e <;> first | exact ⟨_, _, _, rfl⟩ | cases h
theorem evs_len : ∀ (xs : PXs) (E : Env) (S : Sto) (p : List (D × Bool) × Sto), evs cf gl xs E S = .ok p → p.1.length = xs.num
  | .nil, E, S, p, h => by cases h; rfl
  | .cons x xs, E, S, p, h => by
    unfold evs at h
    cases e : ev cf gl x E S with
    | ex c S' => rw [e] at h; cases h
    | bad => rw [e] at h; cases h
    | ok q =>
      rw [e] at h
      rw [Pz.R.bind_ok] at h
      cases e2 : evs cf gl xs E q.2.2 with
      | ex c S' => rw [e2] at h; cases h
      | bad => rw [e2] at h; cases h
      | ok r =>
        rw [e2] at h
        cases h
        show r.1.length + 1 = xs.num + 1
        rw [evs_len xs E q.2.2 r e2]
theorem boot_bi (b : Bi) : bootBuiltins (Str.ofString (biN b)) = some (biF b) := by cases b <;> decide +kernel
theorem conB_of {d : D} {k : Const} (h : conB d k = true) : ∃ v : V, (∀ X : Cx, ∀ (j : Nat) (p : Pos), True) ∧ (∀ (X : Cx) {j p}, PE X (.Constant k j p) (tC v)) ∧ ∀ ρ A H, Rp g ρ A H v d := by
  cases d <;> cases k <;> first | (cases h; done) | skip
  · exact ⟨.non, fun _ _ _ => trivial, fun X => pe_non, fun _ _ _ => .non⟩
  · rename_i a b
    have e : a = b := by simpa [conB] using h
    subst e
    exact ⟨.bl _, fun _ _ _ => trivial, fun X => pe_bl, fun _ _ _ => .bl _⟩
  · rename_i a b
    have e : a = b := by simpa [conB] using h
    subst e
    exact ⟨.int _, fun _ _ _ => trivial, fun X => pe_int, fun _ _ _ => .int _⟩
  · rename_i a b
    have e : a = b := by simpa [conB] using h
    subst e
    exact ⟨.str _, fun _ _ _ => trivial, fun X => pe_str, fun _ _ _ => .str _⟩
abbrev Both (g : Gx) (X : Cx) (W : WX) (e : Expr) (f : FE (D × Bool × Sto)) : Prop := PE X e (tE g W f) ∧ PT X e (tT g W (evT f))
theorem both {e : Expr} {f : FE (D × Bool × Sto)} (hK : X.K = g.K) (he : PE X e (tE g W f)) (hp : ∀ whole, isTrue e X.env whole = (do let v ← whole; standAt e.pos; holding [v] (truthy v))) : Both g X W e f := ⟨he, t_plain hK he hp⟩
theorem own_map (N : List Str) (own : List Nat) : (ownN N own).map (·.2) = own := by
  unfold ownN
  rw [List.map_map]
  exact List.map_id'' (fun _ => rfl) own
theorem cok_blk (C : COk g T gl cf n X W N sc scf) (scope : Scope) (s : Shared) (H : Hp) (Ca : Addr) (cl : List (Str × Addr)) (fp : List Addr) : COk g T gl cf n (X.blk s H scope (compEnvC scope cl Ca X.env) fp) W0 N (relS scope sc) scope where
  G := C.G.blk s H scope cl Ca fp
  tk := fun _ _ ⟨_, _, _, _, _, _, _, _, _, _, _, _, _, _, _, _, w⟩ => w.elim
  scE := by
    show relabel scope X.env = relS scope sc
    unfold relabel relS Env.kindOf
    rw [C.scE]
  N := C.N
  fn := fun x h => by
    show (scope.names.lookup x == some .cell) = true
    rw [h]; rfl
mutual
theorem sG (C : COk g T gl cf n X W N sc scf) : ∀ (t : Tg) {e : Expr}, mG N sc scf t e = true → PG X e (tG X.K t)
  | .nm i, e, h => by
    cases e <;> first | (cases h; done) | skip
    rename_i x _
    unfold mG at h
    simp only [Bool.and_eq_true, beq_iff_eq, Bool.or_eq_true] at h
    obtain ⟨h1, h2⟩ := h
    rw [← C.N] at h1
    rcases h2 with z | ⟨z1, z2⟩
    · exact pg_name C.G.nd h1 (.inl (by rw [C.scE]; exact z)) (.inr (by rw [C.scE]; exact z))
    · exact pg_name C.G.nd h1 (.inr (by rw [C.scE]; exact z1)) (.inl (C.fn x z2))
  | .tp ts, e, h => by
    cases e <;> first | (cases h; done) | skip
    unfold mG at h
    obtain ⟨h1, h2, h3, _⟩ := sGs C ts h
    exact pg_tup C.G.calm h1 h2 h3
theorem sGs (C : COk g T gl cf n X W N sc scf) : ∀ (ts : Tgs) {es : List Expr}, mGs N sc scf ts es = true → PGs X es (tGs X.K ts) ∧ (assignEach es X.env).length = ts.num ∧ (assignEach es X.env).findIdx? (·.1) = none ∧ True
  | .nil, es, h => by
    cases es with
    | nil => exact ⟨pgs_nil, rfl, rfl, trivial⟩
    | cons _ _ => cases h
  | .cons t ts, es, h => by
    cases es with
    | nil => cases h
    | cons e es =>
      unfold mGs at h
      rw [Bool.and_eq_true] at h
      obtain ⟨h1, h2, h3, _⟩ := sGs C ts h.2
      have hs : notStar e = true := by
        cases e <;> first | rfl | skip
        cases t <;> exact absurd h.1 (by simp [mG])
      have e1 : assignEach (e :: es) X.env = (false, assign e X.env) :: assignEach es X.env := by
        cases e <;> first | rfl | cases hs
      refine ⟨pgs_cons (sG C t h.1) h1 (by rw [e1]; rfl), by rw [e1, List.length_cons, h2]; rfl, ?_, trivial⟩
      rw [e1, List.findIdx?_cons]
      rw [h3]; rfl
end
theorem bt_of (C : COk g T gl cf n X W N sc scf) {x : Str} (h : T.bts.contains x = true) : X.mg x = none := C.G.bt x (mem_of_contains h)
theorem mE_star : ∀ (px : PX) {e : Expr}, mE N T sc px e = true → notStar e = true := by
  intro px e h
  cases e <;> first | rfl | skip
  cases px <;> exact absurd h (by simp [mE])
theorem mE_set : ∀ (px : PX) {e : Expr}, mE N T sc px e = true → notSet e = true := by
  intro px e h
  cases e <;> first | rfl | skip
  cases px <;> exact absurd h (by simp [mE])

theorem StoR.lam {H H1 : Hp} {ρ : List Addr} {S : Sto} (s : StoR g H ρ S) (e : LamX.ExtN H H1) (t : LamX.Tabs g.T H1) : Ext H ρ H1 ρ ∧ StoR g H1 ρ S := by
  have x : Ext H ρ H1 ρ :=
    { keep := fun a o h _ ht => e a o h ht
      tup := fun a xs h => e a _ h fun _ z => nomatch z
      frz := fun a o u h => e a _ h fun _ z => nomatch z
      dom := fun a h o ho => by
        by_cases q : ∃ ps, o = .tbl ps
        · exact q
        · exact h o (e a o ho fun ps z => q ⟨ps, z⟩)
      pre := List.prefix_refl _
      new := fun _ h n => absurd h n }
  refine ⟨x, s.go x rfl (fun a ha => ?_) t⟩
  obtain ⟨k, hk, e2⟩ := List.mem_iff_getElem.mp ha
  obtain ⟨xs, ds, h1, _⟩ := s.at_ k a (by rw [List.getElem?_eq_getElem hk, e2])
  rw [h1]
  exact e a _ h1 fun _ z => nomatch z
/-- h(lambda: ..) -/
theorem e_lam {X : Cx} {W : WX} {sc scf : Scope} {x : Str} {j : Nat} {b : Expr} {scope : Scope} {p lpos pos : Pos} {fa : FE (D × Bool × Sto)} (C : COk g T gl cf n X W N sc scf) (h1 : T.lm = true) (h2 : glB sc x = true) (h3 : T.hds[j]? = some x) (h4 : lamSB0 sc scope = true)
    (hb : ∀ {X' : Cx} {W' : WX}, COk g { T with lm := false } gl cf n X' W' N scope { scope with names := [] } → PE X' b (tE g W' fa)) :
    PE X (.Call (.Name x p) [.Lambda ⟨[], [], none, [], [], none, []⟩ b scope lpos] [] pos) (tE g W fun E S => lamEv gl.hds j (fa E S)) := by
  obtain ⟨g1, g2, g3⟩ := gl_of C h2
  obtain ⟨h, k0, a, f, oc, od, osl, pg, bg, sg, dV, kV, doc, pm, an, cdv, ct, Ng, k1, k2, k3, k4, k5, k6, k7, k8, k9, k10, k11, k12, k13⟩ := C.G.hd h1 j x h3
  obtain ⟨c, P, l1, l2, l3, l4⟩ := C.G.lam h1
  have L : LamX.LamS X.env.scope scope := by rw [C.scE]; exact LamX.lamS_by h4
  refine PE.imp (LamX.pe_lamcall (TT := TTh g h) (T := g.T) (t := fun E => tE g (fun cls d _ H => E cls d H) fa) (k := 3 * n) g1 k1 k2 k3 k4 k5 k6 k7 k8 (k13 _) l2 l1 l3 l4 (C.G.lroom h1) L rfl (fun _ _ _ _ _ => rfl) (fun A outer s H E f' c' hr => ?_) g2 k9 k10) fun σ H Q q => ?_
  · exact hb ⟨⟨C.G.hK, rfl, hr, (fun z => nomatch z), C.G.fn, C.G.bt, C.G.gv, C.G.cl, (fun z => nomatch z), (fun z => nomatch z), C.G.nd⟩, fun u s' x => by
      exact XE.leave (W := fun cls d _ H => E cls d H) (E := E) rfl rfl rfl (fun _ _ _ _ h => h) x, rfl, C.N, (fun y hy => nomatch hy)⟩
  · obtain ⟨B, E, S, ρ, s0, q⟩ := q
    refine ⟨s0.sto.tab, fun H1 eN T1 => ?_⟩
    obtain ⟨x1, s1⟩ := s0.sto.lam eN T1
    refine ⟨B, E, S, ρ, s0.go x1 s1, ?_⟩
    unfold lamEv at q
    rw [k0] at q
    dsimp only at q
    cases e : fa E S with
    | bad => rw [e] at q; exact q
    | ex c S' =>
      rw [e] at q
      dsimp only at q
      intro H2 ρ2 e2 s2
      cases e3 : h.cs[c]? with
      | none => rw [e3] at q; exact q.elim
      | some u =>
        cases u with
        | none => rw [e3] at q; exact q.elim
        | some d =>
          rw [e3] at q
          have hc := k11 c d e3
          exact ⟨rfl, c, d, rfl, e3, hc, q (conV d) H2 ρ2 ⟨x1.trans e2, s2, .con hc, fun z => nomatch z⟩⟩
    | ok r =>
      rw [e] at q
      dsimp only at q
      intro v H2 ρ2 G2
      cases e3 : h.ok with
      | none =>
        rw [e3] at q
        exact q v H2 ρ2 (G2.base x1)
      | some d =>
        rw [e3] at q
        have hc := k12 d e3
        exact q (conV d) H2 ρ2 ⟨x1.trans G2.ext, G2.sto, .con hc, fun z => nomatch z⟩
mutual
theorem sE : ∀ (px : PX) {T : Tb} {X : Cx} {W : WX} {sc scf : Scope} {e : Expr}, COk g T gl cf n X W N sc scf → mE N T sc px e = true → Both g X W e (ev cf gl px)
  | .var i, T, X, W, sc, scf, e, C, h => by
    cases e <;> first | (cases h; done) | skip
    unfold mE at h
    obtain ⟨h1, h2, h3, h4⟩ := slot_of C h
    exact both C.G.hK (e_var h1 h2 h3 h4) fun _ => rfl
  | .con d, T, X, W, sc, scf, e, C, h => by
    cases e <;> first | (cases h; done) | skip
    unfold mE at h
    obtain ⟨v, _, h1, h2⟩ := conB_of (g := g) h
    exact both C.G.hK (e_con (h1 X) h2) fun _ => rfl
  | .glo j, T, X, W, sc, scf, e, C, h => by
    cases e <;> first | (cases h; done) | skip
    rename_i x p
    unfold mE at h
    simp only [Bool.and_eq_true, beq_iff_eq] at h
    obtain ⟨h1, h2, h3⟩ := gl_of C h.1
    obtain ⟨v, u, d, k1, k2, k3, k4⟩ := C.G.gv j x h.2
    refine both C.G.hK (PE.imp (e_con (W := W) (pe_glob h1 k1 k2 h2) k4) fun σ H Q ⟨B, E, S, ρ, s0, q⟩ => ⟨B, E, S, ρ, s0, ?_⟩) fun _ => rfl
    have e : ev cf gl (.glo j) E S = .ok (d, false, S) := by
      show (match gl.vals[j]? with | some d => R.ok (d, false, S) | none => .bad) = _
      rw [k3]
    rw [e] at q
    exact q
  | .fnv _, T, X, W, sc, scf, e, C, h => by simp [mE] at h
  | .bin o a b, T, X, W, sc, scf, e, C, h => by
    cases e <;> first | (cases h; done) | skip
    unfold mE at h
    simp only [Bool.and_eq_true, beq_iff_eq] at h
    obtain ⟨⟨h1, h2⟩, h3⟩ := h
    subst h1
    exact both C.G.hK (e_bin (op_bin C.G.hK o) (sE a C h2).1 (sE b C h3).1) fun _ => rfl
  | .neg a, T, X, W, sc, scf, e, C, h => by
    unfold mE at h
    split at h
    · exact both C.G.hK (e_neg (sE a C h).1) fun _ => rfl
    · cases h
  | .cmp o a b, T, X, W, sc, scf, e, C, h => by
    unfold mE at h
    split at h
    · simp only [Bool.and_eq_true, beq_iff_eq, Bool.not_eq_true'] at h
      obtain ⟨⟨⟨h1, h2⟩, h3⟩, h4⟩ := h
      subst h1
      exact ⟨e_cmp (op_cmp C.G.hK C.G.hu o) (sE a C h2).1 (sE b C h3).1 h4, t_cmp (op_cmp C.G.hK C.G.hu o) (sE a C h2).1 (sE b C h3).1 h4⟩
    · cases h
  | .chn o o' a b c, T, X, W, sc, scf, e, C, h => by
    unfold mE at h
    split at h
    · simp only [Bool.and_eq_true, beq_iff_eq, Bool.not_eq_true'] at h
      obtain ⟨⟨⟨⟨⟨h1, h2⟩, h3⟩, h4⟩, h5⟩, h6⟩ := h
      subst h1
      subst h2
      exact ⟨e_chn (op_cmp C.G.hK C.G.hu o) (op_cmp C.G.hK C.G.hu o') (sE a C h3).1 (sE b C h4).1 (sE c C h5).1 h6, t_chn (op_cmp C.G.hK C.G.hu o) (op_cmp C.G.hK C.G.hu o') (sE a C h3).1 (sE b C h4).1 (sE c C h5).1 h6⟩
    · cases h
  | .bop k xs, T, X, W, sc, scf, e, C, h => by
    unfold mE at h
    split at h
    · simp only [Bool.and_eq_true, beq_iff_eq] at h
      obtain ⟨h1, h2⟩ := h
      subst h1
      obtain ⟨k1, k2⟩ := sB xs k C h2 rfl
      exact ⟨k1, k2.pt⟩
    · cases h
  | .not a, T, X, W, sc, scf, e, C, h => by
    unfold mE at h
    split at h
    · exact ⟨e_not C.G.hK (sE a C h).1, t_not (sE a C h).2⟩
    · cases h
  | .ife t a b, T, X, W, sc, scf, e, C, h => by
    cases e <;> first | (cases h; done) | skip
    unfold mE at h
    simp only [Bool.and_eq_true] at h
    obtain ⟨⟨h1, h2⟩, h3⟩ := h
    exact ⟨e_ife (sE t C h1).2 (sE a C h2).1 (sE b C h3).1, t_ife (sE t C h1).2 (sE a C h2).2 (sE b C h3).2⟩
  | .call j xs, T, X, W, sc, scf, e, C, h => by
    unfold mE at h
    split at h
    · simp only [Bool.and_eq_true, beq_iff_eq] at h
      obtain ⟨⟨h1, h2⟩, h3⟩ := h
      obtain ⟨g1, g2, g3⟩ := gl_of C h1
      obtain ⟨f, fd, ps, k1, k2, k3, k4, k6⟩ := C.G.fn j _ _ h2
      have k5 := C.G.room
      obtain ⟨s1, s2⟩ := sEs xs C h3
      refine both C.G.hK ?_ fun _ => rfl
      rename_i es _
      cases es with
      | nil =>
        cases xs with
        | nil => exact e_call0 k6 k5 g1 k2 k3 k4 C.tk k1 g2
        | cons _ _ => cases h3
      | cons y es =>
        have hs := List.all_cons ▸ s2
        rw [Bool.and_eq_true] at hs
        exact e_call k6 k5 g1 k2 k3 k4 C.tk s1 (fun E S p q => by rw [evs_len xs E S p q, k1]) g2 (star_cons hs.1) (backTo_any _ _ (star_all _ es hs.2)).1
    · cases h
  | .calv _ _, T, X, W, sc, scf, e, C, h => by simp [mE] at h
  | .bi b xs, T, X, W, sc, scf, e, C, h => by
    unfold mE at h
    split at h
    · simp only [Bool.and_eq_true, beq_iff_eq] at h
      obtain ⟨⟨⟨h1, h2⟩, h3⟩, h4⟩ := h
      subst h1
      obtain ⟨g1, g2, g3⟩ := gl_of C h2
      obtain ⟨s1, s2⟩ := sEs xs C h4
      have hs := List.all_cons ▸ s2
      rw [Bool.and_eq_true] at hs
      exact both C.G.hK (e_bi C.G.hK C.G.calm b g1 (bt_of C h3) (boot_bi b) s1 g3 g2 (star_cons hs.1) (backTo_any _ _ (star_all _ _ hs.2)).1) fun _ => rfl
    · cases h
  | .isi a t, T, X, W, sc, scf, e, C, h => by
    unfold mE at h
    split at h
    · simp only [Bool.and_eq_true, beq_iff_eq] at h
      obtain ⟨⟨⟨⟨⟨⟨h1, h2⟩, h3⟩, h4⟩, h5⟩, h6⟩, h7⟩ := h
      subst h1
      subst h2
      exact both C.G.hK (e_isi C.G.hK t (sE a C h7).1 (gl_of C h3).1 (bt_of C h5) (gl_of C h4).1 (bt_of C h6) (star_cons (mE_star a h7))) fun _ => rfl
    · cases h
  | .ix a b, T, X, W, sc, scf, e, C, h => by
    cases e <;> first | (cases h; done) | skip
    unfold mE at h
    simp only [Bool.and_eq_true] at h
    obtain ⟨⟨h1, h2⟩, h3⟩ := h
    exact both C.G.hK (e_ix C.G.hK (sE a C h2).1 (sE b C h3).1 (plainIx h1)) fun _ => rfl
  | .sl a lo hi, T, X, W, sc, scf, e, C, h => by
    unfold mE at h
    split at h
    · simp only [Bool.and_eq_true] at h
      obtain ⟨⟨h1, h2⟩, h3⟩ := h
      exact both C.G.hK (e_sl C.G.hK (sE a C h1).1 (sO lo C h2) (sO hi C h3)) fun _ => rfl
    · cases h
  | .rev a, T, X, W, sc, scf, e, C, h => by
    unfold mE at h
    split at h
    · exact both C.G.hK (e_rev C.G.hK (sE a C h).1) fun _ => rfl
    · cases h
  | .tup xs, T, X, W, sc, scf, e, C, h => by
    cases e <;> first | (cases h; done) | skip
    unfold mE at h
    exact both C.G.hK (e_tup (sEs xs C h).1) fun _ => rfl
  | .lst xs, T, X, W, sc, scf, e, C, h => by
    cases e <;> first | (cases h; done) | skip
    unfold mE at h
    exact both C.G.hK (e_lst (sEs xs C h).1) fun _ => rfl
  | .lc own elt t it c, T, X, W, sc, scf, e, C, h => by
    unfold mE at h
    split at h
    · simp only [Bool.and_eq_true, decide_eq_true_eq] at h
      obtain ⟨⟨⟨⟨⟨⟨⟨h1, h2⟩, h3⟩, h4⟩, h5⟩, h6⟩, h7⟩, h8⟩ := h
      have hb := blk_ok h1
      rw [← C.N, ← C.scE] at hb
      have e1 : (ownN X.N own).map (·.2) = own := own_map _ _
      refine both C.G.hK ?_ fun _ => rfl
      have := e_lc (t := t) (W := W) (pos := ‹Pos›) C.G.hK C.G.calm C.G.nd (sI it C h5) hb (fun s H Ca cl fp => sG (cok_blk C _ s H Ca cl fp) t h3) (fun s H Ca cl fp => sC c (cok_blk C _ s H Ca cl fp) h7) (fun s H Ca cl fp => (sE elt (cok_blk C _ s H Ca cl fp) h8).1) (fun i hi => by
        rw [e1]
        have := List.all_eq_true.mp h4 i hi
        simpa using this) (fs_of h6)
      rw [e1] at this
      exact this
    · cases h
  | .cvr1 t a, T, X, W, sc, scf, e, C, h => by
    unfold mE at h
    split at h
    · simp only [Bool.and_eq_true] at h
      obtain ⟨⟨⟨⟨⟨⟨h1, h2⟩, h3⟩, h4⟩, h5⟩, h6⟩, h7⟩ := h
      have h1 := eq_of_beq h1
      have h2 := eq_of_beq h2
      subst h2
      exact both C.G.hK (e_cvr1 C.G.calm h1 (gl_of C h3).1 (bt_of C h5) (gl_of C h4).1 (bt_of C h6) (star_cons (mE_star a h7)) (sE a C h7).1) fun _ => rfl
    · cases h
  | .cvr2 t a b, T, X, W, sc, scf, e, C, h => by
    unfold mE at h
    split at h
    · simp only [Bool.and_eq_true] at h
      obtain ⟨⟨⟨⟨⟨⟨⟨h1, h2⟩, h3⟩, h4⟩, h5⟩, h6⟩, h7⟩, h8⟩ := h
      have h1 := eq_of_beq h1
      have h2 := eq_of_beq h2
      subst h2
      exact both C.G.hK (e_cvr2 C.G.calm h1 (gl_of C h3).1 (bt_of C h5) (gl_of C h4).1 (bt_of C h6) (star_cons (mE_star a h7)) (star_cons (mE_star b h8)) (backTo_any _ _ (star_all _ [_] (by rw [List.all_cons, mE_star b h8]; rfl))).1 (sE a C h7).1 (sE b C h8).1) fun _ => rfl
    · cases h
  | .lam j a, T, X, W, sc, scf, e, C, h => by
    unfold mE at h
    split at h
    · simp only [Bool.and_eq_true, beq_iff_eq] at h
      obtain ⟨⟨⟨⟨h1, h2⟩, h3⟩, h4⟩, h5⟩ := h
      refine both C.G.hK ?_ fun _ => rfl
      exact e_lam C h1 h2 h3 h4 fun {X' W'} C' => (sE a C' h5).1
    · cases h
theorem sEs : ∀ (xs : PXs) {T : Tb} {X : Cx} {W : WX} {sc scf : Scope} {es : List Expr}, COk g T gl cf n X W N sc scf → mEs N T sc xs es = true → PA X es (tA g W (evs cf gl xs)) ∧ es.all notStar = true
  | .nil, T, X, W, sc, scf, es, C, h => by
    cases es with
    | nil => exact ⟨a_nil, rfl⟩
    | cons _ _ => cases h
  | .cons x xs, T, X, W, sc, scf, es, C, h => by
    cases es with
    | nil => cases h
    | cons e es =>
      unfold mEs at h
      rw [Bool.and_eq_true] at h
      obtain ⟨s1, s2⟩ := sEs xs C h.2
      have hs := mE_star x h.1
      exact ⟨a_cons (star_cons hs) (sE x C h.1).1 s1, by rw [List.all_cons, hs, s2]; rfl⟩
theorem sB : ∀ (xs : PXs) (k : Bool) {T : Tb} {X : Cx} {W : WX} {sc scf : Scope} {es : List Expr} {pos : Pos}, COk g T gl cf n X W N sc scf → mEs N T sc xs es = true → es.isEmpty = false →
    PE X (.BoolOp (opK k) es pos) (tE g W (evB cf gl k xs)) ∧ PW X (.BoolOp (opK k) es pos) (tT g W (evT (evB cf gl k xs)))
  | .nil, k, T, X, W, sc, scf, es, pos, C, h, hn => by
    cases es with
    | nil => cases hn
    | cons _ _ => cases h
  | .cons x .nil, k, T, X, W, sc, scf, es, pos, C, h, hn => by
    cases es with
    | nil => cases hn
    | cons e es =>
      unfold mEs at h
      rw [Bool.and_eq_true] at h
      cases es with
      | nil => exact ⟨pe_one (sE x C h.1).1, bt_one k (sE x C h.1).2⟩
      | cons _ _ => cases h.2
  | .cons x (.cons y ys), k, T, X, W, sc, scf, es, pos, C, h, hn => by
    cases es with
    | nil => cases hn
    | cons e es =>
      unfold mEs at h
      rw [Bool.and_eq_true] at h
      cases es with
      | nil => cases h.2
      | cons e2 es =>
        obtain ⟨k1, k2⟩ := sB (.cons y ys) k (pos := pos) C h.2 rfl
        exact ⟨b_cons C.G.hK k (sE x C h.1).1 k1, bt_cons k (sE x C h.1).2 k2⟩
theorem sC : ∀ (xs : PXs) {T : Tb} {X : Cx} {W : WX} {sc scf : Scope} {es : List Expr}, COk g T gl cf n X W N sc scf → mC N T sc xs es = true → PTs X es (tT g W (evC cf gl xs))
  | .nil, T, X, W, sc, scf, es, C, h => by
    cases es with
    | nil => exact ts_nil
    | cons _ _ => cases h
  | .cons x .nil, T, X, W, sc, scf, es, C, h => by
    unfold mC at h
    split at h
    · exact pts_one (sE x C h).2
    · cases h
  | .cons x (.cons y ys), T, X, W, sc, scf, es, C, h => by simp [mC] at h
theorem sO : ∀ (xo : PXo) {T : Tb} {X : Cx} {W : WX} {sc scf : Scope} {e : Option Expr}, COk g T gl cf n X W N sc scf → mO N T sc xo e = true → PO X e (tO g W (evo cf gl xo))
  | .no, T, X, W, sc, scf, e, C, h => by
    cases e with
    | none => exact o_no
    | some _ => cases h
  | .so x, T, X, W, sc, scf, e, C, h => by
    cases e with
    | none => cases h
    | some e =>
      unfold mO at h
      exact o_so (sE x C h).1
theorem sI : ∀ (it : PIt) {T : Tb} {X : Cx} {W : WX} {sc scf : Scope} {e tg : Expr}, COk g T gl cf n X W N sc scf → mI N T sc it e tg = true → PI X tg e (tI g W (itVar it) (evi cf gl it))
  | .val x, T, X, W, sc, scf, e, tg, C, h => by
    unfold mI at h
    cases x with
    | var i =>
      cases e <;> first | (cases h; done) | skip
      unfold mE at h
      obtain ⟨h1, h2, h3, h4⟩ := slot_of C h
      exact i_var C.G.hK h1 h2 h3 h4
    | _ => exact i_val C.G.hK (sE _ C h).1
  | .rng1 a, T, X, W, sc, scf, e, tg, C, h => by
    unfold mI at h
    split at h
    · simp only [Bool.and_eq_true, beq_iff_eq] at h
      obtain ⟨⟨⟨h1, h2⟩, h3⟩, h4⟩ := h
      subst h1
      exact i_rng1 (gl_of C h2).1 (bt_of C h3) (star_cons (mE_star a h4)) (sE a C h4).1
    · cases h
  | .rng2 a b, T, X, W, sc, scf, e, tg, C, h => by
    unfold mI at h
    split at h
    · simp only [Bool.and_eq_true, beq_iff_eq] at h
      obtain ⟨⟨⟨⟨h1, h2⟩, h3⟩, h4⟩, h5⟩ := h
      subst h1
      have e2 := star_cons (es := []) (env := X.env) (mE_star b h5)
      exact i_rng2 (gl_of C h2).1 (bt_of C h3) (by rw [star_cons (mE_star a h4), e2]; rfl) e2 (sE a C h4).1 (sE b C h5).1
    · cases h
  | .zip a b, T, X, W, sc, scf, e, tg, C, h => by
    unfold mI at h
    split at h
    · simp only [Bool.and_eq_true, beq_iff_eq] at h
      obtain ⟨⟨⟨⟨⟨h1, h2⟩, h3⟩, h4⟩, h5⟩, h6⟩ := h
      subst h1
      obtain ⟨es, k, p, rfl⟩ := isTup_of h4
      exact i_zip C.G.hK (gl_of C h2).1 (bt_of C h3) (star_cons (mE_star a h5)) (star_cons (mE_star b h6)) (sE a C h5).1 (sE b C h6).1
    · cases h
  | .enum a, T, X, W, sc, scf, e, tg, C, h => by
    unfold mI at h
    split at h
    · simp only [Bool.and_eq_true, beq_iff_eq] at h
      obtain ⟨⟨⟨⟨h1, h2⟩, h3⟩, h4⟩, h5⟩ := h
      subst h1
      obtain ⟨es, k, p, rfl⟩ := isTup_of h4
      have key : ∀ {x : Expr} {q1 q2 : Pos}, mE N T sc a x = true → PI X (.Tuple es k p) (.Call (.Name "enumerate" q1) [x] [] q2) (tI g W (itVar (.enum a)) (evi cf gl (.enum a))) := fun {x q1 q2} h5 => by
        cases a with
        | var i =>
          cases x <;> first | (cases h5; done) | skip
          unfold mE at h5
          obtain ⟨k1, k2, k3, k4⟩ := slot_of C h5
          exact i_enumV C.G.hK (gl_of C h2).1 (bt_of C h3) k1 k2 k3 k4
        | _ => exact i_enum C.G.hK (gl_of C h2).1 (bt_of C h3) (star_cons (mE_star _ h5)) (sE _ C h5).1
      exact key h5
    · cases h
end
end
end Pz

set_option Elab.async false
set_option linter.all false
set_option autoImplicit false
set_option maxRecDepth 100000
set_option maxHeartbeats 1000000
/-! Pz, part U: a look is enough, statements. -/
namespace Pz
open PySem PySem.Spec PyProof.Rows L2
mutual
def QS.vars : QS → List Nat
  | .asg t _ => t.vars
  | .par is _ => is
  | .mv i _ => [i]
  | .mkh i _ => [i]
  | .ite _ a b => a.vars ++ b.vars
  | .for_ t _ _ b => t.vars ++ b.vars
  | .whl _ _ b => b.vars
  | _ => []
def QSs.vars : QSs → List Nat
  | .nil => []
  | .cons s r => s.vars ++ r.vars
end
def isComp (e : Expr) : Bool := match e with
  | .ListComp .. => true
  | .SetComp .. => true
  | .DictComp .. => true
  | _ => false
def isName (e : Expr) : Bool := match e with
  | .Name .. => true
  | _ => false
/-- a comprehension's list goes straight into the name -/
def swapC (sc : Scope) (tg e : Expr) : Bool := match tg, e with
  | .Name t p, .ListComp _ _ s ep => decide (sc.kind = .function) && sc.names.lookup t == some .local && p.line == ep.line && !(s.names.any fun (n, k) => n == t && (k == .local || k == .cell))
  | _, _ => false
def isStarE (e : Expr) : Bool := match e with
  | .Starred .. => true
  | _ => false
/-- which names are stored from the right -/
def bkS (sc : Scope) : ScopeKind := if sc.kind.isAnnotationScope then .function else sc.kind
def swpR (sc : Scope) (ts vs : List Expr) : Option (Option (List Str)) :=
  if !(ts.length == 2 || ts.length == 3) || vs.length != ts.length || bkS sc != .function then some none
  else if (vs.any fun | .Starred .. => true | _ => false) then some none
  else
    let line := (ts.head?.map (·.pos.line)).getD 0
    let names := ts.filterMap fun
      | .Name id pos => if sc.names.lookup id == some .local && pos.line == line then some id else none
      | _ => none
    if names.length != ts.length || names.eraseDups.length != names.length then some none
    else if vs.all (foldedForSure 8) then some none
    else if vs.all (constantsAlone 8) then none
    else some (some names)
theorem swp_of {sc : Scope} {ts vs : List Expr} {k k2 : Nat} {p p2 : Pos} {env : PySem.Env} {r : Option (List Str)} (hs : env.scope = sc) (h : swpR sc ts vs = some r) : swappedStores [.Tuple ts k p] (.Tuple vs k2 p2) env = pure r := by
  subst hs
  unfold swpR at h
  unfold swappedStores
  have eb : env.blockKind = bkS env.scope := rfl
  simp only [Env.kindOf, eb, pure_bind]
  split at h
  · rename_i e
    cases h
    exact if_pos e
  · rename_i e
    refine (if_neg e).trans ?_
    split at h
    · rename_i e2
      cases h
      exact if_pos e2
    · rename_i e2
      refine (if_neg e2).trans ?_
      dsimp only at h
      split at h
      · rename_i e3
        cases h
        exact if_pos e3
      · rename_i e3
        refine (if_neg e3).trans ?_
        split at h
        · rename_i e4
          cases h
          exact if_pos e4
        · rename_i e4
          refine (if_neg e4).trans ?_
          split at h
          · cases h
          · rename_i e5
            cases h
            refine (if_neg e5).trans ?_
            rfl
/-- no swapping at a store -/
def asgB (sc : Scope) (tg e : Expr) : Bool := (!(isTup tg && isTup e) || (match tg, e with
  | .Tuple ts _ _, .Tuple vs _ _ => (match swpR sc ts vs with | some none => true | _ => false)
  | _, _ => false)) && !(match tg with | .List .. => true | _ => false)

def nmOf (e : Expr) : Option Str := match e with
  | .Name x _ => some x
  | _ => none
def tgLoc (sc scf : Scope) (x : Str) : Bool := sc.names.lookup x == some .local || (sc.names.lookup x == some .cell && scf.names.lookup x == some .cell)
mutual
def mS (T : Tb) (N : List Str) (sc : Scope) : QS → Stmt → Bool
  | .asg t e, s => match s with
    | .Assign [tg] e' _ => mG N sc sc t tg && mE N T sc e e' && asgB sc tg e'
    | _ => false
  | .par is xs, s => match s with
    | .Assign [.Tuple ts _ _] (.Tuple es _ _) _ => (match swpR sc ts es with
      | some (some ns) => decide (is.length = ts.length) && (is.map fun i => N[i]?) == ns.map some && decide is.Nodup && ts.map nmOf == ns.map some && ns.all (fun x => sc.names.lookup x == some .local) && mEs N T sc xs es
      | _ => false)
    | _ => false
  | .mv i j, s => match s with
    | .Assign [.Name x _] (.Name y _) _ => N[i]? == some x && tgLoc sc sc x && slotB N sc j y && i != j
    | _ => false
  | .mkh i e, s => match s with
    | .Assign [.Name x _] e' _ => N[i]? == some x && tgLoc sc sc x && mE N T sc e e' && !isComp e'
    | _ => false
  | .seti i k e, s => match s with
    | .Assign [.Subscript (.Name x _) k' _] e' _ => slotB N sc i x && mE N T sc k k' && mE N T sc e e' && plB k'
    | _ => false
  | .app i e, s => match s with
    | .Expr (.Call (.Attribute (.Name x _) m ap) [e'] [] cp) _ => slotB N sc i x && m == ("append" : Str) && mE N T sc e e' && ap.endLine == cp.line
    | _ => false
  | .exp e, s => match s with
    | .Expr e' _ => mE N T sc e e' && !isComp e'
    | _ => false
  | .ite c a b, s => match s with
    | .If c' a' b' _ => mE N T sc c c' && mSs T N sc a a' && mSs T N sc b b'
    | _ => false
  | .for_ t it h b, s => match s with
    | .For tg iter b' [] _ => mG N sc sc t tg && mI N T sc it iter tg && notSet iter && mSs T N sc b b' && (!h || (match itVar it with | some i => !(t.vars ++ b.vars).contains i | none => true))
    | _ => false
  | .whl _ c b, s => match s with
    | .While c' b' [] _ => mE N T sc c c' && mSs T N sc b b'
    | _ => false
  | .ret e, s => match s with
    | .Return (some e') _ => mE N T sc e e'
    | _ => false
  | .retv i, s => match s with
    | .Return (some (.Name x _)) _ => slotB N sc i x
    | _ => false
  | .retN, s => match s with
    | .Return none _ => true
    | _ => false
  | .rai c, s => match s with
    | .Raise (some (.Call (.Name x _) [.Constant (.str _) _ _] [] _)) none _ => T.cls[c]? == some x && glB sc x
    | _ => false
  | .brk, s => match s with
    | .Break _ => true
    | _ => false
  | .cnt, s => match s with
    | .Continue _ => true
    | _ => false
  | .pas, s => match s with
    | .Pass _ => true
    | _ => false
def mSs (T : Tb) (N : List Str) (sc : Scope) : QSs → List Stmt → Bool
  | .nil, ss => ss.isEmpty
  | .cons q r, ss => match ss with
    | s :: ss => mS T N sc q s && mSs T N sc r ss
    | [] => false
end
section
variable {g : Gx} {T : Tb} {gl : Gv} {cf : CF} {n : Nat} {X : Cx} {W : WX} {N : List Str} {sc scf : Scope}
def noSD (e : Expr) : Bool := match e with
  | .SetComp .. => false
  | .DictComp .. => false
  | .GeneratorExp .. => false
  | _ => true
theorem mE_noSD : ∀ (px : PX) {e : Expr}, mE N T sc px e = true → noSD e = true := by
  intro px e h
  cases e <;> first | rfl | skip
  all_goals cases px <;> exact absurd h (by simp [mE])
theorem swc_of {tg e : Expr} {l : Nat} (hs : X.env.scope = sc) (hk : sc.kind = .function) (hn : noSD e = true) (h : swapC sc tg e = false) : swapsWithSole [tg] e l X.env = pure false := by
  subst hs
  show swapsWith e (some tg) l X.env = pure false
  cases e <;> first | rfl | (cases hn; done) | skip
  · cases tg <;> try rfl
    unfold swapC at h
    have hb : X.env.blockKind = .function := by unfold Env.blockKind; rw [hk]; rfl
    rename_i s ep t p
    show (pure (X.env.blockKind == .function && X.env.kindOf t == some .local && p.line == ep.line && !(s.names.any fun (n, k) => n == t && (k == .local || k == .cell))) : Sem Bool) = pure false
    rw [hb]
    dsimp only at h
    have e1 : decide (X.env.scope.kind = .function) = true := decide_eq_true hk
    rw [e1, Bool.true_and] at h
    have e2 : (ScopeKind.function == ScopeKind.function) = true := rfl
    rw [e2, Bool.true_and]
    exact congrArg pure h
theorem sw_none {e : Expr} {l : Nat} (h : isComp e = false) : swapsWith e none l X.env = pure false := by
  cases e <;> first | rfl | cases h
theorem sw_name {e : Expr} {l : Nat} {tg : Option Expr} (h : isComp e = false) : swapsWith e tg l X.env = pure false := by
  cases e <;> first | rfl | cases h
theorem tgLoc_of (C : COk g T gl cf n X W N sc sc) {x : Str} (h : tgLoc sc sc x = true) : L2.Loc X.env.scope x ∧ (X.fn x = true ∨ X.env.scope.names.lookup x = some .local) := by
  unfold tgLoc at h
  simp only [Bool.or_eq_true, Bool.and_eq_true, beq_iff_eq] at h
  rw [C.scE]
  rcases h with h | ⟨h, h2⟩
  · exact ⟨.inl h, .inr h⟩
  · exact ⟨.inr h, .inl (C.fn x h2)⟩
theorem nm_of {e : Expr} {x : Str} (h : nmOf e = some x) : ∃ p, e = .Name x p := by
  cases e <;> first | (cases h; exact ⟨_, rfl⟩) | cases h
theorem asg_sw (C : COk g T gl cf n X W N sc scf) {tg e : Expr} (h : asgB sc tg e = true) : swappedStores [tg] e X.env = pure none := by
  unfold asgB at h
  rw [Bool.and_eq_true, Bool.or_eq_true] at h
  obtain ⟨h, h2⟩ := h
  cases tg <;> first | (cases e <;> rfl) | skip
  · cases h2
  · cases e <;> try rfl
    rcases h with h | h
    · cases h
    · dsimp only at h
      split at h
      · rename_i q; exact swp_of C.scE q
      · cases h
theorem seti_ha {x : Str} {k : Expr} {p1 p2 : Pos} (h : plB k = true) : ∀ v, assign (.Subscript (.Name x p1) k p2) X.env v = (do
      let ov ← holding [v] (eval (.Name x p1) X.env)
      let iv ← holding [v, ov] (eval k X.env)
      standAt p2
      holding [v, ov, iv] (setItem ov iv v)
      release [v, ov, iv] []) := by
  cases k <;> first | (intro v; rfl) | cases h
theorem tg_star {t : Tg} {tg : Expr} (h : mG N sc scf t tg = true) : (assignEach [tg] X.env).map (·.2) = [assign tg X.env] := by
  cases tg <;> first | rfl | (cases t <;> exact absurd h (by simp [mG]))
variable (C : COk g T gl cf n X W N sc sc) (hk : sc.kind = .function) (hp : PassesOwn (model X.prog X.w) X.A X.env X.xe)
include C hk hp
theorem asg_ok (t : Tg) (px : PX) {tg e : Expr} {pos : Pos} (h1 : mG N sc sc t tg = true) (h2 : mE N T sc px e = true) (h3 : asgB sc tg e = true) :
    PS X (.Assign [tg] e pos) (tS g W t.vars fun E S => (ev cf gl px E S).st fun p => RS.of (putT t p.1 p.2.1 E) fun E' => .nx E' p.2.2) := by
  cases hs : swapC sc tg e with
  | false => exact s_asg C.G.hK (sE px C h2).1 (sG C t h1) (swc_of C.scE hk (mE_noSD px h2) hs) (asg_sw C h3) (tg_star h1)
  | true =>
    cases tg <;> first | (cases hs; done) | skip
    rename_i y py
    cases e <;> first | (cases hs; done) | skip
    rename_i el gs scope ep
    cases t with
    | tp ts => cases h1
    | nm i =>
      cases px <;> first | (exfalso; simp [mE] at h2; done) | skip
      rename_i own elt t it c
      unfold swapC at hs
      simp only [Bool.and_eq_true, decide_eq_true_eq, beq_iff_eq, Bool.not_eq_true'] at hs
      obtain ⟨⟨⟨k1, k2⟩, k3⟩, k4⟩ := hs
      unfold mG at h1
      simp only [Bool.and_eq_true, beq_iff_eq] at h1
      unfold mE at h2
      split at h2
      · rename_i e1
        cases e1
        simp only [Bool.and_eq_true, decide_eq_true_eq] at h2
        obtain ⟨⟨⟨⟨⟨⟨⟨q1, q2⟩, q3⟩, q4⟩, q5⟩, q6⟩, q7⟩, q8⟩ := h2
        have hb := blk_ok q1
        rw [← C.N, ← C.scE] at hb
        have e1 : (ownN X.N own).map (·.2) = own := own_map _ _
        have := s_lc (i := i) (y := y) (py := py) (spos := pos) (t := t) (W := W) (pos := ep) C.G.hK C.G.calm C.G.nd (by rw [C.N]; exact h1.1) (by rw [C.scE]; exact k2) (sw_true (by rw [C.scE]; exact k1) (by rw [C.scE]; exact k2) (by simpa using k3) k4) (sI it C q5) hb (fun s H Ca cl fp => sG (cok_blk C _ s H Ca cl fp) t q3) (fun s H Ca cl fp => sC c (cok_blk C _ s H Ca cl fp) q7) (fun s H Ca cl fp => (sE elt (cok_blk C _ s H Ca cl fp) q8).1) (fun i hi => by
          rw [e1]
          have := List.all_eq_true.mp q4 i hi
          simpa using this) (fs_of q6)
        rw [e1] at this
        exact this
      · cases h2
theorem par_shape {is : List Nat} {ts es : List Expr} {ns : List Str} (h : swpR sc ts es = some (some ns)) : (ts.length = 2 ∨ ts.length = 3) ∧ es.length = ts.length := by
  unfold swpR at h
  split at h
  · cases h
  · rename_i e
    simp only [Bool.or_eq_true, Bool.not_eq_true', beq_iff_eq, bne_iff_ne, ne_eq, not_or, Bool.or_eq_false_iff, not_and, Bool.not_eq_false, Decidable.not_not] at e
    obtain ⟨⟨e1, e2⟩, e3⟩ := e
    refine ⟨?_, e2⟩
    by_cases h2 : ts.length = 2
    · exact .inl h2
    · right
      have := e1 (by simpa using h2)
      simpa using this
theorem par_ok_ (is : List Nat) (xs : PXs) {ts es : List Expr} {kt k2 : Nat} {pt pt2 pos : Pos} (h : (match swpR sc ts es with
      | some (some ns) => decide (is.length = ts.length) && (is.map fun i => N[i]?) == ns.map some && decide is.Nodup && ts.map nmOf == ns.map some && ns.all (fun x => sc.names.lookup x == some .local) && mEs N T sc xs es
      | _ => false) = true) :
    PS X (.Assign [.Tuple ts kt pt] (.Tuple es k2 pt2) pos) (tS g W is fun E S => (evs cf gl xs E S).st fun p => RS.of (parAll is p.1 E) fun E' => .nx E' p.2) := by
  split at h
  · rename_i ns hns
    simp only [Bool.and_eq_true, decide_eq_true_eq, beq_iff_eq] at h
    obtain ⟨⟨⟨⟨⟨h1, h2⟩, h3⟩, h4⟩, h5⟩, h6⟩ := h
    obtain ⟨l1, l2⟩ := par_shape C hk hp (is := is) hns
    have hw := swp_of (k := kt) (p := pt) (k2 := k2) (p2 := pt2) C.scE hns
    have ha := (sEs xs C h6).1
    have ln : ns.length = is.length := by
      have := congrArg List.length h2
      simpa using this.symm
    rcases l1 with l | l
    · match ts, l with
      | [a, b], _ =>
        match es, l2 with
        | [c, d], _ =>
          match is, h1 with
          | [i, j], _ =>
            match ns, ln with
            | [x, y], _ =>
              simp only [List.map_cons, List.map_nil, List.cons.injEq, and_true] at h2 h4
              obtain ⟨px, rfl⟩ := nm_of h4.1
              obtain ⟨py, rfl⟩ := nm_of h4.2
              simp only [List.all_cons, List.all_nil, Bool.and_true, Bool.and_eq_true, beq_iff_eq] at h5
              have hij : i ≠ j := fun z => by
                subst z
                exact (List.nodup_cons.mp h3).1 List.mem_cons_self
              exact s_par2 C.G.calm C.G.nd (by rw [C.N]; exact h2.1) (by rw [C.N]; exact h2.2) hij (by rw [C.scE]; exact h5.1) (by rw [C.scE]; exact h5.2) ha hw
    · match ts, l with
      | [a, b, e], _ =>
        match es, l2 with
        | [c, d, f], _ =>
          match is, h1 with
          | [i, j, l], _ =>
            match ns, ln with
            | [x, y, z], _ =>
              simp only [List.map_cons, List.map_nil, List.cons.injEq, and_true] at h2 h4
              obtain ⟨px, rfl⟩ := nm_of h4.1
              obtain ⟨py, rfl⟩ := nm_of h4.2.1
              obtain ⟨pz, rfl⟩ := nm_of h4.2.2
              simp only [List.all_cons, List.all_nil, Bool.and_true, Bool.and_eq_true, beq_iff_eq] at h5
              obtain ⟨n1, n2⟩ := List.nodup_cons.mp h3
              have hij : i ≠ j := fun z => n1 (by rw [z]; exact List.mem_cons_self)
              have hil : i ≠ l := fun z => n1 (by rw [z]; exact List.mem_cons_of_mem _ List.mem_cons_self)
              have hjl : j ≠ l := fun z => (List.nodup_cons.mp n2).1 (by rw [z]; exact List.mem_cons_self)
              exact s_par3 C.G.calm C.G.nd (by rw [C.N]; exact h2.1) (by rw [C.N]; exact h2.2.1) (by rw [C.N]; exact h2.2.2) hij hil hjl (by rw [C.scE]; exact h5.1) (by rw [C.scE]; exact h5.2.1) (by rw [C.scE]; exact h5.2.2) ha hw
  · cases h
end
end Pz

set_option Elab.async false
set_option linter.all false
set_option autoImplicit false
set_option maxRecDepth 100000
set_option maxHeartbeats 1000000
/-! Pz, part V: statements by a look; defs. -/
namespace Pz
open PySem PySem.Spec PyProof.Rows L2
section
variable {g : Gx} {T : Tb} {gl : Gv} {cf : CF} {n : Nat} {N : List Str} {sc : Scope}
mutual
theorem sS {X : Cx} {W : WX} (C : COk g T gl cf n X W N sc sc) (hk : sc.kind = .function) (hp : PassesOwn (model X.prog X.w) X.A X.env X.xe) : ∀ (q : QS) {st : Stmt}, mS T N sc q st = true → PS X st (tS g W q.vars (exe cf gl q))
  | .asg t e, st, h => by
    unfold mS at h
    split at h
    · simp only [Bool.and_eq_true] at h
      exact asg_ok C hk hp t e h.1.1 h.1.2 h.2
    · cases h
  | .par is xs, st, h => by
    unfold mS at h
    split at h
    · exact par_ok_ C hk hp is xs h
    · cases h
  | .mv i j, st, h => by
    unfold mS at h
    split at h
    · simp only [Bool.and_eq_true, beq_iff_eq, bne_iff_ne] at h
      obtain ⟨⟨⟨h1, h2⟩, h3⟩, h4⟩ := h
      obtain ⟨k1, k2, k3, k4⟩ := slot_of C h3
      obtain ⟨l1, l2⟩ := tgLoc_of C h2
      exact s_mv C.G.nd (by rw [C.N]; exact h1) l1 l2 k1 k2 k3 k4 h4
    · cases h
  | .mkh i e, st, h => by
    unfold mS at h
    split at h
    · simp only [Bool.and_eq_true, beq_iff_eq, Bool.not_eq_true'] at h
      obtain ⟨⟨⟨h1, h2⟩, h3⟩, h4⟩ := h
      obtain ⟨l1, l2⟩ := tgLoc_of C h2
      exact s_mkh C.G.nd (by rw [C.N]; exact h1) l1 l2 (sE e C h3).1 (sw_name h4)
    · cases h
  | .seti i k e, st, h => by
    unfold mS at h
    split at h
    · simp only [Bool.and_eq_true] at h
      obtain ⟨⟨⟨h1, h2⟩, h3⟩, h4⟩ := h
      obtain ⟨k1, k2, k3, k4⟩ := slot_of C h1
      refine s_seti (sE e C h3).1 (sE k C h2).1 k1 k2 k3 k4 (seti_ha h4) (swc_of C.scE hk (mE_noSD e h3) rfl) ?_ rfl
      rename_i e' _
      cases e' <;> rfl
    · cases h
  | .app i e, st, h => by
    unfold mS at h
    split at h
    · simp only [Bool.and_eq_true, beq_iff_eq] at h
      obtain ⟨⟨⟨h1, h2⟩, h3⟩, h4⟩ := h
      subst h2
      obtain ⟨k1, k2, k3, k4⟩ := slot_of C h1
      have hs := mE_star e h3
      refine s_app C.G.hK (sE e C h3).1 k1 k2 k3 k4 rfl ?_ (by simpa using h4) (star_cons hs)
      rw [(backTo_any _ _ (star_all _ [_] (by rw [List.all_cons, hs]; rfl))).2]
      rfl
    · cases h
  | .exp e, st, h => by
    unfold mS at h
    split at h
    · simp only [Bool.and_eq_true, Bool.not_eq_true'] at h
      exact s_exp (sE e C h.1).1 (sw_none h.2)
    · cases h
  | .ite c a b, st, h => by
    unfold mS at h
    split at h
    · simp only [Bool.and_eq_true] at h
      obtain ⟨⟨h1, h2⟩, h3⟩ := h
      exact s_ite (sE c C h1).2 (sSs C hk hp a h2) (sSs C hk hp b h3)
    · cases h
  | .for_ t it hd b, st, h => by
    unfold mS at h
    split at h
    · simp only [Bool.and_eq_true] at h
      obtain ⟨⟨⟨⟨h1, h2⟩, h3⟩, h4⟩, h5⟩ := h
      refine s_for C.G.hK C.G.calm hp (sI it C h2) (sG C t h1) (sSs C hk hp b h4) hd (fun e i hi => ?_) (fs_of h3)
      rw [e, hi] at h5
      simpa using h5
    · cases h
  | .whl m c b, st, h => by
    unfold mS at h
    split at h
    · simp only [Bool.and_eq_true] at h
      exact s_whl hp (sE c C h.1).2 (sSs C hk hp b h.2) m
    · cases h
  | .ret e, st, h => by
    unfold mS at h
    split at h
    · exact s_ret (sE e C h).1
    · cases h
  | .retv i, st, h => by
    unfold mS at h
    split at h
    · obtain ⟨k1, k2, k3, k4⟩ := slot_of C h
      exact s_retv k1 k2 k3 k4
    · cases h
  | .retN, st, h => by
    unfold mS at h
    split at h
    · exact s_retN
    · cases h
  | .rai c, st, h => by
    unfold mS at h
    split at h
    · simp only [Bool.and_eq_true, beq_iff_eq] at h
      obtain ⟨g1, g2, g3⟩ := gl_of C h.2
      obtain ⟨B, newId, initId, bmB, k1, k2, k3, k4, k5⟩ := C.G.cl c _ h.1
      exact s_rai C.G.calm C.tk (pmk_own k1 k2 k3 k4 k5 g1 g2) fun _ _ _ z => z
    · cases h
  | .brk, st, h => by
    unfold mS at h
    split at h
    · exact s_brk
    · cases h
  | .cnt, st, h => by
    unfold mS at h
    split at h
    · exact s_cnt
    · cases h
  | .pas, st, h => by
    unfold mS at h
    split at h
    · exact s_pas
    · cases h
theorem sSs {X : Cx} {W : WX} (C : COk g T gl cf n X W N sc sc) (hk : sc.kind = .function) (hp : PassesOwn (model X.prog X.w) X.A X.env X.xe) : ∀ (q : QSs) {sts : List Stmt}, mSs T N sc q sts = true → PSs X sts (tS g W q.vars (exes cf gl q))
  | .nil, sts, h => by
    cases sts with
    | nil => exact s_nil
    | cons _ _ => cases h
  | .cons q r, sts, h => by
    cases sts with
    | nil => cases h
    | cons s ss =>
      unfold mSs at h
      rw [Bool.and_eq_true] at h
      exact s_cons (sS C hk hp q h.1) (sSs C hk hp r h.2)
end
end
end Pz

set_option Elab.async false
set_option linter.all false
set_option autoImplicit false
set_option maxRecDepth 100000
set_option maxHeartbeats 1000000
/-! Pz, part W: defs, the whole program. -/
namespace Pz
open PySem PySem.Spec PyProof.Rows L2
/-- a def as the top has written it -/
structure DefOk (g : Gx) (base : Heap) (T : Tb) (d : Def) (x : Str) (a : Nat) (f : Addr) (fd : FuncData) (ps : List Str) : Prop where
  len : ps.length = a
  mg : g.mg x = some (.ref f)
  kp : PySem.W.keepIn g.K (.ref f) = true
  bd : L2.Binds g.K fd ps []
  np : d.np = a
  ex : ∃ (oc : Value) (od : Option Addr) (osl : Array (Option Value)) (st : Stmt) (kV doc pm : Value) (an : Option Addr) (cdv ct : Value) (N : List Str) (lm : Bool),
    fd = PySem.W.fnOf x x (defArgs st) (defBody st) (defScope st) .none kV doc pm an cdv ct ∧ g.K.lookup f = some ⟨oc, od, .func fd, osl⟩ ∧ PySem.W.codeIn g.K cdv x = true ∧ FnScope N ps (defScope st) ∧ d.ns = N.length ∧
    mSs { T with lm := lm } N (defScope st) d.body (defBody st) = true ∧
    (lm = true → ∃ (c P : Addr), cdv = .ref c ∧ LamX.TabB base g.mg c P ∧ (P, x ++ ".<locals>." ++ "<lambda>") ∈ g.T ∧ ∀ p ∈ g.T, p.1 = P → p.2 = x ++ ".<locals>." ++ "<lambda>")
structure MOk (g : Gx) (base : Heap) (T : Tb) (p : Prog) : Prop where
  fn : ∀ (j : Nat) (x : Str) (a : Nat), T.fns[j]? = some (x, a) → ∃ d f fd ps, p.defs[j]? = some d ∧ DefOk g base T d x a f fd ps
  bt : ∀ x ∈ T.bts, g.mg x = none
  gv : ∀ (j : Nat) (x : Str), T.gls[j]? = some x → ∃ (v : V) (u : Value) (d : D), g.mg x = some u ∧ RelV v u ∧ p.gl.vals[j]? = some d ∧ ∀ ρ A H, Rp g ρ A H v d
  cl : ∀ (c : Nat) (x : Str), T.cls[c]? = some x → ∃ (B newId initId : String) (bmB : List Value), ExcBaseFacts B newId initId bmB ∧ PySem.W.excIn g.K (g.ca c) bmB newId = true ∧ g.mg x = some (.ref (g.ca c)) ∧ PySem.W.keepIn g.K (.ref (g.ca c)) = true ∧
    PySem.W.subIn g.K (.ref (g.ca c)) (.type "BaseException") = some true ∧ PySem.W.typeIn g.K (.ref (g.ca c)) = some (.type "type")
  hd : ∀ (X : Cx), X.prog = g.P → X.w = g.w → X.K = g.K → X.mg = g.mg → X.base = base → ∀ (j : Nat) (x : Str), T.hds[j]? = some x → ∃ h, p.gl.hds[j]? = some h ∧ HdlOk g X x h
section
variable {g : Gx} {base : Heap} {T : Tb} {p : Prog}
theorem start_get {N : List Str} {vs : List V} {i : Nat} {v : V} (h : vs[i]? = some v) : (L2.start N vs)[i]? = some (some v) := by
  have hl := (List.getElem?_eq_some_iff.mp h).1
  unfold L2.start
  rw [List.getElem?_append_left (by rw [List.length_map]; exact hl), List.getElem?_map, h]; rfl
theorem startE_get {n : Nat} {ds : List D} {i : Nat} {d : D} {o : Bool} (h : (startE n ds)[i]? = some (some (d, o))) : o = false ∧ ds[i]? = some d := by
  unfold startE at h
  by_cases hl : i < ds.length
  · rw [List.getElem?_append_left (by rw [List.length_map]; exact hl), List.getElem?_map] at h
    cases e : ds[i]? with
    | none => rw [e] at h; cases h
    | some x => rw [e] at h; cases h; exact ⟨rfl, rfl⟩
  · rw [List.getElem?_append_right (by rw [List.length_map]; exact Nat.le_of_not_lt hl)] at h
    obtain ⟨_, q⟩ := List.getElem?_eq_some_iff.mp h
    rw [List.getElem_replicate] at q
    cases q
theorem start_env {vs : List V} {ds : List D} {N : List Str} {H : Hp} {ρ : List Addr} {S : Sto} {B : Addr → Prop} (hl : vs.length ≤ N.length) (r : RpL g ρ (Al ρ B) H vs ds) (s : StoR g H ρ S) (b : Bok B H) :
    EnvS g ⟨H, ρ, B, [], []⟩ NoY (L2.start N vs) H (startE N.length ds) S ρ :=
  have nO : ∀ a, ¬ Own (L2.start N vs) (startE N.length ds) a := fun a ⟨i, d, h1, h2⟩ => nomatch (startE_get h1).1
  { len := by
      unfold L2.start startE
      rw [List.length_append, List.length_append, List.length_map, List.length_map, List.length_replicate, List.length_replicate, r.length]
      exact Nat.le_refl _
    ext := Ext.refl _ _
    sto := s
    bok := b
    free := fun i d hi => by
      obtain ⟨v, hv, rv⟩ := r.getD (startE_get hi).2
      exact ⟨v, start_get hv, rv.mono (Al.mono fun a z => by
        rcases z with z | z | z | z
        · exact z
        · exact (nO a z).elim
        · obtain ⟨_, _, z⟩ := z; cases z
        · exact z.elim)⟩
    own := fun i d hi => nomatch (startE_get hi).1
    inj := fun i j d e a hi => nomatch (startE_get hi).1
    pin := fun q hq => nomatch hq
    hid := fun q hq => nomatch hq }
theorem fin_post {C : Fr} {Q : VK} {E : XK} {σ : L2.St} {vs : List Nat} {r : RS} (h : match r.fin with
    | .ok p => ∀ v H' ρ', Got g C.B C.H0 C.ρ0 v p.1 p.2.1 H' ρ' p.2.2 → Q v H'
    | .ex c S' => ∀ H' ρ', Ext C.H0 C.ρ0 H' ρ' → StoR g H' ρ' S' → E (.ref (g.ca c)) none H'
    | .bad => False) : postS g (fun cls d _ H => E cls d H) C { nx := fun _ H' => Q .non H', rt := Q } σ vs r := by
  cases r with
  | nx E S => exact fun σ' H' ρ' h' _ => h .non H' ρ' ⟨h'.ext, h'.sto, .non, fun z => nomatch z⟩
  | rt d o S => exact h
  | bk E S => exact h.elim
  | ct E S => exact h.elim
  | ex c S => exact fun σ' H' ρ' e s => h H' ρ' e s
  | bad => exact h.elim
theorem gok (M : MOk g base T p) (n : Nat) (ih : ∀ (j : Nat) (x : Str) (a : Nat), T.fns[j]? = some (x, a) → ∀ d f fd ps, p.defs[j]? = some d → DefOk g base T d x a f fd ps → FnOk g.P g.w g.K g.mg base (L2.CX g.P g.w) (3 * n) f fd ps (spF g ps.length (callD p n j)))
    {X : Cx} (h1 : X.prog = g.P) (h2 : X.w = g.w) (h3 : X.K = g.K) (h4 : X.mg = g.mg) (h5 : X.base = base) (hc : X.calm = true) (hN : X.N.Nodup) (hr : Room (3 * n + 2) X.A) (lm : Bool) (hlm : lm = true → ∃ (c P : Addr), X.env.code = .ref c ∧ LamX.TabB X.base X.mg c P ∧ (P, X.env.qual ++ "<lambda>") ∈ g.T ∧ ∀ p ∈ g.T, p.1 = P → p.2 = X.env.qual ++ "<lambda>") :
    GOk g { T with lm := lm } p.gl (callD p n) n X where
  hK := h3
  calm := hc
  room := hr.mono (by omega)
  lroom := fun _ => hr
  fn := fun j x a hj => by
    obtain ⟨d, f, fd, ps, hd, D⟩ := M.fn j x a hj
    rw [h1, h2, h3, h4, h5]
    exact ⟨f, fd, ps, D.len, D.mg, D.kp, D.bd, ih j x a hj d f fd ps hd D⟩
  bt := fun x hx => by rw [h4]; exact M.bt x hx
  gv := fun j x hx => by rw [h4]; exact M.gv j x hx
  cl := fun c x hx => by
    obtain ⟨B, newId, initId, bmB, k1, k2, k3, k4, k5, k6⟩ := M.cl c x hx
    refine ⟨B, newId, initId, bmB, k1, by rw [h3]; exact k2, by rw [h4]; exact k3, by rw [h3]; exact k4, raises_own (by rw [h3]; exact k5) (by rw [h3]; exact k6)⟩
  hd := fun _ j x hx => M.hd X h1 h2 h3 h4 h5 j x hx
  lam := hlm
  nd := hN
theorem all_ok (M : MOk g base T p) : ∀ (n j : Nat) (x : Str) (a : Nat), T.fns[j]? = some (x, a) → ∀ d f fd ps, p.defs[j]? = some d → DefOk g base T d x a f fd ps → FnOk g.P g.w g.K g.mg base (L2.CX g.P g.w) (3 * n) f fd ps (spF g ps.length (callD p n j))
  | 0, j, x, a, _, d, f, fd, ps, _, _ => ⟨fun vs H Q E ⟨B, ds, S, ρ, h, _⟩ => h, fun A outer s H args us vs Q E _ _ _ _ ⟨B, ds, S, ρ, _, _, _, _, h⟩ => h.elim⟩
  | n + 1, j, x, a, hj, d, f, fd, ps, hd, D => by
    obtain ⟨oc, od, osl, st, kV, doc, pm, an, cdv, ct, N, lm, k1, k2, k3, k4, k5, k6, k7⟩ := D.ex
    subst k1
    refine FnOk.mono (L2.fn_of (k := 3 * n + 2) k2 k3 k4 (fun vs H Q E ⟨B, ds, S, ρ, h, _⟩ => h) fun A outer s H vs Q E hr hsp => ?_) (by omega)
    obtain ⟨B, ds, S, ρ, hl, r, sS, bB, hsp⟩ := hsp
    have hcall : callD p (n + 1) j ds S = if ds.length = d.np ∧ d.np ≤ d.ns then (exes (callD p n) p.gl d.body (startE d.ns ds) S).fin else .bad := by
      show (match p.defs[j]? with | some f => _ | none => _) = _
      rw [hd]
    by_cases hlen : ds.length = d.np ∧ d.np ≤ d.ns
    · rw [hcall, if_pos hlen] at hsp
      rw [k5] at hsp hlen
      have hvN : vs.length ≤ N.length := by
        rw [hl, D.len, ← D.np]; exact hlen.2
      have C : COk g { T with lm := lm } p.gl (callD p n) n (cxOf (L2.CX g.P g.w) g.P g.w g.K g.mg base N x (defScope st) f cdv A outer s H E) (fun cls d _ H => E cls d H) N (defScope st) (defScope st) :=
        ⟨gok M n (all_ok M n) rfl rfl rfl rfl rfl rfl k4.nd hr lm (fun e => by
          obtain ⟨c, P, q1, q2, q3, q4⟩ := k7 e
          exact ⟨c, P, q1, q2, q3, q4⟩), takes_of rfl rfl rfl rfl, rfl, rfl, fun _ _ => rfl⟩
      exact ⟨_, sSs C k4.kind (passes_of rfl) d.body k6, ⟨H, ρ, B, [], []⟩, _, S, ρ, start_env hvN r sS bB, fin_post hsp⟩
    · rw [hcall, if_neg hlen] at hsp
      exact hsp.elim
end
end Pz

set_option Elab.async false
set_option linter.all false
set_option autoImplicit false
set_option maxRecDepth 100000
set_option maxHeartbeats 1000000
/-! Pz, part X: defs that catch: try: a() / except B as n: return s1 if isinstance(n, C1) else s2 / return s0. -/
namespace Pz
open PySem PySem.Spec PyProof.Rows L2
/-- what is known of the classes -/
structure CatA (g : Gx) (K : PySem.W.Frag) (B C1 : Addr) (s1 s2 : Str) (cs : List (Option D)) : Prop where
  ok : ∀ (c : Nat) (d : D), cs[c]? = some (some d) → PySem.W.exmOne K (.ref (g.ca c)) (.ref B) = some true ∧ ExcC K (g.ca c) ∧ ∃ b, PySem.W.kitOne K (.ref (g.ca c)) (.ref C1) = some b ∧ d = .str (if b then s1 else s2)
section
variable {g : Gx} {X : Cx}
theorem gives_A {Ng : List Str} {x a e n c1 q s0 s1 s2 : Str} {sg : Scope} {f0 B C1 : Addr} {cdg : Value} {i : Nat} {j0 j1 j2 : Nat} {p1 p2 p3 p4 p5 p6 p7 p8 p9 p10 p11 p12 p13 p14 p15 p16 : Pos} {cs : List (Option D)} (A : CatA g X.K B C1 s1 s2 cs)
    (hN : Ng.Nodup) (hi : Ng[i]? = some n) (hln : sg.names.lookup n = some .local) (h0 : Ng[0]? = some a)
    (hge : sg.names.lookup e = some .globalImplicit) (hme : X.mg e = some (.ref B)) (hde : (e == ("__debug__" : Str)) = false)
    (hgi : sg.names.lookup ("isinstance" : Str) = some .globalImplicit) (hmi : X.mg "isinstance" = none)
    (hgc : sg.names.lookup c1 = some .globalImplicit) (hmc : X.mg c1 = some (.ref C1)) (hdc : (c1 == ("__debug__" : Str)) = false) (hdn : (n == ("__debug__" : Str)) = false) (hcn : (n == ("__classdict__" : Str)) = false) :
    LamX.GivesTo X Ng x sg f0 cdg [.Try [.Expr (.Call (.Name a p1) [] [] p2) p3] [.ExceptHandler (some (.Name e p4)) (some n) [.Return (some (.IfExp (.Call (.Name "isinstance" p5) [.Name n p6, .Name c1 p7] [] p8) (.Constant (.str s1) j1 p9) (.Constant (.str s2) j2 p10) p11)) p12] p13] [] [] p14, .Return (some (.Constant (.str s0) j0 p15)) p16] a q (TTh g ⟨some (.str s0), cs⟩) := by
  intro f c' s H Q tl act hc h
  refine ⟨_, pss_cons (ps_try_as (X := (cxOf C8.CX0 X.prog X.w X.K X.mg X.base Ng x sg f0 cdg X.A X.stack s H C8.E0).nox) (c := .ref B) (i := i) (Wout := fun _ _ _ _ => False)
      (tb := fun W D σ H => ∃ Ech : XK, (∀ cls d σ' H', Ech cls d H' → W cls d σ' H') ∧ σ[0]? = some (some (.ref f)) ∧ H c' = some (LamX.CodeO c' q) ∧ tl Ech H fun _ H1 => D.nx σ H1)
      (ts := fun a cls d D σ H => d = none ∧ ∃ ci b, cls = .ref (g.ca ci) ∧ ExcC X.K (g.ca ci) ∧ PySem.W.kitOne X.K (.ref (g.ca ci)) (.ref C1) = some b ∧ (∃ τ : L2.St, σ = τ.set i (some (.ref a))) ∧ D.rt (.str (if b then s1 else s2)) H)
      rfl rfl hN hi hln ⟨hge, hde, .inl hme⟩ takes0 (fun W pn xe tk _ => ?_) (fun a oe cls d pn hz hf => ?_)) (pss_one (ps_ret pe_str)), ?_⟩
  · refine ⟨fun pins s' σ H' D I h' => ?_⟩
    obtain ⟨Ech, hW, h1, h2, h3⟩ := h'
    have hp := act W pn xe Ech p1 p2 tk hW
    have hq := pss_one (ps_expr (pos := p3) hp)
    exact hq.run pins s' σ H' D I ⟨h1, h2, h3⟩
  · refine ⟨fun pins s' σ H' D I h' => ?_⟩
    obtain ⟨ed, ci, b, ec, hE, hk, ⟨τ, hτ⟩, hr⟩ := h'
    subst ed
    subst ec
    have hs : σ[i]? = some (some (.ref a)) := by
      have l1 : σ.length = Ng.length := I.len
      have l2 := (List.getElem?_eq_some_iff.mp hi).1
      subst hτ
      rw [List.length_set] at l1
      exact List.getElem?_set_self (by rw [l1]; exact l2)
    have hci := call_isE (a := a) (X := (cxOf C8.CX0 X.prog X.w X.K X.mg X.base Ng x sg f0 cdg X.A X.stack s H C8.E0).nox) (pn := pn) hE hz hf
    have hv : PE ((cxOf C8.CX0 X.prog X.w X.K X.mg X.base Ng x sg f0 cdg X.A X.stack s H C8.E0).nox.suite a ((a, oe) :: pn)) (.Name n p6) (tVar i) := pe_var hi (.inl hln) hdn hcn
    have hcl : PE ((cxOf C8.CX0 X.prog X.w X.K X.mg X.base Ng x sg f0 cdg X.A X.stack s H C8.E0).nox.suite a ((a, oe) :: pn)) (.Name c1 p7) (tC (.ref C1)) := pe_glob hgc hmc rfl hdc
    have hb := pe_callB (x := "isinstance") (p := p5) (pos := p8) hci hgi hmi (by decide +kernel) (pa_cons hv (pa_cons hcl pa_nil)) (by decide) (by decide) rfl rfl
    refine (pss_one (ps_ret (pos := p12) (pe_ifExp (pos := p11) (pt_val hb) pe_str pe_str))).run pins s' σ H' D I ⟨_, hs, .ref C1, .ref C1, b, rfl, fun u r => r, hk, b, rfl, ?_⟩
    cases b with
    | true => exact hr
    | false => exact hr
  · refine ⟨fun cls dd H' => dd = none ∧ ∃ c d, cls = .ref (g.ca c) ∧ cs[c]? = some (some d) ∧ isCon d = true ∧ Q (conV d) H', fun cls d σ' H' hh => ?_, ?_, hc, ?_⟩
    · obtain ⟨e1, c, dd, e2, e3, e4, e5⟩ := hh
      subst e1
      subst e2
      obtain ⟨k1, k2, b, k3, k4⟩ := A.ok c dd e3
      refine ⟨true, k1, fun _ a' ha' => ⟨rfl, c, b, rfl, k2, k3, ?_, ?_⟩, fun z => nomatch z⟩
      · exact ⟨σ', rfl⟩
      · subst k4; exact e5
    · exact start_get rfl
    · exact h
end
end Pz

set_option Elab.async false
set_option linter.all false
set_option autoImplicit false
set_option maxRecDepth 100000
set_option maxHeartbeats 1000000
/-! Pz, part Y: the end of a law row. -/
namespace Pz
open PySem PySem.Spec PyProof.Rows L2
theorem walk_pz {l : PySem.W.OpenLaw} {n k : Nat} {q : Program} {loose : List Str} {XP : (Str → Option Value) → Heap → Prop} {YP : World → Heap → Prop} {d : DefRec} {K : Params → PySem.W.Frag} {CX : World → CXT} {x : Str}
    (hn : l.most = some n) (hn2 : n ≤ sizeLine) (hdf : d.params.defaults = []) (hr : Room k callerA) (hY : ∀ (w : World) (h : Heap), YP w h → (K w.params).In h)
    (F : ∀ (w : World) (mg : Str → Option Value) (fa : Addr) (h : Heap), YP w h → (K w.params).In h → h.Ns mainGlobals mg → mg d.name = some (.ref fa) →
      (∀ (y : Str) (c P : Addr), ((recsOf q).find? fun e => e.name == y).isSome = true → PySem.W.tabIn (K w.params) y = some (c, P) → PySem.W.CodeHd h c P ∧ h.get? P = some (PySem.W.tabObj #[])) → LamX.LawAtS l w (K w.params) (CX w) k n x mg fa h)
    (hCX : ∀ (w : World) (H : Hp) (s : Shared) (e : Value) (s' : Shared), CX w [] H s (fun _ _ _ => False) e s' → False) :
    PySem.W.WalkO q loose XP YP l.row.toRowW d [] (fun f vs => PySem.call f vs) := by
  refine Att.attach_callB hn hdf fun w s₀ s₁ mg mb fa o pm cd doc a vs ns G Y ho hd hcd hmg hobj hints hlen hbits hg => ?_
  have KX := hY w _ Y
  obtain ⟨fd, cs, sp, hT, nT, C, hb, hsp, hF⟩ := F w mg fa _ Y KX G.T.g hmg fun y c P hy ht => by
    obtain ⟨e, he⟩ := Option.isSome_iff_exists.mp hy
    exact PySem.W.tab_of G.T KX he ht
  exact LamX.law_callTs KX G.T.g G.T.b G.T.builtins G.T.nolimit hg hT nT C G.T.bmain hobj hints (Nat.le_trans hlen hn2) hr hF hb (fun H hH hS => hsp H a ns hlen hbits hH hS) fun H e s' => hCX w H s₁ e s'
/-- the script's data -/
inductive ScD (ns : List Int) : D → Prop where
  | scr : ScD ns (.scr ns)
  | lst : ScD ns (.lst (dI ns))
theorem ints_rep {g : Gx} {ρ : List Addr} {A : Addr → Prop} {H : Hp} : ∀ ns : List Int, RpL g ρ A H (ns.map V.int) (dI ns)
  | [] => .nil
  | n :: ns => .cons (.int n) (ints_rep ns)
theorem lawAt {l : PySem.W.OpenLaw} {w : World} {K : PySem.W.Frag} {mg : Str → Option Value} {fa : Addr} {h : Heap} {cs : List (Addr × Addr)} {g : Gx} {T : Tb} {p : Prog} {n j : Nat} {fd : FuncData} {d : Def}
    (g1 : g.P = l.prog) (g2 : g.w = w) (g3 : g.K = K) (g4 : g.mg = mg) (gT : ∀ q ∈ g.T, ∃ c, (c, q.1) ∈ cs)
    (hT : ∀ p ∈ cs, h.get? p.2 = some { cls := .none, data := .fields #[] }) (nT : ∀ p ∈ cs, K.lookup p.2 = none) (hC : ∀ p ∈ cs, PySem.W.CodeHd h p.1 p.2)
    (hb : ∀ (s : Shared) (u : Value), BindsTo s fd ⟨[u], []⟩ [("script", u)])
    (hj : T.fns[j]? = some (("law" : Str), 1)) (hd : p.defs[j]? = some d)
    (M : ∀ base : Heap, K.In base → base.Ns mainGlobals mg → (∀ p ∈ cs, LamX.TabB base mg p.1 p.2) → MOk g base T p ∧ DefOk g base T d "law" 1 fa fd ["script"])
    (math : ∀ ns : List Int, ns.length ≤ 63 → ∀ e, ScD ns e → ∃ o S, callD p n j [e] [] = .ok (.bl true, o, S)) :
    LamX.LawAtS l w K (L2.CX l.prog w) (3 * n) 63 "script" mg fa h := by
  subst g2
  subst g3
  subst g4
  refine ⟨fd, cs, spF g 1 (callD p n j), hT, nT, hC, hb, fun H a ns hl _ hH hS => ?_, fun base kb nb tb => ?_⟩
  · have st : StoR g H [] [] := ⟨rfl, List.nodup_nil, fun q hq => (by
      obtain ⟨c, hc⟩ := gT q hq
      exact LamX.TabS.nil (hH _ hc)), fun n a hn => (by simp at hn)⟩
    have hl2 : ns.length ≤ line := Nat.le_trans hl (by decide)
    have fin : ∀ e, ScD ns e → Rp g [] (Al [] fun _ => False) H (.ref a) e → spF g 1 (callD p n j) [.ref a] H (fun v _ => v = .bl true) fun _ _ _ => False := fun e he r => by
      obtain ⟨o, S, hr⟩ := math ns hl e he
      refine ⟨fun _ => False, [e], [], [], rfl, .cons r .nil, st, fun _ z => z.elim, ?_⟩
      rw [hr]
      intro v H' ρ' G
      have r := G.rep
      cases r
      rfl
    rcases hS with (hS | ⟨o, hS⟩) | hS
    · exact fin _ .lst (.lst hS ⟨(fun z => nomatch z), id⟩ (ints_rep ns) (by unfold dI; rw [List.length_map]; exact hl2))
    · exact fin _ .scr (.scr (.inl ⟨o, hS⟩) hl2)
    · exact fin _ .scr (.scr (.inr hS) hl2)
  · obtain ⟨M1, D1⟩ := M base kb nb tb
    have := all_ok M1 n j "law" 1 hj d fa fd ["script"] hd D1
    rw [g1] at this
    exact this
end Pz

set_option Elab.async false
set_option linter.all false
set_option autoImplicit false
set_option maxRecDepth 100000
set_option maxHeartbeats 1000000
/-! Pz, part Z: the module's facts, put together. -/
namespace Pz
open PySem PySem.Spec PyProof.Rows L2
theorem tabIn_code {K : PySem.W.Frag} {x : Str} {f c P : Addr} {oc : Value} {od : Option Addr} {fd : FuncData} {sl : Array (Option Value)} (a : PySem.W.nsIn K mainGlobals x = some (some (.ref f))) (l : K.lookup f = some ⟨oc, od, .func fd, sl⟩) (t : PySem.W.tabIn K x = some (c, P)) : fd.code = .ref c := by
  unfold PySem.W.tabIn at t
  rw [a] at t
  dsimp only at t
  rw [l] at t
  dsimp only at t
  split at t
  · rename_i c' e
    rw [e]
    split at t
    · split at t
      · cases t; rfl
      · cases t
    · cases t
  · cases t
theorem tabIn_mk {K : PySem.W.Frag} {x : Str} {f c P : Addr} {oc ce : Value} {od cdd : Option Addr} {fd : FuncData} {sl csl : Array (Option Value)} {vs : Array Value} (a : PySem.W.nsIn K mainGlobals x = some (some (.ref f))) (l : K.lookup f = some ⟨oc, od, .func fd, sl⟩) (e : fd.code = .ref c)
    (v : K.lookup c = some ⟨ce, cdd, .fields vs, csl⟩) (w : vs[11]? = some (.ref P)) : PySem.W.tabIn K x = some (c, P) := by
  unfold PySem.W.tabIn
  rw [a]
  dsimp only
  rw [l]
  dsimp only
  rw [e]
  dsimp only
  rw [v]
  dsimp only
  rw [w]
theorem kit_ref {K : PySem.W.Frag} {C D : Addr} {b : Bool} (hdct : PySem.W.hasDictIn K C = true) (ht : PySem.W.typeIn K (.ref C) = some (.type "type")) (h4 : PySem.W.subIn K (.ref D) (.ref C) = some b) (hb : D = C → b = true) : PySem.W.kitOne K (.ref D) (.ref C) = some b := by
  obtain ⟨cd, hc, _⟩ := PySem.W.any_some hdct
  have e2 : ((PySem.W.clsIn K C).isSome && PySem.W.typeIn K (.ref C) == some (.type "type")) = true := by rw [hc, ht] <;> rfl
  unfold PySem.W.kitOne
  by_cases e : (Value.ref D == Value.ref C) = true
  · rw [if_pos e]
    have e3 : D = C := Value.ref.inj (eq_of_beq e)
    rw [hb e3]
  · rw [if_neg e]
    show (if ((PySem.W.clsIn K C).isSome && PySem.W.typeIn K (.ref C) == some (.type "type")) = true then PySem.W.subIn K (.ref D) (.ref C) else none) = some b
    rw [if_pos e2]
    exact h4
inductive DefsOk (g : Gx) (base : Heap) (T : Tb) : List (Str × Nat) → List Def → Prop where
  | nil : DefsOk g base T [] []
  | cons {x : Str} {a : Nat} {d : Def} {f : Addr} {fd : FuncData} {ps : List Str} {xs : List (Str × Nat)} {ds : List Def} : DefOk g base T d x a f fd ps → DefsOk g base T xs ds → DefsOk g base T ((x, a) :: xs) (d :: ds)
theorem DefsOk.get {g : Gx} {base : Heap} {T : Tb} : ∀ {xs : List (Str × Nat)} {ds : List Def}, DefsOk g base T xs ds → ∀ (j : Nat) (x : Str) (a : Nat), xs[j]? = some (x, a) → ∃ d f fd ps, ds[j]? = some d ∧ DefOk g base T d x a f fd ps
  | _, _, .nil, j, x, a, h => by simp at h
  | _, _, .cons D r, 0, x, a, h => by
    cases h
    exact ⟨_, _, _, _, rfl, D⟩
  | _, _, .cons D r, j + 1, x, a, h => DefsOk.get r j x a h
def AllN (mg : Str → Option Value) : List Str → Prop
  | [] => True
  | x :: xs => mg x = none ∧ AllN mg xs
theorem AllN.get {mg : Str → Option Value} : ∀ {xs : List Str}, AllN mg xs → ∀ x ∈ xs, mg x = none
  | _ :: _, h, x, hx => (List.mem_cons.mp hx).elim (fun e => by rw [e]; exact h.1) fun e => AllN.get h.2 x e
/-- the module's constants, ints -/
def AllG (mg : Str → Option Value) : List Str → List D → Prop
  | [], _ => True
  | x :: xs, d :: ds => (∃ (i : Int) (t : Tok), d = .int i ∧ mg x = some (.int i t)) ∧ AllG mg xs ds
  | _ :: _, [] => False
theorem AllG.get {g : Gx} {mg : Str → Option Value} : ∀ {xs : List Str} {ds : List D}, AllG mg xs ds → ∀ (j : Nat) (x : Str), xs[j]? = some x → ∃ (v : V) (u : Value) (d : D), mg x = some u ∧ RelV v u ∧ ds[j]? = some d ∧ ∀ ρ A H, Rp g ρ A H v d
  | [], _, _, j, x, h => by simp at h
  | y :: xs, [], h, _, _, _ => h.elim
  | y :: xs, d :: ds, h, 0, x, e => by
    cases e
    obtain ⟨⟨i, t, rfl, h2⟩, _⟩ := h
    exact ⟨.int i, _, _, h2, ⟨t, rfl⟩, rfl, fun _ _ _ => .int i⟩
  | y :: xs, d :: ds, h, j + 1, x, e => AllG.get h.2 j x e
structure ClsOk (g : Gx) (x : Str) (C : Addr) : Prop where
  ex : PySem.W.excIn g.K C [.type "ValueError", .type "Exception", .type "BaseException", .type "object"] "ValueError.__new__" = true
  mg : g.mg x = some (.ref C)
  kp : PySem.W.keepIn g.K (.ref C) = true
  sb : PySem.W.subIn g.K (.ref C) (.type "BaseException") = some true
  ty : PySem.W.typeIn g.K (.ref C) = some (.type "type")
def AllC (g : Gx) : Nat → List Str → Prop
  | _, [] => True
  | n, x :: xs => ClsOk g x (g.ca n) ∧ AllC g (n + 1) xs
theorem AllC.get {g : Gx} : ∀ {xs : List Str} {n : Nat}, AllC g n xs → ∀ (c : Nat) (x : Str), xs[c]? = some x → ClsOk g x (g.ca (n + c))
  | [], _, _, c, x, h => by simp at h
  | y :: xs, n, h, 0, x, e => by cases e; exact h.1
  | y :: xs, n, h, c + 1, x, e => by
    have := AllC.get h.2 c x e
    rw [show n + 1 + c = n + (c + 1) by omega] at this
    exact this
theorem AllC.cl {g : Gx} {xs : List Str} (h : AllC g 0 xs) : ∀ (c : Nat) (x : Str), xs[c]? = some x → ∃ (B newId initId : String) (bmB : List Value), ExcBaseFacts B newId initId bmB ∧ PySem.W.excIn g.K (g.ca c) bmB newId = true ∧ g.mg x = some (.ref (g.ca c)) ∧ PySem.W.keepIn g.K (.ref (g.ca c)) = true ∧
    PySem.W.subIn g.K (.ref (g.ca c)) (.type "BaseException") = some true ∧ PySem.W.typeIn g.K (.ref (g.ca c)) = some (.type "type") := fun c x e => by
  have := h.get c x e
  rw [Nat.zero_add] at this
  exact ⟨_, _, _, _, PySem.F.excBase_ValueError, this.ex, this.mg, this.kp, this.sb, this.ty⟩
/-- a def, from what the top has written -/
theorem def_mk {g : Gx} {base : Heap} {T : Tb} {d : Def} {x : Str} {a : Nat} {f : Addr} {ps N : List Str} {oc kV doc pm cdv ct : Value} {od an : Option Addr} {osl : Array (Option Value)} (st : Stmt) (lm : Bool)
    (l : g.K.lookup f = some ⟨oc, od, .func (PySem.W.fnOf x x (defArgs st) (defBody st) (defScope st) .none kV doc pm an cdv ct), osl⟩) (c : PySem.W.codeIn g.K cdv x = true) (k : PySem.W.keepIn g.K (.ref f) = true) (m : g.mg x = some (.ref f))
    (hb : ∀ (kV doc pm : Value) (an : Option Addr) (cdv ct : Value) (us : List Value), us.length = ps.length → bindArgs (PySem.W.fnOf x x (defArgs st) (defBody st) (defScope st) .none kV doc pm an cdv ct) ⟨us, []⟩ = pure (ps.zip us))
    (hp : ps.length = a) (hnp : d.np = a) (hns : d.ns = N.length) (hs : FnScope N ps (defScope st)) (hm : mSs { T with lm := lm } N (defScope st) d.body (defBody st) = true)
    (hl : lm = true → ∃ (c P : Addr), cdv = .ref c ∧ LamX.TabB base g.mg c P ∧ (P, x ++ ".<locals>." ++ "<lambda>") ∈ g.T ∧ ∀ p ∈ g.T, p.1 = P → p.2 = x ++ ".<locals>." ++ "<lambda>") :
    DefOk g base T d x a f (PySem.W.fnOf x x (defArgs st) (defBody st) (defScope st) .none kV doc pm an cdv ct) ps :=
  ⟨hp, m, k, .all (hb kV doc pm an cdv ct), hnp, oc, od, osl, st, kV, doc, pm, an, cdv, ct, N, lm, rfl, l, c, hs, hns, hm, hl⟩
end Pz

set_option Elab.async false
set_option linter.all false
set_option autoImplicit false
set_option maxRecDepth 100000
/-! Pw: reasoning over the interpreter, in plain Lean. -/
namespace Pz
open L2
@[simp] theorem R.st_ok {α : Type} (a : α) (f : α → RS) : (R.ok a).st f = f a := rfl
@[simp] theorem R.st_ex {α : Type} (c : Nat) (S : Sto) (f : α → RS) : (R.ex c S : R α).st f = .ex c S := rfl
@[simp] theorem R.st_bad {α : Type} (f : α → RS) : (R.bad : R α).st f = .bad := rfl
@[simp] theorem R.of_some {α : Type} (a : α) : R.of (some a) = .ok a := rfl
@[simp] theorem R.of_none {α : Type} : R.of (none : Option α) = .bad := rfl
@[simp] theorem R.noex_ok {α : Type} (a : α) : (R.ok a).noex = .ok a := rfl
@[simp] theorem RS.of_some {α : Type} (a : α) (f : α → RS) : RS.of (some a) f = f a := rfl
@[simp] theorem RS.then_nx (E : Env) (S : Sto) (f : Env → Sto → RS) : (RS.nx E S).then_ f = f E S := rfl
@[simp] theorem RS.then_rt (d : D) (o : Bool) (S : Sto) (f : Env → Sto → RS) : (RS.rt d o S).then_ f = .rt d o S := rfl
@[simp] theorem RS.then_ex (c : Nat) (S : Sto) (f : Env → Sto → RS) : (RS.ex c S).then_ f = .ex c S := rfl
@[simp] theorem RS.then_bk (E : Env) (S : Sto) (f : Env → Sto → RS) : (RS.bk E S).then_ f = .bk E S := rfl
@[simp] theorem RS.then_ct (E : Env) (S : Sto) (f : Env → Sto → RS) : (RS.ct E S).then_ f = .ct E S := rfl
@[simp] theorem RS.fin_nx (E : Env) (S : Sto) : (RS.nx E S).fin = .ok (.non, false, S) := rfl
@[simp] theorem RS.fin_rt (d : D) (o : Bool) (S : Sto) : (RS.rt d o S).fin = .ok (d, o, S) := rfl
@[simp] theorem RS.fin_ex (c : Nat) (S : Sto) : (RS.ex c S).fin = .ex c S := rfl
@[simp] theorem RS.mapE_nx (f : Env → Env) (E : Env) (S : Sto) : (RS.nx E S).mapE f = .nx (f E) S := rfl
@[simp] theorem RS.mapE_bk (f : Env → Env) (E : Env) (S : Sto) : (RS.bk E S).mapE f = .nx (f E) S := rfl
@[simp] theorem RS.mapE_rt (f : Env → Env) (d : D) (o : Bool) (S : Sto) : (RS.rt d o S).mapE f = .rt d o S := rfl
@[simp] theorem RS.mapE_ex (f : Env → Env) (c : Nat) (S : Sto) : (RS.ex c S).mapE f = .ex c S := rfl
@[simp] theorem cmp_lt (i j : Int) : cmpEv .lt (.int i) (.int j) = some (decide (i < j)) := rfl
@[simp] theorem cmp_le (i j : Int) : cmpEv .le (.int i) (.int j) = some (decide (i ≤ j)) := by
  show some (decide (i < j) || decide (i = j)) = _
  congr 1
  rw [Bool.eq_iff_iff]; simp; omega
@[simp] theorem cmp_gt (i j : Int) : cmpEv .gt (.int i) (.int j) = some (decide (j < i)) := by
  show some (!decide (i < j) && !decide (i = j)) = _
  congr 1
  rw [Bool.eq_iff_iff]; simp; omega
@[simp] theorem cmp_ge (i j : Int) : cmpEv .ge (.int i) (.int j) = some (decide (j ≤ i)) := by
  show some (!decide (i < j)) = _
  congr 1
  rw [Bool.eq_iff_iff]; simp
@[simp] theorem cmp_eqI (i j : Int) : cmpEv .eq (.int i) (.int j) = some (decide (i = j)) := by
  show (if true then some (i == j) else none) = _
  rw [if_pos rfl]; congr 1
@[simp] theorem cmp_neI (i j : Int) : cmpEv .ne (.int i) (.int j) = some (!decide (i = j)) := by
  show (if true then some (i == j) else none).map _ = _
  rw [if_pos rfl]; rfl
@[simp] theorem bin_addI (i j : Int) : binEv .add (.int i) (.int j) = some (.int (i + j), false) := rfl
@[simp] theorem bin_subI (i j : Int) : binEv .sub (.int i) (.int j) = some (.int (i - j), false) := rfl
theorem bin_mulI {i j : Int} (h : CMulB i j = true) : binEv .mul (.int i) (.int j) = some (.int (i * j), false) := by
  show (if CMulB i j then _ else _) = _
  rw [if_pos h]
theorem bin_modI {i j : Int} (h : 0 < j) : binEv .mod (.int i) (.int j) = some (.int (i % j), false) := by
  show (if 0 < j then _ else _) = _
  rw [if_pos h]
theorem bin_fdivI {i j : Int} (h : 0 < j) (h2 : j < 1073741824) : binEv .fdiv (.int i) (.int j) = some (.int (i / j), false) := by
  show (if 0 < j ∧ j < 1073741824 then _ else _) = _
  rw [if_pos ⟨h, h2⟩]
@[simp] theorem atI2_0 {α : Type} (a b : α) : atI [a, b] 0 = some a := rfl
@[simp] theorem atI2_1 {α : Type} (a b : α) : atI [a, b] 1 = some b := rfl
@[simp] theorem ixN2_0 : ixN 2 0 = some 0 := rfl
@[simp] theorem ixN2_1 : ixN 2 1 = some 1 := rfl
@[simp] theorem bi_abs (i : Int) : biEv .abs [.int i] = some (.int (if i < 0 then -i else i), false) := rfl
@[simp] theorem bi_int (i : Int) : biEv .int [.int i] = some (.int i, false) := rfl
@[simp] theorem bi_intB (b : Bool) : biEv .int [.bl b] = some (.int (if b then 1 else 0), false) := rfl
@[simp] theorem bi_lenL (xs : List D) : biEv .len [.lst xs] = some (.int xs.length, false) := rfl
@[simp] theorem bi_lenT (xs : List D) : biEv .len [.tup xs] = some (.int xs.length, false) := rfl
@[simp] theorem bi_listL (xs : List D) : biEv .list [.lst xs] = some (.lst xs, true) := rfl
@[simp] theorem bi_listT (xs : List D) : biEv .list [.tup xs] = some (.lst xs, true) := rfl
@[simp] theorem bi_tupL (xs : List D) : biEv .tuple [.lst xs] = some (.tup xs, false) := rfl
@[simp] theorem bi_tupT (xs : List D) : biEv .tuple [.tup xs] = some (.tup xs, false) := rfl
theorem bi_all (xs : List D) : biEv .all [.lst xs] = (D.bls xs).map fun bs => (.bl (bs.all id), false) := rfl
theorem bi_sortL (xs : List D) : biEv .sorted [.lst xs] = (sortEv xs).map fun ys => (.lst ys, true) := rfl
theorem bi_sortT (xs : List D) : biEv .sorted [.tup xs] = (sortEv xs).map fun ys => (.lst ys, true) := rfl
@[simp] theorem ix_L (S : Sto) (xs : List D) (i : Int) : ixEv S (.lst xs) (.int i) = atI xs i := rfl
@[simp] theorem ix_T (S : Sto) (xs : List D) (i : Int) : ixEv S (.tup xs) (.int i) = atI xs i := rfl
@[simp] theorem ix_H (S : Sto) (n : Nat) (i : Int) : ixEv S (.hd n) (.int i) = (S[n]?).bind fun xs => atI xs i := rfl
@[simp] theorem tru_bl (b : Bool) : D.tru (.bl b) = some b := rfl
/-- it gives a value, with Q -/
def wpR {α : Type} (r : R α) (Q : α → Prop) : Prop := match r with
  | .ok a => Q a
  | _ => False
theorem wpR_ok {α : Type} {a : α} {Q : α → Prop} : wpR (.ok a) Q ↔ Q a := Iff.rfl
theorem wpR.bind {α β : Type} {r : R α} {f : α → R β} {Q : β → Prop} (h : wpR r fun a => wpR (f a) Q) : wpR (r.bind f) Q := by
  cases r with
  | ok a => exact h
  | ex c S => exact h
  | bad => exact h
theorem wpR.mono {α : Type} {r : R α} {Q Q' : α → Prop} (h : wpR r Q) (i : ∀ a, Q a → Q' a) : wpR r Q' := by
  cases r with
  | ok a => exact i a h
  | ex c S => exact h
  | bad => exact h
/-- it goes on with N, or returns with T -/
def wpS (r : RS) (N : Env → Sto → Prop) (T : D → Bool → Sto → Prop) : Prop := match r with
  | .nx E S => N E S
  | .rt d o S => T d o S
  | _ => False
theorem wpS.st {α : Type} {r : R α} {f : α → RS} {N : Env → Sto → Prop} {T : D → Bool → Sto → Prop} (h : wpR r fun a => wpS (f a) N T) : wpS (r.st f) N T := by
  cases r with
  | ok a => exact h
  | ex c S => exact h
  | bad => exact h
theorem wpS.then_ {r : RS} {f : Env → Sto → RS} {N : Env → Sto → Prop} {T : D → Bool → Sto → Prop} (h : wpS r (fun E S => wpS (f E S) N T) T) : wpS (r.then_ f) N T := by
  cases r with
  | nx E S => exact h
  | rt d o S => exact h
  | _ => exact h.elim
theorem wpS.fin {r : RS} {Q : D × Bool × Sto → Prop} (h : wpS r (fun _ S => Q (.non, false, S)) fun d o S => Q (d, o, S)) : wpR r.fin Q := by
  cases r with
  | nx E S => exact h
  | rt d o S => exact h
  | _ => exact h.elim
/-- a walk: I by what is left -/
theorem wpS.for_ {t : Tg} {fb : Env → Sto → RS} {N : Env → Sto → Prop} {T : D → Bool → Sto → Prop} (I : List D → Env → Sto → Prop) (hn : ∀ E S, I [] E S → N E S)
    (hs : ∀ x xs E S, I (x :: xs) E S → ∃ E1, putT t x false E = some E1 ∧ match fb E1 S with
      | .nx E2 S2 => I xs E2 S2
      | .ct E2 S2 => I xs E2 S2
      | .rt d o S2 => T d o S2
      | _ => False) : ∀ (xs : List D) (E : Env) (S : Sto), I xs E S → wpS (forGo t fb xs E S) N T
  | [], E, S, h => hn E S h
  | x :: xs, E, S, h => by
    obtain ⟨E1, h1, h2⟩ := hs x xs E S h
    unfold forGo
    rw [h1, RS.of_some]
    cases e : fb E1 S with
    | nx E2 S2 => rw [e] at h2; exact wpS.for_ I hn hs xs E2 S2 h2
    | ct E2 S2 => rw [e] at h2; exact wpS.for_ I hn hs xs E2 S2 h2
    | rt d o S2 => rw [e] at h2; exact h2
    | bk E2 S2 => rw [e] at h2; exact h2.elim
    | ex c S2 => rw [e] at h2; exact h2.elim
    | bad => rw [e] at h2; exact h2.elim
end Pz

set_option linter.all false
set_option autoImplicit false
set_option maxRecDepth 100000
/-! Pw2: lists of ints. -/
namespace Pz
open L2
theorem dps_ints (n : Nat) : ∀ ns : List Int, D.dps n (dI ns) = true
  | [] => by simp [dI, D.dps]
  | i :: ns => by
    have h := dps_ints n ns
    unfold dI at h ⊢
    rw [List.map_cons, D.dps, h]
    cases n <;> rfl
theorem memB_ints (a : Int) : ∀ ns : List Int, memB (.int a) (dI ns) = decide (a ∈ ns)
  | [] => rfl
  | i :: ns => by
    have h := memB_ints a ns
    unfold dI at h ⊢
    rw [List.map_cons, memB, h]
    show ((i == a) || _) = _
    by_cases e : i = a
    · subst e; rw [decide_eq_true (List.mem_cons_self)]
      have : (i == i) = true := beq_self_eq_true i
      rw [this]; rfl
    · have : (i == a) = false := beq_eq_false_iff_ne.mpr e
      rw [this, Bool.false_or]
      exact decide_eq_decide.mpr ⟨fun h => List.mem_cons_of_mem _ h, fun h => (List.mem_cons.mp h).elim (fun z => absurd z.symm e) id⟩
theorem mem_ints (a : Int) (ns : List Int) : cmpEv .mem (.int a) (.lst (dI ns)) = some (decide (a ∈ ns)) := by
  show (if D.dp dpth (.int a) && D.dps dpth (dI ns) then some (memB (.int a) (dI ns)) else none) = _
  rw [dps_ints, memB_ints]
  rfl
theorem nme_ints (a : Int) (ns : List Int) : cmpEv .nme (.int a) (.lst (dI ns)) = some (!decide (a ∈ ns)) := by
  show (memEv _ _).map _ = _
  have := mem_ints a ns
  have e : memEv (.int a) (.lst (dI ns)) = some (decide (a ∈ ns)) := this
  rw [e]; rfl
theorem lfs_ints : ∀ ns : List Int, D.lfs (dI ns) = true
  | [] => rfl
  | i :: ns => by
    have h := lfs_ints ns
    unfold dI at h ⊢
    rw [List.map_cons, D.lfs, h]; rfl
end Pz

set_option linter.all false
set_option autoImplicit false
set_option maxRecDepth 100000
/-! Pw3: rules for statements, walks, comprehensions. -/
namespace Pz
open L2
/-- what holds of an outcome -/
structure W (r : RS) (Q : RS → Prop) : Prop where
  out : Q r
/-- go on with f -/
def Kn (f : Env → Sto → Prop) (Q : RS → Prop) : RS → Prop
  | .nx E S => f E S
  | o => Q o
@[simp] theorem Kn_nx (f : Env → Sto → Prop) (Q : RS → Prop) (E : Env) (S : Sto) : Kn f Q (.nx E S) = f E S := rfl
@[simp] theorem Kn_rt (f : Env → Sto → Prop) (Q : RS → Prop) (d : D) (o : Bool) (S : Sto) : Kn f Q (.rt d o S) = Q (.rt d o S) := rfl
@[simp] theorem Kn_bk (f : Env → Sto → Prop) (Q : RS → Prop) (E : Env) (S : Sto) : Kn f Q (.bk E S) = Q (.bk E S) := rfl
@[simp] theorem Kn_ct (f : Env → Sto → Prop) (Q : RS → Prop) (E : Env) (S : Sto) : Kn f Q (.ct E S) = Q (.ct E S) := rfl
@[simp] theorem Kn_ex (f : Env → Sto → Prop) (Q : RS → Prop) (c : Nat) (S : Sto) : Kn f Q (.ex c S) = Q (.ex c S) := rfl
/-- a turn: I behind it -/
def Lp (I : Env → Sto → Prop) (Q : RS → Prop) : RS → Prop
  | .nx E S => I E S
  | .ct E S => I E S
  | .bad => False
  | o => Q o
@[simp] theorem Lp_nx (f : Env → Sto → Prop) (Q : RS → Prop) (E : Env) (S : Sto) : Lp f Q (.nx E S) = f E S := rfl
@[simp] theorem Lp_ct (f : Env → Sto → Prop) (Q : RS → Prop) (E : Env) (S : Sto) : Lp f Q (.ct E S) = f E S := rfl
@[simp] theorem Lp_rt (f : Env → Sto → Prop) (Q : RS → Prop) (d : D) (o : Bool) (S : Sto) : Lp f Q (.rt d o S) = Q (.rt d o S) := rfl
@[simp] theorem Lp_bk (f : Env → Sto → Prop) (Q : RS → Prop) (E : Env) (S : Sto) : Lp f Q (.bk E S) = Q (.bk E S) := rfl
@[simp] theorem Lp_ex (f : Env → Sto → Prop) (Q : RS → Prop) (c : Nat) (S : Sto) : Lp f Q (.ex c S) = Q (.ex c S) := rfl
/-- behind a walk -/
def Mp (g : Env → Env) (Q : RS → Prop) : RS → Prop
  | .nx E S => Q (.nx (g E) S)
  | .bk E S => Q (.nx (g E) S)
  | .ct _ _ => False
  | o => Q o
@[simp] theorem Mp_nx (g : Env → Env) (Q : RS → Prop) (E : Env) (S : Sto) : Mp g Q (.nx E S) = Q (.nx (g E) S) := rfl
@[simp] theorem Mp_bk (g : Env → Env) (Q : RS → Prop) (E : Env) (S : Sto) : Mp g Q (.bk E S) = Q (.nx (g E) S) := rfl
@[simp] theorem Mp_rt (g : Env → Env) (Q : RS → Prop) (d : D) (o : Bool) (S : Sto) : Mp g Q (.rt d o S) = Q (.rt d o S) := rfl
@[simp] theorem Mp_ex (g : Env → Env) (Q : RS → Prop) (c : Nat) (S : Sto) : Mp g Q (.ex c S) = Q (.ex c S) := rfl
@[simp] theorem W_nx (Q : RS → Prop) (E : Env) (S : Sto) : W (.nx E S) Q = Q (.nx E S) := propext ⟨W.out, W.mk⟩
@[simp] theorem W_rt (Q : RS → Prop) (d : D) (o : Bool) (S : Sto) : W (.rt d o S) Q = Q (.rt d o S) := propext ⟨W.out, W.mk⟩
@[simp] theorem W_bk (Q : RS → Prop) (E : Env) (S : Sto) : W (.bk E S) Q = Q (.bk E S) := propext ⟨W.out, W.mk⟩
@[simp] theorem W_ct (Q : RS → Prop) (E : Env) (S : Sto) : W (.ct E S) Q = Q (.ct E S) := propext ⟨W.out, W.mk⟩
@[simp] theorem W_ex (Q : RS → Prop) (c : Nat) (S : Sto) : W (.ex c S) Q = Q (.ex c S) := propext ⟨W.out, W.mk⟩
@[simp] theorem W_nil (cf : CF) (gl : Gv) (E : Env) (S : Sto) (Q : RS → Prop) : W (exes cf gl .nil E S) Q = Q (.nx E S) := by
  unfold exes; exact propext ⟨W.out, W.mk⟩
theorem W.seq {cf : CF} {gl : Gv} {s : QS} {r : QSs} {E : Env} {S : Sto} {Q : RS → Prop} (h : W (exe cf gl s E S) (Kn (fun E' S' => W (exes cf gl r E' S') Q) Q)) : W (exes cf gl (.cons s r) E S) Q := by
  unfold exes
  cases e : exe cf gl s E S <;> rw [e] at h <;> first | exact h.out | exact ⟨h.out⟩
theorem W.mapE {r : RS} {g : Env → Env} {Q : RS → Prop} (h : W r (Mp g Q)) : W (r.mapE g) Q := by
  cases r <;> first | exact ⟨h.out⟩ | exact h.out.elim
theorem W.mono {r : RS} {Q Q' : RS → Prop} (h : W r Q) (i : ∀ o, Q o → Q' o) : W r Q' := ⟨i _ h.out⟩
theorem W.ite {c : Prop} [Decidable c] {a b : RS} {Q : RS → Prop} (h1 : c → W a Q) (h2 : ¬ c → W b Q) : W (if c then a else b) Q := by
  split
  · exact h1 ‹_›
  · exact h2 ‹_›
/-- a walk -/
theorem W.for_ {t : Tg} {fb : Env → Sto → RS} {Q : RS → Prop} (I : List D → Env → Sto → Prop) {xs : List D} {E : Env} {S : Sto} (h0 : I xs E S)
    (hs : ∀ x xs E S, I (x :: xs) E S → ∃ E1, putT t x false E = some E1 ∧ W (fb E1 S) (Lp (I xs) Q)) (hn : ∀ E S, I [] E S → Q (.nx E S)) : W (forGo t fb xs E S) Q := by
  induction xs generalizing E S with
  | nil => exact ⟨hn E S h0⟩
  | cons x xs ih =>
    obtain ⟨E1, h1, h2⟩ := hs x xs E S h0
    unfold forGo
    rw [h1, RS.of_some]
    have h2 := h2.out
    cases e : fb E1 S with
    | nx E2 S2 => rw [e] at h2; exact ih h2
    | ct E2 S2 => rw [e] at h2; exact ih h2
    | rt d o S2 => rw [e] at h2; exact ⟨h2⟩
    | bk E2 S2 => rw [e] at h2; exact ⟨h2⟩
    | ex c S2 => rw [e] at h2; exact ⟨h2⟩
    | bad => rw [e] at h2; exact h2.elim
/-- a walk over things of one kind -/
theorem W.forM {α : Type} {t : Tg} {fb : Env → Sto → RS} {Q : RS → Prop} (enc : α → D) (I : List α → Env → Sto → Prop) {L : List α} {E : Env} {S : Sto} (h0 : I L E S)
    (hs : ∀ x xs E S, I (x :: xs) E S → ∃ E1, putT t (enc x) false E = some E1 ∧ W (fb E1 S) (Lp (I xs) Q)) (hn : ∀ E S, I [] E S → Q (.nx E S)) : W (forGo t fb (L.map enc) E S) Q := by
  refine W.for_ (fun ds E S => ∃ L', ds = L'.map enc ∧ I L' E S) ⟨L, rfl, h0⟩ ?_ ?_
  · rintro x xs E S ⟨L', e, h⟩
    cases L' with
    | nil => cases e
    | cons a L' =>
      cases e
      obtain ⟨E1, h1, h2⟩ := hs a L' E S h
      refine ⟨E1, h1, h2.mono fun o ho => ?_⟩
      cases o <;> first | exact ho | exact ⟨L', rfl, ho⟩
  · rintro E S ⟨L', e, h⟩
    cases L' with
    | nil => exact hn E S h
    | cons a L' => cases e
theorem fin_of_W {r : RS} {d : D} {o : Bool} {S : Sto} (h : W r fun x => x = .rt d o S) : r.fin = .ok (d, o, S) := by
  rw [h.out]; rfl
/-- a def's end -/
def Fin (P : D → Bool → Sto → Prop) : RS → Prop
  | .nx _ S => P .non false S
  | .rt d o S => P d o S
  | _ => False
@[simp] theorem Fin_nx (P : D → Bool → Sto → Prop) (E : Env) (S : Sto) : Fin P (.nx E S) = P .non false S := rfl
@[simp] theorem Fin_rt (P : D → Bool → Sto → Prop) (d : D) (o : Bool) (S : Sto) : Fin P (.rt d o S) = P d o S := rfl
theorem W.fin {r : RS} {P : D → Bool → Sto → Prop} (h : W r (Fin P)) : ∃ d o S, r.fin = .ok (d, o, S) ∧ P d o S := by
  cases r with
  | nx E S => exact ⟨_, _, _, rfl, h.out⟩
  | rt d o S => exact ⟨_, _, _, rfl, h.out⟩
  | _ => exact h.out.elim
theorem W.finEq {r : RS} {d : D} {o : Bool} {S : Sto} (h : W r (Fin fun d' o' S' => d' = d ∧ o' = o ∧ S' = S)) : r.fin = .ok (d, o, S) := by
  obtain ⟨_, _, _, e, rfl, rfl, rfl⟩ := h.fin
  exact e

/-! comprehensions -/
theorem lcGo_map {α : Type} (enc : α → D) (p : α → Bool) (v : α → D) {t : Tg} {own : List Nat} {fc : Env → Sto → R (Bool × Sto)} {fe : Env → Sto → R (D × Bool × Sto)} {E : Env} {S : Sto} : ∀ {L : List α},
    (∀ a ∈ L, ∃ E1 o1, bindC t (enc a) (wipeE E own) = some E1 ∧ fc E1 S = .ok (p a, S) ∧ (p a = true → fe E1 S = .ok (v a, o1, S))) → lcGo t own fc fe E (L.map enc) S = .ok ((L.filter p).map v, S)
  | [], _ => rfl
  | a :: L, h => by
    obtain ⟨E1, o1, h1, h2, h3⟩ := h a List.mem_cons_self
    have ih := lcGo_map enc p v (L := L) fun b hb => h b (List.mem_cons_of_mem _ hb)
    rw [List.map_cons, lcGo, h1]
    show ((fc E1 S).noex.bind _) = _
    rw [h2, R.noex_ok, R.bind_ok]
    by_cases hp : p a = true
    · rw [if_pos hp, h3 hp, R.noex_ok, R.bind_ok, ih, R.bind_ok, List.filter_cons_of_pos hp]; rfl
    · rw [if_neg hp, ih, List.filter_cons_of_neg hp]
theorem lcGo_all {α : Type} (enc : α → D) (v : α → D) {t : Tg} {own : List Nat} {fc : Env → Sto → R (Bool × Sto)} {fe : Env → Sto → R (D × Bool × Sto)} {E : Env} {S : Sto} {L : List α}
    (h : ∀ a ∈ L, ∃ E1 o1, bindC t (enc a) (wipeE E own) = some E1 ∧ fc E1 S = .ok (true, S) ∧ fe E1 S = .ok (v a, o1, S)) : lcGo t own fc fe E (L.map enc) S = .ok (L.map v, S) := by
  have e : L.filter (fun _ => true) = L := List.filter_eq_self.mpr fun _ _ => rfl
  have := lcGo_map enc (fun _ => true) v (t := t) (own := own) (fc := fc) (fe := fe) (E := E) (S := S) (L := L) fun a ha => by
    obtain ⟨E1, o1, h1, h2, h3⟩ := h a ha
    exact ⟨E1, o1, h1, h2, fun _ => h3⟩
  rw [this, e]
/-- related item by item -/
inductive All2 {α β : Type} (P : α → β → Prop) : List α → List β → Prop where
  | nil : All2 P [] []
  | cons {a : α} {b : β} {as : List α} {bs : List β} : P a b → All2 P as bs → All2 P (a :: as) (b :: bs)
theorem All2.length {α β : Type} {P : α → β → Prop} {as : List α} {bs : List β} (h : All2 P as bs) : as.length = bs.length := by
  induction h with
  | nil => rfl
  | cons _ _ ih => simp [ih]
theorem All2.right {α β : Type} {P : α → β → Prop} {as : List α} {bs : List β} (h : All2 P as bs) {b : β} (hb : b ∈ bs) : ∃ a ∈ as, P a b := by
  induction h with
  | nil => cases hb
  | cons p _ ih =>
    rcases List.mem_cons.mp hb with rfl | hb
    · exact ⟨_, List.mem_cons_self, p⟩
    · obtain ⟨a, ha, hp⟩ := ih hb; exact ⟨a, List.mem_cons_of_mem _ ha, hp⟩
theorem All2.left {α β : Type} {P : α → β → Prop} {as : List α} {bs : List β} (h : All2 P as bs) {a : α} (ha : a ∈ as) : ∃ b ∈ bs, P a b := by
  induction h with
  | nil => cases ha
  | cons p _ ih =>
    rcases List.mem_cons.mp ha with rfl | ha
    · exact ⟨_, List.mem_cons_self, p⟩
    · obtain ⟨a, ha, hp⟩ := ih ha; exact ⟨a, List.mem_cons_of_mem _ ha, hp⟩
/-- each turn draws -/
theorem lcGo_draw {α β : Type} (enc : α → D) (J : Sto → Prop) (P : α → β → Prop) (dec : β → D) {t : Tg} {own : List Nat} {fc : Env → Sto → R (Bool × Sto)} {fe : Env → Sto → R (D × Bool × Sto)} {E : Env} : ∀ {S : Sto} {L : List α}, J S →
    (∀ a ∈ L, ∀ S, J S → ∃ E1 o1 b S', bindC t (enc a) (wipeE E own) = some E1 ∧ fc E1 S = .ok (true, S) ∧ fe E1 S = .ok (dec b, o1, S') ∧ J S' ∧ P a b) → ∃ bs S', lcGo t own fc fe E (L.map enc) S = .ok (bs.map dec, S') ∧ J S' ∧ All2 P L bs
  | S, [], h0, _ => ⟨[], S, rfl, h0, .nil⟩
  | S, a :: L, h0, h => by
    obtain ⟨E1, o1, b, S1, h1, h2, h3, h4, h5⟩ := h a List.mem_cons_self S h0
    obtain ⟨bs, S2, h6, h7, h8⟩ := lcGo_draw enc J P dec (L := L) h4 fun b hb => h b (List.mem_cons_of_mem _ hb)
    refine ⟨b :: bs, S2, ?_, h7, .cons h5 h8⟩
    rw [List.map_cons, lcGo, h1]
    show ((fc E1 S).noex.bind _) = _
    rw [h2, R.noex_ok, R.bind_ok]
    show (fe E1 S).noex.bind _ = _
    rw [h3, R.noex_ok, R.bind_ok, h6, R.bind_ok]
    rfl
theorem bls_map {α : Type} (b : α → Bool) : ∀ L : List α, D.bls (L.map fun a => .bl (b a)) = some (L.map b)
  | [] => rfl
  | a :: L => by
    show (D.bls (L.map fun a => .bl (b a))).map _ = _
    rw [bls_map b L]; rfl
@[simp] theorem bi_allM {α : Type} (b : α → Bool) (L : List α) : biEv .all [.lst (L.map fun a => .bl (b a))] = some (.bl (L.all b), false) := by
  rw [bi_all, bls_map]
  show some (D.bl ((L.map b).all id), false) = _
  rw [List.all_map]; rfl
@[simp] theorem bi_anyM {α : Type} (b : α → Bool) (L : List α) : biEv .any [.lst (L.map fun a => .bl (b a))] = some (.bl (L.any b), false) := by
  show (D.bls _).map _ = _
  rw [bls_map]
  show some (D.bl ((L.map b).any id), false) = _
  rw [List.any_map]; rfl
theorem ints_map (ns : List Int) : D.ints (ns.map D.int) = some ns := by
  induction ns with
  | nil => rfl
  | cons i ns ih =>
    show (D.ints (ns.map D.int)).map _ = _
    rw [ih]; rfl
/-! pairs -/
abbrev Ar := Int × Int
def arD (a : Ar) : D := .tup [.int a.1, .int a.2]
def ltA (a b : Ar) : Bool := decide (a.1 < b.1) || (decide (a.1 = b.1) && decide (a.2 < b.2))
theorem lexA (a b : Ar) : lexLtB [a.1, a.2] [b.1, b.2] = ltA a b := by
  simp only [lexLtB, ltA]
  by_cases h : a.1 = b.1 <;> simp [h]
  by_cases h2 : a.2 = b.2 <;> simp [h2]
theorem cmp_ltA (a b : Ar) : cmpEv .lt (arD a) (arD b) = some (ltA a b) := by
  show some _ = _
  rw [lexA]
theorem cmp_leA (a b : Ar) : cmpEv .le (arD a) (arD b) = some (!ltA b a) := by
  show some (lexLtB [a.1, a.2] [b.1, b.2] || decide ([a.1, a.2] = [b.1, b.2])) = _
  rw [lexA]; congr 1
  simp only [ltA, List.cons.injEq, and_true]
  rw [Bool.eq_iff_iff]; simp; omega
theorem cmp_gtA (a b : Ar) : cmpEv .gt (arD a) (arD b) = some (ltA b a) := by
  show some (!lexLtB [a.1, a.2] [b.1, b.2] && !decide ([a.1, a.2] = [b.1, b.2])) = _
  rw [lexA]; congr 1
  simp only [ltA, List.cons.injEq, and_true]
  rw [Bool.eq_iff_iff]; simp; omega
end Pz

set_option linter.all false
set_option autoImplicit false
set_option maxRecDepth 100000
/-! Pw4: what simp knows of the interpreter. -/
namespace Pz
open L2 PySem
section
variable (cf : CF) (gl : Gv) (E : Env) (S : Sto)
@[simp] theorem ev_var (i : Nat) : ev cf gl (.var i) E S = match E[i]? with
    | some (some p) => .ok (p.1, false, S)
    | _ => .bad := by first | (simp only [ev]; done) | (simp only [ev]; rfl)
@[simp] theorem ev_con (d : D) : ev cf gl (.con d) E S = .ok (d, false, S) := by first | (simp only [ev]; done) | (simp only [ev]; rfl)
@[simp] theorem ev_glo (j : Nat) : ev cf gl (.glo j) E S = match gl.vals[j]? with
    | some d => .ok (d, false, S)
    | none => .bad := by first | (simp only [ev]; done) | (simp only [ev]; rfl)
@[simp] theorem ev_fnv (j : Nat) : ev cf gl (.fnv j) E S = .ok (.fn j, false, S) := by first | (simp only [ev]; done) | (simp only [ev]; rfl)
@[simp] theorem ev_bin (o : BOp) (a b : PX) : ev cf gl (.bin o a b) E S = (ev cf gl a E S).bind fun x => (ev cf gl b E x.2.2).bind fun y => (R.of (binEv o x.1 y.1)).bind fun z => .ok (z.1, z.2, y.2.2) := by first | (simp only [ev]; done) | (simp only [ev]; rfl)
@[simp] theorem ev_neg (a : PX) : ev cf gl (.neg a) E S = (ev cf gl a E S).bind fun x => match x.1 with
    | .int i => .ok (.int (-i), false, x.2.2)
    | _ => .bad := by first | (simp only [ev]; done) | (simp only [ev]; rfl)
@[simp] theorem ev_cmp (o : COp) (a b : PX) : ev cf gl (.cmp o a b) E S = (ev cf gl a E S).bind fun x => (ev cf gl b E x.2.2).bind fun y => (R.of (cmpEv o x.1 y.1)).bind fun z => .ok (.bl z, false, y.2.2) := by first | (simp only [ev]; done) | (simp only [ev]; rfl)
@[simp] theorem ev_chn (o o' : COp) (a b c : PX) : ev cf gl (.chn o o' a b c) E S = (ev cf gl a E S).bind fun x => (ev cf gl b E x.2.2).bind fun y => (R.of (cmpEv o x.1 y.1)).bind fun z =>
      if z then (ev cf gl c E y.2.2).bind fun u => (R.of (cmpEv o' y.1 u.1)).bind fun z' => .ok (.bl z', false, u.2.2) else .ok (.bl false, false, y.2.2) := by first | (simp only [ev]; done) | (simp only [ev]; rfl)
@[simp] theorem ev_bop (k : Bool) (xs : PXs) : ev cf gl (.bop k xs) E S = evB cf gl k xs E S := by first | (simp only [ev]; done) | (simp only [ev]; rfl)
@[simp] theorem ev_not (a : PX) : ev cf gl (.not a) E S = (ev cf gl a E S).bind fun x => (R.of x.1.tru).bind fun b => .ok (.bl (!b), false, x.2.2) := by first | (simp only [ev]; done) | (simp only [ev]; rfl)
@[simp] theorem ev_ife (t a b : PX) : ev cf gl (.ife t a b) E S = (ev cf gl t E S).bind fun x => (R.of x.1.tru).bind fun c => if c then ev cf gl a E x.2.2 else ev cf gl b E x.2.2 := by first | (simp only [ev]; done) | (simp only [ev]; rfl)
@[simp] theorem ev_call (j : Nat) (xs : PXs) : ev cf gl (.call j xs) E S = (evs cf gl xs E S).bind fun p => cf j (p.1.map (·.1)) p.2 := by first | (simp only [ev]; done) | (simp only [ev]; rfl)
@[simp] theorem ev_bi (b : Bi) (xs : PXs) : ev cf gl (.bi b xs) E S = (evs cf gl xs E S).bind fun p => (R.of (biEv b (p.1.map (·.1)))).bind fun z => .ok (z.1, z.2, p.2) := by first | (simp only [ev]; done) | (simp only [ev]; rfl)
@[simp] theorem ev_isi (a : PX) (T : Ty) : ev cf gl (.isi a T) E S = (ev cf gl a E S).bind fun x => (R.of (isTy T x.1)).bind fun z => .ok (.bl z, false, x.2.2) := by first | (simp only [ev]; done) | (simp only [ev]; rfl)
@[simp] theorem ev_ix (a b : PX) : ev cf gl (.ix a b) E S = (ev cf gl a E S).bind fun x => (ev cf gl b E x.2.2).bind fun y => (R.of (ixEv y.2.2 x.1 y.1)).bind fun z => .ok (z, false, y.2.2) := by first | (simp only [ev]; done) | (simp only [ev]; rfl)
@[simp] theorem ev_sl (a : PX) (lo hi : PXo) : ev cf gl (.sl a lo hi) E S = (ev cf gl a E S).bind fun x => (evo cf gl lo E x.2.2).bind fun l => (evo cf gl hi E l.2).bind fun h => (R.of (slEv x.1 l.1 h.1)).bind fun z => .ok (z.1, z.2, h.2) := by first | (simp only [ev]; done) | (simp only [ev]; rfl)
@[simp] theorem ev_rev (a : PX) : ev cf gl (.rev a) E S = (ev cf gl a E S).bind fun x => (R.of (revEv x.1)).bind fun z => .ok (z.1, z.2, x.2.2) := by first | (simp only [ev]; done) | (simp only [ev]; rfl)
@[simp] theorem ev_tup (xs : PXs) : ev cf gl (.tup xs) E S = (evs cf gl xs E S).bind fun p => if p.1.length ≤ line then .ok (.tup (p.1.map (·.1)), false, p.2) else .bad := by first | (simp only [ev]; done) | (simp only [ev]; rfl)
@[simp] theorem ev_lst (xs : PXs) : ev cf gl (.lst xs) E S = (evs cf gl xs E S).bind fun p => if p.1.length ≤ line then .ok (.lst (p.1.map (·.1)), true, p.2) else .bad := by first | (simp only [ev]; done) | (simp only [ev]; rfl)
@[simp] theorem ev_lc (own : List Nat) (elt : PX) (t : Tg) (it : PIt) (c : PXs) : ev cf gl (.lc own elt t it c) E S = (evi cf gl it E S).bind fun p => if p.1.length ≤ line then
      (lcGo t own (fun E1 S1 => evC cf gl c E1 S1) (fun E1 S1 => ev cf gl elt E1 S1) E p.1 p.2.2).bind fun q => .ok (.lst q.1, true, q.2) else .bad := by first | (simp only [ev]; done) | (simp only [ev]; rfl)
@[simp] theorem ev_lam (j : Nat) (a : PX) : ev cf gl (.lam j a) E S = lamEv gl.hds j (ev cf gl a E S) := by first | (simp only [ev]; done) | (simp only [ev]; rfl)
@[simp] theorem ev_cvr1 (t : Bool) (a : PX) : ev cf gl (.cvr1 t a) E S = (ev cf gl a E S).bind fun p => cvrEv t p.2.2 (.int 0) p.1 := by first | (simp only [ev]; done) | (simp only [ev]; rfl)
@[simp] theorem ev_cvr2 (t : Bool) (a b : PX) : ev cf gl (.cvr2 t a b) E S = (ev cf gl a E S).bind fun p => (ev cf gl b E p.2.2).bind fun q => cvrEv t q.2.2 p.1 q.1 := by first | (simp only [ev]; done) | (simp only [ev]; rfl)
@[simp] theorem evs_nil : evs cf gl .nil E S = .ok ([], S) := by simp only [evs]
@[simp] theorem evs_cons (x : PX) (xs : PXs) : evs cf gl (.cons x xs) E S = (ev cf gl x E S).bind fun p => (evs cf gl xs E p.2.2).bind fun q => .ok ((p.1, p.2.1) :: q.1, q.2) := by simp only [evs]
@[simp] theorem evB_one (k : Bool) (x : PX) : evB cf gl k (.cons x .nil) E S = ev cf gl x E S := by simp only [evB]
@[simp] theorem evB_cons (k : Bool) (x y : PX) (ys : PXs) : evB cf gl k (.cons x (.cons y ys)) E S = (ev cf gl x E S).bind fun p => (R.of p.1.tru).bind fun c => if c == k then evB cf gl k (.cons y ys) E p.2.2 else .ok (p.1, false, p.2.2) := by simp only [evB]
@[simp] theorem evC_nil : evC cf gl .nil E S = .ok (true, S) := by simp only [evC]
@[simp] theorem evC_one (x : PX) : evC cf gl (.cons x .nil) E S = (ev cf gl x E S).bind fun p => (R.of p.1.tru).bind fun c => .ok (c, p.2.2) := by simp only [evC]
@[simp] theorem evo_no : evo cf gl .no E S = .ok (none, S) := by simp only [evo]
@[simp] theorem evo_so (x : PX) : evo cf gl (.so x) E S = (ev cf gl x E S).bind fun p => (R.of p.1.oInt).bind fun i => .ok (i, p.2.2) := by simp only [evo]
@[simp] theorem evi_val (x : PX) : evi cf gl (.val x) E S = (ev cf gl x E S).bind fun p => (R.of (itemsOf p.1)).bind fun ds => .ok (ds, (p.2.1 || !isLst p.1) && D.lfs ds, p.2.2) := by first | (simp only [evi]; done) | (simp only [evi]; rfl)
@[simp] theorem evi_rng1 (a : PX) : evi cf gl (.rng1 a) E S = (ev cf gl a E S).bind fun p => match p.1 with
    | .int j => if smallI j then .ok (rngD 0 j.toNat, true, p.2.2) else .bad
    | _ => .bad := by first | (simp only [evi]; done) | (simp only [evi]; rfl)
@[simp] theorem evi_rng2 (a b : PX) : evi cf gl (.rng2 a b) E S = (ev cf gl a E S).bind fun p => (ev cf gl b E p.2.2).bind fun q => match p.1, q.1 with
    | .int i, .int j => if smallI i && smallI j then .ok (rngD i (j - i).toNat, true, q.2.2) else .bad
    | _, _ => .bad := by first | (simp only [evi]; done) | (simp only [evi]; rfl)
@[simp] theorem evi_zip (a b : PX) : evi cf gl (.zip a b) E S = (ev cf gl a E S).bind fun p => (ev cf gl b E p.2.2).bind fun q => if isLst p.1 == isLst q.1 then (R.of (seqOf p.1)).bind fun xs => (R.of (seqOf q.1)).bind fun ys => .ok (zipD xs ys, ((p.2.1 || !isLst p.1) && D.lfs xs) && ((q.2.1 || !isLst q.1) && D.lfs ys), q.2.2) else .bad := by first | (simp only [evi]; done) | (simp only [evi]; rfl)
@[simp] theorem evi_enum (a : PX) : evi cf gl (.enum a) E S = (ev cf gl a E S).bind fun p => (R.of (seqOf p.1)).bind fun xs => .ok (enumD 0 xs, (p.2.1 || !isLst p.1) && D.lfs xs, p.2.2) := by first | (simp only [evi]; done) | (simp only [evi]; rfl)
@[simp] theorem exe_asg (t : Tg) (e : PX) : exe cf gl (.asg t e) E S = (ev cf gl e E S).st fun p => RS.of (putT t p.1 p.2.1 E) fun E' => .nx E' p.2.2 := by first | (simp only [exe]; done) | (simp only [exe]; rfl)
@[simp] theorem exe_par (is : List Nat) (es : PXs) : exe cf gl (.par is es) E S = (evs cf gl es E S).st fun p => RS.of (parAll is p.1 E) fun E' => .nx E' p.2 := by first | (simp only [exe]; done) | (simp only [exe]; rfl)
@[simp] theorem exe_mv (i j : Nat) : exe cf gl (.mv i j) E S = match E[j]? with
    | some (some (d, o)) => if o then .nx ((E.set j none).set i (some (d, true))) S else .nx (put i d false E) S
    | _ => .bad := by first | (simp only [exe]; done) | (simp only [exe]; rfl)
@[simp] theorem exe_mkh (i : Nat) (e : PX) : exe cf gl (.mkh i e) E S = (ev cf gl e E S).st fun p => match p.1 with
    | .lst ds => if p.2.1 && D.lfs ds then .nx (E.set i (some (.hd p.2.2.length, false))) (p.2.2 ++ [ds]) else .bad
    | _ => .bad := by first | (simp only [exe]; done) | (simp only [exe]; rfl)
@[simp] theorem exe_seti (i : Nat) (k e : PX) : exe cf gl (.seti i k e) E S = (ev cf gl e E S).st fun p => match E[i]? with
    | some (some u) => (ev cf gl k E p.2.2).st fun q => if p.1.lf then setEv i u.1 u.2 p.1 q.1 E q.2.2 else .bad
    | _ => .bad := by first | (simp only [exe]; done) | (simp only [exe]; rfl)
@[simp] theorem exe_app (i : Nat) (e : PX) : exe cf gl (.app i e) E S = match ownL E i with
    | some ds => (ev cf gl e E S).st fun p => if p.1.lf && decide (ds.length < line) then .nx (E.set i (some (.lst (ds ++ [p.1]), true))) p.2.2 else .bad
    | none => .bad := by first | (simp only [exe]; done) | (simp only [exe]; rfl)
@[simp] theorem exe_exp (e : PX) : exe cf gl (.exp e) E S = (ev cf gl e E S).st fun p => .nx E p.2.2 := by first | (simp only [exe]; done) | (simp only [exe]; rfl)
@[simp] theorem exe_ite (c : PX) (a b : QSs) : exe cf gl (.ite c a b) E S = (ev cf gl c E S).st fun p => RS.of p.1.tru fun z => if z then exes cf gl a E p.2.2 else exes cf gl b E p.2.2 := by first | (simp only [exe]; done) | (simp only [exe]; rfl)
@[simp] theorem exe_for (t : Tg) (it : PIt) (h : Bool) (b : QSs) : exe cf gl (.for_ t it h b) E S = (evi cf gl it E S).st fun p => (forGo t (fun E1 S1 => exes cf gl b E1 S1) p.1 (loopE E it p.2.1 h) p.2.2).mapE fun E' => backE E it p.2.1 h E' := by first | (simp only [exe]; done) | (simp only [exe]; rfl)
@[simp] theorem exe_whl (m : Nat) (c : PX) (b : QSs) : exe cf gl (.whl m c b) E S = whlGo (fun E1 S1 => (ev cf gl c E1 S1).bind fun p => (R.of p.1.tru).bind fun z => .ok (z, p.2.2)) (fun E1 S1 => exes cf gl b E1 S1) m E S := by first | (simp only [exe]; done) | (simp only [exe]; rfl)
@[simp] theorem exe_ret (e : PX) : exe cf gl (.ret e) E S = (ev cf gl e E S).st fun p => .rt p.1 p.2.1 p.2.2 := by first | (simp only [exe]; done) | (simp only [exe]; rfl)
@[simp] theorem exe_retv (i : Nat) : exe cf gl (.retv i) E S = match E[i]? with
    | some (some (d, o)) => .rt d o S
    | _ => .bad := by first | (simp only [exe]; done) | (simp only [exe]; rfl)
@[simp] theorem exe_retN : exe cf gl .retN E S = .rt .non false S := by first | (simp only [exe]; done) | (simp only [exe]; rfl)
@[simp] theorem exe_rai (c : Nat) : exe cf gl (.rai c) E S = .ex c S := by first | (simp only [exe]; done) | (simp only [exe]; rfl)
@[simp] theorem exe_brk : exe cf gl .brk E S = .bk E S := by first | (simp only [exe]; done) | (simp only [exe]; rfl)
@[simp] theorem exe_cnt : exe cf gl .cnt E S = .ct E S := by first | (simp only [exe]; done) | (simp only [exe]; rfl)
@[simp] theorem exe_pas : exe cf gl .pas E S = .nx E S := by first | (simp only [exe]; done) | (simp only [exe]; rfl)
end
@[simp] theorem le_line {n : Nat} (h : n ≤ 1000) : n ≤ line := by unfold line; omega
theorem le_line' {n : Nat} (h : n ≤ 10000000) : n ≤ line := by unfold line; omega
@[simp] theorem lt_line {n : Nat} (h : n ≤ 1000) : n < line := by unfold line; omega
/-! data -/
@[simp] theorem q_itLf_lst (xs : List D) : itLf (.lst xs) = D.lfs xs := rfl
@[simp] theorem isLst_lst (xs : List D) : isLst (.lst xs) = true := rfl
@[simp] theorem isLst_tup (xs : List D) : isLst (.tup xs) = false := rfl
@[simp] theorem isLst_str (xs : Str) : isLst (.str xs) = false := rfl
@[simp] theorem itemsOf_lst (xs : List D) : itemsOf (.lst xs) = some xs := rfl
@[simp] theorem itemsOf_tup (xs : List D) : itemsOf (.tup xs) = some xs := rfl
@[simp] theorem seqOf_lst (xs : List D) : seqOf (.lst xs) = some xs := rfl
@[simp] theorem seqOf_tup (xs : List D) : seqOf (.tup xs) = some xs := rfl
@[simp] theorem lf_non : D.lf .non = true := by simp only [D.lf]
@[simp] theorem lf_bl (b : Bool) : D.lf (.bl b) = true := by simp only [D.lf]
@[simp] theorem lf_int (b : Int) : D.lf (.int b) = true := by simp only [D.lf]
@[simp] theorem lf_str (b : Str) : D.lf (.str b) = true := by simp only [D.lf]
@[simp] theorem lf_hd (b : Nat) : D.lf (.hd b) = true := by simp only [D.lf]
@[simp] theorem lf_tup (xs : List D) : D.lf (.tup xs) = D.lfs xs := by simp only [D.lf]
@[simp] theorem lf_lst (xs : List D) : D.lf (.lst xs) = false := by simp only [D.lf]
@[simp] theorem lfs_nil : D.lfs [] = true := by simp only [D.lfs]
@[simp] theorem lfs_cons (x : D) (xs : List D) : D.lfs (x :: xs) = (D.lf x && D.lfs xs) := by simp only [D.lfs]
theorem lfs_map {α : Type} (f : α → D) (h : ∀ a, D.lf (f a) = true) : ∀ L : List α, D.lfs (L.map f) = true
  | [] => lfs_nil
  | a :: L => by rw [List.map_cons, lfs_cons, h, lfs_map f h L]; rfl
@[simp] theorem lfs_append (xs ys : List D) : D.lfs (xs ++ ys) = (D.lfs xs && D.lfs ys) := by
  induction xs with
  | nil => simp
  | cons x xs ih => simp [ih, Bool.and_assoc]
theorem lfs_all : ∀ {xs : List D}, D.lfs xs = true ↔ ∀ x ∈ xs, D.lf x = true
  | [] => by simp
  | x :: xs => by simp [lfs_all (xs := xs)]
@[simp] theorem ix_ar0 (S : Sto) (a : Ar) : ixEv S (arD a) (.int 0) = some (.int a.1) := rfl
@[simp] theorem ix_ar1 (S : Sto) (a : Ar) : ixEv S (arD a) (.int 1) = some (.int a.2) := rfl
@[simp] theorem lf_ar (a : Ar) : D.lf (arD a) = true := by simp [arD]
@[simp] theorem lfs_ar (L : List Ar) : D.lfs (L.map arD) = true := lfs_map _ lf_ar L
@[simp] theorem lfs_dI (L : List Int) : D.lfs (dI L) = true := lfs_map _ lf_int L
@[simp] theorem lfs_rng (lo : Int) (n : Nat) : D.lfs (rngD lo n) = true := lfs_map _ (fun _ => lf_int _) _
@[simp] theorem dI_len (L : List Int) : (dI L).length = L.length := by simp [dI]
@[simp] theorem rngD_len (lo : Int) (n : Nat) : (rngD lo n).length = n := by simp [rngD]
@[simp] theorem dI_nil : dI [] = [] := rfl
theorem dI_cons (i : Int) (L : List Int) : dI (i :: L) = .int i :: dI L := rfl
theorem dI_app (L M : List Int) : dI (L ++ M) = dI L ++ dI M := by simp [dI]
@[simp] theorem putT_nm (i : Nat) (d : D) (o : Bool) (E : Env) : putT (.nm i) d o E = some (put i d o E) := by simp only [putT]
@[simp] theorem putT_tp (ts : Tgs) (ds : List D) (o : Bool) (E : Env) : putT (.tp ts) (.tup ds) o E = putAll ts ds E := by simp only [putT]
@[simp] theorem putAll_nil (E : Env) : putAll .nil [] E = some E := by simp only [putAll]
@[simp] theorem putAll_cons (t : Tg) (ts : Tgs) (d : D) (ds : List D) (E : Env) : putAll (.cons t ts) (d :: ds) E = (putT t d false E).bind fun E1 => putAll ts ds E1 := by simp only [putAll]
@[simp] theorem bindC_nm (i : Nat) (d : D) (E : Env) : bindC (.nm i) d E = some (E.set i (some (d, false))) := by simp only [bindC]
@[simp] theorem bindC_tp (ts : Tgs) (ds : List D) (E : Env) : bindC (.tp ts) (.tup ds) E = bindAll ts ds E := by simp only [bindC]
@[simp] theorem bindAll_nil (E : Env) : bindAll .nil [] E = some E := by simp only [bindAll]
@[simp] theorem bindAll_cons (t : Tg) (ts : Tgs) (d : D) (ds : List D) (E : Env) : bindAll (.cons t ts) (d :: ds) E = (bindC t d E).bind fun E1 => bindAll ts ds E1 := by simp only [bindAll]
@[simp] theorem wipeE_nil (E : Env) : wipeE E [] = E := rfl
@[simp] theorem wipeE_cons (E : Env) (v : Nat) (vs : List Nat) : wipeE E (v :: vs) = (wipeE E vs).set v none := rfl
theorem put_lf (i : Nat) (d : D) (o : Bool) (E : Env) (h : d.lf = true) : put i d o E = E.set i (some (d, false)) := by unfold put; rw [if_pos h]
@[simp] theorem put_int (i : Nat) (d : Int) (o : Bool) (E : Env) : put i (.int d) o E = E.set i (some (.int d, false)) := put_lf _ _ _ _ (lf_int _)
@[simp] theorem put_bl (i : Nat) (d : Bool) (o : Bool) (E : Env) : put i (.bl d) o E = E.set i (some (.bl d, false)) := put_lf _ _ _ _ (lf_bl _)
@[simp] theorem put_non (i : Nat) (o : Bool) (E : Env) : put i .non o E = E.set i (some (.non, false)) := put_lf _ _ _ _ lf_non
@[simp] theorem put_str (i : Nat) (d : Str) (o : Bool) (E : Env) : put i (.str d) o E = E.set i (some (.str d, false)) := put_lf _ _ _ _ (lf_str _)
@[simp] theorem put_hd (i : Nat) (d : Nat) (o : Bool) (E : Env) : put i (.hd d) o E = E.set i (some (.hd d, false)) := put_lf _ _ _ _ (lf_hd _)
@[simp] theorem put_ar (i : Nat) (a : Ar) (o : Bool) (E : Env) : put i (arD a) o E = E.set i (some (arD a, false)) := put_lf _ _ _ _ (lf_ar _)
theorem put_tup' (i : Nat) (ds : List D) (o : Bool) (E : Env) (h : D.lfs ds = true) : put i (.tup ds) o E = E.set i (some (.tup ds, false)) := put_lf _ _ _ _ (by simpa using h)
@[simp] theorem put_tup (i : Nat) (ds : List D) (o : Bool) (E : Env) : put i (.tup ds) o E = if D.lfs ds then E.set i (some (.tup ds, false)) else (clr E).set i (some (.tup ds, false)) := by
  unfold put; simp [itLf]
@[simp] theorem put_lstT (i : Nat) (ds : List D) (E : Env) : put i (.lst ds) true E = if D.lfs ds then E.set i (some (.lst ds, true)) else (clr E).set i (some (.lst ds, false)) := by
  unfold put; simp
@[simp] theorem put_lstF (i : Nat) (ds : List D) (E : Env) : put i (.lst ds) false E = (clr E).set i (some (.lst ds, false)) := by
  unfold put; simp
@[simp] theorem clr_nil : clr [] = [] := rfl
@[simp] theorem clr_none (E : Env) : clr (none :: E) = none :: clr E := rfl
@[simp] theorem clr_some (d : D) (o : Bool) (E : Env) : clr (some (d, o) :: E) = some (d, false) :: clr E := rfl
@[simp] theorem loopE_t (E : Env) (it : PIt) (h : Bool) : loopE E it true h = E := rfl
@[simp] theorem backE_t (E E' : Env) (it : PIt) (h : Bool) : backE E it true h E' = E' := rfl
@[simp] theorem startE_def (n : Nat) (ds : List D) : startE n ds = ds.map (fun d => some (d, false)) ++ List.replicate (n - ds.length) none := rfl
@[simp] theorem putT_ar (i j : Nat) (a : Ar) (o : Bool) (E : Env) : putT (.tp (.cons (.nm i) (.cons (.nm j) .nil))) (arD a) o E = some ((E.set i (some (.int a.1, false))).set j (some (.int a.2, false))) := by simp [arD]
@[simp] theorem bindC_ar (i j : Nat) (a : Ar) (E : Env) : bindC (.tp (.cons (.nm i) (.cons (.nm j) .nil))) (arD a) E = some ((E.set i (some (.int a.1, false))).set j (some (.int a.2, false))) := by simp [arD]
@[simp] theorem okbl {c : Prop} [Decidable c] (x y : Bool) (o : Bool) (S : Sto) : (if c then R.ok (D.bl x, o, S) else R.ok (D.bl y, o, S)) = R.ok (D.bl (if c then x else y), o, S) := by split <;> rfl
@[simp] theorem tru_int (i : Int) : D.tru (.int i) = some (i != 0) := rfl
@[simp] theorem tru_non : D.tru .non = some false := rfl
@[simp] theorem tru_tup (xs : List D) : D.tru (.tup xs) = some (!xs.isEmpty) := rfl
@[simp] theorem tru_lst (xs : List D) : D.tru (.lst xs) = some (!xs.isEmpty) := rfl
@[simp] theorem isTy_tup_tuple (xs : List D) : isTy .tuple (.tup xs) = some true := rfl
@[simp] theorem isTy_tup_int (xs : List D) : isTy .int (.tup xs) = some false := rfl
@[simp] theorem isTy_tup_bool (xs : List D) : isTy .bool (.tup xs) = some false := rfl
@[simp] theorem isTy_tup_str (xs : List D) : isTy .str (.tup xs) = some false := rfl
@[simp] theorem isTy_tup_list (xs : List D) : isTy .list (.tup xs) = some false := rfl
@[simp] theorem isTy_lst_tuple (xs : List D) : isTy .tuple (.lst xs) = some false := rfl
@[simp] theorem isTy_lst_int (xs : List D) : isTy .int (.lst xs) = some false := rfl
@[simp] theorem isTy_lst_bool (xs : List D) : isTy .bool (.lst xs) = some false := rfl
@[simp] theorem isTy_lst_str (xs : List D) : isTy .str (.lst xs) = some false := rfl
@[simp] theorem isTy_lst_list (xs : List D) : isTy .list (.lst xs) = some true := rfl
@[simp] theorem isTy_int_tuple (i : Int) : isTy .tuple (.int i) = some false := rfl
@[simp] theorem isTy_int_int (i : Int) : isTy .int (.int i) = some true := rfl
@[simp] theorem isTy_int_bool (i : Int) : isTy .bool (.int i) = some false := rfl
@[simp] theorem isTy_int_str (i : Int) : isTy .str (.int i) = some false := rfl
@[simp] theorem isTy_int_list (i : Int) : isTy .list (.int i) = some false := rfl
@[simp] theorem revEv_tup (xs : List D) : revEv (.tup xs) = some (.tup xs.reverse, false) := rfl
@[simp] theorem revEv_lst (xs : List D) : revEv (.lst xs) = some (.lst xs.reverse, true) := rfl
@[simp] theorem oInt_int (i : Int) : D.oInt (.int i) = some (some i) := rfl
@[simp] theorem slEv_tup (xs : List D) (lo hi : Option Int) : slEv (.tup xs) lo hi = some (.tup (cutD xs lo hi), false) := rfl
@[simp] theorem slEv_lst (xs : List D) (lo hi : Option Int) : slEv (.lst xs) lo hi = some (.lst (cutD xs lo hi), true) := rfl
@[simp] theorem ownL_def (E : Env) (i : Nat) : ownL E i = match E[i]? with
  | some (some (.lst ds, true)) => some ds
  | _ => none := rfl
end Pz

set_option linter.all false
set_option autoImplicit false
set_option maxRecDepth 100000
/-! Pw5: slices, zips, sorting, ranges. -/
namespace Pz
open L2 PySem
theorem cut_from (xs : List D) (i : Int) (h : 0 ≤ i) : cutD xs (some i) none = xs.drop i.toNat := by
  unfold cutD
  have e1 : HT.sIx xs.length 0 (some i) = min i.toNat xs.length := by
    show (if i < 0 then _ else _) = _
    rw [if_neg (by omega)]
  rw [e1, HT.sIx_none]
  by_cases h1 : i.toNat ≤ xs.length
  · rw [Nat.min_eq_left h1, List.take_of_length_le (by simp)]
  · rw [Nat.min_eq_right (by omega), List.drop_of_length_le (by omega), List.drop_of_length_le (by omega)]; simp
theorem cut_to (xs : List D) (i : Int) (h : 0 ≤ i) : cutD xs none (some i) = xs.take i.toNat := by
  unfold cutD
  have e1 : HT.sIx xs.length xs.length (some i) = min i.toNat xs.length := by
    show (if i < 0 then _ else _) = _
    rw [if_neg (by omega)]
  rw [e1, HT.sIx_none]
  simp only [List.drop_zero, Nat.sub_zero]
  by_cases h1 : i.toNat ≤ xs.length
  · rw [Nat.min_eq_left h1]
  · rw [Nat.min_eq_right (by omega), List.take_of_length_le (by omega), List.take_of_length_le (by omega)]
theorem cut_mid (xs : List D) (i j : Int) (h : 0 ≤ i) (hj : 0 ≤ j) : cutD xs (some i) (some j) = (xs.drop i.toNat).take (j.toNat - i.toNat) := by
  unfold cutD
  have e1 : HT.sIx xs.length 0 (some i) = min i.toNat xs.length := by
    show (if i < 0 then _ else _) = _
    rw [if_neg (by omega)]
  have e2 : HT.sIx xs.length xs.length (some j) = min j.toNat xs.length := by
    show (if j < 0 then _ else _) = _
    rw [if_neg (by omega)]
  rw [e1, e2]
  by_cases h1 : i.toNat ≤ xs.length
  · rw [Nat.min_eq_left h1]
    by_cases h2 : j.toNat ≤ xs.length
    · rw [Nat.min_eq_left h2]
    · rw [Nat.min_eq_right (a := j.toNat) (by omega), List.take_of_length_le (by simp), List.take_of_length_le (by rw [List.length_drop]; omega)]
  · rw [Nat.min_eq_right (a := i.toNat) (by omega), List.drop_of_length_le (Nat.le_refl _), List.drop_of_length_le (by omega)]; simp
theorem cutM_to {α : Type} (f : α → D) (L : List α) (i : Int) (h : 0 ≤ i) : cutD (L.map f) none (some i) = (L.take i.toNat).map f := by rw [cut_to _ _ h, List.map_take]
theorem cutM_from {α : Type} (f : α → D) (L : List α) (i : Int) (h : 0 ≤ i) : cutD (L.map f) (some i) none = (L.drop i.toNat).map f := by rw [cut_from _ _ h, List.map_drop]
theorem cutM_mid {α : Type} (f : α → D) (L : List α) (i j : Int) (h : 0 ≤ i) (hj : 0 ≤ j) : cutD (L.map f) (some i) (some j) = ((L.drop i.toNat).take (j.toNat - i.toNat)).map f := by rw [cut_mid _ _ _ h hj, List.map_take, List.map_drop]
theorem bin_addT {xs ys : List D} (h : xs.length + ys.length ≤ line) : binEv .add (.tup xs) (.tup ys) = some (.tup (xs ++ ys), false) := by
  show (if _ then _ else _) = _
  rw [if_pos h]
theorem bin_addL {xs ys : List D} (h : xs.length + ys.length ≤ line) : binEv .add (.lst xs) (.lst ys) = some (.lst (xs ++ ys), true) := by
  show (if _ then _ else _) = _
  rw [if_pos h]
theorem bin_addM {α : Type} (f : α → D) {xs ys : List α} (h : xs.length ≤ 1000) (h2 : ys.length ≤ 1000) : binEv .add (.tup (xs.map f)) (.tup (ys.map f)) = some (.tup ((xs ++ ys).map f), false) := by
  rw [bin_addT (by simp [line]; omega), List.map_append]
@[simp] theorem cut_1 (xs : List D) : cutD xs (some 1) none = xs.tail := (cut_from xs 1 (by decide)).trans (by cases xs <;> rfl)
theorem atI_nat {α : Type} (xs : List α) (i : Int) (h : 0 ≤ i) : atI xs i = xs[i.toNat]? := by
  unfold atI ixN
  rw [if_pos h]
  by_cases h1 : i < (xs.length : Int)
  · rw [if_pos h1]; rfl
  · rw [if_neg h1]
    show none = _
    rw [List.getElem?_eq_none (by omega)]
theorem atI_neg {α : Type} (xs : List α) (i : Int) (h : i < 0) (h2 : -(xs.length : Int) ≤ i) : atI xs i = xs[(i + xs.length).toNat]? := by
  unfold atI ixN
  rw [if_neg (by omega), if_pos h2]; rfl
theorem atI_get {α : Type} {xs : List α} {i : Int} (h : 0 ≤ i) (h2 : i < (xs.length : Int)) : atI xs i = some (xs[i.toNat]'(by omega)) := by
  rw [atI_nat xs i h, List.getElem?_eq_getElem (by omega)]
theorem ixN_nat {n : Nat} {i : Int} (h : 0 ≤ i) (h2 : i < n) : ixN n i = some i.toNat := by
  unfold ixN; rw [if_pos h, if_pos h2]
@[simp] theorem zipD_map {α β : Type} (f : α → D) (g : β → D) : ∀ (L : List α) (M : List β), zipD (L.map f) (M.map g) = (L.zip M).map fun p => .tup [f p.1, g p.2]
  | [], _ => rfl
  | _ :: _, [] => rfl
  | a :: L, b :: M => by
    rw [List.map_cons, List.map_cons, zipD, zipD_map f g L M]; rfl
@[simp] theorem zipD_tail {α : Type} (f : α → D) (L : List α) : zipD (L.map f) (L.map f).tail = (L.zip L.tail).map fun p => .tup [f p.1, f p.2] := by
  rw [← List.map_tail, zipD_map]
theorem enumD_map {α : Type} (f : α → D) : ∀ (L : List α) (k : Nat), enumD k (L.map f) = (L.zipIdx k).map fun p => .tup [.int p.2, f p.1]
  | [], _ => rfl
  | a :: L, k => by
    rw [List.map_cons, enumD, enumD_map f L (k + 1)]; rfl
theorem rngD_map (lo : Int) (n : Nat) : rngD lo n = (List.range n).map fun (i : Nat) => D.int (lo + i) := rfl
theorem drop_map {α : Type} (f : α → D) (L : List α) (k : Nat) : (L.map f).drop k = (L.drop k).map f := (List.map_drop ..).symm
theorem lcGo_mapi (p : D → Bool) (v : D → D) {t : Tg} {own : List Nat} {fc : Env → Sto → R (Bool × Sto)} {fe : Env → Sto → R (D × Bool × Sto)} {E : Env} {S : Sto} {L : List D}
    (h : ∀ a ∈ L, ∃ E1 o1, bindC t a (wipeE E own) = some E1 ∧ fc E1 S = .ok (p a, S) ∧ (p a = true → fe E1 S = .ok (v a, o1, S))) : lcGo t own fc fe E L S = .ok ((L.filter p).map v, S) := by
  have := lcGo_map id p v (t := t) (own := own) (fc := fc) (fe := fe) (E := E) (S := S) (L := L) h
  rwa [List.map_id] at this
theorem lcGo_alli (v : D → D) {t : Tg} {own : List Nat} {fc : Env → Sto → R (Bool × Sto)} {fe : Env → Sto → R (D × Bool × Sto)} {E : Env} {S : Sto} {L : List D}
    (h : ∀ a ∈ L, ∃ E1 o1, bindC t a (wipeE E own) = some E1 ∧ fc E1 S = .ok (true, S) ∧ fe E1 S = .ok (v a, o1, S)) : lcGo t own fc fe E L S = .ok (L.map v, S) := by
  have := lcGo_all id v (t := t) (own := own) (fc := fc) (fe := fe) (E := E) (S := S) (L := L) h
  rwa [List.map_id] at this
theorem lc_draw {α β : Type} {t : Tg} {own : List Nat} {fc : Env → Sto → R (Bool × Sto)} {fe : Env → Sto → R (D × Bool × Sto)} {E : Env} {S : Sto} {L : List α} {enc : α → D} {g : R (List D × Sto)} (hg : lcGo t own fc fe E (L.map enc) S = g)
    (J : Sto → Prop) (P : α → β → Prop) (dec : β → D) (h0 : J S) (h : ∀ a ∈ L, ∀ S, J S → ∃ E1 o1 b S', bindC t (enc a) (wipeE E own) = some E1 ∧ fc E1 S = .ok (true, S) ∧ fe E1 S = .ok (dec b, o1, S') ∧ J S' ∧ P a b) : ∃ bs S', g = .ok (bs.map dec, S') ∧ J S' ∧ All2 P L bs := by
  rw [← hg]
  exact lcGo_draw enc J P dec h0 h
@[simp] theorem loopE_v (E : Env) (i : Nat) (h : Bool) : loopE E (.val (.var i)) false h = match E[i]? with
      | some (some (_, true)) => if h then E.set i none else clr E
      | _ => E := rfl
@[simp] theorem backE_v (E E0 : Env) (i : Nat) (h : Bool) : backE E0 (.val (.var i)) false h E = match E0[i]? with
      | some (some (d, true)) => if h then E.set i (some (d, true)) else E
      | _ => E := rfl
/-! sorting -/
section
variable {α : Type} {lt : α → α → Bool}
theorem q_insB_perm (x : α) : ∀ L : List α, (insB lt x L).Perm (x :: L)
  | [] => .refl _
  | y :: ys => by
    unfold insB
    split
    · exact ((q_insB_perm x ys).cons y).trans (.swap x y ys)
    · exact .refl _
theorem q_sortB_perm : ∀ L : List α, (sortB lt L).Perm L
  | [] => .refl _
  | x :: xs => (q_insB_perm x _).trans ((q_sortB_perm xs).cons x)
theorem insB_sorted (as : ∀ a b, lt a b = true → lt b a = false) (tr : ∀ a b c, lt b a = false → lt c b = false → lt c a = false) (x : α) : ∀ {L : List α}, L.Pairwise (fun a b => lt b a = false) → (insB lt x L).Pairwise (fun a b => lt b a = false)
  | [], _ => List.pairwise_singleton ..
  | y :: ys, h => by
    obtain ⟨h1, h2⟩ := List.pairwise_cons.mp h
    unfold insB
    split
    · rename_i hy
      refine List.pairwise_cons.mpr ⟨fun z hz => ?_, insB_sorted as tr x h2⟩
      rcases List.mem_cons.mp ((q_insB_perm x ys).mem_iff.mp hz) with rfl | hz
      · exact as _ _ hy
      · exact h1 z hz
    · rename_i hy
      have hy : lt y x = false := by simpa using hy
      refine List.pairwise_cons.mpr ⟨fun z hz => ?_, h⟩
      rcases List.mem_cons.mp hz with rfl | hz
      · exact hy
      · exact tr _ _ _ hy (h1 z hz)
theorem sortB_sorted (as : ∀ a b, lt a b = true → lt b a = false) (tr : ∀ a b c, lt b a = false → lt c b = false → lt c a = false) : ∀ L : List α, (sortB lt L).Pairwise (fun a b => lt b a = false)
  | [] => .nil
  | x :: xs => insB_sorted as tr x (sortB_sorted as tr xs)
theorem sortB_of_sorted : ∀ {L : List α}, L.Pairwise (fun a b => lt b a = false) → sortB lt L = L
  | [], _ => rfl
  | x :: xs, h => by
    obtain ⟨h1, h2⟩ := List.pairwise_cons.mp h
    unfold sortB
    rw [sortB_of_sorted h2]
    cases xs with
    | nil => rfl
    | cons y ys =>
      unfold insB
      rw [if_neg (by rw [h1 y List.mem_cons_self]; decide)]
theorem sortB_map {β : Type} {lt' : β → β → Bool} (f : α → β) (h : ∀ a b, lt' (f a) (f b) = lt a b) : ∀ L : List α, sortB lt' (L.map f) = (sortB lt L).map f
  | [] => rfl
  | x :: xs => by
    have hi : ∀ M : List α, insB lt' (f x) (M.map f) = (insB lt x M).map f := by
      intro M
      induction M with
      | nil => rfl
      | cons y ys ih =>
        rw [List.map_cons, insB, insB, h]
        split
        · rw [ih]; rfl
        · rfl
    rw [List.map_cons, sortB, sortB, sortB_map f h xs, hi]
end
theorem ltA_as (a b : Ar) (h : ltA a b = true) : ltA b a = false := by
  simp [ltA] at h ⊢; omega
theorem ltA_tr (a b c : Ar) (h1 : ltA b a = false) (h2 : ltA c b = false) : ltA c a = false := by
  simp [ltA] at h1 h2 ⊢; omega
theorem ltA_irr (a : Ar) : ltA a a = false := by simp [ltA]
def SrtA (L : List Ar) : Prop := L.Pairwise fun a b => ltA b a = false
theorem sortA_srt (L : List Ar) : SrtA (sortB ltA L) := sortB_sorted ltA_as ltA_tr L
theorem itsOf_ar : ∀ L : List Ar, itsOf (L.map arD) = some (L.map fun a => [a.1, a.2])
  | [] => rfl
  | a :: L => by
    rw [List.map_cons, itsOf, itsOf_ar L]; rfl
theorem sortEv_ar (L : List Ar) : sortEv (L.map arD) = some ((sortB ltA L).map arD) := by
  cases L with
  | nil => rfl
  | cons a L =>
    have e : D.ints ((a :: L).map arD) = none := rfl
    unfold sortEv
    rw [e]
    show (itsOf ((a :: L).map arD)).map _ = _
    rw [itsOf_ar]
    show some ((sortB lexLtB ((a :: L).map fun a => [a.1, a.2])).map _) = _
    rw [sortB_map (fun a : Ar => [a.1, a.2]) lexA]
    rw [List.map_map]; rfl
@[simp] theorem bi_sortLA (L : List Ar) : biEv .sorted [.lst (L.map arD)] = some (.lst ((sortB ltA L).map arD), true) := by
  rw [bi_sortL, sortEv_ar]; rfl
@[simp] theorem bi_sortTA (L : List Ar) : biEv .sorted [.tup (L.map arD)] = some (.lst ((sortB ltA L).map arD), true) := by
  rw [bi_sortT, sortEv_ar]; rfl
theorem itsOf_map : ∀ {F : List (List Int)}, (∀ w ∈ F, w ≠ []) → itsOf (F.map fun w => .tup (dI w)) = some F
  | [], _ => rfl
  | w :: F, h => by
    have hw := h w List.mem_cons_self
    have ih := itsOf_map (F := F) fun x hx => h x (List.mem_cons_of_mem w hx)
    cases w with
    | nil => exact absurd rfl hw
    | cons i w =>
      rw [List.map_cons, itsOf, ih]
      show (D.ints (dI (i :: w))).bind _ = _
      rw [show D.ints (dI (i :: w)) = some (i :: w) from ints_map _]; rfl
theorem sortEv_its {F : List (List Int)} (h : ∀ w ∈ F, w ≠ []) : sortEv (F.map fun w => .tup (dI w)) = some ((sortB lexLtB F).map fun w => .tup (dI w)) := by
  cases F with
  | nil => rfl
  | cons w F =>
    have e : D.ints ((w :: F).map fun w => .tup (dI w)) = none := rfl
    unfold sortEv
    rw [e]
    show (itsOf _).map _ = _
    rw [itsOf_map h]; rfl
/-- neighbours in order -/
theorem srt_zip {L : List Ar} : (L.zip (L.tail)).all (fun p => !ltA p.2 p.1) = true ↔ SrtA L := by
  induction L with
  | nil => simp [SrtA]
  | cons a L ih =>
    cases L with
    | nil => simp [SrtA]
    | cons b L =>
      have e : ((a :: b :: L).zip ((a :: b :: L).tail)) = (a, b) :: ((b :: L).zip ((b :: L).tail)) := rfl
      rw [e, List.all_cons, Bool.and_eq_true, ih]
      unfold SrtA
      rw [List.pairwise_cons (a := a)]
      constructor
      · rintro ⟨h1, h2⟩
        refine ⟨fun c hc => ?_, h2⟩
        have h1 : ltA b a = false := by simpa using h1
        rcases List.mem_cons.mp hc with rfl | hc
        · exact h1
        · exact ltA_tr _ _ _ h1 ((List.pairwise_cons.mp h2).1 c hc)
      · rintro ⟨h1, h2⟩
        exact ⟨by simpa using h1 b List.mem_cons_self, h2⟩
end Pz

set_option linter.all false
set_option autoImplicit false
/-! Pn: nets in plain Lean. -/
namespace Pz
/-- reached -/
def reachM (found : List Int) (a : Ar) : List Int := if a.1 ∈ found ∧ a.2 ∉ found then found ++ [a.2] else found
def leadM (found : List Int) (a : Ar) : List Int := if a.2 ∈ found ∧ a.1 ∉ found then found ++ [a.1] else found
theorem reach_len (found : List Int) (a : Ar) : (reachM found a).length ≤ found.length + 1 := by unfold reachM; split <;> simp
theorem lead_len (found : List Int) (a : Ar) : (leadM found a).length ≤ found.length + 1 := by unfold leadM; split <;> simp
theorem nodup_sub_len {α : Type} [DecidableEq α] : ∀ {l m : List α}, l.Nodup → (∀ x ∈ l, x ∈ m) → l.length ≤ m.length
  | [], m, _, _ => Nat.zero_le _
  | a :: l, m, hn, hs => by
    obtain ⟨h1, h2⟩ := List.nodup_cons.mp hn
    have ha : a ∈ m := hs a List.mem_cons_self
    have := nodup_sub_len (l := l) (m := m.erase a) h2 fun x hx => (List.mem_erase_of_ne (fun e : x = a => h1 (by rw [← e]; exact hx))).mpr (hs x (List.mem_cons_of_mem _ hx))
    rw [List.length_erase_of_mem ha] at this
    have := List.length_pos_of_mem ha
    simp only [List.length_cons]; omega
def rng (n : Nat) : List Int := (List.range n).map fun (i : Nat) => (i : Int)
theorem mem_rng {n : Nat} {x : Int} : x ∈ rng n ↔ 0 ≤ x ∧ x < n := by
  unfold rng
  rw [List.mem_map]
  constructor
  · rintro ⟨i, hi, rfl⟩
    have := List.mem_range.mp hi
    omega
  · rintro ⟨h0, h1⟩
    exact ⟨x.toNat, List.mem_range.mpr (by omega), by omega⟩
theorem nodup_map {α β : Type} (f : α → β) (hf : ∀ a b, f a = f b → a = b) : ∀ {L : List α}, L.Nodup → (L.map f).Nodup
  | [], _ => .nil
  | a :: L, h => by
    obtain ⟨h1, h2⟩ := List.nodup_cons.mp h
    refine List.nodup_cons.mpr ⟨fun hm => ?_, nodup_map f hf h2⟩
    obtain ⟨b, hb, e⟩ := List.mem_map.mp hm
    exact h1 (hf _ _ e ▸ hb)
theorem rng_nodup (n : Nat) : (rng n).Nodup := nodup_map (fun i : Nat => (i : Int)) (fun a b h => Int.ofNat_inj.mp h) List.nodup_range
theorem rng_len (n : Nat) : (rng n).length = n := by simp [rng]
/-- so many of [0, many) without doubles: all -/
theorem len_all {F : List Int} {many : Nat} (hn : F.Nodup) (hs : ∀ x ∈ F, 0 ≤ x ∧ x < many) : F.length = many ↔ ∀ p : Int, 0 ≤ p → p < many → p ∈ F := by
  constructor
  · intro hl p h0 h1
    apply Classical.byContradiction
    intro hp
    have := nodup_sub_len (l := p :: F) (m := rng many) (List.nodup_cons.mpr ⟨hp, hn⟩) (fun x hx => by
      rcases List.mem_cons.mp hx with rfl | hx
      · exact mem_rng.mpr ⟨h0, h1⟩
      · exact mem_rng.mpr (hs x hx))
    rw [rng_len, List.length_cons] at this
    omega
  · intro h
    have h1 := nodup_sub_len hn (m := rng many) fun x hx => mem_rng.mpr (hs x hx)
    have h2 := nodup_sub_len (rng_nodup many) (m := F) fun x hx => h x (mem_rng.mp hx).1 (mem_rng.mp hx).2
    rw [rng_len] at h1 h2
    omega
/-! reached -/
theorem reach_mono {x : Int} : ∀ {L : List Ar} {F : List Int}, x ∈ F → x ∈ L.foldl reachM F
  | [], _, h => h
  | a :: L, F, h => by
    rw [List.foldl_cons]
    refine reach_mono ?_
    unfold reachM; split
    · exact List.mem_append_left _ h
    · exact h
theorem reach_nodup : ∀ {L : List Ar} {F : List Int}, F.Nodup → (L.foldl reachM F).Nodup
  | [], _, h => h
  | a :: L, F, h => by
    rw [List.foldl_cons]
    refine reach_nodup ?_
    unfold reachM; split
    · rename_i h1
      exact List.nodup_append.mpr ⟨h, by simp, fun x hx y hy => by simp at hy; subst hy; exact fun e => h1.2 (e ▸ hx)⟩
    · exact h
theorem reach_from {x : Int} : ∀ {L : List Ar} {F : List Int}, x ∈ L.foldl reachM F → x ∈ F ∨ ∃ a ∈ L, a.2 = x
  | [], _, h => .inl h
  | a :: L, F, h => by
    rw [List.foldl_cons] at h
    rcases reach_from h with h | ⟨b, hb, e⟩
    · unfold reachM at h; split at h
      · rcases List.mem_append.mp h with h | h
        · exact .inl h
        · simp at h; exact .inr ⟨a, List.mem_cons_self, h.symm⟩
      · exact .inl h
    · exact .inr ⟨b, List.mem_cons_of_mem _ hb, e⟩
theorem reach_step {a : Ar} {F : List Int} (h : a.1 ∈ F) : a.2 ∈ reachM F a := by
  unfold reachM
  by_cases h2 : a.2 ∈ F
  · simp [h2]
  · simp [h, h2]
/-- arrows of a net: proper, in order -/
structure Arr (many : Int) (L : List Ar) : Prop where
  pr : ∀ a ∈ L, 0 ≤ a.1 ∧ a.1 < a.2 ∧ a.2 < many
  st : SrtA L
theorem srt_fst {A B : List Ar} {a : Ar} (h : SrtA (A ++ a :: B)) : (∀ x ∈ A, x.1 ≤ a.1) ∧ ∀ x ∈ B, a.1 ≤ x.1 := by
  unfold SrtA at h
  rw [List.pairwise_append] at h
  obtain ⟨_, h2, h3⟩ := h
  rw [List.pairwise_cons] at h2
  refine ⟨fun x hx => ?_, fun x hx => ?_⟩
  · have := h3 x hx a List.mem_cons_self
    simp [ltA] at this; omega
  · have := h2.1 x hx
    simp [ltA] at this; omega
theorem reach_all {many : Int} {L : List Ar} (h : Arr many L) (hin : ∀ p : Int, 0 < p → p < many → ∃ a ∈ L, a.2 = p) :
    ∀ (k : Nat) (p : Int), p.toNat ≤ k → 0 ≤ p → p < many → ∀ A B, L = A ++ B → (∀ b ∈ B, p ≤ b.1) → p ∈ A.foldl reachM [0]
  | k, p, hk, h0, h1, A, B, e, hB => by
    by_cases hp : p = 0
    · subst hp; exact reach_mono List.mem_cons_self
    obtain ⟨a, ha, e2⟩ := hin p (by omega) h1
    have hpr := h.pr a ha
    have haA : a ∈ A := by
      rw [e] at ha
      rcases List.mem_append.mp ha with ha | ha
      · exact ha
      · have := hB a ha; omega
    obtain ⟨A1, A2, rfl⟩ := List.append_of_mem haA
    cases k with
    | zero => omega
    | succ k =>
      have ih := reach_all h hin k a.1 (by omega) hpr.1 (by omega) A1 (a :: (A2 ++ B)) (by rw [e]; simp) (fun b hb => by
        have hs : SrtA (A1 ++ a :: (A2 ++ B)) := by have := h.st; rw [e] at this; simpa using this
        rcases List.mem_cons.mp hb with rfl | hb
        · omega
        · exact (srt_fst hs).2 b hb)
      rw [List.foldl_append, List.foldl_cons]
      refine reach_mono ?_
      rw [← e2]
      exact reach_step ih
theorem reach_iff {many : Int} {L : List Ar} (h : Arr many L) (h2 : 2 ≤ many) : ((L.foldl reachM [0]).length : Int) = many ↔ ∀ p : Int, 0 < p → p < many → ∃ a ∈ L, a.2 = p := by
  obtain ⟨m, rfl⟩ : ∃ m : Nat, many = m := ⟨many.toNat, by omega⟩
  have hn : (L.foldl reachM [0]).Nodup := reach_nodup (by simp)
  have hs : ∀ x ∈ L.foldl reachM [0], 0 ≤ x ∧ x < (m : Int) := by
    intro x hx
    rcases reach_from hx with hx | ⟨a, ha, rfl⟩
    · simp at hx; omega
    · have := h.pr a ha; omega
  rw [Int.ofNat_inj, len_all hn hs]
  constructor
  · intro hall p h0 h1
    rcases reach_from (hall p (by omega) h1) with hx | hx
    · simp at hx; omega
    · exact hx
  · intro hin p h0 h1
    exact reach_all h hin p.toNat p (Nat.le_refl _) h0 h1 L [] (by simp) (by simp)
/-! leading -/
abbrev leadF (L : List Ar) (F : List Int) : List Int := L.foldr (fun x y => leadM y x) F
theorem lead_mono {x : Int} : ∀ {L : List Ar} {F : List Int}, x ∈ F → x ∈ leadF L F
  | [], _, h => h
  | a :: L, F, h => by
    have := lead_mono (L := L) h
    show x ∈ leadM (leadF L F) a
    unfold leadM; split
    · exact List.mem_append_left _ this
    · exact this
theorem lead_nodup : ∀ {L : List Ar} {F : List Int}, F.Nodup → (leadF L F).Nodup
  | [], _, h => h
  | a :: L, F, h => by
    have := lead_nodup (L := L) h
    show (leadM (leadF L F) a).Nodup
    unfold leadM; split
    · rename_i h1
      exact List.nodup_append.mpr ⟨this, by simp, fun x hx y hy => by simp at hy; subst hy; exact fun e => h1.2 (e ▸ hx)⟩
    · exact this
theorem lead_from {x : Int} : ∀ {L : List Ar} {F : List Int}, x ∈ leadF L F → x ∈ F ∨ ∃ a ∈ L, a.1 = x
  | [], _, h => .inl h
  | a :: L, F, h => by
    have ih := lead_from (x := x) (L := L) (F := F)
    change x ∈ leadM (leadF L F) a at h
    unfold leadM at h; split at h
    · rcases List.mem_append.mp h with h | h
      · rcases ih h with h | ⟨b, hb, e⟩
        · exact .inl h
        · exact .inr ⟨b, List.mem_cons_of_mem _ hb, e⟩
      · simp at h; exact .inr ⟨a, List.mem_cons_self, h.symm⟩
    · rcases ih h with h | ⟨b, hb, e⟩
      · exact .inl h
      · exact .inr ⟨b, List.mem_cons_of_mem _ hb, e⟩
theorem lead_step {a : Ar} {F : List Int} (h : a.2 ∈ F) : a.1 ∈ leadM F a := by
  unfold leadM
  by_cases h2 : a.1 ∈ F
  · simp [h2]
  · simp [h, h2]
theorem lead_all {many : Int} {L : List Ar} (h : Arr many L) (hout : ∀ p : Int, 0 ≤ p → p < many - 1 → ∃ a ∈ L, a.1 = p) :
    ∀ (k : Nat) (p : Int), (many - 1 - p).toNat ≤ k → 0 ≤ p → p < many → ∀ A B, L = A ++ B → (∀ b ∈ A, b.1 < p) → p ∈ leadF B [many - 1]
  | k, p, hk, h0, h1, A, B, e, hA => by
    by_cases hp : p = many - 1
    · subst hp; exact lead_mono List.mem_cons_self
    obtain ⟨a, ha, e2⟩ := hout p h0 (by omega)
    have hpr := h.pr a ha
    have haB : a ∈ B := by
      rw [e] at ha
      rcases List.mem_append.mp ha with ha | ha
      · have := hA a ha; omega
      · exact ha
    obtain ⟨B1, B2, rfl⟩ := List.append_of_mem haB
    cases k with
    | zero => omega
    | succ k =>
      have ih := lead_all h hout k a.2 (by omega) (by omega) (by omega) (A ++ B1 ++ [a]) B2 (by rw [e]; simp) (fun b hb => by
        have hs : SrtA ((A ++ B1) ++ a :: B2) := by have := h.st; rw [e] at this; simpa using this
        rcases List.mem_append.mp hb with hb | hb
        · have := (srt_fst hs).1 b hb; omega
        · simp at hb; subst hb; omega)
      show p ∈ leadF (B1 ++ a :: B2) _
      unfold leadF
      rw [List.foldr_append]
      refine lead_mono ?_
      rw [← e2]
      exact lead_step ih
theorem lead_iff {many : Int} {L : List Ar} (h : Arr many L) (h2 : 2 ≤ many) : ((leadF L [many - 1]).length : Int) = many ↔ ∀ p : Int, 0 ≤ p → p < many - 1 → ∃ a ∈ L, a.1 = p := by
  obtain ⟨m, rfl⟩ : ∃ m : Nat, many = m := ⟨many.toNat, by omega⟩
  have hn : (leadF L [(m : Int) - 1]).Nodup := lead_nodup (by simp)
  have hs : ∀ x ∈ leadF L [(m : Int) - 1], 0 ≤ x ∧ x < (m : Int) := by
    intro x hx
    rcases lead_from hx with hx | ⟨a, ha, rfl⟩
    · simp at hx; omega
    · have := h.pr a ha; omega
  rw [Int.ofNat_inj, len_all hn hs]
  constructor
  · intro hall p h0 h1
    rcases lead_from (hall p h0 (by omega)) with hx | hx
    · simp at hx; omega
    · exact hx
  · intro hout p h0 h1
    exact lead_all h hout _ p (Nat.le_refl _) h0 h1 [] L (by simp) (by simp)
/-- a net's arrows: each place but the first has one in, each but the last one out -/
structure Net (many : Int) (L : List Ar) : Prop extends Arr many L where
  m2 : 2 ≤ many
  ins : ∀ p : Int, 0 < p → p < many → ∃ a ∈ L, a.2 = p
  outs : ∀ p : Int, 0 ≤ p → p < many - 1 → ∃ a ∈ L, a.1 = p
end Pz

set_option linter.all false
set_option autoImplicit false
/-! Pn2: ways in plain Lean. -/
namespace Pz
/-- whole numbers below -/
def inB (k : Nat) (i : Int) : Bool := decide (0 ≤ i) && decide (i < k)
def walkI (L : List Ar) : Int → List Int → Option Int
  | h, [] => some h
  | h, i :: is => match L[i.toNat]? with
    | some a => if a.1 = h then walkI L a.2 is else none
    | none => none
theorem walk_app (L : List Ar) : ∀ (u v : List Int) (h : Int), walkI L h (u ++ v) = (walkI L h u).bind fun g => walkI L g v
  | [], v, h => rfl
  | i :: u, v, h => by
    rw [List.cons_append, walkI, walkI]
    cases L[i.toNat]? with
    | none => rfl
    | some a =>
      simp only
      split
      · exact walk_app L u v a.2
      · rfl
abbrev Wp := List Int × Int
def stepW (L : List Ar) (p : Wp) : List Wp := (L.zipIdx.filter fun q => decide (q.1.1 = p.2)).map fun q => (p.1 ++ [(q.2 : Int)], q.1.2)
def lineW (L : List Ar) : Nat → List Wp
  | 0 => [([], 0)]
  | k + 1 => (lineW L k).flatMap (stepW L)
theorem mem_line {L : List Ar} : ∀ {k : Nat} {w : List Int} {h : Int}, (w, h) ∈ lineW L k ↔ w.length = k ∧ (∀ i ∈ w, inB L.length i = true) ∧ walkI L 0 w = some h
  | 0, w, h => by
    constructor
    · intro hm
      simp [lineW] at hm
      obtain ⟨rfl, rfl⟩ := hm
      exact ⟨rfl, by simp, rfl⟩
    · rintro ⟨h1, -, h3⟩
      obtain rfl := List.eq_nil_of_length_eq_zero h1
      simp [walkI] at h3
      subst h3
      exact List.mem_cons_self
  | k + 1, w, h => by
    constructor
    · intro hm
      obtain ⟨⟨u, g⟩, hu, hp⟩ := List.mem_flatMap.mp hm
      obtain ⟨⟨a, i⟩, hq, e⟩ := List.mem_map.mp hp
      obtain ⟨hq1, hq2⟩ := List.mem_filter.mp hq
      have hq2 : a.1 = g := by simpa using hq2
      have hi := List.mem_zipIdx hq1
      simp at hi
      cases e
      obtain ⟨h1, h2, h3⟩ := mem_line.mp hu
      refine ⟨by simp [h1], fun j hj => ?_, ?_⟩
      · rcases List.mem_append.mp hj with hj | hj
        · exact h2 j hj
        · simp at hj; subst hj
          simp [inB]; exact hi.1
      · rw [walk_app, h3]
        simp only [Option.bind, walkI]
        have e1 : L[((i : Nat) : Int).toNat]? = some a := by
          rw [Int.toNat_natCast, List.getElem?_eq_getElem hi.1, ← hi.2]
        rw [e1]
        simp [hq2]
    · rintro ⟨h1, h2, h3⟩
      have hne : w ≠ [] := by intro e; subst e; simp at h1
      obtain ⟨u, i, rfl⟩ : ∃ u i, w = u ++ [i] := ⟨w.dropLast, w.getLast hne, (List.dropLast_concat_getLast hne).symm⟩
      rw [walk_app] at h3
      cases hu : walkI L 0 u with
      | none => rw [hu] at h3; cases h3
      | some g =>
        rw [hu] at h3
        simp only [Option.bind, walkI] at h3
        have hi := h2 i (by simp)
        simp [inB] at hi
        have hlt : i.toNat < L.length := by omega
        rw [List.getElem?_eq_getElem hlt] at h3
        simp only at h3
        split at h3
        · rename_i hg
          cases h3
          refine List.mem_flatMap.mpr ⟨(u, g), mem_line.mpr ⟨by simpa using h1, fun j hj => h2 j (List.mem_append_left _ hj), hu⟩, ?_⟩
          refine List.mem_map.mpr ⟨(L[i.toNat], i.toNat), List.mem_filter.mpr ⟨?_, by simpa using hg⟩, ?_⟩
          · exact List.mk_mem_zipIdx_iff_getElem?.mpr (List.getElem?_eq_getElem hlt)
          · simp; omega
        · cases h3
/-- ways climb -/
theorem walk_up {L : List Ar} (hL : ∀ a ∈ L, 0 ≤ a.1 ∧ a.1 < a.2) : ∀ {w : List Int} {s h : Int}, walkI L s w = some h → s + w.length ≤ h
  | [], s, h, e => by cases e; simp
  | i :: w, s, h, e => by
    rw [walkI] at e
    cases hi : L[i.toNat]? with
    | none => rw [hi] at e; cases e
    | some a =>
      rw [hi] at e
      simp only at e
      split at e
      · rename_i hs
        have := walk_up hL e
        have := hL a (List.mem_of_getElem? hi)
        simp only [List.length_cons]; omega
      · cases e
/-! how many -/
theorem sum_le {α : Type} (f : α → Nat) (b : Nat) : ∀ {A : List α}, (∀ a ∈ A, f a ≤ b) → (A.map f).sum ≤ A.length * b
  | [], _ => by simp
  | a :: A, h => by
    have h1 := h a List.mem_cons_self
    have h2 := sum_le f b fun x hx => h x (List.mem_cons_of_mem a hx)
    simp only [List.map_cons, List.sum_cons, List.length_cons, Nat.add_mul]; omega
theorem sum_mono {α : Type} (f g : α → Nat) : ∀ {A : List α}, (∀ a ∈ A, f a ≤ g a) → (A.map f).sum ≤ (A.map g).sum
  | [], _ => by simp
  | a :: A, h => by
    have h1 := h a List.mem_cons_self
    have h2 := sum_mono f g fun x hx => h x (List.mem_cons_of_mem a hx)
    simp only [List.map_cons, List.sum_cons]; omega
theorem sum_flat {α β : Type} (f : α → List β) (g : β → Nat) : ∀ A : List α, ((A.flatMap f).map g).sum = (A.map fun x => ((f x).map g).sum).sum
  | [] => rfl
  | a :: A => by simp [sum_flat f g A]
theorem len_le_sum {α : Type} (f : α → Nat) : ∀ {A : List α}, (∀ a ∈ A, 1 ≤ f a) → A.length ≤ (A.map f).sum
  | [], _ => by simp
  | a :: A, h => by
    have h1 := h a List.mem_cons_self
    have h2 := len_le_sum f fun x hx => h x (List.mem_cons_of_mem a hx)
    simp only [List.map_cons, List.sum_cons, List.length_cons]; omega
def cnt (L : List Ar) (h : Int) : Nat := (L.filter fun a => decide (h ≤ a.1)).length
def pot (L : List Ar) (h : Int) : Nat := 2 ^ cnt L h
theorem pot_pos (L : List Ar) (h : Int) : 1 ≤ pot L h := Nat.one_le_two_pow
theorem idx_filter {β : Type} (f : Ar → Bool) (g : Ar → β) : ∀ (L : List Ar) (k : Nat), ((L.zipIdx k).filter fun q => f q.1).map (fun q => g q.1) = (L.filter f).map g
  | [], _ => rfl
  | a :: L, k => by
    rw [List.zipIdx_cons, List.filter_cons, List.filter_cons]
    split
    · rw [List.map_cons, List.map_cons, idx_filter f g L (k + 1)]
    · exact idx_filter f g L (k + 1)
theorem cnt_split (L : List Ar) (h : Int) : cnt L h = (L.filter fun a => decide (a.1 = h)).length + cnt L (h + 1) := by
  unfold cnt
  induction L with
  | nil => rfl
  | cons a L ih =>
    simp only [List.filter_cons]
    by_cases h1 : a.1 = h
    · have h2 : h ≤ a.1 := by omega
      have h3 : ¬ h + 1 ≤ a.1 := by omega
      rw [if_pos (decide_eq_true h2), if_pos (decide_eq_true h1), if_neg (by simpa using h3)]
      simp only [List.length_cons]; omega
    · by_cases h2 : h ≤ a.1
      · have h3 : h + 1 ≤ a.1 := by omega
        simp [h1, h2, h3]; omega
      · have h3 : ¬ h + 1 ≤ a.1 := by omega
        simp [h1, h2, h3]; omega
theorem cnt_mono (L : List Ar) {g h : Int} (hg : g ≤ h) : cnt L h ≤ cnt L g := by
  unfold cnt
  induction L with
  | nil => exact Nat.le_refl _
  | cons a L ih =>
    simp only [List.filter_cons]
    by_cases h2 : h ≤ a.1
    · have h3 : g ≤ a.1 := by omega
      simp [h2, h3]; omega
    · by_cases h3 : g ≤ a.1
      · simp [h2, h3]; omega
      · simp [h2, h3]; omega
theorem pot_step {L : List Ar} (hL : ∀ a ∈ L, 0 ≤ a.1 ∧ a.1 < a.2) (p : Wp) : ((stepW L p).map fun q => pot L q.2).sum ≤ pot L p.2 := by
  have e : (stepW L p).map (fun q => pot L q.2) = (L.filter fun a => decide (a.1 = p.2)).map fun a => pot L a.2 := by
    unfold stepW
    rw [List.map_map]
    exact idx_filter (fun a => decide (a.1 = p.2)) (fun a => pot L a.2) L 0
  rw [e]
  have h1 := sum_le (fun a : Ar => pot L a.2) (2 ^ cnt L (p.2 + 1)) (A := L.filter fun a => decide (a.1 = p.2)) (fun a ha => by
    obtain ⟨h1, h2⟩ := List.mem_filter.mp ha
    have h2 : a.1 = p.2 := by simpa using h2
    have := hL a h1
    exact Nat.pow_le_pow_right (by decide) (cnt_mono L (by omega)))
  refine Nat.le_trans h1 ?_
  unfold pot
  rw [cnt_split L p.2, Nat.pow_add]
  exact Nat.mul_le_mul_right _ (Nat.le_of_lt Nat.lt_two_pow_self)
theorem line_pot {L : List Ar} (hL : ∀ a ∈ L, 0 ≤ a.1 ∧ a.1 < a.2) : ∀ k, ((lineW L k).map fun q => pot L q.2).sum ≤ 2 ^ L.length
  | 0 => by
    simp only [lineW, List.map_cons, List.map_nil, List.sum_cons, List.sum_nil, Nat.add_zero, pot, cnt]
    exact Nat.pow_le_pow_right (by decide) (List.length_filter_le _ _)
  | k + 1 => by
    refine Nat.le_trans ?_ (line_pot hL k)
    show (((lineW L k).flatMap (stepW L)).map _).sum ≤ _
    rw [sum_flat]
    exact sum_mono _ _ fun p _ => pot_step hL p
theorem line_len {L : List Ar} (hL : ∀ a ∈ L, 0 ≤ a.1 ∧ a.1 < a.2) (k : Nat) : (lineW L k).length ≤ 2 ^ L.length :=
  Nat.le_trans (len_le_sum _ fun p _ => pot_pos L p.2) (line_pot hL k)
def endsW (L : List Ar) (t : Int) (k : Nat) : List (List Int) := ((lineW L k).filter fun p => decide (p.2 = t)).map (·.1)
def foundW (L : List Ar) (t : Int) : Nat → List (List Int)
  | 0 => []
  | k + 1 => foundW L t k ++ endsW L t k
theorem found_len {L : List Ar} (hL : ∀ a ∈ L, 0 ≤ a.1 ∧ a.1 < a.2) (t : Int) : ∀ k, (foundW L t k).length ≤ k * 2 ^ L.length
  | 0 => by simp [foundW]
  | k + 1 => by
    have h1 := found_len hL t k
    have h2 : (endsW L t k).length ≤ 2 ^ L.length := by
      unfold endsW
      rw [List.length_map]
      exact Nat.le_trans (List.length_filter_le _ _) (line_len hL k)
    simp only [foundW, List.length_append, Nat.add_mul]; omega
theorem mem_found {L : List Ar} {t : Int} {w : List Int} : ∀ {k : Nat}, w ∈ foundW L t k ↔ w.length < k ∧ (∀ i ∈ w, inB L.length i = true) ∧ walkI L 0 w = some t
  | 0 => by simp [foundW]
  | k + 1 => by
    rw [foundW, List.mem_append, mem_found]
    unfold endsW
    rw [List.mem_map]
    constructor
    · rintro (⟨h1, h2⟩ | ⟨⟨u, h⟩, hm, rfl⟩)
      · exact ⟨by omega, h2⟩
      · obtain ⟨h1, h2⟩ := List.mem_filter.mp hm
        have h2 : h = t := by simpa using h2
        subst h2
        obtain ⟨h3, h4, h5⟩ := mem_line.mp h1
        exact ⟨by simp; omega, h4, h5⟩
    · rintro ⟨h1, h2, h3⟩
      by_cases h4 : w.length < k
      · exact .inl ⟨h4, h2, h3⟩
      · exact .inr ⟨(w, t), List.mem_filter.mpr ⟨mem_line.mpr ⟨by omega, h2, h3⟩, by simp⟩, rfl⟩
/-- all ways -/
theorem mem_ways {many : Int} {L : List Ar} (h : Net many L) {w : List Int} : w ∈ sortB lexLtB (foundW L (many - 1) many.toNat) ↔ (∀ i ∈ w, inB L.length i = true) ∧ walkI L 0 w = some (many - 1) := by
  rw [(q_sortB_perm _).mem_iff, mem_found]
  constructor
  · exact fun h => h.2
  · intro h2
    refine ⟨?_, h2⟩
    have := walk_up (fun a ha => ⟨(h.pr a ha).1, (h.pr a ha).2.1⟩) h2.2
    have := h.m2
    omega
theorem ways_ne {many : Int} {L : List Ar} (h : Net many L) {w : List Int} (hw : w ∈ foundW L (many - 1) many.toNat) : w ≠ [] := by
  rintro rfl
  have := (mem_found.mp hw).2.2
  simp [walkI] at this
  have := h.m2
  omega
theorem way_from {many : Int} {L : List Ar} (h : Net many L) : ∀ (k : Nat) (p : Int), (many - 1 - p).toNat ≤ k → 0 ≤ p → p < many → ∃ w : List Int, (∀ i ∈ w, inB L.length i = true) ∧ walkI L p w = some (many - 1)
  | k, p, hk, h0, h1 => by
    by_cases hp : p = many - 1
    · exact ⟨[], by simp, by rw [walkI, hp]⟩
    obtain ⟨a, ha, e⟩ := h.outs p h0 (by omega)
    have hpr := h.pr a ha
    obtain ⟨i, hi, e2⟩ := List.getElem_of_mem ha
    cases k with
    | zero => omega
    | succ k =>
      obtain ⟨w, hw, hw2⟩ := way_from h k a.2 (by omega) (by omega) (by omega)
      refine ⟨(i : Int) :: w, fun j hj => ?_, ?_⟩
      · rcases List.mem_cons.mp hj with rfl | hj
        · simp [inB]; exact hi
        · exact hw j hj
      · rw [walkI, Int.toNat_natCast, List.getElem?_eq_getElem hi, e2]
        simp only [e, if_true, hw2]
theorem ways_some {many : Int} {L : List Ar} (h : Net many L) : sortB lexLtB (foundW L (many - 1) many.toNat) ≠ [] := by
  obtain ⟨w, hw⟩ := way_from h _ 0 (Nat.le_refl _) (by omega) (by have := h.m2; omega)
  intro e
  have := (mem_ways h).mpr hw
  rw [e] at this
  cases this
end Pz

set_option linter.all false
set_option autoImplicit false
set_option maxRecDepth 100000
/-! Pw6: the cup, likeness. -/
namespace Pz
open L2 PySem
theorem dps_map {α : Type} (n : Nat) (f : α → D) (h : ∀ a, D.dp n (f a) = true) : ∀ L : List α, D.dps n (L.map f) = true
  | [] => by simp [D.dps]
  | a :: L => by rw [List.map_cons, D.dps, h, dps_map n f h L]; rfl
theorem dps_all {n : Nat} : ∀ {xs : List D}, (∀ x ∈ xs, D.dp n x = true) → D.dps n xs = true
  | [], _ => by simp [D.dps]
  | x :: xs, h => by rw [D.dps, h x List.mem_cons_self, dps_all fun y hy => h y (List.mem_cons_of_mem _ hy)]; rfl
theorem dp_int (n : Nat) (i : Int) : D.dp n (.int i) = true := by cases n <;> rfl
theorem dp_ar (n : Nat) (a : Ar) : D.dp (n + 1) (arD a) = true := by
  simp [arD, D.dp, D.dps, dp_int]
theorem eq_nil {xs : List D} (h : D.dps 59 xs = true) : cmpEv .eq (.lst xs) (.lst []) = some xs.isEmpty := by
  have e : D.dp dpth (.lst xs) = true := by show D.dp (59 + 1) _ = true; rw [D.dp]; exact h
  show (if _ && _ then some _ else none) = _
  rw [e, show D.dp dpth (.lst []) = true from rfl]
  cases xs <;> rfl
theorem ne_nil {xs : List D} (h : D.dps 59 xs = true) : cmpEv .ne (.lst xs) (.lst []) = some !xs.isEmpty := by
  have := eq_nil h
  show (eqEv _ _).map _ = _
  rw [show eqEv (.lst xs) (.lst []) = some xs.isEmpty from this]; rfl
@[simp] theorem eq_nilA (L : List Ar) : cmpEv .eq (.lst (L.map arD)) (.lst []) = some L.isEmpty := by
  rw [eq_nil (dps_map 59 arD (dp_ar 58) L)]; simp
@[simp] theorem ne_nilA (L : List Ar) : cmpEv .ne (.lst (L.map arD)) (.lst []) = some !L.isEmpty := by
  rw [ne_nil (dps_map 59 arD (dp_ar 58) L)]; simp
@[simp] theorem eq_nil1 {α : Type} (i : Int) (L : List α) : cmpEv .eq (.lst (L.map fun _ => .int i)) (.lst []) = some L.isEmpty := by
  rw [eq_nil (dps_map 59 _ (fun _ => dp_int 59 i) L)]; simp
@[simp] theorem ne_nil1 {α : Type} (i : Int) (L : List α) : cmpEv .ne (.lst (L.map fun _ => .int i)) (.lst []) = some !L.isEmpty := by
  rw [ne_nil (dps_map 59 _ (fun _ => dp_int 59 i) L)]; simp
@[simp] theorem eq_nn : cmpEv .eq (.lst []) (.lst []) = some true := by rw [eq_nil rfl]; rfl
@[simp] theorem ne_nn : cmpEv .ne (.lst []) (.lst []) = some false := by rw [ne_nil rfl]; rfl
@[simp] theorem eq_nilAc (a : Ar) (L : List Ar) : cmpEv .eq (.lst (arD a :: L.map arD)) (.lst []) = some false := by
  have := eq_nilA (a :: L); rwa [List.map_cons] at this
@[simp] theorem ne_nilAc (a : Ar) (L : List Ar) : cmpEv .ne (.lst (arD a :: L.map arD)) (.lst []) = some true := by
  have := ne_nilA (a :: L); rwa [List.map_cons] at this
@[simp] theorem eq_nil1c {α : Type} (i : Int) (L : List α) : cmpEv .eq (.lst (.int i :: L.map fun _ => .int i)) (.lst []) = some false := by
  have e : D.dps 59 (.int i :: L.map fun _ => .int i) = true := by rw [D.dps, dps_map 59 _ (fun _ => dp_int 59 i) L]; rfl
  rw [eq_nil e]; rfl
@[simp] theorem ne_nil1c {α : Type} (i : Int) (L : List α) : cmpEv .ne (.lst (.int i :: L.map fun _ => .int i)) (.lst []) = some true := by
  have e : D.dps 59 (.int i :: L.map fun _ => .int i) = true := by rw [D.dps, dps_map 59 _ (fun _ => dp_int 59 i) L]; rfl
  rw [ne_nil e]; rfl
theorem nme_ar (i : Int) (a : Ar) : cmpEv .nme (.int i) (arD a) = some (!(decide (i = a.1) || decide (i = a.2))) := by
  show (memEv (.int i) (arD a)).map _ = _
  have : memEv (.int i) (arD a) = some (decide (i = a.1) || decide (i = a.2)) := by
    show some (memB _ _) = _
    simp [memB, D.eq]
    rw [Bool.eq_iff_iff]; simp; omega
  rw [this]; rfl
theorem neT_nil (L : List Ar) : cmpEv .ne (.tup (L.map arD)) (.tup []) = some !L.isEmpty := by
  have e : D.dp dpth (.tup (L.map arD)) = true := by show D.dp (59 + 1) _ = true; rw [D.dp]; exact dps_map 59 arD (dp_ar 58) L
  show (eqEv _ _).map _ = _
  have : eqEv (.tup (L.map arD)) (.tup []) = some L.isEmpty := by
    show (if _ && _ then some _ else none) = _
    rw [e, show D.dp dpth (.tup []) = true from rfl]
    cases L <;> rfl
  rw [this]; rfl
theorem dp_dI (n : Nat) (w : List Int) : D.dp (n + 1) (.tup (dI w)) = true := by rw [D.dp]; exact dps_map n D.int (dp_int n) w
theorem eqs_dI : ∀ v w : List Int, D.eqs (dI v) (dI w) = decide (v = w)
  | [], [] => rfl
  | [], _ :: _ => rfl
  | _ :: _, [] => rfl
  | i :: v, j :: w => by
    rw [dI_cons, dI_cons, D.eqs, eqs_dI v w, D.eq]
    rw [Bool.eq_iff_iff]; simp
theorem memB_its (v : List Int) : ∀ W : List (List Int), memB (.tup (dI v)) (W.map fun w => .tup (dI w)) = decide (v ∈ W)
  | [] => rfl
  | w :: W => by
    rw [List.map_cons, memB, memB_its v W, D.eq, eqs_dI]
    rw [Bool.eq_iff_iff]
    simp only [Bool.or_eq_true, decide_eq_true_eq, List.mem_cons]
    exact ⟨fun h => h.elim (fun h => .inl h.symm) .inr, fun h => h.elim (fun h => .inl h.symm) .inr⟩
theorem mem_its (v : List Int) (W : List (List Int)) : cmpEv .mem (.tup (dI v)) (.lst (W.map fun w => .tup (dI w))) = some (decide (v ∈ W)) := by
  show (if D.dp (59 + 1) (.tup (dI v)) && D.dps (59 + 1) (W.map fun w => .tup (dI w)) then some _ else none) = _
  rw [dp_dI 59 v, dps_map (59 + 1) _ (fun w => dp_dI 59 w) W, memB_its]; rfl
@[simp] theorem isn_blT (b : Bool) : cmpEv .isn (.bl b) (.bl true) = some (!b) := by cases b <;> rfl
@[simp] theorem isn_blF (b : Bool) : cmpEv .isn (.bl b) (.bl false) = some b := by cases b <;> rfl
@[simp] theorem smallI_0 : smallI 0 = true := rfl
@[simp] theorem smallI_1 : smallI 1 = true := rfl
@[simp] theorem smallI_nat (k : Nat) (h : k ≤ 1000) : smallI (k : Int) = true := by simp [smallI]; omega
@[simp] theorem smallI_nat1 (k : Nat) (h : k ≤ 1000) : smallI ((k : Int) + 1) = true := by simp [smallI]; omega
theorem smallI_of {i : Int} (h : 0 ≤ i) (h2 : i ≤ 1000) : smallI i = true := by simp [smallI]; omega
/-- the cup -/
abbrev Cu := Int × Int
def cupS (c : Cu) : Sto := [[.int c.1, .int c.2]]
mutual
/-- data, at most so deep, not too long -/
def dok : Nat → D → Bool
  | _, .non => true
  | _, .bl _ => true
  | _, .int _ => true
  | _, .str s => PyData.strOk s
  | n + 1, .tup xs => decide (xs.length ≤ line) && doks n xs
  | n + 1, .lst xs => decide (xs.length ≤ line) && doks n xs
  | _, _ => false
def doks : Nat → List D → Bool
  | _, [] => true
  | n, x :: xs => dok n x && doks n xs
end
theorem doks_mem {n : Nat} : ∀ {xs : List D}, doks n xs = true → ∀ x ∈ xs, dok n x = true
  | y :: ys, h, x, hx => by
    rw [doks, Bool.and_eq_true] at h
    rcases List.mem_cons.mp hx with rfl | hx
    · exact h.1
    · exact doks_mem h.2 x hx
theorem doks_all {n : Nat} : ∀ {xs : List D}, (∀ x ∈ xs, dok n x = true) → doks n xs = true
  | [], _ => by simp [doks]
  | x :: xs, h => by rw [doks, h x List.mem_cons_self, doks_all fun y hy => h y (List.mem_cons_of_mem _ hy)]; rfl
@[simp] theorem dok_non (n : Nat) : dok n .non = true := by cases n <;> simp only [dok]
@[simp] theorem dok_bl (n : Nat) (b : Bool) : dok n (.bl b) = true := by cases n <;> simp only [dok]
@[simp] theorem dok_int (n : Nat) (b : Int) : dok n (.int b) = true := by cases n <;> simp only [dok]
@[simp] theorem dok_tup (n : Nat) (xs : List D) : dok (n + 1) (.tup xs) = (decide (xs.length ≤ line) && doks n xs) := by simp only [dok]
@[simp] theorem dok_lst (n : Nat) (xs : List D) : dok (n + 1) (.lst xs) = (decide (xs.length ≤ line) && doks n xs) := by simp only [dok]
@[simp] theorem doks_nil (n : Nat) : doks n [] = true := by simp only [doks]
@[simp] theorem doks_cons (n : Nat) (x : D) (xs : List D) : doks n (x :: xs) = (dok n x && doks n xs) := by simp only [doks]
theorem doks_bl {α : Type} (n : Nat) (f : α → Bool) : ∀ L : List α, doks n (L.map fun a => .bl (f a)) = true
  | [] => doks_nil n
  | a :: L => by rw [List.map_cons, doks_cons, dok_bl, doks_bl n f L]; rfl
theorem zip_self_mem {α : Type} : ∀ {L : List α} {p : α × α}, p ∈ L.zip L → p.1 = p.2 ∧ p.1 ∈ L
  | a :: L, p, h => by
    rw [List.zip_cons_cons] at h
    rcases List.mem_cons.mp h with rfl | h
    · exact ⟨rfl, List.mem_cons_self⟩
    · have := zip_self_mem h; exact ⟨this.1, List.mem_cons_of_mem _ this.2⟩
theorem zipD_ids (L M : List D) : zipD L M = (L.zip M).map fun p => .tup [p.1, p.2] := by
  have := zipD_map id id L M
  rwa [List.map_id, List.map_id] at this
@[simp] theorem isTy_bl_tuple (b : Bool) : isTy .tuple (.bl b) = some false := rfl
@[simp] theorem isTy_bl_int (b : Bool) : isTy .int (.bl b) = some true := rfl
@[simp] theorem isTy_bl_bool (b : Bool) : isTy .bool (.bl b) = some true := rfl
@[simp] theorem isTy_bl_str (b : Bool) : isTy .str (.bl b) = some false := rfl
@[simp] theorem isTy_bl_list (b : Bool) : isTy .list (.bl b) = some false := rfl
@[simp] theorem isTy_str_tuple (b : Str) : isTy .tuple (.str b) = some false := rfl
@[simp] theorem isTy_str_int (b : Str) : isTy .int (.str b) = some false := rfl
@[simp] theorem isTy_str_bool (b : Str) : isTy .bool (.str b) = some false := rfl
@[simp] theorem isTy_str_str (b : Str) : isTy .str (.str b) = some true := rfl
@[simp] theorem isTy_str_list (b : Str) : isTy .list (.str b) = some false := rfl
@[simp] theorem isTy_non (T : Ty) : isTy T .non = some false := by cases T <;> rfl
@[simp] theorem is_non (d : D) : cmpEv .is d .non = (isEv d .non) := rfl
@[simp] theorem isEv_non : isEv .non .non = some true := rfl
@[simp] theorem isEv_int (i : Int) : isEv (.int i) .non = some false := rfl
@[simp] theorem isEv_bl (i : Bool) : isEv (.bl i) .non = some false := rfl
@[simp] theorem isEv_str (i : Str) : isEv (.str i) .non = some false := rfl
@[simp] theorem isEv_tup (i : List D) : isEv (.tup i) .non = some false := rfl
@[simp] theorem isEv_lst (i : List D) : isEv (.lst i) .non = some false := rfl
end Pz

set_option Elab.async false
set_option linter.all false
set_option maxRecDepth 100000
namespace K00
open PySem Pz
def b_is_number : QSs := (.cons (.ret (.bop true (.cons (.isi (.var 0) .int) (.cons (.not (.isi (.var 0) .bool)) .nil)))) .nil)
def b_is_whole : QSs := (.cons (.ret (.bop true (.cons (.call 0 (.cons (.var 0) .nil)) (.cons (.chn .le .le (.var 1) (.var 0) (.var 2)) .nil)))) .nil)
def b_is_tuple_of : QSs := (.cons (.ret (.bop true (.cons (.isi (.var 0) .tuple) (.cons (.chn .le .le (.var 1) (.bi .len (.cons (.var 0) .nil)) (.var 2)) .nil)))) .nil)
def b_reached : QSs := (.cons (.asg (.nm 2) (.lst (.cons (.var 1) .nil))) (.cons (.for_ (.tp (.cons (.nm 3) (.cons (.nm 4) .nil))) (.val (.var 0)) true (.cons (.ite (.bop true (.cons (.cmp .mem (.var 3) (.var 2)) (.cons (.cmp .nme (.var 4) (.var 2)) .nil))) (.cons (.app 2 (.var 4)) .nil) .nil) .nil)) (.cons (.retv 2) .nil)))
def b_leading : QSs := (.cons (.asg (.nm 2) (.lst (.cons (.var 1) .nil))) (.cons (.for_ (.tp (.cons (.nm 3) (.cons (.nm 4) .nil))) (.val (.rev (.var 0))) false (.cons (.ite (.bop true (.cons (.cmp .mem (.var 4) (.var 2)) (.cons (.cmp .nme (.var 3) (.var 2)) .nil))) (.cons (.app 2 (.var 3)) .nil) .nil) .nil)) (.cons (.retv 2) .nil)))
def b_is_arrow : QSs := (.cons (.ite (.bop false (.cons (.not (.call 2 (.cons (.var 1) (.cons (.con (.int 2)) (.cons (.con (.int 2)) .nil))))) (.cons (.not (.bi .all (.cons (.lc [2] (.call 1 (.cons (.var 2) (.cons (.con (.int 0)) (.cons (.bin .sub (.var 0) (.con (.int 1))) .nil)))) (.nm 2) (.val (.var 1)) .nil) .nil))) .nil))) (.cons (.ret (.con (.bl false))) .nil) .nil) (.cons (.ret (.cmp .lt (.ix (.var 1) (.con (.int 0))) (.ix (.var 1) (.con (.int 1))))) .nil))
def b_is_net : QSs := (.cons (.ite (.bop false (.cons (.not (.call 2 (.cons (.var 0) (.cons (.con (.int 2)) (.cons (.con (.int 2)) .nil))))) (.cons (.not (.call 1 (.cons (.ix (.var 0) (.con (.int 0))) (.cons (.con (.int 2)) (.cons (.glo 0) .nil))))) (.cons (.not (.call 2 (.cons (.ix (.var 0) (.con (.int 1))) (.cons (.con (.int 1)) (.cons (.glo 1) .nil))))) .nil)))) (.cons (.ret (.con (.bl false))) .nil) .nil) (.cons (.asg (.tp (.cons (.nm 1) (.cons (.nm 2) .nil))) (.var 0)) (.cons (.ite (.not (.bi .all (.cons (.lc [3] (.call 5 (.cons (.var 1) (.cons (.var 3) .nil))) (.nm 3) (.val (.var 2)) .nil) .nil))) (.cons (.ret (.con (.bl false))) .nil) .nil) (.cons (.ite (.not (.bi .all (.cons (.lc [4, 5] (.cmp .le (.var 4) (.var 5)) (.tp (.cons (.nm 4) (.cons (.nm 5) .nil))) (.zip (.var 2) (.sl (.var 2) (.so (.con (.int 1))) .no)) .nil) .nil))) (.cons (.ret (.con (.bl false))) .nil) .nil) (.cons (.ret (.bop true (.cons (.cmp .eq (.bi .len (.cons (.call 3 (.cons (.var 2) (.cons (.con (.int 0)) .nil))) .nil)) (.var 1)) (.cons (.cmp .eq (.bi .len (.cons (.call 4 (.cons (.var 2) (.cons (.bin .sub (.var 1) (.con (.int 1))) .nil))) .nil)) (.var 1)) .nil)))) .nil)))))
def b_need_net : QSs := (.cons (.ite (.not (.call 6 (.cons (.var 0) .nil))) (.cons (.rai 1) .nil) .nil) .nil)
def b_is_way_in : QSs := (.cons (.ite (.bop false (.cons (.not (.isi (.var 3) .tuple)) (.cons (.not (.bi .all (.cons (.lc [5] (.call 1 (.cons (.var 5) (.cons (.con (.int 0)) (.cons (.bin .sub (.bi .len (.cons (.ix (.var 0) (.con (.int 1))) .nil)) (.con (.int 1))) .nil)))) (.nm 5) (.val (.var 3)) .nil) .nil))) .nil))) (.cons (.ret (.con (.bl false))) .nil) .nil) (.cons (.mv 4 1) (.cons (.for_ (.nm 5) (.val (.var 3)) true (.cons (.ite (.cmp .ne (.ix (.ix (.ix (.var 0) (.con (.int 1))) (.var 5)) (.con (.int 0))) (.var 4)) (.cons (.ret (.con (.bl false))) .nil) .nil) (.cons (.asg (.nm 4) (.ix (.ix (.ix (.var 0) (.con (.int 1))) (.var 5)) (.con (.int 1)))) .nil))) (.cons (.ret (.cmp .eq (.var 4) (.var 2))) .nil))))
def b_is_way : QSs := (.cons (.exp (.call 7 (.cons (.var 0) .nil))) (.cons (.ret (.call 8 (.cons (.var 0) (.cons (.con (.int 0)) (.cons (.bin .sub (.ix (.var 0) (.con (.int 0))) (.con (.int 1))) (.cons (.var 1) .nil)))))) .nil))
def b__law_cup : QSs := (.cons (.asg (.nm 1) (.bi .abs (.cons (.ix (.bin .add (.bi .list (.cons (.var 0) .nil)) (.lst (.cons (.con (.int 0)) .nil))) (.con (.int 0))) .nil))) (.cons (.ret (.lst (.cons (.ife (.cmp .ge (.var 1) (.bin .pow (.con (.int 10)) (.con (.int 18)))) (.bin .fdiv (.var 1) (.con (.int 347))) (.con (.int 0))) (.cons (.bin .mod (.bi .int (.cons (.bin .add (.bin .mul (.var 1) (.con (.int 1123))) (.con (.int 105701))) .nil)) (.con (.int 1048576))) .nil)))) .nil))
def b__law_roll : QSs := (.cons (.ite (.cmp .gt (.ix (.var 0) (.con (.int 0))) (.con (.int 0))) (.cons (.asg (.nm 2) (.bin .mod (.bi .int (.cons (.ix (.var 0) (.con (.int 0))) .nil)) (.var 1))) (.cons (.seti 0 (.con (.int 0)) (.bin .fdiv (.ix (.var 0) (.con (.int 0))) (.var 1))) (.cons (.retv 2) .nil))) .nil) (.cons (.seti 0 (.con (.int 1)) (.bin .mod (.bi .int (.cons (.bin .add (.bin .mul (.ix (.var 0) (.con (.int 1))) (.con (.int 26053))) (.con (.int 56221))) .nil)) (.con (.int 1048576)))) (.cons (.ret (.bin .mod (.bi .int (.cons (.bin .fdiv (.ix (.var 0) (.con (.int 1))) (.con (.int 163))) .nil)) (.var 1))) .nil)))
def b__law_some : QSs := (.cons (.ret (.ix (.var 1) (.call 11 (.cons (.var 0) (.cons (.bi .len (.cons (.var 1) .nil)) .nil))))) .nil)
def b__law_sort : QSs := (.cons (.ite (.bop false (.cons (.cmp .is (.var 0) (.con .non)) (.cons (.isi (.var 0) .bool) .nil))) (.cons (.ret (.ife (.cmp .is (.var 0) (.con .non)) (.con (.int 0)) (.con (.int 1)))) .nil) .nil) (.cons (.ite (.bop false (.cons (.isi (.var 0) .int) (.cons (.isi (.var 0) .str) .nil))) (.cons (.ret (.ife (.isi (.var 0) .int) (.con (.int 2)) (.con (.int 3)))) .nil) .nil) (.cons (.ret (.ife (.isi (.var 0) .tuple) (.con (.int 4)) (.ife (.isi (.var 0) .list) (.con (.int 5)) (.con (.int 6))))) .nil)))
def b__law_like : QSs := (.cons (.asg (.nm 2) (.call 13 (.cons (.var 1) .nil))) (.cons (.ite (.bop false (.cons (.cmp .ne (.call 13 (.cons (.var 0) .nil)) (.var 2)) (.cons (.cmp .eq (.var 2) (.con (.int 6))) .nil))) (.cons (.ret (.con (.bl false))) .nil) .nil) (.cons (.ite (.cmp .mem (.var 2) (.tup (.cons (.con (.int 4)) (.cons (.con (.int 5)) .nil)))) (.cons (.ret (.bop true (.cons (.cmp .eq (.bi .len (.cons (.var 0) .nil)) (.bi .len (.cons (.var 1) .nil))) (.cons (.cmp .eq (.lc [3, 4] (.con (.int 1)) (.tp (.cons (.nm 3) (.cons (.nm 4) .nil))) (.zip (.var 0) (.var 1)) (.cons (.not (.call 14 (.cons (.var 3) (.cons (.var 4) .nil)))) .nil)) (.lst .nil)) .nil)))) .nil) .nil) (.cons (.ret (.cmp .eq (.var 0) (.var 1))) .nil))))
def b__law_net : QSs := (.cons (.asg (.nm 2) (.bin .add (.con (.int 2)) (.call 11 (.cons (.var 0) (.cons (.bin .sub (.var 1) (.con (.int 1))) .nil))))) (.cons (.asg (.nm 3) (.lc [4] (.tup (.cons (.call 11 (.cons (.var 0) (.cons (.var 4) .nil))) (.cons (.var 4) .nil))) (.nm 4) (.rng2 (.con (.int 1)) (.var 2)) .nil)) (.cons (.for_ (.nm 4) (.rng1 (.bin .sub (.var 2) (.con (.int 1)))) false (.cons (.ite (.cmp .eq (.lc [7] (.var 7) (.nm 7) (.val (.var 3)) (.cons (.cmp .eq (.ix (.var 7) (.con (.int 0))) (.var 4)) .nil)) (.lst .nil)) (.cons (.app 3 (.tup (.cons (.var 4) (.cons (.bin .add (.bin .add (.var 4) (.con (.int 1))) (.call 11 (.cons (.var 0) (.cons (.bin .sub (.bin .sub (.var 2) (.con (.int 1))) (.var 4)) .nil)))) .nil)))) .nil) .nil) .nil)) (.cons (.for_ (.nm 5) (.rng1 (.call 11 (.cons (.var 0) (.cons (.con (.int 4)) .nil)))) false (.cons (.asg (.nm 6) (.call 11 (.cons (.var 0) (.cons (.bin .sub (.var 2) (.con (.int 1))) .nil)))) (.cons (.app 3 (.tup (.cons (.var 6) (.cons (.bin .add (.bin .add (.var 6) (.con (.int 1))) (.call 11 (.cons (.var 0) (.cons (.bin .sub (.bin .sub (.var 2) (.con (.int 1))) (.var 6)) .nil)))) .nil)))) .nil))) (.cons (.for_ (.nm 5) (.rng1 (.call 11 (.cons (.var 0) (.cons (.con (.int 3)) .nil)))) false (.cons (.app 3 (.ix (.var 3) (.call 11 (.cons (.var 0) (.cons (.bi .len (.cons (.var 3) .nil)) .nil))))) .nil)) (.cons (.ret (.tup (.cons (.var 2) (.cons (.bi .tuple (.cons (.bi .sorted (.cons (.var 3) .nil)) .nil)) .nil)))) .nil))))))
def b__law_ways : QSs := (.cons (.par [2, 3] (.cons (.lst .nil) (.cons (.lst (.cons (.tup (.cons (.tup .nil) (.cons (.con (.int 0)) .nil))) .nil)) .nil))) (.cons (.for_ (.nm 1) (.rng1 (.ix (.var 0) (.con (.int 0)))) false (.cons (.asg (.nm 4) (.lst .nil)) (.cons (.for_ (.tp (.cons (.nm 5) (.cons (.nm 6) .nil))) (.val (.var 3)) true (.cons (.ite (.cmp .eq (.var 6) (.bin .sub (.ix (.var 0) (.con (.int 0))) (.con (.int 1)))) (.cons (.app 2 (.var 5)) .nil) .nil) (.cons (.for_ (.tp (.cons (.nm 7) (.cons (.nm 8) .nil))) (.enum (.ix (.var 0) (.con (.int 1)))) false (.cons (.ite (.cmp .eq (.ix (.var 8) (.con (.int 0))) (.var 6)) (.cons (.app 4 (.tup (.cons (.bin .add (.var 5) (.tup (.cons (.var 7) .nil))) (.cons (.ix (.var 8) (.con (.int 1))) .nil)))) .nil) .nil) .nil)) .nil))) (.cons (.mv 3 4) .nil)))) (.cons (.ret (.bi .sorted (.cons (.var 2) .nil))) .nil)))
def b__law_is_net : QSs := (.cons (.ite (.cmp .ne (.lc [3, 4] (.con (.int 1)) (.tp (.cons (.nm 3) (.cons (.nm 4) .nil))) (.zip (.var 1) (.sl (.var 1) (.so (.con (.int 1))) .no)) (.cons (.cmp .gt (.var 3) (.var 4)) .nil)) (.lst .nil)) (.cons (.ret (.con (.bl false))) .nil) .nil) (.cons (.for_ (.nm 2) (.rng1 (.var 0)) false (.cons (.ite (.bop true (.cons (.cmp .gt (.var 2) (.con (.int 0))) (.cons (.cmp .eq (.lc [5] (.var 5) (.nm 5) (.val (.var 1)) (.cons (.cmp .eq (.ix (.var 5) (.con (.int 1))) (.var 2)) .nil)) (.lst .nil)) .nil))) (.cons (.ret (.con (.bl false))) .nil) .nil) (.cons (.ite (.bop true (.cons (.cmp .lt (.var 2) (.bin .sub (.var 0) (.con (.int 1)))) (.cons (.cmp .eq (.lc [5] (.var 5) (.nm 5) (.val (.var 1)) (.cons (.cmp .eq (.ix (.var 5) (.con (.int 0))) (.var 2)) .nil)) (.lst .nil)) .nil))) (.cons (.ret (.con (.bl false))) .nil) .nil) .nil))) (.cons (.ret (.con (.bl true))) .nil)))
def b__law_nets_right : QSs := (.cons (.asg (.nm 1) (.call 15 (.cons (.var 0) (.cons (.con (.int 7)) .nil)))) (.cons (.asg (.tp (.cons (.nm 5) (.cons (.nm 6) .nil))) (.var 1)) (.cons (.ite (.not (.call 14 (.cons (.lst (.cons (.call 6 (.cons (.var 1) .nil)) (.cons (.call 6 (.cons (.bi .list (.cons (.var 1) .nil)) .nil)) (.cons (.call 6 (.cons (.tup (.cons (.var 5) (.cons (.bi .list (.cons (.var 6) .nil)) .nil))) .nil)) (.cons (.call 6 (.cons (.bin .add (.var 1) (.tup (.cons (.con (.int 0)) .nil))) .nil)) (.cons (.call 6 (.cons (.tup (.cons (.bin .add (.var 5) (.con (.int 1))) (.cons (.var 6) .nil))) .nil)) .nil)))))) (.cons (.bin .add (.lst (.cons (.con (.bl true)) .nil)) (.bin .mul (.lst (.cons (.con (.bl false)) .nil)) (.con (.int 4)))) .nil)))) (.cons (.ret (.con (.bl false))) .nil) .nil) (.cons (.asg (.tp (.cons (.nm 7) (.cons (.nm 8) .nil))) (.tup (.cons (.call 11 (.cons (.var 0) (.cons (.bi .len (.cons (.var 6) .nil)) .nil))) (.cons (.call 11 (.cons (.var 0) (.cons (.var 5) .nil))) .nil)))) (.cons (.asg (.nm 2) (.lst (.cons (.bin .add (.sl (.var 6) .no (.so (.var 7))) (.sl (.var 6) (.so (.bin .add (.var 7) (.con (.int 1)))) .no)) (.cons (.bin .add (.bin .add (.sl (.var 6) .no (.so (.var 7))) (.sl (.var 6) (.so (.var 7)) (.so (.bin .add (.var 7) (.con (.int 1)))))) (.sl (.var 6) (.so (.var 7)) .no)) (.cons (.rev (.var 6)) .nil))))) (.cons (.asg (.nm 2) (.bin .add (.var 2) (.lst (.cons (.bi .tuple (.cons (.bi .sorted (.cons (.bin .add (.var 6) (.tup (.cons (.tup (.cons (.con (.int 0)) (.cons (.bin .sub (.var 5) (.con (.int 1))) .nil))) .nil))) .nil)) .nil)) (.cons (.bi .tuple (.cons (.lc [11] (.var 11) (.nm 11) (.val (.var 6)) (.cons (.cmp .nme (.var 8) (.var 11)) .nil)) .nil)) .nil))))) (.cons (.asg (.nm 3) (.lc [9] (.call 6 (.cons (.tup (.cons (.var 5) (.cons (.var 9) .nil))) .nil)) (.nm 9) (.val (.var 2)) .nil)) (.cons (.ite (.not (.call 14 (.cons (.var 3) (.cons (.lc [9] (.bop true (.cons (.cmp .ne (.var 9) (.tup .nil)) (.cons (.call 17 (.cons (.var 5) (.cons (.var 9) .nil))) .nil))) (.nm 9) (.val (.var 2)) .nil) .nil)))) (.cons (.ret (.con (.bl false))) .nil) .nil) (.cons (.asg (.nm 4) (.lst (.cons (.tup (.cons (.var 8) (.cons (.var 8) .nil))) (.cons (.tup (.cons (.bin .sub (.var 5) (.con (.int 1))) (.cons (.var 5) .nil))) (.cons (.tup (.cons (.con (.int 1)) (.cons (.con (.int 0)) .nil))) (.cons (.tup (.cons (.con (.int 0)) .nil)) (.cons (.tup (.cons (.con (.int 0)) (.cons (.con (.int 1)) (.cons (.con (.int 1)) .nil)))) (.cons (.con .non) (.cons (.lst (.cons (.con (.int 0)) (.cons (.con (.int 1)) .nil))) (.cons (.tup (.cons (.con (.int 0)) (.cons (.con (.bl true)) .nil))) (.cons (.tup (.cons (.neg (.con (.int 1))) (.cons (.con (.int 0)) .nil))) .nil))))))))))) (.cons (.ret (.call 14 (.cons (.lc [10] (.call 6 (.cons (.tup (.cons (.var 5) (.cons (.bin .add (.bin .add (.sl (.var 6) .no (.so (.var 7))) (.tup (.cons (.var 10) .nil))) (.sl (.var 6) (.so (.var 7)) .no)) .nil))) .nil)) (.nm 10) (.val (.var 4)) .nil) (.cons (.bin .mul (.lst (.cons (.con (.bl false)) .nil)) (.con (.int 9))) .nil)))) .nil))))))))))
def b__law_ways_right : QSs := (.cons (.asg (.nm 1) (.call 15 (.cons (.var 0) (.cons (.con (.int 7)) .nil)))) (.cons (.asg (.nm 2) (.call 16 (.cons (.var 1) .nil))) (.cons (.ite (.cmp .ne (.lc [7] (.var 7) (.nm 7) (.val (.var 2)) (.cons (.bop false (.cons (.cmp .isn (.call 9 (.cons (.var 1) (.cons (.var 7) .nil))) (.con (.bl true))) (.cons (.cmp .isn (.call 9 (.cons (.var 1) (.cons (.bi .list (.cons (.var 7) .nil)) .nil))) (.con (.bl false))) .nil))) .nil)) (.lst .nil)) (.cons (.ret (.con (.bl false))) .nil) .nil) (.cons (.for_ (.nm 3) (.rng1 (.con (.int 8))) false (.cons (.par [7, 8] (.cons (.call 12 (.cons (.var 0) (.cons (.var 2) .nil))) (.cons (.call 11 (.cons (.var 0) (.cons (.bi .len (.cons (.ix (.var 1) (.con (.int 1))) .nil)) .nil))) .nil))) (.cons (.asg (.nm 4) (.call 11 (.cons (.var 0) (.cons (.bi .len (.cons (.var 7) .nil)) .nil)))) (.cons (.for_ (.nm 5) (.val (.tup (.cons (.bin .add (.sl (.var 7) .no (.so (.var 4))) (.sl (.var 7) (.so (.bin .add (.var 4) (.con (.int 1)))) .no)) (.cons (.bin .add (.bin .add (.sl (.var 7) .no (.so (.var 4))) (.tup (.cons (.var 8) .nil))) (.sl (.var 7) (.so (.bin .add (.var 4) (.con (.int 1)))) .no)) (.cons (.rev (.var 7)) (.cons (.bin .add (.var 7) (.tup (.cons (.var 8) .nil))) (.cons (.bin .add (.bin .add (.sl (.var 7) .no (.so (.var 4))) (.tup (.cons (.var 8) .nil))) (.sl (.var 7) (.so (.var 4)) .no)) (.cons (.bin .add (.sl (.var 7) (.so (.var 4)) .no) (.sl (.var 7) .no (.so (.var 4)))) .nil)))))))) false (.cons (.ite (.not (.call 14 (.cons (.call 9 (.cons (.var 1) (.cons (.var 5) .nil))) (.cons (.cmp .mem (.var 5) (.var 2)) .nil)))) (.cons (.ret (.con (.bl false))) .nil) .nil) .nil)) (.cons (.for_ (.nm 6) (.val (.tup (.cons (.con .non) (.cons (.bi .len (.cons (.ix (.var 1) (.con (.int 1))) .nil)) (.cons (.neg (.con (.int 1))) (.cons (.tup (.cons (.var 8) .nil)) (.cons (.con (.str "0")) .nil))))))) false (.cons (.ite (.cmp .isn (.call 9 (.cons (.var 1) (.cons (.bin .add (.bin .add (.sl (.var 7) .no (.so (.var 4))) (.tup (.cons (.var 6) .nil))) (.sl (.var 7) (.so (.bin .add (.var 4) (.con (.int 1)))) .no)) .nil))) (.con (.bl false))) (.cons (.ret (.con (.bl false))) .nil) .nil) .nil)) .nil))))) (.cons (.ret (.con (.bl true))) .nil)))))
def b__law_written_right : QSs := (.cons (.par [2, 3, 4] (.cons (.tup (.cons (.con (.int 4)) (.cons (.tup (.cons (.tup (.cons (.con (.int 0)) (.cons (.con (.int 1)) .nil))) (.cons (.tup (.cons (.con (.int 0)) (.cons (.con (.int 2)) .nil))) (.cons (.tup (.cons (.con (.int 1)) (.cons (.con (.int 2)) .nil))) (.cons (.tup (.cons (.con (.int 1)) (.cons (.con (.int 3)) .nil))) (.cons (.tup (.cons (.con (.int 2)) (.cons (.con (.int 3)) .nil))) .nil)))))) .nil))) (.cons (.tup (.cons (.con (.int 3)) (.cons (.tup (.cons (.tup (.cons (.con (.int 0)) (.cons (.con (.int 1)) .nil))) (.cons (.tup (.cons (.con (.int 0)) (.cons (.con (.int 1)) .nil))) (.cons (.tup (.cons (.con (.int 1)) (.cons (.con (.int 2)) .nil))) .nil)))) .nil))) (.cons (.tup (.cons (.con (.int 12)) (.cons (.bi .tuple (.cons (.lc [5] (.tup (.cons (.var 5) (.cons (.bin .add (.var 5) (.con (.int 1))) .nil))) (.nm 5) (.rng1 (.con (.int 11))) .nil) .nil)) .nil))) .nil)))) (.cons (.asg (.nm 0) (.lst (.cons (.call 6 (.cons (.var 2) .nil)) (.cons (.call 6 (.cons (.var 3) .nil)) (.cons (.call 6 (.cons (.tup (.cons (.con (.int 2)) (.cons (.tup (.cons (.tup (.cons (.con (.int 0)) (.cons (.con (.int 1)) .nil))) .nil)) .nil))) .nil)) (.cons (.call 6 (.cons (.tup (.cons (.con (.int 3)) (.cons (.tup (.cons (.tup (.cons (.con (.int 0)) (.cons (.con (.int 2)) .nil))) .nil)) .nil))) .nil)) (.cons (.call 6 (.cons (.tup (.cons (.con (.int 3)) (.cons (.tup (.cons (.tup (.cons (.con (.int 0)) (.cons (.con (.int 2)) .nil))) (.cons (.tup (.cons (.con (.int 0)) (.cons (.con (.int 1)) .nil))) (.cons (.tup (.cons (.con (.int 1)) (.cons (.con (.int 2)) .nil))) .nil)))) .nil))) .nil)) (.cons (.call 6 (.cons (.tup (.cons (.con (.int 3)) (.cons (.tup (.cons (.tup (.cons (.con (.int 0)) (.cons (.con (.int 1)) .nil))) (.cons (.tup (.cons (.con (.int 0)) (.cons (.con (.int 2)) .nil))) .nil))) .nil))) .nil)) .nil)))))))) (.cons (.asg (.nm 1) (.lst (.cons (.con (.bl true)) (.cons (.con (.bl true)) (.cons (.con (.bl true)) (.cons (.con (.bl false)) (.cons (.con (.bl false)) (.cons (.con (.bl false)) .nil)))))))) (.cons (.asg (.nm 0) (.bin .add (.var 0) (.lst (.cons (.call 6 (.cons (.tup (.cons (.con (.int 3)) (.cons (.tup (.cons (.tup (.cons (.con (.int 0)) (.cons (.con (.int 2)) .nil))) (.cons (.tup (.cons (.con (.int 1)) (.cons (.con (.int 2)) .nil))) .nil))) .nil))) .nil)) (.cons (.call 6 (.cons (.tup (.cons (.con (.int 1)) (.cons (.tup .nil) .nil))) .nil)) (.cons (.call 6 (.cons (.tup (.cons (.con (.int 2)) (.cons (.tup .nil) .nil))) .nil)) (.cons (.call 6 (.cons (.tup (.cons (.con (.int 2)) (.cons (.bin .mul (.tup (.cons (.tup (.cons (.con (.int 0)) (.cons (.con (.int 1)) .nil))) .nil)) (.con (.int 24))) .nil))) .nil)) (.cons (.call 6 (.cons (.tup (.cons (.con (.int 2)) (.cons (.bin .mul (.tup (.cons (.tup (.cons (.con (.int 0)) (.cons (.con (.int 1)) .nil))) .nil)) (.con (.int 25))) .nil))) .nil)) (.cons (.call 6 (.cons (.var 4) .nil)) .nil))))))))) (.cons (.asg (.nm 1) (.bin .add (.var 1) (.lst (.cons (.con (.bl false)) (.cons (.con (.bl false)) (.cons (.con (.bl false)) (.cons (.con (.bl true)) (.cons (.con (.bl false)) (.cons (.con (.bl true)) .nil))))))))) (.cons (.asg (.nm 0) (.bin .add (.var 0) (.lst (.cons (.call 6 (.cons (.tup (.cons (.con (.int 13)) (.cons (.bi .tuple (.cons (.lc [5] (.tup (.cons (.var 5) (.cons (.bin .add (.var 5) (.con (.int 1))) .nil))) (.nm 5) (.rng1 (.con (.int 12))) .nil) .nil)) .nil))) .nil)) (.cons (.call 6 (.cons (.tup (.cons (.con (.bl true)) (.cons (.tup (.cons (.tup (.cons (.con (.int 0)) (.cons (.con (.int 1)) .nil))) .nil)) .nil))) .nil)) (.cons (.call 6 (.cons (.con .non) .nil)) (.cons (.call 6 (.cons (.tup .nil) .nil)) (.cons (.call 6 (.cons (.tup (.cons (.con (.int 3)) (.cons (.tup (.cons (.tup (.cons (.con (.int 0)) (.cons (.con (.int 1)) .nil))) (.cons (.tup (.cons (.con (.int 1)) (.cons (.con (.int 2)) .nil))) (.cons (.tup (.cons (.con (.int 0)) (.cons (.con (.int 2)) .nil))) .nil)))) .nil))) .nil)) (.cons (.call 6 (.cons (.tup (.cons (.con (.int 2)) (.cons (.tup (.cons (.tup (.cons (.con (.int 0)) (.cons (.con (.int 2)) .nil))) .nil)) .nil))) .nil)) .nil))))))))) (.cons (.asg (.nm 1) (.bin .add (.var 1) (.bin .mul (.lst (.cons (.con (.bl false)) .nil)) (.con (.int 6))))) (.cons (.asg (.nm 0) (.bin .add (.var 0) (.lst (.cons (.call 9 (.cons (.var 2) (.cons (.tup (.cons (.con (.int 0)) (.cons (.con (.int 3)) .nil))) .nil))) (.cons (.call 9 (.cons (.var 2) (.cons (.tup (.cons (.con (.int 0)) (.cons (.con (.int 2)) (.cons (.con (.int 4)) .nil)))) .nil))) (.cons (.call 9 (.cons (.var 2) (.cons (.tup (.cons (.con (.int 1)) (.cons (.con (.int 4)) .nil))) .nil))) (.cons (.call 9 (.cons (.var 2) (.cons (.tup (.cons (.con (.int 0)) (.cons (.con (.int 4)) .nil))) .nil))) (.cons (.call 9 (.cons (.var 2) (.cons (.tup .nil) .nil))) (.cons (.call 9 (.cons (.var 2) (.cons (.tup (.cons (.con (.int 0)) .nil)) .nil))) (.cons (.call 9 (.cons (.var 2) (.cons (.tup (.cons (.con (.int 0)) (.cons (.con (.int 2)) .nil))) .nil))) (.cons (.call 9 (.cons (.var 3) (.cons (.tup (.cons (.con (.int 1)) (.cons (.con (.int 2)) .nil))) .nil))) (.cons (.call 9 (.cons (.var 3) (.cons (.tup (.cons (.con (.int 0)) (.cons (.con (.int 1)) (.cons (.con (.int 2)) .nil)))) .nil))) .nil)))))))))))) (.cons (.asg (.nm 1) (.bin .add (.var 1) (.lst (.cons (.con (.bl true)) (.cons (.con (.bl true)) (.cons (.con (.bl true)) (.cons (.con (.bl false)) (.cons (.con (.bl false)) (.cons (.con (.bl false)) (.cons (.con (.bl false)) (.cons (.con (.bl true)) (.cons (.con (.bl false)) .nil)))))))))))) (.cons (.asg (.nm 0) (.bin .add (.var 0) (.lst (.cons (.call 9 (.cons (.var 4) (.cons (.cvr1 true (.con (.int 11))) .nil))) (.cons (.call 9 (.cons (.var 4) (.cons (.cvr1 true (.con (.int 10))) .nil))) (.cons (.call 9 (.cons (.var 2) (.cons (.tup (.cons (.con (.int 3)) (.cons (.con (.int 0)) .nil))) .nil))) (.cons (.call 9 (.cons (.var 2) (.cons (.tup (.cons (.con (.bl false)) (.cons (.con (.int 3)) .nil))) .nil))) (.cons (.call 9 (.cons (.var 2) (.cons (.tup (.cons (.con (.int 0)) (.cons (.con (.int 5)) .nil))) .nil))) (.cons (.call 9 (.cons (.var 2) (.cons (.con (.int 0)) .nil))) .nil))))))))) (.cons (.ret (.call 14 (.cons (.var 0) (.cons (.bin .add (.var 1) (.lst (.cons (.con (.bl true)) (.cons (.con (.bl false)) (.cons (.con (.bl false)) (.cons (.con (.bl false)) (.cons (.con (.bl false)) (.cons (.con (.bl false)) .nil)))))))) .nil)))) .nil)))))))))))
def b__law_errors_right : QSs := (.cons (.asg (.nm 0) (.lst .nil)) (.cons (.for_ (.nm 1) (.val (.tup (.cons (.con .non) (.cons (.con (.int 0)) (.cons (.tup .nil) (.cons (.tup (.cons (.con (.int 2)) .nil)) (.cons (.tup (.cons (.con (.int 2)) (.cons (.tup .nil) .nil))) (.cons (.tup (.cons (.con (.int 1)) (.cons (.tup .nil) .nil))) (.cons (.lst (.cons (.con (.int 2)) (.cons (.tup (.cons (.tup (.cons (.con (.int 0)) (.cons (.con (.int 1)) .nil))) .nil)) .nil))) (.cons (.tup (.cons (.con (.int 2)) (.cons (.lst (.cons (.tup (.cons (.con (.int 0)) (.cons (.con (.int 1)) .nil))) .nil)) .nil))) (.cons (.tup (.cons (.con (.int 3)) (.cons (.tup (.cons (.tup (.cons (.con (.int 0)) (.cons (.con (.int 2)) .nil))) .nil)) .nil))) (.cons (.tup (.cons (.con (.int 2)) (.cons (.tup (.cons (.tup (.cons (.con (.int 1)) (.cons (.con (.int 0)) .nil))) .nil)) .nil))) (.cons (.tup (.cons (.con (.int 2)) (.cons (.bin .mul (.tup (.cons (.tup (.cons (.con (.int 0)) (.cons (.con (.int 1)) .nil))) .nil)) (.con (.int 25))) .nil))) (.cons (.tup (.cons (.con (.int 2)) (.cons (.tup (.cons (.tup (.cons (.con (.int 0)) (.cons (.con (.int 1)) .nil))) (.cons (.tup (.cons (.con (.int 0)) (.cons (.con (.int 1)) .nil))) (.cons (.con .non) .nil)))) .nil))) (.cons (.con (.str "net")) .nil))))))))))))))) false (.cons (.asg (.nm 0) (.bin .add (.var 0) (.lst (.cons (.lam 0 (.call 9 (.cons (.var 1) (.cons (.con .non) .nil)))) .nil)))) (.cons (.asg (.nm 0) (.bin .add (.var 0) (.lst (.cons (.lam 0 (.call 9 (.cons (.var 1) (.cons (.tup (.cons (.con (.int 0)) .nil)) .nil)))) .nil)))) .nil))) (.cons (.ret (.cmp .eq (.var 0) (.bin .mul (.lst (.cons (.con (.str "net")) .nil)) (.con (.int 26))))) .nil)))
def b_law : QSs := (.cons (.mkh 1 (.call 10 (.cons (.var 0) .nil))) (.cons (.ite (.bop false (.cons (.not (.call 20 .nil)) (.cons (.not (.call 21 .nil)) .nil))) (.cons (.ret (.con (.bl false))) .nil) .nil) (.cons (.for_ (.nm 2) (.rng1 (.con (.int 14))) false (.cons (.ite (.bop false (.cons (.not (.call 18 (.cons (.var 1) .nil))) (.cons (.not (.call 19 (.cons (.var 1) .nil))) .nil))) (.cons (.ret (.con (.bl false))) .nil) .nil) .nil)) (.cons (.ret (.con (.bl true))) .nil))))
def defs : List Def := [⟨1, 1, b_is_number⟩, ⟨3, 3, b_is_whole⟩, ⟨3, 3, b_is_tuple_of⟩, ⟨2, 5, b_reached⟩, ⟨2, 5, b_leading⟩, ⟨2, 3, b_is_arrow⟩, ⟨1, 6, b_is_net⟩, ⟨1, 1, b_need_net⟩, ⟨4, 6, b_is_way_in⟩, ⟨2, 2, b_is_way⟩, ⟨1, 2, b__law_cup⟩, ⟨2, 3, b__law_roll⟩, ⟨2, 2, b__law_some⟩, ⟨1, 1, b__law_sort⟩, ⟨2, 5, b__law_like⟩, ⟨2, 8, b__law_net⟩, ⟨1, 9, b__law_ways⟩, ⟨2, 6, b__law_is_net⟩, ⟨1, 12, b__law_nets_right⟩, ⟨1, 9, b__law_ways_right⟩, ⟨0, 6, b__law_written_right⟩, ⟨0, 2, b__law_errors_right⟩, ⟨1, 3, b_law⟩]
def tb : Tb := { fns := [("is_number", 1), ("is_whole", 3), ("is_tuple_of", 3), ("reached", 2), ("leading", 2), ("is_arrow", 2), ("is_net", 1), ("need_net", 1), ("is_way_in", 4), ("is_way", 2), ("_law_cup", 1), ("_law_roll", 2), ("_law_some", 2), ("_law_sort", 1), ("_law_like", 2), ("_law_net", 2), ("_law_ways", 1), ("_law_is_net", 2), ("_law_nets_right", 1), ("_law_ways_right", 1), ("_law_written_right", 0), ("_law_errors_right", 0), ("law", 1)], gls := ["PLACES", "ARROWS"], cls := ["NetError", "InvalidNet"], bts := ["len", "abs", "list", "tuple", "sorted", "int", "all", "isinstance", "bool", "str", "range", "zip", "enumerate"], hds := ["_law_error"], lm := false }
def top (i : Nat) : Stmt := (PySem.Challenge.pw_fillsalike_k00_whole_nets_and_ways.main.body).getD i (.Pass ⟨0, 0, 0, 0⟩)
def n_is_number : List Str := ["value"]
def s_is_number : Stmt := top 4
def n_is_whole : List Str := ["value", "low", "high"]
def s_is_whole : Stmt := top 5
def n_is_tuple_of : List Str := ["value", "low", "high"]
def s_is_tuple_of : Stmt := top 6
def n_reached : List Str := ["arrows", "start", "found", "one", "other"]
def s_reached : Stmt := top 10
def n_leading : List Str := ["arrows", "end", "found", "one", "other"]
def s_leading : Stmt := top 11
def n_is_arrow : List Str := ["many", "value", "own"]
def s_is_arrow : Stmt := top 12
def n_is_net : List Str := ["value", "many", "arrows", "arrow", "one", "other"]
def s_is_net : Stmt := top 13
def n_need_net : List Str := ["value"]
def s_need_net : Stmt := top 14
def n_is_way_in : List Str := ["net", "one", "other", "value", "here", "own"]
def s_is_way_in : Stmt := top 15
def n_is_way : List Str := ["net", "value"]
def s_is_way : Stmt := top 16
def n__law_cup : List Str := ["script", "cell"]
def s__law_cup : Stmt := top 18
def n__law_roll : List Str := ["cup", "many", "found"]
def s__law_roll : Stmt := top 19
def n__law_some : List Str := ["cup", "things"]
def s__law_some : Stmt := top 20
def n__law_sort : List Str := ["value"]
def s__law_sort : Stmt := top 21
def n__law_like : List Str := ["one", "other", "sort", "first", "second"]
def s__law_like : Stmt := top 22
def n__law_net : List Str := ["cup", "most", "many", "found", "place", "turn", "one", "arrow"]
def s__law_net : Stmt := top 24
def n__law_ways : List Str := ["net", "turn", "found", "line", "later", "way", "here", "at", "arrow"]
def s__law_ways : Stmt := top 25
def n__law_is_net : List Str := ["many", "arrows", "place", "one", "other", "arrow"]
def s__law_is_net : Stmt := top 26
def n__law_nets_right : List Str := ["cup", "net", "nears", "told", "odds", "many", "arrows", "at", "place", "near", "odd", "arrow"]
def s__law_nets_right : Stmt := top 27
def n__law_ways_right : List Str := ["cup", "net", "ways", "turn", "spot", "value", "odd", "way", "at"]
def s__law_ways_right : Stmt := top 28
def n__law_written_right : List Str := ["told", "due", "w", "line", "wide", "at"]
def s__law_written_right : Stmt := top 29
def n__law_errors_right : List Str := ["words", "odd"]
def s__law_errors_right : Stmt := top 30
def n_law : List Str := ["script", "cup", "turn"]
def s_law : Stmt := top 31
end K00
namespace K00
open Pz
def hdl : List Hdl := [⟨some (.str "none"), [none, some (.str "net")]⟩]
def prog : Prog := ⟨defs, ⟨[.int 12, .int 24], hdl⟩⟩
@[simp] theorem gl_vals : prog.gl.vals = [.int 12, .int 24] := rfl
@[simp] theorem gl_hds : prog.gl.hds = hdl := rfl
end K00

set_option linter.all false
set_option maxRecDepth 100000
set_option maxHeartbeats 400000
namespace K00
open Pz L2
mutual
/-- data without functions, handles -/
def plain : D → Bool
  | .hd _ => false | .fn _ => false | .scr _ => false
  | .tup xs => plains xs
  | .lst xs => plains xs
  | _ => true
def plains : List D → Bool
  | [] => true
  | x :: xs => plain x && plains xs
end
theorem plains_mem : ∀ {xs : List D}, plains xs = true → ∀ x ∈ xs, plain x = true
  | y :: ys, h, x, hx => by
    rw [plains, Bool.and_eq_true] at h
    rcases List.mem_cons.mp hx with rfl | hx
    · exact h.1
    · exact plains_mem h.2 x hx
def numB : D → Bool
  | .int _ => true | _ => false
theorem f_is_number (n : Nat) (S : Sto) (d : D) (h : plain d = true) : callD prog (n + 1) 0 [d] S = .ok (.bl (numB d), false, S) := by
  cases d <;> first | rfl | (simp [plain] at h; done)
def wholeB (d : D) (lo hi : Int) : Bool := match d with
  | .int i => decide (lo ≤ i) && decide (i ≤ hi)
  | _ => false
theorem f_is_whole (n : Nat) (S : Sto) (d : D) (lo hi : Int) (h : plain d = true) : callD prog (n + 2) 1 [d, .int lo, .int hi] S = .ok (.bl (wholeB d lo hi), false, S) := by
  rw [show callD prog (n+1 + 1) 1 [d, .int lo, .int hi] S = (exes (callD prog (n+1)) prog.gl b_is_whole (startE 3 [d, .int lo, .int hi]) S).fin from rfl]; unfold b_is_whole
  cases d <;> first | (simp [plain] at h; done) | skip
  case int i =>
    simp [exes, f_is_number n S (.int i) rfl, numB]
    by_cases h1 : lo ≤ i <;> simp [h1, wholeB]
  all_goals simp [exes, f_is_number n S _ h, numB, wholeB]
def tupB (d : D) (lo hi : Int) : Bool := match d with
  | .tup xs => decide (lo ≤ (xs.length : Int)) && decide ((xs.length : Int) ≤ hi)
  | _ => false
theorem f_is_tuple_of (n : Nat) (S : Sto) (d : D) (lo hi : Int) (h : plain d = true) : callD prog (n + 1) 2 [d, .int lo, .int hi] S = .ok (.bl (tupB d lo hi), false, S) := by
  rw [show callD prog (n + 1) 2 [d, .int lo, .int hi] S = (exes (callD prog (n)) prog.gl b_is_tuple_of (startE 3 [d, .int lo, .int hi]) S).fin from rfl]; unfold b_is_tuple_of
  cases d <;> first | (simp [plain] at h; done) | skip
  case tup xs =>
    simp [exes]
    by_cases h1 : lo ≤ (xs.length : Int) <;> simp [h1, tupB]
  all_goals simp [exes, isTy, tupB]
theorem f_reached (n : Nat) (S : Sto) (L : List Ar) (s : Int) (hL : L.length < 1000000) : callD prog (n + 1) 3 [.tup (L.map arD), .int s] S = .ok (.lst (dI (L.foldl reachM [s])), true, S) := by
  rw [show callD prog (n + 1) 3 [.tup (L.map arD), .int s] S = (exes (callD prog (n)) prog.gl b_reached (startE 5 [.tup (L.map arD), .int s]) S).fin from rfl]; unfold b_reached
  apply W.finEq
  (refine W.seq ?_; conv => arg 1; simp -implicitDefEqProofs [line])
  simp
  (refine W.seq ?_; conv => arg 1; simp -implicitDefEqProofs )
  apply W.mapE
  apply W.forM arD (fun rest E S' => ∃ found x3 x4, E = [some (.tup (L.map arD), false), some (.int s, false), some (.lst (dI found), true), x3, x4] ∧ S' = S ∧ found.length + rest.length < 2000000 ∧ rest.foldl reachM found = L.foldl reachM [s])
  · exact ⟨[s], none, none, rfl, rfl, by simp; omega, rfl⟩
  · rintro a xs E S' ⟨found, x3, x4, rfl, rfl, hl, hf⟩
    have hl' : found.length < line := by simp [line]; simp at hl; omega
    refine ⟨_, by simp [arD]; rfl, ?_⟩
    have hr := reach_len found a
    (refine W.seq ?_; conv => arg 1; simp -implicitDefEqProofs [mem_ints, nme_ints])
    by_cases h1 : a.1 ∈ found
    · by_cases h2 : a.2 ∈ found
      · (conv => arg 1; simp -implicitDefEqProofs [h1, h2])
        simp -implicitDefEqProofs only [W_nx, W_rt, W_bk, W_ct, W_ex, W_nil, Kn_nx, Kn_rt, Kn_bk, Kn_ct, Kn_ex, Lp_nx, Lp_ct, Lp_rt, Lp_bk, Lp_ex, Mp_nx, Mp_bk, Mp_rt, Mp_ex, Fin_nx, Fin_rt]
        exact ⟨found, _, _, rfl, by trivial, by simp at hl ⊢; omega, by rw [← hf]; simp [reachM, h1, h2]⟩
      · (conv => arg 1; simp -implicitDefEqProofs [h1, h2])
        (refine W.seq ?_; conv => arg 1; simp -implicitDefEqProofs [hl'])
        simp -implicitDefEqProofs only [W_nx, W_rt, W_bk, W_ct, W_ex, W_nil, Kn_nx, Kn_rt, Kn_bk, Kn_ct, Kn_ex, Lp_nx, Lp_ct, Lp_rt, Lp_bk, Lp_ex, Mp_nx, Mp_bk, Mp_rt, Mp_ex, Fin_nx, Fin_rt]
        exact ⟨found ++ [a.2], some (.int a.1, false), some (.int a.2, false), by simp [dI_app, dI_cons], by trivial, by simp at hl ⊢; omega, by rw [← hf]; simp [reachM, h1, h2]⟩
    · (conv => arg 1; simp -implicitDefEqProofs [h1])
      simp -implicitDefEqProofs only [W_nx, W_rt, W_bk, W_ct, W_ex, W_nil, Kn_nx, Kn_rt, Kn_bk, Kn_ct, Kn_ex, Lp_nx, Lp_ct, Lp_rt, Lp_bk, Lp_ex, Mp_nx, Mp_bk, Mp_rt, Mp_ex, Fin_nx, Fin_rt]
      exact ⟨found, _, _, rfl, by trivial, by simp at hl ⊢; omega, by rw [← hf]; simp [reachM, h1]⟩
  · rintro E S' ⟨found, x3, x4, rfl, rfl, hl, hf⟩
    simp -implicitDefEqProofs only [W_nx, W_rt, W_bk, W_ct, W_ex, W_nil, Kn_nx, Kn_rt, Kn_bk, Kn_ct, Kn_ex, Lp_nx, Lp_ct, Lp_rt, Lp_bk, Lp_ex, Mp_nx, Mp_bk, Mp_rt, Mp_ex, Fin_nx, Fin_rt]
    (refine W.seq ?_; conv => arg 1; simp -implicitDefEqProofs )
    simp -implicitDefEqProofs only [W_nx, W_rt, W_bk, W_ct, W_ex, W_nil, Kn_nx, Kn_rt, Kn_bk, Kn_ct, Kn_ex, Lp_nx, Lp_ct, Lp_rt, Lp_bk, Lp_ex, Mp_nx, Mp_bk, Mp_rt, Mp_ex, Fin_nx, Fin_rt]
    exact ⟨by rw [← hf]; rfl, by trivial⟩
theorem f_leading (n : Nat) (S : Sto) (L : List Ar) (s : Int) (hL : L.length < 1000000) : callD prog (n + 1) 4 [.tup (L.map arD), .int s] S = .ok (.lst (dI (L.reverse.foldl leadM [s])), true, S) := by
  rw [show callD prog (n + 1) 4 [.tup (L.map arD), .int s] S = (exes (callD prog (n)) prog.gl b_leading (startE 5 [.tup (L.map arD), .int s]) S).fin from rfl]; unfold b_leading
  apply W.finEq
  (refine W.seq ?_; conv => arg 1; simp -implicitDefEqProofs [line])
  simp -implicitDefEqProofs only [W_nx, W_rt, W_bk, W_ct, W_ex, W_nil, Kn_nx, Kn_rt, Kn_bk, Kn_ct, Kn_ex, Lp_nx, Lp_ct, Lp_rt, Lp_bk, Lp_ex, Mp_nx, Mp_bk, Mp_rt, Mp_ex, Fin_nx, Fin_rt]
  (refine W.seq ?_; conv => arg 1; simp -implicitDefEqProofs [← List.map_reverse])
  apply W.mapE
  apply W.forM arD (fun rest E S' => ∃ found x3 x4, E = [some (.tup (L.map arD), false), some (.int s, false), some (.lst (dI found), true), x3, x4] ∧ S' = S ∧ found.length + rest.length < 2000000 ∧ rest.foldl leadM found = L.reverse.foldl leadM [s])
  · exact ⟨[s], none, none, rfl, rfl, by simp; omega, rfl⟩
  · rintro a xs E S' ⟨found, x3, x4, rfl, rfl, hl, hf⟩
    have hl' : found.length < line := by simp [line]; simp at hl; omega
    refine ⟨_, by simp [arD]; rfl, ?_⟩
    have hr := lead_len found a
    (refine W.seq ?_; conv => arg 1; simp -implicitDefEqProofs [mem_ints, nme_ints])
    by_cases h1 : a.2 ∈ found
    · by_cases h2 : a.1 ∈ found
      · (conv => arg 1; simp -implicitDefEqProofs [h1, h2])
        simp -implicitDefEqProofs only [W_nx, W_rt, W_bk, W_ct, W_ex, W_nil, Kn_nx, Kn_rt, Kn_bk, Kn_ct, Kn_ex, Lp_nx, Lp_ct, Lp_rt, Lp_bk, Lp_ex, Mp_nx, Mp_bk, Mp_rt, Mp_ex, Fin_nx, Fin_rt]
        exact ⟨found, _, _, rfl, by trivial, by simp at hl ⊢; omega, by rw [← hf]; simp [leadM, h1, h2]⟩
      · (conv => arg 1; simp -implicitDefEqProofs [h1, h2])
        (refine W.seq ?_; conv => arg 1; simp -implicitDefEqProofs [hl'])
        simp -implicitDefEqProofs only [W_nx, W_rt, W_bk, W_ct, W_ex, W_nil, Kn_nx, Kn_rt, Kn_bk, Kn_ct, Kn_ex, Lp_nx, Lp_ct, Lp_rt, Lp_bk, Lp_ex, Mp_nx, Mp_bk, Mp_rt, Mp_ex, Fin_nx, Fin_rt]
        exact ⟨found ++ [a.1], some (.int a.1, false), some (.int a.2, false), by simp [dI_app, dI_cons], by trivial, by simp at hl ⊢; omega, by rw [← hf]; simp [leadM, h1, h2]⟩
    · (conv => arg 1; simp -implicitDefEqProofs [h1])
      simp -implicitDefEqProofs only [W_nx, W_rt, W_bk, W_ct, W_ex, W_nil, Kn_nx, Kn_rt, Kn_bk, Kn_ct, Kn_ex, Lp_nx, Lp_ct, Lp_rt, Lp_bk, Lp_ex, Mp_nx, Mp_bk, Mp_rt, Mp_ex, Fin_nx, Fin_rt]
      exact ⟨found, _, _, rfl, by trivial, by simp at hl ⊢; omega, by rw [← hf]; simp [leadM, h1]⟩
  · rintro E S' ⟨found, x3, x4, rfl, rfl, hl, hf⟩
    simp -implicitDefEqProofs only [W_nx, W_rt, W_bk, W_ct, W_ex, W_nil, Kn_nx, Kn_rt, Kn_bk, Kn_ct, Kn_ex, Lp_nx, Lp_ct, Lp_rt, Lp_bk, Lp_ex, Mp_nx, Mp_bk, Mp_rt, Mp_ex, Fin_nx, Fin_rt]
    (refine W.seq ?_; conv => arg 1; simp -implicitDefEqProofs )
    simp -implicitDefEqProofs only [W_nx, W_rt, W_bk, W_ct, W_ex, W_nil, Kn_nx, Kn_rt, Kn_bk, Kn_ct, Kn_ex, Lp_nx, Lp_ct, Lp_rt, Lp_bk, Lp_ex, Mp_nx, Mp_bk, Mp_rt, Mp_ex, Fin_nx, Fin_rt]
    exact ⟨by rw [← hf]; rfl, by trivial⟩
/-- an arrow -/
def arB (many : Int) (d : D) : Bool := match d with
  | .tup [.int a, .int b] => decide (0 ≤ a) && decide (a ≤ many - 1) && (decide (0 ≤ b) && decide (b ≤ many - 1)) && decide (a < b)
  | _ => false
theorem f_is_arrow (n : Nat) (S : Sto) (many : Int) (d : D) (h : plain d = true) : callD prog (n + 3) 5 [.int many, d] S = .ok (.bl (arB many d), false, S) := by
  rw [show callD prog (n+2 + 1) 5 [.int many, d] S = (exes (callD prog (n+2)) prog.gl b_is_arrow (startE 3 [.int many, d]) S).fin from rfl]; unfold b_is_arrow
  apply W.finEq
  by_cases ht : tupB d 2 2 = true
  · obtain ⟨a, b, rfl⟩ : ∃ a b, d = .tup [a, b] := by
      cases d <;> first | (simp [tupB] at ht; done) | skip
      case tup xs =>
        match xs, ht with
        | [a, b], _ => exact ⟨a, b, rfl⟩
        | [], ht => simp [tupB] at ht
        | [_], ht => simp [tupB] at ht
        | _ :: _ :: _ :: _, ht => simp [tupB] at ht; omega
    have ha : plain a = true := by simp [plain, plains] at h; exact h.1
    have hb : plain b = true := by simp [plain, plains] at h; exact h.2
    (refine W.seq ?_; conv => arg 1; simp -implicitDefEqProofs [f_is_tuple_of (n + 1) S _ 2 2 h, ht, lcGo, line, f_is_whole n S a _ _ ha, f_is_whole n S b _ _ hb, biEv, D.bls])
    by_cases h1 : wholeB a 0 (many - 1) = true
    · by_cases h2 : wholeB b 0 (many - 1) = true
      · cases a <;> first | (simp [wholeB] at h1; done) | skip
        cases b <;> first | (simp [wholeB] at h2; done) | skip
        (conv => arg 1; simp -implicitDefEqProofs [h1, h2])
        simp -implicitDefEqProofs only [W_nx, W_rt, W_bk, W_ct, W_ex, W_nil, Kn_nx, Kn_rt, Kn_bk, Kn_ct, Kn_ex, Lp_nx, Lp_ct, Lp_rt, Lp_bk, Lp_ex, Mp_nx, Mp_bk, Mp_rt, Mp_ex, Fin_nx, Fin_rt]
        (refine W.seq ?_; conv => arg 1; simp -implicitDefEqProofs )
        simp -implicitDefEqProofs only [W_nx, W_rt, W_bk, W_ct, W_ex, W_nil, Kn_nx, Kn_rt, Kn_bk, Kn_ct, Kn_ex, Lp_nx, Lp_ct, Lp_rt, Lp_bk, Lp_ex, Mp_nx, Mp_bk, Mp_rt, Mp_ex, Fin_nx, Fin_rt]
        simp [wholeB] at h1 h2
        simp [arB]
        omega
      · have h3 : arB many (.tup [a, b]) = false := by
          cases a <;> cases b <;> simp [arB, wholeB] at h1 h2 ⊢
          omega
        (conv => arg 1; simp -implicitDefEqProofs [h1, h2])
        (refine W.seq ?_; conv => arg 1; simp -implicitDefEqProofs )
        simp -implicitDefEqProofs only [W_nx, W_rt, W_bk, W_ct, W_ex, W_nil, Kn_nx, Kn_rt, Kn_bk, Kn_ct, Kn_ex, Lp_nx, Lp_ct, Lp_rt, Lp_bk, Lp_ex, Mp_nx, Mp_bk, Mp_rt, Mp_ex, Fin_nx, Fin_rt]
        simp [h3]
    · have h3 : arB many (.tup [a, b]) = false := by
        cases a <;> cases b <;> simp [arB, wholeB] at h1 ⊢
        omega
      (conv => arg 1; simp -implicitDefEqProofs [h1])
      (refine W.seq ?_; conv => arg 1; simp -implicitDefEqProofs )
      simp -implicitDefEqProofs only [W_nx, W_rt, W_bk, W_ct, W_ex, W_nil, Kn_nx, Kn_rt, Kn_bk, Kn_ct, Kn_ex, Lp_nx, Lp_ct, Lp_rt, Lp_bk, Lp_ex, Mp_nx, Mp_bk, Mp_rt, Mp_ex, Fin_nx, Fin_rt]
      simp [h3]
  · have h3 : arB many d = false := by
      cases d <;> first | rfl | skip
      case tup xs =>
        match xs, ht with
        | [], ht => rfl
        | [_], ht => simp [arB]
        | [_, _], ht => simp [tupB] at ht
        | _ :: _ :: _ :: _, ht => simp [arB]
    (refine W.seq ?_; conv => arg 1; simp -implicitDefEqProofs [f_is_tuple_of (n + 1) S _ 2 2 h, ht])
    (refine W.seq ?_; conv => arg 1; simp -implicitDefEqProofs )
    simp -implicitDefEqProofs only [W_nx, W_rt, W_bk, W_ct, W_ex, W_nil, Kn_nx, Kn_rt, Kn_bk, Kn_ct, Kn_ex, Lp_nx, Lp_ct, Lp_rt, Lp_bk, Lp_ex, Mp_nx, Mp_bk, Mp_rt, Mp_ex, Fin_nx, Fin_rt]
    simp [h3]
theorem arB_of {many : Int} {d : D} (h : arB many d = true) : ∃ a : Ar, d = arD a ∧ 0 ≤ a.1 ∧ a.1 < a.2 ∧ a.2 < many := by
  unfold arB at h
  split at h
  · simp at h
    exact ⟨(_, _), rfl, by simp; omega, by simp; omega, by simp; omega⟩
  · cases h
theorem arB_ar (many : Int) (a : Ar) : arB many (arD a) = (decide (0 ≤ a.1) && decide (a.1 < a.2) && decide (a.2 < many)) := by
  simp [arB, arD]
  rw [Bool.eq_iff_iff]; simp; omega
def arOf : D → Ar
  | .tup [.int a, .int b] => (a, b)
  | _ => (0, 0)
@[simp] theorem arOf_ar (a : Ar) : arOf (arD a) = a := rfl
@[simp] theorem arOf_map (L : List Ar) : (L.map arD).map arOf = L := by simp [Function.comp_def]
@[simp] theorem arOf_comp (L : List Ar) : L.map (arOf ∘ arD) = L := by simp [Function.comp_def]
theorem arBs_of {many : Int} : ∀ {ds : List D}, ds.all (arB many) = true → ∃ L : List Ar, ds = L.map arD ∧ ∀ a ∈ L, 0 ≤ a.1 ∧ a.1 < a.2 ∧ a.2 < many
  | [], _ => ⟨[], rfl, by simp⟩
  | d :: ds, h => by
    rw [List.all_cons, Bool.and_eq_true] at h
    obtain ⟨a, rfl, ha⟩ := arB_of h.1
    obtain ⟨L, rfl, hL⟩ := arBs_of h.2
    exact ⟨a :: L, rfl, by simpa using ⟨ha, fun x y hx => hL (x, y) hx⟩⟩
/-- a net -/
def netB : D → Bool
  | .tup [.int many, .tup ds] => decide (2 ≤ many) && decide (many ≤ 12) && (decide (1 ≤ (ds.length : Int)) && decide ((ds.length : Int) ≤ 24)) && ds.all (arB many)
      && (let L := ds.map arOf; (L.zip (L.tail)).all (fun p => !ltA p.2 p.1) && (decide (((L.foldl reachM [0]).length : Int) = many) && decide (((L.reverse.foldl leadM [many - 1]).length : Int) = many)))
  | _ => false
theorem f_is_net (n : Nat) (S : Sto) (d : D) (h : plain d = true) : callD prog (n + 4) 6 [d] S = .ok (.bl (netB d), false, S) := by
  rw [show callD prog (n+3 + 1) 6 [d] S = (exes (callD prog (n+3)) prog.gl b_is_net (startE 6 [d]) S).fin from rfl]; unfold b_is_net
  apply W.finEq
  by_cases ht : tupB d 2 2 = true
  · obtain ⟨a, b, rfl⟩ : ∃ a b, d = .tup [a, b] := by
      cases d <;> first | (simp [tupB] at ht; done) | skip
      case tup xs =>
        match xs, ht with
        | [a, b], _ => exact ⟨a, b, rfl⟩
        | [], ht => simp [tupB] at ht
        | [_], ht => simp [tupB] at ht
        | _ :: _ :: _ :: _, ht => simp [tupB] at ht; omega
    have ha : plain a = true := by simp [plain, plains] at h; exact h.1
    have hb : plain b = true := by simp [plain, plains] at h; exact h.2
    (refine W.seq ?_; conv => arg 1; simp -implicitDefEqProofs [f_is_tuple_of (n + 2) S _ 2 2 h, ht, f_is_whole (n + 1) S a _ _ ha, f_is_tuple_of (n + 2) S b _ _ hb])
    by_cases h1 : wholeB a 2 12 = true
    · by_cases h2 : tupB b 1 24 = true
      · cases a <;> first | (simp [wholeB] at h1; done) | skip
        cases b <;> first | (simp [tupB] at h2; done) | skip
        rename_i many ds
        have hds : plains ds = true := by simpa [plain] using hb
        have hl : ds.length ≤ 24 := by simp [tupB] at h2; omega
        have hl2 : ds.length ≤ line := by simp [line]; omega
        have hb2 : netB (.tup [.int many, .tup ds]) = (ds.all (arB many)
      && (let L := ds.map arOf; (L.zip (L.tail)).all (fun p => !ltA p.2 p.1) && (decide (((L.foldl reachM [0]).length : Int) = many) && decide (((L.reverse.foldl leadM [many - 1]).length : Int) = many)))) := by
          simp only [wholeB, Bool.and_eq_true, tupB] at h1 h2
          simp only [netB, h1.1, h1.2, h2.1, h2.2, Bool.true_and, Bool.and_true]
        rw [hb2]
        (conv => arg 1; simp -implicitDefEqProofs [h1, h2])
        simp -implicitDefEqProofs only [W_nx, W_rt, W_bk, W_ct, W_ex, W_nil, Kn_nx, Kn_rt, Kn_bk, Kn_ct, Kn_ex, Lp_nx, Lp_ct, Lp_rt, Lp_bk, Lp_ex, Mp_nx, Mp_bk, Mp_rt, Mp_ex, Fin_nx, Fin_rt]
        (refine W.seq ?_; conv => arg 1; simp -implicitDefEqProofs )
        simp -implicitDefEqProofs only [W_nx, W_rt, W_bk, W_ct, W_ex, W_nil, Kn_nx, Kn_rt, Kn_bk, Kn_ct, Kn_ex, Lp_nx, Lp_ct, Lp_rt, Lp_bk, Lp_ex, Mp_nx, Mp_bk, Mp_rt, Mp_ex, Fin_nx, Fin_rt]
        (refine W.seq ?_; conv => arg 1; simp -implicitDefEqProofs [hl2])
        rw [lcGo_alli (v := fun d => .bl (arB many d))]; rotate_left
        · exact fun d hd => ⟨_, _, by simp; rfl, by simp, by simp [f_is_arrow n S many d (plains_mem hds d hd)]; rfl⟩
        by_cases h3 : ds.all (arB many) = true
        · obtain ⟨L, hLe, hL⟩ := arBs_of h3
          (conv => arg 1; simp -implicitDefEqProofs [h3])
          simp -implicitDefEqProofs only [W_nx, W_rt, W_bk, W_ct, W_ex, W_nil, Kn_nx, Kn_rt, Kn_bk, Kn_ct, Kn_ex, Lp_nx, Lp_ct, Lp_rt, Lp_bk, Lp_ex, Mp_nx, Mp_bk, Mp_rt, Mp_ex, Fin_nx, Fin_rt]
          subst hLe
          simp at hl hl2
          have hl3 : (L.zip (L.tail)).length ≤ line := by simp; omega
          simp at hl3
          (refine W.seq ?_; conv => arg 1; simp -implicitDefEqProofs [hl3])
          rw [lcGo_all (fun p : Ar × Ar => .tup [arD p.1, arD p.2]) (fun p => .bl (!ltA p.2 p.1))]; rotate_left
          · exact fun d hd => ⟨_, false, by simp; rfl, by simp, by simp [cmp_leA]⟩
          simp only [h3, arOf_map, Bool.true_and]
          by_cases h4 : (L.zip (L.tail)).all (fun p => !ltA p.2 p.1) = true
          · (conv => arg 1; simp -implicitDefEqProofs [h4])
            simp -implicitDefEqProofs only [W_nx, W_rt, W_bk, W_ct, W_ex, W_nil, Kn_nx, Kn_rt, Kn_bk, Kn_ct, Kn_ex, Lp_nx, Lp_ct, Lp_rt, Lp_bk, Lp_ex, Mp_nx, Mp_bk, Mp_rt, Mp_ex, Fin_nx, Fin_rt]
            (refine W.seq ?_; conv => arg 1; simp -implicitDefEqProofs [f_reached (n + 2) S L 0 (by omega), f_leading (n + 2) S L _ (by omega)])
            simp -implicitDefEqProofs only [W_nx, W_rt, W_bk, W_ct, W_ex, W_nil, Kn_nx, Kn_rt, Kn_bk, Kn_ct, Kn_ex, Lp_nx, Lp_ct, Lp_rt, Lp_bk, Lp_ex, Mp_nx, Mp_bk, Mp_rt, Mp_ex, Fin_nx, Fin_rt]
            simp [h4]
          · (conv => arg 1; simp -implicitDefEqProofs [h4])
            (refine W.seq ?_; conv => arg 1; simp -implicitDefEqProofs )
            simp -implicitDefEqProofs only [W_nx, W_rt, W_bk, W_ct, W_ex, W_nil, Kn_nx, Kn_rt, Kn_bk, Kn_ct, Kn_ex, Lp_nx, Lp_ct, Lp_rt, Lp_bk, Lp_ex, Mp_nx, Mp_bk, Mp_rt, Mp_ex, Fin_nx, Fin_rt]
            simp [h4]
        · (conv => arg 1; simp -implicitDefEqProofs [h3])
          (refine W.seq ?_; conv => arg 1; simp -implicitDefEqProofs )
          simp -implicitDefEqProofs only [W_nx, W_rt, W_bk, W_ct, W_ex, W_nil, Kn_nx, Kn_rt, Kn_bk, Kn_ct, Kn_ex, Lp_nx, Lp_ct, Lp_rt, Lp_bk, Lp_ex, Mp_nx, Mp_bk, Mp_rt, Mp_ex, Fin_nx, Fin_rt]
          simp [h3]
      · have : netB (.tup [a, b]) = false := by
          cases a <;> cases b <;> simp [netB, wholeB, tupB] at h1 h2 ⊢
          omega
        (conv => arg 1; simp -implicitDefEqProofs [h1, h2])
        (refine W.seq ?_; conv => arg 1; simp -implicitDefEqProofs )
        simp -implicitDefEqProofs only [W_nx, W_rt, W_bk, W_ct, W_ex, W_nil, Kn_nx, Kn_rt, Kn_bk, Kn_ct, Kn_ex, Lp_nx, Lp_ct, Lp_rt, Lp_bk, Lp_ex, Mp_nx, Mp_bk, Mp_rt, Mp_ex, Fin_nx, Fin_rt]
        simp [this]
    · have : netB (.tup [a, b]) = false := by
        cases a <;> cases b <;> simp [netB, wholeB, tupB] at h1 ⊢
        omega
      (conv => arg 1; simp -implicitDefEqProofs [h1])
      (refine W.seq ?_; conv => arg 1; simp -implicitDefEqProofs )
      simp -implicitDefEqProofs only [W_nx, W_rt, W_bk, W_ct, W_ex, W_nil, Kn_nx, Kn_rt, Kn_bk, Kn_ct, Kn_ex, Lp_nx, Lp_ct, Lp_rt, Lp_bk, Lp_ex, Mp_nx, Mp_bk, Mp_rt, Mp_ex, Fin_nx, Fin_rt]
      simp [this]
  · have : netB d = false := by
      cases d <;> first | rfl | skip
      case tup xs =>
        match xs, ht with
        | [], ht => rfl
        | [_], ht => simp [netB]
        | [_, _], ht => simp [tupB] at ht
        | _ :: _ :: _ :: _, ht => simp [netB]
    (refine W.seq ?_; conv => arg 1; simp -implicitDefEqProofs [f_is_tuple_of (n + 2) S _ 2 2 h, ht])
    (refine W.seq ?_; conv => arg 1; simp -implicitDefEqProofs )
    simp -implicitDefEqProofs only [W_nx, W_rt, W_bk, W_ct, W_ex, W_nil, Kn_nx, Kn_rt, Kn_bk, Kn_ct, Kn_ex, Lp_nx, Lp_ct, Lp_rt, Lp_bk, Lp_ex, Mp_nx, Mp_bk, Mp_rt, Mp_ex, Fin_nx, Fin_rt]
    simp [this]
theorem netB_ar (many : Int) (L : List Ar) : netB (.tup [.int many, .tup (L.map arD)]) = (decide (2 ≤ many) && decide (many ≤ 12) && (decide (1 ≤ (L.length : Int)) && decide ((L.length : Int) ≤ 24)) && (L.map arD).all (arB many)
      && ((L.zip L.tail).all (fun p => !ltA p.2 p.1) && (decide (((L.foldl reachM [0]).length : Int) = many) && decide (((L.foldr (fun x y => leadM y x) [many - 1]).length : Int) = many)))) := by
  simp [netB]
theorem net_iff {many : Int} {L : List Ar} (h : Arr many L) (h2 : 2 ≤ many) (h12 : many ≤ 12) (h24 : L.length ≤ 24) : netB (.tup [.int many, .tup (L.map arD)]) = true ↔ Net many L := by
  have e1 : (L.map arD).all (arB many) = true := by
    rw [List.all_eq_true]
    intro d hd
    obtain ⟨a, ha, rfl⟩ := List.mem_map.mp hd
    have := h.pr a ha
    rw [arB_ar]; simp; omega
  rw [netB_ar, e1, srt_zip.mpr h.st]
  simp only [Bool.and_true, Bool.true_and, Bool.and_eq_true, decide_eq_true_eq, reach_iff h h2, lead_iff h h2]
  constructor
  · rintro ⟨⟨_, h3⟩, h4, h5⟩
    exact ⟨h, h2, h4, h5⟩
  · rintro ⟨_, h3, h4, h5⟩
    obtain ⟨a, ha, _⟩ := h4 1 (by decide) (by omega)
    have := List.length_pos_of_mem ha
    exact ⟨⟨⟨h2, h12⟩, by omega, by omega⟩, h4, h5⟩
theorem f_need_net (n : Nat) (S : Sto) (d : D) (h : plain d = true) : callD prog (n + 5) 7 [d] S = if netB d then .ok (.non, false, S) else .ex 1 S := by
  rw [show callD prog (n+4 + 1) 7 [d] S = (exes (callD prog (n+4)) prog.gl b_need_net (startE 1 [d]) S).fin from rfl]; unfold b_need_net
  by_cases hb : netB d = true
  · simp [exes, f_is_net n S d h, hb]
  · simp [exes, f_is_net n S d h, hb]
def tupI : D → Option (List Int)
  | .tup xs => D.ints xs
  | _ => none
def wayB (L : List Ar) (s t : Int) (d : D) : Bool := match tupI d with
  | some ns => ns.all (inB L.length) && decide (walkI L s ns = some t)
  | none => false
theorem ints_of_whole {lo hi : Int} : ∀ {xs : List D}, xs.all (fun d => wholeB d lo hi) = true → ∃ ns, xs = dI ns ∧ ∀ n ∈ ns, lo ≤ n ∧ n ≤ hi
  | [], _ => ⟨[], rfl, by simp⟩
  | d :: xs, h => by
    rw [List.all_cons, Bool.and_eq_true] at h
    obtain ⟨ns, rfl, hn⟩ := ints_of_whole h.2
    cases d <;> first | (simp [wholeB] at h; done) | skip
    case int i =>
      refine ⟨i :: ns, rfl, fun n hn' => ?_⟩
      rcases List.mem_cons.mp hn' with rfl | hn'
      · simpa [wholeB] using h.1
      · exact hn n hn'
theorem whole_of_ints {lo hi : Int} : ∀ {xs : List D} {ns : List Int}, D.ints xs = some ns → (∀ n ∈ ns, lo ≤ n ∧ n ≤ hi) → xs.all (fun d => wholeB d lo hi) = true
  | [], _, _, _ => rfl
  | d :: xs, ns, h, hn => by
    cases d <;> first | (simp [D.ints] at h; done) | skip
    case int i =>
      cases h2 : D.ints xs with
      | none => simp [D.ints, h2] at h
      | some ms =>
        simp [D.ints, h2] at h
        subst h
        rw [List.all_cons, whole_of_ints h2 fun n hn' => hn n (List.mem_cons_of_mem _ hn'), Bool.and_true]
        simpa [wholeB] using hn i List.mem_cons_self
theorem f_is_way_in (n : Nat) (S : Sto) (many : Int) (L : List Ar) (s t : Int) (d : D) (h : plain d = true) (hL : L.length < 1000) (hd : ∀ xs, d = .tup xs → xs.length ≤ line) : callD prog (n + 3) 8 [.tup [.int many, .tup (L.map arD)], .int s, .int t, d] S = .ok (.bl (wayB L s t d), false, S) := by
  rw [show callD prog (n+2 + 1) 8 [.tup [.int many, .tup (L.map arD)], .int s, .int t, d] S = (exes (callD prog (n+2)) prog.gl b_is_way_in (startE 6 [.tup [.int many, .tup (L.map arD)], .int s, .int t, d]) S).fin from rfl]; unfold b_is_way_in
  refine W.finEq ?_
  cases d <;> first | (simp [plain] at h; done) | skip
  case tup xs =>
    have hl := hd xs rfl
    have hx : plains xs = true := by simpa [plain] using h
    (refine W.seq ?_; conv => arg 1; simp -implicitDefEqProofs [hl])
    rw [lcGo_alli (v := fun d => .bl (wholeB d 0 ((L.length : Int) - 1)))]; rotate_left
    · exact fun d hd => ⟨_, false, rfl, by simp, by simp [f_is_whole n S d _ _ (plains_mem hx d hd)]⟩
    by_cases ha : xs.all (fun d => wholeB d 0 ((L.length : Int) - 1)) = true
    · obtain ⟨ns, rfl, hn⟩ := ints_of_whole ha
      (conv => arg 1; simp -implicitDefEqProofs [ha])
      simp -implicitDefEqProofs only [W_nx, W_rt, W_bk, W_ct, W_ex, W_nil, Kn_nx, Kn_rt, Kn_bk, Kn_ct, Kn_ex, Lp_nx, Lp_ct, Lp_rt, Lp_bk, Lp_ex, Mp_nx, Mp_bk, Mp_rt, Mp_ex, Fin_nx, Fin_rt]
      (refine W.seq ?_; conv => arg 1; simp -implicitDefEqProofs )
      simp -implicitDefEqProofs only [W_nx, W_rt, W_bk, W_ct, W_ex, W_nil, Kn_nx, Kn_rt, Kn_bk, Kn_ct, Kn_ex, Lp_nx, Lp_ct, Lp_rt, Lp_bk, Lp_ex, Mp_nx, Mp_bk, Mp_rt, Mp_ex, Fin_nx, Fin_rt]
      have ht : wayB L s t (.tup (dI ns)) = decide (walkI L s ns = some t) := by
        have : ns.all (inB L.length) = true := by
          rw [List.all_eq_true]
          intro m hm
          have := hn m hm
          simp [inB]; omega
        simp only [wayB, tupI, dI, ints_map, this, Bool.true_and]
      rw [ht]
      (refine W.seq ?_; conv => arg 1; simp -implicitDefEqProofs )
      refine W.mapE ?_
      refine W.forM D.int (fun rest E S' => ∃ (here : Int) (x5 : Option (D × Bool)), E = [some (.tup [.int many, .tup (L.map arD)], false), some (.int s, false), some (.int t, false), some (.tup (dI ns), false), some (.int here, false), x5] ∧ S' = S ∧ (∀ n ∈ rest, 0 ≤ n ∧ n ≤ (L.length : Int) - 1) ∧ walkI L here rest = walkI L s ns) ?_ ?_ ?_
      · exact ⟨s, _, rfl, rfl, hn, rfl⟩
      · rintro m rest E S' ⟨here, x5, rfl, rfl, hr, hw⟩
        have hm := hr m List.mem_cons_self
        refine ⟨_, rfl, ?_⟩
        have hat := atI_get (xs := L.map arD) hm.1 (by simp; omega)
        rw [List.getElem_map] at hat
        rw [walkI, List.getElem?_eq_getElem (by omega)] at hw
        simp only at hw
        generalize L[m.toNat]'(by omega) = a at hat hw
        by_cases he : a.1 = here
        · rw [if_pos he] at hw
          (refine W.seq ?_; conv => arg 1; simp -implicitDefEqProofs [hat, he])
          simp -implicitDefEqProofs only [W_nx, W_rt, W_bk, W_ct, W_ex, W_nil, Kn_nx, Kn_rt, Kn_bk, Kn_ct, Kn_ex, Lp_nx, Lp_ct, Lp_rt, Lp_bk, Lp_ex, Mp_nx, Mp_bk, Mp_rt, Mp_ex, Fin_nx, Fin_rt]
          (refine W.seq ?_; conv => arg 1; simp -implicitDefEqProofs [hat])
          simp -implicitDefEqProofs only [W_nx, W_rt, W_bk, W_ct, W_ex, W_nil, Kn_nx, Kn_rt, Kn_bk, Kn_ct, Kn_ex, Lp_nx, Lp_ct, Lp_rt, Lp_bk, Lp_ex, Mp_nx, Mp_bk, Mp_rt, Mp_ex, Fin_nx, Fin_rt]
          exact ⟨a.2, _, rfl, by trivial, fun n hn => hr n (List.mem_cons_of_mem _ hn), hw⟩
        · rw [if_neg he] at hw
          (refine W.seq ?_; conv => arg 1; simp -implicitDefEqProofs [hat, he])
          (refine W.seq ?_; conv => arg 1; simp -implicitDefEqProofs )
          simp -implicitDefEqProofs only [W_nx, W_rt, W_bk, W_ct, W_ex, W_nil, Kn_nx, Kn_rt, Kn_bk, Kn_ct, Kn_ex, Lp_nx, Lp_ct, Lp_rt, Lp_bk, Lp_ex, Mp_nx, Mp_bk, Mp_rt, Mp_ex, Fin_nx, Fin_rt]
          simp [← hw]
      · rintro E S' ⟨here, x5, rfl, rfl, -, hw⟩
        simp -implicitDefEqProofs only [W_nx, W_rt, W_bk, W_ct, W_ex, W_nil, Kn_nx, Kn_rt, Kn_bk, Kn_ct, Kn_ex, Lp_nx, Lp_ct, Lp_rt, Lp_bk, Lp_ex, Mp_nx, Mp_bk, Mp_rt, Mp_ex, Fin_nx, Fin_rt]
        (refine W.seq ?_; conv => arg 1; simp -implicitDefEqProofs )
        simp -implicitDefEqProofs only [W_nx, W_rt, W_bk, W_ct, W_ex, W_nil, Kn_nx, Kn_rt, Kn_bk, Kn_ct, Kn_ex, Lp_nx, Lp_ct, Lp_rt, Lp_bk, Lp_ex, Mp_nx, Mp_bk, Mp_rt, Mp_ex, Fin_nx, Fin_rt]
        simp [← hw, walkI]
    · (conv => arg 1; simp -implicitDefEqProofs [ha])
      (refine W.seq ?_; conv => arg 1; simp -implicitDefEqProofs )
      simp -implicitDefEqProofs only [W_nx, W_rt, W_bk, W_ct, W_ex, W_nil, Kn_nx, Kn_rt, Kn_bk, Kn_ct, Kn_ex, Lp_nx, Lp_ct, Lp_rt, Lp_bk, Lp_ex, Mp_nx, Mp_bk, Mp_rt, Mp_ex, Fin_nx, Fin_rt]
      have : wayB L s t (.tup xs) = false := by
        cases hi : D.ints xs with
        | none => simp [wayB, tupI, hi]
        | some ns =>
          simp only [wayB, tupI, hi]
          by_cases hall : ns.all (inB L.length) = true
          · refine absurd (whole_of_ints hi fun n hn => ?_) ha
            have := List.all_eq_true.mp hall n hn
            simp [inB] at this; omega
          · simp [hall]
      simp [this]
  all_goals
    (refine W.seq ?_; conv => arg 1; simp -implicitDefEqProofs [isTy])
    (refine W.seq ?_; conv => arg 1; simp -implicitDefEqProofs )
    simp -implicitDefEqProofs only [W_nx, W_rt, W_bk, W_ct, W_ex, W_nil, Kn_nx, Kn_rt, Kn_bk, Kn_ct, Kn_ex, Lp_nx, Lp_ct, Lp_rt, Lp_bk, Lp_ex, Mp_nx, Mp_bk, Mp_rt, Mp_ex, Fin_nx, Fin_rt]
    simp [wayB, tupI]
theorem f_is_way (n : Nat) (S : Sto) (many : Int) (L : List Ar) (d : D) (h : plain d = true) (hL : L.length < 1000) (hd : ∀ xs, d = .tup xs → xs.length ≤ line) (hp : plain (.tup [.int many, .tup (L.map arD)]) = true) (hN : netB (.tup [.int many, .tup (L.map arD)]) = true) : callD prog (n + 6) 9 [.tup [.int many, .tup (L.map arD)], d] S = .ok (.bl (wayB L 0 (many - 1) d), false, S) := by
  rw [show callD prog (n+5 + 1) 9 [.tup [.int many, .tup (L.map arD)], d] S = (exes (callD prog (n+5)) prog.gl b_is_way (startE 2 [.tup [.int many, .tup (L.map arD)], d]) S).fin from rfl]; unfold b_is_way
  refine W.finEq ?_
  (refine W.seq ?_; conv => arg 1; simp -implicitDefEqProofs [f_need_net n S _ hp, hN])
  simp -implicitDefEqProofs only [W_nx, W_rt, W_bk, W_ct, W_ex, W_nil, Kn_nx, Kn_rt, Kn_bk, Kn_ct, Kn_ex, Lp_nx, Lp_ct, Lp_rt, Lp_bk, Lp_ex, Mp_nx, Mp_bk, Mp_rt, Mp_ex, Fin_nx, Fin_rt]
  (refine W.seq ?_; conv => arg 1; simp -implicitDefEqProofs [f_is_way_in (n + 2) S many L 0 (many - 1) d h hL hd])
  simp -implicitDefEqProofs only [W_nx, W_rt, W_bk, W_ct, W_ex, W_nil, Kn_nx, Kn_rt, Kn_bk, Kn_ct, Kn_ex, Lp_nx, Lp_ct, Lp_rt, Lp_bk, Lp_ex, Mp_nx, Mp_bk, Mp_rt, Mp_ex, Fin_nx, Fin_rt]
  (first | (refine ⟨?_, ?_, ?_⟩ <;> trivial) | simp)
end K00

set_option linter.all false
set_option maxRecDepth 100000
set_option maxHeartbeats 400000
namespace K00
open Pz L2
def roll (c : Cu) (m : Int) : Int := if 0 < c.1 then c.1 % m else ((c.2 * 26053 + 56221) % 1048576) / 163 % m
def nextC (c : Cu) (m : Int) : Cu := if 0 < c.1 then (c.1 / m, c.2) else (c.1, (c.2 * 26053 + 56221) % 1048576)
theorem roll_lo (c : Cu) {m : Int} (h : 0 < m) : 0 ≤ roll c m := by
  unfold roll; split <;> exact Int.emod_nonneg _ (by omega)
theorem roll_hi (c : Cu) {m : Int} (h : 0 < m) : roll c m < m := by
  unfold roll; split <;> exact Int.emod_lt_of_pos _ h
theorem cmul1 (i : Int) : CMulB i 26053 = true := by simp [CMulB]
theorem f_roll (n : Nat) (c : Cu) (m : Int) (h0 : 0 < m) (h1 : m < 1073741824) : callD prog (n + 1) 11 [.hd 0, .int m] (cupS c) = .ok (.int (roll c m), false, cupS (nextC c m)) := by
  rw [show callD prog (n + 1) 11 [.hd 0, .int m] (cupS c) = (exes (callD prog (n)) prog.gl b__law_roll (startE 3 [.hd 0, .int m]) (cupS c)).fin from rfl]; unfold b__law_roll
  by_cases hc : 0 < c.1
  · simp [exes, cupS, roll, nextC, hc, bin_modI h0, bin_fdivI h0 h1, setEv]
  · simp [exes, cupS, roll, nextC, hc, bin_modI h0, bin_modI (show (0 : Int) < 1048576 by decide), bin_fdivI (show (0 : Int) < 163 by decide) (by decide), bin_mulI (cmul1 _), setEv]
theorem f_some (n : Nat) (c : Cu) (d : D) (xs : List D) (hd : d = .lst xs ∨ d = .tup xs) (h0 : xs ≠ []) (h1 : xs.length < 1073741824) : ∃ x ∈ xs, callD prog (n + 2) 12 [.hd 0, d] (cupS c) = .ok (x, false, cupS (nextC c xs.length)) := by
  have hp : 0 < (xs.length : Int) := by have := List.length_pos_iff.mpr h0; omega
  have hl := roll_lo c hp
  have hh := roll_hi c hp
  have e := atI_get (xs := xs) hl hh
  refine ⟨xs[(roll c xs.length).toNat]'(by omega), List.getElem_mem _, ?_⟩
  rw [show callD prog (n+1 + 1) 12 [.hd 0, d] (cupS c) = (exes (callD prog (n+1)) prog.gl b__law_some (startE 2 [.hd 0, d]) (cupS c)).fin from rfl]; unfold b__law_some
  rcases hd with rfl | rfl
  · simp [exes, f_roll n c xs.length hp (by omega), e]
  · simp [exes, f_roll n c xs.length hp (by omega), e]
theorem f_sort (n : Nat) (S : Sto) (k : Nat) (d : D) (h : dok k d = true) : ∃ s : Int, callD prog (n + 1) 13 [d] S = .ok (.int s, false, S) ∧ s ≠ 6 ∧ (s = 4 ∧ (∃ xs, d = .tup xs) ∨ s = 5 ∧ (∃ xs, d = .lst xs) ∨ s ≠ 4 ∧ s ≠ 5 ∧ D.dp dpth d = true ∧ D.eq d d = true) := by
  rw [show callD prog (n + 1) 13 [d] S = (exes (callD prog (n)) prog.gl b__law_sort (startE 1 [d]) S).fin from rfl]; unfold b__law_sort
  cases d <;> first | (cases k <;> simp [dok] at h; done) | skip
  case non => exact ⟨0, by simp [exes], by decide, .inr (.inr ⟨by decide, by decide, rfl, rfl⟩)⟩
  case bl b => exact ⟨1, by simp [exes], by decide, .inr (.inr ⟨by decide, by decide, rfl, by simp [D.eq]⟩)⟩
  case int b => exact ⟨2, by simp [exes], by decide, .inr (.inr ⟨by decide, by decide, rfl, by simp [D.eq]⟩)⟩
  case str b => exact ⟨3, by simp [exes], by decide, .inr (.inr ⟨by decide, by decide, by cases k <;> simpa [dok, D.dp] using h, by simp [D.eq]⟩)⟩
  case tup xs => exact ⟨4, by simp [exes], by decide, .inl ⟨rfl, xs, rfl⟩⟩
  case lst xs => exact ⟨5, by simp [exes], by decide, .inr (.inl ⟨rfl, xs, rfl⟩)⟩
/-- like itself -/
theorem f_like : ∀ (k : Nat) (d : D) (n : Nat) (S : Sto), dok k d = true → callD prog (n + k + 2) 14 [d, d] S = .ok (.bl true, false, S)
  | k, d, n, S, h => by
    obtain ⟨s, hs, s6, hd⟩ := f_sort (n + k) S k d h
    rw [show callD prog (n+k+1 + 1) 14 [d, d] S = (exes (callD prog (n+k+1)) prog.gl b__law_like (startE 5 [d, d]) S).fin from rfl]; unfold b__law_like
    apply W.finEq
    (refine W.seq ?_; conv => arg 1; simp -implicitDefEqProofs [hs])
    simp -implicitDefEqProofs only [W_nx, W_rt, W_bk, W_ct, W_ex, W_nil, Kn_nx, Kn_rt, Kn_bk, Kn_ct, Kn_ex, Lp_nx, Lp_ct, Lp_rt, Lp_bk, Lp_ex, Mp_nx, Mp_bk, Mp_rt, Mp_ex, Fin_nx, Fin_rt]
    (refine W.seq ?_; conv => arg 1; simp -implicitDefEqProofs [hs, s6])
    simp -implicitDefEqProofs only [W_nx, W_rt, W_bk, W_ct, W_ex, W_nil, Kn_nx, Kn_rt, Kn_bk, Kn_ct, Kn_ex, Lp_nx, Lp_ct, Lp_rt, Lp_bk, Lp_ex, Mp_nx, Mp_bk, Mp_rt, Mp_ex, Fin_nx, Fin_rt]
    have hm : cmpEv .mem (.int s) (.tup [.int 4, .int 5]) = some (decide (s = 4) || decide (s = 5)) := by
      show some (memB _ _) = _
      simp [memB, D.eq]
      rw [Bool.eq_iff_iff]; simp; omega
    have hlen : ∀ xs : List D, (∀ x ∈ xs, ∃ m, m + 1 = k ∧ dok m x = true) → ∀ p ∈ xs.zip xs, ∃ E1 o1, bindC (.tp (.cons (.nm 3) (.cons (.nm 4) .nil))) (.tup [p.1, p.2]) (wipeE [some (d, false), some (d, false), some (D.int s, false), none, none] [3, 4]) = some E1
        ∧ evC (callD prog (n + k + 1)) prog.gl (.cons (.not (.call 14 (.cons (.var 3) (.cons (.var 4) .nil)))) .nil) E1 S = .ok (false, S) ∧ (false = true → ev (callD prog (n + k + 1)) prog.gl (.con (.int 1)) E1 S = .ok (.int 1, o1, S)) := by
      rintro xs hx ⟨x, y⟩ hp
      obtain ⟨e, hpm⟩ := zip_self_mem hp
      simp only at e hpm
      subst e
      obtain ⟨m, rfl, hm⟩ := hx _ hpm
      refine ⟨_, false, rfl, ?_, by simp⟩
      have := f_like m x n S hm
      rw [show n + m + 2 = n + (m + 1) + 1 from by omega] at this
      simp [this]
    rcases hd with ⟨e4, xs, rfl⟩ | ⟨e5, xs, rfl⟩ | ⟨h4, h5, hdp, heq⟩
    · cases k with
      | zero => simp [dok] at h
      | succ k =>
        rw [dok, Bool.and_eq_true, decide_eq_true_eq] at h
        have hz : (xs.zip xs).length ≤ line := by simpa using h.1
        (refine W.seq ?_; conv => arg 1; simp -implicitDefEqProofs [hm, e4])
        conv at hz => simp
        (refine W.seq ?_; conv => arg 1; simp -implicitDefEqProofs [zipD_ids, hz])
        rw [lcGo_map (fun p : D × D => .tup [p.1, p.2]) (fun _ => false) (fun _ => .int 1)]; rotate_left
        · intro p hp
          have := hlen xs (fun x hx => ⟨k, rfl, doks_mem h.2 x hx⟩) p hp
          simpa using this
        have ef : (xs.zip xs).filter (fun _ => false) = [] := by simp
        rw [ef]
        (conv => arg 1; simp -implicitDefEqProofs )
        simp -implicitDefEqProofs only [W_nx, W_rt, W_bk, W_ct, W_ex, W_nil, Kn_nx, Kn_rt, Kn_bk, Kn_ct, Kn_ex, Lp_nx, Lp_ct, Lp_rt, Lp_bk, Lp_ex, Mp_nx, Mp_bk, Mp_rt, Mp_ex, Fin_nx, Fin_rt]
        (first | (refine ⟨?_, ?_, ?_⟩ <;> trivial) | simp)
    · cases k with
      | zero => simp [dok] at h
      | succ k =>
        rw [dok, Bool.and_eq_true, decide_eq_true_eq] at h
        have hz : (xs.zip xs).length ≤ line := by simpa using h.1
        (refine W.seq ?_; conv => arg 1; simp -implicitDefEqProofs [hm, e5])
        conv at hz => simp
        (refine W.seq ?_; conv => arg 1; simp -implicitDefEqProofs [zipD_ids, hz])
        rw [lcGo_map (fun p : D × D => .tup [p.1, p.2]) (fun _ => false) (fun _ => .int 1)]; rotate_left
        · intro p hp
          have := hlen xs (fun x hx => ⟨k, rfl, doks_mem h.2 x hx⟩) p hp
          simpa using this
        have ef : (xs.zip xs).filter (fun _ => false) = [] := by simp
        rw [ef]
        (conv => arg 1; simp -implicitDefEqProofs )
        simp -implicitDefEqProofs only [W_nx, W_rt, W_bk, W_ct, W_ex, W_nil, Kn_nx, Kn_rt, Kn_bk, Kn_ct, Kn_ex, Lp_nx, Lp_ct, Lp_rt, Lp_bk, Lp_ex, Mp_nx, Mp_bk, Mp_rt, Mp_ex, Fin_nx, Fin_rt]
        (first | (refine ⟨?_, ?_, ?_⟩ <;> trivial) | simp)
    · have he : cmpEv .eq d d = some true := by
        show (if _ && _ then some _ else none) = _
        rw [hdp, heq]; rfl
      (refine W.seq ?_; conv => arg 1; simp -implicitDefEqProofs [hm, h4, h5])
      simp -implicitDefEqProofs only [W_nx, W_rt, W_bk, W_ct, W_ex, W_nil, Kn_nx, Kn_rt, Kn_bk, Kn_ct, Kn_ex, Lp_nx, Lp_ct, Lp_rt, Lp_bk, Lp_ex, Mp_nx, Mp_bk, Mp_rt, Mp_ex, Fin_nx, Fin_rt]
      (refine W.seq ?_; conv => arg 1; simp -implicitDefEqProofs [he])
      simp -implicitDefEqProofs only [W_nx, W_rt, W_bk, W_ct, W_ex, W_nil, Kn_nx, Kn_rt, Kn_bk, Kn_ct, Kn_ex, Lp_nx, Lp_ct, Lp_rt, Lp_bk, Lp_ex, Mp_nx, Mp_bk, Mp_rt, Mp_ex, Fin_nx, Fin_rt]
      (first | (refine ⟨?_, ?_, ?_⟩ <;> trivial) | simp)
theorem f_net (n : Nat) (c : Cu) (most : Int) (h0 : 2 ≤ most) (h1 : most ≤ 12) : ∃ (many : Int) (L : List Ar) (c' : Cu), callD prog (n + 2) 15 [.hd 0, .int most] (cupS c) = .ok (.tup [.int many, .tup (L.map arD)], false, cupS c') ∧ Net many L ∧ many ≤ most ∧ (L.length : Int) ≤ 2 * many + 3 := by
  suffices h : W (exes (callD prog (n + 1)) prog.gl b__law_net (startE 8 [.hd 0, .int most]) (cupS c)) (Fin fun d o S => o = false ∧ ∃ (many : Int) (L : List Ar) (c' : Cu), d = .tup [.int many, .tup (L.map arD)] ∧ S = cupS c' ∧ Net many L ∧ many ≤ most ∧ (L.length : Int) ≤ 2 * many + 3) by
    obtain ⟨d, o, S, e, rfl, many, L, c', rfl, rfl, hN⟩ := h.fin
    exact ⟨many, L, c', e, hN⟩
  unfold b__law_net
  (refine W.seq ?_; conv => arg 1; simp -implicitDefEqProofs [f_roll n c (most - 1) (by omega) (by omega)])
  simp -implicitDefEqProofs only [W_nx, W_rt, W_bk, W_ct, W_ex, W_nil, Kn_nx, Kn_rt, Kn_bk, Kn_ct, Kn_ex, Lp_nx, Lp_ct, Lp_rt, Lp_bk, Lp_ex, Mp_nx, Mp_bk, Mp_rt, Mp_ex, Fin_nx, Fin_rt]
  obtain ⟨many, hm⟩ : ∃ m, m = 2 + roll c (most - 1) := ⟨_, rfl⟩
  have hr0 := roll_lo c (m := most - 1) (by omega)
  have hr1 := roll_hi c (m := most - 1) (by omega)
  rw [← hm]
  generalize nextC c (most - 1) = c1
  obtain ⟨k, hk1⟩ : ∃ k : Nat, many = (k : Int) + 1 := ⟨(many - 1).toNat, by omega⟩
  subst hk1
  have hm0 : 1 ≤ k := by omega
  have hm1 : (k : Int) + 1 ≤ most := by omega
  have hk2 : k ≤ 1000 := by omega
  clear hm hr0 hr1
  have hkl : k ≤ line := le_line hk2
  (refine W.seq ?_; conv => arg 1; simp -implicitDefEqProofs [smallI_nat1 k hk2, hkl])
  rw [rngD_map]
  generalize hg : lcGo _ _ _ _ _ _ _ = g
  obtain ⟨L0, S1, rfl, ⟨c2, rfl⟩, h2⟩ := lc_draw hg (fun S => ∃ c, S = cupS c) (fun (i : Nat) (a : Ar) => a.2 = 1 + i ∧ 0 ≤ a.1 ∧ a.1 < a.2) arD ⟨_, rfl⟩ (by
      rintro i hi S ⟨c, rfl⟩
      have := List.mem_range.mp hi
      refine ⟨_, false, (roll c (1 + i), 1 + i), cupS (nextC c (1 + i)), rfl, rfl, ?_, ⟨_, rfl⟩, rfl, roll_lo c (by omega), roll_hi c (by omega)⟩
      simp [f_roll n c (1 + i) (by omega) (by omega), arD])
  clear hg
  (conv => arg 1; simp -implicitDefEqProofs )
  simp -implicitDefEqProofs only [W_nx, W_rt, W_bk, W_ct, W_ex, W_nil, Kn_nx, Kn_rt, Kn_bk, Kn_ct, Kn_ex, Lp_nx, Lp_ct, Lp_rt, Lp_bk, Lp_ex, Mp_nx, Mp_bk, Mp_rt, Mp_ex, Fin_nx, Fin_rt]
  have p1 : ∀ a ∈ L0, 0 ≤ a.1 ∧ a.1 < a.2 ∧ a.2 < (k : Int) + 1 := by
    intro a ha
    obtain ⟨i, hi, e, h3⟩ := h2.right ha
    have := List.mem_range.mp hi
    omega
  have i1 : ∀ p : Int, 0 < p → p < (k : Int) + 1 → ∃ a ∈ L0, a.2 = p := by
    intro p hp0 hp1
    obtain ⟨a, ha, e, h3⟩ := h2.left (a := (p - 1).toNat) (List.mem_range.mpr (by omega))
    exact ⟨a, ha, by omega⟩
  have l1 : L0.length = k := by rw [← h2.length]; simp
  clear h2
  (refine W.seq ?_; conv => arg 1; simp -implicitDefEqProofs [smallI_nat k hk2])
  rw [rngD_map]
  refine W.mapE ?_
  refine W.forM (fun i : Nat => D.int (0 + i)) (fun (rest : List Nat) E S => ∃ (L : List Ar) (c : Cu) (x4 x7 : Option (D × Bool)), E = [some (D.hd 0, false), some (D.int most, false), some (D.int (↑k + 1), false), some (D.lst (L.map arD), true), x4, none, none, x7] ∧ S = cupS c
    ∧ (∀ i ∈ rest, i < k) ∧ (∀ a ∈ L, 0 ≤ a.1 ∧ a.1 < a.2 ∧ a.2 < (k : Int) + 1) ∧ (∀ p : Int, 0 < p → p < (k : Int) + 1 → ∃ a ∈ L, a.2 = p) ∧ (∀ p : Nat, p < k → p ∈ rest ∨ ∃ a ∈ L, a.1 = p) ∧ L.length + rest.length ≤ 2 * k) ?_ ?_ ?_
  · exact ⟨L0, c2, none, none, rfl, rfl, fun i hi => List.mem_range.mp hi, p1, i1, fun p hp => .inl (List.mem_range.mpr hp), by simp; omega⟩
  · rintro i rest E S ⟨L, c, x4, x7, rfl, rfl, hi, hp, hin, hout, hl⟩
    refine ⟨_, rfl, ?_⟩
    have hik := hi i List.mem_cons_self
    rw [List.length_cons] at hl
    have hl2 : L.length ≤ line := le_line (by omega)
    have hl3 : L.length < line := lt_line (by omega)
    (refine W.seq ?_; conv => arg 1; simp -implicitDefEqProofs [hl2])
    rw [lcGo_map arD (fun a => decide (a.1 = (i : Int))) arD]; rotate_left
    · exact fun a _ => ⟨_, false, rfl, by simp, by simp⟩
    generalize hM : L.filter _ = M
    by_cases h3 : M = []
    · (conv => arg 1; simp -implicitDefEqProofs [h3])
      have hr0 := roll_lo c (m := (k : Int) - i) (by omega)
      have hr1 := roll_hi c (m := (k : Int) - i) (by omega)
      (refine W.seq ?_; conv => arg 1; simp -implicitDefEqProofs [hl3, f_roll n c ((k : Int) - i) (by omega) (by omega)])
      simp -implicitDefEqProofs only [W_nx, W_rt, W_bk, W_ct, W_ex, W_nil, Kn_nx, Kn_rt, Kn_bk, Kn_ct, Kn_ex, Lp_nx, Lp_ct, Lp_rt, Lp_bk, Lp_ex, Mp_nx, Mp_bk, Mp_rt, Mp_ex, Fin_nx, Fin_rt]
      refine ⟨L ++ [((i : Int), (i : Int) + 1 + roll c ((k : Int) - i))], nextC c ((k : Int) - i), _, _, by rw [List.map_append]; rfl, by trivial, fun j hj => hi j (List.mem_cons_of_mem _ hj), ?_, ?_, ?_, ?_⟩
      · intro a ha
        rcases List.mem_append.mp ha with ha | ha
        · exact hp a ha
        · simp at ha; subst ha; simp; omega
      · intro p h0 h1
        obtain ⟨a, ha, e⟩ := hin p h0 h1
        exact ⟨a, List.mem_append_left _ ha, e⟩
      · intro p hp
        rcases hout p hp with h | ⟨a, ha, e⟩
        · rcases List.mem_cons.mp h with rfl | h
          · exact .inr ⟨_, List.mem_append_right _ List.mem_cons_self, rfl⟩
          · exact .inl h
        · exact .inr ⟨a, List.mem_append_left _ ha, e⟩
      · simp; omega
    · (conv => arg 1; simp -implicitDefEqProofs [h3])
      simp -implicitDefEqProofs only [W_nx, W_rt, W_bk, W_ct, W_ex, W_nil, Kn_nx, Kn_rt, Kn_bk, Kn_ct, Kn_ex, Lp_nx, Lp_ct, Lp_rt, Lp_bk, Lp_ex, Mp_nx, Mp_bk, Mp_rt, Mp_ex, Fin_nx, Fin_rt]
      obtain ⟨a, ha⟩ := List.exists_mem_of_ne_nil _ h3
      rw [← hM] at ha
      have ha2 := List.mem_filter.mp ha
      refine ⟨L, c, _, _, rfl, by trivial, fun j hj => hi j (List.mem_cons_of_mem _ hj), hp, hin, fun p hp => ?_, by omega⟩
      rcases hout p hp with h | h
      · rcases List.mem_cons.mp h with rfl | h
        · exact .inr ⟨a, ha2.1, by simpa using ha2.2⟩
        · exact .inl h
      · exact .inr h
  rintro E S ⟨L1, c3, x4, x7, rfl, rfl, -, hp, hin, hout, hl⟩
  simp -implicitDefEqProofs only [W_nx, W_rt, W_bk, W_ct, W_ex, W_nil, Kn_nx, Kn_rt, Kn_bk, Kn_ct, Kn_ex, Lp_nx, Lp_ct, Lp_rt, Lp_bk, Lp_ex, Mp_nx, Mp_bk, Mp_rt, Mp_ex, Fin_nx, Fin_rt]
  have hout : ∀ p : Int, 0 ≤ p → p < (k : Int) + 1 - 1 → ∃ a ∈ L1, a.1 = p := by
    intro p h0 h1
    rcases hout p.toNat (by omega) with h | ⟨a, ha, e⟩
    · cases h
    · exact ⟨a, ha, by omega⟩
  have hr0 := roll_lo c3 (m := 4) (by omega)
  have hr1 := roll_hi c3 (m := 4) (by omega)
  (refine W.seq ?_; conv => arg 1; simp -implicitDefEqProofs [f_roll n c3 4 (by omega) (by omega), smallI_of hr0 (by omega)])
  rw [rngD_map]
  refine W.mapE ?_
  refine W.forM (fun i : Nat => D.int (0 + i)) (fun (rest : List Nat) E S => ∃ (L : List Ar) (c : Cu) (x4 x5 x6 x7 : Option (D × Bool)), E = [some (D.hd 0, false), some (D.int most, false), some (D.int (↑k + 1), false), some (D.lst (L.map arD), true), x4, x5, x6, x7] ∧ S = cupS c
    ∧ (∀ a ∈ L, 0 ≤ a.1 ∧ a.1 < a.2 ∧ a.2 < (k : Int) + 1) ∧ (∀ p : Int, 0 < p → p < (k : Int) + 1 → ∃ a ∈ L, a.2 = p) ∧ (∀ p : Int, 0 ≤ p → p < (k : Int) + 1 - 1 → ∃ a ∈ L, a.1 = p) ∧ L.length + rest.length ≤ 2 * k + 3) ?_ ?_ ?_
  · exact ⟨L1, _, _, _, _, _, rfl, rfl, hp, hin, hout, by simp; simp at hl; omega⟩
  · rintro i rest E S ⟨L, c, x4, x5, x6, x7, rfl, rfl, hp, hin, hout, hl⟩
    rw [List.length_cons] at hl
    have hl3 : L.length < line := lt_line (by omega)
    have hr0 := roll_lo c (m := (k : Int)) (by omega)
    have hr1 := roll_hi c (m := (k : Int)) (by omega)
    refine ⟨_, rfl, ?_⟩
    (refine W.seq ?_; conv => arg 1; simp -implicitDefEqProofs [f_roll n c (k : Int) (by omega) (by omega)])
    simp -implicitDefEqProofs only [W_nx, W_rt, W_bk, W_ct, W_ex, W_nil, Kn_nx, Kn_rt, Kn_bk, Kn_ct, Kn_ex, Lp_nx, Lp_ct, Lp_rt, Lp_bk, Lp_ex, Mp_nx, Mp_bk, Mp_rt, Mp_ex, Fin_nx, Fin_rt]
    generalize nextC c (k : Int) = c4
    generalize roll c (k : Int) = r at hr0 hr1
    have hs0 := roll_lo c4 (m := (k : Int) - r) (by omega)
    have hs1 := roll_hi c4 (m := (k : Int) - r) (by omega)
    (refine W.seq ?_; conv => arg 1; simp -implicitDefEqProofs [hl3, f_roll n c4 ((k : Int) - r) (by omega) (by omega)])
    simp -implicitDefEqProofs only [W_nx, W_rt, W_bk, W_ct, W_ex, W_nil, Kn_nx, Kn_rt, Kn_bk, Kn_ct, Kn_ex, Lp_nx, Lp_ct, Lp_rt, Lp_bk, Lp_ex, Mp_nx, Mp_bk, Mp_rt, Mp_ex, Fin_nx, Fin_rt]
    generalize roll c4 ((k : Int) - r) = q at hs0 hs1
    refine ⟨L ++ [(r, r + 1 + q)], _, _, _, _, _, by rw [List.map_append]; rfl, by trivial, ?_, ?_, ?_, ?_⟩
    · intro a ha
      rcases List.mem_append.mp ha with ha | ha
      · exact hp a ha
      · simp at ha; subst ha; simp; omega
    · intro p h0 h1
      obtain ⟨a, ha, e⟩ := hin p h0 h1
      exact ⟨a, List.mem_append_left _ ha, e⟩
    · intro p h0 h1
      obtain ⟨a, ha, e⟩ := hout p h0 h1
      exact ⟨a, List.mem_append_left _ ha, e⟩
    · simp; omega
  rintro E S ⟨L2, c5, x4, x5, x6, x7, rfl, rfl, hp, hin, hout, hl⟩
  simp -implicitDefEqProofs only [W_nx, W_rt, W_bk, W_ct, W_ex, W_nil, Kn_nx, Kn_rt, Kn_bk, Kn_ct, Kn_ex, Lp_nx, Lp_ct, Lp_rt, Lp_bk, Lp_ex, Mp_nx, Mp_bk, Mp_rt, Mp_ex, Fin_nx, Fin_rt]
  simp at hl
  clear hr0 hr1
  have hr0 := roll_lo c5 (m := 3) (by omega)
  have hr1 := roll_hi c5 (m := 3) (by omega)
  (refine W.seq ?_; conv => arg 1; simp -implicitDefEqProofs [f_roll n c5 3 (by omega) (by omega), smallI_of hr0 (by omega)])
  rw [rngD_map]
  refine W.mapE ?_
  refine W.forM (fun i : Nat => D.int (0 + i)) (fun (rest : List Nat) E S => ∃ (L : List Ar) (c : Cu) (x4 x5 x6 x7 : Option (D × Bool)), E = [some (D.hd 0, false), some (D.int most, false), some (D.int (↑k + 1), false), some (D.lst (L.map arD), true), x4, x5, x6, x7] ∧ S = cupS c
    ∧ (∀ a ∈ L, 0 ≤ a.1 ∧ a.1 < a.2 ∧ a.2 < (k : Int) + 1) ∧ (∀ p : Int, 0 < p → p < (k : Int) + 1 → ∃ a ∈ L, a.2 = p) ∧ (∀ p : Int, 0 ≤ p → p < (k : Int) + 1 - 1 → ∃ a ∈ L, a.1 = p) ∧ L.length + rest.length ≤ 2 * k + 5) ?_ ?_ ?_
  · exact ⟨L2, _, _, _, _, _, rfl, rfl, hp, hin, hout, by simp; omega⟩
  · rintro i rest E S ⟨L, c, x4, x5, x6, x7, rfl, rfl, hp, hin, hout, hl⟩
    rw [List.length_cons] at hl
    have hl3 : L.length < line := lt_line (by omega)
    obtain ⟨a1, ha1, -⟩ := hin 1 (by omega) (by omega)
    have hpos : 0 < L.length := List.length_pos_of_mem ha1
    have hr0 := roll_lo c (m := (L.length : Int)) (by omega)
    have hr1 := roll_hi c (m := (L.length : Int)) (by omega)
    have hat := atI_get (xs := L.map arD) hr0 (by simpa using hr1)
    rw [List.getElem_map] at hat
    refine ⟨_, rfl, ?_⟩
    (refine W.seq ?_; conv => arg 1; simp -implicitDefEqProofs [hl3, f_roll n c (L.length : Int) (by omega) (by omega), hat])
    simp -implicitDefEqProofs only [W_nx, W_rt, W_bk, W_ct, W_ex, W_nil, Kn_nx, Kn_rt, Kn_bk, Kn_ct, Kn_ex, Lp_nx, Lp_ct, Lp_rt, Lp_bk, Lp_ex, Mp_nx, Mp_bk, Mp_rt, Mp_ex, Fin_nx, Fin_rt]
    have hm : L[(roll c (L.length : Int)).toNat]'(by omega) ∈ L := List.getElem_mem _
    generalize L[(roll c (L.length : Int)).toNat]'(by omega) = a at hm
    refine ⟨L ++ [a], _, _, _, _, _, by rw [List.map_append]; rfl, by trivial, ?_, ?_, ?_, ?_⟩
    · intro b hb
      rcases List.mem_append.mp hb with hb | hb
      · exact hp b hb
      · simp at hb; subst hb; exact hp _ hm
    · intro p h0 h1
      obtain ⟨a, ha, e⟩ := hin p h0 h1
      exact ⟨a, List.mem_append_left _ ha, e⟩
    · intro p h0 h1
      obtain ⟨a, ha, e⟩ := hout p h0 h1
      exact ⟨a, List.mem_append_left _ ha, e⟩
    · simp; omega
  rintro E S ⟨L3, c6, x4, x5, x6, x7, rfl, rfl, hp, hin, hout, hl⟩
  simp -implicitDefEqProofs only [W_nx, W_rt, W_bk, W_ct, W_ex, W_nil, Kn_nx, Kn_rt, Kn_bk, Kn_ct, Kn_ex, Lp_nx, Lp_ct, Lp_rt, Lp_bk, Lp_ex, Mp_nx, Mp_bk, Mp_rt, Mp_ex, Fin_nx, Fin_rt]
  simp at hl
  (refine W.seq ?_; conv => arg 1; simp -implicitDefEqProofs )
  simp -implicitDefEqProofs only [W_nx, W_rt, W_bk, W_ct, W_ex, W_nil, Kn_nx, Kn_rt, Kn_bk, Kn_ct, Kn_ex, Lp_nx, Lp_ct, Lp_rt, Lp_bk, Lp_ex, Mp_nx, Mp_bk, Mp_rt, Mp_ex, Fin_nx, Fin_rt]
  have hmem : ∀ a, a ∈ sortB ltA L3 ↔ a ∈ L3 := fun a => (q_sortB_perm L3).mem_iff
  refine ⟨by trivial, k + 1, sortB ltA L3, c6, by trivial, by trivial, ⟨⟨fun a ha => hp a ((hmem a).mp ha), sortA_srt L3⟩, by omega, fun p h0 h1 => ?_, fun p h0 h1 => ?_⟩, by omega, ?_⟩
  · obtain ⟨a, ha, e⟩ := hin p h0 h1
    exact ⟨a, (hmem a).mpr ha, e⟩
  · obtain ⟨a, ha, e⟩ := hout p h0 h1
    exact ⟨a, (hmem a).mpr ha, e⟩
  · rw [(q_sortB_perm L3).length_eq]; omega
end K00

set_option linter.all false
set_option maxRecDepth 100000
set_option maxHeartbeats 400000
namespace K00
open Pz L2
def wpD (p : Wp) : D := .tup [.tup (dI p.1), .int p.2]
theorem f_ways (n : Nat) (S : Sto) (many : Int) (L : List Ar) (h : Net many L) (h12 : many ≤ 12) (hb : 12 * 2 ^ L.length < 16777216) :
    callD prog (n + 1) 16 [.tup [.int many, .tup (L.map arD)]] S = .ok (.lst ((sortB lexLtB (foundW L (many - 1) many.toNat)).map fun w => .tup (dI w)), true, S) := by
  rw [show callD prog (n + 1) 16 [.tup [.int many, .tup (L.map arD)]] S = (exes (callD prog (n)) prog.gl b__law_ways (startE 9 [.tup [.int many, .tup (L.map arD)]]) S).fin from rfl]; unfold b__law_ways
  refine W.finEq ?_
  have hL : ∀ a ∈ L, 0 ≤ a.1 ∧ a.1 < a.2 := fun a ha => ⟨(h.pr a ha).1, (h.pr a ha).2.1⟩
  have hm2 := h.m2
  have h2p : 0 < 2 ^ L.length := Nat.pow_pos (by decide)
  obtain ⟨m, rfl⟩ : ∃ m : Nat, many = m := ⟨many.toNat, by omega⟩
  rw [Int.toNat_natCast]
  have hll : ∀ k, (lineW L k).length ≤ 2 ^ L.length := line_len hL
  have hfl : ∀ k, k ≤ m → (foundW L ((m : Int) - 1) k).length ≤ 12 * 2 ^ L.length := fun k hk => Nat.le_trans (found_len hL _ k) (Nat.mul_le_mul_right _ (by omega))
  have hlin : line = 16777216 := rfl
  (refine W.seq ?_; conv => arg 1; simp -implicitDefEqProofs [parAll, parGood, parSet])
  simp -implicitDefEqProofs only [W_nx, W_rt, W_bk, W_ct, W_ex, W_nil, Kn_nx, Kn_rt, Kn_bk, Kn_ct, Kn_ex, Lp_nx, Lp_ct, Lp_rt, Lp_bk, Lp_ex, Mp_nx, Mp_bk, Mp_rt, Mp_ex, Fin_nx, Fin_rt]
  (refine W.seq ?_; conv => arg 1; simp -implicitDefEqProofs [smallI_nat m (by omega)])
  rw [rngD_map]
  refine W.mapE ?_
  refine W.forM (fun i : Nat => D.int (0 + i)) (fun (rest : List Nat) E S' => ∃ (k : Nat) (x1 x5 x6 x7 x8 : Option (D × Bool)), E = [some (.tup [.int (m : Int), .tup (L.map arD)], false), x1, some (.lst ((foundW L ((m : Int) - 1) k).map fun w => .tup (dI w)), true), some (.lst ((lineW L k).map wpD), true), none, x5, x6, x7, x8] ∧ S' = S ∧ k + rest.length = m) ?_ ?_ ?_
  · exact ⟨0, _, _, _, _, _, rfl, rfl, by simp⟩
  · rintro i rest E S' ⟨k, x1, x5, x6, x7, x8, rfl, rfl, hk⟩
    rw [List.length_cons] at hk
    refine ⟨_, rfl, ?_⟩
    (refine W.seq ?_; conv => arg 1; simp -implicitDefEqProofs )
    simp -implicitDefEqProofs only [W_nx, W_rt, W_bk, W_ct, W_ex, W_nil, Kn_nx, Kn_rt, Kn_bk, Kn_ct, Kn_ex, Lp_nx, Lp_ct, Lp_rt, Lp_bk, Lp_ex, Mp_nx, Mp_bk, Mp_rt, Mp_ex, Fin_nx, Fin_rt]
    (refine W.seq ?_; conv => arg 1; simp -implicitDefEqProofs )
    refine W.mapE ?_
    have hlk : ∀ p ∈ lineW L k, p.1.length ≤ 1000 := fun p hp => by
      have := (mem_line.mp (show (p.1, p.2) ∈ lineW L k from hp)).1; omega
    refine W.forM wpD (fun (rest : List Wp) E S'' => ∃ (F : List (List Int)) (M : List Wp) (x5 x6 x7 x8 : Option (D × Bool)), E = [some (.tup [.int (m : Int), .tup (L.map arD)], false), some (.int i, false), some (.lst (F.map fun w => .tup (dI w)), true), none, some (.lst (M.map wpD), true), x5, x6, x7, x8] ∧ S'' = S' ∧ (∀ p ∈ rest, p.1.length ≤ 1000) ∧ F ++ (rest.filter fun p => decide (p.2 = (m : Int) - 1)).map (·.1) = foundW L ((m : Int) - 1) (k + 1) ∧ M ++ rest.flatMap (stepW L) = lineW L (k + 1)) ?_ ?_ ?_
    · exact ⟨foundW L ((m : Int) - 1) k, [], x5, x6, x7, x8, by simp, rfl, hlk, rfl, rfl⟩
    · rintro ⟨w, g⟩ rest' E S'' ⟨F, M, x5, x6, x7, x8, rfl, rfl, hw, hF, hM⟩
      refine ⟨_, by simp [wpD]; rfl, ?_⟩
      have hwl := hw (w, g) List.mem_cons_self
      simp only at hwl
      have hf1 := hfl (k + 1) (by omega)
      have hl1 := hll (k + 1)
      have hFl : F.length + ((List.filter (fun p : Wp => decide (p.2 = (m : Int) - 1)) ((w, g) :: rest')).map (·.1)).length ≤ 12 * 2 ^ L.length := by
        rw [← List.length_append, hF]; exact hf1
      have hMl : M.length + ((stepW L (w, g)).length + (rest'.flatMap (stepW L)).length) ≤ 2 ^ L.length := by
        rw [← List.length_append, ← List.length_append, ← List.flatMap_cons, hM]; exact hl1
      refine W.seq (W.mono (Q := fun o => ∃ F', o = .nx [some (.tup [.int (m : Int), .tup (L.map arD)], false), some (.int i, false), some (.lst (F'.map fun w => .tup (dI w)), true), none, some (.lst (M.map wpD), true), some (.tup (dI w), false), some (.int g, false), x7, x8] S'' ∧ F' ++ (rest'.filter fun p => decide (p.2 = (m : Int) - 1)).map (·.1) = foundW L ((m : Int) - 1) (k + 1)) ?_ ?_)
      · by_cases hg : g = (m : Int) - 1
        · have hFl2 : F.length < line := by
            rw [List.filter_cons_of_pos (by simpa using hg)] at hFl
            simp at hFl; omega
          (conv => arg 1; simp -implicitDefEqProofs [hg])
          (refine W.seq ?_; conv => arg 1; simp -implicitDefEqProofs [hFl2])
          simp -implicitDefEqProofs only [W_nx, W_rt, W_bk, W_ct, W_ex, W_nil, Kn_nx, Kn_rt, Kn_bk, Kn_ct, Kn_ex, Lp_nx, Lp_ct, Lp_rt, Lp_bk, Lp_ex, Mp_nx, Mp_bk, Mp_rt, Mp_ex, Fin_nx, Fin_rt]
          refine ⟨F ++ [w], ?_, ?_⟩
          · rw [List.map_append, hg]; rfl
          · rw [← hF, List.filter_cons_of_pos (by simpa using hg)]; simp
        · (conv => arg 1; simp -implicitDefEqProofs [hg])
          simp -implicitDefEqProofs only [W_nx, W_rt, W_bk, W_ct, W_ex, W_nil, Kn_nx, Kn_rt, Kn_bk, Kn_ct, Kn_ex, Lp_nx, Lp_ct, Lp_rt, Lp_bk, Lp_ex, Mp_nx, Mp_bk, Mp_rt, Mp_ex, Fin_nx, Fin_rt]
          refine ⟨F, by trivial, ?_⟩
          rw [← hF, List.filter_cons_of_neg (by simpa using hg)]
      rintro o ⟨F', rfl, hF'⟩
      simp -implicitDefEqProofs only [W_nx, W_rt, W_bk, W_ct, W_ex, W_nil, Kn_nx, Kn_rt, Kn_bk, Kn_ct, Kn_ex, Lp_nx, Lp_ct, Lp_rt, Lp_bk, Lp_ex, Mp_nx, Mp_bk, Mp_rt, Mp_ex, Fin_nx, Fin_rt]
      (refine W.seq ?_; conv => arg 1; simp -implicitDefEqProofs )
      rw [enumD_map]
      refine W.mapE ?_
      refine W.forM (fun p : Ar × Nat => .tup [.int p.2, arD p.1]) (fun (rest2 : List (Ar × Nat)) E S3 => ∃ (M : List Wp) (x7 x8 : Option (D × Bool)), E = [some (.tup [.int (m : Int), .tup (L.map arD)], false), some (.int i, false), some (.lst (F'.map fun w => .tup (dI w)), true), none, some (.lst (M.map wpD), true), some (.tup (dI w), false), some (.int g, false), x7, x8] ∧ S3 = S''
        ∧ M ++ (((rest2.filter fun q => decide (q.1.1 = g)).map fun q => (w ++ [(q.2 : Int)], q.1.2)) ++ rest'.flatMap (stepW L)) = lineW L (k + 1)) ?_ ?_ ?_
      · exact ⟨M, x7, x8, rfl, rfl, by rw [← hM, List.flatMap_cons]; rfl⟩
      · rintro ⟨a, j⟩ rest2 E S3 ⟨M2, x7, x8, rfl, rfl, hM2⟩
        refine ⟨_, rfl, ?_⟩
        by_cases ha : a.1 = g
        · rw [List.filter_cons_of_pos (by simpa using ha)] at hM2
          have hM2l : M2.length < line := by
            have := congrArg List.length hM2
            simp at this; omega
          (refine W.seq ?_; conv => arg 1; simp -implicitDefEqProofs [ha])
          (refine W.seq ?_; conv => arg 1; simp -implicitDefEqProofs [hM2l, binEv, show w.length + 1 ≤ line from le_line' (by omega)])
          simp -implicitDefEqProofs only [W_nx, W_rt, W_bk, W_ct, W_ex, W_nil, Kn_nx, Kn_rt, Kn_bk, Kn_ct, Kn_ex, Lp_nx, Lp_ct, Lp_rt, Lp_bk, Lp_ex, Mp_nx, Mp_bk, Mp_rt, Mp_ex, Fin_nx, Fin_rt]
          refine ⟨M2 ++ [(w ++ [(j : Int)], a.2)], _, _, by simp only [List.map_append, List.map_cons, List.map_nil, wpD, dI_app, dI_cons, dI_nil]; rfl, by trivial, ?_⟩
          rw [← hM2]; simp
        · rw [List.filter_cons_of_neg (by simpa using ha)] at hM2
          (refine W.seq ?_; conv => arg 1; simp -implicitDefEqProofs [ha])
          simp -implicitDefEqProofs only [W_nx, W_rt, W_bk, W_ct, W_ex, W_nil, Kn_nx, Kn_rt, Kn_bk, Kn_ct, Kn_ex, Lp_nx, Lp_ct, Lp_rt, Lp_bk, Lp_ex, Mp_nx, Mp_bk, Mp_rt, Mp_ex, Fin_nx, Fin_rt]
          exact ⟨M2, _, _, rfl, by trivial, hM2⟩
      · rintro E S3 ⟨M2, x7, x8, rfl, rfl, hM2⟩
        simp -implicitDefEqProofs only [W_nx, W_rt, W_bk, W_ct, W_ex, W_nil, Kn_nx, Kn_rt, Kn_bk, Kn_ct, Kn_ex, Lp_nx, Lp_ct, Lp_rt, Lp_bk, Lp_ex, Mp_nx, Mp_bk, Mp_rt, Mp_ex, Fin_nx, Fin_rt]
        exact ⟨F', M2, _, _, _, _, rfl, by trivial, fun p hp => hw p (List.mem_cons_of_mem _ hp), hF', by simpa using hM2⟩
    · rintro E S3 ⟨F, M, x5, x6, x7, x8, rfl, rfl, -, hF, hM⟩
      simp -implicitDefEqProofs only [W_nx, W_rt, W_bk, W_ct, W_ex, W_nil, Kn_nx, Kn_rt, Kn_bk, Kn_ct, Kn_ex, Lp_nx, Lp_ct, Lp_rt, Lp_bk, Lp_ex, Mp_nx, Mp_bk, Mp_rt, Mp_ex, Fin_nx, Fin_rt]
      (refine W.seq ?_; conv => arg 1; simp -implicitDefEqProofs )
      simp -implicitDefEqProofs only [W_nx, W_rt, W_bk, W_ct, W_ex, W_nil, Kn_nx, Kn_rt, Kn_bk, Kn_ct, Kn_ex, Lp_nx, Lp_ct, Lp_rt, Lp_bk, Lp_ex, Mp_nx, Mp_bk, Mp_rt, Mp_ex, Fin_nx, Fin_rt]
      simp only [List.filter_nil, List.map_nil, List.append_nil, List.flatMap_nil] at hF hM
      refine ⟨k + 1, _, _, _, _, _, by rw [← hF, ← hM], by trivial, by omega⟩
  · rintro E S' ⟨k, x1, x5, x6, x7, x8, rfl, rfl, hk⟩
    simp -implicitDefEqProofs only [W_nx, W_rt, W_bk, W_ct, W_ex, W_nil, Kn_nx, Kn_rt, Kn_bk, Kn_ct, Kn_ex, Lp_nx, Lp_ct, Lp_rt, Lp_bk, Lp_ex, Mp_nx, Mp_bk, Mp_rt, Mp_ex, Fin_nx, Fin_rt]
    simp at hk
    subst hk
    have hso : sortEv ((foundW L ((k : Int) - 1) k).map fun w => .tup (dI w)) = some ((sortB lexLtB (foundW L ((k : Int) - 1) k)).map fun w => .tup (dI w)) := by
      have hne : ∀ w ∈ foundW L ((k : Int) - 1) k, w ≠ [] := fun w hw => ways_ne h (by simpa using hw)
      exact sortEv_its hne
    (refine W.seq ?_; conv => arg 1; simp -implicitDefEqProofs [bi_sortL, hso])
    simp -implicitDefEqProofs only [W_nx, W_rt, W_bk, W_ct, W_ex, W_nil, Kn_nx, Kn_rt, Kn_bk, Kn_ct, Kn_ex, Lp_nx, Lp_ct, Lp_rt, Lp_bk, Lp_ex, Mp_nx, Mp_bk, Mp_rt, Mp_ex, Fin_nx, Fin_rt]
    (first | (refine ⟨?_, ?_, ?_⟩ <;> trivial) | simp)
end K00

set_option linter.all false
set_option maxRecDepth 100000
set_option maxHeartbeats 400000
namespace K00
open Pz L2
def lawNet (many : Int) (L : List Ar) : Bool := (L.zip L.tail).all (fun p => !ltA p.2 p.1) && (List.range many.toNat).all fun p => (!decide (0 < p) || !(L.filter fun a => decide (a.2 = (p : Int))).isEmpty) && (!decide ((p : Int) < many - 1) || !(L.filter fun a => decide (a.1 = (p : Int))).isEmpty)
theorem f_law_is_net (n : Nat) (S : Sto) (many : Int) (L : List Ar) (h2 : 2 ≤ many) (h12 : many ≤ 12) (hL : L.length ≤ 1000) : callD prog (n + 1) 17 [.int many, .tup (L.map arD)] S = .ok (.bl (lawNet many L), false, S) := by
  rw [show callD prog (n + 1) 17 [.int many, .tup (L.map arD)] S = (exes (callD prog (n)) prog.gl b__law_is_net (startE 6 [.int many, .tup (L.map arD)]) S).fin from rfl]; unfold b__law_is_net
  refine W.finEq ?_
  obtain ⟨m, rfl⟩ : ∃ m : Nat, many = m := ⟨many.toNat, by omega⟩
  have hl2 : L.length ≤ line := le_line hL
  have hl3 : L.length ≤ line + 1 := by omega
  (refine W.seq ?_; conv => arg 1; simp -implicitDefEqProofs [hl3])
  rw [lcGo_map (fun p : Ar × Ar => .tup [arD p.1, arD p.2]) (fun p => ltA p.2 p.1) (fun _ => .int 1)]; rotate_left
  · exact fun d hd => ⟨_, false, rfl, by simp [cmp_gtA], by simp⟩
  have hz : ((L.zip L.tail).all fun p => !ltA p.2 p.1) = ((L.zip L.tail).filter fun p => ltA p.2 p.1).isEmpty := by
    rw [Bool.eq_iff_iff, List.isEmpty_iff, List.filter_eq_nil_iff, List.all_eq_true]
    simp
  unfold lawNet
  rw [hz]
  generalize (L.zip L.tail).filter _ = M
  cases M with
  | cons x M =>
    (conv => arg 1; simp -implicitDefEqProofs )
    (refine W.seq ?_; conv => arg 1; simp -implicitDefEqProofs )
    simp -implicitDefEqProofs only [W_nx, W_rt, W_bk, W_ct, W_ex, W_nil, Kn_nx, Kn_rt, Kn_bk, Kn_ct, Kn_ex, Lp_nx, Lp_ct, Lp_rt, Lp_bk, Lp_ex, Mp_nx, Mp_bk, Mp_rt, Mp_ex, Fin_nx, Fin_rt]
    simp
  | nil =>
    (conv => arg 1; simp -implicitDefEqProofs )
    simp -implicitDefEqProofs only [W_nx, W_rt, W_bk, W_ct, W_ex, W_nil, Kn_nx, Kn_rt, Kn_bk, Kn_ct, Kn_ex, Lp_nx, Lp_ct, Lp_rt, Lp_bk, Lp_ex, Mp_nx, Mp_bk, Mp_rt, Mp_ex, Fin_nx, Fin_rt]
    rw [List.isEmpty_nil, Bool.true_and, Int.toNat_natCast]
    (refine W.seq ?_; conv => arg 1; simp -implicitDefEqProofs [smallI_nat m (by omega)])
    rw [rngD_map]
    refine W.mapE ?_
    refine W.forM (fun i : Nat => D.int (0 + i)) (fun (rest : List Nat) E S' => ∃ (x2 x3 x4 x5 : Option (D × Bool)), E = [some (.int (m : Int), false), some (.tup (L.map arD), false), x2, x3, x4, x5] ∧ S' = S ∧ ((List.range m).all fun p => (!decide (0 < p) || !(L.filter fun a => decide (a.2 = (p : Int))).isEmpty) && (!decide ((p : Int) < (m : Int) - 1) || !(L.filter fun a => decide (a.1 = (p : Int))).isEmpty))
       = (rest.all fun p => (!decide (0 < p) || !(L.filter fun a => decide (a.2 = (p : Int))).isEmpty) && (!decide ((p : Int) < (m : Int) - 1) || !(L.filter fun a => decide (a.1 = (p : Int))).isEmpty))) ?_ ?_ ?_
    · exact ⟨_, _, _, _, rfl, rfl, rfl⟩
    · rintro i rest E S' ⟨x2, x3, x4, x5, rfl, rfl, hall⟩
      refine ⟨_, rfl, ?_⟩
      rw [List.all_cons] at hall
      rw [hall]
      clear hall
      generalize hr : (rest.all fun p => _) = r
      refine W.seq (W.mono (Q := fun o => (o = .nx [some (.int (m : Int), false), some (.tup (L.map arD), false), some (.int (0 + (i : Int)), false), x3, x4, x5] S' ∧ (!decide (0 < i) || !(L.filter fun a => decide (a.2 = (i : Int))).isEmpty) = true) ∨ (o = .rt (.bl false) false S' ∧ (!decide (0 < i) || !(L.filter fun a => decide (a.2 = (i : Int))).isEmpty) = false)) ?_ ?_)
      · by_cases hi : 0 < i
        · (conv => arg 1; simp -implicitDefEqProofs [hi, hl2])
          rw [lcGo_map arD (fun a => decide (a.2 = (i : Int))) arD]; rotate_left
          · exact fun d hd => ⟨_, false, rfl, by simp, by simp⟩
          simp only [hi, decide_true, Bool.not_true, Bool.false_or]
          generalize L.filter _ = M
          cases M with
          | nil =>
            (conv => arg 1; simp -implicitDefEqProofs )
            (refine W.seq ?_; conv => arg 1; simp -implicitDefEqProofs )
            simp -implicitDefEqProofs only [W_nx, W_rt, W_bk, W_ct, W_ex, W_nil, Kn_nx, Kn_rt, Kn_bk, Kn_ct, Kn_ex, Lp_nx, Lp_ct, Lp_rt, Lp_bk, Lp_ex, Mp_nx, Mp_bk, Mp_rt, Mp_ex, Fin_nx, Fin_rt]
            exact .inr ⟨by trivial, rfl⟩
          | cons a M =>
            (conv => arg 1; simp -implicitDefEqProofs )
            simp -implicitDefEqProofs only [W_nx, W_rt, W_bk, W_ct, W_ex, W_nil, Kn_nx, Kn_rt, Kn_bk, Kn_ct, Kn_ex, Lp_nx, Lp_ct, Lp_rt, Lp_bk, Lp_ex, Mp_nx, Mp_bk, Mp_rt, Mp_ex, Fin_nx, Fin_rt]
            exact .inl ⟨by simp, rfl⟩
        · (conv => arg 1; simp -implicitDefEqProofs [hi])
          simp -implicitDefEqProofs only [W_nx, W_rt, W_bk, W_ct, W_ex, W_nil, Kn_nx, Kn_rt, Kn_bk, Kn_ct, Kn_ex, Lp_nx, Lp_ct, Lp_rt, Lp_bk, Lp_ex, Mp_nx, Mp_bk, Mp_rt, Mp_ex, Fin_nx, Fin_rt]
          exact .inl ⟨by simp, by simp [hi]⟩
      rintro o (⟨rfl, e1⟩ | ⟨rfl, e1⟩)
      rotate_left
      · rw [e1]; simp -implicitDefEqProofs only [W_nx, W_rt, W_bk, W_ct, W_ex, W_nil, Kn_nx, Kn_rt, Kn_bk, Kn_ct, Kn_ex, Lp_nx, Lp_ct, Lp_rt, Lp_bk, Lp_ex, Mp_nx, Mp_bk, Mp_rt, Mp_ex, Fin_nx, Fin_rt]
        (first | (refine ⟨?_, ?_, ?_⟩ <;> trivial) | simp)
      rw [e1]
      simp -implicitDefEqProofs only [W_nx, W_rt, W_bk, W_ct, W_ex, W_nil, Kn_nx, Kn_rt, Kn_bk, Kn_ct, Kn_ex, Lp_nx, Lp_ct, Lp_rt, Lp_bk, Lp_ex, Mp_nx, Mp_bk, Mp_rt, Mp_ex, Fin_nx, Fin_rt]
      refine W.seq (W.mono (Q := fun o => (o = .nx [some (.int (m : Int), false), some (.tup (L.map arD), false), some (.int (0 + (i : Int)), false), x3, x4, x5] S' ∧ (!decide ((i : Int) < (m : Int) - 1) || !(L.filter fun a => decide (a.1 = (i : Int))).isEmpty) = true) ∨ (o = .rt (.bl false) false S' ∧ (!decide ((i : Int) < (m : Int) - 1) || !(L.filter fun a => decide (a.1 = (i : Int))).isEmpty) = false)) ?_ ?_)
      · by_cases hi : (i : Int) < (m : Int) - 1
        · (conv => arg 1; simp -implicitDefEqProofs [hi, hl2])
          rw [lcGo_map arD (fun a => decide (a.1 = (i : Int))) arD]; rotate_left
          · exact fun d hd => ⟨_, false, rfl, by simp, by simp⟩
          simp only [hi, decide_true, Bool.not_true, Bool.false_or]
          generalize L.filter _ = M
          cases M with
          | nil =>
            (conv => arg 1; simp -implicitDefEqProofs )
            (refine W.seq ?_; conv => arg 1; simp -implicitDefEqProofs )
            simp -implicitDefEqProofs only [W_nx, W_rt, W_bk, W_ct, W_ex, W_nil, Kn_nx, Kn_rt, Kn_bk, Kn_ct, Kn_ex, Lp_nx, Lp_ct, Lp_rt, Lp_bk, Lp_ex, Mp_nx, Mp_bk, Mp_rt, Mp_ex, Fin_nx, Fin_rt]
            exact .inr ⟨by trivial, rfl⟩
          | cons a M =>
            (conv => arg 1; simp -implicitDefEqProofs )
            simp -implicitDefEqProofs only [W_nx, W_rt, W_bk, W_ct, W_ex, W_nil, Kn_nx, Kn_rt, Kn_bk, Kn_ct, Kn_ex, Lp_nx, Lp_ct, Lp_rt, Lp_bk, Lp_ex, Mp_nx, Mp_bk, Mp_rt, Mp_ex, Fin_nx, Fin_rt]
            exact .inl ⟨by simp, rfl⟩
        · (conv => arg 1; simp -implicitDefEqProofs [hi])
          simp -implicitDefEqProofs only [W_nx, W_rt, W_bk, W_ct, W_ex, W_nil, Kn_nx, Kn_rt, Kn_bk, Kn_ct, Kn_ex, Lp_nx, Lp_ct, Lp_rt, Lp_bk, Lp_ex, Mp_nx, Mp_bk, Mp_rt, Mp_ex, Fin_nx, Fin_rt]
          exact .inl ⟨by simp, by simp [hi]⟩
      rintro o (⟨rfl, e2⟩ | ⟨rfl, e2⟩)
      rotate_left
      · rw [e2]; simp -implicitDefEqProofs only [W_nx, W_rt, W_bk, W_ct, W_ex, W_nil, Kn_nx, Kn_rt, Kn_bk, Kn_ct, Kn_ex, Lp_nx, Lp_ct, Lp_rt, Lp_bk, Lp_ex, Mp_nx, Mp_bk, Mp_rt, Mp_ex, Fin_nx, Fin_rt]
        (first | (refine ⟨?_, ?_, ?_⟩ <;> trivial) | simp)
      rw [e2]
      simp -implicitDefEqProofs only [W_nx, W_rt, W_bk, W_ct, W_ex, W_nil, Kn_nx, Kn_rt, Kn_bk, Kn_ct, Kn_ex, Lp_nx, Lp_ct, Lp_rt, Lp_bk, Lp_ex, Mp_nx, Mp_bk, Mp_rt, Mp_ex, Fin_nx, Fin_rt]
      exact ⟨_, _, _, _, rfl, by trivial, by rw [← hr]; simp⟩
    · rintro E S' ⟨x2, x3, x4, x5, rfl, rfl, hall⟩
      rw [hall]
      simp -implicitDefEqProofs only [W_nx, W_rt, W_bk, W_ct, W_ex, W_nil, Kn_nx, Kn_rt, Kn_bk, Kn_ct, Kn_ex, Lp_nx, Lp_ct, Lp_rt, Lp_bk, Lp_ex, Mp_nx, Mp_bk, Mp_rt, Mp_ex, Fin_nx, Fin_rt]
      (refine W.seq ?_; conv => arg 1; simp -implicitDefEqProofs )
      simp -implicitDefEqProofs only [W_nx, W_rt, W_bk, W_ct, W_ex, W_nil, Kn_nx, Kn_rt, Kn_bk, Kn_ct, Kn_ex, Lp_nx, Lp_ct, Lp_rt, Lp_bk, Lp_ex, Mp_nx, Mp_bk, Mp_rt, Mp_ex, Fin_nx, Fin_rt]
      simp
theorem lawNet_eq {many : Int} {L : List Ar} (hL : ∀ a ∈ L, 0 ≤ a.1 ∧ a.1 < a.2 ∧ a.2 < many) (h2 : 2 ≤ many) (h12 : many ≤ 12) (h24 : L.length ≤ 24) : netB (.tup [.int many, .tup (L.map arD)]) = (!L.isEmpty && lawNet many L) := by
  by_cases hs : SrtA L
  · have hA : Arr many L := ⟨hL, hs⟩
    rw [Bool.eq_iff_iff, net_iff hA h2 h12 h24]
    unfold lawNet
    rw [srt_zip.mpr hs, Bool.true_and, Bool.and_eq_true, List.all_eq_true]
    constructor
    · rintro ⟨_, h3, h4, h5⟩
      obtain ⟨a, ha, _⟩ := h4 1 (by decide) (by omega)
      refine ⟨by cases L <;> simp at ha ⊢, fun p hp => ?_⟩
      have hp := List.mem_range.mp hp
      rw [Bool.and_eq_true]
      constructor
      · by_cases h0 : 0 < p
        · obtain ⟨b, hb, e⟩ := h4 p (by omega) (by omega)
          have : b ∈ L.filter fun a => decide (a.2 = (p : Int)) := List.mem_filter.mpr ⟨hb, by simpa using e⟩
          cases hf : L.filter fun a => decide (a.2 = (p : Int)) with
          | nil => rw [hf] at this; cases this
          | cons _ _ => simp
        · simp [h0]
      · by_cases h0 : (p : Int) < many - 1
        · obtain ⟨b, hb, e⟩ := h5 p (by omega) (by omega)
          have : b ∈ L.filter fun a => decide (a.1 = (p : Int)) := List.mem_filter.mpr ⟨hb, by simpa using e⟩
          cases hf : L.filter fun a => decide (a.1 = (p : Int)) with
          | nil => rw [hf] at this; cases this
          | cons _ _ => simp
        · simp [h0]
    · rintro ⟨hne, hall⟩
      refine ⟨hA, h2, fun p h0 h1 => ?_, fun p h0 h1 => ?_⟩
      · have := hall p.toNat (List.mem_range.mpr (by omega))
        rw [Bool.and_eq_true] at this
        have e : ((p.toNat : Nat) : Int) = p := by omega
        have hp : 0 < p.toNat := by omega
        simp only [hp, decide_true, Bool.not_true, Bool.false_or, e] at this
        cases hf : L.filter fun a => decide (a.2 = p) with
        | nil => rw [hf] at this; simp at this
        | cons b _ =>
          have hb : b ∈ L.filter fun a => decide (a.2 = p) := by rw [hf]; exact List.mem_cons_self
          have := List.mem_filter.mp hb
          exact ⟨b, this.1, by simpa using this.2⟩
      · have := hall p.toNat (List.mem_range.mpr (by omega))
        rw [Bool.and_eq_true] at this
        have e : ((p.toNat : Nat) : Int) = p := by omega
        simp only [e, h1, decide_true, Bool.not_true, Bool.false_or] at this
        cases hf : L.filter fun a => decide (a.1 = p) with
        | nil => rw [hf] at this; simp at this
        | cons b _ =>
          have hb : b ∈ L.filter fun a => decide (a.1 = p) := by rw [hf]; exact List.mem_cons_self
          have := List.mem_filter.mp hb
          exact ⟨b, this.1, by simpa using this.2⟩
  · have : ((L.zip L.tail).all fun p => !ltA p.2 p.1) = false := by
      rw [← Bool.not_eq_true]; exact fun h => hs (srt_zip.mp h)
    rw [netB_ar]
    unfold lawNet
    rw [this]
    simp
end K00

set_option linter.all false
set_option maxRecDepth 100000
set_option maxHeartbeats 1000000
namespace K00
open Pz L2
theorem plains_ar : ∀ L : List Ar, plains (L.map arD) = true
  | [] => rfl
  | a :: L => by rw [List.map_cons, plains, plains_ar L]; rfl
theorem plains_app : ∀ {xs ys : List D}, plains xs = true → plains ys = true → plains (xs ++ ys) = true
  | [], _, _, h => h
  | x :: xs, ys, h, h2 => by
    rw [plains, Bool.and_eq_true] at h
    rw [List.cons_append, plains, h.1, plains_app h.2 h2]; rfl
theorem f_nets_right (n : Nat) (c : Cu) : ∃ c', callD prog (n + 10) 18 [.hd 0] (cupS c) = .ok (.bl true, false, cupS c') := by
  suffices h : W (exes (callD prog (n + 9)) prog.gl b__law_nets_right (startE 12 [.hd 0]) (cupS c)) (Fin fun d o S => d = .bl true ∧ o = false ∧ ∃ c', S = cupS c') by
    obtain ⟨d, o, S, e, rfl, rfl, c', rfl⟩ := h.fin
    exact ⟨c', e⟩
  unfold b__law_nets_right
  obtain ⟨many, L, c1, e1, hN, hm7, hlen⟩ := f_net (n + 7) c 7 (by decide) (by decide)
  have hm2 := hN.m2
  have hLl : L.length ≤ 17 := by omega
  (refine W.seq ?_; conv => arg 1; simp -implicitDefEqProofs [e1])
  simp -implicitDefEqProofs only [W_nx, W_rt, W_bk, W_ct, W_ex, W_nil, Kn_nx, Kn_rt, Kn_bk, Kn_ct, Kn_ex, Lp_nx, Lp_ct, Lp_rt, Lp_bk, Lp_ex, Mp_nx, Mp_bk, Mp_rt, Mp_ex, Fin_nx, Fin_rt]
  (refine W.seq ?_; conv => arg 1; simp -implicitDefEqProofs )
  simp -implicitDefEqProofs only [W_nx, W_rt, W_bk, W_ct, W_ex, W_nil, Kn_nx, Kn_rt, Kn_bk, Kn_ct, Kn_ex, Lp_nx, Lp_ct, Lp_rt, Lp_bk, Lp_ex, Mp_nx, Mp_bk, Mp_rt, Mp_ex, Fin_nx, Fin_rt]
  have hpl := plains_ar L
  have n1 : netB (.tup [.int many, .tup (L.map arD)]) = true := (net_iff hN.toArr hm2 (by omega) (by omega)).mpr hN
  have n2 : netB (.tup [.int (many + 1), .tup (L.map arD)]) = false := by
    rw [← Bool.not_eq_true, net_iff (many := many + 1) ⟨fun a ha => by have := hN.pr a ha; omega, hN.st⟩ (by omega) (by omega) (by omega)]
    intro h
    obtain ⟨a, ha, e⟩ := h.ins many (by omega) (by omega)
    have := hN.pr a ha
    omega
  have hlike := f_like 1 (.lst [.bl true, .bl false, .bl false, .bl false, .bl false]) (n + 6) (cupS c1) (by simp [dok, doks])
  have n3 : netB (.lst [.int many, .tup (L.map arD)]) = false := rfl
  have n4 : netB (.tup [.int many, .lst (L.map arD)]) = false := rfl
  have n5 : netB (.tup [.int many, .tup (L.map arD), .int 0]) = false := by simp [netB]
  have m1 : binEv .mul (.lst [.bl false]) (.int 4) = some (.lst [.bl false, .bl false, .bl false, .bl false], true) := rfl
  have m2 : binEv .add (.lst [.bl true]) (.lst [.bl false, .bl false, .bl false, .bl false]) = some (.lst [.bl true, .bl false, .bl false, .bl false, .bl false], true) := rfl
  (refine W.seq ?_; conv => arg 1; simp -implicitDefEqProofs [f_is_net, plain, plains, hpl, n1, n2, n3, n4, n5, m1, m2, bin_addT, hlike])
  simp -implicitDefEqProofs only [W_nx, W_rt, W_bk, W_ct, W_ex, W_nil, Kn_nx, Kn_rt, Kn_bk, Kn_ct, Kn_ex, Lp_nx, Lp_ct, Lp_rt, Lp_bk, Lp_ex, Mp_nx, Mp_bk, Mp_rt, Mp_ex, Fin_nx, Fin_rt]
  have hLp : 0 < (L.length : Int) := by
    obtain ⟨a, ha, _⟩ := hN.ins 1 (by decide) (by omega)
    have := List.length_pos_of_mem ha
    omega
  have ha0 := roll_lo c1 hLp
  have ha1 := roll_hi c1 hLp
  have hp0 := roll_lo (nextC c1 L.length) (m := many) (by omega)
  have hp1 := roll_hi (nextC c1 L.length) (m := many) (by omega)
  (refine W.seq ?_; conv => arg 1; simp -implicitDefEqProofs [f_roll (n + 8) _ _ hLp (by omega), f_roll (n + 8) (nextC c1 L.length) many (by omega) (by omega)])
  simp -implicitDefEqProofs only [W_nx, W_rt, W_bk, W_ct, W_ex, W_nil, Kn_nx, Kn_rt, Kn_bk, Kn_ct, Kn_ex, Lp_nx, Lp_ct, Lp_rt, Lp_bk, Lp_ex, Mp_nx, Mp_bk, Mp_rt, Mp_ex, Fin_nx, Fin_rt]
  generalize nextC (nextC c1 L.length) many = c2
  generalize roll (nextC c1 L.length) many = place at hp0 hp1
  generalize roll c1 (L.length : Int) = at_ at ha0 ha1
  have ha2 : 0 ≤ at_ + 1 := by omega
  generalize hA : L.take at_.toNat = A
  generalize hB : L.drop (at_ + 1).toNat = B
  generalize hC : (L.drop at_.toNat).take ((at_ + 1).toNat - at_.toNat) = C
  generalize hDr : L.drop at_.toNat = Dr
  have lA : A.length ≤ 17 := by rw [← hA, List.length_take]; omega
  have lB : B.length ≤ 17 := by rw [← hB, List.length_drop]; omega
  have lC : C.length ≤ 1 := by rw [← hC, List.length_take]; omega
  have lD : Dr.length ≤ 17 := by rw [← hDr, List.length_drop]; omega
  have sA : binEv .add (.tup (A.map arD)) (.tup (B.map arD)) = some (.tup ((A ++ B).map arD), false) := bin_addM arD (by omega) (by omega)
  have sB : binEv .add (.tup (A.map arD)) (.tup (C.map arD)) = some (.tup ((A ++ C).map arD), false) := bin_addM arD (by omega) (by omega)
  have sC : binEv .add (.tup ((A ++ C).map arD)) (.tup (Dr.map arD)) = some (.tup ((A ++ C ++ Dr).map arD), false) := bin_addM arD (by rw [List.length_append]; omega) (by omega)
  have cA : cutD (L.map arD) none (some at_) = A.map arD := by rw [cutM_to arD L at_ ha0, hA]
  have cB : cutD (L.map arD) (some (at_ + 1)) none = B.map arD := by rw [cutM_from arD L _ ha2, hB]
  have cC : cutD (L.map arD) (some at_) (some (at_ + 1)) = C.map arD := by rw [cutM_mid arD L at_ _ ha0 ha2, hC]
  have cD : cutD (L.map arD) (some at_) none = Dr.map arD := by rw [cutM_from arD L _ ha0, hDr]
  (refine W.seq ?_; conv => arg 1; simp -implicitDefEqProofs [cA, cB, cC, cD, sA, sB, sC, -List.map_append, ← List.map_reverse])
  simp -implicitDefEqProofs only [W_nx, W_rt, W_bk, W_ct, W_ex, W_nil, Kn_nx, Kn_rt, Kn_bk, Kn_ct, Kn_ex, Lp_nx, Lp_ct, Lp_rt, Lp_bk, Lp_ex, Mp_nx, Mp_bk, Mp_rt, Mp_ex, Fin_nx, Fin_rt]
  have sE : binEv .add (.tup (L.map arD)) (.tup [.tup [.int 0, .int (many - 1)]]) = some (.tup ((L ++ [(0, many - 1)]).map arD), false) := bin_addM arD (ys := [(0, many - 1)]) (by omega) (by simp)
  have hll : L.length ≤ line := le_line (by omega)
  refine W.seq ?_
  (conv => arg 1; simp -implicitDefEqProofs [sE, hll, -List.map_append, bi_sortTA])
  rw [lcGo_map arD (fun a => !(decide (place = a.1) || decide (place = a.2))) arD]; rotate_left
  · exact fun a _ => ⟨_, false, rfl, by simp [nme_ar], by simp⟩
  generalize hF : L.filter _ = F
  (conv => arg 1; simp -implicitDefEqProofs [-List.map_append, ← List.map_reverse, bin_addL])
  simp -implicitDefEqProofs only [W_nx, W_rt, W_bk, W_ct, W_ex, W_nil, Kn_nx, Kn_rt, Kn_bk, Kn_ct, Kn_ex, Lp_nx, Lp_ct, Lp_rt, Lp_bk, Lp_ex, Mp_nx, Mp_bk, Mp_rt, Mp_ex, Fin_nx, Fin_rt]
  have hll : ∀ M ∈ [A ++ B, A ++ (C ++ Dr), L.reverse, sortB ltA (L ++ [(0, many - 1)]), F], (∀ a ∈ M, 0 ≤ a.1 ∧ a.1 < a.2 ∧ a.2 < many) ∧ M.length ≤ 24 := by
    have hsub : ∀ M : List Ar, (∀ a ∈ M, a ∈ L) → (∀ a ∈ M, 0 ≤ a.1 ∧ a.1 < a.2 ∧ a.2 < many) := fun M h a ha => hN.pr a (h a ha)
    have mA : ∀ a ∈ A, a ∈ L := fun a ha => List.mem_of_mem_take (hA ▸ ha)
    have mB : ∀ a ∈ B, a ∈ L := fun a ha => List.mem_of_mem_drop (hB ▸ ha)
    have mD : ∀ a ∈ Dr, a ∈ L := fun a ha => List.mem_of_mem_drop (hDr ▸ ha)
    have mC : ∀ a ∈ C, a ∈ L := fun a ha => List.mem_of_mem_drop (List.mem_of_mem_take (hC ▸ ha))
    intro M hM
    simp only [List.mem_cons, List.not_mem_nil, or_false] at hM
    rcases hM with rfl | rfl | rfl | rfl | rfl
    · refine ⟨hsub _ fun a ha => ?_, ?_⟩
      · rcases List.mem_append.mp ha with h | h
        · exact mA a h
        · exact mB a h
      · rw [List.length_append, ← hA, ← hB, List.length_take, List.length_drop]; omega
    · refine ⟨hsub _ fun a ha => ?_, ?_⟩
      · rcases List.mem_append.mp ha with h | h
        · exact mA a h
        · rcases List.mem_append.mp h with h | h
          · exact mC a h
          · exact mD a h
      · rw [List.length_append, List.length_append, ← hA, ← hDr, List.length_take, List.length_drop]; omega
    · exact ⟨hsub _ fun a ha => List.mem_reverse.mp ha, by simp; omega⟩
    · refine ⟨fun a ha => ?_, by rw [(q_sortB_perm _).length_eq]; simp; omega⟩
      rcases List.mem_append.mp ((q_sortB_perm _).mem_iff.mp ha) with h | h
      · exact hN.pr a h
      · simp at h; subst h; simp; omega
    · refine ⟨hsub _ fun a ha => (List.mem_filter.mp (hF ▸ ha)).1, ?_⟩
      rw [← hF]
      exact Nat.le_trans (List.length_filter_le _ _) (by omega)
  have hm : [D.tup (List.map arD (A ++ B)), D.tup (List.map arD (A ++ (C ++ Dr))), D.tup (List.map arD L.reverse), D.tup (List.map arD (sortB ltA (L ++ [(0, many - 1)]))), D.tup (List.map arD F)] = [A ++ B, A ++ (C ++ Dr), L.reverse, sortB ltA (L ++ [(0, many - 1)]), F].map (fun M => D.tup (M.map arD)) := rfl
  rw [hm]
  have hMl : [A ++ B, A ++ (C ++ Dr), L.reverse, sortB ltA (L ++ [(0, many - 1)]), F].length ≤ line := le_line (by simp)
  generalize [A ++ B, A ++ (C ++ Dr), L.reverse, sortB ltA (L ++ [(0, many - 1)]), F] = Ms at hll hMl
  (refine W.seq ?_; conv => arg 1; simp -implicitDefEqProofs [hMl])
  rw [lcGo_all (fun M : List Ar => D.tup (M.map arD)) (fun M => .bl (netB (.tup [.int many, .tup (M.map arD)])))]; rotate_left
  · exact fun M hM => ⟨_, false, rfl, by simp, by simp [f_is_net, plain, plains, plains_ar]⟩
  have hlf : D.lfs (Ms.map fun M => D.bl (netB (.tup [.int many, .tup (M.map arD)]))) = true := lfs_map _ (fun _ => lf_bl _) _
  conv => arg 1; simp -implicitDefEqProofs only [R.bind_ok, R.st_ok, put_lstT, hlf, putT_nm, RS.of_some, if_true]
  (conv => arg 1; simp -implicitDefEqProofs )
  simp -implicitDefEqProofs only [W_nx, W_rt, W_bk, W_ct, W_ex, W_nil, Kn_nx, Kn_rt, Kn_bk, Kn_ct, Kn_ex, Lp_nx, Lp_ct, Lp_rt, Lp_bk, Lp_ex, Mp_nx, Mp_bk, Mp_rt, Mp_ex, Fin_nx, Fin_rt]
  refine W.seq ?_
  (conv => arg 1; simp -implicitDefEqProofs [hMl])
  rw [lcGo_all (fun M : List Ar => D.tup (M.map arD)) (fun M => .bl (netB (.tup [.int many, .tup (M.map arD)])))]; rotate_left
  · intro M hM
    obtain ⟨h1, h2⟩ := hll M hM
    refine ⟨_, false, rfl, by simp, ?_⟩
    rw [lawNet_eq h1 hm2 (by omega) h2]
    have := f_law_is_net (n + 8) (cupS c2) many M hm2 (by omega) (by omega)
    cases M with
    | nil => simp [show cmpEv .ne (.tup []) (.tup []) = some false from neT_nil []]
    | cons a M => simp at this; simp [show cmpEv .ne (.tup (arD a :: M.map arD)) (.tup []) = some true from neT_nil (a :: M), this]
  have hlike2 := f_like 1 (.lst (Ms.map fun M => .bl (netB (.tup [.int many, .tup (M.map arD)])))) (n + 6) (cupS c2) (by rw [dok_lst, doks_bl]; simpa using hMl)
  conv => arg 1; simp -implicitDefEqProofs only [R.bind_ok, evs_cons, evs_nil, List.map_cons, List.map_nil, hlike2]
  (conv => arg 1; simp -implicitDefEqProofs )
  simp -implicitDefEqProofs only [W_nx, W_rt, W_bk, W_ct, W_ex, W_nil, Kn_nx, Kn_rt, Kn_bk, Kn_ct, Kn_ex, Lp_nx, Lp_ct, Lp_rt, Lp_bk, Lp_ex, Mp_nx, Mp_bk, Mp_rt, Mp_ex, Fin_nx, Fin_rt]
  clear hlike2 hlf hMl hll hm hF sE cB cC sA sB sC hB hC lB lC
  (refine W.seq ?_; conv => arg 1; simp -implicitDefEqProofs )
  simp -implicitDefEqProofs only [W_nx, W_rt, W_bk, W_ct, W_ex, W_nil, Kn_nx, Kn_rt, Kn_bk, Kn_ct, Kn_ex, Lp_nx, Lp_ct, Lp_rt, Lp_bk, Lp_ex, Mp_nx, Mp_bk, Mp_rt, Mp_ex, Fin_nx, Fin_rt]
  have os : ∀ o ∈ [D.tup [.int place, .int place], .tup [.int (many - 1), .int many], .tup [.int 1, .int 0], .tup [.int 0], .tup [.int 0, .int 1, .int 1], .non, .lst [.int 0, .int 1], .tup [.int 0, .bl true], .tup [.int (-1), .int 0]], plain o = true ∧ arB many o = false := by
    intro o ho
    simp only [List.mem_cons, List.not_mem_nil, or_false] at ho
    rcases ho with rfl | rfl | rfl | rfl | rfl | rfl | rfl | rfl | rfl <;> exact ⟨rfl, by simp [arB] <;> omega⟩
  have m3 : binEv .mul (.lst [.bl false]) (.int 9) = some (.lst [.bl false, .bl false, .bl false, .bl false, .bl false, .bl false, .bl false, .bl false, .bl false], true) := rfl
  refine W.seq ?_
  (conv => arg 1; simp -implicitDefEqProofs [m3])
  rw [lcGo_alli (v := fun _ => .bl false)]; rotate_left
  · intro o ho
    obtain ⟨o1, o2⟩ := os o ho
    have sF : binEv .add (.tup (A.map arD)) (.tup [o]) = some (.tup (A.map arD ++ [o]), false) := bin_addT (by simp [line]; omega)
    have sG : binEv .add (.tup (A.map arD ++ [o])) (.tup (Dr.map arD)) = some (.tup (A.map arD ++ o :: Dr.map arD), false) := by rw [bin_addT (by simp [line]; omega)]; simp
    have pa : plains (A.map arD ++ o :: Dr.map arD) = true := plains_app (plains_ar A) (by rw [plains, o1, plains_ar]; rfl)
    have nb : netB (.tup [.int many, .tup (A.map arD ++ o :: Dr.map arD)]) = false := by simp [netB, o2]
    exact ⟨_, false, rfl, by simp, by simp [cA, cD, sF, sG, f_is_net, plain, plains, pa, nb]⟩
  have hlike3 := f_like 1 (.lst [.bl false, .bl false, .bl false, .bl false, .bl false, .bl false, .bl false, .bl false, .bl false]) (n + 6) (cupS c2) (by simp [dok, doks])
  (conv => arg 1; simp -implicitDefEqProofs [hlike3])
  simp -implicitDefEqProofs only [W_nx, W_rt, W_bk, W_ct, W_ex, W_nil, Kn_nx, Kn_rt, Kn_bk, Kn_ct, Kn_ex, Lp_nx, Lp_ct, Lp_rt, Lp_bk, Lp_ex, Mp_nx, Mp_bk, Mp_rt, Mp_ex, Fin_nx, Fin_rt]
  exact ⟨by trivial, by trivial, c2, rfl⟩
theorem plains_dI : ∀ w : List Int, plains (dI w) = true
  | [] => rfl
  | i :: w => by rw [dI_cons, plains, plains_dI w]; rfl
theorem ints_odd {B : List Int} {o : D} {k : Nat} (h : ∀ j, o = .int j → inB k j = false) : ∀ (A : List Int) {ns : List Int}, D.ints (dI A ++ o :: dI B) = some ns → ns.all (inB k) = false
  | [], ns, e => by
    cases o <;> first | (simp [D.ints] at e; done) | skip
    case int j =>
      have e2 : D.ints (dI [] ++ .int j :: dI B) = some (j :: B) := ints_map (j :: B)
      rw [e2] at e; cases e
      rw [List.all_cons, h j rfl]; rfl
  | a :: A, ns, e => by
    rw [dI_cons, List.cons_append, D.ints] at e
    cases h2 : D.ints (dI A ++ o :: dI B) with
    | none => rw [h2] at e; cases e
    | some ms =>
      rw [h2] at e; cases e
      rw [List.all_cons, ints_odd h A h2, Bool.and_false]
theorem wayB_odd {L : List Ar} {s t : Int} {A B : List Int} {o : D} (h : ∀ j, o = .int j → inB L.length j = false) : wayB L s t (.tup (dI A ++ o :: dI B)) = false := by
  have e : tupI (.tup (dI A ++ o :: dI B)) = D.ints (dI A ++ o :: dI B) := rfl
  unfold wayB
  rw [e]
  cases h2 : D.ints (dI A ++ o :: dI B) with
  | none => rfl
  | some ns => simp only [ints_odd h A h2, Bool.false_and]
theorem f_ways_right (n : Nat) (c : Cu) : ∃ c', callD prog (n + 10) 19 [.hd 0] (cupS c) = .ok (.bl true, false, cupS c') := by
  suffices h : W (exes (callD prog (n + 9)) prog.gl b__law_ways_right (startE 9 [.hd 0]) (cupS c)) (Fin fun d o S => d = .bl true ∧ o = false ∧ ∃ c', S = cupS c') by
    obtain ⟨d, o, S, e, rfl, rfl, c', rfl⟩ := h.fin
    exact ⟨c', e⟩
  unfold b__law_ways_right
  obtain ⟨many, L, c1, e1, hN, hm7, hlen⟩ := f_net (n + 7) c 7 (by decide) (by decide)
  have hm2 := hN.m2
  have hLl : L.length ≤ 17 := by omega
  have hLp : 0 < (L.length : Int) := by
    obtain ⟨a, ha, _⟩ := hN.ins 1 (by decide) (by omega)
    have := List.length_pos_of_mem ha
    omega
  have n1 : netB (.tup [.int many, .tup (L.map arD)]) = true := (net_iff hN.toArr hm2 (by omega) (by omega)).mpr hN
  have hpl : plain (.tup [.int many, .tup (L.map arD)]) = true := by simp [plain, plains, plains_ar]
  have hpw : 2 ^ L.length ≤ 2 ^ 17 := Nat.pow_le_pow_right (by decide) hLl
  have hW := f_ways (n + 8) (cupS c1) many L hN (by omega) (by omega)
  have hWl : (sortB lexLtB (foundW L (many - 1) many.toNat)).length ≤ 10000000 := by
    rw [(q_sortB_perm _).length_eq]
    have h1 := found_len (fun a ha => ⟨(hN.pr a ha).1, (hN.pr a ha).2.1⟩) (many - 1) many.toNat (L := L)
    have h2 : many.toNat * 2 ^ L.length ≤ 7 * 2 ^ 17 := Nat.mul_le_mul (by omega) hpw
    omega
  have hWm : ∀ v : List Int, wayB L 0 (many - 1) (.tup (dI v)) = decide (v ∈ sortB lexLtB (foundW L (many - 1) many.toNat)) := by
    intro v
    rw [Bool.eq_iff_iff, decide_eq_true_eq, mem_ways hN]
    simp only [wayB, tupI, dI, ints_map, Bool.and_eq_true, List.all_eq_true, decide_eq_true_eq]
  have hWs : ∀ v ∈ sortB lexLtB (foundW L (many - 1) many.toNat), v ≠ [] ∧ v.length ≤ 7 := by
    intro v hv
    have hv := (q_sortB_perm _).mem_iff.mp hv
    have := (mem_found.mp hv).1
    exact ⟨ways_ne hN hv, by omega⟩
  have hWn : sortB lexLtB (foundW L (many - 1) many.toNat) ≠ [] := ways_some hN
  generalize sortB lexLtB (foundW L (many - 1) many.toNat) = Ws at *
  have hway : ∀ (S : Sto) (v : List Int), v.length ≤ 1000 → callD prog (n + 9) 9 [.tup [.int many, .tup (L.map arD)], .tup (dI v)] S = .ok (.bl (decide (v ∈ Ws)), false, S) := by
    intro S v hv
    rw [f_is_way (n + 3) S many L (.tup (dI v)) (by simp [plain, plains_dI]) (by omega) (fun xs e => by cases e; exact le_line (by simpa using hv)) hpl n1, hWm]
  have hwayL : ∀ (S : Sto) (v : List Int), callD prog (n + 9) 9 [.tup [.int many, .tup (L.map arD)], .lst (dI v)] S = .ok (.bl false, false, S) := by
    intro S v
    rw [f_is_way (n + 3) S many L (.lst (dI v)) (by simp [plain, plains_dI]) (by omega) (fun xs e => by cases e) hpl n1]; rfl
  have hlf : D.lfs (Ws.map fun w => D.tup (dI w)) = true := lfs_map _ (fun w => by simp) _
  have hwl : Ws.length ≤ line := le_line' hWl
  (refine W.seq ?_; conv => arg 1; simp -implicitDefEqProofs [e1])
  simp -implicitDefEqProofs only [W_nx, W_rt, W_bk, W_ct, W_ex, W_nil, Kn_nx, Kn_rt, Kn_bk, Kn_ct, Kn_ex, Lp_nx, Lp_ct, Lp_rt, Lp_bk, Lp_ex, Mp_nx, Mp_bk, Mp_rt, Mp_ex, Fin_nx, Fin_rt]
  (refine W.seq ?_; conv => arg 1; simp -implicitDefEqProofs [hW, hlf])
  simp -implicitDefEqProofs only [W_nx, W_rt, W_bk, W_ct, W_ex, W_nil, Kn_nx, Kn_rt, Kn_bk, Kn_ct, Kn_ex, Lp_nx, Lp_ct, Lp_rt, Lp_bk, Lp_ex, Mp_nx, Mp_bk, Mp_rt, Mp_ex, Fin_nx, Fin_rt]
  refine W.seq ?_
  (conv => arg 1; simp -implicitDefEqProofs [hwl])
  rw [lcGo_map (fun w => D.tup (dI w)) (fun _ => false) (fun w => D.tup (dI w))]; rotate_left
  · intro w hw
    refine ⟨_, false, rfl, ?_, by simp⟩
    simp [hway (cupS c1) w (by have := (hWs w hw).2; omega), hwayL, hw]
  have ef : Ws.filter (fun _ => false) = [] := by simp
  rw [ef]
  (conv => arg 1; simp -implicitDefEqProofs )
  simp -implicitDefEqProofs only [W_nx, W_rt, W_bk, W_ct, W_ex, W_nil, Kn_nx, Kn_rt, Kn_bk, Kn_ct, Kn_ex, Lp_nx, Lp_ct, Lp_rt, Lp_bk, Lp_ex, Mp_nx, Mp_bk, Mp_rt, Mp_ex, Fin_nx, Fin_rt]
  (refine W.seq ?_; conv => arg 1; simp -implicitDefEqProofs )
  rw [rngD_map]
  refine W.mapE ?_
  refine W.forM (fun i : Nat => D.int (0 + i)) (fun (rest : List Nat) E S => ∃ (c : Cu) (x3 x4 x5 x6 x7 x8 : Option (D × Bool)), E = [some (.hd 0, false), some (.tup [.int many, .tup (L.map arD)], false), some (.lst (Ws.map fun w => .tup (dI w)), true), x3, x4, x5, x6, x7, x8] ∧ S = cupS c) ?_ ?_ ?_
  · exact ⟨c1, _, _, _, _, _, _, rfl, rfl⟩
  · rintro i rest E S ⟨c, x3, x4, x5, x6, x7, x8, rfl, rfl⟩
    refine ⟨_, rfl, ?_⟩
    obtain ⟨d, hd, e2⟩ := f_some (n + 7) c (.lst (Ws.map fun w => .tup (dI w))) (Ws.map fun w => .tup (dI w)) (.inl rfl) (by simpa using hWn) (by simp; omega)
    obtain ⟨w, hw, rfl⟩ := List.mem_map.mp hd
    obtain ⟨hwn, hwl7⟩ := hWs w hw
    generalize nextC c _ = c2 at e2
    have hat0 := roll_lo c2 hLp
    have hat1 := roll_hi c2 hLp
    have hwp : 0 < (w.length : Int) := by have := List.length_pos_iff.mpr hwn; omega
    (refine W.seq ?_; conv => arg 1; simp -implicitDefEqProofs [e2, f_roll (n + 8) c2 _ hLp (by omega), parAll, parGood, parSet])
    simp -implicitDefEqProofs only [W_nx, W_rt, W_bk, W_ct, W_ex, W_nil, Kn_nx, Kn_rt, Kn_bk, Kn_ct, Kn_ex, Lp_nx, Lp_ct, Lp_rt, Lp_bk, Lp_ex, Mp_nx, Mp_bk, Mp_rt, Mp_ex, Fin_nx, Fin_rt]
    generalize nextC c2 _ = c3
    generalize roll c2 (L.length : Int) = at_ at hat0 hat1
    have hs0 := roll_lo c3 hwp
    have hs1 := roll_hi c3 hwp
    (refine W.seq ?_; conv => arg 1; simp -implicitDefEqProofs [f_roll (n + 8) c3 _ hwp (by omega)])
    simp -implicitDefEqProofs only [W_nx, W_rt, W_bk, W_ct, W_ex, W_nil, Kn_nx, Kn_rt, Kn_bk, Kn_ct, Kn_ex, Lp_nx, Lp_ct, Lp_rt, Lp_bk, Lp_ex, Mp_nx, Mp_bk, Mp_rt, Mp_ex, Fin_nx, Fin_rt]
    generalize nextC c3 _ = c4
    generalize roll c3 (w.length : Int) = spot at hs0 hs1
    generalize hA : w.take spot.toNat = A
    generalize hB : w.drop (spot + 1).toNat = B
    generalize hC : w.drop spot.toNat = C
    have lA : A.length ≤ 7 := by rw [← hA, List.length_take]; omega
    have lB : B.length ≤ 7 := by rw [← hB, List.length_drop]; omega
    have lC : C.length ≤ 7 := by rw [← hC, List.length_drop]; omega
    have cA : cutD (dI w) none (some spot) = dI A := by unfold dI; rw [cutM_to D.int w spot hs0, hA]
    have cB : cutD (dI w) (some (spot + 1)) none = dI B := by unfold dI; rw [cutM_from D.int w _ (by omega), hB]
    have cC : cutD (dI w) (some spot) none = dI C := by unfold dI; rw [cutM_from D.int w _ hs0, hC]
    have s1 : binEv .add (.tup (dI A)) (.tup (dI B)) = some (.tup (dI (A ++ B)), false) := bin_addM D.int (by omega) (by omega)
    have s2 : binEv .add (.tup (dI A)) (.tup [.int at_]) = some (.tup (dI (A ++ [at_])), false) := bin_addM D.int (ys := [at_]) (by omega) (by simp)
    have s3 : binEv .add (.tup (dI (A ++ [at_]))) (.tup (dI B)) = some (.tup (dI (A ++ [at_] ++ B)), false) := bin_addM D.int (by simp; omega) (by omega)
    have s4 : binEv .add (.tup (dI w)) (.tup [.int at_]) = some (.tup (dI (w ++ [at_])), false) := bin_addM D.int (ys := [at_]) (by omega) (by simp)
    have s5 : binEv .add (.tup (dI (A ++ [at_]))) (.tup (dI C)) = some (.tup (dI (A ++ [at_] ++ C)), false) := bin_addM D.int (by simp; omega) (by omega)
    have s6 : binEv .add (.tup (dI C)) (.tup (dI A)) = some (.tup (dI (C ++ A)), false) := bin_addM D.int (by omega) (by omega)
    have s7 : (dI w).reverse = dI w.reverse := by unfold dI; rw [List.map_reverse]
    (refine W.seq ?_; conv => arg 1; simp -implicitDefEqProofs [cA, cB, cC, s1, s2, s3, s4, s5, s6, s7, -List.append_assoc])
    have hm : [D.tup (dI (A ++ B)), D.tup (dI (A ++ [at_] ++ B)), D.tup (dI w.reverse), D.tup (dI (w ++ [at_])), D.tup (dI (A ++ [at_] ++ C)), D.tup (dI (C ++ A))] = [A ++ B, A ++ [at_] ++ B, w.reverse, w ++ [at_], A ++ [at_] ++ C, C ++ A].map (fun v => D.tup (dI v)) := rfl
    have hvl : ∀ v ∈ [A ++ B, A ++ [at_] ++ B, w.reverse, w ++ [at_], A ++ [at_] ++ C, C ++ A], v.length ≤ 1000 := by
      intro v hv
      simp only [List.mem_cons, List.not_mem_nil, or_false] at hv
      rcases hv with rfl | rfl | rfl | rfl | rfl | rfl <;> simp <;> omega
    rw [hm]
    generalize [A ++ B, A ++ [at_] ++ B, w.reverse, w ++ [at_], A ++ [at_] ++ C, C ++ A] = vs at hvl
    clear s1 s2 s3 s4 s5 s6 s7 hm
    refine W.mapE ?_
    refine W.forM (fun v => D.tup (dI v)) (fun (rest : List (List Int)) E S => ∃ (x5 : Option (D × Bool)), E = [some (.hd 0, false), some (.tup [.int many, .tup (L.map arD)], false), some (.lst (Ws.map fun w => .tup (dI w)), true), some (.int i, false), some (.int spot, false), x5, x6, some (.tup (dI w), false), some (.int at_, false)] ∧ S = cupS c4 ∧ ∀ v ∈ rest, v.length ≤ 1000) ?_ ?_ ?_
    · exact ⟨_, by simp; rfl, rfl, hvl⟩
    · rintro v rest' E S ⟨x5, rfl, rfl, hv⟩
      refine ⟨_, by simp; rfl, ?_⟩
      have hlk := f_like 0 (.bl (decide (v ∈ Ws))) (n + 7) (cupS c4) (by simp)
      (refine W.seq ?_; conv => arg 1; simp -implicitDefEqProofs [hway (cupS c4) v (hv v List.mem_cons_self), mem_its, hlk])
      simp -implicitDefEqProofs only [W_nx, W_rt, W_bk, W_ct, W_ex, W_nil, Kn_nx, Kn_rt, Kn_bk, Kn_ct, Kn_ex, Lp_nx, Lp_ct, Lp_rt, Lp_bk, Lp_ex, Mp_nx, Mp_bk, Mp_rt, Mp_ex, Fin_nx, Fin_rt]
      exact ⟨_, rfl, by trivial, fun u hu => hv u (List.mem_cons_of_mem _ hu)⟩
    · rintro E S ⟨x5, rfl, rfl, -⟩
      simp -implicitDefEqProofs only [W_nx, W_rt, W_bk, W_ct, W_ex, W_nil, Kn_nx, Kn_rt, Kn_bk, Kn_ct, Kn_ex, Lp_nx, Lp_ct, Lp_rt, Lp_bk, Lp_ex, Mp_nx, Mp_bk, Mp_rt, Mp_ex, Fin_nx, Fin_rt]
      (refine W.seq ?_; conv => arg 1; simp -implicitDefEqProofs )
      refine W.mapE ?_
      have os : ∀ o ∈ [D.non, .int (L.length : Int), .int (-1), .tup [.int at_], .str "0"], o.lf = true ∧ plain o = true ∧ ∀ j, o = .int j → inB L.length j = false := by
        intro o ho
        simp only [List.mem_cons, List.not_mem_nil, or_false] at ho
        rcases ho with rfl | rfl | rfl | rfl | rfl <;> refine ⟨by simp, rfl, fun j hj => ?_⟩ <;> cases hj <;> simp [inB]
      refine W.for_ (fun (rest : List D) E S => ∃ (x6 : Option (D × Bool)), E = [some (.hd 0, false), some (.tup [.int many, .tup (L.map arD)], false), some (.lst (Ws.map fun w => .tup (dI w)), true), some (.int i, false), some (.int spot, false), x5, x6, some (.tup (dI w), false), some (.int at_, false)] ∧ S = cupS c4 ∧ ∀ o ∈ rest, o.lf = true ∧ plain o = true ∧ ∀ j, o = .int j → inB L.length j = false) ?_ ?_ ?_
      · exact ⟨_, rfl, rfl, os⟩
      · rintro o rest' E S ⟨x6, rfl, rfl, ho⟩
        obtain ⟨o0, o1, o2⟩ := ho o List.mem_cons_self
        have sF : binEv .add (.tup (dI A)) (.tup [o]) = some (.tup (dI A ++ [o]), false) := bin_addT (by simp [line]; omega)
        have sG : binEv .add (.tup (dI A ++ [o])) (.tup (dI B)) = some (.tup (dI A ++ o :: dI B), false) := by rw [bin_addT (by simp [line]; omega)]; simp
        have pa : plain (.tup (dI A ++ o :: dI B)) = true := by rw [plain]; exact plains_app (plains_dI A) (by rw [plains, o1, plains_dI]; rfl)
        have hb : callD prog (n + 9) 9 [.tup [.int many, .tup (L.map arD)], .tup (dI A ++ o :: dI B)] (cupS c4) = .ok (.bl false, false, cupS c4) := by
          rw [f_is_way (n + 3) (cupS c4) many L _ pa (by omega) (fun xs e => by cases e; exact le_line (by simp; omega)) hpl n1, wayB_odd o2]
        refine ⟨_, by rw [putT_nm, put_lf _ _ _ _ o0], ?_⟩
        (refine W.seq ?_; conv => arg 1; simp -implicitDefEqProofs [cA, cB, sF, sG, hb])
        simp -implicitDefEqProofs only [W_nx, W_rt, W_bk, W_ct, W_ex, W_nil, Kn_nx, Kn_rt, Kn_bk, Kn_ct, Kn_ex, Lp_nx, Lp_ct, Lp_rt, Lp_bk, Lp_ex, Mp_nx, Mp_bk, Mp_rt, Mp_ex, Fin_nx, Fin_rt]
        exact ⟨_, rfl, by trivial, fun u hu => ho u (List.mem_cons_of_mem _ hu)⟩
      · rintro E S ⟨x6, rfl, rfl, -⟩
        simp -implicitDefEqProofs only [W_nx, W_rt, W_bk, W_ct, W_ex, W_nil, Kn_nx, Kn_rt, Kn_bk, Kn_ct, Kn_ex, Lp_nx, Lp_ct, Lp_rt, Lp_bk, Lp_ex, Mp_nx, Mp_bk, Mp_rt, Mp_ex, Fin_nx, Fin_rt]
        exact ⟨c4, _, _, _, _, _, _, rfl, by trivial⟩
  · rintro E S ⟨c, x3, x4, x5, x6, x7, x8, rfl, rfl⟩
    simp -implicitDefEqProofs only [W_nx, W_rt, W_bk, W_ct, W_ex, W_nil, Kn_nx, Kn_rt, Kn_bk, Kn_ct, Kn_ex, Lp_nx, Lp_ct, Lp_rt, Lp_bk, Lp_ex, Mp_nx, Mp_bk, Mp_rt, Mp_ex, Fin_nx, Fin_rt]
    (refine W.seq ?_; conv => arg 1; simp -implicitDefEqProofs )
    simp -implicitDefEqProofs only [W_nx, W_rt, W_bk, W_ct, W_ex, W_nil, Kn_nx, Kn_rt, Kn_bk, Kn_ct, Kn_ex, Lp_nx, Lp_ct, Lp_rt, Lp_bk, Lp_ex, Mp_nx, Mp_bk, Mp_rt, Mp_ex, Fin_nx, Fin_rt]
    exact ⟨by trivial, by trivial, c, by trivial⟩
theorem cmul2 (i : Int) : CMulB i 1123 = true := by simp [CMulB]
end K00

set_option linter.all false
set_option maxRecDepth 100000
set_option maxHeartbeats 1000000
namespace K00
open Pz L2
theorem f_written (S : Sto) : callD prog 39 20 [] S = .ok (.bl true, false, S) := by kernel_rfl
theorem f_errors (S : Sto) : callD prog 39 21 [] S = .ok (.bl true, false, S) := by kernel_rfl
theorem f_cup (n : Nat) (ns : List Int) (hn : ns.length ≤ 63) (e : D) (he : ScD ns e) :
    ∃ c : Cu, callD prog (n + 1) 10 [e] [] = .ok (.lst [.int c.1, .int c.2], true, []) := by
  rw [show callD prog (n + 1) 10 [e] [] = (exes (callD prog (n)) prog.gl b__law_cup (startE 2 [e]) []).fin from rfl]; unfold b__law_cup
  have hl : biEv .list [e] = some (.lst (dI ns), true) := by cases he <;> rfl
  have hh : ∃ c : Int, atI (dI ns ++ [.int 0]) 0 = some (.int c) := by
    cases ns with
    | nil => exact ⟨0, rfl⟩
    | cons a r => exact ⟨a, by rw [atI_nat _ _ (by decide)]; rfl⟩
  obtain ⟨c, hc⟩ := hh
  have hadd : binEv .add (.lst (dI ns)) (.lst [.int 0]) = some (.lst (dI ns ++ [.int 0]), true) := bin_addL (by simp [line]; omega)
  have hp : binEv .pow (.int 10) (.int 18) = some (.int (10 ^ 18), false) := rfl
  simp [exes, hl, hadd, hc, hp, bin_mulI (cmul2 _), bin_modI (show (0 : Int) < 1048576 by decide), bin_fdivI (show (0 : Int) < 347 by decide) (by decide)]
  generalize (if c < 0 then -c else c) = a
  by_cases h : 1000000000000000000 ≤ a
  · simp [h]
  · simp [h]
theorem math : ∀ ns : List Int, ns.length ≤ 63 → ∀ e, ScD ns e → ∃ o S, callD prog 40 22 [e] [] = .ok (.bl true, o, S) := by
  intro ns hn e he
  obtain ⟨c0, hc⟩ := f_cup 38 ns hn e he
  suffices h : W (exes (callD prog 39) prog.gl b_law (startE 3 [e]) []) (Fin fun d o S => d = .bl true) by
    obtain ⟨d, o, S, e1, rfl⟩ := h.fin
    exact ⟨o, S, e1⟩
  unfold b_law
  refine W.seq ?_
  have hE : startE 3 [e] = [some (e, false), none, none] := rfl
  rw [hE]
  (conv => arg 1; simp -implicitDefEqProofs [hc])
  simp -implicitDefEqProofs only [W_nx, W_rt, W_bk, W_ct, W_ex, W_nil, Kn_nx, Kn_rt, Kn_bk, Kn_ct, Kn_ex, Lp_nx, Lp_ct, Lp_rt, Lp_bk, Lp_ex, Mp_nx, Mp_bk, Mp_rt, Mp_ex, Fin_nx, Fin_rt]
  have e0 : ([[D.int c0.1, D.int c0.2]] : Sto) = cupS c0 := rfl
  rw [e0]
  (refine W.seq ?_; conv => arg 1; simp -implicitDefEqProofs [f_written, f_errors])
  simp -implicitDefEqProofs only [W_nx, W_rt, W_bk, W_ct, W_ex, W_nil, Kn_nx, Kn_rt, Kn_bk, Kn_ct, Kn_ex, Lp_nx, Lp_ct, Lp_rt, Lp_bk, Lp_ex, Mp_nx, Mp_bk, Mp_rt, Mp_ex, Fin_nx, Fin_rt]
  (refine W.seq ?_; conv => arg 1; simp -implicitDefEqProofs )
  rw [rngD_map]
  refine W.mapE ?_
  refine W.forM (fun i : Nat => D.int (0 + i)) (fun (rest : List Nat) E S => ∃ (c : Cu) (x2 : Option (D × Bool)), E = [some (e, false), some (.hd 0, false), x2] ∧ S = cupS c) ?_ ?_ ?_
  · exact ⟨c0, _, rfl, rfl⟩
  · rintro i rest E S ⟨c, x2, rfl, rfl⟩
    refine ⟨_, rfl, ?_⟩
    obtain ⟨c1, e1⟩ := f_nets_right 29 c
    obtain ⟨c2, e2⟩ := f_ways_right 29 c1
    (refine W.seq ?_; conv => arg 1; simp -implicitDefEqProofs [e1, e2])
    simp -implicitDefEqProofs only [W_nx, W_rt, W_bk, W_ct, W_ex, W_nil, Kn_nx, Kn_rt, Kn_bk, Kn_ct, Kn_ex, Lp_nx, Lp_ct, Lp_rt, Lp_bk, Lp_ex, Mp_nx, Mp_bk, Mp_rt, Mp_ex, Fin_nx, Fin_rt]
    exact ⟨c2, _, rfl, by trivial⟩
  · rintro E S ⟨c, x2, rfl, rfl⟩
    simp -implicitDefEqProofs only [W_nx, W_rt, W_bk, W_ct, W_ex, W_nil, Kn_nx, Kn_rt, Kn_bk, Kn_ct, Kn_ex, Lp_nx, Lp_ct, Lp_rt, Lp_bk, Lp_ex, Mp_nx, Mp_bk, Mp_rt, Mp_ex, Fin_nx, Fin_rt]
    (refine W.seq ?_; conv => arg 1; simp -implicitDefEqProofs )
    simp -implicitDefEqProofs only [W_nx, W_rt, W_bk, W_ct, W_ex, W_nil, Kn_nx, Kn_rt, Kn_bk, Kn_ct, Kn_ex, Lp_nx, Lp_ct, Lp_rt, Lp_bk, Lp_ex, Mp_nx, Mp_bk, Mp_rt, Mp_ex, Fin_nx, Fin_rt]
end K00

namespace K00
open PySem PySem.Spec PyProof.Rows L2 Pz
theorem m_is_number : mSs { tb with lm := false } n_is_number (defScope s_is_number) b_is_number (defBody s_is_number) = true := by decide +kernel
theorem c_is_number : FnScope n_is_number ["value"] (defScope s_is_number) := ⟨rfl, rfl, rfl, by decide +kernel, rfl, by decide +kernel, by decide +kernel⟩
theorem m_is_whole : mSs { tb with lm := false } n_is_whole (defScope s_is_whole) b_is_whole (defBody s_is_whole) = true := by decide +kernel
theorem c_is_whole : FnScope n_is_whole ["value", "low", "high"] (defScope s_is_whole) := ⟨rfl, rfl, rfl, by decide +kernel, rfl, by decide +kernel, by decide +kernel⟩
theorem m_is_tuple_of : mSs { tb with lm := false } n_is_tuple_of (defScope s_is_tuple_of) b_is_tuple_of (defBody s_is_tuple_of) = true := by decide +kernel
theorem c_is_tuple_of : FnScope n_is_tuple_of ["value", "low", "high"] (defScope s_is_tuple_of) := ⟨rfl, rfl, rfl, by decide +kernel, rfl, by decide +kernel, by decide +kernel⟩
theorem m_reached : mSs { tb with lm := false } n_reached (defScope s_reached) b_reached (defBody s_reached) = true := by decide +kernel
theorem c_reached : FnScope n_reached ["arrows", "start"] (defScope s_reached) := ⟨rfl, rfl, rfl, by decide +kernel, rfl, by decide +kernel, by decide +kernel⟩
theorem m_leading : mSs { tb with lm := false } n_leading (defScope s_leading) b_leading (defBody s_leading) = true := by decide +kernel
theorem c_leading : FnScope n_leading ["arrows", "end"] (defScope s_leading) := ⟨rfl, rfl, rfl, by decide +kernel, rfl, by decide +kernel, by decide +kernel⟩
theorem m_is_arrow : mSs { tb with lm := false } n_is_arrow (defScope s_is_arrow) b_is_arrow (defBody s_is_arrow) = true := by decide +kernel
theorem c_is_arrow : FnScope n_is_arrow ["many", "value"] (defScope s_is_arrow) := ⟨rfl, rfl, rfl, by decide +kernel, rfl, by decide +kernel, by decide +kernel⟩
theorem m_is_net : mSs { tb with lm := false } n_is_net (defScope s_is_net) b_is_net (defBody s_is_net) = true := by decide +kernel
theorem c_is_net : FnScope n_is_net ["value"] (defScope s_is_net) := ⟨rfl, rfl, rfl, by decide +kernel, rfl, by decide +kernel, by decide +kernel⟩
theorem m_need_net : mSs { tb with lm := false } n_need_net (defScope s_need_net) b_need_net (defBody s_need_net) = true := by decide +kernel
theorem c_need_net : FnScope n_need_net ["value"] (defScope s_need_net) := ⟨rfl, rfl, rfl, by decide +kernel, rfl, by decide +kernel, by decide +kernel⟩
theorem m_is_way_in : mSs { tb with lm := false } n_is_way_in (defScope s_is_way_in) b_is_way_in (defBody s_is_way_in) = true := by decide +kernel
theorem c_is_way_in : FnScope n_is_way_in ["net", "one", "other", "value"] (defScope s_is_way_in) := ⟨rfl, rfl, rfl, by decide +kernel, rfl, by decide +kernel, by decide +kernel⟩
theorem m_is_way : mSs { tb with lm := false } n_is_way (defScope s_is_way) b_is_way (defBody s_is_way) = true := by decide +kernel
theorem c_is_way : FnScope n_is_way ["net", "value"] (defScope s_is_way) := ⟨rfl, rfl, rfl, by decide +kernel, rfl, by decide +kernel, by decide +kernel⟩
theorem m__law_cup : mSs { tb with lm := false } n__law_cup (defScope s__law_cup) b__law_cup (defBody s__law_cup) = true := by decide +kernel
theorem c__law_cup : FnScope n__law_cup ["script"] (defScope s__law_cup) := ⟨rfl, rfl, rfl, by decide +kernel, rfl, by decide +kernel, by decide +kernel⟩
theorem m__law_roll : mSs { tb with lm := false } n__law_roll (defScope s__law_roll) b__law_roll (defBody s__law_roll) = true := by decide +kernel
theorem c__law_roll : FnScope n__law_roll ["cup", "many"] (defScope s__law_roll) := ⟨rfl, rfl, rfl, by decide +kernel, rfl, by decide +kernel, by decide +kernel⟩
theorem m__law_some : mSs { tb with lm := false } n__law_some (defScope s__law_some) b__law_some (defBody s__law_some) = true := by decide +kernel
theorem c__law_some : FnScope n__law_some ["cup", "things"] (defScope s__law_some) := ⟨rfl, rfl, rfl, by decide +kernel, rfl, by decide +kernel, by decide +kernel⟩
theorem m__law_sort : mSs { tb with lm := false } n__law_sort (defScope s__law_sort) b__law_sort (defBody s__law_sort) = true := by decide +kernel
theorem c__law_sort : FnScope n__law_sort ["value"] (defScope s__law_sort) := ⟨rfl, rfl, rfl, by decide +kernel, rfl, by decide +kernel, by decide +kernel⟩
theorem m__law_like : mSs { tb with lm := false } n__law_like (defScope s__law_like) b__law_like (defBody s__law_like) = true := by decide +kernel
theorem c__law_like : FnScope n__law_like ["one", "other"] (defScope s__law_like) := ⟨rfl, rfl, rfl, by decide +kernel, rfl, by decide +kernel, by decide +kernel⟩
theorem m__law_net : mSs { tb with lm := false } n__law_net (defScope s__law_net) b__law_net (defBody s__law_net) = true := by decide +kernel
theorem c__law_net : FnScope n__law_net ["cup", "most"] (defScope s__law_net) := ⟨rfl, rfl, rfl, by decide +kernel, rfl, by decide +kernel, by decide +kernel⟩
theorem m__law_ways : mSs { tb with lm := false } n__law_ways (defScope s__law_ways) b__law_ways (defBody s__law_ways) = true := by decide +kernel
theorem c__law_ways : FnScope n__law_ways ["net"] (defScope s__law_ways) := ⟨rfl, rfl, rfl, by decide +kernel, rfl, by decide +kernel, by decide +kernel⟩
theorem m__law_is_net : mSs { tb with lm := false } n__law_is_net (defScope s__law_is_net) b__law_is_net (defBody s__law_is_net) = true := by decide +kernel
theorem c__law_is_net : FnScope n__law_is_net ["many", "arrows"] (defScope s__law_is_net) := ⟨rfl, rfl, rfl, by decide +kernel, rfl, by decide +kernel, by decide +kernel⟩
theorem m__law_nets_right : mSs { tb with lm := false } n__law_nets_right (defScope s__law_nets_right) b__law_nets_right (defBody s__law_nets_right) = true := by decide +kernel
theorem c__law_nets_right : FnScope n__law_nets_right ["cup"] (defScope s__law_nets_right) := ⟨rfl, rfl, rfl, by decide +kernel, rfl, by decide +kernel, by decide +kernel⟩
theorem m__law_ways_right : mSs { tb with lm := false } n__law_ways_right (defScope s__law_ways_right) b__law_ways_right (defBody s__law_ways_right) = true := by decide +kernel
theorem c__law_ways_right : FnScope n__law_ways_right ["cup"] (defScope s__law_ways_right) := ⟨rfl, rfl, rfl, by decide +kernel, rfl, by decide +kernel, by decide +kernel⟩
theorem m__law_written_right : mSs { tb with lm := false } n__law_written_right (defScope s__law_written_right) b__law_written_right (defBody s__law_written_right) = true := by decide +kernel
theorem c__law_written_right : FnScope n__law_written_right [] (defScope s__law_written_right) := ⟨rfl, rfl, rfl, by decide +kernel, rfl, by decide +kernel, by decide +kernel⟩
theorem m__law_errors_right : mSs { tb with lm := true } n__law_errors_right (defScope s__law_errors_right) b__law_errors_right (defBody s__law_errors_right) = true := by decide +kernel
theorem c__law_errors_right : FnScope n__law_errors_right [] (defScope s__law_errors_right) := ⟨rfl, rfl, rfl, by decide +kernel, rfl, by decide +kernel, by decide +kernel⟩
theorem m_law : mSs { tb with lm := false } n_law (defScope s_law) b_law (defBody s_law) = true := by decide +kernel
theorem c_law : FnScope n_law ["script"] (defScope s_law) := ⟨rfl, rfl, rfl, by decide +kernel, rfl, by decide +kernel, by decide +kernel⟩
def s__law_error : Stmt := top 23
def cs0 : List (Option D) := [none, some (.str "net")]
theorem all_mk {l : PySem.W.OpenLaw} {w : World} {K : PySem.W.Frag} {h : Heap} {mg : Str → Option Value} {fa : Addr} (X : K.In h) (G : h.Ns mainGlobals mg) (hfa : mg "law" = some (.ref fa))
    (tabs : ∀ (y : Str) (c P : Addr), y ∈ [("_law_errors_right" : Str)] → PySem.W.tabIn K y = some (c, P) → PySem.W.CodeHd h c P ∧ h.get? P = some (PySem.W.tabObj #[]))
    {f0 f1 f2 f3 f4 f5 f6 f7 f8 f9 f10 f11 f12 f13 f14 f15 f16 f17 f18 f19 f20 f21 f22 f23 C0 C1 c21 P21 : Addr}
    {od0 an0 od1 an1 od2 an2 od3 an3 od4 an4 od5 an5 od6 an6 od7 an7 od8 an8 od9 an9 od10 an10 od11 an11 od12 an12 od13 an13 od14 an14 od15 an15 od16 an16 od17 an17 od18 an18 od19 an19 od20 an20 od21 an21 od22 an22 od23 an23 : Option Addr} {sl0 sl1 sl2 sl3 sl4 sl5 sl6 sl7 sl8 sl9 sl10 sl11 sl12 sl13 sl14 sl15 sl16 sl17 sl18 sl19 sl20 sl21 sl22 sl23 : Array (Option Value)} {oc0 kV0 dc0 pm0 cd0 ct0 oc1 kV1 dc1 pm1 cd1 ct1 oc2 kV2 dc2 pm2 cd2 ct2 oc3 kV3 dc3 pm3 cd3 ct3 oc4 kV4 dc4 pm4 cd4 ct4 oc5 kV5 dc5 pm5 cd5 ct5 oc6 kV6 dc6 pm6 cd6 ct6 oc7 kV7 dc7 pm7 cd7 ct7 oc8 kV8 dc8 pm8 cd8 ct8 oc9 kV9 dc9 pm9 cd9 ct9 oc10 kV10 dc10 pm10 cd10 ct10 oc11 kV11 dc11 pm11 cd11 ct11 oc12 kV12 dc12 pm12 cd12 ct12 oc13 kV13 dc13 pm13 cd13 ct13 oc14 kV14 dc14 pm14 cd14 ct14 oc15 kV15 dc15 pm15 cd15 ct15 oc16 kV16 dc16 pm16 cd16 ct16 oc17 kV17 dc17 pm17 cd17 ct17 oc18 kV18 dc18 pm18 cd18 ct18 oc19 kV19 dc19 pm19 cd19 ct19 oc20 kV20 dc20 pm20 cd20 ct20 oc21 kV21 dc21 pm21 cd21 ct21 oc22 kV22 dc22 pm22 cd22 ct22 oc23 kV23 dc23 pm23 cd23 ct23 : Value} {ce21 : Value} {cx21 : Option Addr} {vs21 : Array Value} {cy21 : Array (Option Value)} {tk0 tk1 : Tok}
    (a0 : PySem.W.nsIn K mainGlobals "is_number" = some (some (.ref f0)))
    (l0 : K.lookup f0 = some ⟨oc0, od0, .func (PySem.W.fnOf "is_number" "is_number" (defArgs s_is_number) (defBody s_is_number) (defScope s_is_number) .none kV0 dc0 pm0 an0 cd0 ct0), sl0⟩)
    (e0 : PySem.W.codeIn K cd0 "is_number" = true)
    (k0 : PySem.W.keepIn K (.ref f0) = true)
    (a1 : PySem.W.nsIn K mainGlobals "is_whole" = some (some (.ref f1)))
    (l1 : K.lookup f1 = some ⟨oc1, od1, .func (PySem.W.fnOf "is_whole" "is_whole" (defArgs s_is_whole) (defBody s_is_whole) (defScope s_is_whole) .none kV1 dc1 pm1 an1 cd1 ct1), sl1⟩)
    (e1 : PySem.W.codeIn K cd1 "is_whole" = true)
    (k1 : PySem.W.keepIn K (.ref f1) = true)
    (a2 : PySem.W.nsIn K mainGlobals "is_tuple_of" = some (some (.ref f2)))
    (l2 : K.lookup f2 = some ⟨oc2, od2, .func (PySem.W.fnOf "is_tuple_of" "is_tuple_of" (defArgs s_is_tuple_of) (defBody s_is_tuple_of) (defScope s_is_tuple_of) .none kV2 dc2 pm2 an2 cd2 ct2), sl2⟩)
    (e2 : PySem.W.codeIn K cd2 "is_tuple_of" = true)
    (k2 : PySem.W.keepIn K (.ref f2) = true)
    (a3 : PySem.W.nsIn K mainGlobals "reached" = some (some (.ref f3)))
    (l3 : K.lookup f3 = some ⟨oc3, od3, .func (PySem.W.fnOf "reached" "reached" (defArgs s_reached) (defBody s_reached) (defScope s_reached) .none kV3 dc3 pm3 an3 cd3 ct3), sl3⟩)
    (e3 : PySem.W.codeIn K cd3 "reached" = true)
    (k3 : PySem.W.keepIn K (.ref f3) = true)
    (a4 : PySem.W.nsIn K mainGlobals "leading" = some (some (.ref f4)))
    (l4 : K.lookup f4 = some ⟨oc4, od4, .func (PySem.W.fnOf "leading" "leading" (defArgs s_leading) (defBody s_leading) (defScope s_leading) .none kV4 dc4 pm4 an4 cd4 ct4), sl4⟩)
    (e4 : PySem.W.codeIn K cd4 "leading" = true)
    (k4 : PySem.W.keepIn K (.ref f4) = true)
    (a5 : PySem.W.nsIn K mainGlobals "is_arrow" = some (some (.ref f5)))
    (l5 : K.lookup f5 = some ⟨oc5, od5, .func (PySem.W.fnOf "is_arrow" "is_arrow" (defArgs s_is_arrow) (defBody s_is_arrow) (defScope s_is_arrow) .none kV5 dc5 pm5 an5 cd5 ct5), sl5⟩)
    (e5 : PySem.W.codeIn K cd5 "is_arrow" = true)
    (k5 : PySem.W.keepIn K (.ref f5) = true)
    (a6 : PySem.W.nsIn K mainGlobals "is_net" = some (some (.ref f6)))
    (l6 : K.lookup f6 = some ⟨oc6, od6, .func (PySem.W.fnOf "is_net" "is_net" (defArgs s_is_net) (defBody s_is_net) (defScope s_is_net) .none kV6 dc6 pm6 an6 cd6 ct6), sl6⟩)
    (e6 : PySem.W.codeIn K cd6 "is_net" = true)
    (k6 : PySem.W.keepIn K (.ref f6) = true)
    (a7 : PySem.W.nsIn K mainGlobals "need_net" = some (some (.ref f7)))
    (l7 : K.lookup f7 = some ⟨oc7, od7, .func (PySem.W.fnOf "need_net" "need_net" (defArgs s_need_net) (defBody s_need_net) (defScope s_need_net) .none kV7 dc7 pm7 an7 cd7 ct7), sl7⟩)
    (e7 : PySem.W.codeIn K cd7 "need_net" = true)
    (k7 : PySem.W.keepIn K (.ref f7) = true)
    (a8 : PySem.W.nsIn K mainGlobals "is_way_in" = some (some (.ref f8)))
    (l8 : K.lookup f8 = some ⟨oc8, od8, .func (PySem.W.fnOf "is_way_in" "is_way_in" (defArgs s_is_way_in) (defBody s_is_way_in) (defScope s_is_way_in) .none kV8 dc8 pm8 an8 cd8 ct8), sl8⟩)
    (e8 : PySem.W.codeIn K cd8 "is_way_in" = true)
    (k8 : PySem.W.keepIn K (.ref f8) = true)
    (a9 : PySem.W.nsIn K mainGlobals "is_way" = some (some (.ref f9)))
    (l9 : K.lookup f9 = some ⟨oc9, od9, .func (PySem.W.fnOf "is_way" "is_way" (defArgs s_is_way) (defBody s_is_way) (defScope s_is_way) .none kV9 dc9 pm9 an9 cd9 ct9), sl9⟩)
    (e9 : PySem.W.codeIn K cd9 "is_way" = true)
    (k9 : PySem.W.keepIn K (.ref f9) = true)
    (a10 : PySem.W.nsIn K mainGlobals "_law_cup" = some (some (.ref f10)))
    (l10 : K.lookup f10 = some ⟨oc10, od10, .func (PySem.W.fnOf "_law_cup" "_law_cup" (defArgs s__law_cup) (defBody s__law_cup) (defScope s__law_cup) .none kV10 dc10 pm10 an10 cd10 ct10), sl10⟩)
    (e10 : PySem.W.codeIn K cd10 "_law_cup" = true)
    (k10 : PySem.W.keepIn K (.ref f10) = true)
    (a11 : PySem.W.nsIn K mainGlobals "_law_roll" = some (some (.ref f11)))
    (l11 : K.lookup f11 = some ⟨oc11, od11, .func (PySem.W.fnOf "_law_roll" "_law_roll" (defArgs s__law_roll) (defBody s__law_roll) (defScope s__law_roll) .none kV11 dc11 pm11 an11 cd11 ct11), sl11⟩)
    (e11 : PySem.W.codeIn K cd11 "_law_roll" = true)
    (k11 : PySem.W.keepIn K (.ref f11) = true)
    (a12 : PySem.W.nsIn K mainGlobals "_law_some" = some (some (.ref f12)))
    (l12 : K.lookup f12 = some ⟨oc12, od12, .func (PySem.W.fnOf "_law_some" "_law_some" (defArgs s__law_some) (defBody s__law_some) (defScope s__law_some) .none kV12 dc12 pm12 an12 cd12 ct12), sl12⟩)
    (e12 : PySem.W.codeIn K cd12 "_law_some" = true)
    (k12 : PySem.W.keepIn K (.ref f12) = true)
    (a13 : PySem.W.nsIn K mainGlobals "_law_sort" = some (some (.ref f13)))
    (l13 : K.lookup f13 = some ⟨oc13, od13, .func (PySem.W.fnOf "_law_sort" "_law_sort" (defArgs s__law_sort) (defBody s__law_sort) (defScope s__law_sort) .none kV13 dc13 pm13 an13 cd13 ct13), sl13⟩)
    (e13 : PySem.W.codeIn K cd13 "_law_sort" = true)
    (k13 : PySem.W.keepIn K (.ref f13) = true)
    (a14 : PySem.W.nsIn K mainGlobals "_law_like" = some (some (.ref f14)))
    (l14 : K.lookup f14 = some ⟨oc14, od14, .func (PySem.W.fnOf "_law_like" "_law_like" (defArgs s__law_like) (defBody s__law_like) (defScope s__law_like) .none kV14 dc14 pm14 an14 cd14 ct14), sl14⟩)
    (e14 : PySem.W.codeIn K cd14 "_law_like" = true)
    (k14 : PySem.W.keepIn K (.ref f14) = true)
    (a15 : PySem.W.nsIn K mainGlobals "_law_net" = some (some (.ref f15)))
    (l15 : K.lookup f15 = some ⟨oc15, od15, .func (PySem.W.fnOf "_law_net" "_law_net" (defArgs s__law_net) (defBody s__law_net) (defScope s__law_net) .none kV15 dc15 pm15 an15 cd15 ct15), sl15⟩)
    (e15 : PySem.W.codeIn K cd15 "_law_net" = true)
    (k15 : PySem.W.keepIn K (.ref f15) = true)
    (a16 : PySem.W.nsIn K mainGlobals "_law_ways" = some (some (.ref f16)))
    (l16 : K.lookup f16 = some ⟨oc16, od16, .func (PySem.W.fnOf "_law_ways" "_law_ways" (defArgs s__law_ways) (defBody s__law_ways) (defScope s__law_ways) .none kV16 dc16 pm16 an16 cd16 ct16), sl16⟩)
    (e16 : PySem.W.codeIn K cd16 "_law_ways" = true)
    (k16 : PySem.W.keepIn K (.ref f16) = true)
    (a17 : PySem.W.nsIn K mainGlobals "_law_is_net" = some (some (.ref f17)))
    (l17 : K.lookup f17 = some ⟨oc17, od17, .func (PySem.W.fnOf "_law_is_net" "_law_is_net" (defArgs s__law_is_net) (defBody s__law_is_net) (defScope s__law_is_net) .none kV17 dc17 pm17 an17 cd17 ct17), sl17⟩)
    (e17 : PySem.W.codeIn K cd17 "_law_is_net" = true)
    (k17 : PySem.W.keepIn K (.ref f17) = true)
    (a18 : PySem.W.nsIn K mainGlobals "_law_nets_right" = some (some (.ref f18)))
    (l18 : K.lookup f18 = some ⟨oc18, od18, .func (PySem.W.fnOf "_law_nets_right" "_law_nets_right" (defArgs s__law_nets_right) (defBody s__law_nets_right) (defScope s__law_nets_right) .none kV18 dc18 pm18 an18 cd18 ct18), sl18⟩)
    (e18 : PySem.W.codeIn K cd18 "_law_nets_right" = true)
    (k18 : PySem.W.keepIn K (.ref f18) = true)
    (a19 : PySem.W.nsIn K mainGlobals "_law_ways_right" = some (some (.ref f19)))
    (l19 : K.lookup f19 = some ⟨oc19, od19, .func (PySem.W.fnOf "_law_ways_right" "_law_ways_right" (defArgs s__law_ways_right) (defBody s__law_ways_right) (defScope s__law_ways_right) .none kV19 dc19 pm19 an19 cd19 ct19), sl19⟩)
    (e19 : PySem.W.codeIn K cd19 "_law_ways_right" = true)
    (k19 : PySem.W.keepIn K (.ref f19) = true)
    (a20 : PySem.W.nsIn K mainGlobals "_law_written_right" = some (some (.ref f20)))
    (l20 : K.lookup f20 = some ⟨oc20, od20, .func (PySem.W.fnOf "_law_written_right" "_law_written_right" (defArgs s__law_written_right) (defBody s__law_written_right) (defScope s__law_written_right) .none kV20 dc20 pm20 an20 cd20 ct20), sl20⟩)
    (e20 : PySem.W.codeIn K cd20 "_law_written_right" = true)
    (k20 : PySem.W.keepIn K (.ref f20) = true)
    (a21 : PySem.W.nsIn K mainGlobals "_law_errors_right" = some (some (.ref f21)))
    (l21 : K.lookup f21 = some ⟨oc21, od21, .func (PySem.W.fnOf "_law_errors_right" "_law_errors_right" (defArgs s__law_errors_right) (defBody s__law_errors_right) (defScope s__law_errors_right) .none kV21 dc21 pm21 an21 cd21 ct21), sl21⟩)
    (e21 : PySem.W.codeIn K cd21 "_law_errors_right" = true)
    (k21 : PySem.W.keepIn K (.ref f21) = true)
    (a22 : PySem.W.nsIn K mainGlobals "law" = some (some (.ref f22)))
    (l22 : K.lookup f22 = some ⟨oc22, od22, .func (PySem.W.fnOf "law" "law" (defArgs s_law) (defBody s_law) (defScope s_law) .none kV22 dc22 pm22 an22 cd22 ct22), sl22⟩)
    (e22 : PySem.W.codeIn K cd22 "law" = true)
    (k22 : PySem.W.keepIn K (.ref f22) = true)
    (a23 : PySem.W.nsIn K mainGlobals "_law_error" = some (some (.ref f23)))
    (l23 : K.lookup f23 = some ⟨oc23, od23, .func (PySem.W.fnOf "_law_error" "_law_error" (defArgs s__law_error) (defBody s__law_error) (defScope s__law_error) .none kV23 dc23 pm23 an23 cd23 ct23), sl23⟩)
    (e23 : PySem.W.codeIn K cd23 "_law_error" = true)
    (k23 : PySem.W.keepIn K (.ref f23) = true)
    (z0 : PySem.W.nsIn K mainGlobals "len" = some none)
    (z1 : PySem.W.nsIn K mainGlobals "abs" = some none)
    (z2 : PySem.W.nsIn K mainGlobals "list" = some none)
    (z3 : PySem.W.nsIn K mainGlobals "tuple" = some none)
    (z4 : PySem.W.nsIn K mainGlobals "sorted" = some none)
    (z5 : PySem.W.nsIn K mainGlobals "int" = some none)
    (z6 : PySem.W.nsIn K mainGlobals "all" = some none)
    (z7 : PySem.W.nsIn K mainGlobals "isinstance" = some none)
    (z8 : PySem.W.nsIn K mainGlobals "bool" = some none)
    (z9 : PySem.W.nsIn K mainGlobals "str" = some none)
    (z10 : PySem.W.nsIn K mainGlobals "range" = some none)
    (z11 : PySem.W.nsIn K mainGlobals "zip" = some none)
    (z12 : PySem.W.nsIn K mainGlobals "enumerate" = some none)
    (gv0 : PySem.W.nsIn K mainGlobals "PLACES" = some (some (.int (12) tk0)))
    (gv1 : PySem.W.nsIn K mainGlobals "ARROWS" = some (some (.int (24) tk1)))
    (x0a : PySem.W.nsIn K mainGlobals "NetError" = some (some (.ref C0)))
    (x0e : PySem.W.excIn K C0 [.type "ValueError", .type "Exception", .type "BaseException", .type "object"] "ValueError.__new__" = true)
    (x0k : PySem.W.keepIn K (.ref C0) = true)
    (x0b : PySem.W.subIn K (.ref C0) (.type "BaseException") = some true)
    (x0t : PySem.W.typeIn K (.ref C0) = some (.type "type"))
    (x1a : PySem.W.nsIn K mainGlobals "InvalidNet" = some (some (.ref C1)))
    (x1e : PySem.W.excIn K C1 [.type "ValueError", .type "Exception", .type "BaseException", .type "object"] "ValueError.__new__" = true)
    (x1k : PySem.W.keepIn K (.ref C1) = true)
    (x1b : PySem.W.subIn K (.ref C1) (.type "BaseException") = some true)
    (x1t : PySem.W.typeIn K (.ref C1) = some (.type "type"))
    (u21 : cd21 = .ref c21)
    (v21 : K.lookup c21 = some ⟨ce21, cx21, .fields vs21, cy21⟩)
    (w21 : vs21[11]? = some (.ref P21))
    (np21 : K.lookup P21 = none)
    (hx1 : PySem.W.subIn K (.ref C1) (.ref C0) = some true)
    (hk1 : PySem.W.subIn K (.ref C1) (.ref C1) = some true)
    (hg1 : PySem.W.findIn K (.ref C1) "__getattribute__" = some (some (.builtin "BaseException.__getattribute__")))
    (hh1 : PySem.W.findIn K (.ref C1) "__getattr__" = some none)
    (hd1 : PySem.W.hasDictIn K C1 = true)
    (ha1 : PySem.W.findIn K (.ref C1) "__class__" = some (some (.builtin "object.__class__")))
    (hm1 : PySem.W.mroIn K C1 (.type "object") = some true)
    (hd0 : PySem.W.hasDictIn K C0 = true)
    (hn : PySem.W.specialIn K (.builtin "object.__class__") "__get__" = some (some (.builtin "getset_descriptor.__get__")))
    (ht : PySem.W.takesIn K (.builtin "object.__class__") = some true)
    (math : ∀ ns : List Int, ns.length ≤ 63 → ∀ e, ScD ns e → ∃ o S, callD prog 40 22 [e] [] = .ok (.bl true, o, S)) :
    LamX.LawAtS l w K (L2.CX l.prog w) (3 * 40) 63 "script" mg fa h := by
  have e := hfa.symm.trans (PySem.W.mg_of X G a22)
  cases e
  let g : Gx := { P := l.prog, w := w, K := K, mg := mg, fa := fun _ => 0, ca := fun c => [C0, C1].getD c 0, T := [(P21, ("_law_errors_right" : Str) ++ ".<locals>." ++ "<lambda>")] }
  have t21 : PySem.W.tabIn K "_law_errors_right" = some (c21, P21) := tabIn_mk a21 l21 u21 v21 w21
  have tt : ∀ p ∈ [(c21, P21)], PySem.W.CodeHd h p.1 p.2 ∧ h.get? p.2 = some (PySem.W.tabObj #[]) ∧ K.lookup p.2 = none := by
    intro p hp
    simp only [List.mem_cons, List.not_mem_nil, or_false] at hp
    rcases hp with rfl
    · obtain ⟨u1, u2⟩ := tabs "_law_errors_right" c21 P21 (by simp) t21; exact ⟨u1, u2, np21⟩
  refine lawAt (g := g) (fd := PySem.W.fnOf "law" "law" (defArgs s_law) (defBody s_law) (defScope s_law) .none kV22 dc22 pm22 an22 cd22 ct22) (T := tb) (p := prog) (cs := [(c21, P21)]) rfl rfl rfl rfl (by simp [g]) (fun p hp => (tt p hp).2.1) (fun p hp => (tt p hp).2.2) (fun p hp => (tt p hp).1) (fun s u => .of_eq rfl) (j := 22) (d := ⟨1, 3, b_law⟩) rfl rfl (fun base kb nb tb0 => ?_) math
  have D0 : DefOk g base tb ⟨1, 1, b_is_number⟩ "is_number" 1 f0 _ ["value"] := def_mk (N := n_is_number) s_is_number false l0 e0 k0 (PySem.W.mg_of X G a0) (fun _ _ _ _ _ _ us hl => match us, hl with | [_], _ => rfl) rfl rfl rfl c_is_number m_is_number (fun z => nomatch z)
  have D1 : DefOk g base tb ⟨3, 3, b_is_whole⟩ "is_whole" 3 f1 _ ["value", "low", "high"] := def_mk (N := n_is_whole) s_is_whole false l1 e1 k1 (PySem.W.mg_of X G a1) (fun _ _ _ _ _ _ us hl => match us, hl with | [_, _, _], _ => rfl) rfl rfl rfl c_is_whole m_is_whole (fun z => nomatch z)
  have D2 : DefOk g base tb ⟨3, 3, b_is_tuple_of⟩ "is_tuple_of" 3 f2 _ ["value", "low", "high"] := def_mk (N := n_is_tuple_of) s_is_tuple_of false l2 e2 k2 (PySem.W.mg_of X G a2) (fun _ _ _ _ _ _ us hl => match us, hl with | [_, _, _], _ => rfl) rfl rfl rfl c_is_tuple_of m_is_tuple_of (fun z => nomatch z)
  have D3 : DefOk g base tb ⟨2, 5, b_reached⟩ "reached" 2 f3 _ ["arrows", "start"] := def_mk (N := n_reached) s_reached false l3 e3 k3 (PySem.W.mg_of X G a3) (fun _ _ _ _ _ _ us hl => match us, hl with | [_, _], _ => rfl) rfl rfl rfl c_reached m_reached (fun z => nomatch z)
  have D4 : DefOk g base tb ⟨2, 5, b_leading⟩ "leading" 2 f4 _ ["arrows", "end"] := def_mk (N := n_leading) s_leading false l4 e4 k4 (PySem.W.mg_of X G a4) (fun _ _ _ _ _ _ us hl => match us, hl with | [_, _], _ => rfl) rfl rfl rfl c_leading m_leading (fun z => nomatch z)
  have D5 : DefOk g base tb ⟨2, 3, b_is_arrow⟩ "is_arrow" 2 f5 _ ["many", "value"] := def_mk (N := n_is_arrow) s_is_arrow false l5 e5 k5 (PySem.W.mg_of X G a5) (fun _ _ _ _ _ _ us hl => match us, hl with | [_, _], _ => rfl) rfl rfl rfl c_is_arrow m_is_arrow (fun z => nomatch z)
  have D6 : DefOk g base tb ⟨1, 6, b_is_net⟩ "is_net" 1 f6 _ ["value"] := def_mk (N := n_is_net) s_is_net false l6 e6 k6 (PySem.W.mg_of X G a6) (fun _ _ _ _ _ _ us hl => match us, hl with | [_], _ => rfl) rfl rfl rfl c_is_net m_is_net (fun z => nomatch z)
  have D7 : DefOk g base tb ⟨1, 1, b_need_net⟩ "need_net" 1 f7 _ ["value"] := def_mk (N := n_need_net) s_need_net false l7 e7 k7 (PySem.W.mg_of X G a7) (fun _ _ _ _ _ _ us hl => match us, hl with | [_], _ => rfl) rfl rfl rfl c_need_net m_need_net (fun z => nomatch z)
  have D8 : DefOk g base tb ⟨4, 6, b_is_way_in⟩ "is_way_in" 4 f8 _ ["net", "one", "other", "value"] := def_mk (N := n_is_way_in) s_is_way_in false l8 e8 k8 (PySem.W.mg_of X G a8) (fun _ _ _ _ _ _ us hl => match us, hl with | [_, _, _, _], _ => rfl) rfl rfl rfl c_is_way_in m_is_way_in (fun z => nomatch z)
  have D9 : DefOk g base tb ⟨2, 2, b_is_way⟩ "is_way" 2 f9 _ ["net", "value"] := def_mk (N := n_is_way) s_is_way false l9 e9 k9 (PySem.W.mg_of X G a9) (fun _ _ _ _ _ _ us hl => match us, hl with | [_, _], _ => rfl) rfl rfl rfl c_is_way m_is_way (fun z => nomatch z)
  have D10 : DefOk g base tb ⟨1, 2, b__law_cup⟩ "_law_cup" 1 f10 _ ["script"] := def_mk (N := n__law_cup) s__law_cup false l10 e10 k10 (PySem.W.mg_of X G a10) (fun _ _ _ _ _ _ us hl => match us, hl with | [_], _ => rfl) rfl rfl rfl c__law_cup m__law_cup (fun z => nomatch z)
  have D11 : DefOk g base tb ⟨2, 3, b__law_roll⟩ "_law_roll" 2 f11 _ ["cup", "many"] := def_mk (N := n__law_roll) s__law_roll false l11 e11 k11 (PySem.W.mg_of X G a11) (fun _ _ _ _ _ _ us hl => match us, hl with | [_, _], _ => rfl) rfl rfl rfl c__law_roll m__law_roll (fun z => nomatch z)
  have D12 : DefOk g base tb ⟨2, 2, b__law_some⟩ "_law_some" 2 f12 _ ["cup", "things"] := def_mk (N := n__law_some) s__law_some false l12 e12 k12 (PySem.W.mg_of X G a12) (fun _ _ _ _ _ _ us hl => match us, hl with | [_, _], _ => rfl) rfl rfl rfl c__law_some m__law_some (fun z => nomatch z)
  have D13 : DefOk g base tb ⟨1, 1, b__law_sort⟩ "_law_sort" 1 f13 _ ["value"] := def_mk (N := n__law_sort) s__law_sort false l13 e13 k13 (PySem.W.mg_of X G a13) (fun _ _ _ _ _ _ us hl => match us, hl with | [_], _ => rfl) rfl rfl rfl c__law_sort m__law_sort (fun z => nomatch z)
  have D14 : DefOk g base tb ⟨2, 5, b__law_like⟩ "_law_like" 2 f14 _ ["one", "other"] := def_mk (N := n__law_like) s__law_like false l14 e14 k14 (PySem.W.mg_of X G a14) (fun _ _ _ _ _ _ us hl => match us, hl with | [_, _], _ => rfl) rfl rfl rfl c__law_like m__law_like (fun z => nomatch z)
  have D15 : DefOk g base tb ⟨2, 8, b__law_net⟩ "_law_net" 2 f15 _ ["cup", "most"] := def_mk (N := n__law_net) s__law_net false l15 e15 k15 (PySem.W.mg_of X G a15) (fun _ _ _ _ _ _ us hl => match us, hl with | [_, _], _ => rfl) rfl rfl rfl c__law_net m__law_net (fun z => nomatch z)
  have D16 : DefOk g base tb ⟨1, 9, b__law_ways⟩ "_law_ways" 1 f16 _ ["net"] := def_mk (N := n__law_ways) s__law_ways false l16 e16 k16 (PySem.W.mg_of X G a16) (fun _ _ _ _ _ _ us hl => match us, hl with | [_], _ => rfl) rfl rfl rfl c__law_ways m__law_ways (fun z => nomatch z)
  have D17 : DefOk g base tb ⟨2, 6, b__law_is_net⟩ "_law_is_net" 2 f17 _ ["many", "arrows"] := def_mk (N := n__law_is_net) s__law_is_net false l17 e17 k17 (PySem.W.mg_of X G a17) (fun _ _ _ _ _ _ us hl => match us, hl with | [_, _], _ => rfl) rfl rfl rfl c__law_is_net m__law_is_net (fun z => nomatch z)
  have D18 : DefOk g base tb ⟨1, 12, b__law_nets_right⟩ "_law_nets_right" 1 f18 _ ["cup"] := def_mk (N := n__law_nets_right) s__law_nets_right false l18 e18 k18 (PySem.W.mg_of X G a18) (fun _ _ _ _ _ _ us hl => match us, hl with | [_], _ => rfl) rfl rfl rfl c__law_nets_right m__law_nets_right (fun z => nomatch z)
  have D19 : DefOk g base tb ⟨1, 9, b__law_ways_right⟩ "_law_ways_right" 1 f19 _ ["cup"] := def_mk (N := n__law_ways_right) s__law_ways_right false l19 e19 k19 (PySem.W.mg_of X G a19) (fun _ _ _ _ _ _ us hl => match us, hl with | [_], _ => rfl) rfl rfl rfl c__law_ways_right m__law_ways_right (fun z => nomatch z)
  have D20 : DefOk g base tb ⟨0, 6, b__law_written_right⟩ "_law_written_right" 0 f20 _ [] := def_mk (N := n__law_written_right) s__law_written_right false l20 e20 k20 (PySem.W.mg_of X G a20) (fun _ _ _ _ _ _ us hl => match us, hl with | [], _ => rfl) rfl rfl rfl c__law_written_right m__law_written_right (fun z => nomatch z)
  have cd21e : cd21 = .ref c21 := u21
  have D21 : DefOk g base tb ⟨0, 2, b__law_errors_right⟩ "_law_errors_right" 0 f21 _ [] := def_mk (N := n__law_errors_right) s__law_errors_right true l21 e21 k21 (PySem.W.mg_of X G a21) (fun _ _ _ _ _ _ us hl => match us, hl with | [], _ => rfl) rfl rfl rfl c__law_errors_right m__law_errors_right (fun _ => ⟨c21, P21, cd21e, tb0 _ List.mem_cons_self, List.mem_cons_self, fun p hp e => (List.mem_cons.mp hp).elim (fun hp => by subst hp; rfl) fun hp => (List.not_mem_nil hp).elim⟩)
  have D22 : DefOk g base tb ⟨1, 3, b_law⟩ "law" 1 fa _ ["script"] := def_mk (N := n_law) s_law false l22 e22 k22 (PySem.W.mg_of X G a22) (fun _ _ _ _ _ _ us hl => match us, hl with | [_], _ => rfl) rfl rfl rfl c_law m_law (fun z => nomatch z)
  refine ⟨⟨DefsOk.get (.cons D0 (.cons D1 (.cons D2 (.cons D3 (.cons D4 (.cons D5 (.cons D6 (.cons D7 (.cons D8 (.cons D9 (.cons D10 (.cons D11 (.cons D12 (.cons D13 (.cons D14 (.cons D15 (.cons D16 (.cons D17 (.cons D18 (.cons D19 (.cons D20 (.cons D21 (.cons D22 (.nil)))))))))))))))))))))))), AllN.get ⟨PySem.W.mg_none_of X G z0, PySem.W.mg_none_of X G z1, PySem.W.mg_none_of X G z2, PySem.W.mg_none_of X G z3, PySem.W.mg_none_of X G z4, PySem.W.mg_none_of X G z5, PySem.W.mg_none_of X G z6, PySem.W.mg_none_of X G z7, PySem.W.mg_none_of X G z8, PySem.W.mg_none_of X G z9, PySem.W.mg_none_of X G z10, PySem.W.mg_none_of X G z11, PySem.W.mg_none_of X G z12, trivial⟩, AllG.get ⟨⟨_, _, rfl, PySem.W.mg_of X G gv0⟩, ⟨_, _, rfl, PySem.W.mg_of X G gv1⟩, trivial⟩, AllC.cl ⟨⟨x0e, PySem.W.mg_of X G x0a, x0k, x0b, x0t⟩, ⟨x1e, PySem.W.mg_of X G x1a, x1k, x1b, x1t⟩, trivial⟩, ?_⟩, D22⟩
  intro X1 h1 h2 h3 h4 h5 j x hj
  match j, hj with
  | 0, hj =>
    cases hj
    refine ⟨⟨some (.str "none"), cs0⟩, rfl, "call", f23, oc23, od23, sl23, _, _, _, .none, kV23, dc23, pm23, an23, cd23, ct23, ["call", "e"], by rw [h4]; exact PySem.W.mg_of X G a23, by rw [h3]; exact k23, by rw [h3]; exact l23, by rw [h3]; exact e23, .all fun us hl => (match us, hl with | [_], _ => rfl), ⟨rfl, rfl, rfl, by decide +kernel, rfl, by decide +kernel, by decide +kernel⟩, rfl, .inl rfl, rfl, rfl, ?_, ?_, fun qq => ?_⟩
    · intro c d hc
      match c, hc with
      | 0, hc => cases hc
      | 1, hc => cases hc; rfl
      | c + 2, hc => simp [cs0] at hc
    · intro d hd; cases hd; rfl
    · refine gives_A (sg := defScope s__law_error) (Ng := ["call", "e"]) (i := 1) ⟨fun c d hc => ?_⟩ (by decide +kernel) rfl rfl rfl rfl (by rw [h4]; exact PySem.W.mg_of X G x0a) rfl rfl (by rw [h4]; exact PySem.W.mg_none_of X G z7) rfl (by rw [h4]; exact PySem.W.mg_of X G x1a) rfl rfl rfl
      rw [h3]
      match c, hc with
      | 0, hc => cases hc
      | 1, hc => cases hc; exact ⟨PySem.W.exm_ref x0b hd0 x0t hx1, ⟨hg1, hh1, x1b, hd1, ha1, hn, ht, hm1⟩, _, kit_ref hd1 x1t hk1 (fun z => rfl), rfl⟩
      | c + 2, hc => simp [cs0] at hc
  | j + 1, hj => simp [tb] at hj
end K00
open PySem PySem.W PyProof.Rows
set_option maxRecDepth 100000 in
set_option maxHeartbeats 0 in
theorem PySem.Challenge.cw_fillsalike_k00_whole_nets_and_ways_holds : PySem.Challenge.rw_fillsalike_k00_whole_nets_and_ways.Holds := by
  w_on; o_law; k_head; (case hw => w_witness2)
  k_fill
  refine Pz.walk_pz (l := PySem.Challenge.rw_fillsalike_k00_whole_nets_and_ways) (n := 63) (k := 3 * 40) (x := "script") (CX := fun w => L2.CX PySem.Challenge.rw_fillsalike_k00_whole_nets_and_ways.prog w) rfl (by decide) rfl ⟨rfl, by decide, by decide⟩ (fun w h Y => by first | exact PySem.W.kIn_of Y | exact PySem.W.km_in_of Y) ?F ?hCX
  case hCX => exact fun w H s e s' z => by obtain ⟨_, _, _, _, _, _, _, _, _, _, _, _, z⟩ := z; exact z
  case F =>
    intro w mg fa h Y KX G hmg htab
    refine' K00.all_mk KX G hmg ?tabs ?a0 ?l0 ?e0 ?k0 ?a1 ?l1 ?e1 ?k1 ?a2 ?l2 ?e2 ?k2 ?a3 ?l3 ?e3 ?k3 ?a4 ?l4 ?e4 ?k4 ?a5 ?l5 ?e5 ?k5 ?a6 ?l6 ?e6 ?k6 ?a7 ?l7 ?e7 ?k7 ?a8 ?l8 ?e8 ?k8 ?a9 ?l9 ?e9 ?k9 ?a10 ?l10 ?e10 ?k10 ?a11 ?l11 ?e11 ?k11 ?a12 ?l12 ?e12 ?k12 ?a13 ?l13 ?e13 ?k13 ?a14 ?l14 ?e14 ?k14 ?a15 ?l15 ?e15 ?k15 ?a16 ?l16 ?e16 ?k16 ?a17 ?l17 ?e17 ?k17 ?a18 ?l18 ?e18 ?k18 ?a19 ?l19 ?e19 ?k19 ?a20 ?l20 ?e20 ?k20 ?a21 ?l21 ?e21 ?k21 ?a22 ?l22 ?e22 ?k22 ?a23 ?l23 ?e23 ?k23 ?z0 ?z1 ?z2 ?z3 ?z4 ?z5 ?z6 ?z7 ?z8 ?z9 ?z10 ?z11 ?z12 ?gv0 ?gv1 ?x0a ?x0e ?x0k ?x0b ?x0t ?x1a ?x1e ?x1k ?x1b ?x1t ?u21 ?v21 ?w21 ?np21 ?hx1 ?hk1 ?hg1 ?hh1 ?hd1 ?ha1 ?hm1 ?hd0 ?hn ?ht ?math
    (case tabs => exact fun y c P hy ht => htab y c P (by simp only [List.mem_cons, List.not_mem_nil, or_false] at hy; subst hy; decide +kernel) ht)
    (case a0 => k_is)
    (case l0 => k_is)
    (case e0 => k_is)
    (case k0 => k_is)
    (case a1 => k_is)
    (case l1 => k_is)
    (case e1 => k_is)
    (case k1 => k_is)
    (case a2 => k_is)
    (case l2 => k_is)
    (case e2 => k_is)
    (case k2 => k_is)
    (case a3 => k_is)
    (case l3 => k_is)
    (case e3 => k_is)
    (case k3 => k_is)
    (case a4 => k_is)
    (case l4 => k_is)
    (case e4 => k_is)
    (case k4 => k_is)
    (case a5 => k_is)
    (case l5 => k_is)
    (case e5 => k_is)
    (case k5 => k_is)
    (case a6 => k_is)
    (case l6 => k_is)
    (case e6 => k_is)
    (case k6 => k_is)
    (case a7 => k_is)
    (case l7 => k_is)
    (case e7 => k_is)
    (case k7 => k_is)
    (case a8 => k_is)
    (case l8 => k_is)
    (case e8 => k_is)
    (case k8 => k_is)
    (case a9 => k_is)
    (case l9 => k_is)
    (case e9 => k_is)
    (case k9 => k_is)
    (case a10 => k_is)
    (case l10 => k_is)
    (case e10 => k_is)
    (case k10 => k_is)
    (case a11 => k_is)
    (case l11 => k_is)
    (case e11 => k_is)
    (case k11 => k_is)
    (case a12 => k_is)
    (case l12 => k_is)
    (case e12 => k_is)
    (case k12 => k_is)
    (case a13 => k_is)
    (case l13 => k_is)
    (case e13 => k_is)
    (case k13 => k_is)
    (case a14 => k_is)
    (case l14 => k_is)
    (case e14 => k_is)
    (case k14 => k_is)
    (case a15 => k_is)
    (case l15 => k_is)
    (case e15 => k_is)
    (case k15 => k_is)
    (case a16 => k_is)
    (case l16 => k_is)
    (case e16 => k_is)
    (case k16 => k_is)
    (case a17 => k_is)
    (case l17 => k_is)
    (case e17 => k_is)
    (case k17 => k_is)
    (case a18 => k_is)
    (case l18 => k_is)
    (case e18 => k_is)
    (case k18 => k_is)
    (case a19 => k_is)
    (case l19 => k_is)
    (case e19 => k_is)
    (case k19 => k_is)
    (case a20 => k_is)
    (case l20 => k_is)
    (case e20 => k_is)
    (case k20 => k_is)
    (case a21 => k_is)
    (case l21 => k_is)
    (case e21 => k_is)
    (case k21 => k_is)
    (case a22 => k_is)
    (case l22 => k_is)
    (case e22 => k_is)
    (case k22 => k_is)
    (case a23 => k_is)
    (case l23 => k_is)
    (case e23 => k_is)
    (case k23 => k_is)
    (case z0 => k_is)
    (case z1 => k_is)
    (case z2 => k_is)
    (case z3 => k_is)
    (case z4 => k_is)
    (case z5 => k_is)
    (case z6 => k_is)
    (case z7 => k_is)
    (case z8 => k_is)
    (case z9 => k_is)
    (case z10 => k_is)
    (case z11 => k_is)
    (case z12 => k_is)
    (case gv0 => k_is)
    (case gv1 => k_is)
    (case x0a => k_is)
    (case x0e => k_exc)
    (case x0k => k_is)
    (case x0b => k_is)
    (case x0t => k_is)
    (case x1a => k_is)
    (case x1e => k_exc)
    (case x1k => k_is)
    (case x1b => k_is)
    (case x1t => k_is)
    (case u21 => exact rfl)
    (case v21 => k_is)
    (case w21 => exact rfl)
    (case np21 => first | kernel_rfl | rfl)
    (case hx1 => k_is)
    (case hk1 => k_is)
    (case hg1 => k_is)
    (case hh1 => k_is)
    (case hd1 => k_is)
    (case ha1 => k_is)
    (case hm1 => k_is)
    (case hd0 => k_is)
    (case hn => k_is)
    (case ht => k_is)
    (case math => exact K00.math)

