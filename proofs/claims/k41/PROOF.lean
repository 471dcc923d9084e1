import PyProof.Rows.All
import HandS.Conv
import HandS.ExcIs
import HandS.ForExc
import HandS.ForMost
import HandS.IsInst
import HandS.List
import HandS.More
import HandS.SetFor
import HandS.Strs
import HandS.Style
import HandS.TupAny
import HandS.TupMul
import HandS.Wide
import HandS.Zip
import KE.GoesEnum
import KE.GoesMore
import KE.GoesZip
import PyProof.SumWalkG
import PySem.Challenge.RW_joinplaces_k41_whole_drawn_papers
set_option Elab.async false
set_option linter.all false
set_option maxRecDepth 100000
/-! PV: a small language of pure code over plain data, its evaluator. -/
namespace PV
open PySem

/-- plain data; scr: the script's own list -/
inductive D where
  | non | bl (b : Bool) | int (i : Int) | str (s : Str) | lst (xs : List D) | tup (xs : List D) | scr (xs : List Int)
  deriving Inhabited

/-- none: no meaning here; an error: the class's name -/
abbrev M (α : Type) := Option (Except Str α)
def ok {α : Type} (a : α) : M α := some (.ok a)
def er {α : Type} (c : Str) : M α := some (.error c)
def mb {α β : Type} (x : M α) (f : α → M β) : M β :=
  match x with
  | some (.ok a) => f a
  | some (.error c) => some (.error c)
  | none => none
theorem mb_ok {α β : Type} (a : α) (f : α → M β) : mb (ok a) f = f a := rfl
theorem mb_some {α β : Type} (a : α) (f : α → M β) : mb (some (.ok a)) f = f a := rfl
theorem mb_er {α β : Type} (c : Str) (f : α → M β) : mb (er c : M α) f = er c := rfl
theorem mb_none {α β : Type} (f : α → M β) : mb (none : M α) f = none := rfl
/-- an option without an error -/
def op {α : Type} (x : Option α) : M α := x.map .ok

/-- where a value stands: shared for good; a new list that nobody holds; the list that slot i owns -/
inductive Tg where
  | sh | fr | sl (i : Nat)
  deriving DecidableEq
/-- a slot: empty, plain data, an own list -/
inductive Sl where
  | no | va (d : D) | ow (ds : List D)
  deriving Inhabited
abbrev Rho := List Sl

inductive BO where
  | add | sub | mul | fdiv | mod | pow | band
  deriving DecidableEq
inductive CO where
  | lt | le | gt | ge | eq | ne | isin | notin | isN | notN | isB | notB
  deriving DecidableEq
inductive Un where
  | len | tuple | list | sum | min | max | sorted | all | any | int | str | abs | neg | lenset | sortedset
  deriving DecidableEq
inductive Ty where
  | tuple | int | bool | str
  deriving DecidableEq

/-- expressions, and lists of them (nil, cons); rng1, rng2, zip, enum: what is walked -/
inductive ME where
  | var (i : Nat) | glo (x : Str) | kint (n : Int) | kstr (s : Str) | kbl (b : Bool) | knon
  | nil | cons (h t : ME)
  | tup (es : ME) | lst (es : ME)
  | bin (o : BO) (a b : ME) | cmp (o : CO) (a b : ME) | chain (o1 o2 : CO) (a b c : ME)
  | un (o : Un) (a : ME) | mm (mx : Bool) (a b : ME) | isi (t : Ty) (a : ME)
  | and (es : ME) | or (es : ME) | not (a : ME)
  | ix (a b : ME) | sl (a lo hi : ME) | noP | som (a : ME) | rev (a : ME)
  | call (f : Str) (es : ME) | callB (f : Str) (i : Nat) (es : ME) | callZ (f : Str) (i : Nat) (es : ME) | join (a b : ME)
  | rng1 (a : ME) | rng2 (a b : ME) | zip (a b : ME) | enum (a : ME) | walk (a : ME)
  | lrng1 (tu : Bool) (a : ME)
  | comp (elt : ME) (one : Bool) (tg : List Nat) (iter : ME) (cond : ME) (own : List Nat)
  deriving Inhabited

/-- statements, and blocks of them (nil, seq) -/
inductive MS where
  | nil | seq (s r : MS)
  | asg (i : Nat) (own : Bool) (e : ME)
  | unp (is : List Nat) (e : ME)
  | par (i j : Nat) (a b : ME)
  | app (i : Nat) (e : ME)
  | seti (i : Nat) (k e : ME)
  | ret (e : ME)
  | ife (c : ME) (a b : MS)
  | for_ (one : Bool) (tg : List Nat) (it : ME) (body : MS)
  | whil (c : ME) (body : MS)
  | rais (c : Str)
  deriving Inhabited

structure Tab where
  fn : Str → Option (List D → M D)
  co : Str → Option D
  ex : Str → Bool

/-! ### data -/
mutual
def D.eqv : D → D → Bool
  | .non, .non => true
  | .bl a, .bl b => a == b
  | .bl a, .int j => (if a then 1 else 0) == j
  | .int i, .bl b => i == (if b then 1 else 0)
  | .int i, .int j => i == j
  | .str x, .str y => x == y
  | .lst xs, .lst ys => D.eqvL xs ys
  | .tup xs, .tup ys => D.eqvL xs ys
  | _, _ => false
def D.eqvL : List D → List D → Bool
  | [], [] => true
  | x :: xs, y :: ys => D.eqv x y && D.eqvL xs ys
  | _, _ => false
end
mutual
def D.dep : D → Nat
  | .lst xs | .tup xs => D.depL xs + 1
  | _ => 0
def D.depL : List D → Nat
  | [] => 0
  | x :: xs => Nat.max (D.dep x) (D.depL xs)
end
mutual
/-- no script, texts that may be compared -/
def D.pln : D → Bool
  | .lst xs | .tup xs => D.plnL xs
  | .str s => PySem.PyData.strOk s
  | .scr _ => false
  | _ => true
def D.plnL : List D → Bool
  | [] => true
  | x :: xs => D.pln x && D.plnL xs
end
def D.fine (d : D) : Bool := D.pln d && decide (D.dep d ≤ 64)
def D.flat : D → Bool
  | .non | .bl _ | .int _ | .str _ => true
  | _ => false
def D.isNon : D → Bool
  | .non => true
  | _ => false
def D.ints : List D → Option (List Int)
  | [] => some []
  | .int i :: r => (D.ints r).map (i :: ·)
  | _ :: _ => none
def D.bls : List D → Option (List Bool)
  | [] => some []
  | .bl i :: r => (D.bls r).map (i :: ·)
  | _ :: _ => none

/-! ### operators -/
def top : Nat := 1000000
def cutL {α : Type} (xs : List α) (lo hi : Option Int) : List α := (xs.drop (HT.sIx xs.length 0 lo)).take (HT.sIx xs.length xs.length hi - HT.sIx xs.length 0 lo)
def bop : BO → D → D → Option (D × Tg)
  | .add, .int i, .int j => some (.int (i + j), .sh)
  | .add, .str i, .str j => if i.length + j.length ≤ top then some (.str (i ++ j), .sh) else none
  | .add, .tup i, .tup j => if i.length + j.length ≤ top then some (.tup (i ++ j), .sh) else none
  | .add, .lst i, .lst j => if i.length + j.length ≤ top then some (.lst (i ++ j), .fr) else none
  | .sub, .int i, .int j => some (.int (i - j), .sh)
  | .mul, .int i, .int j => if i.natAbs < 2 ^ 64 ∨ j.natAbs < 2 ^ 64 ∨ i.natAbs.log2 + j.natAbs.log2 < 1000000 then some (.int (i * j), .sh) else none
  | .mul, .lst i, .int j => if 0 ≤ j ∧ j ≤ 1000 ∧ i.length ≤ 1000 then some (.lst (List.replicate j.toNat i).flatten, .fr) else none
  | .mul, .tup i, .int j => if j = 1 then some (.tup i, .sh) else if 2 ≤ j ∧ j ≤ 1000 ∧ i.length ≤ 1000 ∧ i.isEmpty = false then some (.tup (List.replicate j.toNat i).flatten, .sh) else none
  | .fdiv, .int i, .int j => if 0 < j ∧ j.natAbs.log2 < 9000 then some (.int (i / j), .sh) else none
  | .mod, .int i, .int j => if 0 < j then some (.int (i % j), .sh) else none
  | .pow, .int i, .int j => if 0 ≤ j ∧ j ≤ 1000 ∧ i.natAbs < 2 ^ 64 then some (.int (i ^ j.toNat), .sh) else none
  | .band, .int i, .int j => some (.int (Builtin.bitAnd i j), .sh)
  | _, _, _ => none
def eqS : D → D → Bool
  | .non, .non => true
  | .bl a, .bl b => a == b
  | .bl a, .int b => (if a then 1 else 0) == b
  | .int a, .bl b => a == (if b then 1 else 0)
  | .int a, .int b => a == b
  | .str a, .str b => a == b
  | _, _ => false
def items : D → Option (List D)
  | .lst xs => some xs
  | .tup xs => some xs
  | .scr xs => some (xs.map .int)
  | _ => none
def inD (x : D) (c : D) : Option Bool :=
  match items c with
  | some xs => if x.flat && xs.all D.flat then some (xs.any fun y => eqS y x) else none
  | none => none
def cop : CO → D → D → Option Bool
  | .lt, .int i, .int j => some (decide (i < j))
  | .le, .int i, .int j => some (decide (i ≤ j))
  | .gt, .int i, .int j => some (decide (j < i))
  | .ge, .int i, .int j => some (decide (j ≤ i))
  | .eq, a, b => if a.fine && b.fine then some (D.eqv a b) else none
  | .ne, a, b => if a.fine && b.fine then some (!D.eqv a b) else none
  | .isin, a, b => inD a b
  | .notin, a, b => (inD a b).map (!·)
  | .isN, a, .non => some a.isNon
  | .notN, a, .non => some (!a.isNon)
  | .isB, .bl a, .bl b => some (decide (a = b))
  | .notB, .bl a, .bl b => some (!decide (a = b))
  | _, _, _ => none
def lstMin : List Int → Option Int
  | [] => none
  | x :: xs => some (xs.foldl (fun m y => if y < m then y else m) x)
def lstMax : List Int → Option Int
  | [] => none
  | x :: xs => some (xs.foldl (fun m y => if m < y then y else m) x)
def insI (x : Int) : List Int → List Int
  | [] => [x]
  | y :: ys => if x ≤ y then x :: y :: ys else y :: insI x ys
def sortI : List Int → List Int
  | [] => []
  | x :: xs => insI x (sortI xs)
def nubI : List Int → List Int
  | [] => []
  | x :: xs => if x ∈ xs then nubI xs else x :: nubI xs
def uop : Un → D → Option (D × Tg)
  | .len, .str s => if s.length ≤ top then some (.int s.length, .sh) else none
  | .len, d => (items d).map fun xs => (.int xs.length, .sh)
  | .tuple, .tup xs => some (.tup xs, .sh)
  | .tuple, .lst xs => some (.tup xs, .sh)
  | .list, .tup xs => some (.lst xs, .fr)
  | .list, .lst xs => some (.lst xs, .fr)
  | .sum, .lst xs => (D.ints xs).map fun ns => (.int ns.sum, .sh)
  | .sum, .tup xs => (D.ints xs).map fun ns => (.int ns.sum, .sh)
  | .min, .lst xs => ((D.ints xs).bind lstMin).map fun n => (.int n, .sh)
  | .max, .lst xs => ((D.ints xs).bind lstMax).map fun n => (.int n, .sh)
  | .all, .lst xs => (D.bls xs).map fun bs => (.bl (bs.all id), .sh)
  | .any, .lst xs => (D.bls xs).map fun bs => (.bl (bs.any id), .sh)
  | .int, .bl b => some (.int (if b then 1 else 0), .sh)
  | .int, .int i => some (.int i, .sh)
  | .str, .int i => if i.natAbs.log2 < 1920 then some (.str (toString i : String), .sh) else none
  | .abs, .int i => some (.int (if i < 0 then -i else i), .sh)
  | .neg, .int i => some (.int (-i), .sh)
  | .sorted, .lst xs => (D.ints xs).bind fun ns => if ns.length < 64 then some (.lst ((sortI ns).map .int), .fr) else none
  | .lenset, .lst xs => (D.ints xs).bind fun ns => if ns.length < 64 then some (.int (nubI ns).length, .sh) else none
  | .sortedset, .tup xs => (D.ints xs).bind fun ns => if ns.length < 64 then some (.lst ((sortI (nubI ns)).map .int), .fr) else none
  | .sortedset, .lst xs => (D.ints xs).bind fun ns => if ns.length < 64 then some (.lst ((sortI (nubI ns)).map .int), .fr) else none
  | _, _ => none
def D.strs : List D → Option (List Str)
  | [] => some []
  | .str i :: r => (D.strs r).map (i :: ·)
  | _ :: _ => none
def strO : D → Option Str
  | .str a => some a
  | _ => none
/-- sep.join(texts) -/
def joinD (a : Str) : D → Option (D × Tg)
  | .lst ds => (D.strs ds).bind fun ys => if (ys.map (·.length)).sum + ys.length * a.length ≤ top then some (.str (Str.join a ys), .sh) else none
  | _ => none
def flatL : D → Bool
  | .lst xs => xs.all D.flat
  | _ => false
def isiD : Ty → D → Option Bool
  | .tuple, .tup _ => some true
  | .int, .int _ => some true
  | .int, .bl _ => some true
  | .bool, .bl _ => some true
  | .str, .str _ => some true
  | _, .scr _ => none
  | _, _ => some false
def ixD (a b : D) : Option D :=
  match b with
  | .int i =>
    match a with
    | .lst xs => L2.atI xs i
    | .tup xs => L2.atI xs i
    | .scr xs => (L2.atI xs i).map .int
    | .str z => if z.length ≤ top then (L2.atI z.cps.toList i).map fun c => .str ⟨#[c]⟩ else none
    | _ => none
  | _ => none
def slD (a : D) (lo hi : Option Int) : Option (D × Tg) :=
  match a with
  | .lst xs => some (.lst (cutL xs lo hi), .fr)
  | .tup xs => some (.tup (cutL xs lo hi), .sh)
  | _ => none
def revD : D → Option (D × Tg)
  | .lst xs => some (.lst xs.reverse, .fr)
  | .tup xs => some (.tup xs.reverse, .sh)
  | _ => none
def mmD (mx : Bool) : D → D → Option D
  | .int i, .int j => some (.int (if mx then (if j > i then j else i) else (if j < i then j else i)))
  | _, _ => none

/-! ### the evaluator -/
def wipeR (ρ : Rho) : List Nat → Rho
  | [] => ρ
  | v :: vs => (wipeR ρ vs).set v .no
def setAll (ρ : Rho) : List Nat → List D → Option Rho
  | [], [] => some ρ
  | i :: is, d :: ds => setAll (ρ.set i (.va d)) is ds
  | _, _ => none
/-- a target: one name, or a tuple of names -/
def bindT (one : Bool) (tg : List Nat) (d : D) (ρ : Rho) : Option Rho :=
  match one, tg, d with
  | true, [i], d => some (ρ.set i (.va d))
  | false, tg, .tup ds => setAll ρ tg ds
  | _, _, _ => none
def compL (f : D → Option (Option D)) : List D → Option (List D)
  | [] => some []
  | d :: ds => (f d).bind fun x => (compL f ds).map fun r => match x with | some y => y :: r | none => r
/-- no error may leave -/
def nerr {α : Type} : M α → Option α
  | some (.ok a) => some a
  | _ => none
/-- what may be held on -/
def keep : D × Tg → M D
  | (d, .sh) => ok d
  | (d, .fr) => ok d
  | (_, .sl _) => none
def blM : D → M Bool
  | .bl b => ok b
  | _ => none
def intM : D → M Int
  | .int i => ok i
  | _ => none

mutual
def evE (Φ : Tab) : ME → Rho → M (D × Tg)
  | .var i, ρ => match ρ[i]? with
    | some (.va d) => ok (d, .sh)
    | some (.ow ds) => ok (.lst ds, .sl i)
    | _ => none
  | .glo x, _ => op ((Φ.co x).map fun d => (d, .sh))
  | .kint n, _ => ok (.int n, .sh)
  | .kstr s, _ => ok (.str s, .sh)
  | .kbl b, _ => ok (.bl b, .sh)
  | .knon, _ => ok (.non, .sh)
  | .tup es, ρ => mb (evA Φ es ρ) fun ds => if ds.length ≤ top then ok (.tup ds, .sh) else none
  | .lst es, ρ => mb (evA Φ es ρ) fun ds => if ds.length ≤ top then ok (.lst ds, .fr) else none
  | .bin o a b, ρ => mb (evE Φ a ρ) fun x => mb (evE Φ b ρ) fun y => op (bop o x.1 y.1)
  | .cmp o a b, ρ => mb (evE Φ a ρ) fun x => mb (evE Φ b ρ) fun y => op ((cop o x.1 y.1).map fun r => (.bl r, .sh))
  | .chain o1 o2 a b c, ρ => mb (evE Φ a ρ) fun x => mb (evE Φ b ρ) fun y => mb (op (cop o1 x.1 y.1)) fun r =>
      if r then mb (evE Φ c ρ) fun z => op ((cop o2 y.1 z.1).map fun r => (.bl r, .sh)) else ok (.bl false, .sh)
  | .un o a, ρ => mb (evE Φ a ρ) fun x => op (uop o x.1)
  | .mm mx a b, ρ => mb (evE Φ a ρ) fun x => mb (evE Φ b ρ) fun y => op ((mmD mx x.1 y.1).map fun d => (d, .sh))
  | .isi t a, ρ => mb (evE Φ a ρ) fun x => op ((isiD t x.1).map fun b => (.bl b, .sh))
  | .and es, ρ => mb (evAndV Φ es ρ) fun b => ok (.bl b, .sh)
  | .or es, ρ => mb (evOrV Φ es ρ) fun b => ok (.bl b, .sh)
  | .not a, ρ => mb (mb (evE Φ a ρ) fun u => blM u.1) fun b => ok (.bl (!b), .sh)
  | .ix a b, ρ => mb (evE Φ a ρ) fun x => mb (evE Φ b ρ) fun y => op ((ixD x.1 y.1).map fun d => (d, .sh))
  | .sl a lo hi, ρ => mb (evE Φ a ρ) fun x => mb (evP Φ lo ρ) fun l => mb (evP Φ hi ρ) fun h => op (slD x.1 l h)
  | .rev a, ρ => mb (evE Φ a ρ) fun x => op (revD x.1)
  | .call f es, ρ => match Φ.fn f with
    | some φ => mb (evA Φ es ρ) fun ds => mb (φ ds) fun d => ok (d, .sh)
    | none => none
  | .callB f i es, ρ => match Φ.fn f with
    | some φ => mb (op (match ρ[i]? with | some (.ow ds) => some ds | _ => none)) fun ds => if ds.all D.flat = false then
        mb (evA Φ es ρ) fun as => mb (φ (.lst ds :: as)) fun d => if flatL d = true then ok (d, .sh) else none else none
    | none => none
  | .callZ f i es, ρ => match Φ.fn f with
    | some φ => mb (op (match ρ[i]? with | some (.ow ds) => some ds | _ => none)) fun ds => mb (evA Φ es ρ) fun as => mb (φ (as ++ [.lst ds])) fun d => if d.flat = true then ok (d, .sh) else none
    | none => none
  | .join a b, ρ => mb (evE Φ a ρ) fun x => mb (op (strO x.1)) fun z => mb (evE Φ b ρ) fun y => op (joinD z y.1)
  | .lrng1 tu a, ρ => mb (evE Φ a ρ) fun x => mb (intM x.1) fun n => if n ≤ top ∧ 0 ≤ n then
      ok (if tu then (.tup ((List.range n.toNat).map fun i => .int (i : Nat)), .sh) else (.lst ((List.range n.toNat).map fun i => .int (i : Nat)), .fr)) else none
  | .comp elt one tg iter cond own, ρ => mb (evI Φ iter ρ) fun it =>
      if it.1.length ≤ top then
        op ((compL (fun d => (bindT one tg d (wipeR ρ own)).bind fun ρ' => (nerr (evT Φ cond ρ')).bind fun b =>
          if b then (nerr (mb (evE Φ elt ρ') keep)).map some else some none) it.1).map fun r => (.lst r, .fr)) else none
  | _, _ => none
termination_by structural m _ => m
/-- arguments, items: held on -/
def evA (Φ : Tab) : ME → Rho → M (List D)
  | .nil, _ => ok []
  | .cons h t, ρ => mb (mb (evE Φ h ρ) keep) fun d => mb (evA Φ t ρ) fun ds => ok (d :: ds)
  | _, _ => none
termination_by structural m _ => m
/-- tests -/
def evT (Φ : Tab) : ME → Rho → M Bool
  | .not a, ρ => mb (evT Φ a ρ) fun b => ok (!b)
  | .and es, ρ => evAnd Φ es ρ
  | .or es, ρ => evOr Φ es ρ
  | .var i, ρ => match ρ[i]? with
    | some (.va d) => blM d
    | _ => none
  | .kbl b, _ => ok b
  | .cmp o a b, ρ => mb (evE Φ a ρ) fun x => mb (evE Φ b ρ) fun y => op (cop o x.1 y.1)
  | .chain o1 o2 a b c, ρ => mb (evE Φ a ρ) fun x => mb (evE Φ b ρ) fun y => mb (op (cop o1 x.1 y.1)) fun r =>
      if r then mb (evE Φ c ρ) fun z => op (cop o2 y.1 z.1) else ok false
  | .isi t a, ρ => mb (evE Φ a ρ) fun x => op (isiD t x.1)
  | .call f es, ρ => match Φ.fn f with
    | some φ => mb (evA Φ es ρ) fun ds => mb (φ ds) blM
    | none => none
  | .callZ f i es, ρ => match Φ.fn f with
    | some φ => mb (op (match ρ[i]? with | some (.ow ds) => some ds | _ => none)) fun ds => mb (evA Φ es ρ) fun as => mb (φ (as ++ [.lst ds])) blM
    | none => none
  | .un o a, ρ => mb (evE Φ a ρ) fun x => mb (op (uop o x.1)) fun y => blM y.1
  | .knon, _ => ok true
  | .som c, ρ => evT Φ c ρ
  | _, _ => none
termination_by structural m _ => m
def evAnd (Φ : Tab) : ME → Rho → M Bool
  | .cons h t, ρ => match t with
    | .nil => evT Φ h ρ
    | t => mb (evT Φ h ρ) fun b => if b then evAnd Φ t ρ else ok false
  | _, _ => none
termination_by structural m _ => m
def evOr (Φ : Tab) : ME → Rho → M Bool
  | .cons h t, ρ => match t with
    | .nil => evT Φ h ρ
    | t => mb (evT Φ h ρ) fun b => if b then ok true else evOr Φ t ρ
  | _, _ => none
termination_by structural m _ => m
def evAndV (Φ : Tab) : ME → Rho → M Bool
  | .cons h t, ρ => match t with
    | .nil => mb (evE Φ h ρ) fun x => blM x.1
    | t => mb (mb (evE Φ h ρ) fun x => blM x.1) fun b => if b then evAndV Φ t ρ else ok false
  | _, _ => none
termination_by structural m _ => m
def evOrV (Φ : Tab) : ME → Rho → M Bool
  | .cons h t, ρ => match t with
    | .nil => mb (evE Φ h ρ) fun x => blM x.1
    | t => mb (mb (evE Φ h ρ) fun x => blM x.1) fun b => if b then ok true else evOrV Φ t ρ
  | _, _ => none
termination_by structural m _ => m
/-- a slice's part -/
def evP (Φ : Tab) : ME → Rho → M (Option Int)
  | .noP, _ => ok none
  | .som e, ρ => mb (evE Φ e ρ) fun x => mb (intM x.1) fun i => ok (some i)
  | _, _ => none
termination_by structural m _ => m
/-- what is walked -/
def evI (Φ : Tab) : ME → Rho → M (List D × Tg)
  | .rng1 a, ρ => mb (evE Φ a ρ) fun x => mb (intM x.1) fun n => if -1000000 ≤ n ∧ n ≤ 1000000 then ok ((List.range n.toNat).map fun i => .int (i : Nat), .sh) else none
  | .rng2 a b, ρ => mb (evE Φ a ρ) fun x => mb (evE Φ b ρ) fun y => mb (intM x.1) fun m => mb (intM y.1) fun n =>
      if -1000000 ≤ m ∧ m ≤ 1000000 ∧ -1000000 ≤ n ∧ n ≤ 1000000 then ok ((List.range (n - m).toNat).map fun i => .int (m + (i : Nat)), .sh) else none
  | .zip a b, ρ => mb (mb (evE Φ a ρ) keep) fun x => mb (mb (evE Φ b ρ) keep) fun y => mb (op (items x)) fun xs => mb (op (items y)) fun ys =>
      ok ((xs.zip ys).map fun p => .tup [p.1, p.2], .sh)
  | .enum a, ρ => mb (mb (evE Φ a ρ) keep) fun x => mb (op (items x)) fun xs => ok (xs.zipIdx.map fun p => .tup [.int (p.2 : Nat), p.1], .sh)
  | .walk e, ρ => mb (evE Φ e ρ) fun x => mb (op (items x.1)) fun xs => ok (xs, x.2)
  | _, _ => none
termination_by structural m _ => m
end

/-- how a block ends -/
inductive Fl where
  | nx (ρ : Rho) | rt (d : D)
def forL (bind : D → Rho → Option Rho) (body : Rho → M Fl) : List D → Rho → M Fl
  | [], ρ => ok (.nx ρ)
  | d :: ds, ρ => match bind d ρ with
    | some ρ1 => mb (body ρ1) fun f => match f with
      | .nx ρ2 => forL bind body ds ρ2
      | .rt r => ok (.rt r)
    | none => none
def whileL (test : Rho → M Bool) (body : Rho → M Fl) : Nat → Rho → M Fl
  | 0, _ => none
  | n + 1, ρ => mb (test ρ) fun b => if b then mb (body ρ) fun f => match f with
      | .nx ρ2 => whileL test body n ρ2
      | .rt r => ok (.rt r)
    else ok (.nx ρ)
def asgF (i : Nat) (own : Bool) (x : D × Tg) (ρ : Rho) : M Fl :=
  match own, x with
  | true, (.lst ds, .fr) => ok (.nx (ρ.set i (.ow ds)))
  | false, (d, .sh) => ok (.nx (ρ.set i (.va d)))
  | false, (d, .fr) => ok (.nx (ρ.set i (.va d)))
  | _, _ => none
def unpF (is : List Nat) (ρ : Rho) : D → M Fl
  | .tup ds => op ((setAll ρ is ds).map .nx)
  | _ => none
def ownOf (ρ : Rho) (i : Nat) : Option (List D) :=
  match ρ[i]? with
  | some (.ow ds) => some ds
  | _ => none
def appF (i : Nat) (ds : List D) (d : D) (ρ : Rho) : M Fl := if ds.length < top then ok (.nx (ρ.set i (.ow (ds ++ [d])))) else none
def setF (i : Nat) (ds : List D) (n : Int) (d : D) (ρ : Rho) : M Fl :=
  match L2.ixN ds.length n with
  | some j => ok (.nx (ρ.set i (.ow (ds.set j d))))
  | none => none
mutual
def evB (Φ : Tab) (wf : Nat) : MS → Rho → M Fl
  | .nil, ρ => ok (.nx ρ)
  | .seq s r, ρ => mb (evS Φ wf s ρ) fun f => match f with
    | .nx ρ' => evB Φ wf r ρ'
    | .rt d => ok (.rt d)
  | _, _ => none
termination_by structural m _ => m
def evS (Φ : Tab) (wf : Nat) : MS → Rho → M Fl
  | .asg i own e, ρ => mb (evE Φ e ρ) fun x => asgF i own x ρ
  | .unp is e, ρ => mb (mb (evE Φ e ρ) keep) fun d => unpF is ρ d
  | .par i j a b, ρ => mb (mb (evE Φ a ρ) keep) fun x => mb (mb (evE Φ b ρ) keep) fun y => ok (.nx ((ρ.set i (.va x)).set j (.va y)))
  | .app i e, ρ => mb (op (ownOf ρ i)) fun ds => mb (mb (evE Φ e ρ) keep) fun d => appF i ds d ρ
  | .seti i k e, ρ => mb (mb (evE Φ e ρ) keep) fun d => mb (op (ownOf ρ i)) fun ds => mb (mb (evE Φ k ρ) fun x => intM x.1) fun n => setF i ds n d ρ
  | .ret e, ρ => mb (evE Φ e ρ) fun x => ok (.rt x.1)
  | .ife c a b, ρ => mb (evT Φ c ρ) fun r => if r then evB Φ wf a ρ else evB Φ wf b ρ
  | .for_ one tg it body, ρ => mb (evI Φ it ρ) fun x => match x.2 with
    | .sl _ => none
    | _ => forL (bindT one tg) (fun ρ => evB Φ wf body ρ) x.1 ρ
  | .whil c body, ρ => whileL (fun ρ => evT Φ c ρ) (fun ρ => evB Φ wf body ρ) wf ρ
  | .rais c, _ => er c
  | _, _ => none
termination_by structural m _ => m
end

/-- a def: how many parameters, how many names, its body -/
structure MD where
  np : Nat
  nn : Nat
  body : MS
def runD (md : MD) (Φ : Tab) (wf : Nat) (args : List D) : M D :=
  if args.length = md.np then
    mb (evB Φ wf md.body (args.map Sl.va ++ List.replicate (md.nn - md.np) Sl.no)) fun f => match f with
      | .nx _ => ok .non
      | .rt d => ok d
  else none
end PV

set_option Elab.async false
set_option linter.all false
set_option maxRecDepth 100000
set_option maxHeartbeats 4000000
/-! PV: a tuple once. -/
namespace PV
open PySem PySem.Spec PyProof.Rows L2
theorem tup_once (l : Addr) (items : Array Value) (n : Nat) (dd : Option Addr) (sl : Array (Option Value)) (u : Tok) :
    Meets (Builtin.«tuple.__mul__» ⟨[.ref l, .int 1 u], []⟩) (fun _ R s => s.heap.get? l = some { cls := .type "tuple", dict := dd, data := .seq items n, slots := sl } ∧ R (.ok (.ret (Value.ref l))) s) :=
  .of_wp fun prog w A R s h => by
    obtain ⟨hp, g, d, tk, os⟩ := s
    obtain ⟨hl, h⟩ := h
    have f1 := AutoSeq1.idx_int
    wp_walk using wpAny_loadPart' hl
    exact ⟨_, rfl, h⟩
def rRepT1 (K : PySem.W.Frag) : R2 := fun x y H Q => ∃ l xs, x = .ref l ∧ y = .int 1 ∧ SqT K H l xs ∧ Q (.ref l) H
theorem op_repT1 {X : Cx} : OpR X (binaryOp .Mult) (rRepT1 X.K) := by
  intro pins s σ H x y v u Q I rx ry h
  obtain ⟨l, xs, rfl, rfl, hT, q⟩ := h
  cases rx
  obtain ⟨t, rfl⟩ := ry
  obtain ⟨its, r, ⟨⟨cls, dd, data, sl⟩, ho, hc, n, hd⟩, hs⟩ := I.tuple hT
  simp only at hc hd
  subst hc hd
  exact wpAny_binaryOp_repeat_ref (T := "tuple") (U := "int") (by decide) ⟨_, ho, rfl⟩ (fun s' => typeIs_int s' 1 t) noFill_tuple_mul F.fills_int_mul F.slot_int_rmul repeat_tuple F.slot_int_index.lookup
    (call_meets F.slot_int_rmul (typeIs_int s 1 t) F.entry_int_rmul (F.args_int_rmul_2 _ _) (int_rmul_tuple 1 t l its.toArray n dd sl)
      ⟨ho, rfl, ⟨_, ho, rfl⟩, call_meets F.slot_tuple_mul ⟨_, ho, rfl⟩ F.entry_tuple_mul (F.args_tuple_mul_2 _ _) (tup_once l its.toArray n dd sl t) ⟨ho, ⟨.ref l, H, I, rfl, q⟩⟩⟩)
end PV

set_option Elab.async false
set_option linter.all false
set_option maxRecDepth 100000
/-! PV: plain data in the abstract heap. -/
namespace PV
open PySem PySem.Spec PyProof.Rows L2
/-- the written part (the script may be one of its objects) -/
class ScrK where
  K : PySem.W.Frag
variable [ScrK]

mutual
inductive Rp (G : Hp) : V → D → Prop
  | non : Rp G .non .non
  | bl (b : Bool) : Rp G (.bl b) (.bl b)
  | int (i : Int) : Rp G (.int i) (.int i)
  | str (x : Str) : Rp G (.str x) (.str x)
  | lst {a : Addr} {xs : List V} {ds : List D} : G a = some (.lst xs) → RpL G xs ds → Rp G (.ref a) (.lst ds)
  | tup {a : Addr} {xs : List V} {ds : List D} : G a = some (.tup xs) → RpL G xs ds → Rp G (.ref a) (.tup ds)
  | scr {a : Addr} {ns : List Int} : SqL ScrK.K G a (ns.map V.int) → Rp G (.ref a) (.scr ns)
inductive RpL (G : Hp) : List V → List D → Prop
  | nil : RpL G [] []
  | cons {v : V} {vs : List V} {d : D} {ds : List D} : Rp G v d → RpL G vs ds → RpL G (v :: vs) (d :: ds)
end
mutual
theorem Rp.mono {G G' : Hp} (s : Same G G') : ∀ {d : D} {v : V}, Rp G v d → Rp G' v d
  | .non, _, h => by cases h; exact .non
  | .bl b, _, h => by cases h; exact .bl b
  | .int b, _, h => by cases h; exact .int b
  | .str b, _, h => by cases h; exact .str b
  | .lst ds, _, h => by cases h with | lst e r => exact .lst (s _ _ e) (RpL.mono s r)
  | .tup ds, _, h => by cases h with | tup e r => exact .tup (s _ _ e) (RpL.mono s r)
  | .scr ns, _, h => by cases h with | scr e => exact .scr (s.seq e)
theorem RpL.mono {G G' : Hp} (s : Same G G') : ∀ {ds : List D} {vs : List V}, RpL G vs ds → RpL G' vs ds
  | [], _, h => by cases h; exact .nil
  | d :: ds, _, h => by cases h with | cons a b => exact .cons (Rp.mono s a) (RpL.mono s b)
end
theorem RpL.length {G : Hp} : ∀ {ds : List D} {vs : List V}, RpL G vs ds → vs.length = ds.length
  | _, _, .nil => rfl
  | _, _, .cons _ t => by simp [RpL.length t]
theorem RpL.get {G : Hp} : ∀ {ds : List D} {vs : List V} {i : Nat} {v : V}, RpL G vs ds → vs[i]? = some v → ∃ d, ds[i]? = some d ∧ Rp G v d
  | _, _, _, _, .nil, e => by simp at e
  | _, _, 0, _, .cons r _, e => by simp at e; subst e; exact ⟨_, rfl, r⟩
  | _, _, i + 1, _, .cons _ t, e => by
    obtain ⟨d, h1, h2⟩ := RpL.get (i := i) t (by simpa using e)
    exact ⟨d, by simpa using h1, h2⟩
theorem RpL.get' {G : Hp} : ∀ {ds : List D} {vs : List V} {i : Nat} {d : D}, RpL G vs ds → ds[i]? = some d → ∃ v, vs[i]? = some v ∧ Rp G v d
  | _, _, _, _, .nil, e => by simp at e
  | _, _, 0, _, .cons r _, e => by simp at e; subst e; exact ⟨_, rfl, r⟩
  | _, _, i + 1, _, .cons _ t, e => by
    obtain ⟨d, h1, h2⟩ := RpL.get' (i := i) t (by simpa using e)
    exact ⟨d, by simpa using h1, h2⟩
theorem RpL.append {G : Hp} : ∀ {ds : List D} {vs : List V} {es : List D} {ws : List V}, RpL G vs ds → RpL G ws es → RpL G (vs ++ ws) (ds ++ es)
  | _, _, _, _, .nil, s => s
  | _, _, _, _, .cons r t, s => .cons r (RpL.append t s)
theorem RpL.take {G : Hp} : ∀ {ds : List D} {vs : List V} (n : Nat), RpL G vs ds → RpL G (vs.take n) (ds.take n)
  | _, _, 0, _ => .nil
  | _, _, _ + 1, .nil => .nil
  | _, _, n + 1, .cons r t => .cons r (RpL.take n t)
theorem RpL.drop {G : Hp} : ∀ {ds : List D} {vs : List V} (n : Nat), RpL G vs ds → RpL G (vs.drop n) (ds.drop n)
  | _, _, 0, r => r
  | _, _, _ + 1, .nil => .nil
  | _, _, n + 1, .cons _ t => RpL.drop n t
theorem RpL.reverse {G : Hp} : ∀ {ds : List D} {vs : List V}, RpL G vs ds → RpL G vs.reverse ds.reverse
  | _, _, .nil => .nil
  | _, _, .cons r t => by
    rw [List.reverse_cons, List.reverse_cons]
    exact RpL.append (RpL.reverse t) (.cons r .nil)
theorem RpL.set {G : Hp} {v : V} {d : D} (r : Rp G v d) : ∀ {ds : List D} {vs : List V} (i : Nat), RpL G vs ds → RpL G (vs.set i v) (ds.set i d)
  | _, _, _, .nil => .nil
  | _, _, 0, .cons _ t => .cons r t
  | _, _, i + 1, .cons q t => .cons q (RpL.set r i t)
theorem RpL.rep {G : Hp} {ds : List D} {vs : List V} (r : RpL G vs ds) : ∀ n : Nat, RpL G (List.replicate n vs).flatten (List.replicate n ds).flatten
  | 0 => .nil
  | n + 1 => by
    rw [List.replicate_succ, List.replicate_succ, List.flatten_cons, List.flatten_cons]
    exact RpL.append r (RpL.rep r n)
theorem RpL.ints {G : Hp} : ∀ {ds : List D} {vs : List V} {ns : List Int}, RpL G vs ds → D.ints ds = some ns → vs = ns.map V.int ∧ ds = ns.map D.int
  | _, _, _, .nil, e => by cases e; exact ⟨rfl, rfl⟩
  | .int i :: ds, _, ns, .cons r t, e => by
    cases r
    simp only [D.ints, Option.map_eq_some_iff] at e
    obtain ⟨ms, e1, e2⟩ := e
    subst e2
    obtain ⟨h1, h2⟩ := RpL.ints t e1
    exact ⟨by rw [h1]; rfl, by rw [h2]; rfl⟩
  | .non :: _, _, _, .cons _ _, e => by cases e
  | .bl _ :: _, _, _, .cons _ _, e => by cases e
  | .str _ :: _, _, _, .cons _ _, e => by cases e
  | .lst _ :: _, _, _, .cons _ _, e => by cases e
  | .tup _ :: _, _, _, .cons _ _, e => by cases e
  | .scr _ :: _, _, _, .cons _ _, e => by cases e
theorem RpL.bls {G : Hp} : ∀ {ds : List D} {vs : List V} {ns : List Bool}, RpL G vs ds → D.bls ds = some ns → vs = ns.map V.bl ∧ ds = ns.map D.bl
  | _, _, _, .nil, e => by cases e; exact ⟨rfl, rfl⟩
  | .bl i :: ds, _, ns, .cons r t, e => by
    cases r
    simp only [D.bls, Option.map_eq_some_iff] at e
    obtain ⟨ms, e1, e2⟩ := e
    subst e2
    obtain ⟨h1, h2⟩ := RpL.bls t e1
    exact ⟨by rw [h1]; rfl, by rw [h2]; rfl⟩
  | .non :: _, _, _, .cons _ _, e => by cases e
  | .int _ :: _, _, _, .cons _ _, e => by cases e
  | .str _ :: _, _, _, .cons _ _, e => by cases e
  | .lst _ :: _, _, _, .cons _ _, e => by cases e
  | .tup _ :: _, _, _, .cons _ _, e => by cases e
  | .scr _ :: _, _, _, .cons _ _, e => by cases e
theorem RpL.of_ints {G : Hp} : ∀ (ns : List Int), RpL G (ns.map V.int) (ns.map D.int)
  | [] => .nil
  | n :: ns => .cons (.int n) (RpL.of_ints ns)
theorem RpL.map_int {G : Hp} {α : Type} (f : α → Int) : ∀ (ns : List α), RpL G (ns.map fun i => V.int (f i)) (ns.map fun i => D.int (f i))
  | [] => .nil
  | n :: ns => .cons (.int (f n)) (RpL.map_int f ns)

/-! ### a state that grows -/
structure Ext (G H G' H' : Hp) : Prop where
  gg : Same G G'
  hh : Same H H'
  gh : Same G' H'
  old : ∀ b, H b ≠ none → G' b = G b
theorem Ext.refl {G H : Hp} (s : Same G H) : Ext G H G H := ⟨Same.refl _, Same.refl _, s, fun _ _ => rfl⟩
theorem Ext.trans {G H G1 H1 G2 H2 : Hp} (a : Ext G H G1 H1) (b : Ext G1 H1 G2 H2) : Ext G H G2 H2 :=
  ⟨a.gg.trans b.gg, a.hh.trans b.hh, b.gh, fun c hc => by
    have h1 : H1 c ≠ none := by
      intro e
      cases q : H c with
      | none => exact hc q
      | some o => rw [a.hh c o q] at e; cases e
    rw [b.old c h1, a.old c hc]⟩
theorem same_upd {H : Hp} {p : Addr} {o : HO} (h : H p = none) : Same H (upd H p o) := fun b x e => by
  rw [upd_ne (ne_of_none e h)]
  exact e
theorem same_upd2 {G H : Hp} {p : Addr} {o : HO} (s : Same G H) (h : G p = none) : Same G (upd H p o) := fun b x e => by
  rw [upd_ne (ne_of_none e h)]
  exact s b x e
theorem same_upd3 {G H : Hp} {p : Addr} {o : HO} (s : Same G H) : Same (upd G p o) (upd H p o) := fun b x e => by
  by_cases hb : b = p
  · subst hb; rw [upd_same] at e ⊢; exact e
  · rw [upd_ne hb] at e ⊢; exact s b x e
theorem same_updL {G H : Hp} {p : Addr} {o : HO} (s : Same G H) (h : H p = some o) : Same (upd G p o) H := fun b x e => by
  by_cases hb : b = p
  · subst hb; rw [upd_same] at e; cases e; exact h
  · rw [upd_ne hb] at e; exact s b x e
/-- a new object, shared for good -/
theorem Ext.shared {G H : Hp} {p : Addr} {o : HO} (s : Same G H) (h : H p = none) : Ext G H (upd G p o) (upd H p o) :=
  ⟨same_upd (s.free h), same_upd h, same_upd3 s, fun b hb => upd_ne fun e => hb (by rw [e]; exact h)⟩
/-- a new object, nobody's -/
theorem Ext.fresh {G H : Hp} {p : Addr} {o : HO} (s : Same G H) (h : H p = none) : Ext G H G (upd H p o) :=
  ⟨Same.refl _, same_upd h, same_upd2 s (s.free h), fun _ _ => rfl⟩
/-- a new object becomes shared -/
theorem Ext.freeze {G H G' H' : Hp} {p : Addr} {o : HO} (x : Ext G H G' H') (h0 : H p = none) (hg : G' p = none) (h : H' p = some o) : Ext G H (upd G' p o) H' :=
  ⟨x.gg.trans (same_upd hg), x.hh, same_updL x.gh h, fun b hb => by
    have hne : b ≠ p := fun e => hb (by rw [e]; exact h0)
    rw [upd_ne hne]
    exact x.old b hb⟩
theorem Ext.g_none {G H G' H' : Hp} (x : Ext G H G' H') {p : Addr} {o : HO} (h : H p = some o) (hg : G p = none) : G' p = none := by
  rw [x.old p (by rw [h]; exact fun e => nomatch e), hg]

/-! ### slots -/
/-- G0, H0: the def's entry; G: what is shared for good -/
structure SRel (G0 H0 G H : Hp) (σ : L2.St) (ρ : Rho) : Prop where
  ext : Ext G0 H0 G H
  len : σ.length = ρ.length
  va : ∀ (i : Nat) (d : D), ρ[i]? = some (.va d) → ∃ v, σ[i]? = some (some v) ∧ Rp G v d
  ow : ∀ (i : Nat) (ds : List D), ρ[i]? = some (.ow ds) → ∃ p vs, σ[i]? = some (some (.ref p)) ∧ H0 p = none ∧ G p = none ∧ H p = some (.lst vs) ∧ RpL G vs ds
  inj : ∀ (i j : Nat) (ds es : List D) (p : Addr), ρ[i]? = some (.ow ds) → ρ[j]? = some (.ow es) → σ[i]? = some (some (.ref p)) → σ[j]? = some (some (.ref p)) → i = j
theorem SRel.mono {G0 H0 G H G' H' : Hp} {σ : L2.St} {ρ : Rho} (s : SRel G0 H0 G H σ ρ) (x : Ext G H G' H') : SRel G0 H0 G' H' σ ρ :=
  ⟨s.ext.trans x, s.len, fun i d e => let ⟨v, h1, h2⟩ := s.va i d e; ⟨v, h1, h2.mono x.gg⟩,
   fun i ds e => let ⟨p, vs, h1, h2, h3, h4, h5⟩ := s.ow i ds e; ⟨p, vs, h1, h2, x.g_none h4 h3, x.hh _ _ h4, h5.mono x.gg⟩, s.inj⟩
theorem SRel.gh {G0 H0 G H : Hp} {σ : L2.St} {ρ : Rho} (s : SRel G0 H0 G H σ ρ) : Same G H := s.ext.gh

/-- how a value stands for data; Hs: where the evaluation began -/
inductive RV (Hs : Hp) (σ : L2.St) (ρ : Rho) (G H : Hp) : V → D × Tg → Prop
  | sh {v : V} {d : D} : Rp G v d → RV Hs σ ρ G H v (d, .sh)
  | fr {p : Addr} {vs : List V} {ds : List D} : Hs p = none → G p = none → H p = some (.lst vs) → RpL G vs ds → RV Hs σ ρ G H (.ref p) (.lst ds, .fr)
  | sl {i : Nat} {p : Addr} {vs : List V} {ds : List D} : ρ[i]? = some (.ow ds) → σ[i]? = some (some (.ref p)) → H p = some (.lst vs) → RpL G vs ds → RV Hs σ ρ G H (.ref p) (.lst ds, .sl i)
section
variable {Hs G H G' H' : Hp} {σ : L2.St} {ρ : Rho} {v : V} {t : Tg}
theorem RV.mono {x : D × Tg} (r : RV Hs σ ρ G H v x) (e : Ext G H G' H') : RV Hs σ ρ G' H' v x := by
  cases r with
  | sh r => exact .sh (r.mono e.gg)
  | fr h1 h2 h3 h4 => exact .fr h1 (e.g_none h3 h2) (e.hh _ _ h3) (h4.mono e.gg)
  | sl h1 h2 h3 h4 => exact .sl h1 h2 (e.hh _ _ h3) (h4.mono e.gg)
theorem RV.start {Hr : Hp} {x : D × Tg} (r : RV Hs σ ρ G H v x) (s : Same Hr Hs) : RV Hr σ ρ G H v x := by
  cases r with
  | sh r => exact .sh r
  | fr h1 h2 h3 h4 => exact .fr (s.free h1) h2 h3 h4
  | sl h1 h2 h3 h4 => exact .sl h1 h2 h3 h4
theorem RV.non (r : RV Hs σ ρ G H v (.non, t)) : v = .non := by
  cases r with | sh r => cases r; rfl
theorem RV.int {i : Int} (r : RV Hs σ ρ G H v (.int i, t)) : v = .int i := by
  cases r with | sh r => cases r; rfl
theorem RV.bl {i : Bool} (r : RV Hs σ ρ G H v (.bl i, t)) : v = .bl i := by
  cases r with | sh r => cases r; rfl
theorem RV.str {i : Str} (r : RV Hs σ ρ G H v (.str i, t)) : v = .str i := by
  cases r with | sh r => cases r; rfl
theorem RV.tup {ds : List D} (r : RV Hs σ ρ G H v (.tup ds, t)) : ∃ a xs, v = .ref a ∧ G a = some (.tup xs) ∧ RpL G xs ds ∧ t = .sh := by
  cases r with | sh r => cases r with | tup h1 h2 => exact ⟨_, _, rfl, h1, h2, rfl⟩
theorem RV.scr {ds : List Int} (r : RV Hs σ ρ G H v (.scr ds, t)) : ∃ a, v = .ref a ∧ SqL ScrK.K G a (ds.map V.int) ∧ t = .sh := by
  cases r with | sh r => cases r with | scr h1 => exact ⟨_, rfl, h1, rfl⟩
theorem RV.lst {ds : List D} (r : RV Hs σ ρ G H v (.lst ds, t)) (s : Same G H) : ∃ a xs, v = .ref a ∧ H a = some (.lst xs) ∧ RpL G xs ds := by
  cases r with
  | sh r => cases r with | lst h1 h2 => exact ⟨_, _, rfl, s _ _ h1, h2⟩
  | fr h1 h2 h3 h4 => exact ⟨_, _, rfl, h3, h4⟩
  | sl h1 h2 h3 h4 => exact ⟨_, _, rfl, h3, h4⟩
/-- its items, as they are read -/
theorem RV.items {d : D} {ds : List D} {K : PySem.W.Frag} (hK : K = ScrK.K) (r : RV Hs σ ρ G H v (d, t)) (s : Same G H) (e : items d = some ds) : ∃ a xs, v = .ref a ∧ (SqL K H a xs ∨ SqT K H a xs) ∧ RpL G xs ds := by
  cases d with
  | lst xs =>
    cases e
    obtain ⟨a, ys, rfl, h1, h2⟩ := r.lst s
    exact ⟨a, ys, rfl, .inl (SqL.of h1), h2⟩
  | tup xs =>
    cases e
    obtain ⟨a, ys, rfl, h1, h2, _⟩ := r.tup
    exact ⟨a, ys, rfl, .inr (SqT.of (s _ _ h1)), h2⟩
  | scr ns =>
    cases e
    obtain ⟨a, rfl, h1, _⟩ := r.scr
    exact ⟨a, _, rfl, .inl (by rw [hK]; exact s.seq h1), RpL.of_ints ns⟩
  | _ => cases e
theorem RV.kept {x : D × Tg} {d : D} (r : RV Hs σ ρ G H v x) (e : keep x = ok d) (y : Ext G' Hs G H) : ∃ G2, Ext G' Hs G2 H ∧ Rp G2 v d ∧ Same G G2 := by
  cases r with
  | sh r => cases e; exact ⟨G, y, r, Same.refl _⟩
  | fr h1 h2 h3 h4 =>
    cases e
    exact ⟨_, y.freeze h1 h2 h3, .lst upd_same (h4.mono (same_upd h2)), same_upd h2⟩
  | sl h1 h2 h3 h4 => cases e
end

/-! ### data as the library's own -/
mutual
def toPy : D → PyData
  | .non => .none
  | .bl b => .bool b
  | .int i => .int i
  | .str s => .str s
  | .lst xs => .list (toPyL xs)
  | .tup xs => .tuple (toPyL xs)
  | .scr _ => .dict []
def toPyL : List D → List PyData
  | [] => []
  | x :: xs => toPy x :: toPyL xs
end
mutual
theorem eqv_toPy : ∀ a b : D, D.pln a = true → D.pln b = true → PyData.eqv (toPy a) (toPy b) = D.eqv a b
  | .non, b, _, _ => by cases b <;> simp [toPy, PyData.eqv, D.eqv]
  | .bl _, b, _, _ => by cases b <;> simp [toPy, PyData.eqv, D.eqv]
  | .int _, b, _, _ => by cases b <;> simp [toPy, PyData.eqv, D.eqv]
  | .str _, b, _, _ => by cases b <;> simp [toPy, PyData.eqv, D.eqv]
  | .lst xs, b, ha, hb => by
    cases b with
    | lst ys =>
      simp only [toPy, PyData.eqv, D.eqv]
      exact eqvL_toPy xs ys (by simpa [D.pln] using ha) (by simpa [D.pln] using hb)
    | _ => simp [toPy, PyData.eqv, D.eqv]
  | .tup xs, b, ha, hb => by
    cases b with
    | tup ys =>
      simp only [toPy, PyData.eqv, D.eqv]
      exact eqvL_toPy xs ys (by simpa [D.pln] using ha) (by simpa [D.pln] using hb)
    | _ => simp [toPy, PyData.eqv, D.eqv]
  | .scr _, _, ha, _ => by cases ha
theorem eqvL_toPy : ∀ a b : List D, D.plnL a = true → D.plnL b = true → PyData.eqvAll (toPyL a) (toPyL b) = D.eqvL a b
  | [], b, _, _ => by cases b <;> simp [toPyL, PyData.eqvAll, D.eqvL]
  | x :: xs, [], _, _ => by simp [toPyL, PyData.eqvAll, D.eqvL]
  | x :: xs, y :: ys, ha, hb => by
    simp only [D.plnL, Bool.and_eq_true] at ha hb
    simp only [toPyL, PyData.eqvAll, D.eqvL]
    rw [eqv_toPy x y ha.1 hb.1, eqvL_toPy xs ys ha.2 hb.2]
end
mutual
theorem canLay_toPy : ∀ a : D, D.pln a = true → PyData.canLay0 (toPy a) = true
  | .non, _ => by simp [toPy, PyData.canLay0]
  | .bl _, _ => by simp [toPy, PyData.canLay0]
  | .int _, _ => by simp [toPy, PyData.canLay0]
  | .str _, h => by simpa [toPy, PyData.canLay0, D.pln] using h
  | .lst xs, h => by simp only [toPy, PyData.canLay0]; exact canLayL_toPy xs (by simpa [D.pln] using h)
  | .tup xs, h => by simp only [toPy, PyData.canLay0]; exact canLayL_toPy xs (by simpa [D.pln] using h)
  | .scr _, h => by cases h
theorem canLayL_toPy : ∀ a : List D, D.plnL a = true → PyData.canLayAll0 (toPyL a) = true
  | [], _ => by simp [toPyL, PyData.canLayAll0]
  | x :: xs, h => by
    simp only [D.plnL, Bool.and_eq_true] at h
    simp only [toPyL, PyData.canLayAll0, canLay_toPy x h.1, canLayL_toPy xs h.2, Bool.and_self]
end
mutual
theorem dep_toPy : ∀ a : D, PyData.depth (toPy a) = D.dep a ∨ D.pln a = false
  | .non => .inl (by simp [toPy, PyData.depth, D.dep])
  | .bl _ => .inl (by simp [toPy, PyData.depth, D.dep])
  | .int _ => .inl (by simp [toPy, PyData.depth, D.dep])
  | .str _ => .inl (by simp [toPy, PyData.depth, D.dep])
  | .lst xs => by
    simp only [toPy, PyData.depth, D.dep, D.pln]
    rcases depL_toPy xs with h | h
    · exact .inl (by rw [h])
    · exact .inr h
  | .tup xs => by
    simp only [toPy, PyData.depth, D.dep, D.pln]
    rcases depL_toPy xs with h | h
    · exact .inl (by rw [h])
    · exact .inr h
  | .scr _ => .inr rfl
theorem depL_toPy : ∀ a : List D, PyData.depthAll (toPyL a) = D.depL a ∨ D.plnL a = false
  | [] => .inl (by simp [toPyL, PyData.depthAll, D.depL])
  | x :: xs => by
    simp only [toPyL, PyData.depthAll, D.depL, D.plnL]
    rcases dep_toPy x with h | h
    · rcases depL_toPy xs with h2 | h2
      · exact .inl (by rw [h, h2])
      · exact .inr (by rw [h2, Bool.and_false])
    · exact .inr (by rw [h, Bool.false_and])
end
theorem shaped_of {d : D} (h : d.fine = true) : SeqAt.shaped (toPy d) = true := by
  unfold D.fine at h
  rw [Bool.and_eq_true] at h
  unfold SeqAt.shaped
  rw [Bool.and_eq_true]
  refine ⟨canLay_toPy d h.1, ?_⟩
  rcases dep_toPy d with q | q
  · rw [q]; exact h.2
  · rw [q] at h; cases h.1
mutual
theorem Rp.dp {K : PySem.W.Frag} {G H : Hp} (s : Same G H) : ∀ {d : D} {v : V}, D.pln d = true → Rp G v d → Dp K H v (toPy d)
  | .non, _, _, h => by cases h; simp only [toPy]; exact .non
  | .bl b, _, _, h => by cases h; simp only [toPy]; exact .bl b
  | .int b, _, _, h => by cases h; simp only [toPy]; exact .int b
  | .str b, _, _, h => by cases h; simp only [toPy]; exact .str b
  | .lst ds, _, p, h => by cases h with | lst e r => simp only [toPy]; exact .lst (SqL.of (s _ _ e)) (RpL.dp s (by simpa [D.pln] using p) r)
  | .tup ds, _, p, h => by cases h with | tup e r => simp only [toPy]; exact .tup (SqT.of (s _ _ e)) (RpL.dp s (by simpa [D.pln] using p) r)
  | .scr ns, _, p, h => by cases p
theorem RpL.dp {K : PySem.W.Frag} {G H : Hp} (s : Same G H) : ∀ {ds : List D} {vs : List V}, D.plnL ds = true → RpL G vs ds → DpAll K H vs (toPyL ds)
  | [], _, _, h => by cases h; simp only [toPyL]; exact .nil
  | d :: ds, _, p, h => by
    simp only [D.plnL, Bool.and_eq_true] at p
    cases h with | cons a b => simp only [toPyL]; exact .cons (Rp.dp s p.1 a) (RpL.dp s p.2 b)
end
theorem RV.dp {K : PySem.W.Frag} {Hs G H : Hp} {σ : L2.St} {ρ : Rho} {v : V} {d : D} {t : Tg} (r : RV Hs σ ρ G H v (d, t)) (s : Same G H) (f : d.fine = true) : Dp K H v (toPy d) := by
  have p : D.pln d = true := by unfold D.fine at f; rw [Bool.and_eq_true] at f; exact f.1
  cases r with
  | sh r => exact r.dp s p
  | fr h1 h2 h3 h4 => simp only [toPy]; exact .lst (SqL.of h3) (h4.dp s (by simpa [D.pln] using p))
  | sl h1 h2 h3 h4 => simp only [toPy]; exact .lst (SqL.of h3) (h4.dp s (by simpa [D.pln] using p))

/-! ### what is wanted behind an evaluation -/
/-- the class that a name of an error stands for -/
def Ec (mg : Str → Option Value) (c : Str) (cls : Value) : Prop := ∃ C, mg c = some (.ref C) ∧ cls = .ref C
def Err (mg : Str → Option Value) (G0 H0 : Hp) (E : XK) (c : Str) : Prop := ∀ G' H', Ext G0 H0 G' H' → ∀ cls, Ec mg c cls → E cls none H'
def PM {α : Type} (Er : Str → Prop) (G H : Hp) (m : M α) (k : α → Hp → Hp → Prop) : Prop :=
  match m with
  | some (.ok a) => ∀ G' H', Ext G H G' H' → k a G' H'
  | some (.error c) => Er c
  | none => False
section
variable {α β : Type} {Er : Str → Prop} {G H : Hp} {m : M α} {k k' : α → Hp → Hp → Prop}
theorem PM.bind {f : α → M β} {k : β → Hp → Hp → Prop} (h : PM Er G H (mb m f) k) : PM Er G H m (fun a G1 H1 => PM Er G1 H1 (f a) k) := by
  cases m with
  | none => exact h
  | some r =>
    cases r with
    | error c => exact h
    | ok a =>
      intro G1 H1 x
      have h' : PM Er G H (f a) k := h
      cases hf : f a with
      | none => rw [hf] at h'; exact h'
      | some r =>
        rw [hf] at h'
        cases r with
        | error c => exact h'
        | ok b => exact fun G2 H2 y => h' G2 H2 (x.trans y)
theorem PM.bind0 {f : α → M β} {k : β → Hp → Hp → Prop} (h : PM Er G H (mb m f) k) : PM Er G H m (fun a _ _ => PM Er G H (f a) k) := by
  cases m with
  | none => exact h
  | some r =>
    cases r with
    | error c => exact h
    | ok a => exact fun _ _ _ => h
theorem PM.imp (h : PM Er G H m k) (i : ∀ a G' H', Ext G H G' H' → k a G' H' → k' a G' H') : PM Er G H m k' := by
  cases m with
  | none => exact h
  | some r =>
    cases r with
    | error c => exact h
    | ok a => exact fun G1 H1 x => i a G1 H1 x (h G1 H1 x)
theorem PM.ext {G1 H1 : Hp} (h : PM Er G H m k) (x : Ext G H G1 H1) : PM Er G1 H1 m k := by
  cases m with
  | none => exact h
  | some r =>
    cases r with
    | error c => exact h
    | ok a => exact fun G2 H2 y => h G2 H2 (x.trans y)
/-- an option's value -/
theorem PM.opt {o : Option α} (h : PM Er G H (op o) k) : ∃ a, o = some a ∧ ∀ G' H', Ext G H G' H' → k a G' H' := by
  cases o with
  | none => exact absurd h (by intro q; exact q)
  | some a => exact ⟨a, rfl, h⟩
theorem PM.ok_ {a : α} (h : PM Er G H (ok a) k) : ∀ G' H', Ext G H G' H' → k a G' H' := h
end
end PV

set_option Elab.async false
set_option linter.all false
set_option maxRecDepth 100000
set_option maxHeartbeats 1000000
/-! PV: the rules for expressions: each construct's reading by the evaluator. -/
namespace PV
open PySem PySem.Spec PyProof.Rows L2
variable [ScrK]

/-- the readings: an expression's, a test's, an argument list's, a slice part's -/
def TEv (G0 H0 : Hp) (Er : Str → Prop) (f : Rho → M (D × Tg)) : TE := fun σ H Q => ∃ G ρ, SRel G0 H0 G H σ ρ ∧ PM Er G H (f ρ) fun x G' H' => ∀ v, RV H σ ρ G' H' v x → Q v H'
def TTv (G0 H0 : Hp) (Er : Str → Prop) (f : Rho → M Bool) : TT := fun σ H Q => ∃ G ρ, SRel G0 H0 G H σ ρ ∧ PM Er G H (f ρ) fun b _ H' => Q b H'
def TAv (G0 H0 : Hp) (Er : Str → Prop) (f : Rho → M (List D)) : TA := fun σ H Q => ∃ G ρ, SRel G0 H0 G H σ ρ ∧ PM Er G H (f ρ) fun ds G' H' => ∀ vs, RpL G' vs ds → Q vs H'
def TPv (G0 H0 : Hp) (Er : Str → Prop) (f : Rho → M (Option Int)) : TO := fun σ H Q => ∃ G ρ, SRel G0 H0 G H σ ρ ∧ PM Er G H (f ρ) fun o _ H' => Q o H'

section
variable {X : Cx} {G0 H0 : Hp} {Er : Str → Prop} {e x y z : Expr} {es : List Expr} {pos p : Pos}

theorem PE.imp {t t' : TE} (h : PE X e t) (i : ∀ σ H Q, t' σ H Q → t σ H Q) : PE X e t' := ⟨fun pins s σ H Q I q => h.run pins s σ H Q I (i σ H Q q)⟩
theorem PT.imp {t t' : TT} (h : PT X e t) (i : ∀ σ H Q, t' σ H Q → t σ H Q) : PT X e t' := ⟨fun pins s σ H Q I q => h.run pins s σ H Q I (i σ H Q q)⟩
theorem PA.imp {t t' : TA} (h : PA X es t) (i : ∀ σ H Q, t' σ H Q → t σ H Q) : PA X es t' := ⟨fun pos pins s σ H Q I q => h.run pos pins s σ H Q I (i σ H Q q)⟩

/-- a reading that does one thing after another -/
theorem TEv.one {f : Rho → M (D × Tg)} {g : D × Tg → M (D × Tg)} {σ : L2.St} {H : Hp} {Q : VK} (h : TEv G0 H0 Er (fun ρ => mb (f ρ) g) σ H Q) :
    ∃ G ρ, SRel G0 H0 G H σ ρ ∧ TEv G0 H0 Er f σ H fun v H1 => ∃ x G1, SRel G0 H0 G1 H1 σ ρ ∧ Ext G H G1 H1 ∧ RV H σ ρ G1 H1 v x ∧ PM Er G1 H1 (g x) fun x G' H' => ∀ v, RV H σ ρ G' H' v x → Q v H' := by
  obtain ⟨G, ρ, s, h⟩ := h
  exact ⟨G, ρ, s, G, ρ, s, h.bind.imp fun a G1 H1 x q v r => ⟨a, G1, s.mono x, x, r, q⟩⟩
/-- two values, then a result by the values alone -/
theorem TEv.two {f g : Rho → M (D × Tg)} {k : D × Tg → D × Tg → M (D × Tg)} {σ : L2.St} {H : Hp} {Q : VK} (h : TEv G0 H0 Er (fun ρ => mb (f ρ) fun u => mb (g ρ) fun w => k u w) σ H Q) :
    TEv G0 H0 Er f σ H fun v H1 => TEv G0 H0 Er g σ H1 fun w H2 => ∃ x y G2 ρ, SRel G0 H0 G2 H2 σ ρ ∧ RV H σ ρ G2 H2 v x ∧ RV H σ ρ G2 H2 w y ∧ PM Er G2 H2 (k x y) fun x G' H' => ∀ v, RV H σ ρ G' H' v x → Q v H' := by
  obtain ⟨G, ρ, s, h⟩ := h
  refine ⟨G, ρ, s, h.bind.imp fun a G1 H1 x q v r => ?_⟩
  refine ⟨G1, ρ, s.mono x, q.bind.imp fun b G2 H2 y q2 w r2 => ?_⟩
  exact ⟨a, b, G2, ρ, (s.mono x).mono y, r.mono y, r2.start x.hh, q2⟩

/-- a value that is held on -/
theorem RV.keepd {G G1 H H1 : Hp} {σ : L2.St} {ρ : Rho} {v : V} {a : D × Tg} {k : D → Hp → Hp → Prop} (r : RV H σ ρ G1 H1 v a) (q : PM Er G H (keep a) k) (x : Ext G H G1 H1) :
    ∃ d G2, keep a = ok d ∧ Ext G H G2 H1 ∧ Rp G2 v d ∧ k d G2 H1 := by
  cases hk : keep a with
  | none => rw [hk] at q; exact absurd q (by intro z; exact z)
  | some ex =>
    cases ex with
    | error c => obtain ⟨a1, a2⟩ := a; cases a2 <;> cases hk
    | ok d =>
      obtain ⟨G2, y, rp, sm⟩ := r.kept hk x
      rw [hk] at q
      exact ⟨d, G2, rfl, y, rp, q G2 H1 y⟩

/-! ### names, constants -/
theorem r_var {i : Nat} {n : Str} (hN : X.N[i]? = some n) (hv : Vis X.env.scope n) (hd : (n == ("__debug__" : Str)) = false) (hcd : (n == ("__classdict__" : Str)) = false) :
    PE X (.Name n pos) (TEv G0 H0 Er fun ρ => match ρ[i]? with | some (.va d) => ok (d, .sh) | some (.ow ds) => ok (.lst ds, .sl i) | _ => none) := by
  refine PE.imp (pe_var hN hv hd hcd) fun σ H Q h => ?_
  obtain ⟨G, ρ, s, h⟩ := h
  dsimp only at h
  cases e : ρ[i]? with
  | none => rw [e] at h; exact absurd h (by intro q; exact q)
  | some c =>
    cases c with
    | no => rw [e] at h; exact absurd h (by intro q; exact q)
    | va d =>
      obtain ⟨v, h1, h2⟩ := s.va i d e
      rw [e] at h
      exact ⟨v, h1, h G H (Ext.refl s.gh) v (.sh h2)⟩
    | ow ds =>
      obtain ⟨p, vs, h1, h2, h3, h4, h5⟩ := s.ow i ds e
      rw [e] at h
      exact ⟨_, h1, h G H (Ext.refl s.gh) _ (.sl e h1 h4 h5)⟩
theorem r_const {v : V} {d : D} (h : PE X e (tC v)) (hd : ∀ G, Rp G v d) : PE X e (TEv G0 H0 Er fun _ => ok (d, .sh)) := by
  refine PE.imp h fun σ H Q h => ?_
  obtain ⟨G, ρ, s, h⟩ := h
  exact h G H (Ext.refl s.gh) v (.sh (hd G))

/-! ### lists of expressions -/
def nst : Expr → Bool
  | .Starred .. => false
  | _ => true
theorem starEach_nst {env : PySem.Env} (h : nst e = true) : starEach (e :: es) env = (false, eval e env) :: starEach es env := by
  cases e <;> first | rfl | cases h
theorem starEach_all {env : PySem.Env} {pos : Pos} : ∀ {es : List Expr}, es.all nst = true → (backTo pos (starEach es env)).any (·.1) = false
  | [], _ => rfl
  | e :: es, h => by
    simp only [List.all_cons, Bool.and_eq_true] at h
    rw [starEach_nst h.1]
    have := @starEach_all env pos es h.2
    show (false || (backTo pos (starEach es env)).any (·.1)) = false
    rw [this]; rfl
theorem r_nil : PA X [] (TAv G0 H0 Er fun _ => ok []) := by
  refine PA.imp pa_nil fun σ H Q h => ?_
  obtain ⟨G, ρ, s, h⟩ := h
  exact h G H (Ext.refl s.gh) [] .nil
theorem r_cons {f : Rho → M (D × Tg)} {g : Rho → M (List D)} (hs : nst e = true) (he : PE X e (TEv G0 H0 Er f)) (hr : PA X es (TAv G0 H0 Er g)) :
    PA X (e :: es) (TAv G0 H0 Er fun ρ => mb (mb (f ρ) keep) fun d => mb (g ρ) fun ds => ok (d :: ds)) := by
  refine PA.imp (pa_cons he hr (starEach_nst hs)) fun σ H Q h => ?_
  obtain ⟨G, ρ, s, h⟩ := h
  refine ⟨G, ρ, s, ?_⟩
  refine h.bind0.bind0.imp fun a G1 H1 x q v r => ?_
  obtain ⟨d, G2, hk, y, rp, q⟩ := r.keepd q x
  refine ⟨G2, ρ, s.mono y, (q.ext y).bind.imp fun ds G3 H3 y3 q3 vs rs => ?_⟩
  exact q3 G3 H3 (Ext.refl y3.gh) _ (.cons (rp.mono y3.gg) rs)
theorem topLine : top ≤ sizeLine := by rw [sizeLine_eq]; decide
theorem leTop {n : Nat} (h : n ≤ top) : n ≤ sizeLine := Nat.le_trans h topLine
theorem ltTop {n : Nat} (h : n < top) : n < sizeLine := Nat.lt_of_lt_of_le h topLine
theorem le1000 {n : Nat} (h : n ≤ 1000) : n ≤ sizeLine := Nat.le_trans h (by rw [sizeLine_eq]; decide)

/-! ### displays -/
theorem r_tup {f : Rho → M (List D)} {k : Nat} (h : PA X es (TAv G0 H0 Er f)) :
    PE X (.Tuple es k pos) (TEv G0 H0 Er fun ρ => mb (f ρ) fun ds => if ds.length ≤ top then ok (.tup ds, .sh) else none) := by
  refine PE.imp (pe_tup h) fun σ H Q h => ?_
  obtain ⟨G, ρ, s, h⟩ := h
  refine ⟨G, ρ, s, h.bind.imp fun ds G1 H1 x q vs r => ?_⟩
  by_cases hl : ds.length ≤ top
  · rw [if_pos hl] at q
    refine ⟨by rw [r.length]; exact leTop hl, fun p hp => ?_⟩
    have y := Ext.shared (o := .tup vs) x.gh hp
    exact q _ _ y _ (.sh (.tup upd_same (r.mono y.gg)))
  · rw [if_neg hl] at q; exact absurd q (by intro z; exact z)
theorem r_lst {f : Rho → M (List D)} (h : PA X es (TAv G0 H0 Er f)) :
    PE X (.List es pos) (TEv G0 H0 Er fun ρ => mb (f ρ) fun ds => if ds.length ≤ top then ok (.lst ds, .fr) else none) := by
  refine PE.imp (pe_lst h) fun σ H Q h => ?_
  obtain ⟨G, ρ, s, h⟩ := h
  refine ⟨G, ρ, s, h.bind.imp fun ds G1 H1 x q vs r => ?_⟩
  by_cases hl : ds.length ≤ top
  · rw [if_pos hl] at q
    refine ⟨by rw [r.length]; exact leTop hl, fun p hp => ?_⟩
    have y := Ext.fresh (o := .lst vs) x.gh hp
    exact q _ _ y _ (.fr (x.hh.free hp) (x.gh.free hp) upd_same r)
  · rw [if_neg hl] at q; exact absurd q (by intro z; exact z)

/-! ### operators: by values -/
/-- an operator's rule fits the evaluator's function -/
def BOk (X : Cx) (r : R2) (o : D → D → Option (D × Tg)) : Prop :=
  ∀ (Hs G H : Hp) (σ : L2.St) (ρ : Rho) (v w : V) (x y : D × Tg) (z : D × Tg) (Q : VK), Same Hs H → Same G H → RV Hs σ ρ G H v x → RV Hs σ ρ G H w y → o x.1 y.1 = some z →
    (∀ u G' H', Ext G H G' H' → RV Hs σ ρ G' H' u z → Q u H') → r v w H Q
theorem r_two {r : R2} {o : D → D → Option (D × Tg)} {f g : Rho → M (D × Tg)} (b : BOk X r o) (h : PE X e (tOp r (TEv G0 H0 Er f) (TEv G0 H0 Er g))) :
    PE X e (TEv G0 H0 Er fun ρ => mb (f ρ) fun u => mb (g ρ) fun w => op (o u.1 w.1)) := by
  refine PE.imp h fun σ H Q h => ?_
  obtain ⟨G, ρ, s, h⟩ := h
  refine ⟨G, ρ, s, h.bind.imp fun a G1 H1 x q v r1 => ?_⟩
  refine ⟨G1, ρ, s.mono x, q.bind.imp fun c G2 H2 y q2 w r2 => ?_⟩
  obtain ⟨z, hz, q3⟩ := q2.opt
  exact b H G2 H2 σ ρ v w a c z Q (x.hh.trans y.hh) y.gh (r1.mono y) (r2.start x.hh) hz fun u G' H' e r => q3 G' H' e u r
/-- a value's rule -/
def UOk (X : Cx) (r : V → Hp → VK → Prop) (o : D → Option (D × Tg)) : Prop :=
  ∀ (Hs G H : Hp) (σ : L2.St) (ρ : Rho) (v : V) (x : D × Tg) (z : D × Tg) (Q : VK), Same Hs H → Same G H → RV Hs σ ρ G H v x → o x.1 = some z →
    (∀ u G' H', Ext G H G' H' → RV Hs σ ρ G' H' u z → Q u H') → r v H Q
theorem r_one {r : V → Hp → VK → Prop} {o : D → Option (D × Tg)} {f : Rho → M (D × Tg)} (b : UOk X r o) (h : PE X e (fun σ H Q => TEv G0 H0 Er f σ H fun v H1 => r v H1 Q)) :
    PE X e (TEv G0 H0 Er fun ρ => mb (f ρ) fun u => op (o u.1)) := by
  refine PE.imp h fun σ H Q h => ?_
  obtain ⟨G, ρ, s, h⟩ := h
  refine ⟨G, ρ, s, h.bind.imp fun a G1 H1 x q v r1 => ?_⟩
  obtain ⟨z, hz, q3⟩ := q.opt
  exact b H G1 H1 σ ρ v a z Q x.hh x.gh r1 hz fun u G' H' e r => q3 G' H' e u r
/-- a scalar result -/
theorem sc {Hs G H : Hp} {σ : L2.St} {ρ : Rho} {u : V} {d : D} {Q : VK} (s : Same G H) (r : Rp G u d) (q : ∀ u G' H', Ext G H G' H' → RV Hs σ ρ G' H' u (d, .sh) → Q u H') : Q u H := q u G H (Ext.refl s) (.sh r)
theorem new_tup {Hs G H : Hp} {σ : L2.St} {ρ : Rho} {vs : List V} {ds : List D} {Q : VK} (s : Same G H) (r : RpL G vs ds) (q : ∀ u G' H', Ext G H G' H' → RV Hs σ ρ G' H' u (.tup ds, .sh) → Q u H') {p : Addr} (hp : H p = none) : Q (.ref p) (upd H p (.tup vs)) :=
  have y := Ext.shared (o := .tup vs) s hp
  q _ _ _ y (.sh (.tup upd_same (r.mono y.gg)))
theorem new_lst {Hs G H : Hp} {σ : L2.St} {ρ : Rho} {vs : List V} {ds : List D} {Q : VK} (sh : Same Hs H) (s : Same G H) (r : RpL G vs ds) (q : ∀ u G' H', Ext G H G' H' → RV Hs σ ρ G' H' u (.lst ds, .fr) → Q u H') {p : Addr} (hp : H p = none) : Q (.ref p) (upd H p (.lst vs)) :=
  q _ _ _ (Ext.fresh (o := .lst vs) s hp) (.fr (sh.free hp) (s.free hp) upd_same r)
/-- either rule -/
def rOr (r r' : R2) : R2 := fun x y H Q => r x y H Q ∨ r' x y H Q
theorem b_add : ∃ r, OpR X (binaryOp .Add) r ∧ BOk X r (bop .add) := by
  refine ⟨_, op_add.or (op_add_str.or ((op_catA (X := X)).or (op_cat (X := X)))), ?_⟩
  intro Hs G H σ ρ v w x y z Q sh s rv rw' e q
  obtain ⟨x, tx⟩ := x
  obtain ⟨y, ty⟩ := y
  cases x with
  | int i =>
    cases y with
    | int j =>
      cases e
      exact .inl ⟨i, j, rv.int, rw'.int, sc s (.int _) q⟩
    | _ => cases e
  | str i =>
    cases y with
    | str j =>
      simp only [bop] at e
      by_cases hl : i.length + j.length ≤ top
      · rw [if_pos hl] at e; cases e
        exact .inr (.inl ⟨i, j, rv.str, rw'.str, leTop hl, sc s (.str _) q⟩)
      · rw [if_neg hl] at e; cases e
    | _ => cases e
  | tup i =>
    cases y with
    | tup j =>
      simp only [bop] at e
      by_cases hl : i.length + j.length ≤ top
      · rw [if_pos hl] at e; cases e
        obtain ⟨a, xs, rfl, h1, h2, rfl⟩ := rv.tup
        obtain ⟨b, ys, rfl, h3, h4, rfl⟩ := rw'.tup
        refine .inr (.inr (.inl ⟨a, b, xs, ys, rfl, rfl, SqT.of (s _ _ h1), SqT.of (s _ _ h3), by rw [h2.length, h4.length]; exact leTop hl, fun e => ?_, fun _ e => ?_, fun _ _ p hp => new_tup s (h2.append h4) q hp⟩))
        · subst e
          cases h2
          exact sc s (.tup h3 h4) q
        · subst e
          cases h4
          rw [List.append_nil] at q
          exact sc s (.tup h1 h2) q
      · rw [if_neg hl] at e; cases e
    | _ => cases e
  | lst i =>
    cases y with
    | lst j =>
      simp only [bop] at e
      by_cases hl : i.length + j.length ≤ top
      · rw [if_pos hl] at e; cases e
        obtain ⟨a, xs, rfl, h1, h2⟩ := rv.lst s
        obtain ⟨b, ys, rfl, h3, h4⟩ := rw'.lst s
        exact .inr (.inr (.inr ⟨a, b, xs, ys, rfl, rfl, h1, h3, by rw [h2.length, h4.length]; exact leTop hl, fun p hp => new_lst sh s (h2.append h4) q hp⟩))
      · rw [if_neg hl] at e; cases e
    | _ => cases e
  | _ => cases y <;> cases e
theorem b_sub : BOk X (rI0 fun i j => .int (i - j)) (bop .sub) := by
  intro Hs G H σ ρ v w x y z Q sh s rv rw' e q
  obtain ⟨x, tx⟩ := x
  obtain ⟨y, ty⟩ := y
  cases x with
  | int i =>
    cases y with
    | int j =>
      cases e
      exact ⟨i, j, rv.int, rw'.int, sc s (.int _) q⟩
    | _ => cases e
  | _ => cases y <;> cases e
theorem b_mul : ∃ r, OpR X (binaryOp .Mult) r ∧ BOk X r (bop .mul) := by
  refine ⟨_, (op_mul.or op_mulW).or ((op_rep (X := X)).or ((op_repT (X := X)).or (op_repT1 (X := X)))), ?_⟩
  intro Hs G H σ ρ v w x y z Q sh s rv rw' e q
  obtain ⟨x, tx⟩ := x
  obtain ⟨y, ty⟩ := y
  cases x with
  | int i =>
    cases y with
    | int j =>
      simp only [bop] at e
      by_cases hl : i.natAbs < 2 ^ 64 ∨ j.natAbs < 2 ^ 64 ∨ i.natAbs.log2 + j.natAbs.log2 < 1000000
      · rw [if_pos hl] at e; cases e
        rcases hl with hl | hl | hl
        · exact .inl (.inl ⟨i, j, rv.int, rw'.int, .inl (by omega), sc s (.int _) q⟩)
        · exact .inl (.inl ⟨i, j, rv.int, rw'.int, .inr (by omega), sc s (.int _) q⟩)
        · exact .inl (.inr ⟨i, j, rv.int, rw'.int, hl, sc s (.int _) q⟩)
      · rw [if_neg hl] at e; cases e
    | _ => cases e
  | lst i =>
    cases y with
    | int j =>
      simp only [bop] at e
      by_cases hl : 0 ≤ j ∧ j ≤ 1000 ∧ i.length ≤ 1000
      · rw [if_pos hl] at e; cases e
        obtain ⟨a, xs, rfl, h1, h2⟩ := rv.lst s
        have hlen : xs.length * j.toNat ≤ sizeLine := by
          rw [h2.length, sizeLine_eq]
          exact Nat.le_trans (Nat.mul_le_mul hl.2.2 (show j.toNat ≤ 1000 by omega)) (by decide)
        exact .inr (.inl ⟨a, j, xs, rfl, rw'.int, h1, by omega, by omega, hlen, fun p hp => new_lst sh s (h2.rep j.toNat) q hp⟩)
      · rw [if_neg hl] at e; cases e
    | _ => cases e
  | tup i =>
    cases y with
    | int j =>
      simp only [bop] at e
      by_cases h1j : j = 1
      · rw [if_pos h1j] at e; cases e
        subst h1j
        obtain ⟨a, xs, rfl, h1, h2, rfl⟩ := rv.tup
        exact .inr (.inr (.inr ⟨a, xs, rfl, rw'.int, SqT.of (s _ _ h1), sc s (.tup h1 h2) q⟩))
      rw [if_neg h1j] at e
      by_cases hl : 2 ≤ j ∧ j ≤ 1000 ∧ i.length ≤ 1000 ∧ i.isEmpty = false
      · rw [if_pos hl] at e; cases e
        obtain ⟨a, xs, rfl, h1, h2, rfl⟩ := rv.tup
        refine .inr (.inr (.inl ⟨a, j, xs, rfl, rw'.int, SqT.of (s _ _ h1), fun z => ?_, hl.1, hl.2.1, by rw [h2.length]; exact hl.2.2.1, fun p hp => new_tup s (h2.rep j.toNat) q hp⟩))
        subst z
        cases h2
        have := hl.2.2.2
        cases this
      · rw [if_neg hl] at e; cases e
    | _ => cases e
  | _ => cases y <;> cases e
theorem b_fdiv : BOk X (rI CDivW fun i j => .int (i / j)) (bop .fdiv) := by
  intro Hs G H σ ρ v w x y z Q sh s rv rw' e q
  obtain ⟨x, tx⟩ := x
  obtain ⟨y, ty⟩ := y
  cases x with
  | int i =>
    cases y with
    | int j =>
      simp only [bop] at e
      by_cases hl : 0 < j ∧ j.natAbs.log2 < 9000
      · rw [if_pos hl] at e; cases e
        exact ⟨i, j, rv.int, rw'.int, hl, sc s (.int _) q⟩
      · rw [if_neg hl] at e; cases e
    | _ => cases e
  | _ => cases y <;> cases e
theorem b_mod : BOk X (rI (fun _ j => 0 < j) fun i j => .int (i % j)) (bop .mod) := by
  intro Hs G H σ ρ v w x y z Q sh s rv rw' e q
  obtain ⟨x, tx⟩ := x
  obtain ⟨y, ty⟩ := y
  cases x with
  | int i =>
    cases y with
    | int j =>
      simp only [bop] at e
      by_cases hl : 0 < j
      · rw [if_pos hl] at e; cases e
        exact ⟨i, j, rv.int, rw'.int, hl, sc s (.int _) q⟩
      · rw [if_neg hl] at e; cases e
    | _ => cases e
  | _ => cases y <;> cases e
theorem b_pow : BOk X (rI CPow fun i j => .int (i ^ j.toNat)) (bop .pow) := by
  intro Hs G H σ ρ v w x y z Q sh s rv rw' e q
  obtain ⟨x, tx⟩ := x
  obtain ⟨y, ty⟩ := y
  cases x with
  | int i =>
    cases y with
    | int j =>
      simp only [bop] at e
      by_cases hl : 0 ≤ j ∧ j ≤ 1000 ∧ i.natAbs < 2 ^ 64
      · rw [if_pos hl] at e; cases e
        exact ⟨i, j, rv.int, rw'.int, ⟨hl.1, by omega, hl.2.2⟩, sc s (.int _) q⟩
      · rw [if_neg hl] at e; cases e
    | _ => cases e
  | _ => cases y <;> cases e
theorem b_band : BOk X (rI0 fun i j => .int (Builtin.bitAnd i j)) (bop .band) := by
  intro Hs G H σ ρ v w x y z Q sh s rv rw' e q
  obtain ⟨x, tx⟩ := x
  obtain ⟨y, ty⟩ := y
  cases x with
  | int i =>
    cases y with
    | int j =>
      cases e
      exact ⟨i, j, rv.int, rw'.int, sc s (.int _) q⟩
    | _ => cases e
  | _ => cases y <;> cases e
def boE : BO → Operator
  | .add => .Add | .sub => .Sub | .mul => .Mult | .fdiv => .FloorDiv | .mod => .Mod | .pow => .Pow | .band => .BitAnd
theorem b_all (o : BO) : ∃ r, OpR X (binaryOp (boE o)) r ∧ BOk X r (bop o) := by
  cases o with
  | add => exact b_add
  | sub => exact ⟨_, op_sub, b_sub⟩
  | mul => exact b_mul
  | fdiv => exact ⟨_, op_fdivW, b_fdiv⟩
  | mod => exact ⟨_, op_mod, b_mod⟩
  | pow => exact ⟨_, op_pow, b_pow⟩
  | band => exact ⟨_, op_and, b_band⟩
theorem r_bin {f g : Rho → M (D × Tg)} (o : BO) (hx : PE X x (TEv G0 H0 Er f)) (hy : PE X y (TEv G0 H0 Er g)) :
    PE X (.BinOp x (boE o) y pos) (TEv G0 H0 Er fun ρ => mb (f ρ) fun u => mb (g ρ) fun w => op (bop o u.1 w.1)) := by
  obtain ⟨r, h1, h2⟩ := b_all (X := X) o
  exact r_two h2 (pe_op h1 hx hy)

/-! ### comparisons -/
def COk (X : Cx) (r : R2) (o : D → D → Option Bool) : Prop :=
  ∀ (Hs G H : Hp) (σ : L2.St) (ρ : Rho) (v w : V) (x y : D × Tg) (z : Bool) (Q : VK), Same G H → RV Hs σ ρ G H v x → RV Hs σ ρ G H w y → o x.1 y.1 = some z → Q (.bl z) H → r v w H Q
theorem c_int {o : D → D → Option Bool} {p : Int → Int → Bool} (h : ∀ x y z, o x y = some z → ∃ i j, x = .int i ∧ y = .int j ∧ z = p i j) : COk X (rI0 fun i j => .bl (p i j)) o := by
  intro Hs G H σ ρ v w x y z Q s rv rw' e q
  obtain ⟨x, tx⟩ := x
  obtain ⟨y, ty⟩ := y
  obtain ⟨i, j, rfl, rfl, rfl⟩ := h _ _ _ e
  exact ⟨i, j, rv.int, rw'.int, q⟩
theorem cop_lt : ∀ x y z, cop .lt x y = some z → ∃ i j, x = .int i ∧ y = .int j ∧ z = decide (i < j) := by
  intro x y z e
  cases x <;> cases y <;> cases e
  exact ⟨_, _, rfl, rfl, rfl⟩
theorem cop_le : ∀ x y z, cop .le x y = some z → ∃ i j, x = .int i ∧ y = .int j ∧ z = decide (i ≤ j) := by
  intro x y z e
  cases x <;> cases y <;> cases e
  exact ⟨_, _, rfl, rfl, rfl⟩
theorem cop_gt : ∀ x y z, cop .gt x y = some z → ∃ i j, x = .int i ∧ y = .int j ∧ z = decide (j < i) := by
  intro x y z e
  cases x <;> cases y <;> cases e
  exact ⟨_, _, rfl, rfl, rfl⟩
theorem cop_ge : ∀ x y z, cop .ge x y = some z → ∃ i j, x = .int i ∧ y = .int j ∧ z = decide (j ≤ i) := by
  intro x y z e
  cases x <;> cases y <;> cases e
  exact ⟨_, _, rfl, rfl, rfl⟩
theorem c_eq : COk X (rEqD X.K) (cop .eq) := by
  intro Hs G H σ ρ v w x y z Q s rv rw' e q
  obtain ⟨x, tx⟩ := x
  obtain ⟨y, ty⟩ := y
  simp only [cop] at e
  by_cases hf : (x.fine && y.fine) = true
  · rw [if_pos hf] at e; cases e
    rw [Bool.and_eq_true] at hf
    have px : x.pln = true := by have := hf.1; unfold D.fine at this; rw [Bool.and_eq_true] at this; exact this.1
    have py : y.pln = true := by have := hf.2; unfold D.fine at this; rw [Bool.and_eq_true] at this; exact this.1
    refine ⟨_, _, rv.dp s hf.1, rw'.dp s hf.2, shaped_of hf.1, shaped_of hf.2, ?_⟩
    rw [eqv_toPy x y px py]
    exact q
  · rw [if_neg hf] at e; cases e
theorem c_ne : COk X (rNeD X.K) (cop .ne) := by
  intro Hs G H σ ρ v w x y z Q s rv rw' e q
  obtain ⟨x, tx⟩ := x
  obtain ⟨y, ty⟩ := y
  simp only [cop] at e
  by_cases hf : (x.fine && y.fine) = true
  · rw [if_pos hf] at e; cases e
    rw [Bool.and_eq_true] at hf
    have px : x.pln = true := by have := hf.1; unfold D.fine at this; rw [Bool.and_eq_true] at this; exact this.1
    have py : y.pln = true := by have := hf.2; unfold D.fine at this; rw [Bool.and_eq_true] at this; exact this.1
    refine ⟨_, _, rv.dp s hf.1, rw'.dp s hf.2, shaped_of hf.1, shaped_of hf.2, ?_⟩
    rw [eqv_toPy x y px py]
    exact q
  · rw [if_neg hf] at e; cases e
theorem flat_rp {G : Hp} {v : V} {d : D} (r : Rp G v d) (h : d.flat = true) : flatV v = true := by
  cases r <;> first | rfl | cases h
theorem flat_all {G : Hp} : ∀ {ds : List D} {vs : List V}, RpL G vs ds → ds.all D.flat = true → vs.all flatV = true
  | _, _, .nil, _ => rfl
  | _, _, .cons r t, h => by
    simp only [List.all_cons, Bool.and_eq_true] at h ⊢
    exact ⟨flat_rp r h.1, flat_all t h.2⟩
theorem eqV_eqS {G : Hp} {v w : V} {d e : D} (r : Rp G v d) (q : Rp G w e) (hd : d.flat = true) (he : e.flat = true) : eqV v w = eqS d e := by
  cases r <;> cases q <;> first | rfl | cases hd | cases he
theorem inV_inD {G : Hp} {v : V} {d : D} (r : Rp G v d) (hd : d.flat = true) : ∀ {ds : List D} {vs : List V}, RpL G vs ds → ds.all D.flat = true → inV v vs = ds.any fun y => eqS y d
  | _, _, .nil, _ => rfl
  | _, _, .cons (v := w) (d := e) r2 t, h => by
    simp only [List.all_cons, Bool.and_eq_true] at h
    have ih := inV_inD r hd t h.2
    unfold inV at ih ⊢
    simp only [List.any_cons, ih]
    rw [eqV_eqS r2 r h.1 hd]
theorem RV.flat {Hs G H : Hp} {σ : L2.St} {ρ : Rho} {v : V} {d : D} {t : Tg} (r : RV Hs σ ρ G H v (d, t)) (h : d.flat = true) : Rp G v d := by
  cases r with
  | sh r => exact r
  | _ => cases h
theorem c_inD {neg : Bool} (hK : X.K = ScrK.K) {Hs G H : Hp} {σ : L2.St} {ρ : Rho} {v w : V} {x y : D × Tg} {z : Bool} {Q : VK} (s : Same G H) (rv : RV Hs σ ρ G H v x) (rw' : RV Hs σ ρ G H w y) (e : inD x.1 y.1 = some z) (q : Q (.bl (if neg then !z else z)) H) : rIn X.K neg v w H Q := by
  obtain ⟨x, tx⟩ := x
  obtain ⟨y, ty⟩ := y
  unfold inD at e
  cases hi : items y with
  | none => simp only [hi] at e; cases e
  | some ds =>
    simp only [hi] at e
    by_cases hf : (x.flat && ds.all D.flat) = true
    · rw [if_pos hf] at e; cases e
      rw [Bool.and_eq_true] at hf
      obtain ⟨a, xs, rfl, h1, h2⟩ := rw'.items hK s hi
      refine ⟨a, xs, rfl, h1, flat_rp (rv.flat hf.1) hf.1, flat_all h2 hf.2, ?_⟩
      rw [inV_inD (rv.flat hf.1) hf.1 h2 hf.2]
      exact q
    · rw [if_neg hf] at e; cases e
theorem c_in (hK : X.K = ScrK.K) : COk X (rIn X.K false) (cop .isin) := by
  intro Hs G H σ ρ v w x y z Q s rv rw' e q
  exact c_inD hK s rv rw' e q
theorem c_notin (hK : X.K = ScrK.K) : COk X (rIn X.K true) (cop .notin) := by
  intro Hs G H σ ρ v w x y z Q s rv rw' e q
  simp only [cop, Option.map_eq_some_iff] at e
  obtain ⟨b, e, rfl⟩ := e
  exact c_inD hK s rv rw' e q
theorem non_dec {Hs G H : Hp} {σ : L2.St} {ρ : Rho} {v : V} {x : D} {t : Tg} (rv : RV Hs σ ρ G H v (x, t)) : decide (v = .non) = x.isNon := by
  cases rv with
  | sh r => cases r <;> simp [D.isNon]
  | fr => simp [D.isNon]
  | sl => simp [D.isNon]
theorem c_isN : COk X (fun x y H Q => y = .non ∧ Q (.bl (decide (x = .non))) H) (cop .isN) := by
  intro Hs G H σ ρ v w x y z Q s rv rw' e q
  obtain ⟨x, tx⟩ := x
  obtain ⟨y, ty⟩ := y
  cases y with
  | non =>
    simp only [cop, Option.some.injEq] at e
    subst e
    refine ⟨rw'.non, ?_⟩
    rw [non_dec rv]
    exact q
  | _ => cases e
theorem c_notN : COk X (fun x y H Q => y = .non ∧ Q (.bl (!decide (x = .non))) H) (cop .notN) := by
  intro Hs G H σ ρ v w x y z Q s rv rw' e q
  obtain ⟨x, tx⟩ := x
  obtain ⟨y, ty⟩ := y
  cases y with
  | non =>
    simp only [cop, Option.some.injEq] at e
    subst e
    refine ⟨rw'.non, ?_⟩
    rw [non_dec rv]
    exact q
  | _ => cases e
theorem c_isB : COk X rIsB (cop .isB) := by
  intro Hs G H σ ρ v w x y z Q s rv rw' e q
  obtain ⟨x, tx⟩ := x
  obtain ⟨y, ty⟩ := y
  cases x <;> cases y <;> cases e
  exact ⟨_, _, rv.bl, rw'.bl, q⟩
theorem c_notB : COk X rNotB (cop .notB) := by
  intro Hs G H σ ρ v w x y z Q s rv rw' e q
  obtain ⟨x, tx⟩ := x
  obtain ⟨y, ty⟩ := y
  cases x <;> cases y <;> cases e
  exact ⟨_, _, rv.bl, rw'.bl, q⟩
def coE : CO → CmpOp
  | .lt => .Lt | .le => .LtE | .gt => .Gt | .ge => .GtE | .eq => .Eq | .ne => .NotEq | .isin => .In | .notin => .NotIn | .isN => .Is | .notN => .IsNot | .isB => .Is | .notB => .IsNot
theorem c_all {k : Nat} (hK : X.K = ScrK.K) (hr : Room k X.A) (o : CO) : ∃ r, OpR X (compareOp (coE o)) r ∧ COk X r (cop o) := by
  cases o with
  | lt => exact ⟨_, op_lt, c_int cop_lt⟩
  | le => exact ⟨_, op_le, c_int cop_le⟩
  | gt => exact ⟨_, op_gt, c_int cop_gt⟩
  | ge => exact ⟨_, op_ge, c_int cop_ge⟩
  | eq => exact ⟨_, op_eqD hr.units, c_eq⟩
  | ne => exact ⟨_, op_neD hr.units, c_ne⟩
  | isin => exact ⟨_, op_in_seq, c_in hK⟩
  | notin => exact ⟨_, op_notIn_seq, c_notin hK⟩
  | isN => exact ⟨_, op_isN, c_isN⟩
  | notN => exact ⟨_, op_notN, c_notN⟩
  | isB => exact ⟨_, op_isBl, c_isB⟩
  | notB => exact ⟨_, op_notBl, c_notB⟩
/-- no set display behind in -/
def nset : Expr → Bool
  | .Set .. => false
  | _ => true
theorem marks (o : CmpOp) (h : nset y = true) : behindInMarks o y = false := by
  cases y <;> first | rfl | cases h
theorem r_cmp {k : Nat} {f g : Rho → M (D × Tg)} (hK : X.K = ScrK.K) (hr : Room k X.A) (o : CO) (hn : nset y = true) (hx : PE X x (TEv G0 H0 Er f)) (hy : PE X y (TEv G0 H0 Er g)) :
    PE X (.Compare x [coE o] [y] pos) (TEv G0 H0 Er fun ρ => mb (f ρ) fun u => mb (g ρ) fun w => op ((cop o u.1 w.1).map fun r => (.bl r, .sh))) := by
  obtain ⟨r, h1, h2⟩ := c_all (X := X) hK hr o
  refine r_two (o := fun a b => (cop o a b).map fun r => (.bl r, .sh)) (fun Hs G H σ ρ v w x y z Q sh s rv rw' e q => ?_) (pe_cmpR h1 hx hy (marks _ hn))
  rw [Option.map_eq_some_iff] at e
  obtain ⟨b, e, rfl⟩ := e
  exact h2 Hs G H σ ρ v w x y b Q s rv rw' e (sc s (.bl b) q)
theorem t_cmp {k : Nat} {f g : Rho → M (D × Tg)} (hK : X.K = ScrK.K) (hr : Room k X.A) (o : CO) (hn : nset y = true) (hx : PE X x (TEv G0 H0 Er f)) (hy : PE X y (TEv G0 H0 Er g)) :
    PT X (.Compare x [coE o] [y] pos) (TTv G0 H0 Er fun ρ => mb (f ρ) fun u => mb (g ρ) fun w => op (cop o u.1 w.1)) := by
  obtain ⟨r, h1, h2⟩ := c_all (X := X) hK hr o
  refine PT.imp (pt_cmpR h1 hx hy (marks _ hn)) fun σ H Q h => ?_
  obtain ⟨G, ρ, s, h⟩ := h
  refine ⟨G, ρ, s, h.bind.imp fun a G1 H1 x q v r1 => ?_⟩
  refine ⟨G1, ρ, s.mono x, q.bind.imp fun c G2 H2 y q2 w r2 => ?_⟩
  obtain ⟨z, hz, q3⟩ := q2.opt
  exact h2 H G2 H2 σ ρ v w a c z _ y.gh (r1.mono y) (r2.start x.hh) hz ⟨z, rfl, q3 G2 H2 (Ext.refl y.gh)⟩
end
end PV

set_option Elab.async false
set_option linter.all false
/-! PV: lists of ints sorted, without what stands twice, their least and greatest. -/
namespace PV
open PySem
theorem insI_perm (x : Int) : ∀ l : List Int, (insI x l).Perm (x :: l)
  | [] => .refl _
  | y :: ys => by
    unfold insI
    by_cases h : x ≤ y
    · rw [if_pos h]
    · rw [if_neg h]
      exact ((insI_perm x ys).cons y).trans (List.Perm.swap x y ys)
theorem sortI_perm : ∀ l : List Int, (sortI l).Perm l
  | [] => .refl _
  | x :: xs => (insI_perm x (sortI xs)).trans ((sortI_perm xs).cons x)
theorem insI_sorted (x : Int) : ∀ l : List Int, l.Pairwise (· ≤ ·) → (insI x l).Pairwise (· ≤ ·)
  | [], _ => by simp [insI]
  | y :: ys, h => by
    rw [List.pairwise_cons] at h
    unfold insI
    by_cases hx : x ≤ y
    · rw [if_pos hx, List.pairwise_cons, List.pairwise_cons]
      refine ⟨fun z hz => ?_, h.1, h.2⟩
      rcases List.mem_cons.mp hz with rfl | hz
      · exact hx
      · exact Int.le_trans hx (h.1 z hz)
    · rw [if_neg hx, List.pairwise_cons]
      refine ⟨fun z hz => ?_, insI_sorted x ys h.2⟩
      rcases List.mem_cons.mp ((insI_perm x ys).mem_iff.mp hz) with rfl | hz
      · omega
      · exact h.1 z hz
theorem sortI_sorted : ∀ l : List Int, (sortI l).Pairwise (· ≤ ·)
  | [] => .nil
  | x :: xs => insI_sorted x _ (sortI_sorted xs)
theorem sorted_unique : ∀ a b : List Int, a.Perm b → a.Pairwise (· ≤ ·) → b.Pairwise (· ≤ ·) → a = b
  | [], b, p, _, _ => (List.nil_perm.mp p).symm
  | x :: xs, [], p, _, _ => absurd (List.perm_nil.mp p) (by simp)
  | x :: xs, y :: ys, p, ha, hb => by
    rw [List.pairwise_cons] at ha hb
    have h1 : x ∈ y :: ys := p.mem_iff.mp List.mem_cons_self
    have h2 : y ∈ x :: xs := p.mem_iff.mpr List.mem_cons_self
    have e : x = y := by
      rcases List.mem_cons.mp h1 with h | h
      · exact h
      · rcases List.mem_cons.mp h2 with h' | h'
        · exact h'.symm
        · exact Int.le_antisymm (ha.1 y h') (hb.1 x h)
    subst e
    rw [sorted_unique xs ys (List.Perm.cons_inv p) ha.2 hb.2]
theorem sortI_eq {a b : List Int} (p : b.Perm a) (h : b.Pairwise (· ≤ ·)) : b = sortI a := sorted_unique b (sortI a) (p.trans (sortI_perm a).symm) h (sortI_sorted a)
theorem sortI_of_sorted {a : List Int} (h : a.Pairwise (· ≤ ·)) : sortI a = a := (sortI_eq (.refl _) h).symm
theorem nubI_mem (k : Int) : ∀ l : List Int, k ∈ nubI l ↔ k ∈ l
  | [] => by simp [nubI]
  | x :: xs => by
    unfold nubI
    by_cases h : x ∈ xs
    · rw [if_pos h, nubI_mem k xs, List.mem_cons]
      constructor
      · exact .inr
      · rintro (rfl | q)
        · exact h
        · exact q
    · rw [if_neg h, List.mem_cons, List.mem_cons, nubI_mem k xs]
theorem nubI_nodup : ∀ l : List Int, (nubI l).Nodup
  | [] => by simp [nubI]
  | x :: xs => by
    unfold nubI
    by_cases h : x ∈ xs
    · rw [if_pos h]; exact nubI_nodup xs
    · rw [if_neg h, List.nodup_cons]
      exact ⟨fun q => h ((nubI_mem x xs).mp q), nubI_nodup xs⟩
theorem nubI_len : ∀ l : List Int, (nubI l).length ≤ l.length
  | [] => Nat.le_refl _
  | x :: xs => by
    have := nubI_len xs
    unfold nubI
    split
    · rw [List.length_cons]; omega
    · rw [List.length_cons, List.length_cons]; omega
theorem perm_of_mem {a b : List Int} (ha : a.Nodup) (hb : b.Nodup) (h : ∀ k, k ∈ a ↔ k ∈ b) : a.Perm b := by
  rw [List.perm_iff_count]
  intro k
  by_cases q : k ∈ a
  · rw [ha.count, if_pos q, hb.count, if_pos ((h k).mp q)]
  · rw [List.count_eq_zero.mpr q, List.count_eq_zero.mpr fun z => q ((h k).mpr z)]
theorem lt_nodup {l : List Int} (h : l.Pairwise (· < ·)) : l.Nodup := h.imp fun q => Int.ne_of_lt q
theorem lt_le {l : List Int} (h : l.Pairwise (· < ·)) : l.Pairwise (· ≤ ·) := h.imp fun q => Int.le_of_lt q
/-- a rising list of just these members -/
theorem rising_eq {a b : List Int} (h : a.Pairwise (· < ·)) (m : ∀ k, k ∈ a ↔ k ∈ b) : a = sortI (nubI b) :=
  sortI_eq (perm_of_mem (lt_nodup h) (nubI_nodup b) fun k => (m k).trans (nubI_mem k b).symm) (lt_le h)
theorem rising_sortnub (b : List Int) : (sortI (nubI b)).Pairwise (· < ·) := by
  have h1 := sortI_sorted (nubI b)
  have h2 : (sortI (nubI b)).Nodup := (sortI_perm (nubI b)).nodup_iff.mpr (nubI_nodup b)
  exact (List.Pairwise.and h1 h2).imp fun ⟨p, q⟩ => Int.lt_iff_le_and_ne.mpr ⟨p, q⟩
theorem mem_sortnub (b : List Int) (k : Int) : k ∈ sortI (nubI b) ↔ k ∈ b := (sortI_perm (nubI b)).mem_iff.trans (nubI_mem k b)
theorem foldMin_spec : ∀ (xs : List Int) (x : Int), xs.foldl (fun m y => if y < m then y else m) x ∈ x :: xs ∧ ∀ y ∈ x :: xs, xs.foldl (fun m y => if y < m then y else m) x ≤ y
  | [], x => by simp
  | y :: ys, x => by
    obtain ⟨h1, h2⟩ := foldMin_spec ys (if y < x then y else x)
    simp only [List.foldl_cons]
    have e : (if y < x then y else x) ≤ x ∧ (if y < x then y else x) ≤ y ∧ ((if y < x then y else x) = x ∨ (if y < x then y else x) = y) := by split <;> omega
    refine ⟨?_, fun z hz => ?_⟩
    · rcases List.mem_cons.mp h1 with h | h
      · rw [h]; rcases e.2.2 with q | q <;> rw [q] <;> simp
      · exact List.mem_cons_of_mem _ (List.mem_cons_of_mem _ h)
    · have h0 := h2 _ List.mem_cons_self
      rcases List.mem_cons.mp hz with rfl | hz
      · exact Int.le_trans h0 e.1
      · rcases List.mem_cons.mp hz with rfl | hz
        · exact Int.le_trans h0 e.2.1
        · exact h2 z (List.mem_cons_of_mem _ hz)
theorem foldMax_spec : ∀ (xs : List Int) (x : Int), xs.foldl (fun m y => if m < y then y else m) x ∈ x :: xs ∧ ∀ y ∈ x :: xs, y ≤ xs.foldl (fun m y => if m < y then y else m) x
  | [], x => by simp
  | y :: ys, x => by
    obtain ⟨h1, h2⟩ := foldMax_spec ys (if x < y then y else x)
    simp only [List.foldl_cons]
    have e : x ≤ (if x < y then y else x) ∧ y ≤ (if x < y then y else x) ∧ ((if x < y then y else x) = x ∨ (if x < y then y else x) = y) := by split <;> omega
    refine ⟨?_, fun z hz => ?_⟩
    · rcases List.mem_cons.mp h1 with h | h
      · rw [h]; rcases e.2.2 with q | q <;> rw [q] <;> simp
      · exact List.mem_cons_of_mem _ (List.mem_cons_of_mem _ h)
    · have h0 := h2 _ List.mem_cons_self
      rcases List.mem_cons.mp hz with rfl | hz
      · exact Int.le_trans e.1 h0
      · rcases List.mem_cons.mp hz with rfl | hz
        · exact Int.le_trans e.2.1 h0
        · exact h2 z (List.mem_cons_of_mem _ hz)
theorem lstMin_eq {ns : List Int} {m : Int} (h : lstMin ns = some m) : 0 < ns.length ∧ ∀ k, k ∈ ns → (∀ y, y ∈ ns → k ≤ y) → k = m := by
  cases ns with
  | nil => cases h
  | cons x xs =>
    obtain rfl := Option.some.inj h
    obtain ⟨h1, h2⟩ := foldMin_spec xs x
    exact ⟨Nat.succ_pos _, fun k hk hl => Int.le_antisymm (hl _ h1) (h2 k hk)⟩
theorem lstMax_eq {ns : List Int} {m : Int} (h : lstMax ns = some m) : 0 < ns.length ∧ ∀ k, k ∈ ns → (∀ y, y ∈ ns → y ≤ k) → k = m := by
  cases ns with
  | nil => cases h
  | cons x xs =>
    obtain rfl := Option.some.inj h
    obtain ⟨h1, h2⟩ := foldMax_spec xs x
    exact ⟨Nat.succ_pos _, fun k hk hl => Int.le_antisymm (h2 k hk) (hl _ h1)⟩
theorem dedup_mem (k : Int) : ∀ (l acc : List Int), k ∈ l.foldl PyProof.Rows.step_dedup acc ↔ k ∈ acc ∨ k ∈ l
  | [], acc => by simp
  | x :: xs, acc => by
    rw [List.foldl_cons, dedup_mem k xs]
    unfold PyProof.Rows.step_dedup
    by_cases h : x ∈ acc
    · simp [h]
      constructor
      · rintro (q | q)
        · exact .inl q
        · exact .inr (.inr q)
      · rintro (q | q | q)
        · exact .inl q
        · subst q; exact .inl h
        · exact .inr q
    · simp [h, or_assoc]
theorem dedup_nodup : ∀ (l acc : List Int), acc.Nodup → (l.foldl PyProof.Rows.step_dedup acc).Nodup
  | [], acc, h => h
  | x :: xs, acc, h => by
    rw [List.foldl_cons]
    refine dedup_nodup xs _ ?_
    unfold PyProof.Rows.step_dedup
    by_cases q : x ∈ acc
    · simpa [q] using h
    · simp [q]
      rw [List.nodup_append]
      exact ⟨h, by simp, fun a ha b hb => by simp at hb; subst hb; exact fun e => q (e ▸ ha)⟩
theorem range_getD (ns : List Int) : (List.range ns.length).map (fun i => ns.getD i 0) = ns := by
  apply List.ext_getElem
  · simp
  · intro i h1 h2
    simp at h1
    simp [h1]
theorem firstMet_len (ns : List Int) : (PyProof.Rows.firstMet (fun i => ns.getD i 0) ns.length).length = (nubI ns).length := by
  unfold PyProof.Rows.firstMet
  rw [range_getD]
  exact (perm_of_mem (dedup_nodup ns [] .nil) (nubI_nodup ns) fun k => by rw [dedup_mem, nubI_mem]; simp).length_eq
end PV

set_option Elab.async false
set_option linter.all false
set_option maxRecDepth 100000
set_option maxHeartbeats 4000000
/-! PV: sum(..) of a tuple of ints. -/
namespace PV
open PySem PySem.Spec PyProof.Rows L2
theorem preSum_take (ns : List Int) : ∀ j, j ≤ ns.length → preSum (fun i => ns.getD i 0) j = (ns.take j).sum
  | 0, _ => rfl
  | j + 1, h => by
    have hj : j < ns.length := h
    show preSum (fun i => ns.getD i 0) j + ns.getD j 0 = _
    have e : ns.take (j + 1) = ns.take j ++ [ns[j]] := by rw [List.take_add_one, List.getElem?_eq_getElem hj]; rfl
    have e2 : ns.getD j 0 = ns[j] := by rw [List.getD_eq_getElem?_getD, List.getElem?_eq_getElem hj]; rfl
    have e3 : ([ns[j]] : List Int).sum = ns[j] := by rw [List.sum_cons, List.sum_nil, Int.add_zero]
    rw [preSum_take ns j (Nat.le_of_lt hj), e, e2, List.sum_append, e3]
section
variable {P : Program} {w : World} {A : Around} {E : Value → Shared → Prop} {s : Shared}
theorem sum_tupI {l : Addr} {xs : Array Value} {ns : List Int} {Q : Value → Shared → Prop} (hA : A.handled = none) (hl : s.heap.IsTuple l xs) (hi : IntsAre xs.toList ns)
    (fin : ∀ (g : Heap) (tk t : Nat), (∀ b o, s.heap.get? b = some o → g.get? b = some o) → Q (.int ns.sum t) { s with heap := g, toks := tk }) : wpAny (model P w) A (call (.builtin "sum") [.ref l]) Q E s := by
  have sz : xs.size = ns.length := by simpa using IntsAre.length hi
  have lt0 : l < s.heap.objs.size := by
    obtain ⟨o, e, _⟩ := hl
    exact Heap.lt_size e
  apply call_sum_walkG
  apply wpAny_pyIter_tuple hl
  have st : (s.heap.push { cls := .type "tuple_iterator", data := .fields #[.ref l, .int 0 0] }).objs.size = s.heap.objs.size + 1 := Heap.size_push ..
  refine ⟨_, _, _, _, _, _, (fun i => ns.getD i 0), rfl, Walks.tuple (A := A.in1) hA _ l (Nat.ne_of_lt lt0) xs, ⟨⟨_, Heap.get?_push_size _ rfl, rfl, rfl⟩, hl.push _⟩, fun b hb => ?_, fun i v e => ?_, fun g tk t keep => ?_⟩
  · show b < (s.heap.push _).objs.size
    rw [st]
    rcases List.mem_cons.mp hb with e | hb
    · rw [e]; exact Nat.lt_succ_self _
    · rw [List.mem_singleton.mp hb]; exact Nat.lt_succ_of_lt lt0
  · obtain ⟨t, e2⟩ := IntsAre.int_at hi i v ((Array.getElem?_toList ..).trans e)
    exact ⟨t, e2⟩
  · have q := fin g tk t fun b o e => keep b o (fun z => Nat.ne_of_lt (Heap.lt_size e) (List.mem_singleton.mp z)) (Heap.get?_push_of_some _ e)
    rw [sz, preSum_take ns _ (Nat.le_refl _), List.take_length]
    exact q
end
section
variable {X : Cx}
def rSumB (K : PySem.W.Frag) : List V → Hp → VK → Prop := fun vs H Q => ∃ (a : Addr) (ns : List Int), vs = [V.ref a] ∧ (SqL K H a (ns.map V.int) ∨ SqT K H a (ns.map V.int)) ∧ Q (.int ns.sum) H
theorem cr_sumB (hc : X.calm = true) : CallR X (.builtin "sum") (rSumB X.K) := by
  intro pins s σ H vs us Q I r h
  obtain ⟨a, ns, rfl, hs | hs, q⟩ := h
  · exact cr_sum hc pins s σ H [.ref a] us Q I r ⟨a, ns, rfl, hs, q⟩
  · obtain ⟨its, rv, hl, _⟩ := I.tuple hs
    rw [Vals.ref1 r]
    exact sum_tupI (I.ok.hd hc) hl rv.ints fun g tk t hk => ⟨.int _, H, I.kept hk, ⟨_, rfl⟩, q⟩
end
end PV

set_option Elab.async false
set_option linter.all false
set_option maxRecDepth 100000
set_option maxHeartbeats 1000000
/-! PV: more rules for expressions. -/
namespace PV
open PySem PySem.Spec PyProof.Rows L2
variable [ScrK]
section
variable {X : Cx} {G0 H0 : Hp} {Er : Str → Prop} {e x y z : Expr} {es : List Expr} {pos p p2 p3 : Pos}

/-! ### a < b < c -/
theorem last_marks (o o' : CmpOp) (h : nset z = true) : lastMarks [o, o'] [y, z] = false := by
  show behindInMarks o' z = false
  exact marks _ h
theorem r_chain {k : Nat} {f g h : Rho → M (D × Tg)} (hK : X.K = ScrK.K) (hr : Room k X.A) (o o' : CO) (hn : nset z = true) (hx : PE X x (TEv G0 H0 Er f)) (hy : PE X y (TEv G0 H0 Er g)) (hz : PE X z (TEv G0 H0 Er h)) :
    PE X (.Compare x [coE o, coE o'] [y, z] pos) (TEv G0 H0 Er fun ρ => mb (f ρ) fun u => mb (g ρ) fun w => mb (PV.op (cop o u.1 w.1)) fun r =>
      if r then mb (h ρ) fun t => PV.op ((cop o' w.1 t.1).map fun r => (.bl r, .sh)) else ok (.bl false, .sh)) := by
  obtain ⟨r, h1, h2⟩ := c_all (X := X) hK hr o
  obtain ⟨r', h1', h2'⟩ := c_all (X := X) hK hr o'
  refine PE.imp (pe_chain h1 h1' hx hy hz (last_marks _ _ hn)) fun σ H Q h => ?_
  obtain ⟨G, ρ, s, h⟩ := h
  refine ⟨G, ρ, s, h.bind.imp fun a G1 H1 x q v r1 => ?_⟩
  refine ⟨G1, ρ, s.mono x, q.bind.imp fun c G2 H2 y q2 w r2 => ?_⟩
  obtain ⟨b, hb, q3⟩ := PM.opt q2.bind
  refine h2 H G2 H2 σ ρ v w a c b _ y.gh (r1.mono y) (r2.start x.hh) hb ⟨b, rfl, ?_⟩
  have q4 := q3 G2 H2 (Ext.refl y.gh)
  cases b with
  | false =>
    rw [if_neg Bool.false_ne_true] at q4 ⊢
    exact q4 G2 H2 (Ext.refl y.gh) _ (.sh (.bl _))
  | true =>
    rw [if_pos rfl] at q4 ⊢
    refine ⟨G2, ρ, (s.mono x).mono y, q4.bind.imp fun t G3 H3 y3 q5 u r3 => ?_⟩
    obtain ⟨d, hd, q6⟩ := q5.opt
    rw [Option.map_eq_some_iff] at hd
    obtain ⟨b', hb', rfl⟩ := hd
    exact h2' H G3 H3 σ ρ w u c t b' _ y3.gh ((r2.start x.hh).mono y3) (r3.start (x.hh.trans y.hh)) hb' (q6 G3 H3 (Ext.refl y3.gh) _ (.sh (.bl _)))
theorem t_chain {k : Nat} {f g h : Rho → M (D × Tg)} (hK : X.K = ScrK.K) (hr : Room k X.A) (o o' : CO) (hn : nset z = true) (hx : PE X x (TEv G0 H0 Er f)) (hy : PE X y (TEv G0 H0 Er g)) (hz : PE X z (TEv G0 H0 Er h)) :
    PT X (.Compare x [coE o, coE o'] [y, z] pos) (TTv G0 H0 Er fun ρ => mb (f ρ) fun u => mb (g ρ) fun w => mb (PV.op (cop o u.1 w.1)) fun r =>
      if r then mb (h ρ) fun t => PV.op (cop o' w.1 t.1) else ok false) := by
  obtain ⟨r, h1, h2⟩ := c_all (X := X) hK hr o
  obtain ⟨r', h1', h2'⟩ := c_all (X := X) hK hr o'
  refine PT.imp (pt_chain h1 h1' hx hy hz (last_marks _ _ hn)) fun σ H Q h => ?_
  obtain ⟨G, ρ, s, h⟩ := h
  refine ⟨G, ρ, s, h.bind.imp fun a G1 H1 x q v r1 => ?_⟩
  refine ⟨G1, ρ, s.mono x, q.bind.imp fun c G2 H2 y q2 w r2 => ?_⟩
  obtain ⟨b, hb, q3⟩ := PM.opt q2.bind
  refine h2 H G2 H2 σ ρ v w a c b _ y.gh (r1.mono y) (r2.start x.hh) hb ⟨b, rfl, ?_⟩
  have q4 := q3 G2 H2 (Ext.refl y.gh)
  cases b with
  | false =>
    rw [if_neg Bool.false_ne_true] at q4 ⊢
    exact ⟨false, rfl, q4 G2 H2 (Ext.refl y.gh)⟩
  | true =>
    rw [if_pos rfl] at q4 ⊢
    refine ⟨G2, ρ, (s.mono x).mono y, q4.bind.imp fun t G3 H3 y3 q5 u r3 => ?_⟩
    obtain ⟨b', hb', q6⟩ := q5.opt
    exact h2' H G3 H3 σ ρ w u c t b' _ y3.gh ((r2.start x.hh).mono y3) (r3.start (x.hh.trans y.hh)) hb' ⟨b', rfl, q6 G3 H3 (Ext.refl y3.gh)⟩

/-! ### and, or, not -/
theorem PM.blm {G H : Hp} {d : D} {k : Bool → Hp → Hp → Prop} (h : PM Er G H (blM d) k) : ∃ b, d = .bl b ∧ ∀ G' H', Ext G H G' H' → k b G' H' := by
  cases d with
  | bl b => exact ⟨b, rfl, h⟩
  | _ => exact absurd h (by intro z; exact z)
theorem t_not {f : Rho → M Bool} (h : PT X x (TTv G0 H0 Er f)) : PT X (.UnaryOp .Not x pos) (TTv G0 H0 Er fun ρ => mb (f ρ) fun b => ok (!b)) := by
  refine PT.imp (pt_not h) fun σ H Q h => ?_
  obtain ⟨G, ρ, s, h⟩ := h
  exact ⟨G, ρ, s, h.bind.imp fun b G1 H1 x q => q G1 H1 (Ext.refl x.gh)⟩
theorem r_not {f : Rho → M (D × Tg)} (h : PE X x (TEv G0 H0 Er f)) : PE X (.UnaryOp .Not x pos) (TEv G0 H0 Er fun ρ => mb (mb (f ρ) fun u => blM u.1) fun b => ok (.bl (!b), .sh)) := by
  refine PE.imp (pe_not h) fun σ H Q h => ?_
  obtain ⟨G, ρ, s, h⟩ := h
  refine ⟨G, ρ, s, h.bind.bind.imp fun a G1 H1 x q v r => ?_⟩
  obtain ⟨a, ta⟩ := a
  obtain ⟨b, rfl, q2⟩ := q.blm
  exact ⟨b, r.bl, q2 G1 H1 (Ext.refl x.gh) G1 H1 (Ext.refl x.gh) _ (.sh (.bl _))⟩
/-- the readings of a row of truths -/
def TBv (G0 H0 : Hp) (Er : Str → Prop) (f : Rho → M Bool) : TE := TEv G0 H0 Er fun ρ => mb (f ρ) fun b => ok (.bl b, .sh)
theorem r_bone {f : Rho → M (D × Tg)} {o : BoolOp} (h : PE X x (TEv G0 H0 Er f)) : PE X (.BoolOp o [x] pos) (TBv G0 H0 Er fun ρ => mb (f ρ) fun u => blM u.1) := by
  refine PE.imp (pe_one h) fun σ H Q h => ?_
  obtain ⟨G, ρ, s, h⟩ := h
  refine ⟨G, ρ, s, h.bind.bind.imp fun a G1 H1 x q v r => ?_⟩
  obtain ⟨a, ta⟩ := a
  obtain ⟨b, rfl, q2⟩ := q.blm
  have e := r.bl
  subst e
  exact q2 G1 H1 (Ext.refl x.gh) G1 H1 (Ext.refl x.gh) _ (.sh (.bl _))
theorem r_band {f : Rho → M (D × Tg)} {g : Rho → M Bool} (hx : PE X x (TEv G0 H0 Er f)) (hr : PE X (.BoolOp .And (y :: es) pos) (TBv G0 H0 Er g)) :
    PE X (.BoolOp .And (x :: y :: es) pos) (TBv G0 H0 Er fun ρ => mb (mb (f ρ) fun u => blM u.1) fun b => if b then g ρ else ok false) := by
  refine PE.imp (pe_and hx hr) fun σ H Q h => ?_
  obtain ⟨G, ρ, s, h⟩ := h
  refine ⟨G, ρ, s, h.bind.bind.bind.imp fun a G1 H1 x q v r => ?_⟩
  obtain ⟨a, ta⟩ := a
  obtain ⟨b, rfl, q2⟩ := q.blm
  refine ⟨b, r.bl, ?_⟩
  have q3 := q2 G1 H1 (Ext.refl x.gh)
  cases b with
  | false =>
    rw [if_neg Bool.false_ne_true] at q3 ⊢
    exact q3 G1 H1 (Ext.refl x.gh) G1 H1 (Ext.refl x.gh) _ (.sh (.bl _))
  | true =>
    rw [if_pos rfl] at q3 ⊢
    refine ⟨G1, ρ, s.mono x, ?_⟩
    have q4 : PM Er G1 H1 (mb (g ρ) fun b => ok (.bl b, .sh)) fun u G' H' => ∀ v, RV H σ ρ G' H' v u → Q v H' := by
      cases hg : g ρ with
      | none => rw [hg] at q3; exact q3
      | some t =>
        rw [hg] at q3
        cases t with
        | error c => exact q3
        | ok b => exact fun G2 H2 y2 => q3 G2 H2 y2 G2 H2 (Ext.refl y2.gh)
    exact q4.imp fun u G2 H2 y2 q5 v r2 => q5 v (r2.start x.hh)
theorem r_bor {f : Rho → M (D × Tg)} {g : Rho → M Bool} (hx : PE X x (TEv G0 H0 Er f)) (hr : PE X (.BoolOp .Or (y :: es) pos) (TBv G0 H0 Er g)) :
    PE X (.BoolOp .Or (x :: y :: es) pos) (TBv G0 H0 Er fun ρ => mb (mb (f ρ) fun u => blM u.1) fun b => if b then ok true else g ρ) := by
  refine PE.imp (pe_or hx hr) fun σ H Q h => ?_
  obtain ⟨G, ρ, s, h⟩ := h
  refine ⟨G, ρ, s, h.bind.bind.bind.imp fun a G1 H1 x q v r => ?_⟩
  obtain ⟨a, ta⟩ := a
  obtain ⟨b, rfl, q2⟩ := q.blm
  refine ⟨b, r.bl, ?_⟩
  have q3 := q2 G1 H1 (Ext.refl x.gh)
  cases b with
  | true =>
    rw [if_pos rfl] at q3 ⊢
    exact q3 G1 H1 (Ext.refl x.gh) G1 H1 (Ext.refl x.gh) _ (.sh (.bl _))
  | false =>
    rw [if_neg Bool.false_ne_true] at q3 ⊢
    refine ⟨G1, ρ, s.mono x, ?_⟩
    have q4 : PM Er G1 H1 (mb (g ρ) fun b => ok (.bl b, .sh)) fun u G' H' => ∀ v, RV H σ ρ G' H' v u → Q v H' := by
      cases hg : g ρ with
      | none => rw [hg] at q3; exact q3
      | some t =>
        rw [hg] at q3
        cases t with
        | error c => exact q3
        | ok b => exact fun G2 H2 y2 => q3 G2 H2 y2 G2 H2 (Ext.refl y2.gh)
    exact q4.imp fun u G2 H2 y2 q5 v r2 => q5 v (r2.start x.hh)
/-- .. as tests -/
theorem t_one_and {f : Rho → M Bool} (h : PT X x (TTv G0 H0 Er f)) : PW X (.BoolOp .And [x] pos) (TTv G0 H0 Er f) := pw_and1 h
theorem t_one_or {f : Rho → M Bool} (h : PT X x (TTv G0 H0 Er f)) : PW X (.BoolOp .Or [x] pos) (TTv G0 H0 Er f) := pw_or1 h
theorem PW.imp {t t' : TT} (h : PW X e t) (i : ∀ σ H Q, t' σ H Q → t σ H Q) : PW X e t' := ⟨fun wh pins s σ H Q I q => h.run wh pins s σ H Q I (i σ H Q q)⟩
theorem t_and {f g : Rho → M Bool} (hx : PT X x (TTv G0 H0 Er f)) (hr : PW X (.BoolOp .And (y :: es) pos) (TTv G0 H0 Er g)) :
    PW X (.BoolOp .And (x :: y :: es) pos) (TTv G0 H0 Er fun ρ => mb (f ρ) fun b => if b then g ρ else ok false) := by
  refine PW.imp (pw_and hx hr) fun σ H Q h => ?_
  obtain ⟨G, ρ, s, h⟩ := h
  refine ⟨G, ρ, s, h.bind.imp fun b G1 H1 x q => ?_⟩
  cases b with
  | false =>
    rw [if_neg Bool.false_ne_true] at q ⊢
    exact q G1 H1 (Ext.refl x.gh)
  | true =>
    rw [if_pos rfl] at q ⊢
    exact ⟨G1, ρ, s.mono x, q⟩
theorem t_or {f g : Rho → M Bool} (hx : PT X x (TTv G0 H0 Er f)) (hr : PW X (.BoolOp .Or (y :: es) pos) (TTv G0 H0 Er g)) :
    PW X (.BoolOp .Or (x :: y :: es) pos) (TTv G0 H0 Er fun ρ => mb (f ρ) fun b => if b then ok true else g ρ) := by
  refine PW.imp (pw_or hx hr) fun σ H Q h => ?_
  obtain ⟨G, ρ, s, h⟩ := h
  refine ⟨G, ρ, s, h.bind.imp fun b G1 H1 x q => ?_⟩
  cases b with
  | true =>
    rw [if_pos rfl] at q ⊢
    exact q G1 H1 (Ext.refl x.gh)
  | false =>
    rw [if_neg Bool.false_ne_true] at q ⊢
    exact ⟨G1, ρ, s.mono x, q⟩
/-- a value that is a truth, as a test -/
theorem t_val {f : Rho → M (D × Tg)} (h : PE X e (TEv G0 H0 Er f)) (he : ∀ whole, isTrue e X.env whole = (do let v ← whole; standAt e.pos; holding [v] (truthy v))) :
    PT X e (TTv G0 H0 Er fun ρ => mb (f ρ) fun u => blM u.1) := by
  refine PT.imp (pt_val h he) fun σ H Q h => ?_
  obtain ⟨G, ρ, s, h⟩ := h
  refine ⟨G, ρ, s, h.bind.imp fun a G1 H1 x q v r => ?_⟩
  obtain ⟨a, ta⟩ := a
  obtain ⟨b, rfl, q2⟩ := q.blm
  exact ⟨b, r.bl, q2 G1 H1 (Ext.refl x.gh)⟩

/-! ### subscripts -/
def nslice : Expr → Bool
  | .Slice .. => false
  | _ => true
theorem plain_ix (h : nslice y = true) : PlainIx y := by
  intro o i
  cases y <;> first | rfl | cases h
theorem ixN_len {i : Int} {n m : Nat} (h : n = m) : ixN n i = ixN m i := by rw [h]
theorem atI_rp {G : Hp} {vs : List V} {ds : List D} {i : Int} {d : D} (r : RpL G vs ds) (h : atI ds i = some d) : ∃ v, atI vs i = some v ∧ Rp G v d := by
  unfold atI at h ⊢
  rw [r.length]
  cases e : ixN ds.length i with
  | none => rw [e] at h; cases h
  | some j =>
    rw [e] at h
    exact r.get' h
theorem atI_ints {ns : List Int} {i k : Int} (h : atI ns i = some k) : atI (ns.map V.int) i = some (.int k) := by
  unfold atI at h ⊢
  rw [List.length_map]
  cases e : ixN ns.length i with
  | none => rw [e] at h; cases h
  | some j =>
    rw [e] at h
    show (ns.map V.int)[j]? = some (.int k)
    have h : ns[j]? = some k := h
    rw [List.getElem?_map, h]
    rfl
theorem r_ix {f g : Rho → M (D × Tg)} (hK : X.K = ScrK.K) (hn : nslice y = true) (hx : PE X x (TEv G0 H0 Er f)) (hy : PE X y (TEv G0 H0 Er g)) :
    PE X (.Subscript x y pos) (TEv G0 H0 Er fun ρ => mb (f ρ) fun u => mb (g ρ) fun w => PV.op ((ixD u.1 w.1).map fun d => (d, .sh))) := by
  refine r_two (o := fun a b => (ixD a b).map fun d => (d, .sh)) (fun Hs G H σ ρ v w x y z Q sh s rv rw' e q => ?_) (pe_ix (ix_seq (X := X)) hx hy (plain_ix hn))
  obtain ⟨x, tx⟩ := x
  obtain ⟨y, ty⟩ := y
  rw [Option.map_eq_some_iff] at e
  obtain ⟨d, e, rfl⟩ := e
  cases y with
  | int i =>
    cases x with
    | lst xs =>
      obtain ⟨a, vs, rfl, h1, h2⟩ := rv.lst s
      obtain ⟨u, hu, ru⟩ := atI_rp h2 e
      exact .inl ⟨a, vs, i, u, rfl, rw'.int, SqL.of h1, hu, sc s ru q⟩
    | tup xs =>
      obtain ⟨a, vs, rfl, h1, h2, rfl⟩ := rv.tup
      obtain ⟨u, hu, ru⟩ := atI_rp h2 e
      exact .inr (.inl ⟨a, vs, i, u, rfl, rw'.int, SqT.of (s _ _ h1), hu, sc s ru q⟩)
    | scr xs =>
      obtain ⟨a, rfl, h1, rfl⟩ := rv.scr
      simp only [ixD, Option.map_eq_some_iff] at e
      obtain ⟨k, e, rfl⟩ := e
      exact .inl ⟨a, _, i, .int k, rfl, rw'.int, by rw [hK]; exact s.seq h1, atI_ints e, sc s (.int k) q⟩
    | str c =>
      simp only [ixD] at e
      by_cases hl : c.length ≤ top
      · rw [if_pos hl, Option.map_eq_some_iff] at e
        obtain ⟨k, e, rfl⟩ := e
        exact .inr (.inr ⟨c, i, k, rv.str, rw'.int, leTop hl, e, sc s (.str _) q⟩)
      · rw [if_neg hl] at e; cases e
    | _ => cases e
  | _ => cases e

/-! ### slices -/
theorem RpL.cut {G : Hp} {vs : List V} {ds : List D} (r : RpL G vs ds) (lo hi : Option Int) : RpL G (cutV vs lo hi) (cutL ds lo hi) := by
  unfold cutV cutL
  rw [r.length]
  exact (r.drop _).take _
theorem cutL_whole {α : Type} {xs : List α} {lo hi : Option Int} (h : HT.sIx xs.length 0 lo = 0 ∧ HT.sIx xs.length xs.length hi = xs.length) : cutL xs lo hi = xs := by
  unfold cutL
  rw [h.1, h.2, List.drop_zero, Nat.sub_zero, List.take_length]
theorem p_no : PO X none (TPv G0 H0 Er fun _ => ok none) := ⟨fun pins s σ H Q I h => by
  obtain ⟨G, ρ, sr, h⟩ := h
  exact po_none.run pins s σ H Q I (h G H (Ext.refl sr.gh))⟩
theorem PM.intm {G H : Hp} {d : D} {k : Int → Hp → Hp → Prop} (h : PM Er G H (intM d) k) : ∃ b, d = .int b ∧ ∀ G' H', Ext G H G' H' → k b G' H' := by
  cases d with
  | int b => exact ⟨b, rfl, h⟩
  | _ => exact absurd h (by intro z; exact z)
theorem p_some {f : Rho → M (D × Tg)} (h : PE X e (TEv G0 H0 Er f)) : PO X (some e) (TPv G0 H0 Er fun ρ => mb (f ρ) fun u => mb (intM u.1) fun i => ok (some i)) := ⟨fun pins s σ H Q I h' => by
  obtain ⟨G, ρ, sr, h'⟩ := h'
  refine (po_some h).run pins s σ H Q I ⟨G, ρ, sr, h'.bind.imp fun a G1 H1 x q v r => ?_⟩
  obtain ⟨a, ta⟩ := a
  obtain ⟨i, rfl, q2⟩ := q.bind.intm
  exact ⟨i, r.int, q2 G1 H1 (Ext.refl x.gh) G1 H1 (Ext.refl x.gh)⟩⟩
theorem r_sl {f : Rho → M (D × Tg)} {g h : Rho → M (Option Int)} {lo hi : Option Expr} (hx : PE X x (TEv G0 H0 Er f)) (hl : PO X lo (TPv G0 H0 Er g)) (hh : PO X hi (TPv G0 H0 Er h)) :
    PE X (.Subscript x (.Slice lo hi none p2) pos) (TEv G0 H0 Er fun ρ => mb (f ρ) fun u => mb (g ρ) fun l => mb (h ρ) fun h => PV.op (slD u.1 l h)) := by
  refine PE.imp (pe_slice ((sl_list (X := X)).or (sl_tupA (X := X))) hx hl hh) fun σ H Q h => ?_
  obtain ⟨G, ρ, s, h⟩ := h
  refine ⟨G, ρ, s, h.bind.imp fun a G1 H1 x q v r1 => ?_⟩
  refine ⟨G1, ρ, s.mono x, q.bind.imp fun l G2 H2 y q2 => ?_⟩
  refine ⟨G2, ρ, (s.mono x).mono y, q2.bind.imp fun h G3 H3 y3 q3 => ?_⟩
  obtain ⟨u, hu, q4⟩ := q3.opt
  obtain ⟨a, ta⟩ := a
  have r3 := (r1.mono y).mono y3
  have sH : Same H H3 := (x.hh.trans y.hh).trans y3.hh
  have q5 : ∀ v G' H', Ext G3 H3 G' H' → RV H σ ρ G' H' v u → Q v H' := fun v G' H' e r => q4 G' H' e v r
  cases a with
  | lst xs =>
    cases hu
    obtain ⟨p, vs, rfl, h1, h2⟩ := r3.lst y3.gh
    exact .inl ⟨p, vs, rfl, SqL.of h1, fun n hn => new_lst sH y3.gh (h2.cut l h) q5 hn⟩
  | tup xs =>
    cases hu
    obtain ⟨p, vs, rfl, h1, h2, rfl⟩ := r3.tup
    refine .inr ⟨p, vs, rfl, SqT.of (y3.gh _ _ h1), fun hw => ?_, fun _ n hn => new_tup y3.gh (h2.cut l h) q5 hn⟩
    rw [h2.length] at hw
    rw [cutL_whole hw] at q5
    exact sc y3.gh (.tup h1 h2) q5
  | _ => cases hu

/-! ### built-ins of one value -/
theorem one_arg {te : TE} (hs : nst x = true) (h : PE X x te) : PA X [x] (tCons te tNil) := pa_cons h pa_nil (starEach_nst hs)
theorem r_bltB {id : String} {n : Str} {r : List V → Hp → VK → Prop} {o : D → Option (D × Tg)} {f : Rho → M (D × Tg)} (hc : CallR X (.builtin id) r) (hg : Gl X n) (hm : X.mg n = none) (hv : bootBuiltins n = some (.builtin id)) (hn : n ≠ "__name__") (hd : (n == ("__debug__" : Str)) = false)
    (b : UOk X (fun v H Q => r [v] H Q) o) (hs : nst x = true) (h : PE X x (TEv G0 H0 Er f)) : PE X (.Call (.Name n p) [x] [] pos) (TEv G0 H0 Er fun ρ => mb (f ρ) fun u => PV.op (o u.1)) :=
  r_one b (pe_callB hc hg hm hv (one_arg hs h) hn hd (starEach_nst hs) rfl)
theorem r_bltT {id : String} {n : Str} {r : List V → Hp → VK → Prop} {o : D → Option (D × Tg)} {f : Rho → M (D × Tg)} (hc : CallR X (.type id) r) (hg : Gl X n) (hm : X.mg n = none) (hv : bootBuiltins n = some (.type id)) (hn : n ≠ "__name__") (hd : (n == ("__debug__" : Str)) = false)
    (b : UOk X (fun v H Q => r [v] H Q) o) (hs : nst x = true) (h : PE X x (TEv G0 H0 Er f)) : PE X (.Call (.Name n p) [x] [] pos) (TEv G0 H0 Er fun ρ => mb (f ρ) fun u => PV.op (o u.1)) :=
  r_one b (pe_callTy hc hg hm hv (one_arg hs h) hn hd (starEach_nst hs) rfl)
theorem u_len (hK : X.K = ScrK.K) : ∃ r, CallR X (.builtin "len") r ∧ UOk X (fun v H Q => r [v] H Q) (uop .len) := by
  refine ⟨_, (call_len_seq (X := X)).or (call_len_str (X := X)), ?_⟩
  intro Hs G H σ ρ v x z Q sh s rv e q
  obtain ⟨x, tx⟩ := x
  have seq : ∀ ds, items x = some ds → z = (.int ds.length, .sh) → (∃ p ys, [v] = [.ref p] ∧ (SqL X.K H p ys ∨ SqT X.K H p ys) ∧ Q (.int ys.length) H) := by
    intro ds hi hz
    obtain ⟨a, xs, rfl, h1, h2⟩ := rv.items hK s hi
    subst hz
    refine ⟨a, xs, rfl, h1, ?_⟩
    rw [h2.length]
    exact sc s (.int _) q
  cases x with
  | str c =>
    simp only [uop] at e
    by_cases hl : c.length ≤ top
    · rw [if_pos hl] at e; cases e
      have := rv.str
      subst this
      exact .inr ⟨c, rfl, leTop hl, sc s (.int _) q⟩
    · rw [if_neg hl] at e; cases e
  | lst ds => exact .inl (seq ds rfl (by cases e; rfl))
  | tup ds => exact .inl (seq ds rfl (by cases e; rfl))
  | scr ds => exact .inl (seq _ rfl (by cases e; rfl))
  | _ => cases e
theorem u_tuple : UOk X (fun v H Q => (fun xs H Q => ∃ p ys, xs = [.ref p] ∧ ((SqL X.K H p ys ∧ ∀ l, H l = none → Q (.ref l) (upd H l (.tup ys))) ∨ (SqT X.K H p ys ∧ Q (.ref p) H)) : List V → Hp → VK → Prop) [v] H Q) (uop .tuple) := by
  intro Hs G H σ ρ v x z Q sh s rv e q
  obtain ⟨x, tx⟩ := x
  cases x with
  | lst ds =>
    cases e
    obtain ⟨a, xs, rfl, h1, h2⟩ := rv.lst s
    exact ⟨a, xs, rfl, .inl ⟨SqL.of h1, fun l hl => new_tup s h2 q hl⟩⟩
  | tup ds =>
    cases e
    obtain ⟨a, xs, rfl, h1, h2, rfl⟩ := rv.tup
    exact ⟨a, xs, rfl, .inr ⟨SqT.of (s _ _ h1), sc s (.tup h1 h2) q⟩⟩
  | _ => cases e
theorem u_list : UOk X (fun v H Q => (fun xs H Q => ∃ p ys, xs = [.ref p] ∧ (SqL X.K H p ys ∨ SqT X.K H p ys) ∧ ∀ l, H l = none → Q (.ref l) (upd H l (.lst ys)) : List V → Hp → VK → Prop) [v] H Q) (uop .list) := by
  intro Hs G H σ ρ v x z Q sh s rv e q
  obtain ⟨x, tx⟩ := x
  cases x with
  | lst ds =>
    cases e
    obtain ⟨a, xs, rfl, h1, h2⟩ := rv.lst s
    exact ⟨a, xs, rfl, .inl (SqL.of h1), fun l hl => new_lst sh s h2 q hl⟩
  | tup ds =>
    cases e
    obtain ⟨a, xs, rfl, h1, h2, rfl⟩ := rv.tup
    exact ⟨a, xs, rfl, .inr (SqT.of (s _ _ h1)), fun l hl => new_lst sh s h2 q hl⟩
  | _ => cases e
theorem RV.intL {Hs G H : Hp} {σ : L2.St} {ρ : Rho} {v : V} {ds : List D} {t : Tg} {ns : List Int} (r : RV Hs σ ρ G H v (.lst ds, t)) (s : Same G H) (h : D.ints ds = some ns) : ∃ a, v = .ref a ∧ SqL X.K H a (ns.map V.int) := by
  obtain ⟨a, xs, rfl, h1, h2⟩ := r.lst s
  exact ⟨a, rfl, SqL.of (by rw [h1, (h2.ints h).1])⟩
theorem RV.blL {Hs G H : Hp} {σ : L2.St} {ρ : Rho} {v : V} {ds : List D} {t : Tg} {ns : List Bool} (r : RV Hs σ ρ G H v (.lst ds, t)) (s : Same G H) (h : D.bls ds = some ns) : ∃ a, v = .ref a ∧ SqL X.K H a (ns.map V.bl) := by
  obtain ⟨a, xs, rfl, h1, h2⟩ := r.lst s
  exact ⟨a, rfl, SqL.of (by rw [h1, (h2.bls h).1])⟩
theorem u_sum : UOk X (fun v H Q => rSumB X.K [v] H Q) (uop .sum) := by
  intro Hs G H σ ρ v x z Q sh s rv e q
  obtain ⟨x, tx⟩ := x
  cases x with
  | lst ds =>
    simp only [uop, Option.map_eq_some_iff] at e
    obtain ⟨ns, e, rfl⟩ := e
    obtain ⟨a, rfl, h1⟩ := rv.intL (X := X) s e
    exact ⟨a, ns, rfl, .inl h1, sc s (.int _) q⟩
  | tup ds =>
    simp only [uop, Option.map_eq_some_iff] at e
    obtain ⟨ns, e, rfl⟩ := e
    obtain ⟨a, xs, rfl, h1, h2, rfl⟩ := rv.tup
    exact ⟨a, ns, rfl, .inr (SqT.of (by rw [s _ _ h1, (h2.ints e).1])), sc s (.int _) q⟩
  | _ => cases e
theorem u_min : UOk X (fun v H Q => rMin X.K [v] H Q) (uop .min) := by
  intro Hs G H σ ρ v x z Q sh s rv e q
  obtain ⟨x, tx⟩ := x
  cases x with
  | lst ds =>
    simp only [uop, Option.map_eq_some_iff, Option.bind_eq_some_iff] at e
    obtain ⟨m, ⟨ns, e, hm⟩, rfl⟩ := e
    obtain ⟨a, rfl, h1⟩ := rv.intL (X := X) s e
    obtain ⟨l0, l1⟩ := lstMin_eq hm
    exact ⟨a, ns, rfl, h1, l0, fun k hk hl => by rw [l1 k hk hl]; exact sc s (.int _) q⟩
  | _ => cases e
theorem u_max : UOk X (fun v H Q => rMax X.K [v] H Q) (uop .max) := by
  intro Hs G H σ ρ v x z Q sh s rv e q
  obtain ⟨x, tx⟩ := x
  cases x with
  | lst ds =>
    simp only [uop, Option.map_eq_some_iff, Option.bind_eq_some_iff] at e
    obtain ⟨m, ⟨ns, e, hm⟩, rfl⟩ := e
    obtain ⟨a, rfl, h1⟩ := rv.intL (X := X) s e
    obtain ⟨l0, l1⟩ := lstMax_eq hm
    exact ⟨a, ns, rfl, h1, l0, fun k hk hl => by rw [l1 k hk hl]; exact sc s (.int _) q⟩
  | _ => cases e
theorem u_sorted : UOk X (fun v H Q => rSorted X.K [v] H Q) (uop .sorted) := by
  intro Hs G H σ ρ v x z Q sh s rv e q
  obtain ⟨x, tx⟩ := x
  cases x with
  | lst ds =>
    simp only [uop, Option.bind_eq_some_iff] at e
    obtain ⟨ns, e, hm⟩ := e
    by_cases hl : ns.length < 64
    · rw [if_pos hl] at hm; cases hm
      obtain ⟨a, rfl, h1⟩ := rv.intL (X := X) s e
      refine ⟨a, ns, rfl, h1, hl, fun ns' p hp hs hn => ?_⟩
      rw [sortI_eq hp hs]
      exact new_lst sh s (RpL.of_ints _) q hn
    · rw [if_neg hl] at hm; cases hm
  | _ => cases e
theorem u_all : UOk X (fun v H Q => rAll X.K [v] H Q) (uop .all) := by
  intro Hs G H σ ρ v x z Q sh s rv e q
  obtain ⟨x, tx⟩ := x
  cases x with
  | lst ds =>
    simp only [uop, Option.map_eq_some_iff] at e
    obtain ⟨ns, e, rfl⟩ := e
    obtain ⟨a, rfl, h1⟩ := rv.blL (X := X) s e
    exact ⟨a, ns, rfl, h1, sc s (.bl _) q⟩
  | _ => cases e
theorem u_any : UOk X (fun v H Q => rAny X.K [v] H Q) (uop .any) := by
  intro Hs G H σ ρ v x z Q sh s rv e q
  obtain ⟨x, tx⟩ := x
  cases x with
  | lst ds =>
    simp only [uop, Option.map_eq_some_iff] at e
    obtain ⟨ns, e, rfl⟩ := e
    obtain ⟨a, rfl, h1⟩ := rv.blL (X := X) s e
    exact ⟨a, ns, rfl, h1, sc s (.bl _) q⟩
  | _ => cases e
theorem u_int : UOk X (fun v H Q => (fun xs H Q => (∃ i, xs = [.int i] ∧ Q (.int i) H) ∨ ∃ k, xs = [.bl k] ∧ Q (.int (if k then 1 else 0)) H : List V → Hp → VK → Prop) [v] H Q) (uop .int) := by
  intro Hs G H σ ρ v x z Q sh s rv e q
  obtain ⟨x, tx⟩ := x
  cases x with
  | int i => cases e; have := rv.int; subst this; exact .inl ⟨i, rfl, sc s (.int _) q⟩
  | bl i => cases e; have := rv.bl; subst this; exact .inr ⟨i, rfl, sc s (.int _) q⟩
  | _ => cases e
theorem u_str : UOk X (fun v H Q => (fun xs H Q => ∃ i : Int, xs = [.int i] ∧ i.natAbs.log2 < 1920 ∧ Q (.str (toString i)) H : List V → Hp → VK → Prop) [v] H Q) (uop .str) := by
  intro Hs G H σ ρ v x z Q sh s rv e q
  obtain ⟨x, tx⟩ := x
  cases x with
  | int i =>
    simp only [uop] at e
    by_cases hl : i.natAbs.log2 < 1920
    · rw [if_pos hl] at e; cases e
      have := rv.int; subst this
      exact ⟨i, rfl, hl, sc s (.str _) q⟩
    · rw [if_neg hl] at e; cases e
  | _ => cases e
theorem u_abs : UOk X (fun v H Q => (fun xs H Q => ∃ i : Int, xs = [.int i] ∧ Q (.int (if i < 0 then -i else i)) H : List V → Hp → VK → Prop) [v] H Q) (uop .abs) := by
  intro Hs G H σ ρ v x z Q sh s rv e q
  obtain ⟨x, tx⟩ := x
  cases x with
  | int i => cases e; have := rv.int; subst this; exact ⟨i, rfl, sc s (.int _) q⟩
  | _ => cases e
theorem u_neg : UOk X (fun v H Q => rU (fun i => .int (-i)) v H Q) (uop .neg) := by
  intro Hs G H σ ρ v x z Q sh s rv e q
  obtain ⟨x, tx⟩ := x
  cases x with
  | int i => cases e; have := rv.int; subst this; exact ⟨i, rfl, sc s (.int _) q⟩
  | _ => cases e
theorem r_neg {f : Rho → M (D × Tg)} (h : PE X x (TEv G0 H0 Er f)) : PE X (.UnaryOp .USub x pos) (TEv G0 H0 Er fun ρ => mb (f ρ) fun u => PV.op (uop .neg u.1)) :=
  r_one u_neg (pe_un un_neg h)
/-- min, max of two -/
theorem r_mm {f g : Rho → M (D × Tg)} {n : Str} (mx : Bool) (hc : X.calm = true) (hg : Gl X n) (hm : X.mg n = none) (hn : n = if mx then "max" else "min") (h1 : nst x = true) (h2 : nst y = true) (hx : PE X x (TEv G0 H0 Er f)) (hy : PE X y (TEv G0 H0 Er g)) :
    PE X (.Call (.Name n p) [x, y] [] pos) (TEv G0 H0 Er fun ρ => mb (f ρ) fun u => mb (g ρ) fun w => PV.op ((mmD mx u.1 w.1).map fun d => (d, .sh))) := by
  have ha : PA X [x, y] (tCons (TEv G0 H0 Er f) (tCons (TEv G0 H0 Er g) tNil)) := pa_cons hx (one_arg h2 hy) (starEach_nst h1)
  have hb := starEach_all (env := X.env) (pos := pos) (es := [y]) (by simp [h2])
  cases mx with
  | true =>
    subst hn
    refine r_two (o := fun a b => (mmD true a b).map fun d => (d, .sh)) (r := fun u w H Q => ∃ i j, [u, w] = [.int i, .int j] ∧ Q (.int (if j > i then j else i)) H) (fun Hs G H σ ρ v w x y z Q sh s rv rw' e q => ?_)
      (pe_callB (call_max2 hc) hg hm (by decide +kernel) ha (by decide) (by decide) (starEach_nst h1) hb)
    obtain ⟨x, tx⟩ := x
    obtain ⟨y, ty⟩ := y
    cases x <;> cases y <;> cases e
    exact ⟨_, _, by rw [rv.int, rw'.int], sc s (.int _) q⟩
  | false =>
    subst hn
    refine r_two (o := fun a b => (mmD false a b).map fun d => (d, .sh)) (r := fun u w H Q => ∃ i j, [u, w] = [.int i, .int j] ∧ Q (.int (if j < i then j else i)) H) (fun Hs G H σ ρ v w x y z Q sh s rv rw' e q => ?_)
      (pe_callB (call_min2 hc) hg hm (by decide +kernel) ha (by decide) (by decide) (starEach_nst h1) hb)
    obtain ⟨x, tx⟩ := x
    obtain ⟨y, ty⟩ := y
    cases x <;> cases y <;> cases e
    exact ⟨_, _, by rw [rv.int, rw'.int], sc s (.int _) q⟩

/-! ### isinstance -/
def tyS : Ty → String
  | .tuple => "tuple" | .int => "int" | .bool => "bool" | .str => "str"
def pyT : D → Option String
  | .non => some "NoneType" | .bl _ => some "bool" | .int _ => some "int" | .str _ => some "str" | .lst _ => some "list" | .tup _ => some "tuple" | .scr _ => none
theorem isi_kit : ∀ (t : Ty) (d : D) (b : Bool), isiD t d = some b → ∃ n, pyT d = some n ∧ kitB n (tyS t) = some b := by
  intro t d b h
  cases t <;> cases d <;> first | (cases h; done) | (cases h; exact ⟨_, rfl, by decide +kernel⟩)
theorem RV.tyX {Hs G H : Hp} {σ : L2.St} {ρ : Rho} {v : V} {d : D} {t : Tg} {n : String} (r : RV Hs σ ρ G H v (d, t)) (s : Same G H) (h : pyT d = some n) : TyX X.K H v (.type n) := by
  cases d with
  | non => cases h; rw [r.non]; exact .base .non
  | bl b => cases h; rw [r.bl]; exact .base (.bl _)
  | int b => cases h; rw [r.int]; exact .base (.int _)
  | str b => cases h; rw [r.str]; exact .base (.str _)
  | lst b => cases h; obtain ⟨a, xs, rfl, h1, _⟩ := r.lst s; exact .base (.lst h1)
  | tup b => cases h; obtain ⟨a, xs, rfl, h1, _⟩ := r.tup; exact .base (.tup (s _ _ h1))
  | scr b => cases h
theorem r_isi {f : Rho → M (D × Tg)} (t : Ty) (hg : Gl X "isinstance") (hm : X.mg "isinstance" = none) (hgt : Gl X (tyS t)) (hmt : X.mg (tyS t) = none) (hs : nst x = true) (hx : PE X x (TEv G0 H0 Er f)) :
    PE X (.Call (.Name "isinstance" p) [x, .Name (tyS t) p2] [] pos) (TEv G0 H0 Er fun ρ => mb (f ρ) fun u => PV.op ((isiD t u.1).map fun b => (.bl b, .sh))) := by
  have hT : PE X (.Name (tyS t) p2) (tC (.ty (tyS t))) := by
    cases t
    · exact pe_bltn hgt hmt (by decide +kernel) rfl
    · exact pe_bltn hgt hmt (by decide +kernel) rfl
    · exact pe_bltn hgt hmt (by decide +kernel) rfl
    · exact pe_bltn hgt hmt (by decide +kernel) rfl
  have ha : PA X [x, .Name (tyS t) p2] (tCons (TEv G0 H0 Er f) (tCons (tC (.ty (tyS t))) tNil)) := pa_cons hx (one_arg rfl hT) (starEach_nst hs)
  refine r_one (o := fun d => (isiD t d).map fun b => (.bl b, .sh)) (r := fun v H Q => rIsi X.K [v, .ty (tyS t)] H Q) (fun Hs G H σ ρ v x z Q sh s rv e q => ?_)
    (pe_callB call_isi hg hm (by decide +kernel) ha (by decide) (by decide) (starEach_nst hs) rfl)
  obtain ⟨x, tx⟩ := x
  rw [Option.map_eq_some_iff] at e
  obtain ⟨b, e, rfl⟩ := e
  obtain ⟨n, h1, h2⟩ := isi_kit t x b e
  exact ⟨v, .ty (tyS t), .type n, .type (tyS t), b, rfl, .ty _, rv.tyX (X := X) s h1, kit_ty h2, sc s (.bl _) q⟩
/-! ### list(range(n)), tuple(range(n)) -/
theorem r_lrng {f : Rho → M (D × Tg)} (tu : Bool) {n : Str} (hc : X.calm = true) (hgr : Gl X "range") (hmr : X.mg "range" = none) (hg : Gl X n) (hm : X.mg n = none) (hn : n = if tu then "tuple" else "list") (hs : nst x = true) (hx : PE X x (TEv G0 H0 Er f)) :
    PE X (.Call (.Name n p) [.Call (.Name "range" p2) [x] [] p3] [] pos) (TEv G0 H0 Er fun ρ => mb (f ρ) fun u => mb (intM u.1) fun n => if n ≤ top ∧ 0 ≤ n then
      ok (if tu then (.tup ((List.range n.toNat).map fun i => .int (i : Nat)), .sh) else (.lst ((List.range n.toNat).map fun i => .int (i : Nat)), .fr)) else none) := by
  have hR := prg_1 (p := p2) (pos := p3) hgr hmr hx (starEach_nst hs)
  have rg : ∀ n : Int, rgV 0 n = (List.range n.toNat).map fun i => V.int ((i : Nat) : Int) := fun n => by
    unfold rgV
    rw [Int.sub_zero]
    congr 1
    funext i
    rw [Int.zero_add]
  have okr : ∀ n : Int, n ≤ top ∧ 0 ≤ n → RgOk 0 n := fun n h => RgOk.of_le (Int.le_refl 0) (by have := h.1; unfold top at this; omega) (by decide) h.2
  cases tu with
  | true =>
    subst hn
    refine PE.imp (pe_tupRg hc hg hm hR) fun σ H Q h => ?_
    obtain ⟨G, ρ, s, h⟩ := h
    refine ⟨G, ρ, s, h.bind.imp fun a G1 H1 x q v r => ?_⟩
    obtain ⟨a, ta⟩ := a
    obtain ⟨i, rfl, q2⟩ := q.bind.intm
    have q3 := q2 G1 H1 (Ext.refl x.gh)
    by_cases hl : i ≤ top ∧ 0 ≤ i
    · rw [if_pos hl] at q3
      refine ⟨i, r.int, okr i hl, fun n hn => ?_⟩
      rw [rg]
      exact new_tup x.gh (RpL.map_int _ _) (fun u G' H' e r => q3 G' H' e u r) hn
    · rw [if_neg hl] at q3; exact absurd q3 (by intro z; exact z)
  | false =>
    subst hn
    refine PE.imp (pe_listRg hc hg hm hR) fun σ H Q h => ?_
    obtain ⟨G, ρ, s, h⟩ := h
    refine ⟨G, ρ, s, h.bind.imp fun a G1 H1 x q v r => ?_⟩
    obtain ⟨a, ta⟩ := a
    obtain ⟨i, rfl, q2⟩ := q.bind.intm
    have q3 := q2 G1 H1 (Ext.refl x.gh)
    by_cases hl : i ≤ top ∧ 0 ≤ i
    · rw [if_pos hl] at q3
      refine ⟨i, r.int, okr i hl, fun n hn => ?_⟩
      rw [rg]
      exact new_lst x.hh x.gh (RpL.map_int _ _) (fun u G' H' e r => q3 G' H' e u r) hn
    · rw [if_neg hl] at q3; exact absurd q3 (by intro z; exact z)
end
end PV

set_option Elab.async false
set_option linter.all false
set_option maxRecDepth 100000
set_option maxHeartbeats 2000000
/-! PV: what is walked: lists and tuples, zip and enumerate of any mix of them, ranges. -/
namespace PV
open PySem PySem.Spec PyProof.Rows L2
variable [ScrK]

/-- k: a list (true), a tuple (false) -/
def SqK (k : Bool) (K : PySem.W.Frag) (H : Hp) (a : Addr) (xs : List V) : Prop := if k = true then SqL K H a xs else SqT K H a xs
def StK (k : Bool) (h : Heap) (it a : Addr) (i : Nat) : Prop := if k = true then h.IsListIter it a i else h.IsTupleIter it a i
def DtK (k : Bool) (h : Heap) (a : Addr) (its : Array Value) : Prop := if k = true then h.IsList a its else h.IsTuple a its
def itObj (k : Bool) (a : Addr) : Obj := if k = true then { cls := .type "list_iterator", data := .fields #[.ref a, .int 0 0] } else { cls := .type "tuple_iterator", data := .fields #[.ref a, .int 0 0] }
section
variable {P : Program} {w : World} {K : PySem.W.Frag} {X : Cx} {pins : List (Addr × Obj)} {σ : L2.St} {H : Hp} {s : Shared} {k k2 : Bool}
theorem sqK_data {a : Addr} {xs : List V} (I : Inv X pins σ H s) (h : SqK k X.K H a xs) : ∃ its : List Value, Vals xs its ∧ DtK k s.heap a its.toArray := by
  cases k with
  | true => obtain ⟨its, r, p, _⟩ := I.list (show SqL X.K H a xs from h); exact ⟨its, r, p.isList⟩
  | false => obtain ⟨its, r, p, _⟩ := I.tuple (show SqT X.K H a xs from h); exact ⟨its, r, p⟩
theorem sqK_inj {a : Addr} {xs ys : List V} (I : Inv X pins σ H s) (h : SqK k X.K H a xs) (h' : SqK k X.K H a ys) : xs = ys := by
  cases k with
  | true => exact I.list_inj (show SqL X.K H a xs from h) (show SqL X.K H a ys from h')
  | false => exact I.tuple_inj (show SqT X.K H a xs from h) (show SqT X.K H a ys from h')
theorem dtK_lt {h : Heap} {a : Addr} {its : Array Value} (x : DtK k h a its) : a < h.objs.size := by
  cases k with
  | true => obtain ⟨o, e, _⟩ := (show h.IsList a its from x); exact Heap.lt_size e
  | false => obtain ⟨o, e, _⟩ := (show h.IsTuple a its from x); exact Heap.lt_size e
theorem stK_at {h h' : Heap} {it a : Addr} {i : Nat} (x : StK k h it a i) (q : ∀ o, h.get? it = some o → h'.get? it = some o) : StK k h' it a i := by
  cases k with
  | true => exact (show h.IsListIter it a i from x).at q
  | false => exact (show h.IsTupleIter it a i from x).at q
theorem stK_obj {h : Heap} {it a : Addr} {i : Nat} (x : StK k h it a i) : ∃ o, h.get? it = some o ∧ ∀ v, o.data ≠ .cell v := by
  cases k with
  | true => obtain ⟨o, e, _, d⟩ := (show h.IsListIter it a i from x); exact ⟨o, e, fun v z => by rw [d] at z; cases z⟩
  | false => obtain ⟨o, e, _, d⟩ := (show h.IsTupleIter it a i from x); exact ⟨o, e, fun v z => by rw [d] at z; cases z⟩
theorem stK_new {h : Heap} {it a : Addr} (e : h.get? it = some (itObj k a)) : StK k h it a 0 := by
  cases k with
  | true => exact ⟨_, e, rfl, rfl⟩
  | false => exact ⟨_, e, rfl, rfl⟩
theorem drawsK {A : Around} (hh : A.handled = none) (it a : Addr) (hne : a ≠ it) (its : Array Value) :
    Draws P w A it [it, a] its.size (fun i v => its[i]? = some v) (fun i h => StK k h it a i ∧ DtK k h a its) := by
  cases k with
  | true => exact Draws.list hh it a hne its
  | false => exact Draws.tuple hh it a hne its
theorem beginsK (a : Addr) (its : Array Value) : Begins (.ref a) (itObj k a) (fun h => DtK k h a its) := by
  cases k with
  | true => exact begins_list a its
  | false => exact begins_tuple a its

/-- a new pair is tracked, our own cells have turned -/
theorem pair_new {h' : Heap} {T : Addr} {x y : V} {u v : Value} {ch : List Addr} {t' : Nat} (I : Inv X pins σ H s) (kk : ∀ b o, b ∉ ch → s.heap.get? b = some o → h'.get? b = some o) (hf : ∀ b ∈ ch, FpOk X pins H b)
    (hT : s.heap.objs.size ≤ T) (rx : RelV x u) (ry : RelV y v) (ht : h'.IsTuple T #[u, v]) : Inv X pins σ (upd H T (.tup [x, y])) { s with heap := h', toks := t' } :=
  I.turnedNew kk hf hT ⟨by show 2 ≤ sizeLine; rw [sizeLine_eq]; decide, [u, v], .cons rx (.cons ry .nil), ht⟩

/-! ### zip -/
def ItzG (k k2 : Bool) (K : PySem.W.Frag) (a b : Addr) : It :=
  ⟨fun i H => ∃ (xs ys : List V) (x y : V), SqK k K H a xs ∧ SqK k2 K H b ys ∧ xs[i]? = some x ∧ ys[i]? = some y,
    fun i H v H' => ∃ T x y, v = .ref T ∧ H T = none ∧ H' = upd H T (.tup [x, y]) ∧ (∀ xs, SqK k K H a xs → xs[i]? = some x) ∧ ∀ ys, SqK k2 K H b ys → ys[i]? = some y,
    fun i H => ∃ xs ys : List V, SqK k K H a xs ∧ SqK k2 K H b ys ∧ i = min xs.length ys.length⟩
theorem turn_zipG {elts : List Expr} {kk : Nat} {tpos : Pos} (a b z TI TO i1 i2 : Addr) (S : ZipSep2 z TI TO i1 i2 [i1, a] [i2, b]) (h1 : a ≠ i1) (h2 : b ≠ i2) :
    Turn P w K (.Tuple elts kk tpos) (ItzG k k2 K a b) [z, TI, TO, i1, i2] z
      (fun i h => IsZip h z TI TO .none ∧ IsTupOf2 h TI (.ref i1) (.ref i2) ∧ (∃ x y, IsTupOf2 h TO x y) ∧ StK k h i1 a i ∧ StK k2 h i2 b i) where
  mem := by simp
  obj := fun i h st c hc => by
    obtain ⟨hz, hTI, ⟨x, y, hTO⟩, s1, s2⟩ := st
    simp only [List.mem_cons, List.not_mem_nil, or_false] at hc
    rcases hc with q | q | q | q | q <;> subst q
    · exact ⟨_, hz, fun v q => nomatch q⟩
    · exact ⟨_, hTI, fun v q => nomatch q⟩
    · exact ⟨_, hTO, fun v q => nomatch q⟩
    · exact stK_obj s1
    · exact stK_obj s2
  keep := fun i h h' st q => by
    obtain ⟨hz, hTI, ⟨x, y, hTO⟩, s1, s2⟩ := st
    exact ⟨q z (by simp) _ hz, q TI (by simp) _ hTI, ⟨x, y, q TO (by simp) _ hTO⟩, stK_at s1 fun o e => q i1 (by simp) o e, stK_at s2 fun o e => q i2 (by simp) o e⟩
  item := by
    intro X hP hw hK hc i pins s σ H E I hf st hg
    subst hP hw hK
    obtain ⟨hz, hTI, hTO, s1, s2⟩ := st
    obtain ⟨xs, ys, x, y, qx, qy, ex, ey⟩ := hg
    obtain ⟨its, r1, d1⟩ := sqK_data I qx
    obtain ⟨its2, r2, d2⟩ := sqK_data I qy
    obtain ⟨u, eu, ru⟩ := r1.get ex
    obtain ⟨v, ev, rv⟩ := r2.get ey
    have hh : X.A.in1.handled = none := I.ok.hd hc
    have W := WalksT.zipD2 S (drawsK (P := X.prog) (w := X.w) (k := k) hh i1 a h1 its.toArray) (drawsK (P := X.prog) (w := X.w) (k := k2) hh i2 b h2 its2.toArray)
    have hi : i < min its.toArray.size its2.toArray.size := by
      have a1 := (List.getElem?_eq_some_iff.mp eu).1
      have a2 := (List.getElem?_eq_some_iff.mp ev).1
      simp only [List.size_toArray]
      omega
    refine W.item i s _ _ hi ⟨hz, hTI, hTO, ⟨s1, d1⟩, ⟨s2, d2⟩⟩ fun T vals h' tk hv hT tt mid q => ⟨_, rfl, ?_⟩
    refine W.go elts kk tpos i T { s with heap := h', toks := tk } _ _ mid fun h'' st'' q' => ?_
    obtain ⟨u', v', eu', ev', rfl⟩ := hv
    have eu2 : u' = u := by
      rw [List.getElem?_toArray, eu] at eu'
      exact (Option.some.inj eu').symm
    have ev2 : v' = v := by
      rw [List.getElem?_toArray, ev] at ev'
      exact (Option.some.inj ev').symm
    subst eu2 ev2
    have ht : h''.IsTuple T #[u', v'] := tt.at fun o e => q' T o (W.apart i T h' mid) e
    have sub : ∀ c, c ∉ [z, TI, TO, i1, i2] → c ∉ [z, TO, i1, i2] := fun c hc hm => hc (by simp only [List.mem_cons, List.not_mem_nil, or_false] at hm ⊢; rcases hm with q | q | q | q <;> simp [q])
    have J := pair_new (t' := tk) I (ch := [z, TI, TO, i1, i2]) (fun c o hcm e => q' c o (sub c hcm) (q c o (sub c hcm) e)) hf hT ru rv ht
    obtain ⟨z1, z2, z3, ⟨z4, _⟩, z5, _⟩ := st''
    refine ⟨.ref T, _, J, rfl, ⟨T, x, y, rfl, I.hok.fresh hT, rfl, fun l hl => by rw [sqK_inj I hl qx]; exact ex, fun l hl => by rw [sqK_inj I hl qy]; exact ey⟩, ⟨z1, z2, z3, z4, z5⟩, fun c hcm => ?_⟩
    have hl : c < s.heap.objs.size := by
      simp only [List.mem_cons, List.not_mem_nil, or_false] at hcm
      obtain ⟨_, _, hTO'⟩ := hTO
      rcases hcm with q | q | q | q | q <;> subst q
      · exact Heap.lt_size hz
      · exact Heap.lt_size hTI
      · exact Heap.lt_size hTO'
      · obtain ⟨_, e, _⟩ := stK_obj s1; exact Heap.lt_size e
      · obtain ⟨_, e, _⟩ := stK_obj s2; exact Heap.lt_size e
    rw [upd_ne (Nat.ne_of_lt (Nat.lt_of_lt_of_le hl hT))]
    exact (hf c hcm).1
  done := by
    intro X hP hw hK hc i pins s σ H E I hf st hg
    subst hP hw hK
    obtain ⟨hz, hTI, hTO, s1, s2⟩ := st
    obtain ⟨xs, ys, qx, qy, ei⟩ := hg
    obtain ⟨its, r1, d1⟩ := sqK_data I qx
    obtain ⟨its2, r2, d2⟩ := sqK_data I qy
    have hh : X.A.in1.handled = none := I.ok.hd hc
    have W := WalksT.zipD2 S (drawsK (P := X.prog) (w := X.w) (k := k) hh i1 a h1 its.toArray) (drawsK (P := X.prog) (w := X.w) (k := k2) hh i2 b h2 its2.toArray)
    have e : i = min its.toArray.size its2.toArray.size := by
      have l1 := r1.length
      have l2 := r2.length
      simp only [List.size_toArray]
      omega
    subst e
    have sub : ∀ c, c ∉ [z, TI, TO, i1, i2] → c ∉ [z, TO, i1, i2] := fun c hc hm => hc (by simp only [List.mem_cons, List.not_mem_nil, or_false] at hm ⊢; rcases hm with q | q | q | q <;> simp [q])
    exact W.done s _ _ ⟨hz, hTI, hTO, ⟨s1, d1⟩, ⟨s2, d2⟩⟩ fun h' tk q => ⟨rfl, I.turnedL (t' := tk) (ch := [z, TI, TO, i1, i2]) (fun c o hcm e => q c o (sub c hcm) e) hf⟩
  self := fun A i s Q E st h => wpAny_pyIter_zip st.1 h
def iZipG (K : PySem.W.Frag) (ta : TA) : TI := fun σ H R => ta σ H fun vs H1 => ∃ a b xs ys k k2, vs = [.ref a, .ref b] ∧ SqK k K H1 a xs ∧ SqK k2 K H1 b ys ∧ R (ItzG k k2 K a b) H1
theorem pi_zipG {e e2 : Expr} {ta : TA} {p pos tpos : Pos} {elts : List Expr} {kk : Nat} (hg : Gl X "zip") (hm : X.mg "zip" = none) (ha : PA X [e, e2] ta) (n1 : nst e = true) (n2 : nst e2 = true) :
    PI X (.Tuple elts kk tpos) (.Call (.Name "zip" p) [e, e2] [] pos) (iZipG X.K ta) := by
  refine ⟨fun pins s σ H R I h => ?_⟩
  refine Call_ (ld_blt I hg hm PyProof.Rows.boot_zip (PyProof.Rows.callWith_type1 (thn (ha.run pos pins s σ H _ I h) fun us s1 hv => ?_) (starEach_nst n1) (starEach_all (es := [e2]) (by simp [n2]))))
  obtain ⟨vs, H1, I1, r1, a, b, xs, ys, k, k2, rfl, qx, qy, q⟩ := hv
  obtain ⟨_, _, rfl, ra, rb⟩ := Vals.two r1
  cases ra
  cases rb
  obtain ⟨its, w1, d1⟩ := sqK_data I1 qx
  obtain ⟨its2, w2, d2⟩ := sqK_data I1 qy
  have la := dtK_lt d1
  have lb := dtK_lt d2
  refine zip_begins2 (beginsK (k := k) a its.toArray) (beginsK (k := k2) b its2.toArray) d1 d2 fun h' hz hTI hTO g1 g2 hsz hk => wpAny_pyIter_zip hz ?_
  have I2 : Inv X pins σ H1 { s1 with heap := h' } := I1.kept (t' := s1.toks) hk
  have sep := zip_sep2 (N := s1.heap.objs.size) (fp1 := [a]) (fp2 := [b]) (fun c hc => by simp only [List.mem_singleton] at hc; subst hc; exact la) (fun c hc => by simp only [List.mem_singleton] at hc; subst hc; exact lb)
  refine ⟨s1.heap.objs.size + 4, [s1.heap.objs.size + 4, s1.heap.objs.size + 2, s1.heap.objs.size + 3, s1.heap.objs.size, s1.heap.objs.size + 1], _, _, H1, rfl, I2,
    turn_zipG a b _ _ _ _ _ sep (Nat.ne_of_lt la) (Nat.ne_of_lt (Nat.lt_succ_of_lt lb)), ⟨hz, hTI, ⟨_, _, hTO⟩, stK_new g1, stK_new g2⟩, fun c hc => ?_, q⟩
  have hle : s1.heap.objs.size ≤ c := by
    simp only [List.mem_cons, List.not_mem_nil, or_false] at hc
    rcases hc with q | q | q | q | q <;> subst q <;> first | exact Nat.le_add_right _ _ | exact Nat.le_refl _
  exact I1.fpOk hle (I1.hok.fresh hle)

/-! ### enumerate -/
def IteG (k : Bool) (K : PySem.W.Frag) (a : Addr) : It :=
  ⟨fun i H => ∃ (xs : List V) (x : V), SqK k K H a xs ∧ xs[i]? = some x, fun i H v H' => ∃ T x, v = .ref T ∧ H T = none ∧ H' = upd H T (.tup [.int (i : Nat), x]) ∧ ∀ xs, SqK k K H a xs → xs[i]? = some x,
    fun i H => ∃ xs : List V, SqK k K H a xs ∧ i = xs.length⟩
theorem turn_enumG {elts : List Expr} {kk : Nat} {tpos : Pos} (a e it : Addr) (hei : e ≠ it) (hea : e ≠ a) (hai : a ≠ it) :
    Turn P w K (.Tuple elts kk tpos) (IteG k K a) [e, it] e (fun i h => (∃ old, IsEnum h e it ((0 : Int) + (i : Int)) old) ∧ StK k h it a i) where
  mem := by simp
  obj := fun i h st c hc => by
    obtain ⟨⟨old, he⟩, s1⟩ := st
    simp only [List.mem_cons, List.not_mem_nil, or_false] at hc
    rcases hc with q | q <;> subst q
    · exact ⟨_, he, fun v q => nomatch q⟩
    · exact stK_obj s1
  keep := fun i h h' st q => by
    obtain ⟨⟨old, he⟩, s1⟩ := st
    exact ⟨⟨old, q e (by simp) _ he⟩, stK_at s1 fun o e => q it (by simp) o e⟩
  item := by
    intro X hP hw hK hc i pins s σ H E I hf st hg
    subst hP hw hK
    obtain ⟨he, s1⟩ := st
    obtain ⟨xs, x, qx, ex⟩ := hg
    obtain ⟨its, r1, d1⟩ := sqK_data I qx
    obtain ⟨u, eu, ru⟩ := r1.get ex
    have hh : X.A.in1.handled = none := I.ok.hd hc
    have W := WalksT.enumFrom 0 (drawsK (P := X.prog) (w := X.w) (k := k) hh it a hai its.toArray) e hei (by simp [hei, hea]) (by simp)
    have hi : i < its.toArray.size := by
      have a1 := (List.getElem?_eq_some_iff.mp eu).1
      simpa using a1
    refine W.item i s _ _ hi ⟨he, s1, d1⟩ fun T vals h' tk hv hT tt mid q => ⟨_, rfl, ?_⟩
    refine W.go elts kk tpos i T { s with heap := h', toks := tk } _ _ mid fun h'' st'' q' => ?_
    obtain ⟨t, u', eu', rfl⟩ := hv
    have eu2 : u' = u := by
      rw [List.getElem?_toArray, eu] at eu'
      exact (Option.some.inj eu').symm
    subst eu2
    have ht : h''.IsTuple T #[.int (0 + (i : Int)) t, u'] := tt.at fun o e => q' T o (W.apart i T h' mid) e
    have J := pair_new (t' := tk) I (ch := [e, it]) (fun c o hcm e => q' c o hcm (q c o hcm e)) hf hT (x := .int (i : Nat)) (u := .int (0 + (i : Int)) t) ⟨t, by rw [Int.zero_add]⟩ ru ht
    obtain ⟨z1, z2, _⟩ := st''
    refine ⟨.ref T, _, J, rfl, ⟨T, x, rfl, I.hok.fresh hT, rfl, fun l hl => by rw [sqK_inj I hl qx]; exact ex⟩, ⟨z1, z2⟩, fun c hcm => ?_⟩
    have hl : c < s.heap.objs.size := by
      simp only [List.mem_cons, List.not_mem_nil, or_false] at hcm
      obtain ⟨_, he'⟩ := he
      rcases hcm with q | q <;> subst q
      · exact Heap.lt_size he'
      · obtain ⟨_, e, _⟩ := stK_obj s1; exact Heap.lt_size e
    rw [upd_ne (Nat.ne_of_lt (Nat.lt_of_lt_of_le hl hT))]
    exact (hf c hcm).1
  done := by
    intro X hP hw hK hc i pins s σ H E I hf st hg
    subst hP hw hK
    obtain ⟨he, s1⟩ := st
    obtain ⟨xs, qx, ei⟩ := hg
    obtain ⟨its, r1, d1⟩ := sqK_data I qx
    have hh : X.A.in1.handled = none := I.ok.hd hc
    have W := WalksT.enumFrom 0 (drawsK (P := X.prog) (w := X.w) (k := k) hh it a hai its.toArray) e hei (by simp [hei, hea]) (by simp)
    have e : i = its.toArray.size := by
      have l1 := r1.length
      simp only [List.size_toArray]
      omega
    subst e
    exact W.done s _ _ ⟨he, s1, d1⟩ fun h' tk q => ⟨rfl, I.turnedL (t' := tk) (ch := [e, it]) (fun c o hcm e => q c o hcm e) hf⟩
  self := fun A i s Q E st h => by obtain ⟨⟨old, he⟩, _⟩ := st; exact wpAny_pyIter_enum he h
/-- enumerate(v) of one argument: its two new cells -/
theorem meets_enum1 {v : Value} {o : Obj} {D : Heap → Prop} (B : Begins v o D) :
    Meets (Builtin.«enumerate.__new__» ⟨[.type "enumerate", v], []⟩) fun _ R s => D s.heap ∧
      R (.ok (.ret (.ref (s.heap.push o).objs.size))) { s with heap := (s.heap.push o).push { cls := .type "enumerate", data := .fields #[.none, .bool false, .ref s.heap.objs.size, rawInt 0, .none, .none] } } :=
  .of_wp fun prog w A R s h => by
    obtain ⟨hp, g, d, tk, os⟩ := s
    obtain ⟨h1, h⟩ := h
    have sub := sub_enumerate
    have q1 : ∀ {A' : Around} {E : Value → Shared → Prop} {Q : Value → Shared → Prop}, Q (.ref hp.objs.size) ⟨hp.push o, g, d, tk, os⟩ → wpAny (model prog w) A' (pyIter v) Q E ⟨hp, g, d, tk, os⟩ :=
      fun q => B.iter prog w _ _ ⟨hp, g, d, tk, os⟩ _ h1 q
    wp_walk using q1
    refine wpAny_stack_any fun st => wpAny_pure ?_
    split
    · rename_i c _ _ _ _ _
      cases hc : (c == Value.type "enumerate") <;> (wp_walk using q1; exact ⟨_, rfl, h⟩)
    · wp_walk using q1; exact ⟨_, rfl, h⟩
theorem call_enum1 {A : Around} {E : Value → Shared → Prop} {v : Value} {o : Obj} {D : Heap → Prop} {Q : Value → Shared → Prop} (B : Begins v o D) (h1 : D s.heap)
    (h : ∀ h', IsEnum h' (s.heap.objs.size + 1) s.heap.objs.size 0 .none → h'.get? s.heap.objs.size = some o → (∀ b o, s.heap.get? b = some o → h'.get? b = some o) → Q (.ref (s.heap.objs.size + 1)) { s with heap := h' }) :
    wpAny (model P w) A (call (.type "enumerate") [v]) Q E s := by
  refine callType_new F.called_enumerate (by decide) (F.typeCall_enumerate_1 _) (F.newCall_enumerate_1 _) (fun obj => F.args_object_init_2 obj _) F.entry_enumerate_new (meets_enum1 B) ⟨h1, ?_⟩
  have hz : (s.heap.push o).objs.size = s.heap.objs.size + 1 := Heap.size_push ..
  have g0 := Heap.get?_push_size (s.heap.push o) (o := { cls := .type "enumerate", data := .fields #[.none, .bool false, .ref s.heap.objs.size, rawInt 0, .none, .none] }) rfl
  rw [hz] at g0
  show _ ∧ _
  rw [hz]
  exact ⟨⟨_, g0, rfl⟩, h _ g0 (Heap.get?_push_of_some _ (Heap.get?_push_size _ B.free)) fun b o x => Heap.get?_push_of_some _ (Heap.get?_push_of_some _ x)⟩
def iEnumG (K : PySem.W.Frag) (ta : TA) : TI := fun σ H R => ta σ H fun vs H1 => ∃ a xs k, vs = [.ref a] ∧ SqK k K H1 a xs ∧ R (IteG k K a) H1
theorem pi_enumG {e : Expr} {ta : TA} {p pos tpos : Pos} {elts : List Expr} {kk : Nat} (hg : Gl X "enumerate") (hm : X.mg "enumerate" = none) (ha : PA X [e] ta) (n1 : nst e = true) :
    PI X (.Tuple elts kk tpos) (.Call (.Name "enumerate" p) [e] [] pos) (iEnumG X.K ta) := by
  refine ⟨fun pins s σ H R I h => ?_⟩
  refine Call_ (ld_blt I hg hm boot_enumerate (PyProof.Rows.callWith_type1 (thn (ha.run pos pins s σ H _ I h) fun us s1 hv => ?_) (starEach_nst n1) rfl))
  obtain ⟨vs, H1, I1, r1, a, xs, k, rfl, qx, q⟩ := hv
  obtain ⟨_, rfl, ra⟩ := Vals.one r1
  cases ra
  obtain ⟨its, w1, d1⟩ := sqK_data I1 qx
  have la := dtK_lt d1
  refine call_enum1 (beginsK (k := k) a its.toArray) d1 fun h' he g1 hk => wpAny_pyIter_enum he ?_
  have I2 : Inv X pins σ H1 { s1 with heap := h' } := I1.kept (t' := s1.toks) hk
  refine ⟨s1.heap.objs.size + 1, [s1.heap.objs.size + 1, s1.heap.objs.size], _, _, H1, rfl, I2, turn_enumG a _ _ (Nat.succ_ne_self _) (Nat.ne_of_gt (Nat.lt_succ_of_lt la)) (Nat.ne_of_lt la), ⟨⟨.none, he⟩, stK_new g1⟩, fun c hc => ?_, q⟩
  have hle : s1.heap.objs.size ≤ c := by
    simp only [List.mem_cons, List.not_mem_nil, or_false] at hc
    rcases hc with q | q <;> subst q <;> first | exact Nat.le_add_right _ _ | exact Nat.le_refl _
  exact I1.fpOk hle (I1.hok.fresh hle)

/-! ### a list or a tuple itself -/
def iSeqG (K : PySem.W.Frag) (te : TE) : TI := fun σ H R => te σ H fun x H1 => ∃ a xs, x = .ref a ∧ ((SqL K H1 a xs ∧ R (Itl K a) H1) ∨ (SqT K H1 a xs ∧ R (Itt K a) H1))
theorem pi_seqG {tg e : Expr} {te : TE} (he : PE X e te) : PI X tg e (iSeqG X.K te) := by
  refine ⟨fun pins s σ H R I h => ?_⟩
  refine thn (he.run pins s σ H _ I h) fun v s1 hv => ?_
  obtain ⟨x, H1, I1, r1, a, xs, rfl, q⟩ := hv
  cases r1
  have fin : ∀ (o : Obj) (J : It) (tn : Nat → Heap → Prop), (o.isFreed = false) → Turn X.prog X.w X.K tg J [s1.heap.objs.size] s1.heap.objs.size tn → (∀ h : Heap, h.get? s1.heap.objs.size = some o → tn 0 h) → R J H1 → PIE X pins σ tg R (.ref s1.heap.objs.size) { s1 with heap := s1.heap.push o } := by
    intro o J tn ho T t0 q
    refine ⟨s1.heap.objs.size, [s1.heap.objs.size], tn, J, H1, rfl, I1.kept (t' := s1.toks) fun b o e => Heap.get?_push_of_some _ e, T, t0 _ (Heap.get?_push_size _ ho), fun b hb => ?_, q⟩
    obtain rfl := List.mem_singleton.mp hb
    exact I1.fpOk (Nat.le_refl _) (I1.hok.fresh (Nat.le_refl _))
  rcases q with ⟨q, qr⟩ | ⟨q, qr⟩
  · obtain ⟨its, rv, d, _⟩ := I1.list q
    exact wpAny_pyIter_list d.isList (fin _ _ _ rfl (turn_list a _) (fun h e => ⟨_, e, rfl, rfl⟩) qr)
  · obtain ⟨its, rv, d, _⟩ := I1.tuple q
    exact wpAny_pyIter_tuple (show s1.heap.IsTuple a its.toArray from d) (fin _ _ _ rfl (turn_tuple a _) (fun h e => ⟨_, e, rfl, rfl⟩) qr)
end
end PV

set_option Elab.async false
set_option linter.all false
set_option maxRecDepth 100000
set_option maxHeartbeats 2000000
/-! PV: calls, what is walked, comprehensions. -/
namespace PV
open PySem PySem.Spec PyProof.Rows L2
variable [ScrK]

/-! ### slots changed -/
section
variable {G0 H0 G H : Hp} {σ : L2.St} {ρ : Rho}
theorem get_set_eq {α : Type} {l : List α} {i : Nat} {a b : α} (h : (l.set i a)[i]? = some b) : b = a := by
  by_cases hi : i < l.length
  · rw [List.getElem?_set_self hi] at h
    exact (Option.some.inj h).symm
  · rw [List.getElem?_eq_none (by simp; omega)] at h; cases h
theorem SRel.set_va (s : SRel G0 H0 G H σ ρ) {i : Nat} {v : V} {d : D} (r : Rp G v d) : SRel G0 H0 G H (σ.set i (some v)) (ρ.set i (.va d)) := by
  have ne : ∀ (j : Nat) (c : List D), (ρ.set i (.va d))[j]? = some (.ow c) → i ≠ j := fun j c e z => by
    subst z
    have q := get_set_eq e
    cases q
  refine ⟨s.ext, by simp [s.len], fun j e h => ?_, fun j ds h => ?_, fun j k ds es p h1 h2 h3 h4 => ?_⟩
  · by_cases hj : i = j
    · subst hj
      have q := get_set_eq h
      cases q
      have hi : i < σ.length := by
        rw [s.len]
        by_cases q : i < ρ.length
        · exact q
        · rw [List.getElem?_eq_none (by simp; omega)] at h; cases h
      exact ⟨v, List.getElem?_set_self hi, r⟩
    · rw [List.getElem?_set_ne hj] at h ⊢
      exact s.va j e h
  · have hj := ne j ds h
    rw [List.getElem?_set_ne hj] at h ⊢
    exact s.ow j ds h
  · have hj := ne j ds h1
    have hk := ne k es h2
    rw [List.getElem?_set_ne hj] at h1 h3
    rw [List.getElem?_set_ne hk] at h2 h4
    exact s.inj j k ds es p h1 h2 h3 h4
theorem SRel.set_no (s : SRel G0 H0 G H σ ρ) {i : Nat} : SRel G0 H0 G H (σ.set i none) (ρ.set i .no) := by
  have ne : ∀ (j : Nat) (c : List D), (ρ.set i .no)[j]? = some (.ow c) → i ≠ j := fun j c e z => by
    subst z
    have q := get_set_eq e
    cases q
  refine ⟨s.ext, by simp [s.len], fun j e h => ?_, fun j ds h => ?_, fun j k ds es p h1 h2 h3 h4 => ?_⟩
  · by_cases hj : i = j
    · subst hj
      have q := get_set_eq h
      cases q
    · rw [List.getElem?_set_ne hj] at h ⊢
      exact s.va j e h
  · have hj := ne j ds h
    rw [List.getElem?_set_ne hj] at h ⊢
    exact s.ow j ds h
  · have hj := ne j ds h1
    have hk := ne k es h2
    rw [List.getElem?_set_ne hj] at h1 h3
    rw [List.getElem?_set_ne hk] at h2 h4
    exact s.inj j k ds es p h1 h2 h3 h4
/-- a new list that nobody holds becomes slot i's own -/
theorem SRel.set_ow (s : SRel G0 H0 G H σ ρ) {i : Nat} {p : Addr} {vs : List V} {ds : List D} (h0 : H0 p = none) (hg : G p = none) (hp : H p = some (.lst vs)) (r : RpL G vs ds)
    (hn : ∀ (j : Nat) (c : List D), ρ[j]? = some (.ow c) → σ[j]? ≠ some (some (.ref p))) : SRel G0 H0 G H (σ.set i (some (.ref p))) (ρ.set i (.ow ds)) := by
  refine ⟨s.ext, by simp [s.len], fun j e h => ?_, fun j cs h => ?_, fun j k cs es q h1 h2 h3 h4 => ?_⟩
  · by_cases hj : i = j
    · subst hj
      have q := get_set_eq h
      cases q
    · rw [List.getElem?_set_ne hj] at h ⊢
      exact s.va j e h
  · by_cases hj : i = j
    · subst hj
      have q := get_set_eq h
      cases q
      have hi : i < σ.length := by
        rw [s.len]
        by_cases q : i < ρ.length
        · exact q
        · rw [List.getElem?_eq_none (by simp; omega)] at h; cases h
      exact ⟨p, vs, List.getElem?_set_self hi, h0, hg, hp, r⟩
    · rw [List.getElem?_set_ne hj] at h ⊢
      exact s.ow j cs h
  · by_cases hj : i = j
    · by_cases hk : i = k
      · exact hj.symm.trans hk
      · rw [List.getElem?_set_ne hk] at h2 h4
        subst hj
        have e := get_set_eq h3
        cases e
        exact absurd h4 (hn k es h2)
    · rw [List.getElem?_set_ne hj] at h1 h3
      by_cases hk : i = k
      · subst hk
        have e := get_set_eq h4
        cases e
        exact absurd h3 (hn j cs h1)
      · rw [List.getElem?_set_ne hk] at h2 h4
        exact s.inj j k cs es q h1 h2 h3 h4
theorem SRel.wipe (s : SRel G0 H0 G H σ ρ) : ∀ vs : List Nat, SRel G0 H0 G H (L2.wipe σ vs) (wipeR ρ vs)
  | [] => s
  | v :: vs => by
    show SRel G0 H0 G H ((L2.wipe σ vs).set v none) ((wipeR ρ vs).set v .no)
    exact (SRel.wipe s vs).set_no
theorem wipe_get (σ : L2.St) (j : Nat) : ∀ vs : List Nat, (L2.wipe σ vs)[j]? = if j ∈ vs then (σ[j]?).map fun _ => none else σ[j]?
  | [] => by simp [L2.wipe]
  | v :: vs => by
    show ((L2.wipe σ vs).set v none)[j]? = _
    have ih := wipe_get σ j vs
    by_cases hv : v = j
    · subst hv
      have hl := wipe_length σ vs
      rw [if_pos List.mem_cons_self]
      by_cases hj : v < σ.length
      · rw [List.getElem?_set_self (by rw [hl]; exact hj), List.getElem?_eq_getElem hj]; rfl
      · rw [List.getElem?_eq_none (by simp [hl]; omega), List.getElem?_eq_none (by omega)]; rfl
    · rw [List.getElem?_set_ne hv, ih]
      by_cases hm : j ∈ vs
      · rw [if_pos hm, if_pos (List.mem_cons_of_mem _ hm)]
      · rw [if_neg hm, if_neg fun q => (List.mem_cons.mp q).elim (fun e => hv e.symm) hm]
theorem wipe_set (σ : L2.St) (vs : List Nat) {i : Nat} (h : i ∈ vs) (y : Option V) : L2.wipe (σ.set i y) vs = L2.wipe σ vs := by
  apply List.ext_getElem?
  intro j
  rw [wipe_get, wipe_get]
  by_cases hj : j ∈ vs
  · rw [if_pos hj, if_pos hj]
    by_cases hi : i = j
    · subst hi
      by_cases hl : i < σ.length
      · rw [List.getElem?_set_self hl, List.getElem?_eq_getElem hl]; rfl
      · rw [List.getElem?_eq_none (by simp; omega), List.getElem?_eq_none (by omega)]
    · rw [List.getElem?_set_ne hi]
  · have hi : i ≠ j := fun e => hj (e ▸ h)
    rw [if_neg hj, if_neg hj, List.getElem?_set_ne hi]
theorem wipe_wipe (σ : L2.St) (vs : List Nat) : L2.wipe (L2.wipe σ vs) vs = L2.wipe σ vs := by
  apply List.ext_getElem?
  intro j
  rw [wipe_get, wipe_get]
  by_cases hj : j ∈ vs
  · rw [if_pos hj, if_pos hj]
    cases σ[j]? <;> rfl
  · rw [if_neg hj, if_neg hj]
end

/-! ### targets -/
def gNames : List Nat → TGs
  | [] => gNil
  | i :: is => gCons (gName i) (gNames is)
def gT (K : PySem.W.Frag) (one : Bool) (tg : List Nat) : TG := if one = true then (match tg with | [i] => gName i | _ => fun _ _ _ _ => False) else gTup K tg.length (gNames tg)
theorem setAll_rel {G0 H0 G H : Hp} {Q : L2.St → Hp → Prop} (vs0 : List Nat) (σ0 : L2.St) : ∀ {is : List Nat} {ds : List D} {xs : List V} {σ : L2.St} {ρ ρ' : Rho}, SRel G0 H0 G H σ ρ → RpL G xs ds → setAll ρ is ds = some ρ' →
    (∀ σ', SRel G0 H0 G H σ' ρ' → ((∀ i ∈ is, i ∈ vs0) → wipe σ vs0 = σ0 → wipe σ' vs0 = σ0) → Q σ' H) → gNames is xs σ H Q
  | [], _, _, _, _, _, s, .nil, e, h => by cases e; exact ⟨rfl, h _ s fun _ q => q⟩
  | [], _, _, _, _, _, s, .cons _ _, e, h => by cases e
  | _ :: _, _, _, _, _, _, s, .nil, e, h => by cases e
  | i :: is, d :: ds, x :: xs, σ, ρ, ρ', s, .cons r t, e, h => by
    refine ⟨x, xs, rfl, ?_⟩
    exact setAll_rel vs0 σ0 (s.set_va r) t e fun σ' s' w => h σ' s' fun hm q => w (fun j hj => hm j (List.mem_cons_of_mem _ hj)) (by rw [wipe_set _ _ (hm i List.mem_cons_self)]; exact q)
theorem bindT_rel {K : PySem.W.Frag} {G0 H0 G H : Hp} {Q : L2.St → Hp → Prop} (vs0 : List Nat) (σ0 : L2.St) {one : Bool} {tg : List Nat} {d : D} {x : V} {σ : L2.St} {ρ ρ' : Rho} (s : SRel G0 H0 G H σ ρ) (r : Rp G x d) (e : bindT one tg d ρ = some ρ')
    (h : ∀ σ', SRel G0 H0 G H σ' ρ' → ((∀ i ∈ tg, i ∈ vs0) → wipe σ vs0 = σ0 → wipe σ' vs0 = σ0) → Q σ' H) : gT K one tg x σ H Q := by
  cases one with
  | true =>
    match tg, e with
    | [i], e =>
      cases e
      exact h _ (s.set_va r) fun hm q => by rw [wipe_set _ _ (hm i List.mem_cons_self)]; exact q
    | [], e => cases e
    | _ :: _ :: _, e => cases e
  | false =>
    cases d with
    | tup ds =>
      have e : setAll ρ tg ds = some ρ' := by cases tg <;> exact e
      cases r with
      | tup h1 h2 =>
        have hl : ∀ {is : List Nat} {ds : List D} {ρ : Rho}, setAll ρ is ds = some ρ' → is.length = ds.length := by
          intro is
          induction is with
          | nil => intro ds ρ e; cases ds <;> first | rfl | cases e
          | cons i is ih => intro ds ρ e; cases ds with
            | nil => cases e
            | cons d ds => simp [ih e]
        refine ⟨_, _, rfl, SqT.of (s.gh _ _ h1), by rw [h2.length, hl e], ?_⟩
        exact setAll_rel vs0 σ0 s h2 e h
    | _ => cases tg with
      | nil => cases e
      | cons a t => cases t <;> cases e

/-! ### what is walked -/
def ItOk (G : Hp) (J : It) (κ : Hp → Prop) (ds : List D) : Prop :=
  ∀ (i : Nat) (G2 H2 : Hp), Same G G2 → Same G2 H2 → κ H2 → (∀ d, ds[i]? = some d → J.go i H2 ∧ ∀ x H3, J.yld i H2 x H3 → ∃ G3, Ext G2 H2 G3 H3 ∧ Rp G3 x d) ∧ (i = ds.length → J.stop i H2)
def TIv (G0 H0 : Hp) (Er : Str → Prop) (f : Rho → M (List D × Tg)) : TI := fun σ H R => ∃ G ρ, SRel G0 H0 G H σ ρ ∧
  PM Er G H (f ρ) fun x G' H' => ∀ (J : It) (κ : Hp → Prop), κ H' → (∀ H1 H2, Same H1 H2 → κ H1 → κ H2) → ((∃ i, x.2 = .sl i) ∨ ∀ H, κ H) → ItOk G' J κ x.1 → R J H'
theorem ok_list {K : PySem.W.Frag} {G : Hp} {κ : Hp → Prop} {a : Addr} {xs : List V} {ds : List D} (r : RpL G xs ds) (h : ∀ G2 H2, Same G G2 → Same G2 H2 → κ H2 → SqL K H2 a xs) : ItOk G (Itl K a) κ ds := by
  intro i G2 H2 s1 s2 k
  have q := h G2 H2 s1 s2 k
  refine ⟨fun d e => ?_, fun e => ⟨xs, q, by rw [e, r.length]; exact Nat.le_refl _⟩⟩
  obtain ⟨v, e1, e2⟩ := r.get' e
  refine ⟨⟨xs, v, q, e1⟩, fun x H3 y => ?_⟩
  obtain ⟨rfl, y⟩ := y
  have z := y xs q
  rw [e1] at z
  cases z
  exact ⟨G2, Ext.refl s2, e2.mono s1⟩
theorem ok_tup {K : PySem.W.Frag} {G : Hp} {κ : Hp → Prop} {a : Addr} {xs : List V} {ds : List D} (r : RpL G xs ds) (h : ∀ G2 H2, Same G G2 → Same G2 H2 → κ H2 → SqT K H2 a xs) : ItOk G (Itt K a) κ ds := by
  intro i G2 H2 s1 s2 k
  have q := h G2 H2 s1 s2 k
  refine ⟨fun d e => ?_, fun e => ⟨xs, q, by rw [e, r.length]; exact Nat.le_refl _⟩⟩
  obtain ⟨v, e1, e2⟩ := r.get' e
  refine ⟨⟨xs, v, q, e1⟩, fun x H3 y => ?_⟩
  obtain ⟨rfl, y⟩ := y
  have z := y xs q
  rw [e1] at z
  cases z
  exact ⟨G2, Ext.refl s2, e2.mono s1⟩
theorem ok_rng {G : Hp} (lo : Int) (n : Nat) : ItOk G (Itr lo n) (fun _ => True) ((List.range n).map fun i => .int (lo + (i : Nat))) := by
  intro i G2 H2 s1 s2 k
  refine ⟨fun d e => ?_, fun e => by rw [List.length_map, List.length_range] at e; exact Nat.le_of_eq e.symm⟩
  rw [List.getElem?_map, Option.map_eq_some_iff] at e
  obtain ⟨j, e1, e2⟩ := e
  have hi : i < n := by
    have := (List.getElem?_eq_some_iff.mp e1).1
    simpa using this
  rw [List.getElem?_range hi] at e1
  cases e1
  refine ⟨hi, fun x H3 y => ?_⟩
  obtain ⟨rfl, rfl⟩ := y
  subst e2
  exact ⟨G2, Ext.refl s2, .int _⟩
/-- data as it is read: a list or a tuple that stands for good -/
theorem rp_items {K : PySem.W.Frag} (hK : K = ScrK.K) {G : Hp} {v : V} {d : D} {ds : List D} (r : Rp G v d) (e : items d = some ds) : ∃ a xs k, v = .ref a ∧ RpL G xs ds ∧ ∀ G2 H2, Same G G2 → Same G2 H2 → SqK k K H2 a xs := by
  cases r with
  | lst h1 h2 => cases e; exact ⟨_, _, true, rfl, h2, fun G2 H2 s1 s2 => SqL.of (s2 _ _ (s1 _ _ h1))⟩
  | tup h1 h2 => cases e; exact ⟨_, _, false, rfl, h2, fun G2 H2 s1 s2 => SqT.of (s2 _ _ (s1 _ _ h1))⟩
  | scr h1 => cases e; exact ⟨_, _, true, rfl, RpL.of_ints _, fun G2 H2 s1 s2 => by rw [hK]; exact s2.seq (s1.seq h1)⟩
  | _ => cases e
theorem ok_zip {K : PySem.W.Frag} {G : Hp} {a b : Addr} {xs ys : List V} {k k2 : Bool} {ds es : List D} (r1 : RpL G xs ds) (r2 : RpL G ys es) (h1 : ∀ G2 H2, Same G G2 → Same G2 H2 → SqK k K H2 a xs) (h2 : ∀ G2 H2, Same G G2 → Same G2 H2 → SqK k2 K H2 b ys) :
    ItOk G (ItzG k k2 K a b) (fun _ => True) ((ds.zip es).map fun p => .tup [p.1, p.2]) := by
  intro i G2 H2 s1 s2 _
  have q1 := h1 G2 H2 s1 s2
  have q2 := h2 G2 H2 s1 s2
  refine ⟨fun d e => ?_, fun e => ⟨xs, ys, q1, q2, by rw [e, List.length_map, List.length_zip, r1.length, r2.length]⟩⟩
  rw [List.getElem?_map, Option.map_eq_some_iff] at e
  obtain ⟨⟨d1, d2⟩, e1, e2⟩ := e
  subst e2
  rw [List.getElem?_zip_eq_some] at e1
  obtain ⟨v1, f1, g1⟩ := r1.get' e1.1
  obtain ⟨v2, f2, g2⟩ := r2.get' e1.2
  refine ⟨⟨xs, ys, v1, v2, q1, q2, f1, f2⟩, fun x H3 y => ?_⟩
  obtain ⟨T, x1, x2, rfl, hT, rfl, z1, z2⟩ := y
  have z1 := z1 xs q1
  have z2 := z2 ys q2
  rw [f1] at z1
  rw [f2] at z2
  cases z1
  cases z2
  have sm := same_upd (o := .tup [v1, v2]) (s2.free hT)
  exact ⟨_, Ext.shared s2 hT, .tup upd_same (.cons ((g1.mono s1).mono sm) (.cons ((g2.mono s1).mono sm) .nil))⟩
theorem ok_enum {K : PySem.W.Frag} {G : Hp} {a : Addr} {xs : List V} {k : Bool} {ds : List D} (r1 : RpL G xs ds) (h1 : ∀ G2 H2, Same G G2 → Same G2 H2 → SqK k K H2 a xs) :
    ItOk G (IteG k K a) (fun _ => True) (ds.zipIdx.map fun p => .tup [.int (p.2 : Nat), p.1]) := by
  intro i G2 H2 s1 s2 _
  have q1 := h1 G2 H2 s1 s2
  refine ⟨fun d e => ?_, fun e => ⟨xs, q1, by rw [e, List.length_map, List.length_zipIdx, r1.length]⟩⟩
  rw [List.getElem?_map, Option.map_eq_some_iff] at e
  obtain ⟨⟨d1, j⟩, e1, e2⟩ := e
  subst e2
  rw [List.getElem?_zipIdx, Option.map_eq_some_iff] at e1
  obtain ⟨d2, e1, e2⟩ := e1
  cases e2
  obtain ⟨v1, f1, g1⟩ := r1.get' e1
  refine ⟨⟨xs, v1, q1, f1⟩, fun x H3 y => ?_⟩
  obtain ⟨T, x1, rfl, hT, rfl, z1⟩ := y
  have z1 := z1 xs q1
  rw [f1] at z1
  cases z1
  have sm := same_upd (o := .tup [.int (i : Nat), v1]) (s2.free hT)
  refine ⟨_, Ext.shared s2 hT, .tup upd_same (.cons ?_ (.cons ((g1.mono s1).mono sm) .nil))⟩
  show Rp _ _ (.int ((0 + i : Nat) : Int))
  rw [Nat.zero_add]
  exact .int _
section
variable {X : Cx} {G0 H0 : Hp} {Er : Str → Prop} {e x y z tg : Expr} {es : List Expr} {pos p p2 p3 tpos : Pos}
theorem PI.imp {t t' : TI} (h : PI X tg e t) (i : ∀ σ H R, t' σ H R → t σ H R) : PI X tg e t' := ⟨fun pins s σ H R I q => h.run pins s σ H R I (i σ H R q)⟩
theorem i_rng1 {f : Rho → M (D × Tg)} (hg : Gl X "range") (hm : X.mg "range" = none) (hs : nst x = true) (hx : PE X x (TEv G0 H0 Er f)) :
    PI X tg (.Call (.Name "range" p) [x] [] pos) (TIv G0 H0 Er fun ρ => mb (f ρ) fun u => mb (intM u.1) fun n => if -1000000 ≤ n ∧ n ≤ 1000000 then ok ((List.range n.toNat).map fun i => .int (i : Nat), .sh) else none) := by
  refine PI.imp (pi_range1 hg hm (one_arg hs hx) (starEach_nst hs)) fun σ H R h => ?_
  obtain ⟨G, ρ, s, h⟩ := h
  refine ⟨G, ρ, s, h.bind.imp fun a G1 H1 x q v r => ?_⟩
  obtain ⟨a, ta⟩ := a
  obtain ⟨i, rfl, q2⟩ := q.bind.intm
  have q3 := q2 G1 H1 (Ext.refl x.gh)
  by_cases hl : -1000000 ≤ i ∧ i ≤ 1000000
  · rw [if_pos hl] at q3
    refine ⟨i, by rw [r.int], by omega, by omega, ?_⟩
    refine q3 G1 H1 (Ext.refl x.gh) _ (fun _ => True) trivial (fun _ _ _ _ => trivial) (.inr fun _ => trivial) ?_
    have := ok_rng (G := G1) 0 i.toNat
    simpa only [Int.zero_add] using this
  · rw [if_neg hl] at q3; exact absurd q3 (by intro z; exact z)
theorem i_rng2 {f g : Rho → M (D × Tg)} (hg : Gl X "range") (hm : X.mg "range" = none) (hs : nst x = true) (hs2 : nst y = true) (hx : PE X x (TEv G0 H0 Er f)) (hy : PE X y (TEv G0 H0 Er g)) :
    PI X tg (.Call (.Name "range" p) [x, y] [] pos) (TIv G0 H0 Er fun ρ => mb (f ρ) fun u => mb (g ρ) fun w => mb (intM u.1) fun m => mb (intM w.1) fun n =>
      if -1000000 ≤ m ∧ m ≤ 1000000 ∧ -1000000 ≤ n ∧ n ≤ 1000000 then ok ((List.range (n - m).toNat).map fun i => .int (m + (i : Nat)), .sh) else none) := by
  refine PI.imp (pi_range2 hg hm (pa_cons hx (one_arg hs2 hy) (starEach_nst hs)) (by rw [starEach_nst hs, starEach_nst hs2]; rfl) (by rw [starEach_nst hs2]; rfl)) fun σ H R h => ?_
  obtain ⟨G, ρ, s, h⟩ := h
  refine ⟨G, ρ, s, h.bind.imp fun a G1 H1 x q v r => ?_⟩
  refine ⟨G1, ρ, s.mono x, q.bind.imp fun b G2 H2 y q w r2 => ?_⟩
  obtain ⟨a, ta⟩ := a
  obtain ⟨b, tb⟩ := b
  obtain ⟨i, rfl, q2⟩ := q.bind.intm
  obtain ⟨j, rfl, q3⟩ := (q2 G2 H2 (Ext.refl y.gh)).bind.intm
  have q3 := q3 G2 H2 (Ext.refl y.gh)
  by_cases hl : -1000000 ≤ i ∧ i ≤ 1000000 ∧ -1000000 ≤ j ∧ j ≤ 1000000
  · rw [if_pos hl] at q3
    refine ⟨i, j, by rw [r.int, r2.int], ⟨by omega, by omega, by omega, by omega⟩, ?_⟩
    exact q3 G2 H2 (Ext.refl y.gh) _ (fun _ => True) trivial (fun _ _ _ _ => trivial) (.inr fun _ => trivial) (ok_rng i (j - i).toNat)
  · rw [if_neg hl] at q3; exact absurd q3 (by intro z; exact z)
theorem i_zip (hK : X.K = ScrK.K) {f g : Rho → M (D × Tg)} {elts : List Expr} {kk : Nat} (hg : Gl X "zip") (hm : X.mg "zip" = none) (hs : nst x = true) (hs2 : nst y = true) (hx : PE X x (TEv G0 H0 Er f)) (hy : PE X y (TEv G0 H0 Er g)) :
    PI X (.Tuple elts kk tpos) (.Call (.Name "zip" p) [x, y] [] pos) (TIv G0 H0 Er fun ρ => mb (mb (f ρ) keep) fun u => mb (mb (g ρ) keep) fun w => mb (PV.op (items u)) fun xs => mb (PV.op (items w)) fun ys =>
      ok ((xs.zip ys).map fun p => .tup [p.1, p.2], .sh)) := by
  refine PI.imp (pi_zipG hg hm (pa_cons hx (one_arg hs2 hy) (starEach_nst hs)) hs hs2) fun σ H R h => ?_
  obtain ⟨G, ρ, s, h⟩ := h
  refine ⟨G, ρ, s, h.bind0.bind0.imp fun a G1 H1 x q v r => ?_⟩
  obtain ⟨d, G2, hk, y, rp, q⟩ := r.keepd q x
  refine ⟨G2, ρ, s.mono y, (q.ext y).bind0.bind0.imp fun b G3 H3 x3 q v2 r2 => ?_⟩
  obtain ⟨d2, G4, hk2, y2, rp2, q⟩ := r2.keepd q x3
  obtain ⟨xs, ex, q⟩ := (PM.bind (PM.ext q y2)).opt
  have q := q G4 H3 (Ext.refl y2.gh)
  obtain ⟨ys, ey, q⟩ := (PM.bind q).opt
  have q := q G4 H3 (Ext.refl y2.gh)
  obtain ⟨a1, us, k1, rfl, h1, h2⟩ := rp_items (K := X.K) hK (rp.mono y2.gg) ex
  obtain ⟨a2, ws, k2, rfl, h3, h4⟩ := rp_items (K := X.K) hK rp2 ey
  refine ⟨a1, a2, us, ws, k1, k2, rfl, h2 G4 H3 (Same.refl _) y2.gh, h4 G4 H3 (Same.refl _) y2.gh, ?_⟩
  exact q G4 H3 (Ext.refl y2.gh) _ (fun _ => True) trivial (fun _ _ _ _ => trivial) (.inr fun _ => trivial) (ok_zip h1 h3 h2 h4)
theorem i_enum (hK : X.K = ScrK.K) {f : Rho → M (D × Tg)} {elts : List Expr} {kk : Nat} (hg : Gl X "enumerate") (hm : X.mg "enumerate" = none) (hs : nst x = true) (hx : PE X x (TEv G0 H0 Er f)) :
    PI X (.Tuple elts kk tpos) (.Call (.Name "enumerate" p) [x] [] pos) (TIv G0 H0 Er fun ρ => mb (mb (f ρ) keep) fun u => mb (PV.op (items u)) fun xs => ok (xs.zipIdx.map fun p => .tup [.int (p.2 : Nat), p.1], .sh)) := by
  refine PI.imp (pi_enumG hg hm (one_arg hs hx) hs) fun σ H R h => ?_
  obtain ⟨G, ρ, s, h⟩ := h
  refine ⟨G, ρ, s, h.bind0.bind0.imp fun a G1 H1 x q v r => ?_⟩
  obtain ⟨d, G2, hk, y, rp, q⟩ := r.keepd q x
  obtain ⟨xs, ex, q⟩ := (PM.bind (PM.ext q y)).opt
  have q := q G2 H1 (Ext.refl y.gh)
  obtain ⟨a1, us, k1, rfl, h1, h2⟩ := rp_items (K := X.K) hK rp ex
  refine ⟨a1, us, k1, rfl, h2 G2 H1 (Same.refl _) y.gh, ?_⟩
  exact q G2 H1 (Ext.refl y.gh) _ (fun _ => True) trivial (fun _ _ _ _ => trivial) (.inr fun _ => trivial) (ok_enum h1 h2)
theorem i_walk (hK : X.K = ScrK.K) {f : Rho → M (D × Tg)} (hx : PE X x (TEv G0 H0 Er f)) : PI X tg x (TIv G0 H0 Er fun ρ => mb (f ρ) fun u => mb (PV.op (items u.1)) fun xs => ok (xs, u.2)) := by
  refine PI.imp (pi_seqG hx) fun σ H R h => ?_
  obtain ⟨G, ρ, s, h⟩ := h
  refine ⟨G, ρ, s, h.bind0.imp fun a G1 H1 x q v r => ?_⟩
  obtain ⟨ds, ex, q⟩ := (PM.bind q).opt
  obtain ⟨a, ta⟩ := a
  cases r with
  | sh r =>
    obtain ⟨a1, us, k1, rfl, h1, h2⟩ := rp_items (K := X.K) hK r ex
    have q := q G1 H1 x G1 H1 (Ext.refl x.gh)
    cases k1 with
    | true => exact ⟨a1, us, rfl, .inl ⟨h2 G1 H1 (Same.refl _) x.gh, q _ (fun _ => True) trivial (fun _ _ _ _ => trivial) (.inr fun _ => trivial) (ok_list h1 fun G2 H2 s1 s2 _ => h2 G2 H2 s1 s2)⟩⟩
    | false => exact ⟨a1, us, rfl, .inr ⟨h2 G1 H1 (Same.refl _) x.gh, q _ (fun _ => True) trivial (fun _ _ _ _ => trivial) (.inr fun _ => trivial) (ok_tup h1 fun G2 H2 s1 s2 _ => h2 G2 H2 s1 s2)⟩⟩
  | fr h1 h2 h3 h4 =>
    cases ex
    have y := x.freeze h1 h2 h3
    have q := q _ H1 y _ H1 (Ext.refl y.gh)
    exact ⟨_, _, rfl, .inl ⟨SqL.of h3, q _ (fun _ => True) trivial (fun _ _ _ _ => trivial) (.inr fun _ => trivial) (ok_list (h4.mono (same_upd h2)) fun G2 H2 s1 s2 _ => SqL.of (s2 _ _ (s1 _ _ upd_same)))⟩⟩
  | sl h1 h2 h3 h4 =>
    cases ex
    have q := q G1 H1 x G1 H1 (Ext.refl x.gh)
    exact ⟨_, _, rfl, .inl ⟨SqL.of h3, q _ (fun H2 => H2 _ = some (.lst _)) h3 (fun H1 H2 sm e => sm _ _ e) (.inl ⟨_, rfl⟩) (ok_list h4 fun G2 H2 s1 s2 e => SqL.of e)⟩⟩

/-! ### comprehensions -/
theorem compL_app (f : D → Option (Option D)) : ∀ (xs ys : List D), compL f (xs ++ ys) = (compL f xs).bind fun a => (compL f ys).map fun b => a ++ b
  | [], ys => by simp [compL]
  | x :: xs, ys => by
    simp only [List.cons_append, compL, compL_app f xs ys]
    cases f x with
    | none => rfl
    | some o =>
      cases compL f xs with
      | none => rfl
      | some a =>
        cases compL f ys with
        | none => rfl
        | some b => cases o <;> rfl
theorem compL_len (f : D → Option (Option D)) : ∀ (xs rs : List D), compL f xs = some rs → rs.length ≤ xs.length
  | [], rs, h => by cases h; exact Nat.le_refl _
  | x :: xs, rs, h => by
    simp only [compL, Option.bind_eq_some_iff, Option.map_eq_some_iff] at h
    obtain ⟨o, _, a, h, rfl⟩ := h
    have := compL_len f xs a h
    cases o <;> simp only [List.length_cons] <;> omega
theorem compL_at {f : D → Option (Option D)} {xs rs : List D} (h : compL f xs = some rs) {i : Nat} {d : D} (e : xs[i]? = some d) :
    ∃ a o, compL f (xs.take i) = some a ∧ f d = some o ∧ compL f (xs.take (i + 1)) = some (match o with | some y => a ++ [y] | none => a) := by
  have hx : xs = xs.take i ++ d :: xs.drop (i + 1) := by
    have hi := (List.getElem?_eq_some_iff.mp e).1
    have hd : xs[i] = d := (List.getElem?_eq_some_iff.mp e).2
    rw [← hd, ← List.drop_eq_getElem_cons hi, List.take_append_drop]
  rw [hx, compL_app] at h
  simp only [Option.bind_eq_some_iff, Option.map_eq_some_iff] at h
  obtain ⟨a, h1, b, h2, _⟩ := h
  simp only [compL, Option.bind_eq_some_iff, Option.map_eq_some_iff] at h2
  obtain ⟨o, h3, _⟩ := h2
  refine ⟨a, o, h1, h3, ?_⟩
  rw [List.take_add_one, e]
  show compL f (xs.take i ++ [d]) = _
  rw [compL_app, h1]
  simp only [compL, h3, Option.bind_some, Option.map_some]
  cases o with
  | none => simp
  | some y => rfl
/-- the turn of a comprehension -/
def turnC (one : Bool) (tg : List Nat) (own : List Nat) (fc : Rho → M Bool) (fe : Rho → M (D × Tg)) (ρ : Rho) : D → Option (Option D) := fun d =>
  (bindT one tg d (wipeR ρ own)).bind fun ρ' => (nerr (fc ρ')).bind fun b => if b then (nerr (mb (fe ρ') keep)).map some else some none
theorem PM.of_nerr {α : Type} {Er Er' : Str → Prop} {G H : Hp} {m : M α} {a : α} {k : α → Hp → Hp → Prop} (h : nerr m = some a) (q : ∀ G' H', Ext G H G' H' → k a G' H') : PM Er G H m k := by
  cases m with
  | none => cases h
  | some r => cases r with
    | error c => cases h
    | ok b => cases h; exact q
theorem lc_read {K : PySem.W.Frag} {own : List (Str × Nat)} {fi : Rho → M (List D × Tg)} {fc : Rho → M Bool} {fe : Rho → M (D × Tg)} {one : Bool} {tg : List Nat} {Er' : Str → Prop} (hsub : ∀ i ∈ tg, i ∈ own.map (·.2)) (σ : L2.St) (H : Hp) (Q : VK)
    (h : TEv G0 H0 Er (fun ρ => mb (fi ρ) fun i => if i.1.length ≤ top then PV.op ((compL (turnC one tg (own.map (·.2)) fc fe ρ) i.1).map fun r => (.lst r, .fr)) else none) σ H Q) :
    tLc (TIv G0 H0 Er fi) (gT K one tg) (TTv G0 H0 Er' fc) (TEv G0 H0 Er' fe) (own.map (·.2)) σ H Q := by
  obtain ⟨G, ρ, s, h⟩ := h
  refine ⟨G, ρ, s, h.bind0.imp fun a G1 H1 x q J κ k1 k2 _ io D hD => ?_⟩
  obtain ⟨ds, ta⟩ := a
  by_cases hl : ds.length ≤ top
  · rw [if_pos hl] at q
    obtain ⟨z, ez, q⟩ := q.opt
    rw [Option.map_eq_some_iff] at ez
    obtain ⟨rs, er, rfl⟩ := ez
    refine ⟨fun i m H' => m = ds.length - i ∧ i ≤ ds.length ∧ ∃ Gc acc a, Ext G1 H1 Gc H' ∧ Gc D = none ∧ H' D = some (.lst acc) ∧ RpL Gc acc a ∧ compL (turnC one tg (own.map (·.2)) fc fe ρ) (ds.take i) = some a,
      ⟨ds.length, by simp, Nat.zero_le _, G1, [], [], Ext.fresh x.gh hD, x.gh.free hD, upd_same, .nil, rfl⟩, ?_⟩
    rintro i m H' ⟨rfl, hi, Gc, acc, a, xc, gD, hDc, ra, ea⟩
    have smG : Same G1 Gc := xc.gg
    have smH : Same Gc H' := xc.gh
    obtain ⟨go, stop⟩ := io i Gc H' smG smH (k2 _ _ xc.hh k1)
    by_cases hlt : i < ds.length
    · have hd : ds[i]? = some ds[i] := List.getElem?_eq_getElem hlt
      obtain ⟨g1, g2⟩ := go _ hd
      obtain ⟨a', o, e1, e2, e3⟩ := compL_at er hd
      rw [ea] at e1
      cases e1
      refine .inr ⟨g1, fun H'' => ∃ G'' acc' a', Ext G1 H1 G'' H'' ∧ G'' D = none ∧ H'' D = some (.lst acc') ∧ RpL G'' acc' a' ∧ compL (turnC one tg (own.map (·.2)) fc fe ρ) (ds.take (i + 1)) = some a', fun H'' ⟨G'', acc', a', z⟩ => ⟨ds.length - (i + 1), by omega, rfl, hlt, G'', acc', a', z⟩, fun v H3 y => ?_⟩
      obtain ⟨G3, x3, rv⟩ := g2 v H3 y
      unfold turnC at e2
      simp only [Option.bind_eq_some_iff] at e2
      obtain ⟨ρ', eb, b, ec, e2⟩ := e2
      have sr : SRel G0 H0 G3 H3 (wipe σ (own.map (·.2))) (wipeR ρ (own.map (·.2))) := ((s.mono x).mono xc).mono x3 |>.wipe _
      refine bindT_rel (own.map (·.2)) (wipe σ (own.map (·.2))) sr rv eb fun σ2 s2 w2 => ⟨w2 hsub (wipe_wipe σ _), G3, ρ', s2, ?_⟩
      refine PM.of_nerr (Er' := Er') ec fun G4 H4 x4 => ?_
      have xx : Ext G1 H1 G4 H4 := (xc.trans x3).trans x4
      have D4 : H4 D = some (.lst acc) := x4.hh _ _ (x3.hh _ _ hDc)
      have gD4 : G4 D = none := x4.g_none (x3.hh _ _ hDc) (x3.g_none hDc gD)
      cases b with
      | false =>
        rw [if_neg Bool.false_ne_true] at e2
        cases e2
        refine iteF ?_
        exact ⟨G4, acc, a, xx, gD4, D4, (ra.mono x3.gg).mono x4.gg, e3⟩
      | true =>
        rw [if_pos rfl, Option.map_eq_some_iff] at e2
        obtain ⟨yd, ee, rfl⟩ := e2
        refine iteT ?_
        refine ⟨G4, ρ', s2.mono x4, ?_⟩
        -- the element
        cases hfe : fe ρ' with
        | none => rw [hfe] at ee; cases ee
        | some r =>
          rw [hfe] at ee
          cases r with
          | error c => cases ee
          | ok u =>
            intro G5 H5 x5 v5 r5
            have D5 : H5 D = some (.lst acc) := x5.hh _ _ D4
            have gD5 : G5 D = none := x5.g_none D4 gD4
            have hk : keep u = ok yd := by
              have ee : nerr (keep u) = some yd := ee
              cases hku : keep u with
              | none => rw [hku] at ee; cases ee
              | some t => rw [hku] at ee; cases t with
                | error c => cases ee
                | ok t => cases ee; rfl
            obtain ⟨G6, x6, r6, sm6⟩ := r5.kept hk x5
            have gD6 : G6 D = none := by
              have := x6.old D (by rw [D4]; exact fun e => nomatch e)
              rw [this]; exact gD4
            refine ⟨acc, D5, ?_, G6, acc ++ [v5], a ++ [yd], ?_, gD6, upd_same, ((((ra.mono x3.gg).mono x4.gg).mono x6.gg).append (.cons r6 .nil)), e3⟩
            · have hz := compL_len _ _ _ ea
              rw [ra.length]
              have : (ds.take i).length ≤ i := by rw [List.length_take]; omega
              exact ltTop (by omega)
            · have xf : Ext G1 H1 G6 H5 := xx.trans x6
              refine ⟨xf.gg, fun b o e => ?_, same_upd2 xf.gh gD6, xf.old⟩
              rw [upd_ne (ne_of_none e hD)]
              exact xf.hh b o e
    · have e : i = ds.length := by omega
      subst e
      rw [List.take_length, er] at ea
      cases ea
      refine .inl ⟨stop rfl, ?_⟩
      exact q Gc H' (x.trans xc) _ (.fr (x.hh.free hD) gD hDc ra)
  · rw [if_neg hl] at q; exact absurd q (by intro z; exact z)

theorem r_comp {elt t it : Expr} {ifs : List Expr} {scope : Scope} {own : List (Str × Nat)} {fi : Rho → M (List D × Tg)} {fc : Rho → M Bool} {fe : Rho → M (D × Tg)} {one : Bool} {tg : List Nat} {Er' : Str → Prop}
    (hc : X.calm = true) (hN : X.N.Nodup) (hi : PI X t it (TIv G0 H0 Er fi)) (okb : BlkOk X.N X.env.scope scope own) (hsub : ∀ i ∈ tg, i ∈ own.map (·.2))
    (hg : ∀ (s : Shared) (H : Hp) (C : Addr) (cl : List (Str × Addr)) (fp : List Addr), PG (X.blk s H scope (compEnvC scope cl C X.env) fp) t (gT X.K one tg))
    (ht : ∀ (s : Shared) (H : Hp) (C : Addr) (cl : List (Str × Addr)) (fp : List Addr), PTs (X.blk s H scope (compEnvC scope cl C X.env) fp) ifs (TTv G0 H0 Er' fc))
    (he : ∀ (s : Shared) (H : Hp) (C : Addr) (cl : List (Str × Addr)) (fp : List Addr), PE (X.blk s H scope (compEnvC scope cl C X.env) fp) elt (TEv G0 H0 Er' fe)) (hs : ∀ x, foldedSetIterable it X.env x = pure x) :
    PE X (.ListComp elt [⟨t, it, ifs, 0⟩] scope pos) (TEv G0 H0 Er fun ρ => mb (fi ρ) fun i => if i.1.length ≤ top then PV.op ((compL (turnC one tg (own.map (·.2)) fc fe ρ) i.1).map fun r => (.lst r, .fr)) else none) :=
  PE.imp (pe_lc hc hN hi okb hg ht he hs) (lc_read hsub)

/-! ### calls -/
/-- a def's promise by a function of plain data -/
def spD (mg : Str → Option Value) (φ : List D → M D) : Sp := fun vs H Q E => ∃ G ds, Same G H ∧ RpL G vs ds ∧ PM (Err mg G H E) G H (φ ds) fun d G' H' => ∀ v, Rp G' v d → Q v H'
theorem r_call {f : Addr} {fd : FuncData} {ps : List Str} {k : Nat} {n : Str} {E : XK} {φ : List D → M D} {g : Rho → M (List D)} (tk : Takes X (fun cls d _ H => E cls d H))
    (F : FnOk X.prog X.w X.K X.mg X.base (L2.CX X.prog X.w) k f fd ps (spD X.mg φ)) (hr : Room k X.A) (hg : Gl X n) (hm : X.mg n = some (.ref f)) (hk : PySem.W.keepIn X.K (.ref f) = true) (hb : Binds X.K fd ps []) (hd : (n == ("__debug__" : Str)) = false)
    (hs : (e :: es).all nst = true) (ha : PA X (e :: es) (TAv G0 H0 (Err X.mg G0 H0 E) g)) :
    PE X (.Call (.Name n p) (e :: es) [] pos) (TEv G0 H0 (Err X.mg G0 H0 E) fun ρ => mb (g ρ) fun ds => mb (φ ds) fun d => ok (d, .sh)) := by
  have h1 : nst e = true ∧ es.all nst = true := by simpa using hs
  refine PE.imp (pe_callS F hr hg hm hk hb (E := fun σ => WE (fun cls d _ H => E cls d H) σ) (fun σ => passAt tk σ) ha hd (starEach_nst h1.1) (starEach_all h1.2)) fun σ H Q h => ?_
  obtain ⟨G, ρ, s, h⟩ := h
  refine ⟨G, ρ, s, h.bind.imp fun ds G1 H1 x q vs r => ⟨G1, ds, x.gh, r, ?_⟩⟩
  have q := q.bind
  cases hφ : φ ds with
  | none => rw [hφ] at q; exact q
  | some t =>
    rw [hφ] at q
    cases t with
    | error c => exact fun G' H' y => q G' H' ((s.ext.trans x).trans y)
    | ok d => exact fun G' H' y v rv => q G' H' y G' H' (Ext.refl y.gh) v (.sh rv)
/-- the same, as a test -/
theorem t_call {f : Addr} {fd : FuncData} {ps : List Str} {k : Nat} {n : Str} {E : XK} {φ : List D → M D} {g : Rho → M (List D)} (tk : Takes X (fun cls d _ H => E cls d H))
    (F : FnOk X.prog X.w X.K X.mg X.base (L2.CX X.prog X.w) k f fd ps (spD X.mg φ)) (hr : Room k X.A) (hg : Gl X n) (hm : X.mg n = some (.ref f)) (hk : PySem.W.keepIn X.K (.ref f) = true) (hb : Binds X.K fd ps []) (hd : (n == ("__debug__" : Str)) = false)
    (hs : (e :: es).all nst = true) (ha : PA X (e :: es) (TAv G0 H0 (Err X.mg G0 H0 E) g)) :
    PT X (.Call (.Name n p) (e :: es) [] pos) (TTv G0 H0 (Err X.mg G0 H0 E) fun ρ => mb (g ρ) fun ds => mb (φ ds) blM) := by
  refine PT.imp (t_val (r_call tk F hr hg hm hk hb hd hs ha) (by intro _; rfl)) fun σ H Q h => ?_
  obtain ⟨G, ρ, s, h⟩ := h
  refine ⟨G, ρ, s, ?_⟩
  have e : (mb (mb (g ρ) fun ds => mb (φ ds) fun d => ok (d, Tg.sh)) fun u => blM u.1) = mb (g ρ) fun ds => mb (φ ds) blM := by
    cases g ρ with
    | none => rfl
    | some t => cases t with
      | error c => rfl
      | ok ds =>
        show mb (mb (φ ds) fun d => ok (d, Tg.sh)) _ = mb (φ ds) blM
        cases φ ds with
        | none => rfl
        | some t => cases t <;> rfl
  show PM _ G H (mb (mb (g ρ) fun ds => mb (φ ds) fun d => ok (d, Tg.sh)) fun u => blM u.1) _
  rw [e]
  exact h
/-! ### a call that is lent an own list -/
def dropH (G : Hp) (p : Addr) : Hp := fun b => if b = p then none else G b
theorem dropH_ne {G : Hp} {p b : Addr} (h : b ≠ p) : dropH G p b = G b := if_neg h
theorem dropH_same {G : Hp} {p : Addr} : dropH G p p = none := if_pos rfl
theorem Ext.unlend {G1 H1 G2 H2 : Hp} {p : Addr} {o : HO} (hg : G1 p = none) (x : Ext (upd G1 p o) H1 G2 H2) : Ext G1 H1 (dropH G2 p) H2 := by
  refine ⟨fun b u e => ?_, x.hh, fun b u e => ?_, fun b hb => ?_⟩
  · have hne : b ≠ p := fun z => by rw [z, hg] at e; cases e
    rw [dropH_ne hne]
    exact x.gg b u (by rw [upd_ne hne]; exact e)
  · by_cases hb : b = p
    · rw [hb, dropH_same] at e; cases e
    · rw [dropH_ne hb] at e; exact x.gh b u e
  · by_cases hp : b = p
    · rw [hp, dropH_same, hg]
    · rw [dropH_ne hp, x.old b hb, upd_ne hp]
theorem Rp.flat_any {G G' : Hp} {v : V} {d : D} (h : d.flat = true) (r : Rp G v d) : Rp G' v d := by
  cases r with
  | non => exact .non
  | bl b => exact .bl b
  | int b => exact .int b
  | str b => exact .str b
  | _ => cases h
theorem RpL.flat_any {G G' : Hp} : ∀ {ds : List D} {vs : List V}, ds.all D.flat = true → RpL G vs ds → RpL G' vs ds
  | _, _, _, .nil => .nil
  | _, _, h, .cons a t => by
    simp only [List.all_cons, Bool.and_eq_true] at h
    exact .cons (a.flat_any h.1) (RpL.flat_any h.2 t)
theorem Rp.flat_both {G G' : Hp} {v : V} {d e : D} (h : d.flat = true) (r : Rp G v d) (q : Rp G' v e) : e.flat = true := by
  cases r with
  | non => cases q; rfl
  | bl b => cases q; rfl
  | int b => cases q; rfl
  | str b => cases q; rfl
  | _ => cases h
theorem RpL.flat_both {G G' : Hp} : ∀ {ds es : List D} {vs : List V}, ds.all D.flat = true → RpL G vs ds → RpL G' vs es → es.all D.flat = true
  | _, _, _, _, .nil, q => by cases q; rfl
  | _, _, _, h, .cons a t, q => by
    cases q with
    | cons b u =>
      simp only [List.all_cons, Bool.and_eq_true] at h ⊢
      exact ⟨a.flat_both h.1 b, RpL.flat_both h.2 t u⟩
theorem r_callB {f : Addr} {fd : FuncData} {ps : List Str} {k i : Nat} {n m : Str} {E : XK} {φ : List D → M D} {g : Rho → M (List D)} {p2 : Pos} (tk : Takes X (fun cls d _ H => E cls d H))
    (F : FnOk X.prog X.w X.K X.mg X.base (L2.CX X.prog X.w) k f fd ps (spD X.mg φ)) (hr : Room k X.A) (hg : Gl X n) (hm : X.mg n = some (.ref f)) (hk : PySem.W.keepIn X.K (.ref f) = true) (hb : Binds X.K fd ps []) (hd : (n == ("__debug__" : Str)) = false)
    (hi : X.N[i]? = some m) (hv : Vis X.env.scope m) (hd2 : (m == ("__debug__" : Str)) = false) (hcd : (m == ("__classdict__" : Str)) = false)
    (hs : es.all nst = true) (ha : PA X es (TAv G0 H0 (Err X.mg G0 H0 E) g)) :
    PE X (.Call (.Name n p) (.Name m p2 :: es) [] pos) (TEv G0 H0 (Err X.mg G0 H0 E) fun ρ => mb (PV.op (match ρ[i]? with | some (.ow ds) => some ds | _ => none)) fun ds => if ds.all D.flat = false then mb (g ρ) fun as => mb (φ (.lst ds :: as)) fun d => if flatL d = true then ok (d, .sh) else none else none) := by
  have hn : nst (Expr.Name m p2) = true := rfl
  refine PE.imp (pe_callS F hr hg hm hk hb (E := fun σ => WE (fun cls d _ H => E cls d H) σ) (fun σ => passAt tk σ) (pa_cons (pe_var (pos := p2) hi hv hd2 hcd) ha (starEach_nst hn)) hd (starEach_nst hn) (starEach_all hs)) fun σ H Q h => ?_
  obtain ⟨G, ρ, s, h⟩ := h
  obtain ⟨ds, e1, h⟩ := h.bind0.opt
  have h := h G H (Ext.refl s.gh)
  have e1 : ρ[i]? = some (.ow ds) := by
    cases hr : ρ[i]? with
    | none => rw [hr] at e1; cases e1
    | some c => rw [hr] at e1; cases c <;> cases e1; rfl
  by_cases hf : ds.all D.flat = false
  rotate_left
  · rw [if_neg hf] at h; exact absurd h (by intro z; exact z)
  rw [if_pos hf] at h
  obtain ⟨a, vs, a1, a2, a3, a4, a5⟩ := s.ow i ds e1
  refine ⟨_, a1, G, ρ, s, h.bind.imp fun as G1 H1 x q us r => ?_⟩
  have g1 : G1 a = none := x.g_none a4 a3
  have h1 : H1 a = some (.lst vs) := x.hh _ _ a4
  refine ⟨upd G1 a (.lst vs), .lst ds :: as, same_updL x.gh h1, .cons (.lst upd_same ((a5.mono x.gg).mono (same_upd g1))) (r.mono (same_upd g1)), ?_⟩
  have q := q.bind
  cases hφ : φ (.lst ds :: as) with
  | none => rw [hφ] at q; exact q
  | some t =>
    rw [hφ] at q
    cases t with
    | error c => exact fun G' H' y => q _ H' ((s.ext.trans x).trans (y.unlend g1))
    | ok d =>
      intro G2 H2 y v rv
      have q : PM _ (dropH G2 a) H2 (if flatL d = true then ok (d, Tg.sh) else none) _ := q (dropH G2 a) H2 (y.unlend g1)
      by_cases hfl : flatL d = true
      · rw [if_pos hfl] at q
        have q := q (dropH G2 a) H2 (Ext.refl (y.unlend g1).gh) v
        refine q (.sh ?_)
        cases d with
        | lst xs =>
          have hfl : xs.all D.flat = true := hfl
          cases rv with
          | @lst b ys _ e r2 =>
            have hba : b ≠ a := fun z => by
              subst z
              rw [y.gg _ _ upd_same] at e
              cases e
              have := r2.flat_both hfl a5
              rw [this] at hf
              cases hf
            exact .lst (by rw [dropH_ne hba]; exact e) (r2.flat_any hfl)
        | _ => cases hfl
      · rw [if_neg hfl] at q; exact absurd q (by intro z; exact z)
/-! ### a call that is lent an own list as its last argument -/
def TAw (G0 H0 : Hp) (Er : Str → Prop) (f : Rho → M (List D)) (i : Nat) : TA := fun σ H Q => ∃ G ρ, SRel G0 H0 G H σ ρ ∧ ∃ ds a, ρ[i]? = some (.ow ds) ∧ σ[i]? = some (some (.ref a)) ∧ PM Er G H (f ρ) fun as G' H' => ∀ vs, RpL G' vs as → Q (vs ++ [.ref a]) H'
theorem w_one {i : Nat} {m : Str} {p2 : Pos} {Er : Str → Prop} (hi : X.N[i]? = some m) (hv : Vis X.env.scope m) (hd2 : (m == ("__debug__" : Str)) = false) (hcd : (m == ("__classdict__" : Str)) = false) : PA X [.Name m p2] (TAw G0 H0 Er (fun _ => ok []) i) := by
  refine PA.imp (pa_cons (pe_var (pos := p2) hi hv hd2 hcd) pa_nil (starEach_nst rfl)) fun σ H Q h => ?_
  obtain ⟨G, ρ, s, ds, a, e1, e2, h⟩ := h
  exact ⟨_, e2, h G H (Ext.refl s.gh) [] .nil⟩
theorem w_cons {f : Rho → M (D × Tg)} {g : Rho → M (List D)} {i : Nat} {Er : Str → Prop} (hs : nst e = true) (he : PE X e (TEv G0 H0 Er f)) (hr : PA X es (TAw G0 H0 Er g i)) :
    PA X (e :: es) (TAw G0 H0 Er (fun ρ => mb (mb (f ρ) keep) fun d => mb (g ρ) fun ds => ok (d :: ds)) i) := by
  refine PA.imp (pa_cons he hr (starEach_nst hs)) fun σ H Q h => ?_
  obtain ⟨G, ρ, s, ds0, a0, e1, e2, h⟩ := h
  refine ⟨G, ρ, s, ?_⟩
  refine h.bind0.bind0.imp fun a G1 H1 x q v r => ?_
  obtain ⟨d, G2, hk, y, rp, q⟩ := r.keepd q x
  refine ⟨G2, ρ, s.mono y, ds0, a0, e1, e2, (q.ext y).bind.imp fun ds G3 H3 y3 q3 vs rs => ?_⟩
  exact q3 G3 H3 (Ext.refl y3.gh) _ (.cons (rp.mono y3.gg) rs)
theorem RpL.snoc {G : Hp} {v : V} {d : D} (r : Rp G v d) : ∀ {vs : List V} {ds : List D}, RpL G vs ds → RpL G (vs ++ [v]) (ds ++ [d])
  | _, _, .nil => .cons r .nil
  | _, _, .cons a t => .cons a (RpL.snoc r t)
theorem r_callZ {f : Addr} {fd : FuncData} {ps : List Str} {k i : Nat} {n : Str} {E : XK} {φ : List D → M D} {g : Rho → M (List D)} (tk : Takes X (fun cls d _ H => E cls d H))
    (F : FnOk X.prog X.w X.K X.mg X.base (L2.CX X.prog X.w) k f fd ps (spD X.mg φ)) (hr : Room k X.A) (hg : Gl X n) (hm : X.mg n = some (.ref f)) (hk : PySem.W.keepIn X.K (.ref f) = true) (hb : Binds X.K fd ps []) (hd : (n == ("__debug__" : Str)) = false)
    (hs : (e :: es).all nst = true) (ha : PA X (e :: es) (TAw G0 H0 (Err X.mg G0 H0 E) g i)) :
    PE X (.Call (.Name n p) (e :: es) [] pos) (TEv G0 H0 (Err X.mg G0 H0 E) fun ρ => mb (PV.op (match ρ[i]? with | some (.ow ds) => some ds | _ => none)) fun ds => mb (g ρ) fun as => mb (φ (as ++ [.lst ds])) fun d => if d.flat = true then ok (d, .sh) else none) := by
  have h1 : nst e = true ∧ es.all nst = true := by simpa using hs
  refine PE.imp (pe_callS F hr hg hm hk hb (E := fun σ => WE (fun cls d _ H => E cls d H) σ) (fun σ => passAt tk σ) ha hd (starEach_nst h1.1) (starEach_all h1.2)) fun σ H Q h => ?_
  obtain ⟨G, ρ, s, h⟩ := h
  obtain ⟨ds, e1, h⟩ := h.bind0.opt
  have h := h G H (Ext.refl s.gh)
  have e1 : ρ[i]? = some (.ow ds) := by
    cases hr : ρ[i]? with
    | none => rw [hr] at e1; cases e1
    | some c => rw [hr] at e1; cases c <;> cases e1; rfl
  obtain ⟨a, vs, a1, a2, a3, a4, a5⟩ := s.ow i ds e1
  refine ⟨G, ρ, s, ds, a, e1, a1, h.bind.imp fun as G1 H1 x q us r => ?_⟩
  have g1 : G1 a = none := x.g_none a4 a3
  have h1 : H1 a = some (.lst vs) := x.hh _ _ a4
  refine ⟨upd G1 a (.lst vs), as ++ [.lst ds], same_updL x.gh h1, RpL.snoc (.lst upd_same ((a5.mono x.gg).mono (same_upd g1))) (r.mono (same_upd g1)), ?_⟩
  have q := q.bind
  cases hφ : φ (as ++ [.lst ds]) with
  | none => rw [hφ] at q; exact q
  | some t =>
    rw [hφ] at q
    cases t with
    | error c => exact fun G' H' y => q _ H' ((s.ext.trans x).trans (y.unlend g1))
    | ok d =>
      intro G2 H2 y v rv
      have q : PM _ (dropH G2 a) H2 (if d.flat = true then ok (d, Tg.sh) else none) _ := q (dropH G2 a) H2 (y.unlend g1)
      by_cases hfl : d.flat = true
      · rw [if_pos hfl] at q
        exact q (dropH G2 a) H2 (Ext.refl (y.unlend g1).gh) v (.sh (rv.flat_any hfl))
      · rw [if_neg hfl] at q; exact absurd q (by intro z; exact z)
theorem t_callZ {f : Addr} {fd : FuncData} {ps : List Str} {k i : Nat} {n : Str} {E : XK} {φ : List D → M D} {g : Rho → M (List D)} (tk : Takes X (fun cls d _ H => E cls d H))
    (F : FnOk X.prog X.w X.K X.mg X.base (L2.CX X.prog X.w) k f fd ps (spD X.mg φ)) (hr : Room k X.A) (hg : Gl X n) (hm : X.mg n = some (.ref f)) (hk : PySem.W.keepIn X.K (.ref f) = true) (hb : Binds X.K fd ps []) (hd : (n == ("__debug__" : Str)) = false)
    (hs : (e :: es).all nst = true) (ha : PA X (e :: es) (TAw G0 H0 (Err X.mg G0 H0 E) g i)) :
    PT X (.Call (.Name n p) (e :: es) [] pos) (TTv G0 H0 (Err X.mg G0 H0 E) fun ρ => mb (PV.op (match ρ[i]? with | some (.ow ds) => some ds | _ => none)) fun ds => mb (g ρ) fun as => mb (φ (as ++ [.lst ds])) blM) := by
  refine PT.imp (t_val (r_callZ tk F hr hg hm hk hb hd hs ha) (by intro _; rfl)) fun σ H Q h => ?_
  obtain ⟨G, ρ, s, h⟩ := h
  refine ⟨G, ρ, s, ?_⟩
  have e : (mb (mb (PV.op (match ρ[i]? with | some (.ow ds) => some ds | _ => none)) fun ds => mb (g ρ) fun as => mb (φ (as ++ [.lst ds])) fun d => if d.flat = true then ok (d, Tg.sh) else none) fun u => blM u.1) = mb (PV.op (match ρ[i]? with | some (.ow ds) => some ds | _ => none)) fun ds => mb (g ρ) fun as => mb (φ (as ++ [.lst ds])) blM := by
    generalize (match ρ[i]? with | some (.ow ds) => some ds | _ => none) = o
    cases o with
    | none => rfl
    | some ds =>
      cases hg : g ρ with
      | none => simp only [PV.op]; rfl
      | some t => cases t with
        | error c => simp only [PV.op]; rfl
        | ok as =>
          show mb (mb (φ (as ++ [.lst ds])) fun d => if d.flat = true then ok (d, Tg.sh) else none) _ = mb (φ (as ++ [.lst ds])) blM
          cases φ (as ++ [.lst ds]) with
          | none => rfl
          | some t => cases t with
            | error c => rfl
            | ok d => cases d <;> rfl
  show PM _ G H (mb (mb (PV.op (match ρ[i]? with | some (.ow ds) => some ds | _ => none)) fun ds => mb (g ρ) fun as => mb (φ (as ++ [.lst ds])) fun d => if d.flat = true then ok (d, Tg.sh) else none) fun u => blM u.1) _
  rw [e]
  exact h
/-! ### sep.join(texts) -/
theorem RpL.strs {G : Hp} : ∀ {ds : List D} {vs : List V} {ns : List Str}, RpL G vs ds → D.strs ds = some ns → vs = ns.map V.str
  | _, _, _, .nil, e => by cases e; rfl
  | .str i :: ds, _, ns, .cons r t, e => by
    cases r
    simp only [D.strs, Option.map_eq_some_iff] at e
    obtain ⟨ms, e1, e2⟩ := e
    subst e2
    rw [RpL.strs t e1]; rfl
  | .non :: _, _, _, .cons _ _, e => by cases e
  | .bl _ :: _, _, _, .cons _ _, e => by cases e
  | .int _ :: _, _, _, .cons _ _, e => by cases e
  | .lst _ :: _, _, _, .cons _ _, e => by cases e
  | .tup _ :: _, _, _, .cons _ _, e => by cases e
  | .scr _ :: _, _, _, .cons _ _, e => by cases e
theorem r_join {f g : Rho → M (D × Tg)} {o : Expr} {ap : Pos} (hs : nst x = true) (hbase : attributeBase o "join" X.env (eval o X.env) = eval o X.env) (hl : (ap.endLine == pos.line) = true) (ho : PE X o (TEv G0 H0 Er f)) (hx : PE X x (TEv G0 H0 Er g)) :
    PE X (.Call (.Attribute o "join" ap) [x] [] pos) (TEv G0 H0 Er fun ρ => mb (f ρ) fun u => mb (PV.op (strO u.1)) fun z => mb (g ρ) fun w => PV.op (joinD z w.1)) := by
  refine PE.imp (pe_join ho hx (starEach_nst hs) hbase hl) fun σ H Q h => ?_
  obtain ⟨G, ρ, s, h⟩ := h
  refine ⟨G, ρ, s, h.bind.imp fun a G1 H1 x1 q v rv => ?_⟩
  obtain ⟨a, ta⟩ := a
  obtain ⟨z, hz, q1⟩ := q.bind0.opt
  have q2 := q1 G1 H1 (Ext.refl x1.gh)
  clear q q1
  cases a with
  | str z2 =>
    obtain rfl : z2 = z := by cases hz; rfl
    have ev := rv.str
    subst ev
    refine ⟨⟨z2, rfl⟩, G1, ρ, s.mono x1, q2.bind.imp fun w G2 H2 x2 q u ru => ?_⟩
    obtain ⟨w, tw⟩ := w
    cases w with
    | lst ds =>
      obtain ⟨r, hr, q3⟩ := q.opt
      simp only [joinD, Option.bind_eq_some_iff] at hr
      obtain ⟨ys, e1, e2⟩ := hr
      by_cases hz : (ys.map (·.length)).sum + ys.length * z2.length ≤ top
      · rw [if_pos hz] at e2
        cases e2
        obtain ⟨a, xs, rfl, h1, h2⟩ := ru.lst x2.gh
        have ex := h2.strs e1
        subst ex
        refine ⟨z2, a, ys, rfl, rfl, .inl (SqL.of h1), Nat.le_trans hz (by unfold top; decide), ?_⟩
        rw [TL.join_eq]
        exact q3 G2 H2 (Ext.refl x2.gh) _ (.sh (.str _))
      · rw [if_neg hz] at e2; cases e2
    | _ => exact absurd q (by intro z; exact z)
  | _ => cases hz
end
end PV

set_option Elab.async false
set_option linter.all false
set_option maxRecDepth 100000
set_option maxHeartbeats 2000000
/-! PV: t[::-1] of a tuple too; len(set(..)), sorted(set(..)) of ints. -/
namespace PV
open PySem PySem.Spec PyProof.Rows L2
variable [ScrK]

section
variable {prog : Program} {w : World} {A : Around} {E : Value → Shared → Prop} {s : Shared}
theorem filterMap_some {α β : Type} {g : α → Option β} {h : α → β} : ∀ {l : List α}, (∀ m ∈ l, g m = some (h m)) → l.filterMap g = l.map h
  | [], _ => rfl
  | x :: xs, q => by
    rw [List.filterMap_cons, q x List.mem_cons_self, List.map_cons, filterMap_some fun m hm => q m (List.mem_cons_of_mem _ hm)]
theorem pick_back (xs : Array Value) : ((List.range xs.size).filterMap fun (m : Nat) => xs[(((xs.size : Int) - 1) + (m : Int) * (-1)).toNat]?).toArray = xs.toList.reverse.toArray := by
  congr 1
  apply List.ext_getElem?
  intro j
  have e : (List.range xs.size).filterMap (fun (m : Nat) => xs[(((xs.size : Int) - 1) + (m : Int) * (-1)).toNat]?) = (List.range xs.size).map fun m => xs.toList.getD (xs.size - 1 - m) default := by
    apply filterMap_some
    intro m hm
    rw [List.mem_range] at hm
    have q : (((xs.size : Int) - 1) + (m : Int) * (-1)).toNat = xs.size - 1 - m := by omega
    have hlt : xs.size - 1 - m < xs.size := by omega
    rw [q, Array.getElem?_eq_getElem hlt]
    simp [List.getD, hlt]
  rw [e, List.getElem?_map]
  by_cases hj : j < xs.size
  · have hlt : xs.size - 1 - j < xs.size := by omega
    rw [List.getElem?_range hj, List.getElem?_reverse (by simpa using hj)]
    simp [List.getD, hlt]
  · rw [List.getElem?_eq_none (by simpa using hj), List.getElem?_eq_none (by simpa using hj)]
    rfl
theorem applied_back {sl : Addr} {t : Tok} {n : Nat} {Q : Int × Int × Nat → Shared → Prop} (hs : s.heap.IsSliceOf sl .none .none (.int (-1) t)) (h : Q ((n : Int) - 1, -1, n) s) :
    wpAny (model prog w) A (Builtin.Slice.sliceApplied (.ref sl) (pure (n : Int))) Q E s := by
  obtain ⟨os, hos, hcs, hds⟩ := id hs
  unfold Builtin.Slice.sliceApplied Builtin.Slice.sliceFields
  refine wpAny_bind (wpAny_bind (wpAny_field hos hds (x := .none) rfl (wpAny_bind (wpAny_field hos hds (x := .none) rfl (wpAny_bind (wpAny_field hos hds (x := .int (-1) t) rfl (wpAny_pure ?_)))))))
  refine wpAny_bind (slicePart_int ?_)
  show wpAny _ _ (if ((-1 : Int) == 0) = true then _ else _) _ _ s
  rw [if_neg (by decide)]
  refine wpAny_bind (PyProof.Rows.slicePart_none (wpAny_bind (PyProof.Rows.slicePart_none (wpAny_bind (wpAny_pure ?_)))))
  have e : Builtin.Slice.slicePlaces ((n : Int) - 1) (-1) (-1) = n := by
    unfold Builtin.Slice.slicePlaces
    rw [if_neg (by decide)]
    by_cases hn : (n : Int) - 1 > -1
    · rw [if_pos hn]
      have q : ((n : Int) - 1 - -1 - 1) / (- -1) = (n : Int) - 1 := by
        rw [Int.neg_neg, Int.ediv_one]; omega
      rw [q]; omega
    · rw [if_neg hn]; omega
  show wpAny _ _ (pure ((n : Int) - 1, (-1 : Int), Builtin.Slice.slicePlaces ((n : Int) - 1) (-1) (-1))) _ _ s
  rw [e]
  exact wpAny_pure h
theorem getItem_tuple_back {t sl : Addr} {items : Array Value} {u : Tok} {Q : Value → Shared → Prop} (ht : IsTup s.heap t items) (hs : s.heap.IsSliceOf sl .none .none (.int (-1) u)) (hsz : items.size ≤ sizeLine)
    (h : Q (.ref s.heap.objs.size) { s with heap := s.heap.push { cls := .type "tuple", data := .seq items.toList.reverse.toArray } }) : wpAny (model prog w) A (getItem (.ref t) (.ref sl)) Q E s := by
  have fits : sizeOk (.seq items.toList.reverse.toArray) := by
    show items.toList.reverse.toArray.size ≤ sizeLine
    simpa using hsz
  obtain ⟨os, hos, hcs, hds⟩ := id hs
  have tS : s.TypeIs (.ref sl) "slice" := ⟨os, hos, hcs⟩
  unfold getItem
  try with_reducible refine wpAny_holding ?_
  first | refine wpAny_bind (wpAny_pure ?_) | skip
  refine wpAny_bind (wpAny_sequenceKey ht.typeIs (by decide) ?_)
  refine wpAny_bind (wpAny_callSpecial?_slot (name := Str.ofString "__getitem__") ht.typeIs slot_tuple_getitem (wpAny_call_entry slot_tuple_getitem ht.typeIs entry_tuple_getitem ?_ (args_tuple_getitem _ _)))
  show wpAny _ _ (Builtin.Tuple.tupleItemsOf (.ref t) >>= _) _ _ s
  refine wpAny_bind (tupleItemsOf_ ht (wpAny_bind (wpAny_typeOf tS ?_)))
  rw [if_pos (by decide)]
  refine wpAny_bind (applied_back hs ?_)
  have hno : ¬ (((((items.size : Int) - 1) == 0) && ((-1 : Int) == 1) && (items.size == items.size)) = true) := by
    rw [show ((-1 : Int) == 1) = false from rfl, Bool.and_false, Bool.false_and]; exact Bool.false_ne_true
  show wpAny _ _ (if ((((items.size : Int) - 1) == 0) && ((-1 : Int) == 1) && (items.size == items.size)) = true then _ else _) _ _ s
  rw [if_neg hno, pick_back]
  first
    | exact wpAny_bind (m := Builtin.Tuple.tupleExact _) (wpAny_newObj_type (wpAny_pure ⟨_, rfl, wpAny_pure h⟩) fits)
    | exact wpAny_bind (m := Builtin.Tuple.tupleExact _) (wpAny_newObj_type (wpAny_bind (wpAny_pure (wpAny_pure ⟨_, rfl, wpAny_pure h⟩))) fits)
    | exact wpAny_bind (wpAny_bind (m := Builtin.Tuple.tupleExact _) (wpAny_newObj_type (wpAny_pure (wpAny_pure ⟨_, rfl, wpAny_pure h⟩)) fits))
    | exact wpAny_bind (wpAny_bind (m := Builtin.Tuple.tupleExact _) (wpAny_newObj_type (wpAny_pure ⟨_, rfl, wpAny_pure h⟩) fits))
end
section
variable {X : Cx} {G0 H0 : Hp} {Er : Str → Prop} {e x y z tg : Expr} {es : List Expr} {pos p p1 p2 p3 q tpos : Pos}
def tBack (K : PySem.W.Frag) (te : TE) : TE := fun σ H Q => te σ H fun x H1 => ∃ a xs, x = .ref a ∧ ((SqL K H1 a xs ∧ ∀ p, H1 p = none → Q (.ref p) (upd H1 p (.lst xs.reverse))) ∨ (SqT K H1 a xs ∧ ∀ p, H1 p = none → Q (.ref p) (upd H1 p (.tup xs.reverse))))
theorem po_minus {k : Nat} : PO X (some (.UnaryOp .USub (.Constant (.int 1) k p1) p2)) (fun _ H Q => Q (some (-1)) H) := ⟨fun pins s σ H Q I h =>
  (po_some (pe_un un_neg pe_int)).run pins s σ H Q I ⟨1, rfl, -1, rfl, h⟩⟩
theorem pe_back {k : Nat} {te : TE} (he : PE X e te) : PE X (.Subscript e (.Slice none none (some (.UnaryOp .USub (.Constant (.int 1) k p1) p2)) p3) pos) (tBack X.K te) := by
  refine ⟨fun pins s σ H Q I h => ?_⟩
  refine Subscript_ (thn (he.run pins s σ H _ I h) fun v s1 hv => ?_)
  obtain ⟨x, H1, I1, r1, a, xs, rfl, hx⟩ := hv
  cases r1
  refine wpAny_Slice (thn (po_none.run pins s1 σ H1 (fun o H2 => o = none ∧ H2 = H1) I1 ⟨rfl, rfl⟩) fun vl s2 hl => ?_)
  obtain ⟨l, H2, I2, pl, rfl, rfl⟩ := hl
  refine thn (po_none.run pins s2 σ H2 (fun o H3 => o = none ∧ H3 = H2) I2 ⟨rfl, rfl⟩) fun vu s3 hu => ?_
  obtain ⟨u, H3, I3, pu, rfl, rfl⟩ := hu
  refine thn (po_minus.run pins s3 σ H3 (fun o H4 => o = some (-1) ∧ H4 = H3) I3 ⟨rfl, rfl⟩) fun vs s4 hs => ?_
  obtain ⟨o, H4, I4, ps, rfl, rfl⟩ := hs
  have I5 : Inv X pins σ H4 { s4 with heap := s4.heap.push { cls := .type "slice", data := .fields #[vl, vu, vs] } } := I4.kept (t' := s4.toks) fun b ob q => Heap.get?_push_of_some _ q
  have hS := Heap.IsSliceOf.new s4.heap vl vu vs
  show wpAny (model X.prog X.w) X.A (subscriptTail e (.Slice none none (some (.UnaryOp .USub (.Constant (.int 1) k p1) p2)) p3) (.ref a) (.ref s4.heap.objs.size)) (EP X pins σ Q) X.xe { s4 with heap := s4.heap.push { cls := .type "slice", data := .fields #[vl, vu, vs] } }
  rcases hx with ⟨hx, q⟩ | ⟨hx, q⟩
  · obtain ⟨its, r, ht, hz⟩ := I5.list hx
    have hlen := r.length
    refine tail_any (ops := [.ref a, .ref s4.heap.objs.size]) ht.isList.typeIs slot_list_getitem.lookup ?_ (by with_unfolding_all rfl)
    refine wpAny_getItem_list_slice ht.isList hS pl pu ps (by decide) ?_ (by rw [List.size_toArray]; omega)
    rw [PySem.W.krv_pick]
    refine ⟨.ref _, _, I5.laid (t' := s4.toks) (o := .lst xs.reverse) (fun b ob q => Heap.get?_push_of_some _ q) (Nat.le_refl _) ⟨by rw [List.length_reverse]; exact hz, _, 0, r.reverse, Heap.get?_push_size _ rfl⟩, rfl, q _ (I5.hok.fresh (Nat.le_refl _))⟩
  · obtain ⟨its, r, ht, hz⟩ := I5.tuple hx
    have hlen := r.length
    cases pl
    cases pu
    cases ps
    refine tail_any (ops := [.ref a, .ref s4.heap.objs.size]) ht.typeIs slot_tuple_getitem.lookup ?_ (by with_unfolding_all rfl)
    refine getItem_tuple_back ht hS (by rw [List.size_toArray]; omega) ?_
    refine ⟨.ref _, _, I5.laid (t' := s4.toks) (o := .tup xs.reverse) (fun b ob q => Heap.get?_push_of_some _ q) (Nat.le_refl _) ⟨by rw [List.length_reverse]; exact hz, _, r.reverse, ⟨_, Heap.get?_push_size _ rfl, rfl, _, rfl⟩⟩, rfl, q _ (I5.hok.fresh (Nat.le_refl _))⟩
theorem r_rev {k : Nat} {f : Rho → M (D × Tg)} (hx : PE X x (TEv G0 H0 Er f)) :
    PE X (.Subscript x (.Slice none none (some (.UnaryOp .USub (.Constant (.int 1) k p1) p2)) p3) pos) (TEv G0 H0 Er fun ρ => mb (f ρ) fun u => PV.op (revD u.1)) := by
  refine r_one (r := fun v H Q => ∃ a xs, v = .ref a ∧ ((SqL X.K H a xs ∧ ∀ p, H p = none → Q (.ref p) (upd H p (.lst xs.reverse))) ∨ (SqT X.K H a xs ∧ ∀ p, H p = none → Q (.ref p) (upd H p (.tup xs.reverse))))) (fun Hs G H σ ρ v x z Q sh s rv e q => ?_) (pe_back hx)
  obtain ⟨x, tx⟩ := x
  cases x with
  | lst ds =>
    cases e
    obtain ⟨a, xs, rfl, h1, h2⟩ := rv.lst s
    exact ⟨a, xs, rfl, .inl ⟨SqL.of h1, fun p hp => new_lst sh s h2.reverse q hp⟩⟩
  | tup ds =>
    cases e
    obtain ⟨a, xs, rfl, h1, h2, rfl⟩ := rv.tup
    exact ⟨a, xs, rfl, .inr ⟨SqT.of (s _ _ h1), fun p hp => new_tup s h2.reverse q hp⟩⟩
  | _ => cases e

/-! ### len(set(list)) -/
theorem pe_lenset {te : TE} (hc : X.calm = true) (hg : Gl X "len") (hm : X.mg "len" = none) (hg2 : Gl X "set") (hm2 : X.mg "set" = none) (hs : nst x = true) (hx : PE X x te) :
    PE X (.Call (.Name "len" p) [.Call (.Name "set" p2) [x] [] q] [] pos) (fun σ H Q => te σ H fun x H1 => ∃ l ns, x = .ref l ∧ SqL X.K H1 l (ns.map V.int) ∧ ns.length < 64 ∧ Q (.int (nubI ns).length) H1) := by
  refine ⟨fun pins s σ H Q I h => ?_⟩
  refine Call_ (ld_blt I hg hm boot_len (callWith_builtin1 (args_cons ?_ rfl) rfl rfl))
  refine Call_ (ld_blt I hg2 hm2 boot_set (callWith_type1 (args_cons ?_ (starEach_nst hs)) (starEach_nst hs) rfl))
  refine thn (hx.run pins s σ H _ I h) fun v s1 hv => args_nil ?_
  obtain ⟨x, H1, I1, r1, l, ns, rfl, hq, hl, q⟩ := hv
  cases r1
  obtain ⟨its, r, pl, hz⟩ := I1.list hq
  have e : its.toArray.size = ns.length := by
    have := r.length
    simp only [List.length_map] at this
    simp [this]
  refine call_set_list (I1.ok.hd hc) pl.isList (by simpa using r.ints) (by rw [e]; unfold scanBound; omega) fun h' tk hS hk => args_nil ?_
  rw [e, firstMet_len] at hS
  obtain ⟨o, es, ep, t, ho, hex, hd, _, _, _, hf, hn⟩ := hS
  have I2 : Inv X pins σ H1 { s1 with heap := h', toks := tk } := I1.kept fun b o e => hk b o (Heap.lt_size e) e
  have := nubI_len ns
  exact call_len_set ho hex hd hf (by rw [hn]; omega) ⟨.int (nubI ns).length, H1, I2.tok _, ⟨_, by rw [hn]⟩, q⟩
theorem r_lenset {f : Rho → M (D × Tg)} (hc : X.calm = true) (hg : Gl X "len") (hm : X.mg "len" = none) (hg2 : Gl X "set") (hm2 : X.mg "set" = none) (hs : nst x = true) (hx : PE X x (TEv G0 H0 Er f)) :
    PE X (.Call (.Name "len" p) [.Call (.Name "set" p2) [x] [] q] [] pos) (TEv G0 H0 Er fun ρ => mb (f ρ) fun u => PV.op (uop .lenset u.1)) := by
  refine r_one (r := fun v H Q => ∃ l ns, v = .ref l ∧ SqL X.K H l (ns.map V.int) ∧ ns.length < 64 ∧ Q (.int (nubI ns).length) H) (fun Hs G H σ ρ v x z Q sh s rv e q => ?_) (pe_lenset hc hg hm hg2 hm2 hs hx)
  obtain ⟨x, tx⟩ := x
  cases x with
  | lst ds =>
    simp only [uop, Option.bind_eq_some_iff] at e
    obtain ⟨ns, e, hz⟩ := e
    by_cases hl : ns.length < 64
    · rw [if_pos hl] at hz; cases hz
      obtain ⟨a, rfl, h1⟩ := rv.intL (X := X) s e
      exact ⟨a, ns, rfl, h1, hl, sc s (.int _) q⟩
    · rw [if_neg hl] at hz; cases hz
  | _ => cases e

end
end PV

set_option Elab.async false
set_option linter.all false
set_option maxRecDepth 100000
set_option maxHeartbeats 4000000
/-! PV: sorted(set(..)) of a tuple or a list of ints. -/
namespace PV
open PySem PySem.Spec PyProof.Rows L2
variable [ScrK]
section
variable {P : Program} {w : World} {A : Around} {E : Value → Shared → Prop} {s : Shared}
/-- the empty set -/
abbrev ob0 (w : World) : Obj := { cls := .type "set", dict := none, data := .set #[] 0 (.fresh 0 0 (!w.params.followText "set-order")) }
theorem set_of_list {l : Addr} {xs : Array Value} {ks : List Int} {Q : Value → Shared → Prop} (hA : A.handled = none) (hx : s.heap.IsList l xs) (hk : IntsAre xs.toList ks) (hz : ks.length + 1 < scanBound)
    (fin : ∀ (g : Heap) (tk c : Nat), SetR w g s.heap.objs.size (fun j => decide (j ∈ ks)) c → c ≤ ks.length → (∀ b o, s.heap.get? b = some o → g.get? b = some o) → Q (.ref s.heap.objs.size) { s with heap := g, toks := tk }) :
    wpAny (model P w) A (call (.type "set") [.ref l]) Q E s := by
  have sz : xs.size = ks.length := by simpa using IntsAre.length hk
  obtain ⟨mr, ml, m0⟩ := F.called_set.mro
  have m1 := F.called_set.made
  have m2 := F.called_set.sub
  have m3 := F.called_set.notType
  have m4 := F.called_set.canCreate
  have m5 := F.typeCall_set_1 (.ref l)
  apply wpAny_call
  apply codeAny_of_tree
  show wpAny _ _ (callAny (.type "set") _) _ _ _
  apply wpAny_pure
  refine ⟨Code.quiet_builtin _ (by decide +kernel), ?_⟩
  apply codeAny_builtin F.entry_type_call
  rw [Around.under_plain (weight_type_call_type "set" [.ref l] []) rfl]
  repeat any_goals first | assumption | wp_step
  refine codeAny_mono (code_set_led1 (.ref l) (E := E) (Q₁ := fun v z => v = .ref s.heap.objs.size ∧ z = { s with heap := s.heap.push (ob0 w) }) ⟨rfl, rfl⟩) ?_
  rintro (e | f) z hr
  · exact hr
  cases f with
  | ret v =>
    obtain ⟨rfl, rfl⟩ := hr
    have g0 : (s.heap.push (ob0 w)).get? s.heap.objs.size = some (ob0 w) := Heap.get?_push_size _ rfl
    have t0 : Shared.TypeIs { s with heap := s.heap.push (ob0 w) } (.ref s.heap.objs.size) "set" := ⟨_, g0, rfl⟩
    have i1 := F.called_set.init.lookup
    have i2 := F.called_set.init.bind (.ref s.heap.objs.size)
    repeat any_goals first | assumption | wp_step
    refine codeAny_mono (codeAny_call_builtin (R := wants (fun r z => r = .none ∧ ∃ g tk c, z = { s with heap := g, toks := tk } ∧ SetR w g s.heap.objs.size (fun j => decide (j ∈ ks)) c ∧ c ≤ ks.length ∧ (∀ b o, s.heap.get? b = some o → g.get? b = some o)) E)
      F.called_set.init.plain F.entry_set_init (check_set_init_1 t0 ?_)) ?_
    · obtain ⟨⟨cl, di, da, sl⟩, ho, hc, nl, hd⟩ := hx
      dsimp only at hc hd
      subst hc hd
      have ho2 : (s.heap.push (ob0 w)).get? l = some { cls := .type "list", dict := di, data := .seq xs nl, slots := sl } := Heap.get?_push_of_some _ ho
      have u1 := F.sub_list_set
      have u2 := F.sub_list_frozenset
      have u3 : (Value.type "list" == Value.type "dict") = false := by decide
      have hx2 : (s.heap.push (ob0 w)).IsList l xs := ⟨_, ho2, rfl, nl, rfl⟩
      have lt0 : l < s.heap.objs.size := Heap.lt_size ho
      have sz1 : (s.heap.push (ob0 w)).objs.size = s.heap.objs.size + 1 := Heap.size_push ..
      unfold Builtin.«set.__init__» noKeywords Builtin.Frozenset.updateFrom
      generalize qq : pyIter = pI
      wp_walk
      subst qq
      apply wpAny_pyIter_list hx2
      apply wpAny_bind
      apply wpAny_runValue
      have n1 : l ≠ (s.heap.push (ob0 w)).objs.size := fun z => by rw [sz1] at z; exact Nat.ne_of_lt (Nat.lt_succ_of_lt lt0) z
      have n2 : s.heap.objs.size ∉ [(s.heap.push (ob0 w)).objs.size, l] := by
        rw [sz1]
        intro z
        rcases List.mem_cons.mp z with z | z
        · exact Nat.ne_of_lt (Nat.lt_succ_self _) z
        · exact Nat.ne_of_gt lt0 (List.mem_singleton.mp z)
      have val : ∀ (i : Nat) (v : Value), xs[i]? = some v → ∃ k t, ks[i]? = some k ∧ v = .int k t := by
        intro i v hv
        have hi : i < ks.length := sz ▸ (Array.getElem?_eq_some_iff.mp hv).1
        obtain ⟨t, e⟩ := IntsAre.int_at hk i v ((Array.getElem?_toList ..).trans hv)
        refine ⟨ks[i], t, List.getElem?_eq_getElem hi, ?_⟩
        rw [e]
        simp [hi]
      have W := (Walks.list (prog := P) (w := w) (show A.in1.in1.in1.handled = none by simp [hA]) _ l n1 xs).toS
      refine set_update_ints W s.heap.objs.size n2 ks sz hz val _ 0 _ rfl (Nat.zero_le _) ⟨⟨_, Heap.get?_push_size _ rfl, rfl, rfl⟩, hx2.push _⟩ ⟨0, Nat.le_refl 0, setR_new_at (Heap.get?_push_of_some _ g0)⟩ ?_
      rintro ⟨g, ge, dr, tk, os⟩ c mv hc hS
      obtain ⟨e1, e2, e3⟩ : ge = s.gens ∧ dr = s.drawn ∧ os = s.os := ⟨mv.gens, mv.drawn, mv.os⟩
      subst e1 e2 e3
      show wpAny _ _ _ _ _ _
      apply wpAny_pure
      show wpAny _ _ (ret Value.none) _ _ _
      apply wpAny_pure
      refine ⟨rfl, g, tk, c, rfl, hS, sz ▸ hc, fun b o e => ?_⟩
      have lb : b < s.heap.objs.size := Heap.lt_size e
      refine mv.heap b o (fun z => ?_) (Heap.get?_push_of_some _ (Heap.get?_push_of_some _ e))
      rw [sz1] at z
      rcases List.mem_cons.mp z with z | z
      · exact Nat.ne_of_lt lb z
      · exact Nat.ne_of_lt (Nat.lt_succ_of_lt lb) (List.mem_singleton.mp z)
    · rintro (e | f) z hr
      · exact hr
      cases f with
      | ret r =>
        obtain ⟨rfl, g, tk, c, rfl, a1, a2, a3⟩ := hr
        repeat any_goals first | assumption | wp_step
        exact fin _ _ _ a1 a2 a3
      | _ => exact hr.elim
  | _ => exact hr.elim
end
section
variable {X : Cx} {G0 H0 : Hp} {Er : Str → Prop} {x : Expr} {pos p p2 q : Pos}
theorem pe_sortset {te : TE} (hc : X.calm = true) (hg : Gl X "sorted") (hm : X.mg "sorted" = none) (hg2 : Gl X "set") (hm2 : X.mg "set" = none) (hs : nst x = true) (hx : PE X x te) :
    PE X (.Call (.Name "sorted" p) [.Call (.Name "set" p2) [x] [] q] [] pos) (fun σ H Q => te σ H fun x H1 => ∃ l ns, x = .ref l ∧ (SqT X.K H1 l (ns.map V.int) ∨ SqL X.K H1 l (ns.map V.int)) ∧ ns.length < 64 ∧
      ∀ S o p, H1 S = none → upd H1 S o p = none → Q (.ref p) (upd (upd H1 S o) p (.lst ((sortI (nubI ns)).map V.int)))) := by
  refine ⟨fun pins s σ H Q I h => ?_⟩
  refine Call_ (ld_blt I hg hm boot_sorted (callWith_builtin1 (args_cons ?_ rfl) rfl rfl))
  refine Call_ (ld_blt I hg2 hm2 boot_set (callWith_type1 (args_cons ?_ (starEach_nst hs)) (starEach_nst hs) rfl))
  refine thn (hx.run pins s σ H _ I h) fun v s1 hv => args_nil ?_
  obtain ⟨x, H1, I1, r1, l, ns, rfl, hq, hl, q⟩ := hv
  cases r1
  rcases hq with hq | hq
  · obtain ⟨its, r, pl, hz⟩ := I1.tuple hq
    refine call_set_tupI ns (I1.ok.hd hc) (show s1.heap.IsTuple l its.toArray from pl) (by simpa using r.ints) (by unfold scanBound; omega) fun g tk c hS hcn hk => args_nil ?_
    have I2 : Inv X pins σ (upd H1 s1.heap.objs.size (SetO X.w s1.heap.objs.size (fun j => decide (j ∈ ns)) c)) { s1 with heap := g, toks := tk } := I1.laid hk (Nat.le_refl _) (setO_new hS)
    refine cr_sortedSet hc pins _ σ _ [.ref s1.heap.objs.size] [.ref s1.heap.objs.size] Q I2 (.cons rfl .nil) ⟨_, _, c, rfl, upd_same, by omega, fun ns' p hp hm hl hn => ?_⟩
    rw [rising_eq (b := ns) hp fun k => by rw [hm k]; simp]
    exact q _ _ p (I1.hok.fresh (Nat.le_refl _)) hn
  · obtain ⟨its, r, pl, hz⟩ := I1.list hq
    refine set_of_list (ks := ns) (I1.ok.hd hc) pl.isList (by simpa using r.ints) (by unfold scanBound; omega) fun g tk c hS hcn hk => args_nil ?_
    have I2 : Inv X pins σ (upd H1 s1.heap.objs.size (SetO X.w s1.heap.objs.size (fun j => decide (j ∈ ns)) c)) { s1 with heap := g, toks := tk } := I1.laid hk (Nat.le_refl _) (setO_new hS)
    refine cr_sortedSet hc pins _ σ _ [.ref s1.heap.objs.size] [.ref s1.heap.objs.size] Q I2 (.cons rfl .nil) ⟨_, _, c, rfl, upd_same, by omega, fun ns' p hp hm hl hn => ?_⟩
    rw [rising_eq (b := ns) hp fun k => by rw [hm k]; simp]
    exact q _ _ p (I1.hok.fresh (Nat.le_refl _)) hn
theorem r_sortset {f : Rho → M (D × Tg)} (hc : X.calm = true) (hg : Gl X "sorted") (hm : X.mg "sorted" = none) (hg2 : Gl X "set") (hm2 : X.mg "set" = none) (hs : nst x = true) (hx : PE X x (TEv G0 H0 Er f)) :
    PE X (.Call (.Name "sorted" p) [.Call (.Name "set" p2) [x] [] q] [] pos) (TEv G0 H0 Er fun ρ => mb (f ρ) fun u => PV.op (uop .sortedset u.1)) := by
  refine r_one (r := fun v H Q => ∃ l ns, v = .ref l ∧ (SqT X.K H l (ns.map V.int) ∨ SqL X.K H l (ns.map V.int)) ∧ ns.length < 64 ∧ ∀ S o p, H S = none → upd H S o p = none → Q (.ref p) (upd (upd H S o) p (.lst ((sortI (nubI ns)).map V.int)))) (fun Hs G H σ ρ v x z Q sh s rv e q => ?_) (pe_sortset hc hg hm hg2 hm2 hs hx)
  have fin : ∀ (ns : List Int), z = (.lst ((sortI (nubI ns)).map .int), .fr) → ∀ S o p, H S = none → upd H S o p = none → Q (.ref p) (upd (upd H S o) p (.lst ((sortI (nubI ns)).map V.int))) := fun ns ez S o p hS hp => by
    subst ez
    have x1 := Ext.fresh (o := o) s hS
    have x2 := Ext.fresh (o := .lst ((sortI (nubI ns)).map V.int)) x1.gh hp
    exact q _ _ _ (x1.trans x2) (.fr ((sh.trans x1.hh).free hp) (x1.gh.free hp) upd_same (RpL.of_ints _))
  obtain ⟨x, tx⟩ := x
  cases x with
  | tup ds =>
    simp only [uop, Option.bind_eq_some_iff] at e
    obtain ⟨ns, e, hz⟩ := e
    by_cases hl : ns.length < 64
    · rw [if_pos hl] at hz; cases hz
      obtain ⟨a, xs, rfl, h1, h2, rfl⟩ := rv.tup
      exact ⟨a, ns, rfl, .inl (SqT.of (by rw [s _ _ h1, (h2.ints e).1])), hl, fin ns rfl⟩
    · rw [if_neg hl] at hz; cases hz
  | lst ds =>
    simp only [uop, Option.bind_eq_some_iff] at e
    obtain ⟨ns, e, hz⟩ := e
    by_cases hl : ns.length < 64
    · rw [if_pos hl] at hz; cases hz
      obtain ⟨a, rfl, h1⟩ := rv.intL (X := X) s e
      exact ⟨a, ns, rfl, .inr h1, hl, fin ns rfl⟩
    · rw [if_neg hl] at hz; cases hz
  | _ => cases e
end
end PV

set_option Elab.async false
set_option linter.all false
set_option maxRecDepth 100000
set_option maxHeartbeats 2000000
/-! PV: statements. -/
namespace PV
open PySem PySem.Spec PyProof.Rows L2
variable [ScrK]

/-- what is wanted behind a statement that ends so -/
def PF (Er : Str → Prop) (G0 H0 G : Hp) (r : M Fl) (D : Ends) : Prop :=
  match r with
  | some (.ok (.nx ρ')) => ∀ σ' G' H', Same G G' → SRel G0 H0 G' H' σ' ρ' → D.nx σ' H'
  | some (.ok (.rt d)) => ∀ v G' H', Ext G0 H0 G' H' → Rp G' v d → D.rt v H'
  | some (.error c) => Er c
  | none => False
def TSv (G0 H0 : Hp) (Er : Str → Prop) (f : Rho → M Fl) : TS := fun D σ H => ∃ G ρ, SRel G0 H0 G H σ ρ ∧ PF Er G0 H0 G (f ρ) D
section
variable {Er : Str → Prop} {G0 H0 G G1 : Hp} {D D' : Ends}
theorem PF.grow {r : M Fl} (h : PF Er G0 H0 G r D) (s : Same G G1) : PF Er G0 H0 G1 r D := by
  cases r with
  | none => exact h
  | some t => cases t with
    | error c => exact h
    | ok f => cases f with
      | nx ρ => exact fun σ' G' H' q => h σ' G' H' (s.trans q)
      | rt d => exact h
/-- first x, then by its value -/
theorem PF.pm {α : Type} {m : M α} {f : α → M Fl} {H : Hp} (h : PF Er G0 H0 G (mb m f) D) : PM Er G H m fun a G1 _ => PF Er G0 H0 G1 (f a) D := by
  cases m with
  | none => exact h
  | some t => cases t with
    | error c => exact h
    | ok a => exact fun G1 H1 x => PF.grow h x.gg
theorem PF.op {α : Type} {o : Option α} {f : α → M Fl} (h : PF Er G0 H0 G (mb (PV.op o) f) D) : ∃ a, o = some a ∧ PF Er G0 H0 G (f a) D := by
  cases o with
  | none => exact absurd h (by intro z; exact z)
  | some a => exact ⟨a, rfl, h⟩
end
section
variable {X : Cx} {G0 H0 : Hp} {Er : Str → Prop} {e x y z tg : Expr} {es : List Expr} {pos p p1 p2 p3 q tpos : Pos} {st : Stmt} {sts : List Stmt}
theorem PS.imp {t t' : TS} (h : PS X st t) (i : ∀ D σ H, t' D σ H → t D σ H) : PS X st t' := ⟨fun pins s σ H D I q => h.run pins s σ H D I (i D σ H q)⟩
theorem PSs.imp {t t' : TS} (h : PSs X sts t) (i : ∀ D σ H, t' D σ H → t D σ H) : PSs X sts t' := ⟨fun pins s σ H D I q => h.run pins s σ H D I (i D σ H q)⟩
theorem s_nil : PSs X [] (TSv G0 H0 Er fun ρ => ok (.nx ρ)) := by
  refine PSs.imp pss_nil fun D σ H h => ?_
  obtain ⟨G, ρ, s, h⟩ := h
  exact h σ G H (Same.refl _) s
theorem s_cons {f g : Rho → M Fl} (h1 : PS X st (TSv G0 H0 Er f)) (h2 : PSs X sts (TSv G0 H0 Er g)) :
    PSs X (st :: sts) (TSv G0 H0 Er fun ρ => mb (f ρ) fun r => match r with | .nx ρ' => g ρ' | .rt d => ok (.rt d)) := by
  refine PSs.imp (pss_cons h1 h2) fun D σ H h => ?_
  obtain ⟨G, ρ, s, h⟩ := h
  refine ⟨G, ρ, s, ?_⟩
  dsimp only at h
  cases hf : f ρ with
  | none => rw [hf] at h; exact h
  | some t =>
    rw [hf] at h
    cases t with
    | error c => exact h
    | ok r =>
      cases r with
      | rt d => exact h
      | nx ρ' => exact fun σ' G' H' q s' => ⟨G', ρ', s', PF.grow (r := g ρ') h q⟩

/-! ### stores -/
theorem asg_rel {i : Nat} {own : Bool} {a : D × Tg} {G G1 H H1 : Hp} {σ : L2.St} {ρ : Rho} {v : V} {D : Ends} (s : SRel G0 H0 G H σ ρ) (x : Ext G H G1 H1) (r : RV H σ ρ G1 H1 v a) (h : PF Er G0 H0 G1 (asgF i own a ρ) D) : D.nx (σ.set i (some v)) H1 := by
  have s1 := s.mono x
  obtain ⟨d, t⟩ := a
  have fresh : ∀ {p : Addr}, H p = none → ∀ (j : Nat) (c : List PV.D), ρ[j]? = some (.ow c) → σ[j]? ≠ some (some (.ref p)) := fun {p} hp j c e1 e2 => by
    obtain ⟨q, vs, e3, _, _, e4, _⟩ := s.ow j c e1
    rw [e2] at e3
    cases e3
    rw [hp] at e4; cases e4
  cases own with
  | true =>
    cases r with
    | sh r => cases d <;> exact absurd h (by intro z; exact z)
    | sl h1 h2 h3 h4 => exact absurd h (by intro z; exact z)
    | fr h1 h2 h3 h4 =>
      have h0 : H0 _ = none := s.ext.hh.free h1
      exact h _ G1 H1 (Same.refl _) (s1.set_ow h0 h2 h3 h4 (fresh h1))
  | false =>
    cases r with
    | sh r => exact h _ G1 H1 (Same.refl _) (s1.set_va r)
    | sl h1 h2 h3 h4 => exact absurd h (by intro z; exact z)
    | fr h1 h2 h3 h4 =>
      have y := x.freeze h1 h2 h3
      have s2 := s.mono y
      exact h _ _ H1 (same_upd h2) (s2.set_va (.lst upd_same (h4.mono (same_upd h2))))
def ncomp : Expr → Bool
  | .ListComp .. | .SetComp .. | .DictComp .. => false
  | _ => true
theorem noswap {env : PySem.Env} {t : Option Expr} {l : Nat} (h : ncomp e = true) : swapsWith e t l env = pure false := by
  cases e <;> first | rfl | cases h
theorem s_asg {i : Nat} {n : Str} {f : Rho → M (D × Tg)} (own : Bool) (hN : X.N.Nodup) (hi : X.N[i]? = some n) (hx : Loc X.env.scope n) (hf : X.fn n = true ∨ X.env.scope.names.lookup n = some .local) (hc : ncomp e = true) (he : PE X e (TEv G0 H0 Er f)) :
    PS X (.Assign [.Name n p] e pos) (TSv G0 H0 Er fun ρ => mb (f ρ) fun x => asgF i own x ρ) := by
  refine PS.imp (ps_set hN hi hx he (noswap hc) hf) fun D σ H h => ?_
  obtain ⟨G, ρ, s, h⟩ := h
  exact ⟨G, ρ, s, (PF.pm (H := H) h).imp fun a G1 H1 x q v r => asg_rel s x r q⟩
/-- name = [..], the name a local, on one line -/
theorem s_asgLc {i : Nat} {n : Str} {elt t it : Expr} {ifs : List Expr} {scope : Scope} {ow : List (Str × Nat)} {fi : Rho → M (List D × Tg)} {fc : Rho → M Bool} {fe : Rho → M (D × Tg)} {one : Bool} {tg : List Nat} {Er' : Str → Prop} (own : Bool)
    (hc : X.calm = true) (hN : X.N.Nodup) (hy : X.N[i]? = some n) (hyl : X.env.scope.names.lookup n = some .local) (hsw : swapsWith (.ListComp elt [⟨t, it, ifs, 0⟩] scope pos) (some (.Name n p)) q.line X.env = pure true)
    (hi : PI X t it (TIv G0 H0 Er fi)) (okb : BlkOk X.N X.env.scope scope ow) (hsub : ∀ i ∈ tg, i ∈ ow.map (·.2))
    (hg : ∀ (s : Shared) (H : Hp) (C : Addr) (cl : List (Str × Addr)) (fp : List Addr), PG (X.blk s H scope (compEnvC scope cl C X.env) fp) t (gT X.K one tg))
    (ht : ∀ (s : Shared) (H : Hp) (C : Addr) (cl : List (Str × Addr)) (fp : List Addr), PTs (X.blk s H scope (compEnvC scope cl C X.env) fp) ifs (TTv G0 H0 Er' fc))
    (he : ∀ (s : Shared) (H : Hp) (C : Addr) (cl : List (Str × Addr)) (fp : List Addr), PE (X.blk s H scope (compEnvC scope cl C X.env) fp) elt (TEv G0 H0 Er' fe)) (hs : ∀ x, foldedSetIterable it X.env x = pure x) :
    PS X (.Assign [.Name n p] (.ListComp elt [⟨t, it, ifs, 0⟩] scope pos) q) (TSv G0 H0 Er fun ρ => mb (mb (fi ρ) fun i => if i.1.length ≤ top then PV.op ((compL (turnC one tg (ow.map (·.2)) fc fe ρ) i.1).map fun r => (.lst r, .fr)) else none) fun x => asgF i own x ρ) := by
  refine PS.imp (ps_setLc hc hN hy hyl hsw hi okb hg ht he hs) fun D σ H h => ?_
  obtain ⟨G, ρ, s, h⟩ := h
  refine lc_read hsub σ H _ ⟨G, ρ, s, (PF.pm (H := H) h).imp fun a G1 H1 x q v r => asg_rel s x r q⟩
/-! ### a, b, .. = a tuple -/
/-- a value that is no display of a tuple, or one of constants alone -/
def tupok : Expr → Bool
  | .Tuple vs _ _ => vs.all (foldedForSure 8)
  | .ListComp .. | .SetComp .. | .DictComp .. => false
  | _ => true
theorem tupok_ncomp (h : tupok e = true) : ncomp e = true := by
  cases e <;> first | rfl | cases h
theorem noswapped {env : PySem.Env} {ts : List Expr} {k : Nat} (h : tupok e = true) : swappedStores [.Tuple ts k tpos] e env = pure none := by
  cases e with
  | Tuple vs k2 p2 =>
    have h : vs.all (foldedForSure 8) = true := h
    unfold swappedStores
    dsimp only
    rw [if_pos h]
    repeat' split
    all_goals first | rfl | (simp_all; done)
  | _ => first | rfl | cases h
theorem iteSame {α : Type} {c : Prop} [Decidable c] {x y : α} (h : ¬ c → y = x) : (if c then x else y) = x := by
  by_cases q : c
  · rw [if_pos q]
  · rw [if_neg q]; exact h q
theorem fm_len {α β : Type} {f : α → Option β} : ∀ {l : List α}, (l.filterMap f).length = l.length → ∀ a ∈ l, (f a).isSome = true
  | [], _, a, h => by cases h
  | x :: l, e, a, h => by
    have hl : (l.filterMap f).length ≤ l.length := List.length_filterMap_le _ _
    cases hx : f x with
    | none =>
      rw [List.filterMap_cons_none hx, List.length_cons] at e
      omega
    | some y =>
      rw [List.filterMap_cons_some hx, List.length_cons, List.length_cons] at e
      rcases List.mem_cons.mp h with rfl | h
      · rw [hx]; rfl
      · exact fm_len (by omega) a h
/-- one of the targets is a cell: nothing is exchanged -/
theorem noswapC {env : PySem.Env} {ts : List Expr} {k : Nat} {n : Str} {pn : Pos} (hm : Expr.Name n pn ∈ ts) (hk : env.scope.names.lookup n = some .cell) : swappedStores [.Tuple ts k tpos] e env = pure none := by
  have kn : env.kindOf n = some .cell := hk
  cases e with
  | Tuple vs k2 p2 =>
    unfold swappedStores
    dsimp only
    refine (iteSame fun _ => ?_)
    refine (iteSame fun _ => ?_)
    refine if_pos ?_
    rw [Bool.or_eq_true]
    left
    rw [bne_iff_ne]
    intro q
    have := fm_len q _ hm
    simp only [kn] at this
    cases this
  | _ => rfl
theorem each1 {env : PySem.Env} {ts : List Expr} {k : Nat} : (assignEach [.Tuple ts k tpos] env).map (·.2) = [assign (.Tuple ts k tpos) env] := rfl
theorem s_unp {ts : List Expr} {k : Nat} {is : List Nat} {f : Rho → M (D × Tg)} (he : PE X e (TEv G0 H0 Er f)) (hn : ncomp e = true) (hsw : swappedStores [.Tuple ts k tpos] e X.env = pure none) (hg : PG X (.Tuple ts k tpos) (gT X.K false is)) :
    PS X (.Assign [.Tuple ts k tpos] e pos) (TSv G0 H0 Er fun ρ => mb (mb (f ρ) keep) fun d => unpF is ρ d) := by
  refine PS.imp (ps_asg he hg (show swapsWith e (some (.Tuple ts k tpos)) pos.line X.env = pure false from noswap hn) hsw rfl) fun D σ H h => ?_
  obtain ⟨G, ρ, s, h⟩ := h
  dsimp only at h
  refine ⟨G, ρ, s, ?_⟩
  cases hf : f ρ with
  | none => rw [hf] at h; exact h
  | some t =>
    rw [hf] at h
    cases t with
    | error c => exact h
    | ok a =>
      intro G1 H1 x v r
      have h : PF Er G0 H0 G (mb (keep a) fun d => unpF is ρ d) D := h
      cases hk : keep a with
      | none => rw [hk] at h; exact absurd h (by intro z; exact z)
      | some t =>
        rw [hk] at h
        cases t with
        | error c => obtain ⟨a1, a2⟩ := a; cases a2 <;> cases hk
        | ok d =>
          have h : PF Er G0 H0 G (unpF is ρ d) D := h
          obtain ⟨G2, y, rp, sm⟩ := r.kept hk x
          cases d with
          | tup ds =>
            have h : PF Er G0 H0 G (PV.op ((setAll ρ is ds).map .nx)) D := h
            cases hs : setAll ρ is ds with
            | none => rw [hs] at h; exact absurd h (by intro z; exact z)
            | some ρ' =>
              rw [hs] at h
              have hb : bindT false is (.tup ds) ρ = some ρ' := by
                cases is with
                | nil => exact hs
                | cons a t => cases t <;> exact hs
              exact bindT_rel (K := X.K) [] σ (s.mono y) rp hb fun σ' s' _ => h σ' G2 H1 y.gg s'
          | _ => exact absurd h (by intro z; exact z)
/-! ### a, b = x, y -/
def isStar (e : Expr) : Bool := match e with | .Starred .. => true | _ => false
theorem isStar_nst {e : Expr} (h : nst e = true) : isStar e = false := by
  cases e <;> first | rfl | cases h
theorem par_swap {env : PySem.Env} {n m : Str} {px py pt pt2 : Pos} {k k2 : Nat} (hk : env.scope.kind = .function) (h1 : env.scope.names.lookup n = some .local) (h2 : env.scope.names.lookup m = some .local) (hnm : n ≠ m) (hl : (py.line == px.line) = true)
    (s1 : nst x = true) (s2 : nst y = true) (hf : [x, y].all (foldedForSure 8) = false) (hc : [x, y].all (constantsAlone 8) = false) :
    swappedStores [.Tuple [.Name n px, .Name m py] k pt] (.Tuple [x, y] k2 pt2) env = pure (some [n, m]) := by
  have hb : env.blockKind = .function := by unfold Env.blockKind; rw [hk]; rfl
  have k1 : env.kindOf n = some .local := h1
  have k3 : env.kindOf m = some .local := h2
  have hne : (m == n) = false := by simpa using fun e => hnm e.symm
  have dd : [n, m].eraseDups = [n, m] := by
    simp [List.eraseDups_cons, hne]
  let F : List Str := [Expr.Name n px, Expr.Name m py].filterMap fun
      | .Name id pos => if env.kindOf id == some .local && pos.line == (((List.head? [Expr.Name n px, Expr.Name m py]).map (·.pos.line)).getD 0) then some id else none
      | _ => none
  have fm : F = [n, m] := by
    have e : (((List.head? [Expr.Name n px, Expr.Name m py]).map (·.pos.line)).getD 0) = px.line := rfl
    show ([Expr.Name n px, Expr.Name m py].filterMap fun
      | .Name id pos => if env.kindOf id == some .local && pos.line == (((List.head? [Expr.Name n px, Expr.Name m py]).map (·.pos.line)).getD 0) then some id else none
      | _ => none) = [n, m]
    rw [e]
    simp only [List.filterMap_cons, List.filterMap_nil, k1, k3, hl, beq_self_eq_true, Bool.and_self, if_true]
  unfold swappedStores
  refine (if_neg ?_).trans ((if_neg ?_).trans ((if_neg ?_).trans ((if_neg ?_).trans ?_)))
  · rw [hb]; exact Bool.false_ne_true
  · show ¬ ((isStar x || (isStar y || false)) = true)
    rw [isStar_nst s1, isStar_nst s2]; exact Bool.false_ne_true
  · show ¬ ((F.length != 2 || F.eraseDups.length != F.length) = true)
    rw [fm, dd]; exact Bool.false_ne_true
  · rw [hf]; exact Bool.false_ne_true
  · rw [hc]
    show pure (some F) = _
    rw [fm]
theorem s_par {i j : Nat} {n m : Str} {f g : Rho → M (D × Tg)} {px py pt pt2 : Pos} {k k2 : Nat} (hca : X.calm = true) (hN : X.N.Nodup) (hi : X.N[i]? = some n) (hj : X.N[j]? = some m) (hij : i ≠ j) (hkind : X.env.scope.kind = .function)
    (h1 : X.env.scope.names.lookup n = some .local) (h2 : X.env.scope.names.lookup m = some .local) (hl : (py.line == px.line) = true)
    (s1 : nst x = true) (s2 : nst y = true) (hf : [x, y].all (foldedForSure 8) = false) (hc : [x, y].all (constantsAlone 8) = false) (hx : PE X x (TEv G0 H0 Er f)) (hy : PE X y (TEv G0 H0 Er g)) :
    PS X (.Assign [.Tuple [.Name n px, .Name m py] k pt] (.Tuple [x, y] k2 pt2) pos) (TSv G0 H0 Er fun ρ => mb (mb (f ρ) keep) fun u => mb (mb (g ρ) keep) fun w => ok (.nx ((ρ.set i (.va u)).set j (.va w)))) := by
  have hnm : n ≠ m := fun e => hij (nodup_ix hN hi (e ▸ hj))
  have ha : PA X [x, y] (TAv G0 H0 Er fun ρ => mb (mb (f ρ) keep) fun d => mb (mb (mb (g ρ) keep) fun d => mb (ok []) fun ds => ok (d :: ds)) fun ds => ok (d :: ds)) := r_cons s1 hx (r_cons s2 hy r_nil)
  refine PS.imp (ps_par hca hN hi hj hij h1 h2 ha (par_swap hkind h1 h2 hnm hl s1 s2 hf hc) rfl) fun D σ H h => ?_
  obtain ⟨G, ρ, s, h⟩ := h
  dsimp only at h
  refine ⟨G, ρ, s, ?_⟩
  dsimp only
  cases hF : mb (f ρ) keep with
  | none => rw [hF] at h; exact h
  | some t =>
    rw [hF] at h
    cases t with
    | error c => exact h
    | ok u =>
      simp only [mb_some] at h ⊢
      cases hG : mb (g ρ) keep with
      | none => rw [hG] at h; exact h
      | some t =>
        rw [hG] at h
        cases t with
        | error c => exact h
        | ok w =>
          simp only [mb_some, mb_ok] at h ⊢
          intro G1 H1 x vs r
          cases r with
          | cons r1 r2 =>
            cases r2 with
            | cons r2 r3 =>
              cases r3
              exact ⟨_, _, rfl, h _ G1 H1 x.gg (((s.mono x).set_va r1).set_va r2)⟩

/-! ### x.append(e), x[k] = e: x an own list -/
/-- an own list is written -/
theorem SRel.wr {G H : Hp} {σ : L2.St} {ρ : Rho} (s : SRel G0 H0 G H σ ρ) {i : Nat} {ds es : List D} {pp : Addr} {ws : List V} (e : ρ[i]? = some (.ow ds)) (es' : σ[i]? = some (some (.ref pp))) (h0 : H0 pp = none) (hg : G pp = none) (r : RpL G ws es) :
    SRel G0 H0 G (upd H pp (.lst ws)) σ (ρ.set i (.ow es)) := by
  have x0 : Ext G0 H0 G (upd H pp (.lst ws)) := ⟨s.ext.gg, fun b o q => by rw [upd_ne (ne_of_none q h0)]; exact s.ext.hh b o q, same_upd2 s.ext.gh hg, s.ext.old⟩
  have hi : i < ρ.length := (List.getElem?_eq_some_iff.mp e).1
  refine ⟨x0, by simp [s.len], fun j d h => ?_, fun j c h => ?_, fun j k c c' q h1 h2 h3 h4 => ?_⟩
  · by_cases hj : i = j
    · subst hj
      have q := get_set_eq h
      cases q
    · rw [List.getElem?_set_ne hj] at h
      exact s.va j d h
  · by_cases hj : i = j
    · subst hj
      have q := get_set_eq h
      cases q
      exact ⟨pp, ws, es', h0, hg, upd_same, r⟩
    · rw [List.getElem?_set_ne hj] at h
      obtain ⟨q, us, a1, a2, a3, a4, a5⟩ := s.ow j c h
      have hne : q ≠ pp := fun z => hj (s.inj i j ds c pp e h es' (by rw [a1, z]))
      exact ⟨q, us, a1, a2, a3, by rw [upd_ne hne]; exact a4, a5⟩
  · have f : ∀ (l : Nat) (b : List D), (ρ.set i (.ow es))[l]? = some (.ow b) → ∃ b', ρ[l]? = some (.ow b') := fun l b h => by
      by_cases hl : i = l
      · subst hl; exact ⟨ds, e⟩
      · rw [List.getElem?_set_ne hl] at h; exact ⟨b, h⟩
    obtain ⟨b1, g1⟩ := f j c h1
    obtain ⟨b2, g2⟩ := f k c' h2
    exact s.inj j k b1 b2 q g1 g2 h3 h4
theorem s_app {i : Nat} {n : Str} {f : Rho → M (D × Tg)} (hi : X.N[i]? = some n) (hv : Vis X.env.scope n) (hd : (n == ("__debug__" : Str)) = false) (hcd : (n == ("__classdict__" : Str)) = false) (hs : nst e = true) (hl : (p2.endLine == p3.line) = true) (he : PE X e (TEv G0 H0 Er f)) :
    PS X (.Expr (.Call (.Attribute (.Name n p) "append" p2) [e] [] p3) pos) (TSv G0 H0 Er fun ρ => mb (PV.op (ownOf ρ i)) fun ds => mb (mb (f ρ) keep) fun d => appF i ds d ρ) := by
  have hb := pe_bm (X := X) (cpos := p3) (apos := p2) PySem.F.plainAttrs_list PySem.F.slot_list_append PySem.F.type_list_append mt_append (pe_var (pos := p) hi hv hd hcd) (one_arg hs he) rfl
    (by rw [starEach_nst hs]; rfl) hl (starEach_nst hs) rfl
  refine PS.imp (ps_expr hb) fun D σ H h => ?_
  obtain ⟨G, ρ, s, h⟩ := h
  dsimp only at h
  obtain ⟨ds, e1, h⟩ := h.op
  have e1 : ρ[i]? = some (.ow ds) := by
    unfold ownOf at e1
    cases hr : ρ[i]? with
    | none => rw [hr] at e1; cases e1
    | some c => rw [hr] at e1; cases c <;> cases e1; rfl
  obtain ⟨pp, vs, a1, a2, a3, a4, a5⟩ := s.ow i ds e1
  refine ⟨_, a1, .inl ⟨rfl, _, SqL.of a4⟩, G, ρ, s, ?_⟩
  cases hf : f ρ with
  | none => rw [hf] at h; exact h
  | some t =>
    rw [hf] at h
    cases t with
    | error c => exact h
    | ok a =>
      intro G1 H1 x v r
      have h : PF Er G0 H0 G (mb (keep a) fun d => appF i ds d ρ) D := h
      cases hk : keep a with
      | none => rw [hk] at h; exact absurd h (by intro z; exact z)
      | some t =>
        rw [hk] at h
        cases t with
        | error c => obtain ⟨b1, b2⟩ := a; cases b2 <;> cases hk
        | ok d =>
          have h : PF Er G0 H0 G (appF i ds d ρ) D := h
          obtain ⟨G2, y, rp, sm⟩ := r.kept hk x
          unfold appF at h
          by_cases hl : ds.length < top
          · rw [if_pos hl] at h
            refine ⟨pp, vs, v, rfl, rfl, x.hh _ _ a4, by rw [a5.length]; exact ltTop hl, ?_⟩
            exact h σ G2 _ y.gg ((s.mono y).wr e1 a1 a2 (y.g_none a4 a3) ((a5.mono y.gg).append (.cons rp .nil)))
          · rw [if_neg hl] at h; exact absurd h (by intro z; exact z)
theorem s_seti {i : Nat} {n : Str} {f g : Rho → M (D × Tg)} (hi : X.N[i]? = some n) (hv : Vis X.env.scope n) (hd : (n == ("__debug__" : Str)) = false) (hcd : (n == ("__classdict__" : Str)) = false) (hc : ncomp e = true) (hs : nslice y = true)
    (hy : PE X y (TEv G0 H0 Er g)) (he : PE X e (TEv G0 H0 Er f)) :
    PS X (.Assign [.Subscript (.Name n p) y p2] e pos) (TSv G0 H0 Er fun ρ => mb (mb (f ρ) keep) fun d => mb (PV.op (ownOf ρ i)) fun ds => mb (mb (g ρ) fun x => intM x.1) fun k => setF i ds k d ρ) := by
  have hg := pg_sub (X := X) (pos := p2) (pe_var (pos := p) hi hv hd hcd) hy (set_list (X := X)) (by intro v; cases y <;> first | rfl | cases hs)
  refine PS.imp (ps_asg he hg (show swapsWith e (some (.Subscript (.Name n p) y p2)) pos.line X.env = pure false from noswap hc) (by cases e <;> rfl) rfl) fun D σ H h => ?_
  obtain ⟨G, ρ, s, h⟩ := h
  dsimp only at h
  refine ⟨G, ρ, s, ?_⟩
  cases hf : f ρ with
  | none => rw [hf] at h; exact h
  | some t =>
    rw [hf] at h
    cases t with
    | error c => exact h
    | ok a =>
      intro G1 H1 x v r
      have h : PF Er G0 H0 G (mb (keep a) fun d => mb (PV.op (ownOf ρ i)) fun ds => mb (mb (g ρ) fun x => intM x.1) fun k => setF i ds k d ρ) D := h
      cases hk : keep a with
      | none => rw [hk] at h; exact absurd h (by intro z; exact z)
      | some t =>
        rw [hk] at h
        cases t with
        | error c => obtain ⟨b1, b2⟩ := a; cases b2 <;> cases hk
        | ok d =>
          obtain ⟨G2, y, rp, sm⟩ := r.kept hk x
          obtain ⟨ds, e1, h⟩ := PF.op h
          have e1 : ρ[i]? = some (.ow ds) := by
            unfold ownOf at e1
            cases hr : ρ[i]? with
            | none => rw [hr] at e1; cases e1
            | some c => rw [hr] at e1; cases c <;> cases e1; rfl
          obtain ⟨pp, vs, a1, a2, a3, a4, a5⟩ := s.ow i ds e1
          have s2 := s.mono y
          refine ⟨_, a1, G2, ρ, s2, ?_⟩
          cases hgr : g ρ with
          | none => rw [hgr] at h; exact h
          | some t =>
            rw [hgr] at h
            cases t with
            | error c => exact h
            | ok u =>
              obtain ⟨u, tu⟩ := u
              intro G3 H3 x3 w r3
              have h : PF Er G0 H0 G (mb (intM u) fun k => setF i ds k d ρ) D := h
              cases u with
              | int k =>
                have h : PF Er G0 H0 G (setF i ds k d ρ) D := h
                unfold setF at h
                cases hj : ixN ds.length k with
                | none => rw [hj] at h; exact absurd h (by intro z; exact z)
                | some j =>
                  rw [hj] at h
                  have xx := y.trans x3
                  refine ⟨pp, vs, k, j, rfl, r3.int, xx.hh _ _ a4, by rw [a5.length]; exact hj, ?_⟩
                  exact h σ G3 _ xx.gg ((s.mono xx).wr e1 a1 a2 (xx.g_none a4 a3) ((a5.mono xx.gg).set (rp.mono x3.gg) j))
              | _ => exact absurd h (by intro z; exact z)

/-! ### return, raise, if -/
theorem s_ret {f : Rho → M (D × Tg)} (he : PE X e (TEv G0 H0 Er f)) : PS X (.Return (some e) pos) (TSv G0 H0 Er fun ρ => mb (f ρ) fun x => ok (.rt x.1)) := by
  refine PS.imp (ps_ret he) fun D σ H h => ?_
  obtain ⟨G, ρ, s, h⟩ := h
  refine ⟨G, ρ, s, (PF.pm (H := H) h).imp fun a G1 H1 x q v r => ?_⟩
  have q : ∀ v G' H', Ext G0 H0 G' H' → Rp G' v a.1 → D.rt v H' := q
  have e1 := s.ext.trans x
  cases r with
  | sh r => exact q v G1 H1 e1 r
  | fr h1 h2 h3 h4 => exact q _ _ H1 (e1.freeze (s.ext.hh.free h1) h2 h3) (.lst upd_same (h4.mono (same_upd h2)))
  | sl h1 h2 h3 h4 =>
    obtain ⟨pp, vs, a1, a2, a3, a4, a5⟩ := (s.mono x).ow _ _ h1
    rw [h2] at a1
    cases a1
    exact q _ _ H1 (e1.freeze a2 a3 h3) (.lst upd_same (h4.mono (same_upd a3)))
theorem s_raise {C : Addr} {n : Str} {m : Str} {j : Nat} {E : XK} {bm : List Value} {B newId initId : String} (hc : X.calm = true) (tk : Takes X (fun cls d _ H => E cls d H)) (F : ExcBaseFacts B newId initId bm) (q : PySem.W.excIn X.K C bm newId = true)
    (gC : X.mg n = some (.ref C)) (kC : PySem.W.keepIn X.K (.ref C) = true) (r : Raises X (.ref C)) (hg : Gl X n) (hd : (n == ("__debug__" : Str)) = false) :
    PS X (.Raise (some (.Call (.Name n p) [.Constant (.str m) j p2] [] p3)) none pos) (TSv G0 H0 (Err X.mg G0 H0 E) fun _ => er n) := by
  refine PS.imp (ps_raise hc tk (pmk_own F q gC kC r hg hd)) fun D σ H h => ?_
  obtain ⟨G, ρ, s, h⟩ := h
  exact h G H s.ext _ ⟨C, gC, rfl⟩
theorem s_if {fc : Rho → M Bool} {fa fb : Rho → M Fl} {a b : List Stmt} (hc : PT X e (TTv G0 H0 Er fc)) (ha : PSs X a (TSv G0 H0 Er fa)) (hb : PSs X b (TSv G0 H0 Er fb)) :
    PS X (.If e a b pos) (TSv G0 H0 Er fun ρ => mb (fc ρ) fun r => if r then fa ρ else fb ρ) := by
  refine PS.imp (ps_if hc ha hb) fun D σ H h => ?_
  obtain ⟨G, ρ, s, h⟩ := h
  refine ⟨G, ρ, s, (PF.pm (H := H) h).imp fun c G1 H1 x q => ?_⟩
  cases c with
  | true => exact ⟨G1, ρ, s.mono x, q⟩
  | false => exact ⟨G1, ρ, s.mono x, q⟩

/-! ### loops -/
theorem s_while {fc : Rho → M Bool} {fb : Rho → M Fl} {body : List Stmt} (wf : Nat) (hp : PassesOwn (model X.prog X.w) X.A X.env X.xe) (hc : PT X e (TTv G0 H0 Er fc)) (hb : PSs X body (TSv G0 H0 Er fb)) :
    PS X (.While e body [] pos) (TSv G0 H0 Er fun ρ => whileL fc fb wf ρ) := by
  refine PS.imp (ps_while hp hc hb) fun D σ H h => ?_
  obtain ⟨G, ρ, s, h⟩ := h
  refine ⟨fun m σ H => ∃ G ρ, SRel G0 H0 G H σ ρ ∧ PF Er G0 H0 G (whileL fc fb m ρ) D, ⟨wf, G, ρ, s, h⟩, ?_⟩
  rintro m σ H ⟨G, ρ, s, h⟩
  cases m with
  | zero => exact absurd h (by intro z; exact z)
  | succ m =>
    refine ⟨G, ρ, s, (PF.pm (H := H) (show PF Er G0 H0 G (mb (fc ρ) fun b => if b then mb (fb ρ) fun f => match f with | .nx ρ2 => whileL fc fb m ρ2 | .rt r => ok (.rt r) else ok (.nx ρ)) D from h)).imp fun b G1 H1 x q => ?_⟩
    cases b with
    | false =>
      refine iteF ?_
      exact q σ G1 H1 (Same.refl _) (s.mono x)
    | true =>
      refine iteT ?_
      refine ⟨fun σ' H' => ∃ G ρ, SRel G0 H0 G H' σ' ρ ∧ PF Er G0 H0 G (whileL fc fb m ρ) D, fun σ' H' ⟨G, ρ, z⟩ => ⟨m, Nat.lt_succ_self m, G, ρ, z⟩, G1, ρ, s.mono x, ?_⟩
      have q : PF Er G0 H0 G1 (mb (fb ρ) fun f => match f with | .nx ρ2 => whileL fc fb m ρ2 | .rt r => ok (.rt r)) D := q
      cases hf : fb ρ with
      | none => rw [hf] at q; exact q
      | some t =>
        rw [hf] at q
        cases t with
        | error c => exact q
        | ok f =>
          cases f with
          | rt d => exact q
          | nx ρ2 => exact fun σ' G' H' sm s' => ⟨G', ρ2, s', PF.grow (r := whileL fc fb m ρ2) q sm⟩
theorem s_for {it : Expr} {fi : Rho → M (List D × Tg)} {fb : Rho → M Fl} {body : List Stmt} {one : Bool} {ts : List Nat} (hp : PassesOwn (model X.prog X.w) X.A X.env X.xe) (hc : X.calm = true) (hi : PI X tg it (TIv G0 H0 Er fi)) (hg : PG X tg (gT X.K one ts))
    (hb : PSs X body (TSv G0 H0 Er fb)) (hs : ∀ x, foldedSetIterable it X.env x = pure x) :
    PS X (.For tg it body [] pos) (TSv G0 H0 Er fun ρ => mb (fi ρ) fun x => match x.2 with | .sl _ => none | _ => forL (bindT one ts) fb x.1 ρ) := by
  refine PS.imp (ps_for hp hc hi hg hb hs) fun D σ H h => ?_
  obtain ⟨G, ρ, s, h⟩ := h
  refine ⟨G, ρ, s, (PF.pm (H := H) h).imp fun a G1 H1 x q J κ k1 _ k3 io => ?_⟩
  obtain ⟨ds, t⟩ := a
  have triv : ∀ H, κ H := by
    rcases k3 with ⟨i, e⟩ | k3
    · have e : t = .sl i := e
      subst e
      exact absurd q (by intro z; exact z)
    · exact k3
  have q : PF Er G0 H0 G1 (forL (bindT one ts) fb ds ρ) D := by cases t <;> first | exact q | exact absurd q (by intro z; exact z)
  refine ⟨fun i m σ H => m = ds.length - i ∧ i ≤ ds.length ∧ ∃ Gc ρ, SRel G0 H0 Gc H σ ρ ∧ Same G1 Gc ∧ PF Er G0 H0 Gc (forL (bindT one ts) fb (ds.drop i) ρ) D, ⟨ds.length, by simp, Nat.zero_le _, G1, ρ, s.mono x, Same.refl _, q⟩, ?_⟩
  rintro i m σ2 H2 ⟨rfl, hi, Gc, ρ2, s2, sm, q2⟩
  obtain ⟨go, stop⟩ := io i Gc H2 sm s2.gh (triv _)
  by_cases hlt : i < ds.length
  · obtain ⟨g1, g2⟩ := go _ (List.getElem?_eq_getElem hlt)
    rw [List.drop_eq_getElem_cons hlt] at q2
    refine .inr ⟨g1, fun σ' H' => ∃ Gc ρ, SRel G0 H0 Gc H' σ' ρ ∧ Same G1 Gc ∧ PF Er G0 H0 Gc (forL (bindT one ts) fb (ds.drop (i + 1)) ρ) D, fun σ' H' ⟨Gc, ρ, z⟩ => ⟨ds.length - (i + 1), by omega, rfl, hlt, Gc, ρ, z⟩, fun v H3 y => ?_⟩
    obtain ⟨G3, x3, rv⟩ := g2 v H3 y
    cases hb : bindT one ts ds[i] ρ2 with
    | none => simp only [forL, hb] at q2; exact absurd q2 (by intro z; exact z)
    | some ρ3 =>
      simp only [forL, hb] at q2
      refine bindT_rel [] σ2 (s2.mono x3) rv hb fun σ3 s3 _ => ⟨G3, ρ3, s3, ?_⟩
      cases hf : fb ρ3 with
      | none => rw [hf] at q2; exact q2
      | some t =>
        rw [hf] at q2
        cases t with
        | error c => exact q2
        | ok f =>
          cases f with
          | rt d => exact q2
          | nx ρ4 => exact fun σ' G' H' sm' s' => ⟨G', ρ4, s', (sm.trans x3.gg).trans sm', PF.grow (r := forL (bindT one ts) fb (ds.drop (i + 1)) ρ4) q2 (x3.gg.trans sm')⟩
  · have e : i = ds.length := by omega
    subst e
    rw [List.drop_length] at q2
    exact .inl ⟨stop rfl, q2 σ2 Gc H2 (Same.refl _) s2⟩
end
end PV

set_option Elab.async false
set_option linter.all false
set_option maxRecDepth 100000
set_option maxHeartbeats 2000000
/-! PV: when a tree of the text is a tree of the small language. -/
namespace PV
open PySem PySem.Spec PyProof.Rows L2

/-! ### taking trees apart -/
def dName : Expr → Option Str
  | .Name x _ => some x
  | _ => none
def dConst : Expr → Option Const
  | .Constant c _ _ => some c
  | _ => none
def dTup : Expr → Option (List Expr)
  | .Tuple es _ _ => some es
  | _ => none
def dLst : Expr → Option (List Expr)
  | .List es _ => some es
  | _ => none
def dBin : Expr → Option (Expr × Operator × Expr)
  | .BinOp a o b _ => some (a, o, b)
  | _ => none
def dCmp : Expr → Option (Expr × List CmpOp × List Expr)
  | .Compare a os bs _ => some (a, os, bs)
  | _ => none
def dUn : Expr → Option (UnaryOp × Expr)
  | .UnaryOp o a _ => some (o, a)
  | _ => none
def dBool : Expr → Option (BoolOp × List Expr)
  | .BoolOp o es _ => some (o, es)
  | _ => none
def dSub : Expr → Option (Expr × Expr)
  | .Subscript a b _ => some (a, b)
  | _ => none
def dSlice : Expr → Option (Option Expr × Option Expr × Option Expr)
  | .Slice a b c _ => some (a, b, c)
  | _ => none
def dCall0 : Expr → Option (Expr × List Expr × List Keyword)
  | .Call f es ks _ => some (f, es, ks)
  | _ => none
def dCall (e : Expr) : Option (Str × List Expr) :=
  match dCall0 e with
  | some (f, es, []) => (dName f).map fun x => (x, es)
  | _ => none
def dComp0 : Expr → Option (Expr × List Comprehension × Scope)
  | .ListComp e gs sc _ => some (e, gs, sc)
  | _ => none
def dComp (e : Expr) : Option (Expr × Expr × Expr × List Expr × Scope) :=
  match dComp0 e with
  | some (el, [⟨t, it, ifs, 0⟩], sc) => some (el, t, it, ifs, sc)
  | _ => none
def dBack (e : Expr) : Bool :=
  match dSlice e with
  | some (none, none, some s) => (match dUn s with
    | some (.USub, c) => dConst c == some (.int 1)
    | _ => false)
  | _ => false
section
variable {e a b f el t it : Expr} {x : Str} {es bs : List Expr}
theorem dName_eq (h : dName e = some x) : ∃ p, e = .Name x p := by cases e <;> first | (cases h; exact ⟨_, rfl⟩) | cases h
theorem dConst_eq {c : Const} (h : dConst e = some c) : ∃ k p, e = .Constant c k p := by cases e <;> first | (cases h; exact ⟨_, _, rfl⟩) | cases h
theorem dTup_eq (h : dTup e = some es) : ∃ k p, e = .Tuple es k p := by cases e <;> first | (cases h; exact ⟨_, _, rfl⟩) | cases h
theorem dLst_eq (h : dLst e = some es) : ∃ p, e = .List es p := by cases e <;> first | (cases h; exact ⟨_, rfl⟩) | cases h
theorem dBin_eq {o : Operator} (h : dBin e = some (a, o, b)) : ∃ p, e = .BinOp a o b p := by cases e <;> first | (cases h; exact ⟨_, rfl⟩) | cases h
theorem dCmp_eq {os : List CmpOp} (h : dCmp e = some (a, os, bs)) : ∃ p, e = .Compare a os bs p := by cases e <;> first | (cases h; exact ⟨_, rfl⟩) | cases h
theorem dUn_eq {o : UnaryOp} (h : dUn e = some (o, a)) : ∃ p, e = .UnaryOp o a p := by cases e <;> first | (cases h; exact ⟨_, rfl⟩) | cases h
theorem dBool_eq {o : BoolOp} (h : dBool e = some (o, es)) : ∃ p, e = .BoolOp o es p := by cases e <;> first | (cases h; exact ⟨_, rfl⟩) | cases h
theorem dSub_eq (h : dSub e = some (a, b)) : ∃ p, e = .Subscript a b p := by cases e <;> first | (cases h; exact ⟨_, rfl⟩) | cases h
theorem dSlice_eq {u v w : Option Expr} (h : dSlice e = some (u, v, w)) : ∃ p, e = .Slice u v w p := by cases e <;> first | (cases h; exact ⟨_, rfl⟩) | cases h
theorem dCall_eq (h : dCall e = some (x, es)) : ∃ p q, e = .Call (.Name x p) es [] q := by
  unfold dCall at h
  cases e with
  | Call f fs ks q =>
    cases ks with
    | nil =>
      simp only [dCall0, Option.map_eq_some_iff] at h
      obtain ⟨y, h1, h2⟩ := h
      cases h2
      obtain ⟨p, rfl⟩ := dName_eq h1
      exact ⟨p, q, rfl⟩
    | cons k ks => cases h
  | _ => cases h
theorem dComp_eq {ifs : List Expr} {sc : Scope} (h : dComp e = some (el, t, it, ifs, sc)) : ∃ p, e = .ListComp el [⟨t, it, ifs, 0⟩] sc p := by
  unfold dComp at h
  cases e with
  | ListComp el2 gs sc2 p =>
    simp only [dComp0] at h
    split at h
    · rename_i heq
      cases h
      cases heq
      exact ⟨p, rfl⟩
    · cases h
  | _ => cases h
theorem dBack_eq (h : dBack e = true) : ∃ k p1 p2 p3, e = .Slice none none (some (.UnaryOp .USub (.Constant (.int 1) k p1) p2)) p3 := by
  unfold dBack at h
  split at h
  · rename_i s h1
    obtain ⟨p3, rfl⟩ := dSlice_eq h1
    split at h
    · rename_i c h2
      obtain ⟨p2, rfl⟩ := dUn_eq h2
      have h3 : dConst c = some (.int 1) := by simpa using h
      obtain ⟨k, p1, rfl⟩ := dConst_eq h3
      exact ⟨k, p1, p2, p3, rfl⟩
    · cases h
  · cases h
end

def dMeth : Expr → Option (Expr × Str × List Expr)
  | .Call (.Attribute o m p2) es [] p3 => if (p2.endLine == p3.line) = true then some (o, m, es) else none
  | _ => none
def isKS (e : Expr) : Bool := match e with | .Constant .. => true | _ => false
/-! ### names -/
def visB (sc : Scope) (x : Str) : Bool := match sc.names.lookup x with | some .local => true | some .cell => true | some .free => true | _ => false
def stoB (sc : Scope) (x : Str) : Bool := match sc.names.lookup x with | some .local => true | some .cell => true | _ => false
def locB (sc : Scope) (x : Str) : Bool := match sc.names.lookup x with | some .local => true | _ => false
def glB (sc : Scope) (x : Str) : Bool := match sc.names.lookup x with | some .globalImplicit => true | _ => false
def slotB (N : List Str) (i : Nat) (x : Str) : Bool := decide (N[i]? = some x)
def okN (x : Str) : Bool := !(x == ("__debug__" : Str)) && !(x == ("__classdict__" : Str))
def bnames : List Str := ["len", "tuple", "list", "sum", "min", "max", "sorted", "all", "any", "int", "str", "abs", "set", "isinstance", "range", "zip", "enumerate", "bool"]
def unN : Un → Str
  | .len => "len" | .tuple => "tuple" | .list => "list" | .sum => "sum" | .min => "min" | .max => "max" | .sorted => "sorted" | .all => "all" | .any => "any" | .int => "int" | .str => "str" | .abs => "abs"
  | .neg => "" | .lenset => "len" | .sortedset => "sorted"
/-- a target of names -/
def tgB (N : List Str) (sc : Scope) (one : Bool) (tg : List Nat) (t : Expr) : Bool :=
  if one then (match tg with | [i] => (match dName t with | some x => slotB N i x && stoB sc x | none => false) | _ => false)
  else (match dTup t with | some es => namesB N sc tg es | none => false)
where
  namesB (N : List Str) (sc : Scope) : List Nat → List Expr → Bool
    | [], [] => true
    | i :: is, e :: es => (match dName e with | some x => slotB N i x && stoB sc x | none => false) && namesB N sc is es
    | _, _ => false
def ownP (N : List Str) (own : List Nat) : List (Str × Nat) := own.map fun i => (N.getD i "", i)

mutual
def chkE (N : List Str) : ME → Scope → Expr → Bool
  | .var i, sc, e => match dName e with | some x => slotB N i x && visB sc x && okN x | none => false
  | .glo c, sc, e => match dName e with | some x => decide (x = c) && glB sc x && okN x | none => false
  | .kint n, _, e => dConst e == some (.int n)
  | .kstr s, _, e => dConst e == some (.str s)
  | .kbl b, _, e => dConst e == some (.bool b)
  | .knon, _, e => dConst e == some .none
  | .tup es, sc, e => match dTup e with | some xs => chkA N es sc xs | none => false
  | .lst es, sc, e => match dLst e with | some xs => chkA N es sc xs | none => false
  | .bin o a b, sc, e => match dBin e with | some (x, o', y) => decide (o' = boE o) && chkE N a sc x && chkE N b sc y | none => false
  | .cmp o a b, sc, e => match dCmp e with | some (x, [o'], [y]) => decide (o' = coE o) && nset y && chkE N a sc x && chkE N b sc y | _ => false
  | .chain o1 o2 a b c, sc, e => match dCmp e with
    | some (x, [o', o''], [y, z]) => decide (o' = coE o1) && decide (o'' = coE o2) && nset z && chkE N a sc x && chkE N b sc y && chkE N c sc z
    | _ => false
  | .un o a, sc, e => match o with
    | .neg => (match dUn e with | some (.USub, x) => chkE N a sc x | _ => false)
    | .lenset => (match dCall e with | some (f, [y]) => (match dCall y with | some (g, [x]) => decide (f = "len") && decide (g = "set") && glB sc f && glB sc g && nst x && chkE N a sc x | _ => false) | _ => false)
    | .sortedset => (match dCall e with | some (f, [y]) => (match dCall y with | some (g, [x]) => decide (f = "sorted") && decide (g = "set") && glB sc f && glB sc g && nst x && chkE N a sc x | _ => false) | _ => false)
    | o => (match dCall e with | some (f, [x]) => decide (f = unN o) && glB sc f && nst x && chkE N a sc x | _ => false)
  | .mm mx a b, sc, e => match dCall e with | some (f, [x, y]) => decide (f = if mx then "max" else "min") && glB sc f && nst x && nst y && chkE N a sc x && chkE N b sc y | _ => false
  | .isi t a, sc, e => match dCall e with
    | some (f, [x, y]) => decide (f = "isinstance") && glB sc f && (match dName y with | some g => decide (g = (tyS t : String)) && glB sc g | none => false) && nst x && chkE N a sc x
    | _ => false
  | .and es, sc, e => match dBool e with | some (.And, xs) => chkV N es sc xs | _ => false
  | .or es, sc, e => match dBool e with | some (.Or, xs) => chkV N es sc xs | _ => false
  | .not a, sc, e => match dUn e with | some (.Not, x) => chkE N a sc x | _ => false
  | .ix a b, sc, e => match dSub e with | some (x, y) => nslice y && chkE N a sc x && chkE N b sc y | none => false
  | .sl a lo hi, sc, e => match dSub e with
    | some (x, y) => (match dSlice y with | some (l, h, none) => chkE N a sc x && chkP N lo sc l && chkP N hi sc h | _ => false)
    | none => false
  | .rev a, sc, e => match dSub e with | some (x, y) => dBack y && chkE N a sc x | none => false
  | .call f es, sc, e => match dCall e with | some (g, x :: xs) => decide (g = f) && glB sc g && okN g && (x :: xs).all nst && chkA N es sc (x :: xs) | _ => false
  | .callZ f i es, sc, e => match dCall e with
    | some (g, x :: xs) => (match xs.getLast? with
      | some z => (match dName z with
        | some y => slotB N i y && visB sc y && okN y && decide (g = f) && glB sc g && okN g && (x :: xs.dropLast).all nst && chkA N es sc (x :: xs.dropLast)
        | none => false)
      | none => false)
    | _ => false
  | .callB f i es, sc, e => match dCall e with
    | some (g, x :: xs) => (match dName x with
      | some y => slotB N i y && visB sc y && okN y && decide (g = f) && glB sc g && okN g && xs.all nst && chkA N es sc xs
      | none => false)
    | _ => false
  | .join a b, sc, e => match dMeth e with
    | some (o, m, [x]) => decide (m = "join") && nst x && isKS o && chkE N a sc o && chkE N b sc x
    | _ => false
  | .lrng1 tu a, sc, e => match dCall e with
    | some (f, [y]) => (match dCall y with | some (g, [x]) => decide (f = if tu then "tuple" else "list") && decide (g = "range") && glB sc f && glB sc g && nst x && chkE N a sc x | _ => false)
    | _ => false
  | .comp elt one tg iter cond own, sc, e => match dComp e with
    | some (el, t, it, ifs, sc') => blkC N sc sc' (ownP N own) && tg.all (fun i => own.contains i) && tgB N sc' one tg t && nset it && chkI N iter sc it one && chkC N cond sc' ifs && chkE N elt sc' el
    | none => false
  | _, _, _ => false
termination_by structural m _ _ => m
def chkA (N : List Str) : ME → Scope → List Expr → Bool
  | .nil, _, [] => true
  | .cons h t, sc, x :: xs => nst x && chkE N h sc x && chkA N t sc xs
  | _, _, _ => false
termination_by structural m _ _ => m
def chkV (N : List Str) : ME → Scope → List Expr → Bool
  | .cons h t, sc, x :: xs => chkE N h sc x && (match t, xs with | .nil, [] => true | .nil, _ => false | t, _ => chkV N t sc xs)
  | _, _, _ => false
termination_by structural m _ _ => m
def chkT (N : List Str) : ME → Scope → Expr → Bool
  | .not a, sc, e => match dUn e with | some (.Not, x) => chkT N a sc x | _ => false
  | .and es, sc, e => match dBool e with | some (.And, xs) => chkTs N es sc xs | _ => false
  | .or es, sc, e => match dBool e with | some (.Or, xs) => chkTs N es sc xs | _ => false
  | .var i, sc, e => match dName e with | some x => slotB N i x && visB sc x && okN x | none => false
  | .cmp o a b, sc, e => match dCmp e with | some (x, [o'], [y]) => decide (o' = coE o) && nset y && chkE N a sc x && chkE N b sc y | _ => false
  | .chain o1 o2 a b c, sc, e => match dCmp e with
    | some (x, [o', o''], [y, z]) => decide (o' = coE o1) && decide (o'' = coE o2) && nset z && chkE N a sc x && chkE N b sc y && chkE N c sc z
    | _ => false
  | .isi t a, sc, e => match dCall e with
    | some (f, [x, y]) => decide (f = "isinstance") && glB sc f && (match dName y with | some g => decide (g = (tyS t : String)) && glB sc g | none => false) && nst x && chkE N a sc x
    | _ => false
  | .call f es, sc, e => match dCall e with | some (g, x :: xs) => decide (g = f) && glB sc g && okN g && (x :: xs).all nst && chkA N es sc (x :: xs) | _ => false
  | .callZ f i es, sc, e => match dCall e with
    | some (g, x :: xs) => (match xs.getLast? with
      | some z => (match dName z with
        | some y => slotB N i y && visB sc y && okN y && decide (g = f) && glB sc g && okN g && (x :: xs.dropLast).all nst && chkA N es sc (x :: xs.dropLast)
        | none => false)
      | none => false)
    | _ => false
  | .un o a, sc, e => match o with
    | .all => (match dCall e with | some (f, [x]) => decide (f = "all") && glB sc f && nst x && chkE N a sc x | _ => false)
    | .any => (match dCall e with | some (f, [x]) => decide (f = "any") && glB sc f && nst x && chkE N a sc x | _ => false)
    | _ => false
  | _, _, _ => false
termination_by structural m _ _ => m
def chkTs (N : List Str) : ME → Scope → List Expr → Bool
  | .cons h t, sc, x :: xs => chkT N h sc x && (match t, xs with | .nil, [] => true | .nil, _ => false | t, _ => chkTs N t sc xs)
  | _, _, _ => false
termination_by structural m _ _ => m
/-- a comprehension's condition -/
def chkC (N : List Str) : ME → Scope → List Expr → Bool
  | .knon, _, ifs => (match ifs with | [] => true | _ => false)
  | .som c, sc, ifs => (match ifs with | [x] => chkT N c sc x | _ => false)
  | _, _, _ => false
termination_by structural m _ _ => m
def chkP (N : List Str) : ME → Scope → Option Expr → Bool
  | .noP, _, o => (match o with | none => true | _ => false)
  | .som e, sc, o => (match o with | some x => chkE N e sc x | _ => false)
  | _, _, _ => false
termination_by structural m _ _ => m
def chkI (N : List Str) : ME → Scope → Expr → Bool → Bool
  | .rng1 a, sc, e, _ => match dCall e with | some (f, [x]) => decide (f = "range") && glB sc f && nst x && chkE N a sc x | _ => false
  | .rng2 a b, sc, e, _ => match dCall e with | some (f, [x, y]) => decide (f = "range") && glB sc f && nst x && nst y && chkE N a sc x && chkE N b sc y | _ => false
  | .zip a b, sc, e, one => match dCall e with | some (f, [x, y]) => !one && decide (f = "zip") && glB sc f && nst x && nst y && chkE N a sc x && chkE N b sc y | _ => false
  | .enum a, sc, e, one => match dCall e with | some (f, [x]) => !one && decide (f = "enumerate") && glB sc f && nst x && chkE N a sc x | _ => false
  | .walk a, sc, e, _ => chkE N a sc e
  | _, _, _, _ => false
termination_by structural m _ _ _ => m
end

/-! ### statements taken apart -/
def dAsg : Stmt → Option (Expr × Expr × Pos)
  | .Assign [t] v p => some (t, v, p)
  | _ => none
def dExpr : Stmt → Option Expr
  | .Expr v _ => some v
  | _ => none
def dRet : Stmt → Option Expr
  | .Return (some v) _ => some v
  | _ => none
def dIf : Stmt → Option (Expr × List Stmt × List Stmt)
  | .If c a b _ => some (c, a, b)
  | _ => none
def dFor : Stmt → Option (Expr × Expr × List Stmt)
  | .For t i b [] _ => some (t, i, b)
  | _ => none
def dWhile : Stmt → Option (Expr × List Stmt)
  | .While c b [] _ => some (c, b)
  | _ => none
def dRaise : Stmt → Option Expr
  | .Raise (some e) none _ => some e
  | _ => none
def dStrC (e : Expr) : Bool := match dConst e with | some (.str _) => true | _ => false
section
variable {st : Stmt} {t v c o : Expr} {p : Pos} {a b : List Stmt} {m : Str} {es : List Expr}
theorem dAsg_eq (h : dAsg st = some (t, v, p)) : st = .Assign [t] v p := by
  cases st with
  | Assign ts w q =>
    match ts, h with
    | [x], h => cases h; rfl
    | [], h => cases h
    | _ :: _ :: _, h => cases h
  | _ => cases h
theorem dExpr_eq (h : dExpr st = some v) : ∃ p, st = .Expr v p := by cases st <;> first | (cases h; exact ⟨_, rfl⟩) | cases h
theorem dRet_eq (h : dRet st = some v) : ∃ p, st = .Return (some v) p := by
  cases st with
  | Return o q =>
    cases o with
    | none => cases h
    | some w => cases h; exact ⟨q, rfl⟩
  | _ => cases h
theorem dIf_eq (h : dIf st = some (c, a, b)) : ∃ p, st = .If c a b p := by cases st <;> first | (cases h; exact ⟨_, rfl⟩) | cases h
theorem dFor_eq (h : dFor st = some (t, v, a)) : ∃ p, st = .For t v a [] p := by
  cases st with
  | For t i b o q =>
    cases o with
    | nil => cases h; exact ⟨q, rfl⟩
    | cons _ _ => cases h
  | _ => cases h
theorem dWhile_eq (h : dWhile st = some (c, a)) : ∃ p, st = .While c a [] p := by
  cases st with
  | While t b o q =>
    cases o with
    | nil => cases h; exact ⟨q, rfl⟩
    | cons _ _ => cases h
  | _ => cases h
theorem dRaise_eq (h : dRaise st = some v) : ∃ p, st = .Raise (some v) none p := by
  cases st with
  | Raise o c q =>
    match o, c, h with
    | some w, none, h => cases h; exact ⟨q, rfl⟩
    | none, _, h => cases h
    | some _, some _, h => cases h
  | _ => cases h
theorem dMeth_eq {e : Expr} (h : dMeth e = some (o, m, es)) : ∃ p2 p3, e = .Call (.Attribute o m p2) es [] p3 ∧ (p2.endLine == p3.line) = true := by
  cases e with
  | Call f fs ks q =>
    cases f with
    | Attribute o2 m2 p2 =>
      cases ks with
      | nil =>
        simp only [dMeth] at h
        by_cases hl : (p2.endLine == q.line) = true
        · rw [if_pos hl] at h; cases h; exact ⟨p2, q, rfl, hl⟩
        · rw [if_neg hl] at h; cases h
      | cons _ _ => cases h
    | _ => cases ks <;> cases h
  | _ => cases h
theorem dStrC_eq {e : Expr} (h : dStrC e = true) : ∃ x k p, e = .Constant (.str x) k p := by
  unfold dStrC at h
  split at h
  · rename_i x h1
    obtain ⟨k, p, rfl⟩ := dConst_eq h1
    exact ⟨x, k, p, rfl⟩
  · cases h
end
/-- whether a comprehension that is stored goes by the exchange of stores, or not at all -/
def lcB (sc : Scope) (x : Str) (t v : Expr) : Bool :=
  match dComp v with
  | some (_, _, _, _, sc') => locB sc x && (t.pos.line == v.pos.line) && !(sc'.names.any fun (n, k) => n == x && (k == .local || k == .cell))
  | none => false
def celB (sc : Scope) (x : Str) : Bool := match sc.names.lookup x with | some .cell => true | _ => false
/-- one of these targets is a cell -/
def celT (sc : Scope) (t : Expr) : Bool := match dTup t with
  | some ts => ts.any fun e => (match dName e with | some x => celB sc x | none => false)
  | none => false
mutual
def chkB (N : List Str) (ex : Str → Bool) : MS → Scope → List Stmt → Bool
  | .nil, _, sts => (match sts with | [] => true | _ => false)
  | .seq s r, sc, sts => (match sts with | st :: sts => chkS N ex s sc st && chkB N ex r sc sts | _ => false)
  | _, _, _ => false
termination_by structural m _ _ => m
def chkS (N : List Str) (ex : Str → Bool) : MS → Scope → Stmt → Bool
  | .asg i _ e, sc, st => match dAsg st with
    | some (t, v, _) => (match dName t with
      | some x => slotB N i x && stoB sc x && (ncomp v || lcB sc x t v || celB sc x) && chkE N e sc v
      | none => false)
    | none => false
  | .unp is e, sc, st => match dAsg st with
    | some (t, v, _) => tgB N sc false is t && (tupok v || (ncomp v && celT sc t)) && chkE N e sc v
    | none => false
  | .par i j a b, sc, st => match dAsg st with
    | some (t, v, _) => (match dTup t, dTup v with
      | some [n, m], some [x, y] => (match dName n, dName m with
        | some nn, some mm => slotB N i nn && slotB N j mm && decide (i ≠ j) && locB sc nn && locB sc mm && (m.pos.line == n.pos.line) && nst x && nst y && ![x, y].all (foldedForSure 8) && ![x, y].all (constantsAlone 8) && chkE N a sc x && chkE N b sc y
        | _, _ => false)
      | _, _ => false)
    | none => false
  | .app i e, sc, st => match dExpr st with
    | some v => (match dMeth v with
      | some (o, m, [x]) => (match dName o with
        | some n => slotB N i n && visB sc n && okN n && decide (m = "append") && nst x && chkE N e sc x
        | none => false)
      | _ => false)
    | none => false
  | .seti i k e, sc, st => match dAsg st with
    | some (t, v, _) => (match dSub t with
      | some (o, y) => (match dName o with
        | some n => slotB N i n && visB sc n && okN n && ncomp v && nslice y && chkE N k sc y && chkE N e sc v
        | none => false)
      | none => false)
    | none => false
  | .ret e, sc, st => match dRet st with | some v => chkE N e sc v | none => false
  | .ife c a b, sc, st => match dIf st with | some (x, y, z) => chkT N c sc x && chkB N ex a sc y && chkB N ex b sc z | none => false
  | .for_ one tg it body, sc, st => match dFor st with
    | some (t, i, b) => tgB N sc one tg t && nset i && chkI N it sc i one && chkB N ex body sc b
    | none => false
  | .whil c body, sc, st => match dWhile st with | some (x, b) => chkT N c sc x && chkB N ex body sc b | none => false
  | .rais c, sc, st => match dRaise st with
    | some v => (match dCall v with
      | some (f, [x]) => decide (f = c) && glB sc f && okN f && dStrC x && ex c
      | _ => false)
    | none => false
  | _, _, _ => false
termination_by structural m _ _ => m
end
end PV

set_option Elab.async false
set_option linter.all false
set_option maxRecDepth 100000
set_option maxHeartbeats 4000000
/-! PV: what the checker lets through is what the evaluator says. -/
namespace PV
open PySem PySem.Spec PyProof.Rows L2
variable [ScrK]

abbrev VEs : List Value := [.type "ValueError", .type "Exception", .type "BaseException", .type "object"]
/-- the module's names: defs by their functions, constants, errors -/
structure TabOk (P : Program) (w : World) (K : PySem.W.Frag) (mg : Str → Option Value) (base : Heap) (k : Nat) (Φ : Tab) : Prop where
  fn : ∀ x φ, Φ.fn x = some φ → ∃ f fd ps, mg x = some (.ref f) ∧ PySem.W.keepIn K (.ref f) = true ∧ Binds K fd ps [] ∧ FnOk P w K mg base (L2.CX P w) k f fd ps (spD mg φ)
  co : ∀ x d, Φ.co x = some d → ∃ v u, mg x = some u ∧ RelV v u ∧ ∀ G, Rp G v d
  ex : ∀ x, Φ.ex x = true → ∃ C, mg x = some (.ref C) ∧ PySem.W.excIn K C VEs "ValueError.__new__" = true ∧ PySem.W.keepIn K (.ref C) = true ∧ PySem.W.subIn K (.ref C) (.type "BaseException") = some true ∧ PySem.W.typeIn K (.ref C) = some (.type "type")
  blt : ∀ x ∈ bnames, mg x = none
structure Good (X : Cx) (N : List Str) (sc : Scope) (Φ : Tab) (k : Nat) : Prop where
  hK : X.K = ScrK.K
  hN : X.N = N
  nd : N.Nodup
  kind : X.env.scope.kind = .function
  calm : X.calm = true
  room : Room k X.A
  tab : TabOk X.prog X.w X.K X.mg X.base k Φ
  loc : ∀ x, sc.names.lookup x = some .local → X.env.scope.names.lookup x = some .local
  cel : ∀ x, sc.names.lookup x = some .cell → X.env.scope.names.lookup x = some .cell ∧ X.fn x = true
  fre : ∀ x, sc.names.lookup x = some .free → X.env.scope.names.lookup x = some .cell ∨ X.env.scope.names.lookup x = some .free
  glo : ∀ x, sc.names.lookup x = some .globalImplicit → X.env.scope.names.lookup x = some .globalImplicit
section
variable {X : Cx} {N : List Str} {sc : Scope} {Φ : Tab} {k : Nat} {x : Str} {i : Nat}
theorem Good.vis (g : Good X N sc Φ k) (h : visB sc x = true) : Vis X.env.scope x := by
  unfold visB at h
  split at h <;> rename_i e
  · exact .inl (g.loc x e)
  · exact .inr (.inl (g.cel x e).1)
  · rcases g.fre x e with q | q
    · exact .inr (.inl q)
    · exact .inr (.inr q)
  · cases h
theorem Good.gl (g : Good X N sc Φ k) (h : glB sc x = true) : Gl X x := by
  unfold glB at h
  split at h <;> rename_i e
  · exact g.glo x e
  · cases h
theorem Good.sto (g : Good X N sc Φ k) (h : stoB sc x = true) : Loc X.env.scope x ∧ (X.fn x = true ∨ X.env.scope.names.lookup x = some .local) := by
  unfold stoB at h
  split at h <;> rename_i e
  · exact ⟨.inl (g.loc x e), .inr (g.loc x e)⟩
  · exact ⟨.inr (g.cel x e).1, .inl (g.cel x e).2⟩
  · cases h
theorem Good.lo (g : Good X N sc Φ k) (h : locB sc x = true) : X.env.scope.names.lookup x = some .local := by
  unfold locB at h
  split at h <;> rename_i e
  · exact g.loc x e
  · cases h
theorem Good.ce (g : Good X N sc Φ k) (h : celB sc x = true) : X.env.scope.names.lookup x = some .cell := by
  unfold celB at h
  split at h <;> rename_i e
  · exact (g.cel x e).1
  · cases h
theorem Good.slot (g : Good X N sc Φ k) (h : slotB N i x = true) : X.N[i]? = some x := by
  rw [g.hN]
  exact of_decide_eq_true h
theorem Good.ndX (g : Good X N sc Φ k) : X.N.Nodup := by rw [g.hN]; exact g.nd
theorem Good.b (g : Good X N sc Φ k) {y : Str} (h : y ∈ bnames := by decide) : X.mg y = none := g.tab.blt y h
theorem okN_1 (h : okN x = true) : (x == ("__debug__" : Str)) = false := by
  unfold okN at h
  rw [Bool.and_eq_true, Bool.not_eq_true', Bool.not_eq_true'] at h
  exact h.1
theorem okN_2 (h : okN x = true) : (x == ("__classdict__" : Str)) = false := by
  unfold okN at h
  rw [Bool.and_eq_true, Bool.not_eq_true', Bool.not_eq_true'] at h
  exact h.2

/-! ### a comprehension's block -/
theorem lookup_mapk (h : Str → NameKind → NameKind) (x : Str) : ∀ l : List (Str × NameKind), (l.map fun p => (p.1, h p.1 p.2)).lookup x = (l.lookup x).map (h x)
  | [] => rfl
  | (n, k) :: r => by
    have ih := lookup_mapk h x r
    simp only [List.map_cons, List.lookup_cons, ih]
    cases e : x == n with
    | false => rfl
    | true =>
      have := eq_of_beq e
      subst this
      rfl
theorem blk_lookup (env : PySem.Env) (scope : Scope) (cl : List (Str × Addr)) (C : Addr) (x : Str) :
    (compEnvC scope cl C env).scope.names.lookup x = (scope.names.lookup x).map fun k => if (k == NameKind.free && env.scope.kind == ScopeKind.function && env.kindOf x == some NameKind.cell) = true then NameKind.cell else k := by
  have e : (compEnvC scope cl C env).scope.names = scope.names.map fun p => (p.1, if (p.2 == NameKind.free && env.scope.kind == ScopeKind.function && env.kindOf p.1 == some NameKind.cell) = true then NameKind.cell else p.2) := by
    show (scope.names.map fun (n, k) => if (k == NameKind.free && env.scope.kind == ScopeKind.function && env.kindOf n == some NameKind.cell) then (n, NameKind.cell) else (n, k)) = _
    apply List.map_congr_left
    rintro ⟨n, k⟩ _
    dsimp only
    split <;> rfl
  rw [e]
  exact lookup_mapk (fun x k => if (k == NameKind.free && env.scope.kind == ScopeKind.function && env.kindOf x == some NameKind.cell) = true then NameKind.cell else k) x scope.names
theorem Good.blk {scope : Scope} {own : List (Str × Nat)} (g : Good X N sc Φ k) (hb : blkC N sc scope own = true) (s : Shared) (H : Hp) (C : Addr) (cl : List (Str × Addr)) (fp : List Addr) :
    Good (X.blk s H scope (compEnvC scope cl C X.env) fp) N scope Φ k := by
  have okb := blkOk_by hb
  refine ⟨g.hK, g.hN, g.nd, okb.kind, g.calm, g.room, g.tab, fun x e => ?_, fun x e => ?_, fun x e => ?_, fun x e => ?_⟩
  · show (compEnvC scope cl C X.env).scope.names.lookup x = _
    rw [blk_lookup, e]; rfl
  · refine ⟨?_, ?_⟩
    · show (compEnvC scope cl C X.env).scope.names.lookup x = _
      rw [blk_lookup, e]; rfl
    · show (scope.names.lookup x == some .cell) = true
      rw [e]; rfl
  · show (compEnvC scope cl C X.env).scope.names.lookup x = _ ∨ (compEnvC scope cl C X.env).scope.names.lookup x = _
    rw [blk_lookup, e, Option.map_some]
    by_cases q : ((NameKind.free == NameKind.free && X.env.scope.kind == ScopeKind.function && X.env.kindOf x == some NameKind.cell) = true)
    · rw [if_pos q]; exact .inl rfl
    · rw [if_neg q]; exact .inr rfl
  · show (compEnvC scope cl C X.env).scope.names.lookup x = _
    rw [blk_lookup, e]; rfl
theorem Good.blkOk {scope : Scope} {own : List (Str × Nat)} (g : Good X N sc Φ k) (hb : blkC N sc scope own = true) : BlkOk X.N X.env.scope scope own := by
  have o := blkOk_by hb
  rw [g.hN]
  refine ⟨o.kind, o.uniq, o.ix, fun y hy e => ?_, o.own⟩
  rcases o.free y hy e with q | q
  · exact .inl (g.cel _ q).1
  · exact g.fre _ q
end

/-! ### targets -/
section
variable {X : Cx} {N : List Str} {sc : Scope} {Φ : Tab} {k : Nat}
theorem pg_one (g : Good X N sc Φ k) {e : Expr} {i : Nat} (h : (match dName e with | some x => slotB N i x && stoB sc x | none => false) = true) : PG X e (gName i) := by
  split at h
  · rename_i x e1
    rw [Bool.and_eq_true] at h
    obtain ⟨p, rfl⟩ := dName_eq e1
    obtain ⟨h1, h2⟩ := g.sto h.2
    exact pg_name g.ndX (g.slot h.1) h1 h2
  · cases h
theorem names_nst (g : Good X N sc Φ k) : ∀ {tg : List Nat} {es : List Expr}, tgB.namesB N sc tg es = true → PGs X es (gNames tg) ∧ tg.length = es.length ∧ ∀ e ∈ es, nst e = true
  | [], [], _ => ⟨pgs_nil, rfl, fun e he => by cases he⟩
  | [], _ :: _, h => by cases h
  | _ :: _, [], h => by cases h
  | i :: is, e :: es, h => by
    simp only [tgB.namesB, Bool.and_eq_true] at h
    obtain ⟨a, b, c⟩ := names_nst g h.2
    have pe := pg_one g h.1
    have hs : nst e = true := by
      have := h.1
      split at this
      · rename_i x e1
        obtain ⟨p, rfl⟩ := dName_eq e1
        rfl
      · cases this
    refine ⟨pgs_cons pe a (by cases e <;> first | rfl | cases hs), by simp [b], fun e' he => ?_⟩
    rcases List.mem_cons.mp he with rfl | he
    · exact hs
    · exact c e' he
theorem each_len {env : PySem.Env} : ∀ {es : List Expr}, (∀ e ∈ es, nst e = true) → (assignEach es env).length = es.length ∧ (assignEach es env).findIdx? (·.1) = none
  | [], _ => ⟨rfl, rfl⟩
  | e :: es, h => by
    obtain ⟨a, b⟩ := @each_len env es fun e he => h e (List.mem_cons_of_mem _ he)
    have hs := h e List.mem_cons_self
    have q : assignEach (e :: es) env = (false, assign e env) :: assignEach es env := by cases e <;> first | rfl | cases hs
    rw [q]
    refine ⟨by simp [a], ?_⟩
    rw [List.findIdx?_cons, b]
    rfl
theorem pg_tg (g : Good X N sc Φ k) {one : Bool} {tg : List Nat} {t : Expr} (h : tgB N sc one tg t = true) : PG X t (gT X.K one tg) := by
  cases one with
  | true =>
    simp only [tgB, if_true] at h
    match tg, h with
    | [i], h => exact pg_one g h
    | [], h => cases h
    | _ :: _ :: _, h => cases h
  | false =>
    simp only [tgB, Bool.false_eq_true, if_false] at h
    split at h
    · rename_i es e1
      obtain ⟨kk, p, rfl⟩ := dTup_eq e1
      obtain ⟨a, b, c⟩ := names_nst g h
      obtain ⟨d, e⟩ := each_len (env := X.env) c
      have := pg_tup (pos := p) (k := kk) (n := tg.length) g.calm a (by rw [d, b]) e
      exact this
    · cases h
theorem tg_tup {tg : List Nat} {t : Expr} (h : tgB N sc false tg t = true) : ∃ es kk p, t = .Tuple es kk p := by
  simp only [tgB, Bool.false_eq_true, if_false] at h
  split at h
  · rename_i es e1
    obtain ⟨kk, p, rfl⟩ := dTup_eq e1
    exact ⟨_, _, _, rfl⟩
  · cases h
end

/-! ### the statements to be shown, by trees -/
abbrev WW (E : XK) : WX := fun cls d _ H => E cls d H
def SndE (N : List Str) (Φ : Tab) (k : Nat) (m : ME) : Prop := ∀ (X : Cx) (sc : Scope) (G0 H0 : Hp) (E : XK) (e : Expr), Good X N sc Φ k → Takes X (WW E) → chkE N m sc e = true → PE X e (TEv G0 H0 (Err X.mg G0 H0 E) (evE Φ m))
def SndA (N : List Str) (Φ : Tab) (k : Nat) (m : ME) : Prop := ∀ (X : Cx) (sc : Scope) (G0 H0 : Hp) (E : XK) (es : List Expr), Good X N sc Φ k → Takes X (WW E) → chkA N m sc es = true → PA X es (TAv G0 H0 (Err X.mg G0 H0 E) (evA Φ m))
def SndW (N : List Str) (Φ : Tab) (k : Nat) (m : ME) : Prop := ∀ (X : Cx) (sc : Scope) (G0 H0 : Hp) (E : XK) (es : List Expr) (i : Nat) (y : Str) (p2 : Pos), Good X N sc Φ k → Takes X (WW E) → X.N[i]? = some y → Vis X.env.scope y → (y == ("__debug__" : Str)) = false → (y == ("__classdict__" : Str)) = false → chkA N m sc es = true → PA X (es ++ [.Name y p2]) (TAw G0 H0 (Err X.mg G0 H0 E) (evA Φ m) i)
def SndV (N : List Str) (Φ : Tab) (k : Nat) (m : ME) : Prop := ∀ (X : Cx) (sc : Scope) (G0 H0 : Hp) (E : XK) (es : List Expr) (pos : Pos), Good X N sc Φ k → Takes X (WW E) → chkV N m sc es = true →
  PE X (.BoolOp .And es pos) (TBv G0 H0 (Err X.mg G0 H0 E) (evAndV Φ m)) ∧ PE X (.BoolOp .Or es pos) (TBv G0 H0 (Err X.mg G0 H0 E) (evOrV Φ m))
def SndT (N : List Str) (Φ : Tab) (k : Nat) (m : ME) : Prop := ∀ (X : Cx) (sc : Scope) (G0 H0 : Hp) (E : XK) (e : Expr), Good X N sc Φ k → Takes X (WW E) → chkT N m sc e = true → PT X e (TTv G0 H0 (Err X.mg G0 H0 E) (evT Φ m))
def SndTs (N : List Str) (Φ : Tab) (k : Nat) (m : ME) : Prop := ∀ (X : Cx) (sc : Scope) (G0 H0 : Hp) (E : XK) (es : List Expr) (pos : Pos), Good X N sc Φ k → Takes X (WW E) → chkTs N m sc es = true →
  PW X (.BoolOp .And es pos) (TTv G0 H0 (Err X.mg G0 H0 E) (evAnd Φ m)) ∧ PW X (.BoolOp .Or es pos) (TTv G0 H0 (Err X.mg G0 H0 E) (evOr Φ m))
def SndC (N : List Str) (Φ : Tab) (k : Nat) (m : ME) : Prop := ∀ (X : Cx) (sc : Scope) (G0 H0 : Hp) (E : XK) (es : List Expr), Good X N sc Φ k → Takes X (WW E) → chkC N m sc es = true → PTs X es (TTv G0 H0 (Err X.mg G0 H0 E) (evT Φ m))
def SndP (N : List Str) (Φ : Tab) (k : Nat) (m : ME) : Prop := ∀ (X : Cx) (sc : Scope) (G0 H0 : Hp) (E : XK) (o : Option Expr), Good X N sc Φ k → Takes X (WW E) → chkP N m sc o = true → PO X o (TPv G0 H0 (Err X.mg G0 H0 E) (evP Φ m))
def SndI (N : List Str) (Φ : Tab) (k : Nat) (m : ME) : Prop := ∀ (X : Cx) (sc : Scope) (G0 H0 : Hp) (E : XK) (e tg : Expr) (one : Bool), Good X N sc Φ k → Takes X (WW E) → (one = false → ∃ es kk p, tg = .Tuple es kk p) → chkI N m sc e one = true → PI X tg e (TIv G0 H0 (Err X.mg G0 H0 E) (evI Φ m))

section
variable {N : List Str} {Φ : Tab} {k : Nat}
theorem _root_.L2.PE.ev {X : Cx} {G0 H0 : Hp} {Er : Str → Prop} {e : Expr} {f g : Rho → M (D × Tg)} (h : PE X e (TEv G0 H0 Er f)) (q : f = g) : PE X e (TEv G0 H0 Er g) := q ▸ h
theorem _root_.L2.PT.ev {X : Cx} {G0 H0 : Hp} {Er : Str → Prop} {e : Expr} {f g : Rho → M Bool} (h : PT X e (TTv G0 H0 Er f)) (q : f = g) : PT X e (TTv G0 H0 Er g) := q ▸ h
theorem PE.none {X : Cx} {G0 H0 : Hp} {Er : Str → Prop} {e : Expr} {f : Rho → M (D × Tg)} (q : ∀ ρ, f ρ = Option.none) : PE X e (TEv G0 H0 Er f) := ⟨fun pins s σ H Q I h => by
  obtain ⟨G, ρ, _, h⟩ := h
  rw [q] at h
  exact absurd h (by intro z; exact z)⟩
theorem PT.none {X : Cx} {G0 H0 : Hp} {Er : Str → Prop} {e : Expr} {f : Rho → M Bool} (q : ∀ ρ, f ρ = Option.none) : PT X e (TTv G0 H0 Er f) := ⟨fun pins s σ H Q I h => by
  obtain ⟨G, ρ, _, h⟩ := h
  rw [q] at h
  exact absurd h (by intro z; exact z)⟩

theorem e_var (i : Nat) : SndE N Φ k (.var i) := by
  intro X sc G0 H0 E e g tk h
  simp only [chkE] at h
  split at h
  · rename_i x e1
    simp only [Bool.and_eq_true] at h
    obtain ⟨p, rfl⟩ := dName_eq e1
    exact (r_var (g.slot h.1.1) (g.vis h.1.2) (okN_1 h.2) (okN_2 h.2)).ev (by funext ρ; simp only [evE] <;> rfl)
  · cases h
theorem e_glo (c : Str) : SndE N Φ k (.glo c) := by
  intro X sc G0 H0 E e g tk h
  simp only [chkE] at h
  split at h
  · rename_i x e1
    simp only [Bool.and_eq_true, decide_eq_true_eq] at h
    obtain ⟨p, rfl⟩ := dName_eq e1
    obtain ⟨⟨rfl, h1⟩, h2⟩ := h
    cases hc : Φ.co x with
    | none => exact PE.none fun ρ => by simp only [evE, hc]; rfl
    | some d =>
      obtain ⟨v, u, a1, a2, a3⟩ := g.tab.co x d hc
      exact (r_const (pe_glob (g.gl h1) a1 a2 (okN_1 h2)) a3).ev (by funext ρ; simp only [evE, hc]; rfl)
  · cases h
theorem e_kint (n : Int) : SndE N Φ k (.kint n) := by
  intro X sc G0 H0 E e g tk h
  simp only [chkE, beq_iff_eq] at h
  obtain ⟨j, p, rfl⟩ := dConst_eq h
  exact (r_const pe_int fun G => .int n).ev (by funext ρ; simp only [evE])
theorem e_kstr (n : Str) : SndE N Φ k (.kstr n) := by
  intro X sc G0 H0 E e g tk h
  simp only [chkE, beq_iff_eq] at h
  obtain ⟨j, p, rfl⟩ := dConst_eq h
  exact (r_const pe_str fun G => .str n).ev (by funext ρ; simp only [evE])
theorem e_kbl (n : Bool) : SndE N Φ k (.kbl n) := by
  intro X sc G0 H0 E e g tk h
  simp only [chkE, beq_iff_eq] at h
  obtain ⟨j, p, rfl⟩ := dConst_eq h
  exact (r_const pe_bl fun G => .bl n).ev (by funext ρ; simp only [evE])
theorem e_knon : SndE N Φ k .knon := by
  intro X sc G0 H0 E e g tk h
  simp only [chkE, beq_iff_eq] at h
  obtain ⟨j, p, rfl⟩ := dConst_eq h
  exact (r_const pe_non fun G => .non).ev (by funext ρ; simp only [evE])
theorem a_nil : SndA N Φ k .nil := by
  intro X sc G0 H0 E es g tk h
  cases es with
  | nil =>
    have : evA Φ .nil = fun _ => ok [] := by funext ρ; simp only [evA]
    rw [this]
    exact r_nil
  | cons _ _ => simp [chkA] at h
theorem a_cons {x y : ME} (hx : SndE N Φ k x) (hy : SndA N Φ k y) : SndA N Φ k (.cons x y) := by
  intro X sc G0 H0 E es g tk h
  cases es with
  | nil => simp [chkA] at h
  | cons e es =>
    simp only [chkA, Bool.and_eq_true] at h
    have : evA Φ (.cons x y) = fun ρ => mb (mb (evE Φ x ρ) keep) fun d => mb (evA Φ y ρ) fun ds => ok (d :: ds) := by funext ρ; simp only [evA]
    rw [this]
    exact r_cons h.1.1 (hx X sc G0 H0 E e g tk h.1.2) (hy X sc G0 H0 E es g tk h.2)
theorem w_nil : SndW N Φ k .nil := by
  intro X sc G0 H0 E es i y p2 g tk h1 h2 h3 h4 h
  cases es with
  | nil =>
    have : evA Φ .nil = fun _ => ok [] := by funext ρ; simp only [evA]
    rw [this]
    exact w_one h1 h2 h3 h4
  | cons _ _ => simp [chkA] at h
theorem w_cons' {x y : ME} (hx : SndE N Φ k x) (hy : SndW N Φ k y) : SndW N Φ k (.cons x y) := by
  intro X sc G0 H0 E es i z p2 g tk h1 h2 h3 h4 h
  cases es with
  | nil => simp [chkA] at h
  | cons e es =>
    simp only [chkA, Bool.and_eq_true] at h
    have : evA Φ (.cons x y) = fun ρ => mb (mb (evE Φ x ρ) keep) fun d => mb (evA Φ y ρ) fun ds => ok (d :: ds) := by funext ρ; simp only [evA]
    rw [this]
    exact w_cons h.1.1 (hx X sc G0 H0 E e g tk h.1.2) (hy X sc G0 H0 E es i z p2 g tk h1 h2 h3 h4 h.2)
theorem e_tup {x : ME} (hx : SndA N Φ k x) : SndE N Φ k (.tup x) := by
  intro X sc G0 H0 E e g tk h
  simp only [chkE] at h
  split at h
  · rename_i xs e1
    obtain ⟨j, p, rfl⟩ := dTup_eq e1
    exact (r_tup (hx X sc G0 H0 E xs g tk h)).ev (by funext ρ; simp only [evE])
  · cases h
theorem e_lst {x : ME} (hx : SndA N Φ k x) : SndE N Φ k (.lst x) := by
  intro X sc G0 H0 E e g tk h
  simp only [chkE] at h
  split at h
  · rename_i xs e1
    obtain ⟨p, rfl⟩ := dLst_eq e1
    exact (r_lst (hx X sc G0 H0 E xs g tk h)).ev (by funext ρ; simp only [evE])
  · cases h
theorem e_bin (o : BO) {a b : ME} (ha : SndE N Φ k a) (hb : SndE N Φ k b) : SndE N Φ k (.bin o a b) := by
  intro X sc G0 H0 E e g tk h
  simp only [chkE] at h
  split at h
  · rename_i x o' y e1
    simp only [Bool.and_eq_true, decide_eq_true_eq] at h
    obtain ⟨p, rfl⟩ := dBin_eq e1
    obtain ⟨⟨rfl, h1⟩, h2⟩ := h
    exact (r_bin o (ha X sc G0 H0 E x g tk h1) (hb X sc G0 H0 E y g tk h2)).ev (by funext ρ; simp only [evE])
  · cases h
theorem e_cmp (o : CO) {a b : ME} (ha : SndE N Φ k a) (hb : SndE N Φ k b) : SndE N Φ k (.cmp o a b) := by
  intro X sc G0 H0 E e g tk h
  simp only [chkE] at h
  split at h
  · rename_i x o' y e1
    simp only [Bool.and_eq_true, decide_eq_true_eq] at h
    obtain ⟨p, rfl⟩ := dCmp_eq e1
    obtain ⟨⟨⟨rfl, h0⟩, h1⟩, h2⟩ := h
    exact (r_cmp g.hK g.room o h0 (ha X sc G0 H0 E x g tk h1) (hb X sc G0 H0 E y g tk h2)).ev (by funext ρ; simp only [evE])
  · cases h
theorem t_cmp' (o : CO) {a b : ME} (ha : SndE N Φ k a) (hb : SndE N Φ k b) : SndT N Φ k (.cmp o a b) := by
  intro X sc G0 H0 E e g tk h
  simp only [chkT] at h
  split at h
  · rename_i x o' y e1
    simp only [Bool.and_eq_true, decide_eq_true_eq] at h
    obtain ⟨p, rfl⟩ := dCmp_eq e1
    obtain ⟨⟨⟨rfl, h0⟩, h1⟩, h2⟩ := h
    exact (t_cmp g.hK g.room o h0 (ha X sc G0 H0 E x g tk h1) (hb X sc G0 H0 E y g tk h2)).ev (by funext ρ; simp only [evT])
  · cases h
theorem e_chain (o o' : CO) {a b c : ME} (ha : SndE N Φ k a) (hb : SndE N Φ k b) (hc : SndE N Φ k c) : SndE N Φ k (.chain o o' a b c) := by
  intro X sc G0 H0 E e g tk h
  simp only [chkE] at h
  split at h
  · rename_i x p1 p2 y z e1
    simp only [Bool.and_eq_true, decide_eq_true_eq] at h
    obtain ⟨p, rfl⟩ := dCmp_eq e1
    obtain ⟨⟨⟨⟨⟨rfl, rfl⟩, h0⟩, h1⟩, h2⟩, h3⟩ := h
    exact (r_chain g.hK g.room o o' h0 (ha X sc G0 H0 E x g tk h1) (hb X sc G0 H0 E y g tk h2) (hc X sc G0 H0 E z g tk h3)).ev (by funext ρ; simp only [evE])
  · cases h
theorem t_chain' (o o' : CO) {a b c : ME} (ha : SndE N Φ k a) (hb : SndE N Φ k b) (hc : SndE N Φ k c) : SndT N Φ k (.chain o o' a b c) := by
  intro X sc G0 H0 E e g tk h
  simp only [chkT] at h
  split at h
  · rename_i x p1 p2 y z e1
    simp only [Bool.and_eq_true, decide_eq_true_eq] at h
    obtain ⟨p, rfl⟩ := dCmp_eq e1
    obtain ⟨⟨⟨⟨⟨rfl, rfl⟩, h0⟩, h1⟩, h2⟩, h3⟩ := h
    exact (t_chain g.hK g.room o o' h0 (ha X sc G0 H0 E x g tk h1) (hb X sc G0 H0 E y g tk h2) (hc X sc G0 H0 E z g tk h3)).ev (by funext ρ; simp only [evT])
  · cases h
/-- the built-ins of one value -/
theorem e_un1 (o : Un) (hne : o ≠ .neg) (hnl : o ≠ .lenset) (hns : o ≠ .sortedset) {X : Cx} {sc : Scope} {G0 H0 : Hp} {Er : Str → Prop} {x : Expr} {p q : Pos} {f : Rho → M (D × Tg)} (g : Good X N sc Φ k) (hg : Gl X (unN o)) (hs : nst x = true) (hx : PE X x (TEv G0 H0 Er f)) :
    PE X (.Call (.Name (unN o) p) [x] [] q) (TEv G0 H0 Er fun ρ => mb (f ρ) fun u => PV.op (uop o u.1)) := by
  cases o with
  | neg => exact absurd rfl hne
  | lenset => exact absurd rfl hnl
  | sortedset => exact absurd rfl hns
  | len => obtain ⟨r, h1, h2⟩ := u_len (X := X) g.hK; exact r_bltB h1 hg g.b (by decide +kernel) (by decide) (by decide) h2 hs hx
  | tuple => exact r_bltT call_tuple_of hg g.b (by decide +kernel) (by decide) (by decide) u_tuple hs hx
  | list => exact r_bltT call_list_of hg g.b (by decide +kernel) (by decide) (by decide) u_list hs hx
  | sum => exact r_bltB (cr_sumB g.calm) hg g.b (by decide +kernel) (by decide) (by decide) u_sum hs hx
  | min => exact r_bltB (cr_min g.calm) hg g.b (by decide +kernel) (by decide) (by decide) u_min hs hx
  | max => exact r_bltB (cr_max g.calm) hg g.b (by decide +kernel) (by decide) (by decide) u_max hs hx
  | sorted => exact r_bltB cr_sorted hg g.b (by decide +kernel) (by decide) (by decide) u_sorted hs hx
  | all => exact r_bltB (cr_all g.calm) hg g.b (by decide +kernel) (by decide) (by decide) u_all hs hx
  | any => exact r_bltB (cr_any g.calm) hg g.b (by decide +kernel) (by decide) (by decide) u_any hs hx
  | int => exact r_bltT call_int1 hg g.b (by decide +kernel) (by decide) (by decide) u_int hs hx
  | str => exact r_bltT call_str_int hg g.b (by decide +kernel) (by decide) (by decide) u_str hs hx
  | abs => exact r_bltB call_abs hg g.b (by decide +kernel) (by decide) (by decide) u_abs hs hx
theorem e_un (o : Un) {a : ME} (ha : SndE N Φ k a) : SndE N Φ k (.un o a) := by
  intro X sc G0 H0 E e g tk h
  have eq : evE Φ (.un o a) = fun ρ => mb (evE Φ a ρ) fun u => PV.op (uop o u.1) := by funext ρ; simp only [evE]
  rw [eq]
  have gen : o ≠ .neg → o ≠ .lenset → o ≠ .sortedset → (match dCall e with | some (f, [x]) => decide (f = unN o) && glB sc f && nst x && chkE N a sc x | _ => false) = true → PE X e (TEv G0 H0 (Err X.mg G0 H0 E) fun ρ => mb (evE Φ a ρ) fun u => PV.op (uop o u.1)) := by
    intro n1 n2 n3 h'
    clear h
    split at h'
    · rename_i f x e1
      simp only [Bool.and_eq_true, decide_eq_true_eq] at h'
      obtain ⟨p, q, rfl⟩ := dCall_eq e1
      obtain ⟨⟨⟨rfl, h1⟩, h2⟩, h3⟩ := h'
      exact e_un1 o n1 n2 n3 g (g.gl h1) h2 (ha X sc G0 H0 E x g tk h3)
    · cases h'
  cases o with
  | neg =>
    simp only [chkE] at h
    split at h
    · rename_i x e1
      obtain ⟨p, rfl⟩ := dUn_eq e1
      exact r_neg (ha X sc G0 H0 E x g tk h)
    · cases h
  | lenset =>
    simp only [chkE] at h
    split at h
    · rename_i f y e1
      split at h
      · rename_i f2 x e2
        simp only [Bool.and_eq_true, decide_eq_true_eq] at h
        obtain ⟨p, q, rfl⟩ := dCall_eq e1
        obtain ⟨p2, q2, rfl⟩ := dCall_eq e2
        obtain ⟨⟨⟨⟨⟨rfl, rfl⟩, h1⟩, h2⟩, h3⟩, h4⟩ := h
        exact r_lenset g.calm (g.gl h1) g.b (g.gl h2) g.b h3 (ha X sc G0 H0 E x g tk h4)
      · cases h
    · cases h
  | sortedset =>
    simp only [chkE] at h
    split at h
    · rename_i f y e1
      split at h
      · rename_i f2 x e2
        simp only [Bool.and_eq_true, decide_eq_true_eq] at h
        obtain ⟨p, q, rfl⟩ := dCall_eq e1
        obtain ⟨p2, q2, rfl⟩ := dCall_eq e2
        obtain ⟨⟨⟨⟨⟨rfl, rfl⟩, h1⟩, h2⟩, h3⟩, h4⟩ := h
        exact r_sortset g.calm (g.gl h1) g.b (g.gl h2) g.b h3 (ha X sc G0 H0 E x g tk h4)
      · cases h
    · cases h
  | _ =>
    simp only [chkE] at h
    exact gen (fun e => nomatch e) (fun e => nomatch e) (fun e => nomatch e) h
theorem e_mm (mx : Bool) {a b : ME} (ha : SndE N Φ k a) (hb : SndE N Φ k b) : SndE N Φ k (.mm mx a b) := by
  intro X sc G0 H0 E e g tk h
  simp only [chkE] at h
  split at h
  · rename_i f x y e1
    simp only [Bool.and_eq_true, decide_eq_true_eq] at h
    obtain ⟨p, q, rfl⟩ := dCall_eq e1
    obtain ⟨⟨⟨⟨⟨h0, h1⟩, h2⟩, h3⟩, h4⟩, h5⟩ := h
    exact (r_mm mx g.calm (g.gl h1) (by rw [h0]; cases mx <;> exact g.b) h0 h2 h3 (ha X sc G0 H0 E x g tk h4) (hb X sc G0 H0 E y g tk h5)).ev (by funext ρ; simp only [evE])
  · cases h
theorem isi_parts {X : Cx} {sc : Scope} {e : Expr} {t : Ty} {a : ME} (h : (match dCall e with
    | some (f, [x, y]) => decide (f = "isinstance") && glB sc f && (match dName y with | some g => decide (g = (tyS t : String)) && glB sc g | none => false) && nst x && chkE N a sc x
    | _ => false) = true) : ∃ x p p2 q, e = .Call (.Name "isinstance" p) [x, .Name (tyS t) p2] [] q ∧ glB sc "isinstance" = true ∧ glB sc (tyS t) = true ∧ nst x = true ∧ chkE N a sc x = true := by
  split at h
  · rename_i f x y e1
    simp only [Bool.and_eq_true, decide_eq_true_eq] at h
    obtain ⟨p, q, rfl⟩ := dCall_eq e1
    obtain ⟨⟨⟨⟨rfl, h1⟩, h2⟩, h3⟩, h4⟩ := h
    split at h2
    · rename_i g e2
      simp only [Bool.and_eq_true, decide_eq_true_eq] at h2
      obtain ⟨p2, rfl⟩ := dName_eq e2
      obtain ⟨rfl, h5⟩ := h2
      exact ⟨x, p, p2, q, rfl, h1, h5, h3, h4⟩
    · cases h2
  · cases h
theorem Good.ty {X : Cx} {sc : Scope} (g : Good X N sc Φ k) (t : Ty) : X.mg (tyS t) = none := by
  cases t
  · exact g.b
  · exact g.b
  · exact g.b
  · exact g.b
theorem e_isi (t : Ty) {a : ME} (ha : SndE N Φ k a) : SndE N Φ k (.isi t a) := by
  intro X sc G0 H0 E e g tk h
  simp only [chkE] at h
  obtain ⟨x, p, p2, q, rfl, h1, h2, h3, h4⟩ := isi_parts (X := X) h
  exact (r_isi t (g.gl h1) g.b (g.gl h2) (g.ty t) h3 (ha X sc G0 H0 E x g tk h4)).ev (by funext ρ; simp only [evE])
theorem mb_blm {x : M D} {b : D → Option Bool} : (mb (mb x fun u => PV.op ((b u).map fun b => (D.bl b, Tg.sh))) fun u => blM u.1) = mb x fun u => PV.op (b u) := by
  cases x with
  | none => rfl
  | some t => cases t with
    | error c => rfl
    | ok d =>
      show mb (PV.op ((b d).map fun b => (D.bl b, Tg.sh))) _ = PV.op (b d)
      cases b d <;> rfl
theorem t_isi (t : Ty) {a : ME} (ha : SndE N Φ k a) : SndT N Φ k (.isi t a) := by
  intro X sc G0 H0 E e g tk h
  simp only [chkT] at h
  obtain ⟨x, p, p2, q, rfl, h1, h2, h3, h4⟩ := isi_parts (X := X) h
  refine (t_val (r_isi t (g.gl h1) g.b (g.gl h2) (g.ty t) h3 (ha X sc G0 H0 E x g tk h4)) (by intro _; rfl)).ev ?_
  funext ρ
  simp only [evT]
  cases evE Φ a ρ with
  | none => rfl
  | some r => cases r with
    | error c => rfl
    | ok u =>
      simp only [mb_some]
      cases isiD t u.1 <;> rfl
theorem e_not {a : ME} (ha : SndE N Φ k a) : SndE N Φ k (.not a) := by
  intro X sc G0 H0 E e g tk h
  simp only [chkE] at h
  split at h
  · rename_i x e1
    obtain ⟨p, rfl⟩ := dUn_eq e1
    exact (r_not (ha X sc G0 H0 E x g tk h)).ev (by funext ρ; simp only [evE])
  · cases h
theorem t_not' {a : ME} (ha : SndT N Φ k a) : SndT N Φ k (.not a) := by
  intro X sc G0 H0 E e g tk h
  simp only [chkT] at h
  split at h
  · rename_i x e1
    obtain ⟨p, rfl⟩ := dUn_eq e1
    exact (t_not (ha X sc G0 H0 E x g tk h)).ev (by funext ρ; simp only [evT])
  · cases h
theorem t_var (i : Nat) : SndT N Φ k (.var i) := by
  intro X sc G0 H0 E e g tk h
  have he : PE X e (TEv G0 H0 (Err X.mg G0 H0 E) (evE Φ (.var i))) := e_var i X sc G0 H0 E e g tk (by simpa only [chkE, chkT] using h)
  simp only [chkT] at h
  split at h
  · rename_i x e1
    obtain ⟨p, rfl⟩ := dName_eq e1
    refine PT.imp (t_val he (by intro _; rfl)) fun σ H Q q => ?_
    obtain ⟨G, ρ, s, q⟩ := q
    refine ⟨G, ρ, s, ?_⟩
    simp only [evT] at q
    simp only [evE]
    cases hr : ρ[i]? with
    | none => rw [hr] at q; exact q
    | some c =>
      rw [hr] at q
      cases c with
      | va d => exact q
      | no => exact q
      | ow ds => exact absurd q (by intro z; exact z)
  · cases h
theorem t_aa (o : Un) (h2 : o = .all ∨ o = .any) {a : ME} (ha : SndE N Φ k a) : SndT N Φ k (.un o a) := by
  intro X sc G0 H0 E e g tk h
  have go : ∀ f x, dCall e = some (f, [x]) → (decide (f = unN o) && glB sc f && nst x && chkE N a sc x) = true → PT X e (TTv G0 H0 (Err X.mg G0 H0 E) (evT Φ (.un o a))) := by
    clear h
    intro f x e1 h
    simp only [Bool.and_eq_true, decide_eq_true_eq] at h
    obtain ⟨p, q, rfl⟩ := dCall_eq e1
    obtain ⟨⟨⟨rfl, h1⟩, h2'⟩, h3⟩ := h
    refine (t_val (e_un1 o (by rcases h2 with rfl | rfl <;> exact fun e => nomatch e) (by rcases h2 with rfl | rfl <;> exact fun e => nomatch e) (by rcases h2 with rfl | rfl <;> exact fun e => nomatch e) g (g.gl h1) h2' (ha X sc G0 H0 E x g tk h3)) (by intro _; rfl)).ev ?_
    funext ρ
    rcases h2 with rfl | rfl
    · simp only [evT]
      cases evE Φ a ρ with
      | none => rfl
      | some r => cases r <;> rfl
    · simp only [evT]
      cases evE Φ a ρ with
      | none => rfl
      | some r => cases r <;> rfl
  rcases h2 with rfl | rfl
  · simp only [chkT] at h
    split at h
    · rename_i f x e1; exact go f x e1 h
    · cases h
  · simp only [chkT] at h
    split at h
    · rename_i f x e1; exact go f x e1 h
    · cases h
theorem e_ix {a b : ME} (ha : SndE N Φ k a) (hb : SndE N Φ k b) : SndE N Φ k (.ix a b) := by
  intro X sc G0 H0 E e g tk h
  simp only [chkE] at h
  split at h
  · rename_i x y e1
    simp only [Bool.and_eq_true] at h
    obtain ⟨p, rfl⟩ := dSub_eq e1
    exact (r_ix g.hK h.1.1 (ha X sc G0 H0 E x g tk h.1.2) (hb X sc G0 H0 E y g tk h.2)).ev (by funext ρ; simp only [evE])
  · cases h
theorem p_noP : SndP N Φ k .noP := by
  intro X sc G0 H0 E o g tk h
  cases o with
  | none =>
    have : evP Φ .noP = fun _ => ok none := by funext ρ; simp only [evP]
    rw [this]; exact p_no
  | some _ => simp [chkP] at h
theorem p_som {a : ME} (ha : SndE N Φ k a) : SndP N Φ k (.som a) := by
  intro X sc G0 H0 E o g tk h
  cases o with
  | none => simp [chkP] at h
  | some x =>
    have : evP Φ (.som a) = fun ρ => mb (evE Φ a ρ) fun u => mb (intM u.1) fun i => ok (some i) := by funext ρ; simp only [evP]
    rw [this]; exact p_some (ha X sc G0 H0 E x g tk (by simpa only [chkP] using h))
theorem e_sl {a b c : ME} (ha : SndE N Φ k a) (hb : SndP N Φ k b) (hc : SndP N Φ k c) : SndE N Φ k (.sl a b c) := by
  intro X sc G0 H0 E e g tk h
  simp only [chkE] at h
  split at h
  · rename_i x y e1
    split at h
    · rename_i l u e2
      simp only [Bool.and_eq_true] at h
      obtain ⟨p, rfl⟩ := dSub_eq e1
      obtain ⟨p2, rfl⟩ := dSlice_eq e2
      exact (r_sl (ha X sc G0 H0 E x g tk h.1.1) (hb X sc G0 H0 E l g tk h.1.2) (hc X sc G0 H0 E u g tk h.2)).ev (by funext ρ; simp only [evE])
    · cases h
  · cases h
theorem e_rev {a : ME} (ha : SndE N Φ k a) : SndE N Φ k (.rev a) := by
  intro X sc G0 H0 E e g tk h
  simp only [chkE] at h
  split at h
  · rename_i x y e1
    simp only [Bool.and_eq_true] at h
    obtain ⟨p, rfl⟩ := dSub_eq e1
    obtain ⟨j, p1, p2, p3, rfl⟩ := dBack_eq h.1
    exact (r_rev (ha X sc G0 H0 E x g tk h.2)).ev (by funext ρ; simp only [evE])
  · cases h
theorem e_call (f : Str) {es : ME} (ha : SndA N Φ k es) : SndE N Φ k (.call f es) := by
  intro X sc G0 H0 E e g tk h
  simp only [chkE] at h
  split at h
  · rename_i gn x xs e1
    simp only [Bool.and_eq_true, decide_eq_true_eq] at h
    obtain ⟨p, q, rfl⟩ := dCall_eq e1
    obtain ⟨⟨⟨⟨rfl, h1⟩, h2⟩, h3⟩, h4⟩ := h
    cases hf : Φ.fn gn with
    | none => exact PE.none fun ρ => by simp only [evE, hf]
    | some φ =>
      obtain ⟨fa, fd, ps, a1, a2, a3, a4⟩ := g.tab.fn gn φ hf
      exact (r_call tk a4 g.room (g.gl h1) a1 a2 a3 (okN_1 h2) (by simpa using h3) (ha X sc G0 H0 E (x :: xs) g tk h4)).ev (by funext ρ; simp only [evE, hf])
  · cases h
theorem e_callB (f : Str) (i : Nat) {es : ME} (ha : SndA N Φ k es) : SndE N Φ k (.callB f i es) := by
  intro X sc G0 H0 E e g tk h
  simp only [chkE] at h
  split at h
  · rename_i gn x xs e1
    split at h
    · rename_i y e2
      simp only [Bool.and_eq_true, decide_eq_true_eq] at h
      obtain ⟨p, q, rfl⟩ := dCall_eq e1
      obtain ⟨p2, rfl⟩ := dName_eq e2
      obtain ⟨⟨⟨⟨⟨⟨⟨c1, c2⟩, c3⟩, rfl⟩, h1⟩, h2⟩, h3⟩, h4⟩ := h
      cases hf : Φ.fn gn with
      | none => exact PE.none fun ρ => by simp only [evE, hf]
      | some φ =>
        obtain ⟨fa, fd, ps, a1, a2, a3, a4⟩ := g.tab.fn gn φ hf
        exact (r_callB tk a4 g.room (g.gl h1) a1 a2 a3 (okN_1 h2) (g.slot c1) (g.vis c2) (okN_1 c3) (okN_2 c3) h3 (ha X sc G0 H0 E xs g tk h4)).ev (by funext ρ; simp only [evE, hf] <;> rfl)
    · cases h
  · cases h
theorem e_callZ (f : Str) (i : Nat) {es : ME} (ha : SndW N Φ k es) : SndE N Φ k (.callZ f i es) := by
  intro X sc G0 H0 E e g tk h
  simp only [chkE] at h
  split at h
  · rename_i gn x xs e1
    split at h
    · rename_i z e3
      split at h
      · rename_i y e2
        simp only [Bool.and_eq_true, decide_eq_true_eq] at h
        obtain ⟨p, q, rfl⟩ := dCall_eq e1
        obtain ⟨p2, rfl⟩ := dName_eq e2
        obtain ⟨⟨⟨⟨⟨⟨⟨c1, c2⟩, c3⟩, rfl⟩, h1⟩, h2⟩, h3⟩, h4⟩ := h
        obtain ⟨ys, rfl⟩ := List.getLast?_eq_some_iff.mp e3
        rw [List.dropLast_concat] at h3 h4
        cases hf : Φ.fn gn with
        | none => exact PE.none fun ρ => by simp only [evE, hf]
        | some φ =>
          obtain ⟨fa, fd, ps, a1, a2, a3, a4⟩ := g.tab.fn gn φ hf
          have hs : (x :: (ys ++ [.Name y p2])).all nst = true := by
            rw [List.all_cons, List.all_append]
            rw [List.all_cons] at h3
            simp only [Bool.and_eq_true] at h3 ⊢
            exact ⟨h3.1, h3.2, rfl⟩
          exact (r_callZ tk a4 g.room (g.gl h1) a1 a2 a3 (okN_1 h2) hs (ha X sc G0 H0 E (x :: ys) i y p2 g tk (g.slot c1) (g.vis c2) (okN_1 c3) (okN_2 c3) h4)).ev (by funext ρ; simp only [evE, hf] <;> rfl)
      · cases h
    · cases h
  · cases h
theorem t_callZ' (f : Str) (i : Nat) {es : ME} (ha : SndW N Φ k es) : SndT N Φ k (.callZ f i es) := by
  intro X sc G0 H0 E e g tk h
  simp only [chkT] at h
  split at h
  · rename_i gn x xs e1
    split at h
    · rename_i z e3
      split at h
      · rename_i y e2
        simp only [Bool.and_eq_true, decide_eq_true_eq] at h
        obtain ⟨p, q, rfl⟩ := dCall_eq e1
        obtain ⟨p2, rfl⟩ := dName_eq e2
        obtain ⟨⟨⟨⟨⟨⟨⟨c1, c2⟩, c3⟩, rfl⟩, h1⟩, h2⟩, h3⟩, h4⟩ := h
        obtain ⟨ys, rfl⟩ := List.getLast?_eq_some_iff.mp e3
        rw [List.dropLast_concat] at h3 h4
        cases hf : Φ.fn gn with
        | none => exact PT.none fun ρ => by simp only [evT, hf]
        | some φ =>
          obtain ⟨fa, fd, ps, a1, a2, a3, a4⟩ := g.tab.fn gn φ hf
          have hs : (x :: (ys ++ [.Name y p2])).all nst = true := by
            rw [List.all_cons, List.all_append]
            rw [List.all_cons] at h3
            simp only [Bool.and_eq_true] at h3 ⊢
            exact ⟨h3.1, h3.2, rfl⟩
          exact (t_callZ tk a4 g.room (g.gl h1) a1 a2 a3 (okN_1 h2) hs (ha X sc G0 H0 E (x :: ys) i y p2 g tk (g.slot c1) (g.vis c2) (okN_1 c3) (okN_2 c3) h4)).ev (by funext ρ; simp only [evT, hf] <;> rfl)
      · cases h
    · cases h
  · cases h
theorem base_const {env : PySem.Env} {o : Expr} (h : isKS o = true) : attributeBase o "join" env (eval o env) = eval o env := by
  cases o <;> first | rfl | cases h
theorem e_join {a b : ME} (ha : SndE N Φ k a) (hb : SndE N Φ k b) : SndE N Φ k (.join a b) := by
  intro X sc G0 H0 E e g tk h
  simp only [chkE] at h
  split at h
  · rename_i o m x e1
    simp only [Bool.and_eq_true, decide_eq_true_eq] at h
    obtain ⟨⟨⟨⟨rfl, h1⟩, h2⟩, h3⟩, h4⟩ := h
    obtain ⟨p2, p3, rfl, hl⟩ := dMeth_eq e1
    exact (r_join h1 (base_const h2) hl (ha X sc G0 H0 E o g tk h3) (hb X sc G0 H0 E x g tk h4)).ev (by funext ρ; simp only [evE])
  · cases h
theorem t_call' (f : Str) {es : ME} (ha : SndA N Φ k es) : SndT N Φ k (.call f es) := by
  intro X sc G0 H0 E e g tk h
  simp only [chkT] at h
  split at h
  · rename_i gn x xs e1
    simp only [Bool.and_eq_true, decide_eq_true_eq] at h
    obtain ⟨p, q, rfl⟩ := dCall_eq e1
    obtain ⟨⟨⟨⟨rfl, h1⟩, h2⟩, h3⟩, h4⟩ := h
    cases hf : Φ.fn gn with
    | none => exact PT.none fun ρ => by simp only [evT, hf]
    | some φ =>
      obtain ⟨fa, fd, ps, a1, a2, a3, a4⟩ := g.tab.fn gn φ hf
      exact (t_call tk a4 g.room (g.gl h1) a1 a2 a3 (okN_1 h2) (by simpa using h3) (ha X sc G0 H0 E (x :: xs) g tk h4)).ev (by funext ρ; simp only [evT, hf])
  · cases h
theorem e_lrng (tu : Bool) {a : ME} (ha : SndE N Φ k a) : SndE N Φ k (.lrng1 tu a) := by
  intro X sc G0 H0 E e g tk h
  simp only [chkE] at h
  split at h
  · rename_i f y e1
    split at h
    · rename_i f2 x e2
      simp only [Bool.and_eq_true, decide_eq_true_eq] at h
      obtain ⟨p, q, rfl⟩ := dCall_eq e1
      obtain ⟨p2, q2, rfl⟩ := dCall_eq e2
      obtain ⟨⟨⟨⟨⟨h0, rfl⟩, h1⟩, h2⟩, h3⟩, h4⟩ := h
      exact (r_lrng tu g.calm (g.gl h2) g.b (g.gl h1) (by rw [h0]; cases tu <;> exact g.b) h0 h3 (ha X sc G0 H0 E x g tk h4)).ev (by funext ρ; simp only [evE])
    · cases h
  · cases h

/-! ### rows of truths -/
theorem v_cons {x y : ME} (hx : SndE N Φ k x) (hy : SndV N Φ k y) : SndV N Φ k (.cons x y) := by
  intro X sc G0 H0 E es pos g tk h
  cases es with
  | nil => simp [chkV] at h
  | cons e es =>
    by_cases hn : y = .nil
    · subst hn
      cases es with
      | cons _ _ =>
        exact absurd h (by simp [chkV])
      | nil =>
        have h : chkE N x sc e = true := by simpa [chkV] using h
        have pe := hx X sc G0 H0 E e g tk h
        have e1 : evAndV Φ (.cons x .nil) = fun ρ => mb (evE Φ x ρ) fun u => blM u.1 := by funext ρ; simp only [evAndV]
        have e2 : evOrV Φ (.cons x .nil) = fun ρ => mb (evE Φ x ρ) fun u => blM u.1 := by funext ρ; simp only [evOrV]
        rw [e1, e2]
        exact ⟨r_bone pe, r_bone pe⟩
    · have h : chkE N x sc e = true ∧ chkV N y sc es = true := by simpa [chkV, hn] using h
      have pe := hx X sc G0 H0 E e g tk h.1
      have h2 := h.2
      have e1 : evAndV Φ (.cons x y) = fun ρ => mb (mb (evE Φ x ρ) fun u => blM u.1) fun b => if b then evAndV Φ y ρ else ok false := by
        funext ρ; cases y <;> first | exact absurd rfl hn | simp only [evAndV]
      have e2 : evOrV Φ (.cons x y) = fun ρ => mb (mb (evE Φ x ρ) fun u => blM u.1) fun b => if b then ok true else evOrV Φ y ρ := by
        funext ρ; cases y <;> first | exact absurd rfl hn | simp only [evOrV]
      cases es with
      | nil => exact absurd h2 (by cases y <;> simp [chkV])
      | cons e' es =>
        obtain ⟨q1, q2⟩ := hy X sc G0 H0 E (e' :: es) pos g tk h2
        rw [e1, e2]
        exact ⟨r_band pe q1, r_bor pe q2⟩
theorem ts_cons {x y : ME} (hx : SndT N Φ k x) (hy : SndTs N Φ k y) : SndTs N Φ k (.cons x y) := by
  intro X sc G0 H0 E es pos g tk h
  cases es with
  | nil => simp [chkTs] at h
  | cons e es =>
    by_cases hn : y = .nil
    · subst hn
      cases es with
      | cons _ _ =>
        exact absurd h (by simp [chkTs])
      | nil =>
        have h : chkT N x sc e = true := by simpa [chkTs] using h
        have pe := hx X sc G0 H0 E e g tk h
        have e1 : evAnd Φ (.cons x .nil) = evT Φ x := by funext ρ; simp only [evAnd]
        have e2 : evOr Φ (.cons x .nil) = evT Φ x := by funext ρ; simp only [evOr]
        rw [e1, e2]
        exact ⟨t_one_and pe, t_one_or pe⟩
    · have h : chkT N x sc e = true ∧ chkTs N y sc es = true := by simpa [chkTs, hn] using h
      have pe := hx X sc G0 H0 E e g tk h.1
      have h2 := h.2
      have e1 : evAnd Φ (.cons x y) = fun ρ => mb (evT Φ x ρ) fun b => if b then evAnd Φ y ρ else ok false := by
        funext ρ; cases y <;> first | exact absurd rfl hn | simp only [evAnd]
      have e2 : evOr Φ (.cons x y) = fun ρ => mb (evT Φ x ρ) fun b => if b then ok true else evOr Φ y ρ := by
        funext ρ; cases y <;> first | exact absurd rfl hn | simp only [evOr]
      cases es with
      | nil => exact absurd h2 (by cases y <;> simp [chkTs])
      | cons e' es =>
        obtain ⟨q1, q2⟩ := hy X sc G0 H0 E (e' :: es) pos g tk h2
        rw [e1, e2]
        exact ⟨t_and pe q1, t_or pe q2⟩
theorem e_and {x : ME} (hx : SndV N Φ k x) : SndE N Φ k (.and x) := by
  intro X sc G0 H0 E e g tk h
  simp only [chkE] at h
  split at h
  · rename_i xs e1
    obtain ⟨p, rfl⟩ := dBool_eq e1
    exact ((hx X sc G0 H0 E xs p g tk h).1 : PE X _ (TEv G0 H0 _ _)).ev (by funext ρ; simp only [evE])
  · cases h
theorem e_or {x : ME} (hx : SndV N Φ k x) : SndE N Φ k (.or x) := by
  intro X sc G0 H0 E e g tk h
  simp only [chkE] at h
  split at h
  · rename_i xs e1
    obtain ⟨p, rfl⟩ := dBool_eq e1
    exact ((hx X sc G0 H0 E xs p g tk h).2 : PE X _ (TEv G0 H0 _ _)).ev (by funext ρ; simp only [evE])
  · cases h
theorem t_and' {x : ME} (hx : SndTs N Φ k x) : SndT N Φ k (.and x) := by
  intro X sc G0 H0 E e g tk h
  simp only [chkT] at h
  split at h
  · rename_i xs e1
    obtain ⟨p, rfl⟩ := dBool_eq e1
    exact ((hx X sc G0 H0 E xs p g tk h).1.pt).ev (by funext ρ; simp only [evT])
  · cases h
theorem t_or' {x : ME} (hx : SndTs N Φ k x) : SndT N Φ k (.or x) := by
  intro X sc G0 H0 E e g tk h
  simp only [chkT] at h
  split at h
  · rename_i xs e1
    obtain ⟨p, rfl⟩ := dBool_eq e1
    exact ((hx X sc G0 H0 E xs p g tk h).2.pt).ev (by funext ρ; simp only [evT])
  · cases h

/-! ### what is walked -/
theorem _root_.L2.PI.ev {X : Cx} {G0 H0 : Hp} {Er : Str → Prop} {e tg : Expr} {f g : Rho → M (List D × Tg)} (h : PI X tg e (TIv G0 H0 Er f)) (q : f = g) : PI X tg e (TIv G0 H0 Er g) := q ▸ h
theorem i_rng1' {a : ME} (ha : SndE N Φ k a) : SndI N Φ k (.rng1 a) := by
  intro X sc G0 H0 E e tg one g tk ht h
  simp only [chkI] at h
  split at h
  · rename_i f x e1
    simp only [Bool.and_eq_true, decide_eq_true_eq] at h
    obtain ⟨p, q, rfl⟩ := dCall_eq e1
    obtain ⟨⟨⟨rfl, h1⟩, h2⟩, h3⟩ := h
    exact (i_rng1 (g.gl h1) g.b h2 (ha X sc G0 H0 E x g tk h3)).ev (by funext ρ; simp only [evI])
  · cases h
theorem i_rng2' {a b : ME} (ha : SndE N Φ k a) (hb : SndE N Φ k b) : SndI N Φ k (.rng2 a b) := by
  intro X sc G0 H0 E e tg one g tk ht h
  simp only [chkI] at h
  split at h
  · rename_i f x y e1
    simp only [Bool.and_eq_true, decide_eq_true_eq] at h
    obtain ⟨p, q, rfl⟩ := dCall_eq e1
    obtain ⟨⟨⟨⟨⟨rfl, h1⟩, h2⟩, h3⟩, h4⟩, h5⟩ := h
    exact (i_rng2 (g.gl h1) g.b h2 h3 (ha X sc G0 H0 E x g tk h4) (hb X sc G0 H0 E y g tk h5)).ev (by funext ρ; simp only [evI])
  · cases h
theorem i_zip' {a b : ME} (ha : SndE N Φ k a) (hb : SndE N Φ k b) : SndI N Φ k (.zip a b) := by
  intro X sc G0 H0 E e tg one g tk ht h
  simp only [chkI] at h
  split at h
  · rename_i f x y e1
    simp only [Bool.and_eq_true, decide_eq_true_eq, Bool.not_eq_true'] at h
    obtain ⟨p, q, rfl⟩ := dCall_eq e1
    obtain ⟨⟨⟨⟨⟨⟨h0, rfl⟩, h1⟩, h2⟩, h3⟩, h4⟩, h5⟩ := h
    obtain ⟨es, kk, tp, rfl⟩ := ht h0
    exact (i_zip g.hK (g.gl h1) g.b h2 h3 (ha X sc G0 H0 E x g tk h4) (hb X sc G0 H0 E y g tk h5)).ev (by funext ρ; simp only [evI])
  · cases h
theorem i_enum' {a : ME} (ha : SndE N Φ k a) : SndI N Φ k (.enum a) := by
  intro X sc G0 H0 E e tg one g tk ht h
  simp only [chkI] at h
  split at h
  · rename_i f x e1
    simp only [Bool.and_eq_true, decide_eq_true_eq, Bool.not_eq_true'] at h
    obtain ⟨p, q, rfl⟩ := dCall_eq e1
    obtain ⟨⟨⟨⟨h0, rfl⟩, h1⟩, h2⟩, h3⟩ := h
    obtain ⟨es, kk, tp, rfl⟩ := ht h0
    exact (i_enum g.hK (g.gl h1) g.b h2 (ha X sc G0 H0 E x g tk h3)).ev (by funext ρ; simp only [evI])
  · cases h
theorem i_walk' {a : ME} (ha : SndE N Φ k a) : SndI N Φ k (.walk a) := by
  intro X sc G0 H0 E e tg one g tk ht h
  exact (i_walk g.hK (ha X sc G0 H0 E e g tk (by simpa only [chkI] using h))).ev (by funext ρ; simp only [evI])

/-! ### comprehensions -/
theorem c_knon : SndC N Φ k .knon := by
  intro X sc G0 H0 E es g tk h
  cases es with
  | cons _ _ => simp [chkC] at h
  | nil =>
    refine ⟨fun pins s σ H Q I q => pts_nil.run pins s σ H Q I ?_⟩
    obtain ⟨G, ρ, sr, q⟩ := q
    simp only [evT] at q
    exact q G H (Ext.refl sr.gh)
theorem c_som {a : ME} (ha : SndT N Φ k a) : SndC N Φ k (.som a) := by
  intro X sc G0 H0 E es g tk h
  match es, h with
  | [], h => simp [chkC] at h
  | _ :: _ :: _, h => simp [chkC] at h
  | [x], h =>
    have e1 : evT Φ (.som a) = evT Φ a := by funext ρ; simp only [evT]
    rw [e1]
    exact pts_one (ha X sc G0 H0 E x g tk (by simpa only [chkC] using h))
theorem own_snd (own : List Nat) : (ownP N own).map (·.2) = own := by
  unfold ownP
  rw [List.map_map]
  exact List.map_id own
theorem nset_fold {env : PySem.Env} {e : Expr} (h : nset e = true) : ∀ x, foldedSetIterable e env x = pure x := by
  intro x
  cases e <;> first | rfl | cases h
/-- what the rules for a comprehension ask -/
structure CParts (X : Cx) (N : List Str) (Φ : Tab) (G0 H0 : Hp) (E : XK) (el t it : Expr) (ifs : List Expr) (scope : Scope) (elt : ME) (one : Bool) (tg : List Nat) (iter cond : ME) (own : List Nat) : Prop where
  okb : BlkOk X.N X.env.scope scope (ownP N own)
  sub : ∀ i ∈ tg, i ∈ (ownP N own).map (·.2)
  pi : PI X t it (TIv G0 H0 (Err X.mg G0 H0 E) (evI Φ iter))
  pg : ∀ (s : Shared) (H : Hp) (C : Addr) (cl : List (Str × Addr)) (fp : List Addr), PG (X.blk s H scope (compEnvC scope cl C X.env) fp) t (gT X.K one tg)
  pt : ∀ (s : Shared) (H : Hp) (C : Addr) (cl : List (Str × Addr)) (fp : List Addr), PTs (X.blk s H scope (compEnvC scope cl C X.env) fp) ifs (TTv G0 H0 (Err X.mg G0 H0 fun _ _ _ => False) (evT Φ cond))
  pe : ∀ (s : Shared) (H : Hp) (C : Addr) (cl : List (Str × Addr)) (fp : List Addr), PE (X.blk s H scope (compEnvC scope cl C X.env) fp) el (TEv G0 H0 (Err X.mg G0 H0 fun _ _ _ => False) (evE Φ elt))
  fs : ∀ x, foldedSetIterable it X.env x = pure x
theorem comp_parts {elt iter cond : ME} {one : Bool} {tg own : List Nat} (he : SndE N Φ k elt) (hi : SndI N Φ k iter) (hc : SndC N Φ k cond) {X : Cx} {sc : Scope} {G0 H0 : Hp} {E : XK} {e : Expr} (g : Good X N sc Φ k) (tk : Takes X (WW E))
    (h : chkE N (.comp elt one tg iter cond own) sc e = true) : ∃ el t it ifs scope p, e = .ListComp el [⟨t, it, ifs, 0⟩] scope p ∧ CParts X N Φ G0 H0 E el t it ifs scope elt one tg iter cond own := by
  simp only [chkE] at h
  split at h
  · rename_i el t it ifs scope e1
    simp only [Bool.and_eq_true] at h
    obtain ⟨p, rfl⟩ := dComp_eq e1
    obtain ⟨⟨⟨⟨⟨⟨h0, h1⟩, h2⟩, h3⟩, h4⟩, h5⟩, h6⟩ := h
    refine ⟨el, t, it, ifs, scope, p, rfl, g.blkOk h0, fun i hi => ?_, hi X sc G0 H0 E it t one g tk (fun q => by subst q; exact tg_tup h2) h4, fun s H C cl fp => ?_, fun s H C cl fp => ?_, fun s H C cl fp => ?_, nset_fold h3⟩
    · rw [own_snd]
      have := List.all_eq_true.mp h1 i hi
      simpa using this
    · exact pg_tg (g.blk h0 s H C cl fp) h2
    · exact hc _ scope G0 H0 _ ifs (g.blk h0 s H C cl fp) takes0 h5
    · exact he _ scope G0 H0 _ el (g.blk h0 s H C cl fp) takes0 h6
  · cases h
theorem comp_ev (elt iter cond : ME) (one : Bool) (tg own : List Nat) : evE Φ (.comp elt one tg iter cond own) = fun ρ => mb (evI Φ iter ρ) fun i => if i.1.length ≤ top then PV.op ((compL (turnC one tg ((ownP N own).map (·.2)) (evT Φ cond) (evE Φ elt) ρ) i.1).map fun r => (.lst r, .fr)) else none := by
  funext ρ
  rw [own_snd]
  simp only [evE]
  rfl
theorem e_comp {elt iter cond : ME} {one : Bool} {tg own : List Nat} (he : SndE N Φ k elt) (hi : SndI N Φ k iter) (hc : SndC N Φ k cond) : SndE N Φ k (.comp elt one tg iter cond own) := by
  intro X sc G0 H0 E e g tk h
  obtain ⟨el, t, it, ifs, scope, p, rfl, c⟩ := comp_parts he hi hc (G0 := G0) (H0 := H0) g tk h
  rw [comp_ev (N := N)]
  exact r_comp g.calm g.ndX c.pi c.okb c.sub c.pg c.pt c.pe c.fs

/-- all trees -/
structure SndAll (N : List Str) (Φ : Tab) (k : Nat) (m : ME) : Prop where
  e : SndE N Φ k m
  a : SndA N Φ k m
  v : SndV N Φ k m
  t : SndT N Φ k m
  ts : SndTs N Φ k m
  c : SndC N Φ k m
  p : SndP N Φ k m
  i : SndI N Φ k m
  w : SndW N Φ k m
theorem sndAll (m : ME) : SndAll N Φ k m := by
  induction m with
  | var i => exact ⟨e_var i, fun _ _ _ _ _ es _ _ h => by simp [chkA] at h, fun _ _ _ _ _ es _ _ _ h => by simp [chkV] at h, t_var i, fun _ _ _ _ _ es _ _ _ h => by simp [chkTs] at h, fun _ _ _ _ _ es _ _ h => by simp [chkC] at h, fun _ _ _ _ _ o _ _ h => by simp [chkP] at h, fun _ _ _ _ _ e _ _ _ _ _ h => by simp [chkI] at h, fun _ _ _ _ _ es _ _ _ _ _ _ _ _ _ h => by simp [chkA] at h⟩
  | cons x y hx hy => exact ⟨fun _ _ _ _ _ e _ _ h => by simp [chkE] at h, a_cons hx.e hy.a, v_cons hx.e hy.v, fun _ _ _ _ _ e _ _ h => by simp [chkT] at h, ts_cons hx.t hy.ts, fun _ _ _ _ _ es _ _ h => by simp [chkC] at h, fun _ _ _ _ _ o _ _ h => by simp [chkP] at h, fun _ _ _ _ _ e _ _ _ _ _ h => by simp [chkI] at h, w_cons' hx.e hy.w⟩
  | nil => exact ⟨fun _ _ _ _ _ e _ _ h => by simp [chkE] at h, a_nil, fun _ _ _ _ _ es _ _ _ h => by simp [chkV] at h, fun _ _ _ _ _ e _ _ h => by simp [chkT] at h, fun _ _ _ _ _ es _ _ _ h => by simp [chkTs] at h, fun _ _ _ _ _ es _ _ h => by simp [chkC] at h, fun _ _ _ _ _ o _ _ h => by simp [chkP] at h, fun _ _ _ _ _ e _ _ _ _ _ h => by simp [chkI] at h, w_nil⟩
  | glo c => exact ⟨e_glo c, fun _ _ _ _ _ es _ _ h => by simp [chkA] at h, fun _ _ _ _ _ es _ _ _ h => by simp [chkV] at h, fun _ _ _ _ _ e _ _ h => by simp [chkT] at h, fun _ _ _ _ _ es _ _ _ h => by simp [chkTs] at h, fun _ _ _ _ _ es _ _ h => by simp [chkC] at h, fun _ _ _ _ _ o _ _ h => by simp [chkP] at h, fun _ _ _ _ _ e _ _ _ _ _ h => by simp [chkI] at h, fun _ _ _ _ _ es _ _ _ _ _ _ _ _ _ h => by simp [chkA] at h⟩
  | kint c => exact ⟨e_kint c, fun _ _ _ _ _ es _ _ h => by simp [chkA] at h, fun _ _ _ _ _ es _ _ _ h => by simp [chkV] at h, fun _ _ _ _ _ e _ _ h => by simp [chkT] at h, fun _ _ _ _ _ es _ _ _ h => by simp [chkTs] at h, fun _ _ _ _ _ es _ _ h => by simp [chkC] at h, fun _ _ _ _ _ o _ _ h => by simp [chkP] at h, fun _ _ _ _ _ e _ _ _ _ _ h => by simp [chkI] at h, fun _ _ _ _ _ es _ _ _ _ _ _ _ _ _ h => by simp [chkA] at h⟩
  | kstr c => exact ⟨e_kstr c, fun _ _ _ _ _ es _ _ h => by simp [chkA] at h, fun _ _ _ _ _ es _ _ _ h => by simp [chkV] at h, fun _ _ _ _ _ e _ _ h => by simp [chkT] at h, fun _ _ _ _ _ es _ _ _ h => by simp [chkTs] at h, fun _ _ _ _ _ es _ _ h => by simp [chkC] at h, fun _ _ _ _ _ o _ _ h => by simp [chkP] at h, fun _ _ _ _ _ e _ _ _ _ _ h => by simp [chkI] at h, fun _ _ _ _ _ es _ _ _ _ _ _ _ _ _ h => by simp [chkA] at h⟩
  | kbl c => exact ⟨e_kbl c, fun _ _ _ _ _ es _ _ h => by simp [chkA] at h, fun _ _ _ _ _ es _ _ _ h => by simp [chkV] at h, fun _ _ _ _ _ e _ _ h => by simp [chkT] at h, fun _ _ _ _ _ es _ _ _ h => by simp [chkTs] at h, fun _ _ _ _ _ es _ _ h => by simp [chkC] at h, fun _ _ _ _ _ o _ _ h => by simp [chkP] at h, fun _ _ _ _ _ e _ _ _ _ _ h => by simp [chkI] at h, fun _ _ _ _ _ es _ _ _ _ _ _ _ _ _ h => by simp [chkA] at h⟩
  | knon => exact ⟨e_knon, fun _ _ _ _ _ es _ _ h => by simp [chkA] at h, fun _ _ _ _ _ es _ _ _ h => by simp [chkV] at h, fun _ _ _ _ _ e _ _ h => by simp [chkT] at h, fun _ _ _ _ _ es _ _ _ h => by simp [chkTs] at h, c_knon, fun _ _ _ _ _ o _ _ h => by simp [chkP] at h, fun _ _ _ _ _ e _ _ _ _ _ h => by simp [chkI] at h, fun _ _ _ _ _ es _ _ _ _ _ _ _ _ _ h => by simp [chkA] at h⟩
  | tup x hx => exact ⟨e_tup hx.a, fun _ _ _ _ _ es _ _ h => by simp [chkA] at h, fun _ _ _ _ _ es _ _ _ h => by simp [chkV] at h, fun _ _ _ _ _ e _ _ h => by simp [chkT] at h, fun _ _ _ _ _ es _ _ _ h => by simp [chkTs] at h, fun _ _ _ _ _ es _ _ h => by simp [chkC] at h, fun _ _ _ _ _ o _ _ h => by simp [chkP] at h, fun _ _ _ _ _ e _ _ _ _ _ h => by simp [chkI] at h, fun _ _ _ _ _ es _ _ _ _ _ _ _ _ _ h => by simp [chkA] at h⟩
  | lst x hx => exact ⟨e_lst hx.a, fun _ _ _ _ _ es _ _ h => by simp [chkA] at h, fun _ _ _ _ _ es _ _ _ h => by simp [chkV] at h, fun _ _ _ _ _ e _ _ h => by simp [chkT] at h, fun _ _ _ _ _ es _ _ _ h => by simp [chkTs] at h, fun _ _ _ _ _ es _ _ h => by simp [chkC] at h, fun _ _ _ _ _ o _ _ h => by simp [chkP] at h, fun _ _ _ _ _ e _ _ _ _ _ h => by simp [chkI] at h, fun _ _ _ _ _ es _ _ _ _ _ _ _ _ _ h => by simp [chkA] at h⟩
  | bin o a b ha hb => exact ⟨e_bin o ha.e hb.e, fun _ _ _ _ _ es _ _ h => by simp [chkA] at h, fun _ _ _ _ _ es _ _ _ h => by simp [chkV] at h, fun _ _ _ _ _ e _ _ h => by simp [chkT] at h, fun _ _ _ _ _ es _ _ _ h => by simp [chkTs] at h, fun _ _ _ _ _ es _ _ h => by simp [chkC] at h, fun _ _ _ _ _ o _ _ h => by simp [chkP] at h, fun _ _ _ _ _ e _ _ _ _ _ h => by simp [chkI] at h, fun _ _ _ _ _ es _ _ _ _ _ _ _ _ _ h => by simp [chkA] at h⟩
  | cmp o a b ha hb => exact ⟨e_cmp o ha.e hb.e, fun _ _ _ _ _ es _ _ h => by simp [chkA] at h, fun _ _ _ _ _ es _ _ _ h => by simp [chkV] at h, t_cmp' o ha.e hb.e, fun _ _ _ _ _ es _ _ _ h => by simp [chkTs] at h, fun _ _ _ _ _ es _ _ h => by simp [chkC] at h, fun _ _ _ _ _ o _ _ h => by simp [chkP] at h, fun _ _ _ _ _ e _ _ _ _ _ h => by simp [chkI] at h, fun _ _ _ _ _ es _ _ _ _ _ _ _ _ _ h => by simp [chkA] at h⟩
  | chain o o' a b c ha hb hc => exact ⟨e_chain o o' ha.e hb.e hc.e, fun _ _ _ _ _ es _ _ h => by simp [chkA] at h, fun _ _ _ _ _ es _ _ _ h => by simp [chkV] at h, t_chain' o o' ha.e hb.e hc.e, fun _ _ _ _ _ es _ _ _ h => by simp [chkTs] at h, fun _ _ _ _ _ es _ _ h => by simp [chkC] at h, fun _ _ _ _ _ o _ _ h => by simp [chkP] at h, fun _ _ _ _ _ e _ _ _ _ _ h => by simp [chkI] at h, fun _ _ _ _ _ es _ _ _ _ _ _ _ _ _ h => by simp [chkA] at h⟩
  | un o a ha =>
    refine ⟨e_un o ha.e, fun _ _ _ _ _ es _ _ h => by simp [chkA] at h, fun _ _ _ _ _ es _ _ _ h => by simp [chkV] at h, ?_, fun _ _ _ _ _ es _ _ _ h => by simp [chkTs] at h, fun _ _ _ _ _ es _ _ h => by simp [chkC] at h, fun _ _ _ _ _ o _ _ h => by simp [chkP] at h, fun _ _ _ _ _ e _ _ _ _ _ h => by simp [chkI] at h, fun _ _ _ _ _ es _ _ _ _ _ _ _ _ _ h => by simp [chkA] at h⟩
    cases o with
    | all => exact t_aa .all (.inl rfl) ha.e
    | any => exact t_aa .any (.inr rfl) ha.e
    | _ => exact fun _ _ _ _ _ e _ _ h => by simp [chkT] at h
  | mm mx a b ha hb => exact ⟨e_mm mx ha.e hb.e, fun _ _ _ _ _ es _ _ h => by simp [chkA] at h, fun _ _ _ _ _ es _ _ _ h => by simp [chkV] at h, fun _ _ _ _ _ e _ _ h => by simp [chkT] at h, fun _ _ _ _ _ es _ _ _ h => by simp [chkTs] at h, fun _ _ _ _ _ es _ _ h => by simp [chkC] at h, fun _ _ _ _ _ o _ _ h => by simp [chkP] at h, fun _ _ _ _ _ e _ _ _ _ _ h => by simp [chkI] at h, fun _ _ _ _ _ es _ _ _ _ _ _ _ _ _ h => by simp [chkA] at h⟩
  | isi t a ha => exact ⟨e_isi t ha.e, fun _ _ _ _ _ es _ _ h => by simp [chkA] at h, fun _ _ _ _ _ es _ _ _ h => by simp [chkV] at h, t_isi t ha.e, fun _ _ _ _ _ es _ _ _ h => by simp [chkTs] at h, fun _ _ _ _ _ es _ _ h => by simp [chkC] at h, fun _ _ _ _ _ o _ _ h => by simp [chkP] at h, fun _ _ _ _ _ e _ _ _ _ _ h => by simp [chkI] at h, fun _ _ _ _ _ es _ _ _ _ _ _ _ _ _ h => by simp [chkA] at h⟩
  | and x hx => exact ⟨e_and hx.v, fun _ _ _ _ _ es _ _ h => by simp [chkA] at h, fun _ _ _ _ _ es _ _ _ h => by simp [chkV] at h, t_and' hx.ts, fun _ _ _ _ _ es _ _ _ h => by simp [chkTs] at h, fun _ _ _ _ _ es _ _ h => by simp [chkC] at h, fun _ _ _ _ _ o _ _ h => by simp [chkP] at h, fun _ _ _ _ _ e _ _ _ _ _ h => by simp [chkI] at h, fun _ _ _ _ _ es _ _ _ _ _ _ _ _ _ h => by simp [chkA] at h⟩
  | or x hx => exact ⟨e_or hx.v, fun _ _ _ _ _ es _ _ h => by simp [chkA] at h, fun _ _ _ _ _ es _ _ _ h => by simp [chkV] at h, t_or' hx.ts, fun _ _ _ _ _ es _ _ _ h => by simp [chkTs] at h, fun _ _ _ _ _ es _ _ h => by simp [chkC] at h, fun _ _ _ _ _ o _ _ h => by simp [chkP] at h, fun _ _ _ _ _ e _ _ _ _ _ h => by simp [chkI] at h, fun _ _ _ _ _ es _ _ _ _ _ _ _ _ _ h => by simp [chkA] at h⟩
  | not a ha => exact ⟨e_not ha.e, fun _ _ _ _ _ es _ _ h => by simp [chkA] at h, fun _ _ _ _ _ es _ _ _ h => by simp [chkV] at h, t_not' ha.t, fun _ _ _ _ _ es _ _ _ h => by simp [chkTs] at h, fun _ _ _ _ _ es _ _ h => by simp [chkC] at h, fun _ _ _ _ _ o _ _ h => by simp [chkP] at h, fun _ _ _ _ _ e _ _ _ _ _ h => by simp [chkI] at h, fun _ _ _ _ _ es _ _ _ _ _ _ _ _ _ h => by simp [chkA] at h⟩
  | ix a b ha hb => exact ⟨e_ix ha.e hb.e, fun _ _ _ _ _ es _ _ h => by simp [chkA] at h, fun _ _ _ _ _ es _ _ _ h => by simp [chkV] at h, fun _ _ _ _ _ e _ _ h => by simp [chkT] at h, fun _ _ _ _ _ es _ _ _ h => by simp [chkTs] at h, fun _ _ _ _ _ es _ _ h => by simp [chkC] at h, fun _ _ _ _ _ o _ _ h => by simp [chkP] at h, fun _ _ _ _ _ e _ _ _ _ _ h => by simp [chkI] at h, fun _ _ _ _ _ es _ _ _ _ _ _ _ _ _ h => by simp [chkA] at h⟩
  | sl a b c ha hb hc => exact ⟨e_sl ha.e hb.p hc.p, fun _ _ _ _ _ es _ _ h => by simp [chkA] at h, fun _ _ _ _ _ es _ _ _ h => by simp [chkV] at h, fun _ _ _ _ _ e _ _ h => by simp [chkT] at h, fun _ _ _ _ _ es _ _ _ h => by simp [chkTs] at h, fun _ _ _ _ _ es _ _ h => by simp [chkC] at h, fun _ _ _ _ _ o _ _ h => by simp [chkP] at h, fun _ _ _ _ _ e _ _ _ _ _ h => by simp [chkI] at h, fun _ _ _ _ _ es _ _ _ _ _ _ _ _ _ h => by simp [chkA] at h⟩
  | noP => exact ⟨fun _ _ _ _ _ e _ _ h => by simp [chkE] at h, fun _ _ _ _ _ es _ _ h => by simp [chkA] at h, fun _ _ _ _ _ es _ _ _ h => by simp [chkV] at h, fun _ _ _ _ _ e _ _ h => by simp [chkT] at h, fun _ _ _ _ _ es _ _ _ h => by simp [chkTs] at h, fun _ _ _ _ _ es _ _ h => by simp [chkC] at h, p_noP, fun _ _ _ _ _ e _ _ _ _ _ h => by simp [chkI] at h, fun _ _ _ _ _ es _ _ _ _ _ _ _ _ _ h => by simp [chkA] at h⟩
  | som a ha => exact ⟨fun _ _ _ _ _ e _ _ h => by simp [chkE] at h, fun _ _ _ _ _ es _ _ h => by simp [chkA] at h, fun _ _ _ _ _ es _ _ _ h => by simp [chkV] at h, fun _ _ _ _ _ e _ _ h => by simp [chkT] at h, fun _ _ _ _ _ es _ _ _ h => by simp [chkTs] at h, c_som ha.t, p_som ha.e, fun _ _ _ _ _ e _ _ _ _ _ h => by simp [chkI] at h, fun _ _ _ _ _ es _ _ _ _ _ _ _ _ _ h => by simp [chkA] at h⟩
  | rev a ha => exact ⟨e_rev ha.e, fun _ _ _ _ _ es _ _ h => by simp [chkA] at h, fun _ _ _ _ _ es _ _ _ h => by simp [chkV] at h, fun _ _ _ _ _ e _ _ h => by simp [chkT] at h, fun _ _ _ _ _ es _ _ _ h => by simp [chkTs] at h, fun _ _ _ _ _ es _ _ h => by simp [chkC] at h, fun _ _ _ _ _ o _ _ h => by simp [chkP] at h, fun _ _ _ _ _ e _ _ _ _ _ h => by simp [chkI] at h, fun _ _ _ _ _ es _ _ _ _ _ _ _ _ _ h => by simp [chkA] at h⟩
  | call f es ha => exact ⟨e_call f ha.a, fun _ _ _ _ _ es _ _ h => by simp [chkA] at h, fun _ _ _ _ _ es _ _ _ h => by simp [chkV] at h, t_call' f ha.a, fun _ _ _ _ _ es _ _ _ h => by simp [chkTs] at h, fun _ _ _ _ _ es _ _ h => by simp [chkC] at h, fun _ _ _ _ _ o _ _ h => by simp [chkP] at h, fun _ _ _ _ _ e _ _ _ _ _ h => by simp [chkI] at h, fun _ _ _ _ _ es _ _ _ _ _ _ _ _ _ h => by simp [chkA] at h⟩
  | callB f i es ha => exact ⟨e_callB f i ha.a, fun _ _ _ _ _ es _ _ h => by simp [chkA] at h, fun _ _ _ _ _ es _ _ _ h => by simp [chkV] at h, fun _ _ _ _ _ e _ _ h => by simp [chkT] at h, fun _ _ _ _ _ es _ _ _ h => by simp [chkTs] at h, fun _ _ _ _ _ es _ _ h => by simp [chkC] at h, fun _ _ _ _ _ o _ _ h => by simp [chkP] at h, fun _ _ _ _ _ e _ _ _ _ _ h => by simp [chkI] at h, fun _ _ _ _ _ es _ _ _ _ _ _ _ _ _ h => by simp [chkA] at h⟩
  | callZ f i es ha => exact ⟨e_callZ f i ha.w, fun _ _ _ _ _ es _ _ h => by simp [chkA] at h, fun _ _ _ _ _ es _ _ _ h => by simp [chkV] at h, t_callZ' f i ha.w, fun _ _ _ _ _ es _ _ _ h => by simp [chkTs] at h, fun _ _ _ _ _ es _ _ h => by simp [chkC] at h, fun _ _ _ _ _ o _ _ h => by simp [chkP] at h, fun _ _ _ _ _ e _ _ _ _ _ h => by simp [chkI] at h, fun _ _ _ _ _ es _ _ _ _ _ _ _ _ _ h => by simp [chkA] at h⟩
  | join a b ha hb => exact ⟨e_join ha.e hb.e, fun _ _ _ _ _ es _ _ h => by simp [chkA] at h, fun _ _ _ _ _ es _ _ _ h => by simp [chkV] at h, fun _ _ _ _ _ e _ _ h => by simp [chkT] at h, fun _ _ _ _ _ es _ _ _ h => by simp [chkTs] at h, fun _ _ _ _ _ es _ _ h => by simp [chkC] at h, fun _ _ _ _ _ o _ _ h => by simp [chkP] at h, fun _ _ _ _ _ e _ _ _ _ _ h => by simp [chkI] at h, fun _ _ _ _ _ es _ _ _ _ _ _ _ _ _ h => by simp [chkA] at h⟩
  | rng1 a ha => exact ⟨fun _ _ _ _ _ e _ _ h => by simp [chkE] at h, fun _ _ _ _ _ es _ _ h => by simp [chkA] at h, fun _ _ _ _ _ es _ _ _ h => by simp [chkV] at h, fun _ _ _ _ _ e _ _ h => by simp [chkT] at h, fun _ _ _ _ _ es _ _ _ h => by simp [chkTs] at h, fun _ _ _ _ _ es _ _ h => by simp [chkC] at h, fun _ _ _ _ _ o _ _ h => by simp [chkP] at h, i_rng1' ha.e, fun _ _ _ _ _ es _ _ _ _ _ _ _ _ _ h => by simp [chkA] at h⟩
  | rng2 a b ha hb => exact ⟨fun _ _ _ _ _ e _ _ h => by simp [chkE] at h, fun _ _ _ _ _ es _ _ h => by simp [chkA] at h, fun _ _ _ _ _ es _ _ _ h => by simp [chkV] at h, fun _ _ _ _ _ e _ _ h => by simp [chkT] at h, fun _ _ _ _ _ es _ _ _ h => by simp [chkTs] at h, fun _ _ _ _ _ es _ _ h => by simp [chkC] at h, fun _ _ _ _ _ o _ _ h => by simp [chkP] at h, i_rng2' ha.e hb.e, fun _ _ _ _ _ es _ _ _ _ _ _ _ _ _ h => by simp [chkA] at h⟩
  | zip a b ha hb => exact ⟨fun _ _ _ _ _ e _ _ h => by simp [chkE] at h, fun _ _ _ _ _ es _ _ h => by simp [chkA] at h, fun _ _ _ _ _ es _ _ _ h => by simp [chkV] at h, fun _ _ _ _ _ e _ _ h => by simp [chkT] at h, fun _ _ _ _ _ es _ _ _ h => by simp [chkTs] at h, fun _ _ _ _ _ es _ _ h => by simp [chkC] at h, fun _ _ _ _ _ o _ _ h => by simp [chkP] at h, i_zip' ha.e hb.e, fun _ _ _ _ _ es _ _ _ _ _ _ _ _ _ h => by simp [chkA] at h⟩
  | enum a ha => exact ⟨fun _ _ _ _ _ e _ _ h => by simp [chkE] at h, fun _ _ _ _ _ es _ _ h => by simp [chkA] at h, fun _ _ _ _ _ es _ _ _ h => by simp [chkV] at h, fun _ _ _ _ _ e _ _ h => by simp [chkT] at h, fun _ _ _ _ _ es _ _ _ h => by simp [chkTs] at h, fun _ _ _ _ _ es _ _ h => by simp [chkC] at h, fun _ _ _ _ _ o _ _ h => by simp [chkP] at h, i_enum' ha.e, fun _ _ _ _ _ es _ _ _ _ _ _ _ _ _ h => by simp [chkA] at h⟩
  | walk a ha => exact ⟨fun _ _ _ _ _ e _ _ h => by simp [chkE] at h, fun _ _ _ _ _ es _ _ h => by simp [chkA] at h, fun _ _ _ _ _ es _ _ _ h => by simp [chkV] at h, fun _ _ _ _ _ e _ _ h => by simp [chkT] at h, fun _ _ _ _ _ es _ _ _ h => by simp [chkTs] at h, fun _ _ _ _ _ es _ _ h => by simp [chkC] at h, fun _ _ _ _ _ o _ _ h => by simp [chkP] at h, i_walk' ha.e, fun _ _ _ _ _ es _ _ _ _ _ _ _ _ _ h => by simp [chkA] at h⟩
  | lrng1 tu a ha => exact ⟨e_lrng tu ha.e, fun _ _ _ _ _ es _ _ h => by simp [chkA] at h, fun _ _ _ _ _ es _ _ _ h => by simp [chkV] at h, fun _ _ _ _ _ e _ _ h => by simp [chkT] at h, fun _ _ _ _ _ es _ _ _ h => by simp [chkTs] at h, fun _ _ _ _ _ es _ _ h => by simp [chkC] at h, fun _ _ _ _ _ o _ _ h => by simp [chkP] at h, fun _ _ _ _ _ e _ _ _ _ _ h => by simp [chkI] at h, fun _ _ _ _ _ es _ _ _ _ _ _ _ _ _ h => by simp [chkA] at h⟩
  | comp elt one tg iter cond own he hi hc => exact ⟨e_comp he.e hi.i hc.c, fun _ _ _ _ _ es _ _ h => by simp [chkA] at h, fun _ _ _ _ _ es _ _ _ h => by simp [chkV] at h, fun _ _ _ _ _ e _ _ h => by simp [chkT] at h, fun _ _ _ _ _ es _ _ _ h => by simp [chkTs] at h, fun _ _ _ _ _ es _ _ h => by simp [chkC] at h, fun _ _ _ _ _ o _ _ h => by simp [chkP] at h, fun _ _ _ _ _ e _ _ _ _ _ h => by simp [chkI] at h, fun _ _ _ _ _ es _ _ _ _ _ _ _ _ _ h => by simp [chkA] at h⟩
end
end PV

set_option Elab.async false
set_option linter.all false
set_option maxRecDepth 100000
set_option maxHeartbeats 4000000
/-! PV: blocks, defs, programs. -/
namespace PV
open PySem PySem.Spec PyProof.Rows L2
variable [ScrK]
section
variable {N : List Str} {Φ : Tab} {k : Nat}
def SndS (N : List Str) (Φ : Tab) (k wf : Nat) (m : MS) : Prop := ∀ (X : Cx) (sc : Scope) (G0 H0 : Hp) (E : XK) (st : Stmt), Good X N sc Φ k → Takes X (WW E) → PassesOwn (model X.prog X.w) X.A X.env X.xe → chkS N Φ.ex m sc st = true →
  PS X st (TSv G0 H0 (Err X.mg G0 H0 E) (evS Φ wf m))
def SndB (N : List Str) (Φ : Tab) (k wf : Nat) (m : MS) : Prop := ∀ (X : Cx) (sc : Scope) (G0 H0 : Hp) (E : XK) (sts : List Stmt), Good X N sc Φ k → Takes X (WW E) → PassesOwn (model X.prog X.w) X.A X.env X.xe → chkB N Φ.ex m sc sts = true →
  PSs X sts (TSv G0 H0 (Err X.mg G0 H0 E) (evB Φ wf m))
theorem _root_.L2.PS.ev {X : Cx} {G0 H0 : Hp} {Er : Str → Prop} {st : Stmt} {f g : Rho → M Fl} (h : PS X st (TSv G0 H0 Er f)) (q : f = g) : PS X st (TSv G0 H0 Er g) := q ▸ h
theorem _root_.L2.PSs.ev {X : Cx} {G0 H0 : Hp} {Er : Str → Prop} {st : List Stmt} {f g : Rho → M Fl} (h : PSs X st (TSv G0 H0 Er f)) (q : f = g) : PSs X st (TSv G0 H0 Er g) := q ▸ h
variable {wf : Nat}
theorem b_nil : SndB N Φ k wf .nil := by
  intro X sc G0 H0 E sts g tk hp h
  cases sts with
  | nil => exact s_nil.ev (by funext ρ; simp only [evB])
  | cons _ _ => simp [chkB] at h
theorem b_seq {s r : MS} (hs : SndS N Φ k wf s) (hr : SndB N Φ k wf r) : SndB N Φ k wf (.seq s r) := by
  intro X sc G0 H0 E sts g tk hp h
  cases sts with
  | nil => simp [chkB] at h
  | cons st sts =>
    simp only [chkB, Bool.and_eq_true] at h
    refine (s_cons (hs X sc G0 H0 E st g tk hp h.1) (hr X sc G0 H0 E sts g tk hp h.2)).ev ?_
    funext ρ
    simp only [evB] <;> rfl
/-- a tree that is a comprehension -/
theorem comp_of {m : ME} {sc : Scope} {v : Expr} (h : chkE N m sc v = true) (hn : ncomp v = false) : ∃ elt one tg iter cond own, m = .comp elt one tg iter cond own := by
  have key : ∀ {e : Expr}, ncomp e = false → dName e = none ∧ dConst e = none ∧ dTup e = none ∧ dLst e = none ∧ dBin e = none ∧ dCmp e = none ∧ dUn e = none ∧ dBool e = none ∧ dSub e = none ∧ dCall e = none ∧ dMeth e = none := by
    intro e he
    cases e <;> first | exact ⟨rfl, rfl, rfl, rfl, rfl, rfl, rfl, rfl, rfl, rfl, rfl⟩ | cases he
  obtain ⟨k1, k2, k3, k4, k5, k6, k7, k8, k9, k0, km⟩ := key hn
  cases m with
  | comp elt one tg iter cond own => exact ⟨_, _, _, _, _, _, rfl⟩
  | un o a => cases o <;> simp [chkE, k7, k0] at h
  | _ => simp [chkE, k1, k2, k3, k4, k5, k6, k7, k8, k9, k0, km] at h
theorem s_asg' (i : Nat) (own : Bool) (e : ME) : SndS N Φ k wf (.asg i own e) := by
  intro X sc G0 H0 E st g tk hp h
  have eq : evS Φ wf (.asg i own e) = fun ρ => mb (evE Φ e ρ) fun x => asgF i own x ρ := by funext ρ; simp only [evS]
  rw [eq]
  simp only [chkS] at h
  split at h
  · rename_i t v pp e1
    split at h
    · rename_i x e2
      simp only [Bool.and_eq_true, Bool.or_eq_true] at h
      have e1 := dAsg_eq e1
      subst e1
      obtain ⟨p, rfl⟩ := dName_eq e2
      obtain ⟨⟨⟨h1, h2⟩, h3⟩, h4⟩ := h
      obtain ⟨l1, l2⟩ := g.sto h2
      cases hn : ncomp v with
      | true => exact s_asg own g.ndX (g.slot h1) l1 l2 hn ((sndAll e).e X sc G0 H0 E v g tk h4)
      | false =>
        obtain ⟨elt, one, tg, iter, cond, ow, rfl⟩ := comp_of h4 hn
        obtain ⟨el, t, it, ifs, scope, p2, rfl, c⟩ := comp_parts (sndAll elt).e (sndAll iter).i (sndAll cond).c (G0 := G0) (H0 := H0) g tk h4
        rcases h3 with (h3 | h3) | h3
        · rw [hn] at h3; cases h3
        · have h3 : (locB sc x && ((Expr.Name x p).pos.line == (Expr.ListComp el [⟨t, it, ifs, 0⟩] scope p2).pos.line) && !(scope.names.any fun (n, k) => n == x && (k == .local || k == .cell))) = true := h3
          rw [Bool.and_eq_true, Bool.and_eq_true, Bool.not_eq_true'] at h3
          rw [comp_ev (N := N)]
          exact s_asgLc own g.calm g.ndX (g.slot h1) (g.lo h3.1.1) (sw_true g.kind (g.lo h3.1.1) h3.1.2 h3.2) c.pi c.okb c.sub c.pg c.pt c.pe c.fs
        · have he := (sndAll (.comp elt one tg iter cond ow)).e X sc G0 H0 E _ g tk h4
          have hc := g.ce h3
          have sw : swapsWith (.ListComp el [⟨t, it, ifs, 0⟩] scope p2) (some (.Name x p)) pp.line X.env = pure false := by
            have kx : X.env.kindOf x = some .cell := hc
            unfold swapsWith
            simp only [kx]
            have e0 : (X.env.blockKind == ScopeKind.function && some NameKind.cell == some NameKind.local && p.line == (Expr.ListComp el [⟨t, it, ifs, 0⟩] scope p2).pos.line && !(scope.names.any fun (n, k) => n == x && (k == .local || k == .cell))) = false := by
              rw [show (some NameKind.cell == some NameKind.local) = false from rfl, Bool.and_false, Bool.false_and, Bool.false_and]
            exact congrArg pure e0
          refine PS.imp (ps_set g.ndX (g.slot h1) l1 he sw l2) fun D σ H h => ?_
          obtain ⟨G, ρ, s, h⟩ := h
          exact ⟨G, ρ, s, (PF.pm (H := H) h).imp fun a G1 H1 x q v r => asg_rel s x r q⟩
    · cases h
  · cases h
theorem s_unp' (is : List Nat) (e : ME) : SndS N Φ k wf (.unp is e) := by
  intro X sc G0 H0 E st g tk hp h
  simp only [chkS] at h
  split at h
  · rename_i t v pp e1
    simp only [Bool.and_eq_true, Bool.or_eq_true] at h
    have e1 := dAsg_eq e1
    subst e1
    obtain ⟨ts, kk, tp, rfl⟩ := tg_tup h.1.1
    have hsw : ncomp v = true ∧ swappedStores [.Tuple ts kk tp] v X.env = pure none := by
      rcases h.1.2 with q | ⟨q1, q2⟩
      · exact ⟨tupok_ncomp q, noswapped q⟩
      · refine ⟨q1, ?_⟩
        simp only [celT, dTup, List.any_eq_true] at q2
        obtain ⟨e, he, q2⟩ := q2
        split at q2
        · rename_i x hx
          obtain ⟨pn, rfl⟩ := dName_eq hx
          exact noswapC he (g.ce q2)
        · cases q2
    exact (s_unp ((sndAll e).e X sc G0 H0 E v g tk h.2) hsw.1 hsw.2 (pg_tg g h.1.1)).ev (by funext ρ; simp only [evS])
  · cases h
theorem s_par' (i j : Nat) (a b : ME) : SndS N Φ k wf (.par i j a b) := by
  intro X sc G0 H0 E st g tk hp h
  simp only [chkS] at h
  split at h
  · rename_i t v pp e1
    have e1 := dAsg_eq e1
    subst e1
    split at h
    · rename_i n m x y e2 e3
      split at h
      · rename_i nn mm e4 e5
        obtain ⟨kt, pt, rfl⟩ := dTup_eq e2
        obtain ⟨kv, pv, rfl⟩ := dTup_eq e3
        obtain ⟨px, rfl⟩ := dName_eq e4
        obtain ⟨py, rfl⟩ := dName_eq e5
        simp only [Bool.and_eq_true, decide_eq_true_eq, Bool.not_eq_true'] at h
        obtain ⟨⟨⟨⟨⟨⟨⟨⟨⟨⟨⟨h1, h2⟩, h3⟩, h4⟩, h5⟩, h6⟩, h7⟩, h8⟩, h9⟩, ha⟩, hb⟩, hc⟩ := h
        exact (s_par g.calm g.ndX (g.slot h1) (g.slot h2) h3 g.kind (g.lo h4) (g.lo h5) h6 h7 h8 h9 ha ((sndAll a).e X sc G0 H0 E x g tk hb) ((sndAll b).e X sc G0 H0 E y g tk hc)).ev (by funext ρ; simp only [evS])
      · cases h
    · cases h
  · cases h
theorem s_app' (i : Nat) (e : ME) : SndS N Φ k wf (.app i e) := by
  intro X sc G0 H0 E st g tk hp h
  simp only [chkS] at h
  split at h
  · rename_i v e1
    obtain ⟨p, rfl⟩ := dExpr_eq e1
    split at h
    · rename_i o m x e2
      split at h
      · rename_i n e3
        simp only [Bool.and_eq_true, decide_eq_true_eq] at h
        obtain ⟨p2, p3, rfl, hl⟩ := dMeth_eq e2
        obtain ⟨p4, rfl⟩ := dName_eq e3
        obtain ⟨⟨⟨⟨⟨h1, h2⟩, h3⟩, rfl⟩, h4⟩, h5⟩ := h
        exact (s_app (g.slot h1) (g.vis h2) (okN_1 h3) (okN_2 h3) h4 hl ((sndAll e).e X sc G0 H0 E x g tk h5)).ev (by funext ρ; simp only [evS])
      · cases h
    · cases h
  · cases h
theorem s_seti' (i : Nat) (c e : ME) : SndS N Φ k wf (.seti i c e) := by
  intro X sc G0 H0 E st g tk hp h
  simp only [chkS] at h
  split at h
  · rename_i t v pp e1
    have e1 := dAsg_eq e1
    subst e1
    split at h
    · rename_i o y e2
      split at h
      · rename_i n e3
        simp only [Bool.and_eq_true] at h
        obtain ⟨p2, rfl⟩ := dSub_eq e2
        obtain ⟨p4, rfl⟩ := dName_eq e3
        obtain ⟨⟨⟨⟨⟨⟨h1, h2⟩, h3⟩, h4⟩, h5⟩, h6⟩, h7⟩ := h
        exact (s_seti (g.slot h1) (g.vis h2) (okN_1 h3) (okN_2 h3) h4 h5 ((sndAll c).e X sc G0 H0 E y g tk h6) ((sndAll e).e X sc G0 H0 E v g tk h7)).ev (by funext ρ; simp only [evS])
      · cases h
    · cases h
  · cases h
theorem s_ret' (e : ME) : SndS N Φ k wf (.ret e) := by
  intro X sc G0 H0 E st g tk hp h
  simp only [chkS] at h
  split at h
  · rename_i v e1
    obtain ⟨p, rfl⟩ := dRet_eq e1
    exact (s_ret ((sndAll e).e X sc G0 H0 E v g tk h)).ev (by funext ρ; simp only [evS])
  · cases h
theorem s_ife' (c : ME) {a b : MS} (ha : SndB N Φ k wf a) (hb : SndB N Φ k wf b) : SndS N Φ k wf (.ife c a b) := by
  intro X sc G0 H0 E st g tk hp h
  simp only [chkS] at h
  split at h
  · rename_i x y z e1
    simp only [Bool.and_eq_true] at h
    obtain ⟨p, rfl⟩ := dIf_eq e1
    exact (s_if ((sndAll c).t X sc G0 H0 E x g tk h.1.1) (ha X sc G0 H0 E y g tk hp h.1.2) (hb X sc G0 H0 E z g tk hp h.2)).ev (by funext ρ; simp only [evS])
  · cases h
theorem s_for' (one : Bool) (tg : List Nat) (it : ME) {body : MS} (hb : SndB N Φ k wf body) : SndS N Φ k wf (.for_ one tg it body) := by
  intro X sc G0 H0 E st g tk hp h
  simp only [chkS] at h
  split at h
  · rename_i t i b e1
    simp only [Bool.and_eq_true] at h
    obtain ⟨p, rfl⟩ := dFor_eq e1
    obtain ⟨⟨⟨h1, h2⟩, h3⟩, h4⟩ := h
    refine (s_for hp g.calm ((sndAll it).i X sc G0 H0 E i t one g tk (fun q => by subst q; exact tg_tup h1) h3) (pg_tg g h1) (hb X sc G0 H0 E b g tk hp h4) (nset_fold h2)).ev ?_
    funext ρ
    simp only [evS]
    all_goals
      rcases evI Φ it ρ with _ | (_ | x)
      · rfl
      · rfl
      · simp only [mb_some]; cases x.2 <;> rfl
  · cases h
theorem s_whil' (c : ME) {body : MS} (hb : SndB N Φ k wf body) : SndS N Φ k wf (.whil c body) := by
  intro X sc G0 H0 E st g tk hp h
  simp only [chkS] at h
  split at h
  · rename_i x b e1
    simp only [Bool.and_eq_true] at h
    obtain ⟨p, rfl⟩ := dWhile_eq e1
    exact (s_while wf hp ((sndAll c).t X sc G0 H0 E x g tk h.1) (hb X sc G0 H0 E b g tk hp h.2)).ev (by funext ρ; simp only [evS])
  · cases h
theorem s_rais' (c : Str) : SndS N Φ k wf (.rais c) := by
  intro X sc G0 H0 E st g tk hp h
  simp only [chkS] at h
  split at h
  · rename_i v e1
    obtain ⟨p, rfl⟩ := dRaise_eq e1
    split at h
    · rename_i f x e2
      simp only [Bool.and_eq_true, decide_eq_true_eq] at h
      obtain ⟨p2, q2, rfl⟩ := dCall_eq e2
      obtain ⟨⟨⟨⟨rfl, h1⟩, h2⟩, h3⟩, h4⟩ := h
      obtain ⟨m, j, p3, rfl⟩ := dStrC_eq h3
      obtain ⟨C, a1, a2, a3, a4, a5⟩ := g.tab.ex f h4
      exact (s_raise g.calm tk PySem.F.excBase_ValueError a2 a1 a3 (raises_own a4 a5) (g.gl h1) (okN_1 h2)).ev (by funext ρ; simp only [evS])
    · cases h
  · cases h
structure SndM (N : List Str) (Φ : Tab) (k wf : Nat) (m : MS) : Prop where
  s : SndS N Φ k wf m
  b : SndB N Φ k wf m
theorem sndM (m : MS) : SndM N Φ k wf m := by
  induction m with
  | nil => exact ⟨fun _ _ _ _ _ _ _ _ _ h => by simp [chkS] at h, b_nil⟩
  | seq s r hs hr => exact ⟨fun _ _ _ _ _ _ _ _ _ h => by simp [chkS] at h, b_seq hs.s hr.b⟩
  | asg i own e => exact ⟨s_asg' i own e, fun _ _ _ _ _ _ _ _ _ h => by simp [chkB] at h⟩
  | unp is e => exact ⟨s_unp' is e, fun _ _ _ _ _ _ _ _ _ h => by simp [chkB] at h⟩
  | par i j a b => exact ⟨s_par' i j a b, fun _ _ _ _ _ _ _ _ _ h => by simp [chkB] at h⟩
  | app i e => exact ⟨s_app' i e, fun _ _ _ _ _ _ _ _ _ h => by simp [chkB] at h⟩
  | seti i c e => exact ⟨s_seti' i c e, fun _ _ _ _ _ _ _ _ _ h => by simp [chkB] at h⟩
  | ret e => exact ⟨s_ret' e, fun _ _ _ _ _ _ _ _ _ h => by simp [chkB] at h⟩
  | ife c a b ha hb => exact ⟨s_ife' c ha.b hb.b, fun _ _ _ _ _ _ _ _ _ h => by simp [chkB] at h⟩
  | for_ one tg it body hb => exact ⟨s_for' one tg it hb.b, fun _ _ _ _ _ _ _ _ _ h => by simp [chkB] at h⟩
  | whil c body hb => exact ⟨s_whil' c hb.b, fun _ _ _ _ _ _ _ _ _ h => by simp [chkB] at h⟩
  | rais c => exact ⟨s_rais' c, fun _ _ _ _ _ _ _ _ _ h => by simp [chkB] at h⟩
end

/-! ### a def -/
section
variable {P : Program} {w : World} {K : PySem.W.Frag} {mg : Str → Option Value} {base : Heap} {k : Nat} {Φ : Tab}
theorem srel_start {G H : Hp} {vs : List V} {ds : List D} (N : List Str) (s : Same G H) (r : RpL G vs ds) (nn : Nat) (hn : nn = N.length) : SRel G H G H (L2.start N vs) (ds.map Sl.va ++ List.replicate (nn - ds.length) Sl.no) := by
  have hl := r.length
  have at_ : ∀ (i : Nat) (c : Sl), (ds.map Sl.va ++ List.replicate (nn - ds.length) Sl.no)[i]? = some c → c = .no ∨ ∃ d, ds[i]? = some d ∧ c = .va d := by
    intro i c e
    rw [List.getElem?_append] at e
    split at e
    · rw [List.getElem?_map, Option.map_eq_some_iff] at e
      obtain ⟨d, e1, e2⟩ := e
      exact .inr ⟨d, e1, e2.symm⟩
    · have := List.mem_of_getElem? e
      exact .inl (List.eq_of_mem_replicate this)
  refine ⟨Ext.refl s, by unfold L2.start; subst hn; simp [hl], fun i d e => ?_, fun i c e => ?_, fun i j c c' p e => ?_⟩
  · rcases at_ i _ e with q | ⟨d', q1, q2⟩
    · cases q
    · cases q2
      obtain ⟨v, h1, h2⟩ := r.get' q1
      refine ⟨v, ?_, h2⟩
      have hi : i < vs.length := (List.getElem?_eq_some_iff.mp h1).1
      unfold L2.start
      rw [List.getElem?_append_left (by simpa using hi), List.getElem?_map, h1]
      rfl
  · rcases at_ i _ e with q | ⟨d', q1, q2⟩
    · cases q
    · cases q2
  · rcases at_ i _ e with q | ⟨d', q1, q2⟩
    · cases q
    · cases q2
theorem def_ok {x qual : Str} {st : Stmt} {f : Addr} {fd : FuncData} {N ps : List Str} (hK : K = ScrK.K) (F : Fun K x qual st f fd) (S : FnScope N ps (defScope st)) (md : MD) (hnp : md.np = ps.length) (hnn : md.nn = N.length) (wf : Nat)
    (hc : chkB N Φ.ex md.body (defScope st) (defBody st) = true) (T : TabOk P w K mg base k Φ) : FnOk P w K mg base (L2.CX P w) (k + 1) f fd ps (spD mg (runD md Φ wf)) := by
  refine F.okX S (fun vs H Q E h => ?_) fun cdv A outer s H vs Q E hr h => ?_
  · obtain ⟨G, ds, sm, r, h⟩ := h
    by_cases hl : ds.length = md.np
    · rw [r.length, hl, hnp]
    · unfold runD at h
      rw [if_neg hl] at h
      exact absurd h (by intro z; exact z)
  · obtain ⟨G, ds, sm, r, h⟩ := h
    have hl : ds.length = md.np := by
      by_cases hl : ds.length = md.np
      · exact hl
      · unfold runD at h
        rw [if_neg hl] at h
        exact absurd h (by intro z; exact z)
    have g : Good (cxOf (L2.CX P w) P w K mg base N qual (defScope st) f cdv A outer s H E) N (defScope st) Φ k :=
      ⟨hK, rfl, S.nd, S.kind, rfl, hr, T, fun x e => e, fun x e => ⟨e, rfl⟩, fun x e => absurd rfl (S.nofree (x, .free) (PySem.mem_of_lookup e)), fun x e => e⟩
    have tk : Takes (cxOf (L2.CX P w) P w K mg base N qual (defScope st) f cdv A outer s H E) (WW E) := takes_of rfl rfl rfl rfl
    refine ⟨_, (sndM (wf := wf) md.body).b _ (defScope st) G H E _ g tk (passes_of rfl) hc, G, _, srel_start N sm r md.nn hnn, ?_⟩
    unfold runD at h
    rw [if_pos hl] at h
    rw [hl]
    cases hb : evB Φ wf md.body (ds.map Sl.va ++ List.replicate (md.nn - md.np) Sl.no) with
    | none => rw [hb] at h; exact h
    | some t =>
      rw [hb] at h
      cases t with
      | error c => exact h
      | ok fl =>
        cases fl with
        | nx ρ' => exact fun σ' G' H' sm' s' => h G' H' s'.ext _ .non
        | rt d => exact fun v G' H' e r => h G' H' e v r

/-! ### a program -/
/-- a def that is no tree of the small language: its function over the names it finds -/
abbrev XD := Tab → List D → M D
structure Prog where
  md : Str → Option MD
  xd : Str → Option XD
  co : Str → Option D
  ex : Str → Bool
def runP (p : Prog) (wf : Nat) : Nat → Str → Option (List D → M D)
  | 0, _ => none
  | n + 1, x => match p.md x with
    | some md => some (runD md ⟨runP p wf n, p.co, p.ex⟩ wf)
    | none => (p.xd x).map fun g => g ⟨runP p wf n, p.co, p.ex⟩
/-- what the top has written -/
structure ProgOk (P : Program) (w : World) (K : PySem.W.Frag) (mg : Str → Option Value) (base : Heap) (p : Prog) : Prop where
  hK : K = ScrK.K
  md : ∀ x m, p.md x = some m → ∃ (st : Stmt) (q : Str) (f : Addr) (fd : FuncData) (N ps : List Str), mg x = some (.ref f) ∧ Fun K x q st f fd ∧ Binds K fd ps [] ∧ FnScope N ps (defScope st) ∧ m.np = ps.length ∧ m.nn = N.length ∧ chkB N p.ex m.body (defScope st) (defBody st) = true
  xd : ∀ x g, p.md x = none → p.xd x = some g → ∃ (f : Addr) (fd : FuncData) (ps : List Str), mg x = some (.ref f) ∧ PySem.W.keepIn K (.ref f) = true ∧ Binds K fd ps [] ∧
    ∀ k Φ, Φ.co = p.co → Φ.ex = p.ex → TabOk P w K mg base k Φ → FnOk P w K mg base (L2.CX P w) (k + 1) f fd ps (spD mg (g Φ))
  co : ∀ x d, p.co x = some d → ∃ v u, mg x = some u ∧ RelV v u ∧ ∀ G, Rp G v d
  ex : ∀ x, p.ex x = true → ∃ C, mg x = some (.ref C) ∧ PySem.W.excIn K C VEs "ValueError.__new__" = true ∧ PySem.W.keepIn K (.ref C) = true ∧ PySem.W.subIn K (.ref C) (.type "BaseException") = some true ∧ PySem.W.typeIn K (.ref C) = some (.type "type")
  blt : ∀ x ∈ bnames, mg x = none
theorem prog_ok {p : Prog} (h : ProgOk P w K mg base p) (wf : Nat) : ∀ n, TabOk P w K mg base n ⟨runP p wf n, p.co, p.ex⟩
  | 0 => ⟨(fun x φ e => by cases e), h.co, h.ex, h.blt⟩
  | n + 1 => by
    have ih := prog_ok h wf n
    refine ⟨fun x φ e => ?_, h.co, h.ex, h.blt⟩
    have e : runP p wf (n + 1) x = some φ := e
    unfold runP at e
    cases hm : p.md x with
    | some m =>
      rw [hm] at e
      cases e
      obtain ⟨st, q, f, fd, N, ps, a1, a2, a3, a4, a5, a6, a7⟩ := h.md x m hm
      exact ⟨f, fd, ps, a1, a2.kp, a3, def_ok h.hK a2 a4 m a5 a6 wf a7 ih⟩
    | none =>
      rw [hm] at e
      simp only [Option.map_eq_some_iff] at e
      obtain ⟨g, e1, rfl⟩ := e
      obtain ⟨f, fd, ps, a1, a2, a3, a4⟩ := h.xd x g hm e1
      exact ⟨f, fd, ps, a1, a2, a3, a4 n _ rfl rfl ih⟩
end
end PV

set_option Elab.async false
set_option linter.all false
set_option maxRecDepth 100000
set_option maxHeartbeats 4000000
/-! PV: a def that gathers the keys of a dict in a loop. -/
namespace PV
open PySem PySem.Spec PyProof.Rows L2
variable [ScrK]
/-- slots: number, web, most, found, k -/
def endsK0 : ME := .bin .mod (.var 0) (.ix (.var 1) (.kint 0))
def endsIt : ME := .rng1 (.bin .mod (.bin .fdiv (.var 0) (.kint 7)) (.var 2))
def endsK1 : ME := .bin .mod (.bin .fdiv (.call "_law_drawn" (.cons (.var 0) (.cons (.var 4) .nil))) (.kint 4)) (.ix (.var 1) (.kint 0))
def endsL (Φ : Tab) : List D → Rho → List Int → M D
  | [], _, ks => ok (.tup ((sortI (nubI ks)).map .int))
  | d :: ds, ρ, ks => mb (evE Φ endsK1 (ρ.set 4 (.va d))) fun x => mb (intM x.1) fun k => endsL Φ ds (ρ.set 4 (.va d)) (k :: ks)
def endsX (Φ : Tab) (args : List D) : M D :=
  if args.length = 3 then
    mb (evE Φ endsK0 (args.map Sl.va ++ [.no, .no])) fun x => mb (intM x.1) fun k0 =>
    mb (evI Φ endsIt (args.map Sl.va ++ [.no, .no])) fun it => if it.1.length < 60 ∧ it.2 = .sh then endsL Φ it.1 (args.map Sl.va ++ [.no, .no]) [k0] else none
  else none
section
variable {G0 H0 G H : Hp} {σ : L2.St} {ρ : Rho}
theorem SRel.updD (s : SRel G0 H0 G H σ ρ) {p : Addr} {o : HO} (h0 : H0 p = none) (hg : G p = none) (hp : ∀ vs, H p ≠ some (.lst vs)) : SRel G0 H0 G (upd H p o) σ ρ := by
  refine ⟨⟨s.ext.gg, fun b o q => by rw [upd_ne (ne_of_none q h0)]; exact s.ext.hh b o q, same_upd2 s.ext.gh hg, s.ext.old⟩, s.len, s.va, fun j c h => ?_, s.inj⟩
  obtain ⟨q, us, a1, a2, a3, a4, a5⟩ := s.ow j c h
  have hne : q ≠ p := fun z => hp us (by rw [← z]; exact a4)
  exact ⟨q, us, a1, a2, a3, by rw [upd_ne hne]; exact a4, a5⟩
theorem SRel.setN (s : SRel G0 H0 G H σ ρ) {i : Nat} (h : ρ[i]? = some .no) (y : Option V) : SRel G0 H0 G H (σ.set i y) ρ := by
  have ne : ∀ (j : Nat) (c : Sl), ρ[j]? = some c → c ≠ .no → i ≠ j := fun j c e hc z => by
    subst z
    rw [h] at e
    cases e
    exact hc rfl
  refine ⟨s.ext, by simp [s.len], fun j d e => ?_, fun j ds e => ?_, fun j k ds es p h1 h2 h3 h4 => ?_⟩
  · rw [List.getElem?_set_ne (ne j _ e (fun z => nomatch z))]; exact s.va j d e
  · rw [List.getElem?_set_ne (ne j _ e (fun z => nomatch z))]; exact s.ow j ds e
  · rw [List.getElem?_set_ne (ne j _ h1 (fun z => nomatch z))] at h3
    rw [List.getElem?_set_ne (ne k _ h2 (fun z => nomatch z))] at h4
    exact s.inj j k ds es p h1 h2 h3 h4
/-- the dict at slot 3 holds these keys -/
structure EndsR (G0 H0 G H : Hp) (σ : L2.St) (ρ : Rho) (ks : List Int) : Prop where
  s : SRel G0 H0 G H σ ρ
  no : ρ[3]? = some .no
  len : 4 < ρ.length
  d : ∃ (p : Addr) (kvs : List (Key × V)) (kk : List Int), σ[3]? = some (some (.ref p)) ∧ H0 p = none ∧ G p = none ∧ H p = some (.dK kvs) ∧ kvs.map (·.1) = kk.map Sum.inl ∧ kk.Nodup ∧ (∀ z, z ∈ kk ↔ z ∈ ks) ∧ kk.length ≤ ks.length
theorem EndsR.mono {G1 H1 : Hp} {ks : List Int} (r : EndsR G0 H0 G H σ ρ ks) (x : Ext G H G1 H1) : EndsR G0 H0 G1 H1 σ ρ ks := by
  obtain ⟨s, a, l, p, kvs, kk, h1, h2, h3, h4, h5⟩ := r
  exact ⟨s.mono x, a, l, p, kvs, kk, h1, h2, x.g_none h4 h3, x.hh _ _ h4, h5⟩
theorem EndsR.set {v : V} {d : D} {ks : List Int} (r : EndsR G0 H0 G H σ ρ ks) (q : Rp G v d) : EndsR G0 H0 G H (σ.set 4 (some v)) (ρ.set 4 (.va d)) ks := by
  obtain ⟨s, a, l, p, kvs, kk, h1, h2⟩ := r
  refine ⟨s.set_va q, by rw [List.getElem?_set_ne (by decide)]; exact a, by simpa using l, p, kvs, kk, by rw [List.getElem?_set_ne (by decide)]; exact h1, h2⟩
theorem putK_keys {kvs : List (Key × V)} {kk : List Int} (e : kvs.map (·.1) = kk.map Sum.inl) (nd : kk.Nodup) (k : Int) (v : V) :
    ∃ kk' : List Int, (putK kvs (.inl k) v).map (·.1) = kk'.map Sum.inl ∧ kk'.Nodup ∧ (∀ z, z ∈ kk' ↔ z = k ∨ z ∈ kk) ∧ kk'.length ≤ kk.length + 1 := by
  have hm : (kvs.any fun kv => decide (kv.1 = (Sum.inl k : Key))) = true ↔ k ∈ kk := by
    rw [List.any_eq_true]
    constructor
    · rintro ⟨kv, h1, h2⟩
      have h2 := of_decide_eq_true h2
      have : kv.1 ∈ kvs.map (·.1) := List.mem_map_of_mem h1
      rw [e, h2] at this
      obtain ⟨z, z1, z2⟩ := List.mem_map.mp this
      cases z2
      exact z1
    · intro h
      have : (Sum.inl k : Key) ∈ kvs.map (·.1) := by rw [e]; exact List.mem_map_of_mem h
      obtain ⟨kv, z1, z2⟩ := List.mem_map.mp this
      exact ⟨kv, z1, decide_eq_true z2⟩
  unfold putK
  by_cases h : k ∈ kk
  · rw [if_pos (hm.mpr h)]
    refine ⟨kk, ?_, nd, fun z => ⟨.inr, fun q => q.elim (fun e => e ▸ h) id⟩, Nat.le_succ _⟩
    rw [List.map_map, ← e]
    apply List.map_congr_left
    intro kv _
    show (if kv.1 = (Sum.inl k : Key) then (kv.1, v) else kv).1 = kv.1
    split <;> rfl
  · rw [if_neg fun q => h (hm.mp q)]
    refine ⟨kk ++ [k], by simp [e], ?_, fun z => by simp [or_comm], by simp⟩
    rw [List.nodup_append]
    exact ⟨nd, by simp, fun a ha b hb => by simp at hb; subst hb; exact fun z => h (z ▸ ha)⟩
end
theorem PM.at_ {α β : Type} {Er : Str → Prop} {G H : Hp} {m : M α} {f : α → M β} {k : β → Hp → Hp → Prop} (h : PM Er G H (mb m f) k) (G' H' : Hp) : PM Er G' H' m (fun a _ _ => PM Er G H (f a) k) := by
  cases m with
  | none => exact h
  | some r =>
    cases r with
    | error c => exact h
    | ok a => exact fun _ _ _ => h
theorem PM.int {β : Type} {Er : Str → Prop} {G H : Hp} {d : D} {f : Int → M β} {k : β → Hp → Hp → Prop} (h : PM Er G H (mb (intM d) f) k) : ∃ i, d = .int i ∧ PM Er G H (f i) k := by
  cases d with
  | int i => exact ⟨i, rfl, h⟩
  | _ => exact absurd h (by intro z; exact z)
/-- what the text must look like -/
def endsC (N : List Str) (sc : Scope) (n3 : Str) (e0 it e1 : Expr) (t : Expr) : Bool :=
  slotB N 3 n3 && locB sc n3 && okN n3 && glB sc "tuple" && glB sc "sorted" && chkE N endsK0 sc e0 && nset it && chkI N endsIt sc it true && chkE N endsK1 sc e1 && tgB N sc true [4] t && nslice e1
theorem ends_ok {P : Program} {w : World} {K : PySem.W.Frag} {mg : Str → Option Value} {base : Heap} {k : Nat} {Φ : Tab} {x qual : Str} {st : Stmt} {f : Addr} {fd : FuncData} {N ps : List Str} (hK : K = ScrK.K) (F : Fun K x qual st f fd) (S : FnScope N ps (defScope st)) (hnp : ps.length = 3) (hnn : N.length = 5)
    {n3 : Str} {p1 p2 p3 p4 p6 p7 p8 p9 p10 p11 p12 p13 p14 p15 p16 : Pos} {k1 k2 : Nat} {e0 it e1 t : Expr}
    (hb : defBody st = [.Assign [.Name n3 p1] (.Dict [some e0] [.Constant (.bool true) k1 p2] p3) p4, .For t it [.Assign [.Subscript (.Name n3 p6) e1 p7] (.Constant (.bool true) k2 p8) p9] [] p10, .Return (some (.Call (.Name "tuple" p11) [.Call (.Name "sorted" p12) [.Name n3 p13] [] p14] [] p15)) p16])
    (hc : endsC N (defScope st) n3 e0 it e1 t = true) (T : TabOk P w K mg base k Φ) : FnOk P w K mg base (L2.CX P w) (k + 1) f fd ps (spD mg (endsX Φ)) := by
  unfold endsC at hc
  simp only [Bool.and_eq_true] at hc
  obtain ⟨⟨⟨⟨⟨⟨⟨⟨⟨⟨c1, c2⟩, c3⟩, c4⟩, c5⟩, c6⟩, c7⟩, c8⟩, c9⟩, c10⟩, c11⟩ := hc
  refine F.okX S (fun vs H Q E h => ?_) fun cdv A outer s H vs Q E hr h => ?_
  · obtain ⟨G, ds, sm, r, h⟩ := h
    by_cases hl : ds.length = 3
    · rw [r.length, hl, hnp]
    · unfold endsX at h
      rw [if_neg hl] at h
      exact absurd h (by intro z; exact z)
  · obtain ⟨G, ds, sm, r, h⟩ := h
    have hl : ds.length = 3 := by
      by_cases hl : ds.length = 3
      · exact hl
      · unfold endsX at h
        rw [if_neg hl] at h
        exact absurd h (by intro z; exact z)
    unfold endsX at h
    rw [if_pos hl] at h
    let X := cxOf (L2.CX P w) P w K mg base N qual (defScope st) f cdv A outer s H E
    have g : Good X N (defScope st) Φ k :=
      ⟨hK, rfl, S.nd, S.kind, rfl, hr, T, fun x e => e, fun x e => ⟨e, rfl⟩, fun x e => absurd rfl (S.nofree (x, .free) (PySem.mem_of_lookup e)), fun x e => e⟩
    have tk : Takes X (WW E) := takes_of rfl rfl rfl rfl
    have hp : PassesOwn (model X.prog X.w) X.A X.env X.xe := passes_of rfl
    have hu : X.A.units + 1 < cLine := hu_of hr
    rw [hb]
    have vis : Vis X.env.scope n3 := .inl (g.lo c2)
    have pv : ∀ p, PE X (.Name n3 p) (tVar 3) := fun p => pe_var (g.slot c1) vis (okN_1 c3) (okN_2 c3)
    have s1 : PS X (.Assign [.Name n3 p1] (.Dict [some e0] [.Constant (.bool true) k1 p2] p3) p4) _ :=
      ps_set g.ndX (g.slot c1) (.inl (g.lo c2)) (pe_disp (pps_cons ((sndAll endsK0).e X _ G H E e0 g tk c6) pe_bl pps_nil) (by rfl) (by rfl) (fun z => by cases z) (Nat.le_of_ble_eq_true rfl)) (by rfl) (.inr (g.lo c2))
    have s2 : PS X (.For t it [.Assign [.Subscript (.Name n3 p6) e1 p7] (.Constant (.bool true) k2 p8) p9] [] p10) _ :=
      ps_for hp g.calm ((sndAll endsIt).i X _ G H E it t true g tk (fun q => by cases q) c8) (pg_tg g c10)
        (pss_cons (ps_dput hu (pv p6) ((sndAll endsK1).e X _ G H E e1 g tk c9) pe_bl rfl) pss_nil) (nset_fold c7)
    have s3 : PS X (.Return (some (.Call (.Name "tuple" p11) [.Call (.Name "sorted" p12) [.Name n3 p13] [] p14] [] p15)) p16) _ :=
      ps_ret (pe_callTy call_tuple_of (g.gl c4) g.b (by decide +kernel) (pa_cons (pe_callB (call_sortedDI g.calm) (g.gl c5) g.b (by decide +kernel) (pa_cons (pv p13) pa_nil)) pa_nil))
    refine ⟨_, pss_cons s1 (pss_cons s2 (pss_cons s3 pss_nil)), ?_⟩
    have at3 : ∀ {ρ : Rho} {σ : L2.St} {G1 H1 : Hp}, SRel G H G1 H1 σ ρ → 4 < ρ.length → 4 < σ.length := fun s q => by rw [s.len]; exact q
    obtain ⟨ρ, hρ⟩ : ∃ ρ : Rho, ρ = ds.map Sl.va ++ [.no, .no] := ⟨_, rfl⟩
    have hs : SRel G H G H (L2.start N vs) ρ := by
      have q := srel_start N sm r 5 hnn.symm
      rw [hl] at q
      rw [hρ]
      exact q
    have hno : ρ[3]? = some .no := by
      rw [hρ, List.getElem?_append_right (by simp [hl])]
      simp [hl]
    have hlen : 4 < ρ.length := by rw [hρ]; simp [hl]
    rw [← hρ] at h
    clear hρ
    -- the display
    intro p hp0
    have hpH : H p = none := hp0
    have hpG : G p = none := sm.free hpH
    refine ⟨G, ρ, hs.mono (Ext.fresh sm hpH), ?_⟩
    refine (h.at_ G (upd H p (.dK []))).imp fun x0 G1 H1 x1 h v0 rv0 => ?_
    obtain ⟨d0, t0⟩ := x0
    replace h := PM.int h
    obtain ⟨k0, e0, h⟩ := h
    dsimp only at e0
    subst e0
    have e0 := rv0.int
    subst e0
    have hp1 : H1 p = some (.dK []) := x1.hh _ _ upd_same
    have hg1 : G1 p = none := x1.old p (by rw [upd_same]; exact fun z => nomatch z) ▸ hpG
    refine ⟨hp1, [(.inl k0, .bl true)], rfl, Nat.le_of_ble_eq_true rfl, ?_⟩
    have hs1 : SRel G H G1 (upd H1 p (.dK (mergeK [] [(.inl k0, .bl true)]))) (L2.start N vs) ρ := (hs.mono ((Ext.fresh sm hpH).trans x1)).updD hpH hg1 (fun vs z => by rw [hp1] at z; cases z)
    have er : EndsR G H G1 (upd H1 p (.dK (mergeK [] [(.inl k0, .bl true)]))) ((L2.start N vs).set 3 (some (.ref p))) ρ [k0] :=
      ⟨hs1.setN hno _, hno, hlen, p, _, [k0], List.getElem?_set_self (by have := at3 hs hlen; omega), hpH, hg1, upd_same, rfl, by simp, fun z => Iff.rfl, Nat.le_refl _⟩
    show tSeq _ _ _ ((L2.start N vs).set 3 (some (.ref p))) _
    generalize ((L2.start N vs).set 3 (some (.ref p))) = σ1 at er ⊢
    generalize (upd H1 p (.dK (mergeK [] [(.inl k0, .bl true)]))) = H2 at er ⊢
    clear hs1 hp1 hg1 rv0 x1 hs hno hlen hpH hpG hp0
    -- the loop
    refine ⟨G1, ρ, er.s, (h.at_ G1 H2).imp fun a G3 H3 x h J κ kk1 _ kk3 io => ?_⟩
    clear H1
    obtain ⟨ls, tg⟩ := a
    dsimp only at h io kk3
    by_cases h60 : ls.length < 60 ∧ tg = .sh
    rotate_left
    · rw [if_neg h60] at h; exact absurd h (by intro z; exact z)
    rw [if_pos h60] at h
    have triv : ∀ H, κ H := by
      rcases kk3 with ⟨i, e⟩ | kk3
      · have e : tg = .sl i := e
        rw [h60.2] at e
        cases e
      · exact kk3
    refine ⟨fun i m σ H' => m = ls.length - i ∧ i ≤ ls.length ∧ ∃ Gc ρ ks, EndsR G H Gc H' σ ρ ks ∧ ks.length ≤ i + 1 ∧ Same G3 Gc ∧ PM (Err mg G H E) G H (endsL Φ (ls.drop i) ρ ks) (fun d G' H' => ∀ v, Rp G' v d → Q v H'),
      ⟨ls.length, by simp, Nat.zero_le _, G3, ρ, [k0], er.mono x, Nat.le_refl _, Same.refl _, h⟩, ?_⟩
    rintro i m σ2 H4 ⟨rfl, hi, Gc, ρ2, ks, s2, hk, smc, q2⟩
    obtain ⟨go, stop⟩ := io i Gc H4 smc s2.s.gh (triv _)
    by_cases hlt : i < ls.length
    · obtain ⟨g1, g2⟩ := go _ (List.getElem?_eq_getElem hlt)
      rw [List.drop_eq_getElem_cons hlt] at q2
      refine .inr ⟨g1, fun σ' H' => ∃ Gc ρ ks, EndsR G H Gc H' σ' ρ ks ∧ ks.length ≤ i + 1 + 1 ∧ Same G3 Gc ∧ PM (Err mg G H E) G H (endsL Φ (ls.drop (i + 1)) ρ ks) (fun d G' H' => ∀ v, Rp G' v d → Q v H'),
        fun σ' H' z => ⟨ls.length - (i + 1), by omega, rfl, hlt, z⟩, fun v H5 y => ?_⟩
      obtain ⟨G5, x5, rv⟩ := g2 v H5 y
      have s5 := (s2.mono x5).set rv
      have eg : gT X.K true [4] = gName 4 := if_pos rfl
      rw [eg]
      show tSeq _ _ _ (σ2.set 4 (some v)) H5
      generalize hσ5 : σ2.set 4 (some v) = σ5 at s5 ⊢
      obtain ⟨p5, kvs5, kk5, a1, a2, a3, a4, a5⟩ := s5.d
      refine ⟨_, a1, G5, _, s5.s, ?_⟩
      simp only [endsL] at q2
      refine (q2.at_ G5 H5).imp fun x6 G6 H6 y6 q6 v6 rv6 => ?_
      obtain ⟨d6, t6⟩ := x6
      replace q6 := PM.int q6
      obtain ⟨k6, e6, q6⟩ := q6
      dsimp only at e6
      subst e6
      have e6 := rv6.int
      subst e6
      obtain ⟨s6, n6, l6, p6', kvs6, kk6, b1, b2, b3, b4, b5, b6, b7, b8⟩ := s5.mono y6
      rw [a1] at b1
      cases b1
      have hkl : kvs6.length = kk6.length := by
        have e := congrArg List.length b5
        simpa using e
      obtain ⟨kk7, c1, c2, c3, c4⟩ := putK_keys b5 b6 k6 (.bl true)
      refine ⟨_, _, rfl, DPut.k (k := .inl k6) b4 (by rw [hkl, sizeLine_eq]; omega), ?_⟩
      refine ⟨G6, _, k6 :: ks, ⟨s6.updD b2 b3 (fun vs z => by rw [b4] at z; cases z), n6, l6, _, _, kk7, a1, b2, b3, upd_same, c1, c2, fun z => ?_, ?_⟩, ?_, smc.trans (x5.gg.trans y6.gg), q6⟩
      · rw [c3, List.mem_cons, b7]
      · rw [List.length_cons]; omega
      · rw [List.length_cons]; omega
    · have e : i = ls.length := by omega
      subst e
      rw [List.drop_length] at q2
      refine .inl ⟨stop rfl, ?_⟩
      -- the end
      obtain ⟨s6, n6, l6, p6', kvs6, kk6, b1, b2, b3, b4, b5, b6, b7, b8⟩ := s2
      refine ⟨_, b1, p6', kvs6, kk6, rfl, Rd.of b4, b5, by omega, fun ys q hy1 hy2 hq => ?_⟩
      refine ⟨q, _, rfl, .inl ⟨SqL.of upd_same, fun l hl => ?_⟩⟩
      have ey : ys = sortI (nubI ks) := sortI_eq (hy1.trans (perm_of_mem b6 (nubI_nodup ks) fun z => (b7 z).trans (nubI_mem z ks).symm)) hy2
      subst ey
      have x7 := Ext.fresh (o := HO.lst ((sortI (nubI ks)).map V.int)) s6.gh hq
      have q2 : PM (Err mg G H E) G H (ok _) _ := q2
      have x8 := Ext.shared (o := HO.tup ((sortI (nubI ks)).map V.int)) x7.gh hl
      refine q2 _ _ (s6.ext.trans (x7.trans x8)) _ (.tup upd_same (RpL.of_ints _))
end PV

set_option Elab.async false
set_option linter.all false
set_option maxRecDepth 100000
set_option maxHeartbeats 4000000
/-! PV: what the top has written, def by def; the law's own def. -/
namespace PV
open PySem PySem.Spec PyProof.Rows L2
def lkp {α : Type} : List (Str × α) → Str → Option α
  | [], _ => none
  | (y, a) :: r, x => if x = y then some a else lkp r x
inductive AllL {α : Type} (P : Str → α → Prop) : List (Str × α) → Prop
  | nil : AllL P []
  | cons {x : Str} {a : α} {r : List (Str × α)} : P x a → AllL P r → AllL P ((x, a) :: r)
theorem AllL.at_ {α : Type} {P : Str → α → Prop} : ∀ {l : List (Str × α)}, AllL P l → ∀ {x : Str} {a : α}, lkp l x = some a → P x a
  | _, .nil, _, _, e => by cases e
  | (y, b) :: r, .cons h t, x, a, e => by
    unfold lkp at e
    by_cases q : x = y
    · rw [if_pos q] at e; cases e; rw [q]; exact h
    · rw [if_neg q] at e; exact AllL.at_ t e
section
variable [ScrK]
/-- a def of the small language, as the top has written it -/
def DefOk (K : PySem.W.Frag) (mg : Str → Option Value) (ex : Str → Bool) (x : Str) (m : MD) : Prop :=
  ∃ (st : Stmt) (q : Str) (f : Addr) (fd : FuncData) (N ps : List Str), mg x = some (.ref f) ∧ Fun K x q st f fd ∧ Binds K fd ps [] ∧ FnScope N ps (defScope st) ∧ m.np = ps.length ∧ m.nn = N.length ∧ chkB N ex m.body (defScope st) (defBody st) = true
/-- the text of a def: its tree stands for it -/
structure DefTx (ex : Str → Bool) (st : Stmt) (N ps : List Str) (m : MD) : Prop where
  sc : FnScope N ps (defScope st)
  np : m.np = ps.length
  nn : m.nn = N.length
  ck : chkB N ex m.body (defScope st) (defBody st) = true
/-- how its arguments bind -/
def BindsQ (x : Str) (st : Stmt) (ps : List Str) : Prop := ∀ (kV doc pm : Value) (an : Option Addr) (cdv ct : Value) (us : List Value), us.length = ps.length → bindArgs (PySem.W.fnOf x x (defArgs st) (defBody st) (defScope st) .none kV doc pm an cdv ct) ⟨us, []⟩ = pure (ps.zip us)
variable {K : PySem.W.Frag} {mg : Str → Option Value} {ex : Str → Bool} {x : Str} {m : MD} {st : Stmt} {N ps : List Str} {h : Heap}
/-- the facts of a def of the top -/
structure TopF (K : PySem.W.Frag) (x : Str) (st : Stmt) (f : Addr) (fd : FuncData) : Prop where
  g : PySem.W.nsIn K mainGlobals x = some (some (.ref f))
  f : Fun K x x st f fd
theorem topF_mk {f : Addr} {oc : Value} {od an : Option Addr} {osl : Array (Option Value)} {kV doc pm cdv ct : Value} (a : PySem.W.nsIn K mainGlobals x = some (some (.ref f))) (l : K.lookup f = some ⟨oc, od, .func (PySem.W.fnOf x x (defArgs st) (defBody st) (defScope st) .none kV doc pm an cdv ct), osl⟩)
    (c : PySem.W.codeIn K cdv x = true) (k : PySem.W.keepIn K (.ref f) = true) : TopF K x st f (PySem.W.fnOf x x (defArgs st) (defBody st) (defScope st) .none kV doc pm an cdv ct) := ⟨a, fun_mk l c k⟩
theorem defOk_mk {f : Addr} {fd : FuncData} (X : K.In h) (G : h.Ns mainGlobals mg) (t : DefTx ex st N ps m) (b : BindsQ x st ps) (F : TopF K x st f fd) : DefOk K mg ex x m :=
  ⟨st, x, f, fd, N, ps, PySem.W.mg_of X G F.g, F.f, F.f.binds b, t.sc, t.np, t.nn, t.ck⟩
/-- one of the values of the top -/
def CoOk (mg : Str → Option Value) (x : Str) (d : D) : Prop := ∃ v u, mg x = some u ∧ RelV v u ∧ ∀ G, Rp G v d
theorem coInt {i : Int} {t : Tok} (X : K.In h) (G : h.Ns mainGlobals mg) (a : PySem.W.nsIn K mainGlobals x = some (some (.int i t))) : CoOk mg x (.int i) := ⟨.int i, _, PySem.W.mg_of X G a, ⟨t, rfl⟩, fun _ => .int i⟩
def ExOk (K : PySem.W.Frag) (mg : Str → Option Value) (x : Str) : Prop := ∃ C, mg x = some (.ref C) ∧ PySem.W.excIn K C VEs "ValueError.__new__" = true ∧ PySem.W.keepIn K (.ref C) = true ∧ PySem.W.subIn K (.ref C) (.type "BaseException") = some true ∧ PySem.W.typeIn K (.ref C) = some (.type "type")
theorem exOk_mk {C : Addr} (X : K.In h) (G : h.Ns mainGlobals mg) (a : PySem.W.nsIn K mainGlobals x = some (some (.ref C))) (b : PySem.W.excIn K C VEs "ValueError.__new__" = true) (c : PySem.W.keepIn K (.ref C) = true) (d : PySem.W.subIn K (.ref C) (.type "BaseException") = some true) (e : PySem.W.typeIn K (.ref C) = some (.type "type")) : ExOk K mg x :=
  ⟨C, PySem.W.mg_of X G a, b, c, d, e⟩
/-- the names of the built-ins are the built-ins still -/
def BltF (K : PySem.W.Frag) : Prop := ∀ y ∈ bnames, PySem.W.nsIn K mainGlobals y = some none
end
/-- the law's promise -/
def spLaw (K : PySem.W.Frag) : Sp := fun vs H Q _ => ∃ (a : Addr) (ns : List Int), vs = [.ref a] ∧ SqL K H a (ns.map V.int) ∧ ns.length ≤ 63 ∧ ∀ H', Q (.bl true) H'
theorem law_end {P : Program} {w : World} {K : PySem.W.Frag} {mg : Str → Option Value} {base : Heap} {p : Prog} {wf n : Nat} {st : Stmt} {f : Addr} {fd : FuncData} {N ps : List Str} {m : MD} {x : Str}
    (O : @ProgOk ⟨K⟩ P w K mg base p) (F : Fun K x x st f fd) (t : DefTx p.ex st N ps m) (e : p.md x = some m)
    (hl : ∀ ns : List Int, ns.length ≤ 63 → (runP p wf (n + 1) x).map (fun φ => φ [.scr ns]) = some (ok (.bl true))) : FnOk P w K mg base (L2.CX P w) (n + 1) f fd ps (spLaw K) := by
  let _ : ScrK := ⟨K⟩
  have T := prog_ok O wf n
  have D := def_ok (wf := wf) rfl F t.sc m t.np t.nn t.ck T
  refine D.imp fun vs H Q E h => ?_
  obtain ⟨a, ns, rfl, hs, h63, q⟩ := h
  refine ⟨H, [.scr ns], Same.refl _, .cons (.scr hs) .nil, ?_⟩
  have hr := hl ns h63
  unfold runP at hr
  rw [e] at hr
  have hr : runD m ⟨runP p wf n, p.co, p.ex⟩ wf [.scr ns] = ok (.bl true) := Option.some.inj hr
  rw [hr]
  intro G' H' x v r
  cases r
  exact q H'
theorem cx_false {P : Program} {w : World} {o : List Env} {H : Hp} {s s' : Shared} {u : Value} (h : L2.CX P w o H s (fun _ _ _ => False) u s') : False := by
  obtain ⟨_, _, _, _, _, _, _, _, _, _, _, _, h⟩ := h
  exact h
end PV

set_option Elab.async false
set_option linter.all false
set_option maxRecDepth 100000
set_option maxHeartbeats 4000000
/-! PV: a def that tries a call and tells of its refusal. -/
namespace PV
open PySem PySem.Spec PyProof.Rows L2
variable [ScrK]
/-- what the top says of an error: raised as rn, caught as cn, an an, no bn -/
def CatchF (K : PySem.W.Frag) (mg : Str → Option Value) (rn cn an bn : Str) : Prop :=
  ∃ R C A B : Addr, mg rn = some (.ref R) ∧ mg cn = some (.ref C) ∧ mg an = some (.ref A) ∧ mg bn = some (.ref B) ∧ PySem.W.exmOne K (.ref R) (.ref C) = some true ∧ ExcC K R ∧
    PySem.W.kitOne K (.ref R) (.ref A) = some true ∧ PySem.W.kitOne K (.ref R) (.type "ValueError") = some true ∧ PySem.W.kitOne K (.ref R) (.ref B) = some false
theorem kit_of {K : PySem.W.Frag} {R A : Addr} {b : Bool} (h : ¬ R = A) (h1 : PySem.W.isClsIn K A = true) (h2 : PySem.W.typeIn K (.ref A) = some (.type "type")) (h3 : PySem.W.subIn K (.ref R) (.ref A) = some b) : PySem.W.kitOne K (.ref R) (.ref A) = some b := by
  have e : (Value.ref R == Value.ref A) = false := Bool.eq_false_iff.mpr fun z => h (Value.ref.inj (eq_of_beq z))
  have e1 : (PySem.W.clsIn K A).isSome = true := h1
  unfold PySem.W.kitOne
  rw [e]
  show (if ((PySem.W.clsIn K A).isSome && PySem.W.typeIn K (.ref A) == some (.type "type")) = true then PySem.W.subIn K (.ref R) (.ref A) else none) = some b
  rw [e1, h2, if_pos (by rfl)]
  exact h3
theorem kit_self {K : PySem.W.Frag} {R : Addr} : PySem.W.kitOne K (.ref R) (.ref R) = some true := if_pos (by simp)
theorem kit_base {K : PySem.W.Frag} {R : Addr} (h : PySem.W.subIn K (.ref R) (.type "ValueError") = some true) : PySem.W.kitOne K (.ref R) (.type "ValueError") = some true := by
  unfold PySem.W.kitOne
  rw [if_neg (by intro z; cases (eq_of_beq z))]
  show (if PySem.W.kitMeta "ValueError" = true then PySem.W.subIn K (.ref R) (.type "ValueError") else none) = some true
  rw [if_pos (by decide +kernel)]
  exact h
section
variable {X : Cx} {N : List Str} {sc : Scope} {Φ : Tab} {k : Nat} {i : Nat} {n an bn : Str} {a R A B : Addr} {oe : Obj} {cls : Value} {d : Option Addr} {pn : List (Addr × Obj)}
  {p1 p2 p3 p4 p5 p6 p7 p8 p9 p10 p11 p12 p13 p14 p15 : Pos}
/-- isinstance(e, c) in the suite -/
theorem pe_isE (C : ExcC X.K R) (hz : Zc (.ref R) none oe) (hf : ∃ vs, oe.data = .fields vs) (hi : X.N[i]? = some n) (hv : Vis X.env.scope n) (h1 : (n == ("__debug__" : Str)) = false) (h2 : (n == ("__classdict__" : Str)) = false) (hg : Gl X "isinstance") (hm : X.mg "isinstance" = none)
    {c : Expr} {v : V} {cv : Value} {b : Bool} (hc : PE (X.suite a ((a, oe) :: pn)) c (tC v)) (hs : nst c = true) (hcv : ∀ u, RelV v u → u = cv) (hk : PySem.W.kitOne X.K (.ref R) cv = some b) :
    PE (X.suite a ((a, oe) :: pn)) (.Call (.Name "isinstance" p1) [.Name n p2, c] [] p3) (fun σ H Q => σ[i]? = some (some (.ref a)) ∧ Q (.bl b) H) := by
  have hn : PE (X.suite a ((a, oe) :: pn)) (.Name n p2) (tVar i) := pe_var hi hv h1 h2
  refine PE.imp (pe_callB (call_isE C hz hf) hg hm (by decide +kernel) (pa_cons hn (one_arg hs hc)) (by decide) (by decide) (starEach_nst rfl) (starEach_all (by simp [hs]))) fun σ H Q h => ?_
  obtain ⟨h3, h4⟩ := h
  exact ⟨_, h3, v, cv, b, rfl, hcv, hk, h4⟩
/-- the suite: return isinstance(e, A) and isinstance(e, ValueError) and not isinstance(e, B) -/
theorem suite_ok (C : ExcC X.K R) (hf : ∃ vs, oe.data = .fields vs) (hz : Zc cls d oe) (hi : X.N[i]? = some n) (hv : Vis X.env.scope n) (h1 : (n == ("__debug__" : Str)) = false) (h2 : (n == ("__classdict__" : Str)) = false) (hg : Gl X "isinstance") (hm : X.mg "isinstance" = none)
    (gA : Gl X an) (mA : X.mg an = some (.ref A)) (dA : (an == ("__debug__" : Str)) = false) (kA : PySem.W.kitOne X.K (.ref R) (.ref A) = some true)
    (gV : Gl X "ValueError") (mV : X.mg "ValueError" = none) (kV : PySem.W.kitOne X.K (.ref R) (.type "ValueError") = some true)
    (gB : Gl X bn) (mB : X.mg bn = some (.ref B)) (dB : (bn == ("__debug__" : Str)) = false) (kB : PySem.W.kitOne X.K (.ref R) (.ref B) = some false) :
    PE (X.suite a ((a, oe) :: pn)) (.BoolOp .And [.Call (.Name "isinstance" p1) [.Name n p2, .Name an p3] [] p4, .Call (.Name "isinstance" p5) [.Name n p6, .Name "ValueError" p7] [] p8, .UnaryOp .Not (.Call (.Name "isinstance" p9) [.Name n p10, .Name bn p11] [] p12) p13] p14)
      (fun σ H Q => cls = .ref R ∧ d = none ∧ σ[i]? = some (some (.ref a)) ∧ Q (.bl true) H) := by
  refine ⟨fun pins s σ H Q I h => ?_⟩
  obtain ⟨rfl, rfl, h3, h4⟩ := h
  have refl1 : ∀ {x : Addr} {u : Value}, RelV (.ref x) u → u = .ref x := fun {x u} h => h
  have e1 := pe_isE (p1 := p1) (p2 := p2) (p3 := p4) (pn := pn) (a := a) C hz hf hi hv h1 h2 hg hm (c := .Name an p3) (v := .ref A) (pe_glob gA mA rfl dA) rfl (fun u => refl1) kA
  have e2 := pe_isE (p1 := p5) (p2 := p6) (p3 := p8) (pn := pn) (a := a) C hz hf hi hv h1 h2 hg hm (c := .Name "ValueError" p7) (v := .ty "ValueError") (pe_bltn gV mV (by decide +kernel) rfl) rfl (fun u h => h) kV
  have e3 := pe_isE (p1 := p9) (p2 := p10) (p3 := p12) (pn := pn) (a := a) C hz hf hi hv h1 h2 hg hm (c := .Name bn p11) (v := .ref B) (pe_glob gB mB rfl dB) rfl (fun u => refl1) kB
  exact (pe_and e1 (pe_and e2 (pe_one (pe_not (pos := p13) e3)))).run pins s σ H Q I (by
    refine ⟨h3, true, rfl, ?_⟩
    rw [if_pos rfl]
    refine ⟨h3, true, rfl, ?_⟩
    rw [if_pos rfl]
    exact ⟨h3, false, rfl, h4⟩)
theorem Good.tr (g : Good X N sc Φ k) (pn : List (Addr × Obj)) (xe : Value → Shared → Prop) : Good (X.tr pn xe) N sc Φ k :=
  ⟨g.hK, g.hN, g.nd, g.kind, g.calm, g.room, g.tab, g.loc, g.cel, g.fre, g.glo⟩
end
/-- a def that calls f and tells whether it refuses, by an error rn -/
def refuseX (f rn : Str) (argsT : ME) (np : Nat) (Φ : Tab) (args : List D) : M D :=
  if args.length = np then
    match nerr (evA Φ argsT (args.map Sl.va ++ [.no])) with
    | some ds => match Φ.fn f with
      | some φ => match φ ds with
        | some (.ok _) => ok (.bl false)
        | some (.error c) => if c = rn then ok (.bl true) else none
        | none => none
      | none => none
    | none => none
  else none
/-- what the text must look like -/
def refuseC (N : List Str) (sc : Scope) (i : Nat) (n f cn an bn : Str) (argsT : ME) (es : List Expr) : Bool :=
  slotB N i n && locB sc n && okN n && glB sc f && okN f && glB sc "isinstance" && glB sc cn && okN cn && glB sc an && okN an && glB sc bn && okN bn && glB sc "ValueError" && es.all nst && chkA N argsT sc es
theorem refuse_ok {P : Program} {w : World} {K : PySem.W.Frag} {mg : Str → Option Value} {base : Heap} {k : Nat} {Φ : Tab} {x qual : Str} {st : Stmt} {f0 : Addr} {fd : FuncData} {N ps : List Str} (hK : K = ScrK.K) (F : Fun K x qual st f0 fd) (S : FnScope N ps (defScope st)) {np : Nat} (hnp : ps.length = np) (hnn : N.length = np + 1)
    {n f cn an bn : Str} {argsT : ME} {e : Expr} {es : List Expr} {j : Nat} {q1 q2 q3 q4 q5 q6 q7 q8 q9 p1 p2 p3 p4 p5 p6 p7 p8 p9 p10 p11 p12 p13 p14 : Pos}
    (hb : defBody st = [.Try [.Expr (.Call (.Name f q1) (e :: es) [] q2) q3] [.ExceptHandler (some (.Name cn q4)) (some n) [.Return (some (.BoolOp .And [.Call (.Name "isinstance" p1) [.Name n p2, .Name an p3] [] p4, .Call (.Name "isinstance" p5) [.Name n p6, .Name "ValueError" p7] [] p8, .UnaryOp .Not (.Call (.Name "isinstance" p9) [.Name n p10, .Name bn p11] [] p12) p13] p14)) q5] q6] [] [] q7, .Return (some (.Constant (.bool false) j q8)) q9])
    {rn : Str} (hc : refuseC N (defScope st) np n f cn an bn argsT (e :: es) = true) (cf : CatchF K mg rn cn an bn) (mV : mg "ValueError" = none) (T : TabOk P w K mg base k Φ) : FnOk P w K mg base (L2.CX P w) (k + 1) f0 fd ps (spD mg (refuseX f rn argsT np Φ)) := by
  unfold refuseC at hc
  simp only [Bool.and_eq_true] at hc
  obtain ⟨⟨⟨⟨⟨⟨⟨⟨⟨⟨⟨⟨⟨⟨c1, c2⟩, c3⟩, c4⟩, c5⟩, c6⟩, c7⟩, c8⟩, c9⟩, c10⟩, c11⟩, c12⟩, c13⟩, c14⟩, c15⟩ := hc
  obtain ⟨R, C, A, B, mR, mC, mA, mB, kx, xC, kA, kV, kB⟩ := cf
  refine F.okX S (fun vs H Q E h => ?_) fun cdv A0 outer s H vs Q E hr h => ?_
  · obtain ⟨G, ds, sm, r, h⟩ := h
    by_cases hl : ds.length = np
    · rw [r.length, hl, hnp]
    · unfold refuseX at h
      rw [if_neg hl] at h
      exact absurd h (by intro z; exact z)
  · obtain ⟨G, ds, sm, r, h⟩ := h
    have hl : ds.length = np := by
      by_cases hl : ds.length = np
      · exact hl
      · unfold refuseX at h
        rw [if_neg hl] at h
        exact absurd h (by intro z; exact z)
    unfold refuseX at h
    rw [if_pos hl] at h
    let X := cxOf (L2.CX P w) P w K mg base N qual (defScope st) f0 cdv A0 outer s H E
    have g : Good X N (defScope st) Φ k :=
      ⟨hK, rfl, S.nd, S.kind, rfl, hr, T, fun x e => e, fun x e => ⟨e, rfl⟩, fun x e => absurd rfl (S.nofree (x, .free) (PySem.mem_of_lookup e)), fun x e => e⟩
    rw [hb]
    obtain ⟨ρ, hρ⟩ : ∃ ρ : Rho, ρ = ds.map Sl.va ++ [.no] := ⟨_, rfl⟩
    rw [← hρ] at h
    have hs : SRel G H G H (L2.start N vs) ρ := by
      have q := srel_start N sm r (np + 1) hnn.symm
      rw [hl, Nat.add_sub_cancel_left] at q
      rw [hρ]
      exact q
    have hno : ρ[np]? = some .no := by
      rw [hρ, List.getElem?_append_right (by simp [hl])]
      simp [hl]
    have hlen : np < (L2.start N vs).length := by
      rw [hs.len, hρ]
      simp [hl]
    clear hρ
    cases hA : evA Φ argsT ρ with
    | none => rw [hA] at h; exact absurd h (by intro z; exact z)
    | some t =>
    cases t with
    | error c => rw [hA] at h; exact absurd h (by intro z; exact z)
    | ok as =>
    rw [hA] at h
    replace h : PM (Err mg G H E) G H (match Φ.fn f with
      | some φ => match φ as with
        | some (.ok _) => ok (.bl false)
        | some (.error c) => if c = rn then ok (.bl true) else none
        | none => none
      | none => none) fun d G' H' => ∀ v, Rp G' v d → Q v H' := h
    cases hφ : Φ.fn f with
    | none => rw [hφ] at h; exact absurd h (by intro z; exact z)
    | some φ =>
    rw [hφ] at h
    dsimp only at h
    obtain ⟨fa, fda, psa, a1, a2, a3, a4⟩ := T.fn f φ hφ
    have hns : nst e = true ∧ es.all nst = true := by simpa using c14
    have loc := g.lo c2
    have hv : Vis X.env.scope n := .inl loc
    have sR : PSs X [.Return (some (.Constant (.bool false) j q8)) q9] _ := pss_one (ps_ret (pe_bl (b := false)))
    have sT := ps_try_as (X := X) (i := np) (n := n) (x := cn) (c := .ref C) (np := q4) (pos := q7) (pos' := q6) (Wout := fun _ _ _ _ => False)
      (body := [.Expr (.Call (.Name f q1) (e :: es) [] q2) q3])
      (tb := fun W => tDrop (tCallS (spD X.mg φ) (WE W) (TAv G H (Err X.mg G H fun _ _ _ => False) (evA Φ argsT))))
      (ts := fun a cls d D σ H => cls = .ref R ∧ d = none ∧ σ[np]? = some (some (.ref a)) ∧ D.rt (.bl true) H)
      (b₀ := .Return (some (.BoolOp .And [.Call (.Name "isinstance" p1) [.Name n p2, .Name an p3] [] p4, .Call (.Name "isinstance" p5) [.Name n p6, .Name "ValueError" p7] [] p8, .UnaryOp .Not (.Call (.Name "isinstance" p9) [.Name n p10, .Name bn p11] [] p12) p13] p14)) q5) (suite := [])
      rfl rfl g.ndX (g.slot c1) loc ⟨g.gl c7, okN_1 c8, .inl mC⟩ takes0
      (fun W pn xe tk ps => pss_one (ps_expr (pe_callS a4 g.room (g.gl c4) a1 a2 a3 (fun σ => passAt tk σ) ((sndAll argsT).a (X.tr pn xe) (defScope st) G H (fun _ _ _ => False) (e :: es) (g.tr pn xe) takes0 c15) (okN_1 c5) (starEach_nst hns.1) (starEach_all hns.2))))
      (fun a oe cls d pn hz hf => pss_one ⟨fun pins s σ H D I h => (ps_ret (suite_ok (cls := cls) (d := d) xC hf hz (g.slot c1) hv (okN_1 c3) (okN_2 c3) (g.gl c6) g.b (g.gl c9) mA (okN_1 c10) kA (g.gl c13) mV kV (g.gl c11) mB (okN_1 c12) kB)).run pins s σ H D I h⟩)
    refine ⟨_, pss_cons sT sR, ?_⟩
    refine ⟨G, ρ, hs, ?_⟩
    rw [hA]
    intro G1 H1 x1 vs1 r1
    refine ⟨G1, as, x1.gh, r1, ?_⟩
    cases hd : φ as with
    | none => rw [hd] at h; exact absurd h (by intro z; exact z)
    | some t =>
      rw [hd] at h
      cases t with
      | ok d0 =>
        intro G2 H2 x2 v2 r2
        exact h G2 H2 (x1.trans x2) (.bl false) (.bl _)
      | error c =>
        dsimp only at h
        by_cases hcr : c = rn
        · rw [if_pos hcr] at h
          subst hcr
          intro G2 H2 x2 cls hcls
          obtain ⟨R', e1, e2⟩ := hcls
          rw [show X.mg c = mg c from rfl, mR] at e1
          cases e1
          subst e2
          refine ⟨true, kx, fun _ a ha => ⟨rfl, rfl, List.getElem?_set_self hlen, ?_⟩, fun z => nomatch z⟩
          exact h G2 H2 (x1.trans x2) (.bl true) (.bl _)
        · rw [if_neg hcr] at h
          exact absurd h (by intro z; exact z)
end PV

set_option Elab.async false
set_option linter.all false
set_option maxRecDepth 100000
set_option maxHeartbeats 4000000
/-! PV: how the evaluator is reasoned about. -/
namespace PV
open PySem
theorem forL_inv {bind : D → Rho → Option Rho} {body : Rho → M Fl} {R : D → Prop} : ∀ {ds : List D} {I : Nat → Rho → Prop} {ρ : Rho}, I 0 ρ →
    (∀ i d ρ, ds[i]? = some d → I i ρ → ∃ ρ1, bind d ρ = some ρ1 ∧ ((∃ ρ2, body ρ1 = ok (.nx ρ2) ∧ I (i + 1) ρ2) ∨ ∃ r, body ρ1 = ok (.rt r) ∧ R r)) →
    (∃ ρ', forL bind body ds ρ = ok (.nx ρ') ∧ I ds.length ρ') ∨ ∃ r, forL bind body ds ρ = ok (.rt r) ∧ R r
  | [], I, ρ, h0, _ => .inl ⟨ρ, rfl, h0⟩
  | d :: ds, I, ρ, h0, hs => by
    obtain ⟨ρ1, e1, h1⟩ := hs 0 d ρ rfl h0
    rcases h1 with ⟨ρ2, e2, h2⟩ | ⟨r, e2, h2⟩
    · have ih := forL_inv (bind := bind) (body := body) (R := R) (ds := ds) (I := fun i => I (i + 1)) h2 fun i d ρ e h => hs (i + 1) d ρ e h
      have q : forL bind body (d :: ds) ρ = forL bind body ds ρ2 := by simp only [forL, e1, e2, mb_ok]
      rw [q]
      exact ih
    · refine .inr ⟨r, ?_, h2⟩
      simp only [forL, e1, e2, mb_ok]
theorem forL_go {bind : D → Rho → Option Rho} {body : Rho → M Fl} {ds : List D} {ρ : Rho} (I : Nat → Rho → Prop) (h0 : I 0 ρ)
    (hs : ∀ i d ρ, ds[i]? = some d → I i ρ → ∃ ρ1 ρ2, bind d ρ = some ρ1 ∧ body ρ1 = ok (.nx ρ2) ∧ I (i + 1) ρ2) : ∃ ρ', forL bind body ds ρ = ok (.nx ρ') ∧ I ds.length ρ' := by
  rcases forL_inv (R := fun _ => False) h0 (fun i d ρ e h => by
    obtain ⟨ρ1, ρ2, e1, e2, h2⟩ := hs i d ρ e h
    exact ⟨ρ1, e1, .inl ⟨ρ2, e2, h2⟩⟩) with h | ⟨_, _, h⟩
  · exact h
  · exact h.elim
theorem compL_filt {α : Type} {f : D → Option (Option D)} {e g : α → D} {p : α → Bool} : ∀ {xs : List α}, (∀ x ∈ xs, f (e x) = some (if p x then some (g x) else none)) → compL f (xs.map e) = some ((xs.filter p).map g)
  | [], _ => rfl
  | x :: xs, h => by
    have ih := compL_filt (f := f) (e := e) (g := g) (p := p) (xs := xs) fun y hy => h y (List.mem_cons_of_mem _ hy)
    have h0 := h x List.mem_cons_self
    simp only [List.map_cons, compL, h0, Option.bind_some, ih, Option.map_some, List.filter_cons]
    cases p x <;> rfl
theorem compL_map {α : Type} {f : D → Option (Option D)} {e g : α → D} : ∀ {xs : List α}, (∀ x ∈ xs, f (e x) = some (some (g x))) → compL f (xs.map e) = some (xs.map g)
  | [], _ => rfl
  | x :: xs, h => by
    have ih := compL_map (f := f) (e := e) (g := g) (xs := xs) fun y hy => h y (List.mem_cons_of_mem _ hy)
    have h0 := h x List.mem_cons_self
    simp only [List.map_cons, compL, h0, Option.bind_some, ih, Option.map_some]
theorem op_some {α : Type} (a : α) : op (some a) = ok a := rfl
theorem nerr_ok {α : Type} (a : α) : nerr (ok a) = some a := rfl
theorem keep_sh (d : D) : keep (d, .sh) = ok d := rfl
theorem keep_fr (d : D) : keep (d, .fr) = ok d := rfl
theorem blM_bl (b : Bool) : blM (.bl b) = ok b := rfl
theorem intM_int (b : Int) : intM (.int b) = ok b := rfl

/-! ### tables -/
def tab (p : Prog) (wf n : Nat) : Tab := ⟨runP p wf n, p.co, p.ex⟩
/-- what stands at a name -/
def Fn (Φ : Tab) (f : Str) (S : (List D → M D) → Prop) : Prop := ∃ φ, Φ.fn f = some φ ∧ S φ
def At (p : Prog) (wf k : Nat) (f : Str) (S : (List D → M D) → Prop) : Prop := ∀ n, k ≤ n → Fn (tab p wf n) f S
theorem At.mono {p : Prog} {wf k j : Nat} {f : Str} {S : (List D → M D) → Prop} (h : At p wf k f S) (l : k ≤ j) : At p wf j f S := fun n hn => h n (Nat.le_trans l hn)
theorem at_md {p : Prog} {wf k : Nat} {f : Str} {S : (List D → M D) → Prop} {md : MD} (e : p.md f = some md) (h : ∀ n, k ≤ n → S (runD md (tab p wf n) wf)) : At p wf (k + 1) f S := by
  intro n hn
  cases n with
  | zero => omega
  | succ n =>
    refine ⟨_, ?_, h n (by omega)⟩
    show runP p wf (n + 1) f = _
    unfold runP
    rw [e]
    rfl
theorem at_xd {p : Prog} {wf k : Nat} {f : Str} {S : (List D → M D) → Prop} {g : XD} (e0 : p.md f = none) (e : p.xd f = some g) (h : ∀ n, k ≤ n → S (g (tab p wf n))) : At p wf (k + 1) f S := by
  intro n hn
  cases n with
  | zero => omega
  | succ n =>
    refine ⟨_, ?_, h n (by omega)⟩
    show runP p wf (n + 1) f = _
    unfold runP
    rw [e0, e]
    rfl
end PV

set_option Elab.async false
set_option linter.all false
set_option maxRecDepth 100000
set_option maxHeartbeats 4000000
/-! the defs as trees of the small language -/
namespace J
open PV
def t1_common : ME := (.cmp .ne (.var 1) (.kint 0))
def l2_common : MS := (.seq (.par 0 1 (.var 1) (.bin .mod (.var 0) (.var 1))) .nil)
def m_common : MD := ⟨2, 2, (.seq (.whil t1_common l2_common) (.seq (.ret (.var 0)) .nil))⟩
def m_plain : MD := ⟨2, 3, (.seq (.asg 2 false (.call "common" (.cons (.un .abs (.var 0)) (.cons (.var 1) .nil)))) (.seq (.ret (.tup (.cons (.bin .fdiv (.var 0) (.var 2)) (.cons (.bin .fdiv (.var 1) (.var 2)) .nil)))) .nil))⟩
def m_plus : MD := ⟨2, 2, (.seq (.ret (.call "plain" (.cons (.bin .add (.bin .mul (.ix (.var 0) (.kint 0)) (.ix (.var 1) (.kint 1))) (.bin .mul (.ix (.var 1) (.kint 0)) (.ix (.var 0) (.kint 1)))) (.cons (.bin .mul (.ix (.var 0) (.kint 1)) (.ix (.var 1) (.kint 1))) .nil)))) .nil)⟩
def m_is_above : MD := ⟨2, 2, (.seq (.ret (.cmp .gt (.bin .mul (.ix (.var 0) (.kint 0)) (.ix (.var 1) (.kint 1))) (.bin .mul (.ix (.var 1) (.kint 0)) (.ix (.var 0) (.kint 1))))) .nil)⟩
def e1_is_fraction : ME := (.and (.cons (.isi .int (.var 1)) (.cons (.not (.isi .bool (.var 1))) .nil)))
def m_is_fraction : MD := ⟨1, 2, (.seq (.ife (.or (.cons (.not (.isi .tuple (.var 0))) (.cons (.cmp .ne (.un .len (.var 0)) (.kint 2)) .nil))) (.seq (.ret (.kbl false)) .nil) .nil) (.seq (.ife (.not (.un .all (.comp e1_is_fraction true [1] (.walk (.var 0)) .knon [1]))) (.seq (.ret (.kbl false)) .nil) .nil) (.seq (.ret (.and (.cons (.cmp .gt (.ix (.var 0) (.kint 1)) (.kint 0)) (.cons (.cmp .eq (.call "common" (.cons (.un .abs (.ix (.var 0) (.kint 0))) (.cons (.ix (.var 0) (.kint 1)) .nil))) (.kint 1)) .nil)))) .nil)))⟩
def m_is_number : MD := ⟨3, 3, (.seq (.ret (.and (.cons (.isi .int (.var 0)) (.cons (.not (.isi .bool (.var 0))) (.cons (.chain .le .le (.var 1) (.var 0) (.var 2)) .nil))))) .nil)⟩
def e1_are_some : ME := (.call "is_number" (.cons (.var 4) (.cons (.kint 0) (.cons (.bin .sub (.var 1) (.kint 1)) .nil))))
def e2_are_some : ME := (.cmp .lt (.var 2) (.var 3))
def m_are_some : MD := ⟨2, 5, (.seq (.ife (.or (.cons (.not (.isi .tuple (.var 0))) (.cons (.not (.un .all (.comp e1_are_some true [4] (.walk (.var 0)) .knon [4]))) .nil))) (.seq (.ret (.kbl false)) .nil) .nil) (.seq (.ret (.un .all (.comp e2_are_some false [2, 3] (.zip (.sl (.var 0) .noP (.som (.un .neg (.kint 1)))) (.sl (.var 0) (.som (.kint 1)) .noP)) .knon [2, 3]))) .nil))⟩
def e1_pieces : ME := (.ix (.lst (.cons (.var 9) (.cons (.var 4) .nil))) (.un .int (.cmp .eq (.var 9) (.var 5))))
def l2_pieces : MS := (.seq (.unp [6, 7, 8] (.ix (.ix (.var 0) (.kint 1)) (.var 3))) (.seq (.asg 4 false (.mm false (.ix (.var 2) (.var 6)) (.ix (.var 2) (.var 7)))) (.seq (.asg 5 false (.mm true (.ix (.var 2) (.var 6)) (.ix (.var 2) (.var 7)))) (.seq (.asg 2 false (.comp e1_pieces true [9] (.walk (.var 2)) .knon [9])) .nil))))
def m_pieces : MD := ⟨2, 10, (.seq (.asg 2 false (.lrng1 false (.ix (.var 0) (.kint 0)))) (.seq (.for_ true [3] (.walk (.var 1)) l2_pieces) (.seq (.ret (.var 2)) .nil)))⟩
def e1_joins : ME := (.ix (.var 3) (.var 4))
def m_joins : MD := ⟨3, 5, (.seq (.asg 3 false (.call "pieces" (.cons (.var 0) (.cons (.var 1) .nil)))) (.seq (.ret (.cmp .le (.un .lenset (.comp e1_joins true [4] (.walk (.var 2)) .knon [4])) (.kint 1))) .nil))⟩
def e1_cost : ME := (.ix (.ix (.ix (.var 0) (.kint 1)) (.var 2)) (.kint 2))
def m_cost : MD := ⟨2, 3, (.seq (.ret (.un .sum (.comp e1_cost true [2] (.walk (.var 1)) .knon [2]))) .nil)⟩
def l1_worth : MS := (.seq (.asg 1 false (.call "plus" (.cons (.var 1) (.cons (.var 3) .nil)))) .nil)
def m_worth : MD := ⟨1, 4, (.seq (.asg 1 false (.tup (.cons (.kint 0) (.cons (.kint 1) .nil)))) (.seq (.for_ false [2, 3] (.walk (.var 0)) l1_worth) (.seq (.ret (.var 1)) .nil)))⟩
def e1_parts : ME := (.cmp .isin (.var 2) (.var 0))
def e2_parts : ME := (.cmp .isin (.var 2) (.var 0))
def m_parts : MD := ⟨2, 3, (.seq (.ret (.and (.cons (.un .any (.comp e1_parts true [2] (.walk (.var 1)) .knon [2])) (.cons (.not (.un .all (.comp e2_parts true [2] (.walk (.var 1)) .knon [2]))) .nil)))) .nil)⟩
def q1_load : ME := (.cmp .ne (.cmp .isin (.ix (.var 1) (.kint 0)) (.ix (.var 2) (.kint 0))) (.cmp .isin (.ix (.var 1) (.kint 1)) (.ix (.var 2) (.kint 0))))
def m_load : MD := ⟨2, 3, (.seq (.ret (.call "worth" (.cons (.comp (.var 2) true [2] (.walk (.var 0)) (.som q1_load) [2]) .nil))) .nil)⟩
def m_is_fence : MD := ⟨3, 3, (.seq (.ife (.or (.cons (.not (.isi .tuple (.var 2))) (.cons (.cmp .ne (.un .len (.var 2)) (.kint 2)) (.cons (.not (.call "are_some" (.cons (.ix (.var 2) (.kint 0)) (.cons (.ix (.var 0) (.kint 0)) .nil)))) .nil)))) (.seq (.ret (.kbl false)) .nil) .nil) (.seq (.ret (.and (.cons (.call "is_fraction" (.cons (.ix (.var 2) (.kint 1)) .nil)) (.cons (.call "is_above" (.cons (.ix (.var 2) (.kint 1)) (.cons (.tup (.cons (.kint 0) (.cons (.kint 1) .nil))) .nil))) (.cons (.call "parts" (.cons (.ix (.var 2) (.kint 0)) (.cons (.var 1) .nil))) .nil))))) .nil))⟩
def e1_are_fences_at : ME := (.call "is_fence" (.cons (.var 0) (.cons (.var 1) (.cons (.var 6) .nil))))
def l2_are_fences_at : MS := (.seq (.ife (.and (.cons (.cmp .notN (.var 5) .knon) (.cons (.call "is_above" (.cons (.call "load" (.cons (.var 2) (.cons (.var 4) .nil))) (.cons (.tup (.cons (.var 5) (.cons (.kint 1) .nil))) .nil))) .nil))) (.seq (.ret (.kbl false)) .nil) .nil) .nil)
def m_are_fences_at : MD := ⟨4, 7, (.seq (.ife (.or (.cons (.not (.isi .tuple (.var 2))) (.cons (.not (.un .all (.comp e1_are_fences_at true [6] (.walk (.var 2)) .knon [6]))) .nil))) (.seq (.ret (.kbl false)) .nil) .nil) (.seq (.for_ false [4, 5] (.zip (.ix (.var 0) (.kint 1)) (.var 3)) l2_are_fences_at) (.seq (.ret (.kbl true)) .nil)))⟩
def l1_prices_at : MS := (.seq (.ife (.cmp .isin (.var 4) (.var 1)) (.seq (.app 3 .knon) .nil) (.seq (.ife (.cmp .isin (.var 4) (.var 2)) (.seq (.app 3 (.kint 0)) .nil) (.seq (.app 3 (.ix (.var 5) (.kint 2))) .nil)) .nil)) .nil)
def m_prices_at : MD := ⟨3, 6, (.seq (.asg 3 true (.lst .nil)) (.seq (.for_ false [4, 5] (.enum (.ix (.var 0) (.kint 1))) l1_prices_at) (.seq (.ret (.var 3)) .nil)))⟩
def q1_is_paper_at : ME := (.cmp .notin (.var 8) (.var 3))
def m_is_paper_at : MD := ⟨6, 9, (.seq (.ife (.or (.cons (.not (.isi .tuple (.var 5))) (.cons (.cmp .eq (.un .len (.var 5)) (.kint 0)) (.cons (.not (.isi .str (.ix (.var 5) (.kint 0)))) .nil)))) (.seq (.ret (.kbl false)) .nil) .nil) (.seq (.ife (.cmp .eq (.ix (.var 5) (.kint 0)) (.kstr "apart")) (.seq (.asg 7 false (.comp (.var 8) true [8] (.rng1 (.un .len (.ix (.var 0) (.kint 1)))) (.som q1_is_paper_at) [8])) (.seq (.ret (.and (.cons (.cmp .eq (.un .len (.var 5)) (.kint 1)) (.cons (.not (.call "joins" (.cons (.var 0) (.cons (.var 7) (.cons (.var 1) .nil))))) .nil)))) .nil)) .nil) (.seq (.ife (.cmp .eq (.ix (.var 5) (.kint 0)) (.kstr "fences")) (.seq (.ife (.or (.cons (.cmp .ne (.un .len (.var 5)) (.kint 2)) (.cons (.not (.call "are_fences_at" (.cons (.var 0) (.cons (.var 1) (.cons (.ix (.var 5) (.kint 1)) (.cons (.call "prices_at" (.cons (.var 0) (.cons (.var 3) (.cons (.var 4) .nil)))) .nil)))))) .nil))) (.seq (.ret (.kbl false)) .nil) .nil) (.seq (.ret (.not (.call "is_above" (.cons (.tup (.cons (.bin .sub (.var 2) (.call "cost" (.cons (.var 0) (.cons (.var 4) .nil)))) (.cons (.kint 1) .nil))) (.cons (.call "worth" (.cons (.ix (.var 5) (.kint 1)) .nil)) .nil))))) .nil)) .nil) (.seq (.ife (.or (.cons (.cmp .ne (.ix (.var 5) (.kint 0)) (.kstr "cases")) (.cons (.cmp .ne (.un .len (.var 5)) (.kint 4)) (.cons (.not (.isi .int (.ix (.var 5) (.kint 1)))) (.cons (.isi .bool (.ix (.var 5) (.kint 1))) .nil))))) (.seq (.ret (.kbl false)) .nil) .nil) (.seq (.asg 6 false (.ix (.var 5) (.kint 1))) (.seq (.ife (.or (.cons (.not (.chain .le .lt (.kint 0) (.var 6) (.un .len (.ix (.var 0) (.kint 1))))) (.cons (.cmp .isin (.var 6) (.var 3)) (.cons (.cmp .isin (.var 6) (.var 4)) .nil)))) (.seq (.ret (.kbl false)) .nil) .nil) (.seq (.ife (.not (.call "is_paper_at" (.cons (.var 0) (.cons (.var 1) (.cons (.var 2) (.cons (.bin .add (.var 3) (.lst (.cons (.var 6) .nil))) (.cons (.var 4) (.cons (.ix (.var 5) (.kint 2)) .nil)))))))) (.seq (.ret (.kbl false)) .nil) .nil) (.seq (.ret (.call "is_paper_at" (.cons (.var 0) (.cons (.var 1) (.cons (.var 2) (.cons (.var 3) (.cons (.bin .add (.var 4) (.lst (.cons (.var 6) .nil))) (.cons (.ix (.var 5) (.kint 3)) .nil)))))))) .nil))))))))⟩
def m_is_paper : MD := ⟨4, 4, (.seq (.ret (.call "is_paper_at" (.cons (.var 0) (.cons (.var 1) (.cons (.var 2) (.cons (.lst .nil) (.cons (.lst .nil) (.cons (.var 3) .nil)))))))) .nil)⟩
def m__law_cell_at : MD := ⟨2, 2, (.seq (.ife (.cmp .lt (.var 1) (.un .len (.var 0))) (.seq (.ret (.ix (.var 0) (.var 1))) .nil) .nil) (.seq (.ret (.kint 0)) .nil))⟩
def m__law_mixed : MD := ⟨2, 3, (.seq (.asg 2 false (.bin .mod (.bin .mul (.bin .add (.bin .add (.call "_law_cell_at" (.cons (.var 0) (.cons (.var 1) .nil))) (.bin .mul (.kint 7919) (.var 1))) (.kint 1)) (.kint 48271)) (.kint 2147483647))) (.seq (.ret (.bin .mod (.bin .add (.bin .add (.bin .mul (.var 2) (.var 2)) (.bin .mul (.kint 7) (.var 2))) (.var 1)) (.kint 2147483629))) .nil))⟩
def m__law_drawn : MD := ⟨2, 3, (.seq (.asg 2 false (.bin .mod (.bin .mul (.bin .add (.bin .add (.var 0) (.bin .mul (.kint 104729) (.var 1))) (.kint 17)) (.kint 69621)) (.kint 2147483647))) (.seq (.ret (.bin .mod (.bin .add (.bin .add (.bin .mul (.var 2) (.var 2)) (.bin .mul (.kint 3) (.var 2))) (.var 1)) (.kint 2147483629))) .nil))⟩
def l1__law_web : MS := (.seq (.asg 6 false (.bin .fdiv (.call "_law_drawn" (.cons (.var 0) (.cons (.var 4) .nil))) (.kint 4))) (.seq (.ife (.cmp .gt (.bin .mod (.var 6) (.kint 16)) (.kint 0)) (.seq (.app 3 (.tup (.cons (.bin .mod (.bin .fdiv (.var 6) (.kint 16)) (.var 4)) (.cons (.var 4) (.cons (.bin .mod (.bin .fdiv (.var 6) (.kint 512)) (.var 2)) .nil))))) .nil) .nil) .nil))
def l2__law_web : MS := (.seq (.asg 6 false (.bin .fdiv (.call "_law_drawn" (.cons (.var 0) (.cons (.bin .add (.kint 20) (.var 7)) .nil))) (.kint 4))) (.seq (.asg 8 false (.bin .mod (.var 6) (.var 1))) (.seq (.asg 9 false (.bin .mod (.bin .add (.bin .add (.var 8) (.kint 1)) (.bin .mod (.bin .fdiv (.var 6) (.kint 8)) (.bin .sub (.var 1) (.kint 1)))) (.var 1))) (.seq (.app 3 (.tup (.cons (.mm false (.var 8) (.var 9)) (.cons (.mm true (.var 8) (.var 9)) (.cons (.bin .mod (.bin .fdiv (.var 6) (.kint 512)) (.var 2)) .nil))))) .nil))))
def m__law_web : MD := ⟨1, 10, (.seq (.asg 1 false (.ix (.tup (.cons (.kint 2) (.cons (.kint 3) (.cons (.kint 4) (.cons (.kint 5) (.cons (.kint 6) (.cons (.kint 7) (.cons (.kint 4) (.cons (.kint 1) .nil))))))))) (.bin .mod (.var 0) (.kint 8)))) (.seq (.asg 2 false (.ix (.tup (.cons (.kint 1) (.cons (.kint 3) (.cons (.kint 10) (.cons (.kint 100) .nil))))) (.bin .mod (.bin .fdiv (.var 0) (.kint 8)) (.kint 4)))) (.seq (.asg 3 true (.lst .nil)) (.seq (.for_ true [4] (.rng2 (.kint 1) (.var 1)) l1__law_web) (.seq (.ife (.cmp .gt (.var 1) (.kint 1)) (.seq (.for_ true [7] (.rng1 (.bin .mod (.bin .fdiv (.var 0) (.kint 32)) (.bin .sub (.kint 11) (.un .len (.var 3))))) l2__law_web) .nil) .nil) (.seq (.asg 5 false (.bin .mod (.bin .fdiv (.var 0) (.kint 1024)) (.kint 5))) (.seq (.ret (.tup (.cons (.var 1) (.cons (.un .tuple (.bin .add (.sl (.var 3) (.som (.var 5)) .noP) (.sl (.var 3) .noP (.som (.var 5))))) .nil)))) .nil)))))))⟩
def e1__law_pieces : ME := (.ix (.lst (.cons (.var 6) (.cons (.mm false (.var 4) (.var 5)) .nil))) (.un .int (.cmp .eq (.var 6) (.mm true (.var 4) (.var 5)))))
def l2__law_pieces : MS := (.seq (.asg 4 false (.ix (.var 2) (.ix (.ix (.ix (.var 0) (.kint 1)) (.var 3)) (.kint 0)))) (.seq (.asg 5 false (.ix (.var 2) (.ix (.ix (.ix (.var 0) (.kint 1)) (.var 3)) (.kint 1)))) (.seq (.asg 2 false (.comp e1__law_pieces true [6] (.walk (.var 2)) .knon [6])) .nil)))
def m__law_pieces : MD := ⟨2, 7, (.seq (.asg 2 false (.lrng1 false (.ix (.var 0) (.kint 0)))) (.seq (.for_ true [3] (.walk (.var 1)) l2__law_pieces) (.seq (.ret (.var 2)) .nil)))⟩
def q1__law_joins : ME := (.cmp .ne (.ix (.var 3) (.var 4)) (.ix (.var 3) (.ix (.var 2) (.kint 0))))
def m__law_joins : MD := ⟨3, 5, (.seq (.asg 3 false (.call "_law_pieces" (.cons (.var 0) (.cons (.var 1) .nil)))) (.seq (.ret (.cmp .eq (.comp (.var 4) true [4] (.walk (.var 2)) (.som q1__law_joins) [4]) (.lst .nil))) .nil))⟩
def e1__law_every : ME := (.bin .add (.var 3) (.tup (.cons (.var 2) .nil)))
def l2__law_every : MS := (.seq (.asg 1 false (.bin .add (.var 1) (.comp e1__law_every true [3] (.walk (.var 1)) .knon [3]))) .nil)
def m__law_every : MD := ⟨1, 4, (.seq (.asg 1 false (.lst (.cons (.tup .nil) .nil))) (.seq (.for_ true [2] (.rng1 (.var 0)) l2__law_every) (.seq (.ret (.var 1)) .nil)))⟩
def e1__law_cost : ME := (.ix (.ix (.ix (.var 0) (.kint 1)) (.var 2)) (.kint 2))
def m__law_cost : MD := ⟨2, 3, (.seq (.ret (.un .sum (.comp e1__law_cost true [2] (.walk (.var 1)) .knon [2]))) .nil)⟩
def l1__law_least : MS := (.seq (.asg 4 false (.call "_law_cost" (.cons (.var 0) (.cons (.var 3) .nil)))) (.seq (.ife (.and (.cons (.or (.cons (.cmp .isN (.var 2) .knon) (.cons (.cmp .lt (.var 4) (.var 2)) .nil))) (.cons (.call "_law_joins" (.cons (.var 0) (.cons (.var 3) (.cons (.var 1) .nil)))) .nil))) (.seq (.asg 2 false (.var 4)) .nil) .nil) .nil))
def m__law_least : MD := ⟨2, 5, (.seq (.asg 2 false .knon) (.seq (.for_ true [3] (.walk (.call "_law_every" (.cons (.un .len (.ix (.var 0) (.kint 1))) .nil))) l1__law_least) (.seq (.ret (.var 2)) .nil)))⟩
def l1__law_are_some : MS := (.seq (.ife (.or (.cons (.not (.isi .int (.var 2))) (.cons (.isi .bool (.var 2)) (.cons (.not (.chain .le .lt (.kint 0) (.var 2) (.var 1))) .nil)))) (.seq (.ret (.kbl false)) .nil) .nil) .nil)
def m__law_are_some : MD := ⟨2, 3, (.seq (.ife (.not (.isi .tuple (.var 0))) (.seq (.ret (.kbl false)) .nil) .nil) (.seq (.for_ true [2] (.walk (.var 0)) l1__law_are_some) (.seq (.ret (.cmp .eq (.un .list (.var 0)) (.un .sortedset (.var 0)))) .nil)))⟩
def q1__law_is_part : ME := (.or (.cons (.not (.isi .int (.var 3))) (.cons (.isi .bool (.var 3)) .nil)))
def t2__law_is_part : ME := (.cmp .ne (.var 2) (.kint 0))
def l3__law_is_part : MS := (.seq (.par 1 2 (.var 2) (.bin .mod (.var 1) (.var 2))) .nil)
def m__law_is_part : MD := ⟨1, 4, (.seq (.ife (.or (.cons (.not (.isi .tuple (.var 0))) (.cons (.cmp .ne (.un .len (.var 0)) (.kint 2)) .nil))) (.seq (.ret (.kbl false)) .nil) .nil) (.seq (.ife (.cmp .ne (.comp (.var 3) true [3] (.walk (.var 0)) (.som q1__law_is_part) [3]) (.lst .nil)) (.seq (.ret (.kbl false)) .nil) .nil) (.seq (.ife (.cmp .lt (.ix (.var 0) (.kint 1)) (.kint 1)) (.seq (.ret (.kbl false)) .nil) .nil) (.seq (.par 1 2 (.un .abs (.ix (.var 0) (.kint 0))) (.ix (.var 0) (.kint 1))) (.seq (.whil t2__law_is_part l3__law_is_part) (.seq (.ret (.cmp .eq (.var 1) (.kint 1))) .nil))))))⟩
def l1__law_plus : MS := (.seq (.par 1 2 (.bin .add (.bin .mul (.var 1) (.var 4)) (.bin .mul (.var 3) (.var 2))) (.bin .mul (.var 2) (.var 4))) .nil)
def m__law_plus : MD := ⟨1, 5, (.seq (.unp [1, 2] (.tup (.cons (.kint 0) (.cons (.kint 1) .nil)))) (.seq (.for_ false [3, 4] (.walk (.var 0)) l1__law_plus) (.seq (.ret (.tup (.cons (.var 1) (.cons (.var 2) .nil)))) .nil)))⟩
def q1__law_are_fences : ME := (.cmp .isin (.var 10) (.ix (.var 4) (.kint 0)))
def l2__law_are_fences : MS := (.seq (.ife (.or (.cons (.not (.isi .tuple (.var 4))) (.cons (.cmp .ne (.un .len (.var 4)) (.kint 2)) (.cons (.not (.call "_law_are_some" (.cons (.ix (.var 4) (.kint 0)) (.cons (.ix (.var 0) (.kint 0)) .nil)))) .nil)))) (.seq (.ret (.kbl false)) .nil) .nil) (.seq (.ife (.or (.cons (.not (.call "_law_is_part" (.cons (.ix (.var 4) (.kint 1)) .nil))) (.cons (.cmp .le (.ix (.ix (.var 4) (.kint 1)) (.kint 0)) (.kint 0)) .nil))) (.seq (.ret (.kbl false)) .nil) .nil) (.seq (.asg 5 false (.comp (.var 10) true [10] (.walk (.var 1)) (.som q1__law_are_fences) [10])) (.seq (.ife (.or (.cons (.cmp .eq (.var 5) (.lst .nil)) (.cons (.cmp .eq (.un .len (.var 5)) (.un .len (.var 1))) .nil))) (.seq (.ret (.kbl false)) .nil) .nil) .nil))))
def q3__law_are_fences : ME := (.cmp .ne (.cmp .isin (.ix (.var 6) (.kint 0)) (.var 11)) (.cmp .isin (.ix (.var 6) (.kint 1)) (.var 11)))
def l4__law_are_fences : MS := (.seq (.unp [8, 9] (.call "_law_plus" (.cons (.comp (.var 12) false [11, 12] (.walk (.var 2)) (.som q3__law_are_fences) [11, 12]) .nil))) (.seq (.ife (.and (.cons (.cmp .notN (.var 7) .knon) (.cons (.cmp .gt (.var 8) (.bin .mul (.var 7) (.var 9))) .nil))) (.seq (.ret (.kbl false)) .nil) .nil) .nil))
def m__law_are_fences : MD := ⟨4, 13, (.seq (.ife (.not (.isi .tuple (.var 2))) (.seq (.ret (.kbl false)) .nil) .nil) (.seq (.for_ true [4] (.walk (.var 2)) l2__law_are_fences) (.seq (.for_ false [6, 7] (.zip (.ix (.var 0) (.kint 1)) (.var 3)) l4__law_are_fences) (.seq (.ret (.kbl true)) .nil))))⟩
def q1__law_is_paper : ME := (.cmp .notin (.var 11) (.var 3))
def e2__law_is_paper : ME := (.ix (.var 12) (.kint 2))
def l3__law_is_paper : MS := (.seq (.seti 7 (.var 8) (.kint 0)) .nil)
def l4__law_is_paper : MS := (.seq (.seti 7 (.var 8) .knon) .nil)
def m__law_is_paper : MD := ⟨6, 15, (.seq (.ife (.or (.cons (.not (.isi .tuple (.var 5))) (.cons (.cmp .eq (.un .len (.var 5)) (.kint 0)) (.cons (.not (.isi .str (.ix (.var 5) (.kint 0)))) .nil)))) (.seq (.ret (.kbl false)) .nil) .nil) (.seq (.ife (.cmp .eq (.ix (.var 5) (.kint 0)) (.kstr "apart")) (.seq (.asg 6 false (.comp (.var 11) true [11] (.rng1 (.un .len (.ix (.var 0) (.kint 1)))) (.som q1__law_is_paper) [11])) (.seq (.ret (.and (.cons (.cmp .eq (.un .len (.var 5)) (.kint 1)) (.cons (.not (.call "_law_joins" (.cons (.var 0) (.cons (.var 6) (.cons (.var 1) .nil))))) .nil)))) .nil)) .nil) (.seq (.asg 6 false (.bin .sub (.var 2) (.call "_law_cost" (.cons (.var 0) (.cons (.var 4) .nil))))) (.seq (.ife (.cmp .eq (.ix (.var 5) (.kint 0)) (.kstr "fences")) (.seq (.ife (.cmp .ne (.un .len (.var 5)) (.kint 2)) (.seq (.ret (.kbl false)) .nil) .nil) (.seq (.asg 7 true (.comp e2__law_is_paper true [12] (.walk (.ix (.var 0) (.kint 1))) .knon [12])) (.seq (.for_ true [8] (.walk (.var 4)) l3__law_is_paper) (.seq (.for_ true [8] (.walk (.var 3)) l4__law_is_paper) (.seq (.ife (.not (.callZ "_law_are_fences" 7 (.cons (.var 0) (.cons (.var 1) (.cons (.ix (.var 5) (.kint 1)) .nil))))) (.seq (.ret (.kbl false)) .nil) .nil) (.seq (.unp [9, 10] (.call "_law_plus" (.cons (.comp (.var 14) false [13, 14] (.walk (.ix (.var 5) (.kint 1))) .knon [13, 14]) .nil))) (.seq (.ret (.cmp .ge (.var 9) (.bin .mul (.var 6) (.var 10)))) .nil))))))) .nil) (.seq (.ife (.or (.cons (.cmp .ne (.ix (.var 5) (.kint 0)) (.kstr "cases")) (.cons (.cmp .ne (.un .len (.var 5)) (.kint 4)) (.cons (.not (.call "_law_are_some" (.cons (.tup (.cons (.ix (.var 5) (.kint 1)) .nil)) (.cons (.un .len (.ix (.var 0) (.kint 1))) .nil)))) .nil)))) (.seq (.ret (.kbl false)) .nil) .nil) (.seq (.ife (.or (.cons (.cmp .isin (.ix (.var 5) (.kint 1)) (.var 3)) (.cons (.cmp .isin (.ix (.var 5) (.kint 1)) (.var 4)) .nil))) (.seq (.ret (.kbl false)) .nil) .nil) (.seq (.ife (.not (.call "_law_is_paper" (.cons (.var 0) (.cons (.var 1) (.cons (.var 2) (.cons (.bin .add (.var 3) (.lst (.cons (.ix (.var 5) (.kint 1)) .nil))) (.cons (.var 4) (.cons (.ix (.var 5) (.kint 2)) .nil)))))))) (.seq (.ret (.kbl false)) .nil) .nil) (.seq (.ret (.call "_law_is_paper" (.cons (.var 0) (.cons (.var 1) (.cons (.var 2) (.cons (.var 3) (.cons (.bin .add (.var 4) (.lst (.cons (.ix (.var 5) (.kint 1)) .nil))) (.cons (.ix (.var 5) (.kint 3)) .nil)))))))) .nil))))))))⟩
def l1__law_single : MS := (.seq (.ife (.and (.cons (.cmp .isin (.var 5) (.sl (.var 8) .noP (.som (.kint 2)))) (.cons (.cmp .notin (.var 7) (.var 2)) .nil))) (.seq (.app 6 (.ix (.lst (.cons (.ix (.var 8) (.kint 2)) (.cons (.kint 0) .nil))) (.un .int (.cmp .isin (.var 7) (.var 3))))) .nil) .nil) .nil)
def l2__law_single : MS := (.seq (.asg 6 true (.lst .nil)) (.seq (.for_ false [7, 8] (.enum (.ix (.var 0) (.kint 1))) l1__law_single) (.seq (.ife (.and (.cons (.cmp .ne (.var 6) (.lst .nil)) (.cons (.cmp .gt (.un .min (.var 6)) (.kint 0)) (.cons (.cmp .gt (.un .len (.var 1)) (.kint 1)) .nil)))) (.seq (.asg 9 false (.un .min (.var 6))) (.seq (.asg 4 false (.bin .add (.var 4) (.tup (.cons (.tup (.cons (.tup (.cons (.var 5) .nil)) (.cons (.ix (.lst (.cons (.tup (.cons (.var 9) (.cons (.kint 2) .nil))) (.cons (.tup (.cons (.bin .fdiv (.var 9) (.kint 2)) (.cons (.kint 1) .nil))) .nil))) (.un .int (.cmp .eq (.bin .mod (.var 9) (.kint 2)) (.kint 0)))) .nil))) .nil)))) (.seq (.ife (.cmp .eq (.un .len (.var 1)) (.kint 2)) (.seq (.asg 4 false (.tup (.cons (.tup (.cons (.tup (.cons (.var 5) .nil)) (.cons (.tup (.cons (.var 9) (.cons (.kint 1) .nil))) .nil))) .nil))) .nil) .nil) .nil))) .nil) .nil)))
def m__law_single : MD := ⟨4, 10, (.seq (.asg 4 false (.tup .nil)) (.seq (.for_ true [5] (.walk (.sl (.var 1) .noP (.som (.bin .sub (.un .len (.var 1)) (.un .int (.cmp .eq (.un .len (.var 1)) (.kint 2))))))) l2__law_single) (.seq (.ret (.var 4)) .nil)))⟩
def q1__law_made : ME := (.and (.cons (.cmp .notin (.var 12) (.var 3)) (.cons (.cmp .notin (.var 12) (.var 4)) .nil)))
def m__law_made : MD := ⟨6, 15, (.seq (.asg 6 false (.comp (.var 12) true [12] (.rng1 (.un .len (.ix (.var 0) (.kint 1)))) (.som q1__law_made) [12])) (.seq (.asg 7 false (.call "_law_single" (.cons (.var 0) (.cons (.var 1) (.cons (.var 3) (.cons (.ix (.lst (.cons (.var 4) (.cons (.lst .nil) .nil))) (.un .int (.cmp .eq (.bin .mod (.var 5) (.kint 4)) (.kint 1)))) .nil)))))) (.seq (.unp [10, 11] (.call "_law_plus" (.cons (.comp (.var 14) false [13, 14] (.walk (.var 7)) .knon [13, 14]) .nil))) (.seq (.ife (.cmp .ge (.var 10) (.bin .mul (.bin .sub (.var 2) (.call "_law_cost" (.cons (.var 0) (.cons (.var 4) .nil)))) (.var 11))) (.seq (.ret (.tup (.cons (.kstr "fences") (.cons (.var 7) .nil)))) .nil) .nil) (.seq (.ife (.not (.call "_law_joins" (.cons (.var 0) (.cons (.bin .add (.var 6) (.var 4)) (.cons (.var 1) .nil))))) (.seq (.ret (.tup (.cons (.kstr "apart") .nil))) .nil) .nil) (.seq (.ife (.or (.cons (.cmp .eq (.var 6) (.lst .nil)) (.cons (.cmp .gt (.bin .add (.un .len (.var 3)) (.un .len (.var 4))) (.kint 5)) .nil))) (.seq (.ret (.tup (.cons (.kstr "fences") (.cons (.tup .nil) .nil)))) .nil) .nil) (.seq (.asg 8 false (.ix (.var 6) (.bin .mod (.var 5) (.un .len (.var 6))))) (.seq (.asg 9 false (.call "_law_made" (.cons (.var 0) (.cons (.var 1) (.cons (.var 2) (.cons (.bin .add (.var 3) (.lst (.cons (.var 8) .nil))) (.cons (.var 4) (.cons (.bin .fdiv (.var 5) (.kint 3)) .nil)))))))) (.seq (.ret (.tup (.cons (.kstr "cases") (.cons (.var 8) (.cons (.var 9) (.cons (.call "_law_made" (.cons (.var 0) (.cons (.var 1) (.cons (.var 2) (.cons (.var 3) (.cons (.bin .add (.var 4) (.lst (.cons (.var 8) .nil))) (.cons (.bin .fdiv (.var 5) (.kint 5)) .nil))))))) .nil)))))) .nil)))))))))⟩
def m_law : MD := ⟨1, 8, (.seq (.asg 1 false (.call "_law_web" (.cons (.call "_law_mixed" (.cons (.var 0) (.cons (.kint 0) .nil))) .nil))) (.seq (.asg 2 false (.call "_law_ends" (.cons (.call "_law_mixed" (.cons (.var 0) (.cons (.kint 1) .nil))) (.cons (.var 1) (.cons (.kint 5) .nil))))) (.seq (.asg 3 false (.call "_law_least" (.cons (.var 1) (.cons (.var 2) .nil)))) (.seq (.asg 4 false (.call "_law_mixed" (.cons (.var 0) (.cons (.kint 2) .nil)))) (.seq (.asg 5 false (.bin .mod (.var 4) (.kint 12))) (.seq (.ife (.cmp .notN (.var 3) .knon) (.seq (.asg 5 false (.mm true (.kint 0) (.bin .add (.bin .sub (.var 3) (.bin .fdiv (.bin .mod (.var 4) (.kint 12)) (.kint 3))) (.kint 1)))) .nil) .nil) (.seq (.asg 6 false (.call "_law_made" (.cons (.var 1) (.cons (.var 2) (.cons (.var 5) (.cons (.lst .nil) (.cons (.lst .nil) (.cons (.call "_law_mixed" (.cons (.var 0) (.cons (.kint 3) .nil))) .nil)))))))) (.seq (.asg 7 false (.call "is_paper" (.cons (.var 1) (.cons (.var 2) (.cons (.var 5) (.cons (.var 6) .nil)))))) (.seq (.ife (.or (.cons (.not (.isi .bool (.var 7))) (.cons (.cmp .ne (.var 7) (.call "_law_is_paper" (.cons (.var 1) (.cons (.var 2) (.cons (.var 5) (.cons (.lst .nil) (.cons (.lst .nil) (.cons (.var 6) .nil)))))))) .nil))) (.seq (.ret (.kbl false)) .nil) .nil) (.seq (.ret (.or (.cons (.cmp .isN (.var 3) .knon) (.cons (.cmp .le (.var 5) (.var 3)) (.cons (.not (.var 7)) .nil))))) .nil))))))))))⟩
end J

set_option Elab.async false
set_option linter.all false
set_option maxRecDepth 100000
set_option maxHeartbeats 4000000
/-! the text and its trees -/
namespace J
open PySem PySem.Spec PyProof.Rows L2 PV
def topS (i : Nat) : Stmt := PySem.Challenge.pw_joinplaces_k41_whole_drawn_papers.main.body.getD i (.Pass ⟨0, 0, 0, 0⟩)
def exF (x : Str) : Bool := false
theorem t_common [ScrK] : DefTx exF (topS 1) ["one", "other"] ["one", "other"] m_common := ⟨⟨rfl, rfl, rfl, by decide +kernel, rfl, by decide +kernel, by decide +kernel⟩, rfl, rfl, by decide +kernel⟩
theorem b_common : BindsQ "common" (topS 1) ["one", "other"] := fun _ _ _ _ _ _ us hl => match us, hl with | [_, _], _ => rfl
theorem t_plain [ScrK] : DefTx exF (topS 2) ["upper", "lower", "by"] ["upper", "lower"] m_plain := ⟨⟨rfl, rfl, rfl, by decide +kernel, rfl, by decide +kernel, by decide +kernel⟩, rfl, rfl, by decide +kernel⟩
theorem b_plain : BindsQ "plain" (topS 2) ["upper", "lower"] := fun _ _ _ _ _ _ us hl => match us, hl with | [_, _], _ => rfl
theorem t_plus [ScrK] : DefTx exF (topS 3) ["one", "other"] ["one", "other"] m_plus := ⟨⟨rfl, rfl, rfl, by decide +kernel, rfl, by decide +kernel, by decide +kernel⟩, rfl, rfl, by decide +kernel⟩
theorem b_plus : BindsQ "plus" (topS 3) ["one", "other"] := fun _ _ _ _ _ _ us hl => match us, hl with | [_, _], _ => rfl
theorem t_is_above [ScrK] : DefTx exF (topS 4) ["one", "other"] ["one", "other"] m_is_above := ⟨⟨rfl, rfl, rfl, by decide +kernel, rfl, by decide +kernel, by decide +kernel⟩, rfl, rfl, by decide +kernel⟩
theorem b_is_above : BindsQ "is_above" (topS 4) ["one", "other"] := fun _ _ _ _ _ _ us hl => match us, hl with | [_, _], _ => rfl
theorem t_is_fraction [ScrK] : DefTx exF (topS 5) ["thing", "part"] ["thing"] m_is_fraction := ⟨⟨rfl, rfl, rfl, by decide +kernel, rfl, by decide +kernel, by decide +kernel⟩, rfl, rfl, by decide +kernel⟩
theorem b_is_fraction : BindsQ "is_fraction" (topS 5) ["thing"] := fun _ _ _ _ _ _ us hl => match us, hl with | [_], _ => rfl
theorem t_is_number [ScrK] : DefTx exF (topS 7) ["thing", "low", "high"] ["thing", "low", "high"] m_is_number := ⟨⟨rfl, rfl, rfl, by decide +kernel, rfl, by decide +kernel, by decide +kernel⟩, rfl, rfl, by decide +kernel⟩
theorem b_is_number : BindsQ "is_number" (topS 7) ["thing", "low", "high"] := fun _ _ _ _ _ _ us hl => match us, hl with | [_, _, _], _ => rfl
theorem t_are_some [ScrK] : DefTx exF (topS 8) ["thing", "many", "one", "other", "part"] ["thing", "many"] m_are_some := ⟨⟨rfl, rfl, rfl, by decide +kernel, rfl, by decide +kernel, by decide +kernel⟩, rfl, rfl, by decide +kernel⟩
theorem b_are_some : BindsQ "are_some" (topS 8) ["thing", "many"] := fun _ _ _ _ _ _ us hl => match us, hl with | [_, _], _ => rfl
theorem t_pieces [ScrK] : DefTx exF (topS 10) ["web", "some", "found", "number", "low", "high", "one", "other", "price", "part"] ["web", "some"] m_pieces := ⟨⟨rfl, rfl, rfl, by decide +kernel, rfl, by decide +kernel, by decide +kernel⟩, rfl, rfl, by decide +kernel⟩
theorem b_pieces : BindsQ "pieces" (topS 10) ["web", "some"] := fun _ _ _ _ _ _ us hl => match us, hl with | [_, _], _ => rfl
theorem t_joins [ScrK] : DefTx exF (topS 11) ["web", "some", "ends", "found", "end"] ["web", "some", "ends"] m_joins := ⟨⟨rfl, rfl, rfl, by decide +kernel, rfl, by decide +kernel, by decide +kernel⟩, rfl, rfl, by decide +kernel⟩
theorem b_joins : BindsQ "joins" (topS 11) ["web", "some", "ends"] := fun _ _ _ _ _ _ us hl => match us, hl with | [_, _, _], _ => rfl
theorem t_cost [ScrK] : DefTx exF (topS 12) ["web", "some", "number"] ["web", "some"] m_cost := ⟨⟨rfl, rfl, rfl, by decide +kernel, rfl, by decide +kernel, by decide +kernel⟩, rfl, rfl, by decide +kernel⟩
theorem b_cost : BindsQ "cost" (topS 12) ["web", "some"] := fun _ _ _ _ _ _ us hl => match us, hl with | [_, _], _ => rfl
theorem t_worth [ScrK] : DefTx exF (topS 14) ["fences", "found", "side", "weight"] ["fences"] m_worth := ⟨⟨rfl, rfl, rfl, by decide +kernel, rfl, by decide +kernel, by decide +kernel⟩, rfl, rfl, by decide +kernel⟩
theorem b_worth : BindsQ "worth" (topS 14) ["fences"] := fun _ _ _ _ _ _ us hl => match us, hl with | [_], _ => rfl
theorem t_parts [ScrK] : DefTx exF (topS 15) ["side", "ends", "end"] ["side", "ends"] m_parts := ⟨⟨rfl, rfl, rfl, by decide +kernel, rfl, by decide +kernel, by decide +kernel⟩, rfl, rfl, by decide +kernel⟩
theorem b_parts : BindsQ "parts" (topS 15) ["side", "ends"] := fun _ _ _ _ _ _ us hl => match us, hl with | [_, _], _ => rfl
theorem t_load [ScrK] : DefTx exF (topS 16) ["fences", "tie", "fence"] ["fences", "tie"] m_load := ⟨⟨rfl, rfl, rfl, by decide +kernel, rfl, by decide +kernel, by decide +kernel⟩, rfl, rfl, by decide +kernel⟩
theorem b_load : BindsQ "load" (topS 16) ["fences", "tie"] := fun _ _ _ _ _ _ us hl => match us, hl with | [_, _], _ => rfl
theorem t_is_fence [ScrK] : DefTx exF (topS 17) ["web", "ends", "thing"] ["web", "ends", "thing"] m_is_fence := ⟨⟨rfl, rfl, rfl, by decide +kernel, rfl, by decide +kernel, by decide +kernel⟩, rfl, rfl, by decide +kernel⟩
theorem b_is_fence : BindsQ "is_fence" (topS 17) ["web", "ends", "thing"] := fun _ _ _ _ _ _ us hl => match us, hl with | [_, _, _], _ => rfl
theorem t_are_fences_at [ScrK] : DefTx exF (topS 18) ["web", "ends", "thing", "prices", "tie", "price", "fence"] ["web", "ends", "thing", "prices"] m_are_fences_at := ⟨⟨rfl, rfl, rfl, by decide +kernel, rfl, by decide +kernel, by decide +kernel⟩, rfl, rfl, by decide +kernel⟩
theorem b_are_fences_at : BindsQ "are_fences_at" (topS 18) ["web", "ends", "thing", "prices"] := fun _ _ _ _ _ _ us hl => match us, hl with | [_, _, _, _], _ => rfl
theorem t_prices_at [ScrK] : DefTx exF (topS 20) ["web", "outs", "ins", "found", "number", "tie"] ["web", "outs", "ins"] m_prices_at := ⟨⟨rfl, rfl, rfl, by decide +kernel, rfl, by decide +kernel, by decide +kernel⟩, rfl, rfl, by decide +kernel⟩
theorem b_prices_at : BindsQ "prices_at" (topS 20) ["web", "outs", "ins"] := fun _ _ _ _ _ _ us hl => match us, hl with | [_, _, _], _ => rfl
theorem t_is_paper_at [ScrK] : DefTx exF (topS 21) ["web", "ends", "price", "outs", "ins", "thing", "tie", "left", "number"] ["web", "ends", "price", "outs", "ins", "thing"] m_is_paper_at := ⟨⟨rfl, rfl, rfl, by decide +kernel, rfl, by decide +kernel, by decide +kernel⟩, rfl, rfl, by decide +kernel⟩
theorem b_is_paper_at : BindsQ "is_paper_at" (topS 21) ["web", "ends", "price", "outs", "ins", "thing"] := fun _ _ _ _ _ _ us hl => match us, hl with | [_, _, _, _, _, _], _ => rfl
theorem t_is_paper [ScrK] : DefTx exF (topS 22) ["web", "ends", "price", "thing"] ["web", "ends", "price", "thing"] m_is_paper := ⟨⟨rfl, rfl, rfl, by decide +kernel, rfl, by decide +kernel, by decide +kernel⟩, rfl, rfl, by decide +kernel⟩
theorem b_is_paper : BindsQ "is_paper" (topS 22) ["web", "ends", "price", "thing"] := fun _ _ _ _ _ _ us hl => match us, hl with | [_, _, _, _], _ => rfl
theorem t__law_cell_at [ScrK] : DefTx exF (topS 24) ["_law_script", "_law_k"] ["_law_script", "_law_k"] m__law_cell_at := ⟨⟨rfl, rfl, rfl, by decide +kernel, rfl, by decide +kernel, by decide +kernel⟩, rfl, rfl, by decide +kernel⟩
theorem b__law_cell_at : BindsQ "_law_cell_at" (topS 24) ["_law_script", "_law_k"] := fun _ _ _ _ _ _ us hl => match us, hl with | [_, _], _ => rfl
theorem t__law_mixed [ScrK] : DefTx exF (topS 25) ["_law_script", "_law_k", "_law_drawn_here"] ["_law_script", "_law_k"] m__law_mixed := ⟨⟨rfl, rfl, rfl, by decide +kernel, rfl, by decide +kernel, by decide +kernel⟩, rfl, rfl, by decide +kernel⟩
theorem b__law_mixed : BindsQ "_law_mixed" (topS 25) ["_law_script", "_law_k"] := fun _ _ _ _ _ _ us hl => match us, hl with | [_, _], _ => rfl
theorem t__law_drawn [ScrK] : DefTx exF (topS 26) ["_law_number", "_law_k", "_law_drawn_here"] ["_law_number", "_law_k"] m__law_drawn := ⟨⟨rfl, rfl, rfl, by decide +kernel, rfl, by decide +kernel, by decide +kernel⟩, rfl, rfl, by decide +kernel⟩
theorem b__law_drawn : BindsQ "_law_drawn" (topS 26) ["_law_number", "_law_k"] := fun _ _ _ _ _ _ us hl => match us, hl with | [_, _], _ => rfl
theorem t__law_web [ScrK] : DefTx exF (topS 27) ["_law_number", "_law_many", "_law_high", "_law_ties", "_law_place", "_law_by", "_law_drawn_here", "_law_k", "_law_one", "_law_other"] ["_law_number"] m__law_web := ⟨⟨rfl, rfl, rfl, by decide +kernel, rfl, by decide +kernel, by decide +kernel⟩, rfl, rfl, by decide +kernel⟩
theorem b__law_web : BindsQ "_law_web" (topS 27) ["_law_number"] := fun _ _ _ _ _ _ us hl => match us, hl with | [_], _ => rfl
theorem b__law_ends : BindsQ "_law_ends" (topS 28) ["_law_number", "_law_web_here", "_law_most"] := fun _ _ _ _ _ _ us hl => match us, hl with | [_, _, _], _ => rfl
theorem t__law_pieces [ScrK] : DefTx exF (topS 29) ["_law_web_here", "_law_some", "_law_found", "_law_number", "_law_one", "_law_other", "_law_part"] ["_law_web_here", "_law_some"] m__law_pieces := ⟨⟨rfl, rfl, rfl, by decide +kernel, rfl, by decide +kernel, by decide +kernel⟩, rfl, rfl, by decide +kernel⟩
theorem b__law_pieces : BindsQ "_law_pieces" (topS 29) ["_law_web_here", "_law_some"] := fun _ _ _ _ _ _ us hl => match us, hl with | [_, _], _ => rfl
theorem t__law_joins [ScrK] : DefTx exF (topS 30) ["_law_web_here", "_law_some", "_law_ends_here", "_law_found", "_law_end"] ["_law_web_here", "_law_some", "_law_ends_here"] m__law_joins := ⟨⟨rfl, rfl, rfl, by decide +kernel, rfl, by decide +kernel, by decide +kernel⟩, rfl, rfl, by decide +kernel⟩
theorem b__law_joins : BindsQ "_law_joins" (topS 30) ["_law_web_here", "_law_some", "_law_ends_here"] := fun _ _ _ _ _ _ us hl => match us, hl with | [_, _, _], _ => rfl
theorem t__law_every [ScrK] : DefTx exF (topS 31) ["_law_many", "_law_found", "_law_number", "_law_some"] ["_law_many"] m__law_every := ⟨⟨rfl, rfl, rfl, by decide +kernel, rfl, by decide +kernel, by decide +kernel⟩, rfl, rfl, by decide +kernel⟩
theorem b__law_every : BindsQ "_law_every" (topS 31) ["_law_many"] := fun _ _ _ _ _ _ us hl => match us, hl with | [_], _ => rfl
theorem t__law_cost [ScrK] : DefTx exF (topS 32) ["_law_web_here", "_law_some", "_law_number"] ["_law_web_here", "_law_some"] m__law_cost := ⟨⟨rfl, rfl, rfl, by decide +kernel, rfl, by decide +kernel, by decide +kernel⟩, rfl, rfl, by decide +kernel⟩
theorem b__law_cost : BindsQ "_law_cost" (topS 32) ["_law_web_here", "_law_some"] := fun _ _ _ _ _ _ us hl => match us, hl with | [_, _], _ => rfl
theorem t__law_least [ScrK] : DefTx exF (topS 33) ["_law_web_here", "_law_ends_here", "_law_best", "_law_some", "_law_price"] ["_law_web_here", "_law_ends_here"] m__law_least := ⟨⟨rfl, rfl, rfl, by decide +kernel, rfl, by decide +kernel, by decide +kernel⟩, rfl, rfl, by decide +kernel⟩
theorem b__law_least : BindsQ "_law_least" (topS 33) ["_law_web_here", "_law_ends_here"] := fun _ _ _ _ _ _ us hl => match us, hl with | [_, _], _ => rfl
theorem t__law_are_some [ScrK] : DefTx exF (topS 34) ["_law_thing", "_law_many", "_law_part"] ["_law_thing", "_law_many"] m__law_are_some := ⟨⟨rfl, rfl, rfl, by decide +kernel, rfl, by decide +kernel, by decide +kernel⟩, rfl, rfl, by decide +kernel⟩
theorem b__law_are_some : BindsQ "_law_are_some" (topS 34) ["_law_thing", "_law_many"] := fun _ _ _ _ _ _ us hl => match us, hl with | [_, _], _ => rfl
theorem t__law_is_part [ScrK] : DefTx exF (topS 36) ["_law_thing", "_law_one", "_law_other", "_law_part"] ["_law_thing"] m__law_is_part := ⟨⟨rfl, rfl, rfl, by decide +kernel, rfl, by decide +kernel, by decide +kernel⟩, rfl, rfl, by decide +kernel⟩
theorem b__law_is_part : BindsQ "_law_is_part" (topS 36) ["_law_thing"] := fun _ _ _ _ _ _ us hl => match us, hl with | [_], _ => rfl
theorem t__law_plus [ScrK] : DefTx exF (topS 37) ["_law_weights", "_law_upper", "_law_lower", "_law_one", "_law_other"] ["_law_weights"] m__law_plus := ⟨⟨rfl, rfl, rfl, by decide +kernel, rfl, by decide +kernel, by decide +kernel⟩, rfl, rfl, by decide +kernel⟩
theorem b__law_plus : BindsQ "_law_plus" (topS 37) ["_law_weights"] := fun _ _ _ _ _ _ us hl => match us, hl with | [_], _ => rfl
theorem t__law_are_fences [ScrK] : DefTx exF (topS 38) ["_law_web_here", "_law_ends_here", "_law_thing", "_law_prices", "_law_fence", "_law_within", "_law_tie", "_law_price", "_law_upper", "_law_lower", "_law_end", "_law_side", "_law_weight"] ["_law_web_here", "_law_ends_here", "_law_thing", "_law_prices"] m__law_are_fences := ⟨⟨rfl, rfl, rfl, by decide +kernel, rfl, by decide +kernel, by decide +kernel⟩, rfl, rfl, by decide +kernel⟩
theorem b__law_are_fences : BindsQ "_law_are_fences" (topS 38) ["_law_web_here", "_law_ends_here", "_law_thing", "_law_prices"] := fun _ _ _ _ _ _ us hl => match us, hl with | [_, _, _, _], _ => rfl
theorem t__law_is_paper [ScrK] : DefTx exF (topS 39) ["_law_web_here", "_law_ends_here", "_law_price", "_law_outs", "_law_ins", "_law_thing", "_law_left", "_law_prices", "_law_number", "_law_upper", "_law_lower", "_law_k", "_law_tie", "_law_side", "_law_weight"] ["_law_web_here", "_law_ends_here", "_law_price", "_law_outs", "_law_ins", "_law_thing"] m__law_is_paper := ⟨⟨rfl, rfl, rfl, by decide +kernel, rfl, by decide +kernel, by decide +kernel⟩, rfl, rfl, by decide +kernel⟩
theorem b__law_is_paper : BindsQ "_law_is_paper" (topS 39) ["_law_web_here", "_law_ends_here", "_law_price", "_law_outs", "_law_ins", "_law_thing"] := fun _ _ _ _ _ _ us hl => match us, hl with | [_, _, _, _, _, _], _ => rfl
theorem t__law_single [ScrK] : DefTx exF (topS 40) ["_law_web_here", "_law_ends_here", "_law_outs", "_law_ins", "_law_fences", "_law_end", "_law_prices", "_law_number", "_law_tie", "_law_upper"] ["_law_web_here", "_law_ends_here", "_law_outs", "_law_ins"] m__law_single := ⟨⟨rfl, rfl, rfl, by decide +kernel, rfl, by decide +kernel, by decide +kernel⟩, rfl, rfl, by decide +kernel⟩
theorem b__law_single : BindsQ "_law_single" (topS 40) ["_law_web_here", "_law_ends_here", "_law_outs", "_law_ins"] := fun _ _ _ _ _ _ us hl => match us, hl with | [_, _, _, _], _ => rfl
theorem t__law_made [ScrK] : DefTx exF (topS 41) ["_law_web_here", "_law_ends_here", "_law_price", "_law_outs", "_law_ins", "_law_number", "_law_left", "_law_fences", "_law_tie", "_law_first", "_law_upper", "_law_lower", "_law_k", "_law_side", "_law_weight"] ["_law_web_here", "_law_ends_here", "_law_price", "_law_outs", "_law_ins", "_law_number"] m__law_made := ⟨⟨rfl, rfl, rfl, by decide +kernel, rfl, by decide +kernel, by decide +kernel⟩, rfl, rfl, by decide +kernel⟩
theorem b__law_made : BindsQ "_law_made" (topS 41) ["_law_web_here", "_law_ends_here", "_law_price", "_law_outs", "_law_ins", "_law_number"] := fun _ _ _ _ _ _ us hl => match us, hl with | [_, _, _, _, _, _], _ => rfl
theorem t_law [ScrK] : DefTx exF (topS 42) ["_law_script", "_law_web_here", "_law_ends_here", "_law_least_here", "_law_number", "_law_price", "_law_thing", "_law_found"] ["_law_script"] m_law := ⟨⟨rfl, rfl, rfl, by decide +kernel, rfl, by decide +kernel, by decide +kernel⟩, rfl, rfl, by decide +kernel⟩
theorem b_law : BindsQ "law" (topS 42) ["_law_script"] := fun _ _ _ _ _ _ us hl => match us, hl with | [_], _ => rfl
def mdT : List (Str × MD) := (("common", m_common) : Str × MD) :: (("plain", m_plain) : Str × MD) :: (("plus", m_plus) : Str × MD) :: (("is_above", m_is_above) : Str × MD) :: (("is_fraction", m_is_fraction) : Str × MD) :: (("is_number", m_is_number) : Str × MD) :: (("are_some", m_are_some) : Str × MD) :: (("pieces", m_pieces) : Str × MD) :: (("joins", m_joins) : Str × MD) :: (("cost", m_cost) : Str × MD) :: (("worth", m_worth) : Str × MD) :: (("parts", m_parts) : Str × MD) :: (("load", m_load) : Str × MD) :: (("is_fence", m_is_fence) : Str × MD) :: (("are_fences_at", m_are_fences_at) : Str × MD) :: (("prices_at", m_prices_at) : Str × MD) :: (("is_paper_at", m_is_paper_at) : Str × MD) :: (("is_paper", m_is_paper) : Str × MD) :: (("_law_cell_at", m__law_cell_at) : Str × MD) :: (("_law_mixed", m__law_mixed) : Str × MD) :: (("_law_drawn", m__law_drawn) : Str × MD) :: (("_law_web", m__law_web) : Str × MD) :: (("_law_pieces", m__law_pieces) : Str × MD) :: (("_law_joins", m__law_joins) : Str × MD) :: (("_law_every", m__law_every) : Str × MD) :: (("_law_cost", m__law_cost) : Str × MD) :: (("_law_least", m__law_least) : Str × MD) :: (("_law_are_some", m__law_are_some) : Str × MD) :: (("_law_is_part", m__law_is_part) : Str × MD) :: (("_law_plus", m__law_plus) : Str × MD) :: (("_law_are_fences", m__law_are_fences) : Str × MD) :: (("_law_is_paper", m__law_is_paper) : Str × MD) :: (("_law_single", m__law_single) : Str × MD) :: (("_law_made", m__law_made) : Str × MD) :: (("law", m_law) : Str × MD) :: []
def xdT : List (Str × XD) := [("_law_ends", endsX)]
def coT : List (Str × D) := []
def prog : Prog := ⟨lkp mdT, lkp xdT, lkp coT, exF⟩
theorem x__law_ends {P : Program} {w : World} {K : PySem.W.Frag} {mg : Str → Option Value} {base : Heap} {k : Nat} {Φ : Tab} [ScrK] (hK : K = ScrK.K) {f : Addr} {fd : FuncData} (F : Fun K "_law_ends" "_law_ends" (topS 28) f fd) (T : TabOk P w K mg base k Φ) : FnOk P w K mg base (L2.CX P w) (k + 1) f fd ["_law_number", "_law_web_here", "_law_most"] (spD mg (endsX Φ)) :=
  ends_ok hK F (N := ["_law_number", "_law_web_here", "_law_most", "_law_found", "_law_k"]) ⟨rfl, rfl, rfl, by decide +kernel, rfl, by decide +kernel, by decide +kernel⟩ rfl rfl rfl (by decide +kernel) T
theorem all_mk {wf : Nat} (hl : ∀ ns : List Int, ns.length ≤ 63 → (runP prog wf 60 "law").map (fun φ => φ [.scr ns]) = some (ok (.bl true))) {P : Program} {w : World} {K : PySem.W.Frag} {h : Heap} {mg : Str → Option Value} {fa : Addr} (X : K.In h) (G : h.Ns mainGlobals mg) (hfa : mg "law" = some (.ref fa))
    {f0 : Addr} {od0 an0 : Option Addr} {sl0 : Array (Option Value)} {oc0 kV0 dc0 pm0 cd0 ct0 : Value}
    {f1 : Addr} {od1 an1 : Option Addr} {sl1 : Array (Option Value)} {oc1 kV1 dc1 pm1 cd1 ct1 : Value}
    {f2 : Addr} {od2 an2 : Option Addr} {sl2 : Array (Option Value)} {oc2 kV2 dc2 pm2 cd2 ct2 : Value}
    {f3 : Addr} {od3 an3 : Option Addr} {sl3 : Array (Option Value)} {oc3 kV3 dc3 pm3 cd3 ct3 : Value}
    {f4 : Addr} {od4 an4 : Option Addr} {sl4 : Array (Option Value)} {oc4 kV4 dc4 pm4 cd4 ct4 : Value}
    {f5 : Addr} {od5 an5 : Option Addr} {sl5 : Array (Option Value)} {oc5 kV5 dc5 pm5 cd5 ct5 : Value}
    {f6 : Addr} {od6 an6 : Option Addr} {sl6 : Array (Option Value)} {oc6 kV6 dc6 pm6 cd6 ct6 : Value}
    {f7 : Addr} {od7 an7 : Option Addr} {sl7 : Array (Option Value)} {oc7 kV7 dc7 pm7 cd7 ct7 : Value}
    {f8 : Addr} {od8 an8 : Option Addr} {sl8 : Array (Option Value)} {oc8 kV8 dc8 pm8 cd8 ct8 : Value}
    {f9 : Addr} {od9 an9 : Option Addr} {sl9 : Array (Option Value)} {oc9 kV9 dc9 pm9 cd9 ct9 : Value}
    {f10 : Addr} {od10 an10 : Option Addr} {sl10 : Array (Option Value)} {oc10 kV10 dc10 pm10 cd10 ct10 : Value}
    {f11 : Addr} {od11 an11 : Option Addr} {sl11 : Array (Option Value)} {oc11 kV11 dc11 pm11 cd11 ct11 : Value}
    {f12 : Addr} {od12 an12 : Option Addr} {sl12 : Array (Option Value)} {oc12 kV12 dc12 pm12 cd12 ct12 : Value}
    {f13 : Addr} {od13 an13 : Option Addr} {sl13 : Array (Option Value)} {oc13 kV13 dc13 pm13 cd13 ct13 : Value}
    {f14 : Addr} {od14 an14 : Option Addr} {sl14 : Array (Option Value)} {oc14 kV14 dc14 pm14 cd14 ct14 : Value}
    {f15 : Addr} {od15 an15 : Option Addr} {sl15 : Array (Option Value)} {oc15 kV15 dc15 pm15 cd15 ct15 : Value}
    {f16 : Addr} {od16 an16 : Option Addr} {sl16 : Array (Option Value)} {oc16 kV16 dc16 pm16 cd16 ct16 : Value}
    {f17 : Addr} {od17 an17 : Option Addr} {sl17 : Array (Option Value)} {oc17 kV17 dc17 pm17 cd17 ct17 : Value}
    {f18 : Addr} {od18 an18 : Option Addr} {sl18 : Array (Option Value)} {oc18 kV18 dc18 pm18 cd18 ct18 : Value}
    {f19 : Addr} {od19 an19 : Option Addr} {sl19 : Array (Option Value)} {oc19 kV19 dc19 pm19 cd19 ct19 : Value}
    {f20 : Addr} {od20 an20 : Option Addr} {sl20 : Array (Option Value)} {oc20 kV20 dc20 pm20 cd20 ct20 : Value}
    {f21 : Addr} {od21 an21 : Option Addr} {sl21 : Array (Option Value)} {oc21 kV21 dc21 pm21 cd21 ct21 : Value}
    {f22 : Addr} {od22 an22 : Option Addr} {sl22 : Array (Option Value)} {oc22 kV22 dc22 pm22 cd22 ct22 : Value}
    {f23 : Addr} {od23 an23 : Option Addr} {sl23 : Array (Option Value)} {oc23 kV23 dc23 pm23 cd23 ct23 : Value}
    {f24 : Addr} {od24 an24 : Option Addr} {sl24 : Array (Option Value)} {oc24 kV24 dc24 pm24 cd24 ct24 : Value}
    {f25 : Addr} {od25 an25 : Option Addr} {sl25 : Array (Option Value)} {oc25 kV25 dc25 pm25 cd25 ct25 : Value}
    {f26 : Addr} {od26 an26 : Option Addr} {sl26 : Array (Option Value)} {oc26 kV26 dc26 pm26 cd26 ct26 : Value}
    {f27 : Addr} {od27 an27 : Option Addr} {sl27 : Array (Option Value)} {oc27 kV27 dc27 pm27 cd27 ct27 : Value}
    {f28 : Addr} {od28 an28 : Option Addr} {sl28 : Array (Option Value)} {oc28 kV28 dc28 pm28 cd28 ct28 : Value}
    {f29 : Addr} {od29 an29 : Option Addr} {sl29 : Array (Option Value)} {oc29 kV29 dc29 pm29 cd29 ct29 : Value}
    {f30 : Addr} {od30 an30 : Option Addr} {sl30 : Array (Option Value)} {oc30 kV30 dc30 pm30 cd30 ct30 : Value}
    {f31 : Addr} {od31 an31 : Option Addr} {sl31 : Array (Option Value)} {oc31 kV31 dc31 pm31 cd31 ct31 : Value}
    {f32 : Addr} {od32 an32 : Option Addr} {sl32 : Array (Option Value)} {oc32 kV32 dc32 pm32 cd32 ct32 : Value}
    {f33 : Addr} {od33 an33 : Option Addr} {sl33 : Array (Option Value)} {oc33 kV33 dc33 pm33 cd33 ct33 : Value}
    {f34 : Addr} {od34 an34 : Option Addr} {sl34 : Array (Option Value)} {oc34 kV34 dc34 pm34 cd34 ct34 : Value}
    {f35 : Addr} {od35 an35 : Option Addr} {sl35 : Array (Option Value)} {oc35 kV35 dc35 pm35 cd35 ct35 : Value}
    (a0 : PySem.W.nsIn K mainGlobals "common" = some (some (.ref f0)))
    (l0 : K.lookup f0 = some ⟨oc0, od0, .func (PySem.W.fnOf "common" "common" (defArgs (topS 1)) (defBody (topS 1)) (defScope (topS 1)) .none kV0 dc0 pm0 an0 cd0 ct0), sl0⟩)
    (c0 : PySem.W.codeIn K cd0 "common" = true)
    (k0 : PySem.W.keepIn K (.ref f0) = true)
    (a1 : PySem.W.nsIn K mainGlobals "plain" = some (some (.ref f1)))
    (l1 : K.lookup f1 = some ⟨oc1, od1, .func (PySem.W.fnOf "plain" "plain" (defArgs (topS 2)) (defBody (topS 2)) (defScope (topS 2)) .none kV1 dc1 pm1 an1 cd1 ct1), sl1⟩)
    (c1 : PySem.W.codeIn K cd1 "plain" = true)
    (k1 : PySem.W.keepIn K (.ref f1) = true)
    (a2 : PySem.W.nsIn K mainGlobals "plus" = some (some (.ref f2)))
    (l2 : K.lookup f2 = some ⟨oc2, od2, .func (PySem.W.fnOf "plus" "plus" (defArgs (topS 3)) (defBody (topS 3)) (defScope (topS 3)) .none kV2 dc2 pm2 an2 cd2 ct2), sl2⟩)
    (c2 : PySem.W.codeIn K cd2 "plus" = true)
    (k2 : PySem.W.keepIn K (.ref f2) = true)
    (a3 : PySem.W.nsIn K mainGlobals "is_above" = some (some (.ref f3)))
    (l3 : K.lookup f3 = some ⟨oc3, od3, .func (PySem.W.fnOf "is_above" "is_above" (defArgs (topS 4)) (defBody (topS 4)) (defScope (topS 4)) .none kV3 dc3 pm3 an3 cd3 ct3), sl3⟩)
    (c3 : PySem.W.codeIn K cd3 "is_above" = true)
    (k3 : PySem.W.keepIn K (.ref f3) = true)
    (a4 : PySem.W.nsIn K mainGlobals "is_fraction" = some (some (.ref f4)))
    (l4 : K.lookup f4 = some ⟨oc4, od4, .func (PySem.W.fnOf "is_fraction" "is_fraction" (defArgs (topS 5)) (defBody (topS 5)) (defScope (topS 5)) .none kV4 dc4 pm4 an4 cd4 ct4), sl4⟩)
    (c4 : PySem.W.codeIn K cd4 "is_fraction" = true)
    (k4 : PySem.W.keepIn K (.ref f4) = true)
    (a5 : PySem.W.nsIn K mainGlobals "is_number" = some (some (.ref f5)))
    (l5 : K.lookup f5 = some ⟨oc5, od5, .func (PySem.W.fnOf "is_number" "is_number" (defArgs (topS 7)) (defBody (topS 7)) (defScope (topS 7)) .none kV5 dc5 pm5 an5 cd5 ct5), sl5⟩)
    (c5 : PySem.W.codeIn K cd5 "is_number" = true)
    (k5 : PySem.W.keepIn K (.ref f5) = true)
    (a6 : PySem.W.nsIn K mainGlobals "are_some" = some (some (.ref f6)))
    (l6 : K.lookup f6 = some ⟨oc6, od6, .func (PySem.W.fnOf "are_some" "are_some" (defArgs (topS 8)) (defBody (topS 8)) (defScope (topS 8)) .none kV6 dc6 pm6 an6 cd6 ct6), sl6⟩)
    (c6 : PySem.W.codeIn K cd6 "are_some" = true)
    (k6 : PySem.W.keepIn K (.ref f6) = true)
    (a7 : PySem.W.nsIn K mainGlobals "pieces" = some (some (.ref f7)))
    (l7 : K.lookup f7 = some ⟨oc7, od7, .func (PySem.W.fnOf "pieces" "pieces" (defArgs (topS 10)) (defBody (topS 10)) (defScope (topS 10)) .none kV7 dc7 pm7 an7 cd7 ct7), sl7⟩)
    (c7 : PySem.W.codeIn K cd7 "pieces" = true)
    (k7 : PySem.W.keepIn K (.ref f7) = true)
    (a8 : PySem.W.nsIn K mainGlobals "joins" = some (some (.ref f8)))
    (l8 : K.lookup f8 = some ⟨oc8, od8, .func (PySem.W.fnOf "joins" "joins" (defArgs (topS 11)) (defBody (topS 11)) (defScope (topS 11)) .none kV8 dc8 pm8 an8 cd8 ct8), sl8⟩)
    (c8 : PySem.W.codeIn K cd8 "joins" = true)
    (k8 : PySem.W.keepIn K (.ref f8) = true)
    (a9 : PySem.W.nsIn K mainGlobals "cost" = some (some (.ref f9)))
    (l9 : K.lookup f9 = some ⟨oc9, od9, .func (PySem.W.fnOf "cost" "cost" (defArgs (topS 12)) (defBody (topS 12)) (defScope (topS 12)) .none kV9 dc9 pm9 an9 cd9 ct9), sl9⟩)
    (c9 : PySem.W.codeIn K cd9 "cost" = true)
    (k9 : PySem.W.keepIn K (.ref f9) = true)
    (a10 : PySem.W.nsIn K mainGlobals "worth" = some (some (.ref f10)))
    (l10 : K.lookup f10 = some ⟨oc10, od10, .func (PySem.W.fnOf "worth" "worth" (defArgs (topS 14)) (defBody (topS 14)) (defScope (topS 14)) .none kV10 dc10 pm10 an10 cd10 ct10), sl10⟩)
    (c10 : PySem.W.codeIn K cd10 "worth" = true)
    (k10 : PySem.W.keepIn K (.ref f10) = true)
    (a11 : PySem.W.nsIn K mainGlobals "parts" = some (some (.ref f11)))
    (l11 : K.lookup f11 = some ⟨oc11, od11, .func (PySem.W.fnOf "parts" "parts" (defArgs (topS 15)) (defBody (topS 15)) (defScope (topS 15)) .none kV11 dc11 pm11 an11 cd11 ct11), sl11⟩)
    (c11 : PySem.W.codeIn K cd11 "parts" = true)
    (k11 : PySem.W.keepIn K (.ref f11) = true)
    (a12 : PySem.W.nsIn K mainGlobals "load" = some (some (.ref f12)))
    (l12 : K.lookup f12 = some ⟨oc12, od12, .func (PySem.W.fnOf "load" "load" (defArgs (topS 16)) (defBody (topS 16)) (defScope (topS 16)) .none kV12 dc12 pm12 an12 cd12 ct12), sl12⟩)
    (c12 : PySem.W.codeIn K cd12 "load" = true)
    (k12 : PySem.W.keepIn K (.ref f12) = true)
    (a13 : PySem.W.nsIn K mainGlobals "is_fence" = some (some (.ref f13)))
    (l13 : K.lookup f13 = some ⟨oc13, od13, .func (PySem.W.fnOf "is_fence" "is_fence" (defArgs (topS 17)) (defBody (topS 17)) (defScope (topS 17)) .none kV13 dc13 pm13 an13 cd13 ct13), sl13⟩)
    (c13 : PySem.W.codeIn K cd13 "is_fence" = true)
    (k13 : PySem.W.keepIn K (.ref f13) = true)
    (a14 : PySem.W.nsIn K mainGlobals "are_fences_at" = some (some (.ref f14)))
    (l14 : K.lookup f14 = some ⟨oc14, od14, .func (PySem.W.fnOf "are_fences_at" "are_fences_at" (defArgs (topS 18)) (defBody (topS 18)) (defScope (topS 18)) .none kV14 dc14 pm14 an14 cd14 ct14), sl14⟩)
    (c14 : PySem.W.codeIn K cd14 "are_fences_at" = true)
    (k14 : PySem.W.keepIn K (.ref f14) = true)
    (a15 : PySem.W.nsIn K mainGlobals "prices_at" = some (some (.ref f15)))
    (l15 : K.lookup f15 = some ⟨oc15, od15, .func (PySem.W.fnOf "prices_at" "prices_at" (defArgs (topS 20)) (defBody (topS 20)) (defScope (topS 20)) .none kV15 dc15 pm15 an15 cd15 ct15), sl15⟩)
    (c15 : PySem.W.codeIn K cd15 "prices_at" = true)
    (k15 : PySem.W.keepIn K (.ref f15) = true)
    (a16 : PySem.W.nsIn K mainGlobals "is_paper_at" = some (some (.ref f16)))
    (l16 : K.lookup f16 = some ⟨oc16, od16, .func (PySem.W.fnOf "is_paper_at" "is_paper_at" (defArgs (topS 21)) (defBody (topS 21)) (defScope (topS 21)) .none kV16 dc16 pm16 an16 cd16 ct16), sl16⟩)
    (c16 : PySem.W.codeIn K cd16 "is_paper_at" = true)
    (k16 : PySem.W.keepIn K (.ref f16) = true)
    (a17 : PySem.W.nsIn K mainGlobals "is_paper" = some (some (.ref f17)))
    (l17 : K.lookup f17 = some ⟨oc17, od17, .func (PySem.W.fnOf "is_paper" "is_paper" (defArgs (topS 22)) (defBody (topS 22)) (defScope (topS 22)) .none kV17 dc17 pm17 an17 cd17 ct17), sl17⟩)
    (c17 : PySem.W.codeIn K cd17 "is_paper" = true)
    (k17 : PySem.W.keepIn K (.ref f17) = true)
    (a18 : PySem.W.nsIn K mainGlobals "_law_cell_at" = some (some (.ref f18)))
    (l18 : K.lookup f18 = some ⟨oc18, od18, .func (PySem.W.fnOf "_law_cell_at" "_law_cell_at" (defArgs (topS 24)) (defBody (topS 24)) (defScope (topS 24)) .none kV18 dc18 pm18 an18 cd18 ct18), sl18⟩)
    (c18 : PySem.W.codeIn K cd18 "_law_cell_at" = true)
    (k18 : PySem.W.keepIn K (.ref f18) = true)
    (a19 : PySem.W.nsIn K mainGlobals "_law_mixed" = some (some (.ref f19)))
    (l19 : K.lookup f19 = some ⟨oc19, od19, .func (PySem.W.fnOf "_law_mixed" "_law_mixed" (defArgs (topS 25)) (defBody (topS 25)) (defScope (topS 25)) .none kV19 dc19 pm19 an19 cd19 ct19), sl19⟩)
    (c19 : PySem.W.codeIn K cd19 "_law_mixed" = true)
    (k19 : PySem.W.keepIn K (.ref f19) = true)
    (a20 : PySem.W.nsIn K mainGlobals "_law_drawn" = some (some (.ref f20)))
    (l20 : K.lookup f20 = some ⟨oc20, od20, .func (PySem.W.fnOf "_law_drawn" "_law_drawn" (defArgs (topS 26)) (defBody (topS 26)) (defScope (topS 26)) .none kV20 dc20 pm20 an20 cd20 ct20), sl20⟩)
    (c20 : PySem.W.codeIn K cd20 "_law_drawn" = true)
    (k20 : PySem.W.keepIn K (.ref f20) = true)
    (a21 : PySem.W.nsIn K mainGlobals "_law_web" = some (some (.ref f21)))
    (l21 : K.lookup f21 = some ⟨oc21, od21, .func (PySem.W.fnOf "_law_web" "_law_web" (defArgs (topS 27)) (defBody (topS 27)) (defScope (topS 27)) .none kV21 dc21 pm21 an21 cd21 ct21), sl21⟩)
    (c21 : PySem.W.codeIn K cd21 "_law_web" = true)
    (k21 : PySem.W.keepIn K (.ref f21) = true)
    (a22 : PySem.W.nsIn K mainGlobals "_law_ends" = some (some (.ref f22)))
    (l22 : K.lookup f22 = some ⟨oc22, od22, .func (PySem.W.fnOf "_law_ends" "_law_ends" (defArgs (topS 28)) (defBody (topS 28)) (defScope (topS 28)) .none kV22 dc22 pm22 an22 cd22 ct22), sl22⟩)
    (c22 : PySem.W.codeIn K cd22 "_law_ends" = true)
    (k22 : PySem.W.keepIn K (.ref f22) = true)
    (a23 : PySem.W.nsIn K mainGlobals "_law_pieces" = some (some (.ref f23)))
    (l23 : K.lookup f23 = some ⟨oc23, od23, .func (PySem.W.fnOf "_law_pieces" "_law_pieces" (defArgs (topS 29)) (defBody (topS 29)) (defScope (topS 29)) .none kV23 dc23 pm23 an23 cd23 ct23), sl23⟩)
    (c23 : PySem.W.codeIn K cd23 "_law_pieces" = true)
    (k23 : PySem.W.keepIn K (.ref f23) = true)
    (a24 : PySem.W.nsIn K mainGlobals "_law_joins" = some (some (.ref f24)))
    (l24 : K.lookup f24 = some ⟨oc24, od24, .func (PySem.W.fnOf "_law_joins" "_law_joins" (defArgs (topS 30)) (defBody (topS 30)) (defScope (topS 30)) .none kV24 dc24 pm24 an24 cd24 ct24), sl24⟩)
    (c24 : PySem.W.codeIn K cd24 "_law_joins" = true)
    (k24 : PySem.W.keepIn K (.ref f24) = true)
    (a25 : PySem.W.nsIn K mainGlobals "_law_every" = some (some (.ref f25)))
    (l25 : K.lookup f25 = some ⟨oc25, od25, .func (PySem.W.fnOf "_law_every" "_law_every" (defArgs (topS 31)) (defBody (topS 31)) (defScope (topS 31)) .none kV25 dc25 pm25 an25 cd25 ct25), sl25⟩)
    (c25 : PySem.W.codeIn K cd25 "_law_every" = true)
    (k25 : PySem.W.keepIn K (.ref f25) = true)
    (a26 : PySem.W.nsIn K mainGlobals "_law_cost" = some (some (.ref f26)))
    (l26 : K.lookup f26 = some ⟨oc26, od26, .func (PySem.W.fnOf "_law_cost" "_law_cost" (defArgs (topS 32)) (defBody (topS 32)) (defScope (topS 32)) .none kV26 dc26 pm26 an26 cd26 ct26), sl26⟩)
    (c26 : PySem.W.codeIn K cd26 "_law_cost" = true)
    (k26 : PySem.W.keepIn K (.ref f26) = true)
    (a27 : PySem.W.nsIn K mainGlobals "_law_least" = some (some (.ref f27)))
    (l27 : K.lookup f27 = some ⟨oc27, od27, .func (PySem.W.fnOf "_law_least" "_law_least" (defArgs (topS 33)) (defBody (topS 33)) (defScope (topS 33)) .none kV27 dc27 pm27 an27 cd27 ct27), sl27⟩)
    (c27 : PySem.W.codeIn K cd27 "_law_least" = true)
    (k27 : PySem.W.keepIn K (.ref f27) = true)
    (a28 : PySem.W.nsIn K mainGlobals "_law_are_some" = some (some (.ref f28)))
    (l28 : K.lookup f28 = some ⟨oc28, od28, .func (PySem.W.fnOf "_law_are_some" "_law_are_some" (defArgs (topS 34)) (defBody (topS 34)) (defScope (topS 34)) .none kV28 dc28 pm28 an28 cd28 ct28), sl28⟩)
    (c28 : PySem.W.codeIn K cd28 "_law_are_some" = true)
    (k28 : PySem.W.keepIn K (.ref f28) = true)
    (a29 : PySem.W.nsIn K mainGlobals "_law_is_part" = some (some (.ref f29)))
    (l29 : K.lookup f29 = some ⟨oc29, od29, .func (PySem.W.fnOf "_law_is_part" "_law_is_part" (defArgs (topS 36)) (defBody (topS 36)) (defScope (topS 36)) .none kV29 dc29 pm29 an29 cd29 ct29), sl29⟩)
    (c29 : PySem.W.codeIn K cd29 "_law_is_part" = true)
    (k29 : PySem.W.keepIn K (.ref f29) = true)
    (a30 : PySem.W.nsIn K mainGlobals "_law_plus" = some (some (.ref f30)))
    (l30 : K.lookup f30 = some ⟨oc30, od30, .func (PySem.W.fnOf "_law_plus" "_law_plus" (defArgs (topS 37)) (defBody (topS 37)) (defScope (topS 37)) .none kV30 dc30 pm30 an30 cd30 ct30), sl30⟩)
    (c30 : PySem.W.codeIn K cd30 "_law_plus" = true)
    (k30 : PySem.W.keepIn K (.ref f30) = true)
    (a31 : PySem.W.nsIn K mainGlobals "_law_are_fences" = some (some (.ref f31)))
    (l31 : K.lookup f31 = some ⟨oc31, od31, .func (PySem.W.fnOf "_law_are_fences" "_law_are_fences" (defArgs (topS 38)) (defBody (topS 38)) (defScope (topS 38)) .none kV31 dc31 pm31 an31 cd31 ct31), sl31⟩)
    (c31 : PySem.W.codeIn K cd31 "_law_are_fences" = true)
    (k31 : PySem.W.keepIn K (.ref f31) = true)
    (a32 : PySem.W.nsIn K mainGlobals "_law_is_paper" = some (some (.ref f32)))
    (l32 : K.lookup f32 = some ⟨oc32, od32, .func (PySem.W.fnOf "_law_is_paper" "_law_is_paper" (defArgs (topS 39)) (defBody (topS 39)) (defScope (topS 39)) .none kV32 dc32 pm32 an32 cd32 ct32), sl32⟩)
    (c32 : PySem.W.codeIn K cd32 "_law_is_paper" = true)
    (k32 : PySem.W.keepIn K (.ref f32) = true)
    (a33 : PySem.W.nsIn K mainGlobals "_law_single" = some (some (.ref f33)))
    (l33 : K.lookup f33 = some ⟨oc33, od33, .func (PySem.W.fnOf "_law_single" "_law_single" (defArgs (topS 40)) (defBody (topS 40)) (defScope (topS 40)) .none kV33 dc33 pm33 an33 cd33 ct33), sl33⟩)
    (c33 : PySem.W.codeIn K cd33 "_law_single" = true)
    (k33 : PySem.W.keepIn K (.ref f33) = true)
    (a34 : PySem.W.nsIn K mainGlobals "_law_made" = some (some (.ref f34)))
    (l34 : K.lookup f34 = some ⟨oc34, od34, .func (PySem.W.fnOf "_law_made" "_law_made" (defArgs (topS 41)) (defBody (topS 41)) (defScope (topS 41)) .none kV34 dc34 pm34 an34 cd34 ct34), sl34⟩)
    (c34 : PySem.W.codeIn K cd34 "_law_made" = true)
    (k34 : PySem.W.keepIn K (.ref f34) = true)
    (a35 : PySem.W.nsIn K mainGlobals "law" = some (some (.ref f35)))
    (l35 : K.lookup f35 = some ⟨oc35, od35, .func (PySem.W.fnOf "law" "law" (defArgs (topS 42)) (defBody (topS 42)) (defScope (topS 42)) .none kV35 dc35 pm35 an35 cd35 ct35), sl35⟩)
    (c35 : PySem.W.codeIn K cd35 "law" = true)
    (k35 : PySem.W.keepIn K (.ref f35) = true)
    (z0 : PySem.W.nsIn K mainGlobals "len" = some none)
    (z1 : PySem.W.nsIn K mainGlobals "tuple" = some none)
    (z2 : PySem.W.nsIn K mainGlobals "list" = some none)
    (z3 : PySem.W.nsIn K mainGlobals "sum" = some none)
    (z4 : PySem.W.nsIn K mainGlobals "min" = some none)
    (z5 : PySem.W.nsIn K mainGlobals "max" = some none)
    (z6 : PySem.W.nsIn K mainGlobals "sorted" = some none)
    (z7 : PySem.W.nsIn K mainGlobals "all" = some none)
    (z8 : PySem.W.nsIn K mainGlobals "any" = some none)
    (z9 : PySem.W.nsIn K mainGlobals "int" = some none)
    (z10 : PySem.W.nsIn K mainGlobals "str" = some none)
    (z11 : PySem.W.nsIn K mainGlobals "abs" = some none)
    (z12 : PySem.W.nsIn K mainGlobals "set" = some none)
    (z13 : PySem.W.nsIn K mainGlobals "isinstance" = some none)
    (z14 : PySem.W.nsIn K mainGlobals "range" = some none)
    (z15 : PySem.W.nsIn K mainGlobals "zip" = some none)
    (z16 : PySem.W.nsIn K mainGlobals "enumerate" = some none)
    (z17 : PySem.W.nsIn K mainGlobals "bool" = some none) :
    ∃ fd : FuncData, (∀ (s : Shared) (v : Value), BindsTo s fd ⟨[v], []⟩ [("_law_script", v)]) ∧ ∀ base : Heap, K.In base → base.Ns mainGlobals mg → FnOk P w K mg base (L2.CX P w) 60 fa fd ["_law_script"] (spLaw K) := by
  have e := hfa.symm.trans (PySem.W.mg_of X G a35)
  cases e
  let _ : ScrK := ⟨K⟩
  have F0 := topF_mk a0 l0 c0 k0
  have F1 := topF_mk a1 l1 c1 k1
  have F2 := topF_mk a2 l2 c2 k2
  have F3 := topF_mk a3 l3 c3 k3
  have F4 := topF_mk a4 l4 c4 k4
  have F5 := topF_mk a5 l5 c5 k5
  have F6 := topF_mk a6 l6 c6 k6
  have F7 := topF_mk a7 l7 c7 k7
  have F8 := topF_mk a8 l8 c8 k8
  have F9 := topF_mk a9 l9 c9 k9
  have F10 := topF_mk a10 l10 c10 k10
  have F11 := topF_mk a11 l11 c11 k11
  have F12 := topF_mk a12 l12 c12 k12
  have F13 := topF_mk a13 l13 c13 k13
  have F14 := topF_mk a14 l14 c14 k14
  have F15 := topF_mk a15 l15 c15 k15
  have F16 := topF_mk a16 l16 c16 k16
  have F17 := topF_mk a17 l17 c17 k17
  have F18 := topF_mk a18 l18 c18 k18
  have F19 := topF_mk a19 l19 c19 k19
  have F20 := topF_mk a20 l20 c20 k20
  have F21 := topF_mk a21 l21 c21 k21
  have F22 := topF_mk a22 l22 c22 k22
  have F23 := topF_mk a23 l23 c23 k23
  have F24 := topF_mk a24 l24 c24 k24
  have F25 := topF_mk a25 l25 c25 k25
  have F26 := topF_mk a26 l26 c26 k26
  have F27 := topF_mk a27 l27 c27 k27
  have F28 := topF_mk a28 l28 c28 k28
  have F29 := topF_mk a29 l29 c29 k29
  have F30 := topF_mk a30 l30 c30 k30
  have F31 := topF_mk a31 l31 c31 k31
  have F32 := topF_mk a32 l32 c32 k32
  have F33 := topF_mk a33 l33 c33 k33
  have F34 := topF_mk a34 l34 c34 k34
  have F35 := topF_mk a35 l35 c35 k35
  refine ⟨PySem.W.fnOf "law" "law" (defArgs (topS 42)) (defBody (topS 42)) (defScope (topS 42)) .none kV35 dc35 pm35 an35 cd35 ct35, fun s v => .of_eq rfl, fun base X2 G2 => ?_⟩
  have A : AllL (fun x m => DefOk K mg exF x m) mdT := .cons (defOk_mk X G t_common b_common F0) (.cons (defOk_mk X G t_plain b_plain F1) (.cons (defOk_mk X G t_plus b_plus F2) (.cons (defOk_mk X G t_is_above b_is_above F3) (.cons (defOk_mk X G t_is_fraction b_is_fraction F4) (.cons (defOk_mk X G t_is_number b_is_number F5) (.cons (defOk_mk X G t_are_some b_are_some F6) (.cons (defOk_mk X G t_pieces b_pieces F7) (.cons (defOk_mk X G t_joins b_joins F8) (.cons (defOk_mk X G t_cost b_cost F9) (.cons (defOk_mk X G t_worth b_worth F10) (.cons (defOk_mk X G t_parts b_parts F11) (.cons (defOk_mk X G t_load b_load F12) (.cons (defOk_mk X G t_is_fence b_is_fence F13) (.cons (defOk_mk X G t_are_fences_at b_are_fences_at F14) (.cons (defOk_mk X G t_prices_at b_prices_at F15) (.cons (defOk_mk X G t_is_paper_at b_is_paper_at F16) (.cons (defOk_mk X G t_is_paper b_is_paper F17) (.cons (defOk_mk X G t__law_cell_at b__law_cell_at F18) (.cons (defOk_mk X G t__law_mixed b__law_mixed F19) (.cons (defOk_mk X G t__law_drawn b__law_drawn F20) (.cons (defOk_mk X G t__law_web b__law_web F21) (.cons (defOk_mk X G t__law_pieces b__law_pieces F23) (.cons (defOk_mk X G t__law_joins b__law_joins F24) (.cons (defOk_mk X G t__law_every b__law_every F25) (.cons (defOk_mk X G t__law_cost b__law_cost F26) (.cons (defOk_mk X G t__law_least b__law_least F27) (.cons (defOk_mk X G t__law_are_some b__law_are_some F28) (.cons (defOk_mk X G t__law_is_part b__law_is_part F29) (.cons (defOk_mk X G t__law_plus b__law_plus F30) (.cons (defOk_mk X G t__law_are_fences b__law_are_fences F31) (.cons (defOk_mk X G t__law_is_paper b__law_is_paper F32) (.cons (defOk_mk X G t__law_single b__law_single F33) (.cons (defOk_mk X G t__law_made b__law_made F34) (.cons (defOk_mk X G t_law b_law F35) (.nil)))))))))))))))))))))))))))))))))))
  have B : AllL (fun x g => ∃ (f : Addr) (fd : FuncData) (ps : List Str), mg x = some (.ref f) ∧ PySem.W.keepIn K (.ref f) = true ∧ Binds K fd ps [] ∧ ∀ k Φ, Φ.co = prog.co → Φ.ex = prog.ex → TabOk P w K mg base k Φ → FnOk P w K mg base (L2.CX P w) (k + 1) f fd ps (spD mg (g Φ))) xdT := .cons ⟨_, _, ["_law_number", "_law_web_here", "_law_most"], PySem.W.mg_of X G F22.g, F22.f.kp, F22.f.binds b__law_ends, fun k Φ _ _ T => x__law_ends rfl F22.f T⟩ (.nil)
  have C : AllL (fun x d => CoOk mg x d) coT := .nil
  have Z : ∀ y ∈ bnames, mg y = none := by
    intro y hy
    simp only [bnames, List.mem_cons, List.not_mem_nil, or_false] at hy
    rcases hy with rfl | rfl | rfl | rfl | rfl | rfl | rfl | rfl | rfl | rfl | rfl | rfl | rfl | rfl | rfl | rfl | rfl | rfl
    · exact PySem.W.mg_none_of X G z0
    · exact PySem.W.mg_none_of X G z1
    · exact PySem.W.mg_none_of X G z2
    · exact PySem.W.mg_none_of X G z3
    · exact PySem.W.mg_none_of X G z4
    · exact PySem.W.mg_none_of X G z5
    · exact PySem.W.mg_none_of X G z6
    · exact PySem.W.mg_none_of X G z7
    · exact PySem.W.mg_none_of X G z8
    · exact PySem.W.mg_none_of X G z9
    · exact PySem.W.mg_none_of X G z10
    · exact PySem.W.mg_none_of X G z11
    · exact PySem.W.mg_none_of X G z12
    · exact PySem.W.mg_none_of X G z13
    · exact PySem.W.mg_none_of X G z14
    · exact PySem.W.mg_none_of X G z15
    · exact PySem.W.mg_none_of X G z16
    · exact PySem.W.mg_none_of X G z17
  have Ex : ∀ x, exF x = true → ExOk K mg x := by
    intro x hx
    cases hx
  have O : ProgOk P w K mg base prog := ⟨rfl, fun x m e => A.at_ e, fun x g _ e => B.at_ e, fun x d e => C.at_ e, Ex, Z⟩
  exact law_end (n := 59) O F35.f t_law rfl hl
end J

set_option Elab.async false
set_option linter.all false
/-! places and ties: what is joined -/
namespace J
/-- one place, other place, price -/
abbrev Tie := Nat × Nat × Nat
def tieAt (ts : List Tie) (n : Nat) : Tie := ts.getD n (0, 0, 0)
def mrg (a b : Nat) (f : List Nat) : List Nat := f.map fun z => if z = max (f.getD a 0) (f.getD b 0) then min (f.getD a 0) (f.getD b 0) else z
def pcs (m : Nat) (ts : List Tie) (s : List Nat) : List Nat := s.foldl (fun f n => mrg (tieAt ts n).1 (tieAt ts n).2.1 f) (List.range m)
inductive Con (ts : List Tie) (s : List Nat) : Nat → Nat → Prop
  | refl (x : Nat) : Con ts s x x
  | tie {n : Nat} : n ∈ s → Con ts s (tieAt ts n).1 (tieAt ts n).2.1
  | symm {x y : Nat} : Con ts s x y → Con ts s y x
  | trans {x y z : Nat} : Con ts s x y → Con ts s y z → Con ts s x z
theorem Con.mono {ts : List Tie} {s t : List Nat} (h : ∀ n ∈ s, n ∈ t) {x y : Nat} (c : Con ts s x y) : Con ts t x y := by
  induction c with
  | refl x => exact .refl x
  | tie hn => exact .tie (h _ hn)
  | symm _ ih => exact .symm ih
  | trans _ _ i1 i2 => exact .trans i1 i2
theorem con_nil {ts : List Tie} {x y : Nat} (c : Con ts [] x y) : x = y := by
  induction c with
  | refl x => rfl
  | tie hn => cases hn
  | symm _ ih => exact ih.symm
  | trans _ _ i1 i2 => exact i1.trans i2
theorem con_snoc {ts : List Tie} {s : List Nat} {n x y : Nat} (c : Con ts (s ++ [n]) x y) :
    Con ts s x y ∨ (Con ts s x (tieAt ts n).1 ∧ Con ts s (tieAt ts n).2.1 y) ∨ (Con ts s x (tieAt ts n).2.1 ∧ Con ts s (tieAt ts n).1 y) := by
  induction c with
  | refl x => exact .inl (.refl x)
  | @tie j hn =>
    rcases List.mem_append.mp hn with h | h
    · exact .inl (.tie h)
    · have e : j = n := by simpa using h
      subst e
      exact .inr (.inl ⟨.refl _, .refl _⟩)
  | symm _ ih =>
    rcases ih with h | ⟨h1, h2⟩ | ⟨h1, h2⟩
    · exact .inl h.symm
    · exact .inr (.inr ⟨h2.symm, h1.symm⟩)
    · exact .inr (.inl ⟨h2.symm, h1.symm⟩)
  | trans _ _ i1 i2 =>
    rcases i1 with h | ⟨h1, h2⟩ | ⟨h1, h2⟩
    · rcases i2 with k | ⟨k1, k2⟩ | ⟨k1, k2⟩
      · exact .inl (h.trans k)
      · exact .inr (.inl ⟨h.trans k1, k2⟩)
      · exact .inr (.inr ⟨h.trans k1, k2⟩)
    · rcases i2 with k | ⟨k1, k2⟩ | ⟨k1, k2⟩
      · exact .inr (.inl ⟨h1, h2.trans k⟩)
      · exact .inr (.inl ⟨h1, k2⟩)
      · exact .inl (h1.trans k2)
    · rcases i2 with k | ⟨k1, k2⟩ | ⟨k1, k2⟩
      · exact .inr (.inr ⟨h1, h2.trans k⟩)
      · exact .inl (h1.trans k2)
      · exact .inr (.inr ⟨h1, k2⟩)
theorem snoc_con {ts : List Tie} {s : List Nat} {n x y : Nat} (h : Con ts s x y ∨ (Con ts s x (tieAt ts n).1 ∧ Con ts s (tieAt ts n).2.1 y) ∨ (Con ts s x (tieAt ts n).2.1 ∧ Con ts s (tieAt ts n).1 y)) : Con ts (s ++ [n]) x y := by
  have m : ∀ {x y : Nat}, Con ts s x y → Con ts (s ++ [n]) x y := fun c => c.mono fun k hk => List.mem_append_left _ hk
  have t : Con ts (s ++ [n]) (tieAt ts n).1 (tieAt ts n).2.1 := .tie (List.mem_append_right _ (by simp))
  rcases h with h | ⟨h1, h2⟩ | ⟨h1, h2⟩
  · exact m h
  · exact (m h1).trans (t.trans (m h2))
  · exact (m h1).trans (t.symm.trans (m h2))
theorem getD_map {f : List Nat} {g : Nat → Nat} {x : Nat} (h : x < f.length) : (f.map g).getD x 0 = g (f.getD x 0) := by
  simp [List.getD, h]
theorem mrg_len (a b : Nat) (f : List Nat) : (mrg a b f).length = f.length := by simp [mrg]
theorem pcs_snoc (m : Nat) (ts : List Tie) (s : List Nat) (n : Nat) : pcs m ts (s ++ [n]) = mrg (tieAt ts n).1 (tieAt ts n).2.1 (pcs m ts s) := by
  simp [pcs]
theorem snoc_ind {α : Type} {P : List α → Prop} (h0 : P []) (h1 : ∀ s n, P s → P (s ++ [n])) (s : List α) : P s := by
  have h : ∀ k : Nat, ∀ s : List α, s.length = k → P s := by
    intro k
    induction k with
    | zero =>
      intro s h
      rw [List.length_eq_zero_iff.mp h]
      exact h0
    | succ k ih =>
      intro s h
      have hne : s ≠ [] := fun e => by subst e; simp at h
      have e := List.dropLast_concat_getLast hne
      rw [← e]
      exact h1 _ _ (ih _ (by simp [h]))
  exact h _ s rfl
theorem pcs_len (m : Nat) (ts : List Tie) (s : List Nat) : (pcs m ts s).length = m := by
  induction s using snoc_ind with
  | h0 => simp [pcs]
  | h1 s n ih => rw [pcs_snoc, mrg_len, ih]
/-- the part in which a place lies -/
def lab (m : Nat) (ts : List Tie) (s : List Nat) (x : Nat) : Nat := (pcs m ts s).getD x 0
/-- ties of the web -/
def InW (m : Nat) (ts : List Tie) : Prop := ∀ n, n < ts.length → (tieAt ts n).1 < m ∧ (tieAt ts n).2.1 < m
theorem lab_con {m : Nat} {ts : List Tie} (hw : InW m ts) (s : List Nat) : (∀ n ∈ s, n < ts.length) → ∀ x y, x < m → y < m → (lab m ts s x = lab m ts s y ↔ Con ts s x y) := by
  induction s using snoc_ind with
  | h0 =>
    intro _ x y hx hy
    simp only [lab, pcs, List.foldl_nil]
    have e : ∀ z, z < m → (List.range m).getD z 0 = z := fun z hz => by simp [List.getD, hz]
    rw [e x hx, e y hy]
    exact ⟨fun h => h ▸ .refl x, con_nil⟩
  | h1 s n ih =>
    intro hs x y hx hy
    have ih := ih fun k hk => hs k (List.mem_append_left _ hk)
    obtain ⟨ha, hb⟩ := hw n (hs n (List.mem_append_right _ (by simp)))
    have hl := pcs_len m ts s
    have e : ∀ z, z < m → lab m ts (s ++ [n]) z = if lab m ts s z = max (lab m ts s (tieAt ts n).1) (lab m ts s (tieAt ts n).2.1) then min (lab m ts s (tieAt ts n).1) (lab m ts s (tieAt ts n).2.1) else lab m ts s z := by
      intro z hz
      show (pcs m ts (s ++ [n])).getD z 0 = _
      rw [pcs_snoc]
      unfold mrg
      rw [getD_map (by rw [hl]; exact hz)]
      rfl
    rw [e x hx, e y hy]
    have hxy := ih x y hx hy
    have hxa := ih x _ hx ha
    have hxb := ih x _ hx hb
    have hya := ih _ y ha hy
    have hyb := ih _ y hb hy
    generalize lab m ts s x = lx at *
    generalize lab m ts s y = ly at *
    generalize lab m ts s (tieAt ts n).1 = la at *
    generalize lab m ts s (tieAt ts n).2.1 = lb at *
    constructor
    · intro h
      apply snoc_con
      rw [← hxy, ← hxa, ← hxb, ← hya, ← hyb]
      split at h <;> split at h <;> omega
    · intro h
      have h := con_snoc h
      rw [← hxy, ← hxa, ← hxb, ← hya, ← hyb] at h
      split <;> split <;> omega
/-- these ties join these ends -/
def Joins (ts : List Tie) (s ends : List Nat) : Prop := ∀ x ∈ ends, ∀ y ∈ ends, Con ts s x y
theorem Joins.mono {ts : List Tie} {s t ends : List Nat} (h : ∀ n ∈ s, n ∈ t) (j : Joins ts s ends) : Joins ts t ends := fun x hx y hy => (j x hx y hy).mono h
def joinB (m : Nat) (ts : List Tie) (s ends : List Nat) : Bool := ends.all fun e => lab m ts s e == lab m ts s (ends.headD 0)
theorem joinB_iff {m : Nat} {ts : List Tie} (hw : InW m ts) {s ends : List Nat} (hs : ∀ n ∈ s, n < ts.length) (he : ∀ x ∈ ends, x < m) : joinB m ts s ends = true ↔ Joins ts s ends := by
  unfold joinB
  rw [List.all_eq_true]
  cases ends with
  | nil => exact ⟨fun _ => fun x hx => (nomatch hx), fun _ => fun x hx => (nomatch hx)⟩
  | cons a r =>
    have ha := he a List.mem_cons_self
    constructor
    · intro h x hx y hy
      have h1 := h x hx
      have h2 := h y hy
      simp only [List.headD_cons, beq_iff_eq] at h1 h2
      exact (lab_con hw s hs x y (he x hx) (he y hy)).mp (h1.trans h2.symm)
    · intro h x hx
      simp only [List.headD_cons, beq_iff_eq]
      exact (lab_con hw s hs x a (he x hx) ha).mpr (h x hx a List.mem_cons_self)
end J

set_option Elab.async false
set_option linter.all false
set_option maxRecDepth 100000
set_option maxHeartbeats 4000000
/-! webs as data -/
namespace J
open PySem PV
def nD (n : Nat) : D := .int (n : Int)
def nsD (l : List Nat) : List D := l.map nD
def tieD (t : Tie) : D := .tup [nD t.1, nD t.2.1, nD t.2.2]
def webD (m : Nat) (ts : List Tie) : D := .tup [nD m, .tup (ts.map tieD)]
/-- a list or a tuple -/
def seqD (b : Bool) (xs : List D) : D := if b then .tup xs else .lst xs
theorem items_seq (b : Bool) (xs : List D) : items (seqD b xs) = some xs := by cases b <;> rfl
theorem ixN_nat {l n : Nat} (h : n < l) : L2.ixN l (n : Int) = some n := by
  unfold L2.ixN
  simp [h]
theorem atI_nat' {α : Type} {xs : List α} {n : Nat} (h : n < xs.length) : L2.atI xs (n : Int) = some xs[n] := by
  unfold L2.atI
  rw [ixN_nat h]
  simp [h]
theorem ix_seq {b : Bool} {xs : List D} {n : Nat} (h : n < xs.length) : ixD (seqD b xs) (nD n) = some xs[n] := by
  cases b
  · show L2.atI xs (n : Int) = _; exact atI_nat' h
  · show L2.atI xs (n : Int) = _; exact atI_nat' h
theorem ix_lst {xs : List D} {n : Nat} (h : n < xs.length) : ixD (.lst xs) (nD n) = some xs[n] := ix_seq (b := false) h
theorem ix_tup {xs : List D} {n : Nat} (h : n < xs.length) : ixD (.tup xs) (nD n) = some xs[n] := ix_seq (b := true) h
theorem ix_ns {b : Bool} {f : List Nat} {n : Nat} (h : n < f.length) : ixD (seqD b (nsD f)) (nD n) = some (nD (f.getD n 0)) := by
  rw [ix_seq (by simpa [nsD] using h)]
  simp [nsD, h]
theorem ix_nsl {f : List Nat} {n : Nat} (h : n < f.length) : ixD (.lst (nsD f)) (nD n) = some (nD (f.getD n 0)) := ix_ns (b := false) h
theorem ix_nst {f : List Nat} {n : Nat} (h : n < f.length) : ixD (.tup (nsD f)) (nD n) = some (nD (f.getD n 0)) := ix_ns (b := true) h
theorem ix_ts {ts : List Tie} {n : Nat} (h : n < ts.length) : ixD (.tup (ts.map tieD)) (nD n) = some (tieD (tieAt ts n)) := by
  rw [ix_tup (by simpa using h)]
  simp [tieAt, h]
theorem ix_web0 (m : Nat) (ts : List Tie) : ixD (webD m ts) (.int 0) = some (nD m) := rfl
theorem ix_web1 (m : Nat) (ts : List Tie) : ixD (webD m ts) (.int 1) = some (.tup (ts.map tieD)) := rfl
theorem ix_tie0 (t : Tie) : ixD (tieD t) (.int 0) = some (nD t.1) := rfl
theorem ix_tie1 (t : Tie) : ixD (tieD t) (.int 1) = some (nD t.2.1) := rfl
theorem ix_tie2 (t : Tie) : ixD (tieD t) (.int 2) = some (nD t.2.2) := rfl
theorem mm_min (a b : Nat) : mmD false (nD a) (nD b) = some (nD (min a b)) := by
  simp only [mmD, nD, Bool.false_eq_true, if_false]
  congr 2
  split <;> omega
theorem mm_max (a b : Nat) : mmD true (nD a) (nD b) = some (nD (max a b)) := by
  simp only [mmD, nD, if_true]
  congr 2
  split <;> omega
theorem fine_int (i : Int) : (D.int i).fine = true := by
  simp [D.fine, D.pln, D.dep]
theorem cop_eqn (a b : Nat) : cop .eq (nD a) (nD b) = some (a == b) := by
  simp only [cop, nD, fine_int, Bool.and_self, if_true, D.eqv]
  congr 1
  rw [Bool.eq_iff_iff]
  simp
  omega
theorem cop_nen (a b : Nat) : cop .ne (nD a) (nD b) = some (!(a == b)) := by
  simp only [cop, nD, fine_int, Bool.and_self, if_true, D.eqv]
  congr 2
  rw [Bool.eq_iff_iff]
  simp
  omega
theorem uop_int_bl (b : Bool) : uop .int (.bl b) = some (.int (if b then 1 else 0), .sh) := rfl
theorem ix_two (a b : D) (c : Bool) : ixD (.lst [a, b]) (.int (if c then 1 else 0)) = some (if c then b else a) := by
  cases c <;> rfl
theorem range_ns (n : Nat) : ((List.range ((n : Int).toNat)).map fun i => D.int (i : Nat)) = nsD (List.range n) := by
  rw [Int.toNat_natCast]; rfl
end J

set_option Elab.async false
set_option linter.all false
set_option maxRecDepth 100000
set_option maxHeartbeats 4000000
/-! pieces, by the program and by the law -/
namespace J
open PySem PV
def SPieces (φ : List D → M D) : Prop := ∀ (m : Nat) (ts : List Tie) (s : List Nat) (b : Bool), m ≤ 100 → InW m ts → (∀ n ∈ s, n < ts.length) → φ [webD m ts, seqD b (nsD s)] = ok (.lst (nsD (pcs m ts s)))
theorem take_succ' {α : Type} {xs : List α} {i : Nat} {d : α} (e : xs[i]? = some d) : xs.take (i + 1) = xs.take i ++ [d] := by
  rw [List.take_add_one, e]; rfl
theorem ns_at {s : List Nat} {i : Nat} {d : D} (e : (nsD s)[i]? = some d) : ∃ n, s[i]? = some n ∧ d = nD n := by
  simp only [nsD, List.getElem?_map, Option.map_eq_some_iff] at e
  obtain ⟨n, h1, h2⟩ := e
  exact ⟨n, h1, h2.symm⟩
theorem mrg_eq {a b : Nat} {f : List Nat} {lo hi : Nat} (h1 : min (f.getD a 0) (f.getD b 0) = lo) (h2 : max (f.getD a 0) (f.getD b 0) = hi) : nsD (mrg a b f) = f.map fun z => nD (if (z == hi) = true then lo else z) := by
  subst h1 h2
  simp only [mrg, nsD, List.map_map, beq_iff_eq]
  rfl
theorem if_nD (c : Bool) (a b : Nat) : (if c = true then nD a else nD b) = nD (if c = true then a else b) := by cases c <;> rfl
theorem pieces_ok {Φ : Tab} {wf : Nat} : SPieces (runD m_pieces Φ wf) := by
  intro m ts s b hm hw hs
  have step : ∀ (i : Nat) (d : D) (ρ : Rho), (nsD s)[i]? = some d → (∃ a c e f g h k, ρ = [.va (webD m ts), .va (seqD b (nsD s)), .va (.lst (nsD (pcs m ts (s.take i)))), a, c, e, f, g, h, k]) →
      ∃ ρ1 ρ2, bindT true [3] d ρ = some ρ1 ∧ evB Φ wf l2_pieces ρ1 = ok (.nx ρ2) ∧ (∃ a c e f g h k, ρ2 = [.va (webD m ts), .va (seqD b (nsD s)), .va (.lst (nsD (pcs m ts (s.take (i + 1))))), a, c, e, f, g, h, k]) := by
    rintro i d ρ e ⟨a, c, e1, f, g, h, k, rfl⟩
    obtain ⟨n, hn, rfl⟩ := ns_at e
    have hlt : n < ts.length := hs n (List.mem_of_getElem? hn)
    obtain ⟨w1, w2⟩ := hw n hlt
    have hl := pcs_len m ts (s.take i)
    rw [take_succ' hn, pcs_snoc]
    generalize pcs m ts (s.take i) = F at hl
    obtain ⟨lo, hlo⟩ : ∃ lo, min (F.getD (tieAt ts n).1 0) (F.getD (tieAt ts n).2.1 0) = lo := ⟨_, rfl⟩
    obtain ⟨hi, hhi⟩ : ∃ hi, max (F.getD (tieAt ts n).1 0) (F.getD (tieAt ts n).2.1 0) = hi := ⟨_, rfl⟩
    have hF : (nsD F).length ≤ top := by simp [nsD, hl, top]; omega
    refine ⟨_, [.va (webD m ts), .va (seqD b (nsD s)), .va (.lst (nsD (mrg (tieAt ts n).1 (tieAt ts n).2.1 F))), .va (nD n), .va (nD lo), .va (nD hi), .va (nD (tieAt ts n).1), .va (nD (tieAt ts n).2.1), .va (nD (tieAt ts n).2.2), k], rfl, ?_, ⟨_, _, _, _, _, _, _, rfl⟩⟩
    simp only [runD, evB, evS, evE, evA, evT, evAnd, evOr, evAndV, evOrV, evP, evI, mb_ok, mb_some, mb_er, op_some, keep_sh, keep_fr, blM_bl, intM_int, nerr_ok, Option.map_some, Option.bind_some, List.getElem?_cons_zero, List.getElem?_cons_succ, List.set_cons_zero, List.set_cons_succ, asgF, unpF, ownOf, appF, setAll, bindT, wipeR, List.length_cons, List.length_nil, List.map_cons, List.map_nil, List.replicate, List.cons_append, List.nil_append, if_true, Bool.false_eq_true, if_false, Nat.reduceAdd, Nat.reduceSub, Nat.zero_add, Nat.reduceEqDiff, Option.map_none, Nat.zero_le, Nat.reduceLT, Nat.reduceLeDiff, Bool.not_true, Bool.not_false, l2_pieces, ix_web1, ix_ts hlt]
    simp only [runD, evB, evS, evE, evA, evT, evAnd, evOr, evAndV, evOrV, evP, evI, mb_ok, mb_some, mb_er, op_some, keep_sh, keep_fr, blM_bl, intM_int, nerr_ok, Option.map_some, Option.bind_some, List.getElem?_cons_zero, List.getElem?_cons_succ, List.set_cons_zero, List.set_cons_succ, asgF, unpF, ownOf, appF, setAll, bindT, wipeR, List.length_cons, List.length_nil, List.map_cons, List.map_nil, List.replicate, List.cons_append, List.nil_append, if_true, Bool.false_eq_true, if_false, Nat.reduceAdd, Nat.reduceSub, Nat.zero_add, Nat.reduceEqDiff, Option.map_none, Nat.zero_le, Nat.reduceLT, Nat.reduceLeDiff, Bool.not_true, Bool.not_false, tieD, ix_nsl (show _ < F.length by rw [hl]; exact w1), ix_nsl (show _ < F.length by rw [hl]; exact w2), mm_min, mm_max, items, hlo, hhi]
    rw [if_pos hF, mrg_eq hlo hhi]
    unfold nsD
    rw [compL_map (g := fun z => nD (if (z == hi) = true then lo else z)) (fun x hx => by
      simp only [runD, evB, evS, evE, evA, evT, evAnd, evOr, evAndV, evOrV, evP, evI, mb_ok, mb_some, mb_er, op_some, keep_sh, keep_fr, blM_bl, intM_int, nerr_ok, Option.map_some, Option.bind_some, List.getElem?_cons_zero, List.getElem?_cons_succ, List.set_cons_zero, List.set_cons_succ, asgF, unpF, ownOf, appF, setAll, bindT, wipeR, List.length_cons, List.length_nil, List.map_cons, List.map_nil, List.replicate, List.cons_append, List.nil_append, if_true, Bool.false_eq_true, if_false, Nat.reduceAdd, Nat.reduceSub, Nat.zero_add, Nat.reduceEqDiff, Option.map_none, Nat.zero_le, Nat.reduceLT, Nat.reduceLeDiff, Bool.not_true, Bool.not_false, e1_pieces, cop_eqn, uop_int_bl, ix_two, if_nD, top, Nat.reduceLeDiff])]
    simp only [runD, evB, evS, evE, evA, evT, evAnd, evOr, evAndV, evOrV, evP, evI, mb_ok, mb_some, mb_er, op_some, keep_sh, keep_fr, blM_bl, intM_int, nerr_ok, Option.map_some, Option.bind_some, List.getElem?_cons_zero, List.getElem?_cons_succ, List.set_cons_zero, List.set_cons_succ, asgF, unpF, ownOf, appF, setAll, bindT, wipeR, List.length_cons, List.length_nil, List.map_cons, List.map_nil, List.replicate, List.cons_append, List.nil_append, if_true, Bool.false_eq_true, if_false, Nat.reduceAdd, Nat.reduceSub, Nat.zero_add, Nat.reduceEqDiff, Option.map_none, Nat.zero_le, Nat.reduceLT, Nat.reduceLeDiff, Bool.not_true, Bool.not_false]
  unfold m_pieces
  have h0 : ((m : Int) ≤ (top : Nat) ∧ 0 ≤ (m : Int)) := by simp [top]; omega
  simp only [runD, evB, evS, evE, evA, evT, evAnd, evOr, evAndV, evOrV, evP, evI, mb_ok, mb_some, mb_er, op_some, keep_sh, keep_fr, blM_bl, intM_int, nerr_ok, Option.map_some, Option.bind_some, List.getElem?_cons_zero, List.getElem?_cons_succ, List.set_cons_zero, List.set_cons_succ, asgF, unpF, ownOf, appF, setAll, bindT, wipeR, List.length_cons, List.length_nil, List.map_cons, List.map_nil, List.replicate, List.cons_append, List.nil_append, if_true, Bool.false_eq_true, if_false, Nat.reduceAdd, Nat.reduceSub, Nat.zero_add, Nat.reduceEqDiff, Option.map_none, Nat.zero_le, Nat.reduceLT, Nat.reduceLeDiff, Bool.not_true, Bool.not_false, ix_web0]
  simp only [runD, evB, evS, evE, evA, evT, evAnd, evOr, evAndV, evOrV, evP, evI, mb_ok, mb_some, mb_er, op_some, keep_sh, keep_fr, blM_bl, intM_int, nerr_ok, Option.map_some, Option.bind_some, List.getElem?_cons_zero, List.getElem?_cons_succ, List.set_cons_zero, List.set_cons_succ, asgF, unpF, ownOf, appF, setAll, bindT, wipeR, List.length_cons, List.length_nil, List.map_cons, List.map_nil, List.replicate, List.cons_append, List.nil_append, if_true, Bool.false_eq_true, if_false, Nat.reduceAdd, Nat.reduceSub, Nat.zero_add, Nat.reduceEqDiff, Option.map_none, Nat.zero_le, Nat.reduceLT, Nat.reduceLeDiff, Bool.not_true, Bool.not_false, nD, if_pos h0, range_ns, items_seq]
  obtain ⟨ρ', e, a, c, e1, f, g, h, k, rfl⟩ := forL_go (bind := bindT true [3]) (body := fun ρ => evB Φ wf l2_pieces ρ) (ds := nsD s) _ ⟨.no, .no, .no, .no, .no, .no, .no, rfl⟩ step
  have e := e
  simp only [List.take_zero, pcs, List.foldl_nil, webD, nD] at e
  simp only [webD, nD, e, runD, evB, evS, evE, evA, evT, evAnd, evOr, evAndV, evOrV, evP, evI, mb_ok, mb_some, mb_er, op_some, keep_sh, keep_fr, blM_bl, intM_int, nerr_ok, Option.map_some, Option.bind_some, List.getElem?_cons_zero, List.getElem?_cons_succ, List.set_cons_zero, List.set_cons_succ, asgF, unpF, ownOf, appF, setAll, bindT, wipeR, List.length_cons, List.length_nil, List.map_cons, List.map_nil, List.replicate, List.cons_append, List.nil_append, if_true, Bool.false_eq_true, if_false, Nat.reduceAdd, Nat.reduceSub, Nat.zero_add, Nat.reduceEqDiff, Option.map_none, Nat.zero_le, Nat.reduceLT, Nat.reduceLeDiff, Bool.not_true, Bool.not_false]
  rw [show (nsD s).length = s.length by simp [nsD], List.take_length]
  rfl
theorem law_pieces_ok {Φ : Tab} {wf : Nat} : SPieces (runD m__law_pieces Φ wf) := by
  intro m ts s b hm hw hs
  have step : ∀ (i : Nat) (d : D) (ρ : Rho), (nsD s)[i]? = some d → (∃ a c e f, ρ = [.va (webD m ts), .va (seqD b (nsD s)), .va (.lst (nsD (pcs m ts (s.take i)))), a, c, e, f]) →
      ∃ ρ1 ρ2, bindT true [3] d ρ = some ρ1 ∧ evB Φ wf l2__law_pieces ρ1 = ok (.nx ρ2) ∧ (∃ a c e f, ρ2 = [.va (webD m ts), .va (seqD b (nsD s)), .va (.lst (nsD (pcs m ts (s.take (i + 1))))), a, c, e, f]) := by
    rintro i d ρ e ⟨a, c, e1, f, rfl⟩
    obtain ⟨n, hn, rfl⟩ := ns_at e
    have hlt : n < ts.length := hs n (List.mem_of_getElem? hn)
    obtain ⟨w1, w2⟩ := hw n hlt
    have hl := pcs_len m ts (s.take i)
    rw [take_succ' hn, pcs_snoc]
    generalize pcs m ts (s.take i) = F at hl
    obtain ⟨lo, hlo⟩ : ∃ lo, min (F.getD (tieAt ts n).1 0) (F.getD (tieAt ts n).2.1 0) = lo := ⟨_, rfl⟩
    obtain ⟨hi, hhi⟩ : ∃ hi, max (F.getD (tieAt ts n).1 0) (F.getD (tieAt ts n).2.1 0) = hi := ⟨_, rfl⟩
    have hF : (nsD F).length ≤ top := by simp [nsD, hl, top]; omega
    refine ⟨_, [.va (webD m ts), .va (seqD b (nsD s)), .va (.lst (nsD (mrg (tieAt ts n).1 (tieAt ts n).2.1 F))), .va (nD n), .va (nD (F.getD (tieAt ts n).1 0)), .va (nD (F.getD (tieAt ts n).2.1 0)), f], rfl, ?_, ⟨_, _, _, _, rfl⟩⟩
    simp only [runD, evB, evS, evE, evA, evT, evAnd, evOr, evAndV, evOrV, evP, evI, mb_ok, mb_some, mb_er, op_some, keep_sh, keep_fr, blM_bl, intM_int, nerr_ok, Option.map_some, Option.bind_some, List.getElem?_cons_zero, List.getElem?_cons_succ, List.set_cons_zero, List.set_cons_succ, asgF, unpF, ownOf, appF, setAll, bindT, wipeR, List.length_cons, List.length_nil, List.map_cons, List.map_nil, List.replicate, List.cons_append, List.nil_append, if_true, Bool.false_eq_true, if_false, Nat.reduceAdd, Nat.reduceSub, Nat.zero_add, Nat.reduceEqDiff, Option.map_none, Nat.zero_le, Nat.reduceLT, Nat.reduceLeDiff, Bool.not_true, Bool.not_false, l2__law_pieces, ix_web1, ix_ts hlt, ix_tie0, ix_tie1, ix_nsl (show _ < F.length by rw [hl]; exact w1), ix_nsl (show _ < F.length by rw [hl]; exact w2), items]
    rw [if_pos hF, mrg_eq hlo hhi]
    unfold nsD
    rw [compL_map (g := fun z => nD (if (z == hi) = true then lo else z)) (fun x hx => by
      simp only [runD, evB, evS, evE, evA, evT, evAnd, evOr, evAndV, evOrV, evP, evI, mb_ok, mb_some, mb_er, op_some, keep_sh, keep_fr, blM_bl, intM_int, nerr_ok, Option.map_some, Option.bind_some, List.getElem?_cons_zero, List.getElem?_cons_succ, List.set_cons_zero, List.set_cons_succ, asgF, unpF, ownOf, appF, setAll, bindT, wipeR, List.length_cons, List.length_nil, List.map_cons, List.map_nil, List.replicate, List.cons_append, List.nil_append, if_true, Bool.false_eq_true, if_false, Nat.reduceAdd, Nat.reduceSub, Nat.zero_add, Nat.reduceEqDiff, Option.map_none, Nat.zero_le, Nat.reduceLT, Nat.reduceLeDiff, Bool.not_true, Bool.not_false, e1__law_pieces, cop_eqn, uop_int_bl, ix_two, if_nD, top, Nat.reduceLeDiff, mm_min, mm_max, hlo, hhi])]
    simp only [runD, evB, evS, evE, evA, evT, evAnd, evOr, evAndV, evOrV, evP, evI, mb_ok, mb_some, mb_er, op_some, keep_sh, keep_fr, blM_bl, intM_int, nerr_ok, Option.map_some, Option.bind_some, List.getElem?_cons_zero, List.getElem?_cons_succ, List.set_cons_zero, List.set_cons_succ, asgF, unpF, ownOf, appF, setAll, bindT, wipeR, List.length_cons, List.length_nil, List.map_cons, List.map_nil, List.replicate, List.cons_append, List.nil_append, if_true, Bool.false_eq_true, if_false, Nat.reduceAdd, Nat.reduceSub, Nat.zero_add, Nat.reduceEqDiff, Option.map_none, Nat.zero_le, Nat.reduceLT, Nat.reduceLeDiff, Bool.not_true, Bool.not_false]
  unfold m__law_pieces
  have h0 : ((m : Int) ≤ (top : Nat) ∧ 0 ≤ (m : Int)) := by simp [top]; omega
  simp only [runD, evB, evS, evE, evA, evT, evAnd, evOr, evAndV, evOrV, evP, evI, mb_ok, mb_some, mb_er, op_some, keep_sh, keep_fr, blM_bl, intM_int, nerr_ok, Option.map_some, Option.bind_some, List.getElem?_cons_zero, List.getElem?_cons_succ, List.set_cons_zero, List.set_cons_succ, asgF, unpF, ownOf, appF, setAll, bindT, wipeR, List.length_cons, List.length_nil, List.map_cons, List.map_nil, List.replicate, List.cons_append, List.nil_append, if_true, Bool.false_eq_true, if_false, Nat.reduceAdd, Nat.reduceSub, Nat.zero_add, Nat.reduceEqDiff, Option.map_none, Nat.zero_le, Nat.reduceLT, Nat.reduceLeDiff, Bool.not_true, Bool.not_false, ix_web0]
  simp only [runD, evB, evS, evE, evA, evT, evAnd, evOr, evAndV, evOrV, evP, evI, mb_ok, mb_some, mb_er, op_some, keep_sh, keep_fr, blM_bl, intM_int, nerr_ok, Option.map_some, Option.bind_some, List.getElem?_cons_zero, List.getElem?_cons_succ, List.set_cons_zero, List.set_cons_succ, asgF, unpF, ownOf, appF, setAll, bindT, wipeR, List.length_cons, List.length_nil, List.map_cons, List.map_nil, List.replicate, List.cons_append, List.nil_append, if_true, Bool.false_eq_true, if_false, Nat.reduceAdd, Nat.reduceSub, Nat.zero_add, Nat.reduceEqDiff, Option.map_none, Nat.zero_le, Nat.reduceLT, Nat.reduceLeDiff, Bool.not_true, Bool.not_false, nD, if_pos h0, range_ns, items_seq]
  obtain ⟨ρ', e, a, c, e1, f, rfl⟩ := forL_go (bind := bindT true [3]) (body := fun ρ => evB Φ wf l2__law_pieces ρ) (ds := nsD s) _ ⟨.no, .no, .no, .no, rfl⟩ step
  have e := e
  simp only [List.take_zero, pcs, List.foldl_nil, webD, nD] at e
  simp only [webD, nD, e, runD, evB, evS, evE, evA, evT, evAnd, evOr, evAndV, evOrV, evP, evI, mb_ok, mb_some, mb_er, op_some, keep_sh, keep_fr, blM_bl, intM_int, nerr_ok, Option.map_some, Option.bind_some, List.getElem?_cons_zero, List.getElem?_cons_succ, List.set_cons_zero, List.set_cons_succ, asgF, unpF, ownOf, appF, setAll, bindT, wipeR, List.length_cons, List.length_nil, List.map_cons, List.map_nil, List.replicate, List.cons_append, List.nil_append, if_true, Bool.false_eq_true, if_false, Nat.reduceAdd, Nat.reduceSub, Nat.zero_add, Nat.reduceEqDiff, Option.map_none, Nat.zero_le, Nat.reduceLT, Nat.reduceLeDiff, Bool.not_true, Bool.not_false]
  rw [show (nsD s).length = s.length by simp [nsD], List.take_length]
  rfl
end J

set_option Elab.async false
set_option linter.all false
set_option maxRecDepth 100000
set_option maxHeartbeats 4000000
/-! joins, cost: by the program and by the law -/
namespace J
open PySem PV
theorem ints_ns (l : List Nat) : D.ints (nsD l) = some (l.map fun (n : Nat) => (n : Int)) := by
  induction l with
  | nil => rfl
  | cons x r ih =>
    show (D.ints (nsD r)).map _ = _
    rw [ih]; rfl
theorem nsD_len (l : List Nat) : (nsD l).length = l.length := by simp [nsD]
theorem plnL_ns (l : List Nat) : D.plnL (nsD l) = true := by
  induction l with
  | nil => rfl
  | cons x r ih =>
    show (D.pln (nD x) && D.plnL (nsD r)) = true
    rw [ih]; rfl
theorem depL_ns (l : List Nat) : D.depL (nsD l) = 0 := by
  induction l with
  | nil => rfl
  | cons x r ih =>
    show Nat.max (D.dep (nD x)) (D.depL (nsD r)) = 0
    rw [ih]; rfl
theorem fine_lst {l : List Nat} : (D.lst (nsD l)).fine = true := by
  simp [D.fine, D.pln, D.dep, plnL_ns, depL_ns]
theorem fine_tup {l : List Nat} : (D.tup (nsD l)).fine = true := by
  simp [D.fine, D.pln, D.dep, plnL_ns, depL_ns]
theorem eqvL_ns : ∀ (a b : List Nat), D.eqvL (nsD a) (nsD b) = (a == b)
  | [], [] => rfl
  | [], b :: bs => rfl
  | a :: as, [] => rfl
  | a :: as, b :: bs => by
    show (D.eqv (nD a) (nD b) && D.eqvL (nsD as) (nsD bs)) = _
    rw [eqvL_ns as bs]
    have e : D.eqv (nD a) (nD b) = (a == b) := by
      simp only [nD, D.eqv]
      rw [Bool.eq_iff_iff]
      simp
      omega
    rw [e]
    rfl
theorem cop_eqs (a b : List Nat) : cop .eq (.lst (nsD a)) (.lst (nsD b)) = some (a == b) := by
  simp only [cop, fine_lst, Bool.and_self, if_true, D.eqv, eqvL_ns]
theorem cop_eqt (a b : List Nat) : cop .eq (.tup (nsD a)) (.tup (nsD b)) = some (a == b) := by
  simp only [cop, fine_tup, Bool.and_self, if_true, D.eqv, eqvL_ns]
theorem cop_net (a b : List Nat) : cop .ne (.tup (nsD a)) (.tup (nsD b)) = some (!(a == b)) := by
  simp only [cop, fine_tup, Bool.and_self, if_true, D.eqv, eqvL_ns]
theorem cop_eq0 (a : List Nat) : cop .eq (.lst (nsD a)) (.lst []) = some (a == []) := cop_eqs a []
theorem nub_le1 : ∀ l : List Int, (nubI l).length ≤ 1 ↔ ∀ x ∈ l, ∀ y ∈ l, x = y := by
  intro l
  constructor
  · intro h x hx y hy
    have hx := (nubI_mem x l).mpr hx
    have hy := (nubI_mem y l).mpr hy
    match q : nubI l, h with
    | [], _ => rw [q] at hx; cases hx
    | [z], _ =>
      rw [q] at hx hy
      simp at hx hy
      rw [hx, hy]
  · intro h
    match q : nubI l with
    | [] => simp
    | [z] => simp
    | a :: b :: r =>
      have nd := nubI_nodup l
      rw [q] at nd
      have ha : a ∈ l := (nubI_mem a l).mp (by rw [q]; simp)
      have hb : b ∈ l := (nubI_mem b l).mp (by rw [q]; simp)
      have e := h a ha b hb
      subst e
      simp at nd
theorem joinB_nub (m : Nat) (ts : List Tie) (s ends : List Nat) : decide (((nubI ((ends.map (lab m ts s)).map fun (n : Nat) => (n : Int))).length : Int) ≤ 1) = joinB m ts s ends := by
  rw [Bool.eq_iff_iff, decide_eq_true_eq]
  have e : ((nubI ((ends.map (lab m ts s)).map fun (n : Nat) => (n : Int))).length : Int) ≤ 1 ↔ (nubI ((ends.map (lab m ts s)).map fun (n : Nat) => (n : Int))).length ≤ 1 := by omega
  rw [e, nub_le1]
  unfold joinB
  rw [List.all_eq_true]
  constructor
  · intro h x hx
    cases ends with
    | nil => cases hx
    | cons a r =>
      have h1 := h (lab m ts s x : Nat) (by simp only [List.mem_map]; exact ⟨_, ⟨x, hx, rfl⟩, rfl⟩) (lab m ts s a : Nat) (by simp)
      simp only [List.headD_cons, beq_iff_eq]
      omega
  · intro h x hx y hy
    simp only [List.mem_map] at hx hy
    obtain ⟨_, ⟨x, hx, rfl⟩, rfl⟩ := hx
    obtain ⟨_, ⟨y, hy, rfl⟩, rfl⟩ := hy
    have h1 := h x hx
    have h2 := h y hy
    simp only [beq_iff_eq] at h1 h2
    omega
def SJoins (φ : List D → M D) : Prop := ∀ (m : Nat) (ts : List Tie) (s ends : List Nat) (b c : Bool), m ≤ 100 → InW m ts → (∀ n ∈ s, n < ts.length) → (∀ x ∈ ends, x < m) → ends.length < 64 → φ [webD m ts, seqD b (nsD s), seqD c (nsD ends)] = ok (.bl (joinB m ts s ends))
theorem le_top {n : Nat} (h : n < 64) : n ≤ top := by unfold top; omega
theorem joins_ok {Φ : Tab} {wf : Nat} (hp : Fn Φ "pieces" SPieces) : SJoins (runD m_joins Φ wf) := by
  intro m ts s ends b c hm hw hs he h64
  obtain ⟨φ, h1, h2⟩ := hp
  have hl := pcs_len m ts s
  simp only [runD, evB, evS, evE, evA, evT, evAnd, evOr, evAndV, evOrV, evP, evI, mb_ok, mb_some, mb_er, op_some, keep_sh, keep_fr, blM_bl, intM_int, nerr_ok, Option.map_some, Option.bind_some, List.getElem?_cons_zero, List.getElem?_cons_succ, List.set_cons_zero, List.set_cons_succ, asgF, unpF, ownOf, appF, setAll, bindT, wipeR, List.length_cons, List.length_nil, List.map_cons, List.map_nil, List.replicate, List.cons_append, List.nil_append, if_true, Bool.false_eq_true, if_false, Nat.reduceAdd, Nat.reduceSub, Nat.zero_add, Nat.reduceEqDiff, Option.map_none, Nat.zero_le, Nat.reduceLT, Nat.reduceLeDiff, Bool.not_true, Bool.not_false, m_joins, h1, h2 m ts s b hm hw hs, items_seq]
  rw [if_pos (by rw [nsD_len]; exact le_top h64)]
  unfold nsD
  rw [compL_map (g := fun x => nD (lab m ts s x)) (fun x hx => by
    simp only [runD, evB, evS, evE, evA, evT, evAnd, evOr, evAndV, evOrV, evP, evI, mb_ok, mb_some, mb_er, op_some, keep_sh, keep_fr, blM_bl, intM_int, nerr_ok, Option.map_some, Option.bind_some, List.getElem?_cons_zero, List.getElem?_cons_succ, List.set_cons_zero, List.set_cons_succ, asgF, unpF, ownOf, appF, setAll, bindT, wipeR, List.length_cons, List.length_nil, List.map_cons, List.map_nil, List.replicate, List.cons_append, List.nil_append, if_true, Bool.false_eq_true, if_false, Nat.reduceAdd, Nat.reduceSub, Nat.zero_add, Nat.reduceEqDiff, Option.map_none, Nat.zero_le, Nat.reduceLT, Nat.reduceLeDiff, Bool.not_true, Bool.not_false, e1_joins]
    have := ix_nsl (f := pcs m ts s) (n := x) (by rw [hl]; exact he x hx)
    unfold nsD at this
    rw [this]
    rfl)]
  rw [show (ends.map fun x => nD (lab m ts s x)) = nsD (ends.map (lab m ts s)) by simp [nsD]]
  simp only [runD, evB, evS, evE, evA, evT, evAnd, evOr, evAndV, evOrV, evP, evI, mb_ok, mb_some, mb_er, op_some, keep_sh, keep_fr, blM_bl, intM_int, nerr_ok, Option.map_some, Option.bind_some, List.getElem?_cons_zero, List.getElem?_cons_succ, List.set_cons_zero, List.set_cons_succ, asgF, unpF, ownOf, appF, setAll, bindT, wipeR, List.length_cons, List.length_nil, List.map_cons, List.map_nil, List.replicate, List.cons_append, List.nil_append, if_true, Bool.false_eq_true, if_false, Nat.reduceAdd, Nat.reduceSub, Nat.zero_add, Nat.reduceEqDiff, Option.map_none, Nat.zero_le, Nat.reduceLT, Nat.reduceLeDiff, Bool.not_true, Bool.not_false, uop, ints_ns, List.length_map, h64, cop, joinB_nub]
theorem law_joins_ok {Φ : Tab} {wf : Nat} (hp : Fn Φ "_law_pieces" SPieces) : SJoins (runD m__law_joins Φ wf) := by
  intro m ts s ends b c hm hw hs he h64
  obtain ⟨φ, h1, h2⟩ := hp
  have hl := pcs_len m ts s
  simp only [runD, evB, evS, evE, evA, evT, evAnd, evOr, evAndV, evOrV, evP, evI, mb_ok, mb_some, mb_er, op_some, keep_sh, keep_fr, blM_bl, intM_int, nerr_ok, Option.map_some, Option.bind_some, List.getElem?_cons_zero, List.getElem?_cons_succ, List.set_cons_zero, List.set_cons_succ, asgF, unpF, ownOf, appF, setAll, bindT, wipeR, List.length_cons, List.length_nil, List.map_cons, List.map_nil, List.replicate, List.cons_append, List.nil_append, if_true, Bool.false_eq_true, if_false, Nat.reduceAdd, Nat.reduceSub, Nat.zero_add, Nat.reduceEqDiff, Option.map_none, Nat.zero_le, Nat.reduceLT, Nat.reduceLeDiff, Bool.not_true, Bool.not_false, m__law_joins, h1, h2 m ts s b hm hw hs, items_seq]
  rw [if_pos (by rw [nsD_len]; exact le_top h64)]
  unfold nsD
  rw [compL_filt (g := nD) (p := fun x => !(lab m ts s x == lab m ts s (ends.headD 0))) (fun x hx => by
    have g1 := ix_nsl (f := pcs m ts s) (n := x) (by rw [hl]; exact he x hx)
    cases ends with
    | nil => cases hx
    | cons a r =>
      have g2 := ix_nsl (f := pcs m ts s) (n := a) (by rw [hl]; exact he a List.mem_cons_self)
      have g3 : ixD (seqD c (nsD (a :: r))) (.int 0) = some (nD a) := ix_ns (b := c) (f := a :: r) (n := 0) (by simp)
      unfold nsD at g1 g2 g3
      simp only [List.map_cons] at g3
      simp only [runD, evB, evS, evE, evA, evT, evAnd, evOr, evAndV, evOrV, evP, evI, mb_ok, mb_some, mb_er, op_some, keep_sh, keep_fr, blM_bl, intM_int, nerr_ok, Option.map_some, Option.bind_some, List.getElem?_cons_zero, List.getElem?_cons_succ, List.set_cons_zero, List.set_cons_succ, asgF, unpF, ownOf, appF, setAll, bindT, wipeR, List.length_cons, List.length_nil, List.map_cons, List.map_nil, List.replicate, List.cons_append, List.nil_append, if_true, Bool.false_eq_true, if_false, Nat.reduceAdd, Nat.reduceSub, Nat.zero_add, Nat.reduceEqDiff, Option.map_none, Nat.zero_le, Nat.reduceLT, Nat.reduceLeDiff, Bool.not_true, Bool.not_false, q1__law_joins, g1, g2, g3, cop_nen, List.headD_cons]
      show _ = some (if (!(lab m ts s x == lab m ts s a)) = true then some (nD x) else none)
      unfold lab
      cases (pcs m ts s).getD x 0 == (pcs m ts s).getD a 0 <;> rfl)]
  rw [show ((ends.filter fun x => !(lab m ts s x == lab m ts s (ends.headD 0))).map nD) = nsD (ends.filter fun x => !(lab m ts s x == lab m ts s (ends.headD 0))) from rfl]
  simp only [runD, evB, evS, evE, evA, evT, evAnd, evOr, evAndV, evOrV, evP, evI, mb_ok, mb_some, mb_er, op_some, keep_sh, keep_fr, blM_bl, intM_int, nerr_ok, Option.map_some, Option.bind_some, List.getElem?_cons_zero, List.getElem?_cons_succ, List.set_cons_zero, List.set_cons_succ, asgF, unpF, ownOf, appF, setAll, bindT, wipeR, List.length_cons, List.length_nil, List.map_cons, List.map_nil, List.replicate, List.cons_append, List.nil_append, if_true, Bool.false_eq_true, if_false, Nat.reduceAdd, Nat.reduceSub, Nat.zero_add, Nat.reduceEqDiff, Option.map_none, Nat.zero_le, Nat.reduceLT, Nat.reduceLeDiff, Bool.not_true, Bool.not_false, cop_eq0]
  congr 2
  unfold joinB
  rw [Bool.eq_iff_iff, List.all_eq_true]
  simp
end J

set_option Elab.async false
set_option linter.all false
set_option maxRecDepth 100000
set_option maxHeartbeats 4000000
/-! cost; what are some of so many -/
namespace J
open PySem PV
def costN (ts : List Tie) (s : List Nat) : Nat := (s.map fun n => (tieAt ts n).2.2).sum
theorem sum_cast (l : List Nat) : (l.map fun (n : Nat) => (n : Int)).sum = ((l.sum : Nat) : Int) := by
  induction l with
  | nil => rfl
  | cons x r ih => simp only [List.map_cons, List.sum_cons, ih]; omega
def SCost (φ : List D → M D) : Prop := ∀ (m : Nat) (ts : List Tie) (s : List Nat) (b : Bool), s.length ≤ 1000 → (∀ n ∈ s, n < ts.length) → φ [webD m ts, seqD b (nsD s)] = ok (nD (costN ts s))
theorem cost_ok {Φ : Tab} {wf : Nat} : SCost (runD m_cost Φ wf) := by
  intro m ts s b hl hs
  simp only [runD, evB, evS, evE, evA, evT, evAnd, evOr, evAndV, evOrV, evP, evI, mb_ok, mb_some, mb_er, op_some, keep_sh, keep_fr, blM_bl, intM_int, nerr_ok, Option.map_some, Option.bind_some, List.getElem?_cons_zero, List.getElem?_cons_succ, List.set_cons_zero, List.set_cons_succ, asgF, unpF, ownOf, appF, setAll, bindT, wipeR, List.length_cons, List.length_nil, List.map_cons, List.map_nil, List.replicate, List.cons_append, List.nil_append, if_true, Bool.false_eq_true, if_false, Nat.reduceAdd, Nat.reduceSub, Nat.zero_add, Nat.reduceEqDiff, Option.map_none, Nat.zero_le, Nat.reduceLT, Nat.reduceLeDiff, Bool.not_true, Bool.not_false, m_cost, items_seq]
  rw [if_pos (by rw [nsD_len]; unfold top; omega)]
  unfold nsD
  rw [compL_map (g := fun x => nD (tieAt ts x).2.2) (fun x hx => by
    simp only [runD, evB, evS, evE, evA, evT, evAnd, evOr, evAndV, evOrV, evP, evI, mb_ok, mb_some, mb_er, op_some, keep_sh, keep_fr, blM_bl, intM_int, nerr_ok, Option.map_some, Option.bind_some, List.getElem?_cons_zero, List.getElem?_cons_succ, List.set_cons_zero, List.set_cons_succ, asgF, unpF, ownOf, appF, setAll, bindT, wipeR, List.length_cons, List.length_nil, List.map_cons, List.map_nil, List.replicate, List.cons_append, List.nil_append, if_true, Bool.false_eq_true, if_false, Nat.reduceAdd, Nat.reduceSub, Nat.zero_add, Nat.reduceEqDiff, Option.map_none, Nat.zero_le, Nat.reduceLT, Nat.reduceLeDiff, Bool.not_true, Bool.not_false, e1_cost, ix_web1, ix_ts (hs x hx), ix_tie2])]
  rw [show (s.map fun x => nD (tieAt ts x).2.2) = nsD (s.map fun x => (tieAt ts x).2.2) by simp [nsD]]
  simp only [runD, evB, evS, evE, evA, evT, evAnd, evOr, evAndV, evOrV, evP, evI, mb_ok, mb_some, mb_er, op_some, keep_sh, keep_fr, blM_bl, intM_int, nerr_ok, Option.map_some, Option.bind_some, List.getElem?_cons_zero, List.getElem?_cons_succ, List.set_cons_zero, List.set_cons_succ, asgF, unpF, ownOf, appF, setAll, bindT, wipeR, List.length_cons, List.length_nil, List.map_cons, List.map_nil, List.replicate, List.cons_append, List.nil_append, if_true, Bool.false_eq_true, if_false, Nat.reduceAdd, Nat.reduceSub, Nat.zero_add, Nat.reduceEqDiff, Option.map_none, Nat.zero_le, Nat.reduceLT, Nat.reduceLeDiff, Bool.not_true, Bool.not_false, uop, ints_ns, sum_cast]
  rfl
theorem law_cost_ok {Φ : Tab} {wf : Nat} : SCost (runD m__law_cost Φ wf) := by
  intro m ts s b hl hs
  simp only [runD, evB, evS, evE, evA, evT, evAnd, evOr, evAndV, evOrV, evP, evI, mb_ok, mb_some, mb_er, op_some, keep_sh, keep_fr, blM_bl, intM_int, nerr_ok, Option.map_some, Option.bind_some, List.getElem?_cons_zero, List.getElem?_cons_succ, List.set_cons_zero, List.set_cons_succ, asgF, unpF, ownOf, appF, setAll, bindT, wipeR, List.length_cons, List.length_nil, List.map_cons, List.map_nil, List.replicate, List.cons_append, List.nil_append, if_true, Bool.false_eq_true, if_false, Nat.reduceAdd, Nat.reduceSub, Nat.zero_add, Nat.reduceEqDiff, Option.map_none, Nat.zero_le, Nat.reduceLT, Nat.reduceLeDiff, Bool.not_true, Bool.not_false, m__law_cost, items_seq]
  rw [if_pos (by rw [nsD_len]; unfold top; omega)]
  unfold nsD
  rw [compL_map (g := fun x => nD (tieAt ts x).2.2) (fun x hx => by
    simp only [runD, evB, evS, evE, evA, evT, evAnd, evOr, evAndV, evOrV, evP, evI, mb_ok, mb_some, mb_er, op_some, keep_sh, keep_fr, blM_bl, intM_int, nerr_ok, Option.map_some, Option.bind_some, List.getElem?_cons_zero, List.getElem?_cons_succ, List.set_cons_zero, List.set_cons_succ, asgF, unpF, ownOf, appF, setAll, bindT, wipeR, List.length_cons, List.length_nil, List.map_cons, List.map_nil, List.replicate, List.cons_append, List.nil_append, if_true, Bool.false_eq_true, if_false, Nat.reduceAdd, Nat.reduceSub, Nat.zero_add, Nat.reduceEqDiff, Option.map_none, Nat.zero_le, Nat.reduceLT, Nat.reduceLeDiff, Bool.not_true, Bool.not_false, e1__law_cost, ix_web1, ix_ts (hs x hx), ix_tie2])]
  rw [show (s.map fun x => nD (tieAt ts x).2.2) = nsD (s.map fun x => (tieAt ts x).2.2) by simp [nsD]]
  simp only [runD, evB, evS, evE, evA, evT, evAnd, evOr, evAndV, evOrV, evP, evI, mb_ok, mb_some, mb_er, op_some, keep_sh, keep_fr, blM_bl, intM_int, nerr_ok, Option.map_some, Option.bind_some, List.getElem?_cons_zero, List.getElem?_cons_succ, List.set_cons_zero, List.set_cons_succ, asgF, unpF, ownOf, appF, setAll, bindT, wipeR, List.length_cons, List.length_nil, List.map_cons, List.map_nil, List.replicate, List.cons_append, List.nil_append, if_true, Bool.false_eq_true, if_false, Nat.reduceAdd, Nat.reduceSub, Nat.zero_add, Nat.reduceEqDiff, Option.map_none, Nat.zero_le, Nat.reduceLT, Nat.reduceLeDiff, Bool.not_true, Bool.not_false, uop, ints_ns, sum_cast]
  rfl
/-- no script -/
def nsc : D → Bool
  | .scr _ => false
  | _ => true
def isNum : D → Int → Int → Bool
  | .int i, lo, hi => decide (lo ≤ i) && decide (i ≤ hi)
  | _, _, _ => false
def SNumber (φ : List D → M D) : Prop := ∀ (d : D) (lo hi : Int), nsc d = true → φ [d, .int lo, .int hi] = ok (.bl (isNum d lo hi))
theorem number_ok {Φ : Tab} {wf : Nat} : SNumber (runD m_is_number Φ wf) := by
  intro d lo hi hd
  cases d with
  | scr _ => cases hd
  | int i =>
    by_cases h : lo ≤ i
    · simp only [runD, evB, evS, evE, evA, evT, evAnd, evOr, evAndV, evOrV, evP, evI, mb_ok, mb_some, mb_er, op_some, keep_sh, keep_fr, blM_bl, intM_int, nerr_ok, Option.map_some, Option.bind_some, List.getElem?_cons_zero, List.getElem?_cons_succ, List.set_cons_zero, List.set_cons_succ, asgF, unpF, ownOf, appF, setAll, bindT, wipeR, List.length_cons, List.length_nil, List.map_cons, List.map_nil, List.replicate, List.cons_append, List.nil_append, if_true, Bool.false_eq_true, if_false, Nat.reduceAdd, Nat.reduceSub, Nat.zero_add, Nat.reduceEqDiff, Option.map_none, Nat.zero_le, Nat.reduceLT, Nat.reduceLeDiff, Bool.not_true, Bool.not_false, m_is_number, isiD, isNum, cop, h, decide_true]
      rfl
    · simp only [runD, evB, evS, evE, evA, evT, evAnd, evOr, evAndV, evOrV, evP, evI, mb_ok, mb_some, mb_er, op_some, keep_sh, keep_fr, blM_bl, intM_int, nerr_ok, Option.map_some, Option.bind_some, List.getElem?_cons_zero, List.getElem?_cons_succ, List.set_cons_zero, List.set_cons_succ, asgF, unpF, ownOf, appF, setAll, bindT, wipeR, List.length_cons, List.length_nil, List.map_cons, List.map_nil, List.replicate, List.cons_append, List.nil_append, if_true, Bool.false_eq_true, if_false, Nat.reduceAdd, Nat.reduceSub, Nat.zero_add, Nat.reduceEqDiff, Option.map_none, Nat.zero_le, Nat.reduceLT, Nat.reduceLeDiff, Bool.not_true, Bool.not_false, m_is_number, isiD, isNum, cop, h, decide_false]
      rfl
  | _ => simp only [runD, evB, evS, evE, evA, evT, evAnd, evOr, evAndV, evOrV, evP, evI, mb_ok, mb_some, mb_er, op_some, keep_sh, keep_fr, blM_bl, intM_int, nerr_ok, Option.map_some, Option.bind_some, List.getElem?_cons_zero, List.getElem?_cons_succ, List.set_cons_zero, List.set_cons_succ, asgF, unpF, ownOf, appF, setAll, bindT, wipeR, List.length_cons, List.length_nil, List.map_cons, List.map_nil, List.replicate, List.cons_append, List.nil_append, if_true, Bool.false_eq_true, if_false, Nat.reduceAdd, Nat.reduceSub, Nat.zero_add, Nat.reduceEqDiff, Option.map_none, Nat.zero_le, Nat.reduceLT, Nat.reduceLeDiff, Bool.not_true, Bool.not_false, m_is_number, isiD, isNum]
def areSome (d : D) (many : Nat) : Bool :=
  match d with
  | .tup xs => match D.ints xs with
    | some ns => (ns.all fun i => decide (0 ≤ i) && decide (i < (many : Int))) && decide (ns.Pairwise (· < ·))
    | none => false
  | _ => false
/-- a thing that is looked at: no script in its rows, not long -/
def shal : D → Bool
  | .tup xs => xs.all nsc && decide (xs.length < 64)
  | .scr _ => false
  | _ => true
theorem bls_map {α : Type} (f : α → Bool) (l : List α) : D.bls (l.map fun x => D.bl (f x)) = some (l.map f) := by
  induction l with
  | nil => rfl
  | cons x r ih =>
    show (D.bls (r.map fun x => D.bl (f x))).map _ = _
    rw [ih]; rfl
theorem cut_take {α : Type} (xs : List α) (k : Nat) : cutL xs none (some (k : Int)) = xs.take k := by
  unfold cutL
  rw [HT.sIx_none, HT.sIx_nat, Nat.sub_zero, List.drop_zero]
  by_cases h : k ≤ xs.length
  · rw [Nat.min_eq_left h]
  · rw [Nat.min_eq_right (by omega), List.take_of_length_le (Nat.le_refl _), List.take_of_length_le (by omega)]
theorem cut_drop {α : Type} (xs : List α) (k : Nat) : cutL xs (some (k : Int)) none = xs.drop k := by
  unfold cutL
  rw [HT.sIx_none, HT.sIx_nat]
  by_cases h : k ≤ xs.length
  · rw [Nat.min_eq_left h, List.take_of_length_le (by simp)]
  · rw [Nat.min_eq_right (by omega), List.drop_of_length_le (Nat.le_refl _), List.drop_of_length_le (by omega), List.take_nil]
theorem sIx_m1 (n d : Nat) : HT.sIx n d (some (-1)) = n - 1 := by
  show (if (-1 : Int) < 0 then ((-1 : Int) + (n : Int)).toNat else min (-1 : Int).toNat n) = n - 1
  rw [if_pos (by omega)]
  omega
theorem cut_last {α : Type} (xs : List α) : cutL xs none (some (-1)) = xs.dropLast := by
  unfold cutL
  rw [HT.sIx_none, sIx_m1, Nat.sub_zero, List.drop_zero, List.dropLast_eq_take]
theorem cut_tail {α : Type} (xs : List α) : cutL xs (some 1) none = xs.drop 1 := cut_drop xs 1
theorem cut_end {α : Type} (xs : List α) : cutL xs (some (-1)) none = xs.drop (xs.length - 1) := by
  unfold cutL
  rw [HT.sIx_none, sIx_m1]
  exact List.take_of_length_le (by simp)
theorem ints_of {xs : List D} {ns : List Int} (h : D.ints xs = some ns) : xs = ns.map .int := by
  induction xs generalizing ns with
  | nil => cases h; rfl
  | cons x r ih =>
    cases x with
    | int i =>
      simp only [D.ints, Option.map_eq_some_iff] at h
      obtain ⟨ms, h1, rfl⟩ := h
      rw [ih h1]; rfl
    | _ => cases h
theorem ints_map (ns : List Int) : D.ints (ns.map .int) = some ns := by
  induction ns with
  | nil => rfl
  | cons x r ih =>
    show (D.ints (r.map .int)).map _ = _
    rw [ih]; rfl
/-- rising by neighbours -/
theorem rise_zip : ∀ ns : List Int, ((ns.dropLast.zip (ns.drop 1)).all fun p => decide (p.1 < p.2)) = decide (ns.Pairwise (· < ·))
  | [] => by simp
  | [x] => by simp
  | x :: y :: r => by
    have ih := rise_zip (y :: r)
    rw [show (x :: y :: r).dropLast = x :: (y :: r).dropLast from rfl, show (x :: y :: r).drop 1 = y :: r from rfl]
    rw [show (y :: r).drop 1 = r from rfl] at ih
    rw [List.zip_cons_cons, List.all_cons, ih, Bool.eq_iff_iff]
    simp only [Bool.and_eq_true, decide_eq_true_eq]
    constructor
    · rintro ⟨h1, h2⟩
      rw [List.pairwise_cons]
      refine ⟨fun z hz => ?_, h2⟩
      rcases List.mem_cons.mp hz with rfl | hz
      · exact h1
      · exact Int.lt_trans h1 ((List.pairwise_cons.mp h2).1 z hz)
    · intro h
      exact ⟨(List.pairwise_cons.mp h).1 y List.mem_cons_self, (List.pairwise_cons.mp h).2⟩
def SSome (φ : List D → M D) : Prop := ∀ (d : D) (many : Nat), shal d = true → φ [d, nD many] = ok (.bl (areSome d many))
/-- all are numbers below -/
def allNum (xs : List D) (many : Nat) : Bool := xs.all fun x => isNum x 0 ((many : Int) - 1)
theorem allNum_ints {xs : List D} {many : Nat} (h : allNum xs many = true) : ∃ ns, D.ints xs = some ns ∧ (ns.all fun i => decide (0 ≤ i) && decide (i < (many : Int))) = true := by
  induction xs with
  | nil => exact ⟨[], rfl, rfl⟩
  | cons x r ih =>
    unfold allNum at h
    rw [List.all_cons, Bool.and_eq_true] at h
    obtain ⟨ns, h1, h2⟩ := ih h.2
    cases x with
    | int i =>
      have h0 := h.1
      simp only [isNum, Bool.and_eq_true, decide_eq_true_eq] at h0
      refine ⟨i :: ns, by simp only [D.ints, h1, Option.map_some], ?_⟩
      rw [List.all_cons, h2, Bool.and_true]
      simp only [Bool.and_eq_true, decide_eq_true_eq]
      omega
    | _ => cases h.1
theorem allNum_false {xs : List D} {many : Nat} (h : allNum xs many = false) : areSome (.tup xs) many = false := by
  unfold areSome
  cases hx : D.ints xs with
  | none => simp only [hx]
  | some ns =>
    simp only [hx]
    have e := ints_of hx
    subst e
    rw [Bool.and_eq_false_iff]
    left
    rw [← Bool.not_eq_true] at h ⊢
    intro q
    apply h
    unfold allNum
    rw [List.all_map]
    rw [List.all_eq_true] at q ⊢
    intro x hx
    have := q x hx
    simp only [Function.comp_apply, isNum, Bool.and_eq_true, decide_eq_true_eq] at this ⊢
    omega
theorem some_ok {Φ : Tab} {wf : Nat} (hn : Fn Φ "is_number" SNumber) : SSome (runD m_are_some Φ wf) := by
  intro d many hd
  obtain ⟨φ, h1, h2⟩ := hn
  cases d with
  | scr _ => cases hd
  | tup xs =>
    simp only [shal, Bool.and_eq_true, decide_eq_true_eq, List.all_eq_true] at hd
    obtain ⟨hd, hl⟩ := hd
    have ht : xs.length ≤ top := le_top hl
    have c1 : compL (fun d => (some [Sl.va (.tup xs), .va (nD many), .no, .no, .va d]).bind fun ρ' => (nerr (evT Φ .knon ρ')).bind fun b => if b = true then (nerr (mb (evE Φ e1_are_some ρ') keep)).map some else some none) xs = some (xs.map fun x => .bl (isNum x 0 ((many : Int) - 1))) := by
      have q := compL_map (f := fun d => (some [Sl.va (.tup xs), .va (nD many), .no, .no, .va d]).bind fun ρ' => (nerr (evT Φ .knon ρ')).bind fun b => if b = true then (nerr (mb (evE Φ e1_are_some ρ') keep)).map some else some none) (e := id) (g := fun x => .bl (isNum x 0 ((many : Int) - 1))) (xs := xs) fun x hx => by
        simp only [runD, evB, evS, evE, evA, evT, evAnd, evOr, evAndV, evOrV, evP, evI, mb_ok, mb_some, mb_er, op_some, keep_sh, keep_fr, blM_bl, intM_int, nerr_ok, Option.map_some, Option.bind_some, List.getElem?_cons_zero, List.getElem?_cons_succ, List.set_cons_zero, List.set_cons_succ, asgF, unpF, ownOf, appF, setAll, bindT, wipeR, List.length_cons, List.length_nil, List.map_cons, List.map_nil, List.replicate, List.cons_append, List.nil_append, if_true, Bool.false_eq_true, if_false, Nat.reduceAdd, Nat.reduceSub, Nat.zero_add, Nat.reduceEqDiff, Option.map_none, Nat.zero_le, Nat.reduceLT, Nat.reduceLeDiff, Bool.not_true, Bool.not_false, e1_are_some, h1, nD, bop, h2 x 0 _ (hd x hx), id]
      simpa using q
    have c1 := c1
    simp only [runD, evB, evS, evE, evA, evT, evAnd, evOr, evAndV, evOrV, evP, evI, mb_ok, mb_some, mb_er, op_some, keep_sh, keep_fr, blM_bl, intM_int, nerr_ok, Option.map_some, Option.bind_some, List.getElem?_cons_zero, List.getElem?_cons_succ, List.set_cons_zero, List.set_cons_succ, asgF, unpF, ownOf, appF, setAll, bindT, wipeR, List.length_cons, List.length_nil, List.map_cons, List.map_nil, List.replicate, List.cons_append, List.nil_append, if_true, Bool.false_eq_true, if_false, Nat.reduceAdd, Nat.reduceSub, Nat.zero_add, Nat.reduceEqDiff, Option.map_none, Nat.zero_le, Nat.reduceLT, Nat.reduceLeDiff, Bool.not_true, Bool.not_false] at c1
    simp only [runD, evB, evS, evE, evA, evT, evAnd, evOr, evAndV, evOrV, evP, evI, mb_ok, mb_some, mb_er, op_some, keep_sh, keep_fr, blM_bl, intM_int, nerr_ok, Option.map_some, Option.bind_some, List.getElem?_cons_zero, List.getElem?_cons_succ, List.set_cons_zero, List.set_cons_succ, asgF, unpF, ownOf, appF, setAll, bindT, wipeR, List.length_cons, List.length_nil, List.map_cons, List.map_nil, List.replicate, List.cons_append, List.nil_append, if_true, Bool.false_eq_true, if_false, Nat.reduceAdd, Nat.reduceSub, Nat.zero_add, Nat.reduceEqDiff, Option.map_none, Nat.zero_le, Nat.reduceLT, Nat.reduceLeDiff, Bool.not_true, Bool.not_false, m_are_some, isiD, items, ht, c1, uop, bls_map]
    rw [show (List.map (fun x => isNum x 0 ((many : Int) - 1)) xs).all id = allNum xs many by simp [allNum, List.all_map]]
    cases ha : allNum xs many with
    | false => simp only [runD, evB, evS, evE, evA, evT, evAnd, evOr, evAndV, evOrV, evP, evI, mb_ok, mb_some, mb_er, op_some, keep_sh, keep_fr, blM_bl, intM_int, nerr_ok, Option.map_some, Option.bind_some, List.getElem?_cons_zero, List.getElem?_cons_succ, List.set_cons_zero, List.set_cons_succ, asgF, unpF, ownOf, appF, setAll, bindT, wipeR, List.length_cons, List.length_nil, List.map_cons, List.map_nil, List.replicate, List.cons_append, List.nil_append, if_true, Bool.false_eq_true, if_false, Nat.reduceAdd, Nat.reduceSub, Nat.zero_add, Nat.reduceEqDiff, Option.map_none, Nat.zero_le, Nat.reduceLT, Nat.reduceLeDiff, Bool.not_true, Bool.not_false, allNum_false ha]
    | true =>
      obtain ⟨ns, e1, e2⟩ := allNum_ints ha
      have e3 := ints_of e1
      subst e3
      clear c1
      rw [List.length_map] at hl
      simp only [runD, evB, evS, evE, evA, evT, evAnd, evOr, evAndV, evOrV, evP, evI, mb_ok, mb_some, mb_er, op_some, keep_sh, keep_fr, blM_bl, intM_int, nerr_ok, Option.map_some, Option.bind_some, List.getElem?_cons_zero, List.getElem?_cons_succ, List.set_cons_zero, List.set_cons_succ, asgF, unpF, ownOf, appF, setAll, bindT, wipeR, List.length_cons, List.length_nil, List.map_cons, List.map_nil, List.replicate, List.cons_append, List.nil_append, if_true, Bool.false_eq_true, if_false, Nat.reduceAdd, Nat.reduceSub, Nat.zero_add, Nat.reduceEqDiff, Option.map_none, Nat.zero_le, Nat.reduceLT, Nat.reduceLeDiff, Bool.not_true, Bool.not_false, slD, cut_last, cut_tail]
      rw [show ((ns.map D.int).dropLast.zip ((ns.map D.int).drop 1)).map (fun p => D.tup [p.1, p.2]) = (ns.dropLast.zip (ns.drop 1)).map fun p => D.tup [.int p.1, .int p.2] by
        rw [← List.map_dropLast, ← List.map_drop, List.zip_map, List.map_map]; rfl]
      rw [if_pos (by rw [List.length_map, List.length_zip]; simp only [List.length_dropLast, List.length_drop]; unfold top; omega)]
      rw [compL_map (g := fun (p : Int × Int) => D.bl (decide (p.1 < p.2))) (fun p hp => by simp only [runD, evB, evS, evE, evA, evT, evAnd, evOr, evAndV, evOrV, evP, evI, mb_ok, mb_some, mb_er, op_some, keep_sh, keep_fr, blM_bl, intM_int, nerr_ok, Option.map_some, Option.bind_some, List.getElem?_cons_zero, List.getElem?_cons_succ, List.set_cons_zero, List.set_cons_succ, asgF, unpF, ownOf, appF, setAll, bindT, wipeR, List.length_cons, List.length_nil, List.map_cons, List.map_nil, List.replicate, List.cons_append, List.nil_append, if_true, Bool.false_eq_true, if_false, Nat.reduceAdd, Nat.reduceSub, Nat.zero_add, Nat.reduceEqDiff, Option.map_none, Nat.zero_le, Nat.reduceLT, Nat.reduceLeDiff, Bool.not_true, Bool.not_false, e2_are_some, cop])]
      simp only [runD, evB, evS, evE, evA, evT, evAnd, evOr, evAndV, evOrV, evP, evI, mb_ok, mb_some, mb_er, op_some, keep_sh, keep_fr, blM_bl, intM_int, nerr_ok, Option.map_some, Option.bind_some, List.getElem?_cons_zero, List.getElem?_cons_succ, List.set_cons_zero, List.set_cons_succ, asgF, unpF, ownOf, appF, setAll, bindT, wipeR, List.length_cons, List.length_nil, List.map_cons, List.map_nil, List.replicate, List.cons_append, List.nil_append, if_true, Bool.false_eq_true, if_false, Nat.reduceAdd, Nat.reduceSub, Nat.zero_add, Nat.reduceEqDiff, Option.map_none, Nat.zero_le, Nat.reduceLT, Nat.reduceLeDiff, Bool.not_true, Bool.not_false, uop, bls_map]
      rw [List.all_map, show ((id : Bool → Bool) ∘ fun p : Int × Int => decide (p.1 < p.2)) = fun p => decide (p.1 < p.2) from rfl, rise_zip]
      unfold areSome
      simp only [e1, e2, Bool.true_and]
  | _ => simp only [runD, evB, evS, evE, evA, evT, evAnd, evOr, evAndV, evOrV, evP, evI, mb_ok, mb_some, mb_er, op_some, keep_sh, keep_fr, blM_bl, intM_int, nerr_ok, Option.map_some, Option.bind_some, List.getElem?_cons_zero, List.getElem?_cons_succ, List.set_cons_zero, List.set_cons_succ, asgF, unpF, ownOf, appF, setAll, bindT, wipeR, List.length_cons, List.length_nil, List.map_cons, List.map_nil, List.replicate, List.cons_append, List.nil_append, if_true, Bool.false_eq_true, if_false, Nat.reduceAdd, Nat.reduceSub, Nat.zero_add, Nat.reduceEqDiff, Option.map_none, Nat.zero_le, Nat.reduceLT, Nat.reduceLeDiff, Bool.not_true, Bool.not_false, m_are_some, isiD, areSome]
theorem sortnub_eq (ns : List Int) : (ns == sortI (nubI ns)) = decide (ns.Pairwise (· < ·)) := by
  rw [Bool.eq_iff_iff]
  simp only [beq_iff_eq, decide_eq_true_eq]
  constructor
  · intro h
    rw [h]
    exact rising_sortnub ns
  · intro h
    exact rising_eq h fun k => Iff.rfl
theorem eqvL_int : ∀ (a b : List Int), D.eqvL (a.map .int) (b.map .int) = (a == b)
  | [], [] => rfl
  | [], b :: bs => rfl
  | a :: as, [] => rfl
  | a :: as, b :: bs => by
    show (D.eqv (.int a) (.int b) && D.eqvL (as.map .int) (bs.map .int)) = _
    rw [eqvL_int as bs]
    rfl
theorem plnL_int (l : List Int) : D.plnL (l.map .int) = true := by
  induction l with
  | nil => rfl
  | cons x r ih =>
    show (D.pln (.int x) && D.plnL (r.map .int)) = true
    rw [ih]; rfl
theorem depL_int (l : List Int) : D.depL (l.map .int) = 0 := by
  induction l with
  | nil => rfl
  | cons x r ih =>
    show Nat.max (D.dep (.int x)) (D.depL (r.map .int)) = 0
    rw [ih]; rfl
theorem fine_lint {l : List Int} : (D.lst (l.map .int)).fine = true := by
  simp [D.fine, D.pln, D.dep, plnL_int, depL_int]
theorem cop_eqint (a b : List Int) : cop .eq (.lst (a.map .int)) (.lst (b.map .int)) = some (a == b) := by
  simp only [cop, fine_lint, Bool.and_self, if_true, D.eqv, eqvL_int]
/-- a part that is none of these -/
def badP (many : Nat) (x : D) : Bool := !isNum x 0 ((many : Int) - 1)
theorem law_some_ok {Φ : Tab} {wf : Nat} : SSome (runD m__law_are_some Φ wf) := by
  intro d many hd
  cases d with
  | scr _ => cases hd
  | tup xs =>
    simp only [shal, Bool.and_eq_true, decide_eq_true_eq, List.all_eq_true] at hd
    obtain ⟨hd, hl⟩ := hd
    have step : ∀ (x : D) (a : Sl), nsc x = true → evB Φ wf l1__law_are_some [.va (.tup xs), .va (nD many), .va x] = (if isNum x 0 ((many : Int) - 1) then ok (.nx [.va (.tup xs), .va (nD many), .va x]) else ok (.rt (.bl false))) := by
      intro x a hx
      cases x with
      | scr _ => cases hx
      | int i =>
        have e : isNum (.int i) 0 ((many : Int) - 1) = (decide (0 ≤ i) && decide (i < (many : Int))) := by
          simp only [isNum]
          congr 1
          rw [Bool.eq_iff_iff]
          simp only [decide_eq_true_eq]
          omega
        rw [e]
        by_cases h : 0 ≤ i
        · by_cases h' : i < (many : Int)
          · simp only [runD, evB, evS, evE, evA, evT, evAnd, evOr, evAndV, evOrV, evP, evI, mb_ok, mb_some, mb_er, op_some, keep_sh, keep_fr, blM_bl, intM_int, nerr_ok, Option.map_some, Option.bind_some, List.getElem?_cons_zero, List.getElem?_cons_succ, List.set_cons_zero, List.set_cons_succ, asgF, unpF, ownOf, appF, setAll, bindT, wipeR, List.length_cons, List.length_nil, List.map_cons, List.map_nil, List.replicate, List.cons_append, List.nil_append, if_true, Bool.false_eq_true, if_false, Nat.reduceAdd, Nat.reduceSub, Nat.zero_add, Nat.reduceEqDiff, Option.map_none, Nat.zero_le, Nat.reduceLT, Nat.reduceLeDiff, Bool.not_true, Bool.not_false, l1__law_are_some, isiD, cop, nD, h, h', decide_true, decide_false, Bool.and_self]
          · simp only [runD, evB, evS, evE, evA, evT, evAnd, evOr, evAndV, evOrV, evP, evI, mb_ok, mb_some, mb_er, op_some, keep_sh, keep_fr, blM_bl, intM_int, nerr_ok, Option.map_some, Option.bind_some, List.getElem?_cons_zero, List.getElem?_cons_succ, List.set_cons_zero, List.set_cons_succ, asgF, unpF, ownOf, appF, setAll, bindT, wipeR, List.length_cons, List.length_nil, List.map_cons, List.map_nil, List.replicate, List.cons_append, List.nil_append, if_true, Bool.false_eq_true, if_false, Nat.reduceAdd, Nat.reduceSub, Nat.zero_add, Nat.reduceEqDiff, Option.map_none, Nat.zero_le, Nat.reduceLT, Nat.reduceLeDiff, Bool.not_true, Bool.not_false, l1__law_are_some, isiD, cop, nD, h, h', decide_true, decide_false, Bool.and_false]
        · simp only [runD, evB, evS, evE, evA, evT, evAnd, evOr, evAndV, evOrV, evP, evI, mb_ok, mb_some, mb_er, op_some, keep_sh, keep_fr, blM_bl, intM_int, nerr_ok, Option.map_some, Option.bind_some, List.getElem?_cons_zero, List.getElem?_cons_succ, List.set_cons_zero, List.set_cons_succ, asgF, unpF, ownOf, appF, setAll, bindT, wipeR, List.length_cons, List.length_nil, List.map_cons, List.map_nil, List.replicate, List.cons_append, List.nil_append, if_true, Bool.false_eq_true, if_false, Nat.reduceAdd, Nat.reduceSub, Nat.zero_add, Nat.reduceEqDiff, Option.map_none, Nat.zero_le, Nat.reduceLT, Nat.reduceLeDiff, Bool.not_true, Bool.not_false, l1__law_are_some, isiD, cop, nD, h, decide_true, decide_false, Bool.false_and]
      | _ => simp only [runD, evB, evS, evE, evA, evT, evAnd, evOr, evAndV, evOrV, evP, evI, mb_ok, mb_some, mb_er, op_some, keep_sh, keep_fr, blM_bl, intM_int, nerr_ok, Option.map_some, Option.bind_some, List.getElem?_cons_zero, List.getElem?_cons_succ, List.set_cons_zero, List.set_cons_succ, asgF, unpF, ownOf, appF, setAll, bindT, wipeR, List.length_cons, List.length_nil, List.map_cons, List.map_nil, List.replicate, List.cons_append, List.nil_append, if_true, Bool.false_eq_true, if_false, Nat.reduceAdd, Nat.reduceSub, Nat.zero_add, Nat.reduceEqDiff, Option.map_none, Nat.zero_le, Nat.reduceLT, Nat.reduceLeDiff, Bool.not_true, Bool.not_false, l1__law_are_some, isiD, isNum]
    have loop : ∀ (ys : List D) (a : Sl), (∀ y ∈ ys, nsc y = true) → if allNum ys many = true then ∃ a', forL (bindT true [2]) (fun ρ => evB Φ wf l1__law_are_some ρ) ys [.va (.tup xs), .va (nD many), a] = ok (.nx [.va (.tup xs), .va (nD many), a'])
        else forL (bindT true [2]) (fun ρ => evB Φ wf l1__law_are_some ρ) ys [.va (.tup xs), .va (nD many), a] = ok (.rt (.bl false)) := by
      intro ys
      induction ys with
      | nil => intro a _; exact ⟨a, rfl⟩
      | cons y r ih =>
        intro a hy
        have s1 := step y a (hy y List.mem_cons_self)
        have ih := ih (.va y) fun z hz => hy z (List.mem_cons_of_mem _ hz)
        have eb : bindT true [2] y [.va (.tup xs), .va (nD many), a] = some [.va (.tup xs), .va (nD many), .va y] := rfl
        have ea : allNum (y :: r) many = (isNum y 0 ((many : Int) - 1) && allNum r many) := rfl
        rw [ea]
        simp only [forL, eb, s1]
        cases isNum y 0 ((many : Int) - 1) with
        | false => rfl
        | true => simpa only [Bool.true_and, if_true, mb_ok] using ih
    have h := loop xs .no hd
    cases ha : allNum xs many with
    | false =>
      rw [ha] at h
      simp only [Bool.false_eq_true, if_false] at h
      simp only [runD, evB, evS, evE, evA, evT, evAnd, evOr, evAndV, evOrV, evP, evI, mb_ok, mb_some, mb_er, op_some, keep_sh, keep_fr, blM_bl, intM_int, nerr_ok, Option.map_some, Option.bind_some, List.getElem?_cons_zero, List.getElem?_cons_succ, List.set_cons_zero, List.set_cons_succ, asgF, unpF, ownOf, appF, setAll, bindT, wipeR, List.length_cons, List.length_nil, List.map_cons, List.map_nil, List.replicate, List.cons_append, List.nil_append, if_true, Bool.false_eq_true, if_false, Nat.reduceAdd, Nat.reduceSub, Nat.zero_add, Nat.reduceEqDiff, Option.map_none, Nat.zero_le, Nat.reduceLT, Nat.reduceLeDiff, Bool.not_true, Bool.not_false, m__law_are_some, isiD, items, h, allNum_false ha]
    | true =>
      rw [ha] at h
      simp only [if_true] at h
      obtain ⟨a', h⟩ := h
      obtain ⟨ns, e1, e2⟩ := allNum_ints ha
      have e3 := ints_of e1
      subst e3
      rw [List.length_map] at hl
      simp only [runD, evB, evS, evE, evA, evT, evAnd, evOr, evAndV, evOrV, evP, evI, mb_ok, mb_some, mb_er, op_some, keep_sh, keep_fr, blM_bl, intM_int, nerr_ok, Option.map_some, Option.bind_some, List.getElem?_cons_zero, List.getElem?_cons_succ, List.set_cons_zero, List.set_cons_succ, asgF, unpF, ownOf, appF, setAll, bindT, wipeR, List.length_cons, List.length_nil, List.map_cons, List.map_nil, List.replicate, List.cons_append, List.nil_append, if_true, Bool.false_eq_true, if_false, Nat.reduceAdd, Nat.reduceSub, Nat.zero_add, Nat.reduceEqDiff, Option.map_none, Nat.zero_le, Nat.reduceLT, Nat.reduceLeDiff, Bool.not_true, Bool.not_false, m__law_are_some, isiD, items, h, uop, e1, hl, cop_eqint, sortnub_eq]
      unfold areSome
      simp only [e1, e2, Bool.true_and]
  | _ => simp only [runD, evB, evS, evE, evA, evT, evAnd, evOr, evAndV, evOrV, evP, evI, mb_ok, mb_some, mb_er, op_some, keep_sh, keep_fr, blM_bl, intM_int, nerr_ok, Option.map_some, Option.bind_some, List.getElem?_cons_zero, List.getElem?_cons_succ, List.set_cons_zero, List.set_cons_succ, asgF, unpF, ownOf, appF, setAll, bindT, wipeR, List.length_cons, List.length_nil, List.map_cons, List.map_nil, List.replicate, List.cons_append, List.nil_append, if_true, Bool.false_eq_true, if_false, Nat.reduceAdd, Nat.reduceSub, Nat.zero_add, Nat.reduceEqDiff, Option.map_none, Nat.zero_le, Nat.reduceLT, Nat.reduceLeDiff, Bool.not_true, Bool.not_false, m__law_are_some, isiD, areSome]
/-- what some of so many are -/
theorem areSome_ns {d : D} {many : Nat} (h : areSome d many = true) : ∃ s : List Nat, d = .tup (nsD s) ∧ (∀ n ∈ s, n < many) ∧ s.Pairwise (· < ·) := by
  cases d with
  | tup xs =>
    unfold areSome at h
    cases hx : D.ints xs with
    | none => simp only [hx] at h; cases h
    | some ns =>
      simp only [hx, Bool.and_eq_true, decide_eq_true_eq, List.all_eq_true] at h
      obtain ⟨h1, h2⟩ := h
      have e := ints_of hx
      subst e
      refine ⟨ns.map Int.toNat, ?_, fun n hn => ?_, ?_⟩
      · congr 1
        unfold nsD
        rw [List.map_map]
        apply List.map_congr_left
        intro i hi
        have := h1 i hi
        show D.int i = .int ((i.toNat : Nat) : Int)
        congr 1
        omega
      · obtain ⟨i, hi, rfl⟩ := List.mem_map.mp hn
        have := h1 i hi
        omega
      · rw [List.pairwise_map]
        refine List.Pairwise.imp_of_mem (fun {a b} ha hb hab => ?_) h2
        have := h1 a ha
        have := h1 b hb
        omega
  | _ => cases h
end J

set_option Elab.async false
set_option linter.all false
set_option maxRecDepth 100000
set_option maxHeartbeats 4000000
/-! trees; ties pruned -/
namespace J
open PySem PV
def treeS (m : Nat) (ts : List Tie) (ends s : List Nat) : Bool := joinB m ts s ends && s.all fun n => !joinB m ts (s.filter fun k => !(k == n)) ends
/-- the numbers of a row -/
def nats : D → List Nat
  | .tup xs => xs.map fun x => match x with | .int i => i.toNat | _ => 0
  | _ => []
theorem nats_ns (s : List Nat) : nats (.tup (nsD s)) = s := by
  simp only [nats, nsD, List.map_map]
  conv => rhs; rw [← List.map_id s]
  apply List.map_congr_left
  intro n _
  simp [nD]
def isTree (m : Nat) (ts : List Tie) (ends : List Nat) (d : D) : Bool := areSome d ts.length && treeS m ts ends (nats d)
/-- a web of the law's -/
structure Web (m : Nat) (ts : List Tie) : Prop where
  m0 : 0 < m
  m7 : m ≤ 100
  t10 : ts.length < 64
  inw : InW m ts
def Ends (m : Nat) (ends : List Nat) : Prop := (∀ x ∈ ends, x < m) ∧ ends.length < 64
theorem erase_filter : ∀ (s : List Nat), s.Pairwise (· < ·) → ∀ (i n : Nat), s[i]? = some n → s.take i ++ s.drop (i + 1) = s.filter fun k => !(k == n)
  | [], _, _, _, h => by simp at h
  | a :: r, hp, 0, n, h => by
    simp at h
    subst h
    rw [List.pairwise_cons] at hp
    simp only [List.take_zero, List.nil_append, Nat.zero_add, List.drop_succ_cons, List.drop_zero, List.filter_cons, beq_self_eq_true, Bool.not_true, Bool.false_eq_true, if_false]
    symm
    rw [List.filter_eq_self]
    intro k hk
    have := hp.1 k hk
    simp
    omega
  | a :: r, hp, i + 1, n, h => by
    rw [List.pairwise_cons] at hp
    have h : r[i]? = some n := by simpa using h
    have ih := erase_filter r hp.2 i n h
    have hn := hp.1 n (List.mem_of_getElem? h)
    simp only [List.take_succ_cons, List.drop_succ_cons, List.cons_append, ih, List.filter_cons]
    rw [if_pos (by simp; omega)]
def STree (φ : List D → M D) : Prop := ∀ (m : Nat) (ts : List Tie) (ends : List Nat) (d : D), Web m ts → Ends m ends → shal d = true → φ [webD m ts, .tup (nsD ends), d] = ok (.bl (isTree m ts ends d))
theorem ns_tup (s : List Nat) : D.tup (nsD s) = seqD true (nsD s) := rfl
theorem ns_lst (s : List Nat) : D.lst (nsD s) = seqD false (nsD s) := rfl
theorem rise_len {s : List Nat} {m : Nat} (h : s.Pairwise (· < ·)) (hm : ∀ n ∈ s, n < m) : s.length ≤ m := by
  have h2 : ∀ (k : Nat) (s : List Nat), s.Pairwise (· < ·) → (∀ n ∈ s, k ≤ n ∧ n < m) → s.length ≤ m - k := by
    intro k s
    induction s generalizing k with
    | nil => intro _ _; simp
    | cons a r ih =>
      intro hp hb
      rw [List.pairwise_cons] at hp
      have ha := hb a List.mem_cons_self
      have := ih (a + 1) hp.2 fun n hn => ⟨hp.1 n hn, (hb n (List.mem_cons_of_mem _ hn)).2⟩
      rw [List.length_cons]
      omega
  have := h2 0 s h fun n hn => ⟨Nat.zero_le _, hm n hn⟩
  omega
theorem len_web (ts : List Tie) : uop .len (.tup (ts.map tieD)) = some (nD ts.length, .sh) := by simp [uop, items, nD]
theorem any_idx {s : List Nat} {f : Nat → Bool} {g : Nat → Bool} (h : ∀ i n, s[i]? = some n → f i = g n) : (List.range s.length).any f = s.any g := by
  rw [Bool.eq_iff_iff, List.any_eq_true, List.any_eq_true]
  constructor
  · rintro ⟨i, h1, h2⟩
    have hi : i < s.length := List.mem_range.mp h1
    exact ⟨s[i], List.getElem_mem hi, by rw [← h i s[i] (List.getElem?_eq_getElem hi)]; exact h2⟩
  · rintro ⟨n, h1, h2⟩
    obtain ⟨i, hi, rfl⟩ := List.getElem_of_mem h1
    exact ⟨i, List.mem_range.mpr hi, by rw [h i s[i] (List.getElem?_eq_getElem hi)]; exact h2⟩
/-! ### pruned -/
def less (s : List Nat) (n : Nat) : List Nat := s.filter fun k => !(k == n)
def pstep (m : Nat) (ts : List Tie) (ends : List Nat) (found : List Nat) (n : Nat) : List Nat := if joinB m ts (less found n) ends then less found n else found
def prune (m : Nat) (ts : List Tie) (ends s : List Nat) : List Nat := s.reverse.foldl (pstep m ts ends) s
theorem less_sub {s : List Nat} {n k : Nat} (h : k ∈ less s n) : k ∈ s := (List.mem_filter.mp h).1
theorem less_mono {s t : List Nat} {n : Nat} (h : ∀ k ∈ s, k ∈ t) : ∀ k ∈ less s n, k ∈ less t n := fun k hk =>
  List.mem_filter.mpr ⟨h k (List.mem_filter.mp hk).1, (List.mem_filter.mp hk).2⟩
theorem pstep_sub {m : Nat} {ts : List Tie} {ends f : List Nat} {n k : Nat} (h : k ∈ pstep m ts ends f n) : k ∈ f := by
  unfold pstep at h
  split at h
  · exact less_sub h
  · exact h
theorem fold_sub {m : Nat} {ts : List Tie} {ends : List Nat} : ∀ (l f : List Nat) (k : Nat), k ∈ l.foldl (pstep m ts ends) f → k ∈ f
  | [], f, k, h => h
  | n :: l, f, k, h => pstep_sub (fold_sub l _ k h)
theorem fold_rise {m : Nat} {ts : List Tie} {ends : List Nat} : ∀ (l f : List Nat), f.Pairwise (· < ·) → (l.foldl (pstep m ts ends) f).Pairwise (· < ·)
  | [], f, h => h
  | n :: l, f, h => by
    refine fold_rise l _ ?_
    unfold pstep
    split
    · exact h.filter _
    · exact h
/-- behind the walk: what is left joins, and none of those walked can be left out -/
theorem fold_min {m : Nat} {ts : List Tie} (hw : InW m ts) {ends : List Nat} (he : ∀ x ∈ ends, x < m) : ∀ (l f : List Nat), (∀ n ∈ f, n < ts.length) → joinB m ts f ends = true →
    joinB m ts (l.foldl (pstep m ts ends) f) ends = true ∧ ∀ n ∈ l, n ∈ l.foldl (pstep m ts ends) f → joinB m ts (less (l.foldl (pstep m ts ends) f) n) ends = false
  | [], f, _, h => ⟨h, fun n hn => by cases hn⟩
  | a :: l, f, hf, h => by
    have hf' : ∀ n ∈ pstep m ts ends f a, n < ts.length := fun n hn => hf n (pstep_sub hn)
    have h' : joinB m ts (pstep m ts ends f a) ends = true := by
      unfold pstep
      split
      · assumption
      · exact h
    obtain ⟨i1, i2⟩ := fold_min hw he l _ hf' h'
    refine ⟨i1, fun n hn hm => ?_⟩
    rcases List.mem_cons.mp hn with rfl | hn
    · have hin := fold_sub l _ _ hm
      have hnj : joinB m ts (less f n) ends = false := by
        unfold pstep at hin
        split at hin
        · rename_i hj
          have := (List.mem_filter.mp hin).2
          simp at this
        · rename_i hj
          simpa using hj
      rw [← Bool.not_eq_true] at hnj ⊢
      intro q
      apply hnj
      have sub : ∀ k ∈ less (List.foldl (pstep m ts ends) f (n :: l)) n, k ∈ less f n := less_mono fun k hk => fold_sub (n :: l) f k hk
      have hl1 : ∀ k ∈ less f n, k < ts.length := fun k hk => hf k (less_sub hk)
      have q := (joinB_iff hw (fun k hk => hl1 k (sub k hk)) he).mp q
      exact (joinB_iff hw hl1 he).mpr (q.mono sub)
    · exact i2 n hn hm
theorem prune_sub {m : Nat} {ts : List Tie} {ends s : List Nat} : ∀ n ∈ prune m ts ends s, n ∈ s := fun n hn => fold_sub _ _ n hn
theorem prune_tree {m : Nat} {ts : List Tie} (hw : InW m ts) {ends s : List Nat} (he : ∀ x ∈ ends, x < m) (hs : ∀ n ∈ s, n < ts.length) (h : joinB m ts s ends = true) : treeS m ts ends (prune m ts ends s) = true := by
  obtain ⟨h1, h2⟩ := fold_min hw he s.reverse s hs h
  unfold treeS
  rw [Bool.and_eq_true, List.all_eq_true]
  refine ⟨h1, fun n hn => ?_⟩
  have := h2 n (List.mem_reverse.mpr (prune_sub n hn)) hn
  unfold less at this
  unfold prune
  rw [this]
  rfl
theorem less_len (s : List Nat) (n : Nat) : (less s n).length ≤ s.length := List.length_filter_le _ _
theorem pstep_len (m : Nat) (ts : List Tie) (ends f : List Nat) (n : Nat) : (pstep m ts ends f n).length ≤ f.length := by
  unfold pstep
  split
  · exact less_len f n
  · exact Nat.le_refl _
theorem fold_len (m : Nat) (ts : List Tie) (ends : List Nat) : ∀ (l f : List Nat), (l.foldl (pstep m ts ends) f).length ≤ f.length
  | [], f => Nat.le_refl _
  | n :: l, f => Nat.le_trans (fold_len m ts ends l _) (pstep_len m ts ends f n)
def SPruned (φ : List D → M D) : Prop := ∀ (m : Nat) (ts : List Tie) (s ends : List Nat), Web m ts → Ends m ends → s.length < 64 → (∀ n ∈ s, n < ts.length) → φ [webD m ts, .tup (nsD s), .tup (nsD ends)] = ok (.tup (nsD (prune m ts ends s)))
end J

set_option Elab.async false
set_option linter.all false
set_option maxRecDepth 100000
set_option maxHeartbeats 4000000
/-! what is drawn -/
namespace J
open PySem PV
theorem lit_nat (k : Nat) : (OfNat.ofNat k : Int) = ((OfNat.ofNat k : Nat) : Int) := rfl
theorem bmod_n (a k : Nat) (h : 0 < k) : bop .mod (nD a) (nD k) = some (nD (a % k), .sh) := by
  simp only [bop, nD]
  rw [if_pos (by omega)]
  rfl
theorem log2_small {k : Nat} (h : k < 4294967296) : k.log2 < 9000 := by
  by_cases h0 : k = 0
  · subst h0; decide
  · have : k.log2 < 32 := (Nat.log2_lt h0).mpr h
    omega
theorem bdiv_n (a k : Nat) (h : 0 < k) (h2 : k < 4294967296) : bop .fdiv (nD a) (nD k) = some (nD (a / k), .sh) := by
  simp only [bop, nD]
  rw [if_pos ⟨by omega, by rw [Int.natAbs_natCast]; exact log2_small h2⟩]
  rfl
theorem badd_n (a k : Nat) : bop .add (nD a) (nD k) = some (nD (a + k), .sh) := by
  simp only [bop, nD]; rfl
theorem bmul_n (a k : Nat) (h : a < 2 ^ 64) : bop .mul (nD a) (nD k) = some (nD (a * k), .sh) := by
  simp only [bop, nD]
  rw [if_pos (.inl (by rw [Int.natAbs_natCast]; exact h))]
  simp
theorem bsub_n (a k : Nat) (h : k ≤ a) : bop .sub (nD a) (nD k) = some (nD (a - k), .sh) := by
  simp only [bop, nD]
  congr 3
  omega
theorem kN (k : Nat) : D.int (no_index (OfNat.ofNat k)) = nD (OfNat.ofNat k) := rfl
theorem cop_ltn (a b : Nat) : cop .lt (nD a) (nD b) = some (decide (a < b)) := by
  simp only [cop, nD]; congr 1; rw [Bool.eq_iff_iff]; simp only [decide_eq_true_eq]; omega
theorem cop_gtn (a b : Nat) : cop .gt (nD a) (nD b) = some (decide (b < a)) := by
  simp only [cop, nD]; congr 1; rw [Bool.eq_iff_iff]; simp only [decide_eq_true_eq]; omega
theorem cop_len (a b : Nat) : cop .le (nD a) (nD b) = some (decide (a ≤ b)) := by
  simp only [cop, nD]; congr 1; rw [Bool.eq_iff_iff]; simp only [decide_eq_true_eq]; omega
theorem cop_gen (a b : Nat) : cop .ge (nD a) (nD b) = some (decide (b ≤ a)) := by
  simp only [cop, nD]; congr 1; rw [Bool.eq_iff_iff]; simp only [decide_eq_true_eq]; omega
/-- the script, or a list of its kind -/
def scrD : Bool → List Int → D
  | true, ns => .scr ns
  | false, ns => .lst (ns.map .int)
theorem items_scr (b : Bool) (ns : List Int) : items (scrD b ns) = some (ns.map .int) := by cases b <;> rfl
def SCell (φ : List D → M D) : Prop := ∀ (b : Bool) (ns : List Int) (k : Nat), φ [scrD b ns, nD k] = ok (.int (ns.getD k 0))
theorem cell_ok {Φ : Tab} {wf : Nat} : SCell (runD m__law_cell_at Φ wf) := by
  intro b ns k
  have hl : uop .len (scrD b ns) = some (nD ns.length, .sh) := by cases b <;> simp [uop, scrD, items, nD]
  by_cases h : k < ns.length
  · have hi : ixD (scrD b ns) (nD k) = some (.int (ns.getD k 0)) := by
      cases b
      · have := ix_lst (xs := ns.map D.int) (n := k) (by simpa using h)
        rw [show scrD false ns = .lst (ns.map .int) from rfl, this]
        simp [h]
      · show (L2.atI ns (k : Int)).map D.int = _
        rw [atI_nat' h]
        simp [h]
    simp only [runD, evB, evS, evE, evA, evT, evAnd, evOr, evAndV, evOrV, evP, evI, mb_ok, mb_some, mb_er, op_some, keep_sh, keep_fr, blM_bl, intM_int, nerr_ok, Option.map_some, Option.bind_some, List.getElem?_cons_zero, List.getElem?_cons_succ, List.set_cons_zero, List.set_cons_succ, asgF, unpF, ownOf, appF, setAll, bindT, wipeR, List.length_cons, List.length_nil, List.map_cons, List.map_nil, List.replicate, List.cons_append, List.nil_append, if_true, Bool.false_eq_true, if_false, Nat.reduceAdd, Nat.reduceSub, Nat.zero_add, Nat.reduceEqDiff, Option.map_none, Nat.zero_le, Nat.reduceLT, Nat.reduceLeDiff, Bool.not_true, Bool.not_false, m__law_cell_at, hl, cop_ltn, h, decide_true, hi]
  · simp only [runD, evB, evS, evE, evA, evT, evAnd, evOr, evAndV, evOrV, evP, evI, mb_ok, mb_some, mb_er, op_some, keep_sh, keep_fr, blM_bl, intM_int, nerr_ok, Option.map_some, Option.bind_some, List.getElem?_cons_zero, List.getElem?_cons_succ, List.set_cons_zero, List.set_cons_succ, asgF, unpF, ownOf, appF, setAll, bindT, wipeR, List.length_cons, List.length_nil, List.map_cons, List.map_nil, List.replicate, List.cons_append, List.nil_append, if_true, Bool.false_eq_true, if_false, Nat.reduceAdd, Nat.reduceSub, Nat.zero_add, Nat.reduceEqDiff, Option.map_none, Nat.zero_le, Nat.reduceLT, Nat.reduceLeDiff, Bool.not_true, Bool.not_false, m__law_cell_at, hl, cop_ltn, h, decide_false]
    rw [List.getD_eq_getElem?_getD, List.getElem?_eq_none (by omega)]
    rfl
def big : Nat := 2147483629
def SMixed (φ : List D → M D) : Prop := ∀ (b : Bool) (ns : List Int) (k : Nat), k < 1000 → ∃ n, n < big ∧ φ [scrD b ns, nD k] = ok (nD n)
theorem mixed_ok {Φ : Tab} {wf : Nat} (hc : Fn Φ "_law_cell_at" SCell) : SMixed (runD m__law_mixed Φ wf) := by
  intro b ns k hk
  obtain ⟨φ, h1, h2⟩ := hc
  have e1 : bop .mul (.int 7919) (nD k) = some (.int (7919 * (k : Int)), .sh) := by
    simp only [bop, nD]; rw [if_pos (.inl (by decide))]
  obtain ⟨c, hc⟩ : ∃ c : Int, c = ns.getD k 0 := ⟨_, rfl⟩
  obtain ⟨h, hh⟩ : ∃ h : Nat, (h : Int) = (c + 7919 * (k : Int) + 1) * 48271 % 2147483647 := ⟨((c + 7919 * (k : Int) + 1) * 48271 % 2147483647).toNat, by omega⟩
  have hb : h < 2147483647 := by omega
  have e2 : bop .mul (.int (c + 7919 * (k : Int) + 1)) (.int 48271) = some (.int ((c + 7919 * (k : Int) + 1) * 48271), .sh) := by
    simp only [bop]; rw [if_pos (.inr (.inl (by decide)))]
  have e3 : bop .mod (.int ((c + 7919 * (k : Int) + 1) * 48271)) (.int 2147483647) = some (nD h, .sh) := by
    simp only [bop]; rw [if_pos (by decide), ← hh]; rfl
  have e4 : bop .add (.int c) (.int (7919 * (k : Int))) = some (.int (c + 7919 * (k : Int)), .sh) := rfl
  have e5 : bop .add (.int (c + 7919 * (k : Int))) (.int 1) = some (.int (c + 7919 * (k : Int) + 1), .sh) := rfl
  have e6 := bmul_n h h (by omega)
  have e7 : bop .mul (.int 7) (nD h) = some (nD (7 * h), .sh) := bmul_n 7 h (by decide)
  refine ⟨(h * h + 7 * h + k) % big, Nat.mod_lt _ (by decide), ?_⟩
  have e8 : bop .mod (nD (h * h + 7 * h + k)) (.int 2147483629) = some (nD ((h * h + 7 * h + k) % big), .sh) := bmod_n _ big (by decide)
  simp only [runD, evB, evS, evE, evA, evT, evAnd, evOr, evAndV, evOrV, evP, evI, mb_ok, mb_some, mb_er, op_some, keep_sh, keep_fr, blM_bl, intM_int, nerr_ok, Option.map_some, Option.bind_some, List.getElem?_cons_zero, List.getElem?_cons_succ, List.set_cons_zero, List.set_cons_succ, asgF, unpF, ownOf, appF, setAll, bindT, wipeR, List.length_cons, List.length_nil, List.map_cons, List.map_nil, List.replicate, List.cons_append, List.nil_append, if_true, Bool.false_eq_true, if_false, Nat.reduceAdd, Nat.reduceSub, Nat.zero_add, Nat.reduceEqDiff, Option.map_none, Nat.zero_le, Nat.reduceLT, Nat.reduceLeDiff, Bool.not_true, Bool.not_false, m__law_mixed, h1, h2 b ns k, ← hc, e1, e4, e5, e2, e3, e6, e7, badd_n, e8]
def SDrawn (φ : List D → M D) : Prop := ∀ n, n < big → ∃ f : Nat → Nat, ∀ k, k < 1000 → f k < big ∧ φ [nD n, nD k] = ok (nD (f k))
theorem drawn_ok {Φ : Tab} {wf : Nat} : SDrawn (runD m__law_drawn Φ wf) := by
  intro n hn
  unfold big at hn
  refine ⟨fun k => let h := (n + 104729 * k + 17) * 69621 % 2147483647; (h * h + 3 * h + k) % big, fun k hk => ⟨Nat.mod_lt _ (by decide), ?_⟩⟩
  obtain ⟨h, hh⟩ : ∃ h : Nat, h = (n + 104729 * k + 17) * 69621 % 2147483647 := ⟨_, rfl⟩
  have hb : h < 2147483647 := by rw [hh]; exact Nat.mod_lt _ (by decide)
  have e1 : bop .mul (.int 104729) (nD k) = some (nD (104729 * k), .sh) := bmul_n 104729 k (by decide)
  have e2 : bop .add (nD (n + 104729 * k)) (.int 17) = some (nD (n + 104729 * k + 17), .sh) := badd_n _ 17
  have e3 : bop .mul (nD (n + 104729 * k + 17)) (.int 69621) = some (nD ((n + 104729 * k + 17) * 69621), .sh) := bmul_n _ 69621 (by omega)
  have e4 : bop .mod (nD ((n + 104729 * k + 17) * 69621)) (.int 2147483647) = some (nD h, .sh) := by rw [hh]; exact bmod_n _ 2147483647 (by decide)
  have e6 := bmul_n h h (by omega)
  have e7 : bop .mul (.int 3) (nD h) = some (nD (3 * h), .sh) := bmul_n 3 h (by decide)
  have e8 : bop .mod (nD (h * h + 3 * h + k)) (.int 2147483629) = some (nD ((h * h + 3 * h + k) % big), .sh) := bmod_n _ big (by decide)
  simp only [runD, evB, evS, evE, evA, evT, evAnd, evOr, evAndV, evOrV, evP, evI, mb_ok, mb_some, mb_er, op_some, keep_sh, keep_fr, blM_bl, intM_int, nerr_ok, Option.map_some, Option.bind_some, List.getElem?_cons_zero, List.getElem?_cons_succ, List.set_cons_zero, List.set_cons_succ, asgF, unpF, ownOf, appF, setAll, bindT, wipeR, List.length_cons, List.length_nil, List.map_cons, List.map_nil, List.replicate, List.cons_append, List.nil_append, if_true, Bool.false_eq_true, if_false, Nat.reduceAdd, Nat.reduceSub, Nat.zero_add, Nat.reduceEqDiff, Option.map_none, Nat.zero_le, Nat.reduceLT, Nat.reduceLeDiff, Bool.not_true, Bool.not_false, m__law_drawn, e1, badd_n, e2, e3, e4, e6, e7, e8, ← hh]
end J

set_option Elab.async false
set_option linter.all false
set_option maxRecDepth 100000
set_option maxHeartbeats 4000000
/-! the law's webs and ends -/
namespace J
open PySem PV
/-- a tie that may stand in a drawn web -/
def GoodT (m : Nat) (t : Tie) : Prop := t.1 < t.2.1 ∧ t.2.1 < m ∧ t.2.2 < 100
structure LWeb (m : Nat) (ts : List Tie) : Prop where
  m0 : 0 < m
  m7 : m ≤ 7
  t10 : ts.length ≤ 10
  good : ∀ t ∈ ts, GoodT m t
theorem LWeb.web {m : Nat} {ts : List Tie} (w : LWeb m ts) : Web m ts := ⟨w.m0, by have := w.m7; omega, by have := w.t10; omega, fun n hn => by
  have h := w.good (tieAt ts n) (by unfold tieAt; rw [List.getD_eq_getElem?_getD, List.getElem?_eq_getElem hn]; exact List.getElem_mem hn)
  obtain ⟨h1, h2, _⟩ := h
  exact ⟨by omega, h2⟩⟩
theorem intM_n (k : Nat) : intM (nD k) = ok (k : Int) := rfl
theorem rng2_n (a b : Nat) : ((List.range (((b : Nat) : Int) - ((a : Nat) : Int)).toNat).map fun i => D.int (((a : Nat) : Int) + ((i : Nat) : Int))) = nsD ((List.range (b - a)).map fun i => a + i) := by
  rw [show (((b : Nat) : Int) - ((a : Nat) : Int)).toNat = b - a by omega]
  unfold nsD
  rw [List.map_map]
  rfl
theorem rng_ok {n : Nat} (h : n ≤ 1000000) : (-1000000 ≤ ((n : Nat) : Int) ∧ ((n : Nat) : Int) ≤ 1000000) := by omega
theorem rng2_ok {a b : Nat} (h : a ≤ 1000000) (h2 : b ≤ 1000000) : (-1000000 ≤ ((a : Nat) : Int) ∧ ((a : Nat) : Int) ≤ 1000000 ∧ -1000000 ≤ ((b : Nat) : Int) ∧ ((b : Nat) : Int) ≤ 1000000) := by omega
theorem ns_range {k i : Nat} {d : D} (e : (nsD (List.range k))[i]? = some d) : i < k ∧ d = nD i := by
  obtain ⟨n, h1, h2⟩ := ns_at e
  have h := List.getElem?_eq_some_iff.mp h1
  obtain ⟨h3, h4⟩ := h
  simp at h3 h4
  subst h4
  exact ⟨h3, h2⟩
theorem slice_from (xs : List D) (k : Nat) : slD (.lst xs) (some (k : Int)) none = some (.lst (xs.drop k), .fr) := by simp only [slD, cut_drop]
theorem slice_to (xs : List D) (k : Nat) : slD (.lst xs) none (some (k : Int)) = some (.lst (xs.take k), .fr) := by simp only [slD, cut_take]
theorem pick {L : List Nat} {r : Nat} (h : r < L.length) : ∃ m ∈ L, ixD (.tup (nsD L)) (nD r) = some (nD m) :=
  ⟨L[r], List.getElem_mem h, by rw [ix_nst h, List.getD_eq_getElem?_getD, List.getElem?_eq_getElem h]; rfl⟩
def SWebD (φ : List D → M D) : Prop := ∀ n, n < big → ∃ m ts, LWeb m ts ∧ φ [nD n] = ok (webD m ts)
theorem web_ok {Φ : Tab} {wf : Nat} (hd : Fn Φ "_law_drawn" SDrawn) : SWebD (runD m__law_web Φ wf) := by
  intro n hn
  obtain ⟨φ, h1, h2⟩ := hd
  obtain ⟨f, hf⟩ := h2 n hn
  obtain ⟨m, hm, em⟩ := pick (L := [2, 3, 4, 5, 6, 7, 4, 1]) (r := n % 8) (Nat.mod_lt _ (by decide))
  have hm : 0 < m ∧ m ≤ 7 := (show ∀ x ∈ [2, 3, 4, 5, 6, 7, 4, 1], 0 < x ∧ x ≤ 7 by decide) m hm
  obtain ⟨g, hg, eg⟩ := pick (L := [1, 3, 10, 100]) (r := n / 8 % 4) (Nat.mod_lt _ (by decide))
  have hg : 0 < g ∧ g ≤ 100 := (show ∀ x ∈ [1, 3, 10, 100], 0 < x ∧ x ≤ 100 by decide) g hg
  simp only [nsD, List.map_cons, List.map_nil] at em eg
  have step1 : ∀ (k : Nat) (ts : List Tie) (a0 a1 a2 a3 a4 a5 : Sl), 0 < k → k < m → ts.length < k → (∀ t ∈ ts, GoodT m t) → ∃ (ts' : List Tie) (b1 : Sl), evB Φ wf l1__law_web [.va (nD n), .va (nD m), .va (nD g), .ow (ts.map tieD), .va (nD k), a1, a2, a3, a4, a5] = ok (.nx [.va (nD n), .va (nD m), .va (nD g), .ow (ts'.map tieD), .va (nD k), a1, b1, a3, a4, a5]) ∧ ts'.length < k + 1 ∧ ∀ t ∈ ts', GoodT m t := by
    intro k ts a0 a1 a2 a3 a4 a5 hk0 hk hl ht
    obtain ⟨q1, q2⟩ := hf k (by omega)
    have hlen : (ts.map tieD).length < top := by rw [List.length_map]; unfold top; omega
    by_cases hc : 0 < f k / 4 % 16
    · refine ⟨ts ++ [(f k / 4 / 16 % k, k, f k / 4 / 512 % g)], .va (nD (f k / 4)), ?_, by simp; omega, fun t h => ?_⟩
      · simp only [runD, evB, evS, evE, evA, evT, evAnd, evOr, evAndV, evOrV, evP, evI, mb_ok, mb_some, mb_er, op_some, keep_sh, keep_fr, blM_bl, intM_int, nerr_ok, Option.map_some, Option.bind_some, List.getElem?_cons_zero, List.getElem?_cons_succ, List.set_cons_zero, List.set_cons_succ, asgF, unpF, ownOf, appF, setAll, bindT, wipeR, List.length_cons, List.length_nil, List.map_cons, List.map_nil, List.replicate, List.cons_append, List.nil_append, if_true, Bool.false_eq_true, if_false, Nat.reduceAdd, Nat.reduceSub, Nat.zero_add, Nat.reduceEqDiff, Option.map_none, Nat.zero_le, Nat.reduceLT, Nat.reduceLeDiff, Bool.not_true, Bool.not_false, l1__law_web, h1, q2, kN, bdiv_n, bmod_n, cop_gtn, hc, decide_true, hk0, hg.1, hlen, if_true, List.map_append]
        rfl
      · rcases List.mem_append.mp h with h | h
        · exact ht t h
        · have e : t = (f k / 4 / 16 % k, k, f k / 4 / 512 % g) := by simpa using h
          subst e
          have := Nat.mod_lt (f k / 4 / 512) hg.1
          exact ⟨Nat.mod_lt _ hk0, hk, by show f k / 4 / 512 % g < 100; omega⟩
    · refine ⟨ts, .va (nD (f k / 4)), ?_, by omega, ht⟩
      simp only [runD, evB, evS, evE, evA, evT, evAnd, evOr, evAndV, evOrV, evP, evI, mb_ok, mb_some, mb_er, op_some, keep_sh, keep_fr, blM_bl, intM_int, nerr_ok, Option.map_some, Option.bind_some, List.getElem?_cons_zero, List.getElem?_cons_succ, List.set_cons_zero, List.set_cons_succ, asgF, unpF, ownOf, appF, setAll, bindT, wipeR, List.length_cons, List.length_nil, List.map_cons, List.map_nil, List.replicate, List.cons_append, List.nil_append, if_true, Bool.false_eq_true, if_false, Nat.reduceAdd, Nat.reduceSub, Nat.zero_add, Nat.reduceEqDiff, Option.map_none, Nat.zero_le, Nat.reduceLT, Nat.reduceLeDiff, Bool.not_true, Bool.not_false, l1__law_web, h1, q2, kN, bdiv_n, bmod_n, cop_gtn, hc, decide_false]
  have step2 : ∀ (k : Nat) (ts : List Tie) (a4 a5 a6 a8 a9 : Sl), 1 < m → k < 20 → ts.length ≤ 10 + k → (∀ t ∈ ts, GoodT m t) → ∃ (t : Tie) (b1 b2 b3 : Sl), evB Φ wf l2__law_web [.va (nD n), .va (nD m), .va (nD g), .ow (ts.map tieD), a4, a5, a6, .va (nD k), a8, a9] = ok (.nx [.va (nD n), .va (nD m), .va (nD g), .ow ((ts ++ [t]).map tieD), a4, a5, b1, .va (nD k), b2, b3]) ∧ GoodT m t := by
    intro k ts a4 a5 a6 a8 a9 hm1 hk hl ht
    obtain ⟨q1, q2⟩ := hf (20 + k) (by omega)
    obtain ⟨h, hh⟩ : ∃ h, h = f (20 + k) / 4 := ⟨_, rfl⟩
    have hlen : (ts.map tieD).length < top := by rw [List.length_map]; unfold top; omega
    obtain ⟨one, ho⟩ : ∃ one, one = h % m := ⟨_, rfl⟩
    obtain ⟨b, hb⟩ : ∃ b, b = h / 8 % (m - 1) := ⟨_, rfl⟩
    obtain ⟨other, ht2⟩ : ∃ other, other = (one + 1 + b) % m := ⟨_, rfl⟩
    have o1 : one < m := by rw [ho]; exact Nat.mod_lt _ (by omega)
    have b1 : b < m - 1 := by rw [hb]; exact Nat.mod_lt _ (by omega)
    have o2 : other < m := by rw [ht2]; exact Nat.mod_lt _ (by omega)
    have o3 : one ≠ other := by
      rw [ht2]
      by_cases q : one + 1 + b < m
      · rw [Nat.mod_eq_of_lt q]; omega
      · rw [Nat.mod_eq_sub_mod (by omega), Nat.mod_eq_of_lt (by omega)]; omega
    refine ⟨(min one other, max one other, h / 512 % g), .va (nD h), .va (nD one), .va (nD other), ?_, ⟨?_, ?_, ?_⟩⟩
    · have e1 : bop .sub (nD m) (nD 1) = some (nD (m - 1), .sh) := bsub_n m 1 (by omega)
      simp only [runD, evB, evS, evE, evA, evT, evAnd, evOr, evAndV, evOrV, evP, evI, mb_ok, mb_some, mb_er, op_some, keep_sh, keep_fr, blM_bl, intM_int, nerr_ok, Option.map_some, Option.bind_some, List.getElem?_cons_zero, List.getElem?_cons_succ, List.set_cons_zero, List.set_cons_succ, asgF, unpF, ownOf, appF, setAll, bindT, wipeR, List.length_cons, List.length_nil, List.map_cons, List.map_nil, List.replicate, List.cons_append, List.nil_append, if_true, Bool.false_eq_true, if_false, Nat.reduceAdd, Nat.reduceSub, Nat.zero_add, Nat.reduceEqDiff, Option.map_none, Nat.zero_le, Nat.reduceLT, Nat.reduceLeDiff, Bool.not_true, Bool.not_false, l2__law_web, h1, kN, badd_n, q2, bdiv_n, bmod_n, ← hh, hm.1, e1, show 0 < m - 1 by omega, ← ho, ← hb, ← ht2, mm_min, mm_max, hg.1, hlen, if_true, List.map_append]
      rfl
    · show min one other < max one other
      omega
    · show max one other < m
      omega
    · have := Nat.mod_lt (h / 512) hg.1
      show h / 512 % g < 100
      omega
  obtain ⟨ρ1, e1, ts1, k1, b1, hr1, hl1, ht1⟩ := forL_go (bind := bindT true [4]) (body := fun ρ => evB Φ wf l1__law_web ρ) (ds := nsD ((List.range (m - 1)).map fun i => 1 + i))
    (fun i ρ => ∃ (ts : List Tie) (a4 a6 : Sl), ρ = [.va (nD n), .va (nD m), .va (nD g), .ow (ts.map tieD), a4, .no, a6, .no, .no, .no] ∧ ts.length < i + 1 ∧ ∀ t ∈ ts, GoodT m t)
    ⟨[], .no, .no, rfl, by decide, fun t h => (nomatch h)⟩ (by
      rintro i d ρ e ⟨ts, a4, a6, rfl, hl, ht⟩
      obtain ⟨j, hj, rfl⟩ := ns_at e
      simp only [List.getElem?_map, Option.map_eq_some_iff] at hj
      obtain ⟨j0, hj0, rfl⟩ := hj
      have hj1 := List.getElem?_eq_some_iff.mp hj0
      obtain ⟨hj1, hj2⟩ := hj1
      simp at hj1 hj2
      subst hj2
      obtain ⟨ts', b6, s1, s2, s3⟩ := step1 (1 + i) ts .no .no a6 .no .no .no (by omega) (by omega) (by omega) ht
      exact ⟨_, _, rfl, s1, ts', _, _, rfl, by omega, s3⟩)
  subst hr1
  have hl1 : ts1.length < m := by
    have : (nsD ((List.range (m - 1)).map fun i => 1 + i)).length = m - 1 := by simp [nsD]
    omega
  obtain ⟨c, hc⟩ : ∃ c, c = n / 32 % (11 - ts1.length) := ⟨_, rfl⟩
  have hc11 : c < 11 - ts1.length := by rw [hc]; exact Nat.mod_lt _ (by omega)
  obtain ⟨ρ2, e2, hρ2⟩ : ∃ ρ2, evS Φ wf (.ife (.cmp .gt (.var 1) (.kint 1)) (.seq (.for_ true [7] (.rng1 (.bin .mod (.bin .fdiv (.var 0) (.kint 32)) (.bin .sub (.kint 11) (.un .len (.var 3))))) l2__law_web) .nil) .nil) [.va (nD n), .va (nD m), .va (nD g), .ow (ts1.map tieD), k1, .no, b1, .no, .no, .no] = ok (.nx ρ2) ∧
      ∃ (ts : List Tie) (a6 a7 a8 a9 : Sl), ρ2 = [.va (nD n), .va (nD m), .va (nD g), .ow (ts.map tieD), k1, .no, a6, a7, a8, a9] ∧ ts.length ≤ 10 ∧ ∀ t ∈ ts, GoodT m t := by
    by_cases hm1 : 1 < m
    · obtain ⟨ρ2, e2, ts2, b6, b7, b8, b9, hr2, hl2, ht2⟩ := forL_go (bind := bindT true [7]) (body := fun ρ => evB Φ wf l2__law_web ρ) (ds := nsD (List.range c))
        (fun i ρ => ∃ (ts : List Tie) (a6 a7 a8 a9 : Sl), ρ = [.va (nD n), .va (nD m), .va (nD g), .ow (ts.map tieD), k1, .no, a6, a7, a8, a9] ∧ ts.length = ts1.length + i ∧ ∀ t ∈ ts, GoodT m t)
        ⟨ts1, b1, .no, .no, .no, rfl, rfl, ht1⟩ (by
          rintro i d ρ e ⟨ts, a6, a7, a8, a9, rfl, hl, ht⟩
          obtain ⟨hi, rfl⟩ := ns_range e
          obtain ⟨t, b1, b2, b3, s1, s2⟩ := step2 i ts k1 .no a6 a8 a9 hm1 (by omega) (by omega) ht
          refine ⟨_, _, rfl, s1, ts ++ [t], _, _, _, _, rfl, by simp; omega, fun u hu => ?_⟩
          rcases List.mem_append.mp hu with hu | hu
          · exact ht u hu
          · have e : u = t := by simpa using hu
            rw [e]; exact s2)
      subst hr2
      have e11 : bop .sub (nD 11) (nD ts1.length) = some (nD (11 - ts1.length), .sh) := bsub_n 11 _ (by omega)
      have el : uop .len (.lst (ts1.map tieD)) = some (nD ts1.length, .sh) := by simp [uop, items, nD]
      refine ⟨_, ?_, ts2, b6, b7, b8, b9, rfl, ?_, ht2⟩
      · simp only [runD, evB, evS, evE, evA, evT, evAnd, evOr, evAndV, evOrV, evP, evI, mb_ok, mb_some, mb_er, op_some, keep_sh, keep_fr, blM_bl, intM_int, nerr_ok, Option.map_some, Option.bind_some, List.getElem?_cons_zero, List.getElem?_cons_succ, List.set_cons_zero, List.set_cons_succ, asgF, unpF, ownOf, appF, setAll, bindT, wipeR, List.length_cons, List.length_nil, List.map_cons, List.map_nil, List.replicate, List.cons_append, List.nil_append, if_true, Bool.false_eq_true, if_false, Nat.reduceAdd, Nat.reduceSub, Nat.zero_add, Nat.reduceEqDiff, Option.map_none, Nat.zero_le, Nat.reduceLT, Nat.reduceLeDiff, Bool.not_true, Bool.not_false, kN, cop_gtn, hm1, decide_true, el, e11, bdiv_n, bmod_n, show 0 < 11 - ts1.length by omega, ← hc, intM_n]
        rw [if_pos (rng_ok (by omega))]
        simp only [runD, evB, evS, evE, evA, evT, evAnd, evOr, evAndV, evOrV, evP, evI, mb_ok, mb_some, mb_er, op_some, keep_sh, keep_fr, blM_bl, intM_int, nerr_ok, Option.map_some, Option.bind_some, List.getElem?_cons_zero, List.getElem?_cons_succ, List.set_cons_zero, List.set_cons_succ, asgF, unpF, ownOf, appF, setAll, bindT, wipeR, List.length_cons, List.length_nil, List.map_cons, List.map_nil, List.replicate, List.cons_append, List.nil_append, if_true, Bool.false_eq_true, if_false, Nat.reduceAdd, Nat.reduceSub, Nat.zero_add, Nat.reduceEqDiff, Option.map_none, Nat.zero_le, Nat.reduceLT, Nat.reduceLeDiff, Bool.not_true, Bool.not_false, range_ns, e2]
      · have : (nsD (List.range c)).length = c := by simp [nsD]
        omega
    · refine ⟨_, ?_, ts1, b1, .no, .no, .no, rfl, by omega, ht1⟩
      simp only [runD, evB, evS, evE, evA, evT, evAnd, evOr, evAndV, evOrV, evP, evI, mb_ok, mb_some, mb_er, op_some, keep_sh, keep_fr, blM_bl, intM_int, nerr_ok, Option.map_some, Option.bind_some, List.getElem?_cons_zero, List.getElem?_cons_succ, List.set_cons_zero, List.set_cons_succ, asgF, unpF, ownOf, appF, setAll, bindT, wipeR, List.length_cons, List.length_nil, List.map_cons, List.map_nil, List.replicate, List.cons_append, List.nil_append, if_true, Bool.false_eq_true, if_false, Nat.reduceAdd, Nat.reduceSub, Nat.zero_add, Nat.reduceEqDiff, Option.map_none, Nat.zero_le, Nat.reduceLT, Nat.reduceLeDiff, Bool.not_true, Bool.not_false, kN, cop_gtn, hm1, decide_false]
  obtain ⟨ts2, a6, a7, a8, a9, rfl, hl2, ht2⟩ := hρ2
  obtain ⟨w, hw⟩ : ∃ w, w = n / 1024 % 5 := ⟨_, rfl⟩
  refine ⟨m, ts2.drop w ++ ts2.take w, ⟨hm.1, hm.2, by simp; omega, fun t ht => ?_⟩, ?_⟩
  · rcases List.mem_append.mp ht with h | h
    · exact ht2 t (List.mem_of_mem_drop h)
    · exact ht2 t (List.mem_of_mem_take h)
  · have ea : bop .add (.lst ((ts2.map tieD).drop w)) (.lst ((ts2.map tieD).take w)) = some (.lst ((ts2.drop w ++ ts2.take w).map tieD), .fr) := by
      simp only [bop]
      rw [if_pos (by simp only [List.length_drop, List.length_take, List.length_map]; unfold top; omega), List.map_append, List.map_drop, List.map_take]
    simp only [List.map_nil] at e1
    simp only [runD, evB, evS, evE, evA, evT, evAnd, evOr, evAndV, evOrV, evP, evI, mb_ok, mb_some, mb_er, op_some, keep_sh, keep_fr, blM_bl, intM_int, nerr_ok, Option.map_some, Option.bind_some, List.getElem?_cons_zero, List.getElem?_cons_succ, List.set_cons_zero, List.set_cons_succ, asgF, unpF, ownOf, appF, setAll, bindT, wipeR, List.length_cons, List.length_nil, List.map_cons, List.map_nil, List.replicate, List.cons_append, List.nil_append, if_true, Bool.false_eq_true, if_false, Nat.reduceAdd, Nat.reduceSub, Nat.zero_add, Nat.reduceEqDiff, Option.map_none, Nat.zero_le, Nat.reduceLT, Nat.reduceLeDiff, Bool.not_true, Bool.not_false, kN, cop_gtn, bmod_n, bdiv_n] at e2
    unfold m__law_web
    simp only [runD, evB, evS, evE, evA, evT, evAnd, evOr, evAndV, evOrV, evP, evI, mb_ok, mb_some, mb_er, op_some, keep_sh, keep_fr, blM_bl, intM_int, nerr_ok, Option.map_some, Option.bind_some, List.getElem?_cons_zero, List.getElem?_cons_succ, List.set_cons_zero, List.set_cons_succ, asgF, unpF, ownOf, appF, setAll, bindT, wipeR, List.length_cons, List.length_nil, List.map_cons, List.map_nil, List.replicate, List.cons_append, List.nil_append, if_true, Bool.false_eq_true, if_false, Nat.reduceAdd, Nat.reduceSub, Nat.zero_add, Nat.reduceEqDiff, Option.map_none, Nat.zero_le, Nat.reduceLT, Nat.reduceLeDiff, Bool.not_true, Bool.not_false, kN, bmod_n, bdiv_n, top, em, eg, intM_n]
    rw [if_pos (rng2_ok (by omega) (by omega)), rng2_n]
    simp only [runD, evB, evS, evE, evA, evT, evAnd, evOr, evAndV, evOrV, evP, evI, mb_ok, mb_some, mb_er, op_some, keep_sh, keep_fr, blM_bl, intM_int, nerr_ok, Option.map_some, Option.bind_some, List.getElem?_cons_zero, List.getElem?_cons_succ, List.set_cons_zero, List.set_cons_succ, asgF, unpF, ownOf, appF, setAll, bindT, wipeR, List.length_cons, List.length_nil, List.map_cons, List.map_nil, List.replicate, List.cons_append, List.nil_append, if_true, Bool.false_eq_true, if_false, Nat.reduceAdd, Nat.reduceSub, Nat.zero_add, Nat.reduceEqDiff, Option.map_none, Nat.zero_le, Nat.reduceLT, Nat.reduceLeDiff, Bool.not_true, Bool.not_false, e1, cop_gtn, e2, ← hw, kN, bmod_n, bdiv_n, intM_n, slice_from, slice_to, ea]
    simp only [runD, evB, evS, evE, evA, evT, evAnd, evOr, evAndV, evOrV, evP, evI, mb_ok, mb_some, mb_er, op_some, keep_sh, keep_fr, blM_bl, intM_int, nerr_ok, Option.map_some, Option.bind_some, List.getElem?_cons_zero, List.getElem?_cons_succ, List.set_cons_zero, List.set_cons_succ, asgF, unpF, ownOf, appF, setAll, bindT, wipeR, List.length_cons, List.length_nil, List.map_cons, List.map_nil, List.replicate, List.cons_append, List.nil_append, if_true, Bool.false_eq_true, if_false, Nat.reduceAdd, Nat.reduceSub, Nat.zero_add, Nat.reduceEqDiff, Option.map_none, Nat.zero_le, Nat.reduceLT, Nat.reduceLeDiff, Bool.not_true, Bool.not_false, uop, webD, top]
end J

set_option Elab.async false
set_option linter.all false
set_option maxRecDepth 100000
set_option maxHeartbeats 4000000
/-! the law's ends -/
namespace J
open PySem PV
/-- ends of a web: rising, some -/
structure LEnds (m : Nat) (ends : List Nat) : Prop where
  lt : ∀ x ∈ ends, x < m
  up : ends.Pairwise (· < ·)
  ne : ends ≠ []
theorem LEnds.ends {m : Nat} {ends : List Nat} (h : LEnds m ends) (hm : m ≤ 60) : Ends m ends := ⟨h.lt, by have := rise_len h.up h.lt; omega⟩
/-- ints from below, as numbers -/
theorem to_nats {m : Nat} {ns : List Int} (h : ∀ i ∈ ns, 0 ≤ i ∧ i < (m : Int)) : ns.map D.int = nsD (ns.map Int.toNat) ∧ ∀ n ∈ ns.map Int.toNat, n < m := by
  refine ⟨?_, fun n hn => ?_⟩
  · unfold nsD
    rw [List.map_map]
    apply List.map_congr_left
    intro i hi
    have := h i hi
    show D.int i = .int ((i.toNat : Nat) : Int)
    congr 1
    omega
  · obtain ⟨i, hi, rfl⟩ := List.mem_map.mp hn
    have := h i hi
    omega
theorem sortnub_ends {m : Nat} {ks : List Int} (h : ∀ i ∈ ks, 0 ≤ i ∧ i < (m : Int)) (hne : ks ≠ []) : ∃ ends, (sortI (nubI ks)).map D.int = nsD ends ∧ LEnds m ends := by
  have h2 : ∀ i ∈ sortI (nubI ks), 0 ≤ i ∧ i < (m : Int) := fun i hi => h i ((mem_sortnub ks i).mp hi)
  obtain ⟨e1, e2⟩ := to_nats h2
  refine ⟨_, e1, ⟨e2, ?_, fun e => ?_⟩⟩
  · rw [List.pairwise_map]
    refine List.Pairwise.imp_of_mem (fun {a b} ha hb hab => ?_) (rising_sortnub ks)
    have := h2 a ha
    have := h2 b hb
    omega
  · cases ks with
    | nil => exact hne rfl
    | cons a r =>
      have : a ∈ sortI (nubI (a :: r)) := (mem_sortnub _ a).mpr List.mem_cons_self
      rw [List.map_eq_nil_iff] at e
      rw [e] at this
      cases this
def SEnds (φ : List D → M D) : Prop := ∀ (n m : Nat) (ts : List Tie) (most : Nat), n < big → 0 < m → 0 < most → most ≤ 20 → ∃ ends, LEnds m ends ∧ φ [nD n, webD m ts, nD most] = ok (.tup (nsD ends))
theorem ends_spec {Φ : Tab} (hd : Fn Φ "_law_drawn" SDrawn) : SEnds (endsX Φ) := by
  intro n m ts most hn hm h0 h20
  obtain ⟨φ, h1, h2⟩ := hd
  obtain ⟨f, hf⟩ := h2 n hn
  have loop : ∀ (l : List Nat) (a : Sl) (ks : List Int), (∀ k ∈ l, k < 1000) → (∀ i ∈ ks, 0 ≤ i ∧ i < (m : Int)) → ks ≠ [] → ∃ ks' : List Int, (∀ i ∈ ks', 0 ≤ i ∧ i < (m : Int)) ∧ ks' ≠ [] ∧ endsL Φ (nsD l) [.va (nD n), .va (webD m ts), .va (nD most), .no, a] ks = ok (.tup ((sortI (nubI ks')).map .int)) := by
    intro l
    induction l with
    | nil => intro a ks _ hk hne; exact ⟨ks, hk, hne, rfl⟩
    | cons k l ih =>
      intro a ks hl hk hne
      obtain ⟨q1, q2⟩ := hf k (hl k List.mem_cons_self)
      have hb := Nat.mod_lt (f k / 4) hm
      obtain ⟨ks', i1, i2, i3⟩ := ih (.va (nD k)) (((f k / 4 % m : Nat) : Int) :: ks) (fun j hj => hl j (List.mem_cons_of_mem _ hj)) (fun i hi => by
        rcases List.mem_cons.mp hi with rfl | hi
        · omega
        · exact hk i hi) (by simp)
      refine ⟨ks', i1, i2, ?_⟩
      rw [show nsD (k :: l) = nD k :: nsD l from rfl]
      simp only [endsL, runD, evB, evS, evE, evA, evT, evAnd, evOr, evAndV, evOrV, evP, evI, mb_ok, mb_some, mb_er, op_some, keep_sh, keep_fr, blM_bl, intM_int, nerr_ok, Option.map_some, Option.bind_some, List.getElem?_cons_zero, List.getElem?_cons_succ, List.set_cons_zero, List.set_cons_succ, asgF, unpF, ownOf, appF, setAll, bindT, wipeR, List.length_cons, List.length_nil, List.map_cons, List.map_nil, List.replicate, List.cons_append, List.nil_append, if_true, Bool.false_eq_true, if_false, Nat.reduceAdd, Nat.reduceSub, Nat.zero_add, Nat.reduceEqDiff, Option.map_none, Nat.zero_le, Nat.reduceLT, Nat.reduceLeDiff, Bool.not_true, Bool.not_false, endsK1, h1, q2, kN, bdiv_n, bmod_n, ix_web0, hm, intM_n]
      have ew : ixD (webD m ts) (nD 0) = some (nD m) := rfl
      simp only [ew, runD, evB, evS, evE, evA, evT, evAnd, evOr, evAndV, evOrV, evP, evI, mb_ok, mb_some, mb_er, op_some, keep_sh, keep_fr, blM_bl, intM_int, nerr_ok, Option.map_some, Option.bind_some, List.getElem?_cons_zero, List.getElem?_cons_succ, List.set_cons_zero, List.set_cons_succ, asgF, unpF, ownOf, appF, setAll, bindT, wipeR, List.length_cons, List.length_nil, List.map_cons, List.map_nil, List.replicate, List.cons_append, List.nil_append, if_true, Bool.false_eq_true, if_false, Nat.reduceAdd, Nat.reduceSub, Nat.zero_add, Nat.reduceEqDiff, Option.map_none, Nat.zero_le, Nat.reduceLT, Nat.reduceLeDiff, Bool.not_true, Bool.not_false, bmod_n, hm, intM_n]
      exact i3
  obtain ⟨c, hc⟩ : ∃ c, c = n / 7 % most := ⟨_, rfl⟩
  have hc2 : c < most := by rw [hc]; exact Nat.mod_lt _ h0
  have hb := Nat.mod_lt n hm
  obtain ⟨ks', i1, i2, i3⟩ := loop (List.range c) .no [((n % m : Nat) : Int)] (fun k hk => by have := List.mem_range.mp hk; omega) (fun i hi => by
    have e : i = ((n % m : Nat) : Int) := by simpa using hi
    subst e; omega) (by simp)
  obtain ⟨ends, e1, e2⟩ := sortnub_ends i1 i2
  refine ⟨ends, e2, ?_⟩
  rw [e1] at i3
  have ew : ixD (webD m ts) (nD 0) = some (nD m) := rfl
  unfold endsX
  simp only [runD, evB, evS, evE, evA, evT, evAnd, evOr, evAndV, evOrV, evP, evI, mb_ok, mb_some, mb_er, op_some, keep_sh, keep_fr, blM_bl, intM_int, nerr_ok, Option.map_some, Option.bind_some, List.getElem?_cons_zero, List.getElem?_cons_succ, List.set_cons_zero, List.set_cons_succ, asgF, unpF, ownOf, appF, setAll, bindT, wipeR, List.length_cons, List.length_nil, List.map_cons, List.map_nil, List.replicate, List.cons_append, List.nil_append, if_true, Bool.false_eq_true, if_false, Nat.reduceAdd, Nat.reduceSub, Nat.zero_add, Nat.reduceEqDiff, Option.map_none, Nat.zero_le, Nat.reduceLT, Nat.reduceLeDiff, Bool.not_true, Bool.not_false, endsK0, endsIt, kN, ew, bmod_n, hm, intM_n, bdiv_n, h0, ← hc]
  rw [if_pos (rng_ok (by omega))]
  simp only [runD, evB, evS, evE, evA, evT, evAnd, evOr, evAndV, evOrV, evP, evI, mb_ok, mb_some, mb_er, op_some, keep_sh, keep_fr, blM_bl, intM_int, nerr_ok, Option.map_some, Option.bind_some, List.getElem?_cons_zero, List.getElem?_cons_succ, List.set_cons_zero, List.set_cons_succ, asgF, unpF, ownOf, appF, setAll, bindT, wipeR, List.length_cons, List.length_nil, List.map_cons, List.map_nil, List.replicate, List.cons_append, List.nil_append, if_true, Bool.false_eq_true, if_false, Nat.reduceAdd, Nat.reduceSub, Nat.zero_add, Nat.reduceEqDiff, Option.map_none, Nat.zero_le, Nat.reduceLT, Nat.reduceLeDiff, Bool.not_true, Bool.not_false, range_ns, nsD_len, List.length_range]
  rw [if_pos ⟨by omega, trivial⟩]
  exact i3
end J

set_option Elab.async false
set_option linter.all false
set_option maxRecDepth 100000
set_option maxHeartbeats 4000000
/-! rising rows of numbers -/
namespace J
open PySem PV
theorem rise_ext : ∀ {s t : List Nat}, s.Pairwise (· < ·) → t.Pairwise (· < ·) → (∀ k, k ∈ s ↔ k ∈ t) → s = t
  | [], [], _, _, _ => rfl
  | [], b :: t, _, _, h => by have := (h b).mpr List.mem_cons_self; cases this
  | a :: s, [], _, _, h => by have := (h a).mp List.mem_cons_self; cases this
  | a :: s, b :: t, hs, ht, h => by
    rw [List.pairwise_cons] at hs ht
    have h1 := (h a).mp List.mem_cons_self
    have h2 := (h b).mpr List.mem_cons_self
    have e : a = b := by
      rcases List.mem_cons.mp h1 with q | q
      · exact q
      · rcases List.mem_cons.mp h2 with r | r
        · exact r.symm
        · have := ht.1 a q
          have := hs.1 b r
          omega
    subst e
    rw [rise_ext hs.2 ht.2 fun k => ?_]
    constructor
    · intro q
      rcases List.mem_cons.mp ((h k).mp (List.mem_cons_of_mem _ q)) with r | r
      · have := hs.1 k q; omega
      · exact r
    · intro q
      rcases List.mem_cons.mp ((h k).mpr (List.mem_cons_of_mem _ q)) with r | r
      · have := ht.1 k q; omega
      · exact r
theorem rise_filter {s : List Nat} {N : Nat} (h : s.Pairwise (· < ·)) (hN : ∀ n ∈ s, n < N) : s = (List.range N).filter fun k => decide (k ∈ s) :=
  rise_ext h (List.pairwise_lt_range.filter _) fun k => by
    rw [List.mem_filter, List.mem_range, decide_eq_true_eq]
    exact ⟨fun q => ⟨hN k q, q⟩, fun q => q.2⟩
theorem sum_filter (p : Nat → Nat) (c : Nat → Bool) : ∀ l : List Nat, ((l.filter c).map p).sum = (l.map fun k => if c k then p k else 0).sum
  | [] => rfl
  | x :: l => by
    have ih := sum_filter p c l
    rw [List.filter_cons, List.map_cons, List.sum_cons, ← ih]
    cases c x <;> simp
theorem sum_rise {s : List Nat} {N : Nat} (p : Nat → Nat) (h : s.Pairwise (· < ·)) (hN : ∀ n ∈ s, n < N) : (s.map p).sum = ((List.range N).map fun k => if decide (k ∈ s) then p k else 0).sum := by
  have e := rise_filter h hN
  conv => lhs; rw [e]
  rw [sum_filter]
theorem sum_le {f g : Nat → Nat} : ∀ {l : List Nat}, (∀ k ∈ l, f k ≤ g k) → (l.map f).sum ≤ (l.map g).sum
  | [], _ => Nat.le_refl _
  | x :: l, h => by
    have ih := sum_le (f := f) (g := g) (l := l) fun k hk => h k (List.mem_cons_of_mem _ hk)
    have := h x List.mem_cons_self
    simp only [List.map_cons, List.sum_cons]
    omega
theorem sum_add (f g : Nat → Nat) : ∀ (l : List Nat), (l.map f).sum + (l.map g).sum = (l.map fun k => f k + g k).sum
  | [] => rfl
  | x :: l => by
    have ih := sum_add f g l
    simp only [List.map_cons, List.sum_cons]
    omega
theorem sum_congr {f g : Nat → Nat} {l : List Nat} (h : ∀ k ∈ l, f k = g k) : (l.map f).sum = (l.map g).sum := by
  rw [List.map_congr_left h]
theorem cost_mono {ts : List Tie} {s t : List Nat} {N : Nat} (hs : s.Pairwise (· < ·)) (ht : t.Pairwise (· < ·)) (hsN : ∀ n ∈ s, n < N) (htN : ∀ n ∈ t, n < N) (h : ∀ n ∈ s, n ∈ t) : costN ts s ≤ costN ts t := by
  unfold costN
  rw [sum_rise _ hs hsN, sum_rise _ ht htN]
  refine sum_le fun k _ => ?_
  by_cases q : k ∈ s
  · simp [q, h k q]
  · simp [q]
/-- both sides' costs: all together and what is shared -/
theorem cost_both {ts : List Tie} {s t e c : List Nat} {N : Nat} (hs : s.Pairwise (· < ·)) (ht : t.Pairwise (· < ·)) (he : e.Pairwise (· < ·)) (hc : c.Pairwise (· < ·)) (hsN : ∀ n ∈ s, n < N) (htN : ∀ n ∈ t, n < N)
    (hem : ∀ k, k ∈ e ↔ k ∈ s ∨ k ∈ t) (hcm : ∀ k, k ∈ c ↔ k ∈ s ∧ k ∈ t) : costN ts e + costN ts c = costN ts s + costN ts t := by
  unfold costN
  rw [sum_rise _ hs hsN, sum_rise _ ht htN, sum_rise _ he (N := N) (fun n hn => ((hem n).mp hn).elim (hsN n) (htN n)), sum_rise _ hc (N := N) (fun n hn => hsN n ((hcm n).mp hn).1), sum_add, sum_add]
  refine sum_congr fun k _ => ?_
  by_cases q1 : k ∈ s <;> by_cases q2 : k ∈ t <;> simp [hem, hcm, q1, q2]
theorem flat_ns (l : List Nat) : (nsD l).all D.flat = true := by
  induction l with
  | nil => rfl
  | cons x r ih =>
    show (D.flat (nD x) && (nsD r).all D.flat) = true
    rw [ih]; rfl
theorem any_ns (l : List Nat) (k : Nat) : ((nsD l).any fun y => eqS y (nD k)) = decide (k ∈ l) := by
  induction l with
  | nil => rfl
  | cons x r ih =>
    rw [show nsD (x :: r) = nD x :: nsD r from rfl, List.any_cons, ih]
    have e : eqS (nD x) (nD k) = decide (x = k) := by
      simp only [eqS, nD]
      rw [Bool.eq_iff_iff]
      simp
      omega
    rw [e, Bool.eq_iff_iff]
    simp only [Bool.or_eq_true, decide_eq_true_eq, List.mem_cons]
    constructor
    · rintro (h | h)
      · exact .inl h.symm
      · exact .inr h
    · rintro (h | h)
      · exact .inl h.symm
      · exact .inr h
theorem isin_ns (b : Bool) (l : List Nat) (k : Nat) : cop .isin (nD k) (seqD b (nsD l)) = some (decide (k ∈ l)) := by
  show inD (nD k) (seqD b (nsD l)) = _
  simp only [inD, items_seq, flat_ns, any_ns]
  rfl
theorem notin_ns (b : Bool) (l : List Nat) (k : Nat) : cop .notin (nD k) (seqD b (nsD l)) = some (!decide (k ∈ l)) := by
  show (inD (nD k) (seqD b (nsD l))).map (!·) = _
  simp only [inD, items_seq, flat_ns, any_ns]
  rfl
/-- sorted(set(..)) of a row of numbers -/
theorem sortset_ns {l : List Nat} (h : l.length < 64) : ∃ e : List Nat, e.Pairwise (· < ·) ∧ (∀ k, k ∈ e ↔ k ∈ l) ∧ uop .sortedset (.tup (nsD l)) = some (.lst (nsD e), .fr) := by
  obtain ⟨ks, hks⟩ : ∃ ks : List Int, ks = l.map fun (n : Nat) => (n : Int) := ⟨_, rfl⟩
  have e0 : D.ints (nsD l) = some ks := by rw [hks]; exact ints_ns l
  refine ⟨(sortI (nubI ks)).map Int.toNat, ?_, fun k => ?_, ?_⟩
  · rw [List.pairwise_map]
    refine List.Pairwise.imp_of_mem (fun {a b} ha hb hab => ?_) (rising_sortnub ks)
    have ha := (mem_sortnub ks a).mp ha
    have hb := (mem_sortnub ks b).mp hb
    rw [hks] at ha hb
    obtain ⟨x, _, rfl⟩ := List.mem_map.mp ha
    obtain ⟨y, _, rfl⟩ := List.mem_map.mp hb
    omega
  · constructor
    · intro q
      obtain ⟨i, hi, rfl⟩ := List.mem_map.mp q
      have hi := (mem_sortnub ks i).mp hi
      rw [hks] at hi
      obtain ⟨x, hx, rfl⟩ := List.mem_map.mp hi
      simpa using hx
    · intro q
      refine List.mem_map.mpr ⟨(k : Int), (mem_sortnub ks _).mpr (by rw [hks]; exact List.mem_map.mpr ⟨k, q, rfl⟩), by simp⟩
  · simp only [uop, e0, Option.bind_some]
    rw [if_pos (by rw [hks, List.length_map]; exact h)]
    congr 2
    unfold nsD
    rw [List.map_map]
    congr 1
    apply List.map_congr_left
    intro i hi
    have hi := (mem_sortnub ks i).mp hi
    rw [hks] at hi
    obtain ⟨x, _, rfl⟩ := List.mem_map.mp hi
    rfl
/-! ### pruned again -/
theorem fold_keep {m : Nat} {ts : List Tie} {ends : List Nat} : ∀ (l f : List Nat), (∀ n ∈ l, joinB m ts (less f n) ends = false) → l.foldl (pstep m ts ends) f = f
  | [], _, _ => rfl
  | n :: l, f, h => by
    have e : pstep m ts ends f n = f := by unfold pstep; rw [h n List.mem_cons_self]; rfl
    rw [List.foldl_cons, e]
    exact fold_keep l f fun k hk => h k (List.mem_cons_of_mem _ hk)
theorem prune_of_tree {m : Nat} {ts : List Tie} {ends s : List Nat} (h : treeS m ts ends s = true) : prune m ts ends s = s := by
  unfold treeS at h
  rw [Bool.and_eq_true, List.all_eq_true] at h
  refine fold_keep _ _ fun n hn => ?_
  have := h.2 n (List.mem_reverse.mp hn)
  simpa [less] using this
theorem tree_iff_prune {m : Nat} {ts : List Tie} (hw : InW m ts) {ends s : List Nat} (he : ∀ x ∈ ends, x < m) (hs : ∀ n ∈ s, n < ts.length) (h : joinB m ts s ends = true) : treeS m ts ends s = (prune m ts ends s == s) := by
  rw [Bool.eq_iff_iff, beq_iff_eq]
  constructor
  · exact prune_of_tree
  · intro e
    have := prune_tree hw he hs h
    rw [e] at this
    exact this
theorem isTree_ns {m : Nat} {ts : List Tie} {ends s : List Nat} (hu : s.Pairwise (· < ·)) (hs : ∀ n ∈ s, n < ts.length) : isTree m ts ends (.tup (nsD s)) = treeS m ts ends s := by
  unfold isTree
  rw [nats_ns]
  have ha : areSome (.tup (nsD s)) ts.length = true := by
    unfold areSome
    simp only [ints_ns, Bool.and_eq_true, decide_eq_true_eq, List.all_eq_true]
    refine ⟨fun i hi => ?_, ?_⟩
    · obtain ⟨n, hn, rfl⟩ := List.mem_map.mp hi
      have := hs n hn
      omega
    · rw [List.pairwise_map]
      exact hu.imp fun h => by omega
  rw [ha, Bool.true_and]
theorem shal_ns {s : List Nat} (h : s.length < 64) : shal (.tup (nsD s)) = true := by
  simp only [shal, Bool.and_eq_true, decide_eq_true_eq, List.all_eq_true, nsD_len]
  refine ⟨fun x hx => ?_, h⟩
  obtain ⟨n, _, rfl⟩ := List.mem_map.mp hx
  rfl
end J

set_option Elab.async false
set_option linter.all false
set_option maxRecDepth 100000
set_option maxHeartbeats 4000000
/-! all choices of ties; the least cost by them -/
namespace J
open PySem PV
/-- all choices out of so many -/
def subs : Nat → List (List Nat)
  | 0 => [[]]
  | k + 1 => subs k ++ (subs k).map fun s => s ++ [k]
theorem subs_len (k : Nat) : (subs k).length = 2 ^ k := by
  induction k with
  | zero => rfl
  | succ k ih => simp [subs, ih, Nat.pow_succ]; omega
theorem subs_up {k : Nat} : ∀ {s : List Nat}, s ∈ subs k → s.Pairwise (· < ·) ∧ ∀ n ∈ s, n < k := by
  induction k with
  | zero =>
    intro s h
    have e : s = [] := by simpa [subs] using h
    subst e
    exact ⟨.nil, fun n h => (nomatch h)⟩
  | succ k ih =>
    intro s h
    rcases List.mem_append.mp h with h | h
    · obtain ⟨h1, h2⟩ := ih h
      exact ⟨h1, fun n hn => Nat.lt_succ_of_lt (h2 n hn)⟩
    · obtain ⟨t, ht, rfl⟩ := List.mem_map.mp h
      obtain ⟨h1, h2⟩ := ih ht
      refine ⟨?_, fun n hn => ?_⟩
      · rw [List.pairwise_append]
        exact ⟨h1, by simp, fun a ha b hb => by have e : b = k := by simpa using hb
                                                subst e; exact h2 a ha⟩
      · rcases List.mem_append.mp hn with hn | hn
        · exact Nat.lt_succ_of_lt (h2 n hn)
        · have e : n = k := by simpa using hn
          omega
theorem subs_mem {k : Nat} : ∀ {s : List Nat}, s.Pairwise (· < ·) → (∀ n ∈ s, n < k) → s ∈ subs k := by
  induction k with
  | zero =>
    intro s _ h
    cases s with
    | nil => simp [subs]
    | cons a r => have := h a List.mem_cons_self; omega
  | succ k ih =>
    intro s hs h
    by_cases q : k ∈ s
    · refine List.mem_append_right _ (List.mem_map.mpr ⟨less s k, ih (hs.filter _) (fun n hn => ?_), ?_⟩)
      · have h1 := h n (less_sub hn)
        have h2 := (List.mem_filter.mp hn).2
        simp at h2
        omega
      · refine rise_ext ?_ hs fun j => ?_
        · rw [List.pairwise_append]
          refine ⟨hs.filter _, by simp, fun a ha b hb => ?_⟩
          have e : b = k := by simpa using hb
          have h1 := h a (less_sub ha)
          have h2 := (List.mem_filter.mp ha).2
          simp at h2
          omega
        · rw [List.mem_append]
          constructor
          · rintro (hj | hj)
            · exact less_sub hj
            · have e : j = k := by simpa using hj
              rw [e]; exact q
          · intro hj
            by_cases e : j = k
            · right; simp [e]
            · left; exact List.mem_filter.mpr ⟨hj, by simpa using e⟩
    · refine List.mem_append_left _ (ih hs fun n hn => ?_)
      have := h n hn
      have : n ≠ k := fun e => q (e ▸ hn)
      omega
def subsD (k : Nat) : List D := (subs k).map fun s => .tup (nsD s)
theorem subsD_len (k : Nat) : (subsD k).length = 2 ^ k := by simp [subsD, subs_len]
def SEvery (φ : List D → M D) : Prop := ∀ k : Nat, k ≤ 12 → φ [nD k] = ok (.lst (subsD k))
theorem pow_le12 {k : Nat} (h : k ≤ 12) : 2 ^ k ≤ 4096 := Nat.pow_le_pow_right (by decide) h
theorem subsD_succ (k : Nat) : subsD (k + 1) = subsD k ++ (subs k).map fun s => .tup (nsD (s ++ [k])) := by
  simp only [subsD, subs, List.map_append, List.map_map]
  rfl
theorem every_ok {Φ : Tab} {wf : Nat} : SEvery (runD m__law_every Φ wf) := by
  intro n hn
  obtain ⟨ρ', e, a, b, rfl⟩ := forL_go (bind := bindT true [2]) (body := fun ρ => evB Φ wf l2__law_every ρ) (ds := nsD (List.range n))
    (fun i ρ => ∃ a b : Sl, ρ = [.va (nD n), .va (.lst (subsD i)), a, b]) ⟨.no, .no, rfl⟩ (by
      rintro i d ρ ei ⟨a, b, rfl⟩
      obtain ⟨hi, rfl⟩ := ns_range ei
      have hp := pow_le12 (k := i) (by omega)
      refine ⟨_, [.va (nD n), .va (.lst (subsD (i + 1))), .va (nD i), b], rfl, ?_, ⟨_, _, rfl⟩⟩
      simp only [runD, evB, evS, evE, evA, evT, evAnd, evOr, evAndV, evOrV, evP, evI, mb_ok, mb_some, mb_er, op_some, keep_sh, keep_fr, blM_bl, intM_int, nerr_ok, Option.map_some, Option.bind_some, List.getElem?_cons_zero, List.getElem?_cons_succ, List.set_cons_zero, List.set_cons_succ, asgF, unpF, ownOf, appF, setAll, bindT, wipeR, List.length_cons, List.length_nil, List.map_cons, List.map_nil, List.replicate, List.cons_append, List.nil_append, if_true, Bool.false_eq_true, if_false, Nat.reduceAdd, Nat.reduceSub, Nat.zero_add, Nat.reduceEqDiff, Option.map_none, Nat.zero_le, Nat.reduceLT, Nat.reduceLeDiff, Bool.not_true, Bool.not_false, l2__law_every, items]
      rw [if_pos (by rw [subsD_len]; unfold top; omega)]
      rw [show subsD i = (subs i).map fun s => .tup (nsD s) from rfl]
      rw [compL_map (g := fun s => .tup (nsD (s ++ [i]))) (fun s hs => by
        obtain ⟨h1, h2⟩ := subs_up hs
        have hl := rise_len h1 h2
        have q : bop .add (.tup (nsD s)) (.tup [nD i]) = some (.tup (nsD (s ++ [i])), .sh) := by
          simp only [bop]
          rw [if_pos (by simp only [nsD_len, List.length_singleton]; unfold top; omega)]
          simp [nsD]
        simp only [runD, evB, evS, evE, evA, evT, evAnd, evOr, evAndV, evOrV, evP, evI, mb_ok, mb_some, mb_er, op_some, keep_sh, keep_fr, blM_bl, intM_int, nerr_ok, Option.map_some, Option.bind_some, List.getElem?_cons_zero, List.getElem?_cons_succ, List.set_cons_zero, List.set_cons_succ, asgF, unpF, ownOf, appF, setAll, bindT, wipeR, List.length_cons, List.length_nil, List.map_cons, List.map_nil, List.replicate, List.cons_append, List.nil_append, if_true, Bool.false_eq_true, if_false, Nat.reduceAdd, Nat.reduceSub, Nat.zero_add, Nat.reduceEqDiff, Option.map_none, Nat.zero_le, Nat.reduceLT, Nat.reduceLeDiff, Bool.not_true, Bool.not_false, e1__law_every, top, q])]
      have q2 : bop .add (.lst ((subs i).map fun s => .tup (nsD s))) (.lst ((subs i).map fun s => .tup (nsD (s ++ [i])))) = some (.lst (subsD (i + 1)), .fr) := by
        simp only [bop]
        rw [if_pos (by simp only [List.length_map, subs_len]; unfold top; omega), subsD_succ]
        rfl
      simp only [runD, evB, evS, evE, evA, evT, evAnd, evOr, evAndV, evOrV, evP, evI, mb_ok, mb_some, mb_er, op_some, keep_sh, keep_fr, blM_bl, intM_int, nerr_ok, Option.map_some, Option.bind_some, List.getElem?_cons_zero, List.getElem?_cons_succ, List.set_cons_zero, List.set_cons_succ, asgF, unpF, ownOf, appF, setAll, bindT, wipeR, List.length_cons, List.length_nil, List.map_cons, List.map_nil, List.replicate, List.cons_append, List.nil_append, if_true, Bool.false_eq_true, if_false, Nat.reduceAdd, Nat.reduceSub, Nat.zero_add, Nat.reduceEqDiff, Option.map_none, Nat.zero_le, Nat.reduceLT, Nat.reduceLeDiff, Bool.not_true, Bool.not_false, q2])
  have e := e
  simp only [show subsD 0 = [D.tup []] from rfl] at e
  simp only [runD, evB, evS, evE, evA, evT, evAnd, evOr, evAndV, evOrV, evP, evI, mb_ok, mb_some, mb_er, op_some, keep_sh, keep_fr, blM_bl, intM_int, nerr_ok, Option.map_some, Option.bind_some, List.getElem?_cons_zero, List.getElem?_cons_succ, List.set_cons_zero, List.set_cons_succ, asgF, unpF, ownOf, appF, setAll, bindT, wipeR, List.length_cons, List.length_nil, List.map_cons, List.map_nil, List.replicate, List.cons_append, List.nil_append, if_true, Bool.false_eq_true, if_false, Nat.reduceAdd, Nat.reduceSub, Nat.zero_add, Nat.reduceEqDiff, Option.map_none, Nat.zero_le, Nat.reduceLT, Nat.reduceLeDiff, Bool.not_true, Bool.not_false, m__law_every, top, intM_n]
  rw [if_pos (rng_ok (by omega))]
  simp only [runD, evB, evS, evE, evA, evT, evAnd, evOr, evAndV, evOrV, evP, evI, mb_ok, mb_some, mb_er, op_some, keep_sh, keep_fr, blM_bl, intM_int, nerr_ok, Option.map_some, Option.bind_some, List.getElem?_cons_zero, List.getElem?_cons_succ, List.set_cons_zero, List.set_cons_succ, asgF, unpF, ownOf, appF, setAll, bindT, wipeR, List.length_cons, List.length_nil, List.map_cons, List.map_nil, List.replicate, List.cons_append, List.nil_append, if_true, Bool.false_eq_true, if_false, Nat.reduceAdd, Nat.reduceSub, Nat.zero_add, Nat.reduceEqDiff, Option.map_none, Nat.zero_le, Nat.reduceLT, Nat.reduceLeDiff, Bool.not_true, Bool.not_false, range_ns, e, nsD_len, List.length_range]
/-! ### the least of a row -/
def optD : Option Nat → D
  | none => .non
  | some n => nD n
/-- one more is looked at -/
def lstep (f : List Nat → Option Nat) (b : Option Nat) (s : List Nat) : Option Nat :=
  match f s with
  | none => b
  | some c => match b with
    | none => some c
    | some d => if c < d then some c else some d
def leastF (f : List Nat → Option Nat) (l : List (List Nat)) : Option Nat := l.foldl (lstep f) none
theorem lstep_some {f : List Nat → Option Nat} {b : Option Nat} {s : List Nat} {c : Nat} : lstep f b s = some c → (f s = some c ∨ b = some c) ∧ (∀ d, f s = some d → c ≤ d) ∧ ∀ d, b = some d → c ≤ d := by
  unfold lstep
  cases hf : f s with
  | none =>
    intro h
    have h : b = some c := h
    exact ⟨.inr h, fun d e => (nomatch e), fun d e => by rw [h] at e; cases e; exact Nat.le_refl _⟩
  | some x =>
    cases b with
    | none =>
      intro h
      cases h
      exact ⟨.inl rfl, fun d e => by cases e; exact Nat.le_refl _, fun d e => (nomatch e)⟩
    | some y =>
      intro h
      have h : (if x < y then some x else some y) = some c := h
      by_cases q : x < y
      · rw [if_pos q] at h; cases h
        exact ⟨.inl rfl, fun d e => by cases e; exact Nat.le_refl _, fun d e => by cases e; omega⟩
      · rw [if_neg q] at h; cases h
        exact ⟨.inr rfl, fun d e => by cases e; omega, fun d e => by cases e; exact Nat.le_refl _⟩
theorem lstep_none {f : List Nat → Option Nat} {b : Option Nat} {s : List Nat} (h : lstep f b s = none) : f s = none ∧ b = none := by
  unfold lstep at h
  cases hf : f s with
  | none => rw [hf] at h; exact ⟨rfl, h⟩
  | some x =>
    rw [hf] at h
    cases b with
    | none => cases h
    | some y =>
      have h : (if x < y then some x else some y) = none := h
      split at h <;> cases h
theorem fold_some {f : List Nat → Option Nat} : ∀ {l : List (List Nat)} {b : Option Nat} {c : Nat}, l.foldl (lstep f) b = some c → ((∃ s ∈ l, f s = some c) ∨ b = some c) ∧ (∀ s ∈ l, ∀ d, f s = some d → c ≤ d) ∧ ∀ d, b = some d → c ≤ d
  | [], b, c, h => ⟨.inr h, fun s hs => (nomatch hs), fun d e => by rw [show b = some c from h] at e; cases e; exact Nat.le_refl _⟩
  | s :: l, b, c, h => by
    obtain ⟨h1, h2, h3⟩ := fold_some (l := l) h
    cases hb : lstep f b s with
    | none =>
      obtain ⟨n1, n2⟩ := lstep_none hb
      refine ⟨?_, fun t ht d e => ?_, fun d e => by rw [n2] at e; cases e⟩
      · rcases h1 with ⟨t, ht, e⟩ | e
        · exact .inl ⟨t, List.mem_cons_of_mem _ ht, e⟩
        · rw [hb] at e; cases e
      · rcases List.mem_cons.mp ht with rfl | ht
        · rw [n1] at e; cases e
        · exact h2 t ht d e
    | some x =>
      obtain ⟨s1, s2, s3⟩ := lstep_some hb
      have cx := h3 x hb
      refine ⟨?_, fun t ht d e => ?_, fun d e => Nat.le_trans cx (s3 d e)⟩
      · rcases h1 with ⟨t, ht, e⟩ | e
        · exact .inl ⟨t, List.mem_cons_of_mem _ ht, e⟩
        · rw [hb] at e
          cases e
          rcases s1 with s1 | s1
          · exact .inl ⟨s, List.mem_cons_self, s1⟩
          · exact .inr s1
      · rcases List.mem_cons.mp ht with rfl | ht
        · exact Nat.le_trans cx (s2 d e)
        · exact h2 t ht d e
theorem fold_none {f : List Nat → Option Nat} : ∀ {l : List (List Nat)} {b : Option Nat}, l.foldl (lstep f) b = none → (∀ s ∈ l, f s = none) ∧ b = none
  | [], b, h => ⟨fun s hs => (nomatch hs), h⟩
  | s :: l, b, h => by
    obtain ⟨h1, h2⟩ := fold_none (l := l) h
    obtain ⟨n1, n2⟩ := lstep_none h2
    refine ⟨fun t ht => ?_, n2⟩
    rcases List.mem_cons.mp ht with rfl | ht
    · exact n1
    · exact h1 t ht
theorem leastF_some {f : List Nat → Option Nat} {l : List (List Nat)} {c : Nat} (h : leastF f l = some c) : (∃ s ∈ l, f s = some c) ∧ ∀ s ∈ l, ∀ d, f s = some d → c ≤ d := by
  obtain ⟨h1, h2, _⟩ := fold_some h
  rcases h1 with h1 | h1
  · exact ⟨h1, h2⟩
  · cases h1
theorem leastF_none {f : List Nat → Option Nat} {l : List (List Nat)} (h : leastF f l = none) : ∀ s ∈ l, f s = none := (fold_none h).1
/-- a cost is the least where it is met and nothing is below -/
theorem leastF_eq {f : List Nat → Option Nat} {l : List (List Nat)} {c : Nat} {s : List Nat} (hs : s ∈ l) (e : f s = some c) (h : ∀ t ∈ l, ∀ d, f t = some d → c ≤ d) : leastF f l = some c := by
  cases q : leastF f l with
  | none => rw [leastF_none q s hs] at e; cases e
  | some x =>
    obtain ⟨⟨t, ht, et⟩, h2⟩ := leastF_some q
    have := h t ht x et
    have := h2 s hs c e
    congr 1
    omega
/-- what these ties cost, if they join -/
def jcost (m : Nat) (ts : List Tie) (ends s : List Nat) : Option Nat := if joinB m ts s ends then some (costN ts s) else none
def leastN (m : Nat) (ts : List Tie) (ends : List Nat) : Option Nat := leastF (jcost m ts ends) (subs ts.length)
def SLeast (φ : List D → M D) : Prop := ∀ (m : Nat) (ts : List Tie) (ends : List Nat), Web m ts → Ends m ends → ts.length ≤ 12 → φ [webD m ts, .tup (nsD ends)] = ok (optD (leastN m ts ends))
theorem isN_opt (o : Option Nat) : cop .isN (optD o) .non = some o.isNone := by cases o <;> rfl
theorem least_ok {Φ : Tab} {wf : Nat} (he : Fn Φ "_law_every" SEvery) (hc : Fn Φ "_law_cost" SCost) (hj : Fn Φ "_law_joins" SJoins) : SLeast (runD m__law_least Φ wf) := by
  intro m ts ends W E t12
  obtain ⟨φe, fe, se⟩ := he
  obtain ⟨φc, fc, sc⟩ := hc
  obtain ⟨φj, fj, sj⟩ := hj
  have step : ∀ (s : List Nat) (b : Option Nat) (a : Sl), s ∈ subs ts.length → ∃ a', evB Φ wf l1__law_least [.va (webD m ts), .va (.tup (nsD ends)), .va (optD b), .va (.tup (nsD s)), a] = ok (.nx [.va (webD m ts), .va (.tup (nsD ends)), .va (optD (lstep (jcost m ts ends) b s)), .va (.tup (nsD s)), a']) := by
    intro s b a hs
    obtain ⟨su, sl⟩ := subs_up hs
    have hlen := rise_len su sl
    have kc := sc m ts s true (by omega) sl
    have kj := sj m ts s ends true true W.m7 W.inw sl E.1 E.2
    simp only [seqD, if_true] at kc kj
    refine ⟨.va (nD (costN ts s)), ?_⟩
    cases b with
    | none =>
      have q : cop .isN (optD none) .non = some true := rfl
      unfold lstep jcost
      cases hjb : joinB m ts s ends <;> simp only [runD, evB, evS, evE, evA, evT, evAnd, evOr, evAndV, evOrV, evP, evI, mb_ok, mb_some, mb_er, op_some, keep_sh, keep_fr, blM_bl, intM_int, nerr_ok, Option.map_some, Option.bind_some, List.getElem?_cons_zero, List.getElem?_cons_succ, List.set_cons_zero, List.set_cons_succ, asgF, unpF, ownOf, appF, setAll, bindT, wipeR, List.length_cons, List.length_nil, List.map_cons, List.map_nil, List.replicate, List.cons_append, List.nil_append, if_true, Bool.false_eq_true, if_false, Nat.reduceAdd, Nat.reduceSub, Nat.zero_add, Nat.reduceEqDiff, Option.map_none, Nat.zero_le, Nat.reduceLT, Nat.reduceLeDiff, Bool.not_true, Bool.not_false, l1__law_least, fc, kc, q, fj, kj, hjb] <;> rfl
    | some d =>
      have q : cop .isN (optD (some d)) .non = some false := rfl
      have q2 : cop .lt (nD (costN ts s)) (optD (some d)) = some (decide (costN ts s < d)) := cop_ltn _ _
      unfold lstep jcost
      cases hjb : joinB m ts s ends
      · by_cases hlt : costN ts s < d <;> simp only [runD, evB, evS, evE, evA, evT, evAnd, evOr, evAndV, evOrV, evP, evI, mb_ok, mb_some, mb_er, op_some, keep_sh, keep_fr, blM_bl, intM_int, nerr_ok, Option.map_some, Option.bind_some, List.getElem?_cons_zero, List.getElem?_cons_succ, List.set_cons_zero, List.set_cons_succ, asgF, unpF, ownOf, appF, setAll, bindT, wipeR, List.length_cons, List.length_nil, List.map_cons, List.map_nil, List.replicate, List.cons_append, List.nil_append, if_true, Bool.false_eq_true, if_false, Nat.reduceAdd, Nat.reduceSub, Nat.zero_add, Nat.reduceEqDiff, Option.map_none, Nat.zero_le, Nat.reduceLT, Nat.reduceLeDiff, Bool.not_true, Bool.not_false, l1__law_least, fc, kc, q, q2, fj, kj, hjb, hlt, decide_true, decide_false]
      · by_cases hlt : costN ts s < d
        · simp only [runD, evB, evS, evE, evA, evT, evAnd, evOr, evAndV, evOrV, evP, evI, mb_ok, mb_some, mb_er, op_some, keep_sh, keep_fr, blM_bl, intM_int, nerr_ok, Option.map_some, Option.bind_some, List.getElem?_cons_zero, List.getElem?_cons_succ, List.set_cons_zero, List.set_cons_succ, asgF, unpF, ownOf, appF, setAll, bindT, wipeR, List.length_cons, List.length_nil, List.map_cons, List.map_nil, List.replicate, List.cons_append, List.nil_append, if_true, Bool.false_eq_true, if_false, Nat.reduceAdd, Nat.reduceSub, Nat.zero_add, Nat.reduceEqDiff, Option.map_none, Nat.zero_le, Nat.reduceLT, Nat.reduceLeDiff, Bool.not_true, Bool.not_false, l1__law_least, fc, kc, q, q2, fj, kj, hjb, hlt, decide_true]; rfl
        · simp only [runD, evB, evS, evE, evA, evT, evAnd, evOr, evAndV, evOrV, evP, evI, mb_ok, mb_some, mb_er, op_some, keep_sh, keep_fr, blM_bl, intM_int, nerr_ok, Option.map_some, Option.bind_some, List.getElem?_cons_zero, List.getElem?_cons_succ, List.set_cons_zero, List.set_cons_succ, asgF, unpF, ownOf, appF, setAll, bindT, wipeR, List.length_cons, List.length_nil, List.map_cons, List.map_nil, List.replicate, List.cons_append, List.nil_append, if_true, Bool.false_eq_true, if_false, Nat.reduceAdd, Nat.reduceSub, Nat.zero_add, Nat.reduceEqDiff, Option.map_none, Nat.zero_le, Nat.reduceLT, Nat.reduceLeDiff, Bool.not_true, Bool.not_false, l1__law_least, fc, kc, q, q2, fj, kj, hjb, hlt, decide_false]
  have loop : ∀ (l : List (List Nat)) (b : Option Nat) (a0 a : Sl), (∀ s ∈ l, s ∈ subs ts.length) → ∃ a0' a', forL (bindT true [3]) (fun ρ => evB Φ wf l1__law_least ρ) (l.map fun s => .tup (nsD s)) [.va (webD m ts), .va (.tup (nsD ends)), .va (optD b), a0, a] = ok (.nx [.va (webD m ts), .va (.tup (nsD ends)), .va (optD (l.foldl (lstep (jcost m ts ends)) b)), a0', a']) := by
    intro l
    induction l with
    | nil => intro b a0 a _; exact ⟨a0, a, rfl⟩
    | cons s l ih =>
      intro b a0 a hl
      obtain ⟨a1, s1⟩ := step s b a (hl s List.mem_cons_self)
      obtain ⟨c1, c2, ih⟩ := ih (lstep (jcost m ts ends) b s) (.va (.tup (nsD s))) a1 fun t ht => hl t (List.mem_cons_of_mem _ ht)
      refine ⟨c1, c2, ?_⟩
      have eb : bindT true [3] (.tup (nsD s)) [.va (webD m ts), .va (.tup (nsD ends)), .va (optD b), a0, a] = some [.va (webD m ts), .va (.tup (nsD ends)), .va (optD b), .va (.tup (nsD s)), a] := rfl
      simp only [List.map_cons, forL, eb, s1, mb_ok, ih, List.foldl_cons]
  obtain ⟨c1, c2, h⟩ := loop (subs ts.length) none .no .no fun s hs => hs
  have h : forL (bindT true [3]) (fun ρ => evB Φ wf l1__law_least ρ) (subsD ts.length) [.va (webD m ts), .va (.tup (nsD ends)), .va .non, .no, .no] = ok (.nx [.va (webD m ts), .va (.tup (nsD ends)), .va (optD (leastN m ts ends)), c1, c2]) := h
  have ke := se ts.length t12
  have el := len_web ts
  simp only [runD, evB, evS, evE, evA, evT, evAnd, evOr, evAndV, evOrV, evP, evI, mb_ok, mb_some, mb_er, op_some, keep_sh, keep_fr, blM_bl, intM_int, nerr_ok, Option.map_some, Option.bind_some, List.getElem?_cons_zero, List.getElem?_cons_succ, List.set_cons_zero, List.set_cons_succ, asgF, unpF, ownOf, appF, setAll, bindT, wipeR, List.length_cons, List.length_nil, List.map_cons, List.map_nil, List.replicate, List.cons_append, List.nil_append, if_true, Bool.false_eq_true, if_false, Nat.reduceAdd, Nat.reduceSub, Nat.zero_add, Nat.reduceEqDiff, Option.map_none, Nat.zero_le, Nat.reduceLT, Nat.reduceLeDiff, Bool.not_true, Bool.not_false, m__law_least, ix_web1, el, fe, ke, items, h]
end J

set_option Elab.async false
set_option linter.all false
/-! ways along ties -/
namespace J
def Adj (ts : List Tie) (n b p : Nat) : Prop := ((tieAt ts n).1 = b ∧ (tieAt ts n).2.1 = p) ∨ ((tieAt ts n).1 = p ∧ (tieAt ts n).2.1 = b)
theorem Adj.symm {ts : List Tie} {n b p : Nat} (h : Adj ts n b p) : Adj ts n p b := h.elim (fun h => .inr h) (fun h => .inl h)
def price (ts : List Tie) (n : Nat) : Nat := (tieAt ts n).2.2
/-- a way from u: how many ties, where it ends, its cost; all its places are of S -/
inductive Wk (ts : List Tie) (S : Nat → Prop) (u : Nat) : Nat → Nat → Nat → Prop
  | nil : S u → Wk ts S u 0 u 0
  | step {k b c n p : Nat} : Wk ts S u k b c → n < ts.length → Adj ts n b p → S p → Wk ts S u (k + 1) p (c + price ts n)
theorem Wk.mono {ts : List Tie} {S T : Nat → Prop} (h : ∀ x, S x → T x) {u k p c : Nat} (w : Wk ts S u k p c) : Wk ts T u k p c := by
  induction w with
  | nil hu => exact .nil (h _ hu)
  | step _ hn ha hp ih => exact .step ih hn ha (h _ hp)
theorem Wk.start {ts : List Tie} {S : Nat → Prop} {u k p c : Nat} (w : Wk ts S u k p c) : S u := by
  induction w with
  | nil hu => exact hu
  | step _ _ _ _ ih => exact ih
theorem Wk.stop {ts : List Tie} {S : Nat → Prop} {u k p c : Nat} (w : Wk ts S u k p c) : S p := by
  cases w with
  | nil hu => exact hu
  | step _ _ _ hp => exact hp
/-- first a tie, then a way -/
theorem Wk.cons {ts : List Tie} {S : Nat → Prop} {u v n : Nat} (hu : S u) (hn : n < ts.length) (ha : Adj ts n u v) {k p c : Nat} (w : Wk ts S v k p c) : Wk ts S u (k + 1) p (price ts n + c) := by
  induction w with
  | nil hv =>
    have := Wk.step (.nil (ts := ts) hu) hn ha hv
    simpa using this
  | @step k b c n' p _ hn' ha' hp ih =>
    have := Wk.step ih hn' ha' hp
    rw [show price ts n + (c + price ts n') = price ts n + c + price ts n' by omega]
    exact this
/-- left for the last time -/
theorem Wk.last {ts : List Tie} {S : Nat → Prop} {u k p c : Nat} (w : Wk ts S u k p c) : p = u ∨ ∃ v n j d, n < ts.length ∧ Adj ts n u v ∧ Wk ts (fun x => S x ∧ x ≠ u) v j p d ∧ price ts n + d ≤ c := by
  induction w with
  | nil hu => exact .inl rfl
  | @step k b c n p w hn ha hp ih =>
    by_cases e : p = u
    · exact .inl e
    · right
      rcases ih with rfl | ⟨v, n1, j, d, h1, h2, h3, h4⟩
      · exact ⟨p, n, 0, 0, hn, ha, .nil ⟨hp, e⟩, by omega⟩
      · exact ⟨v, n1, j + 1, d + price ts n, h1, h2, .step h3 hn ha ⟨hp, e⟩, by omega⟩
/-- inside so many places: no more ties than places, less one -/
theorem Wk.short {ts : List Tie} : ∀ (N : Nat) (S : Nat → Prop) (l : List Nat), l.length ≤ N → (∀ x, S x → x ∈ l) → ∀ {u k p c : Nat}, Wk ts S u k p c → ∃ j d, j < N ∧ d ≤ c ∧ Wk ts S u j p d
  | 0, S, l, hN, hl, u, k, p, c, w => by
    have h := hl u w.start
    rw [List.eq_nil_of_length_eq_zero (Nat.le_zero.mp hN)] at h
    cases h
  | N + 1, S, l, hN, hl, u, k, p, c, w => by
    rcases w.last with rfl | ⟨v, n, j, d, h1, h2, h3, h4⟩
    · exact ⟨0, 0, Nat.succ_pos _, Nat.zero_le _, .nil w.start⟩
    · obtain ⟨j', d', q1, q2, q3⟩ := Wk.short N (fun x => S x ∧ x ≠ u) (l.erase u) (by rw [List.length_erase_of_mem (hl u w.start)]; omega) (fun x hx => (List.mem_erase_of_ne hx.2).mpr (hl x hx.1)) h3
      exact ⟨j' + 1, price ts n + d', by omega, by omega, Wk.cons w.start h1 h2 (q3.mono fun x hx => hx.1)⟩
/-- a way joins its ends, by ties that cost no more -/
theorem Wk.con {ts : List Tie} {S : Nat → Prop} {u k p c : Nat} (w : Wk ts S u k p c) : ∃ s : List Nat, (∀ n ∈ s, n < ts.length) ∧ Con ts s u p ∧ (s.map (price ts)).sum = c := by
  induction w with
  | nil hu => exact ⟨[], fun n h => (nomatch h), .refl _, rfl⟩
  | @step k b c n p _ hn ha hp ih =>
    obtain ⟨s, h1, h2, h3⟩ := ih
    refine ⟨n :: s, fun j hj => ?_, ?_, ?_⟩
    · rcases List.mem_cons.mp hj with rfl | hj
      · exact hn
      · exact h1 j hj
    · refine (h2.mono fun j hj => List.mem_cons_of_mem _ hj).trans ?_
      have t : Con ts (n :: s) (tieAt ts n).1 (tieAt ts n).2.1 := .tie List.mem_cons_self
      rcases ha with ⟨a1, a2⟩ | ⟨a1, a2⟩
      · rw [a1, a2] at t; exact t
      · rw [a1, a2] at t; exact t.symm
    · rw [List.map_cons, List.sum_cons, h3]
      omega
end J

set_option Elab.async false
set_option linter.all false
/-! how far: rounds over the ties -/
namespace J
abbrev Row := List (Option Nat)
def at_ (f : Row) (p : Nat) : Option Nat := (f[p]?).getD none
def rlx1 (f : Row) (here there w : Nat) : Row :=
  match at_ f here with
  | none => f
  | some a => match at_ f there with
    | none => f.set there (some (a + w))
    | some b => if a + w < b then f.set there (some (a + w)) else f
def rlx (f : Row) (t : Tie) : Row := rlx1 (rlx1 f t.1 t.2.1 t.2.2) t.2.1 t.1 t.2.2
def round (ts : List Tie) (f : Row) : Row := ts.foldl rlx f
def rounds (ts : List Tie) : Nat → Row → Row
  | 0, f => f
  | k + 1, f => rounds ts k (round ts f)
def far0 (m u : Nat) : Row := (List.replicate m none).set u (some 0)
def allFar (m : Nat) (ts : List Tie) (u : Nat) : Row := rounds ts m (far0 m u)
/-- no more than so much -/
def Le (x : Option Nat) (b : Nat) : Prop := ∃ a, x = some a ∧ a ≤ b
theorem Le.mono {x : Option Nat} {b c : Nat} (h : Le x b) (l : b ≤ c) : Le x c := let ⟨a, e, q⟩ := h; ⟨a, e, Nat.le_trans q l⟩
theorem at_set {f : Row} {i j : Nat} {x : Option Nat} : at_ (f.set i x) j = if i = j ∧ i < f.length then x else at_ f j := by
  unfold at_
  by_cases h : i = j
  · subst h
    by_cases hi : i < f.length
    · rw [List.getElem?_set_self hi, if_pos ⟨rfl, hi⟩]; rfl
    · rw [if_neg fun z => hi z.2, List.set_eq_of_length_le (by omega)]
  · rw [List.getElem?_set_ne h, if_neg fun z => h z.1]
theorem rlx1_len (f : Row) (a b w : Nat) : (rlx1 f a b w).length = f.length := by
  unfold rlx1
  split
  · rfl
  · split
    · simp
    · split <;> simp
/-- nothing grows -/
theorem rlx1_le {f : Row} {a b w p c : Nat} (h : Le (at_ f p) c) : Le (at_ (rlx1 f a b w) p) c := by
  unfold rlx1
  split
  · exact h
  · rename_i x hx
    split
    · rename_i hy
      rw [at_set]
      split
      · rename_i q
        obtain ⟨d, e, _⟩ := h
        rw [← q.1, hy] at e
        cases e
      · exact h
    · rename_i y hy
      split
      · rename_i hlt
        rw [at_set]
        split
        · rename_i q
          obtain ⟨d, e, l⟩ := h
          rw [← q.1, hy] at e
          cases e
          exact ⟨_, rfl, by omega⟩
        · exact h
      · exact h
/-- the other place is reached -/
theorem rlx1_go {f : Row} {a b w c : Nat} (hb : b < f.length) (h : Le (at_ f a) c) : Le (at_ (rlx1 f a b w) b) (c + w) := by
  obtain ⟨d, e, l⟩ := h
  unfold rlx1
  rw [e]
  dsimp only
  split
  · rw [at_set, if_pos ⟨rfl, hb⟩]
    exact ⟨_, rfl, by omega⟩
  · rename_i y hy
    split
    · rw [at_set, if_pos ⟨rfl, hb⟩]
      exact ⟨_, rfl, by omega⟩
    · exact ⟨y, hy, by omega⟩
theorem rlx_len (f : Row) (t : Tie) : (rlx f t).length = f.length := by unfold rlx; rw [rlx1_len, rlx1_len]
theorem rlx_le {f : Row} {t : Tie} {p c : Nat} (h : Le (at_ f p) c) : Le (at_ (rlx f t) p) c := rlx1_le (rlx1_le h)
theorem fold_len' : ∀ (l : List Tie) (f : Row), (l.foldl rlx f).length = f.length
  | [], f => rfl
  | t :: l, f => by rw [List.foldl_cons, fold_len' l, rlx_len]
theorem fold_le {p c : Nat} : ∀ (l : List Tie) (f : Row), Le (at_ f p) c → Le (at_ (l.foldl rlx f) p) c
  | [], f, h => h
  | t :: l, f, h => fold_le l _ (rlx_le h)
theorem fold_go {a b c : Nat} {t : Tie} : ∀ (l : List Tie) (f : Row), t ∈ l → b < f.length → ((t.1 = a ∧ t.2.1 = b) ∨ (t.1 = b ∧ t.2.1 = a)) → Le (at_ f a) c → Le (at_ (l.foldl rlx f) b) (c + t.2.2)
  | x :: l, f, hm, hb, hab, h => by
    rw [List.foldl_cons]
    rcases List.mem_cons.mp hm with rfl | hm
    · refine fold_le l _ ?_
      unfold rlx
      rcases hab with ⟨e1, e2⟩ | ⟨e1, e2⟩
      · rw [e1, e2]
        exact rlx1_le (rlx1_go hb h)
      · rw [e1, e2]
        exact rlx1_go (by rw [rlx1_len]; exact hb) (rlx1_le h)
    · exact fold_go l _ hm (by rw [rlx_len]; exact hb) hab (rlx_le h)
theorem round_len (ts : List Tie) (f : Row) : (round ts f).length = f.length := fold_len' ts f
theorem rounds_len (ts : List Tie) : ∀ (k : Nat) (f : Row), (rounds ts k f).length = f.length
  | 0, f => rfl
  | k + 1, f => by
    show (rounds ts k (round ts f)).length = _
    rw [rounds_len ts k, round_len]
theorem rounds_snoc (ts : List Tie) : ∀ (k : Nat) (f : Row), rounds ts (k + 1) f = round ts (rounds ts k f)
  | 0, f => rfl
  | k + 1, f => by
    show rounds ts (k + 1) (round ts f) = round ts (rounds ts k (round ts f))
    rw [rounds_snoc ts k]
theorem tie_mem {ts : List Tie} {n : Nat} (h : n < ts.length) : tieAt ts n ∈ ts := by
  unfold tieAt
  rw [List.getD_eq_getElem?_getD, List.getElem?_eq_getElem h]
  exact List.getElem_mem h
/-- behind k rounds: no more than any way of so many ties -/
theorem rounds_wk {m : Nat} {ts : List Tie} {u : Nat} (hu : u < m) {k p c : Nat} (w : Wk ts (fun x => x < m) u k p c) : ∀ j, k ≤ j → Le (at_ (rounds ts j (far0 m u)) p) c := by
  induction w with
  | nil _ =>
    intro j _
    induction j with
    | zero =>
      refine ⟨0, ?_, Nat.le_refl _⟩
      show at_ (far0 m u) u = some 0
      unfold far0
      rw [at_set, if_pos ⟨rfl, by simpa using hu⟩]
    | succ j ih =>
      rw [rounds_snoc]
      exact fold_le ts _ (ih (Nat.zero_le _))
  | @step k b c n p _ hn ha hp ih =>
    intro j hj
    cases j with
    | zero => omega
    | succ j =>
      rw [rounds_snoc]
      refine fold_go ts _ (tie_mem hn) ?_ ?_ (ih j (by omega))
      · rw [rounds_len]
        simpa [far0] using hp
      · exact ha
/-- every value is met by a way -/
def Met (ts : List Tie) (m u : Nat) (f : Row) : Prop := f.length = m ∧ ∀ p a, at_ f p = some a → ∃ k, Wk ts (fun x => x < m) u k p a
theorem at_lt {f : Row} {p a : Nat} (h : at_ f p = some a) : p < f.length := by
  unfold at_ at h
  by_cases q : p < f.length
  · exact q
  · rw [List.getElem?_eq_none (by omega)] at h; cases h
theorem rlx1_met {m : Nat} {ts : List Tie} {u : Nat} {f : Row} {n a b : Nat} (h : Met ts m u f) (hn : n < ts.length) (ha : Adj ts n a b) (hb : b < m) : Met ts m u (rlx1 f a b (price ts n)) := by
  obtain ⟨h1, h2⟩ := h
  refine ⟨by rw [rlx1_len]; exact h1, fun p c e => ?_⟩
  have new : ∀ x, at_ f a = some x → c = x + price ts n → p = b → ∃ k, Wk ts (fun x => x < m) u k p c := fun x ex ec ep => by
    obtain ⟨k, w⟩ := h2 a x ex
    subst ec ep
    exact ⟨k + 1, .step w hn ha hb⟩
  unfold rlx1 at e
  split at e
  · exact h2 p c e
  · rename_i x hx
    have go : at_ (f.set b (some (x + price ts n))) p = some c → ∃ k, Wk ts (fun x => x < m) u k p c := fun e => by
      rw [at_set] at e
      split at e
      · rename_i q
        cases e
        exact new x hx rfl q.1.symm
      · exact h2 p c e
    split at e
    · exact go e
    · split at e
      · exact go e
      · exact h2 p c e
theorem rlx_met {m : Nat} {ts : List Tie} {u : Nat} {f : Row} {n : Nat} (hw : InW m ts) (h : Met ts m u f) (hn : n < ts.length) : Met ts m u (rlx f (tieAt ts n)) := by
  obtain ⟨w1, w2⟩ := hw n hn
  exact rlx1_met (rlx1_met h hn (.inl ⟨rfl, rfl⟩) w2) hn (.inr ⟨rfl, rfl⟩) w1
theorem fold_met {m : Nat} {ts : List Tie} {u : Nat} (hw : InW m ts) : ∀ (l : List Tie) (f : Row), (∀ t ∈ l, ∃ n, n < ts.length ∧ t = tieAt ts n) → Met ts m u f → Met ts m u (l.foldl rlx f)
  | [], f, _, h => h
  | t :: l, f, hl, h => by
    obtain ⟨n, hn, e⟩ := hl t List.mem_cons_self
    refine fold_met hw l _ (fun x hx => hl x (List.mem_cons_of_mem _ hx)) ?_
    rw [e]
    exact rlx_met hw h hn
theorem mem_tie {ts : List Tie} {t : Tie} (h : t ∈ ts) : ∃ n, n < ts.length ∧ t = tieAt ts n := by
  obtain ⟨n, hn, e⟩ := List.getElem_of_mem h
  refine ⟨n, hn, ?_⟩
  unfold tieAt
  rw [List.getD_eq_getElem?_getD, List.getElem?_eq_getElem hn]
  exact e.symm
theorem rounds_met {m : Nat} {ts : List Tie} {u : Nat} (hw : InW m ts) (hu : u < m) : ∀ k, Met ts m u (rounds ts k (far0 m u))
  | 0 => by
    refine ⟨by simp [rounds, far0], fun p a e => ?_⟩
    have e : at_ (far0 m u) p = some a := e
    unfold far0 at e
    rw [at_set] at e
    split at e
    · rename_i q
      cases e
      rw [← q.1]
      exact ⟨0, .nil hu⟩
    · unfold at_ at e
      rw [List.getElem?_replicate] at e
      split at e <;> cases e
  | k + 1 => by
    rw [rounds_snoc]
    exact fold_met hw ts _ (fun t ht => mem_tie ht) (rounds_met hw hu k)
/-- how far: itself at nothing, no more than by a tie, met by ties -/
structure Far (m : Nat) (ts : List Tie) (D : Nat → Nat → Option Nat) : Prop where
  self : ∀ u, u < m → D u u = some 0
  rel : ∀ u n b p c, u < m → n < ts.length → Adj ts n b p → D u b = some c → Le (D u p) (c + price ts n)
  met : ∀ u p c, u < m → D u p = some c → p < m ∧ ∃ k, Wk ts (fun x => x < m) u k p c
theorem allFar_far {m : Nat} {ts : List Tie} (hw : InW m ts) : Far m ts fun u p => at_ (allFar m ts u) p := by
  have short : ∀ {u k p c : Nat}, u < m → Wk ts (fun x => x < m) u k p c → Le (at_ (allFar m ts u) p) c := fun {u k p c} hu w => by
    obtain ⟨j, d, h1, h2, h3⟩ := Wk.short m _ (List.range m) (by simp) (fun x hx => List.mem_range.mpr hx) w
    exact (rounds_wk hu h3 m (by omega)).mono h2
  refine ⟨fun u hu => ?_, fun u n b p c hu hn ha e => ?_, fun u p c hu e => ?_⟩
  · obtain ⟨a, e, l⟩ := short hu (.nil (ts := ts) (S := fun x => x < m) hu)
    have : a = 0 := by omega
    rw [e, this]
  · obtain ⟨k, w⟩ := (rounds_met hw hu m).2 b c e
    refine short hu (.step w hn ha ?_)
    obtain ⟨w1, w2⟩ := hw n hn
    rcases ha with ⟨_, a2⟩ | ⟨a1, _⟩
    · exact a2 ▸ w2
    · exact a1 ▸ w1
  · obtain ⟨h1, h2⟩ := rounds_met (ts := ts) hw hu m
    have h3 : p < (rounds ts m (far0 m u)).length := at_lt e
    rw [h1] at h3
    exact ⟨h3, h2 p c e⟩
end J

set_option Elab.async false
set_option linter.all false
set_option maxRecDepth 100000
set_option maxHeartbeats 4000000
/-! all_far read -/
namespace J
open PySem PV
def rowD (f : Row) : List D := f.map optD
theorem rowD_len (f : Row) : (rowD f).length = f.length := by simp [rowD]
theorem ix_row {f : Row} {a : Nat} (h : a < f.length) : ixD (.lst (rowD f)) (nD a) = some (optD (at_ f a)) := by
  rw [ix_lst (by rw [rowD_len]; exact h)]
  simp [rowD, at_, h]
theorem notN_opt (o : Option Nat) : cop .notN (optD o) .non = some o.isSome := by cases o <;> rfl
theorem row_set (f : Row) (i : Nat) (x : Option Nat) : (rowD f).set i (optD x) = rowD (f.set i x) := by
  unfold rowD
  rw [List.map_set]
theorem rep_none : ∀ k : Nat, (List.replicate k [D.non]).flatten = rowD (List.replicate k none)
  | 0 => rfl
  | k + 1 => by
    rw [List.replicate_succ, List.flatten_cons, rep_none k, List.replicate_succ]
    rfl
def SFar (φ : List D → M D) : Prop := ∀ (m : Nat) (ts : List Tie) (u : Nat), Web m ts → u < m → φ [webD m ts, nD u] = ok (.lst (rowD (allFar m ts u)))
end J

set_option Elab.async false
set_option linter.all false
set_option maxRecDepth 100000
set_option maxHeartbeats 4000000
/-! lesser, both -/
namespace J
open PySem PV
def lesr (x y : Option Nat) : Option Nat :=
  match x, y with
  | none, y => y
  | some a, none => some a
  | some a, some b => if b < a then some b else some a
def bth (x y : Option Nat) : Option Nat :=
  match x, y with
  | some a, some b => some (a + b)
  | _, _ => none
def SLesr (φ : List D → M D) : Prop := ∀ x y : Option Nat, φ [optD x, optD y] = ok (optD (lesr x y))
def SBth (φ : List D → M D) : Prop := ∀ x y : Option Nat, φ [optD x, optD y] = ok (optD (bth x y))
theorem isN_n (a : Nat) : cop .isN (nD a) .non = some false := rfl
theorem notN_n (a : Nat) : cop .notN (nD a) .non = some true := rfl
end J

set_option Elab.async false
set_option linter.all false
set_option maxRecDepth 100000
set_option maxHeartbeats 4000000
/-! the least cost of ties that join, with no web in sight -/
namespace J
open PySem PV
theorem costN_nil (ts : List Tie) : costN ts [] = 0 := rfl
theorem costN_cons (ts : List Tie) (n : Nat) (s : List Nat) : costN ts (n :: s) = price ts n + costN ts s := by
  unfold costN price; rw [List.map_cons, List.sum_cons]
theorem costN_app (ts : List Tie) : ∀ (s t : List Nat), costN ts (s ++ t) = costN ts s + costN ts t
  | [], t => by rw [List.nil_append, costN_nil, Nat.zero_add]
  | n :: s, t => by rw [List.cons_append, costN_cons, costN_cons, costN_app ts s t, Nat.add_assoc]
theorem costN_erase {ts : List Tie} {e : Nat} : ∀ {s : List Nat}, e ∈ s → costN ts s = price ts e + costN ts (s.erase e)
  | n :: s, h => by
    rw [List.erase_cons]
    by_cases q : n = e
    · subst q; simp [costN_cons]
    · have q2 : (n == e) = false := by simpa using q
      have h2 : e ∈ s := by
        rcases List.mem_cons.mp h with r | r
        · exact absurd r.symm q
        · exact r
      rw [q2]
      simp only [Bool.false_eq_true, if_false]
      rw [costN_cons, costN_cons, costN_erase h2]
      omega
theorem costN_split (ts : List Tie) (c : Nat → Bool) : ∀ s : List Nat, costN ts (s.filter c) + costN ts (s.filter fun n => !c n) = costN ts s
  | [] => rfl
  | n :: s => by
    have ih := costN_split ts c s
    rw [List.filter_cons, List.filter_cons, costN_cons]
    cases h : c n
    · simp only [Bool.false_eq_true, if_false, Bool.not_false, if_true, costN_cons]; omega
    · simp only [if_true, Bool.not_true, Bool.false_eq_true, if_false, costN_cons]; omega
/-- a row made rising, each number once -/
def norm (N : Nat) (s : List Nat) : List Nat := (List.range N).filter fun k => decide (k ∈ s)
theorem norm_up (N : Nat) (s : List Nat) : (norm N s).Pairwise (· < ·) := List.pairwise_lt_range.filter _
theorem norm_mem {N : Nat} {s : List Nat} (h : ∀ n ∈ s, n < N) {k : Nat} : k ∈ norm N s ↔ k ∈ s := by
  unfold norm
  rw [List.mem_filter, List.mem_range, decide_eq_true_eq]
  exact ⟨fun q => q.2, fun q => ⟨h k q, q⟩⟩
theorem norm_lt {N : Nat} {s : List Nat} {k : Nat} (h : k ∈ norm N s) : k < N := List.mem_range.mp (List.mem_filter.mp h).1
theorem sum_one {a N : Nat} (f : Nat → Nat) : a < N → ((List.range N).map fun k => if k = a then f a else 0).sum = f a := by
  induction N with
  | zero => intro h; omega
  | succ N ih =>
    intro h
    rw [List.range_succ, List.map_append, List.sum_append]
    by_cases q : a = N
    · subst q
      have z : ((List.range a).map fun k => if k = a then f a else 0) = (List.range a).map fun _ => 0 :=
        List.map_congr_left fun k hk => if_neg (by have := List.mem_range.mp hk; omega)
      have z2 : ∀ l : List Nat, (l.map fun _ => 0).sum = 0 := fun l => by induction l with
        | nil => rfl
        | cons x r ih => rw [List.map_cons, List.sum_cons, ih]
      rw [z, z2]
      simp
    · rw [ih (by omega)]
      simp [show ¬ N = a from fun e => q e.symm]
theorem norm_cost {ts : List Tie} {N : Nat} : ∀ {s : List Nat}, (∀ n ∈ s, n < N) → costN ts (norm N s) ≤ costN ts s
  | [], _ => by
    have e : norm N [] = [] := List.filter_eq_nil_iff.mpr fun k _ => by simp
    rw [e]
    exact Nat.le_refl _
  | a :: s, h => by
    have ih := norm_cost (ts := ts) (N := N) (s := s) fun n hn => h n (List.mem_cons_of_mem _ hn)
    have ha := h a List.mem_cons_self
    rw [costN_cons]
    unfold norm costN at *
    rw [sum_filter] at ih ⊢
    have e := sum_one (a := a) (N := N) (fun n => (tieAt ts n).2.2) ha
    have key : ((List.range N).map fun k => if decide (k ∈ a :: s) = true then (tieAt ts k).2.2 else 0).sum ≤ ((List.range N).map fun k => (if k = a then (tieAt ts a).2.2 else 0) + if decide (k ∈ s) = true then (tieAt ts k).2.2 else 0).sum := by
      refine sum_le fun k _ => ?_
      by_cases q : k = a
      · subst q; simp
      · by_cases r : k ∈ s
        · simp [q, r]
        · simp [q, r]
    rw [← sum_add] at key
    unfold price
    omega
/-! ### the least -/
open Classical in
noncomputable def lcF (ts : List Tie) (ends s : List Nat) : Option Nat := if Joins ts s ends then some (costN ts s) else none
noncomputable def lc (ts : List Tie) (ends : List Nat) : Option Nat := leastF (lcF ts ends) (subs ts.length)
theorem lcF_some {ts : List Tie} {ends s : List Nat} {c : Nat} (h : lcF ts ends s = some c) : Joins ts s ends ∧ costN ts s = c := by
  unfold lcF at h
  split at h
  · rename_i j; cases h; exact ⟨j, rfl⟩
  · cases h
theorem lcF_of {ts : List Tie} {ends s : List Nat} (h : Joins ts s ends) : lcF ts ends s = some (costN ts s) := if_pos h
theorem lc_le {ts : List Tie} {ends s : List Nat} (hs : ∀ n ∈ s, n < ts.length) (j : Joins ts s ends) : Le (lc ts ends) (costN ts s) := by
  have j2 : Joins ts (norm ts.length s) ends := j.mono fun n hn => (norm_mem hs).mpr hn
  have m2 : norm ts.length s ∈ subs ts.length := subs_mem (norm_up _ _) fun n hn => norm_lt hn
  cases q : lc ts ends with
  | none =>
    have := leastF_none q _ m2
    rw [lcF_of j2] at this
    cases this
  | some c =>
    have := (leastF_some q).2 _ m2 _ (lcF_of j2)
    exact ⟨c, rfl, Nat.le_trans this (norm_cost hs)⟩
theorem lc_met {ts : List Tie} {ends : List Nat} {c : Nat} (e : lc ts ends = some c) : ∃ s : List Nat, s.Pairwise (· < ·) ∧ (∀ n ∈ s, n < ts.length) ∧ Joins ts s ends ∧ costN ts s = c := by
  obtain ⟨⟨s, hs, e1⟩, _⟩ := leastF_some e
  obtain ⟨h1, h2⟩ := subs_up hs
  obtain ⟨h3, h4⟩ := lcF_some e1
  exact ⟨s, h1, h2, h3, h4⟩
theorem Le.some {x : Option Nat} {b : Nat} (h : Le x b) : ∃ a, x = .some a ∧ a ≤ b := h
theorem le_of_le {x : Option Nat} {a b : Nat} (h : Le x b) (e : x = some a) : a ≤ b := by
  obtain ⟨c, e2, l⟩ := h
  rw [e] at e2
  cases e2
  exact l
/-- no more than another -/
def LeO (x y : Option Nat) : Prop := ∀ c, y = some c → Le x c
theorem LeO.eq {x y : Option Nat} (h : LeO x y) (k : LeO y x) : x = y := by
  cases x with
  | none =>
    cases y with
    | none => rfl
    | some b => obtain ⟨a, e, _⟩ := h b rfl; cases e
  | some a =>
    obtain ⟨b, e, l⟩ := k a rfl
    obtain ⟨a', e2, l2⟩ := h b e
    cases e2
    rw [e]
    congr 1
    omega
theorem lc_leO {ts : List Tie} {ends : List Nat} {x : Option Nat} (h : ∀ c, x = some c → ∃ s : List Nat, (∀ n ∈ s, n < ts.length) ∧ Joins ts s ends ∧ costN ts s ≤ c) : LeO (lc ts ends) x := fun c e => by
  obtain ⟨s, h1, h2, h3⟩ := h c e
  exact (lc_le h1 h2).mono h3
theorem leO_lc {ts : List Tie} {ends : List Nat} {x : Option Nat} (h : ∀ s : List Nat, (∀ n ∈ s, n < ts.length) → Joins ts s ends → Le x (costN ts s)) : LeO x (lc ts ends) := fun c e => by
  obtain ⟨s, h1, h2, h3, h4⟩ := lc_met e
  exact h4 ▸ h s h2 h3
theorem lc_congr {ts : List Tie} {e f : List Nat} (h : ∀ x, x ∈ e ↔ x ∈ f) : lc ts e = lc ts f := by
  have : lcF ts e = lcF ts f := by
    funext s
    unfold lcF
    have : Joins ts s e ↔ Joins ts s f := ⟨fun j x hx y hy => j x ((h x).mpr hx) y ((h y).mpr hy), fun j x hx y hy => j x ((h x).mp hx) y ((h y).mp hy)⟩
    by_cases q : Joins ts s e
    · rw [if_pos q, if_pos (this.mp q)]
    · rw [if_neg q, if_neg fun z => q (this.mpr z)]
  unfold lc
  rw [this]
theorem leastF_congr {f g : List Nat → Option Nat} : ∀ {l : List (List Nat)} {b : Option Nat}, (∀ s ∈ l, f s = g s) → l.foldl (lstep f) b = l.foldl (lstep g) b
  | [], _, _ => rfl
  | s :: l, b, h => by
    have e : lstep f b s = lstep g b s := by unfold lstep; rw [h s List.mem_cons_self]
    rw [List.foldl_cons, List.foldl_cons, e]
    exact leastF_congr fun t ht => h t (List.mem_cons_of_mem _ ht)
theorem lc_web {m : Nat} {ts : List Tie} (hw : InW m ts) {ends : List Nat} (he : ∀ x ∈ ends, x < m) : leastN m ts ends = lc ts ends := by
  refine leastF_congr fun s hs => ?_
  have := joinB_iff hw (subs_up hs).2 he
  unfold jcost lcF
  by_cases q : Joins ts s ends
  · rw [if_pos q, if_pos (this.mpr q)]
  · rw [if_neg q, if_neg fun z => q (this.mp z)]
/-- one place and others -/
theorem joins_cons {ts : List Tie} {s l : List Nat} {p : Nat} : Joins ts s (p :: l) ↔ ∀ x ∈ l, Con ts s p x := by
  constructor
  · exact fun j x hx => j p List.mem_cons_self x (List.mem_cons_of_mem _ hx)
  · intro h
    have h2 : ∀ x ∈ p :: l, Con ts s p x := fun x hx => by
      rcases List.mem_cons.mp hx with rfl | hx
      · exact .refl _
      · exact h x hx
    exact fun x hx y hy => (h2 x hx).symm.trans (h2 y hy)
/-! ### ties parted -/
theorem con_alone {ts : List Tie} {s : List Nat} {p : Nat} (h : ∀ n ∈ s, (tieAt ts n).1 ≠ p ∧ (tieAt ts n).2.1 ≠ p) {x y : Nat} (c : Con ts s x y) : x = p ↔ y = p := by
  induction c with
  | refl x => exact Iff.rfl
  | tie hn => exact ⟨fun e => absurd e (h _ hn).1, fun e => absurd e (h _ hn).2⟩
  | symm _ ih => exact ih.symm
  | trans _ _ i1 i2 => exact i1.trans i2
open Classical in
noncomputable def near (ts : List Tie) (s : List Nat) (p n : Nat) : Bool := decide (Con ts s p (tieAt ts n).1)
open Classical in
theorem near_t {ts : List Tie} {s : List Nat} {p n : Nat} (h : Con ts s p (tieAt ts n).1) : near ts s p n = true := decide_eq_true h
open Classical in
theorem near_f {ts : List Tie} {s : List Nat} {p n : Nat} (h : ¬ Con ts s p (tieAt ts n).1) : near ts s p n = false := decide_eq_false h
theorem con_in {ts : List Tie} {s : List Nat} {p x y : Nat} (c : Con ts s x y) : Con ts s p x → Con ts (s.filter (near ts s p)) x y := by
  induction c with
  | refl x => exact fun _ => .refl x
  | tie hn => exact fun h => .tie (List.mem_filter.mpr ⟨hn, near_t h⟩)
  | symm c ih => exact fun h => (ih (h.trans c.symm)).symm
  | trans c1 _ i1 i2 => exact fun h => (i1 h).trans (i2 (h.trans c1))
theorem con_out {ts : List Tie} {s : List Nat} {p x y : Nat} (c : Con ts s x y) : ¬ Con ts s p x → Con ts (s.filter fun n => !near ts s p n) x y := by
  induction c with
  | refl x => exact fun _ => .refl x
  | @tie n hn =>
    intro h
    have : near ts s p n = false := near_f h
    exact .tie (List.mem_filter.mpr ⟨hn, by rw [this]; rfl⟩)
  | symm c ih => exact fun h => (ih fun q => h (q.trans c)).symm
  | trans c1 _ i1 i2 => exact fun h => (i1 h).trans (i2 fun q => h (q.trans c1.symm))
theorem con_erase {ts : List Tie} {s : List Nat} {e b p y : Nat} (ha : Adj ts e b p) (c : Con ts s p y) : Con ts (s.erase e) p y ∨ Con ts (s.erase e) b y := by
  have c2 : Con ts (s.erase e ++ [e]) p y := c.mono fun n hn => by
    by_cases q : n = e
    · simp [q]
    · exact List.mem_append_left _ ((List.mem_erase_of_ne q).mpr hn)
  have h := con_snoc c2
  rcases ha with ⟨a1, a2⟩ | ⟨a1, a2⟩ <;> rw [a1, a2] at h
  · rcases h with h | ⟨h1, h2⟩ | ⟨h1, h2⟩
    · exact .inl h
    · exact .inl h2
    · exact .inr h2
  · rcases h with h | ⟨h1, h2⟩ | ⟨h1, h2⟩
    · exact .inl h
    · exact .inr h2
    · exact .inl h2
/-! ### masks -/
theorem sub_bit {h g : Nat} (e : h &&& g = h) (i : Nat) (q : h.testBit i = true) : g.testBit i = true := by
  rw [← e, Nat.testBit_and, Bool.and_eq_true] at q
  exact q.2
theorem sub_le {h g : Nat} (e : h &&& g = h) : h ≤ g := by rw [← e]; exact Nat.and_le_right
theorem sub_half {h g : Nat} (e : h &&& g = h) : (h / 2) &&& (g / 2) = h / 2 := by
  apply Nat.eq_of_testBit_eq
  intro i
  rw [Nat.testBit_and, Nat.testBit_div_two, Nat.testBit_div_two]
  have := congrArg (fun z => Nat.testBit z (i + 1)) e
  simpa only [Nat.testBit_and] using this
theorem sub_odd {h g : Nat} (e : h &&& g = h) : h % 2 ≤ g % 2 := by
  have := sub_bit e 0
  rw [Nat.testBit_zero, Nat.testBit_zero, decide_eq_true_eq, decide_eq_true_eq] at this
  omega
theorem minus_bit : ∀ (i : Nat) {h g : Nat}, h &&& g = h → (g - h).testBit i = (g.testBit i && !h.testBit i)
  | 0, h, g, e => by
    have h1 := sub_odd e
    have h2 := sub_le e
    have h3 := sub_le (sub_half e)
    rw [Nat.testBit_zero, Nat.testBit_zero, Nat.testBit_zero, Bool.eq_iff_iff]
    simp only [Bool.and_eq_true, Bool.not_eq_true', decide_eq_true_eq, decide_eq_false_iff_not]
    omega
  | i + 1, h, g, e => by
    have h1 := sub_odd e
    have h3 := sub_le (sub_half e)
    have ih := minus_bit i (sub_half e)
    rw [← Nat.testBit_div_two, ← Nat.testBit_div_two, ← Nat.testBit_div_two, ← ih]
    congr 1
    omega
theorem mask_of (Q : Nat → Bool) : ∀ k : Nat, ∃ h, h < 2 ^ k ∧ ∀ i, h.testBit i = (decide (i < k) && Q i)
  | 0 => ⟨0, by decide, fun i => by simp⟩
  | k + 1 => by
    obtain ⟨h, h1, h2⟩ := mask_of Q k
    refine ⟨h ||| (if Q k then 2 ^ k else 0), Nat.or_lt_two_pow (Nat.lt_trans h1 (Nat.pow_lt_pow_right (by decide) (Nat.lt_succ_self k))) ?_, fun i => ?_⟩
    · split
      · exact Nat.pow_lt_pow_right (by decide) (Nat.lt_succ_self k)
      · exact Nat.two_pow_pos _
    · rw [Nat.testBit_or, h2]
      by_cases q : i = k
      · subst q
        cases Q i
        · simp
        · simp [Nat.testBit_two_pow_self]
      · have e : (if Q k = true then 2 ^ k else 0).testBit i = false := by
          split
          · exact Nat.testBit_two_pow_of_ne (fun z => q z.symm)
          · exact Nat.zero_testBit i
        rw [e, Bool.or_false]
        congr 1
        rw [Bool.eq_iff_iff, decide_eq_true_eq, decide_eq_true_eq]
        omega
theorem and_pow (n i : Nat) : n &&& 2 ^ i = if n.testBit i then 2 ^ i else 0 := by
  apply Nat.eq_of_testBit_eq
  intro j
  rw [Nat.testBit_and]
  by_cases q : j = i
  · subst q
    cases h : n.testBit j
    · simp
    · simp [Nat.testBit_two_pow_self]
  · have e : (2 ^ i).testBit j = false := Nat.testBit_two_pow_of_ne (fun z => q z.symm)
    rw [e, Bool.and_false]
    split
    · exact e.symm
    · simp
theorem pow_sub {h i : Nat} (e : h &&& 2 ^ i = h) : h = 0 ∨ h = 2 ^ i := by
  rw [and_pow] at e
  cases q : h.testBit i
  · rw [q] at e; left; exact e.symm
  · rw [q] at e; right; exact e.symm
theorem bit_of {g : Nat} (h : 0 < g) : ∃ i, g.testBit i = true := Nat.exists_testBit_of_ne_zero (by omega)
theorem bit_lt {g k i : Nat} (h : g < 2 ^ k) (b : g.testBit i = true) : i < k := by
  by_cases q : i < k
  · exact q
  · have := Nat.testBit_lt_two_pow (Nat.lt_of_lt_of_le h (Nat.pow_le_pow_right (by decide) (show k ≤ i by omega)))
    rw [this] at b
    cases b
/-! ### tables: the least costs of groups with places -/
def InG (ends : List Nat) (g x : Nat) : Prop := ∃ i, ends[i]? = some x ∧ g.testBit i = true
structure DW (m : Nat) (ts : List Tie) (ends : List Nat) (D T : Nat → Nat → Option Nat) : Prop where
  inw : InW m ts
  far : Far m ts D
  lts : ∀ x ∈ ends, x < m
  one : ∀ i x, ends[i]? = some x → ∀ p, p < m → T (2 ^ i) p = D x p
  le : ∀ g, g < 2 ^ ends.length → ∀ h, 0 < h → h < g → h &&& g = h → ∀ b p x y z, b < m → p < m → T h b = some x → T (g - h) b = some y → D b p = some z → Le (T g p) (x + y + z)
  met : ∀ g, 0 < g → g < 2 ^ ends.length → (∀ i, g ≠ 2 ^ i) → ∀ p c, p < m → T g p = some c → ∃ h b x y z, 0 < h ∧ h < g ∧ h &&& g = h ∧ b < m ∧ T h b = some x ∧ T (g - h) b = some y ∧ D b p = some z ∧ c = x + y + z
section
variable {m : Nat} {ts : List Tie} {ends : List Nat} {D T : Nat → Nat → Option Nat}
theorem pow_bit {i k : Nat} (h : 2 ^ i < 2 ^ k) : i < k := (Nat.pow_lt_pow_iff_right (by decide)).mp h
theorem DW.met1 (d : DW m ts ends D T) {i g : Nat} (e : g = 2 ^ i) (h : g < 2 ^ ends.length) : ∃ x, ends[i]? = some x ∧ x < m := by
  subst e
  have := pow_bit h
  exact ⟨ends[i], List.getElem?_eq_getElem this, d.lts _ (List.getElem_mem this)⟩
theorem DW.relax (d : DW m ts ends D T) {g b p n c : Nat} (h0 : 0 < g) (hg : g < 2 ^ ends.length) (hn : n < ts.length) (ha : Adj ts n b p) (hb : b < m) (hp : p < m) (e : T g b = some c) : Le (T g p) (c + price ts n) := by
  by_cases q : ∃ i, g = 2 ^ i
  · obtain ⟨i, rfl⟩ := q
    obtain ⟨x, e1, e2⟩ := d.met1 rfl hg
    rw [d.one i x e1 b hb] at e
    rw [d.one i x e1 p hp]
    exact d.far.rel x n b p c e2 hn ha e
  · obtain ⟨h, b', x, y, z, h1, h2, h3, h4, h5, h6, h7, rfl⟩ := d.met g h0 hg (fun i z => q ⟨i, z⟩) b c hb e
    obtain ⟨z', e1, l1⟩ := d.far.rel b' n b p z h4 hn ha h7
    exact (d.le g hg h h1 h2 h3 b' p x y z' h4 hp h5 h6 e1).mono (by omega)
theorem in_sub {h g : Nat} (e : h &&& g = h) {x : Nat} (q : InG ends h x) : InG ends g x := let ⟨i, a, b⟩ := q; ⟨i, a, sub_bit e i b⟩
theorem minus_sub {h g : Nat} (e : h &&& g = h) : (g - h) &&& g = g - h := by
  apply Nat.eq_of_testBit_eq
  intro i
  rw [Nat.testBit_and, minus_bit i e]
  cases g.testBit i <;> simp
theorem DW.here (d : DW m ts ends D T) {p : Nat} (hp : p < m) (g : Nat) : 0 < g → g < 2 ^ ends.length → (∀ x, InG ends g x → x = p) → Le (T g p) 0 := by
  induction g using Nat.strongRecOn with
  | ind g ih =>
    intro h0 hg hx
    by_cases q : ∃ i, g = 2 ^ i
    · obtain ⟨i, rfl⟩ := q
      obtain ⟨x, e1, e2⟩ := d.met1 rfl hg
      rw [d.one i x e1 p hp]
      have e := hx x ⟨i, e1, Nat.testBit_two_pow_self⟩
      subst e
      exact ⟨0, d.far.self x hp, Nat.le_refl _⟩
    · obtain ⟨i, hi⟩ := bit_of h0
      have e : 2 ^ i &&& g = 2 ^ i := by
        rw [Nat.and_comm, and_pow, hi]; rfl
      have l := sub_le e
      have l2 : 2 ^ i < g := Nat.lt_of_le_of_ne l fun z => q ⟨i, z.symm⟩
      have pos : 0 < 2 ^ i := Nat.two_pow_pos i
      obtain ⟨x, ex, lx⟩ := ih (2 ^ i) l2 pos (by omega) fun x h => hx x (in_sub e h)
      obtain ⟨y, ey, ly⟩ := ih (g - 2 ^ i) (by omega) (by omega) (by omega) fun x h => hx x (in_sub (minus_sub e) h)
      exact (d.le g hg (2 ^ i) pos l2 e p p x y 0 hp hp ex ey (d.far.self p hp)).mono (by omega)
theorem adj_of {s : List Nat} {p : Nat} (h : ¬ ∀ n ∈ s, (tieAt ts n).1 ≠ p ∧ (tieAt ts n).2.1 ≠ p) : ∃ n b, n ∈ s ∧ Adj ts n b p := by
  apply Classical.byContradiction
  intro q
  apply h
  intro n hn
  exact ⟨fun e => q ⟨n, (tieAt ts n).2.1, hn, .inr ⟨e, rfl⟩⟩, fun e => q ⟨n, (tieAt ts n).1, hn, .inl ⟨rfl, e⟩⟩⟩
theorem DW.low (d : DW m ts ends D T) : ∀ (N : Nat) (s : List Nat), s.length ≤ N → (∀ n ∈ s, n < ts.length) → ∀ g p, 0 < g → g < 2 ^ ends.length → p < m → (∀ x, InG ends g x → Con ts s p x) → Le (T g p) (costN ts s) := by
  intro N
  induction N with
  | zero =>
    intro s hl hs g p h0 hg hp hx
    have e : s = [] := List.eq_nil_of_length_eq_zero (by omega)
    subst e
    exact d.here hp g h0 hg fun x h => (con_nil (hx x h)).symm
  | succ N ih =>
    intro s hl hs g p h0 hg hp hx
    by_cases q : ∀ n ∈ s, (tieAt ts n).1 ≠ p ∧ (tieAt ts n).2.1 ≠ p
    · exact (d.here hp g h0 hg fun x h => (con_alone q (hx x h)).mp rfl).mono (Nat.zero_le _)
    · obtain ⟨e, b, he, ha⟩ := adj_of q
      have hen := hs e he
      have hb : b < m := by
        obtain ⟨w1, w2⟩ := d.inw e hen
        rcases ha with ⟨a1, _⟩ | ⟨_, a2⟩
        · exact a1 ▸ w1
        · exact a2 ▸ w2
      have hc := costN_erase (ts := ts) he
      have hl' : (s.erase e).length ≤ N := by rw [List.length_erase_of_mem he]; omega
      have hs' : ∀ n ∈ s.erase e, n < ts.length := fun n hn => hs n (List.mem_of_mem_erase hn)
      have hx' := fun x h => con_erase ha (hx x h)
      generalize s.erase e = s' at hc hl' hs' hx'
      obtain ⟨h, hh1, hh2⟩ := mask_of (fun i => g.testBit i && (match ends[i]? with | some x => @decide (¬ Con ts s' p x) (Classical.propDecidable _) | none => false)) ends.length
      have hsub : h &&& g = h := by
        apply Nat.eq_of_testBit_eq
        intro i
        rw [Nat.testBit_and, hh2]
        cases g.testBit i <;> simp
      have inh : ∀ x, InG ends h x → InG ends g x ∧ ¬ Con ts s' p x ∧ Con ts s' b x := by
        rintro x ⟨i, e1, e2⟩
        rw [hh2, e1] at e2
        simp only [Bool.and_eq_true, decide_eq_true_eq] at e2
        have hg : InG ends g x := ⟨i, e1, e2.2.1⟩
        refine ⟨hg, e2.2.2, ?_⟩
        rcases hx' x hg with r | r
        · exact absurd r e2.2.2
        · exact r
      have outh : ∀ x, InG ends (g - h) x → Con ts s' p x := by
        rintro x ⟨i, e1, e2⟩
        rw [minus_bit i hsub, Bool.and_eq_true, Bool.not_eq_true'] at e2
        have hi := (List.getElem?_eq_some_iff.mp e1).1
        have e3 := e2.2
        rw [hh2, e1, e2.1] at e3
        simp only [hi, decide_true, Bool.true_and, decide_eq_false_iff_not, Classical.not_not] at e3
        exact e3
      by_cases hz : h = 0
      · subst hz
        exact (ih s' hl' hs' g p h0 hg hp (by simpa using outh)).mono (by omega)
      · by_cases hgg : h = g
        · subst hgg
          obtain ⟨c, ec, lc⟩ := ih s' hl' hs' h b h0 hg hb fun x q => (inh x q).2.2
          exact (d.relax h0 hg hen ha hb hp ec).mono (by omega)
        · have hlt : h < g := Nat.lt_of_le_of_ne (sub_le hsub) hgg
          have nb : ¬ Con ts s' p b := by
            obtain ⟨i, hi⟩ := bit_of (Nat.pos_of_ne_zero hz)
            have hi2 := bit_lt hh1 hi
            obtain ⟨_, k2, k3⟩ := inh ends[i] ⟨i, List.getElem?_eq_getElem hi2, hi⟩
            exact fun z => k2 (z.trans k3)
          have sp := costN_split ts (near ts s' p) s'
          obtain ⟨x, ex, lx⟩ := ih (s'.filter fun n => !near ts s' p n) (Nat.le_trans (List.length_filter_le _ _) hl') (fun n hn => hs' n (List.mem_filter.mp hn).1) h b (by omega) hh1 hb fun x q => con_out (inh x q).2.2 nb
          obtain ⟨y, ey, ly⟩ := ih (s'.filter (near ts s' p)) (Nat.le_trans (List.length_filter_le _ _) hl') (fun n hn => hs' n (List.mem_filter.mp hn).1) (g - h) p (by omega) (by omega) hp fun x q => con_in (outh x q) (.refl _)
          obtain ⟨x', ex', lx'⟩ := d.relax (by omega) hh1 hen ha hb hp ex
          exact (d.le g hg h (by omega) hlt hsub p p x' y 0 hp hp ex' ey (d.far.self p hp)).mono (by omega)
theorem DW.high (d : DW m ts ends D T) (g : Nat) : 0 < g → g < 2 ^ ends.length → ∀ p c, p < m → T g p = some c → ∃ s : List Nat, (∀ n ∈ s, n < ts.length) ∧ (∀ x, InG ends g x → Con ts s p x) ∧ costN ts s = c := by
  induction g using Nat.strongRecOn with
  | ind g ih =>
    intro h0 hg p c hp e
    by_cases q : ∃ i, g = 2 ^ i
    · obtain ⟨i, rfl⟩ := q
      obtain ⟨x, e1, e2⟩ := d.met1 rfl hg
      rw [d.one i x e1 p hp] at e
      obtain ⟨_, k, w⟩ := d.far.met x p c e2 e
      obtain ⟨s, h1, h2, h3⟩ := w.con
      refine ⟨s, h1, ?_, h3⟩
      rintro y ⟨j, j1, j2⟩
      have : j = i := by
        apply Classical.byContradiction
        intro z
        rw [Nat.testBit_two_pow_of_ne (fun e => z e.symm)] at j2
        cases j2
      subst this
      rw [e1] at j1
      cases j1
      exact h2.symm
    · obtain ⟨h, b, x, y, z, h1, h2, h3, h4, h5, h6, h7, rfl⟩ := d.met g h0 hg (fun i z => q ⟨i, z⟩) p c hp e
      obtain ⟨s1, a1, a2, a3⟩ := ih h h2 h1 (by omega) b x h4 h5
      obtain ⟨s2, b1, b2, b3⟩ := ih (g - h) (by omega) (by omega) (by omega) b y h4 h6
      obtain ⟨_, k, w⟩ := d.far.met b p z h4 h7
      obtain ⟨s3, c1, c2, c3⟩ := w.con
      refine ⟨s1 ++ (s2 ++ s3), fun n hn => ?_, ?_, ?_⟩
      · rcases List.mem_append.mp hn with hn | hn
        · exact a1 n hn
        · rcases List.mem_append.mp hn with hn | hn
          · exact b1 n hn
          · exact c1 n hn
      · rintro v ⟨i, i1, i2⟩
        have cp : Con ts (s1 ++ (s2 ++ s3)) p b := (c2.mono fun n hn => by simp [hn]).symm
        refine cp.trans ?_
        cases r : h.testBit i
        · exact (b2 v ⟨i, i1, by rw [minus_bit i h3, i2, r]; rfl⟩).mono fun n hn => by simp [hn]
        · exact (a2 v ⟨i, i1, r⟩).mono fun n hn => by simp [hn]
      · rw [costN_app, costN_app, a3, b3]
        have : costN ts s3 = z := c3
        omega
/-- the table's numbers -/
theorem DW.lc (d : DW m ts ends D T) {g p : Nat} (h0 : 0 < g) (hg : g < 2 ^ ends.length) (hp : p < m) {l : List Nat} (hl : ∀ x, x ∈ l ↔ InG ends g x ∨ x = p) : T g p = lc ts l := by
  refine LeO.eq (leO_lc fun s hs j => ?_) (lc_leO fun c e => ?_)
  · exact d.low _ s (Nat.le_refl _) hs g p h0 hg hp fun x hx => j p ((hl p).mpr (.inr rfl)) x ((hl x).mpr (.inl hx))
  · obtain ⟨s, h1, h2, h3⟩ := d.high g h0 hg p c hp e
    refine ⟨s, h1, ?_, Nat.le_of_eq h3⟩
    have h4 : ∀ x ∈ l, Con ts s p x := fun x hx => by
      rcases (hl x).mp hx with r | rfl
      · exact h2 x r
      · exact .refl _
    exact fun x hx y hy => (h4 x hx).symm.trans (h4 y hy)
end
end J

set_option Elab.async false
set_option linter.all false
/-! statement by statement -/
namespace J
open PySem PV
theorem bnx {Φ : Tab} {wf : Nat} {s r : MS} {ρ ρ' : Rho} (h : evS Φ wf s ρ = ok (.nx ρ')) : evB Φ wf (.seq s r) ρ = evB Φ wf r ρ' := by
  simp only [evB, h, mb_ok]
theorem brt {Φ : Tab} {wf : Nat} {s r : MS} {ρ : Rho} {d : D} (h : evS Φ wf s ρ = ok (.rt d)) : evB Φ wf (.seq s r) ρ = ok (.rt d) := by
  simp only [evB, h, mb_ok]
theorem ber {Φ : Tab} {wf : Nat} {s r : MS} {ρ : Rho} {c : Str} (h : evS Φ wf s ρ = er c) : evB Φ wf (.seq s r) ρ = er c := by
  simp only [evB, h, mb_er]
theorem rrt {md : MD} {Φ : Tab} {wf : Nat} {args : List D} {d : D} (hl : args.length = md.np) (h : evB Φ wf md.body (args.map Sl.va ++ List.replicate (md.nn - md.np) Sl.no) = ok (.rt d)) : runD md Φ wf args = ok d := by
  unfold runD
  rw [if_pos hl, h]
  rfl
theorem rer {md : MD} {Φ : Tab} {wf : Nat} {args : List D} {c : Str} (hl : args.length = md.np) (h : evB Φ wf md.body (args.map Sl.va ++ List.replicate (md.nn - md.np) Sl.no) = er c) : runD md Φ wf args = er c := by
  unfold runD
  rw [if_pos hl, h]
  rfl
theorem beqn (n : Nat) : (n == n) = true := by simp
end J

set_option Elab.async false
set_option linter.all false
set_option maxRecDepth 100000
set_option maxHeartbeats 4000000
/-! tables read: parted_row, spread, table, least_cost -/
namespace J
open PySem PV
/-! ### the least of some -/
theorem lesr_none (x : Option Nat) : lesr x none = x := by cases x <;> rfl
theorem lesr_le1 {x y : Option Nat} {c : Nat} (h : Le x c) : Le (lesr x y) c := by
  obtain ⟨a, rfl, l⟩ := h
  cases y with
  | none => exact ⟨a, rfl, l⟩
  | some b =>
    unfold lesr
    dsimp only
    split
    · exact ⟨b, rfl, by omega⟩
    · exact ⟨a, rfl, l⟩
theorem lesr_le2 {x y : Option Nat} {c : Nat} (h : Le y c) : Le (lesr x y) c := by
  obtain ⟨b, rfl, l⟩ := h
  cases x with
  | none => exact ⟨b, rfl, l⟩
  | some a =>
    unfold lesr
    dsimp only
    split
    · exact ⟨b, rfl, l⟩
    · exact ⟨a, rfl, by omega⟩
theorem lesr_met {x y : Option Nat} {c : Nat} (h : lesr x y = some c) : x = some c ∨ y = some c := by
  cases x with
  | none => exact .inr h
  | some a =>
    cases y with
    | none => exact .inl h
    | some b =>
      unfold lesr at h
      dsimp only at h
      split at h
      · exact .inr h
      · exact .inl h
def lfold {α : Type} (f : α → Option Nat) (l : List α) (b : Option Nat) : Option Nat := l.foldl (fun b x => lesr b (f x)) b
theorem lfold_le0 {α : Type} {f : α → Option Nat} {c : Nat} : ∀ {l : List α} {b : Option Nat}, Le b c → Le (lfold f l b) c
  | [], _, h => h
  | x :: l, b, h => lfold_le0 (l := l) (lesr_le1 h)
theorem lfold_le {α : Type} {f : α → Option Nat} {c : Nat} : ∀ {l : List α} {b : Option Nat} {x : α}, x ∈ l → f x = some c → Le (lfold f l b) c
  | y :: l, b, x, hx, e => by
    rcases List.mem_cons.mp hx with rfl | hx
    · exact lfold_le0 (l := l) (lesr_le2 ⟨c, e, Nat.le_refl _⟩)
    · exact lfold_le (l := l) hx e
theorem lfold_met {α : Type} {f : α → Option Nat} {c : Nat} : ∀ {l : List α} {b : Option Nat}, lfold f l b = some c → b = some c ∨ ∃ x ∈ l, f x = some c
  | [], _, h => .inl h
  | y :: l, b, h => by
    rcases lfold_met (l := l) h with h | ⟨x, hx, e⟩
    · rcases lesr_met h with h | h
      · exact .inl h
      · exact .inr ⟨y, List.mem_cons_self, h⟩
    · exact .inr ⟨x, List.mem_cons_of_mem _ hx, e⟩
theorem bth_some {x y : Option Nat} {c : Nat} (h : bth x y = some c) : ∃ a b, x = some a ∧ y = some b ∧ c = a + b := by
  cases x with
  | none => cases h
  | some a =>
    cases y with
    | none => cases h
    | some b => cases h; exact ⟨a, b, rfl, rfl, rfl⟩
/-! ### the mirrors -/
def rowAt (rows : List Row) (g : Nat) : Row := rows.getD g []
def partF (rows : List Row) (g p h : Nat) : Option Nat := if h &&& g = h then bth (at_ (rowAt rows h) p) (at_ (rowAt rows (g - h)) p) else none
def below (g : Nat) : List Nat := (List.range (g - 1)).map fun i => 1 + i
theorem mem_below {g h : Nat} : h ∈ below g ↔ 0 < h ∧ h < g := by
  unfold below
  rw [List.mem_map]
  constructor
  · rintro ⟨i, hi, rfl⟩
    have := List.mem_range.mp hi
    omega
  · intro q
    exact ⟨h - 1, List.mem_range.mpr (by omega), by omega⟩
def parted (rows : List Row) (g m : Nat) : Row := (List.range m).map fun p => lfold (partF rows g p) (below g) none
def spr (far : List Row) (row : Row) : Row := (List.range row.length).map fun p => lfold (fun o => bth (at_ row o) (at_ (rowAt far o) p)) (List.range row.length) none
theorem at_map {m : Nat} {f : Nat → Option Nat} {p : Nat} (h : p < m) : at_ ((List.range m).map f) p = f p := by
  unfold at_
  rw [List.getElem?_map, List.getElem?_range h]
  rfl
theorem at_out {f : Row} {p : Nat} (h : f.length ≤ p) : at_ f p = none := by
  unfold at_
  rw [List.getElem?_eq_none h]
  rfl
def rwL (r : Row) : D := .lst (rowD r)
def rwsD (rows : List Row) : List D := rows.map rwL
theorem rowAt_eq {rows : List Row} {g : Nat} (h : g < rows.length) : rowAt rows g = rows[g] := by
  unfold rowAt; rw [List.getD_eq_getElem?_getD, List.getElem?_eq_getElem h]; rfl
theorem ix_rws {rows : List Row} {g : Nat} (h : g < rows.length) : ixD (.lst (rwsD rows)) (nD g) = some (rwL (rowAt rows g)) := by
  rw [ix_lst (by simpa [rwsD] using h), rowAt_eq h]
  simp [rwsD]
theorem ix_rwL {r : Row} {a : Nat} (h : a < r.length) : ixD (rwL r) (nD a) = some (optD (at_ r a)) := ix_row h
/-- part by place -/
theorem map_set {m j : Nat} {F G : Nat → Option Nat} (hj : j < m) : ((List.range m).map fun p => if p < j then G p else F p).set j (G j) = (List.range m).map fun p => if p < j + 1 then G p else F p := by
  apply List.ext_getElem?
  intro i
  by_cases hi : i = j
  · subst hi
    rw [List.getElem?_set_self (by simpa using hj), List.getElem?_map, List.getElem?_range hj]
    simp
  · rw [List.getElem?_set_ne (fun e => hi e.symm), List.getElem?_map, List.getElem?_map]
    by_cases h : i < m
    · rw [List.getElem?_range h]
      simp only [Option.map_some]
      congr 1
      by_cases q : i < j
      · rw [if_pos q, if_pos (by omega)]
      · rw [if_neg q, if_neg (by omega)]
    · rw [List.getElem?_eq_none (by simpa using h)]
      rfl
theorem band_n (a b : Nat) : bop .band (nD a) (nD b) = some (nD (a &&& b), .sh) := by
  simp only [bop, nD]
  congr 2
theorem flat_row (r : Row) : (rowD r).all D.flat = true := by
  unfold rowD
  rw [List.all_map, List.all_eq_true]
  intro x _
  cases x <;> rfl
/-- all rows have so many places -/
def RLen (m : Nat) (rows : List Row) : Prop := ∀ r ∈ rows, r.length = m
theorem RLen.at_ {m : Nat} {rows : List Row} (h : RLen m rows) {g : Nat} (hg : g < rows.length) : (rowAt rows g).length = m := by
  rw [rowAt_eq hg]; exact h _ (List.getElem_mem hg)
def SParted (φ : List D → M D) : Prop := ∀ (m g : Nat) (rows : List Row), m ≤ 100 → g ≤ 1000 → g ≤ rows.length → RLen m rows → φ [.lst (rwsD rows), nD g, nD m] = ok (rwL (parted rows g m))
def SSpread (φ : List D → M D) : Prop := ∀ (m : Nat) (far : List Row) (row : Row), m ≤ 100 → far.length = m → RLen m far → row.length = m → φ [.lst (rwsD far), rwL row] = ok (rwL (spr far row))
/-! ### the rows of a table -/
def fars (m : Nat) (ts : List Tie) : List Row := (List.range m).map fun u => allFar m ts u
structure RowsOk (m : Nat) (ts : List Tie) (ends : List Nat) (rows : List Row) : Prop where
  len : RLen m rows
  zero : 0 < rows.length → rowAt rows 0 = List.replicate m (some 0)
  one : ∀ i x, ends[i]? = some x → 2 ^ i < rows.length → rowAt rows (2 ^ i) = allFar m ts x
  oth : ∀ g, g < rows.length → 0 < g → (∀ i, g ≠ 2 ^ i) → rowAt rows g = spr (fars m ts) (parted rows g m)
theorem rowAt_app {rows : List Row} {r : Row} {g : Nat} (h : g < rows.length) : rowAt (rows ++ [r]) g = rowAt rows g := by
  rw [rowAt_eq h, rowAt_eq (by simp; omega), List.getElem_append_left h]
theorem rowAt_last (rows : List Row) (r : Row) : rowAt (rows ++ [r]) rows.length = r := by
  rw [rowAt_eq (by simp)]; simp
theorem lfold_congr {α : Type} {f g : α → Option Nat} : ∀ {l : List α} {b : Option Nat}, (∀ x ∈ l, f x = g x) → lfold f l b = lfold g l b
  | [], _, _ => rfl
  | x :: l, b, h => by
    show lfold f l (lesr b (f x)) = lfold g l (lesr b (g x))
    rw [h x List.mem_cons_self]
    exact lfold_congr fun y hy => h y (List.mem_cons_of_mem _ hy)
theorem parted_app {rows : List Row} {r : Row} {g m : Nat} (h : g ≤ rows.length) : parted (rows ++ [r]) g m = parted rows g m := by
  unfold parted
  refine List.map_congr_left fun p _ => lfold_congr fun k hk => ?_
  obtain ⟨k0, k1⟩ := mem_below.mp hk
  unfold partF
  rw [rowAt_app (by omega), rowAt_app (by omega)]
theorem allFar_len (m : Nat) (ts : List Tie) (u : Nat) : (allFar m ts u).length = m := by
  unfold allFar; rw [rounds_len]; simp [far0]
theorem parted_len (rows : List Row) (g m : Nat) : (parted rows g m).length = m := by simp [parted]
theorem spr_len (far : List Row) (row : Row) : (spr far row).length = row.length := by simp [spr]
theorem fars_len (m : Nat) (ts : List Tie) : (fars m ts).length = m := by simp [fars]
theorem fars_rl (m : Nat) (ts : List Tie) : RLen m (fars m ts) := fun r hr => by
  obtain ⟨u, _, rfl⟩ := List.mem_map.mp hr
  exact allFar_len m ts u
theorem fars_at {m : Nat} {ts : List Tie} {u : Nat} (h : u < m) : rowAt (fars m ts) u = allFar m ts u := by
  rw [rowAt_eq (by rw [fars_len]; exact h)]; simp [fars]
theorem pow_inj {i j : Nat} (h : 2 ^ i = 2 ^ j) : i = j := by
  have h1 : ¬ i < j := fun q => by
    have := (Nat.pow_lt_pow_iff_right (a := 2) (by decide)).mpr q
    omega
  have h2 : ¬ j < i := fun q => by
    have := (Nat.pow_lt_pow_iff_right (a := 2) (by decide)).mpr q
    omega
  omega
theorem RowsOk.snoc {m : Nat} {ts : List Tie} {ends : List Nat} {rows : List Row} {r : Row} (h : RowsOk m ts ends rows) (hl : r.length = m) (h0 : rows.length = 0 → r = List.replicate m (some 0))
    (h1 : ∀ i x, ends[i]? = some x → 2 ^ i = rows.length → r = allFar m ts x) (h2 : 0 < rows.length → (∀ i, rows.length ≠ 2 ^ i) → r = spr (fars m ts) (parted rows rows.length m)) : RowsOk m ts ends (rows ++ [r]) := by
  refine ⟨fun x hx => ?_, fun _ => ?_, fun i x e q => ?_, fun g hg g0 gn => ?_⟩
  · rcases List.mem_append.mp hx with hx | hx
    · exact h.len x hx
    · have e : x = r := by simpa using hx
      rw [e]; exact hl
  · by_cases q : rows.length = 0
    · have := rowAt_last rows r
      rw [q] at this
      rw [this]; exact h0 q
    · rw [rowAt_app (by omega)]; exact h.zero (by omega)
  · rw [List.length_append, List.length_singleton] at q
    by_cases z : 2 ^ i = rows.length
    · rw [z, rowAt_last]; exact h1 i x e z
    · rw [rowAt_app (by omega)]; exact h.one i x e (by omega)
  · rw [List.length_append, List.length_singleton] at hg
    by_cases z : g = rows.length
    · subst z
      rw [rowAt_last, parted_app (Nat.le_refl _)]; exact h2 g0 gn
    · rw [rowAt_app (by omega), parted_app (by omega)]; exact h.oth g (by omega) g0 gn
def rwT (r : Row) : D := .tup (rowD r)
def STable0 (φ : List D → M D) : Prop := ∀ (m : Nat) (ts : List Tie) (ends : List Nat), Web m ts → (∀ x ∈ ends, x < m) → ends.length ≤ 9 → ∃ rows : List Row, rows.length = 2 ^ ends.length ∧ RowsOk m ts ends rows ∧ φ [webD m ts, .tup (nsD ends)] = ok (.tup (rows.map rwT))
theorem rep_zero : ∀ k : Nat, (List.replicate k [D.int 0]).flatten = rowD (List.replicate k (some 0))
  | 0 => rfl
  | k + 1 => by
    rw [List.replicate_succ, List.flatten_cons, rep_zero k, List.replicate_succ]
    rfl
theorem rows_one (m : Nat) (ts : List Tie) (ends : List Nat) : RowsOk m ts ends [List.replicate m (some 0)] := by
  refine ⟨fun r hr => ?_, fun _ => rfl, fun i x _ z => ?_, fun g z z2 _ => ?_⟩
  · have e : r = List.replicate m (some 0) := by simpa using hr
    rw [e, List.length_replicate]
  · have := Nat.two_pow_pos i
    rw [List.length_singleton] at z
    omega
  · rw [List.length_singleton] at z
    omega
/-! ### what the rows hold -/
theorem dw_rows {m : Nat} {ts : List Tie} (W : Web m ts) {ends : List Nat} (he : ∀ x ∈ ends, x < m) {rows : List Row} (hl : rows.length = 2 ^ ends.length) (h : RowsOk m ts ends rows) :
    DW m ts ends (fun u p => at_ (allFar m ts u) p) (fun g p => at_ (rowAt rows g) p) := by
  have npow : ∀ {g h : Nat}, 0 < h → h < g → h &&& g = h → ∀ i, g ≠ 2 ^ i := fun {g h} h0 h1 h2 i z => by
    rw [z] at h2 h1
    rcases pow_sub h2 with q | q <;> omega
  have val : ∀ {g p : Nat}, g < rows.length → 0 < g → (∀ i, g ≠ 2 ^ i) → p < m → at_ (rowAt rows g) p = lfold (fun o => bth (at_ (parted rows g m) o) (at_ (allFar m ts o) p)) (List.range m) none := fun {g p} hg g0 gn hp => by
    rw [h.oth g hg g0 gn]
    unfold spr
    rw [parted_len, at_map hp]
    refine lfold_congr fun o ho => ?_
    rw [fars_at (List.mem_range.mp ho)]
  refine ⟨W.inw, allFar_far W.inw, he, fun i x e p hp => ?_, fun g hg k k0 k1 k2 b p x y z hb hp ex ey ez => ?_, fun g g0 hg gn p c hp e => ?_⟩
  · have hi := (List.getElem?_eq_some_iff.mp e).1
    show at_ (rowAt rows (2 ^ i)) p = _
    rw [h.one i x e (by rw [hl]; exact (Nat.pow_lt_pow_iff_right (by decide)).mpr hi)]
  · show Le (at_ (rowAt rows g) p) _
    rw [val (by omega) (by omega) (npow k0 k1 k2) hp]
    have e1 : Le (at_ (parted rows g m) b) (x + y) := by
      unfold parted
      rw [at_map hb]
      refine lfold_le (mem_below.mpr ⟨k0, k1⟩) ?_
      unfold partF
      rw [if_pos k2, show at_ (rowAt rows k) b = some x from ex, show at_ (rowAt rows (g - k)) b = some y from ey]
      rfl
    obtain ⟨a, ea, la⟩ := e1
    have e2 : Le (lfold (fun o => bth (at_ (parted rows g m) o) (at_ (allFar m ts o) p)) (List.range m) none) (a + z) := by
      refine lfold_le (List.mem_range.mpr hb) ?_
      rw [ea, show at_ (allFar m ts b) p = some z from ez]
      rfl
    exact e2.mono (by omega)
  · have e : at_ (rowAt rows g) p = some c := e
    rw [val (by omega) g0 gn hp] at e
    rcases lfold_met e with q | ⟨b, hb, q⟩
    · cases q
    · obtain ⟨a, z, q1, q2, rfl⟩ := bth_some q
      have hb := List.mem_range.mp hb
      unfold parted at q1
      rw [at_map hb] at q1
      rcases lfold_met q1 with r | ⟨k, hk, r⟩
      · cases r
      · obtain ⟨k0, k1⟩ := mem_below.mp hk
        unfold partF at r
        split at r
        · rename_i k2
          obtain ⟨x, y, r1, r2, rfl⟩ := bth_some r
          exact ⟨k, b, x, y, z, k0, k1, k2, hb, r1, r2, q2, rfl⟩
        · cases r
/-- a table: rows of least costs -/
structure TblOk (m : Nat) (ts : List Tie) (ends : List Nat) (rows : List Row) : Prop where
  len : rows.length = 2 ^ ends.length
  rl : RLen m rows
  zero : rowAt rows 0 = List.replicate m (some 0)
  lc : ∀ g p l, 0 < g → g < 2 ^ ends.length → p < m → (∀ x, x ∈ l ↔ InG ends g x ∨ x = p) → at_ (rowAt rows g) p = lc ts l
def STable (φ : List D → M D) : Prop := ∀ (m : Nat) (ts : List Tie) (ends : List Nat), Web m ts → (∀ x ∈ ends, x < m) → ends.length ≤ 9 → ∃ rows : List Row, TblOk m ts ends rows ∧ φ [webD m ts, .tup (nsD ends)] = ok (.tup (rows.map rwT))
theorem STable0.tbl {φ : List D → M D} (h : STable0 φ) : STable φ := by
  intro m ts ends W he hk
  obtain ⟨rows, h1, h2, h3⟩ := h m ts ends W he hk
  exact ⟨rows, ⟨h1, h2.len, h2.zero (by rw [h1]; exact Nat.two_pow_pos _), fun g p l g0 hg hp hl => (dw_rows W he h1 h2).lc g0 hg hp hl⟩, h3⟩
theorem in_all {ends : List Nat} {x : Nat} : InG ends (2 ^ ends.length - 1) x ↔ x ∈ ends := by
  constructor
  · rintro ⟨i, e, _⟩
    exact List.mem_of_getElem? e
  · intro h
    obtain ⟨i, hi, rfl⟩ := List.getElem_of_mem h
    exact ⟨i, List.getElem?_eq_getElem hi, by rw [Nat.testBit_two_pow_sub_one]; simpa using hi⟩
def SLc (φ : List D → M D) : Prop := ∀ (m : Nat) (ts : List Tie) (ends : List Nat), Web m ts → (∀ x ∈ ends, x < m) → ends.length ≤ 9 → ends ≠ [] → φ [webD m ts, .tup (nsD ends)] = ok (optD (lc ts ends))
theorem ix_rwT {r : Row} {a : Nat} (h : a < r.length) : ixD (rwT r) (nD a) = some (optD (at_ r a)) := by
  show ixD (.tup (rowD r)) (nD a) = _
  rw [ix_tup (by rw [rowD_len]; exact h)]
  simp [rowD, at_, h]
theorem ix_rwsT {rows : List Row} {g : Nat} (h : g < rows.length) : ixD (.tup (rows.map rwT)) (nD g) = some (rwT (rowAt rows g)) := by
  rw [ix_tup (by simpa using h), rowAt_eq h]
  simp
theorem ixN_last {l : Nat} (h : 0 < l) : L2.ixN l (-1) = some (l - 1) := by
  unfold L2.ixN
  rw [if_neg (by omega), if_pos (by omega)]
  congr 1
  omega
end J

set_option Elab.async false
set_option linter.all false
set_option maxRecDepth 100000
set_option maxHeartbeats 4000000
/-! numbers or None compared; least costs of groups together -/
namespace J
open PySem PV
theorem fine_opt (x : Option Nat) : (optD x).fine = true := by cases x <;> simp [optD, nD, D.fine, D.pln, D.dep]
theorem eqv_opt (x y : Option Nat) : D.eqv (optD x) (optD y) = decide (x = y) := by
  cases x with
  | none => cases y <;> simp [optD, nD, D.eqv]
  | some a =>
    cases y with
    | none => simp [optD, nD, D.eqv]
    | some b =>
      simp only [optD, nD, D.eqv]
      rw [Bool.eq_iff_iff]
      simp
      omega
theorem cop_eqo (x y : Option Nat) : cop .eq (optD x) (optD y) = some (decide (x = y)) := by
  simp only [cop, fine_opt, Bool.and_self, if_true, eqv_opt]
theorem cop_neo (x y : Option Nat) : cop .ne (optD x) (optD y) = some (!decide (x = y)) := by
  simp only [cop, fine_opt, Bool.and_self, if_true, eqv_opt]
theorem cop_isNo (x : Option Nat) : cop .isN (optD x) .non = some x.isNone := by cases x <;> rfl
theorem cop_notNo (x : Option Nat) : cop .notN (optD x) .non = some x.isSome := by cases x <;> rfl
theorem isb_opt (x : Option Nat) : isiD .bool (optD x) = some false := by cases x <;> rfl
theorem isb_n (x : Nat) : isiD .bool (nD x) = some false := rfl
theorem sortset_l (xs : List D) : uop .sortedset (.lst xs) = uop .sortedset (.tup xs) := rfl
theorem sortset_nsl {l : List Nat} (h : l.length < 64) : ∃ e : List Nat, e.Pairwise (· < ·) ∧ (∀ k, k ∈ e ↔ k ∈ l) ∧ uop .sortedset (.lst (nsD l)) = some (.lst (nsD e), .fr) := sortset_ns h
/-- two groups with a common place, together -/
theorem lc_both {ts : List Tie} {l1 l2 l : List Nat} {p a b : Nat} (h1 : p ∈ l1) (h2 : p ∈ l2) (hl : ∀ x ∈ l, x ∈ l1 ∨ x ∈ l2) (e1 : Le (lc ts l1) a) (e2 : Le (lc ts l2) b) : Le (lc ts l) (a + b) := by
  obtain ⟨a', f1, g1⟩ := e1
  obtain ⟨b', f2, g2⟩ := e2
  obtain ⟨s, _, s1, s2, s3⟩ := lc_met f1
  obtain ⟨t, _, t1, t2, t3⟩ := lc_met f2
  have m1 := s2.mono (t := s ++ t) fun n hn => List.mem_append_left _ hn
  have m2 := t2.mono (t := s ++ t) fun n hn => List.mem_append_right _ hn
  have key : ∀ x ∈ l, Con ts (s ++ t) p x := fun x hx => by
    rcases hl x hx with q | q
    · exact m1 p h1 x q
    · exact m2 p h2 x q
  refine (lc_le (s := s ++ t) (fun n hn => ?_) fun x hx y hy => (key x hx).symm.trans (key y hy)).mono ?_
  · rcases List.mem_append.mp hn with q | q
    · exact s1 n q
    · exact t1 n q
  · rw [costN_app]; omega
/-- fewer places cost no more -/
theorem lc_sub {ts : List Tie} {l l2 : List Nat} (h : ∀ x ∈ l, x ∈ l2) {b : Nat} (e : Le (lc ts l2) b) : Le (lc ts l) b := by
  obtain ⟨b', f2, g2⟩ := e
  obtain ⟨t, _, t1, t2, t3⟩ := lc_met f2
  exact (lc_le t1 fun x hx y hy => t2 x (h x hx) y (h y hy)).mono (by omega)
/-- one place costs nothing -/
theorem lc_one {ts : List Tie} {l : List Nat} {p : Nat} (h : ∀ x ∈ l, x = p) : lc ts l = some 0 := by
  have : Le (lc ts l) 0 := lc_le (s := []) (fun n h => (nomatch h)) fun x hx y hy => by rw [h x hx, h y hy]; exact .refl _
  obtain ⟨a, e, q⟩ := this
  rw [e]
  congr 1
  omega
/-! ### groups -/
def grpL (ends : List Nat) (g : Nat) : List Nat := ((List.range ends.length).filter fun i => g.testBit i).map fun i => ends.getD i 0
theorem mem_grpL {ends : List Nat} {g x : Nat} : x ∈ grpL ends g ↔ InG ends g x := by
  unfold grpL InG
  rw [List.mem_map]
  constructor
  · rintro ⟨i, hi, rfl⟩
    obtain ⟨h1, h2⟩ := List.mem_filter.mp hi
    have h1 := List.mem_range.mp h1
    exact ⟨i, by rw [List.getElem?_eq_getElem h1, List.getD_eq_getElem?_getD, List.getElem?_eq_getElem h1]; rfl, h2⟩
  · rintro ⟨i, h1, h2⟩
    have hi := (List.getElem?_eq_some_iff.mp h1).1
    exact ⟨i, List.mem_filter.mpr ⟨List.mem_range.mpr hi, h2⟩, by rw [List.getD_eq_getElem?_getD, h1]; rfl⟩
/-- the choice number g -/
theorem subs_at : ∀ (k g : Nat), g < 2 ^ k → ∃ s, (subs k)[g]? = some s ∧ ∀ i, i ∈ s ↔ g.testBit i = true
  | 0, g, h => by
    have e : g = 0 := by simpa using h
    subst e
    exact ⟨[], rfl, fun i => by simp⟩
  | k + 1, g, h => by
    rw [Nat.pow_succ] at h
    by_cases q : g < 2 ^ k
    · obtain ⟨s, h1, h2⟩ := subs_at k g q
      refine ⟨s, ?_, h2⟩
      show (subs k ++ _)[g]? = _
      rw [List.getElem?_append_left (by rw [subs_len]; exact q)]
      exact h1
    · obtain ⟨d, rfl⟩ : ∃ d, g = 2 ^ k + d := ⟨g - 2 ^ k, by omega⟩
      have hd : d < 2 ^ k := by omega
      obtain ⟨s, h1, h2⟩ := subs_at k d hd
      refine ⟨s ++ [k], ?_, fun i => ?_⟩
      · show (subs k ++ _)[2 ^ k + d]? = _
        rw [List.getElem?_append_right (by rw [subs_len]; omega), subs_len, Nat.add_sub_cancel_left, List.getElem?_map, h1]
        rfl
      · rw [List.mem_append, h2, List.mem_singleton]
        by_cases e : i = k
        · subst e
          rw [Nat.testBit_two_pow_add_eq, Nat.testBit_lt_two_pow hd]
          simp
        · by_cases l : i < k
          · rw [Nat.testBit_two_pow_add_gt l]
            simp [e]
          · have l2 : k < i := by omega
            have b1 : d.testBit i = false := Nat.testBit_lt_two_pow (Nat.lt_trans hd (Nat.pow_lt_pow_right (by decide) l2))
            have b2 : (2 ^ k + d).testBit i = false := by
              refine Nat.testBit_lt_two_pow (Nat.lt_of_lt_of_le (show 2 ^ k + d < 2 ^ (k + 1) by rw [Nat.pow_succ]; omega) (Nat.pow_le_pow_right (by decide) l2))
            rw [b1, b2]
            simp [e]
end J

set_option Elab.async false
set_option linter.all false
set_option maxRecDepth 100000
set_option maxHeartbeats 4000000
/-! things equal to themselves; how_dear -/
namespace J
open PySem PV
mutual
theorem eqv_refl : ∀ d : D, D.pln d = true → D.eqv d d = true
  | .non, _ => by simp [D.eqv]
  | .bl b, _ => by simp [D.eqv]
  | .int i, _ => by simp [D.eqv]
  | .str s, _ => by simp [D.eqv]
  | .lst xs, h => by
    have h : D.plnL xs = true := by simpa [D.pln] using h
    simpa [D.eqv] using eqvL_refl xs h
  | .tup xs, h => by
    have h : D.plnL xs = true := by simpa [D.pln] using h
    simpa [D.eqv] using eqvL_refl xs h
  | .scr xs, h => by simp [D.pln] at h
theorem eqvL_refl : ∀ xs : List D, D.plnL xs = true → D.eqvL xs xs = true
  | [], _ => by simp [D.eqvL]
  | x :: xs, h => by
    have h : D.pln x = true ∧ D.plnL xs = true := by simpa [D.plnL] using h
    simp only [D.eqvL, eqv_refl x h.1, eqvL_refl xs h.2, Bool.and_self]
end
theorem fine_pln {d : D} (h : d.fine = true) : D.pln d = true := by
  unfold D.fine at h
  rw [Bool.and_eq_true] at h
  exact h.1
theorem cop_eqr {d : D} (h : d.fine = true) : cop .eq d d = some true := by
  simp only [cop, h, Bool.and_self, if_true, eqv_refl d (fine_pln h)]
theorem cop_ner {d : D} (h : d.fine = true) : cop .ne d d = some false := by
  simp only [cop, h, Bool.and_self, if_true, eqv_refl d (fine_pln h), Bool.not_true]
/-- plain, not deeper than so much -/
def Fd (n : Nat) (d : D) : Prop := D.pln d = true ∧ D.dep d ≤ n
theorem Fd.fine {n : Nat} {d : D} (h : Fd n d) (hn : n ≤ 64) : d.fine = true := by
  unfold D.fine
  rw [Bool.and_eq_true, decide_eq_true_eq]
  exact ⟨h.1, Nat.le_trans h.2 hn⟩
theorem plnL_all : ∀ {xs : List D}, (∀ x ∈ xs, D.pln x = true) → D.plnL xs = true
  | [], _ => by simp [D.plnL]
  | x :: xs, h => by
    simp only [D.plnL, h x List.mem_cons_self, plnL_all fun y hy => h y (List.mem_cons_of_mem _ hy), Bool.and_self]
theorem depL_all {n : Nat} : ∀ {xs : List D}, (∀ x ∈ xs, D.dep x ≤ n) → D.depL xs ≤ n
  | [], _ => by simp [D.depL]
  | x :: xs, h => by
    have h1 := h x List.mem_cons_self
    have h2 := depL_all (n := n) (xs := xs) fun y hy => h y (List.mem_cons_of_mem _ hy)
    simp only [D.depL]
    exact Nat.max_le.mpr ⟨h1, h2⟩
theorem Fd.tup {n : Nat} {xs : List D} (h : ∀ x ∈ xs, Fd n x) : Fd (n + 1) (.tup xs) :=
  ⟨by simpa [D.pln] using plnL_all fun x hx => (h x hx).1, by simpa [D.dep] using depL_all fun x hx => (h x hx).2⟩
theorem Fd.lst {n : Nat} {xs : List D} (h : ∀ x ∈ xs, Fd n x) : Fd (n + 1) (.lst xs) :=
  ⟨by simpa [D.pln] using plnL_all fun x hx => (h x hx).1, by simpa [D.dep] using depL_all fun x hx => (h x hx).2⟩
theorem fd_n (n : Nat) : Fd 0 (nD n) := ⟨rfl, Nat.le_refl _⟩
theorem fd_int (n : Int) : Fd 0 (.int n) := ⟨rfl, Nat.le_refl _⟩
theorem fd_opt (x : Option Nat) : Fd 0 (optD x) := by cases x <;> exact ⟨rfl, Nat.le_refl _⟩
theorem fd_row (r : Row) : Fd 1 (rwT r) := Fd.tup fun x hx => by
  unfold rowD at hx
  obtain ⟨o, _, rfl⟩ := List.mem_map.mp hx
  exact fd_opt o
theorem fd_rows (rows : List Row) : Fd 2 (.tup (rows.map rwT)) := Fd.tup fun x hx => by
  obtain ⟨o, _, rfl⟩ := List.mem_map.mp hx
  exact fd_row o
theorem fd_ns (l : List Nat) : Fd 1 (.tup (nsD l)) := Fd.tup fun x hx => by
  unfold nsD at hx
  obtain ⟨o, _, rfl⟩ := List.mem_map.mp hx
  exact fd_n o
theorem fd_tie (t : Tie) : Fd 1 (tieD t) := Fd.tup fun x hx => by
  simp only [List.mem_cons, List.not_mem_nil, or_false] at hx
  rcases hx with rfl | rfl | rfl <;> exact fd_n _
theorem fd_ties (ts : List Tie) : Fd 2 (.tup (ts.map tieD)) := Fd.tup fun x hx => by
  obtain ⟨o, _, rfl⟩ := List.mem_map.mp hx
  exact fd_tie o
theorem Fd.mono {n k : Nat} {d : D} (h : Fd n d) (l : n ≤ k) : Fd k d := ⟨h.1, Nat.le_trans h.2 l⟩
theorem fd_web (m : Nat) (ts : List Tie) : Fd 3 (webD m ts) := Fd.tup fun x hx => by
  simp only [List.mem_cons, List.not_mem_nil, or_false] at hx
  rcases hx with rfl | rfl
  · exact (fd_n _).mono (by decide)
  · exact fd_ties ts
/-! ### from place to place -/
theorem far_lc {m : Nat} {ts : List Tie} (hw : InW m ts) {u p : Nat} (hu : u < m) (hp : p < m) {l : List Nat} (hl : ∀ x, x ∈ l ↔ x = u ∨ x = p) : at_ (allFar m ts u) p = lc ts l := by
  have d : DW m ts [u] (fun u p => at_ (allFar m ts u) p) (fun _ p => at_ (allFar m ts u) p) := by
    refine ⟨hw, allFar_far hw, fun x hx => ?_, fun i x e q hq => ?_, fun g hg h h0 h1 => ?_, fun g g0 hg gn => ?_⟩
    · have e : x = u := by simpa using hx
      rw [e]; exact hu
    · have e : x = u := by
        have := List.mem_of_getElem? e
        simpa using this
      rw [e]
    · have : g < 2 := hg
      omega
    · have : g < 2 := hg
      exact absurd (show g = 2 ^ 0 by rw [Nat.pow_zero]; omega) (gn 0)
  refine d.lc (g := 1) (by decide) (show 1 < 2 ^ 1 by decide) hp fun x => ?_
  rw [hl]
  refine or_congr_left ?_
  constructor
  · rintro rfl
    exact ⟨0, rfl, by decide⟩
  · rintro ⟨i, e, _⟩
    have := List.mem_of_getElem? e
    simpa using this
def SHow (φ : List D → M D) : Prop := ∀ (m : Nat) (ts : List Tie) (u p : Nat), Web m ts → u < m → p < m → φ [webD m ts, nD u, nD p] = ok (optD (lc ts [u, p]))
end J

set_option Elab.async false
set_option linter.all false
set_option maxRecDepth 100000
set_option maxHeartbeats 4000000
/-! fractions -/
namespace J
open PySem PV
/-- the fuel of loops: no lower part is greater -/
def WF : Nat := 2 ^ 8000
def frD (q : Rat) : D := .tup [.int q.num, nD q.den]
/-- not greater than so many bits -/
def Sm (k : Nat) (q : Rat) : Prop := q.num.natAbs < 2 ^ k ∧ q.den < 2 ^ k
theorem Sm.mono {k j : Nat} {q : Rat} (h : Sm k q) (l : k ≤ j) : Sm j q := ⟨Nat.lt_of_lt_of_le h.1 (Nat.pow_le_pow_right (by decide) l), Nat.lt_of_lt_of_le h.2 (Nat.pow_le_pow_right (by decide) l)⟩
theorem sm_zero : Sm 1 0 := ⟨by decide, by decide⟩
def SCommon (φ : List D → M D) : Prop := ∀ a b : Nat, b < WF → φ [nD a, nD b] = ok (nD (Nat.gcd b a))
theorem common_ok {Φ : Tab} : SCommon (runD m_common Φ WF) := by
  intro a b hb
  have loop : ∀ (n a b : Nat), b < n → ∃ g, whileL (fun ρ => evT Φ t1_common ρ) (fun ρ => evB Φ WF l2_common ρ) n [.va (nD a), .va (nD b)] = ok (.nx [.va (nD (Nat.gcd b a)), g]) := by
    intro n
    induction n with
    | zero => intro a b h; omega
    | succ n ih =>
      intro a b h
      by_cases h0 : b = 0
      · subst h0
        refine ⟨.va (nD 0), ?_⟩
        simp only [whileL, runD, evB, evS, evE, evA, evT, evAnd, evOr, evAndV, evOrV, evP, evI, mb_ok, mb_some, mb_er, op_some, keep_sh, keep_fr, blM_bl, intM_int, nerr_ok, Option.map_some, Option.bind_some, List.getElem?_cons_zero, List.getElem?_cons_succ, List.set_cons_zero, List.set_cons_succ, asgF, unpF, ownOf, appF, setAll, bindT, wipeR, List.length_cons, List.length_nil, List.map_cons, List.map_nil, List.replicate, List.cons_append, List.nil_append, if_true, Bool.false_eq_true, if_false, Nat.reduceAdd, Nat.reduceSub, Nat.zero_add, Nat.reduceEqDiff, Option.map_none, Nat.zero_le, Nat.reduceLT, Nat.reduceLeDiff, Bool.not_true, Bool.not_false, t1_common, kN, cop_nen, beq_self_eq_true, Nat.gcd_zero_left]
      · have hb0 : (b == 0) = false := by simpa using h0
        obtain ⟨g, e⟩ := ih b (a % b) (by have := Nat.mod_lt a (show 0 < b by omega); omega)
        refine ⟨g, ?_⟩
        have q : bop .mod (nD a) (nD b) = some (nD (a % b), .sh) := bmod_n a b (by omega)
        have st : evB Φ WF l2_common [.va (nD a), .va (nD b)] = ok (.nx [.va (nD b), .va (nD (a % b))]) := by
          simp only [runD, evB, evS, evE, evA, evT, evAnd, evOr, evAndV, evOrV, evP, evI, mb_ok, mb_some, mb_er, op_some, keep_sh, keep_fr, blM_bl, intM_int, nerr_ok, Option.map_some, Option.bind_some, List.getElem?_cons_zero, List.getElem?_cons_succ, List.set_cons_zero, List.set_cons_succ, asgF, unpF, ownOf, appF, setAll, bindT, wipeR, List.length_cons, List.length_nil, List.map_cons, List.map_nil, List.replicate, List.cons_append, List.nil_append, if_true, Bool.false_eq_true, if_false, Nat.reduceAdd, Nat.reduceSub, Nat.zero_add, Nat.reduceEqDiff, Option.map_none, Nat.zero_le, Nat.reduceLT, Nat.reduceLeDiff, Bool.not_true, Bool.not_false, l2_common, q]
        have t : evT Φ t1_common [.va (nD a), .va (nD b)] = ok true := by
          simp only [runD, evB, evS, evE, evA, evT, evAnd, evOr, evAndV, evOrV, evP, evI, mb_ok, mb_some, mb_er, op_some, keep_sh, keep_fr, blM_bl, intM_int, nerr_ok, Option.map_some, Option.bind_some, List.getElem?_cons_zero, List.getElem?_cons_succ, List.set_cons_zero, List.set_cons_succ, asgF, unpF, ownOf, appF, setAll, bindT, wipeR, List.length_cons, List.length_nil, List.map_cons, List.map_nil, List.replicate, List.cons_append, List.nil_append, if_true, Bool.false_eq_true, if_false, Nat.reduceAdd, Nat.reduceSub, Nat.zero_add, Nat.reduceEqDiff, Option.map_none, Nat.zero_le, Nat.reduceLT, Nat.reduceLeDiff, Bool.not_true, Bool.not_false, t1_common, kN, cop_nen, hb0]
        have gg : Nat.gcd (a % b) b = Nat.gcd b a := (Nat.gcd_rec b a).symm
        rw [gg] at e
        simp only [whileL, t, mb_ok, if_true, st, e]
  obtain ⟨g, e⟩ := loop WF a b hb
  refine rrt rfl ?_
  show evB Φ WF m_common.body [.va (nD a), .va (nD b)] = _
  simp only [m_common]
  refine (bnx (ρ' := [.va (nD (Nat.gcd b a)), g]) (by simp only [evS]; exact e)).trans ?_
  refine brt ?_
  simp only [runD, evB, evS, evE, evA, evT, evAnd, evOr, evAndV, evOrV, evP, evI, mb_ok, mb_some, mb_er, op_some, keep_sh, keep_fr, blM_bl, intM_int, nerr_ok, Option.map_some, Option.bind_some, List.getElem?_cons_zero, List.getElem?_cons_succ, List.set_cons_zero, List.set_cons_succ, asgF, unpF, ownOf, appF, setAll, bindT, wipeR, List.length_cons, List.length_nil, List.map_cons, List.map_nil, List.replicate, List.cons_append, List.nil_append, if_true, Bool.false_eq_true, if_false, Nat.reduceAdd, Nat.reduceSub, Nat.zero_add, Nat.reduceEqDiff, Option.map_none, Nat.zero_le, Nat.reduceLT, Nat.reduceLeDiff, Bool.not_true, Bool.not_false]
theorem pow_wf {k : Nat} (h : k ≤ 8000) : 2 ^ k ≤ WF := Nat.pow_le_pow_right (by decide) h
theorem log_lt {n k : Nat} (h : n < 2 ^ k) (hk : 0 < k) : n.log2 < k := by
  by_cases h0 : n = 0
  · subst h0; simpa using hk
  · exact (Nat.log2_lt h0).mpr h
def SPlain (φ : List D → M D) : Prop := ∀ (u : Int) (l : Nat), 0 < l → l < 2 ^ 8000 → φ [.int u, nD l] = ok (frD (mkRat u l))
theorem plain_ok {Φ : Tab} (hc : Fn Φ "common" SCommon) : SPlain (runD m_plain Φ WF) := by
  intro u l h0 hl
  obtain ⟨φ, f, s⟩ := hc
  have q1 : uop .abs (.int u) = some (nD u.natAbs, .sh) := by
    simp only [uop, nD]
    congr 3
    split <;> omega
  have k := s u.natAbs l hl
  obtain ⟨g, hg⟩ : ∃ g, g = Nat.gcd l u.natAbs := ⟨_, rfl⟩
  have g0 : 0 < g := by rw [hg]; exact Nat.gcd_pos_of_pos_left _ h0
  have gl : g ≤ l := by rw [hg]; exact Nat.gcd_le_left _ h0
  have glog : g.log2 < 9000 := by
    have := log_lt (Nat.lt_of_le_of_lt gl hl) (by decide)
    omega
  rw [← hg] at k
  have q2 : bop .fdiv (.int u) (nD g) = some (.int (u / (g : Int)), .sh) := by
    simp only [bop, nD]
    rw [if_pos ⟨by omega, by rw [Int.natAbs_natCast]; exact glog⟩]
  have q3 : bop .fdiv (nD l) (nD g) = some (nD (l / g), .sh) := by
    simp only [bop, nD]
    rw [if_pos ⟨by omega, by rw [Int.natAbs_natCast]; exact glog⟩]
    rfl
  have e1 : (mkRat u l).num = u / (g : Int) := by rw [Rat.num_mkRat, if_neg (by omega), hg]
  have e2 : (mkRat u l).den = l / g := by rw [Rat.den_mkRat, if_neg (by omega), hg]
  simp only [runD, evB, evS, evE, evA, evT, evAnd, evOr, evAndV, evOrV, evP, evI, mb_ok, mb_some, mb_er, op_some, keep_sh, keep_fr, blM_bl, intM_int, nerr_ok, Option.map_some, Option.bind_some, List.getElem?_cons_zero, List.getElem?_cons_succ, List.set_cons_zero, List.set_cons_succ, asgF, unpF, ownOf, appF, setAll, bindT, wipeR, List.length_cons, List.length_nil, List.map_cons, List.map_nil, List.replicate, List.cons_append, List.nil_append, if_true, Bool.false_eq_true, if_false, Nat.reduceAdd, Nat.reduceSub, Nat.zero_add, Nat.reduceEqDiff, Option.map_none, Nat.zero_le, Nat.reduceLT, Nat.reduceLeDiff, Bool.not_true, Bool.not_false, m_plain, q1, f, k, q2, q3, top, frD, e1, e2]
theorem mul_i {a b : Int} {k j : Nat} (ha : a.natAbs < 2 ^ k) (hb : b.natAbs < 2 ^ j) (h : k + j ≤ 100000) : bop .mul (.int a) (.int b) = some (.int (a * b), .sh) := by
  simp only [bop]
  rw [if_pos]
  by_cases hk : k = 0
  · subst hk
    left
    have : a.natAbs = 0 := by simpa using ha
    rw [this]; decide
  · by_cases hj : j = 0
    · subst hj
      right; left
      have : b.natAbs = 0 := by simpa using hb
      rw [this]; decide
    · right; right
      have := log_lt ha (by omega)
      have := log_lt hb (by omega)
      omega
theorem fr_0 (q : Rat) : ixD (frD q) (nD 0) = some (.int q.num) := rfl
theorem fr_1 (q : Rat) : ixD (frD q) (nD 1) = some (nD q.den) := rfl
theorem num_lt {a b : Rat} {k j : Nat} (ha : Sm k a) (hb : Sm j b) : (a.num * (b.den : Int) + b.num * (a.den : Int)).natAbs < 2 ^ (k + j + 1) := by
  have h1 : (a.num * (b.den : Int)).natAbs < 2 ^ (k + j) := by
    rw [Int.natAbs_mul, Int.natAbs_natCast, Nat.pow_add]
    exact Nat.mul_lt_mul'' ha.1 hb.2
  have h2 : (b.num * (a.den : Int)).natAbs < 2 ^ (k + j) := by
    rw [Int.natAbs_mul, Int.natAbs_natCast, Nat.add_comm, Nat.pow_add]
    exact Nat.mul_lt_mul'' hb.1 ha.2
  have := Int.natAbs_add_le (a.num * (b.den : Int)) (b.num * (a.den : Int))
  rw [Nat.pow_succ]
  omega
theorem den_lt {a b : Rat} {k j : Nat} (ha : Sm k a) (hb : Sm j b) : a.den * b.den < 2 ^ (k + j + 1) := by
  have : a.den * b.den < 2 ^ (k + j) := by
    rw [Nat.pow_add]
    exact Nat.mul_lt_mul'' ha.2 hb.2
  rw [Nat.pow_succ]
  omega
theorem add_mk (a b : Rat) : a + b = mkRat (a.num * (b.den : Int) + b.num * (a.den : Int)) (a.den * b.den) := by
  rw [Rat.add_def, Rat.normalize_eq_mkRat]
theorem sub_mk (a b : Rat) : a - b = mkRat (a.num * (b.den : Int) - b.num * (a.den : Int)) (a.den * b.den) := by
  rw [Rat.sub_def, Rat.normalize_eq_mkRat]
theorem sm_mk {u : Int} {l k : Nat} (hl : 0 < l) (hu : u.natAbs < 2 ^ k) (h : l < 2 ^ k) : Sm k (mkRat u l) := by
  obtain ⟨g, hg⟩ : ∃ g, g = Nat.gcd l u.natAbs := ⟨_, rfl⟩
  have g0 : 0 < g := by rw [hg]; exact Nat.gcd_pos_of_pos_left _ hl
  refine ⟨?_, ?_⟩
  · rw [Rat.num_mkRat, if_neg (by omega), ← hg]
    refine Nat.lt_of_le_of_lt ?_ hu
    exact Int.natAbs_ediv_le_natAbs _ _
  · rw [Rat.den_mkRat, if_neg (by omega), ← hg]
    exact Nat.lt_of_le_of_lt (Nat.div_le_self _ _) h
theorem sm_add {a b : Rat} {k j : Nat} (ha : Sm k a) (hb : Sm j b) : Sm (k + j + 1) (a + b) := by
  rw [add_mk]
  exact sm_mk (Nat.mul_pos a.den_pos b.den_pos) (num_lt ha hb) (den_lt ha hb)
def SPlus (φ : List D → M D) : Prop := ∀ (a b : Rat) (k j : Nat), Sm k a → Sm j b → k + j + 1 ≤ 8000 → φ [frD a, frD b] = ok (frD (a + b))
theorem plus_ok {Φ : Tab} (hp : Fn Φ "plain" SPlain) : SPlus (runD m_plus Φ WF) := by
  intro a b k j ha hb h
  obtain ⟨φ, f, s⟩ := hp
  have q := s (a.num * (b.den : Int) + b.num * (a.den : Int)) (a.den * b.den) (Nat.mul_pos a.den_pos b.den_pos) (Nat.lt_of_lt_of_le (den_lt ha hb) (Nat.pow_le_pow_right (by decide) h))
  rw [← add_mk] at q
  have e1 : bop .mul (.int a.num) (nD b.den) = some (.int (a.num * (b.den : Int)), .sh) := mul_i (b := (b.den : Int)) ha.1 (by rw [Int.natAbs_natCast]; exact hb.2) (by omega)
  have e2 : bop .mul (.int b.num) (nD a.den) = some (.int (b.num * (a.den : Int)), .sh) := mul_i (b := (a.den : Int)) hb.1 (by rw [Int.natAbs_natCast]; exact ha.2) (by omega)
  have e3 : bop .add (.int (a.num * (b.den : Int))) (.int (b.num * (a.den : Int))) = some (.int (a.num * (b.den : Int) + b.num * (a.den : Int)), .sh) := rfl
  have e4 : bop .mul (nD a.den) (nD b.den) = some (nD (a.den * b.den), .sh) := by
    have := mul_i (a := (a.den : Int)) (b := (b.den : Int)) (by rw [Int.natAbs_natCast]; exact ha.2) (by rw [Int.natAbs_natCast]; exact hb.2) (by omega : k + j ≤ 100000)
    unfold nD
    rw [this, Int.natCast_mul]
  simp only [runD, evB, evS, evE, evA, evT, evAnd, evOr, evAndV, evOrV, evP, evI, mb_ok, mb_some, mb_er, op_some, keep_sh, keep_fr, blM_bl, intM_int, nerr_ok, Option.map_some, Option.bind_some, List.getElem?_cons_zero, List.getElem?_cons_succ, List.set_cons_zero, List.set_cons_succ, asgF, unpF, ownOf, appF, setAll, bindT, wipeR, List.length_cons, List.length_nil, List.map_cons, List.map_nil, List.replicate, List.cons_append, List.nil_append, if_true, Bool.false_eq_true, if_false, Nat.reduceAdd, Nat.reduceSub, Nat.zero_add, Nat.reduceEqDiff, Option.map_none, Nat.zero_le, Nat.reduceLT, Nat.reduceLeDiff, Bool.not_true, Bool.not_false, m_plus, kN, fr_0, fr_1, e1, e2, e3, e4, f, q]
def SAbove (φ : List D → M D) : Prop := ∀ (a b : Rat) (k j : Nat), Sm k a → Sm j b → k + j ≤ 90000 → φ [frD a, frD b] = ok (.bl (decide (b < a)))
theorem above_ok {Φ : Tab} {wf : Nat} : SAbove (runD m_is_above Φ wf) := by
  intro a b k j ha hb h
  have e1 : bop .mul (.int a.num) (nD b.den) = some (.int (a.num * (b.den : Int)), .sh) := mul_i (b := (b.den : Int)) ha.1 (by rw [Int.natAbs_natCast]; exact hb.2) (by omega)
  have e2 : bop .mul (.int b.num) (nD a.den) = some (.int (b.num * (a.den : Int)), .sh) := mul_i (b := (a.den : Int)) hb.1 (by rw [Int.natAbs_natCast]; exact ha.2) (by omega)
  have e3 : cop .gt (.int (a.num * (b.den : Int))) (.int (b.num * (a.den : Int))) = some (decide (b < a)) := by
    simp only [cop]
    congr 1
    rw [Bool.eq_iff_iff, decide_eq_true_eq, decide_eq_true_eq, Rat.lt_iff]
  simp only [runD, evB, evS, evE, evA, evT, evAnd, evOr, evAndV, evOrV, evP, evI, mb_ok, mb_some, mb_er, op_some, keep_sh, keep_fr, blM_bl, intM_int, nerr_ok, Option.map_some, Option.bind_some, List.getElem?_cons_zero, List.getElem?_cons_succ, List.set_cons_zero, List.set_cons_succ, asgF, unpF, ownOf, appF, setAll, bindT, wipeR, List.length_cons, List.length_nil, List.map_cons, List.map_nil, List.replicate, List.cons_append, List.nil_append, if_true, Bool.false_eq_true, if_false, Nat.reduceAdd, Nat.reduceSub, Nat.zero_add, Nat.reduceEqDiff, Option.map_none, Nat.zero_le, Nat.reduceLT, Nat.reduceLeDiff, Bool.not_true, Bool.not_false, m_is_above, kN, fr_0, fr_1, e1, e2, e3]
/-! ### a thing that may be a fraction -/
mutual
def D.tame (c : Nat) : D → Bool
  | .int i => decide (i.natAbs < 2 ^ c)
  | .tup xs => decide (xs.length < 64) && D.tameL c xs
  | .scr _ => false
  | _ => true
def D.tameL (c : Nat) : List D → Bool
  | [] => true
  | x :: xs => D.tame c x && D.tameL c xs
end
theorem tameL_all {c : Nat} : ∀ {xs : List D}, D.tameL c xs = true → ∀ x ∈ xs, D.tame c x = true
  | [], _, x, hx => by cases hx
  | y :: ys, h, x, hx => by
    have h : D.tame c y = true ∧ D.tameL c ys = true := by simpa [D.tameL] using h
    rcases List.mem_cons.mp hx with rfl | hx
    · exact h.1
    · exact tameL_all h.2 x hx
theorem all_tameL {c : Nat} : ∀ {xs : List D}, (∀ x ∈ xs, D.tame c x = true) → D.tameL c xs = true
  | [], _ => by simp [D.tameL]
  | x :: xs, h => by simp only [D.tameL, h x List.mem_cons_self, all_tameL fun y hy => h y (List.mem_cons_of_mem _ hy), Bool.and_self]
theorem tame_tup {c : Nat} {xs : List D} (h : D.tame c (.tup xs) = true) : xs.length < 64 ∧ ∀ x ∈ xs, D.tame c x = true := by
  have h : xs.length < 64 ∧ D.tameL c xs = true := by simpa [D.tame] using h
  exact ⟨h.1, tameL_all h.2⟩
theorem tame_tup' {c : Nat} {xs : List D} (h : xs.length < 64) (h2 : ∀ x ∈ xs, D.tame c x = true) : D.tame c (.tup xs) = true := by
  simp [D.tame, h, all_tameL h2]
theorem tame_nsc {c : Nat} {d : D} (h : D.tame c d = true) : nsc d = true := by
  cases d with
  | scr _ => simp [D.tame] at h
  | _ => rfl
theorem tame_shal {c : Nat} {d : D} (h : D.tame c d = true) : shal d = true := by
  cases d with
  | scr _ => simp [D.tame] at h
  | tup xs =>
    obtain ⟨h1, h2⟩ := tame_tup h
    simp only [shal, Bool.and_eq_true, decide_eq_true_eq, List.all_eq_true]
    exact ⟨fun x hx => tame_nsc (h2 x hx), h1⟩
  | _ => rfl
def isInt : D → Bool
  | .int _ => true
  | _ => false
/-- the fraction that a thing is -/
def isPart : D → Option Rat
  | .tup [.int u, .int l] => if 0 < l ∧ Nat.gcd l.natAbs u.natAbs = 1 then some (mkRat u l.natAbs) else none
  | _ => none
theorem isPart_fr (q : Rat) : isPart (frD q) = some q := by
  have h := q.reduced
  unfold Nat.Coprime at h
  have h0 := q.den_pos
  unfold isPart frD nD
  dsimp only
  rw [if_pos ⟨by omega, by rw [Int.natAbs_natCast, Nat.gcd_comm]; exact h⟩, Int.natAbs_natCast, Rat.mkRat_self]
theorem isPart_some {d : D} {q : Rat} (h : isPart d = some q) : d = frD q := by
  unfold isPart at h
  split at h
  · rename_i u l
    split at h
    · rename_i c
      obtain ⟨c1, c2⟩ := c
      cases h
      obtain ⟨n, rfl⟩ : ∃ n : Nat, l = n := ⟨l.natAbs, by omega⟩
      rw [Int.natAbs_natCast] at c2 ⊢
      have e1 : (mkRat u n).num = u := by rw [Rat.num_mkRat, if_neg (by omega), c2]; simp
      have e2 : (mkRat u n).den = n := by rw [Rat.den_mkRat, if_neg (by omega), c2]; simp
      unfold frD nD
      rw [e1, e2]
    · cases h
  · cases h
theorem sm_tame {c : Nat} {q : Rat} (h : D.tame c (frD q) = true) : Sm c q := by
  obtain ⟨_, h2⟩ := tame_tup h
  have a := h2 _ List.mem_cons_self
  have b := h2 (nD q.den) (by simp)
  simp only [D.tame, nD, decide_eq_true_eq] at a b
  rw [Int.natAbs_natCast] at b
  exact ⟨a, b⟩
end J

set_option Elab.async false
set_option linter.all false
set_option maxRecDepth 100000
set_option maxHeartbeats 4000000
/-! fences, by the program -/
namespace J
open PySem PV
abbrev Fence := List Nat × Rat
def fnD (f : Fence) : D := .tup [.tup (nsD f.1), frD f.2]
def fnsD (fs : List Fence) : List D := fs.map fnD
def worthR (fs : List Fence) : Rat := fs.foldl (fun a f => a + f.2) 0
def crosses (side : List Nat) (t : Tie) : Bool := decide (t.1 ∈ side) != decide (t.2.1 ∈ side)
def loadR (fs : List Fence) (t : Tie) : Rat := worthR (fs.filter fun f => crosses f.1 t)
def partsB (side ends : List Nat) : Bool := (ends.any fun e => decide (e ∈ side)) && !(ends.all fun e => decide (e ∈ side))
/-- a thing that is looked at: tame, plain, not deep -/
structure Tm (c : Nat) (d : D) : Prop where
  t : D.tame c d = true
  p : D.pln d = true
  d : D.dep d ≤ 60
theorem Tm.tup {c : Nat} {xs : List D} (h : Tm c (.tup xs)) : xs.length < 64 ∧ ∀ x ∈ xs, Tm c x := by
  obtain ⟨h1, h2⟩ := tame_tup h.t
  have hp : D.plnL xs = true := by simpa [D.pln] using h.p
  have hd : D.depL xs + 1 ≤ 60 := by simpa [D.dep] using h.d
  refine ⟨h1, fun x hx => ⟨h2 x hx, ?_, ?_⟩⟩
  · clear h h1 h2 hd
    induction xs with
    | nil => cases hx
    | cons y ys ih =>
      have hp : D.pln y = true ∧ D.plnL ys = true := by simpa [D.plnL] using hp
      rcases List.mem_cons.mp hx with rfl | hx
      · exact hp.1
      · exact ih hp.2 hx
  · have : D.dep x ≤ D.depL xs := by
      clear h h1 h2 hd hp
      induction xs with
      | nil => cases hx
      | cons y ys ih =>
        show D.dep x ≤ Nat.max (D.dep y) (D.depL ys)
        rcases List.mem_cons.mp hx with rfl | hx
        · exact Nat.le_max_left _ _
        · exact Nat.le_trans (ih hx) (Nat.le_max_right _ _)
    omega
theorem Tm.nsc {c : Nat} {d : D} (h : Tm c d) : nsc d = true := tame_nsc h.t
theorem Tm.shal {c : Nat} {d : D} (h : Tm c d) : shal d = true := tame_shal h.t
theorem Tm.fine {c : Nat} {d : D} (h : Tm c d) : d.fine = true := by
  unfold D.fine
  rw [Bool.and_eq_true, decide_eq_true_eq]
  exact ⟨h.p, by have := h.d; omega⟩
/-! ### worth, load -/
theorem sm_fold {c : Nat} : ∀ {fs : List Fence} {a : Rat} {k : Nat}, (∀ f ∈ fs, Sm c f.2) → Sm k a → Sm (k + fs.length * (c + 1)) (fs.foldl (fun a f => a + f.2) a)
  | [], a, k, _, h => by simpa using h
  | f :: fs, a, k, hf, h => by
    have := sm_fold (fs := fs) (fun g hg => hf g (List.mem_cons_of_mem _ hg)) (sm_add h (hf f List.mem_cons_self))
    rw [List.foldl_cons]
    refine this.mono ?_
    rw [List.length_cons, Nat.add_mul]
    omega
theorem sm_worth {c : Nat} {fs : List Fence} (h : ∀ f ∈ fs, Sm c f.2) : Sm (1 + fs.length * (c + 1)) (worthR fs) := sm_fold h sm_zero
theorem len_bits {n c : Nat} (hn : n < 64) (hc : c ≤ 110) : n * (c + 1) ≤ 6993 := by
  have := Nat.mul_le_mul (show n ≤ 63 by omega) (show c + 1 ≤ 111 by omega)
  omega
def SWorth (φ : List D → M D) : Prop := ∀ (fs : List Fence) (b : Bool) (c : Nat), fs.length < 64 → c ≤ 110 → (∀ f ∈ fs, Sm c f.2) → φ [seqD b (fnsD fs)] = ok (frD (worthR fs))
theorem worth_ok {Φ : Tab} {wf : Nat} (hp : Fn Φ "plus" SPlus) : SWorth (runD m_worth Φ wf) := by
  intro fs b c hl hc hf
  obtain ⟨φ, f, s⟩ := hp
  obtain ⟨T, hT⟩ : ∃ T, T = seqD b (fnsD fs) := ⟨_, rfl⟩
  have loop : ∀ (l : List Fence) (a : Rat) (k : Nat) (a2 a3 : Sl), (∀ g ∈ l, Sm c g.2) → Sm k a → k + l.length * (c + 1) ≤ 8000 → ∃ b2 b3, forL (bindT false [2, 3]) (fun ρ => evB Φ wf l1_worth ρ) (fnsD l) [.va T, .va (frD a), a2, a3] = ok (.nx [.va T, .va (frD (l.foldl (fun a f => a + f.2) a)), b2, b3]) := by
    intro l
    induction l with
    | nil => intro a k a2 a3 _ _ _; exact ⟨a2, a3, rfl⟩
    | cons g l ih =>
      intro a k a2 a3 hg ha hk
      rw [List.length_cons, Nat.add_mul] at hk
      have q := s a g.2 k c ha (hg g List.mem_cons_self) (by omega)
      obtain ⟨b2, b3, ih⟩ := ih (a + g.2) (k + c + 1) (.va (.tup (nsD g.1))) (.va (frD g.2)) (fun x hx => hg x (List.mem_cons_of_mem _ hx)) (sm_add ha (hg g List.mem_cons_self)) (by omega)
      refine ⟨b2, b3, ?_⟩
      have eb : bindT false [2, 3] (fnD g) [.va T, .va (frD a), a2, a3] = some [.va T, .va (frD a), .va (.tup (nsD g.1)), .va (frD g.2)] := rfl
      have st : evB Φ wf l1_worth [.va T, .va (frD a), .va (.tup (nsD g.1)), .va (frD g.2)] = ok (.nx [.va T, .va (frD (a + g.2)), .va (.tup (nsD g.1)), .va (frD g.2)]) := by
        simp only [runD, evB, evS, evE, evA, evT, evAnd, evOr, evAndV, evOrV, evP, evI, mb_ok, mb_some, mb_er, op_some, keep_sh, keep_fr, blM_bl, intM_int, nerr_ok, Option.map_some, Option.bind_some, List.getElem?_cons_zero, List.getElem?_cons_succ, List.set_cons_zero, List.set_cons_succ, asgF, unpF, ownOf, appF, setAll, bindT, wipeR, List.length_cons, List.length_nil, List.map_cons, List.map_nil, List.replicate, List.cons_append, List.nil_append, if_true, Bool.false_eq_true, if_false, Nat.reduceAdd, Nat.reduceSub, Nat.zero_add, Nat.reduceEqDiff, Option.map_none, Nat.zero_le, Nat.reduceLT, Nat.reduceLeDiff, Bool.not_true, Bool.not_false, l1_worth, f, q]
      rw [show fnsD (g :: l) = fnD g :: fnsD l from rfl]
      simp only [forL, eb, st, mb_ok, ih, List.foldl_cons]
  have hb := len_bits hl hc
  obtain ⟨b2, b3, h⟩ := loop fs 0 1 .no .no hf sm_zero (by omega)
  have h : forL (bindT false [2, 3]) (fun ρ => evB Φ wf l1_worth ρ) (fnsD fs) [.va T, .va (.tup [.int 0, .int 1]), .no, .no] = _ := h
  have iT : items T = some (fnsD fs) := by rw [hT]; exact items_seq b _
  refine rrt rfl ?_
  rw [← hT]
  show evB Φ wf m_worth.body [.va T, .no, .no, .no] = _
  simp only [m_worth]
  refine (bnx (ρ' := [.va T, .va (.tup [.int 0, .int 1]), .no, .no]) (by simp only [runD, evB, evS, evE, evA, evT, evAnd, evOr, evAndV, evOrV, evP, evI, mb_ok, mb_some, mb_er, op_some, keep_sh, keep_fr, blM_bl, intM_int, nerr_ok, Option.map_some, Option.bind_some, List.getElem?_cons_zero, List.getElem?_cons_succ, List.set_cons_zero, List.set_cons_succ, asgF, unpF, ownOf, appF, setAll, bindT, wipeR, List.length_cons, List.length_nil, List.map_cons, List.map_nil, List.replicate, List.cons_append, List.nil_append, if_true, Bool.false_eq_true, if_false, Nat.reduceAdd, Nat.reduceSub, Nat.zero_add, Nat.reduceEqDiff, Option.map_none, Nat.zero_le, Nat.reduceLT, Nat.reduceLeDiff, Bool.not_true, Bool.not_false, top])).trans ?_
  refine (bnx (ρ' := [.va T, .va (frD (worthR fs)), b2, b3]) (by simp only [runD, evB, evS, evE, evA, evT, evAnd, evOr, evAndV, evOrV, evP, evI, mb_ok, mb_some, mb_er, op_some, keep_sh, keep_fr, blM_bl, intM_int, nerr_ok, Option.map_some, Option.bind_some, List.getElem?_cons_zero, List.getElem?_cons_succ, List.set_cons_zero, List.set_cons_succ, asgF, unpF, ownOf, appF, setAll, bindT, wipeR, List.length_cons, List.length_nil, List.map_cons, List.map_nil, List.replicate, List.cons_append, List.nil_append, if_true, Bool.false_eq_true, if_false, Nat.reduceAdd, Nat.reduceSub, Nat.zero_add, Nat.reduceEqDiff, Option.map_none, Nat.zero_le, Nat.reduceLT, Nat.reduceLeDiff, Bool.not_true, Bool.not_false, iT, h]; rfl)).trans ?_
  refine brt ?_
  simp only [runD, evB, evS, evE, evA, evT, evAnd, evOr, evAndV, evOrV, evP, evI, mb_ok, mb_some, mb_er, op_some, keep_sh, keep_fr, blM_bl, intM_int, nerr_ok, Option.map_some, Option.bind_some, List.getElem?_cons_zero, List.getElem?_cons_succ, List.set_cons_zero, List.set_cons_succ, asgF, unpF, ownOf, appF, setAll, bindT, wipeR, List.length_cons, List.length_nil, List.map_cons, List.map_nil, List.replicate, List.cons_append, List.nil_append, if_true, Bool.false_eq_true, if_false, Nat.reduceAdd, Nat.reduceSub, Nat.zero_add, Nat.reduceEqDiff, Option.map_none, Nat.zero_le, Nat.reduceLT, Nat.reduceLeDiff, Bool.not_true, Bool.not_false]
theorem isin_t (l : List Nat) (k : Nat) : cop .isin (nD k) (.tup (nsD l)) = some (decide (k ∈ l)) := isin_ns true l k
theorem cop_nb (a b : Bool) : cop .ne (.bl a) (.bl b) = some (a != b) := by cases a <;> cases b <;> rfl
def SLoad (φ : List D → M D) : Prop := ∀ (fs : List Fence) (t : Tie) (c : Nat), fs.length < 64 → c ≤ 110 → (∀ f ∈ fs, Sm c f.2) → φ [.tup (fnsD fs), tieD t] = ok (frD (loadR fs t))
theorem load_ok {Φ : Tab} {wf : Nat} (hw : Fn Φ "worth" SWorth) : SLoad (runD m_load Φ wf) := by
  intro fs t c hl hc hf
  obtain ⟨φ, f, s⟩ := hw
  have k := s (fs.filter fun f => crosses f.1 t) false c (Nat.lt_of_le_of_lt (List.length_filter_le _ _) hl) hc fun g hg => hf g (List.mem_filter.mp hg).1
  have k : φ [.lst (fnsD (fs.filter fun f => crosses f.1 t))] = ok (frD (loadR fs t)) := k
  refine rrt rfl ?_
  show evB Φ wf m_load.body [.va (.tup (fnsD fs)), .va (tieD t), .no] = _
  simp only [m_load]
  refine brt ?_
  simp only [runD, evB, evS, evE, evA, evT, evAnd, evOr, evAndV, evOrV, evP, evI, mb_ok, mb_some, mb_er, op_some, keep_sh, keep_fr, blM_bl, intM_int, nerr_ok, Option.map_some, Option.bind_some, List.getElem?_cons_zero, List.getElem?_cons_succ, List.set_cons_zero, List.set_cons_succ, asgF, unpF, ownOf, appF, setAll, bindT, wipeR, List.length_cons, List.length_nil, List.map_cons, List.map_nil, List.replicate, List.cons_append, List.nil_append, if_true, Bool.false_eq_true, if_false, Nat.reduceAdd, Nat.reduceSub, Nat.zero_add, Nat.reduceEqDiff, Option.map_none, Nat.zero_le, Nat.reduceLT, Nat.reduceLeDiff, Bool.not_true, Bool.not_false, items]
  rw [if_pos (by simp only [fnsD, List.length_map]; unfold top; omega), show fnsD fs = fs.map fnD from rfl, compL_filt (g := fnD) (p := fun f => crosses f.1 t) (fun g hg => by
    have q0 : ixD (fnD g) (nD 0) = some (.tup (nsD g.1)) := rfl
    have q1 : ixD (tieD t) (nD 0) = some (nD t.1) := rfl
    have q2 : ixD (tieD t) (nD 1) = some (nD t.2.1) := rfl
    simp only [runD, evB, evS, evE, evA, evT, evAnd, evOr, evAndV, evOrV, evP, evI, mb_ok, mb_some, mb_er, op_some, keep_sh, keep_fr, blM_bl, intM_int, nerr_ok, Option.map_some, Option.bind_some, List.getElem?_cons_zero, List.getElem?_cons_succ, List.set_cons_zero, List.set_cons_succ, asgF, unpF, ownOf, appF, setAll, bindT, wipeR, List.length_cons, List.length_nil, List.map_cons, List.map_nil, List.replicate, List.cons_append, List.nil_append, if_true, Bool.false_eq_true, if_false, Nat.reduceAdd, Nat.reduceSub, Nat.zero_add, Nat.reduceEqDiff, Option.map_none, Nat.zero_le, Nat.reduceLT, Nat.reduceLeDiff, Bool.not_true, Bool.not_false, q1_load, kN, q0, q1, q2, isin_t, cop_nb]
    unfold crosses
    cases decide (t.1 ∈ g.1) != decide (t.2.1 ∈ g.1) <;> rfl)]
  rw [show (fs.filter fun f => crosses f.1 t).map fnD = fnsD (fs.filter fun f => crosses f.1 t) from rfl]
  simp only [runD, evB, evS, evE, evA, evT, evAnd, evOr, evAndV, evOrV, evP, evI, mb_ok, mb_some, mb_er, op_some, keep_sh, keep_fr, blM_bl, intM_int, nerr_ok, Option.map_some, Option.bind_some, List.getElem?_cons_zero, List.getElem?_cons_succ, List.set_cons_zero, List.set_cons_succ, asgF, unpF, ownOf, appF, setAll, bindT, wipeR, List.length_cons, List.length_nil, List.map_cons, List.map_nil, List.replicate, List.cons_append, List.nil_append, if_true, Bool.false_eq_true, if_false, Nat.reduceAdd, Nat.reduceSub, Nat.zero_add, Nat.reduceEqDiff, Option.map_none, Nat.zero_le, Nat.reduceLT, Nat.reduceLeDiff, Bool.not_true, Bool.not_false, f, k]
def SParts (φ : List D → M D) : Prop := ∀ (side ends : List Nat), ends.length < 64 → φ [.tup (nsD side), .tup (nsD ends)] = ok (.bl (partsB side ends))
theorem parts_ok {Φ : Tab} {wf : Nat} : SParts (runD m_parts Φ wf) := by
  intro side ends hl
  obtain ⟨E, hE⟩ : ∃ E, E = D.tup (nsD ends) := ⟨_, rfl⟩
  have iE : items E = some (ends.map nD) := by rw [hE]; rfl
  have ht : (ends.map nD).length ≤ top := by rw [List.length_map]; unfold top; omega
  have c1 : compL (fun d => (some [Sl.va (.tup (nsD side)), .va E, .va d]).bind fun ρ' => (nerr (evT Φ .knon ρ')).bind fun b => if b = true then (nerr (mb (evE Φ e1_parts ρ') keep)).map some else some none) (ends.map nD) = some (ends.map fun e => .bl (decide (e ∈ side))) :=
    compL_map (g := fun e => .bl (decide (e ∈ side))) fun e he => by simp only [runD, evB, evS, evE, evA, evT, evAnd, evOr, evAndV, evOrV, evP, evI, mb_ok, mb_some, mb_er, op_some, keep_sh, keep_fr, blM_bl, intM_int, nerr_ok, Option.map_some, Option.bind_some, List.getElem?_cons_zero, List.getElem?_cons_succ, List.set_cons_zero, List.set_cons_succ, asgF, unpF, ownOf, appF, setAll, bindT, wipeR, List.length_cons, List.length_nil, List.map_cons, List.map_nil, List.replicate, List.cons_append, List.nil_append, if_true, Bool.false_eq_true, if_false, Nat.reduceAdd, Nat.reduceSub, Nat.zero_add, Nat.reduceEqDiff, Option.map_none, Nat.zero_le, Nat.reduceLT, Nat.reduceLeDiff, Bool.not_true, Bool.not_false, e1_parts, isin_t]
  have c2 : compL (fun d => (some [Sl.va (.tup (nsD side)), .va E, .va d]).bind fun ρ' => (nerr (evT Φ .knon ρ')).bind fun b => if b = true then (nerr (mb (evE Φ e2_parts ρ') keep)).map some else some none) (ends.map nD) = some (ends.map fun e => .bl (decide (e ∈ side))) :=
    compL_map (g := fun e => .bl (decide (e ∈ side))) fun e he => by simp only [runD, evB, evS, evE, evA, evT, evAnd, evOr, evAndV, evOrV, evP, evI, mb_ok, mb_some, mb_er, op_some, keep_sh, keep_fr, blM_bl, intM_int, nerr_ok, Option.map_some, Option.bind_some, List.getElem?_cons_zero, List.getElem?_cons_succ, List.set_cons_zero, List.set_cons_succ, asgF, unpF, ownOf, appF, setAll, bindT, wipeR, List.length_cons, List.length_nil, List.map_cons, List.map_nil, List.replicate, List.cons_append, List.nil_append, if_true, Bool.false_eq_true, if_false, Nat.reduceAdd, Nat.reduceSub, Nat.zero_add, Nat.reduceEqDiff, Option.map_none, Nat.zero_le, Nat.reduceLT, Nat.reduceLeDiff, Bool.not_true, Bool.not_false, e2_parts, isin_t]
  have u1 : uop .any (.lst (ends.map fun e => .bl (decide (e ∈ side)))) = some (.bl (ends.any fun e => decide (e ∈ side)), .sh) := by
    simp only [uop, bls_map, Option.map_some]
    rw [List.any_map]
    rfl
  have u2 : uop .all (.lst (ends.map fun e => .bl (decide (e ∈ side)))) = some (.bl (ends.all fun e => decide (e ∈ side)), .sh) := by
    simp only [uop, bls_map, Option.map_some]
    rw [List.all_map]
    rfl
  have c1 := c1
  have c2 := c2
  simp only [runD, evB, evS, evE, evA, evT, evAnd, evOr, evAndV, evOrV, evP, evI, mb_ok, mb_some, mb_er, op_some, keep_sh, keep_fr, blM_bl, intM_int, nerr_ok, Option.map_some, Option.bind_some, List.getElem?_cons_zero, List.getElem?_cons_succ, List.set_cons_zero, List.set_cons_succ, asgF, unpF, ownOf, appF, setAll, bindT, wipeR, List.length_cons, List.length_nil, List.map_cons, List.map_nil, List.replicate, List.cons_append, List.nil_append, if_true, Bool.false_eq_true, if_false, Nat.reduceAdd, Nat.reduceSub, Nat.zero_add, Nat.reduceEqDiff, Option.map_none, Nat.zero_le, Nat.reduceLT, Nat.reduceLeDiff, Bool.not_true, Bool.not_false] at c1 c2
  refine rrt rfl ?_
  rw [← hE]
  show evB Φ wf m_parts.body [.va (.tup (nsD side)), .va E, .no] = _
  simp only [m_parts]
  refine brt ?_
  unfold partsB
  simp only [runD, evB, evS, evE, evA, evT, evAnd, evOr, evAndV, evOrV, evP, evI, mb_ok, mb_some, mb_er, op_some, keep_sh, keep_fr, blM_bl, intM_int, nerr_ok, Option.map_some, Option.bind_some, List.getElem?_cons_zero, List.getElem?_cons_succ, List.set_cons_zero, List.set_cons_succ, asgF, unpF, ownOf, appF, setAll, bindT, wipeR, List.length_cons, List.length_nil, List.map_cons, List.map_nil, List.replicate, List.cons_append, List.nil_append, if_true, Bool.false_eq_true, if_false, Nat.reduceAdd, Nat.reduceSub, Nat.zero_add, Nat.reduceEqDiff, Option.map_none, Nat.zero_le, Nat.reduceLT, Nat.reduceLeDiff, Bool.not_true, Bool.not_false, iE, if_pos ht, c1, c2, u1, u2]
  cases ends.any fun e => decide (e ∈ side) <;> simp only [runD, evB, evS, evE, evA, evT, evAnd, evOr, evAndV, evOrV, evP, evI, mb_ok, mb_some, mb_er, op_some, keep_sh, keep_fr, blM_bl, intM_int, nerr_ok, Option.map_some, Option.bind_some, List.getElem?_cons_zero, List.getElem?_cons_succ, List.set_cons_zero, List.set_cons_succ, asgF, unpF, ownOf, appF, setAll, bindT, wipeR, List.length_cons, List.length_nil, List.map_cons, List.map_nil, List.replicate, List.cons_append, List.nil_append, if_true, Bool.false_eq_true, if_false, Nat.reduceAdd, Nat.reduceSub, Nat.zero_add, Nat.reduceEqDiff, Option.map_none, Nat.zero_le, Nat.reduceLT, Nat.reduceLeDiff, Bool.not_true, Bool.not_false, Bool.true_and, Bool.false_and]
/-! ### is_fraction -/
def SFrac (φ : List D → M D) : Prop := ∀ (d : D) (c : Nat), Tm c d → c ≤ 110 → φ [d] = ok (.bl (isPart d).isSome)
theorem int_of {x : D} (h : isInt x = true) : ∃ i, x = .int i := by
  cases x <;> first | exact ⟨_, rfl⟩ | cases h
theorem isPart_two {d : D} (h : ∀ a b, d = .tup [a, b] → isInt a = true → isInt b = true → False) : isPart d = none := by
  unfold isPart
  split
  · rename_i u l
    exact (h _ _ rfl rfl rfl).elim
  · rfl
theorem e1_frac {Φ : Tab} {x d : D} (h : nsc x = true) : nerr (mb (evE Φ e1_is_fraction [.va d, .va x]) keep) = some (.bl (isInt x)) := by
  cases x with
  | scr _ => cases h
  | _ => simp only [runD, evB, evS, evE, evA, evT, evAnd, evOr, evAndV, evOrV, evP, evI, mb_ok, mb_some, mb_er, op_some, keep_sh, keep_fr, blM_bl, intM_int, nerr_ok, Option.map_some, Option.bind_some, List.getElem?_cons_zero, List.getElem?_cons_succ, List.set_cons_zero, List.set_cons_succ, asgF, unpF, ownOf, appF, setAll, bindT, wipeR, List.length_cons, List.length_nil, List.map_cons, List.map_nil, List.replicate, List.cons_append, List.nil_append, if_true, Bool.false_eq_true, if_false, Nat.reduceAdd, Nat.reduceSub, Nat.zero_add, Nat.reduceEqDiff, Option.map_none, Nat.zero_le, Nat.reduceLT, Nat.reduceLeDiff, Bool.not_true, Bool.not_false, e1_is_fraction, isiD, isInt]
theorem fraction_ok {Φ : Tab} {wf : Nat} (hc : Fn Φ "common" SCommon) : SFrac (runD m_is_fraction Φ wf) := by
  intro d c h hc110
  obtain ⟨φ, f, s⟩ := hc
  refine rrt rfl ?_
  show evB Φ wf m_is_fraction.body [.va d, .no] = _
  simp only [m_is_fraction]
  cases d with
  | scr _ => exact absurd h.nsc (by simp [J.nsc])
  | tup xs =>
    obtain ⟨hl, hx⟩ := h.tup
    have len : uop .len (.tup xs) = some (nD xs.length, .sh) := by simp [uop, items, nD]
    by_cases h2 : xs.length = 2
    · obtain ⟨a, b, rfl⟩ : ∃ a b, xs = [a, b] := by
        cases xs with
        | nil => simp at h2
        | cons a r =>
          cases r with
          | nil => simp at h2
          | cons b r =>
            cases r with
            | nil => exact ⟨a, b, rfl⟩
            | cons c r => simp at h2
      have na := (hx a (by simp)).nsc
      have nb := (hx b (by simp)).nsc
      have len2 : uop .len (.tup [a, b]) = some (nD 2, .sh) := rfl
      refine (bnx (ρ' := [.va (.tup [a, b]), .no]) (by simp only [runD, evB, evS, evE, evA, evT, evAnd, evOr, evAndV, evOrV, evP, evI, mb_ok, mb_some, mb_er, op_some, keep_sh, keep_fr, blM_bl, intM_int, nerr_ok, Option.map_some, Option.bind_some, List.getElem?_cons_zero, List.getElem?_cons_succ, List.set_cons_zero, List.set_cons_succ, asgF, unpF, ownOf, appF, setAll, bindT, wipeR, List.length_cons, List.length_nil, List.map_cons, List.map_nil, List.replicate, List.cons_append, List.nil_append, if_true, Bool.false_eq_true, if_false, Nat.reduceAdd, Nat.reduceSub, Nat.zero_add, Nat.reduceEqDiff, Option.map_none, Nat.zero_le, Nat.reduceLT, Nat.reduceLeDiff, Bool.not_true, Bool.not_false, isiD, len2, kN, cop_nen, beqn])).trans ?_
      have un : uop .all (.lst [.bl (isInt a), .bl (isInt b)]) = some (.bl (isInt a && isInt b), .sh) := by simp [uop, D.bls]
      cases hi : isInt a && isInt b with
      | false =>
        have e : isPart (.tup [a, b]) = none := isPart_two fun a' b' e h1 h2 => by
          cases e
          rw [h1, h2] at hi
          cases hi
        rw [e]
        rw [hi] at un
        refine brt ?_
        simp only [runD, evB, evS, evE, evA, evT, evAnd, evOr, evAndV, evOrV, evP, evI, mb_ok, mb_some, mb_er, op_some, keep_sh, keep_fr, blM_bl, intM_int, nerr_ok, Option.map_some, Option.bind_some, List.getElem?_cons_zero, List.getElem?_cons_succ, List.set_cons_zero, List.set_cons_succ, asgF, unpF, ownOf, appF, setAll, bindT, wipeR, List.length_cons, List.length_nil, List.map_cons, List.map_nil, List.replicate, List.cons_append, List.nil_append, if_true, Bool.false_eq_true, if_false, Nat.reduceAdd, Nat.reduceSub, Nat.zero_add, Nat.reduceEqDiff, Option.map_none, Nat.zero_le, Nat.reduceLT, Nat.reduceLeDiff, Bool.not_true, Bool.not_false, items, top, compL, e1_frac na, e1_frac nb, un]
        rfl
      | true =>
        rw [Bool.and_eq_true] at hi
        obtain ⟨u, rfl⟩ := int_of hi.1
        obtain ⟨l, rfl⟩ := int_of hi.2
        have un : uop .all (.lst [.bl true, .bl true]) = some (.bl true, .sh) := rfl
        refine (bnx (ρ' := [.va (.tup [.int u, .int l]), .no]) (by
          simp only [runD, evB, evS, evE, evA, evT, evAnd, evOr, evAndV, evOrV, evP, evI, mb_ok, mb_some, mb_er, op_some, keep_sh, keep_fr, blM_bl, intM_int, nerr_ok, Option.map_some, Option.bind_some, List.getElem?_cons_zero, List.getElem?_cons_succ, List.set_cons_zero, List.set_cons_succ, asgF, unpF, ownOf, appF, setAll, bindT, wipeR, List.length_cons, List.length_nil, List.map_cons, List.map_nil, List.replicate, List.cons_append, List.nil_append, if_true, Bool.false_eq_true, if_false, Nat.reduceAdd, Nat.reduceSub, Nat.zero_add, Nat.reduceEqDiff, Option.map_none, Nat.zero_le, Nat.reduceLT, Nat.reduceLeDiff, Bool.not_true, Bool.not_false, items, top, compL, e1_frac na, e1_frac nb, isInt, un])).trans ?_
        refine brt ?_
        have i0 : ixD (.tup [.int u, .int l]) (nD 0) = some (.int u) := rfl
        have i1 : ixD (.tup [.int u, .int l]) (nD 1) = some (.int l) := rfl
        by_cases l0 : 0 < l
        · obtain ⟨n, rfl⟩ : ∃ n : Nat, l = n := ⟨l.natAbs, by omega⟩
          have tl : D.tame c (.int ((n : Nat) : Int)) = true := (hx (.int (n : Int)) (by simp)).t
          simp only [D.tame, Int.natAbs_natCast, decide_eq_true_eq] at tl
          have k := s u.natAbs n (Nat.lt_of_lt_of_le tl (pow_wf (by omega)))
          have k : φ [nD u.natAbs, .int (n : Int)] = _ := k
          have ab : uop .abs (.int u) = some (nD u.natAbs, .sh) := by
            simp only [uop, nD]
            congr 3
            split <;> omega
          have g1 : cop .gt (.int ((n : Nat) : Int)) (nD 0) = some true := by
            show cop .gt (nD n) (nD 0) = _
            rw [cop_gtn, decide_eq_true (by omega)]
          have ep : isPart (.tup [.int u, .int (n : Int)]) = if Nat.gcd n u.natAbs = 1 then some (mkRat u n) else none := by
            unfold isPart
            dsimp only
            rw [Int.natAbs_natCast]
            by_cases h : Nat.gcd n u.natAbs = 1
            · rw [if_pos ⟨l0, h⟩, if_pos h]
            · rw [if_neg fun z => h z.2, if_neg h]
          rw [ep]
          by_cases h : Nat.gcd n u.natAbs = 1
          · rw [if_pos h]
            rw [h] at k
            simp only [runD, evB, evS, evE, evA, evT, evAnd, evOr, evAndV, evOrV, evP, evI, mb_ok, mb_some, mb_er, op_some, keep_sh, keep_fr, blM_bl, intM_int, nerr_ok, Option.map_some, Option.bind_some, List.getElem?_cons_zero, List.getElem?_cons_succ, List.set_cons_zero, List.set_cons_succ, asgF, unpF, ownOf, appF, setAll, bindT, wipeR, List.length_cons, List.length_nil, List.map_cons, List.map_nil, List.replicate, List.cons_append, List.nil_append, if_true, Bool.false_eq_true, if_false, Nat.reduceAdd, Nat.reduceSub, Nat.zero_add, Nat.reduceEqDiff, Option.map_none, Nat.zero_le, Nat.reduceLT, Nat.reduceLeDiff, Bool.not_true, Bool.not_false, i0, i1, kN, g1, ab, f, k, cop_eqn, beqn]
            rfl
          · rw [if_neg h]
            have hb : (Nat.gcd n u.natAbs == 1) = false := by simpa using h
            simp only [runD, evB, evS, evE, evA, evT, evAnd, evOr, evAndV, evOrV, evP, evI, mb_ok, mb_some, mb_er, op_some, keep_sh, keep_fr, blM_bl, intM_int, nerr_ok, Option.map_some, Option.bind_some, List.getElem?_cons_zero, List.getElem?_cons_succ, List.set_cons_zero, List.set_cons_succ, asgF, unpF, ownOf, appF, setAll, bindT, wipeR, List.length_cons, List.length_nil, List.map_cons, List.map_nil, List.replicate, List.cons_append, List.nil_append, if_true, Bool.false_eq_true, if_false, Nat.reduceAdd, Nat.reduceSub, Nat.zero_add, Nat.reduceEqDiff, Option.map_none, Nat.zero_le, Nat.reduceLT, Nat.reduceLeDiff, Bool.not_true, Bool.not_false, i0, i1, kN, g1, ab, f, k, cop_eqn, hb]
            rfl
        · have g1 : cop .gt (.int l) (nD 0) = some false := by
            simp only [cop, nD]
            rw [decide_eq_false (by omega)]
          have ep : isPart (.tup [.int u, .int l]) = none := by
            unfold isPart
            dsimp only
            rw [if_neg fun z => l0 z.1]
          rw [ep]
          simp only [runD, evB, evS, evE, evA, evT, evAnd, evOr, evAndV, evOrV, evP, evI, mb_ok, mb_some, mb_er, op_some, keep_sh, keep_fr, blM_bl, intM_int, nerr_ok, Option.map_some, Option.bind_some, List.getElem?_cons_zero, List.getElem?_cons_succ, List.set_cons_zero, List.set_cons_succ, asgF, unpF, ownOf, appF, setAll, bindT, wipeR, List.length_cons, List.length_nil, List.map_cons, List.map_nil, List.replicate, List.cons_append, List.nil_append, if_true, Bool.false_eq_true, if_false, Nat.reduceAdd, Nat.reduceSub, Nat.zero_add, Nat.reduceEqDiff, Option.map_none, Nat.zero_le, Nat.reduceLT, Nat.reduceLeDiff, Bool.not_true, Bool.not_false, i1, kN, g1]
          rfl
    · have hb : (xs.length == 2) = false := by simpa using h2
      have e : isPart (.tup xs) = none := isPart_two fun a b e _ _ => by
        cases e
        exact h2 rfl
      rw [e]
      refine brt ?_
      simp only [runD, evB, evS, evE, evA, evT, evAnd, evOr, evAndV, evOrV, evP, evI, mb_ok, mb_some, mb_er, op_some, keep_sh, keep_fr, blM_bl, intM_int, nerr_ok, Option.map_some, Option.bind_some, List.getElem?_cons_zero, List.getElem?_cons_succ, List.set_cons_zero, List.set_cons_succ, asgF, unpF, ownOf, appF, setAll, bindT, wipeR, List.length_cons, List.length_nil, List.map_cons, List.map_nil, List.replicate, List.cons_append, List.nil_append, if_true, Bool.false_eq_true, if_false, Nat.reduceAdd, Nat.reduceSub, Nat.zero_add, Nat.reduceEqDiff, Option.map_none, Nat.zero_le, Nat.reduceLT, Nat.reduceLeDiff, Bool.not_true, Bool.not_false, isiD, len, kN, cop_nen, hb]
      rfl
  | _ =>
    refine brt ?_
    simp only [runD, evB, evS, evE, evA, evT, evAnd, evOr, evAndV, evOrV, evP, evI, mb_ok, mb_some, mb_er, op_some, keep_sh, keep_fr, blM_bl, intM_int, nerr_ok, Option.map_some, Option.bind_some, List.getElem?_cons_zero, List.getElem?_cons_succ, List.set_cons_zero, List.set_cons_succ, asgF, unpF, ownOf, appF, setAll, bindT, wipeR, List.length_cons, List.length_nil, List.map_cons, List.map_nil, List.replicate, List.cons_append, List.nil_append, if_true, Bool.false_eq_true, if_false, Nat.reduceAdd, Nat.reduceSub, Nat.zero_add, Nat.reduceEqDiff, Option.map_none, Nat.zero_le, Nat.reduceLT, Nat.reduceLeDiff, Bool.not_true, Bool.not_false, isiD, isPart]
    rfl
/-! ### are_fences -/
def isFence (m : Nat) (ends : List Nat) : D → Option Fence
  | .tup [a, b] => if areSome a m = true then (match isPart b with
    | some q => if 0 < q ∧ partsB (nats a) ends = true then some (nats a, q) else none
    | none => none) else none
  | _ => none
def fencesL (m : Nat) (ends : List Nat) : List D → Option (List Fence)
  | [] => some []
  | d :: ds => (isFence m ends d).bind fun f => (fencesL m ends ds).map (f :: ·)
def isFences (m : Nat) (ends : List Nat) : D → Option (List Fence)
  | .tup xs => fencesL m ends xs
  | _ => none
def prOk (fs : List Fence) (t : Tie) : Option Nat → Bool
  | none => true
  | some x => decide (loadR fs t ≤ (x : Rat))
def fits (fs : List Fence) (ts : List Tie) (prices : List (Option Nat)) : Bool := (ts.zip prices).all fun p => prOk fs p.1 p.2
def areFences (m : Nat) (ts : List Tie) (ends : List Nat) (prices : List (Option Nat)) (d : D) : Bool :=
  match isFences m ends d with
  | none => false
  | some fs => fits fs ts prices
structure FenceOk (m : Nat) (ends : List Nat) (f : Fence) : Prop where
  lt : ∀ x ∈ f.1, x < m
  up : f.1.Pairwise (· < ·)
  pos : 0 < f.2
  parts : partsB f.1 ends = true
theorem fence_some {m : Nat} {ends : List Nat} {d : D} {f : Fence} (h : isFence m ends d = some f) : d = fnD f ∧ FenceOk m ends f := by
  unfold isFence at h
  split at h
  · rename_i a b
    split at h
    · rename_i ha
      split at h
      · rename_i q hq
        split at h
        · rename_i c
          cases h
          obtain ⟨s, rfl, h1, h2⟩ := areSome_ns ha
          rw [nats_ns] at c ⊢
          rw [isPart_some hq]
          exact ⟨rfl, h1, h2, c.1, c.2⟩
        · cases h
      · cases h
    · cases h
  · cases h
theorem isF_no {m : Nat} {ends : List Nat} {a b : D} (h : areSome a m = false) : isFence m ends (.tup [a, b]) = none := by
  unfold isFence
  dsimp only
  rw [h]
  rfl
theorem isF_nf {m : Nat} {ends : List Nat} {a b : D} (h : isPart b = none) : isFence m ends (.tup [a, b]) = none := by
  unfold isFence
  dsimp only
  rw [h]
  simp
theorem isF_q {m : Nat} {ends : List Nat} {s : List Nat} {q : Rat} (h : areSome (.tup (nsD s)) m = true) : isFence m ends (.tup [.tup (nsD s), frD q]) = if 0 < q ∧ partsB s ends = true then some (s, q) else none := by
  unfold isFence
  dsimp only
  rw [if_pos h, isPart_fr]
  dsimp only
  rw [nats_ns]
theorem areSome_of {s : List Nat} {m : Nat} (h1 : ∀ x ∈ s, x < m) (h2 : s.Pairwise (· < ·)) : areSome (.tup (nsD s)) m = true := by
  unfold areSome
  simp only [ints_ns, Bool.and_eq_true, decide_eq_true_eq, List.all_eq_true]
  refine ⟨fun i hi => ?_, ?_⟩
  · obtain ⟨p, hp, rfl⟩ := List.mem_map.mp hi
    have := h1 p hp
    omega
  · rw [List.pairwise_map]
    exact h2.imp fun h => by omega
theorem fence_of {m : Nat} {ends : List Nat} {f : Fence} (h : FenceOk m ends f) : isFence m ends (fnD f) = some f := by
  unfold isFence fnD
  dsimp only
  rw [if_pos (areSome_of h.lt h.up), isPart_fr]
  dsimp only
  rw [nats_ns, if_pos ⟨h.pos, h.parts⟩]
theorem fencesL_some {m : Nat} {ends : List Nat} : ∀ {xs : List D} {fs : List Fence}, fencesL m ends xs = some fs → xs = fnsD fs ∧ ∀ f ∈ fs, FenceOk m ends f
  | [], fs, h => by cases h; exact ⟨rfl, fun f hf => (nomatch hf)⟩
  | d :: ds, fs, h => by
    simp only [fencesL, Option.bind_eq_some_iff, Option.map_eq_some_iff] at h
    obtain ⟨f, h1, gs, h2, rfl⟩ := h
    obtain ⟨e1, e2⟩ := fence_some h1
    obtain ⟨e3, e4⟩ := fencesL_some h2
    refine ⟨by rw [e1, e3]; rfl, fun g hg => ?_⟩
    rcases List.mem_cons.mp hg with rfl | hg
    · exact e2
    · exact e4 g hg
theorem fencesL_of {m : Nat} {ends : List Nat} : ∀ {fs : List Fence}, (∀ f ∈ fs, FenceOk m ends f) → fencesL m ends (fnsD fs) = some fs
  | [], _ => rfl
  | f :: fs, h => by
    show (isFence m ends (fnD f)).bind _ = _
    rw [fence_of (h f List.mem_cons_self), Option.bind_some, show fencesL m ends (List.map fnD fs) = some fs from fencesL_of fun g hg => h g (List.mem_cons_of_mem _ hg)]
    rfl
theorem fences_some {m : Nat} {ends : List Nat} {d : D} {fs : List Fence} (h : isFences m ends d = some fs) : d = .tup (fnsD fs) ∧ ∀ f ∈ fs, FenceOk m ends f := by
  unfold isFences at h
  split at h
  · obtain ⟨e1, e2⟩ := fencesL_some h
    exact ⟨by rw [e1], e2⟩
  · cases h
theorem fencesL_all {m : Nat} {ends : List Nat} : ∀ (xs : List D), (fencesL m ends xs).isSome = xs.all fun x => (isFence m ends x).isSome
  | [] => rfl
  | x :: xs => by
    rw [List.all_cons, ← fencesL_all xs]
    simp only [fencesL]
    cases isFence m ends x with
    | none => rfl
    | some f => cases fencesL m ends xs <;> rfl
theorem sm_fn {c : Nat} {f : Fence} (h : Tm c (fnD f)) : Sm c f.2 := sm_tame ((h.tup.2 (frD f.2) (by simp)).t)
def SIsFence (φ : List D → M D) : Prop := ∀ (m : Nat) (ts : List Tie) (ends : List Nat) (d : D) (c : Nat), ends.length < 64 → Tm c d → c ≤ 110 → φ [webD m ts, .tup (nsD ends), d] = ok (.bl (isFence m ends d).isSome)
theorem fr_zero : frD 0 = .tup [.int 0, .int 1] := rfl
theorem fence_ok {Φ : Tab} {wf : Nat} (hs : Fn Φ "are_some" SSome) (hf : Fn Φ "is_fraction" SFrac) (ha : Fn Φ "is_above" SAbove) (hp : Fn Φ "parts" SParts) : SIsFence (runD m_is_fence Φ wf) := by
  intro m ts ends d c hl h hc
  obtain ⟨φs, fs, ss⟩ := hs
  obtain ⟨φf, ff, sf⟩ := hf
  obtain ⟨φa, fa, sa⟩ := ha
  obtain ⟨φp, fp, sp⟩ := hp
  obtain ⟨E, hE⟩ : ∃ E, E = D.tup (nsD ends) := ⟨_, rfl⟩
  have ew0 : ixD (webD m ts) (nD 0) = some (nD m) := rfl
  refine rrt rfl ?_
  rw [← hE]
  show evB Φ wf m_is_fence.body [.va (webD m ts), .va E, .va d] = _
  simp only [m_is_fence]
  cases d with
  | scr _ => exact absurd h.nsc (by simp [J.nsc])
  | tup xs =>
    obtain ⟨hlen, hx⟩ := h.tup
    have len : uop .len (.tup xs) = some (nD xs.length, .sh) := by simp [uop, items, nD]
    by_cases h2 : xs.length = 2
    · obtain ⟨a, b, rfl⟩ : ∃ a b, xs = [a, b] := by
        cases xs with
        | nil => simp at h2
        | cons a r =>
          cases r with
          | nil => simp at h2
          | cons b r =>
            cases r with
            | nil => exact ⟨a, b, rfl⟩
            | cons c r => simp at h2
      have ta := hx a (by simp)
      have tb := hx b (by simp)
      have len2 : uop .len (.tup [a, b]) = some (nD 2, .sh) := rfl
      have i0 : ixD (.tup [a, b]) (nD 0) = some a := rfl
      have i1 : ixD (.tup [a, b]) (nD 1) = some b := rfl
      have k1 := ss a m ta.shal
      have k2 := sf b c tb hc
      cases has : areSome a m with
      | false =>
        rw [has] at k1
        rw [isF_no has]
        refine brt ?_
        simp only [runD, evB, evS, evE, evA, evT, evAnd, evOr, evAndV, evOrV, evP, evI, mb_ok, mb_some, mb_er, op_some, keep_sh, keep_fr, blM_bl, intM_int, nerr_ok, Option.map_some, Option.bind_some, List.getElem?_cons_zero, List.getElem?_cons_succ, List.set_cons_zero, List.set_cons_succ, asgF, unpF, ownOf, appF, setAll, bindT, wipeR, List.length_cons, List.length_nil, List.map_cons, List.map_nil, List.replicate, List.cons_append, List.nil_append, if_true, Bool.false_eq_true, if_false, Nat.reduceAdd, Nat.reduceSub, Nat.zero_add, Nat.reduceEqDiff, Option.map_none, Nat.zero_le, Nat.reduceLT, Nat.reduceLeDiff, Bool.not_true, Bool.not_false, isiD, len2, kN, cop_nen, beqn, i0, ew0, fs, k1]
        rfl
      | true =>
        rw [has] at k1
        obtain ⟨s, rfl, s1, s2⟩ := areSome_ns has
        refine (bnx (ρ' := [.va (webD m ts), .va E, .va (.tup [.tup (nsD s), b])]) (by
          simp only [runD, evB, evS, evE, evA, evT, evAnd, evOr, evAndV, evOrV, evP, evI, mb_ok, mb_some, mb_er, op_some, keep_sh, keep_fr, blM_bl, intM_int, nerr_ok, Option.map_some, Option.bind_some, List.getElem?_cons_zero, List.getElem?_cons_succ, List.set_cons_zero, List.set_cons_succ, asgF, unpF, ownOf, appF, setAll, bindT, wipeR, List.length_cons, List.length_nil, List.map_cons, List.map_nil, List.replicate, List.cons_append, List.nil_append, if_true, Bool.false_eq_true, if_false, Nat.reduceAdd, Nat.reduceSub, Nat.zero_add, Nat.reduceEqDiff, Option.map_none, Nat.zero_le, Nat.reduceLT, Nat.reduceLeDiff, Bool.not_true, Bool.not_false, isiD, len2, kN, cop_nen, beqn, i0, ew0, fs, k1])).trans ?_
        refine brt ?_
        cases hb : isPart b with
        | none =>
          rw [hb] at k2
          have k2 : φf [b] = ok (.bl false) := k2
          rw [isF_nf hb]
          simp only [runD, evB, evS, evE, evA, evT, evAnd, evOr, evAndV, evOrV, evP, evI, mb_ok, mb_some, mb_er, op_some, keep_sh, keep_fr, blM_bl, intM_int, nerr_ok, Option.map_some, Option.bind_some, List.getElem?_cons_zero, List.getElem?_cons_succ, List.set_cons_zero, List.set_cons_succ, asgF, unpF, ownOf, appF, setAll, bindT, wipeR, List.length_cons, List.length_nil, List.map_cons, List.map_nil, List.replicate, List.cons_append, List.nil_append, if_true, Bool.false_eq_true, if_false, Nat.reduceAdd, Nat.reduceSub, Nat.zero_add, Nat.reduceEqDiff, Option.map_none, Nat.zero_le, Nat.reduceLT, Nat.reduceLeDiff, Bool.not_true, Bool.not_false, kN, i1, ff, k2]
          rfl
        | some q =>
          rw [hb] at k2
          have k2 : φf [b] = ok (.bl true) := k2
          have eb := isPart_some hb
          subst eb
          rw [isF_q has]
          have k3 := sa q 0 c 1 (sm_tame tb.t) sm_zero (by omega)
          rw [fr_zero] at k3
          have k3 : φa [frD q, .tup [nD 0, nD 1]] = _ := k3
          have k4 := sp s ends hl
          rw [← hE] at k4
          by_cases hq : 0 < q
          · rw [decide_eq_true hq] at k3
            simp only [runD, evB, evS, evE, evA, evT, evAnd, evOr, evAndV, evOrV, evP, evI, mb_ok, mb_some, mb_er, op_some, keep_sh, keep_fr, blM_bl, intM_int, nerr_ok, Option.map_some, Option.bind_some, List.getElem?_cons_zero, List.getElem?_cons_succ, List.set_cons_zero, List.set_cons_succ, asgF, unpF, ownOf, appF, setAll, bindT, wipeR, List.length_cons, List.length_nil, List.map_cons, List.map_nil, List.replicate, List.cons_append, List.nil_append, if_true, Bool.false_eq_true, if_false, Nat.reduceAdd, Nat.reduceSub, Nat.zero_add, Nat.reduceEqDiff, Option.map_none, Nat.zero_le, Nat.reduceLT, Nat.reduceLeDiff, Bool.not_true, Bool.not_false, kN, i0, i1, ff, k2, top, fa, k3, fp, k4, hq, true_and]
            cases partsB s ends <;> rfl
          · rw [decide_eq_false hq] at k3
            simp only [runD, evB, evS, evE, evA, evT, evAnd, evOr, evAndV, evOrV, evP, evI, mb_ok, mb_some, mb_er, op_some, keep_sh, keep_fr, blM_bl, intM_int, nerr_ok, Option.map_some, Option.bind_some, List.getElem?_cons_zero, List.getElem?_cons_succ, List.set_cons_zero, List.set_cons_succ, asgF, unpF, ownOf, appF, setAll, bindT, wipeR, List.length_cons, List.length_nil, List.map_cons, List.map_nil, List.replicate, List.cons_append, List.nil_append, if_true, Bool.false_eq_true, if_false, Nat.reduceAdd, Nat.reduceSub, Nat.zero_add, Nat.reduceEqDiff, Option.map_none, Nat.zero_le, Nat.reduceLT, Nat.reduceLeDiff, Bool.not_true, Bool.not_false, kN, i0, i1, ff, k2, top, fa, k3, hq, false_and]
            rfl
    · have hb : (xs.length == 2) = false := by simpa using h2
      have e : isFence m ends (.tup xs) = none := by
        unfold isFence
        split
        · rename_i a b e
          cases e
          exact absurd rfl h2
        · rfl
      rw [e]
      refine brt ?_
      simp only [runD, evB, evS, evE, evA, evT, evAnd, evOr, evAndV, evOrV, evP, evI, mb_ok, mb_some, mb_er, op_some, keep_sh, keep_fr, blM_bl, intM_int, nerr_ok, Option.map_some, Option.bind_some, List.getElem?_cons_zero, List.getElem?_cons_succ, List.set_cons_zero, List.set_cons_succ, asgF, unpF, ownOf, appF, setAll, bindT, wipeR, List.length_cons, List.length_nil, List.map_cons, List.map_nil, List.replicate, List.cons_append, List.nil_append, if_true, Bool.false_eq_true, if_false, Nat.reduceAdd, Nat.reduceSub, Nat.zero_add, Nat.reduceEqDiff, Option.map_none, Nat.zero_le, Nat.reduceLT, Nat.reduceLeDiff, Bool.not_true, Bool.not_false, isiD, len, kN, cop_nen, hb]
      rfl
  | _ =>
    refine brt ?_
    simp only [runD, evB, evS, evE, evA, evT, evAnd, evOr, evAndV, evOrV, evP, evI, mb_ok, mb_some, mb_er, op_some, keep_sh, keep_fr, blM_bl, intM_int, nerr_ok, Option.map_some, Option.bind_some, List.getElem?_cons_zero, List.getElem?_cons_succ, List.set_cons_zero, List.set_cons_succ, asgF, unpF, ownOf, appF, setAll, bindT, wipeR, List.length_cons, List.length_nil, List.map_cons, List.map_nil, List.replicate, List.cons_append, List.nil_append, if_true, Bool.false_eq_true, if_false, Nat.reduceAdd, Nat.reduceSub, Nat.zero_add, Nat.reduceEqDiff, Option.map_none, Nat.zero_le, Nat.reduceLT, Nat.reduceLeDiff, Bool.not_true, Bool.not_false, isiD, isFence]
    rfl
def SFencesAt (φ : List D → M D) : Prop := ∀ (m : Nat) (ts : List Tie) (ends : List Nat) (d : D) (prices : List (Option Nat)) (c : Nat), ends.length < 64 → ts.length < 64 → Tm c d → c ≤ 110 → (∀ x n, x ∈ prices → x = some n → n < 2 ^ 64) → φ [webD m ts, .tup (nsD ends), d, .lst (prices.map optD)] = ok (.bl (areFences m ts ends prices d))
theorem zip_opt (ts : List Tie) (ps : List (Option Nat)) : (((ts.map tieD).zip (ps.map optD)).map fun p => D.tup [p.1, p.2]) = (ts.zip ps).map fun p => D.tup [tieD p.1, optD p.2] := by
  rw [List.zip_map, List.map_map]
  rfl
theorem sm_nat {n k : Nat} (h : n < 2 ^ k) (hk : 0 < k) : Sm k (n : Rat) := ⟨by rw [Rat.num_natCast, Int.natAbs_natCast]; exact h, by rw [Rat.den_natCast]; exact Nat.one_lt_two_pow (by omega)⟩
theorem fr_nat (n : Nat) : frD (n : Rat) = .tup [nD n, nD 1] := by
  unfold frD
  rw [Rat.num_natCast, Rat.den_natCast]
  rfl
theorem fencesAt_ok {Φ : Tab} {wf : Nat} (hi : Fn Φ "is_fence" SIsFence) (ha : Fn Φ "is_above" SAbove) (hlo : Fn Φ "load" SLoad) : SFencesAt (runD m_are_fences_at Φ wf) := by
  intro m ts ends d prices c hl ht h hc hpr
  obtain ⟨φi, fi, si⟩ := hi
  obtain ⟨φa, fa, sa⟩ := ha
  obtain ⟨φl, fl, sl⟩ := hlo
  obtain ⟨E, hE⟩ : ∃ E, E = D.tup (nsD ends) := ⟨_, rfl⟩
  obtain ⟨P, hP⟩ : ∃ P, P = D.lst (prices.map optD) := ⟨_, rfl⟩
  have ew1 : ixD (webD m ts) (nD 1) = some (.tup (ts.map tieD)) := rfl
  refine rrt rfl ?_
  rw [← hE, ← hP]
  show evB Φ wf m_are_fences_at.body [.va (webD m ts), .va E, .va d, .va P, .no, .no, .no] = _
  simp only [m_are_fences_at]
  cases d with
  | scr _ => exact absurd h.nsc (by simp [J.nsc])
  | tup xs =>
    obtain ⟨hlen, hx⟩ := h.tup
    have c1 : compL (fun d => (some [Sl.va (webD m ts), .va E, .va (.tup xs), .va P, .no, .no, .va d]).bind fun ρ' => (nerr (evT Φ .knon ρ')).bind fun b => if b = true then (nerr (mb (evE Φ e1_are_fences_at ρ') keep)).map some else some none) (xs.map id) = some (xs.map fun x => .bl (isFence m ends x).isSome) :=
      compL_map (g := fun x => .bl (isFence m ends x).isSome) fun x hx' => by
        have k := si m ts ends x c hl (hx x hx') hc
        rw [← hE] at k
        simp only [runD, evB, evS, evE, evA, evT, evAnd, evOr, evAndV, evOrV, evP, evI, mb_ok, mb_some, mb_er, op_some, keep_sh, keep_fr, blM_bl, intM_int, nerr_ok, Option.map_some, Option.bind_some, List.getElem?_cons_zero, List.getElem?_cons_succ, List.set_cons_zero, List.set_cons_succ, asgF, unpF, ownOf, appF, setAll, bindT, wipeR, List.length_cons, List.length_nil, List.map_cons, List.map_nil, List.replicate, List.cons_append, List.nil_append, if_true, Bool.false_eq_true, if_false, Nat.reduceAdd, Nat.reduceSub, Nat.zero_add, Nat.reduceEqDiff, Option.map_none, Nat.zero_le, Nat.reduceLT, Nat.reduceLeDiff, Bool.not_true, Bool.not_false, e1_are_fences_at, fi, id, k]
    rw [List.map_id] at c1
    have c1 := c1
    simp only [runD, evB, evS, evE, evA, evT, evAnd, evOr, evAndV, evOrV, evP, evI, mb_ok, mb_some, mb_er, op_some, keep_sh, keep_fr, blM_bl, intM_int, nerr_ok, Option.map_some, Option.bind_some, List.getElem?_cons_zero, List.getElem?_cons_succ, List.set_cons_zero, List.set_cons_succ, asgF, unpF, ownOf, appF, setAll, bindT, wipeR, List.length_cons, List.length_nil, List.map_cons, List.map_nil, List.replicate, List.cons_append, List.nil_append, if_true, Bool.false_eq_true, if_false, Nat.reduceAdd, Nat.reduceSub, Nat.zero_add, Nat.reduceEqDiff, Option.map_none, Nat.zero_le, Nat.reduceLT, Nat.reduceLeDiff, Bool.not_true, Bool.not_false] at c1
    have ht2 : xs.length ≤ top := by unfold top; omega
    have ua : uop .all (.lst (xs.map fun x => .bl (isFence m ends x).isSome)) = some (.bl (fencesL m ends xs).isSome, .sh) := by
      simp only [uop, bls_map, Option.map_some, fencesL_all]
      rw [List.all_map]
      rfl
    have ef : isFences m ends (.tup xs) = fencesL m ends xs := rfl
    unfold areFences
    rw [ef]
    cases hfs : fencesL m ends xs with
    | none =>
      rw [hfs] at ua
      have ua : uop .all (.lst (xs.map fun x => .bl (isFence m ends x).isSome)) = some (.bl false, .sh) := ua
      refine brt ?_
      simp only [runD, evB, evS, evE, evA, evT, evAnd, evOr, evAndV, evOrV, evP, evI, mb_ok, mb_some, mb_er, op_some, keep_sh, keep_fr, blM_bl, intM_int, nerr_ok, Option.map_some, Option.bind_some, List.getElem?_cons_zero, List.getElem?_cons_succ, List.set_cons_zero, List.set_cons_succ, asgF, unpF, ownOf, appF, setAll, bindT, wipeR, List.length_cons, List.length_nil, List.map_cons, List.map_nil, List.replicate, List.cons_append, List.nil_append, if_true, Bool.false_eq_true, if_false, Nat.reduceAdd, Nat.reduceSub, Nat.zero_add, Nat.reduceEqDiff, Option.map_none, Nat.zero_le, Nat.reduceLT, Nat.reduceLeDiff, Bool.not_true, Bool.not_false, isiD, items, if_pos ht2, c1, ua]
    | some fs =>
      rw [hfs] at ua
      have ua : uop .all (.lst (xs.map fun x => .bl (isFence m ends x).isSome)) = some (.bl true, .sh) := ua
      obtain ⟨rfl, fok⟩ := fencesL_some hfs
      have fsm : ∀ f ∈ fs, Sm c f.2 := fun f hf => sm_fn (hx (fnD f) (List.mem_map_of_mem hf))
      have flen : fs.length < 64 := by simpa [fnsD] using hlen
      refine (bnx (ρ' := [.va (webD m ts), .va E, .va (.tup (fnsD fs)), .va P, .no, .no, .no]) (by
        simp only [runD, evB, evS, evE, evA, evT, evAnd, evOr, evAndV, evOrV, evP, evI, mb_ok, mb_some, mb_er, op_some, keep_sh, keep_fr, blM_bl, intM_int, nerr_ok, Option.map_some, Option.bind_some, List.getElem?_cons_zero, List.getElem?_cons_succ, List.set_cons_zero, List.set_cons_succ, asgF, unpF, ownOf, appF, setAll, bindT, wipeR, List.length_cons, List.length_nil, List.map_cons, List.map_nil, List.replicate, List.cons_append, List.nil_append, if_true, Bool.false_eq_true, if_false, Nat.reduceAdd, Nat.reduceSub, Nat.zero_add, Nat.reduceEqDiff, Option.map_none, Nat.zero_le, Nat.reduceLT, Nat.reduceLeDiff, Bool.not_true, Bool.not_false, isiD, items, if_pos ht2, c1, ua])).trans ?_
      have step : ∀ (t : Tie) (x : Option Nat), (∀ n, x = some n → n < 2 ^ 64) → evB Φ wf l2_are_fences_at [.va (webD m ts), .va E, .va (.tup (fnsD fs)), .va P, .va (tieD t), .va (optD x), .no]
          = if prOk fs t x = true then ok (.nx [.va (webD m ts), .va E, .va (.tup (fnsD fs)), .va P, .va (tieD t), .va (optD x), .no]) else ok (.rt (.bl false)) := by
        intro t x hx
        cases x with
        | none =>
          have q : cop .notN (optD none) .non = some false := rfl
          simp only [runD, evB, evS, evE, evA, evT, evAnd, evOr, evAndV, evOrV, evP, evI, mb_ok, mb_some, mb_er, op_some, keep_sh, keep_fr, blM_bl, intM_int, nerr_ok, Option.map_some, Option.bind_some, List.getElem?_cons_zero, List.getElem?_cons_succ, List.set_cons_zero, List.set_cons_succ, asgF, unpF, ownOf, appF, setAll, bindT, wipeR, List.length_cons, List.length_nil, List.map_cons, List.map_nil, List.replicate, List.cons_append, List.nil_append, if_true, Bool.false_eq_true, if_false, Nat.reduceAdd, Nat.reduceSub, Nat.zero_add, Nat.reduceEqDiff, Option.map_none, Nat.zero_le, Nat.reduceLT, Nat.reduceLeDiff, Bool.not_true, Bool.not_false, l2_are_fences_at, q, prOk]
        | some n =>
          have q : cop .notN (nD n) .non = some true := rfl
          have k1 := sl fs t c flen hc fsm
          have hb := len_bits flen hc
          have hlf : (fs.filter fun f => crosses f.1 t).length * (c + 1) ≤ 6993 := Nat.le_trans (Nat.mul_le_mul_right _ (List.length_filter_le _ _)) hb
          have k2 := sa (loadR fs t) (n : Rat) _ 64 (sm_worth (c := c) fun f hf => fsm f (List.mem_filter.mp hf).1) (sm_nat (hx n rfl) (by decide)) (by omega)
          rw [fr_nat] at k2
          rw [show optD (some n) = nD n from rfl]
          by_cases hle : loadR fs t ≤ (n : Rat)
          · have hn : ¬ (n : Rat) < loadR fs t := by grind
            rw [decide_eq_false hn] at k2
            simp only [runD, evB, evS, evE, evA, evT, evAnd, evOr, evAndV, evOrV, evP, evI, mb_ok, mb_some, mb_er, op_some, keep_sh, keep_fr, blM_bl, intM_int, nerr_ok, Option.map_some, Option.bind_some, List.getElem?_cons_zero, List.getElem?_cons_succ, List.set_cons_zero, List.set_cons_succ, asgF, unpF, ownOf, appF, setAll, bindT, wipeR, List.length_cons, List.length_nil, List.map_cons, List.map_nil, List.replicate, List.cons_append, List.nil_append, if_true, Bool.false_eq_true, if_false, Nat.reduceAdd, Nat.reduceSub, Nat.zero_add, Nat.reduceEqDiff, Option.map_none, Nat.zero_le, Nat.reduceLT, Nat.reduceLeDiff, Bool.not_true, Bool.not_false, l2_are_fences_at, q, fl, k1, kN, top, fa, k2, prOk, hle, decide_true]
          · have hn : (n : Rat) < loadR fs t := by grind
            rw [decide_eq_true hn] at k2
            simp only [runD, evB, evS, evE, evA, evT, evAnd, evOr, evAndV, evOrV, evP, evI, mb_ok, mb_some, mb_er, op_some, keep_sh, keep_fr, blM_bl, intM_int, nerr_ok, Option.map_some, Option.bind_some, List.getElem?_cons_zero, List.getElem?_cons_succ, List.set_cons_zero, List.set_cons_succ, asgF, unpF, ownOf, appF, setAll, bindT, wipeR, List.length_cons, List.length_nil, List.map_cons, List.map_nil, List.replicate, List.cons_append, List.nil_append, if_true, Bool.false_eq_true, if_false, Nat.reduceAdd, Nat.reduceSub, Nat.zero_add, Nat.reduceEqDiff, Option.map_none, Nat.zero_le, Nat.reduceLT, Nat.reduceLeDiff, Bool.not_true, Bool.not_false, l2_are_fences_at, q, fl, k1, kN, top, fa, k2, prOk, hle, decide_false]
      have loop : ∀ (l : List (Tie × Option Nat)) (a4 a5 : Sl), (∀ p ∈ l, ∀ n, p.2 = some n → n < 2 ^ 64) → if (l.all fun p => prOk fs p.1 p.2) = true
          then ∃ b4 b5, forL (bindT false [4, 5]) (fun ρ => evB Φ wf l2_are_fences_at ρ) (l.map fun p => D.tup [tieD p.1, optD p.2]) [.va (webD m ts), .va E, .va (.tup (fnsD fs)), .va P, a4, a5, .no] = ok (.nx [.va (webD m ts), .va E, .va (.tup (fnsD fs)), .va P, b4, b5, .no])
          else forL (bindT false [4, 5]) (fun ρ => evB Φ wf l2_are_fences_at ρ) (l.map fun p => D.tup [tieD p.1, optD p.2]) [.va (webD m ts), .va E, .va (.tup (fnsD fs)), .va P, a4, a5, .no] = ok (.rt (.bl false)) := by
        intro l
        induction l with
        | nil => intro a4 a5 _; exact ⟨a4, a5, rfl⟩
        | cons p l ih =>
          intro a4 a5 hp
          have s1 := step p.1 p.2 (hp p List.mem_cons_self)
          have ih := ih (.va (tieD p.1)) (.va (optD p.2)) fun z hz => hp z (List.mem_cons_of_mem _ hz)
          have eb : bindT false [4, 5] (.tup [tieD p.1, optD p.2]) [.va (webD m ts), .va E, .va (.tup (fnsD fs)), .va P, a4, a5, .no] = some [.va (webD m ts), .va E, .va (.tup (fnsD fs)), .va P, .va (tieD p.1), .va (optD p.2), .no] := rfl
          simp only [List.map_cons, forL, eb, s1, List.all_cons]
          cases hm : prOk fs p.1 p.2 with
          | false => rfl
          | true => simpa only [Bool.true_and, if_true, mb_ok] using ih
      have h := loop (ts.zip prices) .no .no fun p hp n e => hpr p.2 n (List.of_mem_zip hp).2 e
      have iP : items P = some (prices.map optD) := by rw [hP]; rfl
      have iT : items (.tup (ts.map tieD)) = some (ts.map tieD) := rfl
      cases hfi : fits fs ts prices with
      | false =>
        have hg := hfi
        unfold fits at hfi
        rw [hfi] at h
        simp only [Bool.false_eq_true, if_false] at h
        refine brt ?_
        simp only [runD, evB, evS, evE, evA, evT, evAnd, evOr, evAndV, evOrV, evP, evI, mb_ok, mb_some, mb_er, op_some, keep_sh, keep_fr, blM_bl, intM_int, nerr_ok, Option.map_some, Option.bind_some, List.getElem?_cons_zero, List.getElem?_cons_succ, List.set_cons_zero, List.set_cons_succ, asgF, unpF, ownOf, appF, setAll, bindT, wipeR, List.length_cons, List.length_nil, List.map_cons, List.map_nil, List.replicate, List.cons_append, List.nil_append, if_true, Bool.false_eq_true, if_false, Nat.reduceAdd, Nat.reduceSub, Nat.zero_add, Nat.reduceEqDiff, Option.map_none, Nat.zero_le, Nat.reduceLT, Nat.reduceLeDiff, Bool.not_true, Bool.not_false, kN, ew1, iT, iP, zip_opt, h, hg]
      | true =>
        have hg := hfi
        unfold fits at hfi
        rw [hfi] at h
        simp only [if_true] at h
        obtain ⟨b4, b5, h⟩ := h
        refine (bnx (ρ' := [.va (webD m ts), .va E, .va (.tup (fnsD fs)), .va P, b4, b5, .no]) (by
          simp only [runD, evB, evS, evE, evA, evT, evAnd, evOr, evAndV, evOrV, evP, evI, mb_ok, mb_some, mb_er, op_some, keep_sh, keep_fr, blM_bl, intM_int, nerr_ok, Option.map_some, Option.bind_some, List.getElem?_cons_zero, List.getElem?_cons_succ, List.set_cons_zero, List.set_cons_succ, asgF, unpF, ownOf, appF, setAll, bindT, wipeR, List.length_cons, List.length_nil, List.map_cons, List.map_nil, List.replicate, List.cons_append, List.nil_append, if_true, Bool.false_eq_true, if_false, Nat.reduceAdd, Nat.reduceSub, Nat.zero_add, Nat.reduceEqDiff, Option.map_none, Nat.zero_le, Nat.reduceLT, Nat.reduceLeDiff, Bool.not_true, Bool.not_false, kN, ew1, iT, iP, zip_opt, h])).trans ?_
        refine brt ?_
        simp only [runD, evB, evS, evE, evA, evT, evAnd, evOr, evAndV, evOrV, evP, evI, mb_ok, mb_some, mb_er, op_some, keep_sh, keep_fr, blM_bl, intM_int, nerr_ok, Option.map_some, Option.bind_some, List.getElem?_cons_zero, List.getElem?_cons_succ, List.set_cons_zero, List.set_cons_succ, asgF, unpF, ownOf, appF, setAll, bindT, wipeR, List.length_cons, List.length_nil, List.map_cons, List.map_nil, List.replicate, List.cons_append, List.nil_append, if_true, Bool.false_eq_true, if_false, Nat.reduceAdd, Nat.reduceSub, Nat.zero_add, Nat.reduceEqDiff, Option.map_none, Nat.zero_le, Nat.reduceLT, Nat.reduceLeDiff, Bool.not_true, Bool.not_false, hg]
  | _ =>
    refine brt ?_
    simp only [runD, evB, evS, evE, evA, evT, evAnd, evOr, evAndV, evOrV, evP, evI, mb_ok, mb_some, mb_er, op_some, keep_sh, keep_fr, blM_bl, intM_int, nerr_ok, Option.map_some, Option.bind_some, List.getElem?_cons_zero, List.getElem?_cons_succ, List.set_cons_zero, List.set_cons_succ, asgF, unpF, ownOf, appF, setAll, bindT, wipeR, List.length_cons, List.length_nil, List.map_cons, List.map_nil, List.replicate, List.cons_append, List.nil_append, if_true, Bool.false_eq_true, if_false, Nat.reduceAdd, Nat.reduceSub, Nat.zero_add, Nat.reduceEqDiff, Option.map_none, Nat.zero_le, Nat.reduceLT, Nat.reduceLeDiff, Bool.not_true, Bool.not_false, isiD, areFences, isFences]
def SFences (φ : List D → M D) : Prop := ∀ (m : Nat) (ts : List Tie) (ends : List Nat) (d : D) (c : Nat), ends.length < 64 → ts.length < 64 → (∀ t ∈ ts, t.2.2 < 2 ^ 64) → Tm c d → c ≤ 110 → φ [webD m ts, .tup (nsD ends), d] = ok (.bl (areFences m ts ends (ts.map fun t => some t.2.2) d))
end J

set_option Elab.async false
set_option linter.all false
set_option maxRecDepth 100000
set_option maxHeartbeats 4000000
/-! fences, by the law -/
namespace J
open PySem PV
theorem lt_mk {p l : Nat} {u : Int} (h : 0 < l) : (p : Rat) < mkRat u l ↔ (p : Int) * (l : Int) < u := by
  rw [Rat.mkRat_eq_div]
  have hl : (0 : Rat) < (l : Rat) := by exact_mod_cast h
  constructor
  · intro q
    have q2 : (p : Rat) * (l : Rat) < (u : Rat) := by
      have := Rat.mul_lt_mul_of_pos_right q hl
      rw [Rat.div_mul_cancel] at this
      · exact this
      · grind
    exact_mod_cast q2
  · intro q
    have q2 : (p : Rat) * (l : Rat) < (u : Rat) := by exact_mod_cast q
    rw [Rat.lt_div_iff hl]
    exact q2
theorem Tm.fd {c : Nat} {d : D} (h : Tm c d) : Fd 60 d := ⟨h.p, h.d⟩
theorem cop_ne_nil {c : Nat} {xs : List D} (h : ∀ x ∈ xs, Tm c x) : cop .ne (.lst xs) (.lst []) = some (!xs.isEmpty) := by
  have f1 : (D.lst xs).fine = true := (Fd.lst (n := 60) fun x hx => (h x hx).fd).fine (by decide)
  have f2 : (D.lst []).fine = true := rfl
  simp only [cop, f1, f2, Bool.and_self, if_true, D.eqv]
  cases xs <;> rfl
theorem q1_part {Φ : Tab} {x d : D} {a b : Sl} (h : nsc x = true) : evT Φ q1__law_is_part [.va d, a, b, .va x] = ok (!isInt x) := by
  cases x with
  | scr _ => cases h
  | _ => simp only [runD, evB, evS, evE, evA, evT, evAnd, evOr, evAndV, evOrV, evP, evI, mb_ok, mb_some, mb_er, op_some, keep_sh, keep_fr, blM_bl, intM_int, nerr_ok, Option.map_some, Option.bind_some, List.getElem?_cons_zero, List.getElem?_cons_succ, List.set_cons_zero, List.set_cons_succ, asgF, unpF, ownOf, appF, setAll, bindT, wipeR, List.length_cons, List.length_nil, List.map_cons, List.map_nil, List.replicate, List.cons_append, List.nil_append, if_true, Bool.false_eq_true, if_false, Nat.reduceAdd, Nat.reduceSub, Nat.zero_add, Nat.reduceEqDiff, Option.map_none, Nat.zero_le, Nat.reduceLT, Nat.reduceLeDiff, Bool.not_true, Bool.not_false, q1__law_is_part, isiD, isInt]
theorem law_part_ok {Φ : Tab} : SFrac (runD m__law_is_part Φ WF) := by
  intro d c h hc110
  refine rrt rfl ?_
  show evB Φ WF m__law_is_part.body [.va d, .no, .no, .no] = _
  simp only [m__law_is_part]
  cases d with
  | scr _ => exact absurd h.nsc (by simp [J.nsc])
  | tup xs =>
    obtain ⟨hl, hx⟩ := h.tup
    have len : uop .len (.tup xs) = some (nD xs.length, .sh) := by simp [uop, items, nD]
    by_cases h2 : xs.length = 2
    · obtain ⟨a, b, rfl⟩ : ∃ a b, xs = [a, b] := by
        cases xs with
        | nil => simp at h2
        | cons a r =>
          cases r with
          | nil => simp at h2
          | cons b r =>
            cases r with
            | nil => exact ⟨a, b, rfl⟩
            | cons c r => simp at h2
      have na := (hx a (by simp)).nsc
      have nb := (hx b (by simp)).nsc
      have len2 : uop .len (.tup [a, b]) = some (nD 2, .sh) := rfl
      have c1 : compL (fun d => (some [Sl.va (.tup [a, b]), .no, .no, .va d]).bind fun ρ' => (nerr (evT Φ (.som q1__law_is_part) ρ')).bind fun b => if b = true then (nerr (mb (evE Φ (.var 3) ρ') keep)).map some else some none) ([a, b].map id) = some (([a, b].filter fun x => !isInt x).map id) :=
        compL_filt fun x hx' => by
          have q := q1_part (Φ := Φ) (x := id x) (d := .tup [a, b]) (a := .no) (b := .no) (hx x hx').nsc
          have q2 : evT Φ (.som q1__law_is_part) [Sl.va (.tup [a, b]), .no, .no, .va (id x)] = ok (!isInt x) := q
          simp only [q2, nerr_ok, Option.bind_some]
          cases isInt x <;> simp only [runD, evB, evS, evE, evA, evT, evAnd, evOr, evAndV, evOrV, evP, evI, mb_ok, mb_some, mb_er, op_some, keep_sh, keep_fr, blM_bl, intM_int, nerr_ok, Option.map_some, Option.bind_some, List.getElem?_cons_zero, List.getElem?_cons_succ, List.set_cons_zero, List.set_cons_succ, asgF, unpF, ownOf, appF, setAll, bindT, wipeR, List.length_cons, List.length_nil, List.map_cons, List.map_nil, List.replicate, List.cons_append, List.nil_append, if_true, Bool.false_eq_true, if_false, Nat.reduceAdd, Nat.reduceSub, Nat.zero_add, Nat.reduceEqDiff, Option.map_none, Nat.zero_le, Nat.reduceLT, Nat.reduceLeDiff, Bool.not_true, Bool.not_false, id]
      rw [List.map_id, List.map_id] at c1
      have c2 := cop_ne_nil (c := c) (xs := [a, b].filter fun x => !isInt x) fun x hx' => hx x (List.mem_filter.mp hx').1
      have c1 := c1
      simp only [runD, evB, evS, evE, evA, evT, evAnd, evOr, evAndV, evOrV, evP, evI, mb_ok, mb_some, mb_er, op_some, keep_sh, keep_fr, blM_bl, intM_int, nerr_ok, Option.map_some, Option.bind_some, List.getElem?_cons_zero, List.getElem?_cons_succ, List.set_cons_zero, List.set_cons_succ, asgF, unpF, ownOf, appF, setAll, bindT, wipeR, List.length_cons, List.length_nil, List.map_cons, List.map_nil, List.replicate, List.cons_append, List.nil_append, if_true, Bool.false_eq_true, if_false, Nat.reduceAdd, Nat.reduceSub, Nat.zero_add, Nat.reduceEqDiff, Option.map_none, Nat.zero_le, Nat.reduceLT, Nat.reduceLeDiff, Bool.not_true, Bool.not_false] at c1
      refine (bnx (ρ' := [.va (.tup [a, b]), .no, .no, .no]) (by simp only [runD, evB, evS, evE, evA, evT, evAnd, evOr, evAndV, evOrV, evP, evI, mb_ok, mb_some, mb_er, op_some, keep_sh, keep_fr, blM_bl, intM_int, nerr_ok, Option.map_some, Option.bind_some, List.getElem?_cons_zero, List.getElem?_cons_succ, List.set_cons_zero, List.set_cons_succ, asgF, unpF, ownOf, appF, setAll, bindT, wipeR, List.length_cons, List.length_nil, List.map_cons, List.map_nil, List.replicate, List.cons_append, List.nil_append, if_true, Bool.false_eq_true, if_false, Nat.reduceAdd, Nat.reduceSub, Nat.zero_add, Nat.reduceEqDiff, Option.map_none, Nat.zero_le, Nat.reduceLT, Nat.reduceLeDiff, Bool.not_true, Bool.not_false, isiD, len2, kN, cop_nen, beqn])).trans ?_
      cases hi : isInt a && isInt b with
      | false =>
        have e : isPart (.tup [a, b]) = none := isPart_two fun a' b' e h1 h2 => by
          cases e
          rw [h1, h2] at hi
          cases hi
        rw [e]
        have e2 : ([a, b].filter fun x => !isInt x).isEmpty = false := by
          cases h1 : isInt a
          · simp [h1]
          · rw [h1, Bool.true_and] at hi
            simp [h1, hi]
        rw [e2] at c2
        refine brt ?_
        simp only [runD, evB, evS, evE, evA, evT, evAnd, evOr, evAndV, evOrV, evP, evI, mb_ok, mb_some, mb_er, op_some, keep_sh, keep_fr, blM_bl, intM_int, nerr_ok, Option.map_some, Option.bind_some, List.getElem?_cons_zero, List.getElem?_cons_succ, List.set_cons_zero, List.set_cons_succ, asgF, unpF, ownOf, appF, setAll, bindT, wipeR, List.length_cons, List.length_nil, List.map_cons, List.map_nil, List.replicate, List.cons_append, List.nil_append, if_true, Bool.false_eq_true, if_false, Nat.reduceAdd, Nat.reduceSub, Nat.zero_add, Nat.reduceEqDiff, Option.map_none, Nat.zero_le, Nat.reduceLT, Nat.reduceLeDiff, Bool.not_true, Bool.not_false, items, top, c1, c2]
        rfl
      | true =>
        rw [Bool.and_eq_true] at hi
        have e2 : ([a, b].filter fun x => !isInt x).isEmpty = true := by simp [hi.1, hi.2]
        rw [e2] at c2
        obtain ⟨u, rfl⟩ := int_of hi.1
        obtain ⟨l, rfl⟩ := int_of hi.2
        refine (bnx (ρ' := [.va (.tup [.int u, .int l]), .no, .no, .no]) (by
          simp only [runD, evB, evS, evE, evA, evT, evAnd, evOr, evAndV, evOrV, evP, evI, mb_ok, mb_some, mb_er, op_some, keep_sh, keep_fr, blM_bl, intM_int, nerr_ok, Option.map_some, Option.bind_some, List.getElem?_cons_zero, List.getElem?_cons_succ, List.set_cons_zero, List.set_cons_succ, asgF, unpF, ownOf, appF, setAll, bindT, wipeR, List.length_cons, List.length_nil, List.map_cons, List.map_nil, List.replicate, List.cons_append, List.nil_append, if_true, Bool.false_eq_true, if_false, Nat.reduceAdd, Nat.reduceSub, Nat.zero_add, Nat.reduceEqDiff, Option.map_none, Nat.zero_le, Nat.reduceLT, Nat.reduceLeDiff, Bool.not_true, Bool.not_false, items, top, c1, c2])).trans ?_
        have i0 : ixD (.tup [.int u, .int l]) (nD 0) = some (.int u) := rfl
        have i1 : ixD (.tup [.int u, .int l]) (nD 1) = some (.int l) := rfl
        by_cases l0 : 0 < l
        · obtain ⟨n, rfl⟩ : ∃ n : Nat, l = n := ⟨l.natAbs, by omega⟩
          have tl : D.tame c (.int ((n : Nat) : Int)) = true := (hx (.int (n : Int)) (by simp)).t
          simp only [D.tame, Int.natAbs_natCast, decide_eq_true_eq] at tl
          have ab : uop .abs (.int u) = some (nD u.natAbs, .sh) := by
            simp only [uop, nD]
            congr 3
            split <;> omega
          have g1 : cop .lt (.int ((n : Nat) : Int)) (nD 1) = some false := by
            show cop .lt (nD n) (nD 1) = _
            rw [cop_ltn, decide_eq_false (by omega)]
          have loop : ∀ (k a b : Nat), b < k → ∃ g, whileL (fun ρ => evT Φ t2__law_is_part ρ) (fun ρ => evB Φ WF l3__law_is_part ρ) k [.va (.tup [.int u, .int (n : Int)]), .va (nD a), .va (nD b), .no] = ok (.nx [.va (.tup [.int u, .int (n : Int)]), .va (nD (Nat.gcd b a)), g, .no]) := by
            intro k
            induction k with
            | zero => intro a b h; omega
            | succ k ih =>
              intro a b h
              by_cases h0 : b = 0
              · subst h0
                refine ⟨.va (nD 0), ?_⟩
                simp only [whileL, runD, evB, evS, evE, evA, evT, evAnd, evOr, evAndV, evOrV, evP, evI, mb_ok, mb_some, mb_er, op_some, keep_sh, keep_fr, blM_bl, intM_int, nerr_ok, Option.map_some, Option.bind_some, List.getElem?_cons_zero, List.getElem?_cons_succ, List.set_cons_zero, List.set_cons_succ, asgF, unpF, ownOf, appF, setAll, bindT, wipeR, List.length_cons, List.length_nil, List.map_cons, List.map_nil, List.replicate, List.cons_append, List.nil_append, if_true, Bool.false_eq_true, if_false, Nat.reduceAdd, Nat.reduceSub, Nat.zero_add, Nat.reduceEqDiff, Option.map_none, Nat.zero_le, Nat.reduceLT, Nat.reduceLeDiff, Bool.not_true, Bool.not_false, t2__law_is_part, kN, cop_nen, beq_self_eq_true, Nat.gcd_zero_left]
              · have hb0 : (b == 0) = false := by simpa using h0
                obtain ⟨g, e⟩ := ih b (a % b) (by have := Nat.mod_lt a (show 0 < b by omega); omega)
                refine ⟨g, ?_⟩
                have q : bop .mod (nD a) (nD b) = some (nD (a % b), .sh) := bmod_n a b (by omega)
                have st : evB Φ WF l3__law_is_part [.va (.tup [.int u, .int (n : Int)]), .va (nD a), .va (nD b), .no] = ok (.nx [.va (.tup [.int u, .int (n : Int)]), .va (nD b), .va (nD (a % b)), .no]) := by
                  simp only [runD, evB, evS, evE, evA, evT, evAnd, evOr, evAndV, evOrV, evP, evI, mb_ok, mb_some, mb_er, op_some, keep_sh, keep_fr, blM_bl, intM_int, nerr_ok, Option.map_some, Option.bind_some, List.getElem?_cons_zero, List.getElem?_cons_succ, List.set_cons_zero, List.set_cons_succ, asgF, unpF, ownOf, appF, setAll, bindT, wipeR, List.length_cons, List.length_nil, List.map_cons, List.map_nil, List.replicate, List.cons_append, List.nil_append, if_true, Bool.false_eq_true, if_false, Nat.reduceAdd, Nat.reduceSub, Nat.zero_add, Nat.reduceEqDiff, Option.map_none, Nat.zero_le, Nat.reduceLT, Nat.reduceLeDiff, Bool.not_true, Bool.not_false, l3__law_is_part, q]
                have t : evT Φ t2__law_is_part [.va (.tup [.int u, .int (n : Int)]), .va (nD a), .va (nD b), .no] = ok true := by
                  simp only [runD, evB, evS, evE, evA, evT, evAnd, evOr, evAndV, evOrV, evP, evI, mb_ok, mb_some, mb_er, op_some, keep_sh, keep_fr, blM_bl, intM_int, nerr_ok, Option.map_some, Option.bind_some, List.getElem?_cons_zero, List.getElem?_cons_succ, List.set_cons_zero, List.set_cons_succ, asgF, unpF, ownOf, appF, setAll, bindT, wipeR, List.length_cons, List.length_nil, List.map_cons, List.map_nil, List.replicate, List.cons_append, List.nil_append, if_true, Bool.false_eq_true, if_false, Nat.reduceAdd, Nat.reduceSub, Nat.zero_add, Nat.reduceEqDiff, Option.map_none, Nat.zero_le, Nat.reduceLT, Nat.reduceLeDiff, Bool.not_true, Bool.not_false, t2__law_is_part, kN, cop_nen, hb0]
                have gg : Nat.gcd (a % b) b = Nat.gcd b a := (Nat.gcd_rec b a).symm
                rw [gg] at e
                simp only [whileL, t, mb_ok, if_true, st, e]
          obtain ⟨g, e⟩ := loop WF u.natAbs n (Nat.lt_of_lt_of_le tl (pow_wf (by omega)))
          have ep : isPart (.tup [.int u, .int (n : Int)]) = if Nat.gcd n u.natAbs = 1 then some (mkRat u n) else none := by
            unfold isPart
            dsimp only
            rw [Int.natAbs_natCast]
            by_cases h : Nat.gcd n u.natAbs = 1
            · rw [if_pos ⟨l0, h⟩, if_pos h]
            · rw [if_neg fun z => h z.2, if_neg h]
          rw [ep]
          have i1 : ixD (.tup [.int u, .int (n : Int)]) (nD 1) = some (nD n) := rfl
          have i0 : ixD (.tup [.int u, .int (n : Int)]) (nD 0) = some (.int u) := rfl
          have g1 : cop .lt (nD n) (nD 1) = some false := g1
          refine (bnx (ρ' := [.va (.tup [.int u, .int (n : Int)]), .no, .no, .no]) (by simp only [runD, evB, evS, evE, evA, evT, evAnd, evOr, evAndV, evOrV, evP, evI, mb_ok, mb_some, mb_er, op_some, keep_sh, keep_fr, blM_bl, intM_int, nerr_ok, Option.map_some, Option.bind_some, List.getElem?_cons_zero, List.getElem?_cons_succ, List.set_cons_zero, List.set_cons_succ, asgF, unpF, ownOf, appF, setAll, bindT, wipeR, List.length_cons, List.length_nil, List.map_cons, List.map_nil, List.replicate, List.cons_append, List.nil_append, if_true, Bool.false_eq_true, if_false, Nat.reduceAdd, Nat.reduceSub, Nat.zero_add, Nat.reduceEqDiff, Option.map_none, Nat.zero_le, Nat.reduceLT, Nat.reduceLeDiff, Bool.not_true, Bool.not_false, kN, i1, g1])).trans ?_
          refine (bnx (ρ' := [.va (.tup [.int u, .int (n : Int)]), .va (nD u.natAbs), .va (nD n), .no]) (by simp only [runD, evB, evS, evE, evA, evT, evAnd, evOr, evAndV, evOrV, evP, evI, mb_ok, mb_some, mb_er, op_some, keep_sh, keep_fr, blM_bl, intM_int, nerr_ok, Option.map_some, Option.bind_some, List.getElem?_cons_zero, List.getElem?_cons_succ, List.set_cons_zero, List.set_cons_succ, asgF, unpF, ownOf, appF, setAll, bindT, wipeR, List.length_cons, List.length_nil, List.map_cons, List.map_nil, List.replicate, List.cons_append, List.nil_append, if_true, Bool.false_eq_true, if_false, Nat.reduceAdd, Nat.reduceSub, Nat.zero_add, Nat.reduceEqDiff, Option.map_none, Nat.zero_le, Nat.reduceLT, Nat.reduceLeDiff, Bool.not_true, Bool.not_false, kN, i0, i1, ab])).trans ?_
          refine (bnx (ρ' := [.va (.tup [.int u, .int (n : Int)]), .va (nD (Nat.gcd n u.natAbs)), g, .no]) (by simp only [evS]; exact e)).trans ?_
          refine brt ?_
          by_cases h : Nat.gcd n u.natAbs = 1
          · rw [if_pos h, h]
            simp only [runD, evB, evS, evE, evA, evT, evAnd, evOr, evAndV, evOrV, evP, evI, mb_ok, mb_some, mb_er, op_some, keep_sh, keep_fr, blM_bl, intM_int, nerr_ok, Option.map_some, Option.bind_some, List.getElem?_cons_zero, List.getElem?_cons_succ, List.set_cons_zero, List.set_cons_succ, asgF, unpF, ownOf, appF, setAll, bindT, wipeR, List.length_cons, List.length_nil, List.map_cons, List.map_nil, List.replicate, List.cons_append, List.nil_append, if_true, Bool.false_eq_true, if_false, Nat.reduceAdd, Nat.reduceSub, Nat.zero_add, Nat.reduceEqDiff, Option.map_none, Nat.zero_le, Nat.reduceLT, Nat.reduceLeDiff, Bool.not_true, Bool.not_false, kN, cop_eqn, beqn]
            rfl
          · rw [if_neg h]
            have hb : (Nat.gcd n u.natAbs == 1) = false := by simpa using h
            simp only [runD, evB, evS, evE, evA, evT, evAnd, evOr, evAndV, evOrV, evP, evI, mb_ok, mb_some, mb_er, op_some, keep_sh, keep_fr, blM_bl, intM_int, nerr_ok, Option.map_some, Option.bind_some, List.getElem?_cons_zero, List.getElem?_cons_succ, List.set_cons_zero, List.set_cons_succ, asgF, unpF, ownOf, appF, setAll, bindT, wipeR, List.length_cons, List.length_nil, List.map_cons, List.map_nil, List.replicate, List.cons_append, List.nil_append, if_true, Bool.false_eq_true, if_false, Nat.reduceAdd, Nat.reduceSub, Nat.zero_add, Nat.reduceEqDiff, Option.map_none, Nat.zero_le, Nat.reduceLT, Nat.reduceLeDiff, Bool.not_true, Bool.not_false, kN, cop_eqn, hb]
            rfl
        · have g1 : cop .lt (.int l) (nD 1) = some true := by
            simp only [cop, nD]
            rw [decide_eq_true (by omega)]
          have ep : isPart (.tup [.int u, .int l]) = none := by
            unfold isPart
            dsimp only
            rw [if_neg fun z => l0 z.1]
          rw [ep]
          refine brt ?_
          simp only [runD, evB, evS, evE, evA, evT, evAnd, evOr, evAndV, evOrV, evP, evI, mb_ok, mb_some, mb_er, op_some, keep_sh, keep_fr, blM_bl, intM_int, nerr_ok, Option.map_some, Option.bind_some, List.getElem?_cons_zero, List.getElem?_cons_succ, List.set_cons_zero, List.set_cons_succ, asgF, unpF, ownOf, appF, setAll, bindT, wipeR, List.length_cons, List.length_nil, List.map_cons, List.map_nil, List.replicate, List.cons_append, List.nil_append, if_true, Bool.false_eq_true, if_false, Nat.reduceAdd, Nat.reduceSub, Nat.zero_add, Nat.reduceEqDiff, Option.map_none, Nat.zero_le, Nat.reduceLT, Nat.reduceLeDiff, Bool.not_true, Bool.not_false, i1, kN, g1]
          rfl
    · have hb : (xs.length == 2) = false := by simpa using h2
      have e : isPart (.tup xs) = none := isPart_two fun a b e _ _ => by
        cases e
        exact h2 rfl
      rw [e]
      refine brt ?_
      simp only [runD, evB, evS, evE, evA, evT, evAnd, evOr, evAndV, evOrV, evP, evI, mb_ok, mb_some, mb_er, op_some, keep_sh, keep_fr, blM_bl, intM_int, nerr_ok, Option.map_some, Option.bind_some, List.getElem?_cons_zero, List.getElem?_cons_succ, List.set_cons_zero, List.set_cons_succ, asgF, unpF, ownOf, appF, setAll, bindT, wipeR, List.length_cons, List.length_nil, List.map_cons, List.map_nil, List.replicate, List.cons_append, List.nil_append, if_true, Bool.false_eq_true, if_false, Nat.reduceAdd, Nat.reduceSub, Nat.zero_add, Nat.reduceEqDiff, Option.map_none, Nat.zero_le, Nat.reduceLT, Nat.reduceLeDiff, Bool.not_true, Bool.not_false, isiD, len, kN, cop_nen, hb]
      rfl
  | _ =>
    refine brt ?_
    simp only [runD, evB, evS, evE, evA, evT, evAnd, evOr, evAndV, evOrV, evP, evI, mb_ok, mb_some, mb_er, op_some, keep_sh, keep_fr, blM_bl, intM_int, nerr_ok, Option.map_some, Option.bind_some, List.getElem?_cons_zero, List.getElem?_cons_succ, List.set_cons_zero, List.set_cons_succ, asgF, unpF, ownOf, appF, setAll, bindT, wipeR, List.length_cons, List.length_nil, List.map_cons, List.map_nil, List.replicate, List.cons_append, List.nil_append, if_true, Bool.false_eq_true, if_false, Nat.reduceAdd, Nat.reduceSub, Nat.zero_add, Nat.reduceEqDiff, Option.map_none, Nat.zero_le, Nat.reduceLT, Nat.reduceLeDiff, Bool.not_true, Bool.not_false, isiD, isPart]
    rfl
def sumR (qs : List Rat) : Rat := qs.foldl (· + ·) 0
def SLPlus (φ : List D → M D) : Prop := ∀ (qs : List Rat) (b : Bool) (c : Nat), qs.length < 64 → c ≤ 110 → (∀ q ∈ qs, Sm c q) → ∃ (u : Int) (l : Nat), 0 < l ∧ mkRat u l = sumR qs ∧ u.natAbs < 2 ^ 7000 ∧ l < 2 ^ 7000 ∧ φ [seqD b (qs.map frD)] = ok (.tup [.int u, nD l])
theorem law_plus_ok {Φ : Tab} {wf : Nat} : SLPlus (runD m__law_plus Φ wf) := by
  intro qs b c hl hc hq
  obtain ⟨T, hT⟩ : ∃ T, T = seqD b (qs.map frD) := ⟨_, rfl⟩
  have loop : ∀ (r : List Rat) (a : Rat) (u : Int) (l k : Nat) (a3 a4 : Sl), (∀ q ∈ r, Sm c q) → 0 < l → mkRat u l = a → u.natAbs < 2 ^ k → l < 2 ^ k → k + r.length * (c + 1) ≤ 6994 → ∃ (u' : Int) (l' : Nat) (b3 b4 : Sl), 0 < l' ∧ mkRat u' l' = r.foldl (· + ·) a ∧ u'.natAbs < 2 ^ 6994 ∧ l' < 2 ^ 6994 ∧
      forL (bindT false [3, 4]) (fun ρ => evB Φ wf l1__law_plus ρ) (r.map frD) [.va T, .va (.int u), .va (nD l), a3, a4] = ok (.nx [.va T, .va (.int u'), .va (nD l'), b3, b4]) := by
    intro r
    induction r with
    | nil =>
      intro a u l k a3 a4 _ h0 he hu hll hk
      have hk : k ≤ 6994 := by simpa using hk
      exact ⟨u, l, a3, a4, h0, he, Nat.lt_of_lt_of_le hu (Nat.pow_le_pow_right (by decide) hk), Nat.lt_of_lt_of_le hll (Nat.pow_le_pow_right (by decide) hk), rfl⟩
    | cons q r ih =>
      intro a u l k a3 a4 hr h0 he hu hll hk
      rw [List.length_cons, Nat.add_mul] at hk
      have sq := hr q List.mem_cons_self
      have e1 : bop .mul (.int u) (nD q.den) = some (.int (u * (q.den : Int)), .sh) := mul_i (b := (q.den : Int)) hu (by rw [Int.natAbs_natCast]; exact sq.2) (by omega)
      have e2 : bop .mul (.int q.num) (nD l) = some (.int (q.num * (l : Int)), .sh) := mul_i (b := (l : Int)) sq.1 (by rw [Int.natAbs_natCast]; exact hll) (by omega)
      have e3 : bop .add (.int (u * (q.den : Int))) (.int (q.num * (l : Int))) = some (.int (u * (q.den : Int) + q.num * (l : Int)), .sh) := rfl
      have e4 : bop .mul (nD l) (nD q.den) = some (nD (l * q.den), .sh) := by
        have := mul_i (a := (l : Int)) (b := (q.den : Int)) (by rw [Int.natAbs_natCast]; exact hll) (by rw [Int.natAbs_natCast]; exact sq.2) (by omega : k + c ≤ 100000)
        unfold nD
        rw [this, Int.natCast_mul]
      have p1 : (u * (q.den : Int)).natAbs < 2 ^ (k + c) := by
        rw [Int.natAbs_mul, Int.natAbs_natCast, Nat.pow_add]
        exact Nat.mul_lt_mul'' hu sq.2
      have p2 : (q.num * (l : Int)).natAbs < 2 ^ (k + c) := by
        rw [Int.natAbs_mul, Int.natAbs_natCast, Nat.add_comm, Nat.pow_add]
        exact Nat.mul_lt_mul'' sq.1 hll
      have p3 : (u * (q.den : Int) + q.num * (l : Int)).natAbs < 2 ^ (k + c + 1) := by
        have := Int.natAbs_add_le (u * (q.den : Int)) (q.num * (l : Int))
        rw [Nat.pow_succ]
        omega
      have p4 : l * q.den < 2 ^ (k + c + 1) := by
        have : l * q.den < 2 ^ (k + c) := by
          rw [Nat.pow_add]
          exact Nat.mul_lt_mul'' hll sq.2
        rw [Nat.pow_succ]
        omega
      have he' : mkRat (u * (q.den : Int) + q.num * (l : Int)) (l * q.den) = a + q := by
        rw [← Rat.mkRat_add_mkRat _ _ (by omega) q.den_nz, he, Rat.mkRat_self]
      obtain ⟨u', l', b3, b4, i1, i2, i3, i4, ih⟩ := ih (a + q) _ _ (k + c + 1) (.va (.int q.num)) (.va (nD q.den)) (fun x hx => hr x (List.mem_cons_of_mem _ hx)) (Nat.mul_pos h0 q.den_pos) he' p3 p4 (by omega)
      refine ⟨u', l', b3, b4, i1, i2, i3, i4, ?_⟩
      have eb : bindT false [3, 4] (frD q) [.va T, .va (.int u), .va (nD l), a3, a4] = some [.va T, .va (.int u), .va (nD l), .va (.int q.num), .va (nD q.den)] := rfl
      have st : evB Φ wf l1__law_plus [.va T, .va (.int u), .va (nD l), .va (.int q.num), .va (nD q.den)] = ok (.nx [.va T, .va (.int (u * (q.den : Int) + q.num * (l : Int))), .va (nD (l * q.den)), .va (.int q.num), .va (nD q.den)]) := by
        simp only [runD, evB, evS, evE, evA, evT, evAnd, evOr, evAndV, evOrV, evP, evI, mb_ok, mb_some, mb_er, op_some, keep_sh, keep_fr, blM_bl, intM_int, nerr_ok, Option.map_some, Option.bind_some, List.getElem?_cons_zero, List.getElem?_cons_succ, List.set_cons_zero, List.set_cons_succ, asgF, unpF, ownOf, appF, setAll, bindT, wipeR, List.length_cons, List.length_nil, List.map_cons, List.map_nil, List.replicate, List.cons_append, List.nil_append, if_true, Bool.false_eq_true, if_false, Nat.reduceAdd, Nat.reduceSub, Nat.zero_add, Nat.reduceEqDiff, Option.map_none, Nat.zero_le, Nat.reduceLT, Nat.reduceLeDiff, Bool.not_true, Bool.not_false, l1__law_plus, e1, e2, e3, e4]
      simp only [List.map_cons, forL, eb, st, mb_ok, ih]
  have hb := len_bits hl hc
  obtain ⟨u, l, b3, b4, h1, h2, h3, h4, h⟩ := loop qs 0 0 1 1 .no .no hq (by decide) (by rfl) (by decide) (by decide) (by omega)
  have h : forL (bindT false [3, 4]) (fun ρ => evB Φ wf l1__law_plus ρ) (qs.map frD) [.va T, .va (.int 0), .va (.int 1), .no, .no] = _ := h
  have iT : items T = some (qs.map frD) := by rw [hT]; exact items_seq b _
  refine ⟨u, l, h1, h2, Nat.lt_of_lt_of_le h3 (Nat.pow_le_pow_right (by decide) (by decide)), Nat.lt_of_lt_of_le h4 (Nat.pow_le_pow_right (by decide) (by decide)), ?_⟩
  refine rrt rfl ?_
  rw [← hT]
  show evB Φ wf m__law_plus.body [.va T, .no, .no, .no, .no] = _
  simp only [m__law_plus]
  refine (bnx (ρ' := [.va T, .va (.int 0), .va (.int 1), .no, .no]) (by simp only [runD, evB, evS, evE, evA, evT, evAnd, evOr, evAndV, evOrV, evP, evI, mb_ok, mb_some, mb_er, op_some, keep_sh, keep_fr, blM_bl, intM_int, nerr_ok, Option.map_some, Option.bind_some, List.getElem?_cons_zero, List.getElem?_cons_succ, List.set_cons_zero, List.set_cons_succ, asgF, unpF, ownOf, appF, setAll, bindT, wipeR, List.length_cons, List.length_nil, List.map_cons, List.map_nil, List.replicate, List.cons_append, List.nil_append, if_true, Bool.false_eq_true, if_false, Nat.reduceAdd, Nat.reduceSub, Nat.zero_add, Nat.reduceEqDiff, Option.map_none, Nat.zero_le, Nat.reduceLT, Nat.reduceLeDiff, Bool.not_true, Bool.not_false, top])).trans ?_
  refine (bnx (ρ' := [.va T, .va (.int u), .va (nD l), b3, b4]) (by simp only [runD, evB, evS, evE, evA, evT, evAnd, evOr, evAndV, evOrV, evP, evI, mb_ok, mb_some, mb_er, op_some, keep_sh, keep_fr, blM_bl, intM_int, nerr_ok, Option.map_some, Option.bind_some, List.getElem?_cons_zero, List.getElem?_cons_succ, List.set_cons_zero, List.set_cons_succ, asgF, unpF, ownOf, appF, setAll, bindT, wipeR, List.length_cons, List.length_nil, List.map_cons, List.map_nil, List.replicate, List.cons_append, List.nil_append, if_true, Bool.false_eq_true, if_false, Nat.reduceAdd, Nat.reduceSub, Nat.zero_add, Nat.reduceEqDiff, Option.map_none, Nat.zero_le, Nat.reduceLT, Nat.reduceLeDiff, Bool.not_true, Bool.not_false, iT, h])).trans ?_
  refine brt ?_
  simp only [runD, evB, evS, evE, evA, evT, evAnd, evOr, evAndV, evOrV, evP, evI, mb_ok, mb_some, mb_er, op_some, keep_sh, keep_fr, blM_bl, intM_int, nerr_ok, Option.map_some, Option.bind_some, List.getElem?_cons_zero, List.getElem?_cons_succ, List.set_cons_zero, List.set_cons_succ, asgF, unpF, ownOf, appF, setAll, bindT, wipeR, List.length_cons, List.length_nil, List.map_cons, List.map_nil, List.replicate, List.cons_append, List.nil_append, if_true, Bool.false_eq_true, if_false, Nat.reduceAdd, Nat.reduceSub, Nat.zero_add, Nat.reduceEqDiff, Option.map_none, Nat.zero_le, Nat.reduceLT, Nat.reduceLeDiff, Bool.not_true, Bool.not_false, top]
theorem worth_sum (fs : List Fence) : sumR (fs.map (·.2)) = worthR fs := by
  unfold sumR worthR
  rw [List.foldl_map]
theorem law_fences_ok {Φ : Tab} {wf : Nat} (hs : Fn Φ "_law_are_some" SSome) (hp : Fn Φ "_law_is_part" SFrac) (hpl : Fn Φ "_law_plus" SLPlus) : SFencesAt (runD m__law_are_fences Φ wf) := by
  intro m ts ends d prices c hl ht h hc hpr
  obtain ⟨φs, fs', ss⟩ := hs
  obtain ⟨φp, fp, sp⟩ := hp
  obtain ⟨φl, fl, sl⟩ := hpl
  obtain ⟨E, hE⟩ : ∃ E, E = D.tup (nsD ends) := ⟨_, rfl⟩
  obtain ⟨P, hP⟩ : ∃ P, P = D.lst (prices.map optD) := ⟨_, rfl⟩
  have ew1 : ixD (webD m ts) (nD 1) = some (.tup (ts.map tieD)) := rfl
  have ew0 : ixD (webD m ts) (nD 0) = some (nD m) := rfl
  have iE : items E = some (ends.map nD) := by rw [hE]; rfl
  have lE : uop .len E = some (nD ends.length, .sh) := by rw [hE]; simp [uop, items, nD, nsD]
  refine rrt rfl ?_
  rw [← hE, ← hP]
  show evB Φ wf m__law_are_fences.body [.va (webD m ts), .va E, .va d, .va P, .no, .no, .no, .no, .no, .no, .no, .no, .no] = _
  simp only [m__law_are_fences]
  cases d with
  | scr _ => exact absurd h.nsc (by simp [J.nsc])
  | tup xs =>
    obtain ⟨hlen, hx⟩ := h.tup
    refine (bnx (ρ' := [.va (webD m ts), .va E, .va (.tup xs), .va P, .no, .no, .no, .no, .no, .no, .no, .no, .no]) (by simp only [runD, evB, evS, evE, evA, evT, evAnd, evOr, evAndV, evOrV, evP, evI, mb_ok, mb_some, mb_er, op_some, keep_sh, keep_fr, blM_bl, intM_int, nerr_ok, Option.map_some, Option.bind_some, List.getElem?_cons_zero, List.getElem?_cons_succ, List.set_cons_zero, List.set_cons_succ, asgF, unpF, ownOf, appF, setAll, bindT, wipeR, List.length_cons, List.length_nil, List.map_cons, List.map_nil, List.replicate, List.cons_append, List.nil_append, if_true, Bool.false_eq_true, if_false, Nat.reduceAdd, Nat.reduceSub, Nat.zero_add, Nat.reduceEqDiff, Option.map_none, Nat.zero_le, Nat.reduceLT, Nat.reduceLeDiff, Bool.not_true, Bool.not_false, isiD])).trans ?_
    have step : ∀ (x : D) (a5 : Sl), Tm c x → if (isFence m ends x).isSome = true then ∃ b5, evB Φ wf l2__law_are_fences [.va (webD m ts), .va E, .va (.tup xs), .va P, .va x, a5, .no, .no, .no, .no, .no, .no, .no] = ok (.nx [.va (webD m ts), .va E, .va (.tup xs), .va P, .va x, b5, .no, .no, .no, .no, .no, .no, .no])
        else evB Φ wf l2__law_are_fences [.va (webD m ts), .va E, .va (.tup xs), .va P, .va x, a5, .no, .no, .no, .no, .no, .no, .no] = ok (.rt (.bl false)) := by
      intro x a5 h
      simp only [l2__law_are_fences]
      cases x with
      | scr _ => exact absurd h.nsc (by simp [J.nsc])
      | tup ys =>
        obtain ⟨hlen, hx⟩ := h.tup
        have len : uop .len (.tup ys) = some (nD ys.length, .sh) := by simp [uop, items, nD]
        by_cases h2 : ys.length = 2
        · obtain ⟨a, b, rfl⟩ : ∃ a b, ys = [a, b] := by
            cases ys with
            | nil => simp at h2
            | cons a r =>
              cases r with
              | nil => simp at h2
              | cons b r =>
                cases r with
                | nil => exact ⟨a, b, rfl⟩
                | cons c r => simp at h2
          have ta := hx a (by simp)
          have tb := hx b (by simp)
          have len2 : uop .len (.tup [a, b]) = some (nD 2, .sh) := rfl
          have i0 : ixD (.tup [a, b]) (nD 0) = some a := rfl
          have i1 : ixD (.tup [a, b]) (nD 1) = some b := rfl
          have k1 := ss a m ta.shal
          have k2 := sp b c tb hc
          cases has : areSome a m with
          | false =>
            rw [has] at k1
            rw [isF_no has]
            refine brt ?_
            simp only [runD, evB, evS, evE, evA, evT, evAnd, evOr, evAndV, evOrV, evP, evI, mb_ok, mb_some, mb_er, op_some, keep_sh, keep_fr, blM_bl, intM_int, nerr_ok, Option.map_some, Option.bind_some, List.getElem?_cons_zero, List.getElem?_cons_succ, List.set_cons_zero, List.set_cons_succ, asgF, unpF, ownOf, appF, setAll, bindT, wipeR, List.length_cons, List.length_nil, List.map_cons, List.map_nil, List.replicate, List.cons_append, List.nil_append, if_true, Bool.false_eq_true, if_false, Nat.reduceAdd, Nat.reduceSub, Nat.zero_add, Nat.reduceEqDiff, Option.map_none, Nat.zero_le, Nat.reduceLT, Nat.reduceLeDiff, Bool.not_true, Bool.not_false, isiD, len2, kN, cop_nen, beqn, i0, ew0, fs', k1]
          | true =>
            rw [has] at k1
            obtain ⟨s, rfl, s1, s2⟩ := areSome_ns has
            have st1 : evS Φ wf (.ife (.or (.cons (.not (.isi .tuple (.var 4))) (.cons (.cmp .ne (.un .len (.var 4)) (.kint 2)) (.cons (.not (.call "_law_are_some" (.cons (.ix (.var 4) (.kint 0)) (.cons (.ix (.var 0) (.kint 0)) .nil)))) .nil)))) (.seq (.ret (.kbl false)) .nil) .nil) [.va (webD m ts), .va E, .va (.tup xs), .va P, .va (.tup [.tup (nsD s), b]), a5, .no, .no, .no, .no, .no, .no, .no] = ok (.nx [.va (webD m ts), .va E, .va (.tup xs), .va P, .va (.tup [.tup (nsD s), b]), a5, .no, .no, .no, .no, .no, .no, .no]) := by
              simp only [runD, evB, evS, evE, evA, evT, evAnd, evOr, evAndV, evOrV, evP, evI, mb_ok, mb_some, mb_er, op_some, keep_sh, keep_fr, blM_bl, intM_int, nerr_ok, Option.map_some, Option.bind_some, List.getElem?_cons_zero, List.getElem?_cons_succ, List.set_cons_zero, List.set_cons_succ, asgF, unpF, ownOf, appF, setAll, bindT, wipeR, List.length_cons, List.length_nil, List.map_cons, List.map_nil, List.replicate, List.cons_append, List.nil_append, if_true, Bool.false_eq_true, if_false, Nat.reduceAdd, Nat.reduceSub, Nat.zero_add, Nat.reduceEqDiff, Option.map_none, Nat.zero_le, Nat.reduceLT, Nat.reduceLeDiff, Bool.not_true, Bool.not_false, isiD, len2, kN, cop_nen, beqn, i0, ew0, fs', k1]
            rw [bnx st1]
            cases hb : isPart b with
            | none =>
              rw [hb] at k2
              have k2 : φp [b] = ok (.bl false) := k2
              rw [isF_nf hb]
              refine brt ?_
              simp only [runD, evB, evS, evE, evA, evT, evAnd, evOr, evAndV, evOrV, evP, evI, mb_ok, mb_some, mb_er, op_some, keep_sh, keep_fr, blM_bl, intM_int, nerr_ok, Option.map_some, Option.bind_some, List.getElem?_cons_zero, List.getElem?_cons_succ, List.set_cons_zero, List.set_cons_succ, asgF, unpF, ownOf, appF, setAll, bindT, wipeR, List.length_cons, List.length_nil, List.map_cons, List.map_nil, List.replicate, List.cons_append, List.nil_append, if_true, Bool.false_eq_true, if_false, Nat.reduceAdd, Nat.reduceSub, Nat.zero_add, Nat.reduceEqDiff, Option.map_none, Nat.zero_le, Nat.reduceLT, Nat.reduceLeDiff, Bool.not_true, Bool.not_false, kN, i1, fp, k2]
            | some q =>
              rw [hb] at k2
              have k2 : φp [b] = ok (.bl true) := k2
              have eb := isPart_some hb
              subst eb
              rw [isF_q has]
              have num0 : ixD (frD q) (nD 0) = some (.int q.num) := rfl
              by_cases hq : 0 < q
              · have g1 : cop .le (.int q.num) (nD 0) = some false := by
                  simp only [cop, nD]
                  rw [decide_eq_false]
                  rw [Rat.lt_iff] at hq
                  have : (0 : Rat).num * (q.den : Int) = 0 := by simp
                  have : (0 : Rat).den = 1 := rfl
                  simp at hq
                  omega
                have st2 : evS Φ wf (.ife (.or (.cons (.not (.call "_law_is_part" (.cons (.ix (.var 4) (.kint 1)) .nil))) (.cons (.cmp .le (.ix (.ix (.var 4) (.kint 1)) (.kint 0)) (.kint 0)) .nil))) (.seq (.ret (.kbl false)) .nil) .nil) [.va (webD m ts), .va E, .va (.tup xs), .va P, .va (.tup [.tup (nsD s), frD q]), a5, .no, .no, .no, .no, .no, .no, .no] = ok (.nx [.va (webD m ts), .va E, .va (.tup xs), .va P, .va (.tup [.tup (nsD s), frD q]), a5, .no, .no, .no, .no, .no, .no, .no]) := by
                  simp only [runD, evB, evS, evE, evA, evT, evAnd, evOr, evAndV, evOrV, evP, evI, mb_ok, mb_some, mb_er, op_some, keep_sh, keep_fr, blM_bl, intM_int, nerr_ok, Option.map_some, Option.bind_some, List.getElem?_cons_zero, List.getElem?_cons_succ, List.set_cons_zero, List.set_cons_succ, asgF, unpF, ownOf, appF, setAll, bindT, wipeR, List.length_cons, List.length_nil, List.map_cons, List.map_nil, List.replicate, List.cons_append, List.nil_append, if_true, Bool.false_eq_true, if_false, Nat.reduceAdd, Nat.reduceSub, Nat.zero_add, Nat.reduceEqDiff, Option.map_none, Nat.zero_le, Nat.reduceLT, Nat.reduceLeDiff, Bool.not_true, Bool.not_false, kN, i1, fp, k2, num0, g1]
                rw [bnx st2]
                obtain ⟨w, hw⟩ : ∃ w, w = ends.filter fun e => decide (e ∈ s) := ⟨_, rfl⟩
                have st3 : evS Φ wf (.asg 5 false (.comp (.var 10) true [10] (.walk (.var 1)) (.som q1__law_are_fences) [10])) [.va (webD m ts), .va E, .va (.tup xs), .va P, .va (.tup [.tup (nsD s), frD q]), a5, .no, .no, .no, .no, .no, .no, .no] = ok (.nx [.va (webD m ts), .va E, .va (.tup xs), .va P, .va (.tup [.tup (nsD s), frD q]), .va (.lst (nsD w)), .no, .no, .no, .no, .no, .no, .no]) := by
                  simp only [runD, evB, evS, evE, evA, evT, evAnd, evOr, evAndV, evOrV, evP, evI, mb_ok, mb_some, mb_er, op_some, keep_sh, keep_fr, blM_bl, intM_int, nerr_ok, Option.map_some, Option.bind_some, List.getElem?_cons_zero, List.getElem?_cons_succ, List.set_cons_zero, List.set_cons_succ, asgF, unpF, ownOf, appF, setAll, bindT, wipeR, List.length_cons, List.length_nil, List.map_cons, List.map_nil, List.replicate, List.cons_append, List.nil_append, if_true, Bool.false_eq_true, if_false, Nat.reduceAdd, Nat.reduceSub, Nat.zero_add, Nat.reduceEqDiff, Option.map_none, Nat.zero_le, Nat.reduceLT, Nat.reduceLeDiff, Bool.not_true, Bool.not_false, iE]
                  rw [if_pos (by rw [List.length_map]; unfold top; omega), compL_filt (g := nD) (p := fun e => decide (e ∈ s)) (fun e he => by
                    simp only [runD, evB, evS, evE, evA, evT, evAnd, evOr, evAndV, evOrV, evP, evI, mb_ok, mb_some, mb_er, op_some, keep_sh, keep_fr, blM_bl, intM_int, nerr_ok, Option.map_some, Option.bind_some, List.getElem?_cons_zero, List.getElem?_cons_succ, List.set_cons_zero, List.set_cons_succ, asgF, unpF, ownOf, appF, setAll, bindT, wipeR, List.length_cons, List.length_nil, List.map_cons, List.map_nil, List.replicate, List.cons_append, List.nil_append, if_true, Bool.false_eq_true, if_false, Nat.reduceAdd, Nat.reduceSub, Nat.zero_add, Nat.reduceEqDiff, Option.map_none, Nat.zero_le, Nat.reduceLT, Nat.reduceLeDiff, Bool.not_true, Bool.not_false, q1__law_are_fences, kN, i0, isin_t]
                    cases decide (e ∈ s) <;> rfl)]
                  rw [show (ends.filter fun e => decide (e ∈ s)).map nD = nsD w by rw [hw]; rfl]
                  simp only [runD, evB, evS, evE, evA, evT, evAnd, evOr, evAndV, evOrV, evP, evI, mb_ok, mb_some, mb_er, op_some, keep_sh, keep_fr, blM_bl, intM_int, nerr_ok, Option.map_some, Option.bind_some, List.getElem?_cons_zero, List.getElem?_cons_succ, List.set_cons_zero, List.set_cons_succ, asgF, unpF, ownOf, appF, setAll, bindT, wipeR, List.length_cons, List.length_nil, List.map_cons, List.map_nil, List.replicate, List.cons_append, List.nil_append, if_true, Bool.false_eq_true, if_false, Nat.reduceAdd, Nat.reduceSub, Nat.zero_add, Nat.reduceEqDiff, Option.map_none, Nat.zero_le, Nat.reduceLT, Nat.reduceLeDiff, Bool.not_true, Bool.not_false]
                rw [bnx st3]
                have lw : uop .len (.lst (nsD w)) = some (nD w.length, .sh) := by simp [uop, items, nD, nsD]
                have pe : partsB s ends = !((w == []) || (w.length == ends.length)) := by
                  unfold partsB
                  rw [Bool.not_or]
                  congr 1
                  · rw [hw]
                    cases hany : ends.any fun e => decide (e ∈ s) with
                    | false =>
                      have : (ends.filter fun e => decide (e ∈ s)) = [] := List.filter_eq_nil_iff.mpr fun e he z => by
                        have := List.any_eq_false.mp hany e he
                        exact this z
                      rw [this]; rfl
                    | true =>
                      obtain ⟨e, he, z⟩ := List.any_eq_true.mp hany
                      have : e ∈ ends.filter fun e => decide (e ∈ s) := List.mem_filter.mpr ⟨he, z⟩
                      cases hf : (ends.filter fun e => decide (e ∈ s)) with
                      | nil => rw [hf] at this; cases this
                      | cons _ _ => rfl
                  · congr 1
                    rw [Bool.eq_iff_iff, List.all_eq_true, beq_iff_eq, hw]
                    exact List.length_filter_eq_length_iff.symm
                by_cases hpt : partsB s ends = true
                · have ei : (if 0 < q ∧ partsB s ends = true then some (s, q) else none) = some (s, q) := if_pos ⟨hq, hpt⟩
                  rw [ei]
                  rw [hpt] at pe
                  have pe : ((w == []) || (w.length == ends.length)) = false := by
                    cases z : ((w == []) || (w.length == ends.length))
                    · rfl
                    · rw [z] at pe; cases pe
                  rw [Bool.or_eq_false_iff] at pe
                  refine ⟨.va (.lst (nsD w)), ?_⟩
                  simp only [runD, evB, evS, evE, evA, evT, evAnd, evOr, evAndV, evOrV, evP, evI, mb_ok, mb_some, mb_er, op_some, keep_sh, keep_fr, blM_bl, intM_int, nerr_ok, Option.map_some, Option.bind_some, List.getElem?_cons_zero, List.getElem?_cons_succ, List.set_cons_zero, List.set_cons_succ, asgF, unpF, ownOf, appF, setAll, bindT, wipeR, List.length_cons, List.length_nil, List.map_cons, List.map_nil, List.replicate, List.cons_append, List.nil_append, if_true, Bool.false_eq_true, if_false, Nat.reduceAdd, Nat.reduceSub, Nat.zero_add, Nat.reduceEqDiff, Option.map_none, Nat.zero_le, Nat.reduceLT, Nat.reduceLeDiff, Bool.not_true, Bool.not_false, cop_eq0, pe.1, lw, lE, cop_eqn, pe.2]
                · have ei : (if 0 < q ∧ partsB s ends = true then some (s, q) else none) = none := if_neg fun z => hpt z.2
                  rw [ei]
                  have hpt : partsB s ends = false := by simpa using hpt
                  rw [hpt] at pe
                  have pe : ((w == []) || (w.length == ends.length)) = true := by
                    cases z : ((w == []) || (w.length == ends.length))
                    · rw [z] at pe; cases pe
                    · rfl
                  refine brt ?_
                  cases z : (w == []) with
                  | true => simp only [runD, evB, evS, evE, evA, evT, evAnd, evOr, evAndV, evOrV, evP, evI, mb_ok, mb_some, mb_er, op_some, keep_sh, keep_fr, blM_bl, intM_int, nerr_ok, Option.map_some, Option.bind_some, List.getElem?_cons_zero, List.getElem?_cons_succ, List.set_cons_zero, List.set_cons_succ, asgF, unpF, ownOf, appF, setAll, bindT, wipeR, List.length_cons, List.length_nil, List.map_cons, List.map_nil, List.replicate, List.cons_append, List.nil_append, if_true, Bool.false_eq_true, if_false, Nat.reduceAdd, Nat.reduceSub, Nat.zero_add, Nat.reduceEqDiff, Option.map_none, Nat.zero_le, Nat.reduceLT, Nat.reduceLeDiff, Bool.not_true, Bool.not_false, cop_eq0, z]
                  | false =>
                    rw [z, Bool.false_or] at pe
                    simp only [runD, evB, evS, evE, evA, evT, evAnd, evOr, evAndV, evOrV, evP, evI, mb_ok, mb_some, mb_er, op_some, keep_sh, keep_fr, blM_bl, intM_int, nerr_ok, Option.map_some, Option.bind_some, List.getElem?_cons_zero, List.getElem?_cons_succ, List.set_cons_zero, List.set_cons_succ, asgF, unpF, ownOf, appF, setAll, bindT, wipeR, List.length_cons, List.length_nil, List.map_cons, List.map_nil, List.replicate, List.cons_append, List.nil_append, if_true, Bool.false_eq_true, if_false, Nat.reduceAdd, Nat.reduceSub, Nat.zero_add, Nat.reduceEqDiff, Option.map_none, Nat.zero_le, Nat.reduceLT, Nat.reduceLeDiff, Bool.not_true, Bool.not_false, cop_eq0, z, lw, lE, cop_eqn, pe]
              · have ei : (if 0 < q ∧ partsB s ends = true then some (s, q) else none) = none := if_neg fun z => hq z.1
                rw [ei]
                have g1 : cop .le (.int q.num) (nD 0) = some true := by
                  simp only [cop, nD]
                  rw [decide_eq_true]
                  rw [Rat.lt_iff] at hq
                  simp at hq
                  omega
                refine brt ?_
                simp only [runD, evB, evS, evE, evA, evT, evAnd, evOr, evAndV, evOrV, evP, evI, mb_ok, mb_some, mb_er, op_some, keep_sh, keep_fr, blM_bl, intM_int, nerr_ok, Option.map_some, Option.bind_some, List.getElem?_cons_zero, List.getElem?_cons_succ, List.set_cons_zero, List.set_cons_succ, asgF, unpF, ownOf, appF, setAll, bindT, wipeR, List.length_cons, List.length_nil, List.map_cons, List.map_nil, List.replicate, List.cons_append, List.nil_append, if_true, Bool.false_eq_true, if_false, Nat.reduceAdd, Nat.reduceSub, Nat.zero_add, Nat.reduceEqDiff, Option.map_none, Nat.zero_le, Nat.reduceLT, Nat.reduceLeDiff, Bool.not_true, Bool.not_false, kN, i1, fp, k2, num0, g1]
        · have hb : (ys.length == 2) = false := by simpa using h2
          have e : isFence m ends (.tup ys) = none := by
            unfold isFence
            split
            · rename_i a b e
              cases e
              exact absurd rfl h2
            · rfl
          rw [e]
          refine brt ?_
          simp only [runD, evB, evS, evE, evA, evT, evAnd, evOr, evAndV, evOrV, evP, evI, mb_ok, mb_some, mb_er, op_some, keep_sh, keep_fr, blM_bl, intM_int, nerr_ok, Option.map_some, Option.bind_some, List.getElem?_cons_zero, List.getElem?_cons_succ, List.set_cons_zero, List.set_cons_succ, asgF, unpF, ownOf, appF, setAll, bindT, wipeR, List.length_cons, List.length_nil, List.map_cons, List.map_nil, List.replicate, List.cons_append, List.nil_append, if_true, Bool.false_eq_true, if_false, Nat.reduceAdd, Nat.reduceSub, Nat.zero_add, Nat.reduceEqDiff, Option.map_none, Nat.zero_le, Nat.reduceLT, Nat.reduceLeDiff, Bool.not_true, Bool.not_false, isiD, len, kN, cop_nen, hb]
      | _ =>
        refine brt ?_
        simp only [runD, evB, evS, evE, evA, evT, evAnd, evOr, evAndV, evOrV, evP, evI, mb_ok, mb_some, mb_er, op_some, keep_sh, keep_fr, blM_bl, intM_int, nerr_ok, Option.map_some, Option.bind_some, List.getElem?_cons_zero, List.getElem?_cons_succ, List.set_cons_zero, List.set_cons_succ, asgF, unpF, ownOf, appF, setAll, bindT, wipeR, List.length_cons, List.length_nil, List.map_cons, List.map_nil, List.replicate, List.cons_append, List.nil_append, if_true, Bool.false_eq_true, if_false, Nat.reduceAdd, Nat.reduceSub, Nat.zero_add, Nat.reduceEqDiff, Option.map_none, Nat.zero_le, Nat.reduceLT, Nat.reduceLeDiff, Bool.not_true, Bool.not_false, isiD]
    have loop1 : ∀ (l : List D) (a4 a5 : Sl), (∀ x ∈ l, Tm c x) → if (fencesL m ends l).isSome = true
        then ∃ b4 b5, forL (bindT true [4]) (fun ρ => evB Φ wf l2__law_are_fences ρ) l [.va (webD m ts), .va E, .va (.tup xs), .va P, a4, a5, .no, .no, .no, .no, .no, .no, .no] = ok (.nx [.va (webD m ts), .va E, .va (.tup xs), .va P, b4, b5, .no, .no, .no, .no, .no, .no, .no])
        else forL (bindT true [4]) (fun ρ => evB Φ wf l2__law_are_fences ρ) l [.va (webD m ts), .va E, .va (.tup xs), .va P, a4, a5, .no, .no, .no, .no, .no, .no, .no] = ok (.rt (.bl false)) := by
      intro l
      induction l with
      | nil => intro a4 a5 _; exact ⟨a4, a5, rfl⟩
      | cons x l ih =>
        intro a4 a5 hx
        have s1 := step x a5 (hx x List.mem_cons_self)
        have ih := fun b5 => ih (.va x) b5 fun z hz => hx z (List.mem_cons_of_mem _ hz)
        have eb : bindT true [4] x [.va (webD m ts), .va E, .va (.tup xs), .va P, a4, a5, .no, .no, .no, .no, .no, .no, .no] = some [.va (webD m ts), .va E, .va (.tup xs), .va P, .va x, a5, .no, .no, .no, .no, .no, .no, .no] := rfl
        rw [fencesL_all, List.all_cons]
        rw [fencesL_all] at ih
        cases hf : (isFence m ends x).isSome with
        | false =>
          rw [hf] at s1
          simp only [Bool.false_eq_true, if_false] at s1
          simp only [Bool.false_and, Bool.false_eq_true, if_false, forL, eb, s1, mb_ok]
        | true =>
          rw [hf] at s1
          simp only [if_true] at s1
          obtain ⟨b5, s1⟩ := s1
          simpa only [Bool.true_and, forL, eb, s1, mb_ok] using ih b5
    have h1 := loop1 xs .no .no hx
    have ix : items (.tup xs) = some xs := rfl
    have ef : isFences m ends (.tup xs) = fencesL m ends xs := rfl
    unfold areFences
    rw [ef]
    cases hfs : fencesL m ends xs with
    | none =>
      rw [hfs] at h1
      have h1 : forL (bindT true [4]) (fun ρ => evB Φ wf l2__law_are_fences ρ) xs [.va (webD m ts), .va E, .va (.tup xs), .va P, .no, .no, .no, .no, .no, .no, .no, .no, .no] = ok (.rt (.bl false)) := by simpa using h1
      refine brt ?_
      simp only [runD, evB, evS, evE, evA, evT, evAnd, evOr, evAndV, evOrV, evP, evI, mb_ok, mb_some, mb_er, op_some, keep_sh, keep_fr, blM_bl, intM_int, nerr_ok, Option.map_some, Option.bind_some, List.getElem?_cons_zero, List.getElem?_cons_succ, List.set_cons_zero, List.set_cons_succ, asgF, unpF, ownOf, appF, setAll, bindT, wipeR, List.length_cons, List.length_nil, List.map_cons, List.map_nil, List.replicate, List.cons_append, List.nil_append, if_true, Bool.false_eq_true, if_false, Nat.reduceAdd, Nat.reduceSub, Nat.zero_add, Nat.reduceEqDiff, Option.map_none, Nat.zero_le, Nat.reduceLT, Nat.reduceLeDiff, Bool.not_true, Bool.not_false, ix, h1]
    | some fs =>
      rw [hfs] at h1
      obtain ⟨b4, b5, h1⟩ : ∃ b4 b5, forL (bindT true [4]) (fun ρ => evB Φ wf l2__law_are_fences ρ) xs [.va (webD m ts), .va E, .va (.tup xs), .va P, .no, .no, .no, .no, .no, .no, .no, .no, .no] = ok (.nx [.va (webD m ts), .va E, .va (.tup xs), .va P, b4, b5, .no, .no, .no, .no, .no, .no, .no]) := by simpa using h1
      refine (bnx (ρ' := [.va (webD m ts), .va E, .va (.tup xs), .va P, b4, b5, .no, .no, .no, .no, .no, .no, .no]) (by simp only [runD, evB, evS, evE, evA, evT, evAnd, evOr, evAndV, evOrV, evP, evI, mb_ok, mb_some, mb_er, op_some, keep_sh, keep_fr, blM_bl, intM_int, nerr_ok, Option.map_some, Option.bind_some, List.getElem?_cons_zero, List.getElem?_cons_succ, List.set_cons_zero, List.set_cons_succ, asgF, unpF, ownOf, appF, setAll, bindT, wipeR, List.length_cons, List.length_nil, List.map_cons, List.map_nil, List.replicate, List.cons_append, List.nil_append, if_true, Bool.false_eq_true, if_false, Nat.reduceAdd, Nat.reduceSub, Nat.zero_add, Nat.reduceEqDiff, Option.map_none, Nat.zero_le, Nat.reduceLT, Nat.reduceLeDiff, Bool.not_true, Bool.not_false, ix, h1])).trans ?_
      obtain ⟨rfl, fok⟩ := fencesL_some hfs
      have fsm : ∀ f ∈ fs, Sm c f.2 := fun f hf => sm_fn (hx (fnD f) (List.mem_map_of_mem hf))
      have flen : fs.length < 64 := by simpa [fnsD] using hlen
      obtain ⟨F, hF⟩ : ∃ F, F = D.tup (fnsD fs) := ⟨_, rfl⟩
      have iF : items F = some (fs.map fnD) := by rw [hF]; rfl
      rw [← hF]
      have step2 : ∀ (t : Tie) (x : Option Nat) (a8 a9 : Sl), (∀ n, x = some n → n < 2 ^ 64) → ∃ b8 b9, evB Φ wf l4__law_are_fences [.va (webD m ts), .va E, .va F, .va P, b4, b5, .va (tieD t), .va (optD x), a8, a9, .no, .no, .no]
          = if prOk fs t x = true then ok (.nx [.va (webD m ts), .va E, .va F, .va P, b4, b5, .va (tieD t), .va (optD x), b8, b9, .no, .no, .no]) else ok (.rt (.bl false)) := by
        intro t x a8 a9 hx
        obtain ⟨u, l, l0, lu, ub, lb, k⟩ := sl ((fs.filter fun f => crosses f.1 t).map (·.2)) false c (by rw [List.length_map]; exact Nat.lt_of_le_of_lt (List.length_filter_le _ _) flen) hc fun q hq => by
          obtain ⟨f, hf, rfl⟩ := List.mem_map.mp hq
          exact fsm f (List.mem_filter.mp hf).1
        rw [worth_sum] at lu
        have lu : mkRat u l = loadR fs t := lu
        refine ⟨.va (.int u), .va (nD l), ?_⟩
        simp only [l4__law_are_fences]
        have e1 : evS Φ wf (.unp [8, 9] (.call "_law_plus" (.cons (.comp (.var 12) false [11, 12] (.walk (.var 2)) (.som q3__law_are_fences) [11, 12]) .nil))) [.va (webD m ts), .va E, .va F, .va P, b4, b5, .va (tieD t), .va (optD x), a8, a9, .no, .no, .no] = ok (.nx [.va (webD m ts), .va E, .va F, .va P, b4, b5, .va (tieD t), .va (optD x), .va (.int u), .va (nD l), .no, .no, .no]) := by
          simp only [runD, evB, evS, evE, evA, evT, evAnd, evOr, evAndV, evOrV, evP, evI, mb_ok, mb_some, mb_er, op_some, keep_sh, keep_fr, blM_bl, intM_int, nerr_ok, Option.map_some, Option.bind_some, List.getElem?_cons_zero, List.getElem?_cons_succ, List.set_cons_zero, List.set_cons_succ, asgF, unpF, ownOf, appF, setAll, bindT, wipeR, List.length_cons, List.length_nil, List.map_cons, List.map_nil, List.replicate, List.cons_append, List.nil_append, if_true, Bool.false_eq_true, if_false, Nat.reduceAdd, Nat.reduceSub, Nat.zero_add, Nat.reduceEqDiff, Option.map_none, Nat.zero_le, Nat.reduceLT, Nat.reduceLeDiff, Bool.not_true, Bool.not_false, iF]
          rw [if_pos (by rw [List.length_map]; unfold top; omega), compL_filt (g := fun f : Fence => frD f.2) (p := fun f => crosses f.1 t) (fun g hg => by
            have q1 : ixD (tieD t) (nD 0) = some (nD t.1) := rfl
            have q2 : ixD (tieD t) (nD 1) = some (nD t.2.1) := rfl
            simp only [runD, evB, evS, evE, evA, evT, evAnd, evOr, evAndV, evOrV, evP, evI, mb_ok, mb_some, mb_er, op_some, keep_sh, keep_fr, blM_bl, intM_int, nerr_ok, Option.map_some, Option.bind_some, List.getElem?_cons_zero, List.getElem?_cons_succ, List.set_cons_zero, List.set_cons_succ, asgF, unpF, ownOf, appF, setAll, bindT, wipeR, List.length_cons, List.length_nil, List.map_cons, List.map_nil, List.replicate, List.cons_append, List.nil_append, if_true, Bool.false_eq_true, if_false, Nat.reduceAdd, Nat.reduceSub, Nat.zero_add, Nat.reduceEqDiff, Option.map_none, Nat.zero_le, Nat.reduceLT, Nat.reduceLeDiff, Bool.not_true, Bool.not_false, fnD, q3__law_are_fences, kN, q1, q2, isin_t, cop_nb]
            unfold crosses
            cases decide (t.1 ∈ g.1) != decide (t.2.1 ∈ g.1) <;> rfl)]
          have em : ((fs.filter fun f => crosses f.1 t).map fun f : Fence => frD f.2) = ((fs.filter fun f => crosses f.1 t).map (·.2)).map frD := by rw [List.map_map]; rfl
          rw [em]
          have k : φl [.lst (((fs.filter fun f => crosses f.1 t).map (·.2)).map frD)] = _ := k
          simp only [runD, evB, evS, evE, evA, evT, evAnd, evOr, evAndV, evOrV, evP, evI, mb_ok, mb_some, mb_er, op_some, keep_sh, keep_fr, blM_bl, intM_int, nerr_ok, Option.map_some, Option.bind_some, List.getElem?_cons_zero, List.getElem?_cons_succ, List.set_cons_zero, List.set_cons_succ, asgF, unpF, ownOf, appF, setAll, bindT, wipeR, List.length_cons, List.length_nil, List.map_cons, List.map_nil, List.replicate, List.cons_append, List.nil_append, if_true, Bool.false_eq_true, if_false, Nat.reduceAdd, Nat.reduceSub, Nat.zero_add, Nat.reduceEqDiff, Option.map_none, Nat.zero_le, Nat.reduceLT, Nat.reduceLeDiff, Bool.not_true, Bool.not_false, fl, k]
        rw [bnx e1]
        cases x with
        | none =>
          have q : cop .notN (optD none) .non = some false := rfl
          simp only [runD, evB, evS, evE, evA, evT, evAnd, evOr, evAndV, evOrV, evP, evI, mb_ok, mb_some, mb_er, op_some, keep_sh, keep_fr, blM_bl, intM_int, nerr_ok, Option.map_some, Option.bind_some, List.getElem?_cons_zero, List.getElem?_cons_succ, List.set_cons_zero, List.set_cons_succ, asgF, unpF, ownOf, appF, setAll, bindT, wipeR, List.length_cons, List.length_nil, List.map_cons, List.map_nil, List.replicate, List.cons_append, List.nil_append, if_true, Bool.false_eq_true, if_false, Nat.reduceAdd, Nat.reduceSub, Nat.zero_add, Nat.reduceEqDiff, Option.map_none, Nat.zero_le, Nat.reduceLT, Nat.reduceLeDiff, Bool.not_true, Bool.not_false, q, prOk]
        | some n =>
          rw [show optD (some n) = nD n from rfl]
          have e2 : bop .mul (nD n) (nD l) = some (nD (n * l), .sh) := bmul_n n l (hx n rfl)
          have e3 : cop .gt (.int u) (nD (n * l)) = some (decide ((n : Rat) < loadR fs t)) := by
            simp only [cop, nD]
            congr 1
            rw [Bool.eq_iff_iff, decide_eq_true_eq, decide_eq_true_eq, ← lu, lt_mk l0, Int.natCast_mul]
          by_cases hle : loadR fs t ≤ (n : Rat)
          · have hn : ¬ (n : Rat) < loadR fs t := by grind
            rw [decide_eq_false hn] at e3
            simp only [runD, evB, evS, evE, evA, evT, evAnd, evOr, evAndV, evOrV, evP, evI, mb_ok, mb_some, mb_er, op_some, keep_sh, keep_fr, blM_bl, intM_int, nerr_ok, Option.map_some, Option.bind_some, List.getElem?_cons_zero, List.getElem?_cons_succ, List.set_cons_zero, List.set_cons_succ, asgF, unpF, ownOf, appF, setAll, bindT, wipeR, List.length_cons, List.length_nil, List.map_cons, List.map_nil, List.replicate, List.cons_append, List.nil_append, if_true, Bool.false_eq_true, if_false, Nat.reduceAdd, Nat.reduceSub, Nat.zero_add, Nat.reduceEqDiff, Option.map_none, Nat.zero_le, Nat.reduceLT, Nat.reduceLeDiff, Bool.not_true, Bool.not_false, notN_n, e2, e3, prOk, hle, decide_true]
          · have hn : (n : Rat) < loadR fs t := by grind
            rw [decide_eq_true hn] at e3
            simp only [runD, evB, evS, evE, evA, evT, evAnd, evOr, evAndV, evOrV, evP, evI, mb_ok, mb_some, mb_er, op_some, keep_sh, keep_fr, blM_bl, intM_int, nerr_ok, Option.map_some, Option.bind_some, List.getElem?_cons_zero, List.getElem?_cons_succ, List.set_cons_zero, List.set_cons_succ, asgF, unpF, ownOf, appF, setAll, bindT, wipeR, List.length_cons, List.length_nil, List.map_cons, List.map_nil, List.replicate, List.cons_append, List.nil_append, if_true, Bool.false_eq_true, if_false, Nat.reduceAdd, Nat.reduceSub, Nat.zero_add, Nat.reduceEqDiff, Option.map_none, Nat.zero_le, Nat.reduceLT, Nat.reduceLeDiff, Bool.not_true, Bool.not_false, notN_n, e2, e3, prOk, hle, decide_false]
      have loop : ∀ (l : List (Tie × Option Nat)) (a6 a7 a8 a9 : Sl), (∀ p ∈ l, ∀ n, p.2 = some n → n < 2 ^ 64) → if (l.all fun p => prOk fs p.1 p.2) = true
          then ∃ c6 c7 c8 c9, forL (bindT false [6, 7]) (fun ρ => evB Φ wf l4__law_are_fences ρ) (l.map fun p => D.tup [tieD p.1, optD p.2]) [.va (webD m ts), .va E, .va F, .va P, b4, b5, a6, a7, a8, a9, .no, .no, .no] = ok (.nx [.va (webD m ts), .va E, .va F, .va P, b4, b5, c6, c7, c8, c9, .no, .no, .no])
          else forL (bindT false [6, 7]) (fun ρ => evB Φ wf l4__law_are_fences ρ) (l.map fun p => D.tup [tieD p.1, optD p.2]) [.va (webD m ts), .va E, .va F, .va P, b4, b5, a6, a7, a8, a9, .no, .no, .no] = ok (.rt (.bl false)) := by
        intro l
        induction l with
        | nil => intro a6 a7 a8 a9 _; exact ⟨a6, a7, a8, a9, rfl⟩
        | cons p l ih =>
          intro a6 a7 a8 a9 hp
          obtain ⟨b8, b9, s1⟩ := step2 p.1 p.2 a8 a9 (hp p List.mem_cons_self)
          have ih := ih (.va (tieD p.1)) (.va (optD p.2)) b8 b9 fun z hz => hp z (List.mem_cons_of_mem _ hz)
          have eb : bindT false [6, 7] (.tup [tieD p.1, optD p.2]) [.va (webD m ts), .va E, .va F, .va P, b4, b5, a6, a7, a8, a9, .no, .no, .no] = some [.va (webD m ts), .va E, .va F, .va P, b4, b5, .va (tieD p.1), .va (optD p.2), a8, a9, .no, .no, .no] := rfl
          simp only [List.map_cons, forL, eb, s1, List.all_cons]
          cases hm : prOk fs p.1 p.2 with
          | false => rfl
          | true => simpa only [Bool.true_and, if_true, mb_ok] using ih
      have h := loop (ts.zip prices) .no .no .no .no fun p hp n e => hpr p.2 n (List.of_mem_zip hp).2 e
      have iP : items P = some (prices.map optD) := by rw [hP]; rfl
      have iT : items (.tup (ts.map tieD)) = some (ts.map tieD) := rfl
      cases hfi : fits fs ts prices with
      | false =>
        have hg := hfi
        unfold fits at hfi
        rw [hfi] at h
        simp only [Bool.false_eq_true, if_false] at h
        refine brt ?_
        simp only [runD, evB, evS, evE, evA, evT, evAnd, evOr, evAndV, evOrV, evP, evI, mb_ok, mb_some, mb_er, op_some, keep_sh, keep_fr, blM_bl, intM_int, nerr_ok, Option.map_some, Option.bind_some, List.getElem?_cons_zero, List.getElem?_cons_succ, List.set_cons_zero, List.set_cons_succ, asgF, unpF, ownOf, appF, setAll, bindT, wipeR, List.length_cons, List.length_nil, List.map_cons, List.map_nil, List.replicate, List.cons_append, List.nil_append, if_true, Bool.false_eq_true, if_false, Nat.reduceAdd, Nat.reduceSub, Nat.zero_add, Nat.reduceEqDiff, Option.map_none, Nat.zero_le, Nat.reduceLT, Nat.reduceLeDiff, Bool.not_true, Bool.not_false, kN, ew1, iT, iP, zip_opt, h, hg]
      | true =>
        have hg := hfi
        unfold fits at hfi
        rw [hfi] at h
        simp only [if_true] at h
        obtain ⟨c6, c7, c8, c9, h⟩ := h
        refine (bnx (ρ' := [.va (webD m ts), .va E, .va F, .va P, b4, b5, c6, c7, c8, c9, .no, .no, .no]) (by
          simp only [runD, evB, evS, evE, evA, evT, evAnd, evOr, evAndV, evOrV, evP, evI, mb_ok, mb_some, mb_er, op_some, keep_sh, keep_fr, blM_bl, intM_int, nerr_ok, Option.map_some, Option.bind_some, List.getElem?_cons_zero, List.getElem?_cons_succ, List.set_cons_zero, List.set_cons_succ, asgF, unpF, ownOf, appF, setAll, bindT, wipeR, List.length_cons, List.length_nil, List.map_cons, List.map_nil, List.replicate, List.cons_append, List.nil_append, if_true, Bool.false_eq_true, if_false, Nat.reduceAdd, Nat.reduceSub, Nat.zero_add, Nat.reduceEqDiff, Option.map_none, Nat.zero_le, Nat.reduceLT, Nat.reduceLeDiff, Bool.not_true, Bool.not_false, kN, ew1, iT, iP, zip_opt, h])).trans ?_
        refine brt ?_
        simp only [runD, evB, evS, evE, evA, evT, evAnd, evOr, evAndV, evOrV, evP, evI, mb_ok, mb_some, mb_er, op_some, keep_sh, keep_fr, blM_bl, intM_int, nerr_ok, Option.map_some, Option.bind_some, List.getElem?_cons_zero, List.getElem?_cons_succ, List.set_cons_zero, List.set_cons_succ, asgF, unpF, ownOf, appF, setAll, bindT, wipeR, List.length_cons, List.length_nil, List.map_cons, List.map_nil, List.replicate, List.cons_append, List.nil_append, if_true, Bool.false_eq_true, if_false, Nat.reduceAdd, Nat.reduceSub, Nat.zero_add, Nat.reduceEqDiff, Option.map_none, Nat.zero_le, Nat.reduceLT, Nat.reduceLeDiff, Bool.not_true, Bool.not_false, hg]
  | _ =>
    refine brt ?_
    simp only [runD, evB, evS, evE, evA, evT, evAnd, evOr, evAndV, evOrV, evP, evI, mb_ok, mb_some, mb_er, op_some, keep_sh, keep_fr, blM_bl, intM_int, nerr_ok, Option.map_some, Option.bind_some, List.getElem?_cons_zero, List.getElem?_cons_succ, List.set_cons_zero, List.set_cons_succ, asgF, unpF, ownOf, appF, setAll, bindT, wipeR, List.length_cons, List.length_nil, List.map_cons, List.map_nil, List.replicate, List.cons_append, List.nil_append, if_true, Bool.false_eq_true, if_false, Nat.reduceAdd, Nat.reduceSub, Nat.zero_add, Nat.reduceEqDiff, Option.map_none, Nat.zero_le, Nat.reduceLT, Nat.reduceLeDiff, Bool.not_true, Bool.not_false, isiD, areFences, isFences]
end J

set_option Elab.async false
set_option linter.all false
set_option maxRecDepth 100000
set_option maxHeartbeats 4000000
/-! fences are tame -/
namespace J
open PySem PV
theorem frD_fd (q : Rat) : Fd 1 (frD q) := Fd.tup fun x hx => by
  simp only [List.mem_cons, List.not_mem_nil, or_false] at hx
  rcases hx with rfl | rfl
  · exact fd_int _
  · exact fd_n _
theorem fnD_fd (f : Fence) : Fd 2 (fnD f) := Fd.tup fun x hx => by
  simp only [List.mem_cons, List.not_mem_nil, or_false] at hx
  rcases hx with rfl | rfl
  · exact fd_ns _
  · exact frD_fd _
theorem fnsD_fd (fs : List Fence) : Fd 3 (.tup (fnsD fs)) := Fd.tup fun x hx => by
  obtain ⟨f, _, rfl⟩ := List.mem_map.mp hx
  exact fnD_fd f
theorem tame_frD {c : Nat} {q : Rat} (h : Sm c q) : D.tame c (frD q) = true := tame_tup' (by simp) fun x hx => by
  simp only [List.mem_cons, List.not_mem_nil, or_false] at hx
  rcases hx with rfl | rfl
  · simpa [D.tame] using h.1
  · simpa [D.tame, nD] using h.2
theorem tame_ns {c : Nat} {s : List Nat} (hl : s.length < 64) (h : ∀ x ∈ s, x < 2 ^ c) : D.tame c (.tup (nsD s)) = true := tame_tup' (by simpa [nsD] using hl) fun x hx => by
  obtain ⟨n, hn, rfl⟩ := List.mem_map.mp hx
  simpa [D.tame, nD] using h n hn
theorem tm_fns {c : Nat} {fs : List Fence} (hl : fs.length < 64) (h : ∀ f ∈ fs, f.1.length < 64 ∧ (∀ x ∈ f.1, x < 2 ^ c) ∧ Sm c f.2) : Tm c (.tup (fnsD fs)) := by
  refine ⟨tame_tup' (by simpa [fnsD] using hl) fun x hx => ?_, (fnsD_fd fs).1, Nat.le_trans (fnsD_fd fs).2 (by decide)⟩
  obtain ⟨f, hf, rfl⟩ := List.mem_map.mp hx
  obtain ⟨h1, h2, h3⟩ := h f hf
  refine tame_tup' (by simp) fun x hx => ?_
  simp only [List.mem_cons, List.not_mem_nil, or_false] at hx
  rcases hx with rfl | rfl
  · exact tame_ns h1 h2
  · exact tame_frD h3
end J

set_option Elab.async false
set_option linter.all false
set_option maxRecDepth 100000
set_option maxHeartbeats 4000000
/-! fences that fit are worth no more than ties that join; papers -/
namespace J
open PySem PV
theorem con_cross {ts : List Tie} {s S : List Nat} {x y : Nat} (c : Con ts s x y) : (x ∈ S ↔ y ∈ S) ∨ ∃ n ∈ s, crosses S (tieAt ts n) = true := by
  induction c with
  | refl x => exact .inl Iff.rfl
  | @tie n h =>
    by_cases k : crosses S (tieAt ts n) = true
    · exact .inr ⟨n, h, k⟩
    · left
      by_cases a : (tieAt ts n).1 ∈ S <;> by_cases b : (tieAt ts n).2.1 ∈ S <;> simp [crosses, a, b] at k ⊢
  | symm _ ih =>
    rcases ih with h | h
    · exact .inl h.symm
    · exact .inr h
  | trans _ _ h1 h2 =>
    rcases h1 with h1 | h1
    · rcases h2 with h2 | h2
      · exact .inl (h1.trans h2)
      · exact .inr h2
    · exact .inr h1
theorem parts_cross {ts : List Tie} {s S ends : List Nat} (h : partsB S ends = true) (j : Joins ts s ends) : ∃ n ∈ s, crosses S (tieAt ts n) = true := by
  simp only [partsB, Bool.and_eq_true, List.any_eq_true, decide_eq_true_eq, Bool.not_eq_true', List.all_eq_false] at h
  obtain ⟨⟨x, hx, x1⟩, y, hy, y1⟩ := h
  rcases con_cross (S := S) (j x hx y hy) with k | k
  · exact absurd (k.mp x1) y1
  · exact k
theorem fold_w : ∀ (fs : List Fence) (a : Rat), fs.foldl (fun a f => a + f.2) a = a + worthR fs
  | [], a => by simp [worthR, Rat.add_zero]
  | f :: fs, a => by
    have h1 := fold_w fs (a + f.2)
    have h2 := fold_w fs (0 + f.2)
    have e : worthR (f :: fs) = fs.foldl (fun a f => a + f.2) (0 + f.2) := rfl
    rw [List.foldl_cons, h1, e, h2]
    grind
theorem worth_cons (f : Fence) (fs : List Fence) : worthR (f :: fs) = f.2 + worthR fs := by
  have e : worthR (f :: fs) = fs.foldl (fun a f => a + f.2) (0 + f.2) := rfl
  rw [e, fold_w]
  grind
theorem load_cons (f : Fence) (fs : List Fence) (t : Tie) : loadR (f :: fs) t = (if crosses f.1 t then f.2 else 0) + loadR fs t := by
  unfold loadR
  rw [List.filter_cons]
  cases crosses f.1 t with
  | true => rw [if_pos rfl, if_pos rfl, worth_cons]
  | false => rw [if_neg (by decide), if_neg (by decide)]; grind
theorem sumR_add (f g : Nat → Rat) : ∀ l : List Nat, (l.map fun n => f n + g n).sum = (l.map f).sum + (l.map g).sum
  | [] => by simp [Rat.add_zero]
  | a :: l => by
    have := sumR_add f g l
    simp only [List.map_cons, List.sum_cons, this]
    grind
theorem sumR_nn {f : Nat → Rat} : ∀ {l : List Nat}, (∀ n ∈ l, 0 ≤ f n) → 0 ≤ (l.map f).sum
  | [], _ => by simp
  | a :: l, h => by
    have h1 := sumR_nn fun n hn => h n (List.mem_cons_of_mem _ hn)
    have h2 := h a List.mem_cons_self
    simp only [List.map_cons, List.sum_cons]
    grind
theorem sumR_ge {f : Nat → Rat} {k : Nat} : ∀ {l : List Nat}, (∀ n ∈ l, 0 ≤ f n) → k ∈ l → f k ≤ (l.map f).sum
  | [], _, h => by cases h
  | a :: l, h, hk => by
    have h1 := sumR_nn fun n hn => h n (List.mem_cons_of_mem _ hn)
    have h2 := h a List.mem_cons_self
    simp only [List.map_cons, List.sum_cons]
    rcases List.mem_cons.mp hk with rfl | hk
    · grind
    · have := sumR_ge (fun n hn => h n (List.mem_cons_of_mem _ hn)) hk
      grind
theorem sumR_le {f g : Nat → Rat} : ∀ {l : List Nat}, (∀ n ∈ l, f n ≤ g n) → (l.map f).sum ≤ (l.map g).sum
  | [], _ => by simp
  | a :: l, h => by
    have h1 := sumR_le fun n hn => h n (List.mem_cons_of_mem _ hn)
    have h2 := h a List.mem_cons_self
    simp only [List.map_cons, List.sum_cons]
    grind
theorem sumR_cast (f : Nat → Nat) : ∀ l : List Nat, (l.map fun n => (f n : Rat)).sum = ((l.map f).sum : Nat)
  | [] => by simp
  | a :: l => by
    have h1 := sumR_cast f l
    simp only [List.map_cons, List.sum_cons, h1]
    push_cast
    rfl
/-- every fence is crossed: the loads are worth at least the fences -/
theorem worth_loads {ts : List Tie} {s : List Nat} : ∀ {fs : List Fence}, (∀ f ∈ fs, 0 < f.2 ∧ ∃ n ∈ s, crosses f.1 (tieAt ts n) = true) → worthR fs ≤ (s.map fun n => loadR fs (tieAt ts n)).sum
  | [], _ => sumR_nn fun n _ => by simp [loadR, worthR]
  | f :: fs, h => by
    have ih := worth_loads fun g hg => h g (List.mem_cons_of_mem _ hg)
    obtain ⟨h1, n, hn, h2⟩ := h f List.mem_cons_self
    have e : (s.map fun n => loadR (f :: fs) (tieAt ts n)).sum = (s.map fun n => if crosses f.1 (tieAt ts n) then f.2 else 0).sum + (s.map fun n => loadR fs (tieAt ts n)).sum := by
      rw [← sumR_add]
      congr 1
      exact List.map_congr_left fun k _ => load_cons f fs _
    have g := sumR_ge (f := fun n => if crosses f.1 (tieAt ts n) then f.2 else 0) (l := s) (fun k _ => by
      show (0 : Rat) ≤ if crosses f.1 (tieAt ts k) then f.2 else 0
      split <;> grind) hn
    have g : (if crosses f.1 (tieAt ts n) then f.2 else 0) ≤ (s.map fun n => if crosses f.1 (tieAt ts n) then f.2 else 0).sum := g
    rw [if_pos h2] at g
    rw [e, worth_cons]
    grind
/-! ### prices -/
def priceAt (ts : List Tie) (outs ins : List Nat) (n : Nat) : Option Nat := if n ∈ outs then none else if n ∈ ins then some 0 else some (price ts n)
def pricesAt (ts : List Tie) (outs ins : List Nat) : List (Option Nat) := (List.range ts.length).map (priceAt ts outs ins)
theorem ts_range (ts : List Tie) : ts = (List.range ts.length).map (tieAt ts) := by
  apply List.ext_getElem (by simp)
  intro i h1 h2
  simp [tieAt, List.getD_eq_getElem?_getD, List.getElem?_eq_getElem h1]
theorem zip_at (ts : List Tie) (g : Nat → Option Nat) : ts.zip ((List.range ts.length).map g) = (List.range ts.length).map fun n => (tieAt ts n, g n) := by
  apply List.ext_getElem (by simp)
  intro i h1 h2
  simp only [List.length_zip, List.length_map, List.length_range, Nat.min_self] at h1
  simp [tieAt, List.getD_eq_getElem?_getD, List.getElem?_eq_getElem h1]
theorem fits_at {fs : List Fence} {ts : List Tie} {g : Nat → Option Nat} : fits fs ts ((List.range ts.length).map g) = true ↔ ∀ n, n < ts.length → prOk fs (tieAt ts n) (g n) = true := by
  unfold fits
  rw [zip_at, List.all_map, List.all_eq_true]
  exact ⟨fun h n hn => h n (List.mem_range.mpr hn), fun h n hn => h n (List.mem_range.mp hn)⟩
theorem cost_sub {ts : List Tie} : ∀ {t s : List Nat}, t.Nodup → (∀ n ∈ t, n ∈ s) → costN ts t ≤ costN ts s
  | [], s, _, _ => Nat.zero_le _
  | a :: r, s, h, k => by
    obtain ⟨h1, h2⟩ := List.nodup_cons.mp h
    have e := costN_erase (ts := ts) (k a List.mem_cons_self)
    have := cost_sub (ts := ts) (s := s.erase a) h2 fun n hn => (List.mem_erase_of_ne (by rintro rfl; exact h1 hn)).mpr (k n (List.mem_cons_of_mem _ hn))
    rw [costN_cons, e]
    omega
theorem cost_free (ts : List Tie) (ins : List Nat) : ∀ s : List Nat, (s.map fun n => if n ∈ ins then 0 else price ts n).sum = costN ts (s.filter fun n => !decide (n ∈ ins))
  | [] => rfl
  | a :: s => by
    have := cost_free ts ins s
    rw [List.map_cons, List.sum_cons, this, List.filter_cons]
    by_cases h : a ∈ ins
    · simp [h]
    · simp [h, costN_cons]
/-- fences that fit the prices, some ties being out, some in -/
theorem dual {m : Nat} {ts : List Tie} {ends outs ins s : List Nat} {fs : List Fence} (hf : ∀ f ∈ fs, FenceOk m ends f) (fit : fits fs ts (pricesAt ts outs ins) = true)
    (hs : ∀ n ∈ s, n < ts.length) (j : Joins ts s ends) (ho : ∀ n ∈ s, n ∉ outs) (hi : ∀ n ∈ ins, n ∈ s) (hn : ins.Nodup) : worthR fs + (costN ts ins : Nat) ≤ (costN ts s : Nat) := by
  have h1 := worth_loads (ts := ts) (s := s) (fs := fs) fun f h => ⟨(hf f h).pos, parts_cross (hf f h).parts j⟩
  have h2 : (s.map fun n => loadR fs (tieAt ts n)).sum ≤ (s.map fun n => (((if n ∈ ins then 0 else price ts n) : Nat) : Rat)).sum := sumR_le fun n k => by
    have q := fits_at.mp fit n (hs n k)
    unfold priceAt at q
    rw [if_neg (ho n k)] at q
    by_cases c : n ∈ ins
    · rw [if_pos c] at q ⊢
      exact of_decide_eq_true q
    · rw [if_neg c] at q ⊢
      exact of_decide_eq_true q
  rw [sumR_cast, cost_free] at h2
  have h3 := costN_split ts (fun n => decide (n ∈ ins)) s
  have h4 := cost_sub (ts := ts) (s := s.filter fun n => decide (n ∈ ins)) hn fun n h => List.mem_filter.mpr ⟨hi n h, by simpa using h⟩
  have h5 : costN ts ins + costN ts (s.filter fun n => !decide (n ∈ ins)) ≤ costN ts s := by omega
  have h6 : ((costN ts ins + costN ts (s.filter fun n => !decide (n ∈ ins)) : Nat) : Rat) ≤ (costN ts s : Nat) := by exact_mod_cast h5
  push_cast at h6
  grind
/-! ### papers -/
def inR (N : Nat) : D → Option Nat
  | .int i => if 0 ≤ i ∧ i < (N : Int) then some i.toNat else none
  | _ => none
def left (ts : List Tie) (outs : List Nat) : List Nat := (List.range ts.length).filter fun n => !decide (n ∈ outs)
def papS (m : Nat) (ts : List Tie) (ends : List Nat) (pr : Nat) (R : List Nat → List Nat → D → Bool) (outs ins : List Nat) : D → Bool
  | .tup [.str a] => decide (a = ("apart" : Str)) && !joinB m ts (left ts outs) ends
  | .tup [.str a, b] => decide (a = ("fences" : Str)) && (match isFences m ends b with
    | none => false
    | some fs => fits fs ts (pricesAt ts outs ins) && !decide (worthR fs < (pr : Rat) - (costN ts ins : Nat)))
  | .tup [.str a, t, x, y] => decide (a = ("cases" : Str)) && (match inR ts.length t with
    | none => false
    | some n => !decide (n ∈ outs) && (!decide (n ∈ ins) && (R (outs ++ [n]) ins x && R outs (ins ++ [n]) y)))
  | _ => false
def isPap (m : Nat) (ts : List Tie) (ends : List Nat) (pr : Nat) : Nat → List Nat → List Nat → D → Bool
  | 0 => fun _ _ _ => false
  | j + 1 => papS m ts ends pr (isPap m ts ends pr j)
theorem pap_sound {m : Nat} {ts : List Tie} (hw : InW m ts) {ends : List Nat} (he : ∀ x ∈ ends, x < m) {pr : Nat} : ∀ (j : Nat) (outs ins : List Nat) (d : D), isPap m ts ends pr j outs ins d = true → ∀ s : List Nat, (∀ n ∈ s, n < ts.length) → Joins ts s ends → (∀ n ∈ s, n ∉ outs) → (∀ n ∈ ins, n ∈ s) → ins.Nodup → pr ≤ costN ts s := by
  intro j
  induction j with
  | zero => intro outs ins d h; cases h
  | succ j ih =>
    intro outs ins d h s hs js ho hi hn
    have h : papS m ts ends pr (isPap m ts ends pr j) outs ins d = true := h
    unfold papS at h
    split at h
    · simp only [Bool.and_eq_true, Bool.not_eq_true'] at h
      have q : joinB m ts (left ts outs) ends = true := (joinB_iff hw (fun n hn => List.mem_range.mp (List.mem_filter.mp hn).1) he).mpr (js.mono fun n hn => List.mem_filter.mpr ⟨List.mem_range.mpr (hs n hn), by simpa using ho n hn⟩)
      rw [q] at h
      cases h.2
    · simp only [Bool.and_eq_true] at h
      obtain ⟨_, h⟩ := h
      split at h
      · cases h
      · rename_i fs hf
        simp only [Bool.and_eq_true, Bool.not_eq_true', decide_eq_false_iff_not] at h
        have q := dual (fences_some hf).2 h.1 hs js ho hi hn
        have g : (pr : Rat) ≤ (costN ts s : Nat) := by grind
        exact_mod_cast g
    · simp only [Bool.and_eq_true] at h
      obtain ⟨_, h⟩ := h
      split at h
      · cases h
      · rename_i n hf
        simp only [Bool.and_eq_true, Bool.not_eq_true', decide_eq_false_iff_not] at h
        obtain ⟨h1, h2, h3, h4⟩ := h
        by_cases c : n ∈ s
        · refine ih _ _ _ h4 s hs js ho (fun k hk => ?_) ?_
          · rcases List.mem_append.mp hk with h | h
            · exact hi k h
            · rw [List.mem_singleton.mp h]; exact c
          · exact List.nodup_append.mpr ⟨hn, by simp, fun a ha b hb => by
              rw [List.mem_singleton.mp hb]; rintro rfl; exact h2 ha⟩
        · refine ih _ _ _ h3 s hs js (fun k hk h => ?_) hi hn
          rcases List.mem_append.mp h with h | h
          · exact ho k hk h
          · exact c (by rw [← List.mem_singleton.mp h]; exact hk)
    · cases h
end J

set_option Elab.async false
set_option linter.all false
set_option maxRecDepth 100000
set_option maxHeartbeats 4000000
/-! papers, by the program -/
namespace J
open PySem PV
theorem optD_at (ts : List Tie) (outs ins : List Nat) {i : Nat} (h : i < ts.length) : (pricesAt ts outs ins).take (i + 1) = (pricesAt ts outs ins).take i ++ [priceAt ts outs ins i] := by
  have e : (pricesAt ts outs ins)[i]? = some (priceAt ts outs ins i) := by
    unfold pricesAt
    rw [List.getElem?_map, List.getElem?_range h]
    rfl
  exact take_succ' e
theorem pricesAt_len (ts : List Tie) (outs ins : List Nat) : (pricesAt ts outs ins).length = ts.length := by simp [pricesAt]
def SPrices (φ : List D → M D) : Prop := ∀ (m : Nat) (ts : List Tie) (outs ins : List Nat), ts.length < 64 → φ [webD m ts, .lst (nsD outs), .lst (nsD ins)] = ok (.lst ((pricesAt ts outs ins).map optD))
theorem isin_l (l : List Nat) (k : Nat) : cop .isin (nD k) (.lst (nsD l)) = some (decide (k ∈ l)) := isin_ns false l k
theorem notin_l (l : List Nat) (k : Nat) : cop .notin (nD k) (.lst (nsD l)) = some (!decide (k ∈ l)) := notin_ns false l k
theorem enum_at {ts : List Tie} {i : Nat} {d : D} (h : ((ts.map tieD).zipIdx.map fun p => D.tup [.int (p.2 : Nat), p.1])[i]? = some d) : i < ts.length ∧ d = .tup [nD i, tieD (tieAt ts i)] := by
  rw [List.getElem?_map, List.getElem?_zipIdx] at h
  by_cases hi : i < ts.length
  · refine ⟨hi, ?_⟩
    rw [List.getElem?_map, List.getElem?_eq_getElem hi] at h
    have e : tieAt ts i = ts[i] := by simp [tieAt, List.getD_eq_getElem?_getD, List.getElem?_eq_getElem hi]
    rw [e]
    simpa [nD] using h.symm
  · rw [List.getElem?_map, List.getElem?_eq_none (by omega)] at h
    simp at h
theorem prices_ok {Φ : Tab} {wf : Nat} : SPrices (runD m_prices_at Φ wf) := by
  intro m ts outs ins hl
  have ew1 : ixD (webD m ts) (nD 1) = some (.tup (ts.map tieD)) := rfl
  obtain ⟨W, hW⟩ : ∃ W, W = webD m ts := ⟨_, rfl⟩
  obtain ⟨O, hO⟩ : ∃ O, O = D.lst (nsD outs) := ⟨_, rfl⟩
  obtain ⟨I, hI⟩ : ∃ I, I = D.lst (nsD ins) := ⟨_, rfl⟩
  have step : ∀ (i : Nat) (d : D) (ρ : Rho), ((ts.map tieD).zipIdx.map fun p => D.tup [.int (p.2 : Nat), p.1])[i]? = some d → (∃ a b, ρ = [.va W, .va O, .va I, .ow (((pricesAt ts outs ins).take i).map optD), a, b]) →
      ∃ ρ1 ρ2, bindT false [4, 5] d ρ = some ρ1 ∧ evB Φ wf l1_prices_at ρ1 = ok (.nx ρ2) ∧ (∃ a b, ρ2 = [.va W, .va O, .va I, .ow (((pricesAt ts outs ins).take (i + 1)).map optD), a, b]) := by
    rintro i d ρ h ⟨a, b, rfl⟩
    obtain ⟨hi, rfl⟩ := enum_at h
    have ll : (((pricesAt ts outs ins).take i).map optD).length < top := by
      rw [List.length_map, List.length_take]; unfold top; omega
    rw [optD_at ts outs ins hi, List.map_append]
    generalize ((pricesAt ts outs ins).take i).map optD = F at ll
    refine ⟨[.va W, .va O, .va I, .ow F, .va (nD i), .va (tieD (tieAt ts i))], [.va W, .va O, .va I, .ow (F ++ [optD (priceAt ts outs ins i)]), .va (nD i), .va (tieD (tieAt ts i))], rfl, ?_, ⟨_, _, rfl⟩⟩
    have e2 : ixD (tieD (tieAt ts i)) (nD 2) = some (nD (price ts i)) := rfl
    have i1 : cop .isin (nD i) O = some (decide (i ∈ outs)) := by rw [hO]; exact isin_l _ _
    have i2 : cop .isin (nD i) I = some (decide (i ∈ ins)) := by rw [hI]; exact isin_l _ _
    unfold priceAt
    by_cases h1 : i ∈ outs
    · simp only [runD, evB, evS, evE, evA, evT, evAnd, evOr, evAndV, evOrV, evP, evI, mb_ok, mb_some, mb_er, op_some, keep_sh, keep_fr, blM_bl, intM_int, nerr_ok, Option.map_some, Option.bind_some, List.getElem?_cons_zero, List.getElem?_cons_succ, List.set_cons_zero, List.set_cons_succ, asgF, unpF, ownOf, appF, setAll, bindT, wipeR, List.length_cons, List.length_nil, List.map_cons, List.map_nil, List.replicate, List.cons_append, List.nil_append, if_true, Bool.false_eq_true, if_false, Nat.reduceAdd, Nat.reduceSub, Nat.zero_add, Nat.reduceEqDiff, Option.map_none, Nat.zero_le, Nat.reduceLT, Nat.reduceLeDiff, Bool.not_true, Bool.not_false, l1_prices_at, i1, h1, decide_true, if_pos ll]
      rfl
    · by_cases h2 : i ∈ ins
      · simp only [runD, evB, evS, evE, evA, evT, evAnd, evOr, evAndV, evOrV, evP, evI, mb_ok, mb_some, mb_er, op_some, keep_sh, keep_fr, blM_bl, intM_int, nerr_ok, Option.map_some, Option.bind_some, List.getElem?_cons_zero, List.getElem?_cons_succ, List.set_cons_zero, List.set_cons_succ, asgF, unpF, ownOf, appF, setAll, bindT, wipeR, List.length_cons, List.length_nil, List.map_cons, List.map_nil, List.replicate, List.cons_append, List.nil_append, if_true, Bool.false_eq_true, if_false, Nat.reduceAdd, Nat.reduceSub, Nat.zero_add, Nat.reduceEqDiff, Option.map_none, Nat.zero_le, Nat.reduceLT, Nat.reduceLeDiff, Bool.not_true, Bool.not_false, l1_prices_at, i1, i2, h1, h2, decide_true, decide_false, if_pos ll]
        rfl
      · simp only [runD, evB, evS, evE, evA, evT, evAnd, evOr, evAndV, evOrV, evP, evI, mb_ok, mb_some, mb_er, op_some, keep_sh, keep_fr, blM_bl, intM_int, nerr_ok, Option.map_some, Option.bind_some, List.getElem?_cons_zero, List.getElem?_cons_succ, List.set_cons_zero, List.set_cons_succ, asgF, unpF, ownOf, appF, setAll, bindT, wipeR, List.length_cons, List.length_nil, List.map_cons, List.map_nil, List.replicate, List.cons_append, List.nil_append, if_true, Bool.false_eq_true, if_false, Nat.reduceAdd, Nat.reduceSub, Nat.zero_add, Nat.reduceEqDiff, Option.map_none, Nat.zero_le, Nat.reduceLT, Nat.reduceLeDiff, Bool.not_true, Bool.not_false, l1_prices_at, i1, i2, h1, h2, decide_false, kN, e2, if_pos ll]
        rfl
  obtain ⟨ρ', e, a, b, rfl⟩ := forL_go (bind := bindT false [4, 5]) (body := fun ρ => evB Φ wf l1_prices_at ρ) (ds := (ts.map tieD).zipIdx.map fun p => D.tup [.int (p.2 : Nat), p.1]) (fun i ρ => ∃ a b, ρ = [.va W, .va O, .va I, .ow (((pricesAt ts outs ins).take i).map optD), a, b]) ⟨.no, .no, rfl⟩ step
  rw [show ((ts.map tieD).zipIdx.map fun p => D.tup [.int (p.2 : Nat), p.1]).length = ts.length by simp, show (pricesAt ts outs ins).take ts.length = pricesAt ts outs ins from List.take_of_length_le (by rw [pricesAt_len]; exact Nat.le_refl _)] at e
  refine rrt rfl ?_
  rw [← hO, ← hI, ← hW]
  show evB Φ wf m_prices_at.body [.va W, .va O, .va I, .no, .no, .no] = _
  rw [← hW] at ew1
  simp only [m_prices_at]
  refine (bnx (ρ' := [.va W, .va O, .va I, .ow [], .no, .no]) (by simp only [runD, evB, evS, evE, evA, evT, evAnd, evOr, evAndV, evOrV, evP, evI, mb_ok, mb_some, mb_er, op_some, keep_sh, keep_fr, blM_bl, intM_int, nerr_ok, Option.map_some, Option.bind_some, List.getElem?_cons_zero, List.getElem?_cons_succ, List.set_cons_zero, List.set_cons_succ, asgF, unpF, ownOf, appF, setAll, bindT, wipeR, List.length_cons, List.length_nil, List.map_cons, List.map_nil, List.replicate, List.cons_append, List.nil_append, if_true, Bool.false_eq_true, if_false, Nat.reduceAdd, Nat.reduceSub, Nat.zero_add, Nat.reduceEqDiff, Option.map_none, Nat.zero_le, Nat.reduceLT, Nat.reduceLeDiff, Bool.not_true, Bool.not_false, top])).trans ?_
  have it : items (.tup (ts.map tieD)) = some (ts.map tieD) := rfl
  refine (bnx (by simp only [runD, evB, evS, evE, evA, evT, evAnd, evOr, evAndV, evOrV, evP, evI, mb_ok, mb_some, mb_er, op_some, keep_sh, keep_fr, blM_bl, intM_int, nerr_ok, Option.map_some, Option.bind_some, List.getElem?_cons_zero, List.getElem?_cons_succ, List.set_cons_zero, List.set_cons_succ, asgF, unpF, ownOf, appF, setAll, bindT, wipeR, List.length_cons, List.length_nil, List.map_cons, List.map_nil, List.replicate, List.cons_append, List.nil_append, if_true, Bool.false_eq_true, if_false, Nat.reduceAdd, Nat.reduceSub, Nat.zero_add, Nat.reduceEqDiff, Option.map_none, Nat.zero_le, Nat.reduceLT, Nat.reduceLeDiff, Bool.not_true, Bool.not_false, kN, ew1, it]; exact e)).trans ?_
  refine brt ?_
  simp only [runD, evB, evS, evE, evA, evT, evAnd, evOr, evAndV, evOrV, evP, evI, mb_ok, mb_some, mb_er, op_some, keep_sh, keep_fr, blM_bl, intM_int, nerr_ok, Option.map_some, Option.bind_some, List.getElem?_cons_zero, List.getElem?_cons_succ, List.set_cons_zero, List.set_cons_succ, asgF, unpF, ownOf, appF, setAll, bindT, wipeR, List.length_cons, List.length_nil, List.map_cons, List.map_nil, List.replicate, List.cons_append, List.nil_append, if_true, Bool.false_eq_true, if_false, Nat.reduceAdd, Nat.reduceSub, Nat.zero_add, Nat.reduceEqDiff, Option.map_none, Nat.zero_le, Nat.reduceLT, Nat.reduceLeDiff, Bool.not_true, Bool.not_false]
/-! ### is_paper -/
structure PapH (m : Nat) (ts : List Tie) (ends : List Nat) (pr : Nat) (outs ins : List Nat) (j : Nat) : Prop where
  web : Web m ts
  ends : Ends m ends
  pb : ∀ n, n < ts.length → price ts n < 2 ^ 64
  prb : pr < 2 ^ 64
  il : ∀ n ∈ ins, n < ts.length
  ol : ∀ n ∈ outs, n < ts.length
  io : ins.length + outs.length + j ≤ 200
theorem PapH.fewer {m : Nat} {ts : List Tie} {ends : List Nat} {pr : Nat} {outs ins : List Nat} {j : Nat} (h : PapH m ts ends pr outs ins (j + 1)) {n : Nat} (hn : n < ts.length) : PapH m ts ends pr (outs ++ [n]) ins j ∧ PapH m ts ends pr outs (ins ++ [n]) j := by
  have io := h.io
  refine ⟨⟨h.web, h.ends, h.pb, h.prb, h.il, fun k hk => ?_, by simp; omega⟩, ⟨h.web, h.ends, h.pb, h.prb, fun k hk => ?_, h.ol, by simp; omega⟩⟩
  all_goals
    rcases List.mem_append.mp hk with k | k
    · first | exact h.ol _ k | exact h.il _ k
    · rw [List.mem_singleton.mp k]; exact hn
theorem cost_lt {ts : List Tie} (hp : ∀ n, n < ts.length → price ts n < 2 ^ 64) : ∀ {s : List Nat}, (∀ n ∈ s, n < ts.length) → costN ts s ≤ s.length * 2 ^ 64
  | [], _ => Nat.zero_le _
  | a :: s, h => by
    have := cost_lt hp (s := s) fun n hn => h n (List.mem_cons_of_mem _ hn)
    have := hp a (h a List.mem_cons_self)
    rw [costN_cons, List.length_cons]
    omega
def SPaper (j : Nat) (φ : List D → M D) : Prop := ∀ (m : Nat) (ts : List Tie) (ends : List Nat) (pr : Nat) (outs ins : List Nat) (d : D) (c : Nat), PapH m ts ends pr outs ins j → Tm c d → c ≤ 110 → D.dep d ≤ j → φ [webD m ts, .tup (nsD ends), nD pr, .lst (nsD outs), .lst (nsD ins), d] = ok (.bl (isPap m ts ends pr j outs ins d))
theorem cop_str {a b : Str} (h : PyData.strOk a = true) (h2 : PyData.strOk b = true) : cop .eq (.str a) (.str b) = some (decide (a = b)) := by
  simp only [cop, D.fine, D.pln, D.dep, h, h2, D.eqv]
  rfl
theorem cop_strn {a b : Str} (h : PyData.strOk a = true) (h2 : PyData.strOk b = true) : cop .ne (.str a) (.str b) = some (!decide (a = b)) := by
  simp only [cop, D.fine, D.pln, D.dep, h, h2, D.eqv]
  rfl
theorem frD_int (z : Int) : frD (z : Rat) = .tup [.int z, nD 1] := by
  unfold frD
  rw [Rat.num_intCast, Rat.den_intCast]
theorem left_lt {ts : List Tie} {outs : List Nat} : ∀ n ∈ left ts outs, n < ts.length := fun n hn => List.mem_range.mp (List.mem_filter.mp hn).1
theorem price_opt {ts : List Tie} {outs ins : List Nat} (hp : ∀ n, n < ts.length → price ts n < 2 ^ 64) : ∀ x n, x ∈ pricesAt ts outs ins → x = some n → n < 2 ^ 64 := by
  intro x n hx e
  obtain ⟨k, hk, rfl⟩ := List.mem_map.mp hx
  have hk := List.mem_range.mp hk
  unfold priceAt at e
  split at e
  · cases e
  · split at e
    · cases e; decide
    · cases e; exact hp k hk
/-- the things that are no papers at all -/
theorem papS_n {m : Nat} {ts : List Tie} {ends : List Nat} {pr : Nat} {R : List Nat → List Nat → D → Bool} {outs ins : List Nat} {a : Str} {r : List D} (h1 : a = ("apart" : Str) → r.length ≠ 0) (h2 : a = ("fences" : Str) → r.length ≠ 1) (h3 : a = ("cases" : Str) → r.length ≠ 3) : papS m ts ends pr R outs ins (.tup (.str a :: r)) = false := by
  unfold papS
  split
  · rename_i e
    cases e
    rw [decide_eq_false (fun e => h1 e rfl)]; rfl
  · rename_i e
    cases e
    rw [decide_eq_false (fun e => h2 e rfl)]; rfl
  · rename_i e
    cases e
    rw [decide_eq_false (fun e => h3 e rfl)]; rfl
  · rfl
theorem papS_a {m : Nat} {ts : List Tie} {ends : List Nat} {pr : Nat} {R : List Nat → List Nat → D → Bool} {outs ins : List Nat} {a : D} {r : List D} (h : isiD .str a = some false) : papS m ts ends pr R outs ins (.tup (a :: r)) = false := by
  unfold papS
  split
  · rename_i e
    cases e; cases h
  · rename_i e
    cases e; cases h
  · rename_i e
    cases e; cases h
  · rfl
theorem paper_at_ok {Φ : Tab} {wf j : Nat} (hj : Fn Φ "joins" SJoins) (hf : Fn Φ "are_fences_at" SFencesAt) (hp : Fn Φ "prices_at" SPrices) (ha : Fn Φ "is_above" SAbove) (hc : Fn Φ "cost" SCost) (hw : Fn Φ "worth" SWorth) (hr : ∀ i, j = i + 1 → Fn Φ "is_paper_at" (SPaper i)) : SPaper j (runD m_is_paper_at Φ wf) := by
  intro m ts ends pr outs ins d c H td hc110 hd
  obtain ⟨φj, fj, sj⟩ := hj
  obtain ⟨φf, ff, sf⟩ := hf
  obtain ⟨φp, fp, sp⟩ := hp
  obtain ⟨φa, fa, sa⟩ := ha
  obtain ⟨φc, fc, sc⟩ := hc
  obtain ⟨φw, fw, sw⟩ := hw
  have WW := H.web
  have t64 := WW.t10
  have io := H.io
  have ew1 : ixD (webD m ts) (nD 1) = some (.tup (ts.map tieD)) := rfl
  have lt1 : uop .len (.tup (ts.map tieD)) = some (nD ts.length, .sh) := by simp [uop, items, nD]
  have kj : φj [webD m ts, .lst (nsD (left ts outs)), .tup (nsD ends)] = ok (.bl (joinB m ts (left ts outs) ends)) := sj m ts (left ts outs) ends false true WW.m7 WW.inw left_lt H.ends.1 H.ends.2
  have kp := sp m ts outs ins t64
  have kc : φc [webD m ts, .lst (nsD ins)] = ok (nD (costN ts ins)) := sc m ts ins false (by omega) H.il
  have cb : costN ts ins < 2 ^ 80 := by
    have h1 := cost_lt H.pb H.il
    have h2 : ins.length * 2 ^ 64 ≤ 200 * 2 ^ 64 := Nat.mul_le_mul_right _ (by omega)
    exact Nat.lt_of_le_of_lt (Nat.le_trans h1 h2) (by decide)
  obtain ⟨W, hW⟩ : ∃ W, W = webD m ts := ⟨_, rfl⟩
  obtain ⟨E, hE⟩ : ∃ E, E = D.tup (nsD ends) := ⟨_, rfl⟩
  obtain ⟨P, hP⟩ : ∃ P, P = nD pr := ⟨_, rfl⟩
  obtain ⟨O, hO⟩ : ∃ O, O = D.lst (nsD outs) := ⟨_, rfl⟩
  obtain ⟨I, hI⟩ : ∃ I, I = D.lst (nsD ins) := ⟨_, rfl⟩
  have no : ∀ n, cop .isin (nD n) O = some (decide (n ∈ outs)) := fun n => by rw [hO]; exact isin_l _ _
  have ni : ∀ n, cop .isin (nD n) I = some (decide (n ∈ ins)) := fun n => by rw [hI]; exact isin_l _ _
  have nno : ∀ n, cop .notin (nD n) O = some (!decide (n ∈ outs)) := fun n => by rw [hO]; exact notin_l _ _
  refine rrt rfl ?_
  rw [← hW, ← hE, ← hP, ← hO, ← hI]
  show evB Φ wf m_is_paper_at.body [.va W, .va E, .va P, .va O, .va I, .va d, .no, .no, .no] = _
  rw [← hW] at ew1 kj kp kc
  rw [← hE] at kj
  rw [← hO, ← hI] at kp
  rw [← hI] at kc
  simp only [m_is_paper_at]
  have other : isiD .tuple d = some false → isPap m ts ends pr j outs ins d = false := fun h => by
    cases j with
    | zero => rfl
    | succ j =>
      show papS m ts ends pr (isPap m ts ends pr j) outs ins d = false
      cases d <;> first | rfl | cases h
  cases d with
  | scr _ => exact absurd td.nsc (by simp [J.nsc])
  | tup xs =>
    obtain ⟨hlen, hx⟩ := td.tup
    have dep1 : D.depL xs + 1 ≤ j := by simpa [D.dep] using hd
    obtain ⟨i, rfl⟩ : ∃ i, j = i + 1 := ⟨j - 1, by omega⟩
    obtain ⟨φr, fr, sr⟩ := hr i rfl
    show _ = ok (Fl.rt (.bl (papS m ts ends pr (isPap m ts ends pr i) outs ins (.tup xs))))
    have lx : uop .len (.tup xs) = some (nD xs.length, .sh) := by simp [uop, items, nD]
    cases xs with
    | nil =>
      refine brt ?_
      simp only [runD, evB, evS, evE, evA, evT, evAnd, evOr, evAndV, evOrV, evP, evI, mb_ok, mb_some, mb_er, op_some, keep_sh, keep_fr, blM_bl, intM_int, nerr_ok, Option.map_some, Option.bind_some, List.getElem?_cons_zero, List.getElem?_cons_succ, List.set_cons_zero, List.set_cons_succ, asgF, unpF, ownOf, appF, setAll, bindT, wipeR, List.length_cons, List.length_nil, List.map_cons, List.map_nil, List.replicate, List.cons_append, List.nil_append, if_true, Bool.false_eq_true, if_false, Nat.reduceAdd, Nat.reduceSub, Nat.zero_add, Nat.reduceEqDiff, Option.map_none, Nat.zero_le, Nat.reduceLT, Nat.reduceLeDiff, Bool.not_true, Bool.not_false, isiD, lx, kN, cop_eqn]
      rfl
    | cons a r =>
      have ta := hx a List.mem_cons_self
      have i0 : ixD (.tup (a :: r)) (nD 0) = some a := ix_tup (xs := a :: r) (n := 0) (by simp)
      have l0 : (r.length + 1 == 0) = false := by simp
      cases has : isiD .str a with
      | none => cases a <;> first | (cases has; done) | exact absurd ta.nsc (by simp [J.nsc])
      | some bs =>
      cases bs with
      | false =>
        rw [papS_a has]
        refine brt ?_
        have isT : isiD .tuple (.tup (a :: r)) = some true := rfl
        simp only [runD, evB, evS, evE, evA, evT, evAnd, evOr, evAndV, evOrV, evP, evI, mb_ok, mb_some, mb_er, op_some, keep_sh, keep_fr, blM_bl, intM_int, nerr_ok, Option.map_some, Option.bind_some, List.getElem?_cons_zero, List.getElem?_cons_succ, List.set_cons_zero, List.set_cons_succ, asgF, unpF, ownOf, appF, setAll, bindT, wipeR, List.length_cons, List.length_nil, List.map_cons, List.map_nil, List.replicate, List.cons_append, List.nil_append, if_true, Bool.false_eq_true, if_false, Nat.reduceAdd, Nat.reduceSub, Nat.zero_add, Nat.reduceEqDiff, Option.map_none, Nat.zero_le, Nat.reduceLT, Nat.reduceLeDiff, Bool.not_true, Bool.not_false, isT, lx, kN, cop_eqn, l0, i0, has]
      | true =>
        obtain ⟨s, rfl⟩ : ∃ s, a = .str s := by cases a <;> first | exact ⟨_, rfl⟩ | cases has
        have os : PyData.strOk s = true := by simpa [D.pln] using ta.p
        have s1 : cop .eq (.str s) (.str ("apart" : Str)) = some (decide (s = ("apart" : Str))) := cop_str os (by decide +kernel)
        have s2 : cop .eq (.str s) (.str ("fences" : Str)) = some (decide (s = ("fences" : Str))) := cop_str os (by decide +kernel)
        have s3 : cop .ne (.str s) (.str ("cases" : Str)) = some (!decide (s = ("cases" : Str))) := cop_strn os (by decide +kernel)
        obtain ⟨T, hT⟩ : ∃ T, T = D.tup (.str s :: r) := ⟨_, rfl⟩
        rw [← hT] at i0 lx
        have isT : isiD .tuple T = some true := by rw [hT]; rfl
        obtain ⟨RES, hRES⟩ : ∃ RES, RES = papS m ts ends pr (isPap m ts ends pr i) outs ins (.tup (.str s :: r)) := ⟨_, rfl⟩
        rw [← hRES, ← hT]
        refine (bnx (ρ' := [.va W, .va E, .va P, .va O, .va I, .va T, .no, .no, .no]) (by simp only [runD, evB, evS, evE, evA, evT, evAnd, evOr, evAndV, evOrV, evP, evI, mb_ok, mb_some, mb_er, op_some, keep_sh, keep_fr, blM_bl, intM_int, nerr_ok, Option.map_some, Option.bind_some, List.getElem?_cons_zero, List.getElem?_cons_succ, List.set_cons_zero, List.set_cons_succ, asgF, unpF, ownOf, appF, setAll, bindT, wipeR, List.length_cons, List.length_nil, List.map_cons, List.map_nil, List.replicate, List.cons_append, List.nil_append, if_true, Bool.false_eq_true, if_false, Nat.reduceAdd, Nat.reduceSub, Nat.zero_add, Nat.reduceEqDiff, Option.map_none, Nat.zero_le, Nat.reduceLT, Nat.reduceLeDiff, Bool.not_true, Bool.not_false, isT, lx, kN, cop_eqn, l0, i0, has])).trans ?_
        rw [hRES]
        by_cases h1 : s = ("apart" : Str)
        · refine brt ?_
          have q : evS Φ wf (.asg 7 false (.comp (.var 8) true [8] (.rng1 (.un .len (.ix (.var 0) (.kint 1)))) (.som q1_is_paper_at) [8])) [.va W, .va E, .va P, .va O, .va I, .va T, .no, .no, .no] = ok (.nx [.va W, .va E, .va P, .va O, .va I, .va T, .no, .va (.lst (nsD (left ts outs))), .no]) := by
            simp only [runD, evB, evS, evE, evA, evT, evAnd, evOr, evAndV, evOrV, evP, evI, mb_ok, mb_some, mb_er, op_some, keep_sh, keep_fr, blM_bl, intM_int, nerr_ok, Option.map_some, Option.bind_some, List.getElem?_cons_zero, List.getElem?_cons_succ, List.set_cons_zero, List.set_cons_succ, asgF, unpF, ownOf, appF, setAll, bindT, wipeR, List.length_cons, List.length_nil, List.map_cons, List.map_nil, List.replicate, List.cons_append, List.nil_append, if_true, Bool.false_eq_true, if_false, Nat.reduceAdd, Nat.reduceSub, Nat.zero_add, Nat.reduceEqDiff, Option.map_none, Nat.zero_le, Nat.reduceLT, Nat.reduceLeDiff, Bool.not_true, Bool.not_false, kN, ew1, lt1, intM_n]
            rw [if_pos (by omega)]
            simp only [mb_ok, range_ns]
            rw [if_pos (by rw [nsD_len, List.length_range]; unfold top; omega)]
            unfold nsD
            rw [compL_filt (g := nD) (p := fun n => !decide (n ∈ outs)) (fun n _ => by
              simp only [runD, evB, evS, evE, evA, evT, evAnd, evOr, evAndV, evOrV, evP, evI, mb_ok, mb_some, mb_er, op_some, keep_sh, keep_fr, blM_bl, intM_int, nerr_ok, Option.map_some, Option.bind_some, List.getElem?_cons_zero, List.getElem?_cons_succ, List.set_cons_zero, List.set_cons_succ, asgF, unpF, ownOf, appF, setAll, bindT, wipeR, List.length_cons, List.length_nil, List.map_cons, List.map_nil, List.replicate, List.cons_append, List.nil_append, if_true, Bool.false_eq_true, if_false, Nat.reduceAdd, Nat.reduceSub, Nat.zero_add, Nat.reduceEqDiff, Option.map_none, Nat.zero_le, Nat.reduceLT, Nat.reduceLeDiff, Bool.not_true, Bool.not_false, q1_is_paper_at, nno]
              cases decide (n ∈ outs) <;> rfl)]
            rfl
          have b1 : evB Φ wf (.seq (.asg 7 false (.comp (.var 8) true [8] (.rng1 (.un .len (.ix (.var 0) (.kint 1)))) (.som q1_is_paper_at) [8])) (.seq (.ret (.and (.cons (.cmp .eq (.un .len (.var 5)) (.kint 1)) (.cons (.not (.call "joins" (.cons (.var 0) (.cons (.var 7) (.cons (.var 1) .nil))))) .nil)))) .nil)) [.va W, .va E, .va P, .va O, .va I, .va T, .no, .no, .no] = ok (.rt (.bl (papS m ts ends pr (isPap m ts ends pr i) outs ins (.tup (.str s :: r))))) := by
            rw [bnx q]
            refine brt ?_
            by_cases hr0 : r = []
            · subst hr0
              subst h1
              have e : papS m ts ends pr (isPap m ts ends pr i) outs ins (.tup [.str ("apart" : Str)]) = !joinB m ts (left ts outs) ends := by simp [papS]
              rw [e]
              simp only [runD, evB, evS, evE, evA, evT, evAnd, evOr, evAndV, evOrV, evP, evI, mb_ok, mb_some, mb_er, op_some, keep_sh, keep_fr, blM_bl, intM_int, nerr_ok, Option.map_some, Option.bind_some, List.getElem?_cons_zero, List.getElem?_cons_succ, List.set_cons_zero, List.set_cons_succ, asgF, unpF, ownOf, appF, setAll, bindT, wipeR, List.length_cons, List.length_nil, List.map_cons, List.map_nil, List.replicate, List.cons_append, List.nil_append, if_true, Bool.false_eq_true, if_false, Nat.reduceAdd, Nat.reduceSub, Nat.zero_add, Nat.reduceEqDiff, Option.map_none, Nat.zero_le, Nat.reduceLT, Nat.reduceLeDiff, Bool.not_true, Bool.not_false, lx, kN, cop_eqn, beqn, fj, kj]
            · have hl : (r.length + 1 == 1) = false := by cases r with
                | nil => exact absurd rfl hr0
                | cons _ _ => simp
              rw [papS_n (fun _ h => hr0 (List.length_eq_zero_iff.mp h)) (fun h => by subst h1; exact absurd h (by decide +kernel)) (fun h => by subst h1; exact absurd h (by decide +kernel))]
              simp only [runD, evB, evS, evE, evA, evT, evAnd, evOr, evAndV, evOrV, evP, evI, mb_ok, mb_some, mb_er, op_some, keep_sh, keep_fr, blM_bl, intM_int, nerr_ok, Option.map_some, Option.bind_some, List.getElem?_cons_zero, List.getElem?_cons_succ, List.set_cons_zero, List.set_cons_succ, asgF, unpF, ownOf, appF, setAll, bindT, wipeR, List.length_cons, List.length_nil, List.map_cons, List.map_nil, List.replicate, List.cons_append, List.nil_append, if_true, Bool.false_eq_true, if_false, Nat.reduceAdd, Nat.reduceSub, Nat.zero_add, Nat.reduceEqDiff, Option.map_none, Nat.zero_le, Nat.reduceLT, Nat.reduceLeDiff, Bool.not_true, Bool.not_false, lx, kN, cop_eqn, hl]
          rw [← b1]
          simp only [runD, evB, evS, evE, evA, evT, evAnd, evOr, evAndV, evOrV, evP, evI, mb_ok, mb_some, mb_er, op_some, keep_sh, keep_fr, blM_bl, intM_int, nerr_ok, Option.map_some, Option.bind_some, List.getElem?_cons_zero, List.getElem?_cons_succ, List.set_cons_zero, List.set_cons_succ, asgF, unpF, ownOf, appF, setAll, bindT, wipeR, List.length_cons, List.length_nil, List.map_cons, List.map_nil, List.replicate, List.cons_append, List.nil_append, if_true, Bool.false_eq_true, if_false, Nat.reduceAdd, Nat.reduceSub, Nat.zero_add, Nat.reduceEqDiff, Option.map_none, Nat.zero_le, Nat.reduceLT, Nat.reduceLeDiff, Bool.not_true, Bool.not_false, kN, i0, s1, decide_eq_true h1]
        · rw [bnx (s := .ife (.cmp .eq (.ix (.var 5) (.kint 0)) (.kstr "apart")) _ _) (ρ' := [.va W, .va E, .va P, .va O, .va I, .va T, .no, .no, .no]) (by simp only [runD, evB, evS, evE, evA, evT, evAnd, evOr, evAndV, evOrV, evP, evI, mb_ok, mb_some, mb_er, op_some, keep_sh, keep_fr, blM_bl, intM_int, nerr_ok, Option.map_some, Option.bind_some, List.getElem?_cons_zero, List.getElem?_cons_succ, List.set_cons_zero, List.set_cons_succ, asgF, unpF, ownOf, appF, setAll, bindT, wipeR, List.length_cons, List.length_nil, List.map_cons, List.map_nil, List.replicate, List.cons_append, List.nil_append, if_true, Bool.false_eq_true, if_false, Nat.reduceAdd, Nat.reduceSub, Nat.zero_add, Nat.reduceEqDiff, Option.map_none, Nat.zero_le, Nat.reduceLT, Nat.reduceLeDiff, Bool.not_true, Bool.not_false, kN, i0, s1, decide_eq_false h1])]
          by_cases h2 : s = ("fences" : Str)
          · have hs1 : s ≠ ("apart" : Str) := h1
            have fin : ∀ b : Bool, papS m ts ends pr (isPap m ts ends pr i) outs ins (.tup (.str s :: r)) = b → evB Φ wf (.seq (.ife (.or (.cons (.cmp .ne (.un .len (.var 5)) (.kint 2)) (.cons (.not (.call "are_fences_at" (.cons (.var 0) (.cons (.var 1) (.cons (.ix (.var 5) (.kint 1)) (.cons (.call "prices_at" (.cons (.var 0) (.cons (.var 3) (.cons (.var 4) .nil)))) .nil)))))) .nil))) (.seq (.ret (.kbl false)) .nil) .nil) (.seq (.ret (.not (.call "is_above" (.cons (.tup (.cons (.bin .sub (.var 2) (.call "cost" (.cons (.var 0) (.cons (.var 4) .nil)))) (.cons (.kint 1) .nil))) (.cons (.call "worth" (.cons (.ix (.var 5) (.kint 1)) .nil)) .nil))))) .nil)) [.va W, .va E, .va P, .va O, .va I, .va T, .no, .no, .no] = ok (.rt (.bl b)) := by
              intro b0 eb
              by_cases hr1 : r.length = 1
              · obtain ⟨b, rfl⟩ : ∃ b, r = [b] := List.length_eq_one_iff.mp hr1
                have tb := hx b (by simp)
                have i1 : ixD T (nD 1) = some b := by rw [hT]; rfl
                have lx : uop .len T = some (nD 2, .sh) := lx
                have kf := sf m ts ends b (pricesAt ts outs ins) c H.ends.2 t64 tb hc110 (price_opt H.pb)
                rw [← hW, ← hE] at kf
                have e : papS m ts ends pr (isPap m ts ends pr i) outs ins (.tup [.str s, b]) = (match isFences m ends b with
                    | none => false
                    | some fs => fits fs ts (pricesAt ts outs ins) && !decide (worthR fs < (pr : Rat) - (costN ts ins : Nat))) := by
                  show (decide (s = ("fences" : Str)) && _) = _
                  rw [decide_eq_true h2]
                  rfl
                rw [e] at eb
                unfold areFences at kf
                cases hfs : isFences m ends b with
                | none =>
                  rw [hfs] at kf eb
                  have kf : φf [W, E, b, .lst ((pricesAt ts outs ins).map optD)] = ok (.bl false) := kf
                  have eb : false = b0 := eb
                  subst eb
                  refine brt ?_
                  simp only [runD, evB, evS, evE, evA, evT, evAnd, evOr, evAndV, evOrV, evP, evI, mb_ok, mb_some, mb_er, op_some, keep_sh, keep_fr, blM_bl, intM_int, nerr_ok, Option.map_some, Option.bind_some, List.getElem?_cons_zero, List.getElem?_cons_succ, List.set_cons_zero, List.set_cons_succ, asgF, unpF, ownOf, appF, setAll, bindT, wipeR, List.length_cons, List.length_nil, List.map_cons, List.map_nil, List.replicate, List.cons_append, List.nil_append, if_true, Bool.false_eq_true, if_false, Nat.reduceAdd, Nat.reduceSub, Nat.zero_add, Nat.reduceEqDiff, Option.map_none, Nat.zero_le, Nat.reduceLT, Nat.reduceLeDiff, Bool.not_true, Bool.not_false, lx, kN, cop_nen, beqn, i1, fp, kp, ff, kf]
                | some fs =>
                  rw [hfs] at kf eb
                  have kf : φf [W, E, b, .lst ((pricesAt ts outs ins).map optD)] = ok (.bl (fits fs ts (pricesAt ts outs ins))) := kf
                  have eb : (fits fs ts (pricesAt ts outs ins) && !decide (worthR fs < (pr : Rat) - (costN ts ins : Nat))) = b0 := eb
                  obtain ⟨rfl, fok⟩ := fences_some hfs
                  cases hfit : fits fs ts (pricesAt ts outs ins) with
                  | false =>
                    rw [hfit] at kf eb
                    have eb : false = b0 := eb
                    subst eb
                    refine brt ?_
                    simp only [runD, evB, evS, evE, evA, evT, evAnd, evOr, evAndV, evOrV, evP, evI, mb_ok, mb_some, mb_er, op_some, keep_sh, keep_fr, blM_bl, intM_int, nerr_ok, Option.map_some, Option.bind_some, List.getElem?_cons_zero, List.getElem?_cons_succ, List.set_cons_zero, List.set_cons_succ, asgF, unpF, ownOf, appF, setAll, bindT, wipeR, List.length_cons, List.length_nil, List.map_cons, List.map_nil, List.replicate, List.cons_append, List.nil_append, if_true, Bool.false_eq_true, if_false, Nat.reduceAdd, Nat.reduceSub, Nat.zero_add, Nat.reduceEqDiff, Option.map_none, Nat.zero_le, Nat.reduceLT, Nat.reduceLeDiff, Bool.not_true, Bool.not_false, lx, kN, cop_nen, beqn, i1, fp, kp, ff, kf]
                  | true =>
                    rw [hfit] at kf eb
                    have eb : (!decide (worthR fs < (pr : Rat) - (costN ts ins : Nat))) = b0 := by rw [← eb]; rfl
                    rw [bnx (ρ' := [.va W, .va E, .va P, .va O, .va I, .va T, .no, .no, .no]) (by simp only [runD, evB, evS, evE, evA, evT, evAnd, evOr, evAndV, evOrV, evP, evI, mb_ok, mb_some, mb_er, op_some, keep_sh, keep_fr, blM_bl, intM_int, nerr_ok, Option.map_some, Option.bind_some, List.getElem?_cons_zero, List.getElem?_cons_succ, List.set_cons_zero, List.set_cons_succ, asgF, unpF, ownOf, appF, setAll, bindT, wipeR, List.length_cons, List.length_nil, List.map_cons, List.map_nil, List.replicate, List.cons_append, List.nil_append, if_true, Bool.false_eq_true, if_false, Nat.reduceAdd, Nat.reduceSub, Nat.zero_add, Nat.reduceEqDiff, Option.map_none, Nat.zero_le, Nat.reduceLT, Nat.reduceLeDiff, Bool.not_true, Bool.not_false, lx, kN, cop_nen, beqn, i1, fp, kp, ff, kf])]
                    refine brt ?_
                    have fl : fs.length < 64 := by have := tb.tup.1; simpa [fnsD] using this
                    have fsm : ∀ f ∈ fs, Sm c f.2 := fun f hf => sm_fn (tb.tup.2 (fnD f) (List.mem_map.mpr ⟨f, hf, rfl⟩))
                    have kw : φw [.tup (fnsD fs)] = ok (frD (worthR fs)) := sw fs true c fl hc110 fsm
                    have es : bop .sub P (nD (costN ts ins)) = some (.int ((pr : Int) - (costN ts ins : Nat)), .sh) := by rw [hP]; rfl
                    have sq : Sm 81 (((pr : Int) - (costN ts ins : Nat) : Int) : Rat) := by
                      have := H.prb
                      refine ⟨?_, ?_⟩
                      · rw [Rat.num_intCast]; omega
                      · rw [Rat.den_intCast]; decide
                    have ka := sa (((pr : Int) - (costN ts ins : Nat) : Int) : Rat) (worthR fs) 81 _ sq (sm_worth fsm) (by have := len_bits fl hc110; omega)
                    rw [frD_int] at ka
                    have eq : (((pr : Int) - (costN ts ins : Nat) : Int) : Rat) = (pr : Rat) - (costN ts ins : Nat) := by push_cast; rfl
                    rw [eq] at ka
                    rw [← eb]
                    simp only [runD, evB, evS, evE, evA, evT, evAnd, evOr, evAndV, evOrV, evP, evI, mb_ok, mb_some, mb_er, op_some, keep_sh, keep_fr, blM_bl, intM_int, nerr_ok, Option.map_some, Option.bind_some, List.getElem?_cons_zero, List.getElem?_cons_succ, List.set_cons_zero, List.set_cons_succ, asgF, unpF, ownOf, appF, setAll, bindT, wipeR, List.length_cons, List.length_nil, List.map_cons, List.map_nil, List.replicate, List.cons_append, List.nil_append, if_true, Bool.false_eq_true, if_false, Nat.reduceAdd, Nat.reduceSub, Nat.zero_add, Nat.reduceEqDiff, Option.map_none, Nat.zero_le, Nat.reduceLT, Nat.reduceLeDiff, Bool.not_true, Bool.not_false, kN, es, fc, kc, fw, i1, kw, fa, ka, top]
              · rw [papS_n (fun h => absurd h hs1) (fun _ => hr1) (fun h => by rw [h2] at h; exact absurd h (by decide +kernel))] at eb
                subst eb
                have l2 : (r.length + 1 == 2) = false := by
                  simp
                  exact hr1
                refine brt ?_
                simp only [runD, evB, evS, evE, evA, evT, evAnd, evOr, evAndV, evOrV, evP, evI, mb_ok, mb_some, mb_er, op_some, keep_sh, keep_fr, blM_bl, intM_int, nerr_ok, Option.map_some, Option.bind_some, List.getElem?_cons_zero, List.getElem?_cons_succ, List.set_cons_zero, List.set_cons_succ, asgF, unpF, ownOf, appF, setAll, bindT, wipeR, List.length_cons, List.length_nil, List.map_cons, List.map_nil, List.replicate, List.cons_append, List.nil_append, if_true, Bool.false_eq_true, if_false, Nat.reduceAdd, Nat.reduceSub, Nat.zero_add, Nat.reduceEqDiff, Option.map_none, Nat.zero_le, Nat.reduceLT, Nat.reduceLeDiff, Bool.not_true, Bool.not_false, lx, kN, cop_nen, l2]
            have b2 := fin _ rfl
            refine brt ?_
            rw [← b2]
            simp only [runD, evB, evS, evE, evA, evT, evAnd, evOr, evAndV, evOrV, evP, evI, mb_ok, mb_some, mb_er, op_some, keep_sh, keep_fr, blM_bl, intM_int, nerr_ok, Option.map_some, Option.bind_some, List.getElem?_cons_zero, List.getElem?_cons_succ, List.set_cons_zero, List.set_cons_succ, asgF, unpF, ownOf, appF, setAll, bindT, wipeR, List.length_cons, List.length_nil, List.map_cons, List.map_nil, List.replicate, List.cons_append, List.nil_append, if_true, Bool.false_eq_true, if_false, Nat.reduceAdd, Nat.reduceSub, Nat.zero_add, Nat.reduceEqDiff, Option.map_none, Nat.zero_le, Nat.reduceLT, Nat.reduceLeDiff, Bool.not_true, Bool.not_false, kN, i0, s2, decide_eq_true h2]
          · rw [bnx (s := .ife (.cmp .eq (.ix (.var 5) (.kint 0)) (.kstr "fences")) _ _) (ρ' := [.va W, .va E, .va P, .va O, .va I, .va T, .no, .no, .no]) (by simp only [runD, evB, evS, evE, evA, evT, evAnd, evOr, evAndV, evOrV, evP, evI, mb_ok, mb_some, mb_er, op_some, keep_sh, keep_fr, blM_bl, intM_int, nerr_ok, Option.map_some, Option.bind_some, List.getElem?_cons_zero, List.getElem?_cons_succ, List.set_cons_zero, List.set_cons_succ, asgF, unpF, ownOf, appF, setAll, bindT, wipeR, List.length_cons, List.length_nil, List.map_cons, List.map_nil, List.replicate, List.cons_append, List.nil_append, if_true, Bool.false_eq_true, if_false, Nat.reduceAdd, Nat.reduceSub, Nat.zero_add, Nat.reduceEqDiff, Option.map_none, Nat.zero_le, Nat.reduceLT, Nat.reduceLeDiff, Bool.not_true, Bool.not_false, kN, i0, s2, decide_eq_false h2])]
            by_cases h3 : s = ("cases" : Str) ∧ r.length = 3
            · obtain ⟨h3, hr3⟩ := h3
              obtain ⟨t, x, y, rfl⟩ : ∃ t x y, r = [t, x, y] := by
                rcases r with _ | ⟨t, _ | ⟨x, _ | ⟨y, _ | ⟨z, r⟩⟩⟩⟩ <;> first | exact ⟨_, _, _, rfl⟩ | simp at hr3
              have lx : uop .len T = some (nD 4, .sh) := lx
              have i1 : ixD T (nD 1) = some t := by rw [hT]; rfl
              have i2 : ixD T (nD 2) = some x := by rw [hT]; rfl
              have i3 : ixD T (nD 3) = some y := by rw [hT]; rfl
              have tt := hx t (by simp)
              have tx := hx x (by simp)
              have ty := hx y (by simp)
              have dd : D.dep x ≤ i ∧ D.dep y ≤ i := by
                have e : D.depL [D.str s, t, x, y] = max 0 (max (D.dep t) (max (D.dep x) (max (D.dep y) 0))) := by first | rfl | (simp only [D.depL, D.dep] <;> rfl)
                omega
              have e : papS m ts ends pr (isPap m ts ends pr i) outs ins (.tup [.str s, t, x, y]) = (match inR ts.length t with
                  | none => false
                  | some n => !decide (n ∈ outs) && (!decide (n ∈ ins) && (isPap m ts ends pr i (outs ++ [n]) ins x && isPap m ts ends pr i outs (ins ++ [n]) y))) := by
                show (decide (s = ("cases" : Str)) && _) = _
                rw [decide_eq_true h3]
                rfl
              rw [e]
              cases t with
              | scr _ => exact absurd tt.nsc (by simp [J.nsc])
              | int z =>
                rw [bnx (ρ' := [.va W, .va E, .va P, .va O, .va I, .va T, .no, .no, .no]) (by simp only [runD, evB, evS, evE, evA, evT, evAnd, evOr, evAndV, evOrV, evP, evI, mb_ok, mb_some, mb_er, op_some, keep_sh, keep_fr, blM_bl, intM_int, nerr_ok, Option.map_some, Option.bind_some, List.getElem?_cons_zero, List.getElem?_cons_succ, List.set_cons_zero, List.set_cons_succ, asgF, unpF, ownOf, appF, setAll, bindT, wipeR, List.length_cons, List.length_nil, List.map_cons, List.map_nil, List.replicate, List.cons_append, List.nil_append, if_true, Bool.false_eq_true, if_false, Nat.reduceAdd, Nat.reduceSub, Nat.zero_add, Nat.reduceEqDiff, Option.map_none, Nat.zero_le, Nat.reduceLT, Nat.reduceLeDiff, Bool.not_true, Bool.not_false, kN, i0, s3, decide_eq_true h3, lx, cop_nen, beqn, i1, isiD])]
                rw [bnx (ρ' := [.va W, .va E, .va P, .va O, .va I, .va T, .va (.int z), .no, .no]) (by simp only [runD, evB, evS, evE, evA, evT, evAnd, evOr, evAndV, evOrV, evP, evI, mb_ok, mb_some, mb_er, op_some, keep_sh, keep_fr, blM_bl, intM_int, nerr_ok, Option.map_some, Option.bind_some, List.getElem?_cons_zero, List.getElem?_cons_succ, List.set_cons_zero, List.set_cons_succ, asgF, unpF, ownOf, appF, setAll, bindT, wipeR, List.length_cons, List.length_nil, List.map_cons, List.map_nil, List.replicate, List.cons_append, List.nil_append, if_true, Bool.false_eq_true, if_false, Nat.reduceAdd, Nat.reduceSub, Nat.zero_add, Nat.reduceEqDiff, Option.map_none, Nat.zero_le, Nat.reduceLT, Nat.reduceLeDiff, Bool.not_true, Bool.not_false, kN, i1])]
                have c1 : cop .le (nD 0) (.int z) = some (decide (0 ≤ z)) := rfl
                have c2 : cop .lt (.int z) (nD ts.length) = some (decide (z < (ts.length : Int))) := rfl
                by_cases hz : 0 ≤ z ∧ z < (ts.length : Int)
                · obtain ⟨n, rfl⟩ : ∃ n : Nat, z = (n : Int) := ⟨z.toNat, by omega⟩
                  have hn : n < ts.length := by omega
                  have c2 : cop .lt (.int (n : Int)) (nD ts.length) = some (decide ((n : Int) < (ts.length : Int))) := c2
                  have ei : inR ts.length (.int (n : Int)) = some n := by
                    show (if 0 ≤ (n : Int) ∧ (n : Int) < (ts.length : Int) then some (n : Int).toNat else none) = _
                    rw [if_pos hz]; rfl
                  rw [ei]
                  show _ = ok (Fl.rt (.bl (!decide (n ∈ outs) && (!decide (n ∈ ins) && (isPap m ts ends pr i (outs ++ [n]) ins x && isPap m ts ends pr i outs (ins ++ [n]) y)))))
                  have no := no n
                  have ni := ni n
                  unfold nD at no ni
                  by_cases ho : n ∈ outs
                  · refine brt ?_
                    simp only [runD, evB, evS, evE, evA, evT, evAnd, evOr, evAndV, evOrV, evP, evI, mb_ok, mb_some, mb_er, op_some, keep_sh, keep_fr, blM_bl, intM_int, nerr_ok, Option.map_some, Option.bind_some, List.getElem?_cons_zero, List.getElem?_cons_succ, List.set_cons_zero, List.set_cons_succ, asgF, unpF, ownOf, appF, setAll, bindT, wipeR, List.length_cons, List.length_nil, List.map_cons, List.map_nil, List.replicate, List.cons_append, List.nil_append, if_true, Bool.false_eq_true, if_false, Nat.reduceAdd, Nat.reduceSub, Nat.zero_add, Nat.reduceEqDiff, Option.map_none, Nat.zero_le, Nat.reduceLT, Nat.reduceLeDiff, Bool.not_true, Bool.not_false, kN, c1, c2, decide_eq_true hz.1, decide_eq_true hz.2, ew1, lt1, no, ho, decide_true, Bool.false_and]
                  · by_cases hi : n ∈ ins
                    · refine brt ?_
                      simp only [runD, evB, evS, evE, evA, evT, evAnd, evOr, evAndV, evOrV, evP, evI, mb_ok, mb_some, mb_er, op_some, keep_sh, keep_fr, blM_bl, intM_int, nerr_ok, Option.map_some, Option.bind_some, List.getElem?_cons_zero, List.getElem?_cons_succ, List.set_cons_zero, List.set_cons_succ, asgF, unpF, ownOf, appF, setAll, bindT, wipeR, List.length_cons, List.length_nil, List.map_cons, List.map_nil, List.replicate, List.cons_append, List.nil_append, if_true, Bool.false_eq_true, if_false, Nat.reduceAdd, Nat.reduceSub, Nat.zero_add, Nat.reduceEqDiff, Option.map_none, Nat.zero_le, Nat.reduceLT, Nat.reduceLeDiff, Bool.not_true, Bool.not_false, kN, c1, c2, decide_eq_true hz.1, decide_eq_true hz.2, ew1, lt1, no, ni, ho, hi, decide_true, decide_false, Bool.false_and, Bool.true_and]
                    · rw [bnx (ρ' := [.va W, .va E, .va P, .va O, .va I, .va T, .va (.int (n : Int)), .no, .no]) (by simp only [runD, evB, evS, evE, evA, evT, evAnd, evOr, evAndV, evOrV, evP, evI, mb_ok, mb_some, mb_er, op_some, keep_sh, keep_fr, blM_bl, intM_int, nerr_ok, Option.map_some, Option.bind_some, List.getElem?_cons_zero, List.getElem?_cons_succ, List.set_cons_zero, List.set_cons_succ, asgF, unpF, ownOf, appF, setAll, bindT, wipeR, List.length_cons, List.length_nil, List.map_cons, List.map_nil, List.replicate, List.cons_append, List.nil_append, if_true, Bool.false_eq_true, if_false, Nat.reduceAdd, Nat.reduceSub, Nat.zero_add, Nat.reduceEqDiff, Option.map_none, Nat.zero_le, Nat.reduceLT, Nat.reduceLeDiff, Bool.not_true, Bool.not_false, kN, c1, c2, decide_eq_true hz.1, decide_eq_true hz.2, ew1, lt1, no, ni, ho, hi, decide_false])]
                      obtain ⟨H1, H2⟩ := H.fewer hn
                      have k1 := sr m ts ends pr (outs ++ [n]) ins x c H1 tx hc110 dd.1
                      have k2 := sr m ts ends pr outs (ins ++ [n]) y c H2 ty hc110 dd.2
                      rw [← hW, ← hE, ← hP, ← hI] at k1
                      rw [← hW, ← hE, ← hP, ← hO] at k2
                      have a1 : bop .add O (.lst [.int (n : Int)]) = some (.lst (nsD (outs ++ [n])), .fr) := by
                        rw [hO]
                        show (if _ then _ else _) = _
                        rw [if_pos (by rw [nsD_len]; simp [top]; omega)]
                        simp [nsD, nD]
                      have a2 : bop .add I (.lst [.int (n : Int)]) = some (.lst (nsD (ins ++ [n])), .fr) := by
                        rw [hI]
                        show (if _ then _ else _) = _
                        rw [if_pos (by rw [nsD_len]; simp [top]; omega)]
                        simp [nsD, nD]
                      rw [decide_eq_false ho, decide_eq_false hi]
                      cases hb1 : isPap m ts ends pr i (outs ++ [n]) ins x with
                      | false =>
                        rw [hb1] at k1
                        refine brt ?_
                        simp only [runD, evB, evS, evE, evA, evT, evAnd, evOr, evAndV, evOrV, evP, evI, mb_ok, mb_some, mb_er, op_some, keep_sh, keep_fr, blM_bl, intM_int, nerr_ok, Option.map_some, Option.bind_some, List.getElem?_cons_zero, List.getElem?_cons_succ, List.set_cons_zero, List.set_cons_succ, asgF, unpF, ownOf, appF, setAll, bindT, wipeR, List.length_cons, List.length_nil, List.map_cons, List.map_nil, List.replicate, List.cons_append, List.nil_append, if_true, Bool.false_eq_true, if_false, Nat.reduceAdd, Nat.reduceSub, Nat.zero_add, Nat.reduceEqDiff, Option.map_none, Nat.zero_le, Nat.reduceLT, Nat.reduceLeDiff, Bool.not_true, Bool.not_false, top, a1, i2, kN, fr, k1]
                        rfl
                      | true =>
                        rw [hb1] at k1
                        rw [bnx (ρ' := [.va W, .va E, .va P, .va O, .va I, .va T, .va (.int (n : Int)), .no, .no]) (by simp only [runD, evB, evS, evE, evA, evT, evAnd, evOr, evAndV, evOrV, evP, evI, mb_ok, mb_some, mb_er, op_some, keep_sh, keep_fr, blM_bl, intM_int, nerr_ok, Option.map_some, Option.bind_some, List.getElem?_cons_zero, List.getElem?_cons_succ, List.set_cons_zero, List.set_cons_succ, asgF, unpF, ownOf, appF, setAll, bindT, wipeR, List.length_cons, List.length_nil, List.map_cons, List.map_nil, List.replicate, List.cons_append, List.nil_append, if_true, Bool.false_eq_true, if_false, Nat.reduceAdd, Nat.reduceSub, Nat.zero_add, Nat.reduceEqDiff, Option.map_none, Nat.zero_le, Nat.reduceLT, Nat.reduceLeDiff, Bool.not_true, Bool.not_false, top, a1, i2, kN, fr, k1])]
                        refine brt ?_
                        simp only [runD, evB, evS, evE, evA, evT, evAnd, evOr, evAndV, evOrV, evP, evI, mb_ok, mb_some, mb_er, op_some, keep_sh, keep_fr, blM_bl, intM_int, nerr_ok, Option.map_some, Option.bind_some, List.getElem?_cons_zero, List.getElem?_cons_succ, List.set_cons_zero, List.set_cons_succ, asgF, unpF, ownOf, appF, setAll, bindT, wipeR, List.length_cons, List.length_nil, List.map_cons, List.map_nil, List.replicate, List.cons_append, List.nil_append, if_true, Bool.false_eq_true, if_false, Nat.reduceAdd, Nat.reduceSub, Nat.zero_add, Nat.reduceEqDiff, Option.map_none, Nat.zero_le, Nat.reduceLT, Nat.reduceLeDiff, Bool.not_true, Bool.not_false, top, a2, i3, kN, fr, k2]
                        rfl
                · have ei : inR ts.length (.int z) = none := if_neg hz
                  rw [ei]
                  refine brt ?_
                  by_cases h0 : 0 ≤ z
                  · have hz2 : ¬ z < (ts.length : Int) := fun h => hz ⟨h0, h⟩
                    simp only [runD, evB, evS, evE, evA, evT, evAnd, evOr, evAndV, evOrV, evP, evI, mb_ok, mb_some, mb_er, op_some, keep_sh, keep_fr, blM_bl, intM_int, nerr_ok, Option.map_some, Option.bind_some, List.getElem?_cons_zero, List.getElem?_cons_succ, List.set_cons_zero, List.set_cons_succ, asgF, unpF, ownOf, appF, setAll, bindT, wipeR, List.length_cons, List.length_nil, List.map_cons, List.map_nil, List.replicate, List.cons_append, List.nil_append, if_true, Bool.false_eq_true, if_false, Nat.reduceAdd, Nat.reduceSub, Nat.zero_add, Nat.reduceEqDiff, Option.map_none, Nat.zero_le, Nat.reduceLT, Nat.reduceLeDiff, Bool.not_true, Bool.not_false, kN, c1, c2, decide_eq_true h0, decide_eq_false hz2, ew1, lt1]
                  · simp only [runD, evB, evS, evE, evA, evT, evAnd, evOr, evAndV, evOrV, evP, evI, mb_ok, mb_some, mb_er, op_some, keep_sh, keep_fr, blM_bl, intM_int, nerr_ok, Option.map_some, Option.bind_some, List.getElem?_cons_zero, List.getElem?_cons_succ, List.set_cons_zero, List.set_cons_succ, asgF, unpF, ownOf, appF, setAll, bindT, wipeR, List.length_cons, List.length_nil, List.map_cons, List.map_nil, List.replicate, List.cons_append, List.nil_append, if_true, Bool.false_eq_true, if_false, Nat.reduceAdd, Nat.reduceSub, Nat.zero_add, Nat.reduceEqDiff, Option.map_none, Nat.zero_le, Nat.reduceLT, Nat.reduceLeDiff, Bool.not_true, Bool.not_false, kN, c1, decide_eq_false h0]
              | _ =>
                refine brt ?_
                simp only [runD, evB, evS, evE, evA, evT, evAnd, evOr, evAndV, evOrV, evP, evI, mb_ok, mb_some, mb_er, op_some, keep_sh, keep_fr, blM_bl, intM_int, nerr_ok, Option.map_some, Option.bind_some, List.getElem?_cons_zero, List.getElem?_cons_succ, List.set_cons_zero, List.set_cons_succ, asgF, unpF, ownOf, appF, setAll, bindT, wipeR, List.length_cons, List.length_nil, List.map_cons, List.map_nil, List.replicate, List.cons_append, List.nil_append, if_true, Bool.false_eq_true, if_false, Nat.reduceAdd, Nat.reduceSub, Nat.zero_add, Nat.reduceEqDiff, Option.map_none, Nat.zero_le, Nat.reduceLT, Nat.reduceLeDiff, Bool.not_true, Bool.not_false, kN, i0, s3, decide_eq_true h3, lx, cop_nen, beqn, i1, isiD, inR]
            · rw [papS_n (fun h => absurd h h1) (fun h => absurd h h2) (fun h k => h3 ⟨h, k⟩)]
              refine brt ?_
              by_cases h4 : s = ("cases" : Str)
              · have l4 : (r.length + 1 == 4) = false := by
                  simp
                  exact fun h => h3 ⟨h4, h⟩
                simp only [runD, evB, evS, evE, evA, evT, evAnd, evOr, evAndV, evOrV, evP, evI, mb_ok, mb_some, mb_er, op_some, keep_sh, keep_fr, blM_bl, intM_int, nerr_ok, Option.map_some, Option.bind_some, List.getElem?_cons_zero, List.getElem?_cons_succ, List.set_cons_zero, List.set_cons_succ, asgF, unpF, ownOf, appF, setAll, bindT, wipeR, List.length_cons, List.length_nil, List.map_cons, List.map_nil, List.replicate, List.cons_append, List.nil_append, if_true, Bool.false_eq_true, if_false, Nat.reduceAdd, Nat.reduceSub, Nat.zero_add, Nat.reduceEqDiff, Option.map_none, Nat.zero_le, Nat.reduceLT, Nat.reduceLeDiff, Bool.not_true, Bool.not_false, kN, i0, s3, decide_eq_true h4, lx, cop_nen, l4]
              · simp only [runD, evB, evS, evE, evA, evT, evAnd, evOr, evAndV, evOrV, evP, evI, mb_ok, mb_some, mb_er, op_some, keep_sh, keep_fr, blM_bl, intM_int, nerr_ok, Option.map_some, Option.bind_some, List.getElem?_cons_zero, List.getElem?_cons_succ, List.set_cons_zero, List.set_cons_succ, asgF, unpF, ownOf, appF, setAll, bindT, wipeR, List.length_cons, List.length_nil, List.map_cons, List.map_nil, List.replicate, List.cons_append, List.nil_append, if_true, Bool.false_eq_true, if_false, Nat.reduceAdd, Nat.reduceSub, Nat.zero_add, Nat.reduceEqDiff, Option.map_none, Nat.zero_le, Nat.reduceLT, Nat.reduceLeDiff, Bool.not_true, Bool.not_false, kN, i0, s3, decide_eq_false h4]
  | _ => 
    rw [other rfl]
    exact brt (by simp only [runD, evB, evS, evE, evA, evT, evAnd, evOr, evAndV, evOrV, evP, evI, mb_ok, mb_some, mb_er, op_some, keep_sh, keep_fr, blM_bl, intM_int, nerr_ok, Option.map_some, Option.bind_some, List.getElem?_cons_zero, List.getElem?_cons_succ, List.set_cons_zero, List.set_cons_succ, asgF, unpF, ownOf, appF, setAll, bindT, wipeR, List.length_cons, List.length_nil, List.map_cons, List.map_nil, List.replicate, List.cons_append, List.nil_append, if_true, Bool.false_eq_true, if_false, Nat.reduceAdd, Nat.reduceSub, Nat.zero_add, Nat.reduceEqDiff, Option.map_none, Nat.zero_le, Nat.reduceLT, Nat.reduceLeDiff, Bool.not_true, Bool.not_false, isiD])
end J

set_option Elab.async false
set_option linter.all false
set_option maxRecDepth 100000
set_option maxHeartbeats 4000000
/-! papers, by the law -/
namespace J
open PySem PV
def SIsPaper (J : Nat) (φ : List D → M D) : Prop := ∀ (m : Nat) (ts : List Tie) (ends : List Nat) (pr : Nat) (d : D) (c : Nat), PapH m ts ends pr [] [] J → Tm c d → c ≤ 110 → D.dep d ≤ J → φ [webD m ts, .tup (nsD ends), nD pr, d] = ok (.bl (isPap m ts ends pr J [] [] d))
theorem is_paper_ok {Φ : Tab} {wf J : Nat} (hp : Fn Φ "is_paper_at" (SPaper J)) : SIsPaper J (runD m_is_paper Φ wf) := by
  intro m ts ends pr d c H td hc hd
  obtain ⟨φp, fp, sp⟩ := hp
  have k := sp m ts ends pr [] [] d c H td hc hd
  refine rrt rfl ?_
  show evB Φ wf m_is_paper.body [.va (webD m ts), .va (.tup (nsD ends)), .va (nD pr), .va d] = _
  simp only [m_is_paper]
  refine brt ?_
  have k : φp [webD m ts, .tup (nsD ends), nD pr, .lst [], .lst [], d] = _ := k
  simp only [runD, evB, evS, evE, evA, evT, evAnd, evOr, evAndV, evOrV, evP, evI, mb_ok, mb_some, mb_er, op_some, keep_sh, keep_fr, blM_bl, intM_int, nerr_ok, Option.map_some, Option.bind_some, List.getElem?_cons_zero, List.getElem?_cons_succ, List.set_cons_zero, List.set_cons_succ, asgF, unpF, ownOf, appF, setAll, bindT, wipeR, List.length_cons, List.length_nil, List.map_cons, List.map_nil, List.replicate, List.cons_append, List.nil_append, if_true, Bool.false_eq_true, if_false, Nat.reduceAdd, Nat.reduceSub, Nat.zero_add, Nat.reduceEqDiff, Option.map_none, Nat.zero_le, Nat.reduceLT, Nat.reduceLeDiff, Bool.not_true, Bool.not_false, top, fp, k]
theorem mk_lt {u z : Int} {l : Nat} (h : 0 < l) : mkRat u l < (z : Rat) ↔ u < z * (l : Int) := by
  rw [Rat.mkRat_eq_div]
  have hl : (0 : Rat) < (l : Rat) := by exact_mod_cast h
  rw [Rat.div_lt_iff hl]
  constructor
  · intro q; exact_mod_cast q
  · intro q; exact_mod_cast q
def rowG (N : Nat) (g : Nat → Option Nat) : List D := ((List.range N).map g).map optD
theorem rowG_len (N : Nat) (g : Nat → Option Nat) : (rowG N g).length = N := by simp [rowG]
theorem rowG_set {N n : Nat} (g : Nat → Option Nat) (x : Option Nat) (h : n < N) : (rowG N g).set n (optD x) = rowG N fun k => if k = n then x else g k := by
  apply List.ext_getElem (by simp [rowG])
  intro i h1 h2
  rw [List.getElem_set]
  by_cases e : n = i
  · subst e
    simp [rowG]
  · have e' : ¬ i = n := fun h => e h.symm
    simp [rowG, e, e']
theorem seti_loop {bind : D → Rho → Option Rho} {body : Rho → M Fl} {mk : List D → Sl → Rho} {N : Nat} {x : Option Nat} (hs : ∀ F a n, F.length = N → n < N → ∃ ρ1, bind (nD n) (mk F a) = some ρ1 ∧ body ρ1 = ok (.nx (mk (F.set n (optD x)) (.va (nD n))))) :
    ∀ (l : List Nat) (g : Nat → Option Nat) (a : Sl), (∀ n ∈ l, n < N) → ∃ a', forL bind body (nsD l) (mk (rowG N g) a) = ok (.nx (mk (rowG N fun k => if k ∈ l then x else g k) a'))
  | [], g, a, _ => ⟨a, by simp [nsD, forL]⟩
  | n :: l, g, a, h => by
    obtain ⟨ρ1, e1, e2⟩ := hs (rowG N g) a n (rowG_len _ _) (h n List.mem_cons_self)
    rw [rowG_set g x (h n List.mem_cons_self)] at e2
    obtain ⟨a', ih⟩ := seti_loop hs l (fun k => if k = n then x else g k) (.va (nD n)) fun k hk => h k (List.mem_cons_of_mem _ hk)
    refine ⟨a', ?_⟩
    have q : nsD (n :: l) = nD n :: nsD l := rfl
    rw [q]
    simp only [forL, e1, e2, mb_ok, ih]
    congr 5
    funext k
    by_cases h1 : k = n <;> by_cases h2 : k ∈ l <;> simp [h1, h2]
theorem areSome_one {t : D} {N : Nat} : areSome (.tup [t]) N = (inR N t).isSome := by
  cases t with
  | int z =>
    have e : areSome (.tup [.int z]) N = (decide (0 ≤ z) && decide (z < (N : Int))) := by
      show (([z].all fun i => decide (0 ≤ i) && decide (i < (N : Int))) && decide ([z].Pairwise (· < ·))) = _
      simp
    rw [e]
    unfold inR
    by_cases h1 : 0 ≤ z <;> by_cases h2 : z < (N : Int) <;> simp [h1, h2]
  | _ => rfl
theorem law_paper_ok {Φ : Tab} {wf j : Nat} (hj : Fn Φ "_law_joins" SJoins) (hf : Fn Φ "_law_are_fences" SFencesAt) (hp : Fn Φ "_law_plus" SLPlus) (hs : Fn Φ "_law_are_some" SSome) (hc : Fn Φ "_law_cost" SCost) (hr : ∀ i, j = i + 1 → Fn Φ "_law_is_paper" (SPaper i)) : SPaper j (runD m__law_is_paper Φ wf) := by
  intro m ts ends pr outs ins d c H td hc110 hd
  obtain ⟨φj, fj, sj⟩ := hj
  obtain ⟨φf, ff, sf⟩ := hf
  obtain ⟨φp, fp, sp⟩ := hp
  obtain ⟨φs, fs', ss⟩ := hs
  obtain ⟨φc, fc, sc⟩ := hc
  have WW := H.web
  have t64 := WW.t10
  have io := H.io
  have ew1 : ixD (webD m ts) (nD 1) = some (.tup (ts.map tieD)) := rfl
  have lt1 : uop .len (.tup (ts.map tieD)) = some (nD ts.length, .sh) := by simp [uop, items, nD]
  have kj : φj [webD m ts, .lst (nsD (left ts outs)), .tup (nsD ends)] = ok (.bl (joinB m ts (left ts outs) ends)) := sj m ts (left ts outs) ends false true WW.m7 WW.inw left_lt H.ends.1 H.ends.2
  have kc : φc [webD m ts, .lst (nsD ins)] = ok (nD (costN ts ins)) := sc m ts ins false (by omega) H.il
  have cb : costN ts ins < 2 ^ 80 := by
    have h1 := cost_lt H.pb H.il
    have h2 : ins.length * 2 ^ 64 ≤ 200 * 2 ^ 64 := Nat.mul_le_mul_right _ (by omega)
    exact Nat.lt_of_le_of_lt (Nat.le_trans h1 h2) (by decide)
  obtain ⟨W, hW⟩ : ∃ W, W = webD m ts := ⟨_, rfl⟩
  obtain ⟨E, hE⟩ : ∃ E, E = D.tup (nsD ends) := ⟨_, rfl⟩
  obtain ⟨P, hP⟩ : ∃ P, P = nD pr := ⟨_, rfl⟩
  obtain ⟨O, hO⟩ : ∃ O, O = D.lst (nsD outs) := ⟨_, rfl⟩
  obtain ⟨I, hI⟩ : ∃ I, I = D.lst (nsD ins) := ⟨_, rfl⟩
  have no : ∀ n, cop .isin (nD n) O = some (decide (n ∈ outs)) := fun n => by rw [hO]; exact isin_l _ _
  have ni : ∀ n, cop .isin (nD n) I = some (decide (n ∈ ins)) := fun n => by rw [hI]; exact isin_l _ _
  have nno : ∀ n, cop .notin (nD n) O = some (!decide (n ∈ outs)) := fun n => by rw [hO]; exact notin_l _ _
  have iO : items O = some (nsD outs) := by rw [hO]; rfl
  have iI : items I = some (nsD ins) := by rw [hI]; rfl
  refine rrt rfl ?_
  rw [← hW, ← hE, ← hP, ← hO, ← hI]
  show evB Φ wf m__law_is_paper.body [.va W, .va E, .va P, .va O, .va I, .va d, .no, .no, .no, .no, .no, .no, .no, .no, .no] = _
  rw [← hW] at ew1 kj kc
  rw [← hE] at kj
  rw [← hI] at kc
  simp only [m__law_is_paper]
  have other : isiD .tuple d = some false → isPap m ts ends pr j outs ins d = false := fun h => by
    cases j with
    | zero => rfl
    | succ j =>
      show papS m ts ends pr (isPap m ts ends pr j) outs ins d = false
      cases d <;> first | rfl | cases h
  cases d with
  | scr _ => exact absurd td.nsc (by simp [J.nsc])
  | tup xs =>
    obtain ⟨hlen, hx⟩ := td.tup
    have dep1 : D.depL xs + 1 ≤ j := by simpa [D.dep] using hd
    obtain ⟨i, rfl⟩ : ∃ i, j = i + 1 := ⟨j - 1, by omega⟩
    obtain ⟨φr, fr, sr⟩ := hr i rfl
    show _ = ok (Fl.rt (.bl (papS m ts ends pr (isPap m ts ends pr i) outs ins (.tup xs))))
    have lx : uop .len (.tup xs) = some (nD xs.length, .sh) := by simp [uop, items, nD]
    cases xs with
    | nil =>
      refine brt ?_
      simp only [runD, evB, evS, evE, evA, evT, evAnd, evOr, evAndV, evOrV, evP, evI, mb_ok, mb_some, mb_er, op_some, keep_sh, keep_fr, blM_bl, intM_int, nerr_ok, Option.map_some, Option.bind_some, List.getElem?_cons_zero, List.getElem?_cons_succ, List.set_cons_zero, List.set_cons_succ, asgF, unpF, ownOf, appF, setAll, bindT, wipeR, List.length_cons, List.length_nil, List.map_cons, List.map_nil, List.replicate, List.cons_append, List.nil_append, if_true, Bool.false_eq_true, if_false, Nat.reduceAdd, Nat.reduceSub, Nat.zero_add, Nat.reduceEqDiff, Option.map_none, Nat.zero_le, Nat.reduceLT, Nat.reduceLeDiff, Bool.not_true, Bool.not_false, isiD, lx, kN, cop_eqn]
      rfl
    | cons a r =>
      have ta := hx a List.mem_cons_self
      have i0 : ixD (.tup (a :: r)) (nD 0) = some a := ix_tup (xs := a :: r) (n := 0) (by simp)
      have l0 : (r.length + 1 == 0) = false := by simp
      cases has : isiD .str a with
      | none => cases a <;> first | (cases has; done) | exact absurd ta.nsc (by simp [J.nsc])
      | some bs =>
      cases bs with
      | false =>
        rw [papS_a has]
        refine brt ?_
        have isT : isiD .tuple (.tup (a :: r)) = some true := rfl
        simp only [runD, evB, evS, evE, evA, evT, evAnd, evOr, evAndV, evOrV, evP, evI, mb_ok, mb_some, mb_er, op_some, keep_sh, keep_fr, blM_bl, intM_int, nerr_ok, Option.map_some, Option.bind_some, List.getElem?_cons_zero, List.getElem?_cons_succ, List.set_cons_zero, List.set_cons_succ, asgF, unpF, ownOf, appF, setAll, bindT, wipeR, List.length_cons, List.length_nil, List.map_cons, List.map_nil, List.replicate, List.cons_append, List.nil_append, if_true, Bool.false_eq_true, if_false, Nat.reduceAdd, Nat.reduceSub, Nat.zero_add, Nat.reduceEqDiff, Option.map_none, Nat.zero_le, Nat.reduceLT, Nat.reduceLeDiff, Bool.not_true, Bool.not_false, isT, lx, kN, cop_eqn, l0, i0, has]
      | true =>
        obtain ⟨s, rfl⟩ : ∃ s, a = .str s := by cases a <;> first | exact ⟨_, rfl⟩ | cases has
        have os : PyData.strOk s = true := by simpa [D.pln] using ta.p
        have s1 : cop .eq (.str s) (.str ("apart" : Str)) = some (decide (s = ("apart" : Str))) := cop_str os (by decide +kernel)
        have s2 : cop .eq (.str s) (.str ("fences" : Str)) = some (decide (s = ("fences" : Str))) := cop_str os (by decide +kernel)
        have s3 : cop .ne (.str s) (.str ("cases" : Str)) = some (!decide (s = ("cases" : Str))) := cop_strn os (by decide +kernel)
        obtain ⟨T, hT⟩ : ∃ T, T = D.tup (.str s :: r) := ⟨_, rfl⟩
        rw [← hT] at i0 lx
        have isT : isiD .tuple T = some true := by rw [hT]; rfl
        obtain ⟨RES, hRES⟩ : ∃ RES, RES = papS m ts ends pr (isPap m ts ends pr i) outs ins (.tup (.str s :: r)) := ⟨_, rfl⟩
        rw [← hRES, ← hT]
        refine (bnx (ρ' := [.va W, .va E, .va P, .va O, .va I, .va T, .no, .no, .no, .no, .no, .no, .no, .no, .no]) (by simp only [runD, evB, evS, evE, evA, evT, evAnd, evOr, evAndV, evOrV, evP, evI, mb_ok, mb_some, mb_er, op_some, keep_sh, keep_fr, blM_bl, intM_int, nerr_ok, Option.map_some, Option.bind_some, List.getElem?_cons_zero, List.getElem?_cons_succ, List.set_cons_zero, List.set_cons_succ, asgF, unpF, ownOf, appF, setAll, bindT, wipeR, List.length_cons, List.length_nil, List.map_cons, List.map_nil, List.replicate, List.cons_append, List.nil_append, if_true, Bool.false_eq_true, if_false, Nat.reduceAdd, Nat.reduceSub, Nat.zero_add, Nat.reduceEqDiff, Option.map_none, Nat.zero_le, Nat.reduceLT, Nat.reduceLeDiff, Bool.not_true, Bool.not_false, isT, lx, kN, cop_eqn, l0, i0, has])).trans ?_
        rw [hRES]
        by_cases h1 : s = ("apart" : Str)
        · refine brt ?_
          have q : evS Φ wf (.asg 6 false (.comp (.var 11) true [11] (.rng1 (.un .len (.ix (.var 0) (.kint 1)))) (.som q1__law_is_paper) [11])) [.va W, .va E, .va P, .va O, .va I, .va T, .no, .no, .no, .no, .no, .no, .no, .no, .no] = ok (.nx [.va W, .va E, .va P, .va O, .va I, .va T, .va (.lst (nsD (left ts outs))), .no, .no, .no, .no, .no, .no, .no, .no]) := by
            simp only [runD, evB, evS, evE, evA, evT, evAnd, evOr, evAndV, evOrV, evP, evI, mb_ok, mb_some, mb_er, op_some, keep_sh, keep_fr, blM_bl, intM_int, nerr_ok, Option.map_some, Option.bind_some, List.getElem?_cons_zero, List.getElem?_cons_succ, List.set_cons_zero, List.set_cons_succ, asgF, unpF, ownOf, appF, setAll, bindT, wipeR, List.length_cons, List.length_nil, List.map_cons, List.map_nil, List.replicate, List.cons_append, List.nil_append, if_true, Bool.false_eq_true, if_false, Nat.reduceAdd, Nat.reduceSub, Nat.zero_add, Nat.reduceEqDiff, Option.map_none, Nat.zero_le, Nat.reduceLT, Nat.reduceLeDiff, Bool.not_true, Bool.not_false, kN, ew1, lt1, intM_n]
            rw [if_pos (by omega)]
            simp only [mb_ok, range_ns]
            rw [if_pos (by rw [nsD_len, List.length_range]; unfold top; omega)]
            unfold nsD
            rw [compL_filt (g := nD) (p := fun n => !decide (n ∈ outs)) (fun n _ => by
              simp only [runD, evB, evS, evE, evA, evT, evAnd, evOr, evAndV, evOrV, evP, evI, mb_ok, mb_some, mb_er, op_some, keep_sh, keep_fr, blM_bl, intM_int, nerr_ok, Option.map_some, Option.bind_some, List.getElem?_cons_zero, List.getElem?_cons_succ, List.set_cons_zero, List.set_cons_succ, asgF, unpF, ownOf, appF, setAll, bindT, wipeR, List.length_cons, List.length_nil, List.map_cons, List.map_nil, List.replicate, List.cons_append, List.nil_append, if_true, Bool.false_eq_true, if_false, Nat.reduceAdd, Nat.reduceSub, Nat.zero_add, Nat.reduceEqDiff, Option.map_none, Nat.zero_le, Nat.reduceLT, Nat.reduceLeDiff, Bool.not_true, Bool.not_false, q1__law_is_paper, nno]
              cases decide (n ∈ outs) <;> rfl)]
            rfl
          have b1 : evB Φ wf (.seq (.asg 6 false (.comp (.var 11) true [11] (.rng1 (.un .len (.ix (.var 0) (.kint 1)))) (.som q1__law_is_paper) [11])) (.seq (.ret (.and (.cons (.cmp .eq (.un .len (.var 5)) (.kint 1)) (.cons (.not (.call "_law_joins" (.cons (.var 0) (.cons (.var 6) (.cons (.var 1) .nil))))) .nil)))) .nil)) [.va W, .va E, .va P, .va O, .va I, .va T, .no, .no, .no, .no, .no, .no, .no, .no, .no] = ok (.rt (.bl (papS m ts ends pr (isPap m ts ends pr i) outs ins (.tup (.str s :: r))))) := by
            rw [bnx q]
            refine brt ?_
            by_cases hr0 : r = []
            · subst hr0
              subst h1
              have e : papS m ts ends pr (isPap m ts ends pr i) outs ins (.tup [.str ("apart" : Str)]) = !joinB m ts (left ts outs) ends := by simp [papS]
              rw [e]
              simp only [runD, evB, evS, evE, evA, evT, evAnd, evOr, evAndV, evOrV, evP, evI, mb_ok, mb_some, mb_er, op_some, keep_sh, keep_fr, blM_bl, intM_int, nerr_ok, Option.map_some, Option.bind_some, List.getElem?_cons_zero, List.getElem?_cons_succ, List.set_cons_zero, List.set_cons_succ, asgF, unpF, ownOf, appF, setAll, bindT, wipeR, List.length_cons, List.length_nil, List.map_cons, List.map_nil, List.replicate, List.cons_append, List.nil_append, if_true, Bool.false_eq_true, if_false, Nat.reduceAdd, Nat.reduceSub, Nat.zero_add, Nat.reduceEqDiff, Option.map_none, Nat.zero_le, Nat.reduceLT, Nat.reduceLeDiff, Bool.not_true, Bool.not_false, lx, kN, cop_eqn, beqn, fj, kj]
            · have hl : (r.length + 1 == 1) = false := by cases r with
                | nil => exact absurd rfl hr0
                | cons _ _ => simp
              rw [papS_n (fun _ h => hr0 (List.length_eq_zero_iff.mp h)) (fun h => by subst h1; exact absurd h (by decide +kernel)) (fun h => by subst h1; exact absurd h (by decide +kernel))]
              simp only [runD, evB, evS, evE, evA, evT, evAnd, evOr, evAndV, evOrV, evP, evI, mb_ok, mb_some, mb_er, op_some, keep_sh, keep_fr, blM_bl, intM_int, nerr_ok, Option.map_some, Option.bind_some, List.getElem?_cons_zero, List.getElem?_cons_succ, List.set_cons_zero, List.set_cons_succ, asgF, unpF, ownOf, appF, setAll, bindT, wipeR, List.length_cons, List.length_nil, List.map_cons, List.map_nil, List.replicate, List.cons_append, List.nil_append, if_true, Bool.false_eq_true, if_false, Nat.reduceAdd, Nat.reduceSub, Nat.zero_add, Nat.reduceEqDiff, Option.map_none, Nat.zero_le, Nat.reduceLT, Nat.reduceLeDiff, Bool.not_true, Bool.not_false, lx, kN, cop_eqn, hl]
          rw [← b1]
          simp only [runD, evB, evS, evE, evA, evT, evAnd, evOr, evAndV, evOrV, evP, evI, mb_ok, mb_some, mb_er, op_some, keep_sh, keep_fr, blM_bl, intM_int, nerr_ok, Option.map_some, Option.bind_some, List.getElem?_cons_zero, List.getElem?_cons_succ, List.set_cons_zero, List.set_cons_succ, asgF, unpF, ownOf, appF, setAll, bindT, wipeR, List.length_cons, List.length_nil, List.map_cons, List.map_nil, List.replicate, List.cons_append, List.nil_append, if_true, Bool.false_eq_true, if_false, Nat.reduceAdd, Nat.reduceSub, Nat.zero_add, Nat.reduceEqDiff, Option.map_none, Nat.zero_le, Nat.reduceLT, Nat.reduceLeDiff, Bool.not_true, Bool.not_false, kN, i0, s1, decide_eq_true h1]
        · rw [bnx (s := .ife (.cmp .eq (.ix (.var 5) (.kint 0)) (.kstr "apart")) _ _) (ρ' := [.va W, .va E, .va P, .va O, .va I, .va T, .no, .no, .no, .no, .no, .no, .no, .no, .no]) (by simp only [runD, evB, evS, evE, evA, evT, evAnd, evOr, evAndV, evOrV, evP, evI, mb_ok, mb_some, mb_er, op_some, keep_sh, keep_fr, blM_bl, intM_int, nerr_ok, Option.map_some, Option.bind_some, List.getElem?_cons_zero, List.getElem?_cons_succ, List.set_cons_zero, List.set_cons_succ, asgF, unpF, ownOf, appF, setAll, bindT, wipeR, List.length_cons, List.length_nil, List.map_cons, List.map_nil, List.replicate, List.cons_append, List.nil_append, if_true, Bool.false_eq_true, if_false, Nat.reduceAdd, Nat.reduceSub, Nat.zero_add, Nat.reduceEqDiff, Option.map_none, Nat.zero_le, Nat.reduceLT, Nat.reduceLeDiff, Bool.not_true, Bool.not_false, kN, i0, s1, decide_eq_false h1])]
          obtain ⟨z, hz⟩ : ∃ z : Int, z = (pr : Int) - (costN ts ins : Nat) := ⟨_, rfl⟩
          have es : bop .sub P (nD (costN ts ins)) = some (.int z, .sh) := by rw [hP, hz]; rfl
          rw [bnx (ρ' := [.va W, .va E, .va P, .va O, .va I, .va T, .va (.int z), .no, .no, .no, .no, .no, .no, .no, .no]) (by simp only [runD, evB, evS, evE, evA, evT, evAnd, evOr, evAndV, evOrV, evP, evI, mb_ok, mb_some, mb_er, op_some, keep_sh, keep_fr, blM_bl, intM_int, nerr_ok, Option.map_some, Option.bind_some, List.getElem?_cons_zero, List.getElem?_cons_succ, List.set_cons_zero, List.set_cons_succ, asgF, unpF, ownOf, appF, setAll, bindT, wipeR, List.length_cons, List.length_nil, List.map_cons, List.map_nil, List.replicate, List.cons_append, List.nil_append, if_true, Bool.false_eq_true, if_false, Nat.reduceAdd, Nat.reduceSub, Nat.zero_add, Nat.reduceEqDiff, Option.map_none, Nat.zero_le, Nat.reduceLT, Nat.reduceLeDiff, Bool.not_true, Bool.not_false, fc, kc, es])]
          by_cases h2 : s = ("fences" : Str)
          · refine brt ?_
            have hs1 : s ≠ ("apart" : Str) := h1
            have fin : ∀ b : Bool, papS m ts ends pr (isPap m ts ends pr i) outs ins (.tup (.str s :: r)) = b → evB Φ wf (.seq (.ife (.cmp .ne (.un .len (.var 5)) (.kint 2)) (.seq (.ret (.kbl false)) .nil) .nil) (.seq (.asg 7 true (.comp e2__law_is_paper true [12] (.walk (.ix (.var 0) (.kint 1))) .knon [12])) (.seq (.for_ true [8] (.walk (.var 4)) l3__law_is_paper) (.seq (.for_ true [8] (.walk (.var 3)) l4__law_is_paper) (.seq (.ife (.not (.callZ "_law_are_fences" 7 (.cons (.var 0) (.cons (.var 1) (.cons (.ix (.var 5) (.kint 1)) .nil))))) (.seq (.ret (.kbl false)) .nil) .nil) (.seq (.unp [9, 10] (.call "_law_plus" (.cons (.comp (.var 14) false [13, 14] (.walk (.ix (.var 5) (.kint 1))) .knon [13, 14]) .nil))) (.seq (.ret (.cmp .ge (.var 9) (.bin .mul (.var 6) (.var 10)))) .nil))))))) [.va W, .va E, .va P, .va O, .va I, .va T, .va (.int z), .no, .no, .no, .no, .no, .no, .no, .no] = ok (.rt (.bl b)) := by
              intro b0 eb
              by_cases hr1 : r.length = 1
              · obtain ⟨b, rfl⟩ : ∃ b, r = [b] := List.length_eq_one_iff.mp hr1
                have tb := hx b (by simp)
                have i1 : ixD T (nD 1) = some b := by rw [hT]; rfl
                have lx : uop .len T = some (nD 2, .sh) := lx
                have kf := sf m ts ends b (pricesAt ts outs ins) c H.ends.2 t64 tb hc110 (price_opt H.pb)
                rw [← hW, ← hE] at kf
                have e : papS m ts ends pr (isPap m ts ends pr i) outs ins (.tup [.str s, b]) = (match isFences m ends b with
                    | none => false
                    | some fs => fits fs ts (pricesAt ts outs ins) && !decide (worthR fs < (pr : Rat) - (costN ts ins : Nat))) := by
                  show (decide (s = ("fences" : Str)) && _) = _
                  rw [decide_eq_true h2]
                  rfl
                rw [e] at eb
                rw [bnx (ρ' := [.va W, .va E, .va P, .va O, .va I, .va T, .va (.int z), .no, .no, .no, .no, .no, .no, .no, .no]) (by simp only [runD, evB, evS, evE, evA, evT, evAnd, evOr, evAndV, evOrV, evP, evI, mb_ok, mb_some, mb_er, op_some, keep_sh, keep_fr, blM_bl, intM_int, nerr_ok, Option.map_some, Option.bind_some, List.getElem?_cons_zero, List.getElem?_cons_succ, List.set_cons_zero, List.set_cons_succ, asgF, unpF, ownOf, appF, setAll, bindT, wipeR, List.length_cons, List.length_nil, List.map_cons, List.map_nil, List.replicate, List.cons_append, List.nil_append, if_true, Bool.false_eq_true, if_false, Nat.reduceAdd, Nat.reduceSub, Nat.zero_add, Nat.reduceEqDiff, Option.map_none, Nat.zero_le, Nat.reduceLT, Nat.reduceLeDiff, Bool.not_true, Bool.not_false, lx, kN, cop_nen, beqn])]
                have it : items (.tup (ts.map tieD)) = some (ts.map tieD) := rfl
                have st1 : evS Φ wf (.asg 7 true (.comp e2__law_is_paper true [12] (.walk (.ix (.var 0) (.kint 1))) .knon [12])) [.va W, .va E, .va P, .va O, .va I, .va T, .va (.int z), .no, .no, .no, .no, .no, .no, .no, .no] = ok (.nx [.va W, .va E, .va P, .va O, .va I, .va T, .va (.int z), .ow (rowG ts.length fun n => some (price ts n)), .no, .no, .no, .no, .no, .no, .no]) := by
                  simp only [runD, evB, evS, evE, evA, evT, evAnd, evOr, evAndV, evOrV, evP, evI, mb_ok, mb_some, mb_er, op_some, keep_sh, keep_fr, blM_bl, intM_int, nerr_ok, Option.map_some, Option.bind_some, List.getElem?_cons_zero, List.getElem?_cons_succ, List.set_cons_zero, List.set_cons_succ, asgF, unpF, ownOf, appF, setAll, bindT, wipeR, List.length_cons, List.length_nil, List.map_cons, List.map_nil, List.replicate, List.cons_append, List.nil_append, if_true, Bool.false_eq_true, if_false, Nat.reduceAdd, Nat.reduceSub, Nat.zero_add, Nat.reduceEqDiff, Option.map_none, Nat.zero_le, Nat.reduceLT, Nat.reduceLeDiff, Bool.not_true, Bool.not_false, kN, ew1, it]
                  rw [if_pos (by rw [List.length_map]; unfold top; omega), compL_map (g := fun t : Tie => nD t.2.2) (fun t _ => by
                    have e2 : ixD (tieD t) (nD 2) = some (nD t.2.2) := rfl
                    simp only [runD, evB, evS, evE, evA, evT, evAnd, evOr, evAndV, evOrV, evP, evI, mb_ok, mb_some, mb_er, op_some, keep_sh, keep_fr, blM_bl, intM_int, nerr_ok, Option.map_some, Option.bind_some, List.getElem?_cons_zero, List.getElem?_cons_succ, List.set_cons_zero, List.set_cons_succ, asgF, unpF, ownOf, appF, setAll, bindT, wipeR, List.length_cons, List.length_nil, List.map_cons, List.map_nil, List.replicate, List.cons_append, List.nil_append, if_true, Bool.false_eq_true, if_false, Nat.reduceAdd, Nat.reduceSub, Nat.zero_add, Nat.reduceEqDiff, Option.map_none, Nat.zero_le, Nat.reduceLT, Nat.reduceLeDiff, Bool.not_true, Bool.not_false, e2__law_is_paper, kN, e2])]
                  have : ts.map (fun t : Tie => nD t.2.2) = rowG ts.length fun n => some (price ts n) := by
                    conv => lhs; rw [ts_range ts]
                    unfold rowG
                    rw [List.map_map, List.map_map]
                    rfl
                  rw [this]
                  simp only [runD, evB, evS, evE, evA, evT, evAnd, evOr, evAndV, evOrV, evP, evI, mb_ok, mb_some, mb_er, op_some, keep_sh, keep_fr, blM_bl, intM_int, nerr_ok, Option.map_some, Option.bind_some, List.getElem?_cons_zero, List.getElem?_cons_succ, List.set_cons_zero, List.set_cons_succ, asgF, unpF, ownOf, appF, setAll, bindT, wipeR, List.length_cons, List.length_nil, List.map_cons, List.map_nil, List.replicate, List.cons_append, List.nil_append, if_true, Bool.false_eq_true, if_false, Nat.reduceAdd, Nat.reduceSub, Nat.zero_add, Nat.reduceEqDiff, Option.map_none, Nat.zero_le, Nat.reduceLT, Nat.reduceLeDiff, Bool.not_true, Bool.not_false]
                rw [bnx st1]
                obtain ⟨a8, st2⟩ := seti_loop (bind := bindT true [8]) (body := fun ρ => evB Φ wf l3__law_is_paper ρ) (mk := fun F a => [.va W, .va E, .va P, .va O, .va I, .va T, .va (.int z), .ow F, a, .no, .no, .no, .no, .no, .no]) (N := ts.length) (x := some 0) (fun F a n hF hn => ⟨[.va W, .va E, .va P, .va O, .va I, .va T, .va (.int z), .ow F, .va (nD n), .no, .no, .no, .no, .no, .no], rfl, by
                  have q : L2.ixN F.length (n : Int) = some n := ixN_nat (by omega)
                  simp only [runD, evB, evS, evE, evA, evT, evAnd, evOr, evAndV, evOrV, evP, evI, mb_ok, mb_some, mb_er, op_some, keep_sh, keep_fr, blM_bl, intM_int, nerr_ok, Option.map_some, Option.bind_some, List.getElem?_cons_zero, List.getElem?_cons_succ, List.set_cons_zero, List.set_cons_succ, asgF, unpF, ownOf, appF, setAll, bindT, wipeR, List.length_cons, List.length_nil, List.map_cons, List.map_nil, List.replicate, List.cons_append, List.nil_append, if_true, Bool.false_eq_true, if_false, Nat.reduceAdd, Nat.reduceSub, Nat.zero_add, Nat.reduceEqDiff, Option.map_none, Nat.zero_le, Nat.reduceLT, Nat.reduceLeDiff, Bool.not_true, Bool.not_false, l3__law_is_paper, intM_n, setF, q]
                  rfl⟩) ins (fun n => some (price ts n)) .no H.il
                rw [bnx (by simp only [runD, evB, evS, evE, evA, evT, evAnd, evOr, evAndV, evOrV, evP, evI, mb_ok, mb_some, mb_er, op_some, keep_sh, keep_fr, blM_bl, intM_int, nerr_ok, Option.map_some, Option.bind_some, List.getElem?_cons_zero, List.getElem?_cons_succ, List.set_cons_zero, List.set_cons_succ, asgF, unpF, ownOf, appF, setAll, bindT, wipeR, List.length_cons, List.length_nil, List.map_cons, List.map_nil, List.replicate, List.cons_append, List.nil_append, if_true, Bool.false_eq_true, if_false, Nat.reduceAdd, Nat.reduceSub, Nat.zero_add, Nat.reduceEqDiff, Option.map_none, Nat.zero_le, Nat.reduceLT, Nat.reduceLeDiff, Bool.not_true, Bool.not_false, iI]; exact st2)]
                obtain ⟨a9, st3⟩ := seti_loop (bind := bindT true [8]) (body := fun ρ => evB Φ wf l4__law_is_paper ρ) (mk := fun F a => [.va W, .va E, .va P, .va O, .va I, .va T, .va (.int z), .ow F, a, .no, .no, .no, .no, .no, .no]) (N := ts.length) (x := none) (fun F a n hF hn => ⟨[.va W, .va E, .va P, .va O, .va I, .va T, .va (.int z), .ow F, .va (nD n), .no, .no, .no, .no, .no, .no], rfl, by
                  have q : L2.ixN F.length (n : Int) = some n := ixN_nat (by omega)
                  simp only [runD, evB, evS, evE, evA, evT, evAnd, evOr, evAndV, evOrV, evP, evI, mb_ok, mb_some, mb_er, op_some, keep_sh, keep_fr, blM_bl, intM_int, nerr_ok, Option.map_some, Option.bind_some, List.getElem?_cons_zero, List.getElem?_cons_succ, List.set_cons_zero, List.set_cons_succ, asgF, unpF, ownOf, appF, setAll, bindT, wipeR, List.length_cons, List.length_nil, List.map_cons, List.map_nil, List.replicate, List.cons_append, List.nil_append, if_true, Bool.false_eq_true, if_false, Nat.reduceAdd, Nat.reduceSub, Nat.zero_add, Nat.reduceEqDiff, Option.map_none, Nat.zero_le, Nat.reduceLT, Nat.reduceLeDiff, Bool.not_true, Bool.not_false, l4__law_is_paper, intM_n, setF, q]
                  rfl⟩) outs (fun k => if k ∈ ins then some 0 else some (price ts k)) a8 H.ol
                rw [bnx (by simp only [runD, evB, evS, evE, evA, evT, evAnd, evOr, evAndV, evOrV, evP, evI, mb_ok, mb_some, mb_er, op_some, keep_sh, keep_fr, blM_bl, intM_int, nerr_ok, Option.map_some, Option.bind_some, List.getElem?_cons_zero, List.getElem?_cons_succ, List.set_cons_zero, List.set_cons_succ, asgF, unpF, ownOf, appF, setAll, bindT, wipeR, List.length_cons, List.length_nil, List.map_cons, List.map_nil, List.replicate, List.cons_append, List.nil_append, if_true, Bool.false_eq_true, if_false, Nat.reduceAdd, Nat.reduceSub, Nat.zero_add, Nat.reduceEqDiff, Option.map_none, Nat.zero_le, Nat.reduceLT, Nat.reduceLeDiff, Bool.not_true, Bool.not_false, iO]; exact st3)]
                have er : (rowG ts.length fun k => if k ∈ outs then none else if k ∈ ins then some 0 else some (price ts k)) = (pricesAt ts outs ins).map optD := rfl
                rw [er]
                generalize (pricesAt ts outs ins).map optD = PL at kf
                unfold areFences at kf
                cases hfs : isFences m ends b with
                | none =>
                  rw [hfs] at kf eb
                  have kf : φf [W, E, b, .lst PL] = ok (.bl false) := kf
                  have eb : false = b0 := eb
                  subst eb
                  refine brt ?_
                  simp only [runD, evB, evS, evE, evA, evT, evAnd, evOr, evAndV, evOrV, evP, evI, mb_ok, mb_some, mb_er, op_some, keep_sh, keep_fr, blM_bl, intM_int, nerr_ok, Option.map_some, Option.bind_some, List.getElem?_cons_zero, List.getElem?_cons_succ, List.set_cons_zero, List.set_cons_succ, asgF, unpF, ownOf, appF, setAll, bindT, wipeR, List.length_cons, List.length_nil, List.map_cons, List.map_nil, List.replicate, List.cons_append, List.nil_append, if_true, Bool.false_eq_true, if_false, Nat.reduceAdd, Nat.reduceSub, Nat.zero_add, Nat.reduceEqDiff, Option.map_none, Nat.zero_le, Nat.reduceLT, Nat.reduceLeDiff, Bool.not_true, Bool.not_false, kN, i1, ff, kf]
                | some fs =>
                  rw [hfs] at kf eb
                  have kf : φf [W, E, b, .lst PL] = ok (.bl (fits fs ts (pricesAt ts outs ins))) := kf
                  have eb : (fits fs ts (pricesAt ts outs ins) && !decide (worthR fs < (pr : Rat) - (costN ts ins : Nat))) = b0 := eb
                  obtain ⟨rfl, fok⟩ := fences_some hfs
                  cases hfit : fits fs ts (pricesAt ts outs ins) with
                  | false =>
                    rw [hfit] at kf eb
                    have eb : false = b0 := eb
                    subst eb
                    refine brt ?_
                    simp only [runD, evB, evS, evE, evA, evT, evAnd, evOr, evAndV, evOrV, evP, evI, mb_ok, mb_some, mb_er, op_some, keep_sh, keep_fr, blM_bl, intM_int, nerr_ok, Option.map_some, Option.bind_some, List.getElem?_cons_zero, List.getElem?_cons_succ, List.set_cons_zero, List.set_cons_succ, asgF, unpF, ownOf, appF, setAll, bindT, wipeR, List.length_cons, List.length_nil, List.map_cons, List.map_nil, List.replicate, List.cons_append, List.nil_append, if_true, Bool.false_eq_true, if_false, Nat.reduceAdd, Nat.reduceSub, Nat.zero_add, Nat.reduceEqDiff, Option.map_none, Nat.zero_le, Nat.reduceLT, Nat.reduceLeDiff, Bool.not_true, Bool.not_false, kN, i1, ff, kf]
                  | true =>
                    rw [hfit] at kf eb
                    have eb : (!decide (worthR fs < (pr : Rat) - (costN ts ins : Nat))) = b0 := by rw [← eb]; rfl
                    rw [bnx (ρ' := [.va W, .va E, .va P, .va O, .va I, .va T, .va (.int z), .ow PL, a9, .no, .no, .no, .no, .no, .no]) (by simp only [runD, evB, evS, evE, evA, evT, evAnd, evOr, evAndV, evOrV, evP, evI, mb_ok, mb_some, mb_er, op_some, keep_sh, keep_fr, blM_bl, intM_int, nerr_ok, Option.map_some, Option.bind_some, List.getElem?_cons_zero, List.getElem?_cons_succ, List.set_cons_zero, List.set_cons_succ, asgF, unpF, ownOf, appF, setAll, bindT, wipeR, List.length_cons, List.length_nil, List.map_cons, List.map_nil, List.replicate, List.cons_append, List.nil_append, if_true, Bool.false_eq_true, if_false, Nat.reduceAdd, Nat.reduceSub, Nat.zero_add, Nat.reduceEqDiff, Option.map_none, Nat.zero_le, Nat.reduceLT, Nat.reduceLeDiff, Bool.not_true, Bool.not_false, kN, i1, ff, kf])]
                    have fl : fs.length < 64 := by have := tb.tup.1; simpa [fnsD] using this
                    have fsm : ∀ f ∈ fs, Sm c f.2 := fun f hf => sm_fn (tb.tup.2 (fnD f) (List.mem_map.mpr ⟨f, hf, rfl⟩))
                    obtain ⟨u, l, l0, lu, ub, lb, kp⟩ := sp (fs.map (·.2)) false c (by rw [List.length_map]; exact fl) hc110 (fun q hq => by
                      obtain ⟨f, hf, rfl⟩ := List.mem_map.mp hq
                      exact fsm f hf)
                    rw [worth_sum] at lu
                    have iF : items (.tup (fnsD fs)) = some (fs.map fnD) := rfl
                    have st4 : evS Φ wf (.unp [9, 10] (.call "_law_plus" (.cons (.comp (.var 14) false [13, 14] (.walk (.ix (.var 5) (.kint 1))) .knon [13, 14]) .nil))) [.va W, .va E, .va P, .va O, .va I, .va T, .va (.int z), .ow PL, a9, .no, .no, .no, .no, .no, .no] = ok (.nx [.va W, .va E, .va P, .va O, .va I, .va T, .va (.int z), .ow PL, a9, .va (.int u), .va (nD l), .no, .no, .no, .no]) := by
                      simp only [runD, evB, evS, evE, evA, evT, evAnd, evOr, evAndV, evOrV, evP, evI, mb_ok, mb_some, mb_er, op_some, keep_sh, keep_fr, blM_bl, intM_int, nerr_ok, Option.map_some, Option.bind_some, List.getElem?_cons_zero, List.getElem?_cons_succ, List.set_cons_zero, List.set_cons_succ, asgF, unpF, ownOf, appF, setAll, bindT, wipeR, List.length_cons, List.length_nil, List.map_cons, List.map_nil, List.replicate, List.cons_append, List.nil_append, if_true, Bool.false_eq_true, if_false, Nat.reduceAdd, Nat.reduceSub, Nat.zero_add, Nat.reduceEqDiff, Option.map_none, Nat.zero_le, Nat.reduceLT, Nat.reduceLeDiff, Bool.not_true, Bool.not_false, kN, i1, fp, iF]
                      rw [if_pos (by rw [List.length_map]; unfold top; omega), compL_map (g := fun f : Fence => frD f.2) (fun f _ => by
                        have : fnD f = .tup [.tup (nsD f.1), frD f.2] := rfl
                        rw [this]
                        simp only [runD, evB, evS, evE, evA, evT, evAnd, evOr, evAndV, evOrV, evP, evI, mb_ok, mb_some, mb_er, op_some, keep_sh, keep_fr, blM_bl, intM_int, nerr_ok, Option.map_some, Option.bind_some, List.getElem?_cons_zero, List.getElem?_cons_succ, List.set_cons_zero, List.set_cons_succ, asgF, unpF, ownOf, appF, setAll, bindT, wipeR, List.length_cons, List.length_nil, List.map_cons, List.map_nil, List.replicate, List.cons_append, List.nil_append, if_true, Bool.false_eq_true, if_false, Nat.reduceAdd, Nat.reduceSub, Nat.zero_add, Nat.reduceEqDiff, Option.map_none, Nat.zero_le, Nat.reduceLT, Nat.reduceLeDiff, Bool.not_true, Bool.not_false])]
                      have : fs.map (fun f : Fence => frD f.2) = (fs.map (·.2)).map frD := by rw [List.map_map]; rfl
                      rw [this]
                      have kp : φp [.lst ((fs.map (·.2)).map frD)] = _ := kp
                      simp only [runD, evB, evS, evE, evA, evT, evAnd, evOr, evAndV, evOrV, evP, evI, mb_ok, mb_some, mb_er, op_some, keep_sh, keep_fr, blM_bl, intM_int, nerr_ok, Option.map_some, Option.bind_some, List.getElem?_cons_zero, List.getElem?_cons_succ, List.set_cons_zero, List.set_cons_succ, asgF, unpF, ownOf, appF, setAll, bindT, wipeR, List.length_cons, List.length_nil, List.map_cons, List.map_nil, List.replicate, List.cons_append, List.nil_append, if_true, Bool.false_eq_true, if_false, Nat.reduceAdd, Nat.reduceSub, Nat.zero_add, Nat.reduceEqDiff, Option.map_none, Nat.zero_le, Nat.reduceLT, Nat.reduceLeDiff, Bool.not_true, Bool.not_false, kp]
                    rw [bnx st4]
                    refine brt ?_
                    have prb := H.prb
                    have em : bop .mul (.int z) (nD l) = some (.int (z * (l : Int)), .sh) := mul_i (a := z) (b := (l : Int)) (k := 81) (j := 7000) (by omega) (by rw [Int.natAbs_natCast]; exact lb) (by decide)
                    have eg : cop .ge (.int u) (.int (z * (l : Int))) = some (decide (z * (l : Int) ≤ u)) := rfl
                    have ed : decide (z * (l : Int) ≤ u) = b0 := by
                      rw [← eb, ← lu]
                      have ez : (z : Rat) = (pr : Rat) - (costN ts ins : Nat) := by rw [hz]; push_cast; rfl
                      rw [← ez]
                      have := mk_lt (u := u) (z := z) l0
                      rw [decide_eq_decide.mpr this]
                      by_cases g : u < z * (l : Int)
                      · rw [decide_eq_true g, decide_eq_false (by omega)]; rfl
                      · rw [decide_eq_false g, decide_eq_true (by omega)]; rfl
                    simp only [runD, evB, evS, evE, evA, evT, evAnd, evOr, evAndV, evOrV, evP, evI, mb_ok, mb_some, mb_er, op_some, keep_sh, keep_fr, blM_bl, intM_int, nerr_ok, Option.map_some, Option.bind_some, List.getElem?_cons_zero, List.getElem?_cons_succ, List.set_cons_zero, List.set_cons_succ, asgF, unpF, ownOf, appF, setAll, bindT, wipeR, List.length_cons, List.length_nil, List.map_cons, List.map_nil, List.replicate, List.cons_append, List.nil_append, if_true, Bool.false_eq_true, if_false, Nat.reduceAdd, Nat.reduceSub, Nat.zero_add, Nat.reduceEqDiff, Option.map_none, Nat.zero_le, Nat.reduceLT, Nat.reduceLeDiff, Bool.not_true, Bool.not_false, em, eg, ed]
              · rw [papS_n (fun h => absurd h hs1) (fun _ => hr1) (fun h => by rw [h2] at h; exact absurd h (by decide +kernel))] at eb
                subst eb
                have l2 : (r.length + 1 == 2) = false := by
                  simp
                  exact hr1
                refine brt ?_
                simp only [runD, evB, evS, evE, evA, evT, evAnd, evOr, evAndV, evOrV, evP, evI, mb_ok, mb_some, mb_er, op_some, keep_sh, keep_fr, blM_bl, intM_int, nerr_ok, Option.map_some, Option.bind_some, List.getElem?_cons_zero, List.getElem?_cons_succ, List.set_cons_zero, List.set_cons_succ, asgF, unpF, ownOf, appF, setAll, bindT, wipeR, List.length_cons, List.length_nil, List.map_cons, List.map_nil, List.replicate, List.cons_append, List.nil_append, if_true, Bool.false_eq_true, if_false, Nat.reduceAdd, Nat.reduceSub, Nat.zero_add, Nat.reduceEqDiff, Option.map_none, Nat.zero_le, Nat.reduceLT, Nat.reduceLeDiff, Bool.not_true, Bool.not_false, lx, kN, cop_nen, l2]
            have b2 := fin _ rfl
            rw [← b2]
            simp only [runD, evB, evS, evE, evA, evT, evAnd, evOr, evAndV, evOrV, evP, evI, mb_ok, mb_some, mb_er, op_some, keep_sh, keep_fr, blM_bl, intM_int, nerr_ok, Option.map_some, Option.bind_some, List.getElem?_cons_zero, List.getElem?_cons_succ, List.set_cons_zero, List.set_cons_succ, asgF, unpF, ownOf, appF, setAll, bindT, wipeR, List.length_cons, List.length_nil, List.map_cons, List.map_nil, List.replicate, List.cons_append, List.nil_append, if_true, Bool.false_eq_true, if_false, Nat.reduceAdd, Nat.reduceSub, Nat.zero_add, Nat.reduceEqDiff, Option.map_none, Nat.zero_le, Nat.reduceLT, Nat.reduceLeDiff, Bool.not_true, Bool.not_false, kN, i0, s2, decide_eq_true h2]
          · rw [bnx (s := .ife (.cmp .eq (.ix (.var 5) (.kint 0)) (.kstr "fences")) _ _) (ρ' := [.va W, .va E, .va P, .va O, .va I, .va T, .va (.int z), .no, .no, .no, .no, .no, .no, .no, .no]) (by simp only [runD, evB, evS, evE, evA, evT, evAnd, evOr, evAndV, evOrV, evP, evI, mb_ok, mb_some, mb_er, op_some, keep_sh, keep_fr, blM_bl, intM_int, nerr_ok, Option.map_some, Option.bind_some, List.getElem?_cons_zero, List.getElem?_cons_succ, List.set_cons_zero, List.set_cons_succ, asgF, unpF, ownOf, appF, setAll, bindT, wipeR, List.length_cons, List.length_nil, List.map_cons, List.map_nil, List.replicate, List.cons_append, List.nil_append, if_true, Bool.false_eq_true, if_false, Nat.reduceAdd, Nat.reduceSub, Nat.zero_add, Nat.reduceEqDiff, Option.map_none, Nat.zero_le, Nat.reduceLT, Nat.reduceLeDiff, Bool.not_true, Bool.not_false, kN, i0, s2, decide_eq_false h2])]
            by_cases h3 : s = ("cases" : Str) ∧ r.length = 3
            · obtain ⟨h3, hr3⟩ := h3
              obtain ⟨t, x, y, rfl⟩ : ∃ t x y, r = [t, x, y] := by
                rcases r with _ | ⟨t, _ | ⟨x, _ | ⟨y, _ | ⟨z, r⟩⟩⟩⟩ <;> first | exact ⟨_, _, _, rfl⟩ | simp at hr3
              have lx : uop .len T = some (nD 4, .sh) := lx
              have i1 : ixD T (nD 1) = some t := by rw [hT]; rfl
              have i2 : ixD T (nD 2) = some x := by rw [hT]; rfl
              have i3 : ixD T (nD 3) = some y := by rw [hT]; rfl
              have tt := hx t (by simp)
              have tx := hx x (by simp)
              have ty := hx y (by simp)
              have dd : D.dep x ≤ i ∧ D.dep y ≤ i := by
                have e : D.depL [D.str s, t, x, y] = max 0 (max (D.dep t) (max (D.dep x) (max (D.dep y) 0))) := by first | rfl | (simp only [D.depL, D.dep] <;> rfl)
                omega
              have e : papS m ts ends pr (isPap m ts ends pr i) outs ins (.tup [.str s, t, x, y]) = (match inR ts.length t with
                  | none => false
                  | some n => !decide (n ∈ outs) && (!decide (n ∈ ins) && (isPap m ts ends pr i (outs ++ [n]) ins x && isPap m ts ends pr i outs (ins ++ [n]) y))) := by
                show (decide (s = ("cases" : Str)) && _) = _
                rw [decide_eq_true h3]
                rfl
              rw [e]
              have ks := ss (.tup [t]) ts.length (by
                simp only [shal, List.all_cons, List.all_nil, tt.nsc]
                rfl)
              rw [areSome_one] at ks
              cases hin : inR ts.length t with
              | none =>
                rw [hin] at ks
                have ks : φs [.tup [t], nD ts.length] = ok (.bl false) := ks
                refine brt ?_
                simp only [runD, evB, evS, evE, evA, evT, evAnd, evOr, evAndV, evOrV, evP, evI, mb_ok, mb_some, mb_er, op_some, keep_sh, keep_fr, blM_bl, intM_int, nerr_ok, Option.map_some, Option.bind_some, List.getElem?_cons_zero, List.getElem?_cons_succ, List.set_cons_zero, List.set_cons_succ, asgF, unpF, ownOf, appF, setAll, bindT, wipeR, List.length_cons, List.length_nil, List.map_cons, List.map_nil, List.replicate, List.cons_append, List.nil_append, if_true, Bool.false_eq_true, if_false, Nat.reduceAdd, Nat.reduceSub, Nat.zero_add, Nat.reduceEqDiff, Option.map_none, Nat.zero_le, Nat.reduceLT, Nat.reduceLeDiff, Bool.not_true, Bool.not_false, kN, i0, s3, decide_eq_true h3, lx, cop_nen, beqn, i1, ew1, lt1, top, fs', ks]
              | some n =>
                rw [hin] at ks
                have ks : φs [.tup [t], nD ts.length] = ok (.bl true) := ks
                obtain ⟨et, hn⟩ : t = nD n ∧ n < ts.length := by
                  cases t with
                  | int y =>
                    have hin : (if 0 ≤ y ∧ y < (ts.length : Int) then some y.toNat else none) = some n := hin
                    split at hin
                    · rename_i q
                      cases hin
                      refine ⟨?_, by omega⟩
                      unfold nD
                      congr 1
                      omega
                    · cases hin
                  | _ => cases hin
                subst et
                show _ = ok (Fl.rt (.bl (!decide (n ∈ outs) && (!decide (n ∈ ins) && (isPap m ts ends pr i (outs ++ [n]) ins x && isPap m ts ends pr i outs (ins ++ [n]) y)))))
                rw [bnx (ρ' := [.va W, .va E, .va P, .va O, .va I, .va T, .va (.int z), .no, .no, .no, .no, .no, .no, .no, .no]) (by simp only [runD, evB, evS, evE, evA, evT, evAnd, evOr, evAndV, evOrV, evP, evI, mb_ok, mb_some, mb_er, op_some, keep_sh, keep_fr, blM_bl, intM_int, nerr_ok, Option.map_some, Option.bind_some, List.getElem?_cons_zero, List.getElem?_cons_succ, List.set_cons_zero, List.set_cons_succ, asgF, unpF, ownOf, appF, setAll, bindT, wipeR, List.length_cons, List.length_nil, List.map_cons, List.map_nil, List.replicate, List.cons_append, List.nil_append, if_true, Bool.false_eq_true, if_false, Nat.reduceAdd, Nat.reduceSub, Nat.zero_add, Nat.reduceEqDiff, Option.map_none, Nat.zero_le, Nat.reduceLT, Nat.reduceLeDiff, Bool.not_true, Bool.not_false, kN, i0, s3, decide_eq_true h3, lx, cop_nen, beqn, i1, ew1, lt1, top, fs', ks])]
                have no := no n
                have ni := ni n
                by_cases ho : n ∈ outs
                · refine brt ?_
                  simp only [runD, evB, evS, evE, evA, evT, evAnd, evOr, evAndV, evOrV, evP, evI, mb_ok, mb_some, mb_er, op_some, keep_sh, keep_fr, blM_bl, intM_int, nerr_ok, Option.map_some, Option.bind_some, List.getElem?_cons_zero, List.getElem?_cons_succ, List.set_cons_zero, List.set_cons_succ, asgF, unpF, ownOf, appF, setAll, bindT, wipeR, List.length_cons, List.length_nil, List.map_cons, List.map_nil, List.replicate, List.cons_append, List.nil_append, if_true, Bool.false_eq_true, if_false, Nat.reduceAdd, Nat.reduceSub, Nat.zero_add, Nat.reduceEqDiff, Option.map_none, Nat.zero_le, Nat.reduceLT, Nat.reduceLeDiff, Bool.not_true, Bool.not_false, kN, i1, no, ho, decide_true, Bool.false_and]
                · by_cases hi : n ∈ ins
                  · refine brt ?_
                    simp only [runD, evB, evS, evE, evA, evT, evAnd, evOr, evAndV, evOrV, evP, evI, mb_ok, mb_some, mb_er, op_some, keep_sh, keep_fr, blM_bl, intM_int, nerr_ok, Option.map_some, Option.bind_some, List.getElem?_cons_zero, List.getElem?_cons_succ, List.set_cons_zero, List.set_cons_succ, asgF, unpF, ownOf, appF, setAll, bindT, wipeR, List.length_cons, List.length_nil, List.map_cons, List.map_nil, List.replicate, List.cons_append, List.nil_append, if_true, Bool.false_eq_true, if_false, Nat.reduceAdd, Nat.reduceSub, Nat.zero_add, Nat.reduceEqDiff, Option.map_none, Nat.zero_le, Nat.reduceLT, Nat.reduceLeDiff, Bool.not_true, Bool.not_false, kN, i1, no, ni, ho, hi, decide_true, decide_false, Bool.false_and, Bool.true_and]
                  · rw [bnx (ρ' := [.va W, .va E, .va P, .va O, .va I, .va T, .va (.int z), .no, .no, .no, .no, .no, .no, .no, .no]) (by simp only [runD, evB, evS, evE, evA, evT, evAnd, evOr, evAndV, evOrV, evP, evI, mb_ok, mb_some, mb_er, op_some, keep_sh, keep_fr, blM_bl, intM_int, nerr_ok, Option.map_some, Option.bind_some, List.getElem?_cons_zero, List.getElem?_cons_succ, List.set_cons_zero, List.set_cons_succ, asgF, unpF, ownOf, appF, setAll, bindT, wipeR, List.length_cons, List.length_nil, List.map_cons, List.map_nil, List.replicate, List.cons_append, List.nil_append, if_true, Bool.false_eq_true, if_false, Nat.reduceAdd, Nat.reduceSub, Nat.zero_add, Nat.reduceEqDiff, Option.map_none, Nat.zero_le, Nat.reduceLT, Nat.reduceLeDiff, Bool.not_true, Bool.not_false, kN, i1, no, ni, ho, hi, decide_false])]
                    obtain ⟨H1, H2⟩ := H.fewer hn
                    have k1 := sr m ts ends pr (outs ++ [n]) ins x c H1 tx hc110 dd.1
                    have k2 := sr m ts ends pr outs (ins ++ [n]) y c H2 ty hc110 dd.2
                    rw [← hW, ← hE, ← hP, ← hI] at k1
                    rw [← hW, ← hE, ← hP, ← hO] at k2
                    have a1 : bop .add O (.lst [nD n]) = some (.lst (nsD (outs ++ [n])), .fr) := by
                      rw [hO]
                      show (if _ then _ else _) = _
                      rw [if_pos (by rw [nsD_len]; simp [top]; omega)]
                      simp [nsD, nD]
                    have a2 : bop .add I (.lst [nD n]) = some (.lst (nsD (ins ++ [n])), .fr) := by
                      rw [hI]
                      show (if _ then _ else _) = _
                      rw [if_pos (by rw [nsD_len]; simp [top]; omega)]
                      simp [nsD, nD]
                    rw [decide_eq_false ho, decide_eq_false hi]
                    cases hb1 : isPap m ts ends pr i (outs ++ [n]) ins x with
                    | false =>
                      rw [hb1] at k1
                      refine brt ?_
                      simp only [runD, evB, evS, evE, evA, evT, evAnd, evOr, evAndV, evOrV, evP, evI, mb_ok, mb_some, mb_er, op_some, keep_sh, keep_fr, blM_bl, intM_int, nerr_ok, Option.map_some, Option.bind_some, List.getElem?_cons_zero, List.getElem?_cons_succ, List.set_cons_zero, List.set_cons_succ, asgF, unpF, ownOf, appF, setAll, bindT, wipeR, List.length_cons, List.length_nil, List.map_cons, List.map_nil, List.replicate, List.cons_append, List.nil_append, if_true, Bool.false_eq_true, if_false, Nat.reduceAdd, Nat.reduceSub, Nat.zero_add, Nat.reduceEqDiff, Option.map_none, Nat.zero_le, Nat.reduceLT, Nat.reduceLeDiff, Bool.not_true, Bool.not_false, top, a1, i1, i2, kN, fr, k1]
                      rfl
                    | true =>
                      rw [hb1] at k1
                      rw [bnx (ρ' := [.va W, .va E, .va P, .va O, .va I, .va T, .va (.int z), .no, .no, .no, .no, .no, .no, .no, .no]) (by simp only [runD, evB, evS, evE, evA, evT, evAnd, evOr, evAndV, evOrV, evP, evI, mb_ok, mb_some, mb_er, op_some, keep_sh, keep_fr, blM_bl, intM_int, nerr_ok, Option.map_some, Option.bind_some, List.getElem?_cons_zero, List.getElem?_cons_succ, List.set_cons_zero, List.set_cons_succ, asgF, unpF, ownOf, appF, setAll, bindT, wipeR, List.length_cons, List.length_nil, List.map_cons, List.map_nil, List.replicate, List.cons_append, List.nil_append, if_true, Bool.false_eq_true, if_false, Nat.reduceAdd, Nat.reduceSub, Nat.zero_add, Nat.reduceEqDiff, Option.map_none, Nat.zero_le, Nat.reduceLT, Nat.reduceLeDiff, Bool.not_true, Bool.not_false, top, a1, i1, i2, kN, fr, k1])]
                      refine brt ?_
                      simp only [runD, evB, evS, evE, evA, evT, evAnd, evOr, evAndV, evOrV, evP, evI, mb_ok, mb_some, mb_er, op_some, keep_sh, keep_fr, blM_bl, intM_int, nerr_ok, Option.map_some, Option.bind_some, List.getElem?_cons_zero, List.getElem?_cons_succ, List.set_cons_zero, List.set_cons_succ, asgF, unpF, ownOf, appF, setAll, bindT, wipeR, List.length_cons, List.length_nil, List.map_cons, List.map_nil, List.replicate, List.cons_append, List.nil_append, if_true, Bool.false_eq_true, if_false, Nat.reduceAdd, Nat.reduceSub, Nat.zero_add, Nat.reduceEqDiff, Option.map_none, Nat.zero_le, Nat.reduceLT, Nat.reduceLeDiff, Bool.not_true, Bool.not_false, top, a2, i1, i3, kN, fr, k2]
                      rfl
            · rw [papS_n (fun h => absurd h h1) (fun h => absurd h h2) (fun h k => h3 ⟨h, k⟩)]
              refine brt ?_
              by_cases h4 : s = ("cases" : Str)
              · have l4 : (r.length + 1 == 4) = false := by
                  simp
                  exact fun h => h3 ⟨h4, h⟩
                simp only [runD, evB, evS, evE, evA, evT, evAnd, evOr, evAndV, evOrV, evP, evI, mb_ok, mb_some, mb_er, op_some, keep_sh, keep_fr, blM_bl, intM_int, nerr_ok, Option.map_some, Option.bind_some, List.getElem?_cons_zero, List.getElem?_cons_succ, List.set_cons_zero, List.set_cons_succ, asgF, unpF, ownOf, appF, setAll, bindT, wipeR, List.length_cons, List.length_nil, List.map_cons, List.map_nil, List.replicate, List.cons_append, List.nil_append, if_true, Bool.false_eq_true, if_false, Nat.reduceAdd, Nat.reduceSub, Nat.zero_add, Nat.reduceEqDiff, Option.map_none, Nat.zero_le, Nat.reduceLT, Nat.reduceLeDiff, Bool.not_true, Bool.not_false, kN, i0, s3, decide_eq_true h4, lx, cop_nen, l4]
              · simp only [runD, evB, evS, evE, evA, evT, evAnd, evOr, evAndV, evOrV, evP, evI, mb_ok, mb_some, mb_er, op_some, keep_sh, keep_fr, blM_bl, intM_int, nerr_ok, Option.map_some, Option.bind_some, List.getElem?_cons_zero, List.getElem?_cons_succ, List.set_cons_zero, List.set_cons_succ, asgF, unpF, ownOf, appF, setAll, bindT, wipeR, List.length_cons, List.length_nil, List.map_cons, List.map_nil, List.replicate, List.cons_append, List.nil_append, if_true, Bool.false_eq_true, if_false, Nat.reduceAdd, Nat.reduceSub, Nat.zero_add, Nat.reduceEqDiff, Option.map_none, Nat.zero_le, Nat.reduceLT, Nat.reduceLeDiff, Bool.not_true, Bool.not_false, kN, i0, s3, decide_eq_false h4]
  | _ => 
    rw [other rfl]
    exact brt (by simp only [runD, evB, evS, evE, evA, evT, evAnd, evOr, evAndV, evOrV, evP, evI, mb_ok, mb_some, mb_er, op_some, keep_sh, keep_fr, blM_bl, intM_int, nerr_ok, Option.map_some, Option.bind_some, List.getElem?_cons_zero, List.getElem?_cons_succ, List.set_cons_zero, List.set_cons_succ, asgF, unpF, ownOf, appF, setAll, bindT, wipeR, List.length_cons, List.length_nil, List.map_cons, List.map_nil, List.replicate, List.cons_append, List.nil_append, if_true, Bool.false_eq_true, if_false, Nat.reduceAdd, Nat.reduceSub, Nat.zero_add, Nat.reduceEqDiff, Option.map_none, Nat.zero_le, Nat.reduceLT, Nat.reduceLeDiff, Bool.not_true, Bool.not_false, isiD])
end J

set_option Elab.async false
set_option linter.all false
set_option maxRecDepth 100000
set_option maxHeartbeats 4000000
/-! papers that the law makes -/
namespace J
open PySem PV
theorem fold_mn : ∀ (l : List Nat) (a : Nat), ∃ v, (v = a ∨ v ∈ l) ∧ (l.map fun (n : Nat) => (n : Int)).foldl (fun m y => if y < m then y else m) (a : Int) = (v : Int)
  | [], a => ⟨a, .inl rfl, rfl⟩
  | b :: l, a => by
    rw [List.map_cons, List.foldl_cons]
    by_cases h : (b : Int) < (a : Int)
    · rw [if_pos h]
      obtain ⟨v, h1, h2⟩ := fold_mn l b
      refine ⟨v, ?_, h2⟩
      rcases h1 with rfl | h1
      · exact .inr List.mem_cons_self
      · exact .inr (List.mem_cons_of_mem _ h1)
    · rw [if_neg h]
      obtain ⟨v, h1, h2⟩ := fold_mn l a
      refine ⟨v, ?_, h2⟩
      rcases h1 with rfl | h1
      · exact .inl rfl
      · exact .inr (List.mem_cons_of_mem _ h1)
theorem min_ns {ps : List Nat} (h : ps ≠ []) : ∃ v ∈ ps, uop .min (.lst (nsD ps)) = some (nD v, .sh) := by
  cases ps with
  | nil => exact absurd rfl h
  | cons a r =>
    obtain ⟨v, h1, h2⟩ := fold_mn r a
    refine ⟨v, ?_, ?_⟩
    · rcases h1 with rfl | h1
      · exact List.mem_cons_self
      · exact List.mem_cons_of_mem _ h1
    · simp only [uop, ints_ns, List.map_cons, Option.bind_some, lstMin, h2, Option.map_some]
      rfl
theorem cop_ne0 (a : List Nat) : cop .ne (.lst (nsD a)) (.lst []) = some (!(a == [])) := by
  have e : (D.lst ([] : List D)) = .lst (nsD []) := rfl
  rw [e]
  simp only [cop, fine_lst, Bool.and_self, if_true, D.eqv, eqvL_ns]
/-- a made fence: about one end -/
structure Fin1 (ends : List Nat) (f : Fence) : Prop where
  one : ∃ e ∈ ends, f.1 = [e]
  sm : Sm 65 f.2
theorem top2 : (2 ≤ top) = True := by simp [top]
theorem ixl0 (a b : D) : ixD (.lst [a, b]) (nD 0) = some a := rfl
theorem ixl1 (a b : D) : ixD (.lst [a, b]) (nD 1) = some b := rfl
theorem half_cop {u : Nat} (h : u % 2 ≠ 0) : Nat.Coprime u 2 := by
  rw [Nat.Coprime, Nat.gcd_comm, Nat.gcd_rec, show u % 2 = 1 by omega]
  rfl
def halfR (u : Nat) (h : u % 2 ≠ 0) : Rat := ⟨(u : Int), 2, by decide, by
  rw [Int.natAbs_natCast]
  exact half_cop h⟩
theorem half_fr (u : Nat) (h : u % 2 ≠ 0) : frD (halfR u h) = .tup [nD u, nD 2] := rfl
theorem half_sm {u : Nat} (h : u % 2 ≠ 0) (l : u < 2 ^ 65) : Sm 65 (halfR u h) := ⟨by show ((u : Int)).natAbs < _; rw [Int.natAbs_natCast]; exact l, by show 2 < _; decide⟩
def SSingle (φ : List D → M D) : Prop := ∀ (m : Nat) (ts : List Tie) (ends outs ins : List Nat), ends.length < 64 → ts.length < 64 → (∀ n, n < ts.length → price ts n < 2 ^ 64) → ∃ fs : List Fence, fs.length < 64 ∧ (∀ f ∈ fs, Fin1 ends f) ∧ φ [webD m ts, .tup (nsD ends), .lst (nsD outs), .lst (nsD ins)] = ok (.tup (fnsD fs))
theorem single_ok {Φ : Tab} {wf : Nat} : SSingle (runD m__law_single Φ wf) := by
  intro m ts ends outs ins he ht hp
  have ew1 : ixD (webD m ts) (nD 1) = some (.tup (ts.map tieD)) := rfl
  have iT : items (.tup (ts.map tieD)) = some (ts.map tieD) := rfl
  obtain ⟨W, hW⟩ : ∃ W, W = webD m ts := ⟨_, rfl⟩
  obtain ⟨E, hE⟩ : ∃ E, E = D.tup (nsD ends) := ⟨_, rfl⟩
  obtain ⟨O, hO⟩ : ∃ O, O = D.lst (nsD outs) := ⟨_, rfl⟩
  obtain ⟨I, hI⟩ : ∃ I, I = D.lst (nsD ins) := ⟨_, rfl⟩
  have ni : ∀ n, cop .isin (nD n) I = some (decide (n ∈ ins)) := fun n => by rw [hI]; exact isin_l _ _
  have nno : ∀ n, cop .notin (nD n) O = some (!decide (n ∈ outs)) := fun n => by rw [hO]; exact notin_l _ _
  have lE : uop .len E = some (nD ends.length, .sh) := by rw [hE]; simp [uop, items, nD, nsD]
  rw [← hW] at ew1
  -- the ties of one end
  have inner : ∀ (e : Nat) (F : D) (a9 : Sl) (i : Nat) (d : D) (ρ : Rho), ((ts.map tieD).zipIdx.map fun p => D.tup [.int (p.2 : Nat), p.1])[i]? = some d → (∃ ps a b, ps.length ≤ i ∧ (∀ p ∈ ps, p < 2 ^ 64) ∧ ρ = [.va W, .va E, .va O, .va I, .va F, .va (nD e), .ow (nsD ps), a, b, a9]) →
      ∃ ρ1 ρ2, bindT false [7, 8] d ρ = some ρ1 ∧ evB Φ wf l1__law_single ρ1 = ok (.nx ρ2) ∧ (∃ ps a b, ps.length ≤ i + 1 ∧ (∀ p ∈ ps, p < 2 ^ 64) ∧ ρ2 = [.va W, .va E, .va O, .va I, .va F, .va (nD e), .ow (nsD ps), a, b, a9]) := by
    rintro e F a9 i d ρ h ⟨ps, a, b, p1, p2, rfl⟩
    obtain ⟨hi, rfl⟩ := enum_at h
    have e1 : slD (tieD (tieAt ts i)) none (some ((2 : Nat) : Int)) = some (.tup (nsD [(tieAt ts i).1, (tieAt ts i).2.1]), .sh) := rfl
    have e2 : ixD (tieD (tieAt ts i)) (nD 2) = some (nD (price ts i)) := rfl
    have e3 : cop .isin (nD e) (.tup (nsD [(tieAt ts i).1, (tieAt ts i).2.1])) = some (decide (e ∈ [(tieAt ts i).1, (tieAt ts i).2.1])) := isin_ns true _ _
    have pl : (nsD ps).length < top := by rw [nsD_len]; unfold top; omega
    by_cases h1 : e ∈ [(tieAt ts i).1, (tieAt ts i).2.1]
    · by_cases h2 : i ∈ outs
      · refine ⟨_, [.va W, .va E, .va O, .va I, .va F, .va (nD e), .ow (nsD ps), .va (nD i), .va (tieD (tieAt ts i)), a9], rfl, ?_, ⟨ps, _, _, by omega, p2, rfl⟩⟩
        simp only [runD, evB, evS, evE, evA, evT, evAnd, evOr, evAndV, evOrV, evP, evI, mb_ok, mb_some, mb_er, op_some, keep_sh, keep_fr, blM_bl, intM_int, nerr_ok, Option.map_some, Option.bind_some, List.getElem?_cons_zero, List.getElem?_cons_succ, List.set_cons_zero, List.set_cons_succ, asgF, unpF, ownOf, appF, setAll, bindT, wipeR, List.length_cons, List.length_nil, List.map_cons, List.map_nil, List.replicate, List.cons_append, List.nil_append, if_true, Bool.false_eq_true, if_false, Nat.reduceAdd, Nat.reduceSub, Nat.zero_add, Nat.reduceEqDiff, Option.map_none, Nat.zero_le, Nat.reduceLT, Nat.reduceLeDiff, Bool.not_true, Bool.not_false, l1__law_single, kN, intM_n, e1, e3, nno, h1, h2, decide_true]
      · refine ⟨_, [.va W, .va E, .va O, .va I, .va F, .va (nD e), .ow (nsD (ps ++ [if i ∈ ins then 0 else price ts i])), .va (nD i), .va (tieD (tieAt ts i)), a9], rfl, ?_, ⟨ps ++ [if i ∈ ins then 0 else price ts i], _, _, by simp; omega, fun p hp' => ?_, rfl⟩⟩
        · have en : nsD (ps ++ [if i ∈ ins then 0 else price ts i]) = nsD ps ++ [nD (if i ∈ ins then 0 else price ts i)] := by simp [nsD]
          have ei : (if decide (i ∈ ins) = true then nD 0 else nD (price ts i)) = nD (if i ∈ ins then 0 else price ts i) := by by_cases h : i ∈ ins <;> simp [h]
          rw [en]
          simp only [runD, evB, evS, evE, evA, evT, evAnd, evOr, evAndV, evOrV, evP, evI, mb_ok, mb_some, mb_er, op_some, keep_sh, keep_fr, blM_bl, intM_int, nerr_ok, Option.map_some, Option.bind_some, List.getElem?_cons_zero, List.getElem?_cons_succ, List.set_cons_zero, List.set_cons_succ, asgF, unpF, ownOf, appF, setAll, bindT, wipeR, List.length_cons, List.length_nil, List.map_cons, List.map_nil, List.replicate, List.cons_append, List.nil_append, if_true, Bool.false_eq_true, if_false, Nat.reduceAdd, Nat.reduceSub, Nat.zero_add, Nat.reduceEqDiff, Option.map_none, Nat.zero_le, Nat.reduceLT, Nat.reduceLeDiff, Bool.not_true, Bool.not_false, l1__law_single, kN, intM_n, e1, e2, e3, nno, ni, h1, h2, decide_true, decide_false, uop_int_bl, ix_two, top2, if_pos pl, ei]
        · rcases List.mem_append.mp hp' with k | k
          · exact p2 p k
          · rw [List.mem_singleton.mp k]
            split
            · decide
            · exact hp i hi
    · refine ⟨_, [.va W, .va E, .va O, .va I, .va F, .va (nD e), .ow (nsD ps), .va (nD i), .va (tieD (tieAt ts i)), a9], rfl, ?_, ⟨ps, _, _, by omega, p2, rfl⟩⟩
      simp only [runD, evB, evS, evE, evA, evT, evAnd, evOr, evAndV, evOrV, evP, evI, mb_ok, mb_some, mb_er, op_some, keep_sh, keep_fr, blM_bl, intM_int, nerr_ok, Option.map_some, Option.bind_some, List.getElem?_cons_zero, List.getElem?_cons_succ, List.set_cons_zero, List.set_cons_succ, asgF, unpF, ownOf, appF, setAll, bindT, wipeR, List.length_cons, List.length_nil, List.map_cons, List.map_nil, List.replicate, List.cons_append, List.nil_append, if_true, Bool.false_eq_true, if_false, Nat.reduceAdd, Nat.reduceSub, Nat.zero_add, Nat.reduceEqDiff, Option.map_none, Nat.zero_le, Nat.reduceLT, Nat.reduceLeDiff, Bool.not_true, Bool.not_false, l1__law_single, kN, intM_n, e1, e3, h1, decide_false]
  -- one end
  have step : ∀ (i : Nat) (d : D) (ρ : Rho), (nsD (ends.take (ends.length - if ends.length = 2 then 1 else 0)))[i]? = some d → (∃ fs a b c e f, fs.length ≤ i ∧ (∀ f ∈ fs, Fin1 ends f) ∧ ρ = [.va W, .va E, .va O, .va I, .va (.tup (fnsD fs)), a, b, c, e, f]) →
      ∃ ρ1 ρ2, bindT true [5] d ρ = some ρ1 ∧ evB Φ wf l2__law_single ρ1 = ok (.nx ρ2) ∧ (∃ fs a b c e f, fs.length ≤ i + 1 ∧ (∀ f ∈ fs, Fin1 ends f) ∧ ρ2 = [.va W, .va E, .va O, .va I, .va (.tup (fnsD fs)), a, b, c, e, f]) := by
    rintro i d ρ h ⟨fs, a, b, c, e0, f0, f1, f2, rfl⟩
    obtain ⟨e, he2, rfl⟩ := ns_at h
    have hi : i < ends.length := by
      have := (List.getElem?_eq_some_iff.mp he2).1
      rw [List.length_take] at this
      omega
    have hin : e ∈ ends := List.mem_of_mem_take (List.mem_of_getElem? he2)
    have fl : (fnsD fs).length + 1 ≤ top := by simp [fnsD, top]; omega
    obtain ⟨ρ', st, ps, a7, a8, ps1, ps2, rfl⟩ := forL_go (bind := bindT false [7, 8]) (body := fun ρ => evB Φ wf l1__law_single ρ) (ds := (ts.map tieD).zipIdx.map fun p => D.tup [.int (p.2 : Nat), p.1]) (fun i ρ => ∃ ps a b, ps.length ≤ i ∧ (∀ p ∈ ps, p < 2 ^ 64) ∧ ρ = [.va W, .va E, .va O, .va I, .va (.tup (fnsD fs)), .va (nD e), .ow (nsD ps), a, b, f0]) ⟨[], c, e0, Nat.zero_le _, (fun p hp => by cases hp), rfl⟩ (inner e (.tup (fnsD fs)) f0)
    have st : forL (bindT false [7, 8]) (fun ρ => evB Φ wf l1__law_single ρ) ((ts.map tieD).zipIdx.map fun p => D.tup [.int (p.2 : Nat), p.1]) [.va W, .va E, .va O, .va I, .va (.tup (fnsD fs)), .va (nD e), .ow [], c, e0, f0] = _ := st
    have head : ∀ R : Fl, evB Φ wf (match l2__law_single with | .seq _ (.seq _ r) => r | _ => .nil) [.va W, .va E, .va O, .va I, .va (.tup (fnsD fs)), .va (nD e), .ow (nsD ps), a7, a8, f0] = ok R → evB Φ wf l2__law_single [.va W, .va E, .va O, .va I, .va (.tup (fnsD fs)), .va (nD e), b, c, e0, f0] = ok R := by
      intro R hR
      simp only [l2__law_single] at hR ⊢
      refine (bnx (ρ' := [.va W, .va E, .va O, .va I, .va (.tup (fnsD fs)), .va (nD e), .ow [], c, e0, f0]) (by simp only [runD, evB, evS, evE, evA, evT, evAnd, evOr, evAndV, evOrV, evP, evI, mb_ok, mb_some, mb_er, op_some, keep_sh, keep_fr, blM_bl, intM_int, nerr_ok, Option.map_some, Option.bind_some, List.getElem?_cons_zero, List.getElem?_cons_succ, List.set_cons_zero, List.set_cons_succ, asgF, unpF, ownOf, appF, setAll, bindT, wipeR, List.length_cons, List.length_nil, List.map_cons, List.map_nil, List.replicate, List.cons_append, List.nil_append, if_true, Bool.false_eq_true, if_false, Nat.reduceAdd, Nat.reduceSub, Nat.zero_add, Nat.reduceEqDiff, Option.map_none, Nat.zero_le, Nat.reduceLT, Nat.reduceLeDiff, Bool.not_true, Bool.not_false, top])).trans ?_
      refine (bnx (by simp only [runD, evB, evS, evE, evA, evT, evAnd, evOr, evAndV, evOrV, evP, evI, mb_ok, mb_some, mb_er, op_some, keep_sh, keep_fr, blM_bl, intM_int, nerr_ok, Option.map_some, Option.bind_some, List.getElem?_cons_zero, List.getElem?_cons_succ, List.set_cons_zero, List.set_cons_succ, asgF, unpF, ownOf, appF, setAll, bindT, wipeR, List.length_cons, List.length_nil, List.map_cons, List.map_nil, List.replicate, List.cons_append, List.nil_append, if_true, Bool.false_eq_true, if_false, Nat.reduceAdd, Nat.reduceSub, Nat.zero_add, Nat.reduceEqDiff, Option.map_none, Nat.zero_le, Nat.reduceLT, Nat.reduceLeDiff, Bool.not_true, Bool.not_false, kN, ew1, iT]; exact st)).trans ?_
      exact hR
    have stay : evB Φ wf (match l2__law_single with | .seq _ (.seq _ r) => r | _ => .nil) [.va W, .va E, .va O, .va I, .va (.tup (fnsD fs)), .va (nD e), .ow (nsD ps), a7, a8, f0] = ok (.nx [.va W, .va E, .va O, .va I, .va (.tup (fnsD fs)), .va (nD e), .ow (nsD ps), a7, a8, f0]) → ∃ ρ1 ρ2, bindT true [5] (nD e) [.va W, .va E, .va O, .va I, .va (.tup (fnsD fs)), a, b, c, e0, f0] = some ρ1 ∧ evB Φ wf l2__law_single ρ1 = ok (.nx ρ2) ∧ (∃ fs a b c e f, fs.length ≤ i + 1 ∧ (∀ f ∈ fs, Fin1 ends f) ∧ ρ2 = [.va W, .va E, .va O, .va I, .va (.tup (fnsD fs)), a, b, c, e, f]) := fun hR =>
      ⟨_, _, rfl, head _ hR, fs, _, _, _, _, _, by omega, f2, rfl⟩
    have n0 := cop_ne0 ps
    by_cases h0 : ps = []
    · subst h0
      have n0 : cop .ne (.lst (nsD [])) (.lst []) = some false := n0
      refine stay ?_
      simp only [runD, evB, evS, evE, evA, evT, evAnd, evOr, evAndV, evOrV, evP, evI, mb_ok, mb_some, mb_er, op_some, keep_sh, keep_fr, blM_bl, intM_int, nerr_ok, Option.map_some, Option.bind_some, List.getElem?_cons_zero, List.getElem?_cons_succ, List.set_cons_zero, List.set_cons_succ, asgF, unpF, ownOf, appF, setAll, bindT, wipeR, List.length_cons, List.length_nil, List.map_cons, List.map_nil, List.replicate, List.cons_append, List.nil_append, if_true, Bool.false_eq_true, if_false, Nat.reduceAdd, Nat.reduceSub, Nat.zero_add, Nat.reduceEqDiff, Option.map_none, Nat.zero_le, Nat.reduceLT, Nat.reduceLeDiff, Bool.not_true, Bool.not_false, l2__law_single, top, n0]
    · have nb : (!(ps == [])) = true := by
        cases ps with
        | nil => exact absurd rfl h0
        | cons _ _ => rfl
      rw [nb] at n0
      obtain ⟨v, v1, v2⟩ := min_ns h0
      have vb := ps2 v v1
      by_cases h1 : 0 < v
      · by_cases h2 : 1 < ends.length
        · by_cases h3 : ends.length = 2
          · have h3b : (ends.length == 2) = true := by simp [h3]
            refine ⟨_, [.va W, .va E, .va O, .va I, .va (.tup (fnsD [([e], (v : Rat))])), .va (nD e), .ow (nsD ps), a7, a8, .va (nD v)], rfl, head _ ?_, [([e], (v : Rat))], _, _, _, _, _, by simp, ?_, rfl⟩
            · have ee : D.tup (fnsD [([e], (v : Rat))]) = .tup [.tup [.tup [nD e], .tup [nD v, nD 1]]] := by
                show D.tup [.tup [.tup (nsD [e]), frD (v : Rat)]] = _
                rw [fr_nat]
                rfl
              rw [ee]
              by_cases h4 : v % 2 = 0
              · have h4b : (v % 2 == 0) = true := by simp [h4]
                have ad : bop .add (.tup (fnsD fs)) (.tup [.tup [.tup [nD e], .tup [nD (v / 2), nD 1]]]) = some (.tup (fnsD fs ++ [.tup [.tup [nD e], .tup [nD (v / 2), nD 1]]]), .sh) := by
                  show (if _ then _ else _) = _
                  rw [if_pos (by simpa using fl)]
                simp only [runD, evB, evS, evE, evA, evT, evAnd, evOr, evAndV, evOrV, evP, evI, mb_ok, mb_some, mb_er, op_some, keep_sh, keep_fr, blM_bl, intM_int, nerr_ok, Option.map_some, Option.bind_some, List.getElem?_cons_zero, List.getElem?_cons_succ, List.set_cons_zero, List.set_cons_succ, asgF, unpF, ownOf, appF, setAll, bindT, wipeR, List.length_cons, List.length_nil, List.map_cons, List.map_nil, List.replicate, List.cons_append, List.nil_append, if_true, Bool.false_eq_true, if_false, Nat.reduceAdd, Nat.reduceSub, Nat.zero_add, Nat.reduceEqDiff, Option.map_none, Nat.zero_le, Nat.reduceLT, Nat.reduceLeDiff, Bool.not_true, Bool.not_false, l2__law_single, top, n0, v2, kN, cop_gtn, h1, lE, h2, decide_true, bdiv_n, bmod_n, cop_eqn, h4b, uop_int_bl, ixl0, ixl1, ad, h3b]
              · have h4b : (v % 2 == 0) = false := by simp [h4]
                have ad : bop .add (.tup (fnsD fs)) (.tup [.tup [.tup [nD e], .tup [nD v, nD 2]]]) = some (.tup (fnsD fs ++ [.tup [.tup [nD e], .tup [nD v, nD 2]]]), .sh) := by
                  show (if _ then _ else _) = _
                  rw [if_pos (by simpa using fl)]
                simp only [runD, evB, evS, evE, evA, evT, evAnd, evOr, evAndV, evOrV, evP, evI, mb_ok, mb_some, mb_er, op_some, keep_sh, keep_fr, blM_bl, intM_int, nerr_ok, Option.map_some, Option.bind_some, List.getElem?_cons_zero, List.getElem?_cons_succ, List.set_cons_zero, List.set_cons_succ, asgF, unpF, ownOf, appF, setAll, bindT, wipeR, List.length_cons, List.length_nil, List.map_cons, List.map_nil, List.replicate, List.cons_append, List.nil_append, if_true, Bool.false_eq_true, if_false, Nat.reduceAdd, Nat.reduceSub, Nat.zero_add, Nat.reduceEqDiff, Option.map_none, Nat.zero_le, Nat.reduceLT, Nat.reduceLeDiff, Bool.not_true, Bool.not_false, l2__law_single, top, n0, v2, kN, cop_gtn, h1, lE, h2, decide_true, bdiv_n, bmod_n, cop_eqn, h4b, uop_int_bl, ixl0, ixl1, ad, h3b]
            · intro f hf
              rw [List.mem_singleton.mp hf]
              exact ⟨⟨e, hin, rfl⟩, sm_nat (Nat.lt_of_lt_of_le vb (by decide)) (by decide)⟩
          · have h3b : (ends.length == 2) = false := by simp [h3]
            by_cases h4 : v % 2 = 0
            · have h4b : (v % 2 == 0) = true := by simp [h4]
              have ee : D.tup (fnsD (fs ++ [([e], ((v / 2 : Nat) : Rat))])) = .tup (fnsD fs ++ [.tup [.tup [nD e], .tup [nD (v / 2), nD 1]]]) := by
                unfold fnsD
                rw [List.map_append]
                show D.tup (_ ++ [.tup [.tup (nsD [e]), frD ((v / 2 : Nat) : Rat)]]) = _
                rw [fr_nat]
                rfl
              have ad : bop .add (.tup (fnsD fs)) (.tup [.tup [.tup [nD e], .tup [nD (v / 2), nD 1]]]) = some (.tup (fnsD (fs ++ [([e], ((v / 2 : Nat) : Rat))])), .sh) := by
                rw [ee]
                show (if _ then _ else _) = _
                rw [if_pos (by simpa using fl)]
              refine ⟨_, [.va W, .va E, .va O, .va I, .va (.tup (fnsD (fs ++ [([e], ((v / 2 : Nat) : Rat))]))), .va (nD e), .ow (nsD ps), a7, a8, .va (nD v)], rfl, head _ ?_, fs ++ [([e], ((v / 2 : Nat) : Rat))], _, _, _, _, _, by simp; omega, ?_, rfl⟩
              · simp only [runD, evB, evS, evE, evA, evT, evAnd, evOr, evAndV, evOrV, evP, evI, mb_ok, mb_some, mb_er, op_some, keep_sh, keep_fr, blM_bl, intM_int, nerr_ok, Option.map_some, Option.bind_some, List.getElem?_cons_zero, List.getElem?_cons_succ, List.set_cons_zero, List.set_cons_succ, asgF, unpF, ownOf, appF, setAll, bindT, wipeR, List.length_cons, List.length_nil, List.map_cons, List.map_nil, List.replicate, List.cons_append, List.nil_append, if_true, Bool.false_eq_true, if_false, Nat.reduceAdd, Nat.reduceSub, Nat.zero_add, Nat.reduceEqDiff, Option.map_none, Nat.zero_le, Nat.reduceLT, Nat.reduceLeDiff, Bool.not_true, Bool.not_false, l2__law_single, top, n0, v2, kN, cop_gtn, h1, lE, h2, decide_true, bdiv_n, bmod_n, cop_eqn, h4b, uop_int_bl, ixl0, ixl1, ad, h3b]
              · intro f hf
                rcases List.mem_append.mp hf with k | k
                · exact f2 f k
                · rw [List.mem_singleton.mp k]
                  exact ⟨⟨e, hin, rfl⟩, sm_nat (Nat.lt_of_le_of_lt (Nat.div_le_self v 2) (Nat.lt_of_lt_of_le vb (by decide))) (by decide)⟩
            · have h4b : (v % 2 == 0) = false := by simp [h4]
              have ee : D.tup (fnsD (fs ++ [([e], halfR v h4)])) = .tup (fnsD fs ++ [.tup [.tup [nD e], .tup [nD v, nD 2]]]) := by
                unfold fnsD
                rw [List.map_append]
                rfl
              have ad : bop .add (.tup (fnsD fs)) (.tup [.tup [.tup [nD e], .tup [nD v, nD 2]]]) = some (.tup (fnsD (fs ++ [([e], halfR v h4)])), .sh) := by
                rw [ee]
                show (if _ then _ else _) = _
                rw [if_pos (by simpa using fl)]
              refine ⟨_, [.va W, .va E, .va O, .va I, .va (.tup (fnsD (fs ++ [([e], halfR v h4)]))), .va (nD e), .ow (nsD ps), a7, a8, .va (nD v)], rfl, head _ ?_, fs ++ [([e], halfR v h4)], _, _, _, _, _, by simp; omega, ?_, rfl⟩
              · simp only [runD, evB, evS, evE, evA, evT, evAnd, evOr, evAndV, evOrV, evP, evI, mb_ok, mb_some, mb_er, op_some, keep_sh, keep_fr, blM_bl, intM_int, nerr_ok, Option.map_some, Option.bind_some, List.getElem?_cons_zero, List.getElem?_cons_succ, List.set_cons_zero, List.set_cons_succ, asgF, unpF, ownOf, appF, setAll, bindT, wipeR, List.length_cons, List.length_nil, List.map_cons, List.map_nil, List.replicate, List.cons_append, List.nil_append, if_true, Bool.false_eq_true, if_false, Nat.reduceAdd, Nat.reduceSub, Nat.zero_add, Nat.reduceEqDiff, Option.map_none, Nat.zero_le, Nat.reduceLT, Nat.reduceLeDiff, Bool.not_true, Bool.not_false, l2__law_single, top, n0, v2, kN, cop_gtn, h1, lE, h2, decide_true, bdiv_n, bmod_n, cop_eqn, h4b, uop_int_bl, ixl0, ixl1, ad, h3b]
              · intro f hf
                rcases List.mem_append.mp hf with k | k
                · exact f2 f k
                · rw [List.mem_singleton.mp k]
                  exact ⟨⟨e, hin, rfl⟩, half_sm h4 (Nat.lt_of_lt_of_le vb (by decide))⟩
        · refine stay ?_
          simp only [runD, evB, evS, evE, evA, evT, evAnd, evOr, evAndV, evOrV, evP, evI, mb_ok, mb_some, mb_er, op_some, keep_sh, keep_fr, blM_bl, intM_int, nerr_ok, Option.map_some, Option.bind_some, List.getElem?_cons_zero, List.getElem?_cons_succ, List.set_cons_zero, List.set_cons_succ, asgF, unpF, ownOf, appF, setAll, bindT, wipeR, List.length_cons, List.length_nil, List.map_cons, List.map_nil, List.replicate, List.cons_append, List.nil_append, if_true, Bool.false_eq_true, if_false, Nat.reduceAdd, Nat.reduceSub, Nat.zero_add, Nat.reduceEqDiff, Option.map_none, Nat.zero_le, Nat.reduceLT, Nat.reduceLeDiff, Bool.not_true, Bool.not_false, l2__law_single, top, n0, v2, kN, cop_gtn, h1, lE, h2, decide_true, decide_false]
      · refine stay ?_
        simp only [runD, evB, evS, evE, evA, evT, evAnd, evOr, evAndV, evOrV, evP, evI, mb_ok, mb_some, mb_er, op_some, keep_sh, keep_fr, blM_bl, intM_int, nerr_ok, Option.map_some, Option.bind_some, List.getElem?_cons_zero, List.getElem?_cons_succ, List.set_cons_zero, List.set_cons_succ, asgF, unpF, ownOf, appF, setAll, bindT, wipeR, List.length_cons, List.length_nil, List.map_cons, List.map_nil, List.replicate, List.cons_append, List.nil_append, if_true, Bool.false_eq_true, if_false, Nat.reduceAdd, Nat.reduceSub, Nat.zero_add, Nat.reduceEqDiff, Option.map_none, Nat.zero_le, Nat.reduceLT, Nat.reduceLeDiff, Bool.not_true, Bool.not_false, l2__law_single, top, n0, v2, kN, cop_gtn, h1, decide_false]
  obtain ⟨ρ', st, fs, a, b, c, e, f, f1, f2, rfl⟩ := forL_go (bind := bindT true [5]) (body := fun ρ => evB Φ wf l2__law_single ρ) (ds := nsD (ends.take (ends.length - if ends.length = 2 then 1 else 0))) _ ⟨[], .no, .no, .no, .no, .no, Nat.zero_le _, (fun f hf => by cases hf), rfl⟩ step
  have st : forL (bindT true [5]) (fun ρ => evB Φ wf l2__law_single ρ) (nsD (ends.take (ends.length - if ends.length = 2 then 1 else 0))) [.va W, .va E, .va O, .va I, .va (.tup []), .no, .no, .no, .no, .no] = _ := st
  refine ⟨fs, ?_, f2, ?_⟩
  · rw [nsD_len, List.length_take] at f1
    omega
  · refine rrt rfl ?_
    rw [← hO, ← hI, ← hW, ← hE]
    show evB Φ wf m__law_single.body [.va W, .va E, .va O, .va I, .no, .no, .no, .no, .no, .no] = _
    simp only [m__law_single]
    refine (bnx (ρ' := [.va W, .va E, .va O, .va I, .va (.tup []), .no, .no, .no, .no, .no]) (by simp only [runD, evB, evS, evE, evA, evT, evAnd, evOr, evAndV, evOrV, evP, evI, mb_ok, mb_some, mb_er, op_some, keep_sh, keep_fr, blM_bl, intM_int, nerr_ok, Option.map_some, Option.bind_some, List.getElem?_cons_zero, List.getElem?_cons_succ, List.set_cons_zero, List.set_cons_succ, asgF, unpF, ownOf, appF, setAll, bindT, wipeR, List.length_cons, List.length_nil, List.map_cons, List.map_nil, List.replicate, List.cons_append, List.nil_append, if_true, Bool.false_eq_true, if_false, Nat.reduceAdd, Nat.reduceSub, Nat.zero_add, Nat.reduceEqDiff, Option.map_none, Nat.zero_le, Nat.reduceLT, Nat.reduceLeDiff, Bool.not_true, Bool.not_false, top])).trans ?_
    have es : bop .sub (nD ends.length) (.int (if (ends.length == 2) = true then 1 else 0)) = some (nD (ends.length - if ends.length = 2 then 1 else 0), .sh) := by
      by_cases h : ends.length = 2
      · rw [h]; rfl
      · have hb : (ends.length == 2) = false := by simp [h]
        rw [hb, if_neg h]
        exact bsub_n ends.length 0 (Nat.zero_le _)
    have esl : slD E none (some ((ends.length - if ends.length = 2 then 1 else 0 : Nat) : Int)) = some (.tup (nsD (ends.take (ends.length - if ends.length = 2 then 1 else 0))), .sh) := by
      rw [hE]
      simp only [slD, cut_take]
      simp [nsD, List.map_take]
    refine (bnx (by simp only [runD, evB, evS, evE, evA, evT, evAnd, evOr, evAndV, evOrV, evP, evI, mb_ok, mb_some, mb_er, op_some, keep_sh, keep_fr, blM_bl, intM_int, nerr_ok, Option.map_some, Option.bind_some, List.getElem?_cons_zero, List.getElem?_cons_succ, List.set_cons_zero, List.set_cons_succ, asgF, unpF, ownOf, appF, setAll, bindT, wipeR, List.length_cons, List.length_nil, List.map_cons, List.map_nil, List.replicate, List.cons_append, List.nil_append, if_true, Bool.false_eq_true, if_false, Nat.reduceAdd, Nat.reduceSub, Nat.zero_add, Nat.reduceEqDiff, Option.map_none, Nat.zero_le, Nat.reduceLT, Nat.reduceLeDiff, Bool.not_true, Bool.not_false, lE, kN, cop_eqn, uop_int_bl, es, intM_n, esl, items]; exact st)).trans ?_
    refine brt ?_
    simp only [runD, evB, evS, evE, evA, evT, evAnd, evOr, evAndV, evOrV, evP, evI, mb_ok, mb_some, mb_er, op_some, keep_sh, keep_fr, blM_bl, intM_int, nerr_ok, Option.map_some, Option.bind_some, List.getElem?_cons_zero, List.getElem?_cons_succ, List.set_cons_zero, List.set_cons_succ, asgF, unpF, ownOf, appF, setAll, bindT, wipeR, List.length_cons, List.length_nil, List.map_cons, List.map_nil, List.replicate, List.cons_append, List.nil_append, if_true, Bool.false_eq_true, if_false, Nat.reduceAdd, Nat.reduceSub, Nat.zero_add, Nat.reduceEqDiff, Option.map_none, Nat.zero_le, Nat.reduceLT, Nat.reduceLeDiff, Bool.not_true, Bool.not_false]
end J

set_option Elab.async false
set_option linter.all false
set_option maxRecDepth 100000
set_option maxHeartbeats 4000000
/-! papers that the law makes: all -/
namespace J
open PySem PV
def Tk (c k : Nat) (d : D) : Prop := D.tame c d = true ∧ Fd k d
theorem Tk.tup {c k : Nat} {xs : List D} (h : xs.length < 64) (h2 : ∀ x ∈ xs, Tk c k x) : Tk c (k + 1) (.tup xs) := ⟨tame_tup' h fun x hx => (h2 x hx).1, Fd.tup fun x hx => (h2 x hx).2⟩
theorem Tk.tm {c k : Nat} {d : D} (h : Tk c k d) (hk : k ≤ 60) : Tm c d := ⟨h.1, h.2.1, Nat.le_trans h.2.2 hk⟩
theorem Tk.mono {c k l : Nat} {d : D} (h : Tk c k d) (hk : k ≤ l) : Tk c l d := ⟨h.1, h.2.mono hk⟩
theorem tk_str {c : Nat} {s : Str} (h : PyData.strOk s = true) : Tk c 0 (.str s) := ⟨rfl, by simpa [D.pln] using h, Nat.le_refl _⟩
theorem tk_n {c n : Nat} (h : n < 2 ^ c) : Tk c 0 (nD n) := ⟨by simpa [D.tame, nD] using h, fd_n n⟩
theorem fences_tk {ends : List Nat} {fs : List Fence} (hl : fs.length < 64) (he : ∀ x ∈ ends, x < 100) (h : ∀ f ∈ fs, Fin1 ends f) : Tk 70 3 (.tup (fnsD fs)) := by
  have k := tm_fns (c := 70) hl fun f hf => by
    obtain ⟨⟨e, h1, h2⟩, h3⟩ := h f hf
    refine ⟨by rw [h2]; simp, fun x hx => ?_, h3.mono (by decide)⟩
    rw [h2] at hx
    rw [List.mem_singleton.mp hx]
    exact Nat.lt_trans (he e h1) (by decide)
  exact ⟨k.t, fnsD_fd fs⟩
def SMade (j : Nat) (φ : List D → M D) : Prop := ∀ (m : Nat) (ts : List Tie) (ends : List Nat) (pr : Nat) (outs ins : List Nat) (number : Nat), PapH m ts ends pr outs ins j → 6 ≤ outs.length + ins.length + j → ∃ d, Tk 70 (j + 5) d ∧ φ [webD m ts, .tup (nsD ends), nD pr, .lst (nsD outs), .lst (nsD ins), nD number] = ok d
def leftB (ts : List Tie) (outs ins : List Nat) : List Nat := (List.range ts.length).filter fun n => !decide (n ∈ outs) && !decide (n ∈ ins)
theorem leftB_lt {ts : List Tie} {outs ins : List Nat} : ∀ n ∈ leftB ts outs ins, n < ts.length := fun n hn => List.mem_range.mp (List.mem_filter.mp hn).1
theorem leftB_len (ts : List Tie) (outs ins : List Nat) : (leftB ts outs ins).length ≤ ts.length := by
  have := List.length_filter_le (fun n => !decide (n ∈ outs) && !decide (n ∈ ins)) (List.range ts.length)
  rw [List.length_range] at this
  exact this
theorem made_ok {Φ : Tab} {wf j : Nat} (hs : Fn Φ "_law_single" SSingle) (hp : Fn Φ "_law_plus" SLPlus) (hc : Fn Φ "_law_cost" SCost) (hj : Fn Φ "_law_joins" SJoins) (hr : ∀ i, j = i + 1 → Fn Φ "_law_made" (SMade i)) : SMade j (runD m__law_made Φ wf) := by
  intro m ts ends pr outs ins number H h6
  obtain ⟨φs, fs', ss⟩ := hs
  obtain ⟨φp, fp, sp⟩ := hp
  obtain ⟨φc, fc, sc⟩ := hc
  obtain ⟨φj, fj, sj⟩ := hj
  have WW := H.web
  have m7 := WW.m7
  have t64 := WW.t10
  have io := H.io
  have prb := H.prb
  have e100 : ∀ x ∈ ends, x < 100 := fun x hx => Nat.lt_of_lt_of_le (H.ends.1 x hx) m7
  have ew1 : ixD (webD m ts) (nD 1) = some (.tup (ts.map tieD)) := rfl
  have lt1 : uop .len (.tup (ts.map tieD)) = some (nD ts.length, .sh) := by simp [uop, items, nD]
  obtain ⟨X, hX⟩ : ∃ X : List Nat, X = if number % 4 = 1 then [] else ins := ⟨_, rfl⟩
  obtain ⟨fs, f1, f2, ks⟩ := ss m ts ends outs X H.ends.2 t64 H.pb
  have kc : φc [webD m ts, .lst (nsD ins)] = ok (nD (costN ts ins)) := sc m ts ins false (by omega) H.il
  have cb : costN ts ins < 2 ^ 80 := by
    have h1 := cost_lt H.pb H.il
    have h2 : ins.length * 2 ^ 64 ≤ 200 * 2 ^ 64 := Nat.mul_le_mul_right _ (by omega)
    exact Nat.lt_of_le_of_lt (Nat.le_trans h1 h2) (by decide)
  obtain ⟨L, hL⟩ : ∃ L, L = leftB ts outs ins := ⟨_, rfl⟩
  have Llt : ∀ n ∈ L, n < ts.length := by rw [hL]; exact leftB_lt
  have Llen : L.length ≤ ts.length := by rw [hL]; exact leftB_len _ _ _
  have kj : φj [webD m ts, .lst (nsD (L ++ ins)), .tup (nsD ends)] = ok (.bl (joinB m ts (L ++ ins) ends)) := sj m ts (L ++ ins) ends false true m7 WW.inw (fun n hn => by
    rcases List.mem_append.mp hn with h | h
    · exact Llt n h
    · exact H.il n h) H.ends.1 H.ends.2
  obtain ⟨u, l, l0, lu, ub, lb, kp⟩ := sp (fs.map (·.2)) false 65 (by rw [List.length_map]; exact f1) (by decide) (fun q hq => by
    obtain ⟨f, hf, rfl⟩ := List.mem_map.mp hq
    exact (f2 f hf).sm)
  obtain ⟨z, hz⟩ : ∃ z : Int, z = (pr : Int) - (costN ts ins : Nat) := ⟨_, rfl⟩
  obtain ⟨W, hW⟩ : ∃ W, W = webD m ts := ⟨_, rfl⟩
  obtain ⟨E, hE⟩ : ∃ E, E = D.tup (nsD ends) := ⟨_, rfl⟩
  obtain ⟨P, hP⟩ : ∃ P, P = nD pr := ⟨_, rfl⟩
  obtain ⟨O, hO⟩ : ∃ O, O = D.lst (nsD outs) := ⟨_, rfl⟩
  obtain ⟨I, hI⟩ : ∃ I, I = D.lst (nsD ins) := ⟨_, rfl⟩
  obtain ⟨A, hA⟩ : ∃ A, A = nD number := ⟨_, rfl⟩
  have es : bop .sub P (nD (costN ts ins)) = some (.int z, .sh) := by rw [hP, hz]; rfl
  have nno : ∀ n, cop .notin (nD n) O = some (!decide (n ∈ outs)) := fun n => by rw [hO]; exact notin_l _ _
  have nni : ∀ n, cop .notin (nD n) I = some (!decide (n ∈ ins)) := fun n => by rw [hI]; exact notin_l _ _
  have lO : uop .len O = some (nD outs.length, .sh) := by rw [hO]; simp [uop, items, nD, nsD]
  have lI : uop .len I = some (nD ins.length, .sh) := by rw [hI]; simp [uop, items, nD, nsD]
  have lL : uop .len (.lst (nsD L)) = some (nD L.length, .sh) := by simp [uop, items, nD, nsD]
  have aLI : bop .add (.lst (nsD L)) I = some (.lst (nsD (L ++ ins)), .fr) := by
    rw [hI]
    show (if _ then _ else _) = _
    rw [if_pos (by rw [nsD_len, nsD_len]; unfold top; omega)]
    simp [nsD]
  have q4 : bop .mod A (nD 4) = some (nD (number % 4), .sh) := by rw [hA]; exact bmod_n number 4 (by decide)
  rw [← hW] at ew1 kj kc ks
  rw [← hE] at kj ks
  rw [← hO] at ks
  rw [← hI] at kc
  have body : ∀ d, evB Φ wf m__law_made.body [.va W, .va E, .va P, .va O, .va I, .va A, .no, .no, .no, .no, .no, .no, .no, .no, .no] = ok (.rt d) → runD m__law_made Φ wf [W, E, P, O, I, A] = ok d := fun d h => rrt rfl h
  rw [← hW, ← hE, ← hP, ← hO, ← hI, ← hA]
  have st1 : evS Φ wf (.asg 6 false (.comp (.var 12) true [12] (.rng1 (.un .len (.ix (.var 0) (.kint 1)))) (.som q1__law_made) [12])) [.va W, .va E, .va P, .va O, .va I, .va A, .no, .no, .no, .no, .no, .no, .no, .no, .no] = ok (.nx [.va W, .va E, .va P, .va O, .va I, .va A, .va (.lst (nsD L)), .no, .no, .no, .no, .no, .no, .no, .no]) := by
    simp only [runD, evB, evS, evE, evA, evT, evAnd, evOr, evAndV, evOrV, evP, evI, mb_ok, mb_some, mb_er, op_some, keep_sh, keep_fr, blM_bl, intM_int, nerr_ok, Option.map_some, Option.bind_some, List.getElem?_cons_zero, List.getElem?_cons_succ, List.set_cons_zero, List.set_cons_succ, asgF, unpF, ownOf, appF, setAll, bindT, wipeR, List.length_cons, List.length_nil, List.map_cons, List.map_nil, List.replicate, List.cons_append, List.nil_append, if_true, Bool.false_eq_true, if_false, Nat.reduceAdd, Nat.reduceSub, Nat.zero_add, Nat.reduceEqDiff, Option.map_none, Nat.zero_le, Nat.reduceLT, Nat.reduceLeDiff, Bool.not_true, Bool.not_false, kN, ew1, lt1, intM_n]
    rw [if_pos (by omega)]
    simp only [mb_ok, range_ns]
    rw [if_pos (by rw [nsD_len, List.length_range]; unfold top; omega)]
    unfold nsD
    rw [compL_filt (g := nD) (p := fun n => !decide (n ∈ outs) && !decide (n ∈ ins)) (fun n _ => by
      simp only [runD, evB, evS, evE, evA, evT, evAnd, evOr, evAndV, evOrV, evP, evI, mb_ok, mb_some, mb_er, op_some, keep_sh, keep_fr, blM_bl, intM_int, nerr_ok, Option.map_some, Option.bind_some, List.getElem?_cons_zero, List.getElem?_cons_succ, List.set_cons_zero, List.set_cons_succ, asgF, unpF, ownOf, appF, setAll, bindT, wipeR, List.length_cons, List.length_nil, List.map_cons, List.map_nil, List.replicate, List.cons_append, List.nil_append, if_true, Bool.false_eq_true, if_false, Nat.reduceAdd, Nat.reduceSub, Nat.zero_add, Nat.reduceEqDiff, Option.map_none, Nat.zero_le, Nat.reduceLT, Nat.reduceLeDiff, Bool.not_true, Bool.not_false, q1__law_made, nno, nni]
      cases decide (n ∈ outs) <;> cases decide (n ∈ ins) <;> rfl)]
    rw [hL]
    rfl
  have st2 : evS Φ wf (.asg 7 false (.call "_law_single" (.cons (.var 0) (.cons (.var 1) (.cons (.var 3) (.cons (.ix (.lst (.cons (.var 4) (.cons (.lst .nil) .nil))) (.un .int (.cmp .eq (.bin .mod (.var 5) (.kint 4)) (.kint 1)))) .nil)))))) [.va W, .va E, .va P, .va O, .va I, .va A, .va (.lst (nsD L)), .no, .no, .no, .no, .no, .no, .no, .no] = ok (.nx [.va W, .va E, .va P, .va O, .va I, .va A, .va (.lst (nsD L)), .va (.tup (fnsD fs)), .no, .no, .no, .no, .no, .no, .no]) := by
    by_cases h : number % 4 = 1
    · have hb : (number % 4 == 1) = true := by simp [h]
      rw [if_pos h] at hX
      rw [hX] at ks
      have ks : φs [W, E, O, .lst []] = _ := ks
      simp only [runD, evB, evS, evE, evA, evT, evAnd, evOr, evAndV, evOrV, evP, evI, mb_ok, mb_some, mb_er, op_some, keep_sh, keep_fr, blM_bl, intM_int, nerr_ok, Option.map_some, Option.bind_some, List.getElem?_cons_zero, List.getElem?_cons_succ, List.set_cons_zero, List.set_cons_succ, asgF, unpF, ownOf, appF, setAll, bindT, wipeR, List.length_cons, List.length_nil, List.map_cons, List.map_nil, List.replicate, List.cons_append, List.nil_append, if_true, Bool.false_eq_true, if_false, Nat.reduceAdd, Nat.reduceSub, Nat.zero_add, Nat.reduceEqDiff, Option.map_none, Nat.zero_le, Nat.reduceLT, Nat.reduceLeDiff, Bool.not_true, Bool.not_false, kN, q4, cop_eqn, hb, uop_int_bl, top, ixl1, fs', ks]
    · have hb : (number % 4 == 1) = false := by simp [h]
      rw [if_neg h] at hX
      rw [hX, ← hI] at ks
      simp only [runD, evB, evS, evE, evA, evT, evAnd, evOr, evAndV, evOrV, evP, evI, mb_ok, mb_some, mb_er, op_some, keep_sh, keep_fr, blM_bl, intM_int, nerr_ok, Option.map_some, Option.bind_some, List.getElem?_cons_zero, List.getElem?_cons_succ, List.set_cons_zero, List.set_cons_succ, asgF, unpF, ownOf, appF, setAll, bindT, wipeR, List.length_cons, List.length_nil, List.map_cons, List.map_nil, List.replicate, List.cons_append, List.nil_append, if_true, Bool.false_eq_true, if_false, Nat.reduceAdd, Nat.reduceSub, Nat.zero_add, Nat.reduceEqDiff, Option.map_none, Nat.zero_le, Nat.reduceLT, Nat.reduceLeDiff, Bool.not_true, Bool.not_false, kN, q4, cop_eqn, hb, uop_int_bl, top, ixl0, fs', ks]
  have iF : items (.tup (fnsD fs)) = some (fs.map fnD) := rfl
  have st3 : evS Φ wf (.unp [10, 11] (.call "_law_plus" (.cons (.comp (.var 14) false [13, 14] (.walk (.var 7)) .knon [13, 14]) .nil))) [.va W, .va E, .va P, .va O, .va I, .va A, .va (.lst (nsD L)), .va (.tup (fnsD fs)), .no, .no, .no, .no, .no, .no, .no] = ok (.nx [.va W, .va E, .va P, .va O, .va I, .va A, .va (.lst (nsD L)), .va (.tup (fnsD fs)), .no, .no, .va (.int u), .va (nD l), .no, .no, .no]) := by
    simp only [runD, evB, evS, evE, evA, evT, evAnd, evOr, evAndV, evOrV, evP, evI, mb_ok, mb_some, mb_er, op_some, keep_sh, keep_fr, blM_bl, intM_int, nerr_ok, Option.map_some, Option.bind_some, List.getElem?_cons_zero, List.getElem?_cons_succ, List.set_cons_zero, List.set_cons_succ, asgF, unpF, ownOf, appF, setAll, bindT, wipeR, List.length_cons, List.length_nil, List.map_cons, List.map_nil, List.replicate, List.cons_append, List.nil_append, if_true, Bool.false_eq_true, if_false, Nat.reduceAdd, Nat.reduceSub, Nat.zero_add, Nat.reduceEqDiff, Option.map_none, Nat.zero_le, Nat.reduceLT, Nat.reduceLeDiff, Bool.not_true, Bool.not_false, fp, iF]
    rw [if_pos (by rw [List.length_map]; unfold top; omega), compL_map (g := fun f : Fence => frD f.2) (fun f _ => by
      have : fnD f = .tup [.tup (nsD f.1), frD f.2] := rfl
      rw [this]
      simp only [runD, evB, evS, evE, evA, evT, evAnd, evOr, evAndV, evOrV, evP, evI, mb_ok, mb_some, mb_er, op_some, keep_sh, keep_fr, blM_bl, intM_int, nerr_ok, Option.map_some, Option.bind_some, List.getElem?_cons_zero, List.getElem?_cons_succ, List.set_cons_zero, List.set_cons_succ, asgF, unpF, ownOf, appF, setAll, bindT, wipeR, List.length_cons, List.length_nil, List.map_cons, List.map_nil, List.replicate, List.cons_append, List.nil_append, if_true, Bool.false_eq_true, if_false, Nat.reduceAdd, Nat.reduceSub, Nat.zero_add, Nat.reduceEqDiff, Option.map_none, Nat.zero_le, Nat.reduceLT, Nat.reduceLeDiff, Bool.not_true, Bool.not_false])]
    have : fs.map (fun f : Fence => frD f.2) = (fs.map (·.2)).map frD := by rw [List.map_map]; rfl
    rw [this]
    have kp : φp [.lst ((fs.map (·.2)).map frD)] = _ := kp
    simp only [runD, evB, evS, evE, evA, evT, evAnd, evOr, evAndV, evOrV, evP, evI, mb_ok, mb_some, mb_er, op_some, keep_sh, keep_fr, blM_bl, intM_int, nerr_ok, Option.map_some, Option.bind_some, List.getElem?_cons_zero, List.getElem?_cons_succ, List.set_cons_zero, List.set_cons_succ, asgF, unpF, ownOf, appF, setAll, bindT, wipeR, List.length_cons, List.length_nil, List.map_cons, List.map_nil, List.replicate, List.cons_append, List.nil_append, if_true, Bool.false_eq_true, if_false, Nat.reduceAdd, Nat.reduceSub, Nat.zero_add, Nat.reduceEqDiff, Option.map_none, Nat.zero_le, Nat.reduceLT, Nat.reduceLeDiff, Bool.not_true, Bool.not_false, kp]
  have em : bop .mul (.int z) (nD l) = some (.int (z * (l : Int)), .sh) := mul_i (a := z) (b := (l : Int)) (k := 81) (j := 7000) (by omega) (by rw [Int.natAbs_natCast]; exact lb) (by decide)
  have eg : cop .ge (.int u) (.int (z * (l : Int))) = some (decide (z * (l : Int) ≤ u)) := rfl
  have tF := fences_tk f1 e100 f2
  have oka : PyData.strOk ("apart" : Str) = true := by decide +kernel
  have okf : PyData.strOk ("fences" : Str) = true := by decide +kernel
  have okc : PyData.strOk ("cases" : Str) = true := by decide +kernel
  by_cases c1 : z * (l : Int) ≤ u
  · refine ⟨.tup [.str ("fences" : Str), .tup (fnsD fs)], (Tk.tup (by simp) fun x hx => ?_ : Tk 70 (3 + 1) _).mono (by omega), body _ ?_⟩
    · simp only [List.mem_cons, List.not_mem_nil, or_false] at hx
      rcases hx with rfl | rfl
      · exact (tk_str okf).mono (by omega)
      · exact tF
    · simp only [m__law_made]
      rw [bnx st1, bnx st2, bnx st3]
      refine brt ?_
      simp only [runD, evB, evS, evE, evA, evT, evAnd, evOr, evAndV, evOrV, evP, evI, mb_ok, mb_some, mb_er, op_some, keep_sh, keep_fr, blM_bl, intM_int, nerr_ok, Option.map_some, Option.bind_some, List.getElem?_cons_zero, List.getElem?_cons_succ, List.set_cons_zero, List.set_cons_succ, asgF, unpF, ownOf, appF, setAll, bindT, wipeR, List.length_cons, List.length_nil, List.map_cons, List.map_nil, List.replicate, List.cons_append, List.nil_append, if_true, Bool.false_eq_true, if_false, Nat.reduceAdd, Nat.reduceSub, Nat.zero_add, Nat.reduceEqDiff, Option.map_none, Nat.zero_le, Nat.reduceLT, Nat.reduceLeDiff, Bool.not_true, Bool.not_false, fc, kc, es, em, eg, c1, decide_true, top]
  · cases c2 : joinB m ts (L ++ ins) ends with
    | false =>
      rw [c2] at kj
      refine ⟨.tup [.str ("apart" : Str)], (Tk.tup (by simp) fun x hx => ?_ : Tk 70 (0 + 1) _).mono (by omega), body _ ?_⟩
      · rw [List.mem_singleton.mp hx]
        exact tk_str oka
      · simp only [m__law_made]
        rw [bnx st1, bnx st2, bnx st3]
        rw [bnx (ρ' := [.va W, .va E, .va P, .va O, .va I, .va A, .va (.lst (nsD L)), .va (.tup (fnsD fs)), .no, .no, .va (.int u), .va (nD l), .no, .no, .no]) (by simp only [runD, evB, evS, evE, evA, evT, evAnd, evOr, evAndV, evOrV, evP, evI, mb_ok, mb_some, mb_er, op_some, keep_sh, keep_fr, blM_bl, intM_int, nerr_ok, Option.map_some, Option.bind_some, List.getElem?_cons_zero, List.getElem?_cons_succ, List.set_cons_zero, List.set_cons_succ, asgF, unpF, ownOf, appF, setAll, bindT, wipeR, List.length_cons, List.length_nil, List.map_cons, List.map_nil, List.replicate, List.cons_append, List.nil_append, if_true, Bool.false_eq_true, if_false, Nat.reduceAdd, Nat.reduceSub, Nat.zero_add, Nat.reduceEqDiff, Option.map_none, Nat.zero_le, Nat.reduceLT, Nat.reduceLeDiff, Bool.not_true, Bool.not_false, fc, kc, es, em, eg, c1, decide_false])]
        refine brt ?_
        simp only [runD, evB, evS, evE, evA, evT, evAnd, evOr, evAndV, evOrV, evP, evI, mb_ok, mb_some, mb_er, op_some, keep_sh, keep_fr, blM_bl, intM_int, nerr_ok, Option.map_some, Option.bind_some, List.getElem?_cons_zero, List.getElem?_cons_succ, List.set_cons_zero, List.set_cons_succ, asgF, unpF, ownOf, appF, setAll, bindT, wipeR, List.length_cons, List.length_nil, List.map_cons, List.map_nil, List.replicate, List.cons_append, List.nil_append, if_true, Bool.false_eq_true, if_false, Nat.reduceAdd, Nat.reduceSub, Nat.zero_add, Nat.reduceEqDiff, Option.map_none, Nat.zero_le, Nat.reduceLT, Nat.reduceLeDiff, Bool.not_true, Bool.not_false, aLI, fj, kj, top]
    | true =>
      rw [c2] at kj
      by_cases c3 : L = [] ∨ 5 < outs.length + ins.length
      · refine ⟨.tup [.str ("fences" : Str), .tup []], (Tk.tup (by simp) fun x hx => ?_ : Tk 70 (1 + 1) _).mono (by omega), body _ ?_⟩
        · simp only [List.mem_cons, List.not_mem_nil, or_false] at hx
          rcases hx with rfl | rfl
          · exact (tk_str okf).mono (by omega)
          · exact (Tk.tup (k := 0) (by simp) fun x hx => by cases hx)
        · simp only [m__law_made]
          rw [bnx st1, bnx st2, bnx st3]
          rw [bnx (ρ' := [.va W, .va E, .va P, .va O, .va I, .va A, .va (.lst (nsD L)), .va (.tup (fnsD fs)), .no, .no, .va (.int u), .va (nD l), .no, .no, .no]) (by simp only [runD, evB, evS, evE, evA, evT, evAnd, evOr, evAndV, evOrV, evP, evI, mb_ok, mb_some, mb_er, op_some, keep_sh, keep_fr, blM_bl, intM_int, nerr_ok, Option.map_some, Option.bind_some, List.getElem?_cons_zero, List.getElem?_cons_succ, List.set_cons_zero, List.set_cons_succ, asgF, unpF, ownOf, appF, setAll, bindT, wipeR, List.length_cons, List.length_nil, List.map_cons, List.map_nil, List.replicate, List.cons_append, List.nil_append, if_true, Bool.false_eq_true, if_false, Nat.reduceAdd, Nat.reduceSub, Nat.zero_add, Nat.reduceEqDiff, Option.map_none, Nat.zero_le, Nat.reduceLT, Nat.reduceLeDiff, Bool.not_true, Bool.not_false, fc, kc, es, em, eg, c1, decide_false])]
          rw [bnx (ρ' := [.va W, .va E, .va P, .va O, .va I, .va A, .va (.lst (nsD L)), .va (.tup (fnsD fs)), .no, .no, .va (.int u), .va (nD l), .no, .no, .no]) (by simp only [runD, evB, evS, evE, evA, evT, evAnd, evOr, evAndV, evOrV, evP, evI, mb_ok, mb_some, mb_er, op_some, keep_sh, keep_fr, blM_bl, intM_int, nerr_ok, Option.map_some, Option.bind_some, List.getElem?_cons_zero, List.getElem?_cons_succ, List.set_cons_zero, List.set_cons_succ, asgF, unpF, ownOf, appF, setAll, bindT, wipeR, List.length_cons, List.length_nil, List.map_cons, List.map_nil, List.replicate, List.cons_append, List.nil_append, if_true, Bool.false_eq_true, if_false, Nat.reduceAdd, Nat.reduceSub, Nat.zero_add, Nat.reduceEqDiff, Option.map_none, Nat.zero_le, Nat.reduceLT, Nat.reduceLeDiff, Bool.not_true, Bool.not_false, aLI, fj, kj])]
          refine brt ?_
          cases c4 : (L == []) with
          | true => simp only [runD, evB, evS, evE, evA, evT, evAnd, evOr, evAndV, evOrV, evP, evI, mb_ok, mb_some, mb_er, op_some, keep_sh, keep_fr, blM_bl, intM_int, nerr_ok, Option.map_some, Option.bind_some, List.getElem?_cons_zero, List.getElem?_cons_succ, List.set_cons_zero, List.set_cons_succ, asgF, unpF, ownOf, appF, setAll, bindT, wipeR, List.length_cons, List.length_nil, List.map_cons, List.map_nil, List.replicate, List.cons_append, List.nil_append, if_true, Bool.false_eq_true, if_false, Nat.reduceAdd, Nat.reduceSub, Nat.zero_add, Nat.reduceEqDiff, Option.map_none, Nat.zero_le, Nat.reduceLT, Nat.reduceLeDiff, Bool.not_true, Bool.not_false, cop_eq0, c4, top]
          | false =>
            have c5 : 5 < outs.length + ins.length := by
              rcases c3 with h | h
              · rw [h] at c4; cases c4
              · exact h
            simp only [runD, evB, evS, evE, evA, evT, evAnd, evOr, evAndV, evOrV, evP, evI, mb_ok, mb_some, mb_er, op_some, keep_sh, keep_fr, blM_bl, intM_int, nerr_ok, Option.map_some, Option.bind_some, List.getElem?_cons_zero, List.getElem?_cons_succ, List.set_cons_zero, List.set_cons_succ, asgF, unpF, ownOf, appF, setAll, bindT, wipeR, List.length_cons, List.length_nil, List.map_cons, List.map_nil, List.replicate, List.cons_append, List.nil_append, if_true, Bool.false_eq_true, if_false, Nat.reduceAdd, Nat.reduceSub, Nat.zero_add, Nat.reduceEqDiff, Option.map_none, Nat.zero_le, Nat.reduceLT, Nat.reduceLeDiff, Bool.not_true, Bool.not_false, cop_eq0, c4, top, lO, lI, badd_n, kN, cop_gtn, c5, decide_true]
      · have c4 : (L == []) = false := by
          cases hL2 : L with
          | nil => exact absurd (.inl hL2) c3
          | cons _ _ => rfl
        have c5 : ¬ 5 < outs.length + ins.length := fun h => c3 (.inr h)
        have Lpos : 0 < L.length := by
          cases hL2 : L with
          | nil => exact absurd (.inl hL2) c3
          | cons _ _ => simp
        obtain ⟨i, rfl⟩ : ∃ i, j = i + 1 := ⟨j - 1, by omega⟩
        obtain ⟨φr, fr, sr⟩ := hr i rfl
        obtain ⟨r, hr2⟩ : ∃ r, r = number % L.length := ⟨_, rfl⟩
        have rl : r < L.length := by rw [hr2]; exact Nat.mod_lt _ Lpos
        obtain ⟨n, hn⟩ : ∃ n, n = L.getD r 0 := ⟨_, rfl⟩
        have eix : ixD (.lst (nsD L)) (nD r) = some (nD n) := by rw [hn]; exact ix_nsl rl
        have nl : n < ts.length := by
          rw [hn, List.getD_eq_getElem?_getD, List.getElem?_eq_getElem rl]
          exact Llt _ (List.getElem_mem rl)
        have em2 : bop .mod A (nD L.length) = some (nD r, .sh) := by rw [hA, hr2]; exact bmod_n number L.length Lpos
        obtain ⟨H1, H2⟩ := H.fewer nl
        obtain ⟨d1, t1, k1⟩ := sr m ts ends pr (outs ++ [n]) ins (number / 3) H1 (by simp; omega)
        obtain ⟨d2, t2, k2⟩ := sr m ts ends pr outs (ins ++ [n]) (number / 5) H2 (by simp; omega)
        rw [← hW, ← hE, ← hP, ← hI] at k1
        rw [← hW, ← hE, ← hP, ← hO] at k2
        have a1 : bop .add O (.lst [nD n]) = some (.lst (nsD (outs ++ [n])), .fr) := by
          rw [hO]
          show (if _ then _ else _) = _
          rw [if_pos (by rw [nsD_len]; simp [top]; omega)]
          simp [nsD, nD]
        have a2 : bop .add I (.lst [nD n]) = some (.lst (nsD (ins ++ [n])), .fr) := by
          rw [hI]
          show (if _ then _ else _) = _
          rw [if_pos (by rw [nsD_len]; simp [top]; omega)]
          simp [nsD, nD]
        have d3 : bop .fdiv A (nD 3) = some (nD (number / 3), .sh) := by rw [hA]; exact bdiv_n number 3 (by decide) (by decide)
        have d5 : bop .fdiv A (nD 5) = some (nD (number / 5), .sh) := by rw [hA]; exact bdiv_n number 5 (by decide) (by decide)
        refine ⟨.tup [.str ("cases" : Str), nD n, d1, d2], (Tk.tup (by simp) fun x hx => ?_ : Tk 70 ((i + 5) + 1) _).mono (by omega), body _ ?_⟩
        · simp only [List.mem_cons, List.not_mem_nil, or_false] at hx
          rcases hx with rfl | rfl | rfl | rfl
          · exact (tk_str okc).mono (by omega)
          · exact (tk_n (Nat.lt_trans (Nat.lt_trans nl t64) (by decide))).mono (by omega)
          · exact t1
          · exact t2
        · simp only [m__law_made]
          rw [bnx st1, bnx st2, bnx st3]
          rw [bnx (ρ' := [.va W, .va E, .va P, .va O, .va I, .va A, .va (.lst (nsD L)), .va (.tup (fnsD fs)), .no, .no, .va (.int u), .va (nD l), .no, .no, .no]) (by simp only [runD, evB, evS, evE, evA, evT, evAnd, evOr, evAndV, evOrV, evP, evI, mb_ok, mb_some, mb_er, op_some, keep_sh, keep_fr, blM_bl, intM_int, nerr_ok, Option.map_some, Option.bind_some, List.getElem?_cons_zero, List.getElem?_cons_succ, List.set_cons_zero, List.set_cons_succ, asgF, unpF, ownOf, appF, setAll, bindT, wipeR, List.length_cons, List.length_nil, List.map_cons, List.map_nil, List.replicate, List.cons_append, List.nil_append, if_true, Bool.false_eq_true, if_false, Nat.reduceAdd, Nat.reduceSub, Nat.zero_add, Nat.reduceEqDiff, Option.map_none, Nat.zero_le, Nat.reduceLT, Nat.reduceLeDiff, Bool.not_true, Bool.not_false, fc, kc, es, em, eg, c1, decide_false])]
          rw [bnx (ρ' := [.va W, .va E, .va P, .va O, .va I, .va A, .va (.lst (nsD L)), .va (.tup (fnsD fs)), .no, .no, .va (.int u), .va (nD l), .no, .no, .no]) (by simp only [runD, evB, evS, evE, evA, evT, evAnd, evOr, evAndV, evOrV, evP, evI, mb_ok, mb_some, mb_er, op_some, keep_sh, keep_fr, blM_bl, intM_int, nerr_ok, Option.map_some, Option.bind_some, List.getElem?_cons_zero, List.getElem?_cons_succ, List.set_cons_zero, List.set_cons_succ, asgF, unpF, ownOf, appF, setAll, bindT, wipeR, List.length_cons, List.length_nil, List.map_cons, List.map_nil, List.replicate, List.cons_append, List.nil_append, if_true, Bool.false_eq_true, if_false, Nat.reduceAdd, Nat.reduceSub, Nat.zero_add, Nat.reduceEqDiff, Option.map_none, Nat.zero_le, Nat.reduceLT, Nat.reduceLeDiff, Bool.not_true, Bool.not_false, aLI, fj, kj])]
          rw [bnx (ρ' := [.va W, .va E, .va P, .va O, .va I, .va A, .va (.lst (nsD L)), .va (.tup (fnsD fs)), .no, .no, .va (.int u), .va (nD l), .no, .no, .no]) (by simp only [runD, evB, evS, evE, evA, evT, evAnd, evOr, evAndV, evOrV, evP, evI, mb_ok, mb_some, mb_er, op_some, keep_sh, keep_fr, blM_bl, intM_int, nerr_ok, Option.map_some, Option.bind_some, List.getElem?_cons_zero, List.getElem?_cons_succ, List.set_cons_zero, List.set_cons_succ, asgF, unpF, ownOf, appF, setAll, bindT, wipeR, List.length_cons, List.length_nil, List.map_cons, List.map_nil, List.replicate, List.cons_append, List.nil_append, if_true, Bool.false_eq_true, if_false, Nat.reduceAdd, Nat.reduceSub, Nat.zero_add, Nat.reduceEqDiff, Option.map_none, Nat.zero_le, Nat.reduceLT, Nat.reduceLeDiff, Bool.not_true, Bool.not_false, cop_eq0, c4, top, lO, lI, badd_n, kN, cop_gtn, c5, decide_false])]
          rw [bnx (ρ' := [.va W, .va E, .va P, .va O, .va I, .va A, .va (.lst (nsD L)), .va (.tup (fnsD fs)), .va (nD n), .no, .va (.int u), .va (nD l), .no, .no, .no]) (by simp only [runD, evB, evS, evE, evA, evT, evAnd, evOr, evAndV, evOrV, evP, evI, mb_ok, mb_some, mb_er, op_some, keep_sh, keep_fr, blM_bl, intM_int, nerr_ok, Option.map_some, Option.bind_some, List.getElem?_cons_zero, List.getElem?_cons_succ, List.set_cons_zero, List.set_cons_succ, asgF, unpF, ownOf, appF, setAll, bindT, wipeR, List.length_cons, List.length_nil, List.map_cons, List.map_nil, List.replicate, List.cons_append, List.nil_append, if_true, Bool.false_eq_true, if_false, Nat.reduceAdd, Nat.reduceSub, Nat.zero_add, Nat.reduceEqDiff, Option.map_none, Nat.zero_le, Nat.reduceLT, Nat.reduceLeDiff, Bool.not_true, Bool.not_false, lL, em2, eix])]
          rw [bnx (ρ' := [.va W, .va E, .va P, .va O, .va I, .va A, .va (.lst (nsD L)), .va (.tup (fnsD fs)), .va (nD n), .va d1, .va (.int u), .va (nD l), .no, .no, .no]) (by simp only [runD, evB, evS, evE, evA, evT, evAnd, evOr, evAndV, evOrV, evP, evI, mb_ok, mb_some, mb_er, op_some, keep_sh, keep_fr, blM_bl, intM_int, nerr_ok, Option.map_some, Option.bind_some, List.getElem?_cons_zero, List.getElem?_cons_succ, List.set_cons_zero, List.set_cons_succ, asgF, unpF, ownOf, appF, setAll, bindT, wipeR, List.length_cons, List.length_nil, List.map_cons, List.map_nil, List.replicate, List.cons_append, List.nil_append, if_true, Bool.false_eq_true, if_false, Nat.reduceAdd, Nat.reduceSub, Nat.zero_add, Nat.reduceEqDiff, Option.map_none, Nat.zero_le, Nat.reduceLT, Nat.reduceLeDiff, Bool.not_true, Bool.not_false, top, a1, kN, d3, fr, k1])]
          refine brt ?_
          simp only [runD, evB, evS, evE, evA, evT, evAnd, evOr, evAndV, evOrV, evP, evI, mb_ok, mb_some, mb_er, op_some, keep_sh, keep_fr, blM_bl, intM_int, nerr_ok, Option.map_some, Option.bind_some, List.getElem?_cons_zero, List.getElem?_cons_succ, List.set_cons_zero, List.set_cons_succ, asgF, unpF, ownOf, appF, setAll, bindT, wipeR, List.length_cons, List.length_nil, List.map_cons, List.map_nil, List.replicate, List.cons_append, List.nil_append, if_true, Bool.false_eq_true, if_false, Nat.reduceAdd, Nat.reduceSub, Nat.zero_add, Nat.reduceEqDiff, Option.map_none, Nat.zero_le, Nat.reduceLT, Nat.reduceLeDiff, Bool.not_true, Bool.not_false, top, a2, kN, d5, fr, k2]
end J

set_option Elab.async false
set_option linter.all false
set_option maxRecDepth 100000
set_option maxHeartbeats 4000000
/-! law k41 -/
namespace J
open PySem PV
theorem law41 {Φ : Tab} {wf : Nat} (hmx : Fn Φ "_law_mixed" SMixed) (hwb : Fn Φ "_law_web" SWebD) (hen : Fn Φ "_law_ends" SEnds) (hle : Fn Φ "_law_least" SLeast) (hma : Fn Φ "_law_made" (SMade 6)) (hip : Fn Φ "is_paper" (SIsPaper 11)) (hlp : Fn Φ "_law_is_paper" (SPaper 11))
    (b0 : Bool) (ns : List Int) : runD m_law Φ wf [scrD b0 ns] = ok (.bl true) := by
  obtain ⟨φm, fm, sm⟩ := hmx
  obtain ⟨φw, fw, sw⟩ := hwb
  obtain ⟨φe, fe, se⟩ := hen
  obtain ⟨φl, fl, sl⟩ := hle
  obtain ⟨φa, fa, sa⟩ := hma
  obtain ⟨φi, fi, si⟩ := hip
  obtain ⟨φp, fp, sp⟩ := hlp
  obtain ⟨n0, n0b, en0⟩ := sm b0 ns 0 (by decide)
  obtain ⟨n1, n1b, en1⟩ := sm b0 ns 1 (by decide)
  obtain ⟨n2, n2b, en2⟩ := sm b0 ns 2 (by decide)
  obtain ⟨n3, n3b, en3⟩ := sm b0 ns 3 (by decide)
  obtain ⟨m, ts, W, ew⟩ := sw n0 n0b
  have m7 := W.m7
  have m0 := W.m0
  have t10 := W.t10
  have WW := W.web
  obtain ⟨ends, E, ee⟩ := se n1 m ts 5 n1b m0 (by decide) (by decide)
  have el : ends.length ≤ m := rise_len E.up E.lt
  have EE := E.ends (m := m) (by omega)
  have k1 := sl m ts ends WW EE (by omega)
  rw [lc_web WW.inw E.lt] at k1
  obtain ⟨x, hx⟩ : ∃ x, x = lc ts ends := ⟨_, rfl⟩
  rw [← hx] at k1
  have pb : ∀ n, n < ts.length → price ts n < 100 := fun n hn => (W.good (tieAt ts n) (tie_mem hn)).2.2
  have key : ∀ l : List Nat, (∀ n ∈ l, n < ts.length) → costN ts l ≤ 100 * l.length := by
    intro l
    induction l with
    | nil => intro _; exact Nat.le_refl _
    | cons n l ih =>
      intro hl
      have ih := ih fun k hk => hl k (List.mem_cons_of_mem _ hk)
      have := pb n (hl n List.mem_cons_self)
      rw [costN_cons, List.length_cons]
      omega
  have xb : ∀ c, x = some c → c ≤ 1000 ∧ ∃ s : List Nat, (∀ n ∈ s, n < ts.length) ∧ Joins ts s ends ∧ costN ts s = c := fun c hc => by
    rw [hx] at hc
    obtain ⟨s, su, s1, s2, s3⟩ := lc_met hc
    have slen := rise_len su s1
    have := key s s1
    exact ⟨by omega, s, s1, s2, s3⟩
  obtain ⟨S, hS⟩ : ∃ S, S = scrD b0 ns := ⟨_, rfl⟩
  obtain ⟨G, hG⟩ : ∃ G, G = D.tup (nsD ends) := ⟨_, rfl⟩
  obtain ⟨V, hV⟩ : ∃ V, V = webD m ts := ⟨_, rfl⟩
  obtain ⟨X, hX⟩ : ∃ X, X = optD x := ⟨_, rfl⟩
  have i1 : cop .isN X .non = some x.isNone := by rw [hX]; exact cop_isNo x
  have i2 : cop .notN X .non = some x.isSome := by rw [hX]; exact cop_notNo x
  -- the price
  have price : ∃ pr : Nat, pr < 2000 ∧ (evS Φ wf (.ife (.cmp .notN (.var 3) .knon) (.seq (.asg 5 false (.mm true (.kint 0) (.bin .add (.bin .sub (.var 3) (.bin .fdiv (.bin .mod (.var 4) (.kint 12)) (.kint 3))) (.kint 1)))) .nil) .nil) [.va S, .va V, .va G, .va X, .va (nD n2), .va (nD (n2 % 12)), .no, .no] = ok (.nx [.va S, .va V, .va G, .va X, .va (nD n2), .va (nD pr), .no, .no])) := by
    have b12 : bop .mod (nD n2) (nD 12) = some (nD (n2 % 12), .sh) := bmod_n n2 12 (by decide)
    have b3 : bop .fdiv (nD (n2 % 12)) (nD 3) = some (nD (n2 % 12 / 3), .sh) := bdiv_n _ 3 (by decide) (by decide)
    cases hx2 : x with
    | none =>
      rw [hx2] at i2
      have i2 : cop .notN X .non = some false := i2
      exact ⟨n2 % 12, by omega, by simp only [runD, evB, evS, evE, evA, evT, evAnd, evOr, evAndV, evOrV, evP, evI, mb_ok, mb_some, mb_er, op_some, keep_sh, keep_fr, blM_bl, intM_int, nerr_ok, Option.map_some, Option.bind_some, List.getElem?_cons_zero, List.getElem?_cons_succ, List.set_cons_zero, List.set_cons_succ, asgF, unpF, ownOf, appF, setAll, bindT, wipeR, List.length_cons, List.length_nil, List.map_cons, List.map_nil, List.replicate, List.cons_append, List.nil_append, if_true, Bool.false_eq_true, if_false, Nat.reduceAdd, Nat.reduceSub, Nat.zero_add, Nat.reduceEqDiff, Option.map_none, Nat.zero_le, Nat.reduceLT, Nat.reduceLeDiff, Bool.not_true, Bool.not_false, i2]⟩
    | some c =>
      have cb := (xb c hx2).1
      rw [hx2] at i2 hX
      have i2 : cop .notN X .non = some true := i2
      obtain ⟨z, hz⟩ : ∃ z : Int, z = (c : Int) - ((n2 % 12 / 3 : Nat) : Int) := ⟨_, rfl⟩
      have b4 : bop .sub X (nD (n2 % 12 / 3)) = some (.int z, .sh) := by rw [hX, hz]; rfl
      have b5 : bop .add (.int z) (nD 1) = some (.int (z + 1), .sh) := rfl
      have b6 : mmD true (nD 0) (.int (z + 1)) = some (nD (z + 1).toNat) := by
        simp only [mmD, nD]
        by_cases h : z + 1 ≤ 0
        · have e : (z + 1).toNat = 0 := by omega
          rw [e]
          simp
          omega
        · have e : ((z + 1).toNat : Int) = z + 1 := by omega
          rw [e]
          simp
          omega
      refine ⟨(z + 1).toNat, by omega, ?_⟩
      simp only [runD, evB, evS, evE, evA, evT, evAnd, evOr, evAndV, evOrV, evP, evI, mb_ok, mb_some, mb_er, op_some, keep_sh, keep_fr, blM_bl, intM_int, nerr_ok, Option.map_some, Option.bind_some, List.getElem?_cons_zero, List.getElem?_cons_succ, List.set_cons_zero, List.set_cons_succ, asgF, unpF, ownOf, appF, setAll, bindT, wipeR, List.length_cons, List.length_nil, List.map_cons, List.map_nil, List.replicate, List.cons_append, List.nil_append, if_true, Bool.false_eq_true, if_false, Nat.reduceAdd, Nat.reduceSub, Nat.zero_add, Nat.reduceEqDiff, Option.map_none, Nat.zero_le, Nat.reduceLT, Nat.reduceLeDiff, Bool.not_true, Bool.not_false, i2, kN, b12, b3, b4, b5, b6]
  obtain ⟨pr, prb, st5⟩ := price
  have PH : ∀ j, j ≤ 200 → PapH m ts ends pr [] [] j := fun j hj => ⟨WW, EE, fun n hn => Nat.lt_trans (pb n hn) (by decide), Nat.lt_trans prb (by decide), (fun n hn => by cases hn), (fun n hn => by cases hn), by simpa using hj⟩
  obtain ⟨d, td, k6⟩ := sa m ts ends pr [] [] n3 (PH 6 (by decide)) (by simp)
  have tm := td.tm (by decide)
  have dd : D.dep d ≤ 11 := td.2.2
  have k7 := si m ts ends pr d 70 (PH 11 (by decide)) tm (by decide) dd
  have k8 := sp m ts ends pr [] [] d 70 (PH 11 (by decide)) tm (by decide) dd
  obtain ⟨v, hv⟩ : ∃ v, v = isPap m ts ends pr 11 [] [] d := ⟨_, rfl⟩
  rw [← hv] at k7 k8
  rw [← hV] at ew k1 ee k6 k7 k8
  rw [← hG] at ee k1 k6 k7 k8
  rw [← hX] at k1
  rw [← hS] at en0 en1 en2 en3
  have k6 : φa [V, G, nD pr, .lst [], .lst [], nD n3] = ok d := k6
  have k8 : φp [V, G, nD pr, .lst [], .lst [], d] = ok (.bl v) := k8
  have sound : ∀ c, x = some c → c < pr → v = false := fun c hc hp => by
    cases hv2 : v with
    | false => rfl
    | true =>
      rw [hv2] at hv
      obtain ⟨_, s, s1, s2, s3⟩ := xb c hc
      have := pap_sound WW.inw E.lt 11 [] [] d hv.symm s s1 s2 (fun n _ h => by cases h) (fun n h => by cases h) List.nodup_nil
      omega
  refine rrt rfl ?_
  rw [← hS]
  show evB Φ wf m_law.body [.va S, .no, .no, .no, .no, .no, .no, .no] = _
  simp only [m_law]
  refine (bnx (ρ' := [.va S, .va V, .no, .no, .no, .no, .no, .no]) (by simp only [runD, evB, evS, evE, evA, evT, evAnd, evOr, evAndV, evOrV, evP, evI, mb_ok, mb_some, mb_er, op_some, keep_sh, keep_fr, blM_bl, intM_int, nerr_ok, Option.map_some, Option.bind_some, List.getElem?_cons_zero, List.getElem?_cons_succ, List.set_cons_zero, List.set_cons_succ, asgF, unpF, ownOf, appF, setAll, bindT, wipeR, List.length_cons, List.length_nil, List.map_cons, List.map_nil, List.replicate, List.cons_append, List.nil_append, if_true, Bool.false_eq_true, if_false, Nat.reduceAdd, Nat.reduceSub, Nat.zero_add, Nat.reduceEqDiff, Option.map_none, Nat.zero_le, Nat.reduceLT, Nat.reduceLeDiff, Bool.not_true, Bool.not_false, kN, fm, fw, en0, ew])).trans ?_
  refine (bnx (ρ' := [.va S, .va V, .va G, .no, .no, .no, .no, .no]) (by simp only [runD, evB, evS, evE, evA, evT, evAnd, evOr, evAndV, evOrV, evP, evI, mb_ok, mb_some, mb_er, op_some, keep_sh, keep_fr, blM_bl, intM_int, nerr_ok, Option.map_some, Option.bind_some, List.getElem?_cons_zero, List.getElem?_cons_succ, List.set_cons_zero, List.set_cons_succ, asgF, unpF, ownOf, appF, setAll, bindT, wipeR, List.length_cons, List.length_nil, List.map_cons, List.map_nil, List.replicate, List.cons_append, List.nil_append, if_true, Bool.false_eq_true, if_false, Nat.reduceAdd, Nat.reduceSub, Nat.zero_add, Nat.reduceEqDiff, Option.map_none, Nat.zero_le, Nat.reduceLT, Nat.reduceLeDiff, Bool.not_true, Bool.not_false, kN, fm, fe, en1, ee])).trans ?_
  refine (bnx (ρ' := [.va S, .va V, .va G, .va X, .no, .no, .no, .no]) (by simp only [runD, evB, evS, evE, evA, evT, evAnd, evOr, evAndV, evOrV, evP, evI, mb_ok, mb_some, mb_er, op_some, keep_sh, keep_fr, blM_bl, intM_int, nerr_ok, Option.map_some, Option.bind_some, List.getElem?_cons_zero, List.getElem?_cons_succ, List.set_cons_zero, List.set_cons_succ, asgF, unpF, ownOf, appF, setAll, bindT, wipeR, List.length_cons, List.length_nil, List.map_cons, List.map_nil, List.replicate, List.cons_append, List.nil_append, if_true, Bool.false_eq_true, if_false, Nat.reduceAdd, Nat.reduceSub, Nat.zero_add, Nat.reduceEqDiff, Option.map_none, Nat.zero_le, Nat.reduceLT, Nat.reduceLeDiff, Bool.not_true, Bool.not_false, fl, k1])).trans ?_
  refine (bnx (ρ' := [.va S, .va V, .va G, .va X, .va (nD n2), .no, .no, .no]) (by simp only [runD, evB, evS, evE, evA, evT, evAnd, evOr, evAndV, evOrV, evP, evI, mb_ok, mb_some, mb_er, op_some, keep_sh, keep_fr, blM_bl, intM_int, nerr_ok, Option.map_some, Option.bind_some, List.getElem?_cons_zero, List.getElem?_cons_succ, List.set_cons_zero, List.set_cons_succ, asgF, unpF, ownOf, appF, setAll, bindT, wipeR, List.length_cons, List.length_nil, List.map_cons, List.map_nil, List.replicate, List.cons_append, List.nil_append, if_true, Bool.false_eq_true, if_false, Nat.reduceAdd, Nat.reduceSub, Nat.zero_add, Nat.reduceEqDiff, Option.map_none, Nat.zero_le, Nat.reduceLT, Nat.reduceLeDiff, Bool.not_true, Bool.not_false, kN, fm, en2])).trans ?_
  refine (bnx (ρ' := [.va S, .va V, .va G, .va X, .va (nD n2), .va (nD (n2 % 12)), .no, .no]) (by simp only [runD, evB, evS, evE, evA, evT, evAnd, evOr, evAndV, evOrV, evP, evI, mb_ok, mb_some, mb_er, op_some, keep_sh, keep_fr, blM_bl, intM_int, nerr_ok, Option.map_some, Option.bind_some, List.getElem?_cons_zero, List.getElem?_cons_succ, List.set_cons_zero, List.set_cons_succ, asgF, unpF, ownOf, appF, setAll, bindT, wipeR, List.length_cons, List.length_nil, List.map_cons, List.map_nil, List.replicate, List.cons_append, List.nil_append, if_true, Bool.false_eq_true, if_false, Nat.reduceAdd, Nat.reduceSub, Nat.zero_add, Nat.reduceEqDiff, Option.map_none, Nat.zero_le, Nat.reduceLT, Nat.reduceLeDiff, Bool.not_true, Bool.not_false, kN, bmod_n n2 12 (by decide)])).trans ?_
  refine (bnx st5).trans ?_
  refine (bnx (ρ' := [.va S, .va V, .va G, .va X, .va (nD n2), .va (nD pr), .va d, .no]) (by simp only [runD, evB, evS, evE, evA, evT, evAnd, evOr, evAndV, evOrV, evP, evI, mb_ok, mb_some, mb_er, op_some, keep_sh, keep_fr, blM_bl, intM_int, nerr_ok, Option.map_some, Option.bind_some, List.getElem?_cons_zero, List.getElem?_cons_succ, List.set_cons_zero, List.set_cons_succ, asgF, unpF, ownOf, appF, setAll, bindT, wipeR, List.length_cons, List.length_nil, List.map_cons, List.map_nil, List.replicate, List.cons_append, List.nil_append, if_true, Bool.false_eq_true, if_false, Nat.reduceAdd, Nat.reduceSub, Nat.zero_add, Nat.reduceEqDiff, Option.map_none, Nat.zero_le, Nat.reduceLT, Nat.reduceLeDiff, Bool.not_true, Bool.not_false, kN, fm, en3, top, fa, k6])).trans ?_
  refine (bnx (ρ' := [.va S, .va V, .va G, .va X, .va (nD n2), .va (nD pr), .va d, .va (.bl v)]) (by simp only [runD, evB, evS, evE, evA, evT, evAnd, evOr, evAndV, evOrV, evP, evI, mb_ok, mb_some, mb_er, op_some, keep_sh, keep_fr, blM_bl, intM_int, nerr_ok, Option.map_some, Option.bind_some, List.getElem?_cons_zero, List.getElem?_cons_succ, List.set_cons_zero, List.set_cons_succ, asgF, unpF, ownOf, appF, setAll, bindT, wipeR, List.length_cons, List.length_nil, List.map_cons, List.map_nil, List.replicate, List.cons_append, List.nil_append, if_true, Bool.false_eq_true, if_false, Nat.reduceAdd, Nat.reduceSub, Nat.zero_add, Nat.reduceEqDiff, Option.map_none, Nat.zero_le, Nat.reduceLT, Nat.reduceLeDiff, Bool.not_true, Bool.not_false, fi, k7])).trans ?_
  have isb : isiD .bool (.bl v) = some true := rfl
  have vv : (v != v) = false := by cases v <;> rfl
  refine (bnx (ρ' := [.va S, .va V, .va G, .va X, .va (nD n2), .va (nD pr), .va d, .va (.bl v)]) (by simp only [runD, evB, evS, evE, evA, evT, evAnd, evOr, evAndV, evOrV, evP, evI, mb_ok, mb_some, mb_er, op_some, keep_sh, keep_fr, blM_bl, intM_int, nerr_ok, Option.map_some, Option.bind_some, List.getElem?_cons_zero, List.getElem?_cons_succ, List.set_cons_zero, List.set_cons_succ, asgF, unpF, ownOf, appF, setAll, bindT, wipeR, List.length_cons, List.length_nil, List.map_cons, List.map_nil, List.replicate, List.cons_append, List.nil_append, if_true, Bool.false_eq_true, if_false, Nat.reduceAdd, Nat.reduceSub, Nat.zero_add, Nat.reduceEqDiff, Option.map_none, Nat.zero_le, Nat.reduceLT, Nat.reduceLeDiff, Bool.not_true, Bool.not_false, isb, top, fp, k8, cop_nb, vv])).trans ?_
  refine brt ?_
  cases hx2 : x with
  | none =>
    rw [hx2] at i1
    have i1 : cop .isN X .non = some true := i1
    simp only [runD, evB, evS, evE, evA, evT, evAnd, evOr, evAndV, evOrV, evP, evI, mb_ok, mb_some, mb_er, op_some, keep_sh, keep_fr, blM_bl, intM_int, nerr_ok, Option.map_some, Option.bind_some, List.getElem?_cons_zero, List.getElem?_cons_succ, List.set_cons_zero, List.set_cons_succ, asgF, unpF, ownOf, appF, setAll, bindT, wipeR, List.length_cons, List.length_nil, List.map_cons, List.map_nil, List.replicate, List.cons_append, List.nil_append, if_true, Bool.false_eq_true, if_false, Nat.reduceAdd, Nat.reduceSub, Nat.zero_add, Nat.reduceEqDiff, Option.map_none, Nat.zero_le, Nat.reduceLT, Nat.reduceLeDiff, Bool.not_true, Bool.not_false, i1]
  | some c =>
    rw [hx2] at i1 hX
    have i1 : cop .isN X .non = some false := i1
    have q : cop .le (nD pr) X = some (decide (pr ≤ c)) := by rw [hX]; exact cop_len pr c
    by_cases h : pr ≤ c
    · simp only [runD, evB, evS, evE, evA, evT, evAnd, evOr, evAndV, evOrV, evP, evI, mb_ok, mb_some, mb_er, op_some, keep_sh, keep_fr, blM_bl, intM_int, nerr_ok, Option.map_some, Option.bind_some, List.getElem?_cons_zero, List.getElem?_cons_succ, List.set_cons_zero, List.set_cons_succ, asgF, unpF, ownOf, appF, setAll, bindT, wipeR, List.length_cons, List.length_nil, List.map_cons, List.map_nil, List.replicate, List.cons_append, List.nil_append, if_true, Bool.false_eq_true, if_false, Nat.reduceAdd, Nat.reduceSub, Nat.zero_add, Nat.reduceEqDiff, Option.map_none, Nat.zero_le, Nat.reduceLT, Nat.reduceLeDiff, Bool.not_true, Bool.not_false, i1, q, h, decide_true]
    · have hv0 := sound c hx2 (by omega)
      rw [hv0]
      simp only [runD, evB, evS, evE, evA, evT, evAnd, evOr, evAndV, evOrV, evP, evI, mb_ok, mb_some, mb_er, op_some, keep_sh, keep_fr, blM_bl, intM_int, nerr_ok, Option.map_some, Option.bind_some, List.getElem?_cons_zero, List.getElem?_cons_succ, List.set_cons_zero, List.set_cons_succ, asgF, unpF, ownOf, appF, setAll, bindT, wipeR, List.length_cons, List.length_nil, List.map_cons, List.map_nil, List.replicate, List.cons_append, List.nil_append, if_true, Bool.false_eq_true, if_false, Nat.reduceAdd, Nat.reduceSub, Nat.zero_add, Nat.reduceEqDiff, Option.map_none, Nat.zero_le, Nat.reduceLT, Nat.reduceLeDiff, Bool.not_true, Bool.not_false, i1, q, h, decide_false]
end J

set_option Elab.async false
set_option linter.all false
set_option maxRecDepth 100000
set_option maxHeartbeats 4000000
/-! law k41 over the program -/
namespace J
open PySem PV
theorem law_true (ns : List Int) (h : ns.length ≤ 63) : (runP prog WF 60 "law").map (fun φ => φ [.scr ns]) = some (ok (.bl true)) := by
  have h0 : At prog WF 1 "_law_cell_at" SCell := at_md rfl fun n hn => cell_ok
  have h1 : At prog WF 2 "_law_mixed" SMixed := at_md rfl fun n hn => mixed_ok (h0 n (by omega))
  have h2 : At prog WF 1 "_law_drawn" SDrawn := at_md rfl fun n hn => drawn_ok
  have h3 : At prog WF 2 "_law_web" SWebD := at_md rfl fun n hn => web_ok (h2 n (by omega))
  have h4 : At prog WF 2 "_law_ends" SEnds := at_xd rfl rfl fun n hn => ends_spec (h2 n (by omega))
  have h5 : At prog WF 1 "_law_every" SEvery := at_md rfl fun n hn => every_ok
  have h6 : At prog WF 1 "_law_cost" SCost := at_md rfl fun n hn => law_cost_ok
  have h7 : At prog WF 1 "_law_pieces" SPieces := at_md rfl fun n hn => law_pieces_ok
  have h8 : At prog WF 2 "_law_joins" SJoins := at_md rfl fun n hn => law_joins_ok (h7 n (by omega))
  have h9 : At prog WF 3 "_law_least" SLeast := at_md rfl fun n hn => least_ok (h5 n (by omega)) (h6 n (by omega)) (h8 n (by omega))
  have h10 : At prog WF 1 "_law_single" SSingle := at_md rfl fun n hn => single_ok
  have h11 : At prog WF 1 "_law_plus" SLPlus := at_md rfl fun n hn => law_plus_ok
  have h12_0 : At prog WF 3 "_law_made" (SMade 0) := at_md rfl fun n hn => made_ok (h10 n (by omega)) (h11 n (by omega)) (h6 n (by omega)) (h8 n (by omega)) (fun i e => by omega)
  have h12_1 : At prog WF 4 "_law_made" (SMade 1) := at_md rfl fun n hn => made_ok (h10 n (by omega)) (h11 n (by omega)) (h6 n (by omega)) (h8 n (by omega)) (fun i e => by
      obtain rfl : i = 0 := by omega
      exact h12_0 n (by omega))
  have h12_2 : At prog WF 5 "_law_made" (SMade 2) := at_md rfl fun n hn => made_ok (h10 n (by omega)) (h11 n (by omega)) (h6 n (by omega)) (h8 n (by omega)) (fun i e => by
      obtain rfl : i = 1 := by omega
      exact h12_1 n (by omega))
  have h12_3 : At prog WF 6 "_law_made" (SMade 3) := at_md rfl fun n hn => made_ok (h10 n (by omega)) (h11 n (by omega)) (h6 n (by omega)) (h8 n (by omega)) (fun i e => by
      obtain rfl : i = 2 := by omega
      exact h12_2 n (by omega))
  have h12_4 : At prog WF 7 "_law_made" (SMade 4) := at_md rfl fun n hn => made_ok (h10 n (by omega)) (h11 n (by omega)) (h6 n (by omega)) (h8 n (by omega)) (fun i e => by
      obtain rfl : i = 3 := by omega
      exact h12_3 n (by omega))
  have h12_5 : At prog WF 8 "_law_made" (SMade 5) := at_md rfl fun n hn => made_ok (h10 n (by omega)) (h11 n (by omega)) (h6 n (by omega)) (h8 n (by omega)) (fun i e => by
      obtain rfl : i = 4 := by omega
      exact h12_4 n (by omega))
  have h12_6 : At prog WF 9 "_law_made" (SMade 6) := at_md rfl fun n hn => made_ok (h10 n (by omega)) (h11 n (by omega)) (h6 n (by omega)) (h8 n (by omega)) (fun i e => by
      obtain rfl : i = 5 := by omega
      exact h12_5 n (by omega))
  have h14 : At prog WF 1 "pieces" SPieces := at_md rfl fun n hn => pieces_ok
  have h15 : At prog WF 2 "joins" SJoins := at_md rfl fun n hn => joins_ok (h14 n (by omega))
  have h16 : At prog WF 1 "is_number" SNumber := at_md rfl fun n hn => number_ok
  have h17 : At prog WF 2 "are_some" SSome := at_md rfl fun n hn => some_ok (h16 n (by omega))
  have h18 : At prog WF 1 "common" SCommon := at_md rfl fun n hn => common_ok
  have h19 : At prog WF 2 "is_fraction" SFrac := at_md rfl fun n hn => fraction_ok (h18 n (by omega))
  have h20 : At prog WF 1 "is_above" SAbove := at_md rfl fun n hn => above_ok
  have h21 : At prog WF 1 "parts" SParts := at_md rfl fun n hn => parts_ok
  have h22 : At prog WF 3 "is_fence" SIsFence := at_md rfl fun n hn => fence_ok (h17 n (by omega)) (h19 n (by omega)) (h20 n (by omega)) (h21 n (by omega))
  have h23 : At prog WF 2 "plain" SPlain := at_md rfl fun n hn => plain_ok (h18 n (by omega))
  have h24 : At prog WF 3 "plus" SPlus := at_md rfl fun n hn => plus_ok (h23 n (by omega))
  have h25 : At prog WF 4 "worth" SWorth := at_md rfl fun n hn => worth_ok (h24 n (by omega))
  have h26 : At prog WF 5 "load" SLoad := at_md rfl fun n hn => load_ok (h25 n (by omega))
  have h27 : At prog WF 6 "are_fences_at" SFencesAt := at_md rfl fun n hn => fencesAt_ok (h22 n (by omega)) (h20 n (by omega)) (h26 n (by omega))
  have h28 : At prog WF 1 "prices_at" SPrices := at_md rfl fun n hn => prices_ok
  have h29 : At prog WF 1 "cost" SCost := at_md rfl fun n hn => cost_ok
  have h30_0 : At prog WF 7 "is_paper_at" (SPaper 0) := at_md rfl fun n hn => paper_at_ok (h15 n (by omega)) (h27 n (by omega)) (h28 n (by omega)) (h20 n (by omega)) (h29 n (by omega)) (h25 n (by omega)) (fun i e => by omega)
  have h30_1 : At prog WF 8 "is_paper_at" (SPaper 1) := at_md rfl fun n hn => paper_at_ok (h15 n (by omega)) (h27 n (by omega)) (h28 n (by omega)) (h20 n (by omega)) (h29 n (by omega)) (h25 n (by omega)) (fun i e => by
      obtain rfl : i = 0 := by omega
      exact h30_0 n (by omega))
  have h30_2 : At prog WF 9 "is_paper_at" (SPaper 2) := at_md rfl fun n hn => paper_at_ok (h15 n (by omega)) (h27 n (by omega)) (h28 n (by omega)) (h20 n (by omega)) (h29 n (by omega)) (h25 n (by omega)) (fun i e => by
      obtain rfl : i = 1 := by omega
      exact h30_1 n (by omega))
  have h30_3 : At prog WF 10 "is_paper_at" (SPaper 3) := at_md rfl fun n hn => paper_at_ok (h15 n (by omega)) (h27 n (by omega)) (h28 n (by omega)) (h20 n (by omega)) (h29 n (by omega)) (h25 n (by omega)) (fun i e => by
      obtain rfl : i = 2 := by omega
      exact h30_2 n (by omega))
  have h30_4 : At prog WF 11 "is_paper_at" (SPaper 4) := at_md rfl fun n hn => paper_at_ok (h15 n (by omega)) (h27 n (by omega)) (h28 n (by omega)) (h20 n (by omega)) (h29 n (by omega)) (h25 n (by omega)) (fun i e => by
      obtain rfl : i = 3 := by omega
      exact h30_3 n (by omega))
  have h30_5 : At prog WF 12 "is_paper_at" (SPaper 5) := at_md rfl fun n hn => paper_at_ok (h15 n (by omega)) (h27 n (by omega)) (h28 n (by omega)) (h20 n (by omega)) (h29 n (by omega)) (h25 n (by omega)) (fun i e => by
      obtain rfl : i = 4 := by omega
      exact h30_4 n (by omega))
  have h30_6 : At prog WF 13 "is_paper_at" (SPaper 6) := at_md rfl fun n hn => paper_at_ok (h15 n (by omega)) (h27 n (by omega)) (h28 n (by omega)) (h20 n (by omega)) (h29 n (by omega)) (h25 n (by omega)) (fun i e => by
      obtain rfl : i = 5 := by omega
      exact h30_5 n (by omega))
  have h30_7 : At prog WF 14 "is_paper_at" (SPaper 7) := at_md rfl fun n hn => paper_at_ok (h15 n (by omega)) (h27 n (by omega)) (h28 n (by omega)) (h20 n (by omega)) (h29 n (by omega)) (h25 n (by omega)) (fun i e => by
      obtain rfl : i = 6 := by omega
      exact h30_6 n (by omega))
  have h30_8 : At prog WF 15 "is_paper_at" (SPaper 8) := at_md rfl fun n hn => paper_at_ok (h15 n (by omega)) (h27 n (by omega)) (h28 n (by omega)) (h20 n (by omega)) (h29 n (by omega)) (h25 n (by omega)) (fun i e => by
      obtain rfl : i = 7 := by omega
      exact h30_7 n (by omega))
  have h30_9 : At prog WF 16 "is_paper_at" (SPaper 9) := at_md rfl fun n hn => paper_at_ok (h15 n (by omega)) (h27 n (by omega)) (h28 n (by omega)) (h20 n (by omega)) (h29 n (by omega)) (h25 n (by omega)) (fun i e => by
      obtain rfl : i = 8 := by omega
      exact h30_8 n (by omega))
  have h30_10 : At prog WF 17 "is_paper_at" (SPaper 10) := at_md rfl fun n hn => paper_at_ok (h15 n (by omega)) (h27 n (by omega)) (h28 n (by omega)) (h20 n (by omega)) (h29 n (by omega)) (h25 n (by omega)) (fun i e => by
      obtain rfl : i = 9 := by omega
      exact h30_9 n (by omega))
  have h30_11 : At prog WF 18 "is_paper_at" (SPaper 11) := at_md rfl fun n hn => paper_at_ok (h15 n (by omega)) (h27 n (by omega)) (h28 n (by omega)) (h20 n (by omega)) (h29 n (by omega)) (h25 n (by omega)) (fun i e => by
      obtain rfl : i = 10 := by omega
      exact h30_10 n (by omega))
  have h32 : At prog WF 19 "is_paper" (SIsPaper 11) := at_md rfl fun n hn => is_paper_ok (h30_11 n (by omega))
  have h33 : At prog WF 1 "_law_are_some" SSome := at_md rfl fun n hn => law_some_ok
  have h34 : At prog WF 1 "_law_is_part" SFrac := at_md rfl fun n hn => law_part_ok
  have h35 : At prog WF 2 "_law_are_fences" SFencesAt := at_md rfl fun n hn => law_fences_ok (h33 n (by omega)) (h34 n (by omega)) (h11 n (by omega))
  have h36_0 : At prog WF 3 "_law_is_paper" (SPaper 0) := at_md rfl fun n hn => law_paper_ok (h8 n (by omega)) (h35 n (by omega)) (h11 n (by omega)) (h33 n (by omega)) (h6 n (by omega)) (fun i e => by omega)
  have h36_1 : At prog WF 4 "_law_is_paper" (SPaper 1) := at_md rfl fun n hn => law_paper_ok (h8 n (by omega)) (h35 n (by omega)) (h11 n (by omega)) (h33 n (by omega)) (h6 n (by omega)) (fun i e => by
      obtain rfl : i = 0 := by omega
      exact h36_0 n (by omega))
  have h36_2 : At prog WF 5 "_law_is_paper" (SPaper 2) := at_md rfl fun n hn => law_paper_ok (h8 n (by omega)) (h35 n (by omega)) (h11 n (by omega)) (h33 n (by omega)) (h6 n (by omega)) (fun i e => by
      obtain rfl : i = 1 := by omega
      exact h36_1 n (by omega))
  have h36_3 : At prog WF 6 "_law_is_paper" (SPaper 3) := at_md rfl fun n hn => law_paper_ok (h8 n (by omega)) (h35 n (by omega)) (h11 n (by omega)) (h33 n (by omega)) (h6 n (by omega)) (fun i e => by
      obtain rfl : i = 2 := by omega
      exact h36_2 n (by omega))
  have h36_4 : At prog WF 7 "_law_is_paper" (SPaper 4) := at_md rfl fun n hn => law_paper_ok (h8 n (by omega)) (h35 n (by omega)) (h11 n (by omega)) (h33 n (by omega)) (h6 n (by omega)) (fun i e => by
      obtain rfl : i = 3 := by omega
      exact h36_3 n (by omega))
  have h36_5 : At prog WF 8 "_law_is_paper" (SPaper 5) := at_md rfl fun n hn => law_paper_ok (h8 n (by omega)) (h35 n (by omega)) (h11 n (by omega)) (h33 n (by omega)) (h6 n (by omega)) (fun i e => by
      obtain rfl : i = 4 := by omega
      exact h36_4 n (by omega))
  have h36_6 : At prog WF 9 "_law_is_paper" (SPaper 6) := at_md rfl fun n hn => law_paper_ok (h8 n (by omega)) (h35 n (by omega)) (h11 n (by omega)) (h33 n (by omega)) (h6 n (by omega)) (fun i e => by
      obtain rfl : i = 5 := by omega
      exact h36_5 n (by omega))
  have h36_7 : At prog WF 10 "_law_is_paper" (SPaper 7) := at_md rfl fun n hn => law_paper_ok (h8 n (by omega)) (h35 n (by omega)) (h11 n (by omega)) (h33 n (by omega)) (h6 n (by omega)) (fun i e => by
      obtain rfl : i = 6 := by omega
      exact h36_6 n (by omega))
  have h36_8 : At prog WF 11 "_law_is_paper" (SPaper 8) := at_md rfl fun n hn => law_paper_ok (h8 n (by omega)) (h35 n (by omega)) (h11 n (by omega)) (h33 n (by omega)) (h6 n (by omega)) (fun i e => by
      obtain rfl : i = 7 := by omega
      exact h36_7 n (by omega))
  have h36_9 : At prog WF 12 "_law_is_paper" (SPaper 9) := at_md rfl fun n hn => law_paper_ok (h8 n (by omega)) (h35 n (by omega)) (h11 n (by omega)) (h33 n (by omega)) (h6 n (by omega)) (fun i e => by
      obtain rfl : i = 8 := by omega
      exact h36_8 n (by omega))
  have h36_10 : At prog WF 13 "_law_is_paper" (SPaper 10) := at_md rfl fun n hn => law_paper_ok (h8 n (by omega)) (h35 n (by omega)) (h11 n (by omega)) (h33 n (by omega)) (h6 n (by omega)) (fun i e => by
      obtain rfl : i = 9 := by omega
      exact h36_9 n (by omega))
  have h36_11 : At prog WF 14 "_law_is_paper" (SPaper 11) := at_md rfl fun n hn => law_paper_ok (h8 n (by omega)) (h35 n (by omega)) (h11 n (by omega)) (h33 n (by omega)) (h6 n (by omega)) (fun i e => by
      obtain rfl : i = 10 := by omega
      exact h36_10 n (by omega))
  have L : At prog WF 20 "law" (fun φ => φ [scrD true ns] = ok (.bl true)) := at_md rfl fun n hn => law41 (h1 n (by omega)) (h3 n (by omega)) (h4 n (by omega)) (h9 n (by omega)) (h12_6 n (by omega)) (h32 n (by omega)) (h36_11 n (by omega)) true ns
  obtain ⟨φ, e1, e2⟩ := L 60 (by decide)
  have e1 : runP prog WF 60 "law" = some φ := e1
  rw [e1]
  exact congrArg some e2
end J

set_option Elab.async false
set_option linter.all false
set_option maxRecDepth 100000
set_option maxHeartbeats 0
open PySem PySem.W PyProof.Rows
theorem PySem.Challenge.cw_joinplaces_k41_whole_drawn_papers_holds : PySem.Challenge.rw_joinplaces_k41_whole_drawn_papers.Holds := by
  w_on; o_law; k_head; (case hw => w_witness2)
  k_fill
  refine L2.walk_of (l := PySem.Challenge.rw_joinplaces_k41_whole_drawn_papers) (n := 63) (k := 60) (x := "_law_script") (CX := fun w => L2.CX (PySem.Challenge.rw_joinplaces_k41_whole_drawn_papers).prog w) (sp := fun w => PV.spLaw _) rfl (by decide) rfl ⟨rfl, by decide, by decide⟩ (fun w h Y => PySem.W.kIn_of Y) ?F (fun _ _ a ns hl _ hS => ⟨a, ns, rfl, hS, hl, fun _ => rfl⟩) (fun _ _ _ _ _ h => PV.cx_false h)
  case F =>
    intro w mg fa h KX G hmg
    refine' J.all_mk J.law_true KX G hmg ?a0 ?l0 ?c0 ?k0 ?a1 ?l1 ?c1 ?k1 ?a2 ?l2 ?c2 ?k2 ?a3 ?l3 ?c3 ?k3 ?a4 ?l4 ?c4 ?k4 ?a5 ?l5 ?c5 ?k5 ?a6 ?l6 ?c6 ?k6 ?a7 ?l7 ?c7 ?k7 ?a8 ?l8 ?c8 ?k8 ?a9 ?l9 ?c9 ?k9 ?a10 ?l10 ?c10 ?k10 ?a11 ?l11 ?c11 ?k11 ?a12 ?l12 ?c12 ?k12 ?a13 ?l13 ?c13 ?k13 ?a14 ?l14 ?c14 ?k14 ?a15 ?l15 ?c15 ?k15 ?a16 ?l16 ?c16 ?k16 ?a17 ?l17 ?c17 ?k17 ?a18 ?l18 ?c18 ?k18 ?a19 ?l19 ?c19 ?k19 ?a20 ?l20 ?c20 ?k20 ?a21 ?l21 ?c21 ?k21 ?a22 ?l22 ?c22 ?k22 ?a23 ?l23 ?c23 ?k23 ?a24 ?l24 ?c24 ?k24 ?a25 ?l25 ?c25 ?k25 ?a26 ?l26 ?c26 ?k26 ?a27 ?l27 ?c27 ?k27 ?a28 ?l28 ?c28 ?k28 ?a29 ?l29 ?c29 ?k29 ?a30 ?l30 ?c30 ?k30 ?a31 ?l31 ?c31 ?k31 ?a32 ?l32 ?c32 ?k32 ?a33 ?l33 ?c33 ?k33 ?a34 ?l34 ?c34 ?k34 ?a35 ?l35 ?c35 ?k35 ?z0 ?z1 ?z2 ?z3 ?z4 ?z5 ?z6 ?z7 ?z8 ?z9 ?z10 ?z11 ?z12 ?z13 ?z14 ?z15 ?z16 ?z17
    (case a0 => k_is)
    (case l0 => k_is)
    (case c0 => k_is)
    (case k0 => k_is)
    (case a1 => k_is)
    (case l1 => k_is)
    (case c1 => k_is)
    (case k1 => k_is)
    (case a2 => k_is)
    (case l2 => k_is)
    (case c2 => k_is)
    (case k2 => k_is)
    (case a3 => k_is)
    (case l3 => k_is)
    (case c3 => k_is)
    (case k3 => k_is)
    (case a4 => k_is)
    (case l4 => k_is)
    (case c4 => k_is)
    (case k4 => k_is)
    (case a5 => k_is)
    (case l5 => k_is)
    (case c5 => k_is)
    (case k5 => k_is)
    (case a6 => k_is)
    (case l6 => k_is)
    (case c6 => k_is)
    (case k6 => k_is)
    (case a7 => k_is)
    (case l7 => k_is)
    (case c7 => k_is)
    (case k7 => k_is)
    (case a8 => k_is)
    (case l8 => k_is)
    (case c8 => k_is)
    (case k8 => k_is)
    (case a9 => k_is)
    (case l9 => k_is)
    (case c9 => k_is)
    (case k9 => k_is)
    (case a10 => k_is)
    (case l10 => k_is)
    (case c10 => k_is)
    (case k10 => k_is)
    (case a11 => k_is)
    (case l11 => k_is)
    (case c11 => k_is)
    (case k11 => k_is)
    (case a12 => k_is)
    (case l12 => k_is)
    (case c12 => k_is)
    (case k12 => k_is)
    (case a13 => k_is)
    (case l13 => k_is)
    (case c13 => k_is)
    (case k13 => k_is)
    (case a14 => k_is)
    (case l14 => k_is)
    (case c14 => k_is)
    (case k14 => k_is)
    (case a15 => k_is)
    (case l15 => k_is)
    (case c15 => k_is)
    (case k15 => k_is)
    (case a16 => k_is)
    (case l16 => k_is)
    (case c16 => k_is)
    (case k16 => k_is)
    (case a17 => k_is)
    (case l17 => k_is)
    (case c17 => k_is)
    (case k17 => k_is)
    (case a18 => k_is)
    (case l18 => k_is)
    (case c18 => k_is)
    (case k18 => k_is)
    (case a19 => k_is)
    (case l19 => k_is)
    (case c19 => k_is)
    (case k19 => k_is)
    (case a20 => k_is)
    (case l20 => k_is)
    (case c20 => k_is)
    (case k20 => k_is)
    (case a21 => k_is)
    (case l21 => k_is)
    (case c21 => k_is)
    (case k21 => k_is)
    (case a22 => k_is)
    (case l22 => k_is)
    (case c22 => k_is)
    (case k22 => k_is)
    (case a23 => k_is)
    (case l23 => k_is)
    (case c23 => k_is)
    (case k23 => k_is)
    (case a24 => k_is)
    (case l24 => k_is)
    (case c24 => k_is)
    (case k24 => k_is)
    (case a25 => k_is)
    (case l25 => k_is)
    (case c25 => k_is)
    (case k25 => k_is)
    (case a26 => k_is)
    (case l26 => k_is)
    (case c26 => k_is)
    (case k26 => k_is)
    (case a27 => k_is)
    (case l27 => k_is)
    (case c27 => k_is)
    (case k27 => k_is)
    (case a28 => k_is)
    (case l28 => k_is)
    (case c28 => k_is)
    (case k28 => k_is)
    (case a29 => k_is)
    (case l29 => k_is)
    (case c29 => k_is)
    (case k29 => k_is)
    (case a30 => k_is)
    (case l30 => k_is)
    (case c30 => k_is)
    (case k30 => k_is)
    (case a31 => k_is)
    (case l31 => k_is)
    (case c31 => k_is)
    (case k31 => k_is)
    (case a32 => k_is)
    (case l32 => k_is)
    (case c32 => k_is)
    (case k32 => k_is)
    (case a33 => k_is)
    (case l33 => k_is)
    (case c33 => k_is)
    (case k33 => k_is)
    (case a34 => k_is)
    (case l34 => k_is)
    (case c34 => k_is)
    (case k34 => k_is)
    (case a35 => k_is)
    (case l35 => k_is)
    (case c35 => k_is)
    (case k35 => k_is)
    (case z0 => k_is)
    (case z1 => k_is)
    (case z2 => k_is)
    (case z3 => k_is)
    (case z4 => k_is)
    (case z5 => k_is)
    (case z6 => k_is)
    (case z7 => k_is)
    (case z8 => k_is)
    (case z9 => k_is)
    (case z10 => k_is)
    (case z11 => k_is)
    (case z12 => k_is)
    (case z13 => k_is)
    (case z14 => k_is)
    (case z15 => k_is)
    (case z16 => k_is)
    (case z17 => k_is)
