import PyProof.Rows.All
import Wide.All
import OpenK.AllK
import Wide.FinOn
import KE.KStateDown
import Lean
import HandS.ForMost
import HandS.Deep
import HandS.TupAny
import HandS.Flow
import HandS.IsInst
import HandS.Conv
import HandS.Rev
import HandS.SortInts
import HandS.Walk
import HandS.Wide
import HandS.ForExc
import HandS.Defaults
import HandS.Base
import HandS.Call
import HandS.Ends
import HandS.More
import HandS.Words
import HandS.WordsExc
import HandS.Head0
import HandS.Head1
import HandS.Head2
import HandS.HeadEnd
import HandS.HeadHook1
import HandS.HeadHook2
import HandS.HeadHook4
import PySem.Challenge.RW_curvefaces_k06_whole_gaps
set_option Elab.async false
set_option linter.all false
set_option maxRecDepth 100000
set_option maxRecDepth 100000
/-! Engine, part A: data, the intermediate language and what it means. -/
namespace Cv
open PySem

/-- data as trees; scr: the script itself (read only) -/
inductive D where
  | non | bl (b : Bool) | int (i : Int) | str (x : Str) | tup (ds : List D) | lst (ds : List D) | scr (ns : List Int)
/-- a slot of the frame: a value; a list that nobody else holds; the in-out list parameter -/
inductive S where
  | val (d : D) | own (ds : List D) | io (ds : List D)
abbrev DEnv := List (Option S)
/-- an operand: a value; a new list; what stands in a slot -/
inductive Opd where
  | val (d : D) | fresh (ds : List D) | slot (i : Nat)
/-- outcomes -/
inductive R (α : Type) where
  | ok (a : α) | exn (c : String) | bad
def R.bind {α β : Type} (r : R α) (f : α → R β) : R β := match r with
  | .ok a => f a
  | .exn c => .exn c
  | .bad => .bad
def R.ofO {α : Type} : Option α → R α
  | some a => .ok a
  | none => .bad
/-- the weakest pre of an outcome -/
def RP {α : Type} (r : R α) (P : α → Prop) (E : String → Prop) : Prop := match r with
  | .ok a => P a
  | .exn c => E c
  | .bad => False
theorem RP.ok_ {α : Type} {a : α} {P : α → Prop} {E : String → Prop} (h : RP (.ok a) P E) : P a := h
theorem RP.bind {α β : Type} {r : R α} {f : α → R β} {P : β → Prop} {E : String → Prop} (h : RP (r.bind f) P E) : RP r (fun a => RP (f a) P E) E := by
  cases r <;> exact h
theorem RP.mono {α : Type} {r : R α} {P P' : α → Prop} {E E' : String → Prop} (h : RP r P E) (hp : ∀ a, P a → P' a) (he : ∀ c, E c → E' c) : RP r P' E' := by
  cases r with
  | ok a => exact hp a h
  | exn c => exact he c h
  | bad => exact h
theorem RP.ofO {α : Type} {o : Option α} {P : α → Prop} {E : String → Prop} (h : RP (R.ofO o) P E) : ∃ a, o = some a ∧ P a := by
  cases o with
  | none => exact h.elim
  | some a => exact ⟨a, rfl, h⟩

def lim : Nat := 16777216
inductive Bop where | add | sub | mul | fdiv | mod | pow
inductive Cop where | eq | ne | lt | le | gt | ge | isIn | notIn | isN | notN
inductive ItK where | seq | rng1 | rng2 | enum | rev | zip
inductive Tgt where | name (i : Nat) | tup (xs : List Nat)
inductive Mth where | append | pop | popAt | reverse

inductive IE where
  | var (i : Nat)
  | cst (d : D)
  | glob (x : String) (d : D)
  | tup (es : List IE)
  | lst (es : List IE)
  | bin (op : Bop) (a b : IE)
  | neg (a : IE)
  | cmp (op : Cop) (a b : IE)
  | chain (o1 o2 : Cop) (a b c : IE)
  | and_ (a b : IE)
  | or_ (a b : IE)
  | not_ (a : IE)
  | ite (c a b : IE)
  | idx (a b : IE)
  | slc (a : IE) (l h : Bool) (lo hi : IE)
  | isi (a : IE) (ty : String)
  | call (f : String) (es : List IE)
  | callIo (f : String) (i : Nat) (es : List IE)
  | blt (f : String) (es : List IE)
  | rngOf (tp two : Bool) (a b : IE)
  | comp (k : ItK) (e1 e2 : IE) (tg : Tgt) (hasIf : Bool) (c elt : IE)
  | meth (m : Mth) (i : Nat) (es : List IE)
  | extend (i : Nat) (e : IE)
inductive IS where
  | asg (tg : Tgt) (e : IE)
  | par (i j : Nat) (a b : IE)
  | sub (i : Nat) (ix e : IE)
  | expr (e : IE)
  | ret (e : IE)
  | retN
  | ife (c : IE) (a b : List IS)
  | for_ (k : ItK) (e1 e2 : IE) (tg : Tgt) (body : List IS)
  | whl (c : IE) (body : List IS)
  | pass
  | cont
  | brk
  | raise (c : String)
structure FD where
  np : Nat
  ns : Nat
  io : Bool
  body : List IS
inductive Out where
  | next (s : DEnv) | ret (o : Opd) (s : DEnv) | brk (s : DEnv) | cont (s : DEnv)

/-! ### operands -/
def deref (s : DEnv) : Opd → Option D
  | .val d => some d
  | .fresh ds => some (.lst ds)
  | .slot i => match s[i]? with
    | some (some (.val d)) => some d
    | some (some (.own ds)) => some (.lst ds)
    | some (some (.io ds)) => some (.lst ds)
    | _ => none
/-- the operand goes into another thing: a list that a slot owns is frozen from then on -/
def esc (s : DEnv) : Opd → Option (D × DEnv)
  | .val d => some (d, s)
  | .fresh ds => some (.lst ds, s)
  | .slot i => match s[i]? with
    | some (some (.val d)) => some (d, s)
    | some (some (.own ds)) => some (.lst ds, s.set i (some (.val (.lst ds))))
    | _ => none
def escs (s : DEnv) : List Opd → Option (List D × DEnv)
  | [] => some ([], s)
  | o :: os => match esc s o with
    | some (d, s1) => match escs s1 os with
      | some (ds, s2) => some (d :: ds, s2)
      | none => none
    | none => none
def derefs (s : DEnv) : List Opd → Option (List D)
  | [] => some []
  | o :: os => match deref s o, derefs s os with
    | some d, some ds => some (d :: ds)
    | _, _ => none

/-! ### operations on data -/
mutual
def eqD : D → D → Bool
  | .non, .non => true
  | .bl a, .bl b => a == b
  | .bl a, .int j => (if a then 1 else 0) == j
  | .int i, .bl b => i == (if b then 1 else 0)
  | .int i, .int j => i == j
  | .str x, .str y => x == y
  | .lst xs, .lst ys => eqDs xs ys
  | .tup xs, .tup ys => eqDs xs ys
  | _, _ => false
def eqDs : List D → List D → Bool
  | [], [] => true
  | x :: xs, y :: ys => eqD x y && eqDs xs ys
  | _, _ => false
end
/-! data of a depth of at most k, without the script -/
mutual
def dle : Nat → D → Bool
  | _, .scr _ => false
  | 0, .tup _ => false
  | 0, .lst _ => false
  | k + 1, .tup ds => dles k ds
  | k + 1, .lst ds => dles k ds
  | _, _ => true
def dles : Nat → List D → Bool
  | _, [] => true
  | k, d :: ds => dle k d && dles k ds
end
def intsOf : List D → Option (List Int)
  | [] => some []
  | .int i :: r => (intsOf r).map (i :: ·)
  | _ => none
def blsOf : List D → Option (List Bool)
  | [] => some []
  | .bl i :: r => (blsOf r).map (i :: ·)
  | _ => none
def mulOk (i j : Int) : Bool := decide (i.natAbs < 18446744073709551616) || decide (j.natAbs < 18446744073709551616) || decide (i.natAbs.log2 + j.natAbs.log2 < 1000000)
def binD : Bop → D → D → Option Opd
  | .add, .int i, .int j => some (.val (.int (i + j)))
  | .add, .tup xs, .tup ys => if xs.length + ys.length ≤ lim then some (.val (.tup (xs ++ ys))) else none
  | .add, .lst xs, .lst ys => if xs.length + ys.length ≤ lim then some (.fresh (xs ++ ys)) else none
  | .sub, .int i, .int j => some (.val (.int (i - j)))
  | .mul, .int i, .int j => if mulOk i j then some (.val (.int (i * j))) else none
  | .fdiv, .int i, .int j => if 0 < j ∧ j < 1073741824 then some (.val (.int (i / j))) else none
  | .mod, .int i, .int j => if 0 < j then some (.val (.int (i % j))) else none
  | .pow, .int i, .int j => if 0 ≤ j ∧ j ≤ 1000000 ∧ i.natAbs < 18446744073709551616 then some (.val (.int (i ^ j.toNat))) else none
  | _, _, _ => none
def nonD : D → Bool
  | .non => true
  | _ => false
def lexD : List Int → List Int → Bool := HT.lexLt
def cmpD : Cop → D → D → Option Bool
  | .eq, a, b => if dle 60 a && dle 60 b then some (eqD a b) else none
  | .ne, a, b => if dle 60 a && dle 60 b then some (!eqD a b) else none
  | .lt, .int i, .int j => some (decide (i < j))
  | .le, .int i, .int j => some (decide (i ≤ j))
  | .gt, .int i, .int j => some (decide (j < i))
  | .ge, .int i, .int j => some (decide (j ≤ i))
  | .lt, .tup xs, .tup ys => match intsOf xs, intsOf ys with
    | some a, some b => some (lexD a b)
    | _, _ => none
  | .isIn, a, .lst ds => if dle 60 a && dles 60 ds then some (ds.any fun z => eqD z a) else none
  | .isIn, a, .tup ds => if dle 60 a && dles 60 ds then some (ds.any fun z => eqD z a) else none
  | .notIn, a, .lst ds => if dle 60 a && dles 60 ds then some (!ds.any fun z => eqD z a) else none
  | .notIn, a, .tup ds => if dle 60 a && dles 60 ds then some (!ds.any fun z => eqD z a) else none
  | .isN, a, .non => some (nonD a)
  | .notN, a, .non => some (!nonD a)
  | _, _, _ => none
def truD : D → Option Bool
  | .non => some false
  | .bl b => some b
  | .int i => some (i != 0)
  | .tup ds => some (!ds.isEmpty)
  | .lst ds => some (!ds.isEmpty)
  | _ => none
def atD (ds : List D) (i : Int) : Option D := L2.atI ds i
def idxD : D → D → Option D
  | .tup ds, .int i => atD ds i
  | .lst ds, .int i => atD ds i
  | .scr ns, .int i => (L2.atI ns i).map .int
  | _, _ => none
def cutD (ds : List D) (lo hi : Option Int) : List D := (ds.drop (HT.sIx ds.length 0 lo)).take (HT.sIx ds.length ds.length hi - HT.sIx ds.length 0 lo)
def slcD (lo hi : Option Int) : D → Option Opd
  | .tup ds => some (.val (.tup (cutD ds lo hi)))
  | .lst ds => some (.fresh (cutD ds lo hi))
  | _ => none
def isiD (ty : String) : D → Option Bool
  | .non => if ty = "int" ∨ ty = "bool" ∨ ty = "tuple" ∨ ty = "list" ∨ ty = "str" then some false else none
  | .bl _ => if ty = "int" ∨ ty = "bool" then some true else if ty = "tuple" ∨ ty = "list" ∨ ty = "str" then some false else none
  | .int _ => if ty = "int" then some true else if ty = "bool" ∨ ty = "tuple" ∨ ty = "list" ∨ ty = "str" then some false else none
  | .str _ => if ty = "str" then some true else if ty = "bool" ∨ ty = "tuple" ∨ ty = "list" ∨ ty = "int" then some false else none
  | .tup _ => if ty = "tuple" then some true else if ty = "bool" ∨ ty = "str" ∨ ty = "list" ∨ ty = "int" then some false else none
  | .lst _ => if ty = "list" then some true else if ty = "bool" ∨ ty = "str" ∨ ty = "tuple" ∨ ty = "int" then some false else none
  | .scr _ => none
def sortI (ns : List Int) : List Int := ns.mergeSort (fun a b => decide (a ≤ b))
def maxI : Int → List Int → Int
  | m, [] => m
  | m, x :: r => maxI (if x > m then x else m) r
def bltD (f : String) : List D → Option Opd
  | [.int i] => if f = "abs" then some (.val (.int (if i < 0 then -i else i))) else if f = "int" then some (.val (.int i)) else none
  | [.bl b] => if f = "int" then some (.val (.int (if b then 1 else 0))) else none
  | [.int i, .int j] => if f = "max" then some (.val (.int (if j > i then j else i))) else if f = "min" then some (.val (.int (if j < i then j else i)))
      else if f = "divmod" then (if 0 < j ∧ j < 1073741824 then some (.val (.tup [.int (i / j), .int (i % j)])) else none) else none
  | [.scr ns] => if f = "len" then some (.val (.int ns.length)) else none
  | [.tup ds] => if f = "len" then some (.val (.int ds.length)) else if f = "tuple" then some (.val (.tup ds)) else if f = "list" then some (.fresh ds) else none
  | [.lst ds] => if f = "len" then some (.val (.int ds.length)) else if f = "tuple" then some (.val (.tup ds)) else if f = "list" then some (.fresh ds)
      else if f = "sum" then (intsOf ds).map fun ns => .val (.int ns.sum)
      else if f = "all" then (blsOf ds).map fun bs => .val (.bl (bs.all id))
      else if f = "any" then (blsOf ds).map fun bs => .val (.bl (bs.any id))
      else if f = "sorted" then (intsOf ds).map fun ns => .fresh ((sortI ns).map .int)
      else if f = "max" then (match intsOf ds with | some (m :: ns) => some (.val (.int (maxI m ns))) | _ => none)
      else none
  | _ => none
def rngD (a b : Int) : List D := (List.range (b - a).toNat).map fun i => D.int (a + (i : Nat))
def rngOk (a b : Int) : Bool := decide (-1000000000000 ≤ a) && decide (a ≤ 1000000000000) && decide (-1000000000000 ≤ b) && decide (b ≤ 1000000000000) && decide ((b - a).toNat ≤ lim)
def enumD : Nat → List D → List D
  | _, [] => []
  | i, d :: ds => .tup [.int i, d] :: enumD (i + 1) ds
def zipD : List D → List D → List D
  | a :: as, b :: bs => .tup [a, b] :: zipD as bs
  | _, _ => []
/-- the items that a for or a comprehension walks -/
def itemsD : ItK → D → D → Option (List D)
  | .seq, .tup ds, _ => some ds
  | .seq, .lst ds, _ => some ds
  | .rng1, .int n, _ => if rngOk 0 n then some (rngD 0 n) else none
  | .rng2, .int a, .int b => if rngOk a b then some (rngD a b) else none
  | .enum, .lst ds, _ => some (enumD 0 ds)
  | .rev, .tup ds, _ => some ds.reverse
  | .rev, .lst ds, _ => some ds.reverse
  | .zip, .lst xs, .lst ys => some (zipD xs ys)
  | _, _, _ => none

/-! ### stores -/
def setN (s : DEnv) (i : Nat) (v : S) : Option DEnv := if i < s.length then (match s[i]? with
  | some (some (.io _)) => none
  | _ => some (s.set i (some v))) else none
def setNs (s : DEnv) : List Nat → List D → Option DEnv
  | [], [] => some s
  | i :: is, d :: ds => match setN s i (.val d) with
    | some s1 => setNs s1 is ds
    | none => none
  | _, _ => none
def setT (s : DEnv) : Tgt → D → Option DEnv
  | .name i, d => setN s i (.val d)
  | .tup is, .tup ds => setNs s is ds
  | _, _ => none
def asgO (s : DEnv) (i : Nat) : Opd → Option DEnv
  | .val d => setN s i (.val d)
  | .fresh ds => setN s i (.own ds)
  | .slot j => match esc s (.slot j) with
    | some (d, s1) => setN s1 i (.val d)
    | none => none
/-- the contents of the list in slot i, and how new ones are laid there -/
def ownAt (s : DEnv) (i : Nat) : Option (List D) := match s[i]? with
  | some (some (.own ds)) => some ds
  | some (some (.io ds)) => some ds
  | _ => none
def ownPut (s : DEnv) (i : Nat) (ds : List D) : DEnv := match s[i]? with
  | some (some (.io _)) => s.set i (some (.io ds))
  | _ => s.set i (some (.own ds))

/-! ### loops -/
def wipeD (s : DEnv) : List Nat → DEnv
  | [] => s
  | v :: vs => (wipeD s vs).set v none
def backD (s0 s : DEnv) : List Nat → DEnv
  | [] => s
  | v :: vs => (backD s0 s vs).set v (s0[v]?.getD none)

def forLoop (set : DEnv → D → Option DEnv) (body : DEnv → R Out) : List D → DEnv → R Out
  | [], s => .ok (.next s)
  | d :: ds, s => (R.ofO (set s d)).bind fun s1 => (body s1).bind fun o => match o with
    | .next s2 => forLoop set body ds s2
    | .cont s2 => forLoop set body ds s2
    | .brk s2 => .ok (.next s2)
    | .ret v s2 => .ok (.ret v s2)
/-- an exception that leaves a comprehension's block is no claim's -/
def noX {α : Type} : R α → R α
  | .exn _ => .bad
  | r => r
def compLoop (wp : DEnv → DEnv) (set : DEnv → D → Option DEnv) (c : DEnv → R (Bool × DEnv)) (elt : DEnv → R (D × DEnv)) : List D → List D → DEnv → R (List D × DEnv)
  | [], acc, s => .ok (acc, s)
  | d :: ds, acc, s => (R.ofO (set (wp s) d)).bind fun s1 => (noX (c s1)).bind fun b =>
    if b.1 then (noX (elt b.2)).bind fun r => compLoop wp set c elt ds (acc ++ [r.1]) r.2 else compLoop wp set c elt ds acc b.2
def whileLoop (c : DEnv → R (Bool × DEnv)) (body : DEnv → R Out) : Nat → DEnv → R Out
  | 0, _ => .bad
  | n + 1, s => (c s).bind fun b => if b.1 then (body b.2).bind fun o => match o with
    | .next s2 => whileLoop c body n s2
    | .cont s2 => whileLoop c body n s2
    | .brk s2 => .ok (.next s2)
    | .ret v s2 => .ok (.ret v s2) else .ok (.next b.2)
def wfuel : Nat := 1000000

/-- the items that are walked, by what the one or two sources mean -/
def itR (k : ItK) (m1 m2 : DEnv → R (Opd × DEnv)) (s : DEnv) : R (List D × DEnv) := match k with
  | .rng2 => (m1 s).bind fun x => (m2 x.2).bind fun y => (R.ofO (deref y.2 x.1)).bind fun u => (R.ofO (deref y.2 y.1)).bind fun v => (R.ofO (itemsD .rng2 u v)).bind fun ds => .ok (ds, y.2)
  | .zip => (m1 s).bind fun x => (R.ofO (esc x.2 x.1)).bind fun r => (m2 r.2).bind fun y => (R.ofO (esc y.2 y.1)).bind fun q => (R.ofO (itemsD .zip r.1 q.1)).bind fun ds => .ok (ds, q.2)
  | k => (m1 s).bind fun x => (R.ofO (esc x.2 x.1)).bind fun r => (R.ofO (itemsD k r.1 .non)).bind fun ds => .ok (ds, r.2)
def tstR (m : DEnv → R (Opd × DEnv)) (s : DEnv) : R (Bool × DEnv) := (m s).bind fun x => (R.ofO (deref x.2 x.1)).bind fun u => (R.ofO (truD u)).bind fun t => .ok (t, x.2)
def eltR (m : DEnv → R (Opd × DEnv)) (s : DEnv) : R (D × DEnv) := (m s).bind fun x => R.ofO (esc x.2 x.1)

structure Cal where
  io : String → Bool
  call : String → List S → R (Opd × List D)

def tgtSlots : Tgt → List Nat
  | .name i => [i]
  | .tup is => is
def optI (b : Bool) (d : D) : Option (Option Int) := if b then (match d with | .int i => some (some i) | _ => none) else some none
def methD (m : Mth) (ds : List D) : List D → Option (D × List D)
  | [] => match m with
    | .pop => if ds.isEmpty then none else some (ds.getLastD .non, ds.dropLast)
    | .reverse => some (.non, ds.reverse)
    | _ => none
  | [a] => match m with
    | .append => if ds.length < lim then some (.non, ds ++ [a]) else none
    | .popAt => (match a with | .int i => (match (if ds.length ≤ lim then L2.ixN ds.length i else none) with | some k => some (ds.getD k .non, ds.eraseIdx k) | none => none) | _ => none)
    | _ => none
  | _ => none

mutual
def denE (C : Cal) : IE → DEnv → R (Opd × DEnv)
  | .var i, s => match s[i]? with
    | some (some (.val d)) => .ok (.val d, s)
    | some (some (.own _)) => .ok (.slot i, s)
    | some (some (.io _)) => .ok (.slot i, s)
    | _ => .bad
  | .cst d, s => .ok (.val d, s)
  | .glob _ d, s => .ok (.val d, s)
  | .tup es, s => (denEs C es s).bind fun r => .ok (.val (.tup r.1), r.2)
  | .lst es, s => (denEs C es s).bind fun r => .ok (.fresh r.1, r.2)
  | .bin op a b, s => (denE C a s).bind fun x => (denE C b x.2).bind fun y => (R.ofO (deref y.2 x.1)).bind fun u => (R.ofO (deref y.2 y.1)).bind fun v => (R.ofO (binD op u v)).bind fun r => .ok (r, y.2)
  | .neg a, s => (denE C a s).bind fun x => (R.ofO (deref x.2 x.1)).bind fun u => match u with
    | .int i => .ok (.val (.int (-i)), x.2)
    | _ => .bad
  | .cmp op a b, s => (denE C a s).bind fun x => (denE C b x.2).bind fun y => (R.ofO (deref y.2 x.1)).bind fun u => (R.ofO (deref y.2 y.1)).bind fun v => (R.ofO (cmpD op u v)).bind fun r => .ok (.val (.bl r), y.2)
  | .chain o1 o2 a b c, s => (denE C a s).bind fun x => (denE C b x.2).bind fun y => (R.ofO (deref y.2 x.1)).bind fun u => (R.ofO (deref y.2 y.1)).bind fun v => (R.ofO (cmpD o1 u v)).bind fun r =>
      if r then (denE C c y.2).bind fun z => (R.ofO (deref z.2 y.1)).bind fun v => (R.ofO (deref z.2 z.1)).bind fun w => (R.ofO (cmpD o2 v w)).bind fun r => .ok (.val (.bl r), z.2) else .ok (.val (.bl false), y.2)
  | .and_ a b, s => (denE C a s).bind fun x => (R.ofO (deref x.2 x.1)).bind fun u => (R.ofO (truD u)).bind fun t => if t then denE C b x.2 else .ok (x.1, x.2)
  | .or_ a b, s => (denE C a s).bind fun x => (R.ofO (deref x.2 x.1)).bind fun u => (R.ofO (truD u)).bind fun t => if t then .ok (x.1, x.2) else denE C b x.2
  | .not_ a, s => (denE C a s).bind fun x => (R.ofO (deref x.2 x.1)).bind fun u => (R.ofO (truD u)).bind fun t => .ok (.val (.bl (!t)), x.2)
  | .ite c a b, s => (denE C c s).bind fun x => (R.ofO (deref x.2 x.1)).bind fun u => (R.ofO (truD u)).bind fun t => if t then denE C a x.2 else denE C b x.2
  | .idx a b, s => (denE C a s).bind fun x => (denE C b x.2).bind fun y => (R.ofO (deref y.2 x.1)).bind fun u => (R.ofO (deref y.2 y.1)).bind fun v => (R.ofO (idxD u v)).bind fun r => .ok (.val r, y.2)
  | .slc a l h lo hi, s => (denE C a s).bind fun x => (if l then denE C lo x.2 else .ok (.val .non, x.2)).bind fun y => (R.ofO (deref y.2 y.1)).bind fun u => (R.ofO (optI l u)).bind fun i =>
      (if h then denE C hi y.2 else .ok (.val .non, y.2)).bind fun z => (R.ofO (deref z.2 z.1)).bind fun v => (R.ofO (optI h v)).bind fun j =>
      (R.ofO (deref z.2 x.1)).bind fun w => (R.ofO (slcD i j w)).bind fun r => .ok (r, z.2)
  | .isi a ty, s => (denE C a s).bind fun x => (R.ofO (deref x.2 x.1)).bind fun u => (R.ofO (isiD ty u)).bind fun r => .ok (.val (.bl r), x.2)
  | .call f es, s => if C.io f then .bad else (denEs C es s).bind fun r => (C.call f (r.1.map .val)).bind fun q => .ok (q.1, r.2)
  | .callIo f i es, s => if C.io f then (R.ofO (ownAt s i)).bind fun _ => (denEs C es s).bind fun r => (R.ofO (ownAt r.2 i)).bind fun ds => (C.call f (.io ds :: r.1.map .val)).bind fun q => .ok (q.1, ownPut r.2 i q.2) else .bad
  | .blt f es, s => (denOs C es s).bind fun r => (R.ofO (derefs r.2 r.1)).bind fun ds => (R.ofO (bltD f ds)).bind fun q => .ok (q, r.2)
  | .rngOf tp two a b, s => (denE C a s).bind fun x => (if two then denE C b x.2 else .ok (x.1, x.2)).bind fun y => (R.ofO (deref y.2 x.1)).bind fun u => (R.ofO (deref y.2 y.1)).bind fun v =>
      (R.ofO (itemsD (if two then .rng2 else .rng1) u v)).bind fun ds => .ok (if tp then .val (.tup ds) else .fresh ds, y.2)
  | .comp k e1 e2 tg hasIf c elt, s =>
      (itR k (fun s => denE C e1 s) (fun s => denE C e2 s) s).bind fun it =>
      (compLoop (fun s => wipeD s (tgtSlots tg)) (fun s d => setT s tg d) (fun s => if hasIf then tstR (fun s => denE C c s) s else .ok (true, s)) (fun s => eltR (fun s => denE C elt s) s) it.1 [] it.2).bind fun r => .ok (.fresh r.1, backD it.2 r.2 (tgtSlots tg))
  | .meth m i es, s => (R.ofO (ownAt s i)).bind fun _ => (denEs C es s).bind fun q => (R.ofO (ownAt q.2 i)).bind fun ds => (R.ofO (methD m ds q.1)).bind fun w => .ok (.val w.1, ownPut q.2 i w.2)
  | .extend i e, s => (R.ofO (ownAt s i)).bind fun _ => (denE C e s).bind fun x => (R.ofO (deref x.2 x.1)).bind fun u => (R.ofO (ownAt x.2 i)).bind fun ds => match u with
    | .lst zs => if ds.length + zs.length ≤ lim then .ok (.val .non, ownPut x.2 i (ds ++ zs)) else .bad
    | _ => .bad
/-- operands in a row -/
def denOs (C : Cal) : List IE → DEnv → R (List Opd × DEnv)
  | [], s => .ok ([], s)
  | e :: es, s => (denE C e s).bind fun x => (denOs C es x.2).bind fun r => .ok (x.1 :: r.1, r.2)
/-- values in a row, each goes into another thing -/
def denEs (C : Cal) : List IE → DEnv → R (List D × DEnv)
  | [], s => .ok ([], s)
  | e :: es, s => (denE C e s).bind fun x => (R.ofO (esc x.2 x.1)).bind fun q => (denEs C es q.2).bind fun r => .ok (q.1 :: r.1, r.2)
end
def denT (C : Cal) (e : IE) (s : DEnv) : R (Bool × DEnv) := tstR (fun s => denE C e s) s
def denI (C : Cal) (k : ItK) (e1 e2 : IE) (s : DEnv) : R (List D × DEnv) := itR k (fun s => denE C e1 s) (fun s => denE C e2 s) s

mutual
def denS (C : Cal) : IS → DEnv → R Out
  | .asg (.name i) e, s => (denE C e s).bind fun x => (R.ofO (asgO x.2 i x.1)).bind fun s1 => .ok (.next s1)
  | .asg (.tup is) e, s => (denE C e s).bind fun x => (R.ofO (deref x.2 x.1)).bind fun d => (R.ofO (setT x.2 (.tup is) d)).bind fun s1 => .ok (.next s1)
  | .par i j a b, s => if i = j then .bad else (denE C a s).bind fun x => (denE C b x.2).bind fun y => match x.1, y.1 with
    | .slot _, _ => .bad
    | _, .slot _ => .bad
    | u, v => (R.ofO (asgO y.2 i u)).bind fun s1 => (R.ofO (asgO s1 j v)).bind fun s2 => .ok (.next s2)
  | .sub i ix e, s => (denE C e s).bind fun x => (R.ofO (esc x.2 x.1)).bind fun r => (R.ofO (ownAt r.2 i)).bind fun _ => (denE C ix r.2).bind fun y => (R.ofO (deref y.2 y.1)).bind fun k => (R.ofO (ownAt y.2 i)).bind fun ds => match k with
    | .int k => (R.ofO (L2.ixN ds.length k)).bind fun j => .ok (.next (ownPut y.2 i (ds.set j r.1)))
    | _ => .bad
  | .expr e, s => (denE C e s).bind fun x => .ok (.next x.2)
  | .ret e, s => (denE C e s).bind fun x => .ok (.ret x.1 x.2)
  | .retN, s => .ok (.ret (.val .non) s)
  | .ife c a b, s => (denT C c s).bind fun t => if t.1 then denSs C a t.2 else denSs C b t.2
  | .for_ k e1 e2 tg body, s => (denI C k e1 e2 s).bind fun it => forLoop (fun s d => setT s tg d) (fun s => denSs C body s) it.1 it.2
  | .whl c body, s => whileLoop (fun s => denT C c s) (fun s => denSs C body s) wfuel s
  | .pass, s => .ok (.next s)
  | .cont, s => .ok (.cont s)
  | .brk, s => .ok (.brk s)
  | .raise c, _ => .exn c
def denSs (C : Cal) : List IS → DEnv → R Out
  | [], s => .ok (.next s)
  | st :: r, s => (denS C st s).bind fun o => match o with
    | .next s1 => denSs C r s1
    | o => .ok o
end

def startD (fd : FD) (args : List S) : DEnv := args.map some ++ List.replicate (fd.ns - args.length) none
/-- the frame's end: the value, and what the in-out parameter holds then -/
def leaveO (s : DEnv) : Opd → Option Opd
  | .slot i => (match s[i]? with
      | some (some (.val d)) => some (.val d)
      | some (some (.own ds)) => some (.fresh ds)
      | _ => none)
  | o => some o
def ioFin (s : DEnv) : Option (List D) := match s[0]? with
  | some (some (S.io ds)) => some ds
  | _ => none
def leaveD (fd : FD) (o : Opd) (s : DEnv) : R (Opd × List D) :=
  (R.ofO (leaveO s o)).bind fun r => if fd.io then (R.ofO (ioFin s)).bind fun ds => .ok (r, ds) else .ok (r, [])
def S.isVal : S → Bool
  | .val _ => true
  | _ => false
def argsOk (io : Bool) : List S → Bool
  | .io _ :: r => io && r.all S.isVal
  | args => !io && args.all S.isVal
def runF (C : Cal) (fd : FD) (args : List S) : R (Opd × List D) := if args.length = fd.np ∧ argsOk fd.io args = true then
  (denSs C fd.body (startD fd args)).bind fun o => match o with
    | .ret v s => leaveD fd v s
    | .next s => leaveD fd (.val .non) s
    | _ => .bad else .bad
abbrev Tab := List (String × FD)
def ioOf (T : Tab) (f : String) : Bool := match T.lookup f with
  | some fd => fd.io
  | none => false
def callF (T : Tab) : Nat → String → List S → R (Opd × List D)
  | 0, _, _ => .bad
  | n + 1, f, args => match T.lookup f with
    | some fd => runF ⟨ioOf T, callF T n⟩ fd args
    | none => .bad
abbrev calT (T : Tab) (n : Nat) : Cal := ⟨ioOf T, callF T n⟩
end Cv
set_option maxRecDepth 100000
set_option maxHeartbeats 1000000
/-! Engine, part B: how data lie in the abstract heap. -/
namespace Cv
open PySem PySem.Spec L2
set_option autoImplicit false

abbrev ASet := Addr → Prop
/-- a list that is read and never written: the script -/
def SqF (K : PySem.W.Frag) (H : Hp) (a : Addr) (xs : List V) : Prop :=
  (∃ o, H a = some (.frz o (.lst xs))) ∨
    ∃ (o : Obj) (its : Array Value) (n : Nat), K.lookup a = some o ∧ o.cls = .type "list" ∧ o.dict = none ∧ o.data = .seq its n ∧ its.size ≤ sizeLine ∧ Vals xs its.toList
theorem SqF.sq {K : PySem.W.Frag} {H : Hp} {a : Addr} {xs : List V} (h : SqF K H a xs) : SqL K H a xs := h.imp .inr id
mutual
inductive Rel (K : PySem.W.Frag) (F : ASet) (H : Hp) : V → D → Prop
  | non : Rel K F H .non .non
  | bl (b : Bool) : Rel K F H (.bl b) (.bl b)
  | int (i : Int) : Rel K F H (.int i) (.int i)
  | str (x : Str) (h : PyData.strOk x = true) : Rel K F H (.str x) (.str x)
  | tup {a : Addr} {vs : List V} {ds : List D} (h : SqT K H a vs) (r : RelL K F H vs ds) (l : ds.length ≤ lim) : Rel K F H (.ref a) (.tup ds)
  | lst {a : Addr} {vs : List V} {ds : List D} (f : F a) (h : H a = some (.lst vs)) (r : RelL K F H vs ds) (l : ds.length ≤ lim) : Rel K F H (.ref a) (.lst ds)
  | scr {a : Addr} {ns : List Int} (h : SqF K H a (ns.map V.int)) : Rel K F H (.ref a) (.scr ns)
inductive RelL (K : PySem.W.Frag) (F : ASet) (H : Hp) : List V → List D → Prop
  | nil : RelL K F H [] []
  | cons {v : V} {vs : List V} {d : D} {ds : List D} (h : Rel K F H v d) (r : RelL K F H vs ds) : RelL K F H (v :: vs) (d :: ds)
end
/-- all but lists that are not frozen stay -/
def Keep (F : ASet) (H H' : Hp) : Prop := ∀ b o, H b = some o → (F b ∨ ∀ vs, o ≠ .lst vs) → H' b = some o
theorem Keep.refl {F : ASet} {H : Hp} : Keep F H H := fun _ _ e _ => e
theorem Keep.tup {K : PySem.W.Frag} {F : ASet} {H H' : Hp} {a : Addr} {vs : List V} (k : Keep F H H') (h : SqT K H a vs) : SqT K H' a vs := by
  rcases h with (h | ⟨o, h⟩) | h
  · exact .inl (.inl (k _ _ h (.inr fun _ => nofun)))
  · exact .inl (.inr ⟨o, k _ _ h (.inr fun _ => nofun)⟩)
  · exact .inr h
theorem Keep.scr {K : PySem.W.Frag} {F : ASet} {H H' : Hp} {a : Addr} {vs : List V} (k : Keep F H H') (h : SqF K H a vs) : SqF K H' a vs := by
  rcases h with ⟨o, h⟩ | h
  · exact .inl ⟨o, k _ _ h (.inr fun _ => nofun)⟩
  · exact .inr h
mutual
theorem Rel.mono {K : PySem.W.Frag} {F F' : ASet} {H H' : Hp} (k : Keep F H H') (f : ∀ a, F a → F' a) : ∀ {v : V} {d : D}, Rel K F H v d → Rel K F' H' v d
  | _, _, .non => .non
  | _, _, .bl b => .bl b
  | _, _, .int i => .int i
  | _, _, .str x h => .str x h
  | _, _, .tup h r l => .tup (k.tup h) (RelL.mono k f r) l
  | _, _, .lst g h r l => .lst (f _ g) (k _ _ h (.inl g)) (RelL.mono k f r) l
  | _, _, .scr h => .scr (k.scr h)
theorem RelL.mono {K : PySem.W.Frag} {F F' : ASet} {H H' : Hp} (k : Keep F H H') (f : ∀ a, F a → F' a) : ∀ {vs : List V} {ds : List D}, RelL K F H vs ds → RelL K F' H' vs ds
  | _, _, .nil => .nil
  | _, _, .cons h r => .cons (Rel.mono k f h) (RelL.mono k f r)
end
section
variable {K : PySem.W.Frag} {F F' F1 F2 : ASet} {H H' H1 H2 : Hp} {vs ws : List V} {ds es : List D} {v : V} {d : D}
theorem RelL.len : ∀ {vs : List V} {ds : List D}, RelL K F H vs ds → vs.length = ds.length
  | _, _, .nil => rfl
  | _, _, .cons _ r => congrArg (· + 1) r.len
theorem RelL.app : ∀ {vs : List V} {ds : List D}, RelL K F H vs ds → RelL K F H ws es → RelL K F H (vs ++ ws) (ds ++ es)
  | _, _, .nil, q => q
  | _, _, .cons h r, q => .cons h (r.app q)
theorem RelL.take : ∀ {vs : List V} {ds : List D} (n : Nat), RelL K F H vs ds → RelL K F H (vs.take n) (ds.take n)
  | _, _, 0, _ => by simp; exact .nil
  | _, _, _ + 1, .nil => .nil
  | _, _, n + 1, .cons h r => .cons h (r.take n)
theorem RelL.drop : ∀ {vs : List V} {ds : List D} (n : Nat), RelL K F H vs ds → RelL K F H (vs.drop n) (ds.drop n)
  | _, _, 0, r => r
  | _, _, _ + 1, .nil => .nil
  | _, _, n + 1, .cons h r => r.drop n
theorem RelL.get : ∀ {vs : List V} {ds : List D} {i : Nat} {d : D}, RelL K F H vs ds → ds[i]? = some d → ∃ v, vs[i]? = some v ∧ Rel K F H v d
  | _, _, _, _, .nil, e => by simp at e
  | _, _, 0, _, .cons h r, e => by simp at e; subst e; exact ⟨_, rfl, h⟩
  | _, _, i + 1, _, .cons h r, e => by
    obtain ⟨v, e1, e2⟩ := r.get (i := i) (by simpa using e)
    exact ⟨v, by simpa using e1, e2⟩
theorem RelL.getV : ∀ {vs : List V} {ds : List D} {i : Nat} {v : V}, RelL K F H vs ds → vs[i]? = some v → ∃ d, ds[i]? = some d ∧ Rel K F H v d
  | _, _, _, _, .nil, e => by simp at e
  | _, _, 0, _, .cons h r, e => by simp at e; subst e; exact ⟨_, rfl, h⟩
  | _, _, i + 1, _, .cons h r, e => by
    obtain ⟨v, e1, e2⟩ := r.getV (i := i) (by simpa using e)
    exact ⟨v, by simpa using e1, e2⟩
theorem RelL.set (h : Rel K F H v d) : ∀ {vs : List V} {ds : List D} (i : Nat), RelL K F H vs ds → RelL K F H (vs.set i v) (ds.set i d)
  | _, _, _, .nil => .nil
  | _, _, 0, .cons _ r => .cons h r
  | _, _, i + 1, .cons q r => .cons q (RelL.set h i r)
theorem RelL.erase : ∀ {vs : List V} {ds : List D} (i : Nat), RelL K F H vs ds → RelL K F H (vs.eraseIdx i) (ds.eraseIdx i)
  | _, _, _, .nil => .nil
  | _, _, 0, .cons _ r => r
  | _, _, i + 1, .cons q r => .cons q (RelL.erase i r)
theorem RelL.rev : ∀ {vs : List V} {ds : List D}, RelL K F H vs ds → RelL K F H vs.reverse ds.reverse
  | _, _, .nil => .nil
  | _, _, .cons h r => by
    rw [List.reverse_cons, List.reverse_cons]
    exact r.rev.app (.cons h .nil)
theorem RelL.ints : ∀ {ds : List D} {ns : List Int} {vs : List V}, RelL K F H vs ds → intsOf ds = some ns → vs = ns.map V.int
  | [], ns, _, .nil, e => by simp [intsOf] at e; subst e; rfl
  | .int i :: ds, ns, _, .cons h r, e => by
    cases h
    simp only [intsOf, Option.map_eq_some_iff] at e
    obtain ⟨ms, e1, rfl⟩ := e
    rw [r.ints e1]; rfl
  | .non :: _, _, _, _, e => by simp [intsOf] at e
  | .bl _ :: _, _, _, _, e => by simp [intsOf] at e
  | .str _ :: _, _, _, _, e => by simp [intsOf] at e
  | .tup _ :: _, _, _, _, e => by simp [intsOf] at e
  | .lst _ :: _, _, _, _, e => by simp [intsOf] at e
  | .scr _ :: _, _, _, _, e => by simp [intsOf] at e
theorem RelL.bls : ∀ {ds : List D} {ns : List Bool} {vs : List V}, RelL K F H vs ds → blsOf ds = some ns → vs = ns.map V.bl
  | [], ns, _, .nil, e => by simp [blsOf] at e; subst e; rfl
  | .bl i :: ds, ns, _, .cons h r, e => by
    cases h
    simp only [blsOf, Option.map_eq_some_iff] at e
    obtain ⟨ms, e1, rfl⟩ := e
    rw [r.bls e1]; rfl
  | .non :: _, _, _, _, e => by simp [blsOf] at e
  | .int _ :: _, _, _, _, e => by simp [blsOf] at e
  | .str _ :: _, _, _, _, e => by simp [blsOf] at e
  | .tup _ :: _, _, _, _, e => by simp [blsOf] at e
  | .lst _ :: _, _, _, _, e => by simp [blsOf] at e
  | .scr _ :: _, _, _, _, e => by simp [blsOf] at e
theorem RelL.of_ints : ∀ (ns : List Int), RelL K F H (ns.map V.int) (ns.map D.int)
  | [] => .nil
  | n :: ns => .cons (.int n) (RelL.of_ints ns)
end

/-! ### slots -/
def S.isIo : S → Prop
  | .io _ => True
  | _ => False
def S.muts : S → Option (List D)
  | .val _ => none
  | .own ds => some ds
  | .io ds => some ds
/-- a list that is not frozen -/
def OwnR (K : PySem.W.Frag) (F : ASet) (H : Hp) (v : V) (ds : List D) : Prop := ∃ a vs, v = .ref a ∧ H a = some (.lst vs) ∧ RelL K F H vs ds ∧ ¬ F a ∧ ds.length ≤ lim
def SlR (K : PySem.W.Frag) (F : ASet) (H : Hp) (v : V) : S → Prop
  | .val d => Rel K F H v d
  | .own ds => OwnR K F H v ds
  | .io ds => OwnR K F H v ds
def Own (σ : St) (s : DEnv) : ASet := fun b => ∃ (i : Nat) (x : S) (ds : List D), s[i]? = some (some x) ∧ S.muts x = some ds ∧ σ[i]? = some (some (V.ref b))
structure SR (K : PySem.W.Frag) (F : ASet) (σ : St) (H : Hp) (s : DEnv) : Prop where
  len : σ.length = s.length
  ats : ∀ (i : Nat) (x : S), s[i]? = some (some x) → ∃ v, σ[i]? = some (some v) ∧ SlR K F H v x
  sep : ∀ (i j : Nat) (x y : S) (ds es : List D) (b : Addr), s[i]? = some (some x) → S.muts x = some ds → s[j]? = some (some y) → S.muts y = some es → σ[i]? = some (some (.ref b)) → σ[j]? = some (some (.ref b)) → i = j
  fdm : ∀ a, F a → ∃ vs, H a = some (.lst vs)
structure Ext (F O : ASet) (H : Hp) (F' O' : ASet) (H' : Hp) : Prop where
  fr : ∀ b o, H b = some o → ¬ O b → H' b = some o
  dm : ∀ b, H' b = none → H b = none
  sub : ∀ a, F a → F' a
  new : ∀ a, F' a → F a ∨ O a ∨ H a = none
  own : ∀ a, O' a → O a ∨ H a = none
theorem Ext.refl {F O : ASet} {H : Hp} : Ext F O H F O H := ⟨fun _ _ e _ => e, fun _ e => e, fun _ e => e, fun _ e => .inl e, fun _ e => .inl e⟩
theorem Ext.trans {F O F1 O1 F2 O2 : ASet} {H H1 H2 : Hp} (a : Ext F O H F1 O1 H1) (b : Ext F1 O1 H1 F2 O2 H2) : Ext F O H F2 O2 H2 := by
  refine ⟨fun c o e n => b.fr c o (a.fr c o e n) fun z => ?_, fun c e => a.dm c (b.dm c e), fun c e => b.sub c (a.sub c e), fun c e => ?_, fun c e => ?_⟩
  · rcases a.own c z with z | z
    · exact n z
    · rw [e] at z; cases z
  · rcases b.new c e with z | z | z
    · exact a.new c z
    · exact .inr (a.own c z)
    · exact .inr (.inr (a.dm c z))
  · rcases b.own c e with z | z
    · exact a.own c z
    · exact .inr (a.dm c z)
section
variable {K : PySem.W.Frag} {F F' F1 F2 O O' : ASet} {H H' H1 H2 : Hp} {σ : St} {s s' s1 s2 : DEnv} {v : V} {d : D}
theorem SR.own (r : SR K F σ H s) {b : Addr} (o : Own σ s b) : (∃ vs, H b = some (.lst vs)) ∧ ¬ F b := by
  obtain ⟨i, x, ds, e1, e2, e3⟩ := o
  obtain ⟨v, e4, q⟩ := r.ats i x e1
  rw [e3] at e4
  cases e4
  cases x with
  | val d => cases e2
  | own ds => obtain ⟨a, vs, e, h, _, n, _⟩ := q; cases e; exact ⟨⟨vs, h⟩, n⟩
  | io ds => obtain ⟨a, vs, e, h, _, n, _⟩ := q; cases e; exact ⟨⟨vs, h⟩, n⟩
theorem SR.keep (r : SR K F σ H s) (e : Ext F (Own σ s) H F' O' H') : Keep F H H' := fun b o h z => e.fr b o h fun q => by
  obtain ⟨⟨vs, h1⟩, n⟩ := r.own q
  rcases z with z | z
  · exact n z
  · rw [h] at h1; cases h1; exact z vs rfl
theorem SR.rel (r : SR K F σ H s) (e : Ext F (Own σ s) H F' O' H') (h : Rel K F H v d) : Rel K F' H' v d := h.mono (r.keep e) e.sub
theorem SR.relL (r : SR K F σ H s) (e : Ext F (Own σ s) H F' O' H') {vs : List V} {ds : List D} (h : RelL K F H vs ds) : RelL K F' H' vs ds := h.mono (r.keep e) e.sub
/-- a new object -/
theorem Ext.obj {p : Addr} {o : HO} (n : H p = none) : Ext F O H F O (upd H p o) := ⟨fun b u e _ => by rw [upd_ne (ne_of_none e n)]; exact e, fun b e => by
  by_cases h : b = p
  · rw [h]; exact n
  · rw [upd_ne h] at e; exact e, fun _ e => e, fun _ e => .inl e, fun _ e => .inl e⟩

/-- an operand's value; H0: the heap ahead of the evaluation -/
def OR (K : PySem.W.Frag) (F : ASet) (σ : St) (H0 H : Hp) (s : DEnv) (v : V) : Opd → Prop
  | .val d => Rel K F H v d
  | .fresh ds => OwnR K F H v ds ∧ ∀ b, v = .ref b → ¬ Own σ s b ∧ H0 b = none
  | .slot i => σ[i]? = some (some v) ∧ ∃ x, s[i]? = some (some x)
structure EPost (K : PySem.W.Frag) (F : ASet) (σ : St) (H : Hp) (s : DEnv) (F' : ASet) (H' : Hp) (s' : DEnv) : Prop where
  ext : Ext F (Own σ s) H F' (Own σ s') H'
  dom : ∀ (i : Nat) (x : S), s[i]? = some (some x) → ∃ x' : S, s'[i]? = some (some x') ∧ (S.isIo x → S.isIo x')
  sr : SR K F' σ H' s'
theorem EPost.refl (r : SR K F σ H s) : EPost K F σ H s F H s := ⟨.refl, fun _ x e => ⟨x, e, id⟩, r⟩
theorem EPost.trans (a : EPost K F σ H s F1 H1 s1) (b : EPost K F1 σ H1 s1 F2 H2 s2) : EPost K F σ H s F2 H2 s2 :=
  ⟨a.ext.trans b.ext, fun i x e => let ⟨_, e1, h1⟩ := a.dom i x e; let ⟨y, e2, h2⟩ := b.dom i _ e1; ⟨y, e2, fun z => h2 (h1 z)⟩, b.sr⟩
theorem OwnR.mono (r : SR K F σ H s) (e : Ext F (Own σ s) H F' O' H') {ds : List D} (h : OwnR K F H v ds) (n : ∀ b, v = .ref b → ¬ Own σ s b) : OwnR K F' H' v ds ∧ ∀ b, v = .ref b → ¬ O' b := by
  obtain ⟨a, vs, rfl, h1, h2, h3, h4⟩ := h
  have na := n a rfl
  have gone : ∀ {P : Prop}, (F a ∨ Own σ s a ∨ H a = none) → P := fun z => by
    rcases z with z | z | z
    · exact absurd z h3
    · exact absurd z na
    · rw [h1] at z; cases z
  refine ⟨⟨a, vs, rfl, e.fr a _ h1 na, r.relL e h2, fun z => gone (e.new a z), h4⟩, fun b q z => ?_⟩
  cases q
  exact gone (.inr (e.own a z))
theorem OR.mono {H0 : Hp} (e : EPost K F σ H s F' H' s') (p : SR K F σ H s) : ∀ {o : Opd}, OR K F σ H0 H s v o → OR K F' σ H0 H' s' v o
  | .val d, h => p.rel e.ext h
  | .fresh ds, ⟨h, n⟩ =>
    let ⟨h1, h2⟩ := OwnR.mono p e.ext h fun b q => (n b q).1
    ⟨h1, fun b q => ⟨h2 b q, (n b q).2⟩⟩
  | .slot i, ⟨h, x, q⟩ => ⟨h, let ⟨y, e1, _⟩ := e.dom i x q; ⟨y, e1⟩⟩
/-- an earlier start -/
theorem OR.early {H0 H00 : Hp} (n : ∀ b, H0 b = none → H00 b = none) : ∀ {o : Opd}, OR K F σ H0 H s v o → OR K F σ H00 H s v o
  | .val _, h => h
  | .fresh _, ⟨h, q⟩ => ⟨h, fun b e => ⟨(q b e).1, n b (q b e).2⟩⟩
  | .slot _, h => h
/-- what is looked at -/
inductive View (K : PySem.W.Frag) (F : ASet) (H : Hp) : V → D → Prop
  | rel {v : V} {d : D} (h : Rel K F H v d) : View K F H v d
  | lst {a : Addr} {vs : List V} {ds : List D} (h : H a = some (.lst vs)) (r : RelL K F H vs ds) (l : ds.length ≤ lim) : View K F H (.ref a) (.lst ds)
theorem View.own {ds : List D} (h : OwnR K F H v ds) : View K F H v (.lst ds) := by
  obtain ⟨a, vs, rfl, h1, h2, _, h4⟩ := h
  exact .lst h1 h2 h4
theorem View.list {ds : List D} (h : View K F H v (.lst ds)) : ∃ a vs, v = .ref a ∧ H a = some (.lst vs) ∧ RelL K F H vs ds := by
  cases h with
  | rel h => cases h with | lst f h r l => exact ⟨_, _, rfl, h, r⟩
  | lst h r l => exact ⟨_, _, rfl, h, r⟩
theorem View.lenL {ds : List D} (h : View K F H v (.lst ds)) : ds.length ≤ lim := by
  cases h with
  | rel h => cases h with | lst f h r l => exact l
  | lst h r l => exact l
theorem View.lenT {ds : List D} (h : View K F H v (.tup ds)) : ds.length ≤ lim := by
  cases h with
  | rel h => cases h with | tup h r l => exact l
theorem View.int_ {i : Int} (h : View K F H v (.int i)) : v = .int i := by
  cases h with | rel h => cases h; rfl
theorem View.bl_ {i : Bool} (h : View K F H v (.bl i)) : v = .bl i := by
  cases h with | rel h => cases h; rfl
theorem View.non_ (h : View K F H v .non) : v = .non := by
  cases h with | rel h => cases h; rfl
theorem View.str_ {x : Str} (h : View K F H v (.str x)) : v = .str x := by
  cases h with | rel h => cases h; rfl
theorem View.tup_ {ds : List D} (h : View K F H v (.tup ds)) : ∃ a vs, v = .ref a ∧ SqT K H a vs ∧ RelL K F H vs ds := by
  cases h with | rel h => cases h with | tup h r l => exact ⟨_, _, rfl, h, r⟩
theorem View.scr_ {ns : List Int} (h : View K F H v (.scr ns)) : ∃ a, v = .ref a ∧ SqL K H a (ns.map V.int) := by
  cases h with | rel h => cases h with | scr h => exact ⟨_, rfl, h.sq⟩
theorem SR.view {H0 : Hp} (r : SR K F σ H s) : ∀ {o : Opd} {d : D}, OR K F σ H0 H s v o → deref s o = some d → View K F H v d
  | .val d, _, h, e => by cases e; exact .rel h
  | .fresh ds, _, ⟨h, _⟩, e => by cases e; exact View.own h
  | .slot i, d, ⟨h, x, q⟩, e => by
    obtain ⟨v', e1, sl⟩ := r.ats i x q
    rw [h] at e1
    cases e1
    simp only [deref, q] at e
    cases x with
    | val d => cases e; exact .rel sl
    | own ds => cases e; exact View.own sl
    | io ds => cases e; exact View.own sl
/-- the frozen ones and one more -/
def more (F : ASet) (a : Addr) : ASet := fun b => F b ∨ b = a
theorem SlR.more {a : Addr} {x : S} (h : SlR K F H v x) (n : ∀ ds, S.muts x = some ds → v ≠ .ref a) : SlR K (more F a) H v x := by
  have go : ∀ {ds : List D}, v ≠ .ref a → OwnR K F H v ds → OwnR K (Cv.more F a) H v ds := fun {ds} n ⟨b, vs, e, h1, h2, h3, h4⟩ =>
    ⟨b, vs, e, h1, h2.mono .refl fun _ => .inl, fun z => z.elim h3 fun z => n (by rw [e, z]), h4⟩
  cases x with
  | val d => exact Rel.mono .refl (fun _ => .inl) h
  | own ds => exact go (n ds rfl) h
  | io ds => exact go (n ds rfl) h
/-- the operand goes into another thing -/
theorem esc_ok {o : Opd} {F1 : ASet} {H1 : Hp} {s1 s2 : DEnv} (p : EPost K F σ H s F1 H1 s1) (h : OR K F1 σ H H1 s1 v o) (e : esc s1 o = some (d, s2)) : ∃ F2, EPost K F σ H s F2 H1 s2 ∧ Rel K F2 H1 v d := by
  cases o with
  | val d' => cases e; exact ⟨F1, p, h⟩
  | fresh ds =>
    cases e
    obtain ⟨⟨a, vs, rfl, h1, h2, h3, h4⟩, n⟩ := h
    obtain ⟨n1, n2⟩ := n a rfl
    refine ⟨more F1 a, ⟨⟨p.ext.fr, p.ext.dm, fun b q => .inl (p.ext.sub b q), fun b q => ?_, p.ext.own⟩, p.dom, ⟨p.sr.len, fun i x q => ?_, p.sr.sep, fun b q => ?_⟩⟩, .lst (.inr rfl) h1 (h2.mono .refl fun _ => .inl) h4⟩
    · rcases q with q | rfl
      · exact p.ext.new b q
      · exact .inr (.inr n2)
    · obtain ⟨w, q1, q2⟩ := p.sr.ats i x q
      refine ⟨w, q1, q2.more fun ds z z2 => n1 ⟨i, x, ds, q, z, by rw [q1, z2]⟩⟩
    · rcases q with q | rfl
      · exact p.sr.fdm b q
      · exact ⟨vs, h1⟩
  | slot i =>
    obtain ⟨h1, x, h2⟩ := h
    simp only [esc, h2] at e
    obtain ⟨w, q1, q2⟩ := p.sr.ats i x h2
    rw [h1] at q1
    cases q1
    cases x with
    | val d' => cases e; exact ⟨F1, p, q2⟩
    | io ds => cases e
    | own ds =>
      cases e
      obtain ⟨a, vs, rfl, g1, g2, g3, g4⟩ := q2
      have hi : i < s1.length := (List.getElem?_eq_some_iff.mp h2).1
      have oa : Own σ s1 a := ⟨i, _, ds, h2, rfl, h1⟩
      have sub : ∀ b, Own σ (s1.set i (some (.val (.lst ds)))) b → Own σ s1 b ∧ b ≠ a := fun b ⟨j, y, es, z1, z2, z3⟩ => by
        by_cases hj : i = j
        · subst hj
          rw [List.getElem?_set_self hi] at z1
          cases z1
          cases z2
        · rw [List.getElem?_set_ne hj] at z1
          refine ⟨⟨j, y, es, z1, z2, z3⟩, fun z => hj ?_⟩
          subst z
          exact p.sr.sep i j _ _ _ _ b h2 rfl z1 z2 h1 z3
      refine ⟨more F1 a, ⟨⟨p.ext.fr, p.ext.dm, fun b q => .inl (p.ext.sub b q), fun b q => ?_, fun b q => p.ext.own b (sub b q).1⟩, fun j y z => ?_, ⟨by rw [List.length_set]; exact p.sr.len, fun j y z => ?_, fun j k y z es fs b z1 z2 z3 z4 z5 z6 => ?_, fun b q => ?_⟩⟩, .lst (.inr rfl) g1 (g2.mono .refl fun _ => .inl) g4⟩
      · rcases q with q | rfl
        · exact p.ext.new b q
        · exact (p.ext.own b oa).elim (fun z => .inr (.inl z)) fun z => .inr (.inr z)
      · obtain ⟨y', z', z''⟩ := p.dom j y z
        by_cases hj : i = j
        · subst hj
          rw [h2] at z'
          cases z'
          exact ⟨_, List.getElem?_set_self hi, fun q => (z'' q).elim⟩
        · exact ⟨y', by rw [List.getElem?_set_ne hj]; exact z', z''⟩
      · by_cases hj : i = j
        · subst hj
          rw [List.getElem?_set_self hi] at z
          cases z
          exact ⟨_, h1, .lst (.inr rfl) g1 (g2.mono .refl fun _ => .inl) g4⟩
        · rw [List.getElem?_set_ne hj] at z
          obtain ⟨w, q1, q2⟩ := p.sr.ats j y z
          refine ⟨w, q1, q2.more fun es z2 z3 => hj ?_⟩
          subst z3
          exact p.sr.sep i j _ _ _ _ a h2 rfl z z2 h1 q1
      · have nn : ∀ (j : Nat) (y : S) (es : List D), (s1.set i (some (.val (.lst ds))))[j]? = some (some y) → S.muts y = some es → s1[j]? = some (some y) := fun j y es z1 z2 => by
          by_cases hj : i = j
          · subst hj
            rw [List.getElem?_set_self hi] at z1
            cases z1
            cases z2
          · rw [List.getElem?_set_ne hj] at z1
            exact z1
        exact p.sr.sep j k y z es fs b (nn j y es z1 z2) z2 (nn k z fs z3 z4) z4 z5 z6
      · rcases q with q | rfl
        · exact p.sr.fdm b q
        · exact ⟨vs, g1⟩
end
end Cv
set_option maxRecDepth 100000
set_option maxHeartbeats 1000000
set_option autoImplicit false
/-! Engine, part C: operations on values. -/
namespace Cv
open PySem PySem.Spec L2

theorem lim_eq : lim = sizeLine := by decide
section
variable {K : PySem.W.Frag} {F F' F1 F2 : ASet} {H H' H1 H2 : Hp} {σ : St} {s s' s1 s2 : DEnv} {v w : V} {d : D} {Q : VK} {ds es : List D} {vs ws : List V}
/-! ### heaps that grow -/
theorem same_keep (h : Same H H') : Keep F H H' := fun b o e _ => h b o e
theorem same_obj {p : Addr} {o : HO} (n : H p = none) : Same H (upd H p o) := fun b u e => by rw [upd_ne (ne_of_none e n)]; exact e
theorem same_ext {O : ASet} (h : Same H H') : Ext F O H F O H' := ⟨fun b o e _ => h b o e, fun b e => h.free e, fun _ e => e, fun _ e => .inl e, fun _ e => .inl e⟩
theorem OwnR.same (h : Same H H') (r : OwnR K F H v ds) : OwnR K F H' v ds := by
  obtain ⟨a, vs, e, h1, h2, h3, h4⟩ := r
  exact ⟨a, vs, e, h _ _ h1, h2.mono (same_keep h) (fun _ z => z), h3, h4⟩
theorem SlR.same (h : Same H H') : ∀ {x : S}, SlR K F H v x → SlR K F H' v x
  | .val _, r => Rel.mono (same_keep h) (fun _ z => z) r
  | .own _, r => OwnR.same h r
  | .io _, r => OwnR.same h r
theorem SR.same (r : SR K F σ H s) (h : Same H H') : SR K F σ H' s :=
  ⟨r.len, fun i x e => let ⟨v, e1, e2⟩ := r.ats i x e; ⟨v, e1, e2.same h⟩, r.sep, fun a f => let ⟨vs, e⟩ := r.fdm a f; ⟨vs, h _ _ e⟩⟩
theorem EPost.same (r : SR K F σ H s) (h : Same H H') : EPost K F σ H s F H' s := ⟨same_ext h, fun _ x e => ⟨x, e, id⟩, r.same h⟩
theorem SR.noF (r : SR K F σ H s) {p : Addr} (n : H p = none) : ¬ F p := fun f => by
  obtain ⟨vs, e⟩ := r.fdm p f
  rw [n] at e; cases e
theorem SR.noO (r : SR K F σ H s) {p : Addr} (n : H p = none) : ¬ Own σ s p := fun f => by
  obtain ⟨⟨vs, e⟩, _⟩ := r.own f
  rw [n] at e; cases e
/-! ### what comes of an operation -/
def Res (K : PySem.W.Frag) (F : ASet) (σ : St) (H : Hp) (s : DEnv) (o : Opd) (Q : VK) : Prop := ∀ z H', EPost K F σ H s F H' s → OR K F σ H H' s z o → Q z H'
theorem Res.val (h : Res K F σ H s (.val d) Q) (r : SR K F σ H s) (q : Rel K F H v d) : Q v H := h v H (.refl r) q
theorem Res.int {i : Int} (h : Res K F σ H s (.val (.int i)) Q) (r : SR K F σ H s) : Q (.int i) H := h.val r (.int i)
theorem Res.bl {i : Bool} (h : Res K F σ H s (.val (.bl i)) Q) (r : SR K F σ H s) : Q (.bl i) H := h.val r (.bl i)
theorem Res.tup (h : Res K F σ H s (.val (.tup ds)) Q) (r : SR K F σ H s) (q : RelL K F H vs ds) (l : ds.length ≤ lim) {p : Addr} (n : H p = none) : Q (.ref p) (upd H p (.tup vs)) :=
  h _ _ (.same r (same_obj n)) (Rel.tup (SqT.of upd_same) (q.mono (same_keep (same_obj n)) fun _ z => z) l)
theorem Res.lst (h : Res K F σ H s (.fresh ds) Q) (r : SR K F σ H s) (q : RelL K F H vs ds) (l : ds.length ≤ lim) {p : Addr} (n : H p = none) : Q (.ref p) (upd H p (.lst vs)) :=
  h _ _ (.same r (same_obj n)) ⟨⟨p, vs, rfl, upd_same, q.mono (same_keep (same_obj n)) fun _ z => z, r.noF n, l⟩, fun b e => by cases e; exact ⟨r.noO n, n⟩⟩

/-! ### the wp of an operation on values -/
variable {X : Cx}
def WpOp (X : Cx) (f : Value → Value → Sem Value) : R2 := fun x y H Q => ∀ (pins : List (Addr × Obj)) (s : Shared) (σ : St) (v u : Value), Inv X pins σ H s → RelV x v → RelV y u → wpAny (model X.prog X.w) X.A (f v u) (EP X pins σ Q) X.xe s
theorem opr_wp (f : Value → Value → Sem Value) : OpR X f (WpOp X f) := fun pins s σ H x y v u Q I rx ry h => h pins s σ v u I rx ry
theorem WpOp.of {f : Value → Value → Sem Value} {r : R2} {x y : V} (h : OpR X f r) (q : r x y H Q) : WpOp X f x y H Q := fun pins s σ v u I rx ry => h pins s σ H x y v u Q I rx ry q
def WpCall (X : Cx) (f : Value) : List V → Hp → VK → Prop := fun xs H Q => ∀ (pins : List (Addr × Obj)) (s : Shared) (σ : St) (us : List Value), Inv X pins σ H s → Vals xs us → wpAny (model X.prog X.w) X.A (call f us) (EP X pins σ Q) X.xe s
theorem callr_wp (f : Value) : CallR X f (WpCall X f) := fun pins s σ H xs us Q I r h => h pins s σ us I r
theorem WpCall.of {f : Value} {r : List V → Hp → VK → Prop} {xs : List V} (h : CallR X f r) (q : r xs H Q) : WpCall X f xs H Q := fun pins s σ us I rx => h pins s σ H xs us Q I rx q

def opOf : Bop → Operator
  | .add => .Add
  | .sub => .Sub
  | .mul => .Mult
  | .fdiv => .FloorDiv
  | .mod => .Mod
  | .pow => .Pow
theorem bin_ok {op : Bop} {x y : V} {a b : D} {o : Opd} (r : SR X.K F σ H s) (hx : View X.K F H x a) (hy : View X.K F H y b) (e : binD op a b = some o) (q : Res X.K F σ H s o Q) : WpOp X (binaryOp (opOf op)) x y H Q := by
  unfold binD at e
  split at e
  · cases e; cases hx.int_; cases hy.int_
    exact .of op_add ⟨_, _, rfl, rfl, q.int r⟩
  · split at e
    · rename_i hl
      cases e
      obtain ⟨a1, vs1, rfl, h1, r1⟩ := hx.tup_
      obtain ⟨a2, vs2, rfl, h2, r2⟩ := hy.tup_
      refine .of op_catA ⟨a1, a2, vs1, vs2, rfl, rfl, h1, h2, by rw [r1.len, r2.len, ← lim_eq]; exact hl, fun z => ?_, fun _ z => ?_, fun _ _ p n => q.tup r (r1.app r2) (by rw [List.length_append]; exact hl) n⟩
      · subst z
        cases r1
        exact q.val r (.tup h2 r2 (by simpa using hl))
      · subst z
        cases r2
        refine q.val r (.tup h1 ?_ (by simpa using hl))
        simpa using r1
    · cases e
  · split at e
    · rename_i hl
      cases e
      obtain ⟨a1, vs1, rfl, h1, r1⟩ := hx.list
      obtain ⟨a2, vs2, rfl, h2, r2⟩ := hy.list
      exact .of op_cat ⟨a1, a2, vs1, vs2, rfl, rfl, h1, h2, by rw [r1.len, r2.len, ← lim_eq]; exact hl, fun p n => q.lst r (r1.app r2) (by rw [List.length_append]; exact hl) n⟩
    · cases e
  · cases e; cases hx.int_; cases hy.int_
    exact .of op_sub ⟨_, _, rfl, rfl, q.int r⟩
  · split at e
    · rename_i i j hm
      cases e; cases hx.int_; cases hy.int_
      simp only [mulOk, Bool.or_eq_true, decide_eq_true_eq] at hm
      rcases hm with (hm | hm) | hm
      · exact .of op_mul ⟨_, _, rfl, rfl, .inl ⟨by omega, by omega⟩, q.int r⟩
      · exact .of op_mul ⟨_, _, rfl, rfl, .inr ⟨by omega, by omega⟩, q.int r⟩
      · exact .of op_mulW ⟨_, _, rfl, rfl, hm, q.int r⟩
    · cases e
  · split at e
    · rename_i hm
      cases e; cases hx.int_; cases hy.int_
      exact .of op_fdiv ⟨_, _, rfl, rfl, hm, q.int r⟩
    · cases e
  · split at e
    · rename_i hm
      cases e; cases hx.int_; cases hy.int_
      exact .of op_mod ⟨_, _, rfl, rfl, hm, q.int r⟩
    · cases e
  · split at e
    · rename_i hm
      cases e; cases hx.int_; cases hy.int_
      exact .of op_pow ⟨_, _, rfl, rfl, ⟨hm.1, hm.2.1, by simpa using hm.2.2⟩, q.int r⟩
    · cases e
  · cases e

/-! ### comparisons -/
mutual
def toPy : D → PyData
  | .non => .none
  | .bl b => .bool b
  | .int i => .int i
  | .str x => .str x
  | .tup ds => .tuple (toPys ds)
  | .lst ds => .list (toPys ds)
  | .scr _ => .none
def toPys : List D → List PyData
  | [] => []
  | d :: ds => toPy d :: toPys ds
end
mutual
theorem eqD_py : ∀ (k j : Nat) (a b : D), dle k a = true → dle j b = true → PyData.eqv (toPy a) (toPy b) = eqD a b
  | _, _, .non, b, _, hb => by cases b <;> first | rfl | (cases ‹Nat› <;> cases hb)
  | _, _, .bl x, b, _, hb => by cases b <;> first | rfl | (cases ‹Nat› <;> cases hb)
  | _, _, .int x, b, _, hb => by cases b <;> first | rfl | (cases ‹Nat› <;> cases hb)
  | _, _, .str x, b, _, hb => by cases b <;> first | rfl | (cases ‹Nat› <;> cases hb)
  | 0, _, .tup x, b, ha, hb => by cases ha
  | 0, _, .lst x, b, ha, hb => by cases ha
  | k + 1, j, .tup xs, b, ha, hb => by
    cases b with
    | tup ys =>
      cases j with
      | zero => cases hb
      | succ j =>
        show PyData.eqvAll (toPys xs) (toPys ys) = eqDs xs ys
        exact eqDs_py k j xs ys ha hb
    | scr _ => cases j <;> cases hb
    | _ => rfl
  | k + 1, j, .lst xs, b, ha, hb => by
    cases b with
    | lst ys =>
      cases j with
      | zero => cases hb
      | succ j =>
        show PyData.eqvAll (toPys xs) (toPys ys) = eqDs xs ys
        exact eqDs_py k j xs ys ha hb
    | scr _ => cases j <;> cases hb
    | _ => rfl
  | k, _, .scr _, b, ha, hb => by cases k <;> cases ha
theorem eqDs_py : ∀ (k j : Nat) (a b : List D), dles k a = true → dles j b = true → PyData.eqvAll (toPys a) (toPys b) = eqDs a b
  | _, _, [], [], _, _ => rfl
  | _, _, [], _ :: _, _, _ => rfl
  | _, _, _ :: _, [], _, _ => rfl
  | k, j, x :: xs, y :: ys, ha, hb => by
    simp only [dles, Bool.and_eq_true] at ha hb
    show (PyData.eqv (toPy x) (toPy y) && PyData.eqvAll (toPys xs) (toPys ys)) = (eqD x y && eqDs xs ys)
    rw [eqD_py k j x y ha.1 hb.1, eqDs_py k j xs ys ha.2 hb.2]
end
mutual
theorem dle_depth : ∀ (k : Nat) (a : D), dle k a = true → (toPy a).depth ≤ k
  | _, .non, _ => Nat.zero_le _
  | _, .bl _, _ => Nat.zero_le _
  | _, .int _, _ => Nat.zero_le _
  | _, .str _, _ => Nat.zero_le _
  | 0, .tup _, h => by cases h
  | 0, .lst _, h => by cases h
  | k + 1, .tup ds, h => by
    show PyData.depthAll (toPys ds) + 1 ≤ k + 1
    exact Nat.succ_le_succ (dles_depth k ds h)
  | k + 1, .lst ds, h => by
    show PyData.depthAll (toPys ds) + 1 ≤ k + 1
    exact Nat.succ_le_succ (dles_depth k ds h)
  | k, .scr _, h => by cases k <;> cases h
theorem dles_depth : ∀ (k : Nat) (a : List D), dles k a = true → PyData.depthAll (toPys a) ≤ k
  | _, [], _ => Nat.zero_le _
  | k, d :: ds, h => by
    simp only [dles, Bool.and_eq_true] at h
    show max (toPy d).depth (PyData.depthAll (toPys ds)) ≤ k
    exact Nat.max_le.mpr ⟨dle_depth k d h.1, dles_depth k ds h.2⟩
end
mutual
theorem Rel.dp : ∀ {v : V} {d : D} (k : Nat), Rel K F H v d → dle k d = true → Dp K H v (toPy d) ∧ (toPy d).canLay0 = true
  | _, _, _, .non, _ => ⟨.non, rfl⟩
  | _, _, _, .bl b, _ => ⟨.bl b, rfl⟩
  | _, _, _, .int i, _ => ⟨.int i, rfl⟩
  | _, _, _, .str x h, _ => ⟨.str x, h⟩
  | _, _, 0, .tup h r _, e => by cases e
  | _, _, 0, .lst f h r _, e => by cases e
  | _, _, k + 1, .tup h r _, e => let ⟨q1, q2⟩ := RelL.dp k r e; ⟨.tup h q1, q2⟩
  | _, _, k + 1, .lst f h r _, e => let ⟨q1, q2⟩ := RelL.dp k r e; ⟨.lst (SqL.of h) q1, q2⟩
  | _, _, k, .scr h, e => by cases k <;> cases e
theorem RelL.dp : ∀ {vs : List V} {ds : List D} (k : Nat), RelL K F H vs ds → dles k ds = true → DpAll K H vs (toPys ds) ∧ PyData.canLayAll0 (toPys ds) = true
  | _, _, _, .nil, _ => ⟨.nil, rfl⟩
  | _, _, k, .cons h r, e => by
    simp only [dles, Bool.and_eq_true] at e
    obtain ⟨a1, a2⟩ := Rel.dp k h e.1
    obtain ⟨b1, b2⟩ := RelL.dp k r e.2
    exact ⟨.cons a1 b1, by show (_ && _) = true; rw [a2, b2]; rfl⟩
end
theorem View.dp {k : Nat} (h : View K F H v d) (e : dle k d = true) (hk : k ≤ 64) : Dp K H v (toPy d) ∧ SeqAt.shaped (toPy d) = true := by
  have dep := Nat.le_trans (dle_depth k d e) hk
  have fin : ∀ {p : Prop}, p ∧ (toPy d).canLay0 = true → p ∧ SeqAt.shaped (toPy d) = true := fun ⟨a, b⟩ => ⟨a, by unfold SeqAt.shaped; rw [b, decide_eq_true dep]; rfl⟩
  cases h with
  | rel h => exact fin (h.dp k e)
  | lst h r l =>
    cases k with
    | zero => cases e
    | succ k =>
      obtain ⟨q1, q2⟩ := r.dp k e
      exact fin ⟨.lst (SqL.of h) q1, q2⟩
theorem any_py (k j : Nat) (a : D) (ha : dle k a = true) : ∀ (ds : List D), dles j ds = true → (toPys ds).any (fun z => PyData.eqv z (toPy a)) = ds.any fun z => eqD z a
  | [], _ => rfl
  | x :: xs, h => by
    simp only [dles, Bool.and_eq_true] at h
    show (PyData.eqv (toPy x) (toPy a) || _) = (eqD x a || _)
    rw [eqD_py j k x a h.1 ha, any_py k j a ha xs h.2]
end
end Cv
set_option maxRecDepth 100000
set_option maxHeartbeats 1000000
set_option autoImplicit false
/-! Engine, part D: comparisons, subscripts, built-ins on values. -/
namespace Cv
open PySem PySem.Spec L2
section
variable {K : PySem.W.Frag} {F F' F1 F2 : ASet} {H H' H1 H2 : Hp} {σ : St} {s s' s1 s2 : DEnv} {v w : V} {d : D} {Q : VK} {ds es : List D} {vs ws : List V} {X : Cx}
def copOf : Cop → CmpOp
  | .eq => .Eq
  | .ne => .NotEq
  | .lt => .Lt
  | .le => .LtE
  | .gt => .Gt
  | .ge => .GtE
  | .isIn => .In
  | .notIn => .NotIn
  | .isN => .Is
  | .notN => .IsNot
theorem op_inT (hu : X.A.units + 65 < cLine) : OpR X (compareOp .In) (fun x y H Q => ∃ d ds, Dp X.K H x d ∧ Dp X.K H y (.tuple ds) ∧ SeqAt.shaped d = true ∧ SeqAt.shaped (.tuple ds) = true ∧ Q (.bl (ds.any fun z => PyData.eqv z d)) H) := by
  intro pins s σ H x y v u Q I rx ry h
  obtain ⟨d, ds, hd, he, sd, se, q⟩ := h
  obtain ⟨as, r1⟩ := Dp.reads I d x v hd rx
  obtain ⟨bs, r2⟩ := Dp.reads I (.tuple ds) y u he ry
  exact SeqAt.in_tuple_reads r2 r1 (SeqAt.canLay_of_shaped se) (SeqAt.canLay_of_shaped sd) (PyProof.Rows.room_in_shaped sd hu) ⟨.bl _, H, I, rfl, q⟩
theorem op_notInT (hu : X.A.units + 65 < cLine) : OpR X (compareOp .NotIn) (fun x y H Q => ∃ d ds, Dp X.K H x d ∧ Dp X.K H y (.tuple ds) ∧ SeqAt.shaped d = true ∧ SeqAt.shaped (.tuple ds) = true ∧ Q (.bl (!ds.any fun z => PyData.eqv z d)) H) := by
  intro pins s σ H x y v u Q I rx ry h
  obtain ⟨d, ds, hd, he, sd, se, q⟩ := h
  obtain ⟨as, r1⟩ := Dp.reads I d x v hd rx
  obtain ⟨bs, r2⟩ := Dp.reads I (.tuple ds) y u he ry
  exact SeqAt.notIn_tuple_reads r2 r1 (SeqAt.canLay_of_shaped se) (SeqAt.canLay_of_shaped sd) (PyProof.Rows.room_in_shaped sd hu) ⟨.bl _, H, I, rfl, q⟩
theorem View.nonV (h : View K F H v d) : (decide (v = .non)) = nonD d := by
  cases h with
  | rel h => cases h <;> rfl
  | lst h r l => rfl
theorem cmp_ok {op : Cop} {x y : V} {a b : D} {o : Bool} (hu : X.A.units + 65 < cLine) (r : SR X.K F σ H s) (hx : View X.K F H x a) (hy : View X.K F H y b) (e : cmpD op a b = some o) (q : Q (.bl o) H) : WpOp X (compareOp (copOf op)) x y H Q := by
  unfold cmpD at e
  split at e
  · split at e
    · rename_i hd
      simp only [Bool.and_eq_true] at hd
      cases e
      obtain ⟨p1, p2⟩ := hx.dp hd.1 (by decide)
      obtain ⟨p3, p4⟩ := hy.dp hd.2 (by decide)
      exact .of (op_eqD (by omega)) ⟨_, _, p1, p3, p2, p4, by rw [eqD_py 60 60 _ _ hd.1 hd.2]; exact q⟩
    · cases e
  · split at e
    · rename_i hd
      simp only [Bool.and_eq_true] at hd
      cases e
      obtain ⟨p1, p2⟩ := hx.dp hd.1 (by decide)
      obtain ⟨p3, p4⟩ := hy.dp hd.2 (by decide)
      exact .of (op_neD (by omega)) ⟨_, _, p1, p3, p2, p4, by rw [eqD_py 60 60 _ _ hd.1 hd.2]; exact q⟩
    · cases e
  · cases e; cases hx.int_; cases hy.int_
    exact .of op_lt ⟨_, _, rfl, rfl, q⟩
  · cases e; cases hx.int_; cases hy.int_
    exact .of op_le ⟨_, _, rfl, rfl, q⟩
  · cases e; cases hx.int_; cases hy.int_
    exact .of op_gt ⟨_, _, rfl, rfl, q⟩
  · cases e; cases hx.int_; cases hy.int_
    exact .of op_ge ⟨_, _, rfl, rfl, q⟩
  · split at e
    · rename_i e1 e2
      cases e
      obtain ⟨a1, vs1, rfl, h1, r1⟩ := hx.tup_
      obtain ⟨a2, vs2, rfl, h2, r2⟩ := hy.tup_
      rw [r1.ints e1] at h1
      rw [r2.ints e2] at h2
      exact .of (op_ltT (by omega)) ⟨a1, a2, _, _, rfl, rfl, h1, h2, q⟩
    · cases e
  · split at e
    · rename_i hd
      simp only [Bool.and_eq_true] at hd
      cases e
      obtain ⟨p1, p2⟩ := hx.dp hd.1 (by decide)
      obtain ⟨p3, p4⟩ := hy.dp (k := 61) hd.2 (by decide)
      exact .of (op_inD hu) ⟨_, _, p1, p3, p2, p4, by rw [any_py 60 60 _ hd.1 _ hd.2]; exact q⟩
    · cases e
  · split at e
    · rename_i hd
      simp only [Bool.and_eq_true] at hd
      cases e
      obtain ⟨p1, p2⟩ := hx.dp hd.1 (by decide)
      obtain ⟨p3, p4⟩ := hy.dp (k := 61) hd.2 (by decide)
      exact .of (op_inT hu) ⟨_, _, p1, p3, p2, p4, by rw [any_py 60 60 _ hd.1 _ hd.2]; exact q⟩
    · cases e
  · split at e
    · rename_i hd
      simp only [Bool.and_eq_true] at hd
      cases e
      obtain ⟨p1, p2⟩ := hx.dp hd.1 (by decide)
      obtain ⟨p3, p4⟩ := hy.dp (k := 61) hd.2 (by decide)
      exact .of (op_notInD hu) ⟨_, _, p1, p3, p2, p4, by rw [any_py 60 60 _ hd.1 _ hd.2]; exact q⟩
    · cases e
  · split at e
    · rename_i hd
      simp only [Bool.and_eq_true] at hd
      cases e
      obtain ⟨p1, p2⟩ := hx.dp hd.1 (by decide)
      obtain ⟨p3, p4⟩ := hy.dp (k := 61) hd.2 (by decide)
      exact .of (op_notInT hu) ⟨_, _, p1, p3, p2, p4, by rw [any_py 60 60 _ hd.1 _ hd.2]; exact q⟩
    · cases e
  · cases e; cases hy.non_
    exact .of op_isN ⟨rfl, by rw [hx.nonV]; exact q⟩
  · cases e; cases hy.non_
    exact .of op_notN ⟨rfl, by rw [hx.nonV]; exact q⟩
  · cases e
theorem tru_v {t : Bool} (h : View K F H v d) (e : truD d = some t) : TruV K v H t := by
  cases d with
  | non => cases h.non_; cases e; rfl
  | bl b => cases h.bl_; cases e; rfl
  | int i => cases h.int_; cases e; rfl
  | str x => cases e
  | tup ds =>
    obtain ⟨a, vs, rfl, h1, h2⟩ := h.tup_
    cases e
    refine .inr (.inl ⟨vs, h1, ?_⟩)
    cases h2 <;> rfl
  | lst ds =>
    obtain ⟨a, vs, rfl, h1, h2⟩ := h.list
    cases e
    refine .inl ⟨vs, SqL.of h1, ?_⟩
    cases h2 <;> rfl
  | scr ns => cases e
/-! ### subscripts -/
theorem atI_rel {i : Int} (r : RelL K F H vs ds) (e : atI ds i = some d) : ∃ v, atI vs i = some v ∧ Rel K F H v d := by
  unfold atI at e ⊢
  rw [r.len]
  cases q : ixN ds.length i with
  | none => rw [q] at e; cases e
  | some j =>
    rw [q] at e
    exact r.get e
theorem idx_ok {x y : V} {a b : D} (hx : View K F H x a) (hy : View K F H y b) (e : idxD a b = some d) (q : ∀ z, Rel K F H z d → Q z H) : rIx K x y H Q := by
  unfold idxD at e
  split at e
  · obtain ⟨a1, vs1, rfl, h1, r1⟩ := hx.tup_
    cases hy.int_
    obtain ⟨z, e1, e2⟩ := atI_rel r1 e
    exact .inr (.inl ⟨a1, vs1, _, z, rfl, rfl, h1, e1, q z e2⟩)
  · obtain ⟨a1, vs1, rfl, h1, r1⟩ := hx.list
    cases hy.int_
    obtain ⟨z, e1, e2⟩ := atI_rel r1 e
    exact .inl ⟨a1, vs1, _, z, rfl, rfl, SqL.of h1, e1, q z e2⟩
  · obtain ⟨a1, rfl, h1⟩ := hx.scr_
    cases hy.int_
    simp only [Option.map_eq_some_iff] at e
    obtain ⟨n, e1, rfl⟩ := e
    refine .inl ⟨a1, _, _, .int n, rfl, rfl, h1, ?_, q _ (.int n)⟩
    unfold atI at e1 ⊢
    rw [List.length_map]
    rename_i ns i
    cases q : ixN ns.length i with
    | none => rw [q] at e1; cases e1
    | some j =>
      rw [q] at e1
      show (ns.map V.int)[j]? = some (.int n)
      have e1' : ns[j]? = some n := e1
      rw [List.getElem?_map, e1']
      rfl
  · cases e
theorem cut_rel {lo hi : Option Int} (r : RelL K F H vs ds) : RelL K F H (cutV vs lo hi) (cutD ds lo hi) := by
  unfold cutV cutD
  rw [r.len]
  exact (r.drop _).take _
theorem cut_len (ds : List D) (lo hi : Option Int) : (cutD ds lo hi).length ≤ ds.length := by
  unfold cutD
  rw [List.length_take, List.length_drop]
  omega
def rSl (K : PySem.W.Frag) : V → Option Int → Option Int → Hp → VK → Prop := fun x lo hi H Q => rSlA K x lo hi H Q ∨ rSlL K x lo hi H Q
theorem sl_any : L2.SlR X (rSl X.K) := sl_tupA.or sl_list
theorem slc_ok {x : V} {a : D} {o : Opd} {lo hi : Option Int} (r : SR K F σ H s) (hx : View K F H x a) (e : slcD lo hi a = some o) (q : Res K F σ H s o Q) : rSl K x lo hi H Q := by
  unfold slcD at e
  split at e
  · cases e
    obtain ⟨a1, vs1, rfl, h1, r1⟩ := hx.tup_
    refine .inl ⟨a1, vs1, rfl, h1, fun z => ?_, fun _ p n => q.tup r (cut_rel r1) (Nat.le_trans (cut_len _ _ _) hx.lenT) n⟩
    refine q.val r (.tup h1 ?_ (Nat.le_trans (cut_len _ _ _) hx.lenT))
    have e1 : cutV vs1 lo hi = vs1 := by
      unfold cutV
      rw [z.1, z.2]
      simp
    have := cut_rel (lo := lo) (hi := hi) r1
    rw [e1] at this
    exact this
  · cases e
    obtain ⟨a1, vs1, rfl, h1, r1⟩ := hx.list
    exact .inr ⟨a1, vs1, rfl, SqL.of h1, fun p n => q.lst r (cut_rel r1) (Nat.le_trans (cut_len _ _ _) hx.lenL) n⟩
  · cases e
/-! ### isinstance -/
theorem tyx_tup {a : Addr} (h : SqT K H a vs) : TyX K H (.ref a) (.type "tuple") := by
  rcases h with (h | ⟨o, h⟩) | ⟨o, its, n, h1, h2, _⟩
  · exact .base (.tup h)
  · exact .fTuple h
  · exact .kTuple h1 h2
theorem isi_ok {ty : String} {b : Bool} (h : View K F H v d) (e : isiD ty d = some b) (q : Q (.bl b) H) : rIsi K [v, .ty ty] H Q := by
  have fin : ∀ {t : String}, TyX K H v (.type t) → kitB t ty = some b → rIsi K [v, .ty ty] H Q := fun {t} h1 h2 => ⟨v, _, _, _, b, rfl, .ty ty, h1, kit_ty h2, q⟩
  unfold isiD at e
  split at e
  · cases h.non_
    split at e
    · rename_i hh
      cases e
      rcases hh with rfl | rfl | rfl | rfl | rfl <;> exact fin (.base .non) (by decide +kernel)
    · cases e
  · cases h.bl_
    split at e
    · rename_i hh
      cases e
      rcases hh with rfl | rfl <;> exact fin (.base (.bl _)) (by decide +kernel)
    · split at e
      · rename_i hh
        cases e
        rcases hh with rfl | rfl | rfl <;> exact fin (.base (.bl _)) (by decide +kernel)
      · cases e
  · cases h.int_
    split at e
    · rename_i hh
      cases e; cases hh
      exact fin (.base (.int _)) (by decide +kernel)
    · split at e
      · rename_i hh
        cases e
        rcases hh with rfl | rfl | rfl | rfl <;> exact fin (.base (.int _)) (by decide +kernel)
      · cases e
  · cases h.str_
    split at e
    · rename_i hh
      cases e; cases hh
      exact fin (.base (.str _)) (by decide +kernel)
    · split at e
      · rename_i hh
        cases e
        rcases hh with rfl | rfl | rfl | rfl <;> exact fin (.base (.str _)) (by decide +kernel)
      · cases e
  · obtain ⟨a, vs, rfl, h1, h2⟩ := h.tup_
    split at e
    · rename_i hh
      cases e; cases hh
      exact fin (tyx_tup h1) (by decide +kernel)
    · split at e
      · rename_i hh
        cases e
        rcases hh with rfl | rfl | rfl | rfl <;> exact fin (tyx_tup h1) (by decide +kernel)
      · cases e
  · obtain ⟨a, vs, rfl, h1, h2⟩ := h.list
    split at e
    · rename_i hh
      cases e; cases hh
      exact fin (.base (.lst h1)) (by decide +kernel)
    · split at e
      · rename_i hh
        cases e
        rcases hh with rfl | rfl | rfl | rfl <;> exact fin (.base (.lst h1)) (by decide +kernel)
      · cases e
  · cases e
/-! ### built-ins -/
inductive Views (K : PySem.W.Frag) (F : ASet) (H : Hp) : List V → List D → Prop
  | nil : Views K F H [] []
  | cons {v : V} {vs : List V} {d : D} {ds : List D} (h : View K F H v d) (r : Views K F H vs ds) : Views K F H (v :: vs) (d :: ds)
def bltV (f : String) : Value := if f = "tuple" ∨ f = "list" ∨ f = "int" then .type f else .builtin f
theorem maxI_mem : ∀ (m : Int) (ns : List Int), maxI m ns ∈ m :: ns ∧ ∀ y ∈ m :: ns, y ≤ maxI m ns
  | m, [] => ⟨by simp [maxI], by simp [maxI]⟩
  | m, x :: r => by
    unfold maxI
    obtain ⟨h1, h2⟩ := maxI_mem (if x > m then x else m) r
    refine ⟨?_, fun y hy => ?_⟩
    · rcases List.mem_cons.mp h1 with h | h
      · rw [h]; split <;> simp
      · exact List.mem_cons_of_mem _ (List.mem_cons_of_mem _ h)
    · have h0 := h2 (if x > m then x else m) (by simp)
      have h3 : m ≤ (if x > m then x else m) ∧ x ≤ (if x > m then x else m) := by split <;> omega
      rcases List.mem_cons.mp hy with rfl | hy
      · exact Int.le_trans h3.1 h0
      · rcases List.mem_cons.mp hy with rfl | hy
        · exact Int.le_trans h3.2 h0
        · exact h2 y (List.mem_cons_of_mem _ hy)
theorem sortI_perm (ns : List Int) : (sortI ns).Perm ns := List.mergeSort_perm ns _
theorem sortI_pw (ns : List Int) : (sortI ns).Pairwise (· ≤ ·) := by
  have h := List.pairwise_mergeSort (le := fun a b : Int => decide (a ≤ b)) (fun a b c h1 h2 => by simp at h1 h2 ⊢; omega) (fun a b => by simp; omega) ns
  exact h.imp fun h => by simpa using h
theorem sort_uniq {a b : List Int} (p : a.Perm b) (ha : a.Pairwise (· ≤ ·)) (hb : b.Pairwise (· ≤ ·)) : a = b :=
  List.Perm.eq_of_pairwise (fun x y _ _ h1 h2 => by omega) ha hb p
theorem blt_ok {f : String} {o : Opd} (hc : X.calm = true) (r : SR X.K F σ H s) (hv : Views X.K F H vs ds) (e : bltD f ds = some o) (q : Res X.K F σ H s o Q) : WpCall X (bltV f) vs H Q := by
  unfold bltD at e
  split at e
  · cases hv with | cons h hr => cases hr; cases h.int_
                                 split at e
                                 · rename_i hf
                                   cases e; cases hf
                                   exact .of call_abs ⟨_, rfl, q.int r⟩
                                 · split at e
                                   · rename_i hf
                                     cases e; cases hf
                                     exact .of call_int1 (.inl ⟨_, rfl, q.int r⟩)
                                   · cases e
  · cases hv with | cons h hr => cases hr; cases h.bl_
                                 split at e
                                 · rename_i hf
                                   cases e; cases hf
                                   exact .of call_int1 (.inr ⟨_, rfl, q.int r⟩)
                                 · cases e
  · cases hv with | cons h hr => cases hr with | cons h' hr => cases hr; cases h.int_; cases h'.int_
                                                               split at e
                                                               · rename_i hf
                                                                 cases e; cases hf
                                                                 exact .of (call_max2 hc) ⟨_, _, rfl, q.int r⟩
                                                               · split at e
                                                                 · rename_i hf
                                                                   cases e; cases hf
                                                                   exact .of (call_min2 hc) ⟨_, _, rfl, q.int r⟩
                                                                 · split at e
                                                                   · rename_i hf
                                                                     cases hf
                                                                     split at e
                                                                     · rename_i hd
                                                                       cases e
                                                                       exact .of call_divmod ⟨_, _, rfl, hd, fun p n => q.tup r (.cons (.int _) (.cons (.int _) .nil)) (by show 2 ≤ 16777216; decide) n⟩
                                                                     · cases e
                                                                   · cases e
  · cases hv with
    | cons h hr =>
      cases hr
      obtain ⟨a, rfl, h1⟩ := h.scr_
      split at e
      · rename_i hf
        cases e; cases hf
        refine .of call_len_seq ⟨a, _, rfl, .inl h1, ?_⟩
        rw [List.length_map]
        exact q.int r
      · cases e
  · cases hv with
    | cons h hr =>
      cases hr
      obtain ⟨a, us, rfl, h1, h2⟩ := h.tup_
      split at e
      · rename_i hf
        cases e; cases hf
        refine .of call_len_seq ⟨a, _, rfl, .inr h1, ?_⟩
        rw [h2.len]
        exact q.int r
      · split at e
        · rename_i hf
          cases e; cases hf
          exact .of call_tuple_of ⟨a, us, rfl, .inr ⟨h1, q.val r (.tup h1 h2 h.lenT)⟩⟩
        · split at e
          · rename_i hf
            cases e; cases hf
            exact .of call_list_of ⟨a, us, rfl, .inr h1, fun p n => q.lst r h2 h.lenT n⟩
          · cases e
  · cases hv with
    | cons h hr =>
      cases hr
      obtain ⟨a, us, rfl, h1, h2⟩ := h.list
      split at e
      · rename_i hf
        cases e; cases hf
        refine .of call_len_seq ⟨a, _, rfl, .inl (SqL.of h1), ?_⟩
        rw [h2.len]
        exact q.int r
      · split at e
        · rename_i hf
          cases e; cases hf
          exact .of call_tuple_of ⟨a, us, rfl, .inl ⟨SqL.of h1, fun p n => q.tup r h2 h.lenL n⟩⟩
        · split at e
          · rename_i hf
            cases e; cases hf
            exact .of call_list_of ⟨a, us, rfl, .inl (SqL.of h1), fun p n => q.lst r h2 h.lenL n⟩
          · split at e
            · rename_i hf
              cases hf
              simp only [Option.map_eq_some_iff] at e
              obtain ⟨ns, e1, rfl⟩ := e
              rw [h2.ints e1] at h1
              exact .of (cr_sum hc) ⟨a, ns, rfl, SqL.of h1, q.int r⟩
            · split at e
              · rename_i hf
                cases hf
                simp only [Option.map_eq_some_iff] at e
                obtain ⟨ns, e1, rfl⟩ := e
                rw [h2.bls e1] at h1
                exact .of (cr_all hc) ⟨a, ns, rfl, SqL.of h1, q.bl r⟩
              · split at e
                · rename_i hf
                  cases hf
                  simp only [Option.map_eq_some_iff] at e
                  obtain ⟨ns, e1, rfl⟩ := e
                  rw [h2.bls e1] at h1
                  exact .of (cr_any hc) ⟨a, ns, rfl, SqL.of h1, q.bl r⟩
                · split at e
                  · rename_i hf
                    cases hf
                    simp only [Option.map_eq_some_iff] at e
                    obtain ⟨ns, e1, rfl⟩ := e
                    rw [h2.ints e1] at h1
                    refine .of cr_sortedI ⟨a, ns, rfl, SqL.of h1, fun ns' p hp hw n => ?_⟩
                    have e2 : ns' = sortI ns := sort_uniq (hp.trans (sortI_perm ns).symm) hw (sortI_pw ns)
                    rw [e2]
                    refine q.lst r (RelL.of_ints _) ?_ n
                    have e3 := congrArg List.length (h2.ints e1)
                    have e4 := h.lenL
                    rw [List.length_map, (sortI_perm ns).length_eq]
                    rw [h2.len, List.length_map] at e3
                    omega
                  · split at e
                    · rename_i hf
                      cases hf
                      split at e
                      · rename_i m ns e1
                        cases e
                        rw [h2.ints e1] at h1
                        refine .of (cr_max hc) ⟨a, m :: ns, rfl, SqL.of h1, by simp, fun z hz hm => ?_⟩
                        obtain ⟨g1, g2⟩ := maxI_mem m ns
                        have : z = maxI m ns := by
                          have := hm _ g1
                          have := g2 _ hz
                          omega
                        rw [this]
                        exact q.int r
                      · cases e
                    · cases e
  · cases e
end
end Cv
set_option maxRecDepth 100000
set_option maxHeartbeats 1000000
set_option autoImplicit false
/-! Engine, part E: expressions mean what den tells. -/
namespace Cv
open PySem PySem.Spec L2
/-! ### wps of texts -/
section
variable {X : Cx} {e a b c : Expr} {σ : St} {H : Hp} {Q : VK} {pos : Pos}
def WpE (X : Cx) (e : Expr) : TE := fun σ H Q => ∀ (pins : List (Addr × Obj)) (s : Shared), Inv X pins σ H s → wpAny (model X.prog X.w) X.A (eval e X.env) (EP X pins σ Q) X.xe s
theorem pe_w : PE X e (WpE X e) := ⟨fun pins s σ H Q I h => h pins s I⟩
theorem WpE.of {t : TE} (h : PE X e t) (q : t σ H Q) : WpE X e σ H Q := fun pins s I => h.run pins s σ H Q I q
def WpT (X : Cx) (e : Expr) : TT := fun σ H Q => ∀ (pins : List (Addr × Obj)) (s : Shared), Inv X pins σ H s → wpAny (model X.prog X.w) X.A (isTrue e X.env (eval e X.env)) (TP X pins σ Q) X.xe s
theorem pt_w : PT X e (WpT X e) := ⟨fun pins s σ H Q I h => h pins s I⟩
theorem WpT.of {t : TT} {Q : Bool → Hp → Prop} (h : PT X e t) (q : t σ H Q) : WpT X e σ H Q := fun pins s I => h.run pins s σ H Q I q
def WpA (X : Cx) (es : List Expr) : TA := fun σ H Q => ∀ (pos : Pos) (pins : List (Addr × Obj)) (s : Shared), Inv X pins σ H s → wpAny (model X.prog X.w) X.A (spliced (backTo pos (starEach es X.env))) (AP X pins σ Q) X.xe s
theorem pa_w {es : List Expr} : PA X es (WpA X es) := ⟨fun pos pins s σ H Q I h => h pos pins s I⟩
theorem WpA.of {es : List Expr} {t : TA} {Q : List V → Hp → Prop} (h : PA X es t) (q : t σ H Q) : WpA X es σ H Q := fun pos pins s I => h.run pos pins s σ H Q I q
end
/-- the class of the name c may leave X -/
def Acc (X : Cx) (σ : St) (H : Hp) (O : ASet) (c : String) : Prop :=
  ∃ W, Takes X W ∧ ∀ H', (∀ b o, H b = some o → ¬ O b → H' b = some o) → ∀ C, X.mg (Str.ofString c) = some (.ref C) → W (.ref C) none σ H'
theorem Acc.mono {X : Cx} {σ : St} {F F' O O' : ASet} {H H' : Hp} {c : String} (a : Acc X σ H O c) (e : Ext F O H F' O' H') : Acc X σ H' O' c := by
  obtain ⟨W, t, h⟩ := a
  refine ⟨W, t, fun H2 f C m => h H2 (fun b o q n => f b o (e.fr b o q n) fun z => ?_) C m⟩
  rcases e.own b z with z | z
  · exact n z
  · rw [q] at z; cases z
def SimE (X : Cx) (e : Expr) (m : DEnv → R (Opd × DEnv)) : Prop := ∀ (F : ASet) (σ : St) (H : Hp) (s : DEnv) (Q : VK), SR X.K F σ H s →
  RP (m s) (fun r => ∀ F' v H', EPost X.K F σ H s F' H' r.2 → OR X.K F' σ H H' r.2 v r.1 → Q v H') (Acc X σ H (Own σ s)) → WpE X e σ H Q
def SimT (X : Cx) (e : Expr) (m : DEnv → R (Bool × DEnv)) : Prop := ∀ (F : ASet) (σ : St) (H : Hp) (s : DEnv) (Q : Bool → Hp → Prop), SR X.K F σ H s →
  RP (m s) (fun r => ∀ F' H', EPost X.K F σ H s F' H' r.2 → Q r.1 H') (Acc X σ H (Own σ s)) → WpT X e σ H Q
def SimA (X : Cx) (es : List Expr) (m : DEnv → R (List D × DEnv)) : Prop := ∀ (F : ASet) (σ : St) (H : Hp) (s : DEnv) (Q : List V → Hp → Prop), SR X.K F σ H s →
  RP (m s) (fun r => ∀ F' vs H', EPost X.K F σ H s F' H' r.2 → RelL X.K F' H' vs r.1 → Q vs H') (Acc X σ H (Own σ s)) → WpA X es σ H Q
inductive ORs (K : PySem.W.Frag) (F : ASet) (σ : St) (H0 H : Hp) (s : DEnv) : List V → List Opd → Prop
  | nil : ORs K F σ H0 H s [] []
  | cons {v : V} {vs : List V} {o : Opd} {os : List Opd} (h : OR K F σ H0 H s v o) (r : ORs K F σ H0 H s vs os) : ORs K F σ H0 H s (v :: vs) (o :: os)
def SimO (X : Cx) (es : List Expr) (m : DEnv → R (List Opd × DEnv)) : Prop := ∀ (F : ASet) (σ : St) (H : Hp) (s : DEnv) (Q : List V → Hp → Prop), SR X.K F σ H s →
  RP (m s) (fun r => ∀ F' vs H', EPost X.K F σ H s F' H' r.2 → ORs X.K F' σ H H' r.2 vs r.1 → Q vs H') (Acc X σ H (Own σ s)) → WpA X es σ H Q
section
variable {X : Cx} {e a b c : Expr} {pos : Pos} {m ma mb mc : DEnv → R (Opd × DEnv)} {F F1 : ASet} {σ : St} {H H1 : Hp} {s s1 : DEnv} {Q : VK} {es : List Expr}
/-- a part runs behind others -/
theorem SimE.run (h : SimE X e m) (p : EPost X.K F σ H s F1 H1 s1) {P : Opd × DEnv → Prop} (w : RP (m s1) P (Acc X σ H (Own σ s)))
    (k : ∀ r F2 v H2, P r → EPost X.K F σ H s F2 H2 r.2 → EPost X.K F1 σ H1 s1 F2 H2 r.2 → OR X.K F2 σ H1 H2 r.2 v r.1 → Q v H2) : WpE X e σ H1 Q :=
  h F1 σ H1 s1 Q p.sr (w.mono (fun r hr F2 v H2 q o => k r F2 v H2 hr (p.trans q) q o) fun c a => a.mono p.ext)
theorem SimT.run {m : DEnv → R (Bool × DEnv)} {Q : Bool → Hp → Prop} (h : SimT X e m) (p : EPost X.K F σ H s F1 H1 s1) {P : Bool × DEnv → Prop} (w : RP (m s1) P (Acc X σ H (Own σ s)))
    (k : ∀ r F2 H2, P r → EPost X.K F σ H s F2 H2 r.2 → Q r.1 H2) : WpT X e σ H1 Q :=
  h F1 σ H1 s1 Q p.sr (w.mono (fun r hr F2 H2 q => k r F2 H2 hr (p.trans q)) fun c a => a.mono p.ext)
theorem SimA.run {m : DEnv → R (List D × DEnv)} {Q : List V → Hp → Prop} (h : SimA X es m) (p : EPost X.K F σ H s F1 H1 s1) {P : List D × DEnv → Prop} (w : RP (m s1) P (Acc X σ H (Own σ s)))
    (k : ∀ r F2 vs H2, P r → EPost X.K F σ H s F2 H2 r.2 → EPost X.K F1 σ H1 s1 F2 H2 r.2 → RelL X.K F2 H2 vs r.1 → Q vs H2) : WpA X es σ H1 Q :=
  h F1 σ H1 s1 Q p.sr (w.mono (fun r hr F2 v H2 q o => k r F2 v H2 hr (p.trans q) q o) fun c a => a.mono p.ext)
theorem SimO.run {m : DEnv → R (List Opd × DEnv)} {Q : List V → Hp → Prop} (h : SimO X es m) (p : EPost X.K F σ H s F1 H1 s1) {P : List Opd × DEnv → Prop} (w : RP (m s1) P (Acc X σ H (Own σ s)))
    (k : ∀ r F2 vs H2, P r → EPost X.K F σ H s F2 H2 r.2 → EPost X.K F1 σ H1 s1 F2 H2 r.2 → ORs X.K F2 σ H1 H2 r.2 vs r.1 → Q vs H2) : WpA X es σ H1 Q :=
  h F1 σ H1 s1 Q p.sr (w.mono (fun r hr F2 v H2 q o => k r F2 v H2 hr (p.trans q) q o) fun c a => a.mono p.ext)
/-- an operation's end: its result goes on -/
theorem res_of {o : Opd} (p : EPost X.K F σ H s F1 H1 s1) (k : ∀ F' v H', EPost X.K F σ H s F' H' s1 → OR X.K F' σ H H' s1 v o → Q v H') : Res X.K F1 σ H1 s1 o Q :=
  fun z H' q r => k F1 z H' (p.trans q) (r.early p.ext.dm)

/-! ### names, constants -/
theorem sim_var {i : Nat} {x : Str} {C : Cal} (hN : X.N[i]? = some x) (hv : Vis X.env.scope x) (hd : (x == ("__debug__" : Str)) = false) (hcd : (x == ("__classdict__" : Str)) = false) : SimE X (.Name x pos) (denE C (.var i)) := by
  intro F σ H s Q sr w
  simp only [denE] at w
  cases q : s[i]? with
  | none => rw [q] at w; exact w.elim
  | some y =>
    rw [q] at w
    cases y with
    | none => exact w.elim
    | some x =>
      obtain ⟨v, e1, e2⟩ := sr.ats i x q
      refine .of (pe_var hN hv hd hcd) ⟨v, e1, ?_⟩
      cases x with
      | val d => exact w F v H (.refl sr) e2
      | own ds => exact w F v H (.refl sr) ⟨e1, _, q⟩
      | io ds => exact w F v H (.refl sr) ⟨e1, _, q⟩
theorem sim_cst {t : TE} {d : D} {v : V} {C : Cal} (h : PE X e (tC v)) (r : ∀ F H, Rel X.K F H v d) : SimE X e (denE C (.cst d)) := by
  intro F σ H s Q sr w
  simp only [denE] at w
  exact .of h (w F v H (.refl sr) (r F H))
theorem sim_glob {x : String} {d : D} {v : V} {C : Cal} (h : PE X e (tC v)) (r : ∀ F H, Rel X.K F H v d) : SimE X e (denE C (.glob x d)) := by
  intro F σ H s Q sr w
  simp only [denE] at w
  exact .of h (w F v H (.refl sr) (r F H))
/-! ### operators -/
variable {C : Cal} {ia ib ic : IE}
theorem sim_bin {op : Bop} (ha : SimE X a (denE C ia)) (hb : SimE X b (denE C ib)) : SimE X (.BinOp a (opOf op) b pos) (denE C (.bin op ia ib)) := by
  intro F σ H s Q sr w
  simp only [denE] at w
  refine .of (pe_op (opr_wp _) pe_w pe_w) ?_
  refine ha.run (.refl sr) w.bind fun x F1 v1 H1 w1 p1 q1 o1 => ?_
  refine hb.run p1 w1.bind fun y F2 v2 H2 w2 p2 q2 o2 => ?_
  obtain ⟨u, eu, w3⟩ := w2.bind.ofO
  obtain ⟨v, ev, w4⟩ := w3.bind.ofO
  obtain ⟨r, er, w5⟩ := w4.bind.ofO
  exact bin_ok p2.sr (p2.sr.view (o1.mono q2 p1.sr) eu) (p2.sr.view o2 ev) er (res_of p2 w5)
theorem sim_neg (ha : SimE X a (denE C ia)) : SimE X (.UnaryOp .USub a pos) (denE C (.neg ia)) := by
  intro F σ H s Q sr w
  simp only [denE] at w
  refine .of (pe_un un_neg pe_w) ?_
  refine ha.run (.refl sr) w.bind fun x F1 v1 H1 w1 p1 q1 o1 => ?_
  obtain ⟨u, eu, w3⟩ := w1.bind.ofO
  cases u with
  | int i =>
    cases (p1.sr.view o1 eu).int_
    exact ⟨i, rfl, w3 F1 _ H1 p1 (.int _)⟩
  | _ => exact w3.elim
theorem sim_cmp {op : Cop} (hu : X.A.units + 65 < cLine) (hm : behindInMarks (copOf op) b = false) (ha : SimE X a (denE C ia)) (hb : SimE X b (denE C ib)) : SimE X (.Compare a [copOf op] [b] pos) (denE C (.cmp op ia ib)) := by
  intro F σ H s Q sr w
  simp only [denE] at w
  refine .of (pe_cmpR (opr_wp _) pe_w pe_w hm) ?_
  refine ha.run (.refl sr) w.bind fun x F1 v1 H1 w1 p1 q1 o1 => ?_
  refine hb.run p1 w1.bind fun y F2 v2 H2 w2 p2 q2 o2 => ?_
  obtain ⟨u, eu, w3⟩ := w2.bind.ofO
  obtain ⟨v, ev, w4⟩ := w3.bind.ofO
  obtain ⟨r, er, w5⟩ := w4.bind.ofO
  exact cmp_ok hu p2.sr (p2.sr.view (o1.mono q2 p1.sr) eu) (p2.sr.view o2 ev) er (w5 F2 _ H2 p2 (.bl r))
theorem sim_chain {o1 o2 : Cop} (hu : X.A.units + 65 < cLine) (hm : lastMarks [copOf o1, copOf o2] [b, c] = false) (ha : SimE X a (denE C ia)) (hb : SimE X b (denE C ib)) (hc : SimE X c (denE C ic)) :
    SimE X (.Compare a [copOf o1, copOf o2] [b, c] pos) (denE C (.chain o1 o2 ia ib ic)) := by
  intro F σ H s Q sr w
  simp only [denE] at w
  refine .of (pe_chain (opr_wp _) (opr_wp _) pe_w pe_w pe_w hm) ?_
  refine ha.run (.refl sr) w.bind fun x F1 v1 H1 w1 p1 q1 o1' => ?_
  refine hb.run p1 w1.bind fun y F2 v2 H2 w2 p2 q2 o2' => ?_
  obtain ⟨u, eu, w3⟩ := w2.bind.ofO
  obtain ⟨v, ev, w4⟩ := w3.bind.ofO
  obtain ⟨r, er, w5⟩ := w4.bind.ofO
  refine cmp_ok hu p2.sr (p2.sr.view (o1'.mono q2 p1.sr) eu) (p2.sr.view o2' ev) er ?_
  refine ⟨r, rfl, ?_⟩
  cases r with
  | false => exact w5 F2 _ H2 p2 (.bl _)
  | true =>
    simp only [if_true] at w5 ⊢
    refine hc.run p2 w5.bind fun z F3 v3 H3 w6 p3 q3 o3' => ?_
    obtain ⟨u2, eu2, w7⟩ := w6.bind.ofO
    obtain ⟨v2, ev2, w8⟩ := w7.bind.ofO
    obtain ⟨r2, er2, w9⟩ := w8.bind.ofO
    exact cmp_ok hu p3.sr (p3.sr.view (o2'.mono q3 p2.sr) eu2) (p3.sr.view o3' ev2) er2 (w9 F3 _ H3 p3 (.bl r2))
theorem sim_not (ha : SimE X a (denE C ia)) : SimE X (.UnaryOp .Not a pos) (denE C (.not_ ia)) := by
  intro F σ H s Q sr w
  simp only [denE] at w
  refine .of (pe_notT pe_w) ?_
  refine ha.run (.refl sr) w.bind fun x F1 v1 H1 w1 p1 q1 o1 => ?_
  obtain ⟨u, eu, w3⟩ := w1.bind.ofO
  obtain ⟨t, et, w4⟩ := w3.bind.ofO
  exact ⟨t, tru_v (p1.sr.view o1 eu) et, w4 F1 _ H1 p1 (.bl _)⟩
theorem sim_one {op : BoolOp} {m : DEnv → R (Opd × DEnv)} (ha : SimE X a m) : SimE X (.BoolOp op [a] pos) m := fun F σ H s Q sr w => .of (pe_one pe_w) (ha F σ H s Q sr w)
theorem sim_and {rest : List Expr} (ha : SimE X a (denE C ia)) (hb : SimE X (.BoolOp .And (b :: rest) pos) (denE C ib)) : SimE X (.BoolOp .And (a :: b :: rest) pos) (denE C (.and_ ia ib)) := by
  intro F σ H s Q sr w
  simp only [denE] at w
  refine .of (pe_andT pe_w pe_w) ?_
  refine ha.run (.refl sr) w.bind fun x F1 v1 H1 w1 p1 q1 o1 => ?_
  obtain ⟨u, eu, w3⟩ := w1.bind.ofO
  obtain ⟨t, et, w4⟩ := w3.bind.ofO
  refine ⟨t, tru_v (p1.sr.view o1 eu) et, ?_⟩
  cases t with
  | false => exact w4 F1 v1 H1 p1 o1
  | true =>
    simp only [if_true] at w4 ⊢
    exact hb.run p1 w4 fun y F2 v2 H2 w5 p2 q2 o2 => w5 F2 v2 H2 p2 (o2.early p1.ext.dm)
theorem sim_or {rest : List Expr} (ha : SimE X a (denE C ia)) (hb : SimE X (.BoolOp .Or (b :: rest) pos) (denE C ib)) : SimE X (.BoolOp .Or (a :: b :: rest) pos) (denE C (.or_ ia ib)) := by
  intro F σ H s Q sr w
  simp only [denE] at w
  refine .of (pe_orT pe_w pe_w) ?_
  refine ha.run (.refl sr) w.bind fun x F1 v1 H1 w1 p1 q1 o1 => ?_
  obtain ⟨u, eu, w3⟩ := w1.bind.ofO
  obtain ⟨t, et, w4⟩ := w3.bind.ofO
  refine ⟨t, tru_v (p1.sr.view o1 eu) et, ?_⟩
  cases t with
  | true => exact w4 F1 v1 H1 p1 o1
  | false =>
    simp only [Bool.false_eq_true, if_false] at w4 ⊢
    exact hb.run p1 w4 fun y F2 v2 H2 w5 p2 q2 o2 => w5 F2 v2 H2 p2 (o2.early p1.ext.dm)
/-! ### tests -/
theorem simT_truth (ha : SimE X a (denE C ia)) (he : ∀ whole, isTrue a X.env whole = (do let v ← whole; standAt a.pos; holding [v] (truthy v))) : SimT X a (denT C ia) := by
  intro F σ H s Q sr w
  simp only [denT, tstR] at w
  refine .of (pt_truth pe_w he) ?_
  refine ha.run (.refl sr) w.bind fun x F1 v1 H1 w1 p1 q1 o1 => ?_
  obtain ⟨u, eu, w3⟩ := w1.bind.ofO
  obtain ⟨t, et, w4⟩ := w3.bind.ofO
  exact ⟨t, tru_v (p1.sr.view o1 eu) et, w4 F1 H1 p1⟩
theorem simT_cmp {op : Cop} (hu : X.A.units + 65 < cLine) (hm : behindInMarks (copOf op) b = false) (ha : SimE X a (denE C ia)) (hb : SimE X b (denE C ib)) : SimT X (.Compare a [copOf op] [b] pos) (denT C (.cmp op ia ib)) := by
  intro F σ H s Q sr w
  simp only [denT, tstR, denE] at w
  refine .of (pt_cmpR (opr_wp _) pe_w pe_w hm) ?_
  have w := w.bind
  refine ha.run (.refl sr) w.bind fun x F1 v1 H1 w1 p1 q1 o1 => ?_
  refine hb.run p1 w1.bind fun y F2 v2 H2 w2 p2 q2 o2 => ?_
  obtain ⟨u, eu, w3⟩ := w2.bind.ofO
  obtain ⟨v, ev, w4⟩ := w3.bind.ofO
  obtain ⟨r, er, w5⟩ := w4.bind.ofO
  exact cmp_ok hu p2.sr (p2.sr.view (o1.mono q2 p1.sr) eu) (p2.sr.view o2 ev) er ⟨r, rfl, w5 F2 H2 p2⟩
theorem simT_chain {o1 o2 : Cop} (hu : X.A.units + 65 < cLine) (hm : lastMarks [copOf o1, copOf o2] [b, c] = false) (ha : SimE X a (denE C ia)) (hb : SimE X b (denE C ib)) (hc : SimE X c (denE C ic)) :
    SimT X (.Compare a [copOf o1, copOf o2] [b, c] pos) (denT C (.chain o1 o2 ia ib ic)) := by
  intro F σ H s Q sr w
  simp only [denT, tstR, denE] at w
  refine .of (pt_chain (opr_wp _) (opr_wp _) pe_w pe_w pe_w hm) ?_
  have w := w.bind
  refine ha.run (.refl sr) w.bind fun x F1 v1 H1 w1 p1 q1 o1' => ?_
  refine hb.run p1 w1.bind fun y F2 v2 H2 w2 p2 q2 o2' => ?_
  obtain ⟨u, eu, w3⟩ := w2.bind.ofO
  obtain ⟨v, ev, w4⟩ := w3.bind.ofO
  obtain ⟨r, er, w5⟩ := w4.bind.ofO
  refine cmp_ok hu p2.sr (p2.sr.view (o1'.mono q2 p1.sr) eu) (p2.sr.view o2' ev) er ?_
  refine ⟨r, rfl, ?_⟩
  cases r with
  | false => exact ⟨false, rfl, w5 F2 H2 p2⟩
  | true =>
    simp only [if_true] at w5 ⊢
    refine hc.run p2 w5.bind fun z F3 v3 H3 w6 p3 q3 o3' => ?_
    obtain ⟨u2, eu2, w7⟩ := w6.bind.ofO
    obtain ⟨v2, ev2, w8⟩ := w7.bind.ofO
    obtain ⟨r2, er2, w9⟩ := w8.bind.ofO
    exact cmp_ok hu p3.sr (p3.sr.view (o2'.mono q3 p2.sr) eu2) (p3.sr.view o3' ev2) er2 ⟨r2, rfl, w9 F3 H3 p3⟩
theorem simT_not (ha : SimT X a (denT C ia)) : SimT X (.UnaryOp .Not a pos) (denT C (.not_ ia)) := by
  intro F σ H s Q sr w
  simp only [denT, tstR, denE] at w
  refine .of (pt_not pt_w) ?_
  refine ha F σ H s _ sr ?_
  simp only [denT, tstR]
  cases h1 : denE C ia s with
  | bad => rw [h1] at w; exact w
  | exn c => rw [h1] at w; exact w
  | ok x =>
    rw [h1] at w
    show RP ((R.ofO (deref x.2 x.1)).bind _) _ _
    have w : RP (((R.ofO (deref x.2 x.1)).bind fun u => (R.ofO (truD u)).bind fun t => R.ok (Opd.val (.bl (!t)), x.2)).bind _) _ _ := w
    cases h2 : deref x.2 x.1 with
    | none => rw [h2] at w; exact w
    | some u =>
      rw [h2] at w
      show RP ((R.ofO (truD u)).bind _) _ _
      have w : RP (((R.ofO (truD u)).bind fun t => R.ok (Opd.val (.bl (!t)), x.2)).bind _) _ _ := w
      cases h3 : truD u with
      | none => rw [h3] at w; exact w
      | some t => rw [h3] at w; exact fun F' H' p => w F' H' p
theorem simT_and1 {m : DEnv → R (Bool × DEnv)} (ha : SimT X a m) : SimT X (.BoolOp .And [a] pos) m := fun F σ H s Q sr w => .of (pw_and1 pt_w).pt (ha F σ H s Q sr w)
theorem simT_or1 {m : DEnv → R (Bool × DEnv)} (ha : SimT X a m) : SimT X (.BoolOp .Or [a] pos) m := fun F σ H s Q sr w => .of (pw_or1 pt_w).pt (ha F σ H s Q sr w)
end
end Cv
set_option maxRecDepth 100000
set_option maxHeartbeats 1000000
set_option autoImplicit false
/-! Engine, part F: more expressions. -/
namespace Cv
open PySem PySem.Spec L2
/-! ### tests of and, or, if-else -/
section
variable {C : Cal} {a b c : IE} {s : DEnv}
theorem R.bind_ok {α β : Type} (x : α) (f : α → R β) : (R.ok x).bind f = f x := rfl
theorem R.bind_assoc {α β γ : Type} (r : R α) (f : α → R β) (g : β → R γ) : (r.bind f).bind g = r.bind fun x => (f x).bind g := by cases r <;> rfl
theorem denT_and : denT C (.and_ a b) s = (denT C a s).bind fun t => if t.1 then denT C b t.2 else .ok (false, t.2) := by
  simp only [denT, tstR, denE, R.bind_assoc]
  congr 1; funext x
  cases h2 : deref x.2 x.1 with
  | none => rfl
  | some u =>
    show (R.ofO (truD u)).bind _ = (R.ofO (truD u)).bind _
    cases h3 : truD u with
    | none => rfl
    | some t =>
      cases t with
      | true => rfl
      | false =>
        show ((R.ofO (deref x.2 x.1)).bind fun u => (R.ofO (truD u)).bind fun t => R.ok (t, x.2)) = R.ok (false, x.2)
        rw [h2]
        show ((R.ofO (truD u)).bind fun t => R.ok (t, x.2)) = R.ok (false, x.2)
        rw [h3]
        rfl
theorem denT_or : denT C (.or_ a b) s = (denT C a s).bind fun t => if t.1 then .ok (true, t.2) else denT C b t.2 := by
  simp only [denT, tstR, denE, R.bind_assoc]
  congr 1; funext x
  cases h2 : deref x.2 x.1 with
  | none => rfl
  | some u =>
    show (R.ofO (truD u)).bind _ = (R.ofO (truD u)).bind _
    cases h3 : truD u with
    | none => rfl
    | some t =>
      cases t with
      | false => rfl
      | true =>
        show ((R.ofO (deref x.2 x.1)).bind fun u => (R.ofO (truD u)).bind fun t => R.ok (t, x.2)) = R.ok (true, x.2)
        rw [h2]
        show ((R.ofO (truD u)).bind fun t => R.ok (t, x.2)) = R.ok (true, x.2)
        rw [h3]
        rfl
theorem denE_ite : denE C (.ite c a b) s = (denT C c s).bind fun t => if t.1 then denE C a t.2 else denE C b t.2 := by
  simp only [denT, tstR, denE, R.bind_assoc]
  rfl
end
def SimW (X : Cx) (e : Expr) (m : DEnv → R (Bool × DEnv)) : Prop := ∀ (whole : Sem Value) (F : ASet) (σ : St) (H : Hp) (s : DEnv) (Q : Bool → Hp → Prop), SR X.K F σ H s →
  RP (m s) (fun r => ∀ F' H', EPost X.K F σ H s F' H' r.2 → Q r.1 H') (Acc X σ H (Own σ s)) → ∀ (pins : List (Addr × Obj)) (sh : Shared), Inv X pins σ H sh → wpAny (model X.prog X.w) X.A (isTrue e X.env whole) (TP X pins σ Q) X.xe sh
section
variable {X : Cx} {e a b c : Expr} {pos p2 : Pos} {F F1 : ASet} {σ : St} {H H1 : Hp} {s s1 : DEnv} {Q : VK} {es : List Expr} {C : Cal} {ia ib ic : IE}
theorem SimW.t {m : DEnv → R (Bool × DEnv)} (h : SimW X e m) : SimT X e m := fun F σ H s Q sr w pins sh I => h _ F σ H s Q sr w pins sh I
def WpW (X : Cx) (e : Expr) : TT := fun σ H Q => ∀ (whole : Sem Value) (pins : List (Addr × Obj)) (s : Shared), Inv X pins σ H s → wpAny (model X.prog X.w) X.A (isTrue e X.env whole) (TP X pins σ Q) X.xe s
theorem pw_w : PW X e (WpW X e) := ⟨fun wh pins s σ H Q I h => h wh pins s I⟩
theorem simW_and1 {m : DEnv → R (Bool × DEnv)} (ha : SimT X a m) : SimW X (.BoolOp .And [a] pos) m := fun wh F σ H s Q sr w pins sh I => (pw_and1 pt_w).run wh pins sh σ H Q I (ha F σ H s Q sr w)
theorem simW_or1 {m : DEnv → R (Bool × DEnv)} (ha : SimT X a m) : SimW X (.BoolOp .Or [a] pos) m := fun wh F σ H s Q sr w pins sh I => (pw_or1 pt_w).run wh pins sh σ H Q I (ha F σ H s Q sr w)
theorem simW_and {rest : List Expr} (ha : SimT X a (denT C ia)) (hb : SimW X (.BoolOp .And (b :: rest) pos) (denT C ib)) : SimW X (.BoolOp .And (a :: b :: rest) pos) (denT C (.and_ ia ib)) := by
  intro wh F σ H s Q sr w pins sh I
  rw [denT_and] at w
  refine (pw_and pt_w pw_w).run wh pins sh σ H Q I ?_
  refine ha.run (.refl sr) w.bind fun t F1 H1 w1 p1 => ?_
  obtain ⟨t, s1⟩ := t
  cases t with
  | false => exact w1 F1 H1 p1
  | true =>
    simp only [if_true] at w1 ⊢
    exact fun wh pins sh I => hb wh F1 σ H1 s1 Q p1.sr (w1.mono (fun r h F2 H2 p2 => h F2 H2 (p1.trans p2)) fun c a => a.mono p1.ext) pins sh I
theorem simW_or {rest : List Expr} (ha : SimT X a (denT C ia)) (hb : SimW X (.BoolOp .Or (b :: rest) pos) (denT C ib)) : SimW X (.BoolOp .Or (a :: b :: rest) pos) (denT C (.or_ ia ib)) := by
  intro wh F σ H s Q sr w pins sh I
  rw [denT_or] at w
  refine (pw_or pt_w pw_w).run wh pins sh σ H Q I ?_
  refine ha.run (.refl sr) w.bind fun t F1 H1 w1 p1 => ?_
  obtain ⟨t, s1⟩ := t
  cases t with
  | true => exact w1 F1 H1 p1
  | false =>
    simp only [Bool.false_eq_true, if_false] at w1 ⊢
    exact fun wh pins sh I => hb wh F1 σ H1 s1 Q p1.sr (w1.mono (fun r h F2 H2 p2 => h F2 H2 (p1.trans p2)) fun c a => a.mono p1.ext) pins sh I
theorem sim_ite (hc : SimT X c (denT C ic)) (ha : SimE X a (denE C ia)) (hb : SimE X b (denE C ib)) : SimE X (.IfExp c a b pos) (denE C (.ite ic ia ib)) := by
  intro F σ H s Q sr w
  rw [denE_ite] at w
  refine .of (pe_ifExp pt_w pe_w pe_w) ?_
  refine hc.run (.refl sr) w.bind fun t F1 H1 w1 p1 => ?_
  obtain ⟨t, s1⟩ := t
  cases t with
  | true =>
    simp only [if_true] at w1 ⊢
    exact ha.run p1 w1 fun y F2 v2 H2 w5 p2 q2 o2 => w5 F2 v2 H2 p2 (o2.early p1.ext.dm)
  | false =>
    simp only [Bool.false_eq_true, if_false] at w1 ⊢
    exact hb.run p1 w1 fun y F2 v2 H2 w5 p2 q2 o2 => w5 F2 v2 H2 p2 (o2.early p1.ext.dm)
/-! ### subscripts, slices -/
theorem sim_idx (hs : PlainIx b) (ha : SimE X a (denE C ia)) (hb : SimE X b (denE C ib)) : SimE X (.Subscript a b pos) (denE C (.idx ia ib)) := by
  intro F σ H s Q sr w
  simp only [denE] at w
  refine .of (pe_ix ix_seq pe_w pe_w hs) ?_
  refine ha.run (.refl sr) w.bind fun x F1 v1 H1 w1 p1 q1 o1 => ?_
  refine hb.run p1 w1.bind fun y F2 v2 H2 w2 p2 q2 o2 => ?_
  obtain ⟨u, eu, w3⟩ := w2.bind.ofO
  obtain ⟨v, ev, w4⟩ := w3.bind.ofO
  obtain ⟨r, er, w5⟩ := w4.bind.ofO
  exact idx_ok (p2.sr.view (o1.mono q2 p1.sr) eu) (p2.sr.view o2 ev) er fun z hz => w5 F2 z H2 p2 hz
/-- a part of a slice -/
def SimP (X : Cx) (e : Option Expr) (l : Bool) (i : IE) (C : Cal) : Prop := (e = none ∧ l = false) ∨ ∃ a, e = some a ∧ l = true ∧ SimE X a (denE C i)
def WpO (X : Cx) (e : Option Expr) : TO := fun σ H Q => ∀ (pins : List (Addr × Obj)) (s : Shared), Inv X pins σ H s → wpAny (model X.prog X.w) X.A (evalPart e X.env) (fun u s' => ∃ o H', Inv X pins σ H' s' ∧ IsPart u o ∧ Q o H') X.xe s
theorem po_w {e : Option Expr} : PO X e (WpO X e) := ⟨fun pins s σ H Q I h => h pins s I⟩
theorem WpO.of {e : Option Expr} {t : TO} {Q : Option Int → Hp → Prop} (h : PO X e t) (q : t σ H Q) : WpO X e σ H Q := fun pins s I => h.run pins s σ H Q I q
theorem SimP.run {e : Option Expr} {l : Bool} {i : IE} {Q : Option Int → Hp → Prop} (h : SimP X e l i C) (p : EPost X.K F σ H s F1 H1 s1) {P : Option Int → DEnv → Prop}
    (w : RP (if l then denE C i s1 else .ok (.val .non, s1)) (fun y => RP ((R.ofO (deref y.2 y.1)).bind fun u => (R.ofO (optI l u)).bind fun j => R.ok (j, y.2)) (fun r => P r.1 r.2) (Acc X σ H (Own σ s))) (Acc X σ H (Own σ s)))
    (k : ∀ j s2 F2 H2, P j s2 → EPost X.K F σ H s F2 H2 s2 → EPost X.K F1 σ H1 s1 F2 H2 s2 → Q j H2) : WpO X e σ H1 Q := by
  rcases h with ⟨rfl, rfl⟩ | ⟨a, rfl, rfl, h⟩
  · exact .of po_none (k none s1 F1 H1 w p (.refl p.sr))
  · refine .of (po_some pe_w) ?_
    simp only [if_true] at w
    refine h.run p w fun y F2 v2 H2 w2 p2 q2 o2 => ?_
    obtain ⟨u, eu, w3⟩ := w2.bind.ofO
    obtain ⟨j, ej, w4⟩ := w3.bind.ofO
    cases u with
    | int i =>
      cases (p2.sr.view o2 eu).int_
      cases ej
      exact ⟨i, rfl, k _ _ F2 H2 w4 p2 q2⟩
    | _ => cases ej
theorem sim_slc {lo hi : Option Expr} {l h : Bool} {il ih : IE} (ha : SimE X a (denE C ia)) (hl : SimP X lo l il C) (hh : SimP X hi h ih C) : SimE X (.Subscript a (.Slice lo hi none p2) pos) (denE C (.slc ia l h il ih)) := by
  intro F σ H s Q sr w
  simp only [denE] at w
  refine .of (pe_slice sl_any pe_w po_w po_w) ?_
  refine ha.run (.refl sr) w.bind fun x F1 v1 H1 w1 p1 q1 o1 => ?_
  refine hl.run (P := fun i s2 => RP ((if h then denE C ih s2 else .ok (.val .non, s2)).bind fun z => (R.ofO (deref z.2 z.1)).bind fun v => (R.ofO (optI h v)).bind fun j =>
      (R.ofO (deref z.2 x.1)).bind fun w => (R.ofO (slcD i j w)).bind fun r => .ok (r, z.2)) (fun r => ∀ F' v H', EPost X.K F σ H s F' H' r.2 → OR X.K F' σ H H' r.2 v r.1 → Q v H') (Acc X σ H (Own σ s))) p1 (w1.bind.mono (fun y w2 => ?_) fun _ a => a) fun j s2 F2 H2 w2 p2 q2 => ?_
  · obtain ⟨u, eu, w3⟩ := w2.bind.ofO
    obtain ⟨j, ej, w4⟩ := w3.bind.ofO
    rw [eu]
    show RP ((R.ofO (optI l u)).bind _) _ _
    rw [ej]
    exact w4
  · refine hh.run (P := fun k s3 => RP ((R.ofO (deref s3 x.1)).bind fun w => (R.ofO (slcD j k w)).bind fun r => .ok (r, s3)) (fun r => ∀ F' v H', EPost X.K F σ H s F' H' r.2 → OR X.K F' σ H H' r.2 v r.1 → Q v H') (Acc X σ H (Own σ s))) p2 (w2.bind.mono (fun y w2 => ?_) fun _ a => a) fun k s3 F3 H3 w3 p3 q3 => ?_
    · obtain ⟨u, eu, w3⟩ := w2.bind.ofO
      obtain ⟨j, ej, w4⟩ := w3.bind.ofO
      rw [eu]
      show RP ((R.ofO (optI h u)).bind _) _ _
      rw [ej]
      exact w4
    · obtain ⟨u, eu, w4⟩ := w3.bind.ofO
      obtain ⟨r, er, w5⟩ := w4.bind.ofO
      exact slc_ok p3.sr (p3.sr.view (OR.mono (q2.trans q3) p1.sr o1) eu) er (res_of p3 w5)
/-! ### rows of expressions -/
def notStar : Expr → Bool
  | .Starred .. => false
  | _ => true
theorem star_cons {env : Env} (h : notStar e = true) : starEach (e :: es) env = (false, eval e env) :: starEach es env := by
  cases e <;> first | rfl | cases h
theorem star_plain {env : Env} (pos : Pos) : ∀ {es : List Expr}, es.all notStar = true → (backTo pos (starEach es env)).any (·.1) = false
  | [], _ => rfl
  | e :: es, h => by
    simp only [List.all_cons, Bool.and_eq_true] at h
    rw [star_cons h.1]
    show (false || (backTo pos (starEach es env)).any (·.1)) = false
    rw [star_plain pos h.2]
    rfl
theorem simA_nil : SimA X [] (denEs C []) := by
  intro F σ H s Q sr w
  simp only [denEs] at w
  exact .of pa_nil (w F [] H (.refl sr) .nil)
theorem simA_cons {ie : IE} {ies : List IE} (hn : notStar e = true) (he : SimE X e (denE C ie)) (hr : SimA X es (denEs C ies)) : SimA X (e :: es) (denEs C (ie :: ies)) := by
  intro F σ H s Q sr w
  simp only [denEs] at w
  refine .of (pa_cons pe_w pa_w (star_cons hn)) ?_
  refine he.run (.refl sr) w.bind fun x F1 v1 H1 w1 p1 q1 o1 => ?_
  obtain ⟨⟨d, s2⟩, eu, w3⟩ := w1.bind.ofO
  obtain ⟨F2, p2, r2⟩ := esc_ok p1 o1 eu
  refine hr.run p2 w3.bind fun y F3 vs H3 w4 p3 q3 rs => ?_
  exact w4 F3 _ H3 p3 (.cons (p2.sr.rel q3.ext r2) rs)
theorem simO_nil : SimO X [] (denOs C []) := by
  intro F σ H s Q sr w
  simp only [denOs] at w
  exact .of pa_nil (w F [] H (.refl sr) .nil)
theorem simO_cons {ie : IE} {ies : List IE} (hn : notStar e = true) (he : SimE X e (denE C ie)) (hr : SimO X es (denOs C ies)) : SimO X (e :: es) (denOs C (ie :: ies)) := by
  intro F σ H s Q sr w
  simp only [denOs] at w
  refine .of (pa_cons pe_w pa_w (star_cons hn)) ?_
  refine he.run (.refl sr) w.bind fun x F1 v1 H1 w1 p1 q1 o1 => ?_
  refine hr.run p1 w1.bind fun y F3 vs H3 w4 p3 q3 rs => ?_
  have early : ∀ {vs : List V} {os : List Opd}, ORs X.K F3 σ H1 H3 y.2 vs os → ORs X.K F3 σ H H3 y.2 vs os := fun {vs os} h => by
    induction h with
    | nil => exact .nil
    | cons h _ ih => exact .cons (h.early p1.ext.dm) ih
  exact w4 F3 _ H3 p3 (.cons (o1.mono q3 p1.sr) (early rs))
theorem ORs.views {K : PySem.W.Frag} {H0 : Hp} (sr : SR K F σ H s) : ∀ {vs : List V} {os : List Opd} {ds : List D}, ORs K F σ H0 H s vs os → derefs s os = some ds → Views K F H vs ds
  | _, _, _, .nil, e => by cases e; exact .nil
  | _, _, _, .cons h r, e => by
    simp only [derefs] at e
    split at e
    · rename_i e1 e2
      cases e
      exact .cons (sr.view h e1) (r.views sr e2)
    · cases e
theorem sim_tup {ies : List IE} {k : Nat} (hl : ies.length ≤ lim) (hlen : ∀ s r, denEs C ies s = .ok r → r.1.length = ies.length) (h : SimA X es (denEs C ies)) : SimE X (.Tuple es k pos) (denE C (.tup ies)) := by
  intro F σ H s Q sr w
  simp only [denE] at w
  refine .of (pe_tup pa_w) ?_
  have w' := w.bind
  cases q : denEs C ies s with
  | bad => rw [q] at w'; exact w'.elim
  | exn c => exact h F σ H s _ sr (by rw [q] at w' ⊢; exact w')
  | ok r =>
    refine h.run (.refl sr) (P := fun r' => RP (R.ok (Opd.val (.tup r'.1), r'.2)) (fun r => ∀ F' v H', EPost X.K F σ H s F' H' r.2 → OR X.K F' σ H H' r.2 v r.1 → Q v H') (Acc X σ H (Own σ s)) ∧ r'.1.length = ies.length) ?_ fun r F1 vs H1 w1 p1 q1 rs => ?_
    · rw [q] at w' ⊢
      exact ⟨w', hlen s r q⟩
    · obtain ⟨w1, hl1⟩ := w1
      refine ⟨by rw [rs.len, hl1, ← lim_eq]; exact hl, fun p n => ?_⟩
      exact (res_of p1 w1).tup p1.sr rs (by rw [hl1]; exact hl) n
theorem sim_lst {ies : List IE} (hl : ies.length ≤ lim) (hlen : ∀ s r, denEs C ies s = .ok r → r.1.length = ies.length) (h : SimA X es (denEs C ies)) : SimE X (.List es pos) (denE C (.lst ies)) := by
  intro F σ H s Q sr w
  simp only [denE] at w
  refine .of (pe_lst pa_w) ?_
  have w' := w.bind
  cases q : denEs C ies s with
  | bad => rw [q] at w'; exact w'.elim
  | exn c => exact h F σ H s _ sr (by rw [q] at w' ⊢; exact w')
  | ok r =>
    refine h.run (.refl sr) (P := fun r' => RP (R.ok (Opd.fresh r'.1, r'.2)) (fun r => ∀ F' v H', EPost X.K F σ H s F' H' r.2 → OR X.K F' σ H H' r.2 v r.1 → Q v H') (Acc X σ H (Own σ s)) ∧ r'.1.length = ies.length) ?_ fun r F1 vs H1 w1 p1 q1 rs => ?_
    · rw [q] at w' ⊢
      exact ⟨w', hlen s r q⟩
    · obtain ⟨w1, hl1⟩ := w1
      refine ⟨by rw [rs.len, hl1, ← lim_eq]; exact hl, fun p n => ?_⟩
      exact (res_of p1 w1).lst p1.sr rs (by rw [hl1]; exact hl) n
theorem denEs_len : ∀ (ies : List IE) (s : DEnv) (r : List D × DEnv), denEs C ies s = .ok r → r.1.length = ies.length
  | [], s, r, e => by
    simp only [denEs] at e
    cases e
    rfl
  | i :: ies, s, r, e => by
    simp only [denEs] at e
    cases h1 : denE C i s with
    | bad => rw [h1] at e; cases e
    | exn c => rw [h1] at e; cases e
    | ok x =>
      rw [h1] at e
      have e : ((R.ofO (esc x.2 x.1)).bind fun q => (denEs C ies q.2).bind fun r => R.ok (q.1 :: r.1, r.2)) = R.ok r := e
      cases h2 : esc x.2 x.1 with
      | none => rw [h2] at e; cases e
      | some y =>
        rw [h2] at e
        have e : ((denEs C ies y.2).bind fun r => R.ok (y.1 :: r.1, r.2)) = R.ok r := e
        cases h3 : denEs C ies y.2 with
        | bad => rw [h3] at e; cases e
        | exn c => rw [h3] at e; cases e
        | ok z =>
          rw [h3] at e
          cases e
          show z.1.length + 1 = ies.length + 1
          rw [denEs_len ies y.2 z h3]
/-! ### built-ins -/
structure BltOk (X : Cx) (f : String) (v : Value) : Prop where
  gl : Gl X (Str.ofString f)
  mg : X.mg (Str.ofString f) = none
  bt : bootBuiltins (Str.ofString f) = some v
  nn : Str.ofString f ≠ "__name__"
  nd : (Str.ofString f == ("__debug__" : Str)) = false
theorem sim_isi {ty : String} {p3 p4 : Pos} (hn : notStar a = true) (B : BltOk X "isinstance" (.builtin "isinstance")) (Ty : BltOk X ty (.type ty)) (ha : SimE X a (denE C ia)) :
    SimE X (.Call (.Name (Str.ofString "isinstance") p2) [a, .Name (Str.ofString ty) p3] [] pos) (denE C (.isi ia ty)) := by
  intro F σ H s Q sr w
  simp only [denE] at w
  refine .of (pe_callB call_isi B.gl B.mg B.bt (pa_cons pe_w (pa_cons (pe_bltn (v := .ty ty) Ty.gl Ty.mg Ty.bt rfl Ty.nn Ty.nd) pa_nil) (star_cons hn)) B.nn B.nd ?_ ?_) ?_
  · exact star_cons hn
  · rfl
  · refine ha.run (.refl sr) w.bind fun x F1 v1 H1 w1 p1 q1 o1 => ?_
    obtain ⟨u, eu, w3⟩ := w1.bind.ofO
    obtain ⟨r, er, w4⟩ := w3.bind.ofO
    exact isi_ok (p1.sr.view o1 eu) er (w4 F1 _ H1 p1 (.bl r))
theorem sim_blt {f : String} {ies : List IE} (hc : X.calm = true) (hn : (e :: es).all notStar = true) (B : BltOk X f (bltV f)) (h : SimO X (e :: es) (denOs C ies)) : SimE X (.Call (.Name (Str.ofString f) p2) (e :: es) [] pos) (denE C (.blt f ies)) := by
  intro F σ H s Q sr w
  simp only [denE] at w
  have go : WpA X (e :: es) σ H fun vs H1 => WpCall X (bltV f) vs H1 Q := by
    refine h.run (.refl sr) w.bind fun r F1 vs H1 w1 p1 q1 rs => ?_
    obtain ⟨ds, eu, w3⟩ := w1.bind.ofO
    obtain ⟨o, er, w4⟩ := w3.bind.ofO
    exact blt_ok hc p1.sr (rs.views p1.sr eu) er (res_of p1 w4)
  simp only [List.all_cons, Bool.and_eq_true] at hn
  have B' := B
  unfold bltV at B go
  split at B
  · rename_i hf
    rw [if_pos hf] at go
    exact .of (pe_callTy (callr_wp _) B.gl B.mg B.bt pa_w B.nn B.nd (star_cons hn.1) (star_plain pos hn.2)) go
  · rename_i hf
    rw [if_neg hf] at go
    exact .of (pe_callB (callr_wp _) B.gl B.mg B.bt pa_w B.nn B.nd (star_cons hn.1) (star_plain pos hn.2)) go
end
end Cv
set_option maxRecDepth 100000
set_option maxHeartbeats 1000000
set_option autoImplicit false
/-! Engine, part G: lists that are written, ranges, calls. -/
namespace Cv
open PySem PySem.Spec L2
section
variable {K : PySem.W.Frag} {F F' F1 F2 : ASet} {H H' H1 H2 : Hp} {σ : St} {s s' s1 s2 : DEnv} {v w : V} {d : D} {Q : VK} {ds es : List D} {vs ws : List V}
theorem ownAt_slot {i : Nat} (e : ownAt s i = some ds) : ∃ x, s[i]? = some (some x) ∧ S.muts x = some ds := by
  unfold ownAt at e
  split at e
  · rename_i q; cases e; exact ⟨_, q, rfl⟩
  · rename_i q; cases e; exact ⟨_, q, rfl⟩
  · cases e
theorem ownPut_at' {i : Nat} {x : S} (q : s[i]? = some (some x)) (m : S.muts x = some ds) : ∃ y, ownPut s i es = s.set i (some y) ∧ S.muts y = some es ∧ (S.isIo x → S.isIo y) := by
  unfold ownPut
  rw [q]
  cases x with
  | val d => cases m
  | own d => exact ⟨_, rfl, rfl, fun z => z.elim⟩
  | io d => exact ⟨_, rfl, rfl, fun z => z⟩
theorem ownPut_at {i : Nat} {x : S} (q : s[i]? = some (some x)) (m : S.muts x = some ds) : ∃ y, ownPut s i es = s.set i (some y) ∧ S.muts y = some es :=
  let ⟨y, h1, h2, _⟩ := ownPut_at' q m; ⟨y, h1, h2⟩
theorem SlR.ownR {x : S} (h : SlR K F H v x) (m : S.muts x = some ds) : OwnR K F H v ds := by
  cases x with
  | val d => cases m
  | own d => cases m; exact h
  | io d => cases m; exact h
theorem OwnR.slR {y : S} (h : OwnR K F H v ds) (m : S.muts y = some ds) : SlR K F H v y := by
  cases y with
  | val d => cases m
  | own d => cases m; exact h
  | io d => cases m; exact h
/-- the list in slot i is changed: H' differs from H at its place, and by new objects -/
theorem own_step {i : Nat} {x : S} {a : Addr} (sr : SR K F σ H s) (q : s[i]? = some (some x)) (m : S.muts x = some ds) (ha : σ[i]? = some (some (.ref a)))
    (fr : ∀ b o, H b = some o → b ≠ a → H' b = some o) (dm : ∀ b, H' b = none → H b = none) (sub : ∀ b, F b → F' b) (new : ∀ b, F' b → F b ∨ H b = none) (fdm : ∀ b, F' b → ∃ vs, H' b = some (.lst vs))
    (now : OwnR K F' H' (.ref a) es) : EPost K F σ H s F' H' (ownPut s i es) := by
  have oa : Own σ s a := ⟨i, x, ds, q, m, ha⟩
  have hi : i < s.length := (List.getElem?_eq_some_iff.mp q).1
  obtain ⟨y, ey, my, iy⟩ := ownPut_at' (es := es) q m
  rw [ey]
  have sub2 : ∀ b, Own σ (s.set i (some y)) b → Own σ s b := fun b ⟨j, z, fs, z1, z2, z3⟩ => by
    by_cases hj : i = j
    · subst hj
      exact ⟨i, x, ds, q, m, z3⟩
    · rw [List.getElem?_set_ne hj] at z1
      exact ⟨j, z, fs, z1, z2, z3⟩
  have ext : Ext F (Own σ s) H F' (Own σ (s.set i (some y))) H' := ⟨fun b o e n => fr b o e fun z => n (z ▸ oa), dm, sub, fun b f => (new b f).imp id .inr, fun b z => .inl (sub2 b z)⟩
  refine ⟨ext, fun j z e => ?_, ⟨by rw [List.length_set]; exact sr.len, fun j z e => ?_, fun j k z z' fs gs b z1 z2 z3 z4 z5 z6 => ?_, fdm⟩⟩
  · by_cases hj : i = j
    · subst hj
      rw [q] at e
      cases e
      exact ⟨y, List.getElem?_set_self hi, iy⟩
    · exact ⟨z, by rw [List.getElem?_set_ne hj]; exact e, id⟩
  · by_cases hj : i = j
    · subst hj
      rw [List.getElem?_set_self hi] at e
      cases e
      exact ⟨.ref a, ha, now.slR my⟩
    · rw [List.getElem?_set_ne hj] at e
      obtain ⟨v, e1, e2⟩ := sr.ats j z e
      refine ⟨v, e1, ?_⟩
      cases hz : S.muts z with
      | none =>
        cases z with
        | val d => exact sr.rel ext e2
        | own _ => cases hz
        | io _ => cases hz
      | some fs =>
        obtain ⟨b, ws, rfl, g1, g2, g3, g4⟩ := e2.ownR hz
        have nb : b ≠ a := fun z' => by
          subst z'
          exact hj (sr.sep i j x z ds fs b q m e hz ha e1)
        refine OwnR.slR ⟨b, ws, rfl, fr b _ g1 nb, sr.relL ext g2, fun f => ?_, g4⟩ hz
        rcases new b f with f | f
        · exact g3 f
        · rw [g1] at f; cases f
  · have nn : ∀ (j : Nat) (z : S) (fs : List D), (s.set i (some y))[j]? = some (some z) → S.muts z = some fs → ∃ z' fs', s[j]? = some (some z') ∧ S.muts z' = some fs' := fun j z fs e1 e2 => by
      by_cases hj : i = j
      · subst hj
        exact ⟨x, ds, q, m⟩
      · rw [List.getElem?_set_ne hj] at e1
        exact ⟨z, fs, e1, e2⟩
    obtain ⟨p1, p2, p3, p4⟩ := nn j z fs z1 z2
    obtain ⟨r1, r2, r3, r4⟩ := nn k z' gs z3 z4
    exact sr.sep j k p1 r1 p2 r2 b p3 p4 r3 r4 z5 z6
/-- .. by a store to it alone -/
theorem own_write {i : Nat} {x : S} {a : Addr} (sr : SR K F σ H s) (q : s[i]? = some (some x)) (m : S.muts x = some ds) (ha : σ[i]? = some (some (.ref a))) (r : RelL K F H ws es) (l : es.length ≤ lim) :
    EPost K F σ H s F (upd H a (.lst ws)) (ownPut s i es) := by
  obtain ⟨⟨vs, h1⟩, n⟩ := sr.own ⟨i, x, ds, q, m, ha⟩
  have kp : Keep F H (upd H a (.lst ws)) := fun b o e z => by
    have : b ≠ a := fun y => by
      subst y
      rcases z with z | z
      · exact n z
      · rw [h1] at e; cases e; exact z vs rfl
    rw [upd_ne this]; exact e
  refine own_step sr q m ha (fun b o e nb => by rw [upd_ne nb]; exact e) (fun b e => ?_) (fun _ f => f) (fun b f => .inl f) (fun b f => ?_) ⟨a, ws, rfl, upd_same, r.mono kp fun _ f => f, n, l⟩
  · by_cases hb : b = a
    · rw [hb, upd_same] at e; cases e
    · rw [upd_ne hb] at e; exact e
  · obtain ⟨us, e⟩ := sr.fdm b f
    exact ⟨us, kp b _ e (.inl f)⟩
end
section
variable {X : Cx} {e a b c : Expr} {pos p2 apos : Pos} {F F1 : ASet} {σ : St} {H H1 : Hp} {s s1 : DEnv} {Q : VK} {es : List Expr} {C : Cal} {ia ib ic : IE}
/-! ### methods of a list in a slot -/
def mthName : Mth → String
  | .append => "append"
  | .pop => "pop"
  | .popAt => "pop"
  | .reverse => "reverse"
theorem slot_own {i : Nat} {ds : List D} (sr : SR X.K F σ H s) (e : ownAt s i = some ds) : ∃ x a vs, s[i]? = some (some x) ∧ S.muts x = some ds ∧ σ[i]? = some (some (.ref a)) ∧ H a = some (.lst vs) ∧ RelL X.K F H vs ds ∧ ds.length ≤ lim := by
  obtain ⟨x, q, m⟩ := ownAt_slot e
  obtain ⟨v, e1, e2⟩ := sr.ats i x q
  obtain ⟨a, vs, rfl, h1, h2, h3, h4⟩ := e2.ownR m
  exact ⟨x, a, vs, q, m, e1, h1, h2, h4⟩
theorem tyL {K : PySem.W.Frag} {a : Addr} {vs : List V} (h : H a = some (.lst vs)) : tyV K "list" (.ref a) H := .inl ⟨rfl, vs, SqL.of h⟩
theorem few1 {env : Env} (hn : notStar e = true) : ((backTo pos (starEach [e] env)).all (fun x => !x.1) && (backToKw pos (keywordEach [] env)).all (fun x => x.1.isSome)
      && decide ([e].length + ([] : List Keyword).length + (if ([] : List Keyword).isEmpty then 0 else 1) < 30)) = true := by
  rw [star_cons hn]; rfl
theorem sim_meth {i : Nat} {m : Mth} {x : Str} {ies : List IE} (hN : X.N[i]? = some x) (hv : Vis X.env.scope x) (hd : (x == ("__debug__" : Str)) = false) (hcd : (x == ("__classdict__" : Str)) = false)
    (hline : (apos.endLine == pos.line) = true) (hes : (es = [] ∧ ies = [] ∧ (m = .pop ∨ m = .reverse)) ∨ (∃ e ie, es = [e] ∧ ies = [ie] ∧ notStar e = true ∧ (m = .append ∨ m = .popAt) ∧ SimA X es (denEs C ies))) :
    SimE X (.Call (.Attribute (.Name x p2) (Str.ofString (mthName m)) apos) es [] pos) (denE C (.meth m i ies)) := by
  intro F σ H s Q sr w
  simp only [denE] at w
  obtain ⟨ds0, e0, w⟩ := w.bind.ofO
  obtain ⟨y, a, vs, q, mm, ha, h1, h2, h3⟩ := slot_own sr e0
  rcases hes with ⟨rfl, rfl, hm⟩ | ⟨e, ie, rfl, rfl, hn, hm, hA⟩
  · simp only [denEs] at w
    obtain ⟨ds, e1, w1⟩ := (RP.bind w).bind.ofO
    obtain ⟨r, e2, w2⟩ := w1.bind.ofO
    rw [e0] at e1
    cases e1
    rcases hm with rfl | rfl
    · refine .of (pe_bm0 PySem.F.plainAttrs_list PySem.F.slot_list_pop PySem.F.type_list_pop mt_pop (pe_var hN hv hd hcd) rfl hline) ⟨.ref a, ha, tyL h1, ?_⟩
      unfold methD at e2
      simp only at e2
      split at e2
      · cases e2
      · rename_i hne
        cases e2
        have hds : ds0 ≠ [] := by simpa using hne
        have hlast : ds0[ds0.length - 1]? = some (ds0.getLastD .non) := by
          rw [List.getLastD_eq_getLast?, ← List.getLast?_eq_getElem?]
          cases hq : ds0.getLast? with
          | none => simp at hq; exact absurd hq hds
          | some z => rfl
        obtain ⟨v, e3, e4⟩ := h2.get hlast
        refine ⟨a, vs, v, rfl, rfl, h1, by rw [h2.len]; exact e3, ?_⟩
        have dl : RelL X.K F H vs.dropLast ds0.dropLast := by
          rw [List.dropLast_eq_take, List.dropLast_eq_take, h2.len]
          exact h2.take _
        have p := own_write sr q mm ha dl (Nat.le_trans (by rw [List.length_dropLast]; omega) h3)
        exact w2 F v _ p (sr.rel p.ext e4)
    · refine .of (pe_bm0 PySem.F.plainAttrs_list PySem.F.slot_list_reverse PySem.F.type_list_reverse mt_reverse (pe_var hN hv hd hcd) rfl hline) ⟨.ref a, ha, tyL h1, ?_⟩
      cases e2
      refine ⟨a, vs, rfl, rfl, h1, ?_⟩
      exact w2 F _ _ (own_write sr q mm ha h2.rev (by rw [List.length_reverse]; exact h3)) .non
  · have key : ∀ {r : V → List V → Hp → VK → Prop}, (∀ F1 H1 s1 vs v a d ds w', EPost X.K F σ H s F1 H1 s1 → H1 a = some (.lst vs) → RelL X.K F1 H1 vs ds → ds.length ≤ lim → Rel X.K F1 H1 v d → methD m ds [d] = some w' →
        (∀ z ws, RelL X.K F1 H1 ws w'.2 → w'.2.length ≤ lim → Rel X.K F1 H1 z w'.1 → Q z (upd H1 a (.lst ws))) → r (.ref a) [v] H1 Q) →
        (tyV X.K "list" (.ref a) H ∧ WpA X [e] σ H fun xs H2 => r (.ref a) xs H2 Q) := fun {r} k => by
      refine ⟨tyL h1, hA.run (.refl sr) w.bind fun r F1 us H1 w1 p1 q1 rs => ?_⟩
      obtain ⟨ds, e1, w1⟩ := w1.bind.ofO
      obtain ⟨w', e2, w2⟩ := w1.bind.ofO
      obtain ⟨y1, a1, vs1, g1, g2, g3, g4, g5, g6⟩ := slot_own p1.sr e1
      rw [ha] at g3
      cases g3
      obtain ⟨r1, s1⟩ := r
      have hl : ∃ d, r1 = [d] := by
        match r1, e2 with
        | [], e2 => rcases hm with rfl | rfl <;> cases e2
        | [d], _ => exact ⟨d, rfl⟩
        | _ :: _ :: _, e2 => cases e2
      obtain ⟨d, rfl⟩ := hl
      match us, rs with
      | [_], .cons hd .nil =>
        refine k F1 H1 s1 vs1 _ a d ds w' p1 g4 g5 g6 hd e2 fun z ws rw' lw rz => ?_
        have p := own_write p1.sr g1 g2 ha rw' lw
        exact w2 F1 z _ (p1.trans p) (p1.sr.rel p.ext rz)
    rcases hm with rfl | rfl
    · refine .of (pe_bm PySem.F.plainAttrs_list PySem.F.slot_list_append PySem.F.type_list_append mt_append (pe_var hN hv hd hcd) pa_w rfl (few1 hn) hline (star_cons hn) rfl) ⟨.ref a, ha, key ?_⟩
      intro F1 H1 s1 vs v a d ds w' p1 h4 h5 h6 hv e2 k
      simp only [methD] at e2
      split at e2
      · rename_i hl
        cases e2
        exact ⟨a, vs, v, rfl, rfl, h4, by rw [h5.len, ← lim_eq]; exact hl, k .non _ (h5.app (.cons hv .nil)) (by simp; omega) .non⟩
      · cases e2
    · refine .of (pe_bm PySem.F.plainAttrs_list PySem.F.slot_list_pop PySem.F.type_list_pop mt_popAt (pe_var hN hv hd hcd) pa_w rfl (few1 hn) hline (star_cons hn) rfl) ⟨.ref a, ha, key ?_⟩
      intro F1 H1 s1 vs v a d ds w' p1 h4 h5 h6 hv e2 k
      simp only [methD] at e2
      cases d with
      | int i =>
        cases hv
        simp only at e2
        rw [if_pos h6] at e2
        cases hx : ixN ds.length i with
        | none => rw [hx] at e2; cases e2
        | some j =>
          rw [hx] at e2
          cases e2
          obtain ⟨g1, g2, g3, g4⟩ := ixN_seq hx
          have hj : ds[j]? = some (ds.getD j .non) := by
            rw [List.getD_eq_getElem?_getD]
            rw [List.getElem?_eq_getElem g2]; rfl
          obtain ⟨z, e3, e4⟩ := h5.get hj
          have hlim : ds.length ≤ 16777216 := h6
          exact ⟨a, vs, i, j, z, rfl, rfl, h4, by omega, by omega, by rw [h5.len]; exact g1, e3, k z _ (h5.erase j) (Nat.le_trans (len_erase _ _) h6) e4⟩
      | _ => cases e2
end
end Cv
set_option maxRecDepth 100000
set_option maxHeartbeats 1000000
set_option autoImplicit false
/-! Engine, part H: extend, ranges, calls of own defs. -/
namespace Cv
open PySem PySem.Spec L2
section
variable {X : Cx} {e a b c : Expr} {pos p2 apos : Pos} {F F1 : ASet} {σ : St} {H H1 : Hp} {s s1 : DEnv} {Q : VK} {es : List Expr} {C : Cal} {ia ib ic : IE}
theorem sim_extend {i : Nat} {x : Str} (hN : X.N[i]? = some x) (hv : Vis X.env.scope x) (hd : (x == ("__debug__" : Str)) = false) (hcd : (x == ("__classdict__" : Str)) = false)
    (hline : (apos.endLine == pos.line) = true) (hn : notStar e = true) (he : SimE X e (denE C ia)) : SimE X (.Call (.Attribute (.Name x p2) (Str.ofString "extend") apos) [e] [] pos) (denE C (.extend i ia)) := by
  intro F σ H s Q sr w
  simp only [denE] at w
  obtain ⟨ds0, e0, w⟩ := w.bind.ofO
  obtain ⟨y, a, vs, q, mm, ha, h1, h2, h3⟩ := slot_own sr e0
  refine .of (pe_bm PySem.F.plainAttrs_list PySem.F.slot_list_extend PySem.F.type_list_extend mt_extend (pe_var hN hv hd hcd) (pa_cons pe_w pa_nil (star_cons hn)) rfl (few1 hn) hline (star_cons hn) rfl) ⟨.ref a, ha, tyL h1, ?_⟩
  refine he.run (.refl sr) w.bind fun r F1 v H1 w1 p1 q1 o1 => ?_
  obtain ⟨u, eu, w2⟩ := w1.bind.ofO
  obtain ⟨ds, e1, w3⟩ := w2.bind.ofO
  obtain ⟨y1, a1, vs1, g1, g2, g3, g4, g5, g6⟩ := slot_own p1.sr e1
  rw [ha] at g3
  cases g3
  cases u with
  | lst zs =>
    obtain ⟨b, us, rfl, k1, k2⟩ := (p1.sr.view o1 eu).list
    simp only at w3
    split at w3
    · rename_i hl
      have p := own_write p1.sr g1 g2 ha (g5.app k2) (by rw [List.length_append]; exact hl)
      exact ⟨a, b, vs1, us, rfl, rfl, g4, k1, by rw [g5.len, k2.len, ← lim_eq]; exact hl, w3 F1 _ _ (p1.trans p) .non⟩
    · exact w3.elim
  | _ => exact w3.elim
/-! ### list(range(..)), tuple(range(..)) -/
theorem rng_rel {K : PySem.W.Frag} {i j : Int} : RelL K F H (rgV i j) (rngD i j) := by
  unfold rgV rngD
  generalize (List.range (j - i).toNat) = l
  induction l with
  | nil => exact .nil
  | cons x r ih => exact .cons (.int _) ih
theorem rngOk_ok {i j : Int} (h : rngOk i j = true) : RgOk i j := by
  simp only [rngOk, Bool.and_eq_true, decide_eq_true_eq, lim] at h
  obtain ⟨⟨⟨⟨h1, h2⟩, h3⟩, h4⟩, h5⟩ := h
  have e : (2 : Nat) ^ 24 = 16777216 := by decide
  exact ⟨by omega, by omega, by omega, by omega, by rw [e]; simpa using h5⟩
theorem rng_len {i j : Int} (h : rngOk i j = true) : (rngD i j).length ≤ lim := by
  simp only [rngOk, Bool.and_eq_true, decide_eq_true_eq] at h
  simpa [rngD] using h.2
theorem items_rng1 {u v : D} {ds : List D} (e : itemsD .rng1 u v = some ds) : ∃ n, u = .int n ∧ rngOk 0 n = true ∧ ds = rngD 0 n := by
  cases u with
  | int n =>
    simp only [itemsD] at e
    split at e
    · rename_i h; cases e; exact ⟨n, rfl, h, rfl⟩
    · cases e
  | _ => cases e
theorem items_rng2 {u v : D} {ds : List D} (e : itemsD .rng2 u v = some ds) : ∃ m n, u = .int m ∧ v = .int n ∧ rngOk m n = true ∧ ds = rngD m n := by
  cases u with
  | int m =>
    cases v with
    | int n =>
      simp only [itemsD] at e
      split at e
      · rename_i h; cases e; exact ⟨m, n, rfl, rfl, h, rfl⟩
      · cases e
    | _ => cases e
  | _ => cases e
theorem sim_rng1 {tp : Bool} {p3 p4 : Pos} (hc : X.calm = true) (hn : notStar a = true) (B : BltOk X "range" (.type "range")) (B2 : BltOk X (if tp then "tuple" else "list") (.type (if tp then "tuple" else "list"))) (ha : SimE X a (denE C ia)) :
    SimE X (.Call (.Name (Str.ofString (if tp then "tuple" else "list")) p2) [.Call (.Name (Str.ofString "range") p3) [a] [] p4] [] pos) (denE C (.rngOf tp false ia ib)) := by
  intro F σ H s Q sr w
  simp only [denE, Bool.false_eq_true, if_false, R.bind_ok] at w
  have PR := prg_1 (p := p3) (pos := p4) B.gl B.mg (pe_w (X := X) (e := a)) (star_cons hn)
  cases tp with
  | true =>
    refine .of (pe_tupRg hc B2.gl B2.mg PR) ?_
    refine ha.run (.refl sr) w.bind fun x F1 v1 H1 w1 p1 q1 o1 => ?_
    obtain ⟨u, eu, w3⟩ := w1.bind.ofO
    obtain ⟨v, ev, w4⟩ := w3.bind.ofO
    obtain ⟨ds, ed, w5⟩ := w4.bind.ofO
    obtain ⟨n, rfl, hr, rfl⟩ := items_rng1 ed
    cases (p1.sr.view o1 eu).int_
    exact ⟨n, rfl, rngOk_ok hr, fun q nq => (res_of p1 w5).tup p1.sr rng_rel (rng_len hr) nq⟩
  | false =>
    refine .of (pe_listRg hc B2.gl B2.mg PR) ?_
    refine ha.run (.refl sr) w.bind fun x F1 v1 H1 w1 p1 q1 o1 => ?_
    obtain ⟨u, eu, w3⟩ := w1.bind.ofO
    obtain ⟨v, ev, w4⟩ := w3.bind.ofO
    obtain ⟨ds, ed, w5⟩ := w4.bind.ofO
    obtain ⟨n, rfl, hr, rfl⟩ := items_rng1 ed
    cases (p1.sr.view o1 eu).int_
    exact ⟨n, rfl, rngOk_ok hr, fun q nq => (res_of p1 w5).lst p1.sr rng_rel (rng_len hr) nq⟩
theorem sim_rng2 {tp : Bool} {p3 p4 : Pos} (hc : X.calm = true) (hn : notStar a = true) (hn2 : notStar b = true) (B : BltOk X "range" (.type "range")) (B2 : BltOk X (if tp then "tuple" else "list") (.type (if tp then "tuple" else "list"))) (ha : SimE X a (denE C ia)) (hb : SimE X b (denE C ib)) :
    SimE X (.Call (.Name (Str.ofString (if tp then "tuple" else "list")) p2) [.Call (.Name (Str.ofString "range") p3) [a, b] [] p4] [] pos) (denE C (.rngOf tp true ia ib)) := by
  intro F σ H s Q sr w
  simp only [denE, if_true] at w
  have PR := prg_2 (p := p3) (pos := p4) B.gl B.mg (pe_w (X := X) (e := a)) (pe_w (X := X) (e := b)) (star_cons hn) (star_cons hn2) (star_plain p4 (by simp [hn2]))
  cases tp with
  | true =>
    refine .of (pe_tupRg hc B2.gl B2.mg PR) ?_
    refine ha.run (.refl sr) w.bind fun x F1 v1 H1 w1 p1 q1 o1 => ?_
    refine hb.run p1 w1.bind fun y F2 v2 H2 w2 p2 q2 o2 => ?_
    obtain ⟨u, eu, w3⟩ := w2.bind.ofO
    obtain ⟨v, ev, w4⟩ := w3.bind.ofO
    obtain ⟨ds, ed, w5⟩ := w4.bind.ofO
    obtain ⟨m, n, rfl, rfl, hr, rfl⟩ := items_rng2 ed
    cases (p2.sr.view (o1.mono q2 p1.sr) eu).int_
    cases (p2.sr.view o2 ev).int_
    exact ⟨m, n, rfl, rfl, rngOk_ok hr, fun q nq => (res_of p2 w5).tup p2.sr rng_rel (rng_len hr) nq⟩
  | false =>
    refine .of (pe_listRg hc B2.gl B2.mg PR) ?_
    refine ha.run (.refl sr) w.bind fun x F1 v1 H1 w1 p1 q1 o1 => ?_
    refine hb.run p1 w1.bind fun y F2 v2 H2 w2 p2 q2 o2 => ?_
    obtain ⟨u, eu, w3⟩ := w2.bind.ofO
    obtain ⟨v, ev, w4⟩ := w3.bind.ofO
    obtain ⟨ds, ed, w5⟩ := w4.bind.ofO
    obtain ⟨m, n, rfl, rfl, hr, rfl⟩ := items_rng2 ed
    cases (p2.sr.view (o1.mono q2 p1.sr) eu).int_
    cases (p2.sr.view o2 ev).int_
    exact ⟨m, n, rfl, rfl, rngOk_ok hr, fun q nq => (res_of p2 w5).lst p2.sr rng_rel (rng_len hr) nq⟩
end
/-! ### calls -/
section
variable {K : PySem.W.Frag} {F F' : ASet} {H H' : Hp} {σ : St} {s : DEnv}
theorem SR.grow (r : SR K F σ H s) (sm : Same H H') (sub : ∀ b, F b → F' b) (new : ∀ b, F' b → F b ∨ H b = none) (fdm : ∀ b, F' b → ∃ us, H' b = some (.lst us)) : EPost K F σ H s F' H' s := by
  have ext : Ext F (Own σ s) H F' (Own σ s) H' := ⟨fun b o e _ => sm b o e, fun b e => sm.free e, sub, fun b f => (new b f).imp id .inr, fun _ e => .inl e⟩
  refine ⟨ext, fun _ x e => ⟨x, e, id⟩, ⟨r.len, fun i x e => ?_, r.sep, fdm⟩⟩
  obtain ⟨v, e1, e2⟩ := r.ats i x e
  refine ⟨v, e1, ?_⟩
  cases hz : S.muts x with
  | none =>
    cases x with
    | val d => exact r.rel ext e2
    | own _ => cases hz
    | io _ => cases hz
  | some fs =>
    obtain ⟨b, ws, rfl, g1, g2, g3, g4⟩ := e2.ownR hz
    refine OwnR.slR ⟨b, ws, rfl, sm _ _ g1, r.relL ext g2, fun f => ?_, g4⟩ hz
    rcases new b f with f | f
    · exact g3 f
    · rw [g1] at f; cases f
end
def RetR (K : PySem.W.Frag) (F' : ASet) (H H' : Hp) (v : V) : Opd → Prop
  | .val d => Rel K F' H' v d
  | .fresh ds => OwnR K F' H' v ds ∧ ∀ b, v = .ref b → H b = none
  | .slot _ => False
abbrev ArgO (vs : List V) (Ss : List S) : ASet := Own (vs.map some) (Ss.map some)
structure CPost (K : PySem.W.Frag) (F : ASet) (H : Hp) (vs : List V) (Ss : List S) (r : Opd × List D) (F' : ASet) (v : V) (H' : Hp) : Prop where
  ext : Ext F (ArgO vs Ss) H F' (ArgO vs Ss) H'
  fdm : ∀ b, F' b → ∃ us, H' b = some (.lst us)
  ret : RetR K F' H H' v r.1
  io : ∀ ds, Ss[0]? = some (.io ds) → ∃ v0, vs[0]? = some v0 ∧ OwnR K F' H' v0 r.2
/-- what a def promises: it does what call tells -/
def spF (K : PySem.W.Frag) (mg : Str → Option Value) (call : List S → R (Opd × List D)) : Sp := fun vs H Q E => ∃ (F : ASet) (Ss : List S), SR K F (vs.map some) H (Ss.map some) ∧
  RP (call Ss) (fun r => ∀ F' v H', CPost K F H vs Ss r F' v H' → Q v H') (fun c => ∀ H', (∀ b o, H b = some o → ¬ ArgO vs Ss b → H' b = some o) → ∀ C, mg (Str.ofString c) = some (.ref C) → E (.ref C) none H')
/-- the def f stands, and keeps its promise at level n -/
def FnSim (P : Program) (w : World) (K : PySem.W.Frag) (mg : Str → Option Value) (base : Heap) (n : Nat) (f : String) (call : List S → R (Opd × List D)) : Prop :=
  ∃ (a : Addr) (fd : FuncData) (ps : List Str), mg (Str.ofString f) = some (.ref a) ∧ PySem.W.keepIn K (.ref a) = true ∧ Binds K fd ps [] ∧ FnOk P w K mg base (L2.CX P w) n a fd ps (spF K mg call)
section
variable {X : Cx} {e : Expr} {pos p2 : Pos} {F F1 : ASet} {σ : St} {H H1 : Hp} {s s1 : DEnv} {Q : VK} {es : List Expr} {C : Cal}
theorem pe_callS0 {CX : CXT} {k : Nat} {f : Addr} {fd : FuncData} {ps : List Str} {sp : Sp} {E : St → XK} {x : Str} {p : Pos} (F : FnOk X.prog X.w X.K X.mg X.base CX k f fd ps sp) (hr : Room k X.A) (hg : Gl X x) (hm : X.mg x = some (.ref f)) (hk : PySem.W.keepIn X.K (.ref f) = true) (hb : Binds X.K fd ps []) (hx : ∀ σ, PassesAt CX X σ (E σ))
    (hdb : (x == ("__debug__" : Str)) = false) : PE X (.Call (.Name x p) [] [] pos) (tCallS sp E tNil) := by
  refine ⟨fun pins s σ H Q I h => ?_⟩
  refine PySem.wpAny_Call_Name_kw (ld_glob I hg hm ?_ hdb)
  exact PySem.W.callWith_K0 I.kIn hk (run_fnS (us := []) F hr hb (hx σ) I .nil h)
theorem SimA.at_ {m : DEnv → R (List D × DEnv)} {r : List D × DEnv} {Q : List V → Hp → Prop} (h : SimA X es m) (sr : SR X.K F σ H s) (e : m s = .ok r) (k : ∀ F' vs H', EPost X.K F σ H s F' H' r.2 → RelL X.K F' H' vs r.1 → Q vs H') : WpA X es σ H Q :=
  h F σ H s Q sr (by rw [e]; exact k)
theorem passE0 (σ : St) : PassesAt (L2.CX X.prog X.w) X σ (fun _ _ _ => False) := fun pins H s e s' I c => passL pins σ H s e s' I c
/-- f(..) from what it is to promise at the arguments' values -/
theorem call_wp {n : Nat} {f : String} {call : List S → R (Opd × List D)} (Fs : FnSim X.prog X.w X.K X.mg X.base n f call) (hr : Room n X.A) (hg : Gl X (Str.ofString f)) (hdb : (Str.ofString f == ("__debug__" : Str)) = false) (hn : (e :: es).all notStar = true)
    (W : WX) (tk : Takes X W) (h : WpA X (e :: es) σ H fun vs H1 => spF X.K X.mg call vs H1 Q (WE W σ)) : WpE X (.Call (.Name (Str.ofString f) p2) (e :: es) [] pos) σ H Q := by
  obtain ⟨a, fd, ps, h1, h2, h3, h4⟩ := Fs
  simp only [List.all_cons, Bool.and_eq_true] at hn
  exact .of (pe_callS (E := WE W) h4 hr hg h1 h2 h3 (passAt tk) pa_w hdb (star_cons hn.1) (star_plain pos hn.2)) h
theorem call_wp0 {n : Nat} {f : String} {call : List S → R (Opd × List D)} (Fs : FnSim X.prog X.w X.K X.mg X.base n f call) (hr : Room n X.A) (hg : Gl X (Str.ofString f)) (hdb : (Str.ofString f == ("__debug__" : Str)) = false)
    (W : WX) (tk : Takes X W) (h : spF X.K X.mg call [] H Q (WE W σ)) : WpE X (.Call (.Name (Str.ofString f) p2) [] [] pos) σ H Q := by
  obtain ⟨a, fd, ps, h1, h2, h3, h4⟩ := Fs
  exact .of (pe_callS0 (E := WE W) h4 hr hg h1 h2 h3 (passAt tk) hdb) h
theorem vals_SR (sr : SR X.K F σ H s) {vs : List V} {ds : List D} (r : RelL X.K F H vs ds) : SR X.K F (vs.map some) H ((ds.map S.val).map some) := by
  refine ⟨by simp [r.len], fun i x e => ?_, fun i j x y _ _ b e m => ?_, sr.fdm⟩
  · simp only [List.getElem?_map, Option.map_eq_some_iff] at e
    obtain ⟨y, ⟨d, e1, rfl⟩, e2⟩ := e
    cases e2
    obtain ⟨v, e3, e4⟩ := r.get e1
    exact ⟨v, by simp [e3], e4⟩
  · simp only [List.getElem?_map, Option.map_eq_some_iff] at e
    obtain ⟨z, ⟨d, e1, rfl⟩, e2⟩ := e
    cases e2
    cases m
theorem vals_noO {vs : List V} {ds : List D} {b : Addr} : ¬ ArgO vs (ds.map S.val) b := fun ⟨i, x, es, e, m, _⟩ => by
  simp only [List.getElem?_map, Option.map_eq_some_iff] at e
  obtain ⟨z, ⟨d, e1, rfl⟩, e2⟩ := e
  cases e2
  cases m
theorem ret_or {K : PySem.W.Frag} {F' : ASet} {H' : Hp} {v : V} {o : Opd} (sr : SR K F σ H s) (h : RetR K F' H H' v o) (no : ∀ b, Own σ s1 b → Own σ s b) : OR K F' σ H H' s1 v o := by
  cases o with
  | val d => exact h
  | fresh ds => exact ⟨h.1, fun b e => ⟨fun z => sr.noO (h.2 b e) (no b z), h.2 b e⟩⟩
  | slot i => exact h.elim
theorem sim_call {n : Nat} {f : String} {ies : List IE} (Fs : FnSim X.prog X.w X.K X.mg X.base n f (C.call f)) (hr : Room n X.A) (hg : Gl X (Str.ofString f)) (hdb : (Str.ofString f == ("__debug__" : Str)) = false) (hn : (e :: es).all notStar = true)
    (hA : SimA X (e :: es) (denEs C ies)) : SimE X (.Call (.Name (Str.ofString f) p2) (e :: es) [] pos) (denE C (.call f ies)) := by
  intro F σ H s Q sr w
  simp only [denE] at w
  split at w
  · exact w.elim
  · cases q : denEs C ies s with
    | bad => rw [q] at w; exact w.elim
    | exn c =>
      rw [q] at w
      obtain ⟨W, tk, hW⟩ := (show Acc X σ H (Own σ s) c from w)
      exact call_wp Fs hr hg hdb hn W tk (hA F σ H s _ sr (by rw [q]; exact w))
    | ok r =>
      rw [q] at w
      have w : RP ((C.call f (r.1.map .val)).bind fun q => R.ok (q.1, r.2)) _ _ := w
      cases g : C.call f (r.1.map .val) with
      | bad => rw [g] at w; exact w.elim
      | exn c =>
        rw [g] at w
        obtain ⟨W, tk, hW⟩ := (show Acc X σ H (Own σ s) c from w)
        refine call_wp Fs hr hg hdb hn W tk (hA.at_ sr q fun F1 vs H1 p1 rs => ⟨F1, r.1.map .val, vals_SR p1.sr rs, ?_⟩)
        rw [g]
        exact fun H' fr C' hC => hW H' (fun b o e no => fr b o (p1.ext.fr b o e no) vals_noO) C' hC
      | ok z =>
        rw [g] at w
        refine call_wp Fs hr hg hdb hn _ takes0 (hA.at_ sr q fun F1 vs H1 p1 rs => ⟨F1, r.1.map .val, vals_SR p1.sr rs, ?_⟩)
        rw [g]
        intro F' v H' cp
        have p2 : EPost X.K F1 σ H1 r.2 F' H' r.2 := p1.sr.grow (fun b o e => cp.ext.fr b o e vals_noO) cp.ext.sub (fun b f => (cp.ext.new b f).imp id fun z => z.elim (fun z => absurd z vals_noO) id) cp.fdm
        exact w F' v H' (p1.trans p2) (OR.early p1.ext.dm (ret_or p1.sr cp.ret fun _ z => z))
theorem sim_call0 {n : Nat} {f : String} (Fs : FnSim X.prog X.w X.K X.mg X.base n f (C.call f)) (hr : Room n X.A) (hg : Gl X (Str.ofString f)) (hdb : (Str.ofString f == ("__debug__" : Str)) = false) :
    SimE X (.Call (.Name (Str.ofString f) p2) [] [] pos) (denE C (.call f [])) := by
  intro F σ H s Q sr w
  simp only [denE, denEs] at w
  split at w
  · exact w.elim
  · have w : RP ((C.call f []).bind fun q => R.ok (q.1, s)) _ _ := w
    have sr0 : SR X.K F (([] : List V).map some) H (([] : List S).map some) := vals_SR (ds := []) sr .nil
    cases g : C.call f [] with
    | bad => rw [g] at w; exact w.elim
    | exn c =>
      rw [g] at w
      obtain ⟨W, tk, hW⟩ := (show Acc X σ H (Own σ s) c from w)
      refine call_wp0 Fs hr hg hdb W tk ⟨F, [], sr0, ?_⟩
      rw [g]
      exact fun H' fr C' hC => hW H' (fun b o e no => fr b o e (vals_noO (ds := []))) C' hC
    | ok z =>
      rw [g] at w
      refine call_wp0 Fs hr hg hdb _ takes0 ⟨F, [], sr0, ?_⟩
      rw [g]
      intro F' v H' cp
      have p2 : EPost X.K F σ H s F' H' s := sr.grow (fun b o e => cp.ext.fr b o e (vals_noO (ds := []))) cp.ext.sub (fun b f => (cp.ext.new b f).imp id fun z => z.elim (fun z => absurd z (vals_noO (ds := []))) id) cp.fdm
      exact w F' v H' p2 (ret_or sr cp.ret fun _ z => z)
theorem sim_callIo {n : Nat} {f : String} {ies : List IE} {i : Nat} {x : Str} {p3 : Pos} (Fs : FnSim X.prog X.w X.K X.mg X.base n f (C.call f)) (hr : Room n X.A) (hg : Gl X (Str.ofString f)) (hdb : (Str.ofString f == ("__debug__" : Str)) = false) (hn : es.all notStar = true)
    (hN : X.N[i]? = some x) (hv : Vis X.env.scope x) (hd : (x == ("__debug__" : Str)) = false) (hcd : (x == ("__classdict__" : Str)) = false)
    (hA : SimA X es (denEs C ies)) : SimE X (.Call (.Name (Str.ofString f) p2) (.Name x p3 :: es) [] pos) (denE C (.callIo f i ies)) := by
  intro F σ H s Q sr w
  simp only [denE] at w
  have hn' : (Expr.Name x p3 :: es).all notStar = true := by simp only [List.all_cons, hn, Bool.and_true]; rfl
  split at w
  · obtain ⟨ds0, e0, w⟩ := w.bind.ofO
    obtain ⟨y, a, vs, q0, mm, ha, h1, h2, h3⟩ := slot_own sr e0
    have first : ∀ {Q' : List V → Hp → Prop}, WpA X es σ H (fun vs H1 => Q' (.ref a :: vs) H1) → WpA X (.Name x p3 :: es) σ H Q' := fun {Q'} h =>
      .of (pa_cons (pe_var hN hv hd hcd) pa_w rfl) ⟨.ref a, ha, h⟩
    have args : ∀ {F1 : ASet} {H1 : Hp} {s1 : DEnv} {vs : List V} {r1 : List D} {ds : List D}, SR X.K F1 σ H1 s1 → RelL X.K F1 H1 vs r1 → ownAt s1 i = some ds →
        SR X.K F1 ((V.ref a :: vs).map some) H1 ((S.io ds :: r1.map S.val).map some) := fun {F1 H1 s1 vs r1 ds} sr1 rs e1 => by
      obtain ⟨y1, a1, vs1, g1, g2, g3, g4, g5, g6⟩ := slot_own sr1 e1
      rw [ha] at g3
      cases g3
      have base := vals_SR sr1 rs
      refine ⟨by simp [rs.len], fun j z e => ?_, fun j k z z' fs gs b z1 z2 z3 z4 _ _ => ?_, sr1.fdm⟩
      · cases j with
        | zero => cases e; exact ⟨.ref a, rfl, a, vs1, rfl, g4, g5, (sr1.own ⟨i, y1, ds, g1, g2, ha⟩).2, g6⟩
        | succ j => exact base.ats j z e
      · have zero : ∀ (j : Nat) (z : S) (fs : List D), ((S.io ds :: r1.map S.val).map some)[j]? = some (some z) → S.muts z = some fs → j = 0 := fun j z fs e1 e2 => by
          cases j with
          | zero => rfl
          | succ j =>
            have e1 : ((r1.map S.val).map some)[j]? = some (some z) := e1
            simp only [List.getElem?_map, Option.map_eq_some_iff] at e1
            obtain ⟨z', ⟨d, e3, rfl⟩, e4⟩ := e1
            cases e4
            cases e2
        rw [zero j z fs z1 z2, zero k z' gs z3 z4]
    have ao : ∀ {vs : List V} {r1 ds : List D} {b : Addr}, ArgO (.ref a :: vs) (S.io ds :: r1.map S.val) b → b = a := fun {vs r1 ds b} ⟨j, z, fs, e1, e2, e3⟩ => by
      cases j with
      | zero => cases e3; rfl
      | succ j =>
        have e1 : ((r1.map S.val).map some)[j]? = some (some z) := e1
        simp only [List.getElem?_map, Option.map_eq_some_iff] at e1
        obtain ⟨z', ⟨d, e3, rfl⟩, e4⟩ := e1
        cases e4
        cases e2
    cases q : denEs C ies s with
    | bad => rw [q] at w; exact w.elim
    | exn c =>
      rw [q] at w
      obtain ⟨W, tk, hW⟩ := (show Acc X σ H (Own σ s) c from w)
      exact call_wp Fs hr hg hdb hn' W tk (first (hA F σ H s _ sr (by rw [q]; exact w)))
    | ok r =>
      rw [q] at w
      obtain ⟨ds, e1, w⟩ := (show RP ((R.ofO (ownAt r.2 i)).bind _) _ _ from w).bind.ofO
      cases g : C.call f (.io ds :: r.1.map .val) with
      | bad => rw [g] at w; exact w.elim
      | exn c =>
        rw [g] at w
        obtain ⟨W, tk, hW⟩ := (show Acc X σ H (Own σ s) c from w)
        refine call_wp Fs hr hg hdb hn' W tk (first (hA.at_ sr q fun F1 vs H1 p1 rs => ⟨F1, .io ds :: r.1.map .val, args p1.sr rs e1, ?_⟩))
        rw [g]
        exact fun H' fr C' hC => hW H' (fun b o e no => fr b o (p1.ext.fr b o e no) fun z => no (ao z ▸ ⟨i, y, ds0, q0, mm, ha⟩)) C' hC
      | ok z =>
        rw [g] at w
        refine call_wp Fs hr hg hdb hn' _ takes0 (first (hA.at_ sr q fun F1 vs H1 p1 rs => ⟨F1, .io ds :: r.1.map .val, args p1.sr rs e1, ?_⟩))
        rw [g]
        intro F' v H' cp
        obtain ⟨y1, a1, vs1, g1, g2, g3, g4, g5, g6⟩ := slot_own p1.sr e1
        rw [ha] at g3
        cases g3
        obtain ⟨v0, k1, k2⟩ := cp.io ds rfl
        cases k1
        have p2 : EPost X.K F1 σ H1 r.2 F' H' (ownPut r.2 i z.2) := own_step p1.sr g1 g2 ha (fun b o e nb => cp.ext.fr b o e fun z => nb (ao z)) cp.ext.dm cp.ext.sub
          (fun b f => (cp.ext.new b f).imp id fun z => z.elim (fun z => by
            obtain ⟨a', _, e, _, _, n, _⟩ := k2
            cases e
            exact absurd f (ao z ▸ n)) id) cp.fdm k2
        obtain ⟨yy, ey, my⟩ := ownPut_at (es := z.2) g1 g2
        refine w F' v H' (p1.trans p2) (OR.early p1.ext.dm (ret_or p1.sr cp.ret fun b hb => ?_))
        rw [ey] at hb
        obtain ⟨j, x', fs, z1, z2, z3⟩ := hb
        by_cases hj : i = j
        · subst hj
          exact ⟨i, y1, ds, g1, g2, z3⟩
        · rw [List.getElem?_set_ne hj] at z1
          exact ⟨j, x', fs, z1, z2, z3⟩
  · exact w.elim
end
end Cv
set_option maxRecDepth 100000
set_option maxHeartbeats 1000000
set_option autoImplicit false
/-! Engine, part I: what is walked. -/
namespace Cv
open PySem PySem.Spec L2
/-- J gives the items ds, while frozen lists and tuples stay -/
def ItD (K : PySem.W.Frag) (F : ASet) (H : Hp) (J : It) (ds : List D) : Prop := ∀ (F' : ASet) (H' : Hp), (∀ a, F a → F' a) → Keep F H H' →
  (∀ (i : Nat) (d : D), ds[i]? = some d → J.go i H' ∧ ∀ x H'', J.yld i H' x H'' → Same H' H'' ∧ Rel K F' H'' x d) ∧ J.stop ds.length H'
section
variable {K : PySem.W.Frag} {F : ASet} {H : Hp} {a b : Addr} {vs ws : List V} {ds es : List D}
theorem it_walk {J : It} {n : Nat} {G : Hp → Prop} {Y : Nat → Hp → V → Hp → Prop} (w : Walk J n G Y) (hn : ds.length = n) (hG : ∀ (F' : ASet) (H' : Hp), (∀ a, F a → F' a) → Keep F H H' → G H')
    (hY : ∀ (F' : ASet) (H' H'' : Hp) (i : Nat) (d : D) (x : V), (∀ a, F a → F' a) → Keep F H H' → ds[i]? = some d → Y i H' x H'' → Same H' H'' ∧ Rel K F' H'' x d) : ItD K F H J ds := fun F' H' f k =>
  ⟨fun i d e => by
    have hi : i < n := by rw [← hn]; exact (List.getElem?_eq_some_iff.mp e).1
    exact ⟨w.goes i H' hi (hG F' H' f k), fun x H'' y => hY F' H' H'' i d x f k e (w.yields i H' x H'' hi (hG F' H' f k) y)⟩, by rw [hn]; exact w.stops H' (hG F' H' f k)⟩
theorem it_at {F' : ASet} {H' H'' : Hp} {i : Nat} {d : D} {x : V} (r : RelL K F H vs ds) (f : ∀ a, F a → F' a) (k : Keep F H H') (e : ds[i]? = some d) (y : YAt vs i H' x H'') : Same H' H'' ∧ Rel K F' H'' x d := by
  obtain ⟨rfl, y⟩ := y
  obtain ⟨v, e1, e2⟩ := r.get e
  rw [e1] at y
  cases y
  exact ⟨Same.refl _, e2.mono k f⟩
theorem it_list (f : F a) (h : H a = some (.lst vs)) (r : RelL K F H vs ds) : ItD K F H (Itl K a) ds :=
  it_walk walk_list r.len.symm (fun F' H' _ k => SqL.of (k a _ h (.inl f))) fun F' H' H'' i d x f' k e y => it_at r f' k e y
theorem it_tup (h : SqT K H a vs) (r : RelL K F H vs ds) : ItD K F H (Itt K a) ds :=
  it_walk walk_tup r.len.symm (fun F' H' _ k => k.tup h) fun F' H' H'' i d x f' k e y => it_at r f' k e y
theorem it_range {lo hi : Int} : ItD K F H (Itr lo (hi - lo).toNat) (rngD lo hi) := by
  refine it_walk walk_range (by simp [rngD]) (fun _ _ _ _ => trivial) fun F' H' H'' i d x _ _ e y => ?_
  obtain ⟨rfl, rfl⟩ := y
  refine ⟨Same.refl _, ?_⟩
  simp only [rngD, List.getElem?_map, Option.map_eq_some_iff] at e
  obtain ⟨j, e1, rfl⟩ := e
  obtain ⟨h1, h2⟩ := List.getElem?_eq_some_iff.mp e1
  simp at h2
  subst h2
  exact .int _
theorem rev_get {α : Type} {l : List α} {i : Nat} {d : α} (e : l.reverse[i]? = some d) : l[l.length - 1 - i]? = some d := by
  have hi : i < l.length := by have := (List.getElem?_eq_some_iff.mp e).1; simpa using this
  rw [List.getElem?_reverse hi] at e
  exact e
theorem it_rev (f : F a) (h : H a = some (.lst vs)) (r : RelL K F H vs ds) : ItD K F H (Itv K a vs.length) ds.reverse := by
  refine it_walk walk_rev (by rw [List.length_reverse, r.len]) (fun F' H' _ k => SqL.of (k a _ h (.inl f))) fun F' H' H'' i d x f' k e y => ?_
  obtain ⟨rfl, y⟩ := y
  have e := rev_get e
  rw [← r.len] at e
  obtain ⟨v, e1, e2⟩ := r.get e
  rw [e1] at y
  cases y
  exact ⟨Same.refl _, e2.mono k f'⟩
theorem walk_revT : Walk (RT.ItvT K a vs.length) vs.length (fun H => SqT K H a vs) (fun i H x H' => H' = H ∧ vs[vs.length - 1 - i]? = some x) :=
  ⟨fun i _ hi q => ⟨hi, vs, vs[vs.length - 1 - i]'(by omega), q, by simp [show vs.length - 1 - i < vs.length by omega]⟩, fun _ _ => Nat.le_refl _, fun _ _ _ _ _ q y => ⟨y.1, y.2 vs q⟩⟩
theorem it_revT (h : SqT K H a vs) (r : RelL K F H vs ds) : ItD K F H (RT.ItvT K a vs.length) ds.reverse := by
  refine it_walk walk_revT (by rw [List.length_reverse, r.len]) (fun F' H' _ k => k.tup h) fun F' H' H'' i d x f' k e y => ?_
  obtain ⟨rfl, y⟩ := y
  have e := rev_get e
  rw [← r.len] at e
  obtain ⟨v, e1, e2⟩ := r.get e
  rw [e1] at y
  cases y
  exact ⟨Same.refl _, e2.mono k f'⟩
theorem enumD_get : ∀ {ds : List D} {j i : Nat} {d : D}, (enumD j ds)[i]? = some d → ∃ z, ds[i]? = some z ∧ d = .tup [.int ((j + i : Nat) : Int), z]
  | [], _, _, _, e => by simp [enumD] at e
  | z :: ds, j, 0, d, e => by simp [enumD] at e; exact ⟨z, rfl, e.symm⟩
  | z :: ds, j, i + 1, d, e => by
    obtain ⟨y, e1, e2⟩ := enumD_get (ds := ds) (j := j + 1) (i := i) (by simpa [enumD] using e)
    exact ⟨y, by simpa using e1, by rw [e2]; congr 3; omega⟩
theorem enumD_len : ∀ (ds : List D) (j : Nat), (enumD j ds).length = ds.length
  | [], _ => rfl
  | _ :: ds, j => congrArg (· + 1) (enumD_len ds (j + 1))
theorem pair_rel {F' : ASet} {H' H'' : Hp} {v x y : V} {d e : D} {T : Addr} (n : H' T = none) (eH : H'' = upd H' T (.tup [x, y])) (hv : v = .ref T) (rx : Rel K F' H' x d) (ry : Rel K F' H' y e) : Same H' H'' ∧ Rel K F' H'' v (.tup [d, e]) := by
  subst eH hv
  have sm : Same H' (upd H' T (.tup [x, y])) := same_obj n
  exact ⟨sm, .tup (SqT.of upd_same) (.cons (rx.mono (same_keep sm) fun _ z => z) (.cons (ry.mono (same_keep sm) fun _ z => z) .nil)) (by show 2 ≤ 16777216; decide)⟩
theorem it_enum (f : F a) (h : H a = some (.lst vs)) (r : RelL K F H vs ds) : ItD K F H (Ite K a) (enumD 0 ds) := by
  refine it_walk walk_enum (by rw [enumD_len, r.len]) (fun F' H' _ k => SqL.of (k a _ h (.inl f))) fun F' H' H'' i d x f' k e y => ?_
  obtain ⟨T, x1, x2, h1, h2, h3, h4, h5⟩ := y
  obtain ⟨z, e1, rfl⟩ := enumD_get e
  obtain ⟨v, e3, e4⟩ := r.get e1
  have h5 : vs[i]? = some x2 := h5
  rw [e3] at h5
  cases h4
  cases h5
  rw [Nat.zero_add]
  exact pair_rel h2 h3 h1 (.int _) (e4.mono k f')
theorem zipD_get : ∀ {xs ys : List D} {i : Nat} {d : D}, (zipD xs ys)[i]? = some d → ∃ x y, xs[i]? = some x ∧ ys[i]? = some y ∧ d = .tup [x, y]
  | [], _, _, _, e => by simp [zipD] at e
  | _ :: _, [], _, _, e => by simp [zipD] at e
  | x :: xs, y :: ys, 0, d, e => by simp [zipD] at e; exact ⟨x, y, rfl, rfl, e.symm⟩
  | x :: xs, y :: ys, i + 1, d, e => by
    obtain ⟨a, b, e1, e2, e3⟩ := zipD_get (xs := xs) (ys := ys) (i := i) (by simpa [zipD] using e)
    exact ⟨a, b, by simpa using e1, by simpa using e2, e3⟩
theorem zipD_len : ∀ (xs ys : List D), (zipD xs ys).length = min xs.length ys.length
  | [], _ => by simp [zipD]
  | _ :: _, [] => by simp [zipD]
  | x :: xs, y :: ys => by simp only [zipD, List.length_cons, zipD_len xs ys]; omega
theorem it_zip (f : F a) (h : H a = some (.lst vs)) (r : RelL K F H vs ds) (f2 : F b) (h2 : H b = some (.lst ws)) (r2 : RelL K F H ws es) : ItD K F H (Itz K a b) (zipD ds es) := by
  refine it_walk (walk_zip (xs := vs) (ys := ws) rfl) (by rw [zipD_len, r.len, r2.len]) (fun F' H' _ k => ⟨SqL.of (k a _ h (.inl f)), SqL.of (k b _ h2 (.inl f2))⟩) fun F' H' H'' i d x f' k e y => ?_
  obtain ⟨T, x1, x2, h1, h2, h3, h4, h5⟩ := y
  obtain ⟨z1, z2, e1, e2, rfl⟩ := zipD_get e
  obtain ⟨v, e3, e4⟩ := r.get e1
  obtain ⟨v2, e5, e6⟩ := r2.get e2
  have h4 : vs[i]? = some x1 := h4
  have h5 : ws[i]? = some x2 := h5
  rw [e3] at h4
  rw [e5] at h5
  cases h4
  cases h5
  exact pair_rel h2 h3 h1 (e4.mono k f') (e6.mono k f')
end
def WpI (X : Cx) (tg iter : Expr) : TI := fun σ H R => ∀ (pins : List (Addr × Obj)) (s : Shared), Inv X pins σ H s → wpAny (model X.prog X.w) X.A (eval iter X.env) (fun v s1 => wpAny (model X.prog X.w) X.A (pyIter v) (PIE X pins σ tg R) X.xe s1) X.xe s
def SimI (X : Cx) (tg iter : Expr) (m : DEnv → R (List D × DEnv)) : Prop := ∀ (F : ASet) (σ : St) (H : Hp) (s : DEnv) (Q : It → Hp → Prop), SR X.K F σ H s →
  RP (m s) (fun r => ∀ F' J H', EPost X.K F σ H s F' H' r.2 → ItD X.K F' H' J r.1 → r.1.length ≤ lim → Q J H') (Acc X σ H (Own σ s)) → WpI X tg iter σ H Q
section
variable {X : Cx} {tg e a b : Expr} {pos p2 tpos : Pos} {F F1 : ASet} {σ : St} {H H1 : Hp} {s s1 : DEnv} {C : Cal} {ia ib : IE} {m1 m2 : DEnv → R (Opd × DEnv)} {elts : List Expr} {kk : Nat}
theorem pi_w : PI X tg e (WpI X tg e) := ⟨fun pins s σ H Q I h => h pins s I⟩
theorem WpI.of {t : TI} {Q : It → Hp → Prop} (h : PI X tg e t) (q : t σ H Q) : WpI X tg e σ H Q := fun pins s I => h.run pins s σ H Q I q
theorem SimE.at_ {m : DEnv → R (Opd × DEnv)} {r : Opd × DEnv} {Q : VK} (h : SimE X e m) (sr : SR X.K F σ H s) (q : m s = .ok r) (k : ∀ F' v H', EPost X.K F σ H s F' H' r.2 → OR X.K F' σ H H' r.2 v r.1 → Q v H') : WpE X e σ H Q :=
  h F σ H s Q sr (by rw [q]; exact k)
theorem simI_seq (he : SimE X e m1) : SimI X tg e (itR .seq m1 m2) := by
  intro F σ H s Q sr w
  simp only [itR] at w
  cases q : m1 s with
  | bad => rw [q] at w; exact w.elim
  | exn c => rw [q] at w; exact .of (pi_list pe_w) (he F σ H s _ sr (by rw [q]; exact w))
  | ok x =>
    rw [q] at w
    obtain ⟨⟨d, s2⟩, eu, w3⟩ := (show RP ((R.ofO (esc x.2 x.1)).bind _) _ _ from w).bind.ofO
    obtain ⟨ds, ed, w4⟩ := w3.bind.ofO
    cases d with
    | lst es =>
      cases ed
      refine .of (pi_list pe_w) (he.at_ sr q fun F1 v H1 p1 o1 => ?_)
      obtain ⟨F2, p2, r2⟩ := esc_ok p1 o1 eu
      cases r2 with
      | lst f h r l => exact ⟨_, rfl, ⟨_, SqL.of h⟩, w4 F2 _ H1 p2 (it_list f h r) l⟩
    | tup es =>
      cases ed
      refine .of (pi_tup pe_w) (he.at_ sr q fun F1 v H1 p1 o1 => ?_)
      obtain ⟨F2, p2, r2⟩ := esc_ok p1 o1 eu
      cases r2 with
      | tup h r l => exact ⟨_, rfl, ⟨_, h⟩, w4 F2 _ H1 p2 (it_tup h r) l⟩
    | _ => cases ed
theorem rng_bd {i j : Int} (h : rngOk i j = true) : -(2 ^ 62) ≤ i ∧ i < 2 ^ 62 ∧ -(2 ^ 62) ≤ j ∧ j < 2 ^ 62 := by
  obtain ⟨h1, h2, h3, h4, _⟩ := rngOk_ok h
  exact ⟨h1, h2, h3, h4⟩
theorem simI_rng1 (hn : notStar e = true) (B : BltOk X "range" (.type "range")) (he : SimE X e m1) : SimI X tg (.Call (.Name (Str.ofString "range") p2) [e] [] pos) (itR .rng1 m1 m2) := by
  intro F σ H s Q sr w
  simp only [itR] at w
  refine .of (pi_range1 B.gl B.mg (pa_cons pe_w pa_nil (star_cons hn)) (star_cons hn)) ?_
  refine he.run (.refl sr) w.bind fun x F1 v H1 w1 p1 q1 o1 => ?_
  obtain ⟨⟨d, s2⟩, eu, w3⟩ := w1.bind.ofO
  obtain ⟨ds, ed, w4⟩ := w3.bind.ofO
  obtain ⟨n, rfl, hr, rfl⟩ := items_rng1 ed
  obtain ⟨F2, p2, r2⟩ := esc_ok p1 o1 eu
  cases r2
  obtain ⟨_, _, h3, h4⟩ := rng_bd hr
  refine ⟨n, rfl, h3, h4, ?_⟩
  have := w4 F2 (Itr 0 (n - 0).toNat) H1 p2 it_range (rng_len hr)
  simpa using this
theorem simI_rng2 (hn : notStar a = true) (hn2 : notStar b = true) (B : BltOk X "range" (.type "range")) (ha : SimE X a m1) (hb : SimE X b m2) : SimI X tg (.Call (.Name (Str.ofString "range") p2) [a, b] [] pos) (itR .rng2 m1 m2) := by
  intro F σ H s Q sr w
  simp only [itR] at w
  have hs : starEach [a, b] X.env = [(false, eval a X.env), (false, eval b X.env)] := by rw [star_cons hn, star_cons hn2]; rfl
  refine .of (pi_range2 B.gl B.mg (pa_cons pe_w (pa_cons pe_w pa_nil (star_cons hn2)) (star_cons hn)) hs (star_cons hn2)) ?_
  refine ha.run (.refl sr) w.bind fun x F1 v1 H1 w1 p1 q1 o1 => ?_
  refine hb.run p1 w1.bind fun y F2 v2 H2 w2 p2 q2 o2 => ?_
  obtain ⟨u, eu, w3⟩ := w2.bind.ofO
  obtain ⟨v, ev, w4⟩ := w3.bind.ofO
  obtain ⟨ds, ed, w5⟩ := w4.bind.ofO
  obtain ⟨m, n, rfl, rfl, hr, rfl⟩ := items_rng2 ed
  cases (p2.sr.view (o1.mono q2 p1.sr) eu).int_
  cases (p2.sr.view o2 ev).int_
  exact ⟨m, n, rfl, rng_bd hr, w5 F2 _ H2 p2 it_range (rng_len hr)⟩
theorem simI_enum (hn : notStar e = true) (B : BltOk X "enumerate" (.type "enumerate")) (he : SimE X e m1) : SimI X (.Tuple elts kk tpos) (.Call (.Name (Str.ofString "enumerate") p2) [e] [] pos) (itR .enum m1 m2) := by
  intro F σ H s Q sr w
  simp only [itR] at w
  refine .of (pi_enum B.gl B.mg (pa_cons pe_w pa_nil (star_cons hn)) (star_cons hn)) ?_
  refine he.run (.refl sr) w.bind fun x F1 v H1 w1 p1 q1 o1 => ?_
  obtain ⟨⟨d, s2⟩, eu, w3⟩ := w1.bind.ofO
  obtain ⟨ds, ed, w4⟩ := w3.bind.ofO
  obtain ⟨F2, p2, r2⟩ := esc_ok p1 o1 eu
  cases d with
  | lst es =>
    cases ed
    cases r2 with
    | lst f h r l => exact ⟨_, _, rfl, SqL.of h, w4 F2 _ H1 p2 (it_enum f h r) (by rw [enumD_len]; exact l)⟩
  | _ => cases ed
theorem simI_rev (hn : notStar e = true) (B : BltOk X "reversed" (.type "reversed")) (he : SimE X e m1) : SimI X tg (.Call (.Name (Str.ofString "reversed") p2) [e] [] pos) (itR .rev m1 m2) := by
  intro F σ H s Q sr w
  simp only [itR] at w
  refine .of (RT.pi_revA B.gl B.mg pe_w (star_cons hn)) ?_
  refine he.run (.refl sr) w.bind fun x F1 v H1 w1 p1 q1 o1 => ?_
  obtain ⟨⟨d, s2⟩, eu, w3⟩ := w1.bind.ofO
  obtain ⟨ds, ed, w4⟩ := w3.bind.ofO
  obtain ⟨F2, p2, r2⟩ := esc_ok p1 o1 eu
  cases d with
  | lst es =>
    cases ed
    cases r2 with
    | lst f h r l => exact ⟨_, _, rfl, .inl ⟨SqL.of h, w4 F2 _ H1 p2 (it_rev f h r) (by rw [List.length_reverse]; exact l)⟩⟩
  | tup es =>
    cases ed
    cases r2 with
    | tup h r l => exact ⟨_, _, rfl, .inr ⟨h, w4 F2 _ H1 p2 (it_revT h r) (by rw [List.length_reverse]; exact l)⟩⟩
  | _ => cases ed
theorem simI_zip (hn : notStar a = true) (hn2 : notStar b = true) (B : BltOk X "zip" (.type "zip")) (ha : SimE X a m1) (hb : SimE X b m2) : SimI X (.Tuple elts kk tpos) (.Call (.Name (Str.ofString "zip") p2) [a, b] [] pos) (itR .zip m1 m2) := by
  intro F σ H s Q sr w
  simp only [itR] at w
  refine .of (pi_zip B.gl B.mg (pa_cons pe_w (pa_cons pe_w pa_nil (star_cons hn2)) (star_cons hn)) (star_cons hn) (star_plain pos (by simp [hn2]))) ?_
  refine ha.run (.refl sr) w.bind fun x F1 v1 H1 w1 p1 q1 o1 => ?_
  obtain ⟨⟨d, s2⟩, eu, w3⟩ := w1.bind.ofO
  obtain ⟨F2, p2, r2⟩ := esc_ok p1 o1 eu
  refine hb.run p2 w3.bind fun y F3 v2 H3 w4 p3 q3 o3 => ?_
  obtain ⟨⟨d2, s3⟩, ev, w5⟩ := w4.bind.ofO
  obtain ⟨ds, ed, w6⟩ := w5.bind.ofO
  obtain ⟨F4, p4, r4⟩ := esc_ok q3 o3 ev
  have r2' := p2.sr.rel p4.ext r2
  cases d with
  | lst es =>
    cases d2 with
    | lst fs =>
      cases ed
      cases r2' with
      | lst f h r l =>
        cases r4 with
        | lst f2 h2 r2 l2 => exact ⟨_, _, _, _, rfl, SqL.of h, SqL.of h2, w6 F4 _ H3 (p2.trans p4) (it_zip f h r f2 h2 r2) (by rw [zipD_len]; omega)⟩
    | _ => cases ed
  | _ => cases ed
end
end Cv
set_option maxRecDepth 100000
set_option maxHeartbeats 1000000
set_option autoImplicit false
/-! Engine, part J: targets, comprehensions. -/
namespace Cv
open PySem PySem.Spec L2
section
variable {K : PySem.W.Frag} {F F' F1 : ASet} {H H' H1 : Hp} {σ σ' : St} {s s' s0 s1 : DEnv} {v : V} {d : D} {vs : List Nat}
/-- a slot is stored -/
theorem SR.put {i : Nat} {x : S} (r : SR K F σ H s) (hi : i < s.length) (h : SlR K F H v x) (nw : ∀ ds b, S.muts x = some ds → v = .ref b → ¬ Own σ s b) :
    SR K F (σ.set i (some v)) H (s.set i (some x)) ∧ ∀ b, Own (σ.set i (some v)) (s.set i (some x)) b → Own σ s b ∨ ∃ ds, S.muts x = some ds ∧ v = .ref b := by
  have hσ : i < σ.length := by rw [r.len]; exact hi
  have low : ∀ b, Own (σ.set i (some v)) (s.set i (some x)) b → Own σ s b ∨ ∃ ds, S.muts x = some ds ∧ v = .ref b := fun b ⟨j, y, ds, e1, e2, e3⟩ => by
    by_cases hj : i = j
    · subst hj
      rw [List.getElem?_set_self hi] at e1
      rw [List.getElem?_set_self hσ] at e3
      cases e1
      cases e3
      exact .inr ⟨ds, e2, rfl⟩
    · rw [List.getElem?_set_ne hj] at e1 e3
      exact .inl ⟨j, y, ds, e1, e2, e3⟩
  refine ⟨⟨by rw [List.length_set, List.length_set]; exact r.len, fun j y e => ?_, fun j k y z ds es b e1 e2 e3 e4 e5 e6 => ?_, r.fdm⟩, low⟩
  · by_cases hj : i = j
    · subst hj
      rw [List.getElem?_set_self hi] at e
      cases e
      exact ⟨v, List.getElem?_set_self hσ, h⟩
    · rw [List.getElem?_set_ne hj] at e ⊢
      exact r.ats j y e
  · by_cases hj : i = j <;> by_cases hk : i = k
    · rw [← hj, hk]
    · subst hj
      rw [List.getElem?_set_self hi] at e1
      rw [List.getElem?_set_self hσ] at e5
      cases e1
      cases e5
      rw [List.getElem?_set_ne hk] at e3 e6
      exact absurd ⟨k, z, es, e3, e4, e6⟩ (nw ds b e2 rfl)
    · subst hk
      rw [List.getElem?_set_self hi] at e3
      rw [List.getElem?_set_self hσ] at e6
      cases e3
      cases e6
      rw [List.getElem?_set_ne hj] at e1 e5
      exact absurd ⟨j, y, ds, e1, e2, e5⟩ (nw es b e4 rfl)
    · rw [List.getElem?_set_ne hj] at e1 e5
      rw [List.getElem?_set_ne hk] at e3 e6
      exact r.sep j k y z ds es b e1 e2 e3 e4 e5 e6
/-- what a target leaves -/
structure TPost (K : PySem.W.Frag) (F : ASet) (σ : St) (H : Hp) (s : DEnv) (vs : List Nat) (σ' : St) (s' : DEnv) : Prop where
  sr : SR K F σ' H s'
  own : ∀ b, Own σ' s' b → Own σ s b
  sig : ∀ j : Nat, j ∉ vs → σ'[j]? = σ[j]?
  env : ∀ j : Nat, j ∉ vs → s'[j]? = s[j]?
  len : σ'.length = σ.length
  io : ∀ (j : Nat) (x : S), s[j]? = some (some x) → S.isIo x → s'[j]? = some (some x) ∧ σ'[j]? = σ[j]?
theorem setN_ok {i : Nat} {x : S} (e : setN s i x = some s') : i < s.length ∧ s' = s.set i (some x) ∧ ∀ y, s[i]? = some (some y) → ¬ S.isIo y := by
  unfold setN at e
  split at e
  · rename_i hi
    split at e
    · cases e
    · rename_i hn
      cases e
      refine ⟨hi, rfl, fun y hy z => ?_⟩
      cases y with
      | io ds => exact hn _ hy
      | _ => exact z
  · cases e
theorem TPost.name {i : Nat} (r : SR K F σ H s) (h : Rel K F H v d) (e : setN s i (.val d) = some s') : TPost K F σ H s [i] (σ.set i (some v)) s' := by
  obtain ⟨hi, rfl, hn⟩ := setN_ok e
  obtain ⟨h1, h2⟩ := r.put (x := .val d) hi h fun ds b m => by cases m
  refine ⟨h1, fun b o => (h2 b o).elim id (fun ⟨_, m, _⟩ => nomatch m), fun j hj => ?_, fun j hj => ?_, List.length_set .., fun j x hx hz => ?_⟩
  · exact List.getElem?_set_ne (fun z => hj (by simp [z]))
  · exact List.getElem?_set_ne (fun z => hj (by simp [z]))
  · have : i ≠ j := fun z => by subst z; exact hn x hx hz
    exact ⟨by rw [List.getElem?_set_ne this]; exact hx, List.getElem?_set_ne this⟩
theorem TPost.cons {σ2 : St} {s2 : DEnv} {i : Nat} (a : TPost K F σ H s [i] σ' s') (b : TPost K F σ' H s' vs σ2 s2) : TPost K F σ H s (i :: vs) σ2 s2 :=
  ⟨b.sr, fun c o => a.own c (b.own c o), fun j hj => (b.sig j fun z => hj (List.mem_cons_of_mem _ z)).trans (a.sig j fun z => hj (by simp at z; simp [z])), fun j hj => (b.env j fun z => hj (List.mem_cons_of_mem _ z)).trans (a.env j fun z => hj (by simp at z; simp [z])), b.len.trans a.len,
    fun j x hx hz => let ⟨h1, h2⟩ := a.io j x hx hz; let ⟨h3, h4⟩ := b.io j x h1 hz; ⟨h3, h4.trans h2⟩⟩
end
def WpG (X : Cx) (tg : Expr) : TG := fun v σ H Q => ∀ (pins : List (Addr × Obj)) (s : Shared) (u : Value), Inv X pins σ H s → RelV v u → wpAny (model X.prog X.w) X.A (assign tg X.env u) (fun _ s' => ∃ σ' H', Inv X pins σ' H' s' ∧ Q σ' H') X.xe s
def SimG (X : Cx) (tg : Expr) (t : Tgt) : Prop := ∀ (F : ASet) (σ : St) (H : Hp) (s : DEnv) (d : D) (v : V) (s' : DEnv) (Q : St → Hp → Prop), SR X.K F σ H s → Rel X.K F H v d → setT s t d = some s' →
  (∀ σ', TPost X.K F σ H s (tgtSlots t) σ' s' → Q σ' H) → WpG X tg v σ H Q
section
variable {X : Cx} {tg e : Expr} {pos : Pos} {F : ASet} {σ : St} {H : Hp} {s : DEnv}
theorem pg_w : PG X tg (WpG X tg) := ⟨fun pins s σ H v u Q I r h => h pins s u I r⟩
theorem WpG.of {t : TG} {v : V} {Q : St → Hp → Prop} (h : PG X tg t) (q : t v σ H Q) : WpG X tg v σ H Q := fun pins s u I r => h.run pins s σ H v u Q I r q
/-- a name that may be stored -/
structure StOk (X : Cx) (i : Nat) (x : Str) : Prop where
  ix : X.N[i]? = some x
  loc : Loc X.env.scope x
  fn : X.fn x = true ∨ X.env.scope.names.lookup x = some .local
theorem simG_name {i : Nat} {x : Str} (hN : X.N.Nodup) (h : StOk X i x) : SimG X (.Name x pos) (.name i) := fun F σ H s d v s' Q sr r e k =>
  .of (pg_name hN h.ix h.loc h.fn) (k _ (TPost.name sr r e))
inductive StOks (X : Cx) : List Nat → List Expr → Prop
  | nil : StOks X [] []
  | cons {i : Nat} {is : List Nat} {x : Str} {p : Pos} {es : List Expr} (h : StOk X i x) (r : StOks X is es) : StOks X (i :: is) (.Name x p :: es)
theorem StOks.len {is : List Nat} {es : List Expr} (h : StOks X is es) {env : Env} : (assignEach es env).length = is.length ∧ (assignEach es env).findIdx? (·.1) = none := by
  induction h with
  | nil => exact ⟨rfl, rfl⟩
  | cons h r ih =>
    refine ⟨congrArg (· + 1) ih.1, ?_⟩
    show List.findIdx? (·.1) ((false, _) :: assignEach _ env) = none
    rw [List.findIdx?_cons]
    simp [ih.2]
def WpGs (X : Cx) (ts : List Expr) : TGs := fun vs σ H Q => ∀ (pins : List (Addr × Obj)) (s : Shared) (us : List Value), Inv X pins σ H s → Vals vs us → wpAny (model X.prog X.w) X.A (assignInOrder ((assignEach ts X.env).map (·.2)) us) (fun _ s' => ∃ σ' H', Inv X pins σ' H' s' ∧ Q σ' H') X.xe s
theorem pgs_w {ts : List Expr} : PGs X ts (WpGs X ts) := ⟨fun pins s σ H vs us Q I r h => h pins s us I r⟩
theorem WpGs.of {ts : List Expr} {t : TGs} {vs : List V} {Q : St → Hp → Prop} (h : PGs X ts t) (q : t vs σ H Q) : WpGs X ts vs σ H Q := fun pins s us I r => h.run pins s σ H vs us Q I r q
theorem simGs {is : List Nat} {es : List Expr} (hN : X.N.Nodup) (h : StOks X is es) : ∀ (F : ASet) (σ : St) (H : Hp) (s : DEnv) (ds : List D) (vs : List V) (s' : DEnv) (Q : St → Hp → Prop), SR X.K F σ H s → RelL X.K F H vs ds → setNs s is ds = some s' →
    (∀ σ', TPost X.K F σ H s is σ' s' → Q σ' H) → WpGs X es vs σ H Q := by
  induction h with
  | nil =>
    intro F σ H s ds vs s' Q sr r e k
    cases ds with
    | nil =>
      cases e
      cases r
      exact .of pgs_nil ⟨rfl, k σ ⟨sr, fun _ o => o, fun _ _ => rfl, fun _ _ => rfl, rfl, fun _ _ h _ => ⟨h, rfl⟩⟩⟩
    | cons d ds => cases e
  | cons h r' ih =>
    intro F σ H s ds vs s' Q sr r e k
    cases ds with
    | nil => cases e
    | cons d ds =>
      cases r with
      | cons rv rr =>
        simp only [setNs] at e
        split at e
        · rename_i s1 e1
          refine .of (pgs_cons (pg_name hN h.ix h.loc h.fn) pgs_w rfl) ⟨_, _, rfl, ?_⟩
          have t1 := TPost.name sr rv e1
          exact ih F _ H s1 ds _ s' Q t1.sr rr e fun σ2 t2 => k σ2 (TPost.cons t1 t2)
        · cases e
theorem simG_tup {is : List Nat} {es : List Expr} {kk : Nat} (hc : X.calm = true) (hN : X.N.Nodup) (h : StOks X is es) : SimG X (.Tuple es kk pos) (.tup is) := by
  intro F σ H s d v s' Q sr r e k
  cases d with
  | tup ds =>
    cases r with
    | tup h1 h2 l =>
      have e' : setNs s is ds = some s' := e
      refine .of (pg_tup hc pgs_w h.len.1 h.len.2) ⟨_, _, rfl, h1, ?_, simGs hN h F σ H s ds _ s' Q sr h2 e' k⟩
      rw [h2.len]
      have : ∀ (is : List Nat) (ds : List D) (s s' : DEnv), setNs s is ds = some s' → ds.length = is.length := by
        intro is
        induction is with
        | nil => intro ds s s' e; cases ds with | nil => rfl | cons _ _ => cases e
        | cons i is ih =>
          intro ds s s' e
          cases ds with
          | nil => cases e
          | cons d ds =>
            simp only [setNs] at e
            split at e
            · exact congrArg (· + 1) (ih ds _ _ e)
            · cases e
      exact this is ds s s' e'
  | _ => cases e
end
/-! ### slots hidden and brought back -/
section
variable {K : PySem.W.Frag} {F F' F1 : ASet} {H H' H1 : Hp} {σ σ' : St} {s s' s0 s1 : DEnv}
theorem wipeD_len (s : DEnv) : ∀ vs : List Nat, (wipeD s vs).length = s.length
  | [] => rfl
  | v :: vs => by unfold wipeD; rw [List.length_set, wipeD_len s vs]
theorem wipeD_some {i : Nat} {x : S} : ∀ {vs : List Nat}, (wipeD s vs)[i]? = some (some x) → s[i]? = some (some x) ∧ i ∉ vs
  | [], h => ⟨h, by simp⟩
  | v :: vs, h => by
    unfold wipeD at h
    by_cases hi : v = i
    · subst hi
      by_cases hv : v < (wipeD s vs).length
      · rw [List.getElem?_set_self hv] at h; cases h
      · rw [List.getElem?_eq_none (by simpa using hv)] at h; cases h
    · rw [List.getElem?_set_ne hi] at h
      obtain ⟨h1, h2⟩ := wipeD_some h
      exact ⟨h1, by simp only [List.mem_cons, not_or]; exact ⟨fun e => hi e.symm, h2⟩⟩
theorem wipeD_out {i : Nat} : ∀ {vs : List Nat}, i ∉ vs → (wipeD s vs)[i]? = s[i]?
  | [], _ => rfl
  | v :: vs, h => by
    unfold wipeD
    rw [List.getElem?_set_ne (fun z => h (by simp [z])), wipeD_out fun z => h (List.mem_cons_of_mem _ z)]
theorem wipe_out {i : Nat} : ∀ {vs : List Nat}, i ∉ vs → (wipe σ vs)[i]? = σ[i]?
  | [], _ => rfl
  | v :: vs, h => by
    unfold wipe
    rw [List.getElem?_set_ne (fun z => h (by simp [z])), wipe_out fun z => h (List.mem_cons_of_mem _ z)]
theorem wipe_in {i : Nat} : ∀ {vs : List Nat}, i ∈ vs → i < σ.length → (wipe σ vs)[i]? = some none
  | v :: vs, h, hl => by
    unfold wipe
    by_cases hv : v = i
    · subst hv
      exact List.getElem?_set_self (by rw [wipe_length]; exact hl)
    · rw [List.getElem?_set_ne hv]
      exact wipe_in ((List.mem_cons.mp h).resolve_left (fun z => hv z.symm)) hl
theorem wipe_same {vs : List Nat} (hl : σ'.length = σ.length) (h : ∀ j : Nat, j ∉ vs → σ'[j]? = σ[j]?) : wipe σ' vs = wipe σ vs := by
  apply List.ext_getElem?
  intro i
  by_cases hi : i ∈ vs
  · by_cases hlt : i < σ.length
    · rw [wipe_in hi hlt, wipe_in hi (by rw [hl]; exact hlt)]
    · rw [List.getElem?_eq_none (by rw [wipe_length]; omega), List.getElem?_eq_none (by rw [wipe_length]; omega)]
  · rw [wipe_out hi, wipe_out hi, h i hi]
theorem backD_len (s0 s : DEnv) : ∀ vs : List Nat, (backD s0 s vs).length = s.length
  | [] => rfl
  | v :: vs => by unfold backD; rw [List.length_set, backD_len s0 s vs]
theorem backD_out {i : Nat} : ∀ {vs : List Nat}, i ∉ vs → (backD s0 s vs)[i]? = s[i]?
  | [], _ => rfl
  | v :: vs, h => by
    unfold backD
    rw [List.getElem?_set_ne (fun z => h (by simp [z])), backD_out fun z => h (List.mem_cons_of_mem _ z)]
theorem backD_in {i : Nat} : ∀ {vs : List Nat}, i ∈ vs → i < s.length → (backD s0 s vs)[i]? = some (s0[i]?.getD none)
  | v :: vs, h, hl => by
    unfold backD
    by_cases hv : v = i
    · subst hv
      exact List.getElem?_set_self (by rw [backD_len]; exact hl)
    · rw [List.getElem?_set_ne hv]
      exact backD_in ((List.mem_cons.mp h).resolve_left (fun z => hv z.symm)) hl
theorem SR.wipe_ {vs : List Nat} (r : SR K F σ H s) : SR K F (wipe σ vs) H (wipeD s vs) := by
  refine ⟨by rw [wipe_length, wipeD_len]; exact r.len, fun i x e => ?_, fun i j x y ds es b e1 e2 e3 e4 e5 e6 => ?_, r.fdm⟩
  · obtain ⟨h1, h2⟩ := wipeD_some e
    rw [wipe_out h2]
    exact r.ats i x h1
  · obtain ⟨h1, h2⟩ := wipeD_some e1
    obtain ⟨h3, h4⟩ := wipeD_some e3
    rw [wipe_out h2] at e5
    rw [wipe_out h4] at e6
    exact r.sep i j x y ds es b h1 e2 h3 e4 e5 e6
theorem own_wipe {vs : List Nat} {b : Addr} (o : Own (wipe σ vs) (wipeD s vs) b) : Own σ s b := by
  obtain ⟨i, x, ds, e1, e2, e3⟩ := o
  obtain ⟨h1, h2⟩ := wipeD_some e1
  rw [wipe_out h2] at e3
  exact ⟨i, x, ds, h1, e2, e3⟩
/-- a list that nobody holds is changed -/
theorem SR.free_upd {D : Addr} {vs ws : List V} (r : SR K F σ H s) (h : H D = some (.lst vs)) (nF : ¬ F D) (nO : ¬ Own σ s D) : SR K F σ (upd H D (.lst ws)) s ∧ Keep F H (upd H D (.lst ws)) := by
  have kp : Keep F H (upd H D (.lst ws)) := fun b o e z => by
    have : b ≠ D := fun y => by
      subst y
      rcases z with z | z
      · exact nF z
      · rw [h] at e; cases e; exact z vs rfl
    rw [upd_ne this]; exact e
  refine ⟨⟨r.len, fun i x e => ?_, r.sep, fun b f => ?_⟩, kp⟩
  · obtain ⟨v, e1, e2⟩ := r.ats i x e
    refine ⟨v, e1, ?_⟩
    cases hz : S.muts x with
    | none =>
      cases x with
      | val d => exact Rel.mono kp (fun _ z => z) e2
      | own _ => cases hz
      | io _ => cases hz
    | some fs =>
      obtain ⟨b, us, rfl, g1, g2, g3, g4⟩ := e2.ownR hz
      have nb : b ≠ D := fun z => nO (z ▸ ⟨i, x, fs, e, hz, e1⟩)
      exact OwnR.slR ⟨b, us, rfl, by rw [upd_ne nb]; exact g1, g2.mono kp fun _ z => z, g3, g4⟩ hz
  · obtain ⟨us, e⟩ := r.fdm b f
    exact ⟨us, kp b _ e (.inl f)⟩
theorem Ext.upd_ {F O F' O' : ASet} {D : Addr} {o : HO} (e : Ext F O H F' O' H') (n : H D = none) : Ext F O H F' O' (upd H' D o) :=
  ⟨fun b u q no => by rw [upd_ne (ne_of_none q n)]; exact e.fr b u q no, fun b q => by
    by_cases hb : b = D
    · rw [hb]; exact n
    · rw [upd_ne hb] at q; exact e.dm b q, e.sub, e.new, e.own⟩
end
end Cv
set_option maxRecDepth 100000
set_option maxHeartbeats 2000000
set_option autoImplicit false
/-! Engine, part K: comprehensions. -/
namespace Cv
open PySem PySem.Spec L2
theorem noX_RP {α : Type} {r : R α} {P : α → Prop} {E : String → Prop} (h : RP (noX r) P E) : RP r P (fun _ => False) := by
  cases r with
  | ok a => exact h
  | exn c => exact h
  | bad => exact h
theorem Ext.wk {F O H F' O' H' O2 O2'} (e : Ext F O H F' O' H') (h1 : ∀ b, O b → O2 b) (h2 : ∀ b, O2' b → O' b) : Ext F O2 H F' O2' H' :=
  ⟨fun b o q n => e.fr b o q fun z => n (h1 b z), e.dm, e.sub, fun b q => (e.new b q).imp id fun z => z.imp (h1 b) id, fun b q => (e.own b (h2 b q)).imp (h1 b) id⟩
section
variable {X : Cx} {tg iter : Expr} {t : Tgt} {g : TG} {tt : TT} {te : TE} {mI : DEnv → R (List D × DEnv)} {mc : DEnv → R (Bool × DEnv)} {me : DEnv → R (Opd × DEnv)}
theorem back_ok {K : PySem.W.Frag} {F1 F' : ASet} {σ : St} {H1 H' : Hp} {s1 s' : DEnv} {vs : List Nat} (sr1 : SR K F1 σ H1 s1) (sr' : SR K F' (wipe σ vs) H' (wipeD s' vs))
    (ext : Ext F1 (Own (wipe σ vs) (wipeD s1 vs)) H1 F' (Own (wipe σ vs) (wipeD s' vs)) H') (dom : ∀ (j : Nat) (x : S), j ∉ vs → s1[j]? = some (some x) → ∃ x' : S, s'[j]? = some (some x') ∧ (S.isIo x → S.isIo x')) (len : s'.length = s1.length) :
    EPost K F1 σ H1 s1 F' H' (backD s1 s' vs) ∧ ∀ D, H1 D = none → ¬ Own (wipe σ vs) (wipeD s' vs) D → ¬ Own σ (backD s1 s' vs) D := by
  have kp : Keep F1 H1 H' := sr1.wipe_.keep ext
  have parts : ∀ (j : Nat) (x : S), (backD s1 s' vs)[j]? = some (some x) → (j ∈ vs ∧ s1[j]? = some (some x)) ∨ (j ∉ vs ∧ (wipeD s' vs)[j]? = some (some x) ∧ (wipe σ vs)[j]? = σ[j]?) := fun j x e => by
    by_cases hj : j ∈ vs
    · have hl : j < s'.length := by
        have := (List.getElem?_eq_some_iff.mp e).1
        rw [backD_len] at this
        exact this
      rw [backD_in hj hl] at e
      refine .inl ⟨hj, ?_⟩
      have e := Option.some.inj e
      cases q : s1[j]? with
      | none => rw [q] at e; cases e
      | some y => rw [q] at e; exact congrArg some e
    · rw [backD_out hj] at e
      exact .inr ⟨hj, by rw [wipeD_out hj]; exact e, wipe_out hj⟩
  have inV : ∀ (j : Nat) (x : S) (ds : List D) (b : Addr), j ∈ vs → s1[j]? = some (some x) → S.muts x = some ds → σ[j]? = some (some (V.ref b)) → ¬ Own (wipe σ vs) (wipeD s1 vs) b := fun j x ds b hj e m ha ⟨k, y, es, e1, e2, e3⟩ => by
    obtain ⟨h1, h2⟩ := wipeD_some e1
    rw [wipe_out h2] at e3
    have := sr1.sep j k x y ds es b e m h1 e2 ha e3
    exact h2 (this ▸ hj)
  have eo : ∀ b, Own σ (backD s1 s' vs) b → Own σ s1 b ∨ Own (wipe σ vs) (wipeD s' vs) b := fun b ⟨j, x, ds, e1, e2, e3⟩ => by
    rcases parts j x e1 with ⟨_, h⟩ | ⟨_, h1, h2⟩
    · exact .inl ⟨j, x, ds, h, e2, e3⟩
    · exact .inr ⟨j, x, ds, h1, e2, by rw [h2]; exact e3⟩
  have ext2 : Ext F1 (Own σ s1) H1 F' (Own σ (backD s1 s' vs)) H' := ⟨fun b o q n => ext.fr b o q fun z => n (own_wipe z), ext.dm, ext.sub, fun b q => (ext.new b q).imp id fun z => z.imp own_wipe id, fun b q => by
    rcases eo b q with z | z
    · exact .inl z
    · exact (ext.own b z).imp own_wipe id⟩
  refine ⟨⟨ext2, fun j x e => ?_, ⟨by rw [backD_len, len]; exact sr1.len, fun j x e => ?_, fun j k x y ds es b e1 e2 e3 e4 e5 e6 => ?_, sr'.fdm⟩⟩, fun D nD nO q => ?_⟩
  · by_cases hj : j ∈ vs
    · refine ⟨x, ?_, id⟩
      rw [backD_in hj (by rw [len]; exact (List.getElem?_eq_some_iff.mp e).1), e]
      rfl
    · rw [backD_out hj]
      exact dom j x hj e
  · rcases parts j x e with ⟨hj, h⟩ | ⟨hj, h1, h2⟩
    · obtain ⟨v, e1, e2⟩ := sr1.ats j x h
      refine ⟨v, e1, ?_⟩
      cases hz : S.muts x with
      | none =>
        cases x with
        | val d => exact Rel.mono kp ext.sub e2
        | own _ => cases hz
        | io _ => cases hz
      | some fs =>
        obtain ⟨b, us, rfl, g1, g2, g3, g4⟩ := e2.ownR hz
        have nb := inV j x fs b hj h hz e1
        refine OwnR.slR ⟨b, us, rfl, ext.fr b _ g1 nb, g2.mono kp ext.sub, fun f => ?_, g4⟩ hz
        rcases ext.new b f with z | z | z
        · exact g3 z
        · exact nb z
        · rw [g1] at z; cases z
    · rw [← h2]
      exact sr'.ats j x h1
  · have mixed : ∀ (j k : Nat) (x y : S) (ds es : List D), j ∈ vs → s1[j]? = some (some x) → S.muts x = some ds → σ[j]? = some (some (V.ref b)) → (wipeD s' vs)[k]? = some (some y) → S.muts y = some es → (wipe σ vs)[k]? = some (some (V.ref b)) → False :=
      fun j k x y ds es hj q1 q2 q3 q4 q5 q6 => by
        have nb := inV j x ds b hj q1 q2 q3
        rcases ext.own b ⟨k, y, es, q4, q5, q6⟩ with z | z
        · exact nb z
        · obtain ⟨⟨us, g⟩, _⟩ := sr1.own ⟨j, x, ds, q1, q2, q3⟩
          rw [g] at z; cases z
    rcases parts j x e1 with ⟨hj, h⟩ | ⟨hj, h1, h2⟩ <;> rcases parts k y e3 with ⟨hk, g⟩ | ⟨hk, g1, g2⟩
    · exact sr1.sep j k x y ds es b h e2 g e4 e5 e6
    · exact (mixed j k x y ds es hj h e2 e5 g1 e4 (by rw [g2]; exact e6)).elim
    · exact (mixed k j y x es ds hk g e4 e6 h1 e2 (by rw [h2]; exact e5)).elim
    · exact sr'.sep j k x y ds es b h1 e2 g1 e4 (by rw [h2]; exact e5) (by rw [g2]; exact e6)
  · rcases eo D q with z | z
    · exact sr1.noO nD z
    · exact nO z
theorem lc_sim (hI : SimI X tg iter mI)
    (hg : ∀ (F : ASet) (σ : St) (H : Hp) (s : DEnv) (d : D) (v : V) (s' : DEnv) (Q : St → Hp → Prop), SR X.K F σ H s → Rel X.K F H v d → setT s t d = some s' → (∀ σ', TPost X.K F σ H s (tgtSlots t) σ' s' → Q σ' H) → g v σ H Q)
    (ht : ∀ (F : ASet) (σ : St) (H : Hp) (s : DEnv) (Q : Bool → Hp → Prop), SR X.K F σ H s → RP (mc s) (fun r => ∀ F' H', EPost X.K F σ H s F' H' r.2 → Q r.1 H') (fun _ => False) → tt σ H Q)
    (he : ∀ (F : ASet) (σ : St) (H : Hp) (s : DEnv) (Q : VK), SR X.K F σ H s → RP (me s) (fun r => ∀ F' v H', EPost X.K F σ H s F' H' r.2 → OR X.K F' σ H H' r.2 v r.1 → Q v H') (fun _ => False) → te σ H Q)
    {F : ASet} {σ : St} {H : Hp} {s : DEnv} {Q : VK} (sr : SR X.K F σ H s)
    (w : RP ((mI s).bind fun it => (compLoop (fun s => wipeD s (tgtSlots t)) (fun s d => setT s t d) mc (fun s => eltR me s) it.1 [] it.2).bind fun r => R.ok (Opd.fresh r.1, backD it.2 r.2 (tgtSlots t)))
      (fun r => ∀ F' v H', EPost X.K F σ H s F' H' r.2 → OR X.K F' σ H H' r.2 v r.1 → Q v H') (Acc X σ H (Own σ s))) : tLc (WpI X tg iter) g tt te (tgtSlots t) σ H Q := by
  refine hI F σ H s _ sr (w.bind.mono (fun it w1 F1 J H1 p1 itd hlim A0 nD => ?_) (fun c a => a))
  obtain ⟨ds, s1⟩ := it
  simp only at p1 itd hlim w1
  generalize hvs : tgtSlots t = vs at *
  refine ⟨fun i m H' => m = ds.length - i ∧ i ≤ ds.length ∧ ∃ (F' : ASet) (s' : DEnv) (acc : List D) (us : List V),
      RP ((compLoop (fun s => wipeD s vs) (fun s d => setT s t d) mc (fun s => eltR me s) (ds.drop i) acc s').bind fun r => R.ok (Opd.fresh r.1, backD s1 r.2 vs)) (fun r => ∀ F' v H', EPost X.K F σ H s F' H' r.2 → OR X.K F' σ H H' r.2 v r.1 → Q v H') (Acc X σ H (Own σ s)) ∧
      SR X.K F' (wipe σ vs) H' (wipeD s' vs) ∧ Ext F1 (Own (wipe σ vs) (wipeD s1 vs)) H1 F' (Own (wipe σ vs) (wipeD s' vs)) H' ∧ H' A0 = some (.lst us) ∧ RelL X.K F' H' us acc ∧ ¬ F' A0 ∧ ¬ Own (wipe σ vs) (wipeD s' vs) A0 ∧ acc.length ≤ i ∧
      (∀ (j : Nat) (x : S), j ∉ vs → s1[j]? = some (some x) → ∃ x' : S, s'[j]? = some (some x') ∧ (S.isIo x → S.isIo x')) ∧ s'.length = s1.length, ⟨ds.length, by simp, Nat.zero_le _, F1, s1, [], [], w1, ?_, ?_, upd_same, .nil, ?_, ?_, Nat.le_refl _, fun j x _ e => ⟨x, e, id⟩, rfl⟩, ?_⟩
  · exact (p1.sr.wipe_).same (same_obj nD)
  · exact Ext.obj nD
  · exact p1.sr.noF nD
  · exact p1.sr.wipe_.noO nD
  rintro i m H' ⟨rfl, hi, F', s', acc, us, wl, sr', ext, hD, rD, nF, nO, hacc, dom, len'⟩
  have kp : Keep F1 H1 H' := p1.sr.wipe_.keep ext
  have it' := itd F' H' ext.sub kp
  by_cases hlt : i < ds.length
  · obtain ⟨d, ed⟩ : ∃ d, ds[i]? = some d := ⟨ds[i], List.getElem?_eq_getElem hlt⟩
    have hdrop : ds.drop i = d :: ds.drop (i + 1) := by
      rw [List.drop_eq_getElem_cons hlt]
      rw [List.getElem?_eq_getElem hlt] at ed
      rw [Option.some.inj ed]
    rw [hdrop] at wl
    simp only [compLoop] at wl
    obtain ⟨s2, e2, w2⟩ := wl.bind.bind.ofO
    refine .inr ⟨(it'.1 i d ed).1, _, fun H'' h => ⟨ds.length - (i + 1), by omega, h⟩, fun x H2 y => ?_⟩
    obtain ⟨sm, rx⟩ := (it'.1 i d ed).2 x H2 y
    have sr2 := sr'.same sm
    refine hg F' (wipe σ vs) H2 (wipeD s' vs) d x s2 _ sr2 rx e2 fun σ2 tp => ?_
    have hw : wipe σ2 vs = wipe σ vs := wipe_same (by rw [tp.len, wipe_length]) fun j hj => (tp.sig j hj).trans (wipe_out hj)
    refine ⟨hw, ?_⟩
    have lenσ : σ2.length = s1.length := by rw [tp.len, wipe_length]; exact p1.sr.len
    -- what carries over to a later state of this turn
    have carry : ∀ {F3 : ASet} {H3 : Hp} {s3 : DEnv}, EPost X.K F' σ2 H2 s2 F3 H3 s3 → SR X.K F3 (wipe σ vs) H3 (wipeD s3 vs) ∧ Ext F1 (Own (wipe σ vs) (wipeD s1 vs)) H1 F3 (Own (wipe σ vs) (wipeD s3 vs)) H3 ∧ H3 A0 = some (.lst us) ∧ RelL X.K F3 H3 us acc ∧ ¬ F3 A0 ∧ ¬ Own σ2 s3 A0 ∧
        (∀ (j : Nat) (x : S), j ∉ vs → s1[j]? = some (some x) → ∃ x' : S, s3[j]? = some (some x') ∧ (S.isIo x → S.isIo x')) ∧ s3.length = s1.length := fun {F3 H3 s3} p3 => by
      have hD2 := sm _ _ hD
      have nO2 : ¬ Own σ2 s2 A0 := fun z => nO (tp.own A0 z)
      have gone : ∀ {P : Prop}, (F' A0 ∨ Own σ2 s2 A0 ∨ H2 A0 = none) → P := fun z => by
        rcases z with z | z | z
        · exact absurd z nF
        · exact absurd z nO2
        · rw [hD2] at z; cases z
      refine ⟨by rw [← hw]; exact p3.sr.wipe_, ?_, p3.ext.fr A0 _ hD2 nO2, tp.sr.relL p3.ext (rD.mono (same_keep sm) fun _ z => z), fun f => gone (p3.ext.new A0 f), fun o => gone (.inr (p3.ext.own A0 o)), fun j x hj e => ?_, by rw [← lenσ]; exact p3.sr.len.symm⟩
      · refine ext.trans ((same_ext sm).trans (p3.ext.wk tp.own fun b z => ?_))
        rw [← hw] at z
        exact own_wipe z
      · obtain ⟨x1, q1, q2⟩ := dom j x hj e
        have q3 : s2[j]? = some (some x1) := by rw [tp.env j hj, wipeD_out hj]; exact q1
        obtain ⟨x2, q4, q5⟩ := p3.dom j x1 q3
        exact ⟨x2, q4, fun z => q5 (q2 z)⟩
    refine ht F' σ2 H2 s2 _ tp.sr ((noX_RP w2.bind).mono (fun b w3 F3 H3 p3 => ?_) fun _ z => z)
    obtain ⟨b, s3⟩ := b
    cases b with
    | false =>
      simp only [Bool.false_eq_true, if_false] at w3 ⊢
      obtain ⟨c1, c2, c3, c4, c5, c6, c7, c8⟩ := carry p3
      refine ⟨trivial, hlt, F3, s3, acc, us, ?_, c1, c2, c3, c4, c5, fun z => c6 (own_wipe (hw ▸ z)), by omega, c7, c8⟩
      have bk : ∀ {r : R (List D × DEnv)} {f : List D × DEnv → R (Opd × DEnv)} {P : Opd × DEnv → Prop} {E : String → Prop}, RP r (fun a => RP (f a) P E) E → RP (r.bind f) P E := fun {r f P E} h => by cases r <;> exact h
      exact bk w3
    | true =>
      simp only [if_true] at w3 ⊢
      refine he F3 σ2 H3 s3 _ p3.sr (RP.mono (RP.bind (noX_RP w3.bind)) (fun x w4 F4 v H4 p4 o4 => ?_) fun _ z => z)
      obtain ⟨⟨dd, s5⟩, e5, w5⟩ := w4.ofO
      obtain ⟨F5, p5, r5⟩ := esc_ok p4 o4 e5
      obtain ⟨c1, c2, c3, c4, c5, c6, c7, c8⟩ := carry (p3.trans p5)
      have nO5 : ¬ Own (wipe σ vs) (wipeD s5 vs) A0 := fun z => c6 (own_wipe (hw ▸ z))
      have ha : acc.length < lim := by omega
      refine ⟨us, c3, by rw [c4.len, ← lim_eq]; exact ha, trivial, hlt, F5, s5, acc ++ [dd], us ++ [v], ?_, ?_⟩
      · have bk : ∀ {r : R (List D × DEnv)} {f : List D × DEnv → R (Opd × DEnv)} {P : Opd × DEnv → Prop} {E : String → Prop}, RP r (fun a => RP (f a) P E) E → RP (r.bind f) P E := fun {r f P E} h => by cases r <;> exact h
        exact bk w5
      · obtain ⟨f1, f2⟩ := c1.free_upd (ws := us ++ [v]) c3 c5 nO5
        exact ⟨f1, c2.upd_ nD, upd_same, (c4.app (.cons r5 .nil)).mono f2 fun _ z => z, c5, nO5, by simp; omega, c7, c8⟩
  · have e : i = ds.length := by omega
    subst e
    refine .inl ⟨it'.2, ?_⟩
    rw [List.drop_length] at wl
    simp only [compLoop, R.bind_ok] at wl
    obtain ⟨bp, bo⟩ := back_ok p1.sr sr' ext dom len'
    refine wl F' _ H' (p1.trans bp) ⟨⟨A0, us, rfl, hD, rD, nF, by omega⟩, fun b q => ?_⟩
    cases q
    exact ⟨bo A0 nD nO, p1.ext.dm A0 nD⟩
end
end Cv
set_option maxRecDepth 100000
set_option maxHeartbeats 2000000
set_option autoImplicit false
/-! Engine, part L: statements. -/
namespace Cv
open PySem PySem.Spec L2
def WpS (X : Cx) (st : Stmt) : TS := fun D σ H => ∀ (pins : List (Addr × Obj)) (s : Shared), Inv X pins σ H s → wpAny (model X.prog X.w) X.A (exec st X.env) (SP X pins D) X.xe s
def WpSs (X : Cx) (st : List Stmt) : TS := fun D σ H => ∀ (pins : List (Addr × Obj)) (s : Shared), Inv X pins σ H s → wpAny (model X.prog X.w) X.A (execs st X.env) (SP X pins D) X.xe s
structure SPost (K : PySem.W.Frag) (F : ASet) (σ : St) (H : Hp) (s : DEnv) (F' : ASet) (σ' : St) (H' : Hp) (s' : DEnv) : Prop where
  ext : Ext F (Own σ s) H F' (Own σ' s') H'
  sr : SR K F' σ' H' s'
  len : σ'.length = σ.length
  io : ∀ ds, s[0]? = some (some (.io ds)) → σ'[0]? = σ[0]? ∧ ∃ ds', s'[0]? = some (some (S.io ds'))
theorem SPost.refl {K : PySem.W.Frag} {F : ASet} {σ : St} {H : Hp} {s : DEnv} (r : SR K F σ H s) : SPost K F σ H s F σ H s := ⟨.refl, r, rfl, fun ds e => ⟨rfl, ds, e⟩⟩
theorem SPost.trans {K : PySem.W.Frag} {F F1 F2 : ASet} {σ σ1 σ2 : St} {H H1 H2 : Hp} {s s1 s2 : DEnv} (a : SPost K F σ H s F1 σ1 H1 s1) (b : SPost K F1 σ1 H1 s1 F2 σ2 H2 s2) : SPost K F σ H s F2 σ2 H2 s2 :=
  ⟨a.ext.trans b.ext, b.sr, b.len.trans a.len, fun ds e => let ⟨h1, ds1, e1⟩ := a.io ds e; let ⟨h2, r⟩ := b.io ds1 e1; ⟨h2.trans h1, r⟩⟩
theorem EPost.s {K : PySem.W.Frag} {F F1 : ASet} {σ : St} {H H1 : Hp} {s s1 : DEnv} (a : EPost K F σ H s F1 H1 s1) : SPost K F σ H s F1 σ H1 s1 :=
  ⟨a.ext, a.sr, rfl, fun ds e => by
    obtain ⟨x, e1, e2⟩ := a.dom 0 _ e
    have := e2 trivial
    cases x with
    | io ds' => exact ⟨rfl, ds', e1⟩
    | _ => exact this.elim⟩
theorem TPost.s {K : PySem.W.Frag} {F : ASet} {σ σ1 : St} {H : Hp} {s s1 : DEnv} {vs : List Nat} (a : TPost K F σ H s vs σ1 s1) : SPost K F σ H s F σ1 H s1 :=
  ⟨⟨fun _ _ e _ => e, fun _ e => e, fun _ e => e, fun _ e => .inl e, fun b o => .inl (a.own b o)⟩, a.sr, a.len, fun ds e => by
    obtain ⟨h1, h2⟩ := a.io 0 _ e trivial
    exact ⟨h2, ds, h1⟩⟩
/-- the class of the name c may leave X at any slots -/
def AccS (X : Cx) (H : Hp) (O : ASet) (n : Nat) (c : String) : Prop :=
  ∃ W, Takes X W ∧ ∀ σ' H', σ'.length = n → (∀ b o, H b = some o → ¬ O b → H' b = some o) → ∀ C, X.mg (Str.ofString c) = some (.ref C) → W (.ref C) none σ' H'
theorem AccS.mono {X : Cx} {F F' O O' : ASet} {H H' : Hp} {c : String} {n : Nat} (a : AccS X H O n c) (e : Ext F O H F' O' H') : AccS X H' O' n c := by
  obtain ⟨W, t, h⟩ := a
  refine ⟨W, t, fun σ' H2 hl f C m => h σ' H2 hl (fun b o q n => f b o (e.fr b o q n) fun z => ?_) C m⟩
  rcases e.own b z with z | z
  · exact n z
  · rw [q] at z; cases z
theorem AccS.acc {X : Cx} {H : Hp} {O : ASet} {c : String} {n : Nat} {σ : St} (a : AccS X H O n c) (hl : σ.length = n) : Acc X σ H O c := by
  obtain ⟨W, t, h⟩ := a
  exact ⟨W, t, fun H' f C m => h σ H' hl f C m⟩
/-- what is wanted of an outcome -/
def OutP (K : PySem.W.Frag) (F : ASet) (σ : St) (H : Hp) (s : DEnv) (D : Ends) : Out → Prop
  | .next s' => ∀ F' σ' H', SPost K F σ H s F' σ' H' s' → D.nx σ' H'
  | .brk s' => ∀ F' σ' H', SPost K F σ H s F' σ' H' s' → D.bk σ' H'
  | .cont s' => ∀ F' σ' H', SPost K F σ H s F' σ' H' s' → D.ct σ' H'
  | .ret v s' => ∀ F' σ' u H', SPost K F σ H s F' σ' H' s' → OR K F' σ' H H' s' u v → D.rt u H'
def SimS (X : Cx) (st : Stmt) (m : DEnv → R Out) : Prop := ∀ (F : ASet) (σ : St) (H : Hp) (s : DEnv) (D : Ends), SR X.K F σ H s → RP (m s) (OutP X.K F σ H s D) (AccS X H (Own σ s) σ.length) → WpS X st D σ H
def SimSs (X : Cx) (st : List Stmt) (m : DEnv → R Out) : Prop := ∀ (F : ASet) (σ : St) (H : Hp) (s : DEnv) (D : Ends), SR X.K F σ H s → RP (m s) (OutP X.K F σ H s D) (AccS X H (Own σ s) σ.length) → WpSs X st D σ H
section
variable {X : Cx} {st : Stmt} {sts : List Stmt} {e a b c tg : Expr} {pos p2 : Pos} {F F1 : ASet} {σ σ1 : St} {H H1 : Hp} {s s1 : DEnv} {C : Cal} {ie ia ib : IE} {D : Ends}
theorem ps_w : PS X st (WpS X st) := ⟨fun pins s σ H D I h => h pins s I⟩
theorem pss_w : PSs X sts (WpSs X sts) := ⟨fun pins s σ H D I h => h pins s I⟩
theorem WpS.of {t : TS} (h : PS X st t) (q : t D σ H) : WpS X st D σ H := fun pins s I => h.run pins s σ H D I q
theorem WpSs.of {t : TS} (h : PSs X sts t) (q : t D σ H) : WpSs X sts D σ H := fun pins s I => h.run pins s σ H D I q
/-- the ends wanted from a later state on -/
theorem OutP.later {o : Out} (p : SPost X.K F σ H s F1 σ1 H1 s1) (h : OutP X.K F σ H s D o) : OutP X.K F1 σ1 H1 s1 D o := by
  cases o with
  | next s' => exact fun F' σ' H' q => h F' σ' H' (p.trans q)
  | brk s' => exact fun F' σ' H' q => h F' σ' H' (p.trans q)
  | cont s' => exact fun F' σ' H' q => h F' σ' H' (p.trans q)
  | ret v s' => exact fun F' σ' u H' q o => h F' σ' u H' (p.trans q) (o.early p.ext.dm)
theorem SimSs.run {m : DEnv → R Out} (h : SimSs X sts m) (p : SPost X.K F σ H s F1 σ1 H1 s1) (w : RP (m s1) (OutP X.K F σ H s D) (AccS X H (Own σ s) σ.length)) : WpSs X sts D σ1 H1 :=
  h F1 σ1 H1 s1 D p.sr (w.mono (fun o q => q.later p) fun c a => by rw [p.len]; exact a.mono p.ext)
theorem SimE.runS {m : DEnv → R (Opd × DEnv)} {Q : VK} (h : SimE X e m) (sr : SR X.K F σ H s) {P : Opd × DEnv → Prop} (w : RP (m s) P (AccS X H (Own σ s) σ.length))
    (k : ∀ r F2 v H2, P r → EPost X.K F σ H s F2 H2 r.2 → OR X.K F2 σ H H2 r.2 v r.1 → Q v H2) : WpE X e σ H Q :=
  h F σ H s Q sr (w.mono (fun r hr F2 v H2 q o => k r F2 v H2 hr q o) fun c a => a.acc rfl)
theorem SimT.runS {m : DEnv → R (Bool × DEnv)} {Q : Bool → Hp → Prop} (h : SimT X e m) (sr : SR X.K F σ H s) {P : Bool × DEnv → Prop} (w : RP (m s) P (AccS X H (Own σ s) σ.length))
    (k : ∀ r F2 H2, P r → EPost X.K F σ H s F2 H2 r.2 → Q r.1 H2) : WpT X e σ H Q :=
  h F σ H s Q sr (w.mono (fun r hr F2 H2 q => k r F2 H2 hr q) fun c a => a.acc rfl)
/-! ### blocks -/
theorem sims_nil : SimSs X [] (denSs C []) := by
  intro F σ H s D sr w
  simp only [denSs] at w
  exact .of pss_nil (w F σ H (.refl sr))
theorem sims_cons {i : IS} {is : List IS} (h1 : SimS X st (denS C i)) (h2 : SimSs X sts (denSs C is)) : SimSs X (st :: sts) (denSs C (i :: is)) := by
  intro F σ H s D sr w
  simp only [denSs] at w
  refine .of (pss_cons ps_w pss_w) ?_
  refine h1 F σ H s _ sr (w.bind.mono (fun o q => ?_) fun _ a => a)
  cases o with
  | next s1 => exact fun F1 σ1 H1 p1 => h2.run p1 q
  | brk s1 => exact fun F1 σ1 H1 p1 => q F1 σ1 H1 p1
  | cont s1 => exact fun F1 σ1 H1 p1 => q F1 σ1 H1 p1
  | ret v s1 => exact fun F1 σ1 u H1 p1 o => q F1 σ1 u H1 p1 o
/-! ### stores -/
theorem asgO_ok {K : PySem.W.Frag} {o : Opd} {i : Nat} {v : V} {s' : DEnv} (p : EPost K F σ H s F1 H1 s1) (h : OR K F1 σ H H1 s1 v o) (e : asgO s1 i o = some s') : ∃ F2, SPost K F σ H s F2 (σ.set i (some v)) H1 s' := by
  cases o with
  | val d => exact ⟨F1, p.s.trans (TPost.name p.sr h e).s⟩
  | slot j =>
    simp only [asgO] at e
    split at e
    · rename_i d s2 e1
      obtain ⟨F2, p2, r2⟩ := esc_ok p h e1
      exact ⟨F2, p2.s.trans (TPost.name p2.sr r2 e).s⟩
    · cases e
  | fresh ds =>
    obtain ⟨h1, h2⟩ := h
    obtain ⟨hi, rfl, hn⟩ := setN_ok (show setN s1 i (.own ds) = some s' from e)
    obtain ⟨q1, q2⟩ := p.sr.put (x := .own ds) hi h1 fun _ b _ e => (h2 b e).1
    refine ⟨F1, ⟨⟨p.ext.fr, p.ext.dm, p.ext.sub, p.ext.new, fun b o => ?_⟩, q1, List.length_set .., fun ds' e' => ?_⟩⟩
    · rcases q2 b o with z | ⟨_, _, z⟩
      · exact p.ext.own b z
      · exact .inr (h2 b z).2
    · obtain ⟨h3, ds2, h4⟩ := p.s.io ds' e'
      have : i ≠ 0 := fun z => by subst z; exact hn _ h4 trivial
      exact ⟨List.getElem?_set_ne this, ds2, by rw [List.getElem?_set_ne this]; exact h4⟩
theorem sim_asg {i : Nat} {x : Str} (hN : X.N.Nodup) (h : StOk X i x) (hs : swapsWith e (some (.Name x p2)) pos.line X.env = pure false) (he : SimE X e (denE C ie)) : SimS X (.Assign [.Name x p2] e pos) (denS C (.asg (.name i) ie)) := by
  intro F σ H s D sr w
  simp only [denS] at w
  refine .of (ps_set hN h.ix h.loc pe_w hs h.fn) ?_
  refine he.runS sr w.bind fun r F1 v H1 w1 p1 o1 => ?_
  obtain ⟨s2, e2, w2⟩ := w1.bind.ofO
  obtain ⟨F2, p2⟩ := asgO_ok p1 o1 e2
  exact w2 F2 _ H1 p2
theorem sim_asgT {is : List Nat} (hg : SimG X tg (.tup is)) (hs : swapsWithSole [tg] e pos.line X.env = pure false) (hw : swappedStores [tg] e X.env = pure none) (h1 : (assignEach [tg] X.env).map (·.2) = [assign tg X.env]) (he : SimE X e (denE C ie)) :
    SimS X (.Assign [tg] e pos) (denS C (.asg (.tup is) ie)) := by
  intro F σ H s D sr w
  simp only [denS] at w
  refine .of (ps_asg pe_w pg_w hs hw h1) ?_
  refine he.runS sr w.bind fun r F1 v H1 w1 p1 o1 => ?_
  obtain ⟨d, e2, w2⟩ := w1.bind.ofO
  obtain ⟨s2, e3, w3⟩ := w2.bind.ofO
  cases d with
  | tup ds =>
    have vw := p1.sr.view o1 e2
    cases vw with
    | rel r => exact hg F1 σ H1 _ _ v s2 _ p1.sr r e3 fun σ' t => w3 F1 σ' H1 (p1.s.trans t.s)
  | _ => cases e3
theorem put_ok {K : PySem.W.Frag} {i : Nat} {v : V} {x : S} {s' : DEnv} (sr : SR K F σ H s) (h : SlR K F H v x) (nw : ∀ ds b, S.muts x = some ds → v = .ref b → ¬ Own σ s b) (e : setN s i x = some s') :
    SR K F (σ.set i (some v)) H s' ∧ (∀ b, Own (σ.set i (some v)) s' b → Own σ s b ∨ ∃ ds, S.muts x = some ds ∧ v = .ref b) ∧ (∀ ds, s[0]? = some (some (.io ds)) → (σ.set i (some v))[0]? = σ[0]? ∧ s'[0]? = some (some (S.io ds))) := by
  obtain ⟨hi, rfl, hn⟩ := setN_ok e
  obtain ⟨q1, q2⟩ := sr.put (x := x) hi h nw
  refine ⟨q1, q2, fun ds e' => ?_⟩
  have : i ≠ 0 := fun z => by subst z; exact hn _ e' trivial
  exact ⟨List.getElem?_set_ne this, by rw [List.getElem?_set_ne this]; exact e'⟩
/-- what a name gets of an operand that is no slot -/
def sOf : Opd → S
  | .val d => .val d
  | .fresh ds => .own ds
  | .slot _ => .val .non
theorem sim_par {i j : Nat} {x y : Str} {px py pt pt2 : Pos} {kt k2 : Nat} (hc : X.calm = true) (hN : X.N.Nodup) (hx : StOk X i x) (hy : StOk X j y) (lx : X.env.scope.names.lookup x = some .local) (ly : X.env.scope.names.lookup y = some .local)
    (hn : notStar a = true) (hn2 : notStar b = true) (hw : swappedStores [.Tuple [.Name x px, .Name y py] kt pt] (.Tuple [a, b] k2 pt2) X.env = pure (some [x, y])) (ha : SimE X a (denE C ia)) (hb : SimE X b (denE C ib)) :
    SimS X (.Assign [.Tuple [.Name x px, .Name y py] kt pt] (.Tuple [a, b] k2 pt2) pos) (denS C (.par i j ia ib)) := by
  intro F σ H s D sr w
  simp only [denS] at w
  split at w
  · exact w.elim
  · rename_i hij
    refine .of (ps_par hc hN hx.ix hy.ix hij lx ly (pa_cons pe_w (pa_cons pe_w pa_nil (star_cons hn2)) (star_cons hn)) hw) ?_
    refine ha.runS sr w.bind fun r1 F1 v1 H1 w1 p1 o1 => ?_
    refine hb F1 σ H1 r1.2 _ p1.sr (w1.bind.mono (fun r2 w2 F2 v2 H2 q2 o2 => ?_) fun c a => (a.acc rfl).mono p1.ext)
    have p2 := p1.trans q2
    have o1' := o1.mono q2 p1.sr
    refine ⟨v1, v2, rfl, ?_⟩
    obtain ⟨u1, s1⟩ := r1
    obtain ⟨u2, s2⟩ := r2
    have key : ∀ (x1 x2 : S) (s3 s4 : DEnv), SlR X.K F2 H2 v1 x1 → SlR X.K F2 H2 v2 x2 → (∀ ds b, S.muts x1 = some ds → v1 = .ref b → ¬ Own σ s2 b ∧ H b = none ∧ H1 b ≠ none) → (∀ ds b, S.muts x2 = some ds → v2 = .ref b → ¬ Own σ s2 b ∧ H1 b = none) →
        setN s2 i x1 = some s3 → setN s3 j x2 = some s4 → SPost X.K F σ H s F2 ((σ.set i (some v1)).set j (some v2)) H2 s4 := fun x1 x2 s3 s4 h1 h2 n1 n2 e1 e2 => by
      obtain ⟨a1, a2, a3⟩ := put_ok p2.sr h1 (fun ds b m e => (n1 ds b m e).1) e1
      obtain ⟨b1, b2, b3⟩ := put_ok a1 h2 (fun ds b m e o => by
        rcases a2 b o with z | ⟨ds1, m1, z⟩
        · exact (n2 ds b m e).1 z
        · exact (n1 ds1 b m1 z).2.2 (n2 ds b m e).2) e2
      refine ⟨⟨p2.ext.fr, p2.ext.dm, p2.ext.sub, p2.ext.new, fun b o => ?_⟩, b1, by rw [List.length_set, List.length_set], fun ds e => ?_⟩
      · rcases b2 b o with z | ⟨ds2, m2, z⟩
        · rcases a2 b z with z | ⟨ds1, m1, z⟩
          · exact p2.ext.own b z
          · exact .inr (n1 ds1 b m1 z).2.1
        · exact .inr (p1.ext.dm b (n2 ds2 b m2 z).2)
      · obtain ⟨h3, ds2, h4⟩ := p2.s.io ds e
        obtain ⟨h5, h6⟩ := a3 ds2 h4
        obtain ⟨h7, h8⟩ := b3 ds2 h6
        exact ⟨h7.trans h5, ds2, h8⟩
    have own1 : ∀ {ds : List Cv.D}, OR X.K F1 σ H H1 s1 v1 (.fresh ds) → ∀ b, v1 = .ref b → H1 b ≠ none := fun {ds} h b e z => by
      obtain ⟨⟨a', vs, e1, h1, _⟩, _⟩ := h
      rw [e1] at e
      cases e
      rw [h1] at z; cases z
    cases u1 with
    | slot _ => exact w2.elim
    | val d1 =>
      cases u2 with
      | slot _ => exact w2.elim
      | val d2 =>
        obtain ⟨s3, e3, w3⟩ := w2.bind.ofO
        obtain ⟨s4, e4, w4⟩ := w3.bind.ofO
        exact w4 F2 _ H2 (key (.val d1) (.val d2) s3 s4 o1' o2 (fun _ _ m => nomatch m) (fun _ _ m => nomatch m) e3 e4)
      | fresh ds2 =>
        obtain ⟨s3, e3, w3⟩ := w2.bind.ofO
        obtain ⟨s4, e4, w4⟩ := w3.bind.ofO
        exact w4 F2 _ H2 (key (.val d1) (.own ds2) s3 s4 o1' o2.1 (fun _ _ m => nomatch m) (fun _ b _ e => o2.2 b e) e3 e4)
    | fresh ds1 =>
      cases u2 with
      | slot _ => exact w2.elim
      | val d2 =>
        obtain ⟨s3, e3, w3⟩ := w2.bind.ofO
        obtain ⟨s4, e4, w4⟩ := w3.bind.ofO
        exact w4 F2 _ H2 (key (.own ds1) (.val d2) s3 s4 o1'.1 o2 (fun _ b _ e => ⟨(o1'.2 b e).1, (o1'.2 b e).2, own1 o1 b e⟩) (fun _ _ m => nomatch m) e3 e4)
      | fresh ds2 =>
        obtain ⟨s3, e3, w3⟩ := w2.bind.ofO
        obtain ⟨s4, e4, w4⟩ := w3.bind.ofO
        exact w4 F2 _ H2 (key (.own ds1) (.own ds2) s3 s4 o1'.1 o2.1 (fun _ b _ e => ⟨(o1'.2 b e).1, (o1'.2 b e).2, own1 o1 b e⟩) (fun _ b _ e => o2.2 b e) e3 e4)
theorem sim_expr (hs : swapsWith e none pos.line X.env = pure false) (he : SimE X e (denE C ie)) : SimS X (.Expr e pos) (denS C (.expr ie)) := by
  intro F σ H s D sr w
  simp only [denS] at w
  refine .of (ps_expr pe_w hs) ?_
  exact he.runS sr w.bind fun r F1 v H1 w1 p1 o1 => w1 F1 σ H1 p1.s
theorem sim_ret (he : SimE X e (denE C ie)) : SimS X (.Return (some e) pos) (denS C (.ret ie)) := by
  intro F σ H s D sr w
  simp only [denS] at w
  refine .of (ps_ret pe_w) ?_
  exact he.runS sr w.bind fun r F1 v H1 w1 p1 o1 => w1 F1 σ v H1 p1.s o1
theorem sim_retN : SimS X (.Return none pos) (denS C .retN) := by
  intro F σ H s D sr w
  simp only [denS] at w
  exact .of ps_retN (w F σ .non H (.refl sr) .non)
theorem sim_pass : SimS X (.Pass pos) (denS C .pass) := by
  intro F σ H s D sr w
  simp only [denS] at w
  exact .of ps_pass (w F σ H (.refl sr))
theorem sim_cont : SimS X (.Continue pos) (denS C .cont) := by
  intro F σ H s D sr w
  simp only [denS] at w
  exact .of ps_continue (w F σ H (.refl sr))
theorem sim_brk : SimS X (.Break pos) (denS C .brk) := by
  intro F σ H s D sr w
  simp only [denS] at w
  exact .of ps_break (w F σ H (.refl sr))
theorem sim_if {ta tb : List Stmt} {sa sb : List IS} (hc : SimT X c (denT C ie)) (ha : SimSs X ta (denSs C sa)) (hb : SimSs X tb (denSs C sb)) : SimS X (.If c ta tb pos) (denS C (.ife ie sa sb)) := by
  intro F σ H s D sr w
  simp only [denS] at w
  refine .of (ps_if pt_w pss_w pss_w) ?_
  refine hc.runS sr w.bind fun t F1 H1 w1 p1 => ?_
  obtain ⟨t, s1⟩ := t
  cases t with
  | true => simp only [if_true] at w1 ⊢; exact ha.run p1.s w1
  | false => simp only [Bool.false_eq_true, if_false] at w1 ⊢; exact hb.run p1.s w1
def notSlice : Expr → Bool
  | .Slice .. => false
  | _ => true
theorem sub_plain {o i : Expr} (h : notSlice i = true) : ∀ v, assign (.Subscript o i pos) X.env v = (do
      let ov ← holding [v] (eval o X.env)
      let iv ← holding [v, ov] (eval i X.env)
      standAt pos
      holding [v, ov, iv] (setItem ov iv v)
      release [v, ov, iv] []) := by
  intro v
  cases i <;> first | rfl | cases h
/-- x[k] = v -/
theorem sim_sub {i : Nat} {x : Str} {p3 : Pos} (hN : X.N[i]? = some x) (hv : Vis X.env.scope x) (hd : (x == ("__debug__" : Str)) = false) (hcd : (x == ("__classdict__" : Str)) = false) (hi : SimE X a (denE C ia)) (he : SimE X e (denE C ie))
    (hs : swapsWithSole [.Subscript (.Name x p3) a p2] e pos.line X.env = pure false) (hw : swappedStores [.Subscript (.Name x p3) a p2] e X.env = pure none) (hsl : notSlice a = true) :
    SimS X (.Assign [.Subscript (.Name x p3) a p2] e pos) (denS C (.sub i ia ie)) := by
  intro F σ H s D sr w
  simp only [denS] at w
  refine .of (ps_asg pe_w (pg_sub (pe_var hN hv hd hcd) pe_w set_list (sub_plain hsl)) hs hw) ?_
  refine he.runS sr w.bind fun r F1 v H1 w1 p1 o1 => ?_
  obtain ⟨⟨dv, s2⟩, e2, w2⟩ := w1.bind.ofO
  obtain ⟨F2, p2, r2⟩ := esc_ok p1 o1 e2
  obtain ⟨ds0, e0, w2⟩ := w2.bind.ofO
  obtain ⟨y0, a0, vs0, k1, k2, k3, k4, k5, k6⟩ := slot_own p2.sr e0
  refine ⟨.ref a0, k3, ?_⟩
  refine hi F2 σ H1 s2 _ p2.sr (w2.bind.mono (fun r3 w3 F3 u H3 q3 o3 => ?_) fun c a => (a.acc rfl).mono p2.ext)
  have p3 := p2.trans q3
  obtain ⟨k, ek, w4⟩ := w3.bind.ofO
  obtain ⟨ds, e1, w5⟩ := w4.bind.ofO
  obtain ⟨y1, a1, vs1, g1, g2, g3, g4, g5, g6⟩ := slot_own p3.sr e1
  rw [k3] at g3
  cases g3
  cases k with
  | int n =>
    cases (p3.sr.view o3 ek).int_
    obtain ⟨j, ej, w6⟩ := w5.bind.ofO
    have rv := p2.sr.rel q3.ext r2
    have p := own_write p3.sr g1 g2 k3 (g5.set rv j) (by rw [List.length_set]; exact g6)
    exact ⟨a0, vs1, n, j, rfl, rfl, g4, by rw [g5.len]; exact ej, w6 F3 σ _ (p3.trans p).s⟩
  | _ => exact w5.elim
end
end Cv
set_option maxRecDepth 100000
set_option maxHeartbeats 2000000
set_option autoImplicit false
/-! Engine, part M: loops, comprehensions as statements and values, raise, defs. -/
namespace Cv
open PySem PySem.Spec L2
section
variable {X : Cx} {st : Stmt} {sts body : List Stmt} {e a b c tg iter : Expr} {pos p2 : Pos} {F F1 : ASet} {σ σ1 : St} {H H1 : Hp} {s s1 : DEnv} {C : Cal} {ie ia ib : IE} {D : Ends}
def notSet : Expr → Bool
  | .Set .. => false
  | _ => true
theorem folded_plain {env : Env} (h : notSet e = true) : ∀ x, foldedSetIterable e env x = pure x := by
  intro x
  cases e <;> first | rfl | cases h
theorem sim_for {t : Tgt} {mI : DEnv → R (List Cv.D × DEnv)} {mb : DEnv → R Out} {m : DEnv → R Out} (hm : ∀ s, m s = (mI s).bind fun it => forLoop (fun s d => setT s t d) mb it.1 it.2) (hp : PassesOwn (model X.prog X.w) X.A X.env X.xe) (hc : X.calm = true) (hs : notSet iter = true)
    (hI : SimI X tg iter mI) (hg : SimG X tg t) (hb : SimSs X body mb) : SimS X (.For tg iter body [] pos) m := by
  intro F σ H s D sr w
  rw [hm] at w
  refine .of (ps_for hp hc pi_w pg_w pss_w (folded_plain hs)) ?_
  refine hI F σ H s _ sr (w.bind.mono (fun it w1 F1 J H1 p1 itd hlim => ?_) fun c a => a.acc rfl)
  obtain ⟨ds, s1⟩ := it
  simp only at p1 itd hlim w1
  refine ⟨fun i m σ' H' => m = ds.length - i ∧ i ≤ ds.length ∧ ∃ (F' : ASet) (s' : DEnv), RP (forLoop (fun s d => setT s t d) mb (ds.drop i) s') (OutP X.K F σ H s D) (AccS X H (Own σ s) σ.length) ∧ SPost X.K F1 σ H1 s1 F' σ' H' s',
    ⟨ds.length, by simp, Nat.zero_le _, F1, s1, w1, .refl p1.sr⟩, ?_⟩
  rintro i m σ' H' ⟨rfl, hi, F', s', wl, q⟩
  have it' := itd F' H' q.ext.sub (p1.sr.keep q.ext)
  by_cases hlt : i < ds.length
  · obtain ⟨d, ed⟩ : ∃ d, ds[i]? = some d := ⟨ds[i], List.getElem?_eq_getElem hlt⟩
    have hdrop : ds.drop i = d :: ds.drop (i + 1) := by
      rw [List.drop_eq_getElem_cons hlt]
      rw [List.getElem?_eq_getElem hlt] at ed
      rw [Option.some.inj ed]
    rw [hdrop] at wl
    simp only [forLoop] at wl
    obtain ⟨s2, e2, w2⟩ := wl.bind.ofO
    refine .inr ⟨(it'.1 i d ed).1, _, fun σ'' H'' h => ⟨ds.length - (i + 1), by omega, h⟩, fun x H2 y => ?_⟩
    obtain ⟨sm, rx⟩ := (it'.1 i d ed).2 x H2 y
    refine hg F' σ' H2 s' d x s2 _ (q.sr.same sm) rx e2 fun σ2 tp => ?_
    have q2 : SPost X.K F1 σ H1 s1 F' σ2 H2 s2 := (q.trans (EPost.same q.sr sm).s).trans tp.s
    have pq := p1.s.trans q2
    refine hb F' σ2 H2 s2 _ q2.sr (w2.bind.mono (fun o w3 => ?_) fun c a => by rw [pq.len]; exact a.mono pq.ext)
    cases o with
    | next s3 => exact fun F3 σ3 H3 q3 => ⟨rfl, hlt, F3, s3, w3, q2.trans q3⟩
    | cont s3 => exact fun F3 σ3 H3 q3 => ⟨rfl, hlt, F3, s3, w3, q2.trans q3⟩
    | brk s3 => exact fun F3 σ3 H3 q3 => w3 F3 σ3 H3 (pq.trans q3)
    | ret v s3 => exact fun F3 σ3 u H3 q3 o => w3 F3 σ3 u H3 (pq.trans q3) (o.early pq.ext.dm)
  · have e : i = ds.length := by omega
    subst e
    refine .inl ⟨it'.2, ?_⟩
    rw [List.drop_length] at wl
    exact wl F' σ' H' (p1.s.trans q)
theorem sim_while {sb : List IS} (hp : PassesOwn (model X.prog X.w) X.A X.env X.xe) (hc : SimT X c (denT C ie)) (hb : SimSs X body (denSs C sb)) : SimS X (.While c body [] pos) (denS C (.whl ie sb)) := by
  intro F σ H s D sr w
  simp only [denS] at w
  refine .of (ps_while hp pt_w pss_w) ?_
  refine ⟨fun m σ' H' => ∃ (F' : ASet) (s' : DEnv), RP (whileLoop (fun s => denT C ie s) (fun s => denSs C sb s) m s') (OutP X.K F σ H s D) (AccS X H (Own σ s) σ.length) ∧ SPost X.K F σ H s F' σ' H' s', ⟨_, F, s, w, .refl sr⟩, ?_⟩
  rintro m σ' H' ⟨F', s', wl, q⟩
  cases m with
  | zero => exact wl.elim
  | succ m =>
    simp only [whileLoop] at wl
    refine hc F' σ' H' s' _ q.sr (wl.bind.mono (fun t w1 F1 H1 p1 => ?_) fun c a => by
      have := a.mono q.ext
      exact this.acc q.len)
    obtain ⟨t, s1⟩ := t
    have pq := q.trans p1.s
    cases t with
    | false => exact w1 F1 σ' H1 pq
    | true =>
      simp only [if_true] at w1 ⊢
      refine ⟨_, fun σ'' H'' h => ⟨m, Nat.lt_succ_self _, h⟩, ?_⟩
      refine hb F1 σ' H1 s1 _ p1.sr (w1.bind.mono (fun o w3 => ?_) fun c a => by rw [q.len]; exact a.mono pq.ext)
      cases o with
      | next s3 => exact fun F3 σ3 H3 q3 => ⟨F3, s3, w3, pq.trans q3⟩
      | cont s3 => exact fun F3 σ3 H3 q3 => ⟨F3, s3, w3, pq.trans q3⟩
      | brk s3 => exact fun F3 σ3 H3 q3 => w3 F3 σ3 H3 (pq.trans q3)
      | ret v s3 => exact fun F3 σ3 u H3 q3 o => w3 F3 σ3 u H3 (pq.trans q3) (o.early pq.ext.dm)
/-! ### comprehensions -/
abbrev Blk (X : Cx) (scope : Scope) (s : Shared) (H : Hp) (C : Addr) (cl : List (Str × Addr)) (fp : List Addr) : Cx := X.blk s H scope (compEnvC scope cl C X.env) fp
def BG (X : Cx) (scope : Scope) (tg : Expr) : TG := fun v σ H Q => ∀ s H0 C cl fp, WpG (Blk X scope s H0 C cl fp) tg v σ H Q
def BT (X : Cx) (scope : Scope) (e : Expr) : TT := fun σ H Q => ∀ s H0 C cl fp, WpT (Blk X scope s H0 C cl fp) e σ H Q
def BE (X : Cx) (scope : Scope) (e : Expr) : TE := fun σ H Q => ∀ s H0 C cl fp, WpE (Blk X scope s H0 C cl fp) e σ H Q
theorem pg_b {scope : Scope} (s : Shared) (H : Hp) (C : Addr) (cl : List (Str × Addr)) (fp : List Addr) : PG (Blk X scope s H C cl fp) tg (BG X scope tg) := ⟨fun pins sh σ H v u Q I r h => h _ _ _ _ _ pins sh u I r⟩
theorem pt_b {scope : Scope} (s : Shared) (H : Hp) (C : Addr) (cl : List (Str × Addr)) (fp : List Addr) : PT (Blk X scope s H C cl fp) e (BT X scope e) := ⟨fun pins sh σ H Q I h => h _ _ _ _ _ pins sh I⟩
theorem pe_b {scope : Scope} (s : Shared) (H : Hp) (C : Addr) (cl : List (Str × Addr)) (fp : List Addr) : PE (Blk X scope s H C cl fp) e (BE X scope e) := ⟨fun pins sh σ H Q I h => h _ _ _ _ _ pins sh I⟩
structure LcOk (X : Cx) (scope : Scope) (tg iter elt : Expr) (ifs : List Expr) (t : Tgt) (mI : DEnv → R (List Cv.D × DEnv)) (mc : DEnv → R (Bool × DEnv)) (me : DEnv → R (Opd × DEnv)) (own : List (Str × Nat)) (tt : TT) : Prop where
  nset : notSet iter = true
  blk : BlkOk X.N X.env.scope scope own
  own : own.map (·.2) = tgtSlots t
  it : SimI X tg iter mI
  tgt : ∀ s H C cl fp, SimG (Blk X scope s H C cl fp) tg t
  elt : ∀ s H C cl fp, SimE (Blk X scope s H C cl fp) elt me
  tst : ∀ s H C cl fp, PTs (Blk X scope s H C cl fp) ifs tt
  tsim : ∀ (F : ASet) (σ : St) (H : Hp) (s : DEnv) (Q : Bool → Hp → Prop), SR X.K F σ H s → RP (mc s) (fun r => ∀ F' H', EPost X.K F σ H s F' H' r.2 → Q r.1 H') (fun _ => False) → tt σ H Q
theorem LcOk.read {scope : Scope} {elt : Expr} {ifs : List Expr} {t : Tgt} {mI : DEnv → R (List Cv.D × DEnv)} {mc : DEnv → R (Bool × DEnv)} {me : DEnv → R (Opd × DEnv)} {own : List (Str × Nat)} {tt : TT} (L : LcOk X scope tg iter elt ifs t mI mc me own tt)
    {Q : VK} (sr : SR X.K F σ H s)
    (w : RP ((mI s).bind fun it => (compLoop (fun s => wipeD s (tgtSlots t)) (fun s d => setT s t d) mc (fun s => eltR me s) it.1 [] it.2).bind fun r => R.ok (Opd.fresh r.1, backD it.2 r.2 (tgtSlots t)))
      (fun r => ∀ F' v H', EPost X.K F σ H s F' H' r.2 → OR X.K F' σ H H' r.2 v r.1 → Q v H') (Acc X σ H (Own σ s))) : tLc (WpI X tg iter) (BG X scope tg) tt (BE X scope elt) (own.map (·.2)) σ H Q := by
  rw [L.own]
  refine lc_sim L.it (fun F σ H s d v s' Q sr r e k s0 H0 C cl fp => L.tgt s0 H0 C cl fp F σ H s d v s' Q sr r e k) L.tsim (fun F σ H s Q sr w s0 H0 C cl fp => L.elt s0 H0 C cl fp F σ H s Q sr (w.mono (fun _ z => z) fun _ z => z.elim)) sr w
theorem sim_comp {scope : Scope} {elt : Expr} {ifs : List Expr} {t : Tgt} {mI : DEnv → R (List Cv.D × DEnv)} {mc : DEnv → R (Bool × DEnv)} {me : DEnv → R (Opd × DEnv)} {own : List (Str × Nat)} {tt : TT} {m : DEnv → R (Opd × DEnv)} (hc : X.calm = true) (hN : X.N.Nodup) (L : LcOk X scope tg iter elt ifs t mI mc me own tt)
    (hm : ∀ s, m s = (mI s).bind fun it => (compLoop (fun s => wipeD s (tgtSlots t)) (fun s d => setT s t d) mc (fun s => eltR me s) it.1 [] it.2).bind fun r => R.ok (Opd.fresh r.1, backD it.2 r.2 (tgtSlots t))) :
    SimE X (.ListComp elt [⟨tg, iter, ifs, 0⟩] scope pos) m := by
  intro F σ H s Q sr w
  rw [hm] at w
  exact .of (pe_lc hc hN pi_w L.blk pg_b L.tst pe_b (folded_plain L.nset)) (L.read sr w)
theorem sim_asgLc {scope : Scope} {elt : Expr} {ifs : List Expr} {t : Tgt} {mI : DEnv → R (List Cv.D × DEnv)} {mc : DEnv → R (Bool × DEnv)} {me : DEnv → R (Opd × DEnv)} {own : List (Str × Nat)} {tt : TT} {i : Nat} {y : Str} {p3 : Pos} (hc : X.calm = true) (hN : X.N.Nodup) (L : LcOk X scope tg iter elt ifs t mI mc me own tt)
    (hm : ∀ s, denE C ie s = (mI s).bind fun it => (compLoop (fun s => wipeD s (tgtSlots t)) (fun s d => setT s t d) mc (fun s => eltR me s) it.1 [] it.2).bind fun r => R.ok (Opd.fresh r.1, backD it.2 r.2 (tgtSlots t)))
    (hy : X.N[i]? = some y) (hyl : X.env.scope.names.lookup y = some .local) (hsw : swapsWith (.ListComp elt [⟨tg, iter, ifs, 0⟩] scope p2) (some (.Name y p3)) pos.line X.env = pure true) :
    SimS X (.Assign [.Name y p3] (.ListComp elt [⟨tg, iter, ifs, 0⟩] scope p2) pos) (denS C (.asg (.name i) ie)) := by
  intro F σ H s D sr w
  simp only [denS] at w
  refine .of (ps_setLc hc hN hy hyl hsw pi_w L.blk pg_b L.tst pe_b (folded_plain L.nset)) ?_
  refine L.read sr ?_
  rw [← hm]
  refine w.bind.mono (fun r w1 F1 v H1 p1 o1 => ?_) fun c a => a.acc rfl
  obtain ⟨s2, e2, w2⟩ := w1.bind.ofO
  obtain ⟨F2, p2⟩ := asgO_ok p1 o1 e2
  exact w2 F2 _ H1 p2
/-! ### raise -/
theorem sim_raise {cn : String} {Ca : Addr} (hc : X.calm = true) (hm : X.mg (Str.ofString cn) = some (.ref Ca)) (mk : PMk X e (fun _ H Q => Q (.ref Ca) none H)) : SimS X (.Raise (some e) none pos) (denS C (.raise cn)) := by
  intro F σ H s D sr w
  simp only [denS] at w
  obtain ⟨W, tk, hW⟩ := (show AccS X H (Own σ s) σ.length cn from w)
  exact .of (ps_raise hc tk mk) (hW σ H rfl (fun _ _ e _ => e) Ca hm)
end
/-! ### a def -/
section
variable {P : Program} {w : World} {K : PySem.W.Frag} {mg : Str → Option Value} {base : Heap}
/-- the context of a def's body -/
structure BodyCx (X : Cx) (N : List Str) (sc : Scope) (n : Nat) : Prop where
  names : X.N = N
  scope : X.env.scope = sc
  room : Room n X.A
  calm : X.calm = true
  fn : ∀ x, X.fn x = true
  po : PassesOwn (model X.prog X.w) X.A X.env X.xe
theorem start_SR {F : ASet} {H : Hp} {N : List Str} {vs : List V} {Ss : List S} {fd : FD} (sr : SR K F (vs.map some) H (Ss.map some)) (hN : N.length = fd.ns) :
    SR K F (L2.start N vs) H (startD fd Ss) ∧ (∀ b, Own (L2.start N vs) (startD fd Ss) b ↔ ArgO vs Ss b) := by
  have hl : vs.length = Ss.length := by have := sr.len; simpa using this
  have parts : ∀ (i : Nat) (x : S), (startD fd Ss)[i]? = some (some x) → (Ss.map some)[i]? = some (some x) ∧ (L2.start N vs)[i]? = (vs.map some)[i]? := fun i x e => by
    unfold startD at e
    by_cases hi : i < (Ss.map some).length
    · rw [List.getElem?_append_left hi] at e
      refine ⟨e, ?_⟩
      unfold L2.start
      exact List.getElem?_append_left (by rw [List.length_map, hl]; rw [List.length_map] at hi; exact hi)
    · rw [List.getElem?_append_right (by omega)] at e
      rw [List.getElem?_replicate] at e
      split at e <;> cases e
  have back : ∀ (i : Nat) (x : S), (Ss.map some)[i]? = some (some x) → (startD fd Ss)[i]? = some (some x) ∧ (L2.start N vs)[i]? = (vs.map some)[i]? := fun i x e => by
    have hi : i < (Ss.map some).length := (List.getElem?_eq_some_iff.mp e).1
    unfold startD L2.start
    exact ⟨by rw [List.getElem?_append_left hi]; exact e, List.getElem?_append_left (by rw [List.length_map, hl]; rw [List.length_map] at hi; exact hi)⟩
  refine ⟨⟨?_, fun i x e => ?_, fun i j x y ds es b e1 e2 e3 e4 e5 e6 => ?_, sr.fdm⟩, fun b => ⟨fun ⟨i, x, ds, e1, e2, e3⟩ => ?_, fun ⟨i, x, ds, e1, e2, e3⟩ => ?_⟩⟩
  · unfold L2.start startD
    simp only [List.length_append, List.length_map, List.length_replicate]
    rw [hl, hN]
  · obtain ⟨h1, h2⟩ := parts i x e
    rw [h2]
    exact sr.ats i x h1
  · obtain ⟨h1, h2⟩ := parts i x e1
    obtain ⟨h3, h4⟩ := parts j y e3
    exact sr.sep i j x y ds es b h1 e2 h3 e4 (by rw [← h2]; exact e5) (by rw [← h4]; exact e6)
  · obtain ⟨h1, h2⟩ := parts i x e1
    exact ⟨i, x, ds, h1, e2, by rw [← h2]; exact e3⟩
  · obtain ⟨h1, h2⟩ := back i x e1
    exact ⟨i, x, ds, h1, e2, by rw [h2]; exact e3⟩
theorem args_mut {io : Bool} {Ss : List S} (h : argsOk io Ss = true) {k : Nat} {x : S} {ds : List D} (e : Ss[k]? = some x) (m : S.muts x = some ds) : k = 0 ∧ io = true ∧ ∃ ds, Ss[0]? = some (.io ds) := by
  have nv : ∀ {l : List S} {k : Nat}, l.all S.isVal = true → l[k]? = some x → False := fun {l k} hl e => by
    have := List.all_eq_true.mp hl x (List.mem_of_getElem? e)
    cases x with
    | val d => cases m
    | _ => cases this
  cases Ss with
  | nil => cases e
  | cons y r =>
    cases y with
    | io d0 =>
      simp only [argsOk, Bool.and_eq_true] at h
      cases k with
      | zero => exact ⟨rfl, h.1, d0, rfl⟩
      | succ k => exact (nv h.2 e).elim
    | val d =>
      simp only [argsOk, Bool.and_eq_true] at h
      exact (nv h.2 e).elim
    | own d =>
      simp only [argsOk, Bool.and_eq_true] at h
      exact (nv h.2 e).elim
theorem leave_ok {F F' : ASet} {H H' : Hp} {σ0 σ' : St} {s0 s' : DEnv} {vs : List V} {Ss : List S} {fd : FD} {o : Opd} {u : V} {r : Opd × List D} (sr0 : SR K F σ0 H s0) (hs : ∀ (i : Nat) (x : S), Ss[i]? = some x → s0[i]? = some (some x) ∧ ∃ v, vs[i]? = some v ∧ σ0[i]? = some (some v))
    (ho : ∀ b, Own σ0 s0 b ↔ ArgO vs Ss b) (ha : argsOk fd.io Ss = true) (q : SPost K F σ0 H s0 F' σ' H' s') (h : OR K F' σ' H H' s' u o) (e : leaveD fd o s' = .ok r) : CPost K F H vs Ss r F' u H' := by
  unfold leaveD at e
  cases e1 : leaveO s' o with
  | none => rw [e1] at e; cases e
  | some r1 =>
    rw [e1] at e
    have e : (if fd.io then (R.ofO (ioFin s')).bind fun ds => R.ok (r1, ds) else R.ok (r1, [])) = R.ok r := e
    have hr1 : r.1 = r1 := by
      split at e
      · cases e2 : ioFin s' with
        | none => rw [e2] at e; cases e
        | some ds => rw [e2] at e; cases e; rfl
      · cases e; rfl
    refine ⟨⟨fun b ob e n => q.ext.fr b ob e fun z => n ((ho b).mp z), q.ext.dm, q.ext.sub, fun b f => (q.ext.new b f).imp id fun z => z.imp (ho b).mp id, fun b z => .inl z⟩, q.sr.fdm, ?_, fun ds e0 => ?_⟩
    · rw [hr1]
      cases o with
      | val d => cases e1; exact h
      | fresh ds => cases e1; exact ⟨h.1, fun b e => (h.2 b e).2⟩
      | slot i =>
        obtain ⟨h1, x, h2⟩ := h
        obtain ⟨v, g1, g2⟩ := q.sr.ats i x h2
        rw [h1] at g1
        cases g1
        simp only [leaveO, h2] at e1
        cases x with
        | val d => cases e1; exact g2
        | io ds => cases e1
        | own ds =>
          cases e1
          refine ⟨g2, fun b eb => ?_⟩
          subst eb
          rcases q.ext.own b ⟨i, _, ds, h2, rfl, h1⟩ with z | z
          · obtain ⟨k, y, fs, k1, k2, k3⟩ := z
            have z2 := (ho b).mp ⟨k, y, fs, k1, k2, k3⟩
            obtain ⟨k', y', fs', l1, l2, l3⟩ := z2
            have l1' : Ss[k']? = some y' := by
              simp only [List.getElem?_map, Option.map_eq_some_iff] at l1
              obtain ⟨y2, l4, l5⟩ := l1
              cases l5
              exact l4
            obtain ⟨rfl, _, d0, e0⟩ := args_mut ha l1' l2
            obtain ⟨m1, v0, m2, m3⟩ := hs 0 _ e0
            obtain ⟨n1, ds', n2⟩ := q.io d0 m1
            have l3' : σ0[0]? = some (some (V.ref b)) := by
              rw [m3]
              simp only [List.getElem?_map, Option.map_eq_some_iff] at l3
              obtain ⟨v1, l6, l7⟩ := l3
              rw [m2] at l6
              cases l6
              cases l7
              rfl
            have := q.sr.sep i 0 _ _ ds ds' b h2 rfl n2 rfl h1 (by rw [n1]; exact l3')
            subst this
            rw [n2] at h2
            cases h2
          · exact z
    · obtain ⟨_, hio, _⟩ := args_mut ha e0 rfl
      rw [if_pos hio] at e
      cases e2 : ioFin s' with
      | none => rw [e2] at e; cases e
      | some fin =>
        rw [e2] at e
        cases e
        unfold ioFin at e2
        split at e2
        · rename_i ds3 g1
          cases e2
          obtain ⟨m1, v0, m2, m3⟩ := hs 0 _ e0
          obtain ⟨v, k1, k2⟩ := q.sr.ats 0 _ g1
          obtain ⟨n1, _⟩ := q.io ds m1
          rw [n1, m3] at k1
          cases k1
          exact ⟨v0, m2, k2⟩
        · cases e2
/-- a def whose body means its den keeps the promise -/
theorem fn_sim {x qual : Str} {params : Arguments} {body : List Stmt} {sc : Scope} {dvs : List V} {kws : List (Str × V)} {f : Addr} {fdt : FuncData} {N ps : List Str} {n : Nat} {fd : FD} {C : Cal} (Fd : FunD K x qual params body sc dvs kws f fdt) (S : FnScope N ps sc) (hN : N.length = fd.ns) (hp : ps.length = fd.np)
    (hb : ∀ X : Cx, X.prog = P → X.w = w → X.K = K → X.mg = mg → X.base = base → BodyCx X N sc n → SimSs X body (denSs C fd.body)) : FnOk P w K mg base (L2.CX P w) (n + 1) f fdt ps (spF K mg (runF C fd)) := by
  refine Fd.ok S (fun vs H Q E h => ?_) (fun cdv A outer s H vs Q E hr h => ?_)
  · obtain ⟨F, Ss, sr, w⟩ := h
    have hl : vs.length = Ss.length := by have := sr.len; simpa using this
    unfold runF at w
    split at w
    · rename_i e
      rw [hl, e.1, hp]
    · exact w.elim
  · obtain ⟨F, Ss, sr, w⟩ := h
    unfold runF at w
    split at w
    · rename_i hlen
      obtain ⟨sr0, ho⟩ := start_SR (N := N) (fd := fd) sr hN
      have hl : vs.length = Ss.length := by have := sr.len; simpa using this
      have hs : ∀ (i : Nat) (x : Cv.S), Ss[i]? = some x → (startD fd Ss)[i]? = some (some x) ∧ ∃ v, vs[i]? = some v ∧ (L2.start N vs)[i]? = some (some v) := fun i x e => by
        have hi : i < Ss.length := (List.getElem?_eq_some_iff.mp e).1
        refine ⟨?_, vs[i]'(by omega), List.getElem?_eq_getElem _, ?_⟩
        · unfold startD
          rw [List.getElem?_append_left (by rw [List.length_map]; exact hi), List.getElem?_map, e]
          rfl
        · unfold L2.start
          rw [List.getElem?_append_left (by rw [List.length_map]; omega), List.getElem?_map, List.getElem?_eq_getElem (by omega)]
          rfl
      refine ⟨_, pss_w, ?_⟩
      refine hb _ rfl rfl rfl rfl rfl ⟨rfl, rfl, hr, rfl, fun _ => rfl, passes_of rfl⟩ F _ H (startD fd Ss) _ sr0 ?_
      refine w.bind.mono (fun o w1 => ?_) fun c hE => ?_
      · cases o with
        | brk s' => exact w1.elim
        | cont s' => exact w1.elim
        | next s' =>
          intro F' σ' H' q
          have w1 : RP (leaveD fd (.val .non) s') _ _ := w1
          cases g : leaveD fd (.val .non) s' with
          | bad => rw [g] at w1; exact w1.elim
          | exn c =>
            unfold leaveD at g
            simp only [leaveO] at g
            have g : (if fd.io then (R.ofO (ioFin s')).bind fun ds => R.ok (Opd.val D.non, ds) else R.ok (Opd.val D.non, [])) = R.exn c := g
            split at g
            · cases e2 : ioFin s' <;> rw [e2] at g <;> cases g
            · cases g
          | ok r =>
            rw [g] at w1
            exact w1 F' .non H' (leave_ok (o := .val .non) sr0 hs ho hlen.2 q (Rel.non (K := K)) g)
        | ret v s' =>
          intro F' σ' u H' q o
          have w1 : RP (leaveD fd v s') _ _ := w1
          cases g : leaveD fd v s' with
          | bad => rw [g] at w1; exact w1.elim
          | exn c =>
            unfold leaveD at g
            cases e1 : leaveO s' v with
            | none => rw [e1] at g; cases g
            | some r1 =>
              rw [e1] at g
              have g : (if fd.io then (R.ofO (ioFin s')).bind fun ds => R.ok (r1, ds) else R.ok (r1, [])) = R.exn c := g
              split at g
              · cases e2 : ioFin s' <;> rw [e2] at g <;> cases g
              · cases g
          | ok r =>
            rw [g] at w1
            exact w1 F' u H' (leave_ok sr0 hs ho hlen.2 q o g)
      · refine ⟨fun cls d _ H => E cls d H, takes_of rfl rfl rfl rfl, fun σ' H' _ fr C' hC => hE H' (fun b o e n => fr b o e fun z => n ((ho b).mp z)) C' hC⟩
    · exact w.elim
end
end Cv
set_option maxRecDepth 100000
set_option maxHeartbeats 2000000
set_option autoImplicit false
/-! Engine, part N: the look that a text is what the intermediate language says. -/
namespace Cv
open PySem PySem.Spec L2
/-! ### views of texts -/
def vName : Expr → Option Str
  | .Name x _ => some x
  | _ => none
def vTuple : Expr → Option (List Expr)
  | .Tuple es _ _ => some es
  | _ => none
def vList : Expr → Option (List Expr)
  | .List es _ => some es
  | _ => none
def vBin : Expr → Option (Expr × Operator × Expr)
  | .BinOp a o b _ => some (a, o, b)
  | _ => none
def vUn : Expr → Option (UnaryOp × Expr)
  | .UnaryOp o a _ => some (o, a)
  | _ => none
def vCmp1 : Expr → Option (Expr × CmpOp × Expr)
  | .Compare a [o] [b] _ => some (a, o, b)
  | _ => none
def vCmp2 : Expr → Option (Expr × CmpOp × CmpOp × Expr × Expr)
  | .Compare a [o, p] [b, c] _ => some (a, o, p, b, c)
  | _ => none
def vBool : Expr → Option (BoolOp × Expr × Expr × List Expr × Pos)
  | .BoolOp o (a :: b :: r) p => some (o, a, b, r, p)
  | _ => none
def vIf : Expr → Option (Expr × Expr × Expr)
  | .IfExp c a b _ => some (c, a, b)
  | _ => none
def vSub : Expr → Option (Expr × Expr)
  | .Subscript a b _ => some (a, b)
  | _ => none
def vSlice : Expr → Option (Option Expr × Option Expr)
  | .Slice l h none _ => some (l, h)
  | _ => none
/-- a call of a name -/
def vCall : Expr → Option (Str × List Expr)
  | .Call (.Name x _) es [] _ => some (x, es)
  | _ => none
/-- a call of a name's method, on one line -/
def vMeth : Expr → Option (Str × Str × List Expr)
  | .Call (.Attribute (.Name x _) m ap) es [] p => if (ap.endLine == p.line) = true then some (x, m, es) else none
  | _ => none
def vComp : Expr → Option (Expr × Expr × Expr × List Expr × Scope)
  | .ListComp el [⟨t, i, fs, a⟩] sc _ => if a = 0 then some (el, t, i, fs, sc) else none
  | _ => none
section
variable {e : Expr}
theorem vName_eq {x : Str} (h : vName e = some x) : ∃ p, e = .Name x p := by cases e <;> simp [vName] at h; subst h; exact ⟨_, rfl⟩
theorem vTuple_eq {x : List Expr} (h : vTuple e = some x) : ∃ k p, e = .Tuple x k p := by cases e <;> simp [vTuple] at h; subst h; exact ⟨_, _, rfl⟩
theorem vList_eq {x : List Expr} (h : vList e = some x) : ∃ p, e = .List x p := by cases e <;> simp [vList] at h; subst h; exact ⟨_, rfl⟩
theorem vBin_eq {x : Expr × Operator × Expr} (h : vBin e = some x) : ∃ p, e = .BinOp x.1 x.2.1 x.2.2 p := by cases e <;> simp [vBin] at h; subst h; exact ⟨_, rfl⟩
theorem vUn_eq {x : UnaryOp × Expr} (h : vUn e = some x) : ∃ p, e = .UnaryOp x.1 x.2 p := by cases e <;> simp [vUn] at h; subst h; exact ⟨_, rfl⟩
theorem vCmp1_eq {x : Expr × CmpOp × Expr} (h : vCmp1 e = some x) : ∃ p, e = .Compare x.1 [x.2.1] [x.2.2] p := by
  unfold vCmp1 at h
  split at h
  · cases h; exact ⟨_, rfl⟩
  · cases h
theorem vCmp2_eq {x : Expr × CmpOp × CmpOp × Expr × Expr} (h : vCmp2 e = some x) : ∃ p, e = .Compare x.1 [x.2.1, x.2.2.1] [x.2.2.2.1, x.2.2.2.2] p := by
  unfold vCmp2 at h
  split at h
  · cases h; exact ⟨_, rfl⟩
  · cases h
theorem vBool_eq {x : BoolOp × Expr × Expr × List Expr × Pos} (h : vBool e = some x) : e = .BoolOp x.1 (x.2.1 :: x.2.2.1 :: x.2.2.2.1) x.2.2.2.2 := by
  unfold vBool at h
  split at h
  · cases h; rfl
  · cases h
theorem vIf_eq {x : Expr × Expr × Expr} (h : vIf e = some x) : ∃ p, e = .IfExp x.1 x.2.1 x.2.2 p := by cases e <;> simp [vIf] at h; subst h; exact ⟨_, rfl⟩
theorem vSub_eq {x : Expr × Expr} (h : vSub e = some x) : ∃ p, e = .Subscript x.1 x.2 p := by cases e <;> simp [vSub] at h; subst h; exact ⟨_, rfl⟩
theorem vSlice_eq {x : Option Expr × Option Expr} (h : vSlice e = some x) : ∃ p, e = .Slice x.1 x.2 none p := by
  unfold vSlice at h
  split at h
  · cases h; exact ⟨_, rfl⟩
  · cases h
theorem vCall_eq {x : Str × List Expr} (h : vCall e = some x) : ∃ p q, e = .Call (.Name x.1 p) x.2 [] q := by
  unfold vCall at h
  split at h
  · cases h; exact ⟨_, _, rfl⟩
  · cases h
theorem vMeth_eq {x : Str × Str × List Expr} (h : vMeth e = some x) : ∃ p ap q, e = .Call (.Attribute (.Name x.1 p) x.2.1 ap) x.2.2 [] q ∧ (ap.endLine == q.line) = true := by
  unfold vMeth at h
  split at h
  · split at h
    · rename_i hl; cases h; exact ⟨_, _, _, rfl, hl⟩
    · cases h
  · cases h
theorem vComp_eq {x : Expr × Expr × Expr × List Expr × Scope} (h : vComp e = some x) : ∃ p, e = .ListComp x.1 [⟨x.2.1, x.2.2.1, x.2.2.2.1, 0⟩] x.2.2.2.2 p := by
  unfold vComp at h
  split at h
  · split at h
    · rename_i ha; cases h; subst ha; exact ⟨_, rfl⟩
    · cases h
  · cases h
end
/-! ### names -/
def visB (sc : Scope) (x : Str) : Bool := match sc.names.lookup x with
  | some .local => true
  | some .cell => true
  | some .free => true
  | _ => false
def locB (sc : Scope) (x : Str) : Bool := match sc.names.lookup x with
  | some .local => true
  | some .cell => true
  | _ => false
def glB (sc : Scope) (x : Str) : Bool := match sc.names.lookup x with
  | some .globalImplicit => true
  | _ => false
def dbgB (x : Str) : Bool := !(x == ("__debug__" : Str))
def varB (N : List Str) (sc : Scope) (i : Nat) (x : Str) : Bool := decide (N[i]? = some x) && visB sc x && dbgB x && !(x == ("__classdict__" : Str))
def globB (sc : Scope) (f : String) (x : Str) : Bool := decide (x = Str.ofString f) && glB sc x && dbgB x
theorem visB_ok {sc : Scope} {x : Str} (h : visB sc x = true) : Vis sc x := by
  unfold visB at h
  split at h
  · rename_i q; exact .inl q
  · rename_i q; exact .inr (.inl q)
  · rename_i q; exact .inr (.inr q)
  · cases h
theorem locB_ok {sc : Scope} {x : Str} (h : locB sc x = true) : Loc sc x := by
  unfold locB at h
  split at h
  · rename_i q; exact .inl q
  · rename_i q; exact .inr q
  · cases h
theorem glB_ok {sc : Scope} {x : Str} (h : glB sc x = true) : sc.names.lookup x = some .globalImplicit := by
  unfold glB at h
  split at h
  · rename_i q; exact q
  · cases h
theorem dbgB_ok {x : Str} (h : dbgB x = true) : (x == ("__debug__" : Str)) = false := by simpa [dbgB] using h
/-! ### the built-ins -/
def bltTab : List (String × Value) := [("len", .builtin "len"), ("abs", .builtin "abs"), ("min", .builtin "min"), ("max", .builtin "max"), ("sum", .builtin "sum"), ("all", .builtin "all"), ("any", .builtin "any"), ("sorted", .builtin "sorted"), ("divmod", .builtin "divmod"), ("isinstance", .builtin "isinstance"),
  ("tuple", .type "tuple"), ("list", .type "list"), ("int", .type "int"), ("bool", .type "bool"), ("str", .type "str"), ("range", .type "range"), ("enumerate", .type "enumerate"), ("reversed", .type "reversed"), ("zip", .type "zip")]
def bltOkB (p : String × Value) : Bool := decide (bootBuiltins (Str.ofString p.1) = some p.2) && !(decide (Str.ofString p.1 = ("__name__" : Str))) && dbgB (Str.ofString p.1)
theorem bltTab_ok : bltTab.all bltOkB = true := by decide +kernel
def bltIs (f : String) (v : Value) : Bool := bltTab.any fun p => decide (p.1 = f) && decide (p.2 = v)
theorem bltIs_ok {f : String} {v : Value} (h : bltIs f v = true) : (f, v) ∈ bltTab ∧ bootBuiltins (Str.ofString f) = some v ∧ Str.ofString f ≠ "__name__" ∧ (Str.ofString f == ("__debug__" : Str)) = false := by
  simp only [bltIs, List.any_eq_true, Bool.and_eq_true, decide_eq_true_eq] at h
  obtain ⟨⟨f', v'⟩, hm, rfl, rfl⟩ := h
  have := List.all_eq_true.mp bltTab_ok _ hm
  simp only [bltOkB, Bool.and_eq_true, decide_eq_true_eq, Bool.not_eq_true', decide_eq_false_iff_not] at this
  exact ⟨hm, this.1.1, this.1.2, dbgB_ok this.2⟩
end Cv
set_option maxRecDepth 100000
set_option maxHeartbeats 4000000
set_option autoImplicit false
/-! Engine, part O: the look at expressions, and that it is right. -/
namespace Cv
open PySem PySem.Spec L2
def plainT : Expr → Bool
  | .UnaryOp .Not _ _ => false
  | .BoolOp .. => false
  | .IfExp .. => false
  | .Compare .. => false
  | _ => true
theorem plainT_ok {e : Expr} {env : Env} (h : plainT e = true) : ∀ whole, isTrue e env whole = (do let v ← whole; standAt e.pos; holding [v] (truthy v)) := by
  intro w
  cases e with
  | UnaryOp o a p => cases o <;> first | rfl | cases h
  | BoolOp _ _ _ => cases h
  | IfExp _ _ _ _ => cases h
  | Compare _ _ _ _ => cases h
  | _ => rfl
def plainIxB : Expr → Bool
  | .Slice .. => false
  | _ => true
theorem plainIx_ok {b : Expr} (h : plainIxB b = true) : PlainIx b := by
  intro o i
  cases b <;> first | rfl | cases h
def cstB : D → Expr → Bool
  | .non, .Constant .none _ _ => true
  | .bl b, .Constant (.bool c) _ _ => b == c
  | .int i, .Constant (.int j) _ _ => decide (i = j)
  | .str x, .Constant (.str y) _ _ => decide (x = y) && PyData.strOk x
  | _, _ => false
/-- equal constants -/
def eqC : D → D → Bool
  | .int i, .int j => decide (i = j)
  | .str x, .str y => decide (x = y)
  | _, _ => false
theorem eqC_ok {a b : D} (h : eqC a b = true) : a = b := by
  cases a <;> cases b <;> simp [eqC] at h <;> rw [h]
def ownOf (N : List Str) (vs : List Nat) : List (Str × Nat) := vs.map fun i => (N.getD i ⟨#[]⟩, i)
theorem ownOf_snd (N : List Str) (vs : List Nat) : (ownOf N vs).map (·.2) = vs := by
  unfold ownOf
  rw [List.map_map]
  exact List.map_id' vs
/-- a name of a comprehension's block that may be stored -/
def blkB (N : List Str) (scope : Scope) (i : Nat) (x : Str) : Bool := decide (N[i]? = some x) && locB scope x
def tgtB (ok : Nat → Str → Bool) : Tgt → Expr → Bool
  | .name i, e => match vName e with
    | some x => ok i x
    | none => false
  | .tup is, e => match vTuple e with
    | some es => namesB ok is es
    | none => false
where
  namesB (ok : Nat → Str → Bool) : List Nat → List Expr → Bool
  | [], [] => true
  | i :: is, e :: es => (match vName e with | some x => ok i x | none => false) && namesB ok is es
  | _, _ => false
def isTupE : Expr → Bool
  | .Tuple .. => true
  | _ => false
def itB (k : ItK) (c1 c2 : Expr → Bool) (sc : Scope) (tg it : Expr) : Bool := match k with
  | .seq => c1 it
  | .rng1 => match vCall it with
    | some (f, [a]) => globB sc "range" f && notStar a && c1 a
    | _ => false
  | .rng2 => match vCall it with
    | some (f, [a, b]) => globB sc "range" f && notStar a && notStar b && c1 a && c2 b
    | _ => false
  | .enum => isTupE tg && match vCall it with
    | some (f, [a]) => globB sc "enumerate" f && notStar a && c1 a
    | _ => false
  | .rev => match vCall it with
    | some (f, [a]) => globB sc "reversed" f && notStar a && c1 a
    | _ => false
  | .zip => isTupE tg && match vCall it with
    | some (f, [a, b]) => globB sc "zip" f && notStar a && notStar b && c1 a && c2 b
    | _ => false
/-- a comprehension's tests -/
def ifB (hasIf : Bool) (c : Expr → Bool) (ifs : List Expr) : Bool := match hasIf, ifs with
  | true, [z] => c z
  | false, [] => true
  | _, _ => false
/-- the module's constants, and the defs that may be called -/
structure Sta where
  cs : List (String × D)
  fs : List String
def partB (l : Bool) (c : Expr → Bool) : Option Expr → Bool
  | none => !l
  | some e => l && c e
mutual
def chkE (N : List Str) (cs : Sta) : IE → Bool → Scope → Expr → Bool
  | .var i, t, sc, e => (!t || plainT e) && match vName e with
    | some x => varB N sc i x
    | none => false
  | .cst d, t, sc, e => (!t || plainT e) && cstB d e
  | .glob x d, t, sc, e => (!t || plainT e) && match vName e with
    | some y => globB sc x y && (match cs.cs.lookup x with | some d' => eqC d d' | none => false)
    | none => false
  | .tup es, t, sc, e => (!t || plainT e) && match vTuple e with
    | some xs => chkEs N cs es sc xs && decide (es.length ≤ lim)
    | none => false
  | .lst es, t, sc, e => (!t || plainT e) && match vList e with
    | some xs => chkEs N cs es sc xs && decide (es.length ≤ lim)
    | none => false
  | .bin op a b, t, sc, e => (!t || plainT e) && match vBin e with
    | some (x, o, y) => decide (o = opOf op) && chkE N cs a false sc x && chkE N cs b false sc y
    | none => false
  | .neg a, t, sc, e => (!t || plainT e) && match vUn e with
    | some (o, x) => decide (o = .USub) && chkE N cs a false sc x
    | none => false
  | .cmp op a b, t, sc, e => match vCmp1 e with
    | some (x, o, y) => decide (o = copOf op) && !behindInMarks o y && chkE N cs a false sc x && chkE N cs b false sc y
    | none => false
  | .chain o1 o2 a b c, t, sc, e => match vCmp2 e with
    | some (x, o, p, y, z) => decide (o = copOf o1) && decide (p = copOf o2) && !lastMarks [o, p] [y, z] && chkE N cs a false sc x && chkE N cs b false sc y && chkE N cs c false sc z
    | none => false
  | .and_ a b, t, sc, e => match vBool e with
    | some (o, x, y, r, p) => decide (o = .And) && chkE N cs a t sc x && (match r with | [] => chkE N cs b t sc y | _ => chkE N cs b t sc (.BoolOp .And (y :: r) p))
    | none => false
  | .or_ a b, t, sc, e => match vBool e with
    | some (o, x, y, r, p) => decide (o = .Or) && chkE N cs a t sc x && (match r with | [] => chkE N cs b t sc y | _ => chkE N cs b t sc (.BoolOp .Or (y :: r) p))
    | none => false
  | .not_ a, t, sc, e => match vUn e with
    | some (o, x) => decide (o = .Not) && chkE N cs a t sc x
    | none => false
  | .ite c a b, t, sc, e => !t && match vIf e with
    | some (z, x, y) => chkE N cs c true sc z && chkE N cs a false sc x && chkE N cs b false sc y
    | none => false
  | .idx a b, t, sc, e => (!t || plainT e) && match vSub e with
    | some (x, y) => plainIxB y && chkE N cs a false sc x && chkE N cs b false sc y
    | none => false
  | .slc a l h lo hi, t, sc, e => (!t || plainT e) && match vSub e with
    | some (x, y) => chkE N cs a false sc x && (match vSlice y with
      | some (p, q) => partB l (fun z => chkE N cs lo false sc z) p && partB h (fun z => chkE N cs hi false sc z) q
      | none => false)
    | none => false
  | .isi a ty, t, sc, e => (!t || plainT e) && match vCall e with
    | some (f, [x, y]) => globB sc "isinstance" f && notStar x && chkE N cs a false sc x && bltIs ty (.type ty) && (match vName y with | some z => globB sc ty z | none => false)
    | _ => false
  | .call f es, t, sc, e => (!t || plainT e) && match vCall e with
    | some (g, xs) => globB sc f g && cs.fs.contains f && chkEs N cs es sc xs
    | none => false
  | .callIo f i es, t, sc, e => (!t || plainT e) && match vCall e with
    | some (g, y :: xs) => globB sc f g && cs.fs.contains f && (match vName y with | some x => varB N sc i x | none => false) && chkEs N cs es sc xs
    | _ => false
  | .blt f es, t, sc, e => (!t || plainT e) && match vCall e with
    | some (g, y :: xs) => globB sc f g && bltIs f (bltV f) && chkEs N cs es sc (y :: xs)
    | _ => false
  | .rngOf tp two a b, t, sc, e => (!t || plainT e) && match vCall e with
    | some (g, [y]) => globB sc (if tp then "tuple" else "list") g && (match vCall y with
      | some (h, xs) => globB sc "range" h && (match two, xs with
        | false, [x] => notStar x && chkE N cs a false sc x
        | true, [x, z] => notStar x && notStar z && chkE N cs a false sc x && chkE N cs b false sc z
        | _, _ => false)
      | none => false)
    | _ => false
  | .comp k e1 e2 tg hasIf c elt, t, sc, e => (!t || plainT e) && match vComp e with
    | some (el, tg', it, ifs, scope) => notSet it && blkC N sc scope (ownOf N (tgtSlots tg)) && tgtB (blkB N scope) tg tg' && itB k (fun a => chkE N cs e1 false sc a) (fun a => chkE N cs e2 false sc a) sc tg' it
        && ifB hasIf (fun z => chkE N cs c true (relS scope sc) z) ifs && chkE N cs elt false (relS scope sc) el
    | none => false
  | .meth m i es, t, sc, e => (!t || plainT e) && match vMeth e with
    | some (x, mm, xs) => decide (mm = Str.ofString (mthName m)) && varB N sc i x && chkEs N cs es sc xs && (match m, xs with | .pop, [] => true | .reverse, [] => true | .append, [_] => true | .popAt, [_] => true | _, _ => false)
    | none => false
  | .extend i a, t, sc, e => (!t || plainT e) && match vMeth e with
    | some (x, mm, [y]) => decide (mm = Str.ofString "extend") && varB N sc i x && notStar y && chkE N cs a false sc y
    | _ => false
def chkEs (N : List Str) (cs : Sta) : List IE → Scope → List Expr → Bool
  | [], _, [] => true
  | i :: is, sc, e :: es => notStar e && chkE N cs i false sc e && chkEs N cs is sc es
  | _, _, _ => false
end
/-- what the top has left -/
structure RzOk (K : PySem.W.Frag) (Ca : Addr) : Prop where
  ex : PySem.W.excIn K Ca [.type "ValueError", .type "Exception", .type "BaseException", .type "object"] "ValueError.__new__" = true
  kp : PySem.W.keepIn K (.ref Ca) = true
  sb : PySem.W.subIn K (.ref Ca) (.type "BaseException") = some true
  ty : PySem.W.typeIn K (.ref Ca) = some (.type "type")
structure Facts (T : Tab) (cs : Sta) (rz : List String) (P : Program) (w : World) (K : PySem.W.Frag) (mg : Str → Option Value) (base : Heap) (n : Nat) : Prop where
  fn : ∀ f, f ∈ cs.fs → FnSim P w K mg base n f (callF T n f)
  bl : ∀ p ∈ bltTab, mg (Str.ofString p.1) = none
  cst : ∀ x d, cs.cs.lookup x = some d → ∃ u v, mg (Str.ofString x) = some u ∧ RelV v u ∧ ∀ F H, Rel K F H v d
  rz : ∀ c ∈ rz, ∃ Ca, mg (Str.ofString c) = some (.ref Ca) ∧ RzOk K Ca
structure CxOk (T : Tab) (cs : Sta) (rz : List String) (N : List Str) (sc : Scope) (n : Nat) (X : Cx) : Prop where
  names : X.N = N
  nd : N.Nodup
  scope : X.env.scope = sc
  calm : X.calm = true
  room : Room n X.A
  fx : Facts T cs rz X.prog X.w X.K X.mg X.base n
section
variable {T : Tab} {cs : Sta} {rz : List String} {N : List Str} {n : Nat} {sc : Scope} {X : Cx} {e : Expr}
theorem CxOk.un (c : CxOk T cs rz N sc n X) : X.A.units + 65 < cLine := by have := c.room.un; omega
theorem CxOk.gl (c : CxOk T cs rz N sc n X) {x : Str} (h : glB sc x = true) : Gl X x := by
  show X.env.scope.names.lookup x = _
  rw [c.scope]
  exact glB_ok h
theorem CxOk.glob (c : CxOk T cs rz N sc n X) {f : String} {x : Str} (h : globB sc f x = true) : x = Str.ofString f ∧ Gl X (Str.ofString f) ∧ (Str.ofString f == ("__debug__" : Str)) = false := by
  simp only [globB, Bool.and_eq_true, decide_eq_true_eq] at h
  obtain ⟨⟨rfl, h2⟩, h3⟩ := h
  exact ⟨rfl, c.gl h2, dbgB_ok h3⟩
theorem CxOk.blt (c : CxOk T cs rz N sc n X) {f : String} {v : Value} {x : Str} (h : globB sc f x = true) (hb : bltIs f v = true) : BltOk X f v := by
  obtain ⟨_, h2, h3⟩ := c.glob h
  obtain ⟨b1, b2, b3, b4⟩ := bltIs_ok hb
  exact ⟨h2, c.fx.bl _ b1, b2, b3, b4⟩
theorem CxOk.var (c : CxOk T cs rz N sc n X) {i : Nat} {x : Str} (h : varB N sc i x = true) : X.N[i]? = some x ∧ Vis X.env.scope x ∧ (x == ("__debug__" : Str)) = false ∧ (x == ("__classdict__" : Str)) = false := by
  simp only [varB, Bool.and_eq_true, decide_eq_true_eq, Bool.not_eq_true'] at h
  obtain ⟨⟨⟨h1, h2⟩, h3⟩, h4⟩ := h
  rw [c.names, c.scope]
  exact ⟨h1, visB_ok h2, dbgB_ok h3, h4⟩
theorem CxOk.blk (c : CxOk T cs rz N sc n X) {scope : Scope} (s : Shared) (H : Hp) (C : Addr) (cl : List (Str × Addr)) (fp : List Addr) : CxOk T cs rz N (relS scope sc) n (Blk X scope s H C cl fp) :=
  ⟨c.names, c.nd, by rw [← c.scope]; rfl, c.calm, c.room, c.fx⟩
theorem blk_st (c : CxOk T cs rz N sc n X) {scope : Scope} {s : Shared} {H : Hp} {C : Addr} {cl : List (Str × Addr)} {fp : List Addr} {i : Nat} {x : Str} (h : blkB N scope i x = true) : StOk (Blk X scope s H C cl fp) i x := by
  simp only [blkB, Bool.and_eq_true, decide_eq_true_eq] at h
  obtain ⟨h1, h2⟩ := h
  have keep : ∀ {k : NameKind}, k ≠ .free → scope.names.lookup x = some k → (Blk X scope s H C cl fp).env.scope.names.lookup x = some k := fun hk h => lookup_relS_keep hk h
  refine ⟨by rw [show (Blk X scope s H C cl fp).N = N from c.names]; exact h1, ?_, ?_⟩
  · rcases locB_ok h2 with q | q
    · exact .inl (keep (by decide) q)
    · exact .inr (keep (by decide) q)
  · rcases locB_ok h2 with q | q
    · exact .inr (keep (by decide) q)
    · refine .inl ?_
      show (scope.names.lookup x == some NameKind.cell) = true
      rw [q]
      decide
theorem tgt_sim {ok : Nat → Str → Bool} (hc : X.calm = true) (hN : X.N.Nodup) (h : ∀ i x, ok i x = true → StOk X i x) {t : Tgt} (q : tgtB ok t e = true) : SimG X e t := by
  cases t with
  | name i =>
    simp only [tgtB] at q
    split at q
    · rename_i x hx
      obtain ⟨p, rfl⟩ := vName_eq hx
      exact simG_name hN (h i x q)
    · cases q
  | tup is =>
    simp only [tgtB] at q
    split at q
    · rename_i es hx
      obtain ⟨k, p, rfl⟩ := vTuple_eq hx
      refine simG_tup hc hN ?_
      clear hx
      induction is generalizing es with
      | nil =>
        cases es with
        | nil => exact .nil
        | cons _ _ => cases q
      | cons i is ih =>
        cases es with
        | nil => cases q
        | cons e es =>
          simp only [tgtB.namesB, Bool.and_eq_true] at q
          obtain ⟨q1, q2⟩ := q
          split at q1
          · rename_i x hx
            obtain ⟨p, rfl⟩ := vName_eq hx
            exact .cons (h i x q1) (ih es q2)
          · cases q1
    · cases q
theorem it_sim (c : CxOk T cs rz N sc n X) {k : ItK} {c1 c2 : Expr → Bool} {tg it : Expr} {m1 m2 : DEnv → R (Opd × DEnv)} (h1 : ∀ e, c1 e = true → SimE X e m1) (h2 : ∀ e, c2 e = true → SimE X e m2) (q : itB k c1 c2 sc tg it = true) : SimI X tg it (itR k m1 m2) := by
  have isT : ∀ {e : Expr}, isTupE e = true → ∃ es k p, e = .Tuple es k p := fun {e} h => by cases e <;> first | exact ⟨_, _, _, rfl⟩ | cases h
  cases k with
  | seq => exact simI_seq (h1 it q)
  | rng1 =>
    simp only [itB] at q
    split at q
    · rename_i f a hv
      obtain ⟨p, p2, rfl⟩ := vCall_eq hv
      simp only [Bool.and_eq_true] at q
      obtain ⟨rfl, _, _⟩ := c.glob q.1.1
      exact simI_rng1 q.1.2 (c.blt q.1.1 (by decide +kernel)) (h1 _ q.2)
    · cases q
  | rng2 =>
    simp only [itB] at q
    split at q
    · rename_i f a b hv
      obtain ⟨p, p2, rfl⟩ := vCall_eq hv
      simp only [Bool.and_eq_true] at q
      obtain ⟨rfl, _, _⟩ := c.glob q.1.1.1.1
      exact simI_rng2 q.1.1.1.2 q.1.1.2 (c.blt q.1.1.1.1 (by decide +kernel)) (h1 _ q.1.2) (h2 _ q.2)
    · cases q
  | enum =>
    simp only [itB, Bool.and_eq_true] at q
    obtain ⟨q0, q⟩ := q
    obtain ⟨es, kk, tp, rfl⟩ := isT q0
    split at q
    · rename_i f a hv
      obtain ⟨p, p2, rfl⟩ := vCall_eq hv
      simp only [Bool.and_eq_true] at q
      obtain ⟨rfl, _, _⟩ := c.glob q.1.1
      exact simI_enum q.1.2 (c.blt q.1.1 (by decide +kernel)) (h1 _ q.2)
    · cases q
  | rev =>
    simp only [itB] at q
    split at q
    · rename_i f a hv
      obtain ⟨p, p2, rfl⟩ := vCall_eq hv
      simp only [Bool.and_eq_true] at q
      obtain ⟨rfl, _, _⟩ := c.glob q.1.1
      exact simI_rev q.1.2 (c.blt q.1.1 (by decide +kernel)) (h1 _ q.2)
    · cases q
  | zip =>
    simp only [itB, Bool.and_eq_true] at q
    obtain ⟨q0, q⟩ := q
    obtain ⟨es, kk, tp, rfl⟩ := isT q0
    split at q
    · rename_i f a b hv
      obtain ⟨p, p2, rfl⟩ := vCall_eq hv
      simp only [Bool.and_eq_true] at q
      obtain ⟨rfl, _, _⟩ := c.glob q.1.1.1.1
      exact simI_zip q.1.1.1.2 q.1.1.2 (c.blt q.1.1.1.1 (by decide +kernel)) (h1 _ q.1.2) (h2 _ q.2)
    · cases q
end
end Cv
set_option maxRecDepth 100000
set_option maxHeartbeats 4000000
set_option autoImplicit false
/-! Engine, part P: the look at expressions is right. -/
namespace Cv
open PySem PySem.Spec L2
section
variable {T : Tab} {cs : Sta} {rz : List String} {N : List Str} {n : Nat}
/-- a value, and where it is asked as a test, a test -/
def Both (X : Cx) (e : Expr) (t : Bool) (C : Cal) (i : IE) : Prop := SimE X e (denE C i) ∧ (t = true → SimT X e (denT C i))
theorem Both.plain {X : Cx} {e : Expr} {t : Bool} {C : Cal} {i : IE} (h : SimE X e (denE C i)) (p : (!t || plainT e) = true) : Both X e t C i := by
  refine ⟨h, fun ht => simT_truth h (plainT_ok ?_)⟩
  rw [ht] at p
  exact p
theorem toW {X : Cx} {o : BoolOp} {es : List Expr} {p : Pos} {m : DEnv → R (Bool × DEnv)} (h : SimT X (.BoolOp o es p) m) : SimW X (.BoolOp o es p) m := fun _ F σ H s Q sr w pins sh I => h F σ H s Q sr w pins sh I
theorem lc_ok {sc : Scope} {X : Cx} (c : CxOk T cs rz N sc n X) {k : ItK} {e1 e2 ic ielt : IE} {tg : Tgt} {hasIf : Bool} {el tg' it : Expr} {ifs : List Expr} {scope : Scope}
    (h1 : ∀ e, chkE N cs e1 false sc e = true → SimE X e (denE (calT T n) e1)) (h2 : ∀ e, chkE N cs e2 false sc e = true → SimE X e (denE (calT T n) e2))
    (h3 : ∀ (Y : Cx) (e : Expr), CxOk T cs rz N (relS scope sc) n Y → chkE N cs ic true (relS scope sc) e = true → SimT Y e (denT (calT T n) ic))
    (h4 : ∀ (Y : Cx) (e : Expr), CxOk T cs rz N (relS scope sc) n Y → chkE N cs ielt false (relS scope sc) e = true → SimE Y e (denE (calT T n) ielt))
    (q : (notSet it && blkC N sc scope (ownOf N (tgtSlots tg)) && tgtB (blkB N scope) tg tg' && itB k (fun a => chkE N cs e1 false sc a) (fun a => chkE N cs e2 false sc a) sc tg' it
        && ifB hasIf (fun z => chkE N cs ic true (relS scope sc) z) ifs && chkE N cs ielt false (relS scope sc) el) = true) :
    ∃ tt, LcOk X scope tg' it el ifs tg (itR k (fun s => denE (calT T n) e1 s) (fun s => denE (calT T n) e2 s)) (fun s => if hasIf then tstR (fun s => denE (calT T n) ic s) s else .ok (true, s)) (fun s => denE (calT T n) ielt s) (ownOf N (tgtSlots tg)) tt := by
  simp only [Bool.and_eq_true] at q
  obtain ⟨⟨⟨⟨⟨q1, q2⟩, q3⟩, q4⟩, q5⟩, q6⟩ := q
  have nd : X.N.Nodup := by rw [c.names]; exact c.nd
  have base : ∀ (tt : TT), (∀ s H C cl fp, PTs (Blk X scope s H C cl fp) ifs tt) → (∀ (F : ASet) (σ : St) (H : Hp) (s : DEnv) (Q : Bool → Hp → Prop), SR X.K F σ H s → RP ((if hasIf then tstR (fun s => denE (calT T n) ic s) s else .ok (true, s))) (fun r => ∀ F' H', EPost X.K F σ H s F' H' r.2 → Q r.1 H') (fun _ => False) → tt σ H Q) →
      LcOk X scope tg' it el ifs tg (itR k (fun s => denE (calT T n) e1 s) (fun s => denE (calT T n) e2 s)) (fun s => if hasIf then tstR (fun s => denE (calT T n) ic s) s else .ok (true, s)) (fun s => denE (calT T n) ielt s) (ownOf N (tgtSlots tg)) tt := fun tt t1 t2 =>
    ⟨q1, by rw [c.names, c.scope]; exact blkOk_by q2, ownOf_snd _ _, it_sim c (fun e h => h1 e h) (fun e h => h2 e h) q4, fun s H C cl fp => tgt_sim (X := Blk X scope s H C cl fp) c.calm nd (fun i x h => blk_st c h) q3, fun s H C cl fp => h4 _ _ (c.blk s H C cl fp) q6, t1, t2⟩
  cases hasIf with
  | false =>
    cases ifs with
    | nil => exact ⟨tYes, base _ (fun _ _ _ _ _ => pts_nil) fun F σ H s Q sr w => w F H (.refl sr)⟩
    | cons _ _ => cases q5
  | true =>
    match ifs, q5 with
    | [z], q5 =>
      refine ⟨BT X scope z, base _ (fun s H C cl fp => pts_one (pt_b s H C cl fp)) fun F σ H s Q sr w s0 H0 C cl fp => ?_⟩
      exact h3 _ _ (c.blk s0 H0 C cl fp) q5 F σ H s Q sr (w.mono (fun _ z => z) fun _ z => z.elim)
set_option maxHeartbeats 8000000 in
mutual
theorem chkE_ok : ∀ (i : IE) (t : Bool) (sc : Scope) (X : Cx) (e : Expr), CxOk T cs rz N sc n X → chkE N cs i t sc e = true → Both X e t (calT T n) i
  | .var i, t, sc, X, e, c, h => by
    simp only [chkE, Bool.and_eq_true] at h
    obtain ⟨hp, h⟩ := h
    split at h
    · rename_i x hx
      obtain ⟨p, rfl⟩ := vName_eq hx
      obtain ⟨a1, a2, a3, a4⟩ := c.var h
      exact .plain (sim_var a1 a2 a3 a4) hp
    · cases h
  | .cst d, t, sc, X, e, c, h => by
    simp only [chkE, Bool.and_eq_true] at h
    obtain ⟨hp, h⟩ := h
    refine .plain ?_ hp
    unfold cstB at h
    split at h
    · exact sim_cst (t := tC .non) pe_non fun _ _ => .non
    · have := eq_of_beq h; subst this; exact sim_cst (t := tC .non) pe_bl fun _ _ => .bl _
    · have := of_decide_eq_true h; subst this; exact sim_cst (t := tC .non) pe_int fun _ _ => .int _
    · simp only [Bool.and_eq_true, decide_eq_true_eq] at h
      obtain ⟨rfl, h2⟩ := h
      exact sim_cst (t := tC .non) pe_str fun _ _ => .str _ h2
    · cases h
  | .glob x d, t, sc, X, e, c, h => by
    simp only [chkE, Bool.and_eq_true] at h
    obtain ⟨hp, h⟩ := h
    split at h
    · rename_i y hx
      obtain ⟨p, rfl⟩ := vName_eq hx
      simp only [Bool.and_eq_true] at h
      obtain ⟨h1, h2⟩ := h
      split at h2
      · rename_i d' hd
        have := eqC_ok h2
        subst this
        obtain ⟨rfl, g1, g2⟩ := c.glob h1
        obtain ⟨u, v, k1, k2, k3⟩ := c.fx.cst x d hd
        exact .plain (sim_glob (pe_glob g1 k1 k2 g2) k3) hp
      · cases h2
    · cases h
  | .tup es, t, sc, X, e, c, h => by
    simp only [chkE, Bool.and_eq_true] at h
    obtain ⟨hp, h⟩ := h
    split at h
    · rename_i xs hx
      obtain ⟨k, p, rfl⟩ := vTuple_eq hx
      simp only [Bool.and_eq_true, decide_eq_true_eq] at h
      exact .plain (sim_tup h.2 (denEs_len es) (chkEs_ok es sc X xs c h.1).1) hp
    · cases h
  | .lst es, t, sc, X, e, c, h => by
    simp only [chkE, Bool.and_eq_true] at h
    obtain ⟨hp, h⟩ := h
    split at h
    · rename_i xs hx
      obtain ⟨p, rfl⟩ := vList_eq hx
      simp only [Bool.and_eq_true, decide_eq_true_eq] at h
      exact .plain (sim_lst h.2 (denEs_len es) (chkEs_ok es sc X xs c h.1).1) hp
    · cases h
  | .bin op a b, t, sc, X, e, c, h => by
    simp only [chkE, Bool.and_eq_true] at h
    obtain ⟨hp, h⟩ := h
    split at h
    · rename_i x o y hx
      obtain ⟨p, rfl⟩ := vBin_eq hx
      simp only [Bool.and_eq_true, decide_eq_true_eq] at h
      obtain ⟨⟨rfl, h1⟩, h2⟩ := h
      exact .plain (sim_bin (chkE_ok a false sc X x c h1).1 (chkE_ok b false sc X y c h2).1) hp
    · cases h
  | .neg a, t, sc, X, e, c, h => by
    simp only [chkE, Bool.and_eq_true] at h
    obtain ⟨hp, h⟩ := h
    split at h
    · rename_i o x hx
      obtain ⟨p, rfl⟩ := vUn_eq hx
      simp only [Bool.and_eq_true, decide_eq_true_eq] at h
      obtain ⟨rfl, h1⟩ := h
      exact .plain (sim_neg (chkE_ok a false sc X x c h1).1) hp
    · cases h
  | .cmp op a b, t, sc, X, e, c, h => by
    simp only [chkE] at h
    split at h
    · rename_i x o y hx
      obtain ⟨p, rfl⟩ := vCmp1_eq hx
      simp only [Bool.and_eq_true, decide_eq_true_eq, Bool.not_eq_true'] at h
      obtain ⟨⟨⟨rfl, h0⟩, h1⟩, h2⟩ := h
      have a1 := (chkE_ok a false sc X x c h1).1
      have b1 := (chkE_ok b false sc X y c h2).1
      exact ⟨sim_cmp c.un h0 a1 b1, fun _ => simT_cmp c.un h0 a1 b1⟩
    · cases h
  | .chain o1 o2 a b d, t, sc, X, e, c, h => by
    simp only [chkE] at h
    split at h
    · rename_i x o p y z hx
      obtain ⟨p, rfl⟩ := vCmp2_eq hx
      simp only [Bool.and_eq_true, decide_eq_true_eq, Bool.not_eq_true'] at h
      obtain ⟨⟨⟨⟨⟨rfl, rfl⟩, h0⟩, h1⟩, h2⟩, h3⟩ := h
      have a1 := (chkE_ok a false sc X x c h1).1
      have b1 := (chkE_ok b false sc X y c h2).1
      have d1 := (chkE_ok d false sc X z c h3).1
      exact ⟨sim_chain c.un h0 a1 b1 d1, fun _ => simT_chain c.un h0 a1 b1 d1⟩
    · cases h
  | .and_ a b, t, sc, X, e, c, h => by
    simp only [chkE] at h
    split at h
    · rename_i o x y r p hx
      have := vBool_eq hx
      subst this
      simp only [Bool.and_eq_true, decide_eq_true_eq] at h
      obtain ⟨⟨rfl, h1⟩, h2⟩ := h
      have a1 := chkE_ok a t sc X x c h1
      cases r with
      | nil =>
        have b1 := chkE_ok b t sc X y c h2
        exact ⟨sim_and a1.1 (sim_one b1.1), fun ht => (simW_and (a1.2 ht) (simW_and1 (b1.2 ht))).t⟩
      | cons z r =>
        have b1 := chkE_ok b t sc X (.BoolOp .And (y :: z :: r) p) c h2
        exact ⟨sim_and a1.1 b1.1, fun ht => (simW_and (a1.2 ht) (toW (b1.2 ht))).t⟩
    · cases h
  | .or_ a b, t, sc, X, e, c, h => by
    simp only [chkE] at h
    split at h
    · rename_i o x y r p hx
      have := vBool_eq hx
      subst this
      simp only [Bool.and_eq_true, decide_eq_true_eq] at h
      obtain ⟨⟨rfl, h1⟩, h2⟩ := h
      have a1 := chkE_ok a t sc X x c h1
      cases r with
      | nil =>
        have b1 := chkE_ok b t sc X y c h2
        exact ⟨sim_or a1.1 (sim_one b1.1), fun ht => (simW_or (a1.2 ht) (simW_or1 (b1.2 ht))).t⟩
      | cons z r =>
        have b1 := chkE_ok b t sc X (.BoolOp .Or (y :: z :: r) p) c h2
        exact ⟨sim_or a1.1 b1.1, fun ht => (simW_or (a1.2 ht) (toW (b1.2 ht))).t⟩
    · cases h
  | .not_ a, t, sc, X, e, c, h => by
    simp only [chkE] at h
    split at h
    · rename_i o x hx
      obtain ⟨p, rfl⟩ := vUn_eq hx
      simp only [Bool.and_eq_true, decide_eq_true_eq] at h
      obtain ⟨rfl, h1⟩ := h
      have a1 := chkE_ok a t sc X x c h1
      exact ⟨sim_not a1.1, fun ht => simT_not (a1.2 ht)⟩
    · cases h
  | .ite d a b, t, sc, X, e, c, h => by
    simp only [chkE, Bool.and_eq_true, Bool.not_eq_true'] at h
    obtain ⟨ht, h⟩ := h
    split at h
    · rename_i z x y hx
      obtain ⟨p, rfl⟩ := vIf_eq hx
      simp only [Bool.and_eq_true] at h
      obtain ⟨⟨h1, h2⟩, h3⟩ := h
      refine ⟨sim_ite ((chkE_ok d true sc X z c h1).2 rfl) (chkE_ok a false sc X x c h2).1 (chkE_ok b false sc X y c h3).1, fun z => ?_⟩
      rw [ht] at z; cases z
    · cases h
  | .idx a b, t, sc, X, e, c, h => by
    simp only [chkE, Bool.and_eq_true] at h
    obtain ⟨hp, h⟩ := h
    split at h
    · rename_i x y hx
      obtain ⟨p, rfl⟩ := vSub_eq hx
      simp only [Bool.and_eq_true] at h
      obtain ⟨⟨h0, h1⟩, h2⟩ := h
      exact .plain (sim_idx (plainIx_ok h0) (chkE_ok a false sc X x c h1).1 (chkE_ok b false sc X y c h2).1) hp
    · cases h
  | .slc a l hb lo hi, t, sc, X, e, c, h => by
    simp only [chkE, Bool.and_eq_true] at h
    obtain ⟨hp, h⟩ := h
    split at h
    · rename_i x y hx
      obtain ⟨p, rfl⟩ := vSub_eq hx
      simp only [Bool.and_eq_true] at h
      obtain ⟨h1, h2⟩ := h
      split at h2
      · rename_i pl pu hs
        obtain ⟨p2, hy⟩ := vSlice_eq hs
        simp only at hy
        subst hy
        simp only [Bool.and_eq_true] at h2
        obtain ⟨h3, h4⟩ := h2
        have part : ∀ (l : Bool) (i : IE) (o : Option Expr), (∀ e, chkE N cs i false sc e = true → SimE X e (denE (calT T n) i)) → partB l (fun z => chkE N cs i false sc z) o = true → SimP X o l i (calT T n) := fun l i o hi q => by
          cases o with
          | none =>
            simp only [partB, Bool.not_eq_true'] at q
            exact .inl ⟨rfl, q⟩
          | some e =>
            simp only [partB, Bool.and_eq_true] at q
            exact .inr ⟨e, rfl, q.1, hi e q.2⟩
        exact .plain (sim_slc (chkE_ok a false sc X x c h1).1 (part l lo pl (fun e q => (chkE_ok lo false sc X e c q).1) h3) (part hb hi pu (fun e q => (chkE_ok hi false sc X e c q).1) h4)) hp
      · cases h2
    · cases h
  | .isi a ty, t, sc, X, e, c, h => by
    simp only [chkE, Bool.and_eq_true] at h
    obtain ⟨hp, h⟩ := h
    split at h
    · rename_i f x y hx
      obtain ⟨p, p2, rfl⟩ := vCall_eq hx
      simp only [Bool.and_eq_true] at h
      obtain ⟨⟨⟨⟨h1, h2⟩, h3⟩, h4⟩, h5⟩ := h
      split at h5
      · rename_i z hz
        obtain ⟨p3, rfl⟩ := vName_eq hz
        obtain ⟨rfl, _, _⟩ := c.glob h1
        have B2 := c.blt h5 h4
        obtain ⟨rfl, _, _⟩ := c.glob h5
        exact .plain (sim_isi (p4 := p) h2 (c.blt h1 (by decide +kernel)) B2 (chkE_ok a false sc X x c h3).1) hp
      · cases h5
    · cases h
  | .call f es, t, sc, X, e, c, h => by
    simp only [chkE, Bool.and_eq_true] at h
    obtain ⟨hp, h⟩ := h
    split at h
    · rename_i g xs hx
      obtain ⟨p, p2, rfl⟩ := vCall_eq hx
      simp only [Bool.and_eq_true] at h
      obtain ⟨⟨h1, hf⟩, h2⟩ := h
      obtain ⟨rfl, g1, g2⟩ := c.glob h1
      have hA := chkEs_ok es sc X xs c h2
      refine .plain ?_ hp
      have Fs := c.fx.fn f (by simpa using hf)
      cases xs with
      | nil =>
        cases es with
        | nil => exact sim_call0 Fs c.room g1 g2
        | cons _ _ => cases h2
      | cons y ys => exact sim_call Fs c.room g1 g2 hA.2.2 hA.1
    · cases h
  | .callIo f i es, t, sc, X, e, c, h => by
    simp only [chkE, Bool.and_eq_true] at h
    obtain ⟨hp, h⟩ := h
    split at h
    · rename_i g y xs hx
      obtain ⟨p, p2, rfl⟩ := vCall_eq hx
      simp only [Bool.and_eq_true] at h
      obtain ⟨⟨⟨h1, hf⟩, h3⟩, h2⟩ := h
      split at h3
      · rename_i x hz
        obtain ⟨p3, rfl⟩ := vName_eq hz
        obtain ⟨rfl, g1, g2⟩ := c.glob h1
        obtain ⟨a1, a2, a3, a4⟩ := c.var h3
        have hA := chkEs_ok es sc X xs c h2
        refine .plain ?_ hp
        exact sim_callIo (c.fx.fn f (by simpa using hf)) c.room g1 g2 hA.2.2 a1 a2 a3 a4 hA.1
      · cases h3
    · cases h
  | .blt f es, t, sc, X, e, c, h => by
    simp only [chkE, Bool.and_eq_true] at h
    obtain ⟨hp, h⟩ := h
    split at h
    · rename_i g y xs hx
      obtain ⟨p, p2, rfl⟩ := vCall_eq hx
      simp only [Bool.and_eq_true] at h
      obtain ⟨⟨h1, h2⟩, h3⟩ := h
      have B := c.blt h1 h2
      obtain ⟨rfl, _, _⟩ := c.glob h1
      have hA := chkEs_ok es sc X (y :: xs) c h3
      exact .plain (sim_blt c.calm hA.2.2 B hA.2.1) hp
    · cases h
  | .rngOf tp two a b, t, sc, X, e, c, h => by
    simp only [chkE, Bool.and_eq_true] at h
    obtain ⟨hp, h⟩ := h
    split at h
    · rename_i g y hx
      obtain ⟨p, p2, rfl⟩ := vCall_eq hx
      simp only [Bool.and_eq_true] at h
      obtain ⟨h1, h2⟩ := h
      split at h2
      · rename_i f xs hy
        obtain ⟨p3, p4, rfl⟩ := vCall_eq hy
        simp only [Bool.and_eq_true] at h2
        obtain ⟨h3, h4⟩ := h2
        have B := c.blt h3 (v := .type "range") (by decide +kernel)
        have B2 := c.blt h1 (v := .type (if tp then "tuple" else "list")) (by cases tp <;> decide +kernel)
        obtain ⟨rfl, _, _⟩ := c.glob h3
        obtain ⟨rfl, _, _⟩ := c.glob h1
        refine .plain ?_ hp
        split at h4
        · rename_i x
          simp only [Bool.and_eq_true] at h4
          exact sim_rng1 c.calm h4.1 B B2 (chkE_ok a false sc X x c h4.2).1
        · rename_i x z
          simp only [Bool.and_eq_true] at h4
          exact sim_rng2 c.calm h4.1.1.1 h4.1.1.2 B B2 (chkE_ok a false sc X x c h4.1.2).1 (chkE_ok b false sc X z c h4.2).1
        · cases h4
      · cases h2
    · cases h
  | .comp k e1 e2 tg hasIf ic elt, t, sc, X, e, c, h => by
    simp only [chkE, Bool.and_eq_true] at h
    obtain ⟨hp, h⟩ := h
    split at h
    · rename_i el tg' it ifs scope hx
      obtain ⟨p, rfl⟩ := vComp_eq hx
      have nd : X.N.Nodup := by rw [c.names]; exact c.nd
      obtain ⟨tt, L⟩ := lc_ok c (k := k) (e1 := e1) (e2 := e2) (ic := ic) (ielt := elt) (tg := tg) (hasIf := hasIf) (el := el) (tg' := tg') (it := it) (ifs := ifs) (scope := scope) (fun e q => (chkE_ok e1 false sc X e c q).1) (fun e q => (chkE_ok e2 false sc X e c q).1)
        (fun Y e cy q => (chkE_ok ic true _ Y e cy q).2 rfl) (fun Y e cy q => (chkE_ok elt false _ Y e cy q).1) (by simpa only [Bool.and_eq_true] using h)
      exact .plain (sim_comp c.calm nd L fun s => by simp only [denE]) hp
    · cases h
  | .meth m i es, t, sc, X, e, c, h => by
    simp only [chkE, Bool.and_eq_true] at h
    obtain ⟨hp, h⟩ := h
    split at h
    · rename_i x mm xs hx
      obtain ⟨p, ap, p2, rfl, hl⟩ := vMeth_eq hx
      simp only [Bool.and_eq_true, decide_eq_true_eq] at h
      obtain ⟨⟨⟨rfl, h1⟩, h2⟩, h3⟩ := h
      obtain ⟨a1, a2, a3, a4⟩ := c.var h1
      have hA := chkEs_ok es sc X xs c h2
      refine .plain (sim_meth a1 a2 a3 a4 hl ?_) hp
      match m, xs, es, h3, h2, hA with
      | .pop, [], [], _, _, _ => exact .inl ⟨rfl, rfl, .inl rfl⟩
      | .reverse, [], [], _, _, _ => exact .inl ⟨rfl, rfl, .inr rfl⟩
      | .append, [y], _ :: _ :: _, _, h2, _ => simp [chkEs] at h2
      | .popAt, [y], _ :: _ :: _, _, h2, _ => simp [chkEs] at h2
      | .append, [y], [iy], _, h2, hA =>
        simp only [chkEs, Bool.and_eq_true] at h2
        exact .inr ⟨y, iy, rfl, rfl, h2.1.1, .inl rfl, hA.1⟩
      | .popAt, [y], [iy], _, h2, hA =>
        simp only [chkEs, Bool.and_eq_true] at h2
        exact .inr ⟨y, iy, rfl, rfl, h2.1.1, .inr rfl, hA.1⟩
    · cases h
  | .extend i a, t, sc, X, e, c, h => by
    simp only [chkE, Bool.and_eq_true] at h
    obtain ⟨hp, h⟩ := h
    split at h
    · rename_i x mm y hx
      obtain ⟨p, ap, p2, rfl, hl⟩ := vMeth_eq hx
      simp only [Bool.and_eq_true, decide_eq_true_eq] at h
      obtain ⟨⟨⟨rfl, h1⟩, h2⟩, h3⟩ := h
      obtain ⟨a1, a2, a3, a4⟩ := c.var h1
      exact .plain (sim_extend a1 a2 a3 a4 hl h2 (chkE_ok a false sc X y c h3).1) hp
    · cases h
theorem chkEs_ok : ∀ (is : List IE) (sc : Scope) (X : Cx) (es : List Expr), CxOk T cs rz N sc n X → chkEs N cs is sc es = true → SimA X es (denEs (calT T n) is) ∧ SimO X es (denOs (calT T n) is) ∧ es.all notStar = true
  | [], sc, X, es, c, h => by
    cases es with
    | nil => exact ⟨simA_nil, simO_nil, rfl⟩
    | cons _ _ => cases h
  | i :: is, sc, X, es, c, h => by
    cases es with
    | nil => cases h
    | cons e es =>
      simp only [chkEs, Bool.and_eq_true] at h
      obtain ⟨⟨h1, h2⟩, h3⟩ := h
      have a := (chkE_ok i false sc X e c h2).1
      obtain ⟨b1, b2, b3⟩ := chkEs_ok is sc X es c h3
      exact ⟨simA_cons h1 a b1, simO_cons h1 a b2, by simp only [List.all_cons, h1, b3]; rfl⟩
end
end
end Cv
set_option maxRecDepth 100000
set_option maxHeartbeats 4000000
set_option autoImplicit false
/-! Engine, part Q: the look at statements and defs. -/
namespace Cv
open PySem PySem.Spec L2
def isLc : Expr → Bool
  | .ListComp .. => true
  | .SetComp .. => true
  | .DictComp .. => true
  | _ => false
theorem sw_none {e : Expr} {tg : Option Expr} {l : Nat} {env : Env} (h : isLc e = false) : swapsWith e tg l env = pure false := by
  cases e <;> first | rfl | cases h
/-- y = [..]: are the stores exchanged -/
def swB (sc : Scope) (y : Str) (ly : Nat) (scope : Scope) (le : Nat) : Bool := (match sc.names.lookup y with | some .local => true | _ => false) && (ly == le) && !(scope.names.any fun (n, k) => n == y && (k == .local || k == .cell))
theorem sw_lc {elt : Expr} {gs : List Comprehension} {scope : Scope} {pos py : Pos} {y : Str} {l : Nat} {env : Env} (hk : env.scope.kind = .function) : swapsWith (.ListComp elt gs scope pos) (some (.Name y py)) l env = pure (swB env.scope y py.line scope pos.line) := by
  have hb : env.blockKind = .function := by unfold Env.blockKind; rw [hk]; rfl
  have hy : (env.kindOf y == some NameKind.local) = (match env.scope.names.lookup y with | some .local => true | _ => false) := by
    show (env.scope.names.lookup y == some NameKind.local) = _
    cases env.scope.names.lookup y with
    | none => rfl
    | some k => cases k <;> rfl
  unfold swapsWith swB
  rw [← hy]
  simp only [hb]
  rfl
def stB (N : List Str) (sc : Scope) (i : Nat) (x : Str) : Bool := decide (N[i]? = some x) && locB sc x
def locl (sc : Scope) (x : Str) : Bool := match sc.names.lookup x with | some .local => true | _ => false
/-- a, b = x, y: the stores are exchanged -/
def parB (sc : Scope) (x y : Str) (lx ly : Nat) (a b : Expr) : Bool := locl sc x && locl sc y && (lx == ly) && !(x == y) && !(foldedForSure 8 a && foldedForSure 8 b) && !(constantsAlone 8 a && constantsAlone 8 b) && notStar a && notStar b
theorem locl_ok {sc : Scope} {x : Str} (h : locl sc x = true) : sc.names.lookup x = some .local := by
  unfold locl at h
  split at h
  · rename_i q; exact q
  · cases h
theorem star_any {a b : Expr} : notStar a = true → notStar b = true → ([a, b].any fun | .Starred .. => true | _ => false) = false := by
  intro h7 h8
  cases a <;> first | (cases h7; done) | (cases b <;> first | rfl | cases h8)
theorem par_sw {x y : Str} {px py pt pt2 : Pos} {kt k2 : Nat} {a b : Expr} {env : Env} (hk : env.scope.kind = .function) (h : parB env.scope x y px.line py.line a b = true) : swappedStores [.Tuple [.Name x px, .Name y py] kt pt] (.Tuple [a, b] k2 pt2) env = pure (some [x, y]) := by
  simp only [parB, Bool.and_eq_true, Bool.not_eq_true'] at h
  obtain ⟨⟨⟨⟨⟨⟨⟨h1, h2⟩, h3⟩, h4⟩, h5⟩, h6⟩, h7⟩, h8⟩ := h
  have hb : env.blockKind = .function := by unfold Env.blockKind; rw [hk]; rfl
  have k1 : (env.kindOf x == some NameKind.local) = true := by
    show (env.scope.names.lookup x == some NameKind.local) = true
    rw [locl_ok h1]; rfl
  have k2' : (env.kindOf y == some NameKind.local) = true := by
    show (env.scope.names.lookup y == some NameKind.local) = true
    rw [locl_ok h2]; rfl
  have l1 : (py.line == px.line) = true := by
    have := eq_of_beq h3
    rw [this]; exact beq_self_eq_true _
  have yx : (y == x) = false := by
    cases q : y == x with
    | false => rfl
    | true =>
      have := eq_of_beq q
      subst this
      rw [beq_self_eq_true] at h4
      cases h4
  have ed : ([x, y] : List Str).eraseDups.length = 2 := by
    rw [show ([x, y] : List Str).eraseDups = x :: ([y].filter (fun b => !b == x)).eraseDups from by rw [List.eraseDups_cons]]
    rw [show ([y].filter (fun b => !b == x)) = [y] from by simp [List.filter, yx]]
    rfl
  unfold swappedStores
  have f8 : ([a, b].all (foldedForSure 8)) = false := by simp only [List.all_cons, List.all_nil, Bool.and_true]; exact h5
  have c8 : ([a, b].all (constantsAlone 8)) = false := by simp only [List.all_cons, List.all_nil, Bool.and_true]; exact h6
  have st := star_any h7 h8
  have nm : ([Expr.Name x px, Expr.Name y py].filterMap fun
    | .Name id pos => if env.kindOf id == some .local && pos.line == (([Expr.Name x px, Expr.Name y py].head?.map (·.pos.line)).getD 0) then some id else none
    | _ => none) = [x, y] := by
    simp only [List.filterMap_cons, List.filterMap_nil, List.head?_cons, Option.map_some, Option.getD_some, Expr.pos, k1, k2', l1, beq_self_eq_true, Bool.and_true, if_true]
  have d2 : ¬((!(([Expr.Name x px, Expr.Name y py].length == 2) || ([Expr.Name x px, Expr.Name y py].length == 3)) || ([a, b].length != [Expr.Name x px, Expr.Name y py].length) || (env.blockKind != ScopeKind.function)) = true) := by
    rw [hb]; simp [List.length_cons, List.length_nil]; try rfl
  refine (if_neg d2).trans ?_
  refine (if_neg (fun hh => Bool.noConfusion (st.symm.trans hh))).trans ?_
  have nl : ¬(((([Expr.Name x px, Expr.Name y py].filterMap fun
    | .Name id pos => if env.kindOf id == some .local && pos.line == (([Expr.Name x px, Expr.Name y py].head?.map (·.pos.line)).getD 0) then some id else none
    | _ => none).length != [Expr.Name x px, Expr.Name y py].length) || (([Expr.Name x px, Expr.Name y py].filterMap fun
    | .Name id pos => if env.kindOf id == some .local && pos.line == (([Expr.Name x px, Expr.Name y py].head?.map (·.pos.line)).getD 0) then some id else none
    | _ => none).eraseDups.length != ([Expr.Name x px, Expr.Name y py].filterMap fun
    | .Name id pos => if env.kindOf id == some .local && pos.line == (([Expr.Name x px, Expr.Name y py].head?.map (·.pos.line)).getD 0) then some id else none
    | _ => none).length)) = true) := by
    rw [nm, ed]; simp
  refine (if_neg nl).trans ?_
  refine (if_neg (fun hh => Bool.noConfusion (f8.symm.trans hh))).trans ?_
  refine (if_neg (fun hh => Bool.noConfusion (c8.symm.trans hh))).trans ?_
  exact congrArg (fun z => (pure (some z) : Sem (Option (List Str)))) nm
mutual
def chkS (N : List Str) (cs : Sta) (rz : List String) (sc : Scope) : IS → Stmt → Bool
  | .asg (.name i) e, st => match st with
    | .Assign [.Name x px] v _ => stB N sc i x && chkE N cs e false sc v && (match v with
      | .ListComp _ _ scope p => (match e with | .comp .. => true | _ => !swB sc x px.line scope p.line)
      | v => !isLc v)
    | _ => false
  | .asg (.tup is) e, st => match st with
    | .Assign [tg] v _ => tgtB (stB N sc) (.tup is) tg && !isLc v && (match v with | .Tuple .. => false | _ => true) && chkE N cs e false sc v
    | _ => false
  | .par i j a b, st => match st with
    | .Assign [.Tuple [.Name x px, .Name y py] _ _] (.Tuple [va, vb] _ _) _ => stB N sc i x && stB N sc j y && parB sc x y px.line py.line va vb && chkE N cs a false sc va && chkE N cs b false sc vb
    | _ => false
  | .sub i ix e, st => match st with
    | .Assign [.Subscript (.Name x _) k _] v _ => varB N sc i x && notSlice k && !isLc v && chkE N cs ix false sc k && chkE N cs e false sc v
    | _ => false
  | .expr e, st => match st with
    | .Expr v _ => !isLc v && chkE N cs e false sc v
    | _ => false
  | .ret e, st => match st with
    | .Return (some v) _ => chkE N cs e false sc v
    | _ => false
  | .retN, st => match st with
    | .Return none _ => true
    | _ => false
  | .ife c a b, st => match st with
    | .If t x y _ => chkE N cs c true sc t && chkSs N cs rz sc a x && chkSs N cs rz sc b y
    | _ => false
  | .for_ k e1 e2 tg body, st => match st with
    | .For tg' it b [] _ => notSet it && tgtB (stB N sc) tg tg' && itB k (fun a => chkE N cs e1 false sc a) (fun a => chkE N cs e2 false sc a) sc tg' it && chkSs N cs rz sc body b
    | _ => false
  | .whl c body, st => match st with
    | .While t b [] _ => chkE N cs c true sc t && chkSs N cs rz sc body b
    | _ => false
  | .pass, st => match st with
    | .Pass _ => true
    | _ => false
  | .cont, st => match st with
    | .Continue _ => true
    | _ => false
  | .brk, st => match st with
    | .Break _ => true
    | _ => false
  | .raise c, st => match st with
    | .Raise (some (.Call (.Name x _) [.Constant (.str _) _ _] [] _)) none _ => globB sc c x && rz.contains c
    | _ => false
def chkSs (N : List Str) (cs : Sta) (rz : List String) (sc : Scope) : List IS → List Stmt → Bool
  | [], [] => true
  | i :: is, s :: ss => chkS N cs rz sc i s && chkSs N cs rz sc is ss
  | _, _ => false
end
section
variable {T : Tab} {cs : Sta} {rz : List String} {N : List Str} {n : Nat} {sc : Scope} {X : Cx}
structure BdOk (T : Tab) (cs : Sta) (rz : List String) (N : List Str) (sc : Scope) (n : Nat) (X : Cx) : Prop where
  cx : CxOk T cs rz N sc n X
  fn : ∀ x, X.fn x = true
  po : PassesOwn (model X.prog X.w) X.A X.env X.xe
  kd : sc.kind = .function
theorem BdOk.st (c : BdOk T cs rz N sc n X) {i : Nat} {x : Str} (h : stB N sc i x = true) : StOk X i x := by
  simp only [stB, Bool.and_eq_true, decide_eq_true_eq] at h
  exact ⟨by rw [c.cx.names]; exact h.1, by rw [c.cx.scope]; exact locB_ok h.2, .inl (c.fn x)⟩
theorem BdOk.nd (c : BdOk T cs rz N sc n X) : X.N.Nodup := by rw [c.cx.names]; exact c.cx.nd
theorem BdOk.kf (c : BdOk T cs rz N sc n X) : X.env.scope.kind = .function := by rw [c.cx.scope]; exact c.kd
set_option maxHeartbeats 8000000 in
mutual
theorem chkS_ok (c : BdOk T cs rz N sc n X) : ∀ (i : IS) (st : Stmt), chkS N cs rz sc i st = true → SimS X st (denS (calT T n) i)
  | .asg (.name i) e, st, h => by
    simp only [chkS] at h
    split at h
    · rename_i x px v pos
      simp only [Bool.and_eq_true] at h
      obtain ⟨⟨h1, h2⟩, h3⟩ := h
      have he := (chkE_ok e false sc X v c.cx h2).1
      split at h3
      · rename_i el gs scope p
        by_cases hsw : swB sc x px.line scope p.line = true
        · split at h3
          · rename_i k e1 e2 tg hasIf ic ielt
            simp only [chkE, Bool.and_eq_true] at h2
            obtain ⟨_, h2⟩ := h2
            split at h2
            · rename_i el' tg' it ifs scope' hx
              obtain ⟨p', e'⟩ := vComp_eq hx
              simp only at e'
              cases e'
              obtain ⟨tt, L⟩ := lc_ok c.cx (k := k) (e1 := e1) (e2 := e2) (ic := ic) (ielt := ielt) (tg := tg) (hasIf := hasIf) (fun e q => (chkE_ok e1 false sc X e c.cx q).1) (fun e q => (chkE_ok e2 false sc X e c.cx q).1)
                (fun Y e cy q => (chkE_ok ic true _ Y e cy q).2 rfl) (fun Y e cy q => (chkE_ok ielt false _ Y e cy q).1) (by simpa only [Bool.and_eq_true] using h2)
              have hs := hsw
              simp only [swB, Bool.and_eq_true] at hs
              refine sim_asgLc c.cx.calm c.nd L (fun s => by simp only [denE]) (c.st h1).ix ?_ ?_
              · rw [c.cx.scope]
                exact locl_ok hs.1.1
              · rw [sw_lc c.kf, c.cx.scope, hsw]
            · cases h2
          · rw [hsw] at h3; cases h3
        · refine sim_asg c.nd (c.st h1) ?_ he
          rw [sw_lc c.kf, c.cx.scope]
          simp only [Bool.not_eq_true] at hsw
          rw [hsw]
      · simp only [Bool.not_eq_true'] at h3
        exact sim_asg c.nd (c.st h1) (sw_none h3) he
    · cases h
  | .asg (.tup is) e, st, h => by
    simp only [chkS] at h
    split at h
    · rename_i tg v pos
      simp only [Bool.and_eq_true, Bool.not_eq_true'] at h
      obtain ⟨⟨⟨h1, h2⟩, h3⟩, h4⟩ := h
      have hg := tgt_sim c.cx.calm c.nd (fun i x q => c.st q) h1
      have ht : isTupE tg = true := by
        simp only [tgtB] at h1
        split at h1
        · rename_i es hx
          obtain ⟨k, p, rfl⟩ := vTuple_eq hx
          rfl
        · cases h1
      refine sim_asgT hg ?_ ?_ ?_ (chkE_ok e false sc X v c.cx h4).1
      · exact sw_none h2
      · cases tg <;> first | (cases ht; done) | skip
        cases v <;> first | rfl | cases h3
      · cases tg <;> first | rfl | cases ht
    · cases h
  | .par i j a b, st, h => by
    simp only [chkS] at h
    split at h
    · rename_i x px y py kt pt va vb k2 pt2 pos
      simp only [Bool.and_eq_true] at h
      obtain ⟨⟨⟨⟨h1, h2⟩, h3⟩, h4⟩, h5⟩ := h
      have h3' := h3
      simp only [parB, Bool.and_eq_true] at h3'
      obtain ⟨⟨⟨⟨⟨⟨⟨k1, k2'⟩, _⟩, _⟩, _⟩, _⟩, k7⟩, k8⟩ := h3'
      refine sim_par c.cx.calm c.nd (c.st h1) (c.st h2) ?_ ?_ k7 k8 (par_sw c.kf ?_) (chkE_ok a false sc X va c.cx h4).1 (chkE_ok b false sc X vb c.cx h5).1
      · rw [c.cx.scope]; exact locl_ok k1
      · rw [c.cx.scope]; exact locl_ok k2'
      · rw [c.cx.scope]; exact h3
    · cases h
  | .sub i ix e, st, h => by
    simp only [chkS] at h
    split at h
    · rename_i x p1 k p2 v pos
      simp only [Bool.and_eq_true, Bool.not_eq_true'] at h
      obtain ⟨⟨⟨⟨h1, h2⟩, h3⟩, h4⟩, h5⟩ := h
      obtain ⟨a1, a2, a3, a4⟩ := c.cx.var h1
      exact sim_sub a1 a2 a3 a4 (chkE_ok ix false sc X k c.cx h4).1 (chkE_ok e false sc X v c.cx h5).1 (by unfold swapsWithSole; exact sw_none h3) rfl h2
    · cases h
  | .expr e, st, h => by
    simp only [chkS] at h
    split at h
    · rename_i v pos
      simp only [Bool.and_eq_true, Bool.not_eq_true'] at h
      exact sim_expr (sw_none h.1) (chkE_ok e false sc X v c.cx h.2).1
    · cases h
  | .ret e, st, h => by
    simp only [chkS] at h
    split at h
    · rename_i v pos
      exact sim_ret (chkE_ok e false sc X v c.cx h).1
    · cases h
  | .retN, st, h => by
    simp only [chkS] at h
    split at h
    · exact sim_retN
    · cases h
  | .ife d a b, st, h => by
    simp only [chkS] at h
    split at h
    · rename_i t x y pos
      simp only [Bool.and_eq_true] at h
      obtain ⟨⟨h1, h2⟩, h3⟩ := h
      exact sim_if ((chkE_ok d true sc X t c.cx h1).2 rfl) (chkSs_ok c a x h2) (chkSs_ok c b y h3)
    · cases h
  | .for_ k e1 e2 tg body, st, h => by
    simp only [chkS] at h
    split at h
    · rename_i tg' it b pos
      simp only [Bool.and_eq_true] at h
      obtain ⟨⟨⟨h1, h2⟩, h3⟩, h4⟩ := h
      exact sim_for (mI := itR k (fun s => denE (calT T n) e1 s) (fun s => denE (calT T n) e2 s)) (mb := fun s => denSs (calT T n) body s) (t := tg) (fun s => by simp only [denS, denI]) c.po c.cx.calm h1
        (it_sim c.cx (fun e q => (chkE_ok e1 false sc X e c.cx q).1) (fun e q => (chkE_ok e2 false sc X e c.cx q).1) h3) (tgt_sim c.cx.calm c.nd (fun i x q => c.st q) h2) (chkSs_ok c body b h4)
    · cases h
  | .whl d body, st, h => by
    simp only [chkS] at h
    split at h
    · rename_i t b pos
      simp only [Bool.and_eq_true] at h
      exact sim_while c.po ((chkE_ok d true sc X t c.cx h.1).2 rfl) (chkSs_ok c body b h.2)
    · cases h
  | .pass, st, h => by
    simp only [chkS] at h
    split at h
    · exact sim_pass
    · cases h
  | .cont, st, h => by
    simp only [chkS] at h
    split at h
    · exact sim_cont
    · cases h
  | .brk, st, h => by
    simp only [chkS] at h
    split at h
    · exact sim_brk
    · cases h
  | .raise d, st, h => by
    simp only [chkS] at h
    split at h
    · rename_i x p1 m j p2 p3 pos
      simp only [Bool.and_eq_true] at h
      obtain ⟨rfl, g1, g2⟩ := c.cx.glob h.1
      obtain ⟨Ca, m1, m2⟩ := c.cx.fx.rz d (by simpa using h.2)
      exact sim_raise c.cx.calm m1 (pmk_own PySem.F.excBase_ValueError m2.ex m1 m2.kp (raises_own m2.sb m2.ty) g1 g2)
    · cases h
theorem chkSs_ok (c : BdOk T cs rz N sc n X) : ∀ (is : List IS) (sts : List Stmt), chkSs N cs rz sc is sts = true → SimSs X sts (denSs (calT T n) is)
  | [], sts, h => by
    cases sts with
    | nil => exact sims_nil
    | cons _ _ => cases h
  | i :: is, sts, h => by
    cases sts with
    | nil => cases h
    | cons s ss =>
      simp only [chkSs, Bool.and_eq_true] at h
      exact sims_cons (chkS_ok c i s h.1) (chkSs_ok c is ss h.2)
end
end
end Cv
set_option maxRecDepth 100000
set_option maxHeartbeats 4000000
set_option autoImplicit false
/-! Engine, part R: from the head's facts to the promise of the law's def. -/
namespace Cv
open PySem PySem.Spec L2 PyProof.Rows
/-- a def: its name, its text, its slots, its parameters, its meaning -/
structure FnI where
  name : String
  st : Stmt
  N : List Str
  ps : List Str
  fd : FD
def FnI.defD (f : FnI) : He.DefD := ⟨(Str.ofString f.name, none), Str.ofString f.name, Str.ofString f.name, defArgs f.st, defBody f.st, defScope f.st, [], []⟩
def FnBind (x qual : Str) (params : Arguments) (body : List Stmt) (scope : Scope) (ps : List Str) : Prop := ∀ (kV doc pm : Value) (an : Option Addr) (cdv ct : Value) (us : List Value), us.length = ps.length → bindArgs (PySem.W.fnOf x qual params body scope .none kV doc pm an cdv ct) ⟨us, []⟩ = pure (ps.zip us)
structure FnGood (cs : Sta) (rz : List String) (f : FnI) : Prop where
  sc : FnScope f.N f.ps (defScope f.st)
  ln : f.N.length = f.fd.ns
  lp : f.ps.length = f.fd.np
  chk : chkSs f.N cs rz (defScope f.st) f.fd.body (defBody f.st) = true
  bd : FnBind (Str.ofString f.name) (Str.ofString f.name) (defArgs f.st) (defBody f.st) (defScope f.st) f.ps
def tabOf (Fs : List FnI) : Tab := Fs.map fun f => (f.name, f.fd)
def cFa : String × D → He.Fa
  | (x, .int i) => .int (Str.ofString x) i
  | (x, .str z) => .str (Str.ofString x) z
  | (x, _) => .keep (Str.ofString x)
def cOk : String × D → Bool
  | (_, .int _) => true
  | (_, .str z) => PyData.strOk z
  | _ => false
def faOf (Fs : List FnI) (cs : List (String × D)) (rz : List String) : List He.Fa :=
  Fs.map (fun f => .glo (Str.ofString f.name)) ++ (bltTab.map (fun p => .free (Str.ofString p.1)) ++ (cs.map cFa ++ (rz.map (fun c => .glo (Str.ofString c)) ++ rz.map (fun c => .exc (Str.ofString c)))))
theorem tab_look : ∀ {Fs : List FnI} {f : FnI}, (Fs.map (·.name)).Nodup → f ∈ Fs → (tabOf Fs).lookup f.name = some f.fd
  | [], _, _, h => by cases h
  | g :: Fs, f, nd, h => by
    simp only [List.map_cons, List.nodup_cons] at nd
    unfold tabOf
    rw [List.map_cons, List.lookup_cons]
    rcases List.mem_cons.mp h with rfl | h
    · rw [beq_self_eq_true]
    · have : (f.name == g.name) = false := by
        cases q : f.name == g.name with
        | false => rfl
        | true =>
          have := eq_of_beq q
          exact absurd (this ▸ List.mem_map_of_mem (f := (·.name)) h) nd.1
      rw [this]
      exact tab_look nd.2 h
theorem look_mem {α : Type} : ∀ {l : List (String × α)} {x : String} {d : α}, l.lookup x = some d → (x, d) ∈ l
  | [], _, _, h => by cases h
  | (y, e) :: l, x, d, h => by
    rw [List.lookup_cons] at h
    split at h
    · rename_i q
      have := eq_of_beq q
      cases h
      subst this
      exact List.mem_cons_self
    · exact List.mem_cons_of_mem _ (look_mem h)
section
variable {Fs : List FnI} {cs : List (String × D)} {rz : List String} {P : Program} {w : World} {K : PySem.W.Frag} {mg : Str → Option Value} {base h : Heap}
theorem facts_ok (X : K.In h) (G : h.Ns mainGlobals mg) (c : He.SaysD (faOf Fs cs rz) (Fs.map FnI.defD) K) (nd : (Fs.map (·.name)).Nodup) (hc : cs.all cOk = true) (good : ∀ f ∈ Fs, FnGood ⟨cs, Fs.map (·.name)⟩ rz f) :
    ∀ n, Facts (tabOf Fs) ⟨cs, Fs.map (·.name)⟩ rz P w K mg base n := by
  have bl : ∀ p ∈ bltTab, mg (Str.ofString p.1) = none := fun p hp => He.free_ok X G (c.facts (by
    unfold faOf
    exact List.mem_append_right _ (List.mem_append_left _ (List.mem_map_of_mem (f := fun p : String × Value => He.Fa.free (Str.ofString p.1)) hp))))
  have cst : ∀ x d, cs.lookup x = some d → ∃ u v, mg (Str.ofString x) = some u ∧ RelV v u ∧ ∀ F H, Rel K F H v d := fun x d e => by
    have hm := look_mem e
    have hf : (cFa (x, d)).ok K = true := c.facts (by
      unfold faOf
      exact List.mem_append_right _ (List.mem_append_right _ (List.mem_append_left _ (List.mem_map_of_mem (f := cFa) hm))))
    have ho := List.all_eq_true.mp hc _ hm
    cases d with
    | int i =>
      obtain ⟨t, e⟩ := He.int_ok X G hf
      exact ⟨_, .int i, e, ⟨t, rfl⟩, fun F H => .int i⟩
    | str z =>
      obtain ⟨t, e⟩ := He.str_ok X G hf
      exact ⟨_, .str z, e, ⟨t, rfl⟩, fun F H => .str z ho⟩
    | _ => cases ho
  have rzk : ∀ c ∈ rz, ∃ Ca, mg (Str.ofString c) = some (.ref Ca) ∧ RzOk K Ca := fun x hx => by
    have g := He.glo_ok X G (c.facts (f := .glo (Str.ofString x)) (by
      unfold faOf
      exact List.mem_append_right _ (List.mem_append_right _ (List.mem_append_right _ (List.mem_append_left _ (List.mem_map_of_mem (f := fun c => He.Fa.glo (Str.ofString c)) hx))))))
    have e := He.exc_ok (c.facts (f := .exc (Str.ofString x)) (by
      unfold faOf
      exact List.mem_append_right _ (List.mem_append_right _ (List.mem_append_right _ (List.mem_append_right _ (List.mem_map_of_mem (f := fun c => He.Fa.exc (Str.ofString c)) hx))))))
    exact ⟨_, g, e.1, e.2.1, e.2.2.1, e.2.2.2⟩
  intro n
  induction n with
  | zero =>
    refine ⟨fun f hf => ?_, bl, cst, rzk⟩
    obtain ⟨fi, hfi, rfl⟩ := List.mem_map.mp hf
    obtain ⟨fd, FD⟩ := c.defs (List.mem_map_of_mem (f := FnI.defD) hfi)
    refine ⟨_, fd, fi.ps, He.glo_ok X G (c.facts ?_), FD.kp, FunD.bindsN FD (good fi hfi).bd, ⟨fun vs H Q E z => ?_, fun A outer s H args us vs Q E _ _ _ _ z => ?_⟩⟩
    · unfold faOf
      exact List.mem_append_left _ (List.mem_map_of_mem (f := fun f : FnI => He.Fa.glo (Str.ofString f.name)) hfi)
    · obtain ⟨_, _, _, z⟩ := z
      exact z.elim
    · obtain ⟨_, _, _, z⟩ := z
      exact z.elim
  | succ n ih =>
    refine ⟨fun f hf => ?_, bl, cst, rzk⟩
    obtain ⟨fi, hfi, rfl⟩ := List.mem_map.mp hf
    obtain ⟨fd, FD⟩ := c.defs (List.mem_map_of_mem (f := FnI.defD) hfi)
    have gd := good fi hfi
    refine ⟨_, fd, fi.ps, He.glo_ok X G (c.facts ?_), FD.kp, FunD.bindsN FD gd.bd, ?_⟩
    · unfold faOf
      exact List.mem_append_left _ (List.mem_map_of_mem (f := fun f : FnI => He.Fa.glo (Str.ofString f.name)) hfi)
    · have e : callF (tabOf Fs) (n + 1) fi.name = runF (calT (tabOf Fs) n) fi.fd := by
        funext args
        simp only [callF, tab_look nd hfi]
      rw [e]
      refine fn_sim FD gd.sc gd.ln gd.lp fun Y h1 h2 h3 h4 h5 b => ?_
      subst h1; subst h2; subst h3; subst h4; subst h5
      exact chkSs_ok ⟨⟨b.names, gd.sc.nd, b.scope, b.calm, b.room, ih⟩, b.fn, b.po, gd.sc.kind⟩ _ _ gd.chk
theorem fn_nox {k : Nat} {f : Addr} {fd : FuncData} {ps : List Str} {sp : Sp} (F : FnOk P w K mg base (L2.CX P w) k f fd ps sp) : FnOk P w K mg base CX0 k f fd ps (fun vs H Q _ => sp vs H Q fun _ _ _ => False) := by
  refine ⟨fun vs H Q E h => F.len _ _ _ _ h, fun A outer s H args us vs Q E hr he hb hv hs => codeAny_mono (F.run A outer s H args us vs Q _ hr he hb hv hs) fun r s' g => ?_⟩
  cases r with
  | ok c => cases c <;> exact g
  | error e =>
    obtain ⟨a, B, H', cls, d, _, _, _, _, _, _, _, z⟩ := g
    exact z
/-- the law's def, from the plain theorem about its meaning -/
theorem law_ok {n : Nat} {f : FnI} {x : Str} {y : String} {fa : Addr} (X : K.In h) (G : h.Ns mainGlobals mg) (c : He.SaysD (faOf Fs cs rz) (Fs.map FnI.defD) K) (nd : (Fs.map (·.name)).Nodup) (hc : cs.all cOk = true) (good : ∀ f ∈ Fs, FnGood ⟨cs, Fs.map (·.name)⟩ rz f)
    (hf : f ∈ Fs) (hy : f.name = y) (hp : f.ps = [x]) (hfa : mg (Str.ofString y) = some (.ref fa))
    (law : ∀ ns : List Int, ns.length ≤ 63 → ∃ ds, callF (tabOf Fs) (n + 1) y [.val (.scr ns)] = .ok (.val (.bl true), ds)) :
    ∃ (fd : FuncData) (sp : Sp), (∀ (s : Shared) (v : Value), BindsTo s fd ⟨[v], []⟩ [(x, v)]) ∧
      (∀ (H : Hp) (a : Addr) (ns : List Int), ns.length ≤ 63 → Only H → SqL K H a (ns.map V.int) → sp [.ref a] H (fun v _ => v = .bl true) fun _ _ _ => False) ∧
      ∀ base : Heap, K.In base → base.Ns mainGlobals mg → FnOk P w K mg base CX0 (n + 1) fa fd [x] sp := by
  subst hy
  obtain ⟨fd, FD⟩ := c.defs (List.mem_map_of_mem (f := FnI.defD) hf)
  have e := hfa.symm.trans (He.glo_ok X G (c.facts (f := .glo (Str.ofString f.name)) (by
    unfold faOf
    exact List.mem_append_left _ (List.mem_map_of_mem (f := fun f : FnI => He.Fa.glo (Str.ofString f.name)) hf))))
  cases e
  have b := FunD.bindsA FD (good f hf).bd
  rw [hp] at b
  refine ⟨fd, fun vs H Q _ => spF K mg (callF (tabOf Fs) (n + 1) f.name) vs H Q fun _ _ _ => False, fun s v => b s [v] rfl, fun H a ns hl ho hS => ?_, fun base _ _ => ?_⟩
  · obtain ⟨ds, e⟩ := law ns hl
    have sf : SqF K H a (ns.map V.int) := by
      rcases hS with (q | ⟨o, q⟩) | q
      · rcases ho a with z | ⟨o, xs, z⟩
        · rw [z] at q; cases q
        · rw [z] at q; cases q
      · exact .inl ⟨o, q⟩
      · exact .inr q
    refine ⟨fun _ => False, [.val (.scr ns)], ⟨rfl, fun i x e => ?_, fun i j x y ds es b h1 h2 => ?_, fun _ f => f.elim⟩, ?_⟩
    · cases i with
      | zero => cases e; exact ⟨_, rfl, Rel.scr sf⟩
      | succ i => cases e
    · cases i with
      | zero => cases h1; cases h2
      | succ i => cases h1
    · rw [e]
      intro F' v H' q
      have := q.ret
      cases (show Rel K F' H' v (.bl true) from this)
      rfl
  · have gd := good f hf
    have e : callF (tabOf Fs) (n + 1) f.name = runF (calT (tabOf Fs) n) f.fd := by
      funext args
      simp only [callF, tab_look nd hf]
    rw [e, ← hp]
    refine fn_nox ?_
    refine fn_sim FD gd.sc gd.ln gd.lp fun Y h1 h2 h3 h4 h5 b => ?_
    subst h1; subst h2; subst h3; subst h4; subst h5
    exact chkSs_ok ⟨⟨b.names, gd.sc.nd, b.scope, b.calm, b.room, facts_ok X G c nd hc good n⟩, b.fn, b.po, gd.sc.kind⟩ _ _ gd.chk
end
end Cv
set_option maxRecDepth 100000
set_option maxHeartbeats 4000000
set_option autoImplicit false
/-! Tools to tell what a text of the intermediate language computes. -/
namespace Cv
open PySem
section
variable {α β : Type} {C : Cal} {s : DEnv}
@[simp] theorem R.bindOk (a : α) (f : α → R β) : (R.ok a).bind f = f a := Eq.trans rfl rfl
@[simp] theorem R.bindExn (c : String) (f : α → R β) : (R.exn c).bind f = .exn c := Eq.trans rfl rfl
@[simp] theorem R.ofO_some (a : α) : R.ofO (some a) = .ok a := Eq.trans rfl rfl
@[simp] theorem noX_ok (a : α) : noX (R.ok a) = .ok a := Eq.trans rfl rfl
@[simp] theorem deref_val (d : D) : deref s (.val d) = some d := Eq.trans rfl rfl
@[simp] theorem deref_fresh (d : List D) : deref s (.fresh d) = some (.lst d) := Eq.trans rfl rfl
@[simp] theorem esc_val (d : D) : esc s (.val d) = some (d, s) := Eq.trans rfl rfl
@[simp] theorem esc_fresh (d : List D) : esc s (.fresh d) = some (.lst d, s) := Eq.trans rfl rfl
@[simp] theorem truD_bl (b : Bool) : truD (.bl b) = some b := Eq.trans rfl rfl
@[simp] theorem cmpD_lt (i j : Int) : cmpD .lt (.int i) (.int j) = some (decide (i < j)) := Eq.trans rfl rfl
@[simp] theorem cmpD_le (i j : Int) : cmpD .le (.int i) (.int j) = some (decide (i ≤ j)) := Eq.trans rfl rfl
@[simp] theorem cmpD_gt (i j : Int) : cmpD .gt (.int i) (.int j) = some (decide (j < i)) := Eq.trans rfl rfl
@[simp] theorem cmpD_ge (i j : Int) : cmpD .ge (.int i) (.int j) = some (decide (j ≤ i)) := Eq.trans rfl rfl
@[simp] theorem cmpD_eqI (i j : Int) : cmpD .eq (.int i) (.int j) = some (i == j) := Eq.trans rfl rfl
@[simp] theorem cmpD_neI (i j : Int) : cmpD .ne (.int i) (.int j) = some (!(i == j)) := Eq.trans rfl rfl
@[simp] theorem binD_add (i j : Int) : binD .add (.int i) (.int j) = some (.val (.int (i + j))) := Eq.trans rfl rfl
@[simp] theorem binD_sub (i j : Int) : binD .sub (.int i) (.int j) = some (.val (.int (i - j))) := Eq.trans rfl rfl
theorem binD_mul {i j : Int} (h : j.natAbs < 18446744073709551616) : binD .mul (.int i) (.int j) = some (.val (.int (i * j))) := by
  simp [binD, mulOk, h]
theorem binD_mul' {i j : Int} (h : i.natAbs < 18446744073709551616) : binD .mul (.int i) (.int j) = some (.val (.int (i * j))) := by
  simp [binD, mulOk, h]
theorem binD_mod {i j : Int} (h : 0 < j) : binD .mod (.int i) (.int j) = some (.val (.int (i % j))) := by simp [binD, h]
theorem binD_fdiv {i j : Int} (h : 0 < j) (h2 : j < 1073741824) : binD .fdiv (.int i) (.int j) = some (.val (.int (i / j))) := by simp [binD, h, h2]
theorem divmod_ok {i j : Int} (h : 0 < j) (h2 : j < 1073741824) : bltD "divmod" [.int i, .int j] = some (.val (.tup [.int (i / j), .int (i % j)])) := by simp [bltD, h, h2]
end
/-! ### loops -/
section
variable {set : DEnv → D → Option DEnv} {body : DEnv → R Out} {α β : Type}
theorem for_fold (enc : α → DEnv) (dec : β → D) (f : α → β → α) : ∀ (bs : List β) (a : α), (∀ (a : α) (b : β), b ∈ bs → ∃ s1, set (enc a) (dec b) = some s1 ∧ body s1 = .ok (.next (enc (f a b)))) →
    forLoop set body (bs.map dec) (enc a) = .ok (.next (enc (bs.foldl f a)))
  | [], a, _ => rfl
  | b :: bs, a, h => by
    obtain ⟨s1, h1, h2⟩ := h a b (List.mem_cons_self)
    simp only [List.map_cons, forLoop, h1, R.ofO_some, R.bindOk, h2, List.foldl_cons]
    exact for_fold enc dec f bs (f a b) fun a b hb => h a b (List.mem_cons_of_mem _ hb)
/-- a loop that keeps a thing -/
theorem for_inv (I : DEnv → Prop) : ∀ (ds : List D) (s : DEnv), I s → (∀ (s : DEnv) (d : D), d ∈ ds → I s → ∃ s1 s2, set s d = some s1 ∧ (body s1 = .ok (.next s2) ∨ body s1 = .ok (.cont s2)) ∧ I s2) → ∃ s', forLoop set body ds s = .ok (.next s') ∧ I s'
  | [], s, hI, _ => ⟨s, rfl, hI⟩
  | d :: ds, s, hI, h => by
    obtain ⟨s1, s2, h1, h2, h3⟩ := h s d List.mem_cons_self hI
    obtain ⟨s', h4, h5⟩ := for_inv I ds s2 h3 fun s d hd => h s d (List.mem_cons_of_mem _ hd)
    refine ⟨s', ?_, h5⟩
    rcases h2 with h2 | h2 <;> simp only [forLoop, h1, R.ofO_some, R.bindOk, h2, h4]
variable {wp : DEnv → DEnv} {c : DEnv → R (Bool × DEnv)} {elt : DEnv → R (D × DEnv)}
/-- a comprehension whose parts change nothing -/
theorem comp_pure (st : D → DEnv) (p : D → Bool) (g : D → D) : ∀ (ds acc : List D) (s : DEnv), (∀ d, d ∈ ds → set (wp s) d = some (st d)) → (∀ d e, d ∈ ds → e ∈ ds → set (wp (st e)) d = some (st d)) →
    (∀ d, d ∈ ds → c (st d) = .ok (p d, st d)) → (∀ d, d ∈ ds → p d = true → elt (st d) = .ok (g d, st d)) →
    ∃ s', compLoop wp set c elt ds acc s = .ok (acc ++ (ds.filter p).map g, s') ∧ (s' = s ∨ ∃ d ∈ ds, s' = st d)
  | [], acc, s, _, _, _, _ => ⟨s, by simp [compLoop], .inl rfl⟩
  | d :: ds, acc, s, h1, h2, h3, h4 => by
    have hd := List.mem_cons_self (a := d) (l := ds)
    obtain ⟨s', e, hs⟩ := comp_pure st p g ds (if p d then acc ++ [g d] else acc) (st d) (fun e he => h2 e d (List.mem_cons_of_mem _ he) hd) (fun a b ha hb => h2 a b (List.mem_cons_of_mem _ ha) (List.mem_cons_of_mem _ hb)) (fun a ha => h3 a (List.mem_cons_of_mem _ ha)) fun a ha => h4 a (List.mem_cons_of_mem _ ha)
    refine ⟨s', ?_, ?_⟩
    · simp only [compLoop, h1 d hd, R.ofO_some, R.bindOk, h3 d hd, noX_ok]
      cases hp : p d with
      | true =>
        rw [hp] at e
        simp only [if_true, h4 d hd hp, noX_ok, R.bindOk] at e ⊢
        rw [e, List.filter_cons_of_pos hp]
        simp
      | false =>
        rw [hp] at e
        simp only [Bool.false_eq_true, if_false] at e ⊢
        rw [e, List.filter_cons_of_neg (by simp [hp])]
    · rcases hs with rfl | ⟨a, ha, rfl⟩
      · exact .inr ⟨d, hd, rfl⟩
      · exact .inr ⟨a, List.mem_cons_of_mem _ ha, rfl⟩
/-- the same over coded items -/
theorem comp_pureB {β : Type} (dec : β → D) (st : D → DEnv) (p : β → Bool) (g : β → D) : ∀ (ds : List β) (acc : List D) (s : DEnv), (∀ d, d ∈ ds → set (wp s) (dec d) = some (st (dec d))) → (∀ d e, d ∈ ds → e ∈ ds → set (wp (st (dec e))) (dec d) = some (st (dec d))) →
    (∀ d, d ∈ ds → c (st (dec d)) = .ok (p d, st (dec d))) → (∀ d, d ∈ ds → p d = true → elt (st (dec d)) = .ok (g d, st (dec d))) →
    ∃ s', compLoop wp set c elt (ds.map dec) acc s = .ok (acc ++ (ds.filter p).map g, s') ∧ (s' = s ∨ ∃ d ∈ ds, s' = st (dec d))
  | [], acc, s, _, _, _, _ => ⟨s, by simp [compLoop], .inl rfl⟩
  | d :: ds, acc, s, h1, h2, h3, h4 => by
    have hd := List.mem_cons_self (a := d) (l := ds)
    obtain ⟨s', e, hs⟩ := comp_pureB dec st p g ds (if p d then acc ++ [g d] else acc) (st (dec d)) (fun e he => h2 e d (List.mem_cons_of_mem _ he) hd) (fun a b ha hb => h2 a b (List.mem_cons_of_mem _ ha) (List.mem_cons_of_mem _ hb)) (fun a ha => h3 a (List.mem_cons_of_mem _ ha)) fun a ha => h4 a (List.mem_cons_of_mem _ ha)
    refine ⟨s', ?_, ?_⟩
    · simp only [List.map_cons, compLoop, h1 d hd, R.ofO_some, R.bindOk, h3 d hd, noX_ok]
      cases hp : p d with
      | true =>
        rw [hp] at e
        simp only [if_true, h4 d hd hp, noX_ok, R.bindOk] at e ⊢
        rw [e, List.filter_cons_of_pos hp]
        simp
      | false =>
        rw [hp] at e
        simp only [Bool.false_eq_true, if_false] at e ⊢
        rw [e, List.filter_cons_of_neg (by simp [hp])]
    · rcases hs with rfl | ⟨a, ha, rfl⟩
      · exact .inr ⟨d, hd, rfl⟩
      · exact .inr ⟨a, List.mem_cons_of_mem _ ha, rfl⟩
/-- a comprehension that keeps a thing, its tests known -/
theorem comp_invB {β : Type} (J : DEnv → Prop) (dec : β → D) (p : β → Bool) (g : β → D) : ∀ (bs : List β) (acc : List D) (s : DEnv), J s → (∀ (s : DEnv) (d : β), d ∈ bs → J s → ∃ s1 s2, set (wp s) (dec d) = some s1 ∧ c s1 = .ok (p d, s2) ∧ (p d = false → J s2) ∧ (p d = true → ∃ s3, elt s2 = .ok (g d, s3) ∧ J s3)) →
    ∃ s', compLoop wp set c elt (bs.map dec) acc s = .ok (acc ++ (bs.filter p).map g, s') ∧ J s'
  | [], acc, s, hJ, _ => ⟨s, by simp [compLoop], hJ⟩
  | d :: bs, acc, s, hJ, h => by
    obtain ⟨s1, s2, h1, h2, h3, h4⟩ := h s d List.mem_cons_self hJ
    cases hp : p d with
    | false =>
      obtain ⟨s', e, hJ'⟩ := comp_invB J dec p g bs acc s2 (h3 hp) fun s d hd => h s d (List.mem_cons_of_mem _ hd)
      refine ⟨s', ?_, hJ'⟩
      simp only [List.map_cons, compLoop, h1, R.ofO_some, R.bindOk, h2, hp, noX_ok, Bool.false_eq_true, if_false, e]
      rw [List.filter_cons_of_neg (by simp [hp])]
    | true =>
      obtain ⟨s3, h5, h6⟩ := h4 hp
      obtain ⟨s', e, hJ'⟩ := comp_invB J dec p g bs (acc ++ [g d]) s3 h6 fun s d hd => h s d (List.mem_cons_of_mem _ hd)
      refine ⟨s', ?_, hJ'⟩
      simp only [List.map_cons, compLoop, h1, R.ofO_some, R.bindOk, h2, hp, noX_ok, if_true, h5, e]
      rw [List.filter_cons_of_pos hp]
      simp
/-- a comprehension that keeps a thing, its items' values known -/
theorem comp_inv (I : DEnv → Prop) (g : D → D) : ∀ (ds acc : List D) (s : DEnv), I s → (∀ (s : DEnv) (d : D), d ∈ ds → I s → ∃ s1 b s2, set (wp s) d = some s1 ∧ c s1 = .ok (b, s2) ∧ (b = false → I s2) ∧ (b = true → ∃ s3, elt s2 = .ok (g d, s3) ∧ I s3)) →
    ∃ (sub : List D) (s' : DEnv), compLoop wp set c elt ds acc s = .ok (acc ++ sub.map g, s') ∧ sub.Sublist ds ∧ I s'
  | [], acc, s, hI, _ => ⟨[], s, by simp [compLoop], List.Sublist.refl _, hI⟩
  | d :: ds, acc, s, hI, h => by
    obtain ⟨s1, b, s2, h1, h2, h3, h4⟩ := h s d List.mem_cons_self hI
    cases b with
    | false =>
      obtain ⟨sub, s', e, hs, hI'⟩ := comp_inv I g ds acc s2 (h3 rfl) fun s d hd => h s d (List.mem_cons_of_mem _ hd)
      refine ⟨sub, s', ?_, hs.cons _, hI'⟩
      simp only [compLoop, h1, R.ofO_some, R.bindOk, h2, noX_ok, Bool.false_eq_true, if_false, e]
    | true =>
      obtain ⟨s3, h5, h6⟩ := h4 rfl
      obtain ⟨sub, s', e, hs, hI'⟩ := comp_inv I g ds (acc ++ [g d]) s3 h6 fun s d hd => h s d (List.mem_cons_of_mem _ hd)
      refine ⟨d :: sub, s', ?_, hs.cons₂ _, hI'⟩
      simp only [compLoop, h1, R.ofO_some, R.bindOk, h2, noX_ok, if_true, h5, e]
      simp
end
/-! ### it ends well, and then -/
def Ok {α : Type} (r : R α) (P : α → Prop) : Prop := ∃ a, r = .ok a ∧ P a
section
variable {α β : Type} {set : DEnv → D → Option DEnv} {body : DEnv → R Out} {wp : DEnv → DEnv} {c : DEnv → R (Bool × DEnv)} {elt : DEnv → R (D × DEnv)}
theorem Ok.mk {a : α} {P : α → Prop} (h : P a) : Ok (.ok a) P := ⟨a, rfl, h⟩
@[simp] theorem Ok_ok {a : α} {P : α → Prop} : Ok (.ok a) P ↔ P a := ⟨fun ⟨_, e, h⟩ => by cases e; exact h, fun h => ⟨a, rfl, h⟩⟩
theorem Ok.bind {r : R α} {f : α → R β} {P : β → Prop} (h : Ok r fun a => Ok (f a) P) : Ok (r.bind f) P := by
  obtain ⟨a, rfl, h⟩ := h
  exact h
theorem Ok.imp {r : R α} {P Q : α → Prop} (h : Ok r P) (k : ∀ a, P a → Q a) : Ok r Q := by
  obtain ⟨a, e, h⟩ := h
  exact ⟨a, e, k a h⟩
def nextI (I : DEnv → Prop) : Out → Prop
  | .next s => I s
  | .cont s => I s
  | _ => False
theorem for_ok (I : DEnv → Prop) : ∀ {ds : List D} {s : DEnv}, I s → (∀ (s : DEnv) (d : D), d ∈ ds → I s → ∃ s1, set s d = some s1 ∧ Ok (body s1) (nextI I)) → Ok (forLoop set body ds s) fun o => ∃ s', o = .next s' ∧ I s' := by
  intro ds s h0 h
  obtain ⟨s', e, hI⟩ := for_inv (set := set) (body := body) I ds s h0 fun s d hd hI => by
    obtain ⟨s1, h1, o, h2, h3⟩ := h s d hd hI
    cases o with
    | next s2 => exact ⟨s1, s2, h1, .inl h2, h3⟩
    | cont s2 => exact ⟨s1, s2, h1, .inr h2, h3⟩
    | brk _ => exact h3.elim
    | ret _ _ => exact h3.elim
  exact ⟨_, e, s', rfl, hI⟩
theorem comp_ok (I : DEnv → Prop) (g : D → D) {ds acc : List D} {s : DEnv} (h0 : I s) (h : ∀ (s : DEnv) (d : D), d ∈ ds → I s → ∃ s1, set (wp s) d = some s1 ∧ Ok (c s1) fun r => (r.1 = false → I r.2) ∧ (r.1 = true → Ok (elt r.2) fun q => q.1 = g d ∧ I q.2)) :
    Ok (compLoop wp set c elt ds acc s) fun r => ∃ sub : List D, sub.Sublist ds ∧ r.1 = acc ++ sub.map g ∧ I r.2 := by
  obtain ⟨sub, s', e, hs, hI⟩ := comp_inv (set := set) (wp := wp) (c := c) (elt := elt) I g ds acc s h0 fun s d hd hI => by
    obtain ⟨s1, h1, ⟨b, s2⟩, h2, h3, h4⟩ := h s d hd hI
    refine ⟨s1, b, s2, h1, h2, h3, fun hb => ?_⟩
    obtain ⟨⟨q1, q2⟩, h5, h6, h7⟩ := h4 hb
    cases h6
    exact ⟨q2, h5, h7⟩
  exact ⟨_, e, sub, hs, rfl, hI⟩
end
/-- a slot that was never or simply set -/
abbrev sl (j : Option D) : Option S := j.map .val
@[simp] theorem setN_sl {pre post : DEnv} {j : Option D} {v : S} : setN (pre ++ sl j :: post) pre.length v = some (pre ++ some v :: post) := by
  cases j <;> simp [setN, sl]
theorem set0 {a : Option D} {r : DEnv} {v : S} : setN (sl a :: r) 0 v = some (some v :: r) := setN_sl (pre := [])
theorem set1 {x0 : Option S} {a : Option D} {r : DEnv} {v : S} : setN (x0 :: sl a :: r) 1 v = some (x0 :: some v :: r) := setN_sl (pre := [x0])
theorem set2 {x0 x1 : Option S} {a : Option D} {r : DEnv} {v : S} : setN (x0 :: x1 :: sl a :: r) 2 v = some (x0 :: x1 :: some v :: r) := setN_sl (pre := [x0, x1])
theorem set3 {x0 x1 x2 : Option S} {a : Option D} {r : DEnv} {v : S} : setN (x0 :: x1 :: x2 :: sl a :: r) 3 v = some (x0 :: x1 :: x2 :: some v :: r) := setN_sl (pre := [x0, x1, x2])
theorem set4 {x0 x1 x2 x3 : Option S} {a : Option D} {r : DEnv} {v : S} : setN (x0 :: x1 :: x2 :: x3 :: sl a :: r) 4 v = some (x0 :: x1 :: x2 :: x3 :: some v :: r) := setN_sl (pre := [x0, x1, x2, x3])
theorem denSs_append {C : Cal} : ∀ (a b : List IS) (s s1 : DEnv), denSs C a s = .ok (.next s1) → denSs C (a ++ b) s = denSs C b s1
  | [], b, s, s1, h => by simp only [denSs] at h; cases h; rfl
  | x :: a, b, s, s1, h => by
    simp only [List.cons_append, denSs] at h ⊢
    cases e : denS C x s with
    | bad => rw [e] at h; cases h
    | exn c => rw [e] at h; cases h
    | ok o =>
      rw [e] at h
      cases o with
      | next s2 => exact denSs_append a b s2 s1 h
      | ret _ _ => cases h
      | brk _ => cases h
      | cont _ => cases h
section
variable {C : Cal} {k : ItK} {e1 e2 c elt : IE} {v : Nat} {s : DEnv} {ds : List D}
theorem set_same {x : Option S} (hv : v < s.length) : (s.set v x).set v (s[v]?.getD none) = s := by
  rw [List.set_set]
  rw [List.getElem?_eq_getElem hv]
  simp
theorem setN_wiped {x : Option S} {y : S} (hv : v < s.length) : setN ((s.set v x).set v none) v y = some (s.set v (some y)) := by
  simp [setN, hv, List.set_set]
theorem setN_wiped' {y : S} (hv : v < s.length) : setN (s.set v none) v y = some (s.set v (some y)) := by
  simp [setN, hv, List.set_set]
/-- [elt for v in .. if c]: nothing else changes -/
theorem comp_if (p : D → Bool) (g : D → D) (hit : itR k (fun s => denE C e1 s) (fun s => denE C e2 s) s = .ok (ds, s)) (hv : v < s.length)
    (hc : ∀ d, d ∈ ds → tstR (fun s => denE C c s) (s.set v (some (.val d))) = .ok (p d, s.set v (some (.val d)))) (he : ∀ d, d ∈ ds → p d = true → eltR (fun s => denE C elt s) (s.set v (some (.val d))) = .ok (g d, s.set v (some (.val d)))) :
    denE C (.comp k e1 e2 (.name v) true c elt) s = .ok (.fresh ((ds.filter p).map g), s) := by
  obtain ⟨s', e, hs⟩ := comp_pure (wp := fun s => wipeD s (tgtSlots (.name v))) (set := fun s d => setT s (.name v) d) (c := fun s => tstR (fun s => denE C c s) s) (elt := fun s => eltR (fun s => denE C elt s) s)
    (fun d => s.set v (some (.val d))) p g ds [] s (fun d _ => setN_wiped' hv) (fun d e _ _ => setN_wiped hv) hc he
  simp only [denE, if_true]
  rw [hit, R.bindOk]
  rw [e]
  simp only [R.bindOk, List.nil_append, backD, tgtSlots]
  congr 2
  rcases hs with rfl | ⟨d, _, rfl⟩
  · rw [← List.set_set (none : Option S)]
    exact set_same hv
  · exact set_same hv
theorem comp_no (g : D → D) (hit : itR k (fun s => denE C e1 s) (fun s => denE C e2 s) s = .ok (ds, s)) (hv : v < s.length)
    (he : ∀ d, d ∈ ds → eltR (fun s => denE C elt s) (s.set v (some (.val d))) = .ok (g d, s.set v (some (.val d)))) :
    denE C (.comp k e1 e2 (.name v) false c elt) s = .ok (.fresh (ds.map g), s) := by
  obtain ⟨s', e, hs⟩ := comp_pure (wp := fun s => wipeD s (tgtSlots (.name v))) (set := fun s d => setT s (.name v) d) (c := fun s => if false = true then tstR (fun s => denE C c s) s else .ok (true, s)) (elt := fun s => eltR (fun s => denE C elt s) s)
    (fun d => s.set v (some (.val d))) (fun _ => true) g ds [] s (fun d _ => setN_wiped' hv) (fun d e _ _ => setN_wiped hv) (fun d hd => by simp) (fun d hd _ => he d hd)
  have ft : ds.filter (fun _ => true) = ds := by simp
  rw [ft] at e
  simp only [denE]
  rw [hit, R.bindOk, e]
  simp only [R.bindOk, List.nil_append, backD, tgtSlots]
  congr 2
  rcases hs with rfl | ⟨d, _, rfl⟩
  · rw [← List.set_set (none : Option S)]
    exact set_same hv
  · exact set_same hv
theorem comp_ifB {β : Type} {bs : List β} {s0 : DEnv} (dec : β → D) (p : β → Bool) (g : β → D) (hit : itR k (fun s => denE C e1 s) (fun s => denE C e2 s) s = .ok (bs.map dec, s0)) (hv : v < s0.length)
    (hc : ∀ d, d ∈ bs → tstR (fun s => denE C c s) (s0.set v (some (.val (dec d)))) = .ok (p d, s0.set v (some (.val (dec d))))) (he : ∀ d, d ∈ bs → p d = true → eltR (fun s => denE C elt s) (s0.set v (some (.val (dec d)))) = .ok (g d, s0.set v (some (.val (dec d))))) :
    denE C (.comp k e1 e2 (.name v) true c elt) s = .ok (.fresh ((bs.filter p).map g), s0) := by
  obtain ⟨s', e, hs⟩ := comp_pureB (wp := fun s => wipeD s (tgtSlots (.name v))) (set := fun s d => setT s (.name v) d) (c := fun s => tstR (fun s => denE C c s) s) (elt := fun s => eltR (fun s => denE C elt s) s)
    dec (fun d => s0.set v (some (.val d))) p g bs [] s0 (fun d _ => setN_wiped' hv) (fun d e _ _ => setN_wiped hv) hc he
  simp only [denE, if_true]
  rw [hit, R.bindOk]
  rw [e]
  simp only [R.bindOk, List.nil_append, backD, tgtSlots]
  congr 2
  rcases hs with rfl | ⟨d, _, rfl⟩
  · rw [← List.set_set (none : Option S)]
    exact set_same hv
  · exact set_same hv
theorem comp_noB {β : Type} {bs : List β} {s0 : DEnv} (dec : β → D) (g : β → D) (hit : itR k (fun s => denE C e1 s) (fun s => denE C e2 s) s = .ok (bs.map dec, s0)) (hv : v < s0.length)
    (he : ∀ d, d ∈ bs → eltR (fun s => denE C elt s) (s0.set v (some (.val (dec d)))) = .ok (g d, s0.set v (some (.val (dec d))))) :
    denE C (.comp k e1 e2 (.name v) false c elt) s = .ok (.fresh (bs.map g), s0) := by
  obtain ⟨s', e, hs⟩ := comp_pureB (wp := fun s => wipeD s (tgtSlots (.name v))) (set := fun s d => setT s (.name v) d) (c := fun s => if false = true then tstR (fun s => denE C c s) s else .ok (true, s)) (elt := fun s => eltR (fun s => denE C elt s) s)
    dec (fun d => s0.set v (some (.val d))) (fun _ => true) g bs [] s0 (fun d _ => setN_wiped' hv) (fun d e _ _ => setN_wiped hv) (fun d hd => by simp) (fun d hd _ => he d hd)
  have ft : bs.filter (fun _ => true) = bs := by simp
  rw [ft] at e
  simp only [denE]
  rw [hit, R.bindOk, e]
  simp only [R.bindOk, List.nil_append, backD, tgtSlots]
  congr 2
  rcases hs with rfl | ⟨d, _, rfl⟩
  · rw [← List.set_set (none : Option S)]
    exact set_same hv
  · exact set_same hv
end
/-! ### rows of numbers -/
abbrev nI (i : Nat) : D := .int (i : Int)
abbrev tN (l : List Nat) : D := .tup (l.map nI)
@[simp] theorem dle_int (k : Nat) (i : Int) : dle k (.int i) = true := by cases k <;> rfl
@[simp] theorem dle_non (k : Nat) : dle k .non = true := by cases k <;> rfl
@[simp] theorem dle_bl (k : Nat) (b : Bool) : dle k (.bl b) = true := by cases k <;> rfl
theorem dles_all {k : Nat} : ∀ {ds : List D}, (∀ d ∈ ds, dle k d = true) → dles k ds = true
  | [], _ => rfl
  | d :: ds, h => by
    simp only [dles, Bool.and_eq_true]
    exact ⟨h d List.mem_cons_self, dles_all fun e he => h e (List.mem_cons_of_mem _ he)⟩
@[simp] theorem dles_nI (k : Nat) (l : List Nat) : dles k (l.map nI) = true := dles_all fun d h => by
  obtain ⟨i, _, rfl⟩ := List.mem_map.mp h
  exact dle_int _ _
@[simp] theorem dle_tN (k : Nat) (l : List Nat) : dle (k + 1) (tN l) = true := dles_nI k l
@[simp] theorem dles_tN (k : Nat) (l : List (List Nat)) : dles (k + 1) (l.map tN) = true := dles_all fun d h => by
  obtain ⟨i, _, rfl⟩ := List.mem_map.mp h
  exact dle_tN _ _
@[simp] theorem dle_lT (k : Nat) (l : List (List Nat)) : dle (k + 2) (.lst (l.map tN)) = true := dles_tN k l
@[simp] theorem eqD_nI (i j : Nat) : eqD (nI i) (nI j) = (i == j) := by
  show ((i : Int) == (j : Int)) = _
  rw [Bool.eq_iff_iff, beq_iff_eq, beq_iff_eq]
  omega
@[simp] theorem eqDs_nI : ∀ (a b : List Nat), eqDs (a.map nI) (b.map nI) = (a == b)
  | [], [] => rfl
  | [], _ :: _ => rfl
  | _ :: _, [] => rfl
  | i :: a, j :: b => by
    show (eqD (nI i) (nI j) && eqDs (a.map nI) (b.map nI)) = _
    rw [eqD_nI, eqDs_nI a b]
    rfl
@[simp] theorem eqD_tN (a b : List Nat) : eqD (tN a) (tN b) = (a == b) := eqDs_nI a b
@[simp] theorem eqDs_tN : ∀ (a b : List (List Nat)), eqDs (a.map tN) (b.map tN) = (a == b)
  | [], [] => rfl
  | [], _ :: _ => rfl
  | _ :: _, [] => rfl
  | i :: a, j :: b => by
    show (eqD (tN i) (tN j) && eqDs (a.map tN) (b.map tN)) = _
    rw [eqD_tN, eqDs_tN a b]
    rfl
theorem any_nI (i : Nat) (l : List Nat) : ((l.map nI).any fun z => eqD z (nI i)) = l.contains i := by
  induction l with
  | nil => rfl
  | cons a l ih =>
    rw [List.map_cons, List.any_cons, ih, eqD_nI, List.contains_cons]
    rw [show (a == i) = (i == a) from by rw [Bool.eq_iff_iff, beq_iff_eq, beq_iff_eq]; exact eq_comm]
theorem in_tN (i : Nat) (l : List Nat) : cmpD .isIn (nI i) (tN l) = some (l.contains i) := by
  show (if dle 60 (nI i) && dles 60 (l.map nI) then some ((l.map nI).any fun z => eqD z (nI i)) else none) = _
  rw [any_nI, dle_int, dles_nI]
  rfl
theorem notin_tN (i : Nat) (l : List Nat) : cmpD .notIn (nI i) (tN l) = some (!l.contains i) := by
  show (if dle 60 (nI i) && dles 60 (l.map nI) then some (!(l.map nI).any fun z => eqD z (nI i)) else none) = _
  rw [any_nI, dle_int, dles_nI]
  rfl
theorem cmp_tN (a b : List Nat) : cmpD .ne (tN a) (tN b) = some (!(a == b)) := by
  have h1 := dle_tN 59 a
  have h2 := dle_tN 59 b
  simp only [cmpD, h1, h2, Bool.and_self, if_true, eqD_tN]
theorem cmpE_tN (a b : List Nat) : cmpD .eq (tN a) (tN b) = some (a == b) := by
  have h1 := dle_tN 59 a
  have h2 := dle_tN 59 b
  simp only [cmpD, h1, h2, Bool.and_self, if_true, eqD_tN]
theorem cmp_lT (a b : List (List Nat)) : cmpD .ne (.lst (a.map tN)) (.lst (b.map tN)) = some (!(a == b)) := by
  have h1 := dle_lT 58 a
  have h2 := dle_lT 58 b
  simp only [cmpD, h1, h2, Bool.and_self, if_true, eqD, eqDs_tN]
theorem cmpE_lT (a b : List (List Nat)) : cmpD .eq (.lst (a.map tN)) (.lst (b.map tN)) = some (a == b) := by
  have h1 := dle_lT 58 a
  have h2 := dle_lT 58 b
  simp only [cmpD, h1, h2, Bool.and_self, if_true, eqD, eqDs_tN]
theorem ixN_last (n : Nat) : L2.ixN (n + 1) (-1) = some n := by
  unfold L2.ixN
  have h : (-1 : Int) + ((n + 1 : Nat) : Int) = (n : Int) := by omega
  simp only [h]
  split <;> first | (rename_i q; omega) | skip
  all_goals first | rfl | (split <;> first | rfl | omega) | skip
theorem atI_last {α : Type} (l : List α) (x : α) : L2.atI (l ++ [x]) (-1) = some x := by
  have e : L2.ixN (l ++ [x]).length (-1) = some l.length := by rw [List.length_append]; exact ixN_last _
  unfold L2.atI
  rw [e]
  simp
theorem set_last {α : Type} (l : List α) (x y : α) : (l ++ [x]).set l.length y = l ++ [y] := by
  induction l with
  | nil => rfl
  | cons a l ih => simp [ih]
/-- loops over a row, with what is so far -/
theorem for_var {set : DEnv → D → Option DEnv} {body : DEnv → R Out} {α β : Type} (enc : α → Option β → DEnv) (dec : β → D) (g : α → β → α) (I : Nat → α → Prop) (N : Nat) :
    ∀ (bs : List β) (i : Nat) (a : α) (j : Option β), i + bs.length = N → I i a → (∀ (i : Nat) (a : α) (j : Option β) (b : β), i < N → I i a → b ∈ bs → I (i + 1) (g a b) ∧ ∃ s1, set (enc a j) (dec b) = some s1 ∧ body s1 = .ok (.next (enc (g a b) (some b)))) →
    ∃ j', forLoop set body (bs.map dec) (enc a j) = .ok (.next (enc (bs.foldl g a) j')) ∧ I N (bs.foldl g a)
  | [], i, a, j, hN, h0, _ => ⟨j, rfl, by simp at hN; subst hN; exact h0⟩
  | b :: bs, i, a, j, hN, h0, h => by
    simp only [List.length_cons] at hN
    obtain ⟨hi, s1, h1, h2⟩ := h i a j b (by omega) h0 List.mem_cons_self
    simp only [List.map_cons, forLoop, h1, R.ofO_some, R.bindOk, h2, List.foldl_cons]
    exact for_var enc dec g I N bs (i + 1) (g a b) (some b) (by omega) hi fun i a j c hi hI hc => h i a j c hi hI (List.mem_cons_of_mem _ hc)
def subs : List Nat → List (List Nat)
  | [] => [[]]
  | a :: l => (subs l) ++ (subs l).map (a :: ·)
theorem mem_subs : ∀ {a l : List Nat}, a.Sublist l → a ∈ subs l
  | _, [], h => by cases h; simp [subs]
  | _, b :: l, h => by
    simp only [subs, List.mem_append, List.mem_map]
    cases h with
    | cons _ h => exact .inl (mem_subs h)
    | cons_cons _ h => exact .inr ⟨_, mem_subs h, rfl⟩
theorem sub_rng {m : Nat} {l : List D} (h : l.Sublist (rngD 0 m)) : ∃ k : List Nat, l = k.map nI ∧ k.Sublist (List.range m) := by
  have e : rngD 0 m = (List.range m).map nI := by
    unfold rngD
    simp
  rw [e] at h
  obtain ⟨k, h1, h2⟩ := List.sublist_map_iff.mp h
  exact ⟨k, h2, h1⟩
/-! ### what each form means, one by one -/
section
variable {C : Cal} {s : DEnv}
@[simp] theorem dE_var {i : Nat} : denE C (.var i) s = (match s[i]? with
    | some (some (.val d)) => .ok (.val d, s)
    | some (some (.own _)) => .ok (.slot i, s)
    | some (some (.io _)) => .ok (.slot i, s)
    | _ => .bad) := by simp only [denE] <;> rfl
@[simp] theorem dE_cst {d : D} : denE C (.cst d) s = .ok (.val d, s) := by simp only [denE]
@[simp] theorem dE_glob {x : String} {d : D} : denE C (.glob x d) s = .ok (.val d, s) := by simp only [denE]
@[simp] theorem dE_tup {es : List IE} : denE C (.tup es) s = (denEs C es s).bind fun r => .ok (.val (.tup r.1), r.2) := by simp only [denE]
@[simp] theorem dE_lst {es : List IE} : denE C (.lst es) s = (denEs C es s).bind fun r => .ok (.fresh r.1, r.2) := by simp only [denE]
@[simp] theorem dE_bin {op : Bop} {a b : IE} : denE C (.bin op a b) s = (denE C a s).bind fun x => (denE C b x.2).bind fun y => (R.ofO (deref y.2 x.1)).bind fun u => (R.ofO (deref y.2 y.1)).bind fun v => (R.ofO (binD op u v)).bind fun r => .ok (r, y.2) := by simp only [denE]
@[simp] theorem dE_neg1 {i : Int} : denE C (.neg (.cst (.int i))) s = .ok (.val (.int (-i)), s) := by simp [denE]
@[simp] theorem dE_cmp {op : Cop} {a b : IE} : denE C (.cmp op a b) s = (denE C a s).bind fun x => (denE C b x.2).bind fun y => (R.ofO (deref y.2 x.1)).bind fun u => (R.ofO (deref y.2 y.1)).bind fun v => (R.ofO (cmpD op u v)).bind fun r => .ok (.val (.bl r), y.2) := by simp only [denE]
@[simp] theorem dE_chain {o1 o2 : Cop} {a b c : IE} : denE C (.chain o1 o2 a b c) s = (denE C a s).bind fun x => (denE C b x.2).bind fun y => (R.ofO (deref y.2 x.1)).bind fun u => (R.ofO (deref y.2 y.1)).bind fun v => (R.ofO (cmpD o1 u v)).bind fun r =>
      if r then (denE C c y.2).bind fun z => (R.ofO (deref z.2 y.1)).bind fun v => (R.ofO (deref z.2 z.1)).bind fun w => (R.ofO (cmpD o2 v w)).bind fun r => .ok (.val (.bl r), z.2) else .ok (.val (.bl false), y.2) := by simp only [denE]
@[simp] theorem dE_and {a b : IE} : denE C (.and_ a b) s = (denE C a s).bind fun x => (R.ofO (deref x.2 x.1)).bind fun u => (R.ofO (truD u)).bind fun t => if t then denE C b x.2 else .ok (x.1, x.2) := by simp only [denE]
@[simp] theorem dE_or {a b : IE} : denE C (.or_ a b) s = (denE C a s).bind fun x => (R.ofO (deref x.2 x.1)).bind fun u => (R.ofO (truD u)).bind fun t => if t then .ok (x.1, x.2) else denE C b x.2 := by simp only [denE]
@[simp] theorem dE_not {a : IE} : denE C (.not_ a) s = (denE C a s).bind fun x => (R.ofO (deref x.2 x.1)).bind fun u => (R.ofO (truD u)).bind fun t => .ok (.val (.bl (!t)), x.2) := by simp only [denE]
@[simp] theorem dE_ite {c a b : IE} : denE C (.ite c a b) s = (denE C c s).bind fun x => (R.ofO (deref x.2 x.1)).bind fun u => (R.ofO (truD u)).bind fun t => if t then denE C a x.2 else denE C b x.2 := by simp only [denE]
@[simp] theorem dE_idx {a b : IE} : denE C (.idx a b) s = (denE C a s).bind fun x => (denE C b x.2).bind fun y => (R.ofO (deref y.2 x.1)).bind fun u => (R.ofO (deref y.2 y.1)).bind fun v => (R.ofO (idxD u v)).bind fun r => .ok (.val r, y.2) := by simp only [denE]
@[simp] theorem dE_slc {a lo hi : IE} {l h : Bool} : denE C (.slc a l h lo hi) s = (denE C a s).bind fun x => (if l then denE C lo x.2 else .ok (.val .non, x.2)).bind fun y => (R.ofO (deref y.2 y.1)).bind fun u => (R.ofO (optI l u)).bind fun i =>
      (if h then denE C hi y.2 else .ok (.val .non, y.2)).bind fun z => (R.ofO (deref z.2 z.1)).bind fun v => (R.ofO (optI h v)).bind fun j =>
      (R.ofO (deref z.2 x.1)).bind fun w => (R.ofO (slcD i j w)).bind fun r => .ok (r, z.2) := by simp only [denE]
@[simp] theorem dE_isi {a : IE} {ty : String} : denE C (.isi a ty) s = (denE C a s).bind fun x => (R.ofO (deref x.2 x.1)).bind fun u => (R.ofO (isiD ty u)).bind fun r => .ok (.val (.bl r), x.2) := by simp only [denE]
@[simp] theorem dE_call {f : String} {es : List IE} : denE C (.call f es) s = if C.io f then .bad else (denEs C es s).bind fun r => (C.call f (r.1.map .val)).bind fun q => .ok (q.1, r.2) := by simp only [denE]
@[simp] theorem dE_callIo {f : String} {i : Nat} {es : List IE} : denE C (.callIo f i es) s = if C.io f then (R.ofO (ownAt s i)).bind fun _ => (denEs C es s).bind fun r => (R.ofO (ownAt r.2 i)).bind fun ds => (C.call f (.io ds :: r.1.map .val)).bind fun q => .ok (q.1, ownPut r.2 i q.2) else .bad := by simp only [denE]
@[simp] theorem dE_blt {f : String} {es : List IE} : denE C (.blt f es) s = (denOs C es s).bind fun r => (R.ofO (derefs r.2 r.1)).bind fun ds => (R.ofO (bltD f ds)).bind fun q => .ok (q, r.2) := by simp only [denE]
@[simp] theorem dE_rng1 {tp : Bool} {a b : IE} : denE C (.rngOf tp false a b) s = (denE C a s).bind fun x => (R.ofO (deref x.2 x.1)).bind fun u => (R.ofO (itemsD .rng1 u u)).bind fun ds => .ok (if tp then .val (.tup ds) else .fresh ds, x.2) := by
  simp only [denE, Bool.false_eq_true, if_false]
  cases denE C a s with
  | ok x =>
    simp only [R.bindOk]
    cases deref x.2 x.1 <;> rfl
  | exn c => rfl
  | bad => rfl
@[simp] theorem dE_meth {m : Mth} {i : Nat} {es : List IE} : denE C (.meth m i es) s = (R.ofO (ownAt s i)).bind fun _ => (denEs C es s).bind fun q => (R.ofO (ownAt q.2 i)).bind fun ds => (R.ofO (methD m ds q.1)).bind fun w => .ok (.val w.1, ownPut q.2 i w.2) := by simp only [denE]
@[simp] theorem dOs_nil : denOs C [] s = .ok ([], s) := by simp only [denOs]
@[simp] theorem dOs_cons {e : IE} {es : List IE} : denOs C (e :: es) s = (denE C e s).bind fun x => (denOs C es x.2).bind fun r => .ok (x.1 :: r.1, r.2) := by simp only [denOs]
@[simp] theorem dEs_nil : denEs C [] s = .ok ([], s) := by simp only [denEs]
@[simp] theorem dEs_cons {e : IE} {es : List IE} : denEs C (e :: es) s = (denE C e s).bind fun x => (R.ofO (esc x.2 x.1)).bind fun q => (denEs C es q.2).bind fun r => .ok (q.1 :: r.1, r.2) := by simp only [denEs]
def bodyF (C : Cal) (body : List IS) (s : DEnv) : R Out := denSs C body s
def testF (C : Cal) (e : IE) (s : DEnv) : R (Bool × DEnv) := denT C e s
def setF (tg : Tgt) (s : DEnv) (d : D) : Option DEnv := setT s tg d
@[simp] theorem dS_asg {i : Nat} {e : IE} : denS C (.asg (.name i) e) s = (denE C e s).bind fun x => (R.ofO (asgO x.2 i x.1)).bind fun s1 => .ok (.next s1) := by simp only [denS]
@[simp] theorem dS_asgT {is : List Nat} {e : IE} : denS C (.asg (.tup is) e) s = (denE C e s).bind fun x => (R.ofO (deref x.2 x.1)).bind fun d => (R.ofO (setT x.2 (.tup is) d)).bind fun s1 => .ok (.next s1) := by simp only [denS]
@[simp] theorem dS_sub {i : Nat} {ix e : IE} : denS C (.sub i ix e) s = (denE C e s).bind fun x => (R.ofO (esc x.2 x.1)).bind fun r => (R.ofO (ownAt r.2 i)).bind fun _ => (denE C ix r.2).bind fun y => (R.ofO (deref y.2 y.1)).bind fun k => (R.ofO (ownAt y.2 i)).bind fun ds => match k with
    | .int k => (R.ofO (L2.ixN ds.length k)).bind fun j => .ok (.next (ownPut y.2 i (ds.set j r.1)))
    | _ => .bad := by simp only [denS] <;> rfl
@[simp] theorem dS_expr {e : IE} : denS C (.expr e) s = (denE C e s).bind fun x => .ok (.next x.2) := by simp only [denS]
@[simp] theorem dS_ret {e : IE} : denS C (.ret e) s = (denE C e s).bind fun x => .ok (.ret x.1 x.2) := by simp only [denS]
@[simp] theorem dS_retN : denS C .retN s = .ok (.ret (.val .non) s) := by simp only [denS]
@[simp] theorem dS_if {c : IE} {a b : List IS} : denS C (.ife c a b) s = (denE C c s).bind fun x => (R.ofO (deref x.2 x.1)).bind fun u => (R.ofO (truD u)).bind fun t => if t then denSs C a x.2 else denSs C b x.2 := by
  simp only [denS, denT, tstR]
  cases denE C c s with
  | ok x =>
    simp only [R.bindOk]
    cases deref x.2 x.1 with
    | none => rfl
    | some u =>
      simp only [R.ofO_some, R.bindOk]
      cases truD u <;> rfl
  | exn c => rfl
  | bad => rfl
@[simp] theorem dS_for {k : ItK} {e1 e2 : IE} {tg : Tgt} {body : List IS} : denS C (.for_ k e1 e2 tg body) s = (itR k (denE C e1) (denE C e2) s).bind fun it => forLoop (setF tg) (bodyF C body) it.1 it.2 := by
  simp only [denS, denI]
  rfl
@[simp] theorem dS_par {i j : Nat} {a b : IE} : denS C (.par i j a b) s = if i = j then .bad else (denE C a s).bind fun x => (denE C b x.2).bind fun y => match x.1, y.1 with
    | .slot _, _ => .bad
    | _, .slot _ => .bad
    | u, v => (R.ofO (asgO y.2 i u)).bind fun s1 => (R.ofO (asgO s1 j v)).bind fun s2 => .ok (.next s2) := by simp only [denS] <;> rfl
@[simp] theorem dS_raise {c : String} : denS C (.raise c) s = .exn c := by simp only [denS]
@[simp] theorem dS_pass : denS C .pass s = .ok (.next s) := by simp only [denS]
@[simp] theorem dS_cont : denS C .cont s = .ok (.cont s) := by simp only [denS]
@[simp] theorem dS_brk : denS C .brk s = .ok (.brk s) := by simp only [denS]
@[simp] theorem dSs_nil : denSs C [] s = .ok (.next s) := by simp only [denSs]
@[simp] theorem dSs_cons {st : IS} {r : List IS} : denSs C (st :: r) s = (denS C st s).bind fun o => match o with
    | .next s1 => denSs C r s1
    | o => .ok o := by simp only [denSs] <;> rfl
@[simp] theorem itr_seq {m1 m2 : DEnv → R (Opd × DEnv)} : itR .seq m1 m2 s = (m1 s).bind fun x => (R.ofO (esc x.2 x.1)).bind fun r => (R.ofO (itemsD .seq r.1 .non)).bind fun ds => .ok (ds, r.2) := Eq.trans rfl rfl
@[simp] theorem itr_rng1 {m1 m2 : DEnv → R (Opd × DEnv)} : itR .rng1 m1 m2 s = (m1 s).bind fun x => (R.ofO (esc x.2 x.1)).bind fun r => (R.ofO (itemsD .rng1 r.1 .non)).bind fun ds => .ok (ds, r.2) := Eq.trans rfl rfl
@[simp] theorem itr_enum {m1 m2 : DEnv → R (Opd × DEnv)} : itR .enum m1 m2 s = (m1 s).bind fun x => (R.ofO (esc x.2 x.1)).bind fun r => (R.ofO (itemsD .enum r.1 .non)).bind fun ds => .ok (ds, r.2) := Eq.trans rfl rfl
@[simp] theorem itr_rng2 {m1 m2 : DEnv → R (Opd × DEnv)} : itR .rng2 m1 m2 s = (m1 s).bind fun x => (m2 x.2).bind fun y => (R.ofO (deref y.2 x.1)).bind fun u => (R.ofO (deref y.2 y.1)).bind fun v => (R.ofO (itemsD .rng2 u v)).bind fun ds => .ok (ds, y.2) := Eq.trans rfl rfl
@[simp] theorem items_tup {ds : List D} : itemsD .seq (.tup ds) .non = some ds := Eq.trans rfl rfl
@[simp] theorem items_lst {ds : List D} : itemsD .seq (.lst ds) .non = some ds := Eq.trans rfl rfl
theorem itm_rng1 {d : D} {m : Nat} (h : m ≤ 1000) : itemsD .rng1 (.int m) d = some ((List.range m).map nI) := by
  have e : rngD 0 m = (List.range m).map nI := by
    unfold rngD
    simp
  have h2 : rngOk 0 (m : Int) = true := by
    simp [rngOk, lim]; omega
  show (if rngOk 0 (m : Int) then some (rngD 0 m) else none) = _
  rw [h2, e]
  rfl
@[simp] theorem derefs_nil : derefs s [] = some [] := Eq.trans rfl rfl
@[simp] theorem derefs_val {d : D} {os : List Opd} {ds : List D} (h : derefs s os = some ds) : derefs s (.val d :: os) = some (d :: ds) := by simp [derefs, h]
@[simp] theorem derefs_fresh {d : List D} {os : List Opd} {ds : List D} (h : derefs s os = some ds) : derefs s (.fresh d :: os) = some (.lst d :: ds) := by simp [derefs, h]
end
/-- a call of a def that has no in-out parameter, all parameters values -/
theorem run_val {C : Cal} {fd : FD} {args : List D} {P : Opd × List D → Prop} (hl : args.length = fd.np) (hio : fd.io = false) (h : Ok (denSs C fd.body (args.map (fun d => some (.val d)) ++ List.replicate (fd.ns - args.length) none)) fun o => match o with
    | .ret v s => ∃ r, leaveO s v = some r ∧ P (r, [])
    | .next s => P (.val .non, [])
    | _ => False) : Ok (runF C fd (args.map .val)) P := by
  have ha : argsOk fd.io (args.map S.val) = true := by
    rw [hio]
    cases args with
    | nil => rfl
    | cons a r => simp [argsOk, S.isVal]
  unfold runF
  rw [if_pos ⟨by simpa using hl, ha⟩]
  refine Ok.bind ?_
  have e : startD fd (args.map S.val) = args.map (fun d => some (.val d)) ++ List.replicate (fd.ns - args.length) none := by simp [startD]
  rw [e]
  refine h.imp fun o ho => ?_
  cases o with
  | ret v s =>
    obtain ⟨r, h1, h2⟩ := ho
    simp [leaveD, h1, hio]
    exact h2
  | next s =>
    simp [leaveD, leaveO, hio]
    exact ho
  | brk _ => exact ho.elim
  | cont _ => exact ho.elim
/-! ### slots that may be set -/
def nio : Option S → Bool
  | some (.io _) => false
  | _ => true
@[simp] theorem nio_none : nio none = true := Eq.trans rfl rfl
@[simp] theorem nio_val {d : D} : nio (some (.val d)) = true := Eq.trans rfl rfl
@[simp] theorem nio_own {d : List D} : nio (some (.own d)) = true := Eq.trans rfl rfl
def nioAt : DEnv → Nat → Bool
  | [], _ => false
  | x :: _, 0 => nio x
  | _ :: r, n + 1 => nioAt r n
@[simp] theorem nioAt_zero {x : Option S} {r : DEnv} : nioAt (x :: r) 0 = nio x := Eq.trans rfl rfl
@[simp] theorem nioAt_succ {x : Option S} {r : DEnv} {n : Nat} : nioAt (x :: r) (n + 1) = nioAt r n := Eq.trans rfl rfl
theorem setN_aux : ∀ (s : DEnv) (i : Nat) (e : DEnv), nioAt s i = true → i < s.length ∧ (match s[i]? with
    | some (some (.io _)) => none
    | _ => some e) = some e
  | [], _, _, h => by cases h
  | x :: r, 0, e, h => by
    refine ⟨by simp, ?_⟩
    rw [nioAt_zero] at h
    cases x with
    | none => rfl
    | some y => cases y <;> first | rfl | cases h
  | x :: r, n + 1, e, h => by
    obtain ⟨h1, h2⟩ := setN_aux r n e h
    exact ⟨by simpa using h1, by simpa using h2⟩
theorem setN_go {s : DEnv} {i : Nat} {v : S} (h : nioAt s i = true) : setN s i v = some (s.set i (some v)) := by
  obtain ⟨h1, h2⟩ := setN_aux s i (s.set i (some v)) h
  unfold setN
  rw [if_pos h1]
  exact h2
@[simp] theorem setN_succ {x : Option S} {r : DEnv} {n : Nat} {v : S} : setN (x :: r) (n + 1) v = (setN r n v).map (x :: ·) := by
  unfold setN
  by_cases h : n < r.length
  · rw [if_pos (by simpa using h), if_pos h, List.getElem?_cons_succ]
    split <;> simp_all
  · rw [if_neg (by simpa using h), if_neg h]
    rfl
@[simp] theorem setN_val0 {d : D} {r : DEnv} {v : S} : setN (some (.val d) :: r) 0 v = some (some v :: r) := Eq.trans rfl rfl
@[simp] theorem setN_own0 {d : List D} {r : DEnv} {v : S} : setN (some (.own d) :: r) 0 v = some (some v :: r) := Eq.trans rfl rfl
@[simp] theorem setN_none0 {r : DEnv} {v : S} : setN (none :: r) 0 v = some (some v :: r) := Eq.trans rfl rfl
theorem setN_nio {x : Option S} {r : DEnv} {v : S} (h : nio x = true) : setN (x :: r) 0 v = some (some v :: r) := setN_go (s := x :: r) (i := 0) h
@[simp] theorem asgO_val {s : DEnv} {i : Nat} {d : D} : asgO s i (.val d) = setN s i (.val d) := Eq.trans rfl rfl
@[simp] theorem asgO_fresh {s : DEnv} {i : Nat} {d : List D} : asgO s i (.fresh d) = setN s i (.own d) := Eq.trans rfl rfl
@[simp] theorem setF_name {s : DEnv} {i : Nat} {d : D} : setF (.name i) s d = setN s i (.val d) := Eq.trans rfl rfl
theorem dE_extend {C : Cal} {s s1 : DEnv} {i : Nat} {e : IE} {ds0 ds zs : List D} (h0 : ownAt s i = some ds0) (h1 : denE C e s = .ok (.fresh zs, s1)) (h2 : ownAt s1 i = some ds) (h3 : ds.length + zs.length ≤ lim) : denE C (.extend i e) s = .ok (.val .non, ownPut s1 i (ds ++ zs)) := by
  simp only [denE, h0, h1, h2, R.ofO_some, R.bindOk, deref_fresh, h3, if_true]
theorem itm_rng2 {a b : Nat} (h : a ≤ 1000) (h2 : b ≤ 1000) : itemsD .rng2 (.int a) (.int b) = some (((List.range (b - a)).map (a + ·)).map nI) := by
  have e : rngD a b = ((List.range (b - a)).map (a + ·)).map nI := by
    unfold rngD
    rw [List.map_map, show ((b : Int) - (a : Int)).toNat = b - a by omega]
    apply List.map_congr_left
    intro i _
    simp
  have h3 : rngOk a (b : Int) = true := by
    simp [rngOk, lim]; omega
  show (if rngOk (a : Int) (b : Int) then some (rngD a b) else none) = _
  rw [h3, e]
  rfl
/-- a loop that may return at an item -/
theorem for_find {set : DEnv → D → Option DEnv} {body : DEnv → R Out} {β : Type} (I : DEnv → Prop) (dec : β → D) (p : β → Bool) (v : Opd) : ∀ (bs : List β) (s : DEnv), I s →
    (∀ (s : DEnv) (b : β), b ∈ bs → I s → ∃ s1, set s (dec b) = some s1 ∧ ((p b = true ∧ ∃ s2, body s1 = .ok (.ret v s2)) ∨ (p b = false ∧ ∃ s2, body s1 = .ok (.next s2) ∧ I s2))) →
    (bs.any p = true ∧ ∃ s', forLoop set body (bs.map dec) s = .ok (.ret v s')) ∨ (bs.any p = false ∧ ∃ s', forLoop set body (bs.map dec) s = .ok (.next s') ∧ I s')
  | [], s, h0, _ => .inr ⟨rfl, s, rfl, h0⟩
  | b :: bs, s, h0, h => by
    obtain ⟨s1, h1, ⟨hp, s2, h2⟩ | ⟨hp, s2, h2, h3⟩⟩ := h s b List.mem_cons_self h0
    · refine .inl ⟨by simp [hp], s2, ?_⟩
      simp only [List.map_cons, forLoop, h1, R.ofO_some, R.bindOk, h2]
    · rcases for_find I dec p v bs s2 h3 fun s c hc => h s c (List.mem_cons_of_mem _ hc) with ⟨g1, s', g2⟩ | ⟨g1, s', g2, g3⟩
      · refine .inl ⟨by simp [g1], s', ?_⟩
        simp only [List.map_cons, forLoop, h1, R.ofO_some, R.bindOk, h2, g2]
      · refine .inr ⟨by rw [List.any_cons, hp, g1]; rfl, s', ?_, g3⟩
        simp only [List.map_cons, forLoop, h1, R.ofO_some, R.bindOk, h2, g2]
def enumN : Nat → List Nat → List (Nat × Nat)
  | _, [] => []
  | i, a :: r => (i, a) :: enumN (i + 1) r
abbrev dec2 (p : Nat × Nat) : D := .tup [nI p.1, nI p.2]
theorem enumD_nI : ∀ (i : Nat) (l : List Nat), enumD i (l.map nI) = (enumN i l).map dec2
  | _, [] => rfl
  | i, a :: r => by
    simp only [List.map_cons, enumD, enumN, enumD_nI (i + 1) r]
theorem cut_take (ds : List D) (i : Nat) : cutD ds none (some (i : Int)) = ds.take i := by
  unfold cutD
  rw [HT.sIx_none, HT.sIx_nat]
  simp
theorem cut_init (ds : List D) (x : D) : cutD (ds ++ [x]) none (some (-1)) = ds := by
  unfold cutD
  rw [HT.sIx_none]
  have : HT.sIx (ds ++ [x]).length (ds ++ [x]).length (some (-1)) = ds.length := by
    unfold HT.sIx
    simp
    omega
  rw [this]
  simp
/-- the calls of a table -/
theorem callF_run {T : Tab} {n : Nat} {f : String} {fd : FD} {args : List S} (h : T.lookup f = some fd) : callF T (n + 1) f args = runF (calT T n) fd args := by
  simp only [callF, h]
end Cv
set_option maxHeartbeats 4000000
set_option autoImplicit true
namespace Law
open PySem PySem.Spec L2 Cv PyProof.Rows
def top (i : Nat) : Stmt := PySem.Challenge.pw_curvefaces_k06_whole_gaps.main.body.getD i (.Pass ⟨0, 0, 0, 0⟩)
def d_is_from : FD := { np := 3, ns := 3, io := false, body := [
  .ret (.and_ (.isi (.var 0) "int") (.and_ (.not_ (.isi (.var 0) "bool")) (.chain .le .le (.var 1) (.var 0) (.var 2))))] }
def d_is_curve : FD := { np := 1, ns := 1, io := false, body := [
  .ife (.or_ (.not_ (.isi (.var 0) "tuple")) (.or_ (.cmp .ne (.blt "len" [(.var 0)]) (.cst (.int 2))) (.not_ (.call "is_from" [(.idx (.var 0) (.cst (.int 1))), (.cst (.int 1)), (.glob "MOST_DEEP" (.int 6))])))) [.ret (.cst (.bl false))] [],
  .ret (.call "is_from" [(.idx (.var 0) (.cst (.int 0))), (.bin .add (.idx (.var 0) (.cst (.int 1))) (.cst (.int 1))), (.glob "MOST_CORNERS" (.int 9))])] }
def d_need_curve : FD := { np := 1, ns := 1, io := false, body := [
  .ife (.not_ (.call "is_curve" [(.var 0)])) [.raise "NoCurve"] []] }
def d_is_rising : FD := { np := 1, ns := 2, io := false, body := [
  .ret (.blt "all" [(.comp .rng2 (.cst (.int 1)) (.blt "len" [(.var 0)]) (.name 1) false (.cst .non) (.cmp .lt (.idx (.var 0) (.bin .sub (.var 1) (.cst (.int 1)))) (.idx (.var 0) (.var 1))))])] }
def d_is_lot_of : FD := { np := 2, ns := 3, io := false, body := [
  .ife (.or_ (.not_ (.isi (.var 0) "tuple")) (.not_ (.blt "all" [(.comp .seq (.var 0) (.cst .non) (.name 2) false (.cst .non) (.call "is_from" [(.var 2), (.cst (.int 0)), (.bin .sub (.var 1) (.cst (.int 1)))]))]))) [.ret (.cst (.bl false))] [],
  .ret (.call "is_rising" [(.var 0)])] }
def d_is_lot : FD := { np := 2, ns := 2, io := false, body := [
  .expr (.call "need_curve" [(.var 1)]),
  .ret (.call "is_lot_of" [(.var 0), (.idx (.var 1) (.cst (.int 0)))])] }
def d_need_lot : FD := { np := 2, ns := 2, io := false, body := [
  .ife (.not_ (.call "is_lot" [(.var 1), (.var 0)])) [.raise "NoLot"] []] }
def d_blocks_of : FD := { np := 1, ns := 3, io := false, body := [
  .asg (.name 1) (.lst []),
  .for_ .seq (.var 0) (.cst .non) (.name 2) [.ife (.and_ (.cmp .ne (.var 1) (.lst [])) (.cmp .eq (.idx (.idx (.var 1) (.neg (.cst (.int 1)))) (.neg (.cst (.int 1)))) (.bin .sub (.var 2) (.cst (.int 1))))) [.sub 1 (.neg (.cst (.int 1))) (.bin .add (.idx (.var 1) (.neg (.cst (.int 1)))) (.tup [(.var 2)]))] [.expr (.meth .append 1 [(.tup [(.var 2)])])]],
  .ret (.var 1)] }
def d_blocks : FD := { np := 2, ns := 2, io := false, body := [
  .expr (.call "need_lot" [(.var 0), (.var 1)]),
  .ret (.call "blocks_of" [(.var 1)])] }
def d_odd_of : FD := { np := 2, ns := 4, io := false, body := [
  .asg (.name 2) (.comp .seq (.call "blocks_of" [(.var 1)]) (.cst .non) (.name 3) true (.and_ (.cmp .gt (.idx (.var 3) (.cst (.int 0))) (.cst (.int 0))) (.cmp .lt (.idx (.var 3) (.neg (.cst (.int 1)))) (.bin .sub (.var 0) (.cst (.int 1))))) (.var 3)),
  .ret (.blt "len" [(.comp .seq (.var 2) (.cst .non) (.name 3) true (.cmp .eq (.bin .mod (.blt "len" [(.var 3)]) (.cst (.int 2))) (.cst (.int 1))) (.var 3))])] }
def d_odd_inner : FD := { np := 2, ns := 2, io := false, body := [
  .expr (.call "need_lot" [(.var 0), (.var 1)]),
  .ret (.call "odd_of" [(.idx (.var 0) (.cst (.int 0))), (.var 1)])] }
def d_pane_of : FD := { np := 2, ns := 2, io := false, body := [
  .ret (.and_ (.cmp .eq (.blt "len" [(.var 1)]) (.idx (.var 0) (.cst (.int 1)))) (.cmp .eq (.call "odd_of" [(.idx (.var 0) (.cst (.int 0))), (.var 1)]) (.cst (.int 0))))] }
def d_face_of : FD := { np := 2, ns := 2, io := false, body := [
  .ret (.and_ (.cmp .le (.blt "len" [(.var 1)]) (.idx (.var 0) (.cst (.int 1)))) (.cmp .le (.call "odd_of" [(.idx (.var 0) (.cst (.int 0))), (.var 1)]) (.bin .sub (.idx (.var 0) (.cst (.int 1))) (.blt "len" [(.var 1)]))))] }
def d_is_pane : FD := { np := 2, ns := 2, io := false, body := [
  .expr (.call "need_curve" [(.var 1)]),
  .ret (.and_ (.call "is_lot_of" [(.var 0), (.idx (.var 1) (.cst (.int 0)))]) (.call "pane_of" [(.var 1), (.var 0)]))] }
def d_is_face : FD := { np := 2, ns := 2, io := false, body := [
  .expr (.call "need_curve" [(.var 1)]),
  .ret (.and_ (.call "is_lot_of" [(.var 0), (.idx (.var 1) (.cst (.int 0)))]) (.call "face_of" [(.var 1), (.var 0)]))] }
def d__law_box : FD := { np := 2, ns := 6, io := false, body := [
  .asg (.name 2) (.bin .add (.bin .mul (.cst (.int 7919)) (.var 1)) (.cst (.int 13))),
  .ife (.cmp .lt (.var 1) (.blt "len" [(.var 0)])) [.asg (.name 2) (.idx (.var 0) (.var 1))] [],
  .ife (.cmp .eq (.bin .mod (.var 2) (.cst (.int 2))) (.cst (.int 0))) [.ret (.lst [(.bin .fdiv (.var 2) (.cst (.int 2))), (.bin .mod (.blt "abs" [(.var 2)]) (.cst (.int 2147483647)))])] [],
  .asg (.name 3) (.cst (.int 0)),
  .for_ .rng1 (.cst (.int 16)) (.cst .non) (.name 4) [.asg (.name 5) (.bin .mod (.bin .add (.bin .add (.bin .mul (.bin .mod (.var 2) (.cst (.int 2147483647))) (.cst (.int 48271))) (.bin .mul (.cst (.int 7919)) (.var 4))) (.cst (.int 1))) (.cst (.int 2147483647))), .asg (.name 5) (.bin .mod (.bin .mul (.var 5) (.var 5)) (.cst (.int 2147483629))), .asg (.name 3) (.bin .add (.bin .mul (.var 3) (.cst (.int 2147483647))) (.bin .mod (.bin .mul (.var 5) (.bin .add (.var 5) (.cst (.int 13)))) (.cst (.int 2147483647))))],
  .ret (.lst [(.var 3), (.bin .mod (.blt "abs" [(.var 2)]) (.cst (.int 2147483647)))])] }
def d__law_more : FD := { np := 1, ns := 3, io := true, body := [
  .asg (.name 1) (.cst (.int 0)),
  .for_ .rng1 (.cst (.int 12)) (.cst .non) (.name 2) [.sub 0 (.cst (.int 1)) (.bin .mod (.bin .add (.bin .mul (.idx (.var 0) (.cst (.int 1))) (.cst (.int 48271))) (.cst (.int 30269))) (.cst (.int 2147483647))), .asg (.name 1) (.bin .add (.bin .mul (.var 1) (.cst (.int 65521))) (.bin .mod (.bin .fdiv (.idx (.var 0) (.cst (.int 1))) (.cst (.int 7))) (.cst (.int 65521))))],
  .ret (.var 1)] }
def d__law_take : FD := { np := 2, ns := 4, io := true, body := [
  .ife (.chain .le .lt (.cst (.int 0)) (.idx (.var 0) (.cst (.int 0))) (.var 1)) [.sub 0 (.cst (.int 0)) (.bin .add (.idx (.var 0) (.cst (.int 0))) (.bin .mul (.var 1) (.callIo "_law_more" 0 [])))] [],
  .asg (.tup [2, 3]) (.blt "divmod" [(.idx (.var 0) (.cst (.int 0))), (.var 1)]),
  .sub 0 (.cst (.int 0)) (.var 2),
  .ret (.var 3)] }
def d__law_curve : FD := { np := 1, ns := 2, io := true, body := [
  .asg (.name 1) (.bin .add (.cst (.int 1)) (.callIo "_law_take" 0 [(.cst (.int 6))])),
  .ret (.tup [(.bin .add (.bin .add (.var 1) (.cst (.int 1))) (.callIo "_law_take" 0 [(.bin .sub (.cst (.int 9)) (.var 1))])), (.var 1)])] }
def d__law_lots : FD := { np := 2, ns := 7, io := false, body := [
  .asg (.name 2) (.lst [(.tup [])]),
  .for_ .rng1 (.var 1) (.cst .non) (.name 3) [.asg (.name 4) (.lst []), .for_ .seq (.var 2) (.cst .non) (.name 5) [.asg (.name 4) (.bin .add (.var 4) (.comp .rng2 (.bin .add (.idx (.or_ (.var 5) (.tup [(.neg (.cst (.int 1)))])) (.neg (.cst (.int 1)))) (.cst (.int 1))) (.var 0) (.name 6) false (.cst .non) (.bin .add (.var 5) (.tup [(.var 6)]))))], .asg (.name 2) (.var 4)],
  .ret (.var 2)] }
def d__law_is_pane : FD := { np := 2, ns := 7, io := false, body := [
  .asg (.name 2) (.comp .rng1 (.idx (.var 0) (.cst (.int 0))) (.cst .non) (.name 6) true (.cmp .notIn (.var 6) (.var 1)) (.var 6)),
  .for_ .enum (.var 2) (.cst .non) (.tup [3, 4]) [.for_ .seq (.slc (.var 2) false true (.cst .non) (.var 3)) (.cst .non) (.name 5) [.ife (.cmp .eq (.bin .mod (.blt "len" [(.comp .seq (.var 1) (.cst .non) (.name 6) true (.chain .lt .lt (.var 5) (.var 6) (.var 4)) (.var 6))]) (.cst (.int 2))) (.cst (.int 1))) [.ret (.cst (.bl false))] []]],
  .ret (.cmp .eq (.blt "len" [(.var 1)]) (.idx (.var 0) (.cst (.int 1))))] }
def d__law_panes : FD := { np := 1, ns := 2, io := false, body := [
  .ret (.comp .seq (.call "_law_lots" [(.idx (.var 0) (.cst (.int 0))), (.idx (.var 0) (.cst (.int 1)))]) (.cst .non) (.name 1) true (.call "_law_is_pane" [(.var 0), (.var 1)]) (.var 1))] }
def d__law_has : FD := { np := 2, ns := 3, io := false, body := [
  .ret (.cmp .eq (.comp .seq (.var 1) (.cst .non) (.name 2) true (.cmp .notIn (.var 2) (.var 0)) (.var 2)) (.lst []))] }
def d_law : FD := { np := 1, ns := 12, io := false, body := [
  .for_ .rng1 (.blt "max" [(.cst (.int 1)), (.blt "min" [(.blt "len" [(.var 0)]), (.cst (.int 2))])]) (.cst .non) (.name 1) [.asg (.name 2) (.call "_law_box" [(.var 0), (.var 1)]), .asg (.name 3) (.callIo "_law_curve" 2 []), .asg (.name 4) (.call "_law_panes" [(.var 3)]), .for_ .rng1 (.bin .add (.idx (.var 3) (.cst (.int 0))) (.cst (.int 1))) (.cst .non) (.name 5) [.for_ .seq (.call "_law_lots" [(.idx (.var 3) (.cst (.int 0))), (.var 5)]) (.cst .non) (.name 6) [.asg (.name 7) (.cmp .ne (.comp .seq (.var 4) (.cst .non) (.name 11) true (.call "_law_has" [(.var 11), (.var 6)]) (.var 11)) (.lst [])), .ife (.or_ (.cmp .ne (.call "is_pane" [(.var 6), (.var 3)]) (.cmp .isIn (.var 6) (.var 4))) (.cmp .ne (.call "is_face" [(.var 6), (.var 3)]) (.var 7))) [.ret (.cst (.bl false))] [], .asg (.name 8) (.call "odd_inner" [(.var 3), (.var 6)]), .ife (.cmp .ne (.var 7) (.and_ (.cmp .le (.var 5) (.idx (.var 3) (.cst (.int 1)))) (.cmp .le (.var 8) (.bin .sub (.idx (.var 3) (.cst (.int 1))) (.var 5))))) [.ret (.cst (.bl false))] [], .asg (.name 9) (.comp .seq (.call "blocks" [(.var 3), (.var 6)]) (.cst .non) (.name 10) true (.and_ (.cmp .gt (.idx (.var 10) (.cst (.int 0))) (.cst (.int 0))) (.cmp .lt (.idx (.var 10) (.neg (.cst (.int 1)))) (.bin .sub (.idx (.var 3) (.cst (.int 0))) (.cst (.int 1))))) (.var 10)), .ife (.cmp .ne (.var 8) (.blt "sum" [(.comp .seq (.var 9) (.cst .non) (.name 10) false (.cst .non) (.bin .mod (.blt "len" [(.var 10)]) (.cst (.int 2))))])) [.ret (.cst (.bl false))] []]]],
  .ret (.cst (.bl true))] }
def T : Tab := [("is_from", d_is_from), ("is_curve", d_is_curve), ("need_curve", d_need_curve), ("is_rising", d_is_rising), ("is_lot_of", d_is_lot_of), ("is_lot", d_is_lot), ("need_lot", d_need_lot), ("blocks_of", d_blocks_of), ("blocks", d_blocks), ("odd_of", d_odd_of), ("odd_inner", d_odd_inner), ("pane_of", d_pane_of), ("face_of", d_face_of), ("is_pane", d_is_pane), ("is_face", d_is_face), ("_law_box", d__law_box), ("_law_more", d__law_more), ("_law_take", d__law_take), ("_law_curve", d__law_curve), ("_law_lots", d__law_lots), ("_law_is_pane", d__law_is_pane), ("_law_panes", d__law_panes), ("_law_has", d__law_has), ("law", d_law)]
def i_is_from : FnI := ⟨"is_from", top 7, [Str.ofString "thing", Str.ofString "least", Str.ofString "most"], [Str.ofString "thing", Str.ofString "least", Str.ofString "most"], d_is_from⟩
def i_is_curve : FnI := ⟨"is_curve", top 8, [Str.ofString "thing"], [Str.ofString "thing"], d_is_curve⟩
def i_need_curve : FnI := ⟨"need_curve", top 9, [Str.ofString "curve"], [Str.ofString "curve"], d_need_curve⟩
def i_is_rising : FnI := ⟨"is_rising", top 10, [Str.ofString "row", Str.ofString "at"], [Str.ofString "row"], d_is_rising⟩
def i_is_lot_of : FnI := ⟨"is_lot_of", top 11, [Str.ofString "thing", Str.ofString "many", Str.ofString "one"], [Str.ofString "thing", Str.ofString "many"], d_is_lot_of⟩
def i_is_lot : FnI := ⟨"is_lot", top 12, [Str.ofString "thing", Str.ofString "curve"], [Str.ofString "thing", Str.ofString "curve"], d_is_lot⟩
def i_need_lot : FnI := ⟨"need_lot", top 13, [Str.ofString "curve", Str.ofString "lot"], [Str.ofString "curve", Str.ofString "lot"], d_need_lot⟩
def i_blocks_of : FnI := ⟨"blocks_of", top 14, [Str.ofString "lot", Str.ofString "found", Str.ofString "corner"], [Str.ofString "lot"], d_blocks_of⟩
def i_blocks : FnI := ⟨"blocks", top 15, [Str.ofString "curve", Str.ofString "lot"], [Str.ofString "curve", Str.ofString "lot"], d_blocks⟩
def i_odd_of : FnI := ⟨"odd_of", top 16, [Str.ofString "many", Str.ofString "lot", Str.ofString "inner", Str.ofString "block"], [Str.ofString "many", Str.ofString "lot"], d_odd_of⟩
def i_odd_inner : FnI := ⟨"odd_inner", top 17, [Str.ofString "curve", Str.ofString "lot"], [Str.ofString "curve", Str.ofString "lot"], d_odd_inner⟩
def i_pane_of : FnI := ⟨"pane_of", top 18, [Str.ofString "curve", Str.ofString "lot"], [Str.ofString "curve", Str.ofString "lot"], d_pane_of⟩
def i_face_of : FnI := ⟨"face_of", top 19, [Str.ofString "curve", Str.ofString "lot"], [Str.ofString "curve", Str.ofString "lot"], d_face_of⟩
def i_is_pane : FnI := ⟨"is_pane", top 20, [Str.ofString "thing", Str.ofString "curve"], [Str.ofString "thing", Str.ofString "curve"], d_is_pane⟩
def i_is_face : FnI := ⟨"is_face", top 21, [Str.ofString "thing", Str.ofString "curve"], [Str.ofString "thing", Str.ofString "curve"], d_is_face⟩
def i__law_box : FnI := ⟨"_law_box", top 23, [Str.ofString "_law_script", Str.ofString "_law_k", Str.ofString "_law_here", Str.ofString "_law_number", Str.ofString "_law_j", Str.ofString "_law_part"], [Str.ofString "_law_script", Str.ofString "_law_k"], d__law_box⟩
def i__law_more : FnI := ⟨"_law_more", top 24, [Str.ofString "_law_box_here", Str.ofString "_law_number", Str.ofString "_law_j"], [Str.ofString "_law_box_here"], d__law_more⟩
def i__law_take : FnI := ⟨"_law_take", top 25, [Str.ofString "_law_box_here", Str.ofString "_law_wide", Str.ofString "_law_rest_of", Str.ofString "_law_digit"], [Str.ofString "_law_box_here", Str.ofString "_law_wide"], d__law_take⟩
def i__law_curve : FnI := ⟨"_law_curve", top 26, [Str.ofString "_law_box_here", Str.ofString "_law_deep"], [Str.ofString "_law_box_here"], d__law_curve⟩
def i__law_lots : FnI := ⟨"_law_lots", top 27, [Str.ofString "_law_many", Str.ofString "_law_size", Str.ofString "_law_found", Str.ofString "_law_turn", Str.ofString "_law_longer", Str.ofString "_law_lot", Str.ofString "_law_corner"], [Str.ofString "_law_many", Str.ofString "_law_size"], d__law_lots⟩
def i__law_is_pane : FnI := ⟨"_law_is_pane", top 28, [Str.ofString "_law_curve_here", Str.ofString "_law_lot", Str.ofString "_law_apart", Str.ofString "_law_place", Str.ofString "_law_one", Str.ofString "_law_other", Str.ofString "_law_corner"], [Str.ofString "_law_curve_here", Str.ofString "_law_lot"], d__law_is_pane⟩
def i__law_panes : FnI := ⟨"_law_panes", top 29, [Str.ofString "_law_curve_here", Str.ofString "_law_lot"], [Str.ofString "_law_curve_here"], d__law_panes⟩
def i__law_has : FnI := ⟨"_law_has", top 30, [Str.ofString "_law_pane", Str.ofString "_law_lot", Str.ofString "_law_corner"], [Str.ofString "_law_pane", Str.ofString "_law_lot"], d__law_has⟩
def i_law : FnI := ⟨"law", top 31, [Str.ofString "_law_script", Str.ofString "_law_k", Str.ofString "_law_box_here", Str.ofString "_law_curve_here", Str.ofString "_law_rows", Str.ofString "_law_size", Str.ofString "_law_lot", Str.ofString "_law_good", Str.ofString "_law_odd", Str.ofString "_law_own", Str.ofString "_law_block", Str.ofString "_law_pane"], [Str.ofString "_law_script"], d_law⟩
def Fs : List FnI := [i_is_from, i_is_curve, i_need_curve, i_is_rising, i_is_lot_of, i_is_lot, i_need_lot, i_blocks_of, i_blocks, i_odd_of, i_odd_inner, i_pane_of, i_face_of, i_is_pane, i_is_face, i__law_box, i__law_more, i__law_take, i__law_curve, i__law_lots, i__law_is_pane, i__law_panes, i__law_has, i_law]
def cs : List (String × D) := [("MOST_CORNERS", (.int 9)), ("MOST_DEEP", (.int 6))]
def rz : List String := ["NoCurve", "NoLot"]
def sta : Sta := ⟨cs, ["is_from", "is_curve", "need_curve", "is_rising", "is_lot_of", "is_lot", "need_lot", "blocks_of", "blocks", "odd_of", "odd_inner", "pane_of", "face_of", "is_pane", "is_face", "_law_box", "_law_more", "_law_take", "_law_curve", "_law_lots", "_law_is_pane", "_law_panes", "_law_has", "law"]⟩
theorem tab_eq : tabOf Fs = T := rfl
theorem sta_eq : (⟨cs, Fs.map (·.name)⟩ : Sta) = sta := rfl
end Law

namespace Law
open Cv
theorem sp_more (n : Nat) (a b : Int) : Ok (callF T (n + 1) "_law_more" [.io [.int a, .int b]]) fun r => ∃ v b' : Int, r = (.val (.int v), [.int a, .int b']) := by
  rw [callF_run (fd := d__law_more) rfl]
  have e1 : itemsD .rng1 (.int 12) .non = some (rngD 0 12) := rfl
  simp [runF, d__law_more, argsOk, startD, denSs, denS, denE, denI, itR, e1, asgO, setN, S.isVal]
  refine Ok.bind ?_
  refine Ok.bind ?_
  refine (for_ok (fun s => ∃ (v b' : Int) (j : Option D) , s = [some (.io [.int a, .int b']), some (.val (.int v)), sl j]) ⟨0, b, none, rfl⟩ (fun s d _ hI => ?_)).imp fun o ho => ?_
  · obtain ⟨v, b', j, rfl⟩ := hI
    refine ⟨_, by simp only [setT]; exact set2, ?_⟩
    simp [denSs, denS, denE, ownAt, ownPut, deref, idxD, atD, L2.atI, L2.ixN, binD, mulOk, asgO, setN]
    exact ⟨_, _, some d, rfl⟩
  · obtain ⟨s', rfl, v, b', j, rfl⟩ := ho
    simp [denSs, denS, denE, leaveD, leaveO, ioFin]
theorem sp_take (n : Nat) (a b w : Int) (h0 : 0 < w) (h1 : w < 1073741824) : Ok (callF T (n + 2) "_law_take" [.io [.int a, .int b], .val (.int w)]) fun r => ∃ v a' b' : Int, r = (.val (.int v), [.int a', .int b']) ∧ 0 ≤ v ∧ v < w := by
  rw [callF_run (fd := d__law_take) rfl]
  have ew : w.natAbs < 18446744073709551616 := by omega
  obtain ⟨_, hm, v, b', rfl⟩ := sp_more n a b
  have hio : ioOf T "_law_more" = true := rfl
  by_cases q : 0 ≤ a
  · by_cases q2 : a < w
    · simp [runF, d__law_take, argsOk, startD, S.isVal, denSs, denS, denT, tstR, denE, denEs, denOs, derefs, ownAt, ownPut, deref, idxD, atD, L2.atI, L2.ixN, q, q2, hio, hm, binD_mul' ew, divmod_ok h0 h1, setT, setNs, setN, leaveD, leaveO, ioFin]
      exact ⟨Int.emod_nonneg _ (by omega), Int.emod_lt_of_pos _ h0⟩
    · simp [runF, d__law_take, argsOk, startD, S.isVal, denSs, denS, denT, tstR, denE, denEs, denOs, derefs, ownAt, ownPut, deref, idxD, atD, L2.atI, L2.ixN, q, q2, hio, hm, binD_mul' ew, divmod_ok h0 h1, setT, setNs, setN, leaveD, leaveO, ioFin]
      exact ⟨Int.emod_nonneg _ (by omega), Int.emod_lt_of_pos _ h0⟩
  · simp [runF, d__law_take, argsOk, startD, S.isVal, denSs, denS, denT, tstR, denE, denEs, denOs, derefs, ownAt, ownPut, deref, idxD, atD, L2.atI, L2.ixN, q, hio, hm, binD_mul' ew, divmod_ok h0 h1, setT, setNs, setN, leaveD, leaveO, ioFin]
    exact ⟨Int.emod_nonneg _ (by omega), Int.emod_lt_of_pos _ h0⟩
theorem sp_curve (n : Nat) (a b : Int) : Ok (callF T (n + 3) "_law_curve" [.io [.int a, .int b]]) fun r => ∃ m d a' b' : Int, r = (.val (.tup [.int m, .int d]), [.int a', .int b']) ∧ 1 ≤ d ∧ d ≤ 6 ∧ d + 1 ≤ m ∧ m ≤ 9 := by
  rw [callF_run (fd := d__law_curve) rfl]
  obtain ⟨_, h1, d, a1, b1, rfl, h2, h3⟩ := sp_take n a b 6 (by omega) (by omega)
  obtain ⟨_, h4, e, a2, b2, rfl, h5, h6⟩ := sp_take n a1 b1 (9 - (1 + d)) (by omega) (by omega)
  simp [runF, d__law_curve, argsOk, startD, S.isVal, denSs, denS, denE, denEs, ownAt, ownPut, asgO, setN, show ioOf T "_law_take" = true from rfl, h1, h4, leaveD, leaveO, ioFin]
  exact ⟨_, _, ⟨rfl, rfl⟩, by omega, by omega, by omega, by omega⟩
theorem rng_mem {n : Int} {d : D} (h : d ∈ rngD 0 n) : ∃ i : Nat, d = .int i ∧ (i : Int) < n := by
  simp [rngD] at h
  obtain ⟨i, h1, rfl⟩ := h
  exact ⟨i, rfl, by omega⟩
theorem atI_nat {α : Type} {l : List α} {k : Nat} (h : k < l.length) : L2.atI l (k : Int) = some l[k] := by
  simp [L2.atI, L2.ixN, h]
theorem abs_if (x : Int) : bltD "abs" [.int x] = some (.val (.int (if x < 0 then -x else x))) := rfl
theorem box_rest (n : Nat) (ns : List Int) (k here : Int) : Ok (denSs (calT T n) (d__law_box.body.drop 2) [some (.val (.scr ns)), some (.val (.int k)), some (.val (.int here)), none, none, none]) fun o => ∃ (a b : Int) (s : DEnv), o = .ret (.fresh [.int a, .int b]) s := by
  have e1 : itemsD .rng1 (.int 16) .non = some (rngD 0 16) := rfl
  by_cases q : here % 2 = 0
  · simp [d__law_box, denSs, denS, denT, tstR, denE, denEs, denOs, derefs, binD_mod, binD_fdiv, binD_mul, binD_mul', q, abs_if]
  · simp [d__law_box, denSs, denS, denT, tstR, denE, denEs, denOs, derefs, binD_mod, binD_fdiv, binD_mul, binD_mul', q, abs_if, asgO, setN, denI, itR, e1]
    repeat (with_reducible refine Ok.bind ?_)
    refine (for_ok (fun s => ∃ (v : Int) (j p : Option D) , s = [some (.val (.scr ns)), some (.val (.int k)), some (.val (.int here)), some (.val (.int v)), sl j, sl p]) ⟨0, none, none, rfl⟩ (fun s d hd hI => ?_)).imp fun o ho => ?_
    · obtain ⟨v, j, p, rfl⟩ := hI
      obtain ⟨i, rfl, hi⟩ := rng_mem hd
      refine ⟨_, by simp only [setT]; exact set4, ?_⟩
      have m1 : ((here % 2147483647 * 48271 + 7919 * (i : Int) + 1) % 2147483647).natAbs < 18446744073709551616 := by omega
      have m2 : ∀ z : Int, (z % 2147483629).natAbs < 18446744073709551616 := fun z => by omega
      have e5 : ∀ (x : S) , setN [some (S.val (.scr ns)), some (.val (.int k)), some (.val (.int here)), some (.val (.int v)), some (S.val (D.int i)), sl p] 5 x = some [some (.val (.scr ns)), some (.val (.int k)), some (.val (.int here)), some (.val (.int v)), some (S.val (D.int i)), some x] := fun x => by
        cases p <;> simp [setN]
      simp [denE, binD_mod, binD_mul, binD_mul', m1, m2, e5, asgO]
      exact ⟨_, some _, some _, rfl⟩
    · obtain ⟨s', rfl, v, j, p, rfl⟩ := ho
      simp [denSs, denS, denE, denEs, denOs, derefs, binD_mod, binD_fdiv, abs_if]
theorem sp_box (n : Nat) (ns : List Int) (k : Nat) : Ok (callF T (n + 1) "_law_box" [.val (.scr ns), .val (.int k)]) fun r => ∃ a b : Int, r = (.fresh [.int a, .int b], []) := by
  rw [callF_run (fd := d__law_box) rfl]
  have sp : d__law_box.body = d__law_box.body.take 2 ++ d__law_box.body.drop 2 := (List.take_append_drop 2 _).symm
  have key : ∀ here : Int, denSs (calT T n) (d__law_box.body.take 2) [some (.val (.scr ns)), some (.val (.int k)), none, none, none, none] = .ok (.next [some (.val (.scr ns)), some (.val (.int k)), some (.val (.int here)), none, none, none]) →
      Ok (runF (calT T n) d__law_box [.val (.scr ns), .val (.int k)]) fun r => ∃ a b : Int, r = (.fresh [.int a, .int b], []) := fun here h => by
    obtain ⟨_, h2, a, b, s, rfl⟩ := box_rest n ns k here
    have h3 : denSs (calT T n) d__law_box.body (startD d__law_box [.val (.scr ns), .val (.int k)]) = .ok (.ret (.fresh [.int a, .int b]) s) := by
      rw [sp, show startD d__law_box [.val (.scr ns), .val (.int k)] = [some (.val (.scr ns)), some (.val (.int k)), none, none, none, none] from rfl, denSs_append _ _ _ _ h, h2]
    unfold runF
    rw [if_pos ⟨rfl, rfl⟩, h3]
    simp [leaveD, leaveO, d__law_box]
  by_cases q : k < ns.length
  · refine key ns[k] ?_
    simp [d__law_box, denSs, denS, denT, tstR, denE, denOs, derefs, bltD, idxD, atI_nat q, q, binD, mulOk, asgO, setN]
  · refine key (7919 * k + 13) ?_
    simp [d__law_box, denSs, denS, denT, tstR, denE, denOs, derefs, bltD, idxD, q, binD, mulOk, asgO, setN]
end Law
namespace Law
open Cv
theorem bls_true : ∀ (ds : List D), blsOf (ds.map fun _ => D.bl true) = some (ds.map fun _ => true)
  | [] => rfl
  | d :: ds => by simp [blsOf, bls_true ds]
theorem all_true (ds : List D) : bltD "all" [.lst (ds.map fun _ => D.bl true)] = some (.val (.bl true)) := by
  simp [bltD, bls_true]
theorem sp_is_from (n : Nat) (x l m : Int) : callF T (n + 1) "is_from" [.val (.int x), .val (.int l), .val (.int m)] = .ok (.val (.bl (decide (l ≤ x) && decide (x ≤ m))), []) := by
  rw [callF_run (fd := d_is_from) rfl]
  by_cases q : l ≤ x <;> simp [runF, d_is_from, argsOk, startD, S.isVal, denSs, denS, denE, isiD, leaveD, leaveO, q]
theorem sp_is_curve (n : Nat) (m d : Int) (h1 : 1 ≤ d) (h2 : d ≤ 6) (h3 : d + 1 ≤ m) (h4 : m ≤ 9) : callF T (n + 2) "is_curve" [.val (.tup [.int m, .int d])] = .ok (.val (.bl true), []) := by
  rw [callF_run (fd := d_is_curve) rfl]
  have hio : ioOf T "is_from" = false := rfl
  simp [runF, d_is_curve, argsOk, startD, S.isVal, denSs, denS, denE, denT, tstR, denEs, denOs, derefs, isiD, bltD, leaveD, leaveO, hio, idxD, atD, L2.atI, L2.ixN, sp_is_from, h1, h2, h3, h4]
theorem sp_need_curve (n : Nat) (m d : Int) (h1 : 1 ≤ d) (h2 : d ≤ 6) (h3 : d + 1 ≤ m) (h4 : m ≤ 9) : callF T (n + 3) "need_curve" [.val (.tup [.int m, .int d])] = .ok (.val .non, []) := by
  rw [callF_run (fd := d_need_curve) rfl]
  have hio : ioOf T "is_curve" = false := rfl
  simp [runF, d_need_curve, argsOk, startD, S.isVal, denSs, denS, denE, denT, tstR, denEs, leaveD, leaveO, hio, sp_is_curve n m d h1 h2 h3 h4]
end Law
namespace Law
open Cv
theorem sp_is_rising (n : Nat) (L : List Nat) (hl : L.length ≤ 100) (hp : L.Pairwise (· < ·)) : callF T (n + 1) "is_rising" [.val (tN L)] = .ok (.val (.bl true), []) := by
  rw [callF_run (fd := d_is_rising) rfl]
  have ei : itemsD .rng2 (.int 1) (.int L.length) = some (rngD 1 L.length) := by
    simp [itemsD, rngOk, lim]; omega
  have hc := comp_no (C := calT T n) (k := .rng2) (e1 := .cst (.int 1)) (e2 := .blt "len" [(.var 0)]) (c := .cst .non) (elt := .cmp .lt (.idx (.var 0) (.bin .sub (.var 1) (.cst (.int 1)))) (.idx (.var 0) (.var 1))) (v := 1) (s := [some (.val (tN L)), none]) (ds := rngD 1 L.length) (fun _ => D.bl true)
    (by simp [bltD, ei]) (by simp) (fun d hd => by
      simp [rngD] at hd
      obtain ⟨i, hi, rfl⟩ := hd
      have e1 : L2.atI (L.map nI) ((1 : Int) + (i : Int) - 1) = some (nI L[i]) := by
        rw [show (1 : Int) + (i : Int) - 1 = ((i : Nat) : Int) by omega, atI_nat (by simp; omega)]
        simp
      have e2 : L2.atI (L.map nI) ((1 : Int) + (i : Int)) = some (nI L[i + 1]) := by
        rw [show (1 : Int) + (i : Int) = ((i + 1 : Nat) : Int) by omega, atI_nat (by simp; omega)]
        simp
      have e3 : L[i] < L[i + 1] := List.pairwise_iff_getElem.mp hp i (i + 1) (by omega) (by omega) (by omega)
      simp [eltR, idxD, atD, e1, e2]
      exact e3)
  simp [runF, d_is_rising, argsOk, startD, S.isVal, hc, all_true, leaveD, leaveO]
theorem sp_is_lot_of (n m : Nat) (L : List Nat) (hl : L.length ≤ 100) (hp : L.Pairwise (· < ·)) (hm : ∀ x ∈ L, x < m) : callF T (n + 2) "is_lot_of" [.val (tN L), .val (.int m)] = .ok (.val (.bl true), []) := by
  rw [callF_run (fd := d_is_lot_of) rfl]
  have hio : ioOf T "is_from" = false := rfl
  have hio2 : ioOf T "is_rising" = false := rfl
  have hc := comp_no (C := calT T (n + 1)) (k := .seq) (e1 := .var 0) (e2 := .cst .non) (c := .cst .non) (elt := .call "is_from" [(.var 2), (.cst (.int 0)), (.bin .sub (.var 1) (.cst (.int 1)))]) (v := 2) (s := [some (.val (tN L)), some (.val (.int m)), none]) (ds := L.map nI) (fun _ => D.bl true)
    (by simp) (by simp) (fun d hd => by
      obtain ⟨x, hx, rfl⟩ := List.mem_map.mp hd
      have := hm x hx
      simp [eltR, hio, sp_is_from]
      omega)
  have ha := all_true (L.map nI)
  simp only [List.map_map] at hc ha
  simp [runF, d_is_lot_of, argsOk, startD, S.isVal, isiD, hc, ha, leaveD, leaveO, hio2, sp_is_rising n L hl hp]
end Law
namespace Law
open Cv
theorem sp_is_lot (n m : Nat) (d : Int) (L : List Nat) (h1 : 1 ≤ d) (h2 : d ≤ 6) (h3 : d + 1 ≤ m) (h4 : m ≤ 9) (hl : L.length ≤ 100) (hp : L.Pairwise (· < ·)) (hm : ∀ x ∈ L, x < m) : callF T (n + 4) "is_lot" [.val (tN L), .val (.tup [.int m, .int d])] = .ok (.val (.bl true), []) := by
  rw [callF_run (fd := d_is_lot) rfl]
  have hio : ioOf T "need_curve" = false := rfl
  have hio2 : ioOf T "is_lot_of" = false := rfl
  simp [runF, d_is_lot, argsOk, startD, S.isVal, hio, hio2, sp_need_curve n m d h1 h2 h3 (by omega), idxD, atD, L2.atI, L2.ixN, sp_is_lot_of (n + 1) m L hl hp hm, leaveD, leaveO]
theorem sp_need_lot (n m : Nat) (d : Int) (L : List Nat) (h1 : 1 ≤ d) (h2 : d ≤ 6) (h3 : d + 1 ≤ m) (h4 : m ≤ 9) (hl : L.length ≤ 100) (hp : L.Pairwise (· < ·)) (hm : ∀ x ∈ L, x < m) : callF T (n + 5) "need_lot" [.val (.tup [.int m, .int d]), .val (tN L)] = .ok (.val .non, []) := by
  rw [callF_run (fd := d_need_lot) rfl]
  have hio : ioOf T "is_lot" = false := rfl
  simp [runF, d_need_lot, argsOk, startD, S.isVal, hio, sp_is_lot n m d L h1 h2 h3 h4 hl hp hm, leaveD, leaveO]
end Law
namespace Law
open Cv
def bstep (f : List (List Nat)) (c : Nat) : List (List Nat) := match f.reverse with
  | [] => [[c]]
  | b :: r => if b.getLastD 0 + 1 == c then r.reverse ++ [b ++ [c]] else f ++ [[c]]
theorem bstep_nil (c : Nat) : bstep [] c = [[c]] := rfl
theorem bstep_snoc (f : List (List Nat)) (b : List Nat) (z c : Nat) : bstep (f ++ [b ++ [z]]) c = if z + 1 = c then f ++ [b ++ [z] ++ [c]] else f ++ [b ++ [z]] ++ [[c]] := by
  simp only [bstep, List.reverse_append, List.reverse_cons, List.reverse_nil, List.nil_append, List.singleton_append, List.reverse_reverse]
  simp
theorem snoc_cases {α : Type} (l : List α) : l = [] ∨ ∃ i x, l = i ++ [x] := by
  rcases List.eq_nil_or_concat l with h | ⟨i, x, h⟩
  · exact .inl h
  · exact .inr ⟨i, x, by simpa using h⟩
theorem sp_blocks_of (n : Nat) (L : List Nat) (hl : L.length ≤ 100) : callF T (n + 1) "blocks_of" [.val (tN L)] = .ok (.fresh ((L.foldl bstep []).map tN), []) ∧ ∀ b ∈ L.foldl bstep [], b ≠ [] := by
  rw [callF_run (fd := d_blocks_of) rfl]
  obtain ⟨j', h1, h2, h3⟩ := for_var (set := setF (.name 2)) (body := bodyF (calT T n) [.ife (.and_ (.cmp .ne (.var 1) (.lst [])) (.cmp .eq (.idx (.idx (.var 1) (.neg (.cst (.int 1)))) (.neg (.cst (.int 1)))) (.bin .sub (.var 2) (.cst (.int 1))))) [.sub 1 (.neg (.cst (.int 1))) (.bin .add (.idx (.var 1) (.neg (.cst (.int 1)))) (.tup [(.var 2)]))] [.expr (.meth .append 1 [(.tup [(.var 2)])])]])
    (fun (f : List (List Nat)) (j : Option Nat) => [some (.val (tN L)), some (.own (f.map tN)), sl (j.map nI)]) nI bstep (fun i f => f.length ≤ i ∧ (∀ b ∈ f, b ≠ [] ∧ b.length ≤ i)) L.length L 0 [] none (by simp) (by simp) (fun i f j c hi hI hc => by
      obtain ⟨hI1, hI2⟩ := hI
      rcases snoc_cases f with rfl | ⟨f, b, rfl⟩
      · refine ⟨by simp [bstep_nil], _, set2, ?_⟩
        simp [bodyF, deref, cmpD, eqD, eqDs, dle, dles, ownAt, ownPut, methD, lim, bstep_nil]
      · rcases snoc_cases b with rfl | ⟨b, z, rfl⟩
        · exact absurd rfl (hI2 [] (by simp)).1
        · have hb := (hI2 (b ++ [z]) (by simp)).2
          simp at hb hI1
          have ne := cmp_lT (f ++ [b ++ [z]]) []
          simp only [List.map_nil] at ne
          have nb : ((f ++ [b ++ [z]]) == []) = false := by cases f <;> rfl
          rw [nb] at ne
          have a1 : L2.atI ((f ++ [b ++ [z]]).map tN) (-1) = some (tN (b ++ [z])) := by rw [List.map_append]; exact atI_last _ _
          have a2 : L2.atI ((b ++ [z]).map nI) (-1) = some (nI z) := by rw [List.map_append]; exact atI_last _ _
          rw [bstep_snoc]
          by_cases q : z + 1 = c
          · have q' : ((z : Int) == (c : Int) - 1) = true := by simp; omega
            have a3 : L2.ixN ((f ++ [b ++ [z]]).map tN).length (-1) = some f.length := by simp only [List.length_map, List.length_append, List.length_cons, List.length_nil]; exact ixN_last _
            have a4 : ((f ++ [b ++ [z]]).map tN).set f.length (tN (b ++ [z] ++ [c])) = (f ++ [b ++ [z] ++ [c]]).map tN := by
              have := set_last (f.map tN) (tN (b ++ [z])) (tN (b ++ [z] ++ [c]))
              rw [List.length_map] at this
              rw [List.map_append, List.map_append]
              exact this
            have a5 : binD .add (tN (b ++ [z])) (.tup [nI c]) = some (.val (tN (b ++ [z] ++ [c]))) := by
              simp [binD, lim]; omega
            refine ⟨?_, _, set2, ?_⟩
            · rw [if_pos q]
              refine ⟨by simp; omega, fun x hx => ?_⟩
              rcases List.mem_append.mp hx with h | h
              · exact ⟨(hI2 x (by simp [h])).1, by have := (hI2 x (by simp [h])).2; omega⟩
              · simp at h; subst h; simp; omega
            · rw [if_pos q]
              simp only [bodyF]
              simp [-List.map_append, deref, idxD, atD, ownAt, ownPut, ne, a1, a2, q', a5, ixN_last]
              simp only [List.append_assoc, List.cons_append, List.nil_append] at a4
              exact a4
          · have q' : ((z : Int) == (c : Int) - 1) = false := by simp; omega
            refine ⟨?_, _, set2, ?_⟩
            · rw [if_neg q]
              refine ⟨by simp; omega, fun x hx => ?_⟩
              rcases List.mem_append.mp hx with h | h
              · exact ⟨(hI2 x h).1, by have := (hI2 x h).2; omega⟩
              · simp at h; subst h; simp
            · rw [if_neg q]
              have a6 : ((f ++ [b ++ [z]]).map tN).length < lim := by simp [lim]; omega
              simp only [bodyF]
              simp [-List.map_append, -List.length_map, -List.length_append, deref, idxD, atD, ownAt, ownPut, ne, a1, a2, q', methD, a6]
              simp)
  refine ⟨?_, fun b hb => (h3 b hb).1⟩
  simp at h1
  simp [runF, d_blocks_of, argsOk, startD, S.isVal, asgO, setN, leaveD, h1, leaveO]
end Law
namespace Law
open Cv
theorem at0 (x : Nat) (r : List Nat) : L2.atI ((x :: r).map nI) 0 = some (nI x) := by simp [L2.atI, L2.ixN]
def inB (m : Nat) (b : List Nat) : Bool := decide (0 < b.headD 0) && decide (b.getLastD 0 + 1 < m)
def oddB (b : List Nat) : Bool := b.length % 2 == 1
theorem odd_len (b : List Nat) : (((b.length : Int) % 2) == 1) = oddB b := by
  unfold oddB
  rw [Bool.eq_iff_iff, beq_iff_eq, beq_iff_eq]
  omega
theorem sp_odd_of (n m : Nat) (L : List Nat) (hl : L.length ≤ 100) : callF T (n + 2) "odd_of" [.val (.int m), .val (tN L)] = .ok (.val (.int (((L.foldl bstep []).filter (inB m)).filter oddB).length), []) := by
  rw [callF_run (fd := d_odd_of) rfl]
  have hio : ioOf T "blocks_of" = false := rfl
  obtain ⟨hb, hne⟩ := sp_blocks_of n L hl
  have c1 := comp_ifB (C := calT T (n + 1)) (k := .seq) (e1 := .call "blocks_of" [(.var 1)]) (e2 := .cst .non) (c := .and_ (.cmp .gt (.idx (.var 3) (.cst (.int 0))) (.cst (.int 0))) (.cmp .lt (.idx (.var 3) (.neg (.cst (.int 1)))) (.bin .sub (.var 0) (.cst (.int 1))))) (elt := .var 3) (v := 3) (s := [some (.val (.int m)), some (.val (tN L)), none, none]) (s0 := [some (.val (.int m)), some (.val (tN L)), none, none]) tN (inB m) tN
    (bs := L.foldl bstep []) (by simp [hio, hb]) (by simp) (fun b hb => by
      have h0 := hne b hb
      obtain ⟨x, r, rfl⟩ : ∃ x r, b = x :: r := by cases b with | nil => exact absurd rfl h0 | cons x r => exact ⟨x, r, rfl⟩
      obtain ⟨i, z, e⟩ : ∃ i z, x :: r = i ++ [z] := by
        rcases snoc_cases (x :: r) with h | h
        · cases h
        · exact h
      have a2 : L2.atI ((x :: r).map nI) (-1) = some (nI z) := by rw [e, List.map_append]; exact atI_last _ _
      have a3 : (x :: r).getLastD 0 = z := by rw [e]; simp
      have a4 : inB m (x :: r) = (decide (0 < x) && decide (z + 1 < m)) := by unfold inB; rw [a3]; rfl
      rw [a4]
      have a1 := at0 x r
      by_cases q : 0 < x
      · simp [-List.map_cons, tstR, idxD, atD, a1, a2, q]
        omega
      · simp [-List.map_cons, tstR, idxD, atD, a1, a2, q]) (fun b hb _ => by simp [eltR])
  have c2 := comp_ifB (C := calT T (n + 1)) (k := .seq) (e1 := .var 2) (e2 := .cst .non) (c := .cmp .eq (.bin .mod (.blt "len" [(.var 3)]) (.cst (.int 2))) (.cst (.int 1))) (elt := .var 3) (v := 3) (s := [some (.val (.int m)), some (.val (tN L)), some (.own (((L.foldl bstep []).filter (inB m)).map tN)), none]) (s0 := [some (.val (.int m)), some (.val (tN L)), some (.val (.lst (((L.foldl bstep []).filter (inB m)).map tN))), none]) tN oddB tN
    (bs := (L.foldl bstep []).filter (inB m)) (by simp [esc]) (by simp) (fun b hb => by
      have := odd_len b
      simp [tstR, bltD, binD_mod, this]) (fun b hb _ => by simp [eltR])
  simp [runF, d_odd_of, argsOk, startD, S.isVal, c1, c2, asgO, setN, bltD, leaveD, leaveO]
end Law
namespace Law
open Cv
theorem sp_blocks (n m : Nat) (d : Int) (L : List Nat) (h1 : 1 ≤ d) (h2 : d ≤ 6) (h3 : d + 1 ≤ m) (h4 : m ≤ 9) (hl : L.length ≤ 100) (hp : L.Pairwise (· < ·)) (hm : ∀ x ∈ L, x < m) : callF T (n + 6) "blocks" [.val (.tup [.int m, .int d]), .val (tN L)] = .ok (.fresh ((L.foldl bstep []).map tN), []) := by
  rw [callF_run (fd := d_blocks) rfl]
  have hio : ioOf T "need_lot" = false := rfl
  have hio2 : ioOf T "blocks_of" = false := rfl
  simp [runF, d_blocks, argsOk, startD, S.isVal, hio, hio2, sp_need_lot n m d L h1 h2 h3 h4 hl hp hm, (sp_blocks_of (n + 4) L hl).1, leaveD, leaveO]
theorem sp_odd_inner (n m : Nat) (d : Int) (L : List Nat) (h1 : 1 ≤ d) (h2 : d ≤ 6) (h3 : d + 1 ≤ m) (h4 : m ≤ 9) (hl : L.length ≤ 100) (hp : L.Pairwise (· < ·)) (hm : ∀ x ∈ L, x < m) : callF T (n + 6) "odd_inner" [.val (.tup [.int m, .int d]), .val (tN L)] = .ok (.val (.int (((L.foldl bstep []).filter (inB m)).filter oddB).length), []) := by
  rw [callF_run (fd := d_odd_inner) rfl]
  have hio : ioOf T "need_lot" = false := rfl
  have hio2 : ioOf T "odd_of" = false := rfl
  simp [runF, d_odd_inner, argsOk, startD, S.isVal, hio, hio2, sp_need_lot n m d L h1 h2 h3 h4 hl hp hm, sp_odd_of (n + 3) m L hl, idxD, atD, L2.atI, L2.ixN, leaveD, leaveO]
end Law
namespace Law
open Cv
def stL (l : List Nat) : Nat := if l = [] then 0 else l.getLastD 0 + 1
def nextL (m : Nat) (l : List Nat) : List (List Nat) := ((List.range (m - stL l)).map (stL l + ·)).map fun c => l ++ [c]
def allL (m : Nat) : Nat → List (List Nat)
  | 0 => [[]]
  | k + 1 => (allL m k).flatMap (nextL m)
def okA (m k : Nat) : Bool := decide ((allL m k).length ≤ 200) && (allL m k).all fun l => decide (l.length ≤ 9) && decide (stL l ≤ 9)
theorem okA_all : (List.range 10).all (fun m => (List.range 10).all (okA m)) = true := by decide +kernel
theorem allL_len {m k : Nat} (hm : m ≤ 9) (hk : k ≤ 9) : (allL m k).length ≤ 200 ∧ ∀ l ∈ allL m k, l.length ≤ 9 ∧ stL l ≤ 9 := by
  have := List.all_eq_true.mp (List.all_eq_true.mp okA_all m (List.mem_range.mpr (by omega))) k (List.mem_range.mpr (by omega))
  simp only [okA, Bool.and_eq_true, decide_eq_true_eq, List.all_eq_true] at this
  exact this
theorem nextL_len (m : Nat) (l : List Nat) : (nextL m l).length ≤ m := by
  simp [nextL]
theorem fold_flat {α β : Type} (g : α → List β) : ∀ (l : List α) (acc : List β), l.foldl (fun a x => a ++ g x) acc = acc ++ l.flatMap g
  | [], acc => by simp
  | x :: l, acc => by simp [fold_flat g l]
theorem foldl_rng {α : Type} (g : α → α) (f : Nat → α) (h : ∀ i, f (i + 1) = g (f i)) : ∀ n, (List.range n).foldl (fun a _ => g a) (f 0) = f n
  | 0 => rfl
  | n + 1 => by rw [List.range_succ, List.foldl_append, foldl_rng g f h n, h]; rfl
theorem last_st {l : List Nat} (h : l ≠ []) : ∃ z, L2.atI (l.map nI) (-1) = some (nI z) ∧ stL l = z + 1 := by
  rcases snoc_cases l with rfl | ⟨i, z, rfl⟩
  · exact absurd rfl h
  · refine ⟨z, ?_, ?_⟩
    · rw [List.map_append]; exact atI_last _ _
    · simp [stL]
theorem add1 (l : List Nat) (c : Nat) (h : l.length ≤ 100) : binD .add (tN l) (.tup [nI c]) = some (.val (tN (l ++ [c]))) := by
  simp [binD, lim]; omega
def lotsBody : List IS := [.asg (.name 6) (.ite (.cmp .ne (.var 5) (.tup [])) (.bin .add (.idx (.var 5) (.neg (.cst (.int 1)))) (.cst (.int 1))) (.cst (.int 0))), .expr (.extend 4 (.comp .rng2 (.var 6) (.var 0) (.name 7) false (.cst .non) (.bin .add (.var 5) (.tup [(.var 7)]))))]
theorem lots_body (N m k : Nat) (l : List Nat) (acc : List (List Nat)) (x2 x3 x6 : Option S) (n6 : nio x6 = true) (hm : m ≤ 9) (hl : l.length ≤ 9) (hs : stL l ≤ 9) (ha : acc.length ≤ 10000) :
    denSs (calT T N) lotsBody [some (.val (.int m)), some (.val (.int k)), x2, x3, some (.own (acc.map tN)), some (.val (tN l)), x6, none] = .ok (.next [some (.val (.int m)), some (.val (.int k)), x2, x3, some (.own ((acc ++ nextL m l).map tN)), some (.val (tN l)), some (.val (nI (stL l))), none]) := by
  have hne : cmpD .ne (tN l) (.tup []) = some (!(l == [])) := cmp_tN l []
  have e6 : denSs (calT T N) [.asg (.name 6) (.ite (.cmp .ne (.var 5) (.tup [])) (.bin .add (.idx (.var 5) (.neg (.cst (.int 1)))) (.cst (.int 1))) (.cst (.int 0)))] [some (.val (.int m)), some (.val (.int k)), x2, x3, some (.own (acc.map tN)), some (.val (tN l)), x6, none] = .ok (.next [some (.val (.int m)), some (.val (.int k)), x2, x3, some (.own (acc.map tN)), some (.val (tN l)), some (.val (nI (stL l))), none]) := by
    by_cases q : l = []
    · subst q
      simp [hne, setN_nio, n6, stL]
    · obtain ⟨z, h1, h2⟩ := last_st q
      have q2 : (l == []) = false := by cases l with | nil => exact absurd rfl q | cons _ _ => rfl
      rw [q2] at hne
      simp [hne, setN_nio, n6, idxD, atD, h1, h2]
  have c1 := comp_noB (C := calT T N) (k := .rng2) (e1 := .var 6) (e2 := .var 0) (c := .cst .non) (elt := .bin .add (.var 5) (.tup [(.var 7)])) (v := 7) (s := [some (.val (.int m)), some (.val (.int k)), x2, x3, some (.own (acc.map tN)), some (.val (tN l)), some (.val (nI (stL l))), none]) (s0 := [some (.val (.int m)), some (.val (.int k)), x2, x3, some (.own (acc.map tN)), some (.val (tN l)), some (.val (nI (stL l))), none]) nI (fun c => tN (l ++ [c]))
    (bs := (List.range (m - stL l)).map (stL l + ·)) (by simp [itm_rng2 (a := stL l) (b := m) (by omega) (by omega)]) (by simp) (fun c hc => by
      have := add1 l c (by omega)
      simp [eltR, -List.map_append, this])
  have hx := dE_extend (C := calT T N) (i := 4) (s := [some (.val (.int m)), some (.val (.int k)), x2, x3, some (.own (acc.map tN)), some (.val (tN l)), some (.val (nI (stL l))), none]) rfl c1 rfl (by
    have := nextL_len m l
    unfold nextL at this
    simp at this ⊢
    simp [lim]; omega)
  have e7 : denSs (calT T N) [.expr (.extend 4 (.comp .rng2 (.var 6) (.var 0) (.name 7) false (.cst .non) (.bin .add (.var 5) (.tup [(.var 7)]))))] [some (.val (.int m)), some (.val (.int k)), x2, x3, some (.own (acc.map tN)), some (.val (tN l)), some (.val (nI (stL l))), none] = .ok (.next [some (.val (.int m)), some (.val (.int k)), x2, x3, some (.own ((acc ++ nextL m l).map tN)), some (.val (tN l)), some (.val (nI (stL l))), none]) := by
    rw [dSs_cons, dS_expr, hx]
    simp [ownPut, nextL]
  exact (denSs_append _ _ _ _ e6).trans e7
/-- one turn of the outer loop -/
theorem lots_turn (N m k i : Nat) (y3 x5 x6 : Option S) (y4 y2 : Option S) (n4 : nio y4 = true) (n5 : nio x5 = true) (n6 : nio x6 = true) (hm : m ≤ 9) (hi : i ≤ 9) (h2 : y2 = some (.val (.lst ((allL m i).map tN))) ∨ y2 = some (.own ((allL m i).map tN))) :
    ∃ z5 z6, denSs (calT T N) [.asg (.name 4) (.lst []), .for_ .seq (.var 2) (.cst .non) (.name 5) lotsBody, .asg (.name 2) (.var 4)] [some (.val (.int m)), some (.val (.int k)), y2, y3, y4, x5, x6, none] =
      .ok (.next [some (.val (.int m)), some (.val (.int k)), some (.val (.lst ((allL m (i + 1)).map tN))), y3, some (.val (.lst ((allL m (i + 1)).map tN))), z5, z6, none]) ∧ nio z5 = true ∧ nio z6 = true := by
  obtain ⟨hl1, hl2⟩ := allL_len hm hi
  have key := for_var (set := setF (.name 5)) (body := bodyF (calT T N) lotsBody) (fun (a : List (List Nat) × (Option S × Option S)) (j : Option (List Nat)) => [some (.val (.int m)), some (.val (.int k)), some (.val (.lst ((allL m i).map tN))), y3, some (.own (a.1.map tN)), a.2.1, a.2.2, none]) tN (fun a l => (a.1 ++ nextL m l, some (.val (tN l)), some (.val (nI (stL l)))))
    (fun j a => a.1.length ≤ 9 * j ∧ nio a.2.1 = true ∧ nio a.2.2 = true) (allL m i).length (allL m i) 0 ([], x5, x6) none (by simp) ⟨by simp, n5, n6⟩ (fun j a _ l hj hI hl => by
      obtain ⟨a1, a2, a3⟩ := a
      obtain ⟨g1, g2, g3⟩ := hI
      simp only at g1 g2 g3
      obtain ⟨q1, q2⟩ := hl2 l hl
      have := nextL_len m l
      refine ⟨⟨by simp; omega, rfl, rfl⟩, _, by simp [setN_nio, g2]; rfl, ?_⟩
      exact lots_body N m k l a1 _ _ _ g3 hm q1 q2 (by omega))
  obtain ⟨j', h1, h3, h4, h5⟩ := key
  generalize hf : (allL m i).foldl (fun (a : List (List Nat) × (Option S × Option S)) l => (a.1 ++ nextL m l, some (.val (tN l)), some (.val (nI (stL l))))) ([], x5, x6) = r at h1 h3 h4 h5
  obtain ⟨r1, r2, r3⟩ := r
  have hr : r1 = allL m (i + 1) := by
    have e : ∀ (l : List (List Nat)) (a : List (List Nat) × (Option S × Option S)), (l.foldl (fun (a : List (List Nat) × (Option S × Option S)) l => (a.1 ++ nextL m l, some (.val (tN l)), some (.val (nI (stL l))))) a).1 = l.foldl (fun a l => a ++ nextL m l) a.1 := by
      intro l
      induction l with
      | nil => intro a; rfl
      | cons x l ih => intro a; rw [List.foldl_cons, List.foldl_cons, ih]
    have := e (allL m i) ([], x5, x6)
    rw [hf, fold_flat] at this
    simpa [allL] using this
  subst hr
  refine ⟨r2, r3, ?_, h4, h5⟩
  rcases h2 with rfl | rfl
  · simp at h1
    simp [setN_nio, n4, h1, asgO, esc]
  · simp at h1
    simp [setN_nio, n4, h1, asgO, esc]
end Law
namespace Law
open Cv
def llBody : List IS := [.asg (.name 4) (.bin .add (.var 4) (.comp .rng2 (.bin .add (.idx (.or_ (.var 5) (.tup [(.neg (.cst (.int 1)))])) (.neg (.cst (.int 1)))) (.cst (.int 1))) (.var 0) (.name 6) false (.cst .non) (.bin .add (.var 5) (.tup [(.var 6)]))))]
theorem ll_body (N m k : Nat) (l : List Nat) (acc : List (List Nat)) (x2 x3 : Option S) (hm : m ≤ 9) (hl : l.length ≤ 9) (hs : stL l ≤ 9) (ha : acc.length ≤ 10000) :
    denSs (calT T N) llBody [some (.val (.int m)), some (.val (.int k)), x2, x3, some (.own (acc.map tN)), some (.val (tN l)), none] = .ok (.next [some (.val (.int m)), some (.val (.int k)), x2, x3, some (.own ((acc ++ nextL m l).map tN)), some (.val (tN l)), none]) := by
  have e6 : denE (calT T N) (.bin .add (.idx (.or_ (.var 5) (.tup [(.neg (.cst (.int 1)))])) (.neg (.cst (.int 1)))) (.cst (.int 1))) [some (.val (.int m)), some (.val (.int k)), x2, x3, some (.own (acc.map tN)), some (.val (tN l)), none] = .ok (.val (nI (stL l)), [some (.val (.int m)), some (.val (.int k)), x2, x3, some (.own (acc.map tN)), some (.val (tN l)), none]) := by
    by_cases q : l = []
    · subst q
      have a1 : L2.atI [D.int (-1)] (-1) = some (.int (-1)) := rfl
      simp [truD, idxD, atD, a1, stL]
    · obtain ⟨z, h1, h2⟩ := last_st q
      have q2 : (l.map nI).isEmpty = false := by cases l with | nil => exact absurd rfl q | cons _ _ => rfl
      simp [-List.isEmpty_map, truD, q2, idxD, atD, h1, h2]
  have c1 := comp_noB (C := calT T N) (k := .rng2) (e1 := .bin .add (.idx (.or_ (.var 5) (.tup [(.neg (.cst (.int 1)))])) (.neg (.cst (.int 1)))) (.cst (.int 1))) (e2 := .var 0) (c := .cst .non) (elt := .bin .add (.var 5) (.tup [(.var 6)])) (v := 6) (s := [some (.val (.int m)), some (.val (.int k)), x2, x3, some (.own (acc.map tN)), some (.val (tN l)), none]) (s0 := [some (.val (.int m)), some (.val (.int k)), x2, x3, some (.own (acc.map tN)), some (.val (tN l)), none]) nI (fun c => tN (l ++ [c]))
    (bs := (List.range (m - stL l)).map (stL l + ·)) (by
      rw [itr_rng2]
      simp only [e6, R.bindOk]
      simp [itm_rng2 (a := stL l) (b := m) (by omega) (by omega)]) (by simp) (fun c hc => by
      have := add1 l c (by omega)
      simp [eltR, -List.map_append, this])
  have nl := nextL_len m l
  have hadd : binD .add (.lst (acc.map tN)) (.lst ((nextL m l).map tN)) = some (.fresh ((acc ++ nextL m l).map tN)) := by
    simp [binD, lim]; omega
  have hz : ((List.range (m - stL l)).map (stL l + ·)).map (fun c => tN (l ++ [c])) = (nextL m l).map tN := by
    simp [nextL]
  rw [hz] at c1
  simp [-List.map_append, llBody, c1, deref, hadd]
theorem ll_turn (N m k i : Nat) (y3 x5 : Option S) (y4 y2 : Option S) (n4 : nio y4 = true) (n5 : nio x5 = true) (hm : m ≤ 9) (hi : i ≤ 9) (h2 : y2 = some (.val (.lst ((allL m i).map tN))) ∨ y2 = some (.own ((allL m i).map tN))) :
    ∃ z5, denSs (calT T N) [.asg (.name 4) (.lst []), .for_ .seq (.var 2) (.cst .non) (.name 5) llBody, .asg (.name 2) (.var 4)] [some (.val (.int m)), some (.val (.int k)), y2, y3, y4, x5, none] =
      .ok (.next [some (.val (.int m)), some (.val (.int k)), some (.val (.lst ((allL m (i + 1)).map tN))), y3, some (.val (.lst ((allL m (i + 1)).map tN))), z5, none]) ∧ nio z5 = true := by
  obtain ⟨hl1, hl2⟩ := allL_len hm hi
  have key := for_var (set := setF (.name 5)) (body := bodyF (calT T N) llBody) (fun (a : List (List Nat) × Option S) (j : Option (List Nat)) => [some (.val (.int m)), some (.val (.int k)), some (.val (.lst ((allL m i).map tN))), y3, some (.own (a.1.map tN)), a.2, none]) tN (fun a l => (a.1 ++ nextL m l, some (.val (tN l))))
    (fun j a => a.1.length ≤ 9 * j ∧ nio a.2 = true) (allL m i).length (allL m i) 0 ([], x5) none (by simp) ⟨by simp, n5⟩ (fun j a _ l hj hI hl => by
      obtain ⟨a1, a2⟩ := a
      obtain ⟨g1, g2⟩ := hI
      simp only at g1 g2
      obtain ⟨q1, q2⟩ := hl2 l hl
      have := nextL_len m l
      refine ⟨⟨by simp; omega, rfl⟩, _, by simp [setN_nio, g2]; rfl, ?_⟩
      exact ll_body N m k l a1 _ _ hm q1 q2 (by omega))
  obtain ⟨j', h1, h3, h4⟩ := key
  generalize hf : (allL m i).foldl (fun (a : List (List Nat) × Option S) l => (a.1 ++ nextL m l, some (.val (tN l)))) ([], x5) = r at h1 h3 h4
  obtain ⟨r1, r2⟩ := r
  have hr : r1 = allL m (i + 1) := by
    have e : ∀ (l : List (List Nat)) (a : List (List Nat) × Option S), (l.foldl (fun (a : List (List Nat) × Option S) l => (a.1 ++ nextL m l, some (.val (tN l)))) a).1 = l.foldl (fun a l => a ++ nextL m l) a.1 := by
      intro l
      induction l with
      | nil => intro a; rfl
      | cons x l ih => intro a; rw [List.foldl_cons, List.foldl_cons, ih]
    have := e (allL m i) ([], x5)
    rw [hf, fold_flat] at this
    simpa [allL] using this
  subst hr
  refine ⟨r2, ?_, h4⟩
  rcases h2 with rfl | rfl
  · simp at h1
    simp [setN_nio, n4, h1, asgO, esc]
  · simp at h1
    simp [setN_nio, n4, h1, asgO, esc]
theorem sp_law_lots (n m k : Nat) (hm : m ≤ 9) (hk : k ≤ 9) : callF T (n + 1) "_law_lots" [.val (.int m), .val (.int k)] = .ok (.fresh ((allL m k).map tN), []) ∨ callF T (n + 1) "_law_lots" [.val (.int m), .val (.int k)] = .ok (.val (.lst ((allL m k).map tN)), []) := by
  rw [callF_run (fd := d__law_lots) rfl]
  have hb : d__law_lots = { np := 2, ns := 7, io := false, body := [.asg (.name 2) (.lst [(.tup [])]), .for_ .rng1 (.var 1) (.cst .non) (.name 3) [.asg (.name 4) (.lst []), .for_ .seq (.var 2) (.cst .non) (.name 5) llBody, .asg (.name 2) (.var 4)], .ret (.var 2)] } := rfl
  rw [hb]
  have ei : itemsD .rng1 (.int k) .non = some ((List.range k).map nI) := itm_rng1 (by omega)
  have ind : ∀ (r : List Nat) (i : Nat) (s : DEnv), i + r.length = k → (∃ y2 y3 y4 y5, s = [some (.val (.int m)), some (.val (.int k)), y2, y3, y4, y5, none] ∧ (nio y3 = true ∧ nio y4 = true ∧ nio y5 = true) ∧ (y2 = some (.val (.lst ((allL m i).map tN))) ∨ y2 = some (.own ((allL m i).map tN)))) →
      ∃ s', forLoop (setF (.name 3)) (bodyF (calT T n) [.asg (.name 4) (.lst []), .for_ .seq (.var 2) (.cst .non) (.name 5) llBody, .asg (.name 2) (.var 4)]) (r.map nI) s = .ok (.next s') ∧ ∃ y2 y3 y4 y5, s' = [some (.val (.int m)), some (.val (.int k)), y2, y3, y4, y5, none] ∧ (y2 = some (.val (.lst ((allL m k).map tN))) ∨ y2 = some (.own ((allL m k).map tN))) := by
    intro r
    induction r with
    | nil =>
      rintro i s hik ⟨y2, y3, y4, y5, rfl, _, h⟩
      have : i = k := by simpa using hik
      subst this
      exact ⟨_, rfl, y2, y3, y4, y5, rfl, h⟩
    | cons x r ih =>
      rintro i s hik ⟨y2, y3, y4, y5, rfl, ⟨g3, g4, g5⟩, h⟩
      simp only [List.length_cons] at hik
      obtain ⟨z5, e, f5⟩ := ll_turn n m k i (some (.val (nI x))) y5 y4 y2 g4 g5 hm (by omega) h
      have st : setF (.name 3) [some (.val (.int m)), some (.val (.int k)), y2, y3, y4, y5, none] (nI x) = some [some (.val (.int m)), some (.val (.int k)), y2, some (.val (nI x)), y4, y5, none] := by simp [setN_nio, g3]
      obtain ⟨s', h1, h2⟩ := ih (i + 1) _ (by omega) ⟨_, some (.val (nI x)), some (.val (.lst ((allL m (i + 1)).map tN))), z5, rfl, ⟨rfl, rfl, f5⟩, .inl rfl⟩
      refine ⟨s', ?_, h2⟩
      simp only [List.map_cons, forLoop, st, R.ofO_some, R.bindOk]
      rw [show bodyF (calT T n) _ _ = _ from e]
      exact h1
  obtain ⟨_, h1, y2, y3, y4, y5, rfl, h⟩ := ind (List.range k) 0 [some (.val (.int m)), some (.val (.int k)), some (.own [.tup []]), none, none, none, none] (by simp) ⟨_, none, none, none, rfl, ⟨rfl, rfl, rfl⟩, .inr rfl⟩
  rcases h with rfl | rfl
  · right
    simp [runF, argsOk, startD, S.isVal, ei, h1, leaveD, leaveO]
  · left
    simp [runF, argsOk, startD, S.isVal, ei, h1, leaveD, leaveO]
end Law
namespace Law
open Cv
def oddN (m : Nat) (l : List Nat) : Nat := (((l.foldl bstep []).filter (inB m)).filter oddB).length
theorem nat_beq (a b : Nat) : (((a : Int)) == (b : Int)) = (a == b) := by
  rw [Bool.eq_iff_iff, beq_iff_eq, beq_iff_eq]
  omega
def curvesL : List (Nat × Nat) := (List.range 7).flatMap fun d => if d = 0 then [] else (List.range (9 - d)).map fun i => (d + 1 + i, d)
theorem curve_mem {m d : Nat} (h1 : 1 ≤ d) (h2 : d ≤ 6) (h3 : d + 1 ≤ m) (h4 : m ≤ 9) : (m, d) ∈ curvesL := by
  unfold curvesL
  rw [List.mem_flatMap]
  refine ⟨d, List.mem_range.mpr (by omega), ?_⟩
  rw [if_neg (by omega)]
  exact List.mem_map.mpr ⟨m - (d + 1), List.mem_range.mpr (by omega), by rw [Prod.mk.injEq]; omega⟩
end Law
namespace Law
open Cv
def faceB (m d : Nat) (l : List Nat) : Bool := decide (l.length ≤ d) && decide (oddN m l + l.length ≤ d)
theorem sp_face_of (n m d : Nat) (l : List Nat) (hl : l.length ≤ 100) : callF T (n + 3) "face_of" [.val (.tup [.int m, .int d]), .val (tN l)] = .ok (.val (.bl (faceB m d l)), []) := by
  rw [callF_run (fd := d_face_of) rfl]
  have hio : ioOf T "odd_of" = false := rfl
  have ho : callF T (n + 2) "odd_of" [.val (.int m), .val (tN l)] = .ok (.val (.int (oddN m l)), []) := sp_odd_of n m l hl
  have a0 : L2.atI [D.int m, D.int d] 0 = some (.int m) := rfl
  have a1 : L2.atI [D.int m, D.int d] 1 = some (.int d) := rfl
  by_cases h : l.length ≤ d
  · have h3 : faceB m d l = decide (oddN m l + l.length ≤ d) := by unfold faceB; rw [decide_eq_true h]; rfl
    have h4 : decide ((oddN m l : Int) ≤ (d : Int) - (l.length : Int)) = decide (oddN m l + l.length ≤ d) := by
      apply decide_eq_decide.mpr
      omega
    rw [h3, ← h4]
    simp [runF, d_face_of, argsOk, startD, S.isVal, bltD, idxD, atD, a0, a1, h, hio, ho, leaveD, leaveO]
  · have h3 : faceB m d l = false := by unfold faceB; rw [decide_eq_false h]; rfl
    rw [h3]
    simp [runF, d_face_of, argsOk, startD, S.isVal, bltD, idxD, atD, a0, a1, h, leaveD, leaveO]
end Law
namespace Law
open Cv
def paneB (m d : Nat) (l : List Nat) : Bool := l.length == d && oddN m l == 0
theorem sp_pane_of (n m d : Nat) (l : List Nat) (hl : l.length ≤ 100) : callF T (n + 3) "pane_of" [.val (.tup [.int m, .int d]), .val (tN l)] = .ok (.val (.bl (paneB m d l)), []) := by
  rw [callF_run (fd := d_pane_of) rfl]
  have hio : ioOf T "odd_of" = false := rfl
  have ho : callF T (n + 2) "odd_of" [.val (.int m), .val (tN l)] = .ok (.val (.int (oddN m l)), []) := sp_odd_of n m l hl
  have a0 : L2.atI [D.int m, D.int d] 0 = some (.int m) := rfl
  have a1 : L2.atI [D.int m, D.int d] 1 = some (.int d) := rfl
  have q := nat_beq l.length d
  have q2 := nat_beq (oddN m l) 0
  by_cases h : l.length = d
  · have h2 : (l.length == d) = true := by simp [h]
    have h3 : paneB m d l = (oddN m l == 0) := by unfold paneB; rw [h2]; rfl
    rw [h2] at q
    rw [h3]
    simp only [Int.ofNat_eq_natCast, Int.natCast_zero] at q2
    simp [-List.length_map, -beq_iff_eq, runF, d_pane_of, argsOk, startD, S.isVal, bltD, idxD, atD, a0, a1, List.length_map, q, hio, ho, leaveD, leaveO]
    try exact q2
  · have h2 : (l.length == d) = false := by simp [h]
    have h3 : paneB m d l = false := by unfold paneB; rw [h2]; rfl
    rw [h2] at q
    rw [h3]
    simp [-beq_iff_eq, runF, d_pane_of, argsOk, startD, S.isVal, bltD, idxD, atD, a0, a1, q, leaveD, leaveO]
end Law
namespace Law
open Cv
def okS (m k : Nat) : Bool := (allL m k).all fun l => decide (l.Pairwise (· < ·)) && l.all fun x => decide (x < m)
theorem okS_all : (List.range 10).all (fun m => (List.range 10).all (okS m)) = true := by decide +kernel
theorem allL_ok {m k : Nat} (hm : m ≤ 9) (hk : k ≤ 9) {l : List Nat} (h : l ∈ allL m k) : l.Pairwise (· < ·) ∧ ∀ x ∈ l, x < m := by
  have := List.all_eq_true.mp (List.all_eq_true.mp (List.all_eq_true.mp okS_all m (List.mem_range.mpr (by omega))) k (List.mem_range.mpr (by omega))) l h
  simp only [Bool.and_eq_true, decide_eq_true_eq, List.all_eq_true] at this
  exact this
theorem sp_is_face (n m d k : Nat) (l : List Nat) (h1 : 1 ≤ d) (h2 : d ≤ 6) (h3 : d + 1 ≤ m) (h4 : m ≤ 9) (hk : k ≤ 9) (h : l ∈ allL m k) : callF T (n + 4) "is_face" [.val (tN l), .val (.tup [.int m, .int d])] = .ok (.val (.bl (faceB m d l)), []) := by
  rw [callF_run (fd := d_is_face) rfl]
  have i1 : ioOf T "need_curve" = false := rfl
  have i2 : ioOf T "is_lot_of" = false := rfl
  have i3 : ioOf T "face_of" = false := rfl
  have a0 : L2.atI [D.int m, D.int d] 0 = some (.int m) := rfl
  obtain ⟨hp, hx⟩ := allL_ok h4 hk h
  have hl := ((allL_len h4 hk).2 l h).1
  simp [runF, d_is_face, argsOk, startD, S.isVal, i1, i2, i3, sp_need_curve n m d (by omega) (by omega) (by omega) (by omega), idxD, atD, a0, sp_is_lot_of (n + 1) m l (by omega) hp hx, sp_face_of n m d l (by omega), leaveD, leaveO]
end Law
namespace Law
open Cv
theorem sp_is_pane (n m d k : Nat) (l : List Nat) (h1 : 1 ≤ d) (h2 : d ≤ 6) (h3 : d + 1 ≤ m) (h4 : m ≤ 9) (hk : k ≤ 9) (h : l ∈ allL m k) : callF T (n + 4) "is_pane" [.val (tN l), .val (.tup [.int m, .int d])] = .ok (.val (.bl (paneB m d l)), []) := by
  rw [callF_run (fd := d_is_pane) rfl]
  have i1 : ioOf T "need_curve" = false := rfl
  have i2 : ioOf T "is_lot_of" = false := rfl
  have i3 : ioOf T "pane_of" = false := rfl
  have a0 : L2.atI [D.int m, D.int d] 0 = some (.int m) := rfl
  obtain ⟨hp, hx⟩ := allL_ok h4 hk h
  have hl := ((allL_len h4 hk).2 l h).1
  simp [runF, d_is_pane, argsOk, startD, S.isVal, i1, i2, i3, sp_need_curve n m d (by omega) (by omega) (by omega) (by omega), idxD, atD, a0, sp_is_lot_of (n + 1) m l (by omega) hp hx, sp_pane_of n m d l (by omega), leaveD, leaveO]
end Law
namespace Law
open Cv
def apart (m : Nat) (l : List Nat) : List Nat := (List.range m).filter fun c => !l.contains c
def badPair (l : List Nat) (c o : Nat) : Bool := (l.filter fun x => decide (o < x) && decide (x < c)).length % 2 == 1
def badAt (l A : List Nat) (p : Nat × Nat) : Bool := (A.take p.1).any (badPair l p.2)
def lawPaneB (m d : Nat) (l : List Nat) : Bool := !(enumN 0 (apart m l)).any (badAt l (apart m l)) && l.length == d
theorem odd_len2 {α : Type} (b : List α) : (((b.length : Int) % 2) == 1) = (b.length % 2 == 1) := by
  rw [Bool.eq_iff_iff, beq_iff_eq, beq_iff_eq]
  omega
def lipBody : List IS := [.ife (.cmp .eq (.bin .mod (.blt "len" [(.comp .seq (.var 1) (.cst .non) (.name 6) true (.chain .lt .lt (.var 5) (.var 6) (.var 4)) (.var 6))]) (.cst (.int 2))) (.cst (.int 1))) [.ret (.cst (.bl false))] []]
theorem lip_body (N o c : Nat) (l : List Nat) (x0 x2 x3 x6 : Option S) :
    denSs (calT T N) lipBody [x0, some (.val (tN l)), x2, x3, some (.val (nI c)), some (.val (nI o)), x6] = if badPair l c o then .ok (.ret (.val (.bl false)) [x0, some (.val (tN l)), x2, x3, some (.val (nI c)), some (.val (nI o)), x6]) else .ok (.next [x0, some (.val (tN l)), x2, x3, some (.val (nI c)), some (.val (nI o)), x6]) := by
  have c1 := comp_ifB (C := calT T N) (k := .seq) (e1 := .var 1) (e2 := .cst .non) (c := .chain .lt .lt (.var 5) (.var 6) (.var 4)) (elt := .var 6) (v := 6) (s := [x0, some (.val (tN l)), x2, x3, some (.val (nI c)), some (.val (nI o)), x6]) (s0 := [x0, some (.val (tN l)), x2, x3, some (.val (nI c)), some (.val (nI o)), x6]) nI (fun x => decide (o < x) && decide (x < c)) nI
    (bs := l) (by simp) (by simp) (fun x hx => by
      by_cases q : o < x
      · simp [tstR, q]
      · simp [tstR, q]) (fun x hx _ => by simp [eltR])
  have ol := odd_len2 ((l.filter fun x => decide (o < x) && decide (x < c)).map nI)
  have ob : badPair l c o = ((l.filter fun x => decide (o < x) && decide (x < c)).length % 2 == 1) := rfl
  rw [List.length_map] at ol
  rw [← ob] at ol
  cases q : badPair l c o with
  | true =>
    rw [q] at ol
    simp [-beq_iff_eq, lipBody, c1, bltD, binD_mod, ol]
  | false =>
    rw [q] at ol
    simp [-beq_iff_eq, lipBody, c1, bltD, binD_mod, ol]
theorem sp_law_is_pane (n m d : Nat) (l : List Nat) (hm : m ≤ 9) : callF T (n + 1) "_law_is_pane" [.val (.tup [.int m, .int d]), .val (tN l)] = .ok (.val (.bl (lawPaneB m d l)), []) := by
  rw [callF_run (fd := d__law_is_pane) rfl]
  have hb : d__law_is_pane = { np := 2, ns := 7, io := false, body := [.asg (.name 2) (.comp .rng1 (.idx (.var 0) (.cst (.int 0))) (.cst .non) (.name 6) true (.cmp .notIn (.var 6) (.var 1)) (.var 6)), .for_ .enum (.var 2) (.cst .non) (.tup [3, 4]) [.for_ .seq (.slc (.var 2) false true (.cst .non) (.var 3)) (.cst .non) (.name 5) lipBody], .ret (.cmp .eq (.blt "len" [(.var 1)]) (.idx (.var 0) (.cst (.int 1))))] } := rfl
  rw [hb]
  have a0 : L2.atI [D.int m, D.int d] 0 = some (.int m) := rfl
  have a1 : L2.atI [D.int m, D.int d] 1 = some (.int d) := rfl
  have ei : itemsD .rng1 (.int m) .non = some ((List.range m).map nI) := itm_rng1 (by omega)
  have c1 := comp_ifB (C := calT T n) (k := .rng1) (e1 := .idx (.var 0) (.cst (.int 0))) (e2 := .cst .non) (c := .cmp .notIn (.var 6) (.var 1)) (elt := .var 6) (v := 6) (s := [some (.val (.tup [.int m, .int d])), some (.val (tN l)), none, none, none, none, none]) (s0 := [some (.val (.tup [.int m, .int d])), some (.val (tN l)), none, none, none, none, none]) nI (fun c => !l.contains c) nI
    (bs := List.range m) (by simp [idxD, atD, a0, ei]) (by simp) (fun x hx => by
      have := notin_tN x l
      simp [tstR, this]) (fun x hx _ => by simp [eltR])
  have ee : itemsD .enum (.lst ((apart m l).map nI)) .non = some ((enumN 0 (apart m l)).map dec2) := by
    rw [← enumD_nI]; rfl
  have key := for_find (set := setF (.tup [3, 4])) (body := bodyF (calT T n) [.for_ .seq (.slc (.var 2) false true (.cst .non) (.var 3)) (.cst .non) (.name 5) lipBody]) (fun s => ∃ y3 y4 y5, s = [some (.val (.tup [.int m, .int d])), some (.val (tN l)), some (.val (.lst ((apart m l).map nI))), y3, y4, y5, none] ∧ nio y3 = true ∧ nio y4 = true ∧ nio y5 = true)
    dec2 (badAt l (apart m l)) (.val (.bl false)) (enumN 0 (apart m l)) [some (.val (.tup [.int m, .int d])), some (.val (tN l)), some (.val (.lst ((apart m l).map nI))), none, none, none, none] ⟨none, none, none, rfl, rfl, rfl, rfl⟩ (fun s p _ hI => by
      obtain ⟨y3, y4, y5, rfl, g3, g4, g5⟩ := hI
      refine ⟨[some (.val (.tup [.int m, .int d])), some (.val (tN l)), some (.val (.lst ((apart m l).map nI))), some (.val (nI p.1)), some (.val (nI p.2)), y5, none], by simp [setF, setT, setNs, setN_nio, g3, g4], ?_⟩
      have inn := for_find (set := setF (.name 5)) (body := bodyF (calT T n) lipBody) (fun s => ∃ z5, s = [some (.val (.tup [.int m, .int d])), some (.val (tN l)), some (.val (.lst ((apart m l).map nI))), some (.val (nI p.1)), some (.val (nI p.2)), z5, none] ∧ nio z5 = true) nI (badPair l p.2) (.val (.bl false)) ((apart m l).take p.1)
        [some (.val (.tup [.int m, .int d])), some (.val (tN l)), some (.val (.lst ((apart m l).map nI))), some (.val (nI p.1)), some (.val (nI p.2)), y5, none] ⟨y5, rfl, g5⟩ (fun s o _ hI => by
          obtain ⟨z5, rfl, k5⟩ := hI
          refine ⟨[some (.val (.tup [.int m, .int d])), some (.val (tN l)), some (.val (.lst ((apart m l).map nI))), some (.val (nI p.1)), some (.val (nI p.2)), some (.val (nI o)), none], by simp [setN_nio, k5], ?_⟩
          have := lip_body n o p.2 l (some (.val (.tup [.int m, .int d]))) (some (.val (.lst ((apart m l).map nI)))) (some (.val (nI p.1))) none
          cases q : badPair l p.2 o with
          | true =>
            rw [q] at this
            exact .inl ⟨rfl, _, this⟩
          | false =>
            rw [q] at this
            exact .inr ⟨rfl, _, this, _, rfl, rfl⟩)
      have ct := cut_take ((apart m l).map nI) p.1
      rw [← List.map_take] at ct
      rcases inn with ⟨h1, s', h2⟩ | ⟨h1, s', h2, h3⟩
      · refine .inl ⟨h1, s', ?_⟩
        simp [-List.map_take, bodyF, optI, slcD, ct]
        rw [h2]
        rfl
      · obtain ⟨z5, rfl, k5⟩ := h3
        refine .inr ⟨h1, _, ?_, some (.val (nI p.1)), some (.val (nI p.2)), z5, rfl, rfl, rfl, k5⟩
        simp [-List.map_take, bodyF, optI, slcD, ct]
        rw [h2]
        rfl)
  have q := nat_beq l.length d
  have c1' : denE (calT T n) (.comp .rng1 (.idx (.var 0) (.cst (.int 0))) (.cst .non) (.name 6) true (.cmp .notIn (.var 6) (.var 1)) (.var 6)) [some (.val (.tup [.int m, .int d])), some (.val (tN l)), none, none, none, none, none] = .ok (.fresh ((apart m l).map nI), [some (.val (.tup [.int m, .int d])), some (.val (tN l)), none, none, none, none, none]) := c1
  rcases key with ⟨h1, s', h2⟩ | ⟨h1, s', h2, y3, y4, y5, rfl, _⟩
  · have h3 : lawPaneB m d l = false := by unfold lawPaneB; rw [h1]; rfl
    rw [h3]
    simp [-List.map_take, runF, argsOk, startD, S.isVal, c1', esc, ee, h2, leaveD, leaveO]
  · have h3 : lawPaneB m d l = (l.length == d) := by unfold lawPaneB; rw [h1]; rfl
    rw [h3]
    simp [-beq_iff_eq, runF, argsOk, startD, S.isVal, c1', esc, ee, h2, bltD, idxD, atD, a1, q, leaveD, leaveO]
theorem sp_law_panes (n m d : Nat) (hm : m ≤ 9) (hd : d ≤ 9) : callF T (n + 2) "_law_panes" [.val (.tup [.int m, .int d])] = .ok (.fresh (((allL m d).filter (lawPaneB m d)).map tN), []) := by
  rw [callF_run (fd := d__law_panes) rfl]
  have i1 : ioOf T "_law_lots" = false := rfl
  have i2 : ioOf T "_law_is_pane" = false := rfl
  have a0 : L2.atI [D.int m, D.int d] 0 = some (.int m) := rfl
  have a1 : L2.atI [D.int m, D.int d] 1 = some (.int d) := rfl
  have c1 := comp_ifB (C := calT T (n + 1)) (k := .seq) (e1 := .call "_law_lots" [(.idx (.var 0) (.cst (.int 0))), (.idx (.var 0) (.cst (.int 1)))]) (e2 := .cst .non) (c := .call "_law_is_pane" [(.var 0), (.var 1)]) (elt := .var 1) (v := 1) (s := [some (.val (.tup [.int m, .int d])), none]) (s0 := [some (.val (.tup [.int m, .int d])), none]) tN (lawPaneB m d) tN
    (bs := allL m d) (by
      rcases sp_law_lots n m d hm hd with h | h
      · simp [i1, idxD, atD, a0, a1, h]
      · simp [i1, idxD, atD, a0, a1, h]) (by simp) (fun l hl => by
      simp [tstR, i2, sp_law_is_pane n m d l (by omega)]) (fun l hl _ => by simp [eltR])
  simp [runF, d__law_panes, argsOk, startD, S.isVal, c1, leaveD, leaveO]
end Law
namespace Law
open Cv
theorem cmpE_lN (a b : List Nat) : cmpD .eq (.lst (a.map nI)) (.lst (b.map nI)) = some (a == b) := by
  have h : ∀ l : List Nat, dle 60 (.lst (l.map nI)) = true := fun l => dles_nI 59 l
  simp only [cmpD, h, Bool.and_self, if_true, eqD, eqDs_nI]
def hasB (p l : List Nat) : Bool := (l.filter fun c => !p.contains c) == []
theorem sp_law_has (n : Nat) (p l : List Nat) : callF T (n + 1) "_law_has" [.val (tN p), .val (tN l)] = .ok (.val (.bl (hasB p l)), []) := by
  rw [callF_run (fd := d__law_has) rfl]
  have c1 := comp_ifB (C := calT T n) (k := .seq) (e1 := .var 1) (e2 := .cst .non) (c := .cmp .notIn (.var 2) (.var 0)) (elt := .var 2) (v := 2) (s := [some (.val (tN p)), some (.val (tN l)), none]) (s0 := [some (.val (tN p)), some (.val (tN l)), none]) nI (fun c => !p.contains c) nI
    (bs := l) (by simp) (by simp) (fun x hx => by
      have := notin_tN x p
      simp [tstR, this]) (fun x hx _ => by simp [eltR])
  have ce : cmpD .eq (.lst ((l.filter fun c => !p.contains c).map nI)) (.lst []) = some (hasB p l) := cmpE_lN _ []
  generalize (l.filter fun c => !p.contains c).map nI = A at c1 ce
  simp [runF, d__law_has, argsOk, startD, S.isVal, c1, ce, leaveD, leaveO]
end Law
namespace Law
open Cv
theorem cnt_ok (N : Nat) (ns : List Int) (s : DEnv) (h : s[0]? = some (some (.val (.scr ns)))) : ∃ c : Nat, c ≤ 2 ∧ denE (calT T N) (.blt "max" [(.cst (.int 1)), (.blt "min" [(.blt "len" [(.var 0)]), (.cst (.int 2))])]) s = .ok (.val (.int c), s) := by
  by_cases q : (2 : Int) < ns.length
  · refine ⟨2, by omega, ?_⟩
    simp [h, bltD, q]
  · by_cases q2 : (1 : Int) < ns.length
    · refine ⟨ns.length, by omega, ?_⟩
      simp [h, bltD, q, q2]
    · refine ⟨1, by omega, ?_⟩
      simp [h, bltD, q, q2]
def depth : Nat := 20
abbrev crv (m d : Nat) : D := .tup [.int m, .int d]
structure Crv (m d : Nat) : Prop where
  d1 : 1 ≤ d
  d6 : d ≤ 6
  m1 : d + 1 ≤ m
  m9 : m ≤ 9
theorem sp_curveN (n : Nat) (a b : Int) : Ok (callF T (n + 3) "_law_curve" [.io [.int a, .int b]]) fun r => ∃ (m d : Nat) (a' b' : Int), r = (.val (crv m d), [.int a', .int b']) ∧ Crv m d := by
  refine (sp_curve n a b).imp fun r hr => ?_
  obtain ⟨m, d, a', b', rfl, h1, h2, h3, h4⟩ := hr
  obtain ⟨m, rfl⟩ : ∃ k : Nat, m = k := ⟨m.toNat, by omega⟩
  obtain ⟨d, rfl⟩ : ∃ k : Nat, d = k := ⟨d.toNat, by omega⟩
  exact ⟨m, d, a', b', rfl, by omega, by omega, by omega, by omega⟩
end Law
namespace Law
open Cv
def gapsOk (p : Nat × Nat) : Bool := (fun R => (List.range (p.1 + 1)).all fun k => (allL p.1 k).all fun l => (faceB p.1 p.2 l == !((R.filter fun q => hasB q l) == [])) && (paneB p.1 p.2 l == R.any fun q => q == l) && l.length == k) ((allL p.1 p.2).filter (lawPaneB p.1 p.2))
theorem gaps_all : curvesL.all gapsOk = true := by decide +kernel
abbrev rowsL (m d : Nat) : List (List Nat) := (allL m d).filter (lawPaneB m d)
theorem gaps {m d k : Nat} (h : Crv m d) (hk : k ≤ m) {l : List Nat} (hl : l ∈ allL m k) : faceB m d l = !(((rowsL m d).filter fun q => hasB q l) == []) ∧ paneB m d l = ((rowsL m d).any fun q => q == l) ∧ l.length = k := by
  have := List.all_eq_true.mp (List.all_eq_true.mp (List.all_eq_true.mp gaps_all (m, d) (curve_mem h.d1 h.d6 h.m1 h.m9)) k (List.mem_range.mpr (by show k < m + 1; omega))) l hl
  simp only [Bool.and_eq_true, beq_iff_eq] at this
  exact ⟨this.1.1, this.1.2, this.2⟩
theorem isin_lT (a : List Nat) (b : List (List Nat)) : cmpD .isIn (tN a) (.lst (b.map tN)) = some (b.any fun q => q == a) := by
  have h1 : dle 60 (tN a) = true := dle_tN 59 a
  have h2 : dles 60 (b.map tN) = true := dles_tN 59 b
  simp only [cmpD, h1, h2, Bool.and_self, if_true, List.any_map]
  congr 1
  apply List.any_congr rfl
  intro x
  exact eqD_tN x a
theorem sum_odd : ∀ (bs : List (List Nat)), (bs.map fun b => ((b.length : Int) % 2)).sum = ((bs.filter oddB).length : Int)
  | [] => rfl
  | b :: bs => by
    have ih := sum_odd bs
    simp only [List.map_cons, List.sum_cons, ih, List.filter_cons]
    by_cases q : b.length % 2 = 1
    · have e : oddB b = true := by simp [oddB, q]
      rw [e]; simp; omega
    · have e : oddB b = false := by simp [oddB, q]
      rw [e]; simp; omega
theorem ints_map {α : Type} (g : α → Int) : ∀ (bs : List α), intsOf (bs.map fun b => D.int (g b)) = some (bs.map g)
  | [] => rfl
  | b :: bs => by simp [intsOf, ints_map g bs]
theorem sum_blt {α : Type} (g : α → Int) (bs : List α) : bltD "sum" [.lst (bs.map fun b => D.int (g b))] = some (.val (.int (bs.map g).sum)) := by
  simp [bltD, ints_map]
def s1 : IS := .asg (.name 7) (.cmp .ne (.comp .seq (.var 4) (.cst .non) (.name 11) true (.call "_law_has" [(.var 11), (.var 6)]) (.var 11)) (.lst []))
def s2 : IS := .ife (.or_ (.cmp .ne (.call "is_pane" [(.var 6), (.var 3)]) (.cmp .isIn (.var 6) (.var 4))) (.cmp .ne (.call "is_face" [(.var 6), (.var 3)]) (.var 7))) [.ret (.cst (.bl false))] []
def s3 : IS := .asg (.name 8) (.call "odd_inner" [(.var 3), (.var 6)])
def s4 : IS := .ife (.cmp .ne (.var 7) (.and_ (.cmp .le (.var 5) (.idx (.var 3) (.cst (.int 1)))) (.cmp .le (.var 8) (.bin .sub (.idx (.var 3) (.cst (.int 1))) (.var 5))))) [.ret (.cst (.bl false))] []
def s5 : IS := .asg (.name 9) (.comp .seq (.call "blocks" [(.var 3), (.var 6)]) (.cst .non) (.name 10) true (.and_ (.cmp .gt (.idx (.var 10) (.cst (.int 0))) (.cst (.int 0))) (.cmp .lt (.idx (.var 10) (.neg (.cst (.int 1)))) (.bin .sub (.idx (.var 3) (.cst (.int 0))) (.cst (.int 1))))) (.var 10))
def s6 : IS := .ife (.cmp .ne (.var 8) (.blt "sum" [(.comp .seq (.var 9) (.cst .non) (.name 10) false (.cst .non) (.bin .mod (.blt "len" [(.var 10)]) (.cst (.int 2))))])) [.ret (.cst (.bl false))] []
section
variable (n m d k : Nat) (l : List Nat) (x0 x1 x2 : Option S)
theorem s1_ok (R : List (List Nat)) (y4 x7 x8 x9 x10 x11 : Option S) (n7 : nio x7 = true) (h4 : y4 = some (.val (.lst (R.map tN))) ∨ y4 = some (.own (R.map tN))) :
    denS (calT T (n + 1)) s1 [x0, x1, x2, some (.val (crv m d)), y4, some (.val (nI k)), some (.val (tN l)), x7, x8, x9, x10, x11] = .ok (.next [x0, x1, x2, some (.val (crv m d)), some (.val (.lst (R.map tN))), some (.val (nI k)), some (.val (tN l)), some (.val (.bl (!((R.filter fun q => hasB q l) == [])))), x8, x9, x10, x11]) := by
  have i1 : ioOf T "_law_has" = false := rfl
  have c1 := comp_ifB (C := calT T (n + 1)) (k := .seq) (e1 := .var 4) (e2 := .cst .non) (c := .call "_law_has" [(.var 11), (.var 6)]) (elt := .var 11) (v := 11) (s := [x0, x1, x2, some (.val (crv m d)), y4, some (.val (nI k)), some (.val (tN l)), x7, x8, x9, x10, x11]) (s0 := [x0, x1, x2, some (.val (crv m d)), some (.val (.lst (R.map tN))), some (.val (nI k)), some (.val (tN l)), x7, x8, x9, x10, x11]) tN (fun p => hasB p l) tN
    (bs := R) (by rcases h4 with rfl | rfl <;> simp [esc]) (by simp) (fun p hp => by
      simp [tstR, i1, sp_law_has n p l]) (fun x hx _ => by simp [eltR])
  have ce : cmpD .ne (.lst ((R.filter fun p => hasB p l).map tN)) (.lst []) = some (!((R.filter fun q => hasB q l) == [])) := cmp_lT _ []
  generalize (R.filter fun p => hasB p l).map tN = A at c1 ce
  simp [s1, c1, ce, setN_nio, n7]
theorem s2_ok (h : Crv m d) (hk : k ≤ m) (hl : l ∈ allL m k) (x8 x9 x10 x11 : Option S) :
    denS (calT T (n + 4)) s2 [x0, x1, x2, some (.val (crv m d)), some (.val (.lst ((rowsL m d).map tN))), some (.val (nI k)), some (.val (tN l)), some (.val (.bl (faceB m d l))), x8, x9, x10, x11] = .ok (.next [x0, x1, x2, some (.val (crv m d)), some (.val (.lst ((rowsL m d).map tN))), some (.val (nI k)), some (.val (tN l)), some (.val (.bl (faceB m d l))), x8, x9, x10, x11]) := by
  have i1 : ioOf T "is_pane" = false := rfl
  have i2 : ioOf T "is_face" = false := rfl
  have h9 := h.m9
  have b1 := sp_is_pane n m d k l h.d1 h.d6 h.m1 h.m9 (by omega) hl
  have b2 := sp_is_face n m d k l h.d1 h.d6 h.m1 h.m9 (by omega) hl
  have e1 := isin_lT l (rowsL m d)
  rw [← (gaps h hk hl).2.1] at e1
  have e2 : ∀ b : Bool, cmpD .ne (.bl b) (.bl b) = some false := fun b => by cases b <;> rfl
  generalize (rowsL m d).map tN = A at e1
  generalize faceB m d l = B at b2
  generalize paneB m d l = P at b1 e1
  simp [s2, i1, i2, b1, b2, e1, e2]
theorem s3_ok (h : Crv m d) (hk : k ≤ m) (hl : l ∈ allL m k) (x4 x7 x8 x9 x10 x11 : Option S) (n8 : nio x8 = true) :
    denS (calT T (n + 6)) s3 [x0, x1, x2, some (.val (crv m d)), x4, some (.val (nI k)), some (.val (tN l)), x7, x8, x9, x10, x11] = .ok (.next [x0, x1, x2, some (.val (crv m d)), x4, some (.val (nI k)), some (.val (tN l)), x7, some (.val (nI (oddN m l))), x9, x10, x11]) := by
  have i1 : ioOf T "odd_inner" = false := rfl
  have h9 := h.m9
  have h1 := h.d1
  have h6 := h.d6
  have hm := h.m1
  obtain ⟨hp, hx⟩ := allL_ok h9 (by omega) hl
  have hle := ((allL_len h9 (by omega)).2 l hl).1
  have b1 := sp_odd_inner n m d l (by omega) (by omega) (by omega) (by omega) (by omega) hp hx
  have e : oddN m l = (((l.foldl bstep []).filter (inB m)).filter oddB).length := rfl
  rw [← e] at b1
  simp [s3, i1, b1, setN_nio, n8]
theorem s4_ok (hlen : l.length = k) (x4 x6 x9 x10 x11 : Option S) :
    denS (calT T n) s4 [x0, x1, x2, some (.val (crv m d)), x4, some (.val (nI k)), x6, some (.val (.bl (faceB m d l))), some (.val (nI (oddN m l))), x9, x10, x11] = .ok (.next [x0, x1, x2, some (.val (crv m d)), x4, some (.val (nI k)), x6, some (.val (.bl (faceB m d l))), some (.val (nI (oddN m l))), x9, x10, x11]) := by
  have a1 : L2.atI [D.int m, D.int d] 1 = some (.int d) := rfl
  have e2 : ∀ b : Bool, cmpD .ne (.bl b) (.bl b) = some false := fun b => by cases b <;> rfl
  have hf : faceB m d l = (decide ((k : Int) ≤ d) && decide (((oddN m l : Nat) : Int) ≤ (d : Int) - (k : Int))) := by
    unfold faceB
    rw [hlen, Bool.eq_iff_iff]
    simp only [Bool.and_eq_true, decide_eq_true_eq]
    omega
  rw [hf]
  generalize oddN m l = z
  by_cases q : (k : Int) ≤ d
  · simp [s4, idxD, atD, a1, q, e2]
  · simp [s4, idxD, atD, a1, q, e2]
theorem s5_ok (h : Crv m d) (hk : k ≤ m) (hl : l ∈ allL m k) (x4 x5 x7 x8 x9 x10 x11 : Option S) (n9 : nio x9 = true) :
    denS (calT T (n + 6)) s5 [x0, x1, x2, some (.val (crv m d)), x4, x5, some (.val (tN l)), x7, x8, x9, x10, x11] = .ok (.next [x0, x1, x2, some (.val (crv m d)), x4, x5, some (.val (tN l)), x7, x8, some (.own (((l.foldl bstep []).filter (inB m)).map tN)), x10, x11]) := by
  have i1 : ioOf T "blocks" = false := rfl
  have h9 := h.m9
  have h1 := h.d1
  have h6 := h.d6
  have hm := h.m1
  obtain ⟨hp, hx⟩ := allL_ok h9 (by omega) hl
  have hle := ((allL_len h9 (by omega)).2 l hl).1
  have b1 := sp_blocks n m d l (by omega) (by omega) (by omega) (by omega) (by omega) hp hx
  have hne := (sp_blocks_of n l (by omega)).2
  have a0' : L2.atI [D.int m, D.int d] 0 = some (.int m) := rfl
  have c1 := comp_ifB (C := calT T (n + 6)) (k := .seq) (e1 := .call "blocks" [(.var 3), (.var 6)]) (e2 := .cst .non) (c := .and_ (.cmp .gt (.idx (.var 10) (.cst (.int 0))) (.cst (.int 0))) (.cmp .lt (.idx (.var 10) (.neg (.cst (.int 1)))) (.bin .sub (.idx (.var 3) (.cst (.int 0))) (.cst (.int 1))))) (elt := .var 10) (v := 10) (s := [x0, x1, x2, some (.val (crv m d)), x4, x5, some (.val (tN l)), x7, x8, x9, x10, x11]) (s0 := [x0, x1, x2, some (.val (crv m d)), x4, x5, some (.val (tN l)), x7, x8, x9, x10, x11]) tN (inB m) tN
    (bs := l.foldl bstep []) (by simp [i1, b1]) (by simp) (fun b hb => by
      have h0 := hne b hb
      obtain ⟨x, r, rfl⟩ : ∃ x r, b = x :: r := by cases b with | nil => exact absurd rfl h0 | cons x r => exact ⟨x, r, rfl⟩
      obtain ⟨i, z, e⟩ : ∃ i z, x :: r = i ++ [z] := by
        rcases snoc_cases (x :: r) with h | h
        · cases h
        · exact h
      have a2 : L2.atI ((x :: r).map nI) (-1) = some (nI z) := by rw [e, List.map_append]; exact atI_last _ _
      have a3 : (x :: r).getLastD 0 = z := by rw [e]; simp
      have a4 : inB m (x :: r) = (decide (0 < x) && decide (z + 1 < m)) := by unfold inB; rw [a3]; rfl
      rw [a4]
      have a1 := at0 x r
      by_cases q : 0 < x
      · simp [-List.map_cons, tstR, idxD, atD, a1, a2, a0', q]
        omega
      · simp [-List.map_cons, tstR, idxD, atD, a1, a2, a0', q]) (fun b hb _ => by simp [eltR])
  simp [s5, c1, setN_nio, n9]
theorem s6_ok (x3 x4 x5 x6 x7 x10 x11 : Option S) :
    denS (calT T n) s6 [x0, x1, x2, x3, x4, x5, x6, x7, some (.val (nI (oddN m l))), some (.own (((l.foldl bstep []).filter (inB m)).map tN)), x10, x11] = .ok (.next [x0, x1, x2, x3, x4, x5, x6, x7, some (.val (nI (oddN m l))), some (.val (.lst (((l.foldl bstep []).filter (inB m)).map tN))), x10, x11]) := by
  have e : oddN m l = (((l.foldl bstep []).filter (inB m)).filter oddB).length := rfl
  rw [e]
  generalize (l.foldl bstep []).filter (inB m) = bs
  have c2 := comp_noB (C := calT T n) (k := .seq) (e1 := .var 9) (e2 := .cst .non) (c := .cst .non) (elt := .bin .mod (.blt "len" [(.var 10)]) (.cst (.int 2))) (v := 10) (s := [x0, x1, x2, x3, x4, x5, x6, x7, some (.val (nI (bs.filter oddB).length)), some (.own (bs.map tN)), x10, x11]) (s0 := [x0, x1, x2, x3, x4, x5, x6, x7, some (.val (nI (bs.filter oddB).length)), some (.val (.lst (bs.map tN))), x10, x11]) tN (fun b => D.int ((b.length : Int) % 2))
    (bs := bs) (by simp [esc]) (by simp) (fun b hb => by simp [eltR, bltD, binD_mod])
  have e1 := sum_blt (fun b : List Nat => (b.length : Int) % 2) bs
  rw [sum_odd] at e1
  generalize (bs.map fun b => D.int ((b.length : Int) % 2)) = A at c2 e1
  simp [s6, c2, e1]
end
end Law
namespace Law
open Cv
def in06 : List IS := [s1, s2, s3, s4, s5, s6]
theorem in06_ok (n m d k : Nat) (l : List Nat) (x0 x1 x2 : Option S) (h : Crv m d) (hk : k ≤ m) (hl : l ∈ allL m k) (y4 x7 x8 x9 x10 x11 : Option S) (h4 : y4 = some (.val (.lst ((rowsL m d).map tN))) ∨ y4 = some (.own ((rowsL m d).map tN))) (n7 : nio x7 = true) (n8 : nio x8 = true) (n9 : nio x9 = true) :
    ∃ z7 z8 z9, denSs (calT T (n + 6)) in06 [x0, x1, x2, some (.val (crv m d)), y4, some (.val (nI k)), some (.val (tN l)), x7, x8, x9, x10, x11] = .ok (.next [x0, x1, x2, some (.val (crv m d)), some (.val (.lst ((rowsL m d).map tN))), some (.val (nI k)), some (.val (tN l)), z7, z8, z9, x10, x11]) ∧ nio z7 = true ∧ nio z8 = true ∧ nio z9 = true := by
  obtain ⟨g1, g2, g3⟩ := gaps h hk hl
  have e1 := s1_ok (n + 5) m d k l x0 x1 x2 (rowsL m d) y4 x7 x8 x9 x10 x11 n7 h4
  rw [← g1] at e1
  have e2 := s2_ok (n + 2) m d k l x0 x1 x2 h hk hl x8 x9 x10 x11
  have e3 := s3_ok n m d k l x0 x1 x2 h hk hl (some (.val (.lst ((rowsL m d).map tN)))) (some (.val (.bl (faceB m d l)))) x8 x9 x10 x11 n8
  have e4 := s4_ok (n + 6) m d k l x0 x1 x2 g3 (some (.val (.lst ((rowsL m d).map tN)))) (some (.val (tN l))) x9 x10 x11
  have e5 := s5_ok n m d k l x0 x1 x2 h hk hl (some (.val (.lst ((rowsL m d).map tN)))) (some (.val (nI k))) (some (.val (.bl (faceB m d l)))) (some (.val (nI (oddN m l)))) x9 x10 x11 n9
  have e6 := s6_ok (n + 6) m l x0 x1 x2 (some (.val (crv m d))) (some (.val (.lst ((rowsL m d).map tN)))) (some (.val (nI k))) (some (.val (tN l))) (some (.val (.bl (faceB m d l)))) x10 x11
  refine ⟨some (.val (.bl (faceB m d l))), some (.val (nI (oddN m l))), some (.val (.lst (((l.foldl bstep []).filter (inB m)).map tN))), ?_, rfl, rfl, rfl⟩
  unfold in06
  rw [dSs_cons, e1, Cv.R.bindOk]
  show denSs _ _ _ = _
  rw [dSs_cons, e2, Cv.R.bindOk]
  show denSs _ _ _ = _
  rw [dSs_cons, e3, Cv.R.bindOk]
  show denSs _ _ _ = _
  rw [dSs_cons, e4, Cv.R.bindOk]
  show denSs _ _ _ = _
  rw [dSs_cons, e5, Cv.R.bindOk]
  show denSs _ _ _ = _
  rw [dSs_cons, e6, Cv.R.bindOk]
  show denSs _ _ _ = _
  rw [dSs_nil]
def size06 : List IS := [.for_ .seq (.call "_law_lots" [(.idx (.var 3) (.cst (.int 0))), (.var 5)]) (.cst .non) (.name 6) in06]
theorem size06_ok (n m d k : Nat) (x0 x1 x2 : Option S) (h : Crv m d) (hk : k ≤ m) (y4 x6 x7 x8 x9 x10 x11 : Option S) (h4 : y4 = some (.val (.lst ((rowsL m d).map tN))) ∨ y4 = some (.own ((rowsL m d).map tN))) (n6 : nio x6 = true) (n7 : nio x7 = true) (n8 : nio x8 = true) (n9 : nio x9 = true) :
    Ok (denSs (calT T (n + 6)) size06 [x0, x1, x2, some (.val (crv m d)), y4, some (.val (nI k)), x6, x7, x8, x9, x10, x11]) fun o => ∃ z4 z6 z7 z8 z9, o = .next [x0, x1, x2, some (.val (crv m d)), z4, some (.val (nI k)), z6, z7, z8, z9, x10, x11] ∧ (z4 = some (.val (.lst ((rowsL m d).map tN))) ∨ z4 = some (.own ((rowsL m d).map tN))) ∧ nio z6 = true ∧ nio z7 = true ∧ nio z8 = true ∧ nio z9 = true := by
  have i1 : ioOf T "_law_lots" = false := rfl
  have h9 := h.m9
  have a0 : L2.atI [D.int m, D.int d] 0 = some (.int m) := rfl
  have it : itR .seq (denE (calT T (n + 6)) (.call "_law_lots" [(.idx (.var 3) (.cst (.int 0))), (.var 5)])) (denE (calT T (n + 6)) (.cst .non)) [x0, x1, x2, some (.val (crv m d)), y4, some (.val (nI k)), x6, x7, x8, x9, x10, x11] = .ok ((allL m k).map tN, [x0, x1, x2, some (.val (crv m d)), y4, some (.val (nI k)), x6, x7, x8, x9, x10, x11]) := by
    rcases sp_law_lots (n + 5) m k h9 (by omega) with e | e
    · simp [i1, idxD, atD, a0, e]
    · simp [i1, idxD, atD, a0, e]
  unfold size06
  rw [dSs_cons, dS_for, it, Cv.R.bindOk]
  refine Ok.bind ?_
  refine (for_ok (fun s => ∃ z4 z6 z7 z8 z9, s = [x0, x1, x2, some (.val (crv m d)), z4, some (.val (nI k)), z6, z7, z8, z9, x10, x11] ∧ (z4 = some (.val (.lst ((rowsL m d).map tN))) ∨ z4 = some (.own ((rowsL m d).map tN))) ∧ nio z6 = true ∧ nio z7 = true ∧ nio z8 = true ∧ nio z9 = true) ⟨y4, x6, x7, x8, x9, rfl, h4, n6, n7, n8, n9⟩ fun s x hx hI => ?_).imp fun o ho => ?_
  · obtain ⟨z4, z6, z7, z8, z9, rfl, g4, g6, g7, g8, g9⟩ := hI
    obtain ⟨l, hl, rfl⟩ := List.mem_map.mp hx
    obtain ⟨w7, w8, w9, e, f7, f8, f9⟩ := in06_ok n m d k l x0 x1 x2 h hk hl z4 z7 z8 z9 x10 x11 g4 g7 g8 g9
    exact ⟨_, by simp [setN_nio, g6] <;> rfl, _, e, _, _, w7, w8, w9, rfl, .inl rfl, rfl, f7, f8, f9⟩
  · obtain ⟨s', rfl, z4, z6, z7, z8, z9, rfl, g4, g6, g7, g8, g9⟩ := ho
    simp
    exact ⟨_, _, _, _, _, ⟨rfl, rfl, rfl, rfl, rfl⟩, g4, g6, g7, g8, g9⟩
def outer06 : List IS := [.asg (.name 2) (.call "_law_box" [(.var 0), (.var 1)]), .asg (.name 3) (.callIo "_law_curve" 2 []), .asg (.name 4) (.call "_law_panes" [(.var 3)]), .for_ .rng1 (.bin .add (.idx (.var 3) (.cst (.int 0))) (.cst (.int 1))) (.cst .non) (.name 5) size06]
def Inv06 (ns : List Int) (s : DEnv) : Prop := ∃ x1 x2 x3 x4 x5 x6 x7 x8 x9 x10 x11, s = [some (.val (.scr ns)), x1, x2, x3, x4, x5, x6, x7, x8, x9, x10, x11] ∧ nio x1 = true ∧ nio x2 = true ∧ nio x3 = true ∧ nio x4 = true ∧ nio x5 = true ∧ nio x6 = true ∧ nio x7 = true ∧ nio x8 = true ∧ nio x9 = true
theorem outer06_ok (n : Nat) (ns : List Int) (k : Nat) (x2 x3 x4 x5 x6 x7 x8 x9 x10 x11 : Option S) (n2 : nio x2 = true) (n3 : nio x3 = true) (n4 : nio x4 = true) (n5 : nio x5 = true) (n6 : nio x6 = true) (n7 : nio x7 = true) (n8 : nio x8 = true) (n9 : nio x9 = true) :
    Ok (denSs (calT T (n + 6)) outer06 [some (.val (.scr ns)), some (.val (.int k)), x2, x3, x4, x5, x6, x7, x8, x9, x10, x11]) (nextI (Inv06 ns)) := by
  obtain ⟨_, h1, a, b, rfl⟩ := sp_box (n + 5) ns k
  obtain ⟨_, h2, m, d, a1, b1, rfl, hc⟩ := sp_curveN (n + 3) a b
  have h9 := hc.m9
  have h6 := hc.d6
  have b0 : callF T (n + 6) "_law_panes" [.val (crv m d)] = .ok (.fresh ((rowsL m d).map tN), []) := sp_law_panes (n + 4) m d h9 (by omega)
  have i1 : ioOf T "_law_box" = false := rfl
  have i2 : ioOf T "_law_curve" = true := rfl
  have i3 : ioOf T "_law_panes" = false := rfl
  have a0 : L2.atI [D.int m, D.int d] 0 = some (.int m) := rfl
  have ei : itemsD .rng1 (.int ((m : Int) + 1)) .non = some ((List.range (m + 1)).map nI) := itm_rng1 (m := m + 1) (by omega)
  have hz : ∀ z4, (z4 = some (S.val (.lst ((rowsL m d).map tN))) ∨ z4 = some (.own ((rowsL m d).map tN))) → nio z4 = true := fun z4 q => by rcases q with rfl | rfl <;> rfl
  generalize hA : (rowsL m d).map tN = A at b0 hz
  simp [outer06, setN_nio, n2, n3, n4, n5, n6, i1, i2, i3, h1, h2, b0, ownAt, ownPut, idxD, atD, a0, ei, -List.map_map]
  refine Ok.bind ?_
  refine (for_ok (fun s => ∃ y4 y5 y6 y7 y8 y9, s = [some (.val (.scr ns)), some (.val (.int k)), some (.own [.int a1, .int b1]), some (.val (crv m d)), y4, y5, y6, y7, y8, y9, x10, x11] ∧ (y4 = some (.val (.lst A)) ∨ y4 = some (.own A)) ∧ nio y5 = true ∧ nio y6 = true ∧ nio y7 = true ∧ nio y8 = true ∧ nio y9 = true)
    ⟨_, x5, x6, x7, x8, x9, rfl, .inr rfl, n5, n6, n7, n8, n9⟩ fun s x hx hI => ?_).imp fun o ho => ?_
  · obtain ⟨y4, y5, y6, y7, y8, y9, rfl, g4, g5, g6, g7, g8, g9⟩ := hI
    obtain ⟨q, hq, rfl⟩ := List.mem_map.mp hx
    have hq2 := List.mem_range.mp hq
    refine ⟨_, by simp [setN_nio, g5] <;> rfl, ?_⟩
    refine (size06_ok n m d q (some (.val (.scr ns))) (some (.val (.int k))) (some (.own [.int a1, .int b1])) hc (by omega) y4 y6 y7 y8 y9 x10 x11 (by rw [hA]; exact g4) g6 g7 g8 g9).imp fun o ho => ?_
    obtain ⟨z4, z6, z7, z8, z9, rfl, f4, f6, f7, f8, f9⟩ := ho
    rw [hA] at f4
    exact ⟨z4, some (.val (nI q)), z6, z7, z8, z9, rfl, f4, rfl, f6, f7, f8, f9⟩
  · obtain ⟨s', rfl, y4, y5, y6, y7, y8, y9, rfl, g4, g5, g6, g7, g8, g9⟩ := ho
    simp
    exact ⟨_, _, _, y4, y5, y6, y7, y8, y9, x10, x11, rfl, rfl, rfl, rfl, hz y4 g4, g5, g6, g7, g8, g9⟩
end Law
namespace Law
open Cv
theorem law_plain : ∀ ns : List Int, ns.length ≤ 63 → ∃ ds, callF (tabOf Fs) (depth + 1) "law" [.val (.scr ns)] = .ok (.val (.bl true), ds) := by
  intro ns _
  rw [tab_eq]
  suffices h : Ok (callF T (14 + 6 + 1) "law" [.val (.scr ns)]) (fun r => r = (.val (.bl true), [])) by
    obtain ⟨_, e, rfl⟩ := h
    exact ⟨_, e⟩
  rw [callF_run (fd := d_law) rfl]
  have hb : d_law = { np := 1, ns := 12, io := false, body := [.for_ .rng1 (.blt "max" [(.cst (.int 1)), (.blt "min" [(.blt "len" [(.var 0)]), (.cst (.int 2))])]) (.cst .non) (.name 1) outer06, .ret (.cst (.bl true))] } := rfl
  rw [hb]
  refine run_val (args := [.scr ns]) rfl rfl ?_
  obtain ⟨c, hc, e⟩ := cnt_ok (14 + 6) ns [some (.val (.scr ns)), none, none, none, none, none, none, none, none, none, none, none] rfl
  have ei : itemsD .rng1 (.int c) .non = some ((List.range c).map nI) := itm_rng1 (by omega)
  simp only [dSs_cons, dS_for, itr_rng1]
  rw [show (List.map (fun d => some (S.val d)) [D.scr ns] ++ List.replicate (12 - [D.scr ns].length) none) = [some (.val (.scr ns)), none, none, none, none, none, none, none, none, none, none, none] from rfl, e]
  simp only [R.bindOk, esc_val, R.ofO_some, ei]
  repeat (with_reducible refine Ok.bind ?_)
  refine (for_ok (Inv06 ns) ⟨none, none, none, none, none, none, none, none, none, none, none, rfl, rfl, rfl, rfl, rfl, rfl, rfl, rfl, rfl, rfl⟩ fun s x hx hI => ?_).imp fun o ho => ?_
  · obtain ⟨x1, x2, x3, x4, x5, x6, x7, x8, x9, x10, x11, rfl, n1, n2, n3, n4, n5, n6, n7, n8, n9⟩ := hI
    obtain ⟨k, _, rfl⟩ := List.mem_map.mp hx
    exact ⟨_, by simp [setN_nio, n1], outer06_ok 14 ns k x2 x3 x4 x5 x6 x7 x8 x9 x10 x11 n2 n3 n4 n5 n6 n7 n8 n9⟩
  · obtain ⟨s', rfl, hI⟩ := ho
    simp [leaveO]
end Law
set_option maxHeartbeats 0
namespace Law
open PySem PySem.Spec L2 Cv PyProof.Rows
theorem g_is_from : FnGood sta rz i_is_from := ⟨⟨rfl, rfl, rfl, by decide +kernel, rfl, by decide +kernel, by decide +kernel⟩, rfl, rfl, by decide +kernel, fun _ _ _ _ _ _ us hl => match us, hl with | [_, _, _], _ => rfl⟩
theorem g_is_curve : FnGood sta rz i_is_curve := ⟨⟨rfl, rfl, rfl, by decide +kernel, rfl, by decide +kernel, by decide +kernel⟩, rfl, rfl, by decide +kernel, fun _ _ _ _ _ _ us hl => match us, hl with | [_], _ => rfl⟩
theorem g_need_curve : FnGood sta rz i_need_curve := ⟨⟨rfl, rfl, rfl, by decide +kernel, rfl, by decide +kernel, by decide +kernel⟩, rfl, rfl, by decide +kernel, fun _ _ _ _ _ _ us hl => match us, hl with | [_], _ => rfl⟩
theorem g_is_rising : FnGood sta rz i_is_rising := ⟨⟨rfl, rfl, rfl, by decide +kernel, rfl, by decide +kernel, by decide +kernel⟩, rfl, rfl, by decide +kernel, fun _ _ _ _ _ _ us hl => match us, hl with | [_], _ => rfl⟩
theorem g_is_lot_of : FnGood sta rz i_is_lot_of := ⟨⟨rfl, rfl, rfl, by decide +kernel, rfl, by decide +kernel, by decide +kernel⟩, rfl, rfl, by decide +kernel, fun _ _ _ _ _ _ us hl => match us, hl with | [_, _], _ => rfl⟩
theorem g_is_lot : FnGood sta rz i_is_lot := ⟨⟨rfl, rfl, rfl, by decide +kernel, rfl, by decide +kernel, by decide +kernel⟩, rfl, rfl, by decide +kernel, fun _ _ _ _ _ _ us hl => match us, hl with | [_, _], _ => rfl⟩
theorem g_need_lot : FnGood sta rz i_need_lot := ⟨⟨rfl, rfl, rfl, by decide +kernel, rfl, by decide +kernel, by decide +kernel⟩, rfl, rfl, by decide +kernel, fun _ _ _ _ _ _ us hl => match us, hl with | [_, _], _ => rfl⟩
theorem g_blocks_of : FnGood sta rz i_blocks_of := ⟨⟨rfl, rfl, rfl, by decide +kernel, rfl, by decide +kernel, by decide +kernel⟩, rfl, rfl, by decide +kernel, fun _ _ _ _ _ _ us hl => match us, hl with | [_], _ => rfl⟩
theorem g_blocks : FnGood sta rz i_blocks := ⟨⟨rfl, rfl, rfl, by decide +kernel, rfl, by decide +kernel, by decide +kernel⟩, rfl, rfl, by decide +kernel, fun _ _ _ _ _ _ us hl => match us, hl with | [_, _], _ => rfl⟩
theorem g_odd_of : FnGood sta rz i_odd_of := ⟨⟨rfl, rfl, rfl, by decide +kernel, rfl, by decide +kernel, by decide +kernel⟩, rfl, rfl, by decide +kernel, fun _ _ _ _ _ _ us hl => match us, hl with | [_, _], _ => rfl⟩
theorem g_odd_inner : FnGood sta rz i_odd_inner := ⟨⟨rfl, rfl, rfl, by decide +kernel, rfl, by decide +kernel, by decide +kernel⟩, rfl, rfl, by decide +kernel, fun _ _ _ _ _ _ us hl => match us, hl with | [_, _], _ => rfl⟩
theorem g_pane_of : FnGood sta rz i_pane_of := ⟨⟨rfl, rfl, rfl, by decide +kernel, rfl, by decide +kernel, by decide +kernel⟩, rfl, rfl, by decide +kernel, fun _ _ _ _ _ _ us hl => match us, hl with | [_, _], _ => rfl⟩
theorem g_face_of : FnGood sta rz i_face_of := ⟨⟨rfl, rfl, rfl, by decide +kernel, rfl, by decide +kernel, by decide +kernel⟩, rfl, rfl, by decide +kernel, fun _ _ _ _ _ _ us hl => match us, hl with | [_, _], _ => rfl⟩
theorem g_is_pane : FnGood sta rz i_is_pane := ⟨⟨rfl, rfl, rfl, by decide +kernel, rfl, by decide +kernel, by decide +kernel⟩, rfl, rfl, by decide +kernel, fun _ _ _ _ _ _ us hl => match us, hl with | [_, _], _ => rfl⟩
theorem g_is_face : FnGood sta rz i_is_face := ⟨⟨rfl, rfl, rfl, by decide +kernel, rfl, by decide +kernel, by decide +kernel⟩, rfl, rfl, by decide +kernel, fun _ _ _ _ _ _ us hl => match us, hl with | [_, _], _ => rfl⟩
theorem g__law_box : FnGood sta rz i__law_box := ⟨⟨rfl, rfl, rfl, by decide +kernel, rfl, by decide +kernel, by decide +kernel⟩, rfl, rfl, by decide +kernel, fun _ _ _ _ _ _ us hl => match us, hl with | [_, _], _ => rfl⟩
theorem g__law_more : FnGood sta rz i__law_more := ⟨⟨rfl, rfl, rfl, by decide +kernel, rfl, by decide +kernel, by decide +kernel⟩, rfl, rfl, by decide +kernel, fun _ _ _ _ _ _ us hl => match us, hl with | [_], _ => rfl⟩
theorem g__law_take : FnGood sta rz i__law_take := ⟨⟨rfl, rfl, rfl, by decide +kernel, rfl, by decide +kernel, by decide +kernel⟩, rfl, rfl, by decide +kernel, fun _ _ _ _ _ _ us hl => match us, hl with | [_, _], _ => rfl⟩
theorem g__law_curve : FnGood sta rz i__law_curve := ⟨⟨rfl, rfl, rfl, by decide +kernel, rfl, by decide +kernel, by decide +kernel⟩, rfl, rfl, by decide +kernel, fun _ _ _ _ _ _ us hl => match us, hl with | [_], _ => rfl⟩
theorem g__law_lots : FnGood sta rz i__law_lots := ⟨⟨rfl, rfl, rfl, by decide +kernel, rfl, by decide +kernel, by decide +kernel⟩, rfl, rfl, by decide +kernel, fun _ _ _ _ _ _ us hl => match us, hl with | [_, _], _ => rfl⟩
theorem g__law_is_pane : FnGood sta rz i__law_is_pane := ⟨⟨rfl, rfl, rfl, by decide +kernel, rfl, by decide +kernel, by decide +kernel⟩, rfl, rfl, by decide +kernel, fun _ _ _ _ _ _ us hl => match us, hl with | [_, _], _ => rfl⟩
theorem g__law_panes : FnGood sta rz i__law_panes := ⟨⟨rfl, rfl, rfl, by decide +kernel, rfl, by decide +kernel, by decide +kernel⟩, rfl, rfl, by decide +kernel, fun _ _ _ _ _ _ us hl => match us, hl with | [_], _ => rfl⟩
theorem g__law_has : FnGood sta rz i__law_has := ⟨⟨rfl, rfl, rfl, by decide +kernel, rfl, by decide +kernel, by decide +kernel⟩, rfl, rfl, by decide +kernel, fun _ _ _ _ _ _ us hl => match us, hl with | [_, _], _ => rfl⟩
theorem g_law : FnGood sta rz i_law := ⟨⟨rfl, rfl, rfl, by decide +kernel, rfl, by decide +kernel, by decide +kernel⟩, rfl, rfl, by decide +kernel, fun _ _ _ _ _ _ us hl => match us, hl with | [_], _ => rfl⟩
theorem good : ∀ f ∈ Fs, FnGood ⟨cs, Fs.map (·.name)⟩ rz f := by
  rw [sta_eq]
  intro f hf
  simp only [Fs, List.mem_cons, List.not_mem_nil, or_false] at hf
  rcases hf with rfl | rfl | rfl | rfl | rfl | rfl | rfl | rfl | rfl | rfl | rfl | rfl | rfl | rfl | rfl | rfl | rfl | rfl | rfl | rfl | rfl | rfl | rfl | rfl
  · exact g_is_from
  · exact g_is_curve
  · exact g_need_curve
  · exact g_is_rising
  · exact g_is_lot_of
  · exact g_is_lot
  · exact g_need_lot
  · exact g_blocks_of
  · exact g_blocks
  · exact g_odd_of
  · exact g_odd_inner
  · exact g_pane_of
  · exact g_face_of
  · exact g_is_pane
  · exact g_is_face
  · exact g__law_box
  · exact g__law_more
  · exact g__law_take
  · exact g__law_curve
  · exact g__law_lots
  · exact g__law_is_pane
  · exact g__law_panes
  · exact g__law_has
  · exact g_law
def fn : List He.DefD := Fs.map FnI.defD
def fa : List He.Fa := faOf Fs cs rz
abbrev R : PySem.W.OpenRow := PySem.W.OpenLaw.row PySem.Challenge.rw_curvefaces_k06_whole_gaps
abbrev hk : PySem.W.Hook := He.hookD 4 fa fn
def ob (s : PySem.W.SharedT) : He.AlD := He.obsDG 4 fa fn (HandSHeadRun.getT s)
theorem ob_eq (s : PySem.W.SharedT) : ob s = hk.obs s.abs := He.obsDG_eq (HandSHeadRun.getT_eq s)
def loose : List Str := (["CurveError", "NoCurve", "NoLot", "MOST_DEEP", "MOST_CORNERS", "is_from", "is_curve", "need_curve", "is_rising", "is_lot_of", "is_lot", "need_lot", "blocks_of", "blocks", "odd_of", "odd_inner", "pane_of", "face_of", "is_pane", "is_face", "_law_box", "_law_more", "_law_take", "_law_curve", "_law_lots", "_law_is_pane", "_law_panes", "_law_has"] : List Str)
theorem run (w : World) : HandSHeadRun.RunEq R (PySem.W.view R.prog [31]) hk ob 3000 loose w := by
  intro os
  kernel_rfl
end Law

open PySem PySem.W PySem.Calls PyProof.Rows in
theorem PySem.Challenge.cw_curvefaces_k06_whole_gaps_holds : PySem.Challenge.rw_curvefaces_k06_whole_gaps.Holds := by
  w_on; o_law
  refine HandSHeadRun.head_any (r := OpenLaw.row PySem.Challenge.rw_curvefaces_k06_whole_gaps) (q := view (OpenLaw.row PySem.Challenge.rw_curvefaces_k06_whole_gaps).prog [31]) (H := Law.hk) (ob := Law.ob) (M := 3000) (loose := Law.loose) (d := HandSHeadRun.topDef (OpenLaw.row PySem.Challenge.rw_curvefaces_k06_whole_gaps).prog 31) (kwd := []) Law.ob_eq
    (by kernel_rfl) (fun s => by kernel_rfl) Law.run (by kernel_rfl) (by kernel_rfl) (by kernel_rfl) (by rfl) (by first | assumption | decide +kernel) (by decide +kernel) ⟨rfl, rfl, rfl, rfl, rfl, by decide +kernel⟩ ?hw ?hc
  case hw => w_witness2
  case hc =>
    refine L2.walk_ofE (l := PySem.Challenge.rw_curvefaces_k06_whole_gaps) (n := 63) (k := Law.depth + 1) (x := PySem.Str.ofString "_law_script") (CX := L2.CX0) rfl (by decide) (by kernel_rfl) ⟨rfl, by decide, by decide⟩ ?F (fun _ _ _ _ z => z)
    intro w mg fa h Y G hmg0
    obtain ⟨K, KX, c⟩ := Y
    have hmg : mg (PySem.Str.ofString "law") = some (.ref fa) := by
      have e : (HandSHeadRun.topDef (OpenLaw.row PySem.Challenge.rw_curvefaces_k06_whole_gaps).prog 31).name = PySem.Str.ofString "law" := by kernel_rfl
      rw [← e]
      exact hmg0
    obtain ⟨fd, sp, hb, h1, h2⟩ := Cv.law_ok (P := (PySem.Challenge.rw_curvefaces_k06_whole_gaps).prog) (w := w) (n := Law.depth) (f := Law.i_law) KX G c (by decide +kernel) (by decide +kernel) Law.good (by unfold Law.Fs; repeat (first | exact List.mem_cons_self | apply List.mem_cons_of_mem)) rfl rfl hmg Law.law_plain
    exact ⟨K, fd, sp, KX, hb, h1, h2⟩

