import PyProof.Rows.All
import Wide.All
import OpenK.AllK
import Wide.FinOn
import KE.KStateDown
import Lean
import HandS.ForMost
import PyProof.ReprReads
import KE.KSortTupG
import HandS.Deep
import HandS.TupAny
import HandS.Flow
import HandS.IsInst
import HandS.Conv
import HandS.Rev
import HandS.SortInts
import HandS.Walk
import HandS.Wide
import HandS.ForExc
import HandS.HeadHook1
import HandS.Lambda
import HandS.ExcCtx
import HandS.TupSets
import HandS.Style
import KE.KRevSl
import KE.KTupSum
import HandS.Defaults
import HandS.Ends
import HandS.HeadEnd
import PyProof.ReprRoads
import HandS.RaiseMore
import KE.GoesMore
import PyProof.Draws
import HandS.HotCalls
import HandS.ExcIs
import HandS.EndBits
import HandS.EndTab
import HandS.HeadHook4
import HandS.Base
import HandS.Call
import HandS.More
import HandS.Words
import HandS.WordsExc
import HandS.Head0
import HandS.Head1
import HandS.Head2
import HandS.HeadHook2
import PySem.Challenge.RW_curvefaces_k10_beyond
set_option Elab.async false
set_option linter.all false
set_option maxRecDepth 100000
set_option maxRecDepth 100000
/-! Engine, part A: data, the intermediate language and what it means. -/
namespace Cv
open PySem

/-- data as trees; scr: the script itself (read only) -/
inductive D where
  | non | bl (b : Bool) | int (i : Int) | str (x : Str) | tup (ds : List D) | lst (ds : List D) | scr (ns : List Int) | fn (f : String)
/-- a slot of the frame: a value; a list that nobody else holds; the in-out list parameter -/
inductive S where
  | val (d : D) | own (ds : List D) | io (ds : List D)
abbrev DEnv := List (Option S)
/-- an operand: a value; a new list; what stands in a slot -/
inductive Opd where
  | val (d : D) | fresh (ds : List D) | slot (i : Nat)
/-- outcomes -/
inductive R (α : Type) where
  | ok (a : α) | exn (c : String) | bad
def R.bind {α β : Type} (r : R α) (f : α → R β) : R β := match r with
  | .ok a => f a
  | .exn c => .exn c
  | .bad => .bad
def R.ofO {α : Type} : Option α → R α
  | some a => .ok a
  | none => .bad
/-- the weakest pre of an outcome -/
def RP {α : Type} (r : R α) (P : α → Prop) (E : String → Prop) : Prop := match r with
  | .ok a => P a
  | .exn c => E c
  | .bad => False
theorem RP.ok_ {α : Type} {a : α} {P : α → Prop} {E : String → Prop} (h : RP (.ok a) P E) : P a := h
theorem RP.bind {α β : Type} {r : R α} {f : α → R β} {P : β → Prop} {E : String → Prop} (h : RP (r.bind f) P E) : RP r (fun a => RP (f a) P E) E := by
  cases r <;> exact h
theorem RP.mono {α : Type} {r : R α} {P P' : α → Prop} {E E' : String → Prop} (h : RP r P E) (hp : ∀ a, P a → P' a) (he : ∀ c, E c → E' c) : RP r P' E' := by
  cases r with
  | ok a => exact hp a h
  | exn c => exact he c h
  | bad => exact h
theorem RP.ofO {α : Type} {o : Option α} {P : α → Prop} {E : String → Prop} (h : RP (R.ofO o) P E) : ∃ a, o = some a ∧ P a := by
  cases o with
  | none => exact h.elim
  | some a => exact ⟨a, rfl, h⟩

def lim : Nat := 16777216
inductive Bop where | add | sub | mul | fdiv | mod | pow
inductive Cop where | eq | ne | lt | le | gt | ge | isIn | notIn | isN | notN
inductive ItK where | seq | rng1 | rng2 | enum | rev | zip
inductive Tgt where | name (i : Nat) | tup (xs : List Nat)
inductive Mth where | append | pop | popAt | reverse

inductive IE where
  | var (i : Nat)
  | cst (d : D)
  | glob (x : String) (d : D)
  | tup (es : List IE)
  | lst (es : List IE)
  | bin (op : Bop) (a b : IE)
  | neg (a : IE)
  | cmp (op : Cop) (a b : IE)
  | chain (o1 o2 : Cop) (a b c : IE)
  | and_ (a b : IE)
  | or_ (a b : IE)
  | not_ (a : IE)
  | ite (c a b : IE)
  | idx (a b : IE)
  | slc (a : IE) (l h : Bool) (lo hi : IE)
  | isi (a : IE) (ty : String)
  | call (f : String) (es : List IE)
  | callIo (f : String) (i : Nat) (es : List IE)
  | fv (f : String)
  | callL (i : Nat) (es : List IE)
  | stp (a : IE) (lo : Option Int) (st : Int)
  | op1 (o : String) (a : IE)
  | lam (told : Bool) (g : IE) (es : List IE)
  | blt (f : String) (es : List IE)
  | rngOf (tp two : Bool) (a b : IE)
  | comp (k : ItK) (e1 e2 : IE) (tg : Tgt) (hasIf : Bool) (c elt : IE)
  | meth (m : Mth) (i : Nat) (es : List IE)
  | extend (i : Nat) (e : IE)
inductive IS where
  | asg (tg : Tgt) (e : IE)
  | par (i j : Nat) (a b : IE)
  | sub (i : Nat) (ix e : IE)
  | expr (e : IE)
  | ret (e : IE)
  | retN
  | ife (c : IE) (a b : List IS)
  | for_ (k : ItK) (e1 e2 : IE) (tg : Tgt) (body : List IS)
  | whl (c : IE) (body : List IS)
  | pass
  | cont
  | brk
  | raise (c : String)
structure FD where
  np : Nat
  ns : Nat
  io : Bool
  body : List IS
inductive Out where
  | next (s : DEnv) | ret (o : Opd) (s : DEnv) | brk (s : DEnv) | cont (s : DEnv)

/-! ### operands -/
def deref (s : DEnv) : Opd → Option D
  | .val d => some d
  | .fresh ds => some (.lst ds)
  | .slot i => match s[i]? with
    | some (some (.val d)) => some d
    | some (some (.own ds)) => some (.lst ds)
    | some (some (.io ds)) => some (.lst ds)
    | _ => none
/-- the operand goes into another thing: a list that a slot owns is frozen from then on -/
def esc (s : DEnv) : Opd → Option (D × DEnv)
  | .val d => some (d, s)
  | .fresh ds => some (.lst ds, s)
  | .slot i => match s[i]? with
    | some (some (.val d)) => some (d, s)
    | some (some (.own ds)) => some (.lst ds, s.set i (some (.val (.lst ds))))
    | _ => none
def escs (s : DEnv) : List Opd → Option (List D × DEnv)
  | [] => some ([], s)
  | o :: os => match esc s o with
    | some (d, s1) => match escs s1 os with
      | some (ds, s2) => some (d :: ds, s2)
      | none => none
    | none => none
def derefs (s : DEnv) : List Opd → Option (List D)
  | [] => some []
  | o :: os => match deref s o, derefs s os with
    | some d, some ds => some (d :: ds)
    | _, _ => none

/-! ### operations on data -/
mutual
def eqD : D → D → Bool
  | .non, .non => true
  | .bl a, .bl b => a == b
  | .bl a, .int j => (if a then 1 else 0) == j
  | .int i, .bl b => i == (if b then 1 else 0)
  | .int i, .int j => i == j
  | .str x, .str y => x == y
  | .lst xs, .lst ys => eqDs xs ys
  | .tup xs, .tup ys => eqDs xs ys
  | _, _ => false
def eqDs : List D → List D → Bool
  | [], [] => true
  | x :: xs, y :: ys => eqD x y && eqDs xs ys
  | _, _ => false
end
/-! data of a depth of at most k, without the script -/
mutual
def dle : Nat → D → Bool
  | _, .scr _ => false
  | _, .fn _ => false
  | 0, .tup _ => false
  | 0, .lst _ => false
  | k + 1, .tup ds => dles k ds
  | k + 1, .lst ds => dles k ds
  | _, _ => true
def dles : Nat → List D → Bool
  | _, [] => true
  | k, d :: ds => dle k d && dles k ds
end
def intsOf : List D → Option (List Int)
  | [] => some []
  | .int i :: r => (intsOf r).map (i :: ·)
  | _ => none
def blsOf : List D → Option (List Bool)
  | [] => some []
  | .bl i :: r => (blsOf r).map (i :: ·)
  | _ => none
def mulOk (i j : Int) : Bool := decide (i.natAbs < 18446744073709551616) || decide (j.natAbs < 18446744073709551616) || decide (i.natAbs.log2 + j.natAbs.log2 < 1000000)
def binD : Bop → D → D → Option Opd
  | .add, .int i, .int j => some (.val (.int (i + j)))
  | .add, .tup xs, .tup ys => if xs.length + ys.length ≤ lim then some (.val (.tup (xs ++ ys))) else none
  | .add, .lst xs, .lst ys => if xs.length + ys.length ≤ lim then some (.fresh (xs ++ ys)) else none
  | .sub, .int i, .int j => some (.val (.int (i - j)))
  | .mul, .int i, .int j => if mulOk i j then some (.val (.int (i * j))) else none
  | .fdiv, .int i, .int j => if 0 < j ∧ j < 1073741824 then some (.val (.int (i / j))) else none
  | .mod, .int i, .int j => if 0 < j then some (.val (.int (i % j))) else none
  | .pow, .int i, .int j => if 0 ≤ j ∧ j ≤ 1000000 ∧ i.natAbs < 18446744073709551616 then some (.val (.int (i ^ j.toNat))) else none
  | _, _, _ => none
def nonD : D → Bool
  | .non => true
  | _ => false
def lexD : List Int → List Int → Bool := HT.lexLt
def cmpD : Cop → D → D → Option Bool
  | .eq, a, b => if dle 60 a && dle 60 b then some (eqD a b) else none
  | .ne, a, b => if dle 60 a && dle 60 b then some (!eqD a b) else none
  | .lt, .int i, .int j => some (decide (i < j))
  | .le, .int i, .int j => some (decide (i ≤ j))
  | .gt, .int i, .int j => some (decide (j < i))
  | .ge, .int i, .int j => some (decide (j ≤ i))
  | .lt, .tup xs, .tup ys => match intsOf xs, intsOf ys with
    | some a, some b => some (lexD a b)
    | _, _ => none
  | .isIn, a, .lst ds => if dle 60 a && dles 60 ds then some (ds.any fun z => eqD z a) else none
  | .isIn, a, .tup ds => if dle 60 a && dles 60 ds then some (ds.any fun z => eqD z a) else none
  | .notIn, a, .lst ds => if dle 60 a && dles 60 ds then some (!ds.any fun z => eqD z a) else none
  | .notIn, a, .tup ds => if dle 60 a && dles 60 ds then some (!ds.any fun z => eqD z a) else none
  | .isN, .bl x, .bl y => some (x == y)
  | .notN, .bl x, .bl y => some (!(x == y))
  | .isN, a, .non => some (nonD a)
  | .notN, a, .non => some (!nonD a)
  | _, _, _ => none
def truD : D → Option Bool
  | .non => some false
  | .bl b => some b
  | .int i => some (i != 0)
  | .tup ds => some (!ds.isEmpty)
  | .lst ds => some (!ds.isEmpty)
  | _ => none
def atD (ds : List D) (i : Int) : Option D := L2.atI ds i
def idxD : D → D → Option D
  | .tup ds, .int i => atD ds i
  | .lst ds, .int i => atD ds i
  | .scr ns, .int i => (L2.atI ns i).map .int
  | _, _ => none
def cutD (ds : List D) (lo hi : Option Int) : List D := (ds.drop (HT.sIx ds.length 0 lo)).take (HT.sIx ds.length ds.length hi - HT.sIx ds.length 0 lo)
def slcD (lo hi : Option Int) : D → Option Opd
  | .tup ds => some (.val (.tup (cutD ds lo hi)))
  | .lst ds => some (.fresh (cutD ds lo hi))
  | _ => none
/-- the items of xs[lo::st] -/
def pickS {α : Type} (xs : List α) (lo : Option Int) (st : Int) : List α := (List.range (Builtin.Slice.slicePlaces (Builtin.Slice.sliceAdjust lo none st xs.length).1 (Builtin.Slice.sliceAdjust lo none st xs.length).2 st)).filterMap fun (k : Nat) => xs[((Builtin.Slice.sliceAdjust lo none st xs.length).1 + (k : Int) * st).toNat]?
def stpD (lo : Option Int) (st : Int) : D → Option Opd
  | .tup ds => if st ≠ 0 ∧ st ≠ 1 ∧ (pickS ds lo st).length ≤ ds.length then some (.val (.tup (pickS ds lo st))) else none
  | .lst ds => if lo = none ∧ st = -1 then some (.fresh ds.reverse) else none
  | _ => none
def isiD (ty : String) : D → Option Bool
  | .non => if ty = "int" ∨ ty = "bool" ∨ ty = "tuple" ∨ ty = "list" ∨ ty = "str" then some false else none
  | .bl _ => if ty = "int" ∨ ty = "bool" then some true else if ty = "tuple" ∨ ty = "list" ∨ ty = "str" then some false else none
  | .int _ => if ty = "int" then some true else if ty = "bool" ∨ ty = "tuple" ∨ ty = "list" ∨ ty = "str" then some false else none
  | .str _ => if ty = "str" then some true else if ty = "bool" ∨ ty = "tuple" ∨ ty = "list" ∨ ty = "int" then some false else none
  | .tup _ => if ty = "tuple" then some true else if ty = "bool" ∨ ty = "str" ∨ ty = "list" ∨ ty = "int" then some false else none
  | .lst _ => if ty = "list" then some true else if ty = "bool" ∨ ty = "str" ∨ ty = "tuple" ∨ ty = "int" then some false else none
  | .scr _ => none
  | .fn _ => none
def sortI (ns : List Int) : List Int := ns.mergeSort (fun a b => decide (a ≤ b))
abbrev itL (ns : List Int) : List (Int ⊕ List Nat) := ns.map Sum.inl
/-- the order of tuples of ints -/
def tLt (a b : List Int) : Bool := PyProof.Rows.lexLt PyProof.Rows.itemOrd (itL a) (itL b)
def insT (x : List Int) : List (List Int) → List (List Int)
  | [] => [x]
  | y :: r => if tLt y x then y :: insT x r else x :: y :: r
def sortT : List (List Int) → List (List Int)
  | [] => []
  | x :: r => insT x (sortT r)
def tupsOf : List D → Option (List (List Int))
  | [] => some []
  | .tup xs :: r => (match intsOf xs with
    | some (n :: ns) => (tupsOf r).map ((n :: ns) :: ·)
    | _ => none)
  | _ => none
def maxI : Int → List Int → Int
  | m, [] => m
  | m, x :: r => maxI (if x > m then x else m) r
def minI : Int → List Int → Int
  | m, [] => m
  | m, x :: r => minI (if x < m then x else m) r
def bltD (f : String) : List D → Option Opd
  | [.int i] => if f = "abs" then some (.val (.int (if i < 0 then -i else i))) else if f = "int" then some (.val (.int i)) else none
  | [.bl b] => if f = "int" then some (.val (.int (if b then 1 else 0))) else none
  | [.int i, .int j] => if f = "max" then some (.val (.int (if j > i then j else i))) else if f = "min" then some (.val (.int (if j < i then j else i)))
      else if f = "divmod" then (if 0 < j ∧ j < 1073741824 then some (.val (.tup [.int (i / j), .int (i % j)])) else none) else none
  | [.scr ns] => if f = "len" then some (.val (.int ns.length)) else none
  | [.tup ds] => if f = "len" then some (.val (.int ds.length)) else if f = "tuple" then some (.val (.tup ds)) else if f = "list" then some (.fresh ds)
      else if f = "sum" then (intsOf ds).map fun ns => .val (.int ns.sum) else none
  | [.lst ds] => if f = "len" then some (.val (.int ds.length)) else if f = "tuple" then some (.val (.tup ds)) else if f = "list" then some (.fresh ds)
      else if f = "sum" then (intsOf ds).map fun ns => .val (.int ns.sum)
      else if f = "all" then (blsOf ds).map fun bs => .val (.bl (bs.all id))
      else if f = "any" then (blsOf ds).map fun bs => .val (.bl (bs.any id))
      else if f = "sorted" then (match intsOf ds with
        | some ns => some (.fresh ((sortI ns).map .int))
        | none => (tupsOf ds).map fun ts => .fresh ((sortT ts).map fun ns => .tup (ns.map .int)))
      else if f = "max" then (match intsOf ds with | some (m :: ns) => some (.val (.int (maxI m ns))) | _ => none)
      else if f = "min" then (match intsOf ds with | some (m :: ns) => some (.val (.int (minI m ns))) | _ => none)
      else none
  | _ => none
/-- the tuples, each once -/
def ddT : List (List Int) → List (List Int)
  | [] => []
  | x :: r => if (ddT r).contains x then ddT r else x :: ddT r
/-- few tuples of one length, of small numbers -/
def setB (d : Nat) (ts : List (List Int)) : Bool := decide (ts.length < 64) && ts.all fun t => decide (t.length = d) && t.all fun x => decide (0 ≤ x) && decide (x < 64)
/-- sorted(set(xs)) -/
def ssD : D → Option Opd
  | .lst ds => (tupsOf ds).bind fun ts => match ts with
    | [] => none
    | t :: r => if setB t.length (t :: r) then some (.fresh ((sortT (ddT (t :: r))).map fun ns => .tup (ns.map .int))) else none
  | _ => none
mutual
/-- data that repr shows -/
def rpPy : D → Option PyData
  | .non => some .none
  | .bl b => some (.bool b)
  | .int i => some (.int i)
  | .tup ds => (rpPys ds).map .tuple
  | .lst ds => (rpPys ds).map .list
  | _ => none
def rpPys : List D → Option (List PyData)
  | [] => some []
  | d :: ds => match rpPy d, rpPys ds with
    | some p, some ps => some (p :: ps)
    | _, _ => none
end
def rpOk (p : PyData) : Bool := p.showable && decide (p.depth ≤ 60) && decide (p.shown.length ≤ 16777216) && PyData.strOk p.shown
def reprD : D → Option Str
  | .non => some (Str.ofString "None")
  | .int i => if i.natAbs.log2 < 1920 then some (Str.ofString (toString i)) else none
  | .tup ds => (rpPy (.tup ds)).bind fun p => if rpOk p = true then some p.shown else none
  | .lst ds => (rpPy (.lst ds)).bind fun p => if rpOk p = true then some p.shown else none
  | _ => none
/-- operations of one operand -/
def op1D (o : String) (d : D) : Option Opd := if o = "sortset" then ssD d else if o = "repr" then (reprD d).map fun y => .val (.str y) else none
def rngD (a b : Int) : List D := (List.range (b - a).toNat).map fun i => D.int (a + (i : Nat))
def rngOk (a b : Int) : Bool := decide (-1000000000000 ≤ a) && decide (a ≤ 1000000000000) && decide (-1000000000000 ≤ b) && decide (b ≤ 1000000000000) && decide ((b - a).toNat ≤ lim)
def enumD : Nat → List D → List D
  | _, [] => []
  | i, d :: ds => .tup [.int i, d] :: enumD (i + 1) ds
def zipD : List D → List D → List D
  | a :: as, b :: bs => .tup [a, b] :: zipD as bs
  | _, _ => []
/-- the items that a for or a comprehension walks -/
def itemsD : ItK → D → D → Option (List D)
  | .seq, .tup ds, _ => some ds
  | .seq, .lst ds, _ => some ds
  | .rng1, .int n, _ => if rngOk 0 n then some (rngD 0 n) else none
  | .rng2, .int a, .int b => if rngOk a b then some (rngD a b) else none
  | .enum, .lst ds, _ => some (enumD 0 ds)
  | .enum, .tup ds, _ => some (enumD 0 ds)
  | .rev, .tup ds, _ => some ds.reverse
  | .rev, .lst ds, _ => some ds.reverse
  | .zip, .lst xs, .lst ys => some (zipD xs ys)
  | _, _, _ => none

/-! ### stores -/
def setN (s : DEnv) (i : Nat) (v : S) : Option DEnv := if i < s.length then (match s[i]? with
  | some (some (.io _)) => none
  | _ => some (s.set i (some v))) else none
def setNs (s : DEnv) : List Nat → List D → Option DEnv
  | [], [] => some s
  | i :: is, d :: ds => match setN s i (.val d) with
    | some s1 => setNs s1 is ds
    | none => none
  | _, _ => none
def setT (s : DEnv) : Tgt → D → Option DEnv
  | .name i, d => setN s i (.val d)
  | .tup is, .tup ds => setNs s is ds
  | .tup is, .lst ds => setNs s is ds
  | _, _ => none
def asgO (s : DEnv) (i : Nat) : Opd → Option DEnv
  | .val d => setN s i (.val d)
  | .fresh ds => setN s i (.own ds)
  | .slot j => match esc s (.slot j) with
    | some (d, s1) => setN s1 i (.val d)
    | none => none
/-- the contents of the list in slot i, and how new ones are laid there -/
def ownAt (s : DEnv) (i : Nat) : Option (List D) := match s[i]? with
  | some (some (.own ds)) => some ds
  | some (some (.io ds)) => some ds
  | _ => none
def ownPut (s : DEnv) (i : Nat) (ds : List D) : DEnv := match s[i]? with
  | some (some (.io _)) => s.set i (some (.io ds))
  | _ => s.set i (some (.own ds))

/-! ### loops -/
def wipeD (s : DEnv) : List Nat → DEnv
  | [] => s
  | v :: vs => (wipeD s vs).set v none
def backD (s0 s : DEnv) : List Nat → DEnv
  | [] => s
  | v :: vs => (backD s0 s vs).set v (s0[v]?.getD none)

def forLoop (set : DEnv → D → Option DEnv) (body : DEnv → R Out) : List D → DEnv → R Out
  | [], s => .ok (.next s)
  | d :: ds, s => (R.ofO (set s d)).bind fun s1 => (body s1).bind fun o => match o with
    | .next s2 => forLoop set body ds s2
    | .cont s2 => forLoop set body ds s2
    | .brk s2 => .ok (.next s2)
    | .ret v s2 => .ok (.ret v s2)
/-- an exception that leaves a comprehension's block is no claim's -/
def noX {α : Type} : R α → R α
  | .exn _ => .bad
  | r => r
def compLoop (wp : DEnv → DEnv) (set : DEnv → D → Option DEnv) (c : DEnv → R (Bool × DEnv)) (elt : DEnv → R (D × DEnv)) : List D → List D → DEnv → R (List D × DEnv)
  | [], acc, s => .ok (acc, s)
  | d :: ds, acc, s => (R.ofO (set (wp s) d)).bind fun s1 => (noX (c s1)).bind fun b =>
    if b.1 then (noX (elt b.2)).bind fun r => compLoop wp set c elt ds (acc ++ [r.1]) r.2 else compLoop wp set c elt ds acc b.2
def whileLoop (c : DEnv → R (Bool × DEnv)) (body : DEnv → R Out) : Nat → DEnv → R Out
  | 0, _ => .bad
  | n + 1, s => (c s).bind fun b => if b.1 then (body b.2).bind fun o => match o with
    | .next s2 => whileLoop c body n s2
    | .cont s2 => whileLoop c body n s2
    | .brk s2 => .ok (.next s2)
    | .ret v s2 => .ok (.ret v s2) else .ok (.next b.2)
def wfuel : Nat := 1000000

/-- the items that are walked, by what the one or two sources mean -/
def itR (k : ItK) (m1 m2 : DEnv → R (Opd × DEnv)) (s : DEnv) : R (List D × DEnv) := match k with
  | .rng2 => (m1 s).bind fun x => (m2 x.2).bind fun y => (R.ofO (deref y.2 x.1)).bind fun u => (R.ofO (deref y.2 y.1)).bind fun v => (R.ofO (itemsD .rng2 u v)).bind fun ds => .ok (ds, y.2)
  | .zip => (m1 s).bind fun x => (R.ofO (esc x.2 x.1)).bind fun r => (m2 r.2).bind fun y => (R.ofO (esc y.2 y.1)).bind fun q => (R.ofO (itemsD .zip r.1 q.1)).bind fun ds => .ok (ds, q.2)
  | k => (m1 s).bind fun x => (R.ofO (esc x.2 x.1)).bind fun r => (R.ofO (itemsD k r.1 .non)).bind fun ds => .ok (ds, r.2)
def tstR (m : DEnv → R (Opd × DEnv)) (s : DEnv) : R (Bool × DEnv) := (m s).bind fun x => (R.ofO (deref x.2 x.1)).bind fun u => (R.ofO (truD u)).bind fun t => .ok (t, x.2)
def eltR (m : DEnv → R (Opd × DEnv)) (s : DEnv) : R (D × DEnv) := (m s).bind fun x => R.ofO (esc x.2 x.1)

structure Cal where
  io : String → Bool
  call : String → List S → R (Opd × List D)
  /-- as call, two frames deeper -/
  lam : String → List S → R (Opd × List D)
/-- what may stand as an argument within a lambda -/
def isArg : IE → Bool
  | .var _ => true
  | .cst _ => true
  | .idx (.var _) (.cst (.int _)) => true
  | _ => false
/-- the def that a lambda calls -/
def calleeD (s : DEnv) : IE → Option String
  | .fv f => some f
  | .var i => (match s[i]? with
    | some (some (.val (.fn f))) => some f
    | _ => none)
  | _ => none
/-- the classes of refusals, in the order in which the laws look at them -/
def clsNames : List String := ["NoCurve", "NoLot", "NoPane", "NoFace", "NoCell", "NoCorner", "NoNumber", "NoCounts", "NoCover", "NoTurn", "NoCut", "NoOrder", "TooMany", "NoText", "NoLine"]
def placeIn (c : String) : List String → Nat → Option Nat
  | [], _ => none
  | x :: r, i => if c = x then some i else placeIn c r (i + 1)
def placeOf (c : String) : Option Nat := placeIn c clsNames 0
/-- what _law_refused and _law_told make of a call's end -/
def lamR (told : Bool) (r : R (Opd × List D)) (s : DEnv) : R (Opd × DEnv) := match r with
  | .ok q => .ok (if told then q.1 else .fresh [], s)
  | .exn c => (match placeOf c with
    | some j => .ok (.fresh [.int (j : Nat)], s)
    | none => .bad)
  | .bad => .bad

def tgtSlots : Tgt → List Nat
  | .name i => [i]
  | .tup is => is
def optI (b : Bool) (d : D) : Option (Option Int) := if b then (match d with | .int i => some (some i) | _ => none) else some none
def methD (m : Mth) (ds : List D) : List D → Option (D × List D)
  | [] => match m with
    | .pop => if ds.isEmpty then none else some (ds.getLastD .non, ds.dropLast)
    | .reverse => some (.non, ds.reverse)
    | _ => none
  | [a] => match m with
    | .append => if ds.length < lim then some (.non, ds ++ [a]) else none
    | .popAt => (match a with | .int i => (match (if ds.length ≤ lim then L2.ixN ds.length i else none) with | some k => some (ds.getD k .non, ds.eraseIdx k) | none => none) | _ => none)
    | _ => none
  | _ => none

mutual
def denE (C : Cal) : IE → DEnv → R (Opd × DEnv)
  | .var i, s => match s[i]? with
    | some (some (.val d)) => .ok (.val d, s)
    | some (some (.own _)) => .ok (.slot i, s)
    | some (some (.io _)) => .ok (.slot i, s)
    | _ => .bad
  | .cst d, s => .ok (.val d, s)
  | .glob _ d, s => .ok (.val d, s)
  | .tup es, s => (denEs C es s).bind fun r => .ok (.val (.tup r.1), r.2)
  | .lst es, s => (denEs C es s).bind fun r => .ok (.fresh r.1, r.2)
  | .bin op a b, s => (denE C a s).bind fun x => (denE C b x.2).bind fun y => (R.ofO (deref y.2 x.1)).bind fun u => (R.ofO (deref y.2 y.1)).bind fun v => (R.ofO (binD op u v)).bind fun r => .ok (r, y.2)
  | .neg a, s => (denE C a s).bind fun x => (R.ofO (deref x.2 x.1)).bind fun u => match u with
    | .int i => .ok (.val (.int (-i)), x.2)
    | _ => .bad
  | .cmp op a b, s => (denE C a s).bind fun x => (denE C b x.2).bind fun y => (R.ofO (deref y.2 x.1)).bind fun u => (R.ofO (deref y.2 y.1)).bind fun v => (R.ofO (cmpD op u v)).bind fun r => .ok (.val (.bl r), y.2)
  | .chain o1 o2 a b c, s => (denE C a s).bind fun x => (denE C b x.2).bind fun y => (R.ofO (deref y.2 x.1)).bind fun u => (R.ofO (deref y.2 y.1)).bind fun v => (R.ofO (cmpD o1 u v)).bind fun r =>
      if r then (denE C c y.2).bind fun z => (R.ofO (deref z.2 y.1)).bind fun v => (R.ofO (deref z.2 z.1)).bind fun w => (R.ofO (cmpD o2 v w)).bind fun r => .ok (.val (.bl r), z.2) else .ok (.val (.bl false), y.2)
  | .and_ a b, s => (denE C a s).bind fun x => (R.ofO (deref x.2 x.1)).bind fun u => (R.ofO (truD u)).bind fun t => if t then denE C b x.2 else .ok (x.1, x.2)
  | .or_ a b, s => (denE C a s).bind fun x => (R.ofO (deref x.2 x.1)).bind fun u => (R.ofO (truD u)).bind fun t => if t then .ok (x.1, x.2) else denE C b x.2
  | .not_ a, s => (denE C a s).bind fun x => (R.ofO (deref x.2 x.1)).bind fun u => (R.ofO (truD u)).bind fun t => .ok (.val (.bl (!t)), x.2)
  | .ite c a b, s => (denE C c s).bind fun x => (R.ofO (deref x.2 x.1)).bind fun u => (R.ofO (truD u)).bind fun t => if t then denE C a x.2 else denE C b x.2
  | .idx a b, s => (denE C a s).bind fun x => (denE C b x.2).bind fun y => (R.ofO (deref y.2 x.1)).bind fun u => (R.ofO (deref y.2 y.1)).bind fun v => (R.ofO (idxD u v)).bind fun r => .ok (.val r, y.2)
  | .slc a l h lo hi, s => (denE C a s).bind fun x => (if l then denE C lo x.2 else .ok (.val .non, x.2)).bind fun y => (R.ofO (deref y.2 y.1)).bind fun u => (R.ofO (optI l u)).bind fun i =>
      (if h then denE C hi y.2 else .ok (.val .non, y.2)).bind fun z => (R.ofO (deref z.2 z.1)).bind fun v => (R.ofO (optI h v)).bind fun j =>
      (R.ofO (deref z.2 x.1)).bind fun w => (R.ofO (slcD i j w)).bind fun r => .ok (r, z.2)
  | .isi a ty, s => (denE C a s).bind fun x => (R.ofO (deref x.2 x.1)).bind fun u => (R.ofO (isiD ty u)).bind fun r => .ok (.val (.bl r), x.2)
  | .call f es, s => if C.io f then .bad else (denEs C es s).bind fun r => (C.call f (r.1.map .val)).bind fun q => .ok (q.1, r.2)
  | .callIo f i es, s => if C.io f then (R.ofO (ownAt s i)).bind fun _ => (denEs C es s).bind fun r => (R.ofO (ownAt r.2 i)).bind fun ds => (C.call f (.io ds :: r.1.map .val)).bind fun q => .ok (q.1, ownPut r.2 i q.2) else .bad
  | .fv f, s => .ok (.val (.fn f), s)
  | .callL i es, s => match s[i]? with
    | some (some (.val (.fn f))) => if C.io f then .bad else (denEs C es s).bind fun r => (C.call f (r.1.map .val)).bind fun q => .ok (q.1, r.2)
    | _ => .bad
  | .stp a lo st, s => (denE C a s).bind fun x => (R.ofO (deref x.2 x.1)).bind fun u => (R.ofO (stpD lo st u)).bind fun r => .ok (r, x.2)
  | .op1 o a, s => (denE C a s).bind fun x => (R.ofO (deref x.2 x.1)).bind fun u => (R.ofO (op1D o u)).bind fun r => .ok (r, x.2)
  | .lam told g es, s => if es.all isArg then (match calleeD s g with
    | some f => if C.io f then .bad else (noX (denEs C es s)).bind fun r => lamR told (C.lam f (r.1.map .val)) r.2
    | none => .bad) else .bad
  | .blt f es, s => (denOs C es s).bind fun r => (R.ofO (derefs r.2 r.1)).bind fun ds => (R.ofO (bltD f ds)).bind fun q => .ok (q, r.2)
  | .rngOf tp two a b, s => (denE C a s).bind fun x => (if two then denE C b x.2 else .ok (x.1, x.2)).bind fun y => (R.ofO (deref y.2 x.1)).bind fun u => (R.ofO (deref y.2 y.1)).bind fun v =>
      (R.ofO (itemsD (if two then .rng2 else .rng1) u v)).bind fun ds => .ok (if tp then .val (.tup ds) else .fresh ds, y.2)
  | .comp k e1 e2 tg hasIf c elt, s =>
      (itR k (fun s => denE C e1 s) (fun s => denE C e2 s) s).bind fun it =>
      (compLoop (fun s => wipeD s (tgtSlots tg)) (fun s d => setT s tg d) (fun s => if hasIf then tstR (fun s => denE C c s) s else .ok (true, s)) (fun s => eltR (fun s => denE C elt s) s) it.1 [] it.2).bind fun r => .ok (.fresh r.1, backD it.2 r.2 (tgtSlots tg))
  | .meth m i es, s => (R.ofO (ownAt s i)).bind fun _ => (denEs C es s).bind fun q => (R.ofO (ownAt q.2 i)).bind fun ds => (R.ofO (methD m ds q.1)).bind fun w => .ok (.val w.1, ownPut q.2 i w.2)
  | .extend i e, s => (R.ofO (ownAt s i)).bind fun _ => (denE C e s).bind fun x => (R.ofO (deref x.2 x.1)).bind fun u => (R.ofO (ownAt x.2 i)).bind fun ds => match u with
    | .lst zs => if ds.length + zs.length ≤ lim then .ok (.val .non, ownPut x.2 i (ds ++ zs)) else .bad
    | _ => .bad
/-- operands in a row -/
def denOs (C : Cal) : List IE → DEnv → R (List Opd × DEnv)
  | [], s => .ok ([], s)
  | e :: es, s => (denE C e s).bind fun x => (denOs C es x.2).bind fun r => .ok (x.1 :: r.1, r.2)
/-- values in a row, each goes into another thing -/
def denEs (C : Cal) : List IE → DEnv → R (List D × DEnv)
  | [], s => .ok ([], s)
  | e :: es, s => (denE C e s).bind fun x => (R.ofO (esc x.2 x.1)).bind fun q => (denEs C es q.2).bind fun r => .ok (q.1 :: r.1, r.2)
end
def denT (C : Cal) (e : IE) (s : DEnv) : R (Bool × DEnv) := tstR (fun s => denE C e s) s
def denI (C : Cal) (k : ItK) (e1 e2 : IE) (s : DEnv) : R (List D × DEnv) := itR k (fun s => denE C e1 s) (fun s => denE C e2 s) s

mutual
def denS (C : Cal) : IS → DEnv → R Out
  | .asg (.name i) e, s => (denE C e s).bind fun x => (R.ofO (asgO x.2 i x.1)).bind fun s1 => .ok (.next s1)
  | .asg (.tup is) e, s => (denE C e s).bind fun x => (R.ofO (deref x.2 x.1)).bind fun d => (R.ofO (setT x.2 (.tup is) d)).bind fun s1 => .ok (.next s1)
  | .par i j a b, s => if i = j then .bad else (denE C a s).bind fun x => (denE C b x.2).bind fun y => match x.1, y.1 with
    | .slot _, _ => .bad
    | _, .slot _ => .bad
    | u, v => (R.ofO (asgO y.2 i u)).bind fun s1 => (R.ofO (asgO s1 j v)).bind fun s2 => .ok (.next s2)
  | .sub i ix e, s => (denE C e s).bind fun x => (R.ofO (esc x.2 x.1)).bind fun r => (R.ofO (ownAt r.2 i)).bind fun _ => (denE C ix r.2).bind fun y => (R.ofO (deref y.2 y.1)).bind fun k => (R.ofO (ownAt y.2 i)).bind fun ds => match k with
    | .int k => (R.ofO (L2.ixN ds.length k)).bind fun j => .ok (.next (ownPut y.2 i (ds.set j r.1)))
    | _ => .bad
  | .expr e, s => (denE C e s).bind fun x => .ok (.next x.2)
  | .ret e, s => (denE C e s).bind fun x => .ok (.ret x.1 x.2)
  | .retN, s => .ok (.ret (.val .non) s)
  | .ife c a b, s => (denT C c s).bind fun t => if t.1 then denSs C a t.2 else denSs C b t.2
  | .for_ k e1 e2 tg body, s => (denI C k e1 e2 s).bind fun it => forLoop (fun s d => setT s tg d) (fun s => denSs C body s) it.1 it.2
  | .whl c body, s => whileLoop (fun s => denT C c s) (fun s => denSs C body s) wfuel s
  | .pass, s => .ok (.next s)
  | .cont, s => .ok (.cont s)
  | .brk, s => .ok (.brk s)
  | .raise c, _ => .exn c
def denSs (C : Cal) : List IS → DEnv → R Out
  | [], s => .ok (.next s)
  | st :: r, s => (denS C st s).bind fun o => match o with
    | .next s1 => denSs C r s1
    | o => .ok o
end

def startD (fd : FD) (args : List S) : DEnv := args.map some ++ List.replicate (fd.ns - args.length) none
/-- the frame's end: the value, and what the in-out parameter holds then -/
def leaveO (s : DEnv) : Opd → Option Opd
  | .slot i => (match s[i]? with
      | some (some (.val d)) => some (.val d)
      | some (some (.own ds)) => some (.fresh ds)
      | _ => none)
  | o => some o
def ioFin (s : DEnv) : Option (List D) := match s[0]? with
  | some (some (S.io ds)) => some ds
  | _ => none
def leaveD (fd : FD) (o : Opd) (s : DEnv) : R (Opd × List D) :=
  (R.ofO (leaveO s o)).bind fun r => if fd.io then (R.ofO (ioFin s)).bind fun ds => .ok (r, ds) else .ok (r, [])
def S.isVal : S → Bool
  | .val _ => true
  | _ => false
def argsOk (io : Bool) : List S → Bool
  | .io _ :: r => io && r.all S.isVal
  | args => !io && args.all S.isVal
def runF (C : Cal) (fd : FD) (args : List S) : R (Opd × List D) := if args.length = fd.np ∧ argsOk fd.io args = true then
  (denSs C fd.body (startD fd args)).bind fun o => match o with
    | .ret v s => leaveD fd v s
    | .next s => leaveD fd (.val .non) s
    | _ => .bad else .bad
abbrev Tab := List (String × FD)
def ioOf (T : Tab) (f : String) : Bool := match T.lookup f with
  | some fd => fd.io
  | none => true
def callF (T : Tab) : Nat → String → List S → R (Opd × List D)
  | 0, _, _ => .bad
  | 1, f, args => (match T.lookup f with
    | some fd => runF ⟨ioOf T, callF T 0, callF T 0⟩ fd args
    | none => .bad)
  | 2, f, args => (match T.lookup f with
    | some fd => runF ⟨ioOf T, callF T 1, callF T 0⟩ fd args
    | none => .bad)
  | n + 3, f, args => match T.lookup f with
    | some fd => runF ⟨ioOf T, callF T (n + 2), callF T n⟩ fd args
    | none => .bad
abbrev calT (T : Tab) (n : Nat) : Cal := ⟨ioOf T, callF T n, callF T (n - 2)⟩
theorem callF_succ (T : Tab) (n : Nat) (f : String) (args : List S) : callF T (n + 1) f args = match T.lookup f with
    | some fd => runF (calT T n) fd args
    | none => .bad := by
  match n with
  | 0 => simp only [callF] <;> rfl
  | 1 => simp only [callF] <;> rfl
  | n + 2 => simp only [callF] <;> rfl
end Cv
set_option maxRecDepth 100000
set_option maxHeartbeats 1000000
/-! Engine, part B: how data lie in the abstract heap. -/
namespace Cv
open PySem PySem.Spec L2
set_option autoImplicit false

abbrev ASet := Addr → Prop
/-- the tables of code objects of the defs that make lambdas, and what their code objects are called -/
class TabC where
  T : List (Addr × Str)
/-- not a table -/
abbrev NT (o : HO) : Prop := ∀ ps, o ≠ .tbl ps
abbrev TbOk [TabC] (H : Hp) : Prop := LamX.Tabs TabC.T H
theorem tbs_keep {T : List (Addr × Str)} {H H' : Hp} (t : LamX.Tabs T H) (k : ∀ b o, H b = some o → (∀ vs, o ≠ .lst vs) → H' b = some o) : LamX.Tabs T H' := fun p hp => by
  obtain ⟨ps, h1, h2, h3⟩ := t p hp
  refine ⟨ps, k _ _ h1 (fun _ => nofun), h2, fun pos cv hc => ?_⟩
  obtain ⟨c, e1, e2⟩ := h3 pos cv hc
  exact ⟨c, e1, k _ _ e2 (fun vs z => by unfold LamX.CodeO at z; cases z)⟩
/-- a list that is read and never written: the script -/
def SqF (K : PySem.W.Frag) (H : Hp) (a : Addr) (xs : List V) : Prop :=
  (∃ o, H a = some (.frz o (.lst xs))) ∨
    ∃ (o : Obj) (its : Array Value) (n : Nat), K.lookup a = some o ∧ o.cls = .type "list" ∧ o.dict = none ∧ o.data = .seq its n ∧ its.size ≤ sizeLine ∧ Vals xs its.toList
theorem SqF.sq {K : PySem.W.Frag} {H : Hp} {a : Addr} {xs : List V} (h : SqF K H a xs) : SqL K H a xs := h.imp .inr id
mutual
inductive Rel (K : PySem.W.Frag) (F : ASet) (H : Hp) : V → D → Prop
  | non : Rel K F H .non .non
  | bl (b : Bool) : Rel K F H (.bl b) (.bl b)
  | int (i : Int) : Rel K F H (.int i) (.int i)
  | str (x : Str) (h : PyData.strOk x = true) : Rel K F H (.str x) (.str x)
  | tup {a : Addr} {vs : List V} {ds : List D} (h : SqT K H a vs) (r : RelL K F H vs ds) (l : ds.length ≤ lim) : Rel K F H (.ref a) (.tup ds)
  | lst {a : Addr} {vs : List V} {ds : List D} (f : F a) (h : H a = some (.lst vs)) (r : RelL K F H vs ds) (l : ds.length ≤ lim) : Rel K F H (.ref a) (.lst ds)
  | scr {a : Addr} {ns : List Int} (h : SqF K H a (ns.map V.int)) : Rel K F H (.ref a) (.scr ns)
  | fn (f : String) : Rel K F H (.ref (He.ga K (Str.ofString f))) (.fn f)
inductive RelL (K : PySem.W.Frag) (F : ASet) (H : Hp) : List V → List D → Prop
  | nil : RelL K F H [] []
  | cons {v : V} {vs : List V} {d : D} {ds : List D} (h : Rel K F H v d) (r : RelL K F H vs ds) : RelL K F H (v :: vs) (d :: ds)
end
/-- all but lists that are not frozen stay -/
def Keep (F : ASet) (H H' : Hp) : Prop := ∀ b o, H b = some o → (F b ∨ ∀ vs, o ≠ .lst vs) → NT o → H' b = some o
theorem Keep.refl {F : ASet} {H : Hp} : Keep F H H := fun _ _ e _ _ => e
theorem Keep.tup {K : PySem.W.Frag} {F : ASet} {H H' : Hp} {a : Addr} {vs : List V} (k : Keep F H H') (h : SqT K H a vs) : SqT K H' a vs := by
  rcases h with (h | ⟨o, h⟩) | h
  · exact .inl (.inl (k _ _ h (.inr fun _ => nofun) (fun _ => nofun)))
  · exact .inl (.inr ⟨o, k _ _ h (.inr fun _ => nofun) (fun _ => nofun)⟩)
  · exact .inr h
theorem Keep.scr {K : PySem.W.Frag} {F : ASet} {H H' : Hp} {a : Addr} {vs : List V} (k : Keep F H H') (h : SqF K H a vs) : SqF K H' a vs := by
  rcases h with ⟨o, h⟩ | h
  · exact .inl ⟨o, k _ _ h (.inr fun _ => nofun) (fun _ => nofun)⟩
  · exact .inr h
mutual
theorem Rel.mono {K : PySem.W.Frag} {F F' : ASet} {H H' : Hp} (k : Keep F H H') (f : ∀ a, F a → F' a) : ∀ {v : V} {d : D}, Rel K F H v d → Rel K F' H' v d
  | _, _, .non => .non
  | _, _, .bl b => .bl b
  | _, _, .int i => .int i
  | _, _, .str x h => .str x h
  | _, _, .tup h r l => .tup (k.tup h) (RelL.mono k f r) l
  | _, _, .lst g h r l => .lst (f _ g) (k _ _ h (.inl g) (fun _ => nofun)) (RelL.mono k f r) l
  | _, _, .scr h => .scr (k.scr h)
  | _, _, .fn f => .fn f
theorem RelL.mono {K : PySem.W.Frag} {F F' : ASet} {H H' : Hp} (k : Keep F H H') (f : ∀ a, F a → F' a) : ∀ {vs : List V} {ds : List D}, RelL K F H vs ds → RelL K F' H' vs ds
  | _, _, .nil => .nil
  | _, _, .cons h r => .cons (Rel.mono k f h) (RelL.mono k f r)
end
section
variable {K : PySem.W.Frag} {F F' F1 F2 : ASet} {H H' H1 H2 : Hp} {vs ws : List V} {ds es : List D} {v : V} {d : D}
theorem RelL.len : ∀ {vs : List V} {ds : List D}, RelL K F H vs ds → vs.length = ds.length
  | _, _, .nil => rfl
  | _, _, .cons _ r => congrArg (· + 1) r.len
theorem RelL.app : ∀ {vs : List V} {ds : List D}, RelL K F H vs ds → RelL K F H ws es → RelL K F H (vs ++ ws) (ds ++ es)
  | _, _, .nil, q => q
  | _, _, .cons h r, q => .cons h (r.app q)
theorem RelL.take : ∀ {vs : List V} {ds : List D} (n : Nat), RelL K F H vs ds → RelL K F H (vs.take n) (ds.take n)
  | _, _, 0, _ => by simp; exact .nil
  | _, _, _ + 1, .nil => .nil
  | _, _, n + 1, .cons h r => .cons h (r.take n)
theorem RelL.drop : ∀ {vs : List V} {ds : List D} (n : Nat), RelL K F H vs ds → RelL K F H (vs.drop n) (ds.drop n)
  | _, _, 0, r => r
  | _, _, _ + 1, .nil => .nil
  | _, _, n + 1, .cons h r => r.drop n
theorem RelL.get : ∀ {vs : List V} {ds : List D} {i : Nat} {d : D}, RelL K F H vs ds → ds[i]? = some d → ∃ v, vs[i]? = some v ∧ Rel K F H v d
  | _, _, _, _, .nil, e => by simp at e
  | _, _, 0, _, .cons h r, e => by simp at e; subst e; exact ⟨_, rfl, h⟩
  | _, _, i + 1, _, .cons h r, e => by
    obtain ⟨v, e1, e2⟩ := r.get (i := i) (by simpa using e)
    exact ⟨v, by simpa using e1, e2⟩
theorem RelL.getV : ∀ {vs : List V} {ds : List D} {i : Nat} {v : V}, RelL K F H vs ds → vs[i]? = some v → ∃ d, ds[i]? = some d ∧ Rel K F H v d
  | _, _, _, _, .nil, e => by simp at e
  | _, _, 0, _, .cons h r, e => by simp at e; subst e; exact ⟨_, rfl, h⟩
  | _, _, i + 1, _, .cons h r, e => by
    obtain ⟨v, e1, e2⟩ := r.getV (i := i) (by simpa using e)
    exact ⟨v, by simpa using e1, e2⟩
theorem RelL.set (h : Rel K F H v d) : ∀ {vs : List V} {ds : List D} (i : Nat), RelL K F H vs ds → RelL K F H (vs.set i v) (ds.set i d)
  | _, _, _, .nil => .nil
  | _, _, 0, .cons _ r => .cons h r
  | _, _, i + 1, .cons q r => .cons q (RelL.set h i r)
theorem RelL.erase : ∀ {vs : List V} {ds : List D} (i : Nat), RelL K F H vs ds → RelL K F H (vs.eraseIdx i) (ds.eraseIdx i)
  | _, _, _, .nil => .nil
  | _, _, 0, .cons _ r => r
  | _, _, i + 1, .cons q r => .cons q (RelL.erase i r)
theorem RelL.rev : ∀ {vs : List V} {ds : List D}, RelL K F H vs ds → RelL K F H vs.reverse ds.reverse
  | _, _, .nil => .nil
  | _, _, .cons h r => by
    rw [List.reverse_cons, List.reverse_cons]
    exact r.rev.app (.cons h .nil)
theorem RelL.ints : ∀ {ds : List D} {ns : List Int} {vs : List V}, RelL K F H vs ds → intsOf ds = some ns → vs = ns.map V.int
  | [], ns, _, .nil, e => by simp [intsOf] at e; subst e; rfl
  | .int i :: ds, ns, _, .cons h r, e => by
    cases h
    simp only [intsOf, Option.map_eq_some_iff] at e
    obtain ⟨ms, e1, rfl⟩ := e
    rw [r.ints e1]; rfl
  | .non :: _, _, _, _, e => by simp [intsOf] at e
  | .bl _ :: _, _, _, _, e => by simp [intsOf] at e
  | .str _ :: _, _, _, _, e => by simp [intsOf] at e
  | .tup _ :: _, _, _, _, e => by simp [intsOf] at e
  | .lst _ :: _, _, _, _, e => by simp [intsOf] at e
  | .scr _ :: _, _, _, _, e => by simp [intsOf] at e
  | .fn _ :: _, _, _, _, e => by simp [intsOf] at e
theorem RelL.bls : ∀ {ds : List D} {ns : List Bool} {vs : List V}, RelL K F H vs ds → blsOf ds = some ns → vs = ns.map V.bl
  | [], ns, _, .nil, e => by simp [blsOf] at e; subst e; rfl
  | .bl i :: ds, ns, _, .cons h r, e => by
    cases h
    simp only [blsOf, Option.map_eq_some_iff] at e
    obtain ⟨ms, e1, rfl⟩ := e
    rw [r.bls e1]; rfl
  | .non :: _, _, _, _, e => by simp [blsOf] at e
  | .int _ :: _, _, _, _, e => by simp [blsOf] at e
  | .str _ :: _, _, _, _, e => by simp [blsOf] at e
  | .tup _ :: _, _, _, _, e => by simp [blsOf] at e
  | .lst _ :: _, _, _, _, e => by simp [blsOf] at e
  | .scr _ :: _, _, _, _, e => by simp [blsOf] at e
  | .fn _ :: _, _, _, _, e => by simp [blsOf] at e
theorem RelL.of_ints : ∀ (ns : List Int), RelL K F H (ns.map V.int) (ns.map D.int)
  | [] => .nil
  | n :: ns => .cons (.int n) (RelL.of_ints ns)
end

/-! ### slots -/
def S.isIo : S → Prop
  | .io _ => True
  | _ => False
def S.muts : S → Option (List D)
  | .val _ => none
  | .own ds => some ds
  | .io ds => some ds
/-- a list that is not frozen -/
def OwnR (K : PySem.W.Frag) (F : ASet) (H : Hp) (v : V) (ds : List D) : Prop := ∃ a vs, v = .ref a ∧ H a = some (.lst vs) ∧ RelL K F H vs ds ∧ ¬ F a ∧ ds.length ≤ lim
def SlR (K : PySem.W.Frag) (F : ASet) (H : Hp) (v : V) : S → Prop
  | .val d => Rel K F H v d
  | .own ds => OwnR K F H v ds
  | .io ds => OwnR K F H v ds
def Own (σ : St) (s : DEnv) : ASet := fun b => ∃ (i : Nat) (x : S) (ds : List D), s[i]? = some (some x) ∧ S.muts x = some ds ∧ σ[i]? = some (some (V.ref b))
variable [TabC]
structure SR (K : PySem.W.Frag) (F : ASet) (σ : St) (H : Hp) (s : DEnv) : Prop where
  len : σ.length = s.length
  ats : ∀ (i : Nat) (x : S), s[i]? = some (some x) → ∃ v, σ[i]? = some (some v) ∧ SlR K F H v x
  sep : ∀ (i j : Nat) (x y : S) (ds es : List D) (b : Addr), s[i]? = some (some x) → S.muts x = some ds → s[j]? = some (some y) → S.muts y = some es → σ[i]? = some (some (.ref b)) → σ[j]? = some (some (.ref b)) → i = j
  fdm : ∀ a, F a → ∃ vs, H a = some (.lst vs)
  tb : TbOk H
structure Ext (F O : ASet) (H : Hp) (F' O' : ASet) (H' : Hp) : Prop where
  fr : ∀ b o, H b = some o → ¬ O b → NT o → H' b = some o
  dm : ∀ b, H' b = none → H b = none
  sub : ∀ a, F a → F' a
  new : ∀ a, F' a → F a ∨ O a ∨ H a = none
  own : ∀ a, O' a → O a ∨ H a = none
theorem Ext.refl {F O : ASet} {H : Hp} : Ext F O H F O H := ⟨fun _ _ e _ _ => e, fun _ e => e, fun _ e => e, fun _ e => .inl e, fun _ e => .inl e⟩
theorem Ext.trans {F O F1 O1 F2 O2 : ASet} {H H1 H2 : Hp} (a : Ext F O H F1 O1 H1) (b : Ext F1 O1 H1 F2 O2 H2) : Ext F O H F2 O2 H2 := by
  refine ⟨fun c o e n t => b.fr c o (a.fr c o e n t) (fun z => ?_) t, fun c e => a.dm c (b.dm c e), fun c e => b.sub c (a.sub c e), fun c e => ?_, fun c e => ?_⟩
  · rcases a.own c z with z | z
    · exact n z
    · rw [e] at z; cases z
  · rcases b.new c e with z | z | z
    · exact a.new c z
    · exact .inr (a.own c z)
    · exact .inr (.inr (a.dm c z))
  · rcases b.own c e with z | z
    · exact a.own c z
    · exact .inr (a.dm c z)
section
variable {K : PySem.W.Frag} {F F' F1 F2 O O' : ASet} {H H' H1 H2 : Hp} {σ : St} {s s' s1 s2 : DEnv} {v : V} {d : D}
theorem SR.own (r : SR K F σ H s) {b : Addr} (o : Own σ s b) : (∃ vs, H b = some (.lst vs)) ∧ ¬ F b := by
  obtain ⟨i, x, ds, e1, e2, e3⟩ := o
  obtain ⟨v, e4, q⟩ := r.ats i x e1
  rw [e3] at e4
  cases e4
  cases x with
  | val d => cases e2
  | own ds => obtain ⟨a, vs, e, h, _, n, _⟩ := q; cases e; exact ⟨⟨vs, h⟩, n⟩
  | io ds => obtain ⟨a, vs, e, h, _, n, _⟩ := q; cases e; exact ⟨⟨vs, h⟩, n⟩
theorem SR.keep (r : SR K F σ H s) (e : Ext F (Own σ s) H F' O' H') : Keep F H H' := fun b o h z t => e.fr b o h (fun q => by
  obtain ⟨⟨vs, h1⟩, n⟩ := r.own q
  rcases z with z | z
  · exact n z
  · rw [h] at h1; cases h1; exact z vs rfl) t
theorem SR.rel (r : SR K F σ H s) (e : Ext F (Own σ s) H F' O' H') (h : Rel K F H v d) : Rel K F' H' v d := h.mono (r.keep e) e.sub
theorem SR.relL (r : SR K F σ H s) (e : Ext F (Own σ s) H F' O' H') {vs : List V} {ds : List D} (h : RelL K F H vs ds) : RelL K F' H' vs ds := h.mono (r.keep e) e.sub
/-- a new object -/
theorem Ext.obj {p : Addr} {o : HO} (n : H p = none) : Ext F O H F O (upd H p o) := ⟨fun b u e _ _ => by rw [upd_ne (ne_of_none e n)]; exact e, fun b e => by
  by_cases h : b = p
  · rw [h]; exact n
  · rw [upd_ne h] at e; exact e, fun _ e => e, fun _ e => .inl e, fun _ e => .inl e⟩

/-- an operand's value; H0: the heap ahead of the evaluation -/
def OR (K : PySem.W.Frag) (F : ASet) (σ : St) (H0 H : Hp) (s : DEnv) (v : V) : Opd → Prop
  | .val d => Rel K F H v d
  | .fresh ds => OwnR K F H v ds ∧ ∀ b, v = .ref b → ¬ Own σ s b ∧ H0 b = none
  | .slot i => σ[i]? = some (some v) ∧ ∃ x, s[i]? = some (some x)
structure EPost (K : PySem.W.Frag) (F : ASet) (σ : St) (H : Hp) (s : DEnv) (F' : ASet) (H' : Hp) (s' : DEnv) : Prop where
  ext : Ext F (Own σ s) H F' (Own σ s') H'
  dom : ∀ (i : Nat) (x : S), s[i]? = some (some x) → ∃ x' : S, s'[i]? = some (some x') ∧ (S.isIo x → S.isIo x')
  sr : SR K F' σ H' s'
theorem EPost.refl (r : SR K F σ H s) : EPost K F σ H s F H s := ⟨.refl, fun _ x e => ⟨x, e, id⟩, r⟩
theorem EPost.trans (a : EPost K F σ H s F1 H1 s1) (b : EPost K F1 σ H1 s1 F2 H2 s2) : EPost K F σ H s F2 H2 s2 :=
  ⟨a.ext.trans b.ext, fun i x e => let ⟨_, e1, h1⟩ := a.dom i x e; let ⟨y, e2, h2⟩ := b.dom i _ e1; ⟨y, e2, fun z => h2 (h1 z)⟩, b.sr⟩
theorem OwnR.mono (r : SR K F σ H s) (e : Ext F (Own σ s) H F' O' H') {ds : List D} (h : OwnR K F H v ds) (n : ∀ b, v = .ref b → ¬ Own σ s b) : OwnR K F' H' v ds ∧ ∀ b, v = .ref b → ¬ O' b := by
  obtain ⟨a, vs, rfl, h1, h2, h3, h4⟩ := h
  have na := n a rfl
  have gone : ∀ {P : Prop}, (F a ∨ Own σ s a ∨ H a = none) → P := fun z => by
    rcases z with z | z | z
    · exact absurd z h3
    · exact absurd z na
    · rw [h1] at z; cases z
  refine ⟨⟨a, vs, rfl, e.fr a _ h1 na (fun _ => nofun), r.relL e h2, fun z => gone (e.new a z), h4⟩, fun b q z => ?_⟩
  cases q
  exact gone (.inr (e.own a z))
theorem OR.mono {H0 : Hp} (e : EPost K F σ H s F' H' s') (p : SR K F σ H s) : ∀ {o : Opd}, OR K F σ H0 H s v o → OR K F' σ H0 H' s' v o
  | .val d, h => p.rel e.ext h
  | .fresh ds, ⟨h, n⟩ =>
    let ⟨h1, h2⟩ := OwnR.mono p e.ext h fun b q => (n b q).1
    ⟨h1, fun b q => ⟨h2 b q, (n b q).2⟩⟩
  | .slot i, ⟨h, x, q⟩ => ⟨h, let ⟨y, e1, _⟩ := e.dom i x q; ⟨y, e1⟩⟩
/-- an earlier start -/
theorem OR.early {H0 H00 : Hp} (n : ∀ b, H0 b = none → H00 b = none) : ∀ {o : Opd}, OR K F σ H0 H s v o → OR K F σ H00 H s v o
  | .val _, h => h
  | .fresh _, ⟨h, q⟩ => ⟨h, fun b e => ⟨(q b e).1, n b (q b e).2⟩⟩
  | .slot _, h => h
/-- what is looked at -/
inductive View (K : PySem.W.Frag) (F : ASet) (H : Hp) : V → D → Prop
  | rel {v : V} {d : D} (h : Rel K F H v d) : View K F H v d
  | lst {a : Addr} {vs : List V} {ds : List D} (h : H a = some (.lst vs)) (r : RelL K F H vs ds) (l : ds.length ≤ lim) : View K F H (.ref a) (.lst ds)
theorem View.own {ds : List D} (h : OwnR K F H v ds) : View K F H v (.lst ds) := by
  obtain ⟨a, vs, rfl, h1, h2, _, h4⟩ := h
  exact .lst h1 h2 h4
theorem View.list {ds : List D} (h : View K F H v (.lst ds)) : ∃ a vs, v = .ref a ∧ H a = some (.lst vs) ∧ RelL K F H vs ds := by
  cases h with
  | rel h => cases h with | lst f h r l => exact ⟨_, _, rfl, h, r⟩
  | lst h r l => exact ⟨_, _, rfl, h, r⟩
theorem View.lenL {ds : List D} (h : View K F H v (.lst ds)) : ds.length ≤ lim := by
  cases h with
  | rel h => cases h with | lst f h r l => exact l
  | lst h r l => exact l
theorem View.lenT {ds : List D} (h : View K F H v (.tup ds)) : ds.length ≤ lim := by
  cases h with
  | rel h => cases h with | tup h r l => exact l
theorem View.int_ {i : Int} (h : View K F H v (.int i)) : v = .int i := by
  cases h with | rel h => cases h; rfl
theorem View.bl_ {i : Bool} (h : View K F H v (.bl i)) : v = .bl i := by
  cases h with | rel h => cases h; rfl
theorem View.non_ (h : View K F H v .non) : v = .non := by
  cases h with | rel h => cases h; rfl
theorem View.str_ {x : Str} (h : View K F H v (.str x)) : v = .str x := by
  cases h with | rel h => cases h; rfl
theorem View.tup_ {ds : List D} (h : View K F H v (.tup ds)) : ∃ a vs, v = .ref a ∧ SqT K H a vs ∧ RelL K F H vs ds := by
  cases h with | rel h => cases h with | tup h r l => exact ⟨_, _, rfl, h, r⟩
theorem View.scr_ {ns : List Int} (h : View K F H v (.scr ns)) : ∃ a, v = .ref a ∧ SqL K H a (ns.map V.int) := by
  cases h with | rel h => cases h with | scr h => exact ⟨_, rfl, h.sq⟩
theorem View.fn_ {f : String} (h : View K F H v (.fn f)) : v = .ref (He.ga K (Str.ofString f)) := by
  cases h with | rel h => cases h; rfl
theorem SR.view {H0 : Hp} (r : SR K F σ H s) : ∀ {o : Opd} {d : D}, OR K F σ H0 H s v o → deref s o = some d → View K F H v d
  | .val d, _, h, e => by cases e; exact .rel h
  | .fresh ds, _, ⟨h, _⟩, e => by cases e; exact View.own h
  | .slot i, d, ⟨h, x, q⟩, e => by
    obtain ⟨v', e1, sl⟩ := r.ats i x q
    rw [h] at e1
    cases e1
    simp only [deref, q] at e
    cases x with
    | val d => cases e; exact .rel sl
    | own ds => cases e; exact View.own sl
    | io ds => cases e; exact View.own sl
/-- the frozen ones and one more -/
def more (F : ASet) (a : Addr) : ASet := fun b => F b ∨ b = a
theorem SlR.more {a : Addr} {x : S} (h : SlR K F H v x) (n : ∀ ds, S.muts x = some ds → v ≠ .ref a) : SlR K (more F a) H v x := by
  have go : ∀ {ds : List D}, v ≠ .ref a → OwnR K F H v ds → OwnR K (Cv.more F a) H v ds := fun {ds} n ⟨b, vs, e, h1, h2, h3, h4⟩ =>
    ⟨b, vs, e, h1, h2.mono .refl fun _ => .inl, fun z => z.elim h3 fun z => n (by rw [e, z]), h4⟩
  cases x with
  | val d => exact Rel.mono .refl (fun _ => .inl) h
  | own ds => exact go (n ds rfl) h
  | io ds => exact go (n ds rfl) h
/-- the operand goes into another thing -/
theorem esc_ok {o : Opd} {F1 : ASet} {H1 : Hp} {s1 s2 : DEnv} (p : EPost K F σ H s F1 H1 s1) (h : OR K F1 σ H H1 s1 v o) (e : esc s1 o = some (d, s2)) : ∃ F2, EPost K F σ H s F2 H1 s2 ∧ Rel K F2 H1 v d := by
  cases o with
  | val d' => cases e; exact ⟨F1, p, h⟩
  | fresh ds =>
    cases e
    obtain ⟨⟨a, vs, rfl, h1, h2, h3, h4⟩, n⟩ := h
    obtain ⟨n1, n2⟩ := n a rfl
    refine ⟨more F1 a, ⟨⟨p.ext.fr, p.ext.dm, fun b q => .inl (p.ext.sub b q), fun b q => ?_, p.ext.own⟩, p.dom, ⟨p.sr.len, fun i x q => ?_, p.sr.sep, fun b q => ?_, p.sr.tb⟩⟩, .lst (.inr rfl) h1 (h2.mono .refl fun _ => .inl) h4⟩
    · rcases q with q | rfl
      · exact p.ext.new b q
      · exact .inr (.inr n2)
    · obtain ⟨w, q1, q2⟩ := p.sr.ats i x q
      refine ⟨w, q1, q2.more fun ds z z2 => n1 ⟨i, x, ds, q, z, by rw [q1, z2]⟩⟩
    · rcases q with q | rfl
      · exact p.sr.fdm b q
      · exact ⟨vs, h1⟩
  | slot i =>
    obtain ⟨h1, x, h2⟩ := h
    simp only [esc, h2] at e
    obtain ⟨w, q1, q2⟩ := p.sr.ats i x h2
    rw [h1] at q1
    cases q1
    cases x with
    | val d' => cases e; exact ⟨F1, p, q2⟩
    | io ds => cases e
    | own ds =>
      cases e
      obtain ⟨a, vs, rfl, g1, g2, g3, g4⟩ := q2
      have hi : i < s1.length := (List.getElem?_eq_some_iff.mp h2).1
      have oa : Own σ s1 a := ⟨i, _, ds, h2, rfl, h1⟩
      have sub : ∀ b, Own σ (s1.set i (some (.val (.lst ds)))) b → Own σ s1 b ∧ b ≠ a := fun b ⟨j, y, es, z1, z2, z3⟩ => by
        by_cases hj : i = j
        · subst hj
          rw [List.getElem?_set_self hi] at z1
          cases z1
          cases z2
        · rw [List.getElem?_set_ne hj] at z1
          refine ⟨⟨j, y, es, z1, z2, z3⟩, fun z => hj ?_⟩
          subst z
          exact p.sr.sep i j _ _ _ _ b h2 rfl z1 z2 h1 z3
      refine ⟨more F1 a, ⟨⟨p.ext.fr, p.ext.dm, fun b q => .inl (p.ext.sub b q), fun b q => ?_, fun b q => p.ext.own b (sub b q).1⟩, fun j y z => ?_, ⟨by rw [List.length_set]; exact p.sr.len, fun j y z => ?_, fun j k y z es fs b z1 z2 z3 z4 z5 z6 => ?_, fun b q => ?_, p.sr.tb⟩⟩, .lst (.inr rfl) g1 (g2.mono .refl fun _ => .inl) g4⟩
      · rcases q with q | rfl
        · exact p.ext.new b q
        · exact (p.ext.own b oa).elim (fun z => .inr (.inl z)) fun z => .inr (.inr z)
      · obtain ⟨y', z', z''⟩ := p.dom j y z
        by_cases hj : i = j
        · subst hj
          rw [h2] at z'
          cases z'
          exact ⟨_, List.getElem?_set_self hi, fun q => (z'' q).elim⟩
        · exact ⟨y', by rw [List.getElem?_set_ne hj]; exact z', z''⟩
      · by_cases hj : i = j
        · subst hj
          rw [List.getElem?_set_self hi] at z
          cases z
          exact ⟨_, h1, .lst (.inr rfl) g1 (g2.mono .refl fun _ => .inl) g4⟩
        · rw [List.getElem?_set_ne hj] at z
          obtain ⟨w, q1, q2⟩ := p.sr.ats j y z
          refine ⟨w, q1, q2.more fun es z2 z3 => hj ?_⟩
          subst z3
          exact p.sr.sep i j _ _ _ _ a h2 rfl z z2 h1 q1
      · have nn : ∀ (j : Nat) (y : S) (es : List D), (s1.set i (some (.val (.lst ds))))[j]? = some (some y) → S.muts y = some es → s1[j]? = some (some y) := fun j y es z1 z2 => by
          by_cases hj : i = j
          · subst hj
            rw [List.getElem?_set_self hi] at z1
            cases z1
            cases z2
          · rw [List.getElem?_set_ne hj] at z1
            exact z1
        exact p.sr.sep j k y z es fs b (nn j y es z1 z2) z2 (nn k z fs z3 z4) z4 z5 z6
      · rcases q with q | rfl
        · exact p.sr.fdm b q
        · exact ⟨vs, g1⟩
end
end Cv
set_option maxRecDepth 100000
set_option maxHeartbeats 1000000
set_option autoImplicit false
/-! Engine, part C: operations on values. -/
namespace Cv
open PySem PySem.Spec L2
variable [TabC]

theorem lim_eq : lim = sizeLine := by decide
section
variable {K : PySem.W.Frag} {F F' F1 F2 : ASet} {H H' H1 H2 : Hp} {σ : St} {s s' s1 s2 : DEnv} {v w : V} {d : D} {Q : VK} {ds es : List D} {vs ws : List V}
/-! ### heaps that grow -/
theorem same_keep (h : Same H H') : Keep F H H' := fun b o e _ _ => h b o e
theorem same_obj {p : Addr} {o : HO} (n : H p = none) : Same H (upd H p o) := fun b u e => by rw [upd_ne (ne_of_none e n)]; exact e
theorem same_ext {O : ASet} (h : Same H H') : Ext F O H F O H' := ⟨fun b o e _ _ => h b o e, fun b e => h.free e, fun _ e => e, fun _ e => .inl e, fun _ e => .inl e⟩
theorem OwnR.same (h : Same H H') (r : OwnR K F H v ds) : OwnR K F H' v ds := by
  obtain ⟨a, vs, e, h1, h2, h3, h4⟩ := r
  exact ⟨a, vs, e, h _ _ h1, h2.mono (same_keep h) (fun _ z => z), h3, h4⟩
theorem SlR.same (h : Same H H') : ∀ {x : S}, SlR K F H v x → SlR K F H' v x
  | .val _, r => Rel.mono (same_keep h) (fun _ z => z) r
  | .own _, r => OwnR.same h r
  | .io _, r => OwnR.same h r
theorem SR.same (r : SR K F σ H s) (h : Same H H') : SR K F σ H' s :=
  ⟨r.len, fun i x e => let ⟨v, e1, e2⟩ := r.ats i x e; ⟨v, e1, e2.same h⟩, r.sep, fun a f => let ⟨vs, e⟩ := r.fdm a f; ⟨vs, h _ _ e⟩, r.tb.ext h⟩
theorem EPost.same (r : SR K F σ H s) (h : Same H H') : EPost K F σ H s F H' s := ⟨same_ext h, fun _ x e => ⟨x, e, id⟩, r.same h⟩
theorem SR.noF (r : SR K F σ H s) {p : Addr} (n : H p = none) : ¬ F p := fun f => by
  obtain ⟨vs, e⟩ := r.fdm p f
  rw [n] at e; cases e
theorem SR.noO (r : SR K F σ H s) {p : Addr} (n : H p = none) : ¬ Own σ s p := fun f => by
  obtain ⟨⟨vs, e⟩, _⟩ := r.own f
  rw [n] at e; cases e
/-! ### what comes of an operation -/
def Res (K : PySem.W.Frag) (F : ASet) (σ : St) (H : Hp) (s : DEnv) (o : Opd) (Q : VK) : Prop := ∀ z H', EPost K F σ H s F H' s → OR K F σ H H' s z o → Q z H'
theorem Res.val (h : Res K F σ H s (.val d) Q) (r : SR K F σ H s) (q : Rel K F H v d) : Q v H := h v H (.refl r) q
theorem Res.int {i : Int} (h : Res K F σ H s (.val (.int i)) Q) (r : SR K F σ H s) : Q (.int i) H := h.val r (.int i)
theorem Res.bl {i : Bool} (h : Res K F σ H s (.val (.bl i)) Q) (r : SR K F σ H s) : Q (.bl i) H := h.val r (.bl i)
theorem Res.tup (h : Res K F σ H s (.val (.tup ds)) Q) (r : SR K F σ H s) (q : RelL K F H vs ds) (l : ds.length ≤ lim) {p : Addr} (n : H p = none) : Q (.ref p) (upd H p (.tup vs)) :=
  h _ _ (.same r (same_obj n)) (Rel.tup (SqT.of upd_same) (q.mono (same_keep (same_obj n)) fun _ z => z) l)
theorem Res.lst (h : Res K F σ H s (.fresh ds) Q) (r : SR K F σ H s) (q : RelL K F H vs ds) (l : ds.length ≤ lim) {p : Addr} (n : H p = none) : Q (.ref p) (upd H p (.lst vs)) :=
  h _ _ (.same r (same_obj n)) ⟨⟨p, vs, rfl, upd_same, q.mono (same_keep (same_obj n)) fun _ z => z, r.noF n, l⟩, fun b e => by cases e; exact ⟨r.noO n, n⟩⟩

/-! ### the wp of an operation on values -/
variable {X : Cx}
def WpOp (X : Cx) (f : Value → Value → Sem Value) : R2 := fun x y H Q => ∀ (pins : List (Addr × Obj)) (s : Shared) (σ : St) (v u : Value), Inv X pins σ H s → RelV x v → RelV y u → wpAny (model X.prog X.w) X.A (f v u) (EP X pins σ Q) X.xe s
theorem opr_wp (f : Value → Value → Sem Value) : OpR X f (WpOp X f) := fun pins s σ H x y v u Q I rx ry h => h pins s σ v u I rx ry
theorem WpOp.of {f : Value → Value → Sem Value} {r : R2} {x y : V} (h : OpR X f r) (q : r x y H Q) : WpOp X f x y H Q := fun pins s σ v u I rx ry => h pins s σ H x y v u Q I rx ry q
def WpCall (X : Cx) (f : Value) : List V → Hp → VK → Prop := fun xs H Q => ∀ (pins : List (Addr × Obj)) (s : Shared) (σ : St) (us : List Value), Inv X pins σ H s → Vals xs us → wpAny (model X.prog X.w) X.A (call f us) (EP X pins σ Q) X.xe s
theorem callr_wp (f : Value) : CallR X f (WpCall X f) := fun pins s σ H xs us Q I r h => h pins s σ us I r
theorem WpCall.of {f : Value} {r : List V → Hp → VK → Prop} {xs : List V} (h : CallR X f r) (q : r xs H Q) : WpCall X f xs H Q := fun pins s σ us I rx => h pins s σ H xs us Q I rx q

def opOf : Bop → Operator
  | .add => .Add
  | .sub => .Sub
  | .mul => .Mult
  | .fdiv => .FloorDiv
  | .mod => .Mod
  | .pow => .Pow
theorem bin_ok {op : Bop} {x y : V} {a b : D} {o : Opd} (r : SR X.K F σ H s) (hx : View X.K F H x a) (hy : View X.K F H y b) (e : binD op a b = some o) (q : Res X.K F σ H s o Q) : WpOp X (binaryOp (opOf op)) x y H Q := by
  unfold binD at e
  split at e
  · cases e; cases hx.int_; cases hy.int_
    exact .of op_add ⟨_, _, rfl, rfl, q.int r⟩
  · split at e
    · rename_i hl
      cases e
      obtain ⟨a1, vs1, rfl, h1, r1⟩ := hx.tup_
      obtain ⟨a2, vs2, rfl, h2, r2⟩ := hy.tup_
      refine .of op_catA ⟨a1, a2, vs1, vs2, rfl, rfl, h1, h2, by rw [r1.len, r2.len, ← lim_eq]; exact hl, fun z => ?_, fun _ z => ?_, fun _ _ p n => q.tup r (r1.app r2) (by rw [List.length_append]; exact hl) n⟩
      · subst z
        cases r1
        exact q.val r (.tup h2 r2 (by simpa using hl))
      · subst z
        cases r2
        refine q.val r (.tup h1 ?_ (by simpa using hl))
        simpa using r1
    · cases e
  · split at e
    · rename_i hl
      cases e
      obtain ⟨a1, vs1, rfl, h1, r1⟩ := hx.list
      obtain ⟨a2, vs2, rfl, h2, r2⟩ := hy.list
      exact .of op_cat ⟨a1, a2, vs1, vs2, rfl, rfl, h1, h2, by rw [r1.len, r2.len, ← lim_eq]; exact hl, fun p n => q.lst r (r1.app r2) (by rw [List.length_append]; exact hl) n⟩
    · cases e
  · cases e; cases hx.int_; cases hy.int_
    exact .of op_sub ⟨_, _, rfl, rfl, q.int r⟩
  · split at e
    · rename_i i j hm
      cases e; cases hx.int_; cases hy.int_
      simp only [mulOk, Bool.or_eq_true, decide_eq_true_eq] at hm
      rcases hm with (hm | hm) | hm
      · exact .of op_mul ⟨_, _, rfl, rfl, .inl ⟨by omega, by omega⟩, q.int r⟩
      · exact .of op_mul ⟨_, _, rfl, rfl, .inr ⟨by omega, by omega⟩, q.int r⟩
      · exact .of op_mulW ⟨_, _, rfl, rfl, hm, q.int r⟩
    · cases e
  · split at e
    · rename_i hm
      cases e; cases hx.int_; cases hy.int_
      exact .of op_fdiv ⟨_, _, rfl, rfl, hm, q.int r⟩
    · cases e
  · split at e
    · rename_i hm
      cases e; cases hx.int_; cases hy.int_
      exact .of op_mod ⟨_, _, rfl, rfl, hm, q.int r⟩
    · cases e
  · split at e
    · rename_i hm
      cases e; cases hx.int_; cases hy.int_
      exact .of op_pow ⟨_, _, rfl, rfl, ⟨hm.1, hm.2.1, by simpa using hm.2.2⟩, q.int r⟩
    · cases e
  · cases e

/-! ### comparisons -/
mutual
def toPy : D → PyData
  | .non => .none
  | .bl b => .bool b
  | .int i => .int i
  | .str x => .str x
  | .tup ds => .tuple (toPys ds)
  | .lst ds => .list (toPys ds)
  | .scr _ => .none
  | .fn _ => .none
def toPys : List D → List PyData
  | [] => []
  | d :: ds => toPy d :: toPys ds
end
mutual
theorem eqD_py : ∀ (k j : Nat) (a b : D), dle k a = true → dle j b = true → PyData.eqv (toPy a) (toPy b) = eqD a b
  | _, _, .non, b, _, hb => by cases b <;> first | rfl | (cases ‹Nat› <;> cases hb)
  | _, _, .bl x, b, _, hb => by cases b <;> first | rfl | (cases ‹Nat› <;> cases hb)
  | _, _, .int x, b, _, hb => by cases b <;> first | rfl | (cases ‹Nat› <;> cases hb)
  | _, _, .str x, b, _, hb => by cases b <;> first | rfl | (cases ‹Nat› <;> cases hb)
  | 0, _, .tup x, b, ha, hb => by cases ha
  | 0, _, .lst x, b, ha, hb => by cases ha
  | k + 1, j, .tup xs, b, ha, hb => by
    cases b with
    | tup ys =>
      cases j with
      | zero => cases hb
      | succ j =>
        show PyData.eqvAll (toPys xs) (toPys ys) = eqDs xs ys
        exact eqDs_py k j xs ys ha hb
    | scr _ => cases j <;> cases hb
    | _ => rfl
  | k + 1, j, .lst xs, b, ha, hb => by
    cases b with
    | lst ys =>
      cases j with
      | zero => cases hb
      | succ j =>
        show PyData.eqvAll (toPys xs) (toPys ys) = eqDs xs ys
        exact eqDs_py k j xs ys ha hb
    | scr _ => cases j <;> cases hb
    | _ => rfl
  | k, _, .scr _, b, ha, hb => by cases k <;> cases ha
  | k, _, .fn _, b, ha, hb => by cases k <;> cases ha
theorem eqDs_py : ∀ (k j : Nat) (a b : List D), dles k a = true → dles j b = true → PyData.eqvAll (toPys a) (toPys b) = eqDs a b
  | _, _, [], [], _, _ => rfl
  | _, _, [], _ :: _, _, _ => rfl
  | _, _, _ :: _, [], _, _ => rfl
  | k, j, x :: xs, y :: ys, ha, hb => by
    simp only [dles, Bool.and_eq_true] at ha hb
    show (PyData.eqv (toPy x) (toPy y) && PyData.eqvAll (toPys xs) (toPys ys)) = (eqD x y && eqDs xs ys)
    rw [eqD_py k j x y ha.1 hb.1, eqDs_py k j xs ys ha.2 hb.2]
end
mutual
theorem dle_depth : ∀ (k : Nat) (a : D), dle k a = true → (toPy a).depth ≤ k
  | _, .non, _ => Nat.zero_le _
  | _, .bl _, _ => Nat.zero_le _
  | _, .int _, _ => Nat.zero_le _
  | _, .str _, _ => Nat.zero_le _
  | 0, .tup _, h => by cases h
  | 0, .lst _, h => by cases h
  | k + 1, .tup ds, h => by
    show PyData.depthAll (toPys ds) + 1 ≤ k + 1
    exact Nat.succ_le_succ (dles_depth k ds h)
  | k + 1, .lst ds, h => by
    show PyData.depthAll (toPys ds) + 1 ≤ k + 1
    exact Nat.succ_le_succ (dles_depth k ds h)
  | k, .scr _, h => by cases k <;> cases h
  | k, .fn _, h => by cases k <;> cases h
theorem dles_depth : ∀ (k : Nat) (a : List D), dles k a = true → PyData.depthAll (toPys a) ≤ k
  | _, [], _ => Nat.zero_le _
  | k, d :: ds, h => by
    simp only [dles, Bool.and_eq_true] at h
    show max (toPy d).depth (PyData.depthAll (toPys ds)) ≤ k
    exact Nat.max_le.mpr ⟨dle_depth k d h.1, dles_depth k ds h.2⟩
end
mutual
theorem Rel.dp : ∀ {v : V} {d : D} (k : Nat), Rel K F H v d → dle k d = true → Dp K H v (toPy d) ∧ (toPy d).canLay0 = true
  | _, _, _, .non, _ => ⟨.non, rfl⟩
  | _, _, _, .bl b, _ => ⟨.bl b, rfl⟩
  | _, _, _, .int i, _ => ⟨.int i, rfl⟩
  | _, _, _, .str x h, _ => ⟨.str x, h⟩
  | _, _, 0, .tup h r _, e => by cases e
  | _, _, 0, .lst f h r _, e => by cases e
  | _, _, k + 1, .tup h r _, e => let ⟨q1, q2⟩ := RelL.dp k r e; ⟨.tup h q1, q2⟩
  | _, _, k + 1, .lst f h r _, e => let ⟨q1, q2⟩ := RelL.dp k r e; ⟨.lst (SqL.of h) q1, q2⟩
  | _, _, k, .scr h, e => by cases k <;> cases e
  | _, _, k, .fn f, e => by cases k <;> cases e
theorem RelL.dp : ∀ {vs : List V} {ds : List D} (k : Nat), RelL K F H vs ds → dles k ds = true → DpAll K H vs (toPys ds) ∧ PyData.canLayAll0 (toPys ds) = true
  | _, _, _, .nil, _ => ⟨.nil, rfl⟩
  | _, _, k, .cons h r, e => by
    simp only [dles, Bool.and_eq_true] at e
    obtain ⟨a1, a2⟩ := Rel.dp k h e.1
    obtain ⟨b1, b2⟩ := RelL.dp k r e.2
    exact ⟨.cons a1 b1, by show (_ && _) = true; rw [a2, b2]; rfl⟩
end
theorem View.dp {k : Nat} (h : View K F H v d) (e : dle k d = true) (hk : k ≤ 64) : Dp K H v (toPy d) ∧ SeqAt.shaped (toPy d) = true := by
  have dep := Nat.le_trans (dle_depth k d e) hk
  have fin : ∀ {p : Prop}, p ∧ (toPy d).canLay0 = true → p ∧ SeqAt.shaped (toPy d) = true := fun ⟨a, b⟩ => ⟨a, by unfold SeqAt.shaped; rw [b, decide_eq_true dep]; rfl⟩
  cases h with
  | rel h => exact fin (h.dp k e)
  | lst h r l =>
    cases k with
    | zero => cases e
    | succ k =>
      obtain ⟨q1, q2⟩ := r.dp k e
      exact fin ⟨.lst (SqL.of h) q1, q2⟩
theorem any_py (k j : Nat) (a : D) (ha : dle k a = true) : ∀ (ds : List D), dles j ds = true → (toPys ds).any (fun z => PyData.eqv z (toPy a)) = ds.any fun z => eqD z a
  | [], _ => rfl
  | x :: xs, h => by
    simp only [dles, Bool.and_eq_true] at h
    show (PyData.eqv (toPy x) (toPy a) || _) = (eqD x a || _)
    rw [eqD_py j k x a h.1 ha, any_py k j a ha xs h.2]
end
end Cv
set_option maxRecDepth 100000
set_option maxHeartbeats 1000000
/-! Engine, part T: sorted of a list of tuples of ints, none of them empty. -/
namespace Cv
open PySem PySem.Spec L2 PyProof.Rows
set_option autoImplicit false
def tLe (a b : List Int) : Prop := tLt b a = false
theorem itL_inj : ∀ {a b : List Int}, itL a = itL b → a = b
  | [], [], _ => rfl
  | [], _ :: _, h => by cases h
  | _ :: _, [], h => by cases h
  | x :: a, y :: b, h => by
    simp only [itL, List.map_cons, List.cons.injEq, Sum.inl.injEq] at h
    rw [h.1, itL_inj h.2]
theorem tLe_anti {a b : List Int} (h1 : tLe a b) (h2 : tLe b a) : a = b := itL_inj ((listOrd itemOrd).kle_antisymm h1 h2)
theorem tLe_trans {a b c : List Int} (h1 : tLe a b) (h2 : tLe b c) : tLe a c := (listOrd itemOrd).kle_trans h1 h2
theorem tLe_of_lt {a b : List Int} (h : tLt a b = true) : tLe a b := (listOrd itemOrd).kle_of_klt h
theorem insT_perm (x : List Int) : ∀ r, (insT x r).Perm (x :: r)
  | [] => List.Perm.refl _
  | y :: r => by
    unfold insT
    split
    · exact ((insT_perm x r).cons y).trans (List.Perm.swap x y r)
    · exact List.Perm.refl _
theorem sortT_perm : ∀ r, (sortT r).Perm r
  | [] => List.Perm.refl _
  | x :: r => (insT_perm x _).trans ((sortT_perm r).cons x)
theorem insT_pw (x : List Int) : ∀ r, r.Pairwise tLe → (insT x r).Pairwise tLe
  | [], _ => by simp [insT]
  | y :: r, h => by
    unfold insT
    rw [List.pairwise_cons] at h
    split
    · rename_i q
      rw [List.pairwise_cons]
      refine ⟨fun z hz => ?_, insT_pw x r h.2⟩
      rcases List.mem_cons.mp ((insT_perm x r).mem_iff.mp hz) with rfl | hz
      · exact tLe_of_lt q
      · exact h.1 z hz
    · rename_i q
      have q' : tLe x y := by unfold tLe; simpa using q
      rw [List.pairwise_cons, List.pairwise_cons]
      refine ⟨fun z hz => ?_, h.1, h.2⟩
      rcases List.mem_cons.mp hz with rfl | hz
      · exact q'
      · exact tLe_trans q' (h.1 z hz)
theorem sortT_pw : ∀ r, (sortT r).Pairwise tLe
  | [] => .nil
  | x :: r => insT_pw x _ (sortT_pw r)
theorem sortT_uniq {a b : List (List Int)} (p : a.Perm b) (ha : a.Pairwise tLe) : a = sortT b :=
  List.Perm.eq_of_pairwise (fun x y _ _ h1 h2 => tLe_anti h1 h2) ha (sortT_pw b) (p.trans (sortT_perm b).symm)
theorem ints_eq : ∀ {xs : List D} {ns : List Int}, intsOf xs = some ns → xs = ns.map D.int
  | [], _, e => by cases e; rfl
  | d :: r, ns, e => by
    cases d with
    | int i =>
      simp only [intsOf, Option.map_eq_some_iff] at e
      obtain ⟨m, e1, rfl⟩ := e
      rw [ints_eq e1]
      rfl
    | _ => simp [intsOf] at e
theorem perm_map {α β : Type} (g : α → β) {a b : List β} (p : a.Perm b) : ∀ L : List α, b = L.map g → ∃ L' : List α, L'.Perm L ∧ L'.map g = a := by
  induction p with
  | nil =>
    intro L e
    exact ⟨L, List.Perm.refl _, e.symm⟩
  | cons x p ih =>
    intro L e
    cases L with
    | nil => cases e
    | cons y L =>
      rw [List.map_cons, List.cons.injEq] at e
      obtain ⟨L', h1, h2⟩ := ih L e.2
      exact ⟨y :: L', h1.cons y, by rw [List.map_cons, h2, e.1]⟩
  | swap x y l =>
    intro L e
    cases L with
    | nil => cases e
    | cons u L =>
      cases L with
      | nil => cases e
      | cons w L =>
        simp only [List.map_cons, List.cons.injEq] at e
        exact ⟨w :: u :: L, List.Perm.swap _ _ _, by simp only [List.map_cons]; rw [e.1, e.2.1, e.2.2]⟩
  | trans p q ih1 ih2 =>
    intro L e
    obtain ⟨L', h1, h2⟩ := ih2 L e
    obtain ⟨L'', h3, h4⟩ := ih1 L' h2.symm
    exact ⟨L'', h3.trans h1, h4⟩
theorem tupItems_ints : ∀ {xs : List Value} {ns : List Int} (i : Nat), IntsAre xs ns → tupItems (fun _ => false) i xs = some (itL ns)
  | _, _, i, .nil => rfl
  | _, _, i, .cons n t h => by
    simp [tupItems, tupItems_ints (i + 1) h]
section
variable {X : Cx}
/-- the items with their ints -/
def rST (K : PySem.W.Frag) : List V → Hp → VK → Prop := fun vs H Q => ∃ (a : Addr) (L : List (V × List Int)), vs = [V.ref a] ∧ SqL K H a (L.map (·.1)) ∧ (∀ p ∈ L, TupI K H p.1 p.2 ∧ p.2 ≠ []) ∧
  ∀ (L' : List (V × List Int)) (p : Addr), L'.Perm L → (L'.map (·.2)).Pairwise tLe → H p = none → Q (.ref p) (upd H p (.lst (L'.map (·.1))))
def toVal : V → Value
  | .ref a => .ref a
  | _ => .none
theorem vals_toVal : ∀ {L : List (V × List Int)} {us : List Value}, Vals (L.map (·.1)) us → (∀ p ∈ L, ∃ a, p.1 = V.ref a) → us = L.map (fun p => toVal p.1)
  | [], _, .nil, _ => rfl
  | p :: L, _ :: us, .cons r t, h => by
    obtain ⟨a, e⟩ := h p List.mem_cons_self
    have e2 := vals_toVal t fun q hq => h q (List.mem_cons_of_mem _ hq)
    rw [List.map_cons, ← e2]
    obtain ⟨v, ns⟩ := p
    cases e
    cases r
    rfl
theorem toVal_vals : ∀ {L : List (V × List Int)}, (∀ p ∈ L, ∃ a, p.1 = V.ref a) → Vals (L.map (·.1)) (L.map (fun p => toVal p.1))
  | [], _ => .nil
  | p :: L, h => by
    obtain ⟨a, e⟩ := h p List.mem_cons_self
    refine .cons ?_ (toVal_vals fun q hq => h q (List.mem_cons_of_mem _ hq))
    obtain ⟨v, ns⟩ := p
    cases e
    exact (show RelV (.ref a) (.ref a) from rfl)
theorem tupsOf_raw {h : Heap} : ∀ {L : List (V × List Int)}, (∀ p ∈ L, TS.TupInts h (toVal p.1) p.2 ∧ p.2 ≠ []) → ∃ fs, TupsOf h (fun _ => false) (L.map (fun p => toVal p.1)) fs
  | [], _ => ⟨[], .nil⟩
  | p :: L, hp => by
    obtain ⟨fs, hf⟩ := tupsOf_raw fun q hq => hp q (List.mem_cons_of_mem _ hq)
    obtain ⟨⟨a, xs, e, ⟨o, ho, hc, n, hd⟩, hi⟩, hne⟩ := hp p List.mem_cons_self
    obtain ⟨v, ns⟩ := p
    have hx : ∃ f, xs[0]? = some f ∧ ∃ k t, f = .int k t := by
      cases hl : xs.toList with
      | nil => rw [hl] at hi; cases hi; exact absurd rfl hne
      | cons f r =>
        rw [hl] at hi
        cases hi with
        | cons k t hi =>
          refine ⟨.int k t, ?_, k, t, rfl⟩
          rw [← Array.getElem?_toList, hl]
          rfl
    obtain ⟨f, hf0, k, t, rfl⟩ := hx
    exact ⟨_ :: fs, .cons ⟨a, o, xs, n, e, ho, hc, hd, hf0, fun _ => ⟨k, t, rfl⟩, fun z => by cases z⟩ hf⟩
theorem key_raw {h : Heap} {v : Value} {ns : List Int} (x : TS.TupInts h v ns) : G.tupKeyC h (fun _ => false) v = some (itL ns) := by
  obtain ⟨a, xs, rfl, ⟨o, ho, hc, n, hd⟩, hi⟩ := x
  have e1 : G.isTupObj h (.ref a) = true := by simp [G.isTupObj, ho, hc]
  unfold G.tupKeyC
  rw [if_pos e1]
  simp only [tupKey, ho, hd]
  exact tupItems_ints 0 hi
theorem cr_sortedTG : CallR X (.builtin "sorted") (rST X.K) := by
  intro pins s σ H vs us Q I r h
  obtain ⟨a, L, rfl, hs, hx, q⟩ := h
  obtain ⟨its, rv, hl, hz⟩ := I.list hs
  rw [Vals.ref1 r]
  have hr : ∀ p ∈ L, ∃ a, p.1 = V.ref a := fun p hp => by
    obtain ⟨⟨t, e, _⟩, _⟩ := hx p hp
    exact ⟨t, e⟩
  have e1 := vals_toVal rv hr
  subst e1
  have ht : ∀ p ∈ L, TS.TupInts s.heap (toVal p.1) p.2 ∧ p.2 ≠ [] := fun p hp => by
    obtain ⟨⟨t, e, h2⟩, h3⟩ := hx p hp
    rw [e]
    exact ⟨tupI_raw I h2, h3⟩
  obtain ⟨fs, hf⟩ := tupsOf_raw ht
  have hlen : (L.map (fun p => toVal p.1)).length ≤ sizeLine := by simpa using hz
  refine G.sorted_tups (shape := fun _ => false) hl.isList hf (fun v hv => ?_) hlen fun st' h1 h2 _ => ?_
  · obtain ⟨p, hp, rfl⟩ := List.mem_map.mp hv
    exact ⟨_, key_raw (ht p hp).1⟩
  · have h1' : (arrOf st').toList.Perm (L.map fun p => (toVal p.1, toVal p.1)) := by
      have := h1.toList
      rw [pairsOf_toList, List.zip_map', ] at this
      simpa using this
    obtain ⟨L', p1, p2⟩ := perm_map (fun p : V × List Int => (toVal p.1, toVal p.1)) h1' L rfl
    have hr' : ∀ p ∈ L', ∃ a, p.1 = V.ref a := fun p hp => hr p (p1.mem_iff.mp hp)
    have ho : ((arrOf st').map (·.2)).toList = L'.map (fun p => toVal p.1) := by
      rw [Array.toList_map, ← p2, List.map_map]
      rfl
    generalize (arrOf st').map (·.2) = out at ho ⊢
    obtain ⟨ep, he'⟩ := PyProof.Rows.sortedAll_at s.heap (L.map (fun p => toVal p.1)) out
    have hlen' : (L'.map (·.1)).length ≤ sizeLine := by
      rw [List.length_map, p1.length_eq]
      simpa using hlen
    refine ⟨.ref _, upd H (s.heap.objs.size + 1) (.lst (L'.map (·.1))), I.laid (t' := s.toks) (fun _ _ => PyProof.Rows.sortedAll_old) (Nat.le_succ _) ⟨hlen', out.toList, ep, (by rw [ho]; exact toVal_vals hr'), he'⟩, rfl, q _ _ p1 ?_ (I.hok.fresh (Nat.le_succ _))⟩
    rw [List.pairwise_map, List.pairwise_iff_getElem]
    intro i j hi hj hij
    have hsz : (pairsOf (L.map fun p => toVal p.1)).size = L'.length := by
      rw [pairsOf_size, List.length_map, p1.length_eq]
    have hk := h2 i j (Nat.le_of_lt hij) (by rw [hsz]; exact hj)
    have kk : ∀ i (hi : i < L'.length), KK (G.tupKindC s.heap fun _ => false) (arrOf st') i = itL L'[i].2 := fun i hi => by
      have : (arrOf st')[i]? = some (toVal L'[i].1, toVal L'[i].1) := by
        rw [← Array.getElem?_toList, ← p2]
        simp [hi]
      unfold KK
      rw [this]
      show (G.tupKeyC s.heap (fun _ => false) (toVal L'[i].1)).getD _ = _
      rw [key_raw (ht _ (p1.mem_iff.mp (List.getElem_mem hi))).1]
      rfl
    rw [kk i hi, kk j hj] at hk
    exact hk
end
section
variable {K : PySem.W.Frag} {F : ASet} {H : Hp}
theorem RelL.tups : ∀ {ds : List D} {ts : List (List Int)} {us : List V}, RelL K F H us ds → tupsOf ds = some ts → ∃ L : List (V × List Int), L.map (·.1) = us ∧ L.map (·.2) = ts ∧ ∀ p ∈ L, (TupI K H p.1 p.2 ∧ p.2 ≠ []) ∧ Rel K F H p.1 (.tup (p.2.map .int))
  | [], _, _, .nil, e => by
    cases e
    exact ⟨[], rfl, rfl, fun p hp => absurd hp (by simp)⟩
  | d :: ds, ts, _, .cons (v := v) h r, e => by
    cases h with
    | @tup a vs xs hq rr l =>
      simp only [tupsOf] at e
      split at e
      · rename_i n ns e1
        simp only [Option.map_eq_some_iff] at e
        obtain ⟨ts', e2, rfl⟩ := e
        obtain ⟨L, h1, h2, h3⟩ := RelL.tups r e2
        have hi := rr.ints e1
        have hx : xs = (n :: ns).map D.int := ints_eq e1
        subst hi
        subst hx
        refine ⟨(.ref a, n :: ns) :: L, by rw [List.map_cons, h1], by rw [List.map_cons, h2], fun p hp => ?_⟩
        rcases List.mem_cons.mp hp with rfl | hp
        · exact ⟨⟨⟨a, rfl, hq⟩, by simp⟩, .tup hq rr l⟩
        · exact h3 p hp
      · cases e
    | _ => simp [tupsOf] at e
theorem RelL.of_mem : ∀ {L : List (V × List Int)}, (∀ p ∈ L, Rel K F H p.1 (.tup (p.2.map .int))) → RelL K F H (L.map (·.1)) ((L.map (·.2)).map fun ns => D.tup (ns.map .int))
  | [], _ => .nil
  | p :: L, h => .cons (h p List.mem_cons_self) (RelL.of_mem fun q hq => h q (List.mem_cons_of_mem _ hq))
end
end Cv
set_option maxRecDepth 100000
set_option maxHeartbeats 1000000
set_option autoImplicit false
/-! Engine, part S: slices with a step. -/
namespace Cv
open PySem PySem.Spec L2 PyProof.Rows
section
variable {prog : Program} {w : World} {A : Around} {E : Value → Shared → Prop} {s : Shared}
theorem sliceApplied_stp {sl : Addr} {vl vs : Value} {lo : Option Int} {st : Int} {n : Nat} {Q : Int × Int × Nat → Shared → Prop} (hs : s.heap.IsSliceOf sl vl .none vs) (pl : IsPart vl lo) (ps : IsPart vs (some st)) (h0 : st ≠ 0)
    (h : Q ((Builtin.Slice.sliceAdjust lo none st n).1, st, Builtin.Slice.slicePlaces (Builtin.Slice.sliceAdjust lo none st n).1 (Builtin.Slice.sliceAdjust lo none st n).2 st) s) : wpAny (model prog w) A (Builtin.Slice.sliceApplied (.ref sl) (pure (n : Int))) Q E s := by
  obtain ⟨os, hos, hcs, hds⟩ := id hs
  unfold Builtin.Slice.sliceApplied Builtin.Slice.sliceFields
  refine wpAny_bind (wpAny_bind (wpAny_field hos hds (x := vl) rfl (wpAny_bind (wpAny_field hos hds (x := .none) rfl (wpAny_bind (wpAny_field hos hds (x := vs) rfl (wpAny_pure ?_)))))))
  refine wpAny_bind (HT.slicePart_ ps ?_)
  show wpAny _ _ (if (st == 0) = true then _ else _) _ _ s
  rw [if_neg (by simpa using h0)]
  refine wpAny_bind (HT.slicePart_ pl (wpAny_bind (HT.slicePart_ IsPart.none (wpAny_bind (wpAny_pure ?_)))))
  exact wpAny_pure h
theorem getItem_tuple_stp {t sl : Addr} {items : Array Value} {vl vs : Value} {lo : Option Int} {st : Int} {Q : Value → Shared → Prop} (ht : IsTup s.heap t items) (hs : s.heap.IsSliceOf sl vl .none vs) (pl : IsPart vl lo) (ps : IsPart vs (some st)) (h0 : st ≠ 0) (h1 : st ≠ 1)
    (h : Q (.ref s.heap.objs.size) { s with heap := s.heap.push { cls := .type "tuple", data := .seq (pickS items.toList lo st).toArray } })
    (hsz : (pickS items.toList lo st).length ≤ sizeLine) : wpAny (model prog w) A (getItem (.ref t) (.ref sl)) Q E s := by
  have htake : sizeOk (.seq (pickS items.toList lo st).toArray) := by
    show (pickS items.toList lo st).toArray.size ≤ sizeLine
    rw [List.size_toArray]
    exact hsz
  obtain ⟨os, hos, hcs, hds⟩ := id hs
  have hTs : s.TypeIs (.ref sl) "slice" := ⟨os, hos, hcs⟩
  unfold getItem
  try with_reducible refine wpAny_holding ?_
  first | refine wpAny_bind (wpAny_pure ?_) | skip
  refine wpAny_bind (wpAny_sequenceKey ht.typeIs (by decide) ?_)
  refine wpAny_bind (wpAny_callSpecial?_slot (name := Str.ofString "__getitem__") ht.typeIs PyProof.Rows.slot_tuple_getitem
    (wpAny_call_entry PyProof.Rows.slot_tuple_getitem ht.typeIs entry_tuple_getitem ?_ (args_tuple_getitem _ _)))
  show wpAny _ _ (Builtin.Tuple.tupleItemsOf (.ref t) >>= _) _ _ s
  refine wpAny_bind (tupleItemsOf_ ht ?_)
  refine wpAny_bind (wpAny_typeOf hTs ?_)
  rw [if_pos (by decide)]
  refine wpAny_bind (sliceApplied_stp hs pl ps h0 ?_)
  have hno : ¬ (((Builtin.Slice.sliceAdjust lo none st items.size).1 == 0 && st == 1 && (Builtin.Slice.slicePlaces (Builtin.Slice.sliceAdjust lo none st items.size).1 (Builtin.Slice.sliceAdjust lo none st items.size).2 st) == items.size) = true) := by
    intro q
    rw [Bool.and_eq_true, Bool.and_eq_true] at q
    exact h1 (eq_of_beq q.1.2)
  show wpAny _ _ (if ((Builtin.Slice.sliceAdjust lo none st items.size).1 == 0 && st == 1 && (Builtin.Slice.slicePlaces (Builtin.Slice.sliceAdjust lo none st items.size).1 (Builtin.Slice.sliceAdjust lo none st items.size).2 st) == items.size) = true then _ else _) _ _ s
  rw [if_neg hno]
  have e : ((List.range (Builtin.Slice.slicePlaces (Builtin.Slice.sliceAdjust lo none st items.size).1 (Builtin.Slice.sliceAdjust lo none st items.size).2 st)).filterMap fun (k : Nat) => items[((Builtin.Slice.sliceAdjust lo none st items.size).1 + (k : Int) * st).toNat]?).toArray = (pickS items.toList lo st).toArray := by
    unfold pickS
    simp
  rw [e]
  first
    | exact wpAny_bind (m := Builtin.Tuple.tupleExact _) (wpAny_newObj_type (wpAny_pure ⟨_, rfl, wpAny_pure h⟩) htake)
    | exact wpAny_bind (m := Builtin.Tuple.tupleExact _) (wpAny_newObj_type (wpAny_bind (wpAny_pure (wpAny_pure ⟨_, rfl, wpAny_pure h⟩))) htake)
    | exact wpAny_bind (wpAny_bind (m := Builtin.Tuple.tupleExact _) (wpAny_newObj_type (wpAny_pure (wpAny_pure ⟨_, rfl, wpAny_pure h⟩)) htake))
    | exact wpAny_bind (wpAny_bind (m := Builtin.Tuple.tupleExact _) (wpAny_newObj_type (wpAny_pure ⟨_, rfl, wpAny_pure h⟩) htake))
end
theorem vals_pick {xs : List V} {us : List Value} (r : Vals xs us) (lo : Option Int) (st : Int) : Vals (pickS xs lo st) (pickS us lo st) := by
  unfold pickS
  rw [← r.length]
  have : ∀ (l : List Nat) (g : Nat → Nat), Vals (l.filterMap fun k => xs[g k]?) (l.filterMap fun k => us[g k]?) := fun l g => by
    induction l with
    | nil => exact .nil
    | cons k l ih =>
      simp only [List.filterMap_cons]
      by_cases h : g k < xs.length
      · obtain ⟨u, hu, rv⟩ := r.get (List.getElem?_eq_getElem h)
        rw [List.getElem?_eq_getElem h, hu]
        exact .cons rv ih
      · rw [List.getElem?_eq_none (by omega), List.getElem?_eq_none (by rw [← r.length]; omega)]
        exact ih
  exact this _ _
variable {X : Cx}
def tStp (K : PySem.W.Frag) (lo : Option Int) (st : Int) (te : TE) : TE := fun σ H Q => te σ H fun x H1 =>
  (lo = none ∧ st = -1 ∧ ∃ a xs, x = .ref a ∧ SqL K H1 a xs ∧ ∀ p, H1 p = none → Q (.ref p) (upd H1 p (.lst xs.reverse))) ∨
  (st ≠ 0 ∧ st ≠ 1 ∧ ∃ a xs, x = .ref a ∧ SqT K H1 a xs ∧ (pickS xs lo st).length ≤ sizeLine ∧ ∀ p, H1 p = none → Q (.ref p) (upd H1 p (.tup (pickS xs lo st))))
/-- e[lo::st]; hl, hst: the parts' readings -/
theorem pe_stp {e : Expr} {te : TE} {l : Option Expr} {se : Expr} {lo : Option Int} {st : Int} {tl ts : TO} {p3 pos : Pos} (he : PE X e te) (hl : PO X l tl) (hlv : ∀ σ H Q, Q lo H → tl σ H Q) (hs : PO X (some se) ts) (hsv : ∀ σ H Q, Q (some st) H → ts σ H Q) :
    PE X (.Subscript e (.Slice l none (some se) p3) pos) (tStp X.K lo st te) := by
  refine ⟨fun pins s σ H Q I h => ?_⟩
  refine Subscript_ (thn (he.run pins s σ H _ I h) fun v s1 ⟨x, H1, I1, r1, q1⟩ => ?_)
  refine wpAny_Slice (thn (hl.run pins s1 σ H1 (fun o H2 => o = lo ∧ H2 = H1) I1 (hlv _ _ _ ⟨rfl, rfl⟩)) fun vl s2 ⟨l', H2, I2, pl, el, e2⟩ => ?_)
  subst el e2
  refine thn (po_none.run pins s2 σ H2 (fun o H3 => o = none ∧ H3 = H2) I2 ⟨rfl, rfl⟩) fun vu s3 ⟨u, H3, I3, pu, eu, e3⟩ => ?_
  subst eu e3
  refine thn (hs.run pins s3 σ H3 (fun o H4 => o = some st ∧ H4 = H3) I3 (hsv _ _ _ ⟨rfl, rfl⟩)) fun vs s4 ⟨o, H4, I4, ps, eo, e4⟩ => ?_
  subst eo e4
  have I5 : Inv X pins σ H4 { s4 with heap := s4.heap.push { cls := .type "slice", data := .fields #[vl, vu, vs] } } := I4.kept (t' := s4.toks) fun b ob q => Heap.get?_push_of_some _ q
  cases pu
  show wpAny (model X.prog X.w) X.A (subscriptTail e (.Slice l none (some se) p3) v (.ref s4.heap.objs.size)) (EP X pins σ Q) X.xe { s4 with heap := s4.heap.push { cls := .type "slice", data := .fields #[vl, .none, vs] } }
  rcases q1 with ⟨e5, e6, a, xs, ex, hx, q⟩ | ⟨h0, h1, a, xs, ex, hx, hz, q⟩
  · subst ex e6
    cases r1
    rw [e5] at pl
    obtain ⟨its, r, ht, hz⟩ := I5.list hx
    have hlen := r.length
    refine tail_any (ops := [.ref a, .ref s4.heap.objs.size]) ht.isList.typeIs (PySem.slot_list_getitem.lookup) ?_ (by with_unfolding_all rfl)
    refine wpAny_getItem_list_slice ht.isList (Heap.IsSliceOf.new _ vl .none vs) pl .none ps (by decide) ?_ (by rw [List.size_toArray]; omega)
    rw [PySem.W.krv_pick]
    refine ⟨.ref _, _, I5.laid (t' := s4.toks) (o := .lst xs.reverse) (fun b ob q => Heap.get?_push_of_some _ q) (Nat.le_refl _) ?_, rfl, q _ (I5.hok.fresh (Nat.le_refl _))⟩
    exact ⟨by rw [List.length_reverse]; exact hz, _, 0, r.reverse, Heap.get?_push_size _ rfl⟩
  · subst ex
    cases r1
    obtain ⟨its, r, ht, _⟩ := I5.tuple hx
    have rp := vals_pick r l' st
    refine tail_any (ops := [.ref a, .ref s4.heap.objs.size]) ht.typeIs (PyProof.Rows.slot_tuple_getitem.lookup) ?_ (by with_unfolding_all rfl)
    refine getItem_tuple_stp ht (Heap.IsSliceOf.new _ vl .none vs) pl ps h0 h1 ?_ (by show (pickS its l' st).length ≤ sizeLine; rw [← rp.length]; exact hz)
    refine ⟨.ref _, _, I5.laid (t' := s4.toks) (o := .tup (pickS xs l' st)) (fun b ob q => Heap.get?_push_of_some _ q) (Nat.le_refl _) ?_, rfl, q _ (I5.hok.fresh (Nat.le_refl _))⟩
    exact ⟨hz, _, rp, IsTup.new _ _⟩
end Cv
set_option maxRecDepth 100000
set_option maxHeartbeats 1000000
set_option autoImplicit false
/-! Engine, part D: comparisons, subscripts, built-ins on values. -/
namespace Cv
open PySem PySem.Spec L2
variable [TabC]
section
variable {K : PySem.W.Frag} {F F' F1 F2 : ASet} {H H' H1 H2 : Hp} {σ : St} {s s' s1 s2 : DEnv} {v w : V} {d : D} {Q : VK} {ds es : List D} {vs ws : List V} {X : Cx}
def copOf : Cop → CmpOp
  | .eq => .Eq
  | .ne => .NotEq
  | .lt => .Lt
  | .le => .LtE
  | .gt => .Gt
  | .ge => .GtE
  | .isIn => .In
  | .notIn => .NotIn
  | .isN => .Is
  | .notN => .IsNot
theorem op_inT (hu : X.A.units + 65 < cLine) : OpR X (compareOp .In) (fun x y H Q => ∃ d ds, Dp X.K H x d ∧ Dp X.K H y (.tuple ds) ∧ SeqAt.shaped d = true ∧ SeqAt.shaped (.tuple ds) = true ∧ Q (.bl (ds.any fun z => PyData.eqv z d)) H) := by
  intro pins s σ H x y v u Q I rx ry h
  obtain ⟨d, ds, hd, he, sd, se, q⟩ := h
  obtain ⟨as, r1⟩ := Dp.reads I d x v hd rx
  obtain ⟨bs, r2⟩ := Dp.reads I (.tuple ds) y u he ry
  exact SeqAt.in_tuple_reads r2 r1 (SeqAt.canLay_of_shaped se) (SeqAt.canLay_of_shaped sd) (PyProof.Rows.room_in_shaped sd hu) ⟨.bl _, H, I, rfl, q⟩
theorem op_notInT (hu : X.A.units + 65 < cLine) : OpR X (compareOp .NotIn) (fun x y H Q => ∃ d ds, Dp X.K H x d ∧ Dp X.K H y (.tuple ds) ∧ SeqAt.shaped d = true ∧ SeqAt.shaped (.tuple ds) = true ∧ Q (.bl (!ds.any fun z => PyData.eqv z d)) H) := by
  intro pins s σ H x y v u Q I rx ry h
  obtain ⟨d, ds, hd, he, sd, se, q⟩ := h
  obtain ⟨as, r1⟩ := Dp.reads I d x v hd rx
  obtain ⟨bs, r2⟩ := Dp.reads I (.tuple ds) y u he ry
  exact SeqAt.notIn_tuple_reads r2 r1 (SeqAt.canLay_of_shaped se) (SeqAt.canLay_of_shaped sd) (PyProof.Rows.room_in_shaped sd hu) ⟨.bl _, H, I, rfl, q⟩
theorem View.nonV (h : View K F H v d) : (decide (v = .non)) = nonD d := by
  cases h with
  | rel h => cases h <;> rfl
  | lst h r l => rfl
theorem cmp_ok {op : Cop} {x y : V} {a b : D} {o : Bool} (hu : X.A.units + 65 < cLine) (r : SR X.K F σ H s) (hx : View X.K F H x a) (hy : View X.K F H y b) (e : cmpD op a b = some o) (q : Q (.bl o) H) : WpOp X (compareOp (copOf op)) x y H Q := by
  unfold cmpD at e
  split at e
  · split at e
    · rename_i hd
      simp only [Bool.and_eq_true] at hd
      cases e
      obtain ⟨p1, p2⟩ := hx.dp hd.1 (by decide)
      obtain ⟨p3, p4⟩ := hy.dp hd.2 (by decide)
      exact .of (op_eqD (by omega)) ⟨_, _, p1, p3, p2, p4, by rw [eqD_py 60 60 _ _ hd.1 hd.2]; exact q⟩
    · cases e
  · split at e
    · rename_i hd
      simp only [Bool.and_eq_true] at hd
      cases e
      obtain ⟨p1, p2⟩ := hx.dp hd.1 (by decide)
      obtain ⟨p3, p4⟩ := hy.dp hd.2 (by decide)
      exact .of (op_neD (by omega)) ⟨_, _, p1, p3, p2, p4, by rw [eqD_py 60 60 _ _ hd.1 hd.2]; exact q⟩
    · cases e
  · cases e; cases hx.int_; cases hy.int_
    exact .of op_lt ⟨_, _, rfl, rfl, q⟩
  · cases e; cases hx.int_; cases hy.int_
    exact .of op_le ⟨_, _, rfl, rfl, q⟩
  · cases e; cases hx.int_; cases hy.int_
    exact .of op_gt ⟨_, _, rfl, rfl, q⟩
  · cases e; cases hx.int_; cases hy.int_
    exact .of op_ge ⟨_, _, rfl, rfl, q⟩
  · split at e
    · rename_i e1 e2
      cases e
      obtain ⟨a1, vs1, rfl, h1, r1⟩ := hx.tup_
      obtain ⟨a2, vs2, rfl, h2, r2⟩ := hy.tup_
      rw [r1.ints e1] at h1
      rw [r2.ints e2] at h2
      exact .of (op_ltT (by omega)) ⟨a1, a2, _, _, rfl, rfl, h1, h2, q⟩
    · cases e
  · split at e
    · rename_i hd
      simp only [Bool.and_eq_true] at hd
      cases e
      obtain ⟨p1, p2⟩ := hx.dp hd.1 (by decide)
      obtain ⟨p3, p4⟩ := hy.dp (k := 61) hd.2 (by decide)
      exact .of (op_inD hu) ⟨_, _, p1, p3, p2, p4, by rw [any_py 60 60 _ hd.1 _ hd.2]; exact q⟩
    · cases e
  · split at e
    · rename_i hd
      simp only [Bool.and_eq_true] at hd
      cases e
      obtain ⟨p1, p2⟩ := hx.dp hd.1 (by decide)
      obtain ⟨p3, p4⟩ := hy.dp (k := 61) hd.2 (by decide)
      exact .of (op_inT hu) ⟨_, _, p1, p3, p2, p4, by rw [any_py 60 60 _ hd.1 _ hd.2]; exact q⟩
    · cases e
  · split at e
    · rename_i hd
      simp only [Bool.and_eq_true] at hd
      cases e
      obtain ⟨p1, p2⟩ := hx.dp hd.1 (by decide)
      obtain ⟨p3, p4⟩ := hy.dp (k := 61) hd.2 (by decide)
      exact .of (op_notInD hu) ⟨_, _, p1, p3, p2, p4, by rw [any_py 60 60 _ hd.1 _ hd.2]; exact q⟩
    · cases e
  · split at e
    · rename_i hd
      simp only [Bool.and_eq_true] at hd
      cases e
      obtain ⟨p1, p2⟩ := hx.dp hd.1 (by decide)
      obtain ⟨p3, p4⟩ := hy.dp (k := 61) hd.2 (by decide)
      exact .of (op_notInT hu) ⟨_, _, p1, p3, p2, p4, by rw [any_py 60 60 _ hd.1 _ hd.2]; exact q⟩
    · cases e
  · cases e; cases hx.bl_; cases hy.bl_
    exact .of op_isBl ⟨_, _, rfl, rfl, by rw [← Bool.beq_eq_decide_eq]; exact q⟩
  · cases e; cases hx.bl_; cases hy.bl_
    exact .of op_notBl ⟨_, _, rfl, rfl, by rw [← Bool.beq_eq_decide_eq]; exact q⟩
  · cases e; cases hy.non_
    exact .of op_isN ⟨rfl, by rw [hx.nonV]; exact q⟩
  · cases e; cases hy.non_
    exact .of op_notN ⟨rfl, by rw [hx.nonV]; exact q⟩
  · cases e
theorem tru_v {t : Bool} (h : View K F H v d) (e : truD d = some t) : TruV K v H t := by
  cases d with
  | non => cases h.non_; cases e; rfl
  | bl b => cases h.bl_; cases e; rfl
  | int i => cases h.int_; cases e; rfl
  | str x => cases e
  | tup ds =>
    obtain ⟨a, vs, rfl, h1, h2⟩ := h.tup_
    cases e
    refine .inr (.inl ⟨vs, h1, ?_⟩)
    cases h2 <;> rfl
  | lst ds =>
    obtain ⟨a, vs, rfl, h1, h2⟩ := h.list
    cases e
    refine .inl ⟨vs, SqL.of h1, ?_⟩
    cases h2 <;> rfl
  | scr ns => cases e
  | fn f => cases e
/-! ### subscripts -/
theorem atI_rel {i : Int} (r : RelL K F H vs ds) (e : atI ds i = some d) : ∃ v, atI vs i = some v ∧ Rel K F H v d := by
  unfold atI at e ⊢
  rw [r.len]
  cases q : ixN ds.length i with
  | none => rw [q] at e; cases e
  | some j =>
    rw [q] at e
    exact r.get e
theorem idx_ok {x y : V} {a b : D} (hx : View K F H x a) (hy : View K F H y b) (e : idxD a b = some d) (q : ∀ z, Rel K F H z d → Q z H) : rIx K x y H Q := by
  unfold idxD at e
  split at e
  · obtain ⟨a1, vs1, rfl, h1, r1⟩ := hx.tup_
    cases hy.int_
    obtain ⟨z, e1, e2⟩ := atI_rel r1 e
    exact .inr (.inl ⟨a1, vs1, _, z, rfl, rfl, h1, e1, q z e2⟩)
  · obtain ⟨a1, vs1, rfl, h1, r1⟩ := hx.list
    cases hy.int_
    obtain ⟨z, e1, e2⟩ := atI_rel r1 e
    exact .inl ⟨a1, vs1, _, z, rfl, rfl, SqL.of h1, e1, q z e2⟩
  · obtain ⟨a1, rfl, h1⟩ := hx.scr_
    cases hy.int_
    simp only [Option.map_eq_some_iff] at e
    obtain ⟨n, e1, rfl⟩ := e
    refine .inl ⟨a1, _, _, .int n, rfl, rfl, h1, ?_, q _ (.int n)⟩
    unfold atI at e1 ⊢
    rw [List.length_map]
    rename_i ns i
    cases q : ixN ns.length i with
    | none => rw [q] at e1; cases e1
    | some j =>
      rw [q] at e1
      show (ns.map V.int)[j]? = some (.int n)
      have e1' : ns[j]? = some n := e1
      rw [List.getElem?_map, e1']
      rfl
  · cases e
theorem cut_rel {lo hi : Option Int} (r : RelL K F H vs ds) : RelL K F H (cutV vs lo hi) (cutD ds lo hi) := by
  unfold cutV cutD
  rw [r.len]
  exact (r.drop _).take _
theorem cut_len (ds : List D) (lo hi : Option Int) : (cutD ds lo hi).length ≤ ds.length := by
  unfold cutD
  rw [List.length_take, List.length_drop]
  omega
def rSl (K : PySem.W.Frag) : V → Option Int → Option Int → Hp → VK → Prop := fun x lo hi H Q => rSlA K x lo hi H Q ∨ rSlL K x lo hi H Q
theorem sl_any : L2.SlR X (rSl X.K) := sl_tupA.or sl_list
theorem slc_ok {x : V} {a : D} {o : Opd} {lo hi : Option Int} (r : SR K F σ H s) (hx : View K F H x a) (e : slcD lo hi a = some o) (q : Res K F σ H s o Q) : rSl K x lo hi H Q := by
  unfold slcD at e
  split at e
  · cases e
    obtain ⟨a1, vs1, rfl, h1, r1⟩ := hx.tup_
    refine .inl ⟨a1, vs1, rfl, h1, fun z => ?_, fun _ p n => q.tup r (cut_rel r1) (Nat.le_trans (cut_len _ _ _) hx.lenT) n⟩
    refine q.val r (.tup h1 ?_ (Nat.le_trans (cut_len _ _ _) hx.lenT))
    have e1 : cutV vs1 lo hi = vs1 := by
      unfold cutV
      rw [z.1, z.2]
      simp
    have := cut_rel (lo := lo) (hi := hi) r1
    rw [e1] at this
    exact this
  · cases e
    obtain ⟨a1, vs1, rfl, h1, r1⟩ := hx.list
    exact .inr ⟨a1, vs1, rfl, SqL.of h1, fun p n => q.lst r (cut_rel r1) (Nat.le_trans (cut_len _ _ _) hx.lenL) n⟩
  · cases e
/-! ### isinstance -/
theorem tyx_tup {a : Addr} (h : SqT K H a vs) : TyX K H (.ref a) (.type "tuple") := by
  rcases h with (h | ⟨o, h⟩) | ⟨o, its, n, h1, h2, _⟩
  · exact .base (.tup h)
  · exact .fTuple h
  · exact .kTuple h1 h2
theorem isi_ok {ty : String} {b : Bool} (h : View K F H v d) (e : isiD ty d = some b) (q : Q (.bl b) H) : rIsi K [v, .ty ty] H Q := by
  have fin : ∀ {t : String}, TyX K H v (.type t) → kitB t ty = some b → rIsi K [v, .ty ty] H Q := fun {t} h1 h2 => ⟨v, _, _, _, b, rfl, .ty ty, h1, kit_ty h2, q⟩
  unfold isiD at e
  split at e
  · cases h.non_
    split at e
    · rename_i hh
      cases e
      rcases hh with rfl | rfl | rfl | rfl | rfl <;> exact fin (.base .non) (by decide +kernel)
    · cases e
  · cases h.bl_
    split at e
    · rename_i hh
      cases e
      rcases hh with rfl | rfl <;> exact fin (.base (.bl _)) (by decide +kernel)
    · split at e
      · rename_i hh
        cases e
        rcases hh with rfl | rfl | rfl <;> exact fin (.base (.bl _)) (by decide +kernel)
      · cases e
  · cases h.int_
    split at e
    · rename_i hh
      cases e; cases hh
      exact fin (.base (.int _)) (by decide +kernel)
    · split at e
      · rename_i hh
        cases e
        rcases hh with rfl | rfl | rfl | rfl <;> exact fin (.base (.int _)) (by decide +kernel)
      · cases e
  · cases h.str_
    split at e
    · rename_i hh
      cases e; cases hh
      exact fin (.base (.str _)) (by decide +kernel)
    · split at e
      · rename_i hh
        cases e
        rcases hh with rfl | rfl | rfl | rfl <;> exact fin (.base (.str _)) (by decide +kernel)
      · cases e
  · obtain ⟨a, vs, rfl, h1, h2⟩ := h.tup_
    split at e
    · rename_i hh
      cases e; cases hh
      exact fin (tyx_tup h1) (by decide +kernel)
    · split at e
      · rename_i hh
        cases e
        rcases hh with rfl | rfl | rfl | rfl <;> exact fin (tyx_tup h1) (by decide +kernel)
      · cases e
  · obtain ⟨a, vs, rfl, h1, h2⟩ := h.list
    split at e
    · rename_i hh
      cases e; cases hh
      exact fin (.base (.lst h1)) (by decide +kernel)
    · split at e
      · rename_i hh
        cases e
        rcases hh with rfl | rfl | rfl | rfl <;> exact fin (.base (.lst h1)) (by decide +kernel)
      · cases e
  · cases e
  · cases e
/-! ### built-ins -/
inductive Views (K : PySem.W.Frag) (F : ASet) (H : Hp) : List V → List D → Prop
  | nil : Views K F H [] []
  | cons {v : V} {vs : List V} {d : D} {ds : List D} (h : View K F H v d) (r : Views K F H vs ds) : Views K F H (v :: vs) (d :: ds)
def bltV (f : String) : Value := if f = "tuple" ∨ f = "list" ∨ f = "int" then .type f else .builtin f
theorem maxI_mem : ∀ (m : Int) (ns : List Int), maxI m ns ∈ m :: ns ∧ ∀ y ∈ m :: ns, y ≤ maxI m ns
  | m, [] => ⟨by simp [maxI], by simp [maxI]⟩
  | m, x :: r => by
    unfold maxI
    obtain ⟨h1, h2⟩ := maxI_mem (if x > m then x else m) r
    refine ⟨?_, fun y hy => ?_⟩
    · rcases List.mem_cons.mp h1 with h | h
      · rw [h]; split <;> simp
      · exact List.mem_cons_of_mem _ (List.mem_cons_of_mem _ h)
    · have h0 := h2 (if x > m then x else m) (by simp)
      have h3 : m ≤ (if x > m then x else m) ∧ x ≤ (if x > m then x else m) := by split <;> omega
      rcases List.mem_cons.mp hy with rfl | hy
      · exact Int.le_trans h3.1 h0
      · rcases List.mem_cons.mp hy with rfl | hy
        · exact Int.le_trans h3.2 h0
        · exact h2 y (List.mem_cons_of_mem _ hy)
theorem minI_mem : ∀ (m : Int) (ns : List Int), minI m ns ∈ m :: ns ∧ ∀ y ∈ m :: ns, minI m ns ≤ y
  | m, [] => ⟨by simp [minI], by simp [minI]⟩
  | m, x :: r => by
    unfold minI
    obtain ⟨h1, h2⟩ := minI_mem (if x < m then x else m) r
    refine ⟨?_, fun y hy => ?_⟩
    · rcases List.mem_cons.mp h1 with h | h
      · rw [h]; split <;> simp
      · exact List.mem_cons_of_mem _ (List.mem_cons_of_mem _ h)
    · have h0 := h2 (if x < m then x else m) (by simp)
      have h3 : (if x < m then x else m) ≤ m ∧ (if x < m then x else m) ≤ x := by split <;> omega
      rcases List.mem_cons.mp hy with rfl | hy
      · exact Int.le_trans h0 h3.1
      · rcases List.mem_cons.mp hy with rfl | hy
        · exact Int.le_trans h0 h3.2
        · exact h2 y (List.mem_cons_of_mem _ hy)
/-- sum of a tuple of ints -/
theorem cr_sumT (hc : X.calm = true) : CallR X (.builtin "sum") (fun vs H Q => ∃ (a : Addr) (ns : List Int), vs = [V.ref a] ∧ SqT X.K H a (ns.map V.int) ∧ Q (.int ns.sum) H) := by
  intro pins s σ H vs us Q I r h
  obtain ⟨a, ns, rfl, hs, q⟩ := h
  obtain ⟨its, rv, hl, _⟩ := I.tuple hs
  rw [Vals.ref1 r]
  obtain ⟨xs, hx⟩ := rv.ints.allInts.items
  have hn : numsOf its.toArray.toList = ns := by rw [show its.toArray.toList = its from rfl, rv.ints.numsOf]
  rw [hx] at hl hn
  rw [PySem.nums_intItems] at hn
  refine PySem.W.ktm_sumG (I.ok.hd hc) hl fun h' tk t' hk => ⟨.int _, H, I.kept hk, ⟨t', ?_⟩, q⟩
  rw [PySem.preSum_eq, List.take_of_length_le (by simp), hn]
theorem sortI_perm (ns : List Int) : (sortI ns).Perm ns := List.mergeSort_perm ns _
theorem sortI_pw (ns : List Int) : (sortI ns).Pairwise (· ≤ ·) := by
  have h := List.pairwise_mergeSort (le := fun a b : Int => decide (a ≤ b)) (fun a b c h1 h2 => by simp at h1 h2 ⊢; omega) (fun a b => by simp; omega) ns
  exact h.imp fun h => by simpa using h
theorem sort_uniq {a b : List Int} (p : a.Perm b) (ha : a.Pairwise (· ≤ ·)) (hb : b.Pairwise (· ≤ ·)) : a = b :=
  List.Perm.eq_of_pairwise (fun x y _ _ h1 h2 => by omega) ha hb p
theorem blt_ok {f : String} {o : Opd} (hc : X.calm = true) (r : SR X.K F σ H s) (hv : Views X.K F H vs ds) (e : bltD f ds = some o) (q : Res X.K F σ H s o Q) : WpCall X (bltV f) vs H Q := by
  unfold bltD at e
  split at e
  · cases hv with | cons h hr => cases hr; cases h.int_
                                 split at e
                                 · rename_i hf
                                   cases e; cases hf
                                   exact .of call_abs ⟨_, rfl, q.int r⟩
                                 · split at e
                                   · rename_i hf
                                     cases e; cases hf
                                     exact .of call_int1 (.inl ⟨_, rfl, q.int r⟩)
                                   · cases e
  · cases hv with | cons h hr => cases hr; cases h.bl_
                                 split at e
                                 · rename_i hf
                                   cases e; cases hf
                                   exact .of call_int1 (.inr ⟨_, rfl, q.int r⟩)
                                 · cases e
  · cases hv with | cons h hr => cases hr with | cons h' hr => cases hr; cases h.int_; cases h'.int_
                                                               split at e
                                                               · rename_i hf
                                                                 cases e; cases hf
                                                                 exact .of (call_max2 hc) ⟨_, _, rfl, q.int r⟩
                                                               · split at e
                                                                 · rename_i hf
                                                                   cases e; cases hf
                                                                   exact .of (call_min2 hc) ⟨_, _, rfl, q.int r⟩
                                                                 · split at e
                                                                   · rename_i hf
                                                                     cases hf
                                                                     split at e
                                                                     · rename_i hd
                                                                       cases e
                                                                       exact .of call_divmod ⟨_, _, rfl, hd, fun p n => q.tup r (.cons (.int _) (.cons (.int _) .nil)) (by show 2 ≤ 16777216; decide) n⟩
                                                                     · cases e
                                                                   · cases e
  · cases hv with
    | cons h hr =>
      cases hr
      obtain ⟨a, rfl, h1⟩ := h.scr_
      split at e
      · rename_i hf
        cases e; cases hf
        refine .of call_len_seq ⟨a, _, rfl, .inl h1, ?_⟩
        rw [List.length_map]
        exact q.int r
      · cases e
  · cases hv with
    | cons h hr =>
      cases hr
      obtain ⟨a, us, rfl, h1, h2⟩ := h.tup_
      split at e
      · rename_i hf
        cases e; cases hf
        refine .of call_len_seq ⟨a, _, rfl, .inr h1, ?_⟩
        rw [h2.len]
        exact q.int r
      · split at e
        · rename_i hf
          cases e; cases hf
          exact .of call_tuple_of ⟨a, us, rfl, .inr ⟨h1, q.val r (.tup h1 h2 h.lenT)⟩⟩
        · split at e
          · rename_i hf
            cases e; cases hf
            exact .of call_list_of ⟨a, us, rfl, .inr h1, fun p n => q.lst r h2 h.lenT n⟩
          · split at e
            · rename_i hf
              cases hf
              simp only [Option.map_eq_some_iff] at e
              obtain ⟨ns, e1, rfl⟩ := e
              rw [h2.ints e1] at h1
              exact .of (cr_sumT hc) ⟨a, ns, rfl, h1, q.int r⟩
            · cases e
  · cases hv with
    | cons h hr =>
      cases hr
      obtain ⟨a, us, rfl, h1, h2⟩ := h.list
      split at e
      · rename_i hf
        cases e; cases hf
        refine .of call_len_seq ⟨a, _, rfl, .inl (SqL.of h1), ?_⟩
        rw [h2.len]
        exact q.int r
      · split at e
        · rename_i hf
          cases e; cases hf
          exact .of call_tuple_of ⟨a, us, rfl, .inl ⟨SqL.of h1, fun p n => q.tup r h2 h.lenL n⟩⟩
        · split at e
          · rename_i hf
            cases e; cases hf
            exact .of call_list_of ⟨a, us, rfl, .inl (SqL.of h1), fun p n => q.lst r h2 h.lenL n⟩
          · split at e
            · rename_i hf
              cases hf
              simp only [Option.map_eq_some_iff] at e
              obtain ⟨ns, e1, rfl⟩ := e
              rw [h2.ints e1] at h1
              exact .of (cr_sum hc) ⟨a, ns, rfl, SqL.of h1, q.int r⟩
            · split at e
              · rename_i hf
                cases hf
                simp only [Option.map_eq_some_iff] at e
                obtain ⟨ns, e1, rfl⟩ := e
                rw [h2.bls e1] at h1
                exact .of (cr_all hc) ⟨a, ns, rfl, SqL.of h1, q.bl r⟩
              · split at e
                · rename_i hf
                  cases hf
                  simp only [Option.map_eq_some_iff] at e
                  obtain ⟨ns, e1, rfl⟩ := e
                  rw [h2.bls e1] at h1
                  exact .of (cr_any hc) ⟨a, ns, rfl, SqL.of h1, q.bl r⟩
                · split at e
                  · rename_i hf
                    cases hf
                    split at e
                    · rename_i ns e1
                      cases e
                      rw [h2.ints e1] at h1
                      refine .of cr_sortedI ⟨a, ns, rfl, SqL.of h1, fun ns' p hp hw n => ?_⟩
                      have e2 : ns' = sortI ns := sort_uniq (hp.trans (sortI_perm ns).symm) hw (sortI_pw ns)
                      rw [e2]
                      refine q.lst r (RelL.of_ints _) ?_ n
                      have e3 := congrArg List.length (h2.ints e1)
                      have e4 := h.lenL
                      rw [List.length_map, (sortI_perm ns).length_eq]
                      rw [h2.len, List.length_map] at e3
                      omega
                    · simp only [Option.map_eq_some_iff] at e
                      obtain ⟨ts, e1, rfl⟩ := e
                      obtain ⟨L, g1, g2, g3⟩ := h2.tups e1
                      rw [← g1] at h1
                      refine .of cr_sortedTG ⟨a, L, rfl, SqL.of h1, fun p hp => (g3 p hp).1, fun L' p hp hw n => ?_⟩
                      have e2 : L'.map (·.2) = sortT ts := by
                        rw [← g2]
                        exact sortT_uniq (hp.map _) hw
                      rw [← e2] at q
                      refine q.lst r (RelL.of_mem fun p hp' => (g3 p (hp.mem_iff.mp hp')).2) ?_ n
                      have e3 := congrArg List.length g1
                      have e4 := h.lenL
                      have e5 := h2.len
                      rw [List.length_map] at e3
                      rw [List.length_map, List.length_map, hp.length_eq]
                      omega
                  · split at e
                    · rename_i hf
                      cases hf
                      split at e
                      · rename_i m ns e1
                        cases e
                        rw [h2.ints e1] at h1
                        refine .of (cr_max hc) ⟨a, m :: ns, rfl, SqL.of h1, by simp, fun z hz hm => ?_⟩
                        obtain ⟨g1, g2⟩ := maxI_mem m ns
                        have : z = maxI m ns := by
                          have := hm _ g1
                          have := g2 _ hz
                          omega
                        rw [this]
                        exact q.int r
                      · cases e
                    · split at e
                      · rename_i hf
                        cases hf
                        split at e
                        · rename_i m ns e1
                          cases e
                          rw [h2.ints e1] at h1
                          refine .of (cr_min hc) ⟨a, m :: ns, rfl, SqL.of h1, by simp, fun z hz hm => ?_⟩
                          obtain ⟨g1, g2⟩ := minI_mem m ns
                          have : z = minI m ns := by
                            have := hm _ g1
                            have := g2 _ hz
                            omega
                          rw [this]
                          exact q.int r
                        · cases e
                      · cases e
  · cases e
end
end Cv
set_option maxRecDepth 100000
set_option maxHeartbeats 1000000
set_option autoImplicit false
/-! Engine, part E: expressions mean what den tells. -/
namespace Cv
open PySem PySem.Spec L2
variable [TabC]
/-! ### wps of texts -/
section
variable {X : Cx} {e a b c : Expr} {σ : St} {H : Hp} {Q : VK} {pos : Pos}
def WpE (X : Cx) (e : Expr) : TE := fun σ H Q => ∀ (pins : List (Addr × Obj)) (s : Shared), Inv X pins σ H s → wpAny (model X.prog X.w) X.A (eval e X.env) (EP X pins σ Q) X.xe s
theorem pe_w : PE X e (WpE X e) := ⟨fun pins s σ H Q I h => h pins s I⟩
theorem WpE.of {t : TE} (h : PE X e t) (q : t σ H Q) : WpE X e σ H Q := fun pins s I => h.run pins s σ H Q I q
def WpT (X : Cx) (e : Expr) : TT := fun σ H Q => ∀ (pins : List (Addr × Obj)) (s : Shared), Inv X pins σ H s → wpAny (model X.prog X.w) X.A (isTrue e X.env (eval e X.env)) (TP X pins σ Q) X.xe s
theorem pt_w : PT X e (WpT X e) := ⟨fun pins s σ H Q I h => h pins s I⟩
theorem WpT.of {t : TT} {Q : Bool → Hp → Prop} (h : PT X e t) (q : t σ H Q) : WpT X e σ H Q := fun pins s I => h.run pins s σ H Q I q
def WpA (X : Cx) (es : List Expr) : TA := fun σ H Q => ∀ (pos : Pos) (pins : List (Addr × Obj)) (s : Shared), Inv X pins σ H s → wpAny (model X.prog X.w) X.A (spliced (backTo pos (starEach es X.env))) (AP X pins σ Q) X.xe s
theorem pa_w {es : List Expr} : PA X es (WpA X es) := ⟨fun pos pins s σ H Q I h => h pos pins s I⟩
theorem WpA.of {es : List Expr} {t : TA} {Q : List V → Hp → Prop} (h : PA X es t) (q : t σ H Q) : WpA X es σ H Q := fun pos pins s I => h.run pos pins s σ H Q I q
end
/-- the heap where an exception leaves -/
structure XP (O : ASet) (H H' : Hp) : Prop where
  fr : ∀ b o, H b = some o → ¬ O b → NT o → H' b = some o
  dm : ∀ b, H' b = none → H b = none
  tb : TbOk H'
theorem XP.early {F O F' O' : ASet} {H H1 H' : Hp} (e : Ext F O H F' O' H1) (x : XP O' H1 H') : XP O H H' := by
  refine ⟨fun b o q n t => x.fr b o (e.fr b o q n t) (fun z => ?_) t, fun b z => e.dm b (x.dm b z), x.tb⟩
  rcases e.own b z with z | z
  · exact n z
  · rw [q] at z; cases z
/-- the class of the name c may leave X -/
def Acc (X : Cx) (σ : St) (H : Hp) (O : ASet) (c : String) : Prop :=
  ∃ W, L2N.Takes X W ∧ ∀ H', XP O H H' → ∀ C, X.mg (Str.ofString c) = some (.ref C) → W (.ref C) none σ H'
theorem Acc.mono {X : Cx} {σ : St} {F F' O O' : ASet} {H H' : Hp} {c : String} (a : Acc X σ H O c) (e : Ext F O H F' O' H') : Acc X σ H' O' c := by
  obtain ⟨W, t, h⟩ := a
  exact ⟨W, t, fun H2 f C m => h H2 (f.early e) C m⟩
def SimE (X : Cx) (e : Expr) (m : DEnv → R (Opd × DEnv)) : Prop := ∀ (F : ASet) (σ : St) (H : Hp) (s : DEnv) (Q : VK), SR X.K F σ H s →
  RP (m s) (fun r => ∀ F' v H', EPost X.K F σ H s F' H' r.2 → OR X.K F' σ H H' r.2 v r.1 → Q v H') (Acc X σ H (Own σ s)) → WpE X e σ H Q
def SimT (X : Cx) (e : Expr) (m : DEnv → R (Bool × DEnv)) : Prop := ∀ (F : ASet) (σ : St) (H : Hp) (s : DEnv) (Q : Bool → Hp → Prop), SR X.K F σ H s →
  RP (m s) (fun r => ∀ F' H', EPost X.K F σ H s F' H' r.2 → Q r.1 H') (Acc X σ H (Own σ s)) → WpT X e σ H Q
def SimA (X : Cx) (es : List Expr) (m : DEnv → R (List D × DEnv)) : Prop := ∀ (F : ASet) (σ : St) (H : Hp) (s : DEnv) (Q : List V → Hp → Prop), SR X.K F σ H s →
  RP (m s) (fun r => ∀ F' vs H', EPost X.K F σ H s F' H' r.2 → RelL X.K F' H' vs r.1 → Q vs H') (Acc X σ H (Own σ s)) → WpA X es σ H Q
inductive ORs (K : PySem.W.Frag) (F : ASet) (σ : St) (H0 H : Hp) (s : DEnv) : List V → List Opd → Prop
  | nil : ORs K F σ H0 H s [] []
  | cons {v : V} {vs : List V} {o : Opd} {os : List Opd} (h : OR K F σ H0 H s v o) (r : ORs K F σ H0 H s vs os) : ORs K F σ H0 H s (v :: vs) (o :: os)
def SimO (X : Cx) (es : List Expr) (m : DEnv → R (List Opd × DEnv)) : Prop := ∀ (F : ASet) (σ : St) (H : Hp) (s : DEnv) (Q : List V → Hp → Prop), SR X.K F σ H s →
  RP (m s) (fun r => ∀ F' vs H', EPost X.K F σ H s F' H' r.2 → ORs X.K F' σ H H' r.2 vs r.1 → Q vs H') (Acc X σ H (Own σ s)) → WpA X es σ H Q
section
variable {X : Cx} {e a b c : Expr} {pos : Pos} {m ma mb mc : DEnv → R (Opd × DEnv)} {F F1 : ASet} {σ : St} {H H1 : Hp} {s s1 : DEnv} {Q : VK} {es : List Expr}
/-- a part runs behind others -/
theorem SimE.run (h : SimE X e m) (p : EPost X.K F σ H s F1 H1 s1) {P : Opd × DEnv → Prop} (w : RP (m s1) P (Acc X σ H (Own σ s)))
    (k : ∀ r F2 v H2, P r → EPost X.K F σ H s F2 H2 r.2 → EPost X.K F1 σ H1 s1 F2 H2 r.2 → OR X.K F2 σ H1 H2 r.2 v r.1 → Q v H2) : WpE X e σ H1 Q :=
  h F1 σ H1 s1 Q p.sr (w.mono (fun r hr F2 v H2 q o => k r F2 v H2 hr (p.trans q) q o) fun c a => a.mono p.ext)
theorem SimT.run {m : DEnv → R (Bool × DEnv)} {Q : Bool → Hp → Prop} (h : SimT X e m) (p : EPost X.K F σ H s F1 H1 s1) {P : Bool × DEnv → Prop} (w : RP (m s1) P (Acc X σ H (Own σ s)))
    (k : ∀ r F2 H2, P r → EPost X.K F σ H s F2 H2 r.2 → Q r.1 H2) : WpT X e σ H1 Q :=
  h F1 σ H1 s1 Q p.sr (w.mono (fun r hr F2 H2 q => k r F2 H2 hr (p.trans q)) fun c a => a.mono p.ext)
theorem SimA.run {m : DEnv → R (List D × DEnv)} {Q : List V → Hp → Prop} (h : SimA X es m) (p : EPost X.K F σ H s F1 H1 s1) {P : List D × DEnv → Prop} (w : RP (m s1) P (Acc X σ H (Own σ s)))
    (k : ∀ r F2 vs H2, P r → EPost X.K F σ H s F2 H2 r.2 → EPost X.K F1 σ H1 s1 F2 H2 r.2 → RelL X.K F2 H2 vs r.1 → Q vs H2) : WpA X es σ H1 Q :=
  h F1 σ H1 s1 Q p.sr (w.mono (fun r hr F2 v H2 q o => k r F2 v H2 hr (p.trans q) q o) fun c a => a.mono p.ext)
theorem SimO.run {m : DEnv → R (List Opd × DEnv)} {Q : List V → Hp → Prop} (h : SimO X es m) (p : EPost X.K F σ H s F1 H1 s1) {P : List Opd × DEnv → Prop} (w : RP (m s1) P (Acc X σ H (Own σ s)))
    (k : ∀ r F2 vs H2, P r → EPost X.K F σ H s F2 H2 r.2 → EPost X.K F1 σ H1 s1 F2 H2 r.2 → ORs X.K F2 σ H1 H2 r.2 vs r.1 → Q vs H2) : WpA X es σ H1 Q :=
  h F1 σ H1 s1 Q p.sr (w.mono (fun r hr F2 v H2 q o => k r F2 v H2 hr (p.trans q) q o) fun c a => a.mono p.ext)
/-- an operation's end: its result goes on -/
theorem res_of {o : Opd} (p : EPost X.K F σ H s F1 H1 s1) (k : ∀ F' v H', EPost X.K F σ H s F' H' s1 → OR X.K F' σ H H' s1 v o → Q v H') : Res X.K F1 σ H1 s1 o Q :=
  fun z H' q r => k F1 z H' (p.trans q) (r.early p.ext.dm)

/-! ### names, constants -/
theorem sim_var {i : Nat} {x : Str} {C : Cal} (hN : X.N[i]? = some x) (hv : Vis X.env.scope x) (hd : (x == ("__debug__" : Str)) = false) (hcd : (x == ("__classdict__" : Str)) = false) : SimE X (.Name x pos) (denE C (.var i)) := by
  intro F σ H s Q sr w
  simp only [denE] at w
  cases q : s[i]? with
  | none => rw [q] at w; exact w.elim
  | some y =>
    rw [q] at w
    cases y with
    | none => exact w.elim
    | some x =>
      obtain ⟨v, e1, e2⟩ := sr.ats i x q
      refine .of (pe_var hN hv hd hcd) ⟨v, e1, ?_⟩
      cases x with
      | val d => exact w F v H (.refl sr) e2
      | own ds => exact w F v H (.refl sr) ⟨e1, _, q⟩
      | io ds => exact w F v H (.refl sr) ⟨e1, _, q⟩
theorem sim_cst {t : TE} {d : D} {v : V} {C : Cal} (h : PE X e (tC v)) (r : ∀ F H, Rel X.K F H v d) : SimE X e (denE C (.cst d)) := by
  intro F σ H s Q sr w
  simp only [denE] at w
  exact .of h (w F v H (.refl sr) (r F H))
theorem sim_glob {x : String} {d : D} {v : V} {C : Cal} (h : PE X e (tC v)) (r : ∀ F H, Rel X.K F H v d) : SimE X e (denE C (.glob x d)) := by
  intro F σ H s Q sr w
  simp only [denE] at w
  exact .of h (w F v H (.refl sr) (r F H))
/-! ### operators -/
variable {C : Cal} {ia ib ic : IE}
theorem sim_bin {op : Bop} (ha : SimE X a (denE C ia)) (hb : SimE X b (denE C ib)) : SimE X (.BinOp a (opOf op) b pos) (denE C (.bin op ia ib)) := by
  intro F σ H s Q sr w
  simp only [denE] at w
  refine .of (pe_op (opr_wp _) pe_w pe_w) ?_
  refine ha.run (.refl sr) w.bind fun x F1 v1 H1 w1 p1 q1 o1 => ?_
  refine hb.run p1 w1.bind fun y F2 v2 H2 w2 p2 q2 o2 => ?_
  obtain ⟨u, eu, w3⟩ := w2.bind.ofO
  obtain ⟨v, ev, w4⟩ := w3.bind.ofO
  obtain ⟨r, er, w5⟩ := w4.bind.ofO
  exact bin_ok p2.sr (p2.sr.view (o1.mono q2 p1.sr) eu) (p2.sr.view o2 ev) er (res_of p2 w5)
theorem sim_neg (ha : SimE X a (denE C ia)) : SimE X (.UnaryOp .USub a pos) (denE C (.neg ia)) := by
  intro F σ H s Q sr w
  simp only [denE] at w
  refine .of (pe_un un_neg pe_w) ?_
  refine ha.run (.refl sr) w.bind fun x F1 v1 H1 w1 p1 q1 o1 => ?_
  obtain ⟨u, eu, w3⟩ := w1.bind.ofO
  cases u with
  | int i =>
    cases (p1.sr.view o1 eu).int_
    exact ⟨i, rfl, w3 F1 _ H1 p1 (.int _)⟩
  | _ => exact w3.elim
theorem sim_cmp {op : Cop} (hu : X.A.units + 65 < cLine) (hm : behindInMarks (copOf op) b = false) (ha : SimE X a (denE C ia)) (hb : SimE X b (denE C ib)) : SimE X (.Compare a [copOf op] [b] pos) (denE C (.cmp op ia ib)) := by
  intro F σ H s Q sr w
  simp only [denE] at w
  refine .of (pe_cmpR (opr_wp _) pe_w pe_w hm) ?_
  refine ha.run (.refl sr) w.bind fun x F1 v1 H1 w1 p1 q1 o1 => ?_
  refine hb.run p1 w1.bind fun y F2 v2 H2 w2 p2 q2 o2 => ?_
  obtain ⟨u, eu, w3⟩ := w2.bind.ofO
  obtain ⟨v, ev, w4⟩ := w3.bind.ofO
  obtain ⟨r, er, w5⟩ := w4.bind.ofO
  exact cmp_ok hu p2.sr (p2.sr.view (o1.mono q2 p1.sr) eu) (p2.sr.view o2 ev) er (w5 F2 _ H2 p2 (.bl r))
theorem sim_chain {o1 o2 : Cop} (hu : X.A.units + 65 < cLine) (hm : lastMarks [copOf o1, copOf o2] [b, c] = false) (ha : SimE X a (denE C ia)) (hb : SimE X b (denE C ib)) (hc : SimE X c (denE C ic)) :
    SimE X (.Compare a [copOf o1, copOf o2] [b, c] pos) (denE C (.chain o1 o2 ia ib ic)) := by
  intro F σ H s Q sr w
  simp only [denE] at w
  refine .of (pe_chain (opr_wp _) (opr_wp _) pe_w pe_w pe_w hm) ?_
  refine ha.run (.refl sr) w.bind fun x F1 v1 H1 w1 p1 q1 o1' => ?_
  refine hb.run p1 w1.bind fun y F2 v2 H2 w2 p2 q2 o2' => ?_
  obtain ⟨u, eu, w3⟩ := w2.bind.ofO
  obtain ⟨v, ev, w4⟩ := w3.bind.ofO
  obtain ⟨r, er, w5⟩ := w4.bind.ofO
  refine cmp_ok hu p2.sr (p2.sr.view (o1'.mono q2 p1.sr) eu) (p2.sr.view o2' ev) er ?_
  refine ⟨r, rfl, ?_⟩
  cases r with
  | false => exact w5 F2 _ H2 p2 (.bl _)
  | true =>
    simp only [if_true] at w5 ⊢
    refine hc.run p2 w5.bind fun z F3 v3 H3 w6 p3 q3 o3' => ?_
    obtain ⟨u2, eu2, w7⟩ := w6.bind.ofO
    obtain ⟨v2, ev2, w8⟩ := w7.bind.ofO
    obtain ⟨r2, er2, w9⟩ := w8.bind.ofO
    exact cmp_ok hu p3.sr (p3.sr.view (o2'.mono q3 p2.sr) eu2) (p3.sr.view o3' ev2) er2 (w9 F3 _ H3 p3 (.bl r2))
theorem sim_not (ha : SimE X a (denE C ia)) : SimE X (.UnaryOp .Not a pos) (denE C (.not_ ia)) := by
  intro F σ H s Q sr w
  simp only [denE] at w
  refine .of (pe_notT pe_w) ?_
  refine ha.run (.refl sr) w.bind fun x F1 v1 H1 w1 p1 q1 o1 => ?_
  obtain ⟨u, eu, w3⟩ := w1.bind.ofO
  obtain ⟨t, et, w4⟩ := w3.bind.ofO
  exact ⟨t, tru_v (p1.sr.view o1 eu) et, w4 F1 _ H1 p1 (.bl _)⟩
theorem sim_one {op : BoolOp} {m : DEnv → R (Opd × DEnv)} (ha : SimE X a m) : SimE X (.BoolOp op [a] pos) m := fun F σ H s Q sr w => .of (pe_one pe_w) (ha F σ H s Q sr w)
theorem sim_and {rest : List Expr} (ha : SimE X a (denE C ia)) (hb : SimE X (.BoolOp .And (b :: rest) pos) (denE C ib)) : SimE X (.BoolOp .And (a :: b :: rest) pos) (denE C (.and_ ia ib)) := by
  intro F σ H s Q sr w
  simp only [denE] at w
  refine .of (pe_andT pe_w pe_w) ?_
  refine ha.run (.refl sr) w.bind fun x F1 v1 H1 w1 p1 q1 o1 => ?_
  obtain ⟨u, eu, w3⟩ := w1.bind.ofO
  obtain ⟨t, et, w4⟩ := w3.bind.ofO
  refine ⟨t, tru_v (p1.sr.view o1 eu) et, ?_⟩
  cases t with
  | false => exact w4 F1 v1 H1 p1 o1
  | true =>
    simp only [if_true] at w4 ⊢
    exact hb.run p1 w4 fun y F2 v2 H2 w5 p2 q2 o2 => w5 F2 v2 H2 p2 (o2.early p1.ext.dm)
theorem sim_or {rest : List Expr} (ha : SimE X a (denE C ia)) (hb : SimE X (.BoolOp .Or (b :: rest) pos) (denE C ib)) : SimE X (.BoolOp .Or (a :: b :: rest) pos) (denE C (.or_ ia ib)) := by
  intro F σ H s Q sr w
  simp only [denE] at w
  refine .of (pe_orT pe_w pe_w) ?_
  refine ha.run (.refl sr) w.bind fun x F1 v1 H1 w1 p1 q1 o1 => ?_
  obtain ⟨u, eu, w3⟩ := w1.bind.ofO
  obtain ⟨t, et, w4⟩ := w3.bind.ofO
  refine ⟨t, tru_v (p1.sr.view o1 eu) et, ?_⟩
  cases t with
  | true => exact w4 F1 v1 H1 p1 o1
  | false =>
    simp only [Bool.false_eq_true, if_false] at w4 ⊢
    exact hb.run p1 w4 fun y F2 v2 H2 w5 p2 q2 o2 => w5 F2 v2 H2 p2 (o2.early p1.ext.dm)
/-! ### tests -/
theorem simT_truth (ha : SimE X a (denE C ia)) (he : ∀ whole, isTrue a X.env whole = (do let v ← whole; standAt a.pos; holding [v] (truthy v))) : SimT X a (denT C ia) := by
  intro F σ H s Q sr w
  simp only [denT, tstR] at w
  refine .of (pt_truth pe_w he) ?_
  refine ha.run (.refl sr) w.bind fun x F1 v1 H1 w1 p1 q1 o1 => ?_
  obtain ⟨u, eu, w3⟩ := w1.bind.ofO
  obtain ⟨t, et, w4⟩ := w3.bind.ofO
  exact ⟨t, tru_v (p1.sr.view o1 eu) et, w4 F1 H1 p1⟩
theorem simT_cmp {op : Cop} (hu : X.A.units + 65 < cLine) (hm : behindInMarks (copOf op) b = false) (ha : SimE X a (denE C ia)) (hb : SimE X b (denE C ib)) : SimT X (.Compare a [copOf op] [b] pos) (denT C (.cmp op ia ib)) := by
  intro F σ H s Q sr w
  simp only [denT, tstR, denE] at w
  refine .of (pt_cmpR (opr_wp _) pe_w pe_w hm) ?_
  have w := w.bind
  refine ha.run (.refl sr) w.bind fun x F1 v1 H1 w1 p1 q1 o1 => ?_
  refine hb.run p1 w1.bind fun y F2 v2 H2 w2 p2 q2 o2 => ?_
  obtain ⟨u, eu, w3⟩ := w2.bind.ofO
  obtain ⟨v, ev, w4⟩ := w3.bind.ofO
  obtain ⟨r, er, w5⟩ := w4.bind.ofO
  exact cmp_ok hu p2.sr (p2.sr.view (o1.mono q2 p1.sr) eu) (p2.sr.view o2 ev) er ⟨r, rfl, w5 F2 H2 p2⟩
theorem simT_chain {o1 o2 : Cop} (hu : X.A.units + 65 < cLine) (hm : lastMarks [copOf o1, copOf o2] [b, c] = false) (ha : SimE X a (denE C ia)) (hb : SimE X b (denE C ib)) (hc : SimE X c (denE C ic)) :
    SimT X (.Compare a [copOf o1, copOf o2] [b, c] pos) (denT C (.chain o1 o2 ia ib ic)) := by
  intro F σ H s Q sr w
  simp only [denT, tstR, denE] at w
  refine .of (pt_chain (opr_wp _) (opr_wp _) pe_w pe_w pe_w hm) ?_
  have w := w.bind
  refine ha.run (.refl sr) w.bind fun x F1 v1 H1 w1 p1 q1 o1' => ?_
  refine hb.run p1 w1.bind fun y F2 v2 H2 w2 p2 q2 o2' => ?_
  obtain ⟨u, eu, w3⟩ := w2.bind.ofO
  obtain ⟨v, ev, w4⟩ := w3.bind.ofO
  obtain ⟨r, er, w5⟩ := w4.bind.ofO
  refine cmp_ok hu p2.sr (p2.sr.view (o1'.mono q2 p1.sr) eu) (p2.sr.view o2' ev) er ?_
  refine ⟨r, rfl, ?_⟩
  cases r with
  | false => exact ⟨false, rfl, w5 F2 H2 p2⟩
  | true =>
    simp only [if_true] at w5 ⊢
    refine hc.run p2 w5.bind fun z F3 v3 H3 w6 p3 q3 o3' => ?_
    obtain ⟨u2, eu2, w7⟩ := w6.bind.ofO
    obtain ⟨v2, ev2, w8⟩ := w7.bind.ofO
    obtain ⟨r2, er2, w9⟩ := w8.bind.ofO
    exact cmp_ok hu p3.sr (p3.sr.view (o2'.mono q3 p2.sr) eu2) (p3.sr.view o3' ev2) er2 ⟨r2, rfl, w9 F3 H3 p3⟩
theorem simT_not (ha : SimT X a (denT C ia)) : SimT X (.UnaryOp .Not a pos) (denT C (.not_ ia)) := by
  intro F σ H s Q sr w
  simp only [denT, tstR, denE] at w
  refine .of (pt_not pt_w) ?_
  refine ha F σ H s _ sr ?_
  simp only [denT, tstR]
  cases h1 : denE C ia s with
  | bad => rw [h1] at w; exact w
  | exn c => rw [h1] at w; exact w
  | ok x =>
    rw [h1] at w
    show RP ((R.ofO (deref x.2 x.1)).bind _) _ _
    have w : RP (((R.ofO (deref x.2 x.1)).bind fun u => (R.ofO (truD u)).bind fun t => R.ok (Opd.val (.bl (!t)), x.2)).bind _) _ _ := w
    cases h2 : deref x.2 x.1 with
    | none => rw [h2] at w; exact w
    | some u =>
      rw [h2] at w
      show RP ((R.ofO (truD u)).bind _) _ _
      have w : RP (((R.ofO (truD u)).bind fun t => R.ok (Opd.val (.bl (!t)), x.2)).bind _) _ _ := w
      cases h3 : truD u with
      | none => rw [h3] at w; exact w
      | some t => rw [h3] at w; exact fun F' H' p => w F' H' p
theorem simT_and1 {m : DEnv → R (Bool × DEnv)} (ha : SimT X a m) : SimT X (.BoolOp .And [a] pos) m := fun F σ H s Q sr w => .of (pw_and1 pt_w).pt (ha F σ H s Q sr w)
theorem simT_or1 {m : DEnv → R (Bool × DEnv)} (ha : SimT X a m) : SimT X (.BoolOp .Or [a] pos) m := fun F σ H s Q sr w => .of (pw_or1 pt_w).pt (ha F σ H s Q sr w)
end
end Cv
set_option maxRecDepth 100000
set_option maxHeartbeats 1000000
set_option autoImplicit false
/-! Engine, part F: more expressions. -/
namespace Cv
open PySem PySem.Spec L2
variable [TabC]
/-! ### tests of and, or, if-else -/
section
variable {C : Cal} {a b c : IE} {s : DEnv}
theorem R.bind_ok {α β : Type} (x : α) (f : α → R β) : (R.ok x).bind f = f x := rfl
theorem R.bind_assoc {α β γ : Type} (r : R α) (f : α → R β) (g : β → R γ) : (r.bind f).bind g = r.bind fun x => (f x).bind g := by cases r <;> rfl
theorem denT_and : denT C (.and_ a b) s = (denT C a s).bind fun t => if t.1 then denT C b t.2 else .ok (false, t.2) := by
  simp only [denT, tstR, denE, R.bind_assoc]
  congr 1; funext x
  cases h2 : deref x.2 x.1 with
  | none => rfl
  | some u =>
    show (R.ofO (truD u)).bind _ = (R.ofO (truD u)).bind _
    cases h3 : truD u with
    | none => rfl
    | some t =>
      cases t with
      | true => rfl
      | false =>
        show ((R.ofO (deref x.2 x.1)).bind fun u => (R.ofO (truD u)).bind fun t => R.ok (t, x.2)) = R.ok (false, x.2)
        rw [h2]
        show ((R.ofO (truD u)).bind fun t => R.ok (t, x.2)) = R.ok (false, x.2)
        rw [h3]
        rfl
theorem denT_or : denT C (.or_ a b) s = (denT C a s).bind fun t => if t.1 then .ok (true, t.2) else denT C b t.2 := by
  simp only [denT, tstR, denE, R.bind_assoc]
  congr 1; funext x
  cases h2 : deref x.2 x.1 with
  | none => rfl
  | some u =>
    show (R.ofO (truD u)).bind _ = (R.ofO (truD u)).bind _
    cases h3 : truD u with
    | none => rfl
    | some t =>
      cases t with
      | false => rfl
      | true =>
        show ((R.ofO (deref x.2 x.1)).bind fun u => (R.ofO (truD u)).bind fun t => R.ok (t, x.2)) = R.ok (true, x.2)
        rw [h2]
        show ((R.ofO (truD u)).bind fun t => R.ok (t, x.2)) = R.ok (true, x.2)
        rw [h3]
        rfl
theorem denE_ite : denE C (.ite c a b) s = (denT C c s).bind fun t => if t.1 then denE C a t.2 else denE C b t.2 := by
  simp only [denT, tstR, denE, R.bind_assoc]
  rfl
end
def SimW (X : Cx) (e : Expr) (m : DEnv → R (Bool × DEnv)) : Prop := ∀ (whole : Sem Value) (F : ASet) (σ : St) (H : Hp) (s : DEnv) (Q : Bool → Hp → Prop), SR X.K F σ H s →
  RP (m s) (fun r => ∀ F' H', EPost X.K F σ H s F' H' r.2 → Q r.1 H') (Acc X σ H (Own σ s)) → ∀ (pins : List (Addr × Obj)) (sh : Shared), Inv X pins σ H sh → wpAny (model X.prog X.w) X.A (isTrue e X.env whole) (TP X pins σ Q) X.xe sh
section
variable {X : Cx} {e a b c : Expr} {pos p2 : Pos} {F F1 : ASet} {σ : St} {H H1 : Hp} {s s1 : DEnv} {Q : VK} {es : List Expr} {C : Cal} {ia ib ic : IE}
theorem SimW.t {m : DEnv → R (Bool × DEnv)} (h : SimW X e m) : SimT X e m := fun F σ H s Q sr w pins sh I => h _ F σ H s Q sr w pins sh I
def WpW (X : Cx) (e : Expr) : TT := fun σ H Q => ∀ (whole : Sem Value) (pins : List (Addr × Obj)) (s : Shared), Inv X pins σ H s → wpAny (model X.prog X.w) X.A (isTrue e X.env whole) (TP X pins σ Q) X.xe s
theorem pw_w : PW X e (WpW X e) := ⟨fun wh pins s σ H Q I h => h wh pins s I⟩
theorem simW_and1 {m : DEnv → R (Bool × DEnv)} (ha : SimT X a m) : SimW X (.BoolOp .And [a] pos) m := fun wh F σ H s Q sr w pins sh I => (pw_and1 pt_w).run wh pins sh σ H Q I (ha F σ H s Q sr w)
theorem simW_or1 {m : DEnv → R (Bool × DEnv)} (ha : SimT X a m) : SimW X (.BoolOp .Or [a] pos) m := fun wh F σ H s Q sr w pins sh I => (pw_or1 pt_w).run wh pins sh σ H Q I (ha F σ H s Q sr w)
theorem simW_and {rest : List Expr} (ha : SimT X a (denT C ia)) (hb : SimW X (.BoolOp .And (b :: rest) pos) (denT C ib)) : SimW X (.BoolOp .And (a :: b :: rest) pos) (denT C (.and_ ia ib)) := by
  intro wh F σ H s Q sr w pins sh I
  rw [denT_and] at w
  refine (pw_and pt_w pw_w).run wh pins sh σ H Q I ?_
  refine ha.run (.refl sr) w.bind fun t F1 H1 w1 p1 => ?_
  obtain ⟨t, s1⟩ := t
  cases t with
  | false => exact w1 F1 H1 p1
  | true =>
    simp only [if_true] at w1 ⊢
    exact fun wh pins sh I => hb wh F1 σ H1 s1 Q p1.sr (w1.mono (fun r h F2 H2 p2 => h F2 H2 (p1.trans p2)) fun c a => a.mono p1.ext) pins sh I
theorem simW_or {rest : List Expr} (ha : SimT X a (denT C ia)) (hb : SimW X (.BoolOp .Or (b :: rest) pos) (denT C ib)) : SimW X (.BoolOp .Or (a :: b :: rest) pos) (denT C (.or_ ia ib)) := by
  intro wh F σ H s Q sr w pins sh I
  rw [denT_or] at w
  refine (pw_or pt_w pw_w).run wh pins sh σ H Q I ?_
  refine ha.run (.refl sr) w.bind fun t F1 H1 w1 p1 => ?_
  obtain ⟨t, s1⟩ := t
  cases t with
  | true => exact w1 F1 H1 p1
  | false =>
    simp only [Bool.false_eq_true, if_false] at w1 ⊢
    exact fun wh pins sh I => hb wh F1 σ H1 s1 Q p1.sr (w1.mono (fun r h F2 H2 p2 => h F2 H2 (p1.trans p2)) fun c a => a.mono p1.ext) pins sh I
theorem sim_ite (hc : SimT X c (denT C ic)) (ha : SimE X a (denE C ia)) (hb : SimE X b (denE C ib)) : SimE X (.IfExp c a b pos) (denE C (.ite ic ia ib)) := by
  intro F σ H s Q sr w
  rw [denE_ite] at w
  refine .of (pe_ifExp pt_w pe_w pe_w) ?_
  refine hc.run (.refl sr) w.bind fun t F1 H1 w1 p1 => ?_
  obtain ⟨t, s1⟩ := t
  cases t with
  | true =>
    simp only [if_true] at w1 ⊢
    exact ha.run p1 w1 fun y F2 v2 H2 w5 p2 q2 o2 => w5 F2 v2 H2 p2 (o2.early p1.ext.dm)
  | false =>
    simp only [Bool.false_eq_true, if_false] at w1 ⊢
    exact hb.run p1 w1 fun y F2 v2 H2 w5 p2 q2 o2 => w5 F2 v2 H2 p2 (o2.early p1.ext.dm)
/-! ### subscripts, slices -/
theorem sim_idx (hs : PlainIx b) (ha : SimE X a (denE C ia)) (hb : SimE X b (denE C ib)) : SimE X (.Subscript a b pos) (denE C (.idx ia ib)) := by
  intro F σ H s Q sr w
  simp only [denE] at w
  refine .of (pe_ix ix_seq pe_w pe_w hs) ?_
  refine ha.run (.refl sr) w.bind fun x F1 v1 H1 w1 p1 q1 o1 => ?_
  refine hb.run p1 w1.bind fun y F2 v2 H2 w2 p2 q2 o2 => ?_
  obtain ⟨u, eu, w3⟩ := w2.bind.ofO
  obtain ⟨v, ev, w4⟩ := w3.bind.ofO
  obtain ⟨r, er, w5⟩ := w4.bind.ofO
  exact idx_ok (p2.sr.view (o1.mono q2 p1.sr) eu) (p2.sr.view o2 ev) er fun z hz => w5 F2 z H2 p2 hz
/-- a part of a slice -/
def SimP (X : Cx) (e : Option Expr) (l : Bool) (i : IE) (C : Cal) : Prop := (e = none ∧ l = false) ∨ ∃ a, e = some a ∧ l = true ∧ SimE X a (denE C i)
def WpO (X : Cx) (e : Option Expr) : TO := fun σ H Q => ∀ (pins : List (Addr × Obj)) (s : Shared), Inv X pins σ H s → wpAny (model X.prog X.w) X.A (evalPart e X.env) (fun u s' => ∃ o H', Inv X pins σ H' s' ∧ IsPart u o ∧ Q o H') X.xe s
theorem po_w {e : Option Expr} : PO X e (WpO X e) := ⟨fun pins s σ H Q I h => h pins s I⟩
theorem WpO.of {e : Option Expr} {t : TO} {Q : Option Int → Hp → Prop} (h : PO X e t) (q : t σ H Q) : WpO X e σ H Q := fun pins s I => h.run pins s σ H Q I q
theorem SimP.run {e : Option Expr} {l : Bool} {i : IE} {Q : Option Int → Hp → Prop} (h : SimP X e l i C) (p : EPost X.K F σ H s F1 H1 s1) {P : Option Int → DEnv → Prop}
    (w : RP (if l then denE C i s1 else .ok (.val .non, s1)) (fun y => RP ((R.ofO (deref y.2 y.1)).bind fun u => (R.ofO (optI l u)).bind fun j => R.ok (j, y.2)) (fun r => P r.1 r.2) (Acc X σ H (Own σ s))) (Acc X σ H (Own σ s)))
    (k : ∀ j s2 F2 H2, P j s2 → EPost X.K F σ H s F2 H2 s2 → EPost X.K F1 σ H1 s1 F2 H2 s2 → Q j H2) : WpO X e σ H1 Q := by
  rcases h with ⟨rfl, rfl⟩ | ⟨a, rfl, rfl, h⟩
  · exact .of po_none (k none s1 F1 H1 w p (.refl p.sr))
  · refine .of (po_some pe_w) ?_
    simp only [if_true] at w
    refine h.run p w fun y F2 v2 H2 w2 p2 q2 o2 => ?_
    obtain ⟨u, eu, w3⟩ := w2.bind.ofO
    obtain ⟨j, ej, w4⟩ := w3.bind.ofO
    cases u with
    | int i =>
      cases (p2.sr.view o2 eu).int_
      cases ej
      exact ⟨i, rfl, k _ _ F2 H2 w4 p2 q2⟩
    | _ => cases ej
theorem sim_slc {lo hi : Option Expr} {l h : Bool} {il ih : IE} (ha : SimE X a (denE C ia)) (hl : SimP X lo l il C) (hh : SimP X hi h ih C) : SimE X (.Subscript a (.Slice lo hi none p2) pos) (denE C (.slc ia l h il ih)) := by
  intro F σ H s Q sr w
  simp only [denE] at w
  refine .of (pe_slice sl_any pe_w po_w po_w) ?_
  refine ha.run (.refl sr) w.bind fun x F1 v1 H1 w1 p1 q1 o1 => ?_
  refine hl.run (P := fun i s2 => RP ((if h then denE C ih s2 else .ok (.val .non, s2)).bind fun z => (R.ofO (deref z.2 z.1)).bind fun v => (R.ofO (optI h v)).bind fun j =>
      (R.ofO (deref z.2 x.1)).bind fun w => (R.ofO (slcD i j w)).bind fun r => .ok (r, z.2)) (fun r => ∀ F' v H', EPost X.K F σ H s F' H' r.2 → OR X.K F' σ H H' r.2 v r.1 → Q v H') (Acc X σ H (Own σ s))) p1 (w1.bind.mono (fun y w2 => ?_) fun _ a => a) fun j s2 F2 H2 w2 p2 q2 => ?_
  · obtain ⟨u, eu, w3⟩ := w2.bind.ofO
    obtain ⟨j, ej, w4⟩ := w3.bind.ofO
    rw [eu]
    show RP ((R.ofO (optI l u)).bind _) _ _
    rw [ej]
    exact w4
  · refine hh.run (P := fun k s3 => RP ((R.ofO (deref s3 x.1)).bind fun w => (R.ofO (slcD j k w)).bind fun r => .ok (r, s3)) (fun r => ∀ F' v H', EPost X.K F σ H s F' H' r.2 → OR X.K F' σ H H' r.2 v r.1 → Q v H') (Acc X σ H (Own σ s))) p2 (w2.bind.mono (fun y w2 => ?_) fun _ a => a) fun k s3 F3 H3 w3 p3 q3 => ?_
    · obtain ⟨u, eu, w3⟩ := w2.bind.ofO
      obtain ⟨j, ej, w4⟩ := w3.bind.ofO
      rw [eu]
      show RP ((R.ofO (optI h u)).bind _) _ _
      rw [ej]
      exact w4
    · obtain ⟨u, eu, w4⟩ := w3.bind.ofO
      obtain ⟨r, er, w5⟩ := w4.bind.ofO
      exact slc_ok p3.sr (p3.sr.view (OR.mono (q2.trans q3) p1.sr o1) eu) er (res_of p3 w5)
theorem RelL.pick {K : PySem.W.Frag} {F : ASet} {H : Hp} {vs : List V} {ds : List D} (r : RelL K F H vs ds) (lo : Option Int) (st : Int) : RelL K F H (pickS vs lo st) (pickS ds lo st) := by
  unfold pickS
  rw [r.len]
  have : ∀ (l : List Nat) (g : Nat → Nat), RelL K F H (l.filterMap fun k => vs[g k]?) (l.filterMap fun k => ds[g k]?) := fun l g => by
    induction l with
    | nil => exact .nil
    | cons k l ih =>
      simp only [List.filterMap_cons]
      by_cases h : g k < ds.length
      · obtain ⟨v, hv, rv⟩ := r.get (List.getElem?_eq_getElem h)
        rw [List.getElem?_eq_getElem h, hv]
        exact .cons rv ih
      · rw [List.getElem?_eq_none (by rw [r.len]; omega), List.getElem?_eq_none (by omega)]
        exact ih
  exact this _ _
theorem stp_ok {x : V} {d : D} {o : Opd} {lo : Option Int} {st : Int} (r : SR X.K F σ H s) (hx : View X.K F H x d) (e : stpD lo st d = some o) (q : Res X.K F σ H s o Q) :
    (lo = none ∧ st = -1 ∧ ∃ a xs, x = .ref a ∧ SqL X.K H a xs ∧ ∀ p, H p = none → Q (.ref p) (upd H p (.lst xs.reverse))) ∨
    (st ≠ 0 ∧ st ≠ 1 ∧ ∃ a xs, x = .ref a ∧ SqT X.K H a xs ∧ (pickS xs lo st).length ≤ sizeLine ∧ ∀ p, H p = none → Q (.ref p) (upd H p (.tup (pickS xs lo st)))) := by
  unfold stpD at e
  split at e
  · split at e
    · rename_i hc
      cases e
      obtain ⟨a, vs, rfl, h1, h2⟩ := hx.tup_
      have hl : (pickS vs lo st).length ≤ lim := by
        rw [(h2.pick lo st).len]
        exact Nat.le_trans hc.2.2 hx.lenT
      exact .inr ⟨hc.1, hc.2.1, a, vs, rfl, h1, by rw [← lim_eq]; exact hl, fun p n => q.tup r (h2.pick lo st) (by rw [← (h2.pick lo st).len]; exact hl) n⟩
    · cases e
  · split at e
    · rename_i hc
      cases e
      obtain ⟨a, vs, rfl, h1, h2⟩ := hx.list
      exact .inl ⟨hc.1, hc.2, a, vs, rfl, SqL.of h1, fun p n => q.lst r h2.rev (by rw [List.length_reverse]; exact hx.lenL) n⟩
    · cases e
  · cases e
theorem sim_stp {l : Option Expr} {se : Expr} {lo : Option Int} {st : Int} {tl ts : TO} (ha : SimE X a (denE C ia)) (hl : PO X l tl) (hlv : ∀ σ H Q, Q lo H → tl σ H Q) (hs : PO X (some se) ts) (hsv : ∀ σ H Q, Q (some st) H → ts σ H Q) : SimE X (.Subscript a (.Slice l none (some se) p2) pos) (denE C (.stp ia lo st)) := by
  intro F σ H s Q sr w
  simp only [denE] at w
  refine .of (pe_stp pe_w hl hlv hs hsv) ?_
  refine ha.run (.refl sr) w.bind fun x F1 v1 H1 w1 p1 q1 o1 => ?_
  obtain ⟨u, eu, w3⟩ := w1.bind.ofO
  obtain ⟨r, er, w4⟩ := w3.bind.ofO
  exact stp_ok p1.sr (p1.sr.view o1 eu) er (res_of p1 w4)
theorem sim_fv {f : String} (h : PE X e (tC (.ref (He.ga X.K (Str.ofString f))))) : SimE X e (denE C (.fv f)) := by
  intro F σ H s Q sr w
  simp only [denE] at w
  exact .of h (w F _ H (.refl sr) (Rel.fn f))
/-! ### rows of expressions -/
def notStar : Expr → Bool
  | .Starred .. => false
  | _ => true
theorem star_cons {env : Env} (h : notStar e = true) : starEach (e :: es) env = (false, eval e env) :: starEach es env := by
  cases e <;> first | rfl | cases h
theorem star_plain {env : Env} (pos : Pos) : ∀ {es : List Expr}, es.all notStar = true → (backTo pos (starEach es env)).any (·.1) = false
  | [], _ => rfl
  | e :: es, h => by
    simp only [List.all_cons, Bool.and_eq_true] at h
    rw [star_cons h.1]
    show (false || (backTo pos (starEach es env)).any (·.1)) = false
    rw [star_plain pos h.2]
    rfl
theorem simA_nil : SimA X [] (denEs C []) := by
  intro F σ H s Q sr w
  simp only [denEs] at w
  exact .of pa_nil (w F [] H (.refl sr) .nil)
theorem simA_cons {ie : IE} {ies : List IE} (hn : notStar e = true) (he : SimE X e (denE C ie)) (hr : SimA X es (denEs C ies)) : SimA X (e :: es) (denEs C (ie :: ies)) := by
  intro F σ H s Q sr w
  simp only [denEs] at w
  refine .of (pa_cons pe_w pa_w (star_cons hn)) ?_
  refine he.run (.refl sr) w.bind fun x F1 v1 H1 w1 p1 q1 o1 => ?_
  obtain ⟨⟨d, s2⟩, eu, w3⟩ := w1.bind.ofO
  obtain ⟨F2, p2, r2⟩ := esc_ok p1 o1 eu
  refine hr.run p2 w3.bind fun y F3 vs H3 w4 p3 q3 rs => ?_
  exact w4 F3 _ H3 p3 (.cons (p2.sr.rel q3.ext r2) rs)
theorem simO_nil : SimO X [] (denOs C []) := by
  intro F σ H s Q sr w
  simp only [denOs] at w
  exact .of pa_nil (w F [] H (.refl sr) .nil)
theorem simO_cons {ie : IE} {ies : List IE} (hn : notStar e = true) (he : SimE X e (denE C ie)) (hr : SimO X es (denOs C ies)) : SimO X (e :: es) (denOs C (ie :: ies)) := by
  intro F σ H s Q sr w
  simp only [denOs] at w
  refine .of (pa_cons pe_w pa_w (star_cons hn)) ?_
  refine he.run (.refl sr) w.bind fun x F1 v1 H1 w1 p1 q1 o1 => ?_
  refine hr.run p1 w1.bind fun y F3 vs H3 w4 p3 q3 rs => ?_
  have early : ∀ {vs : List V} {os : List Opd}, ORs X.K F3 σ H1 H3 y.2 vs os → ORs X.K F3 σ H H3 y.2 vs os := fun {vs os} h => by
    induction h with
    | nil => exact .nil
    | cons h _ ih => exact .cons (h.early p1.ext.dm) ih
  exact w4 F3 _ H3 p3 (.cons (o1.mono q3 p1.sr) (early rs))
theorem ORs.views {K : PySem.W.Frag} {H0 : Hp} (sr : SR K F σ H s) : ∀ {vs : List V} {os : List Opd} {ds : List D}, ORs K F σ H0 H s vs os → derefs s os = some ds → Views K F H vs ds
  | _, _, _, .nil, e => by cases e; exact .nil
  | _, _, _, .cons h r, e => by
    simp only [derefs] at e
    split at e
    · rename_i e1 e2
      cases e
      exact .cons (sr.view h e1) (r.views sr e2)
    · cases e
theorem sim_tup {ies : List IE} {k : Nat} (hl : ies.length ≤ lim) (hlen : ∀ s r, denEs C ies s = .ok r → r.1.length = ies.length) (h : SimA X es (denEs C ies)) : SimE X (.Tuple es k pos) (denE C (.tup ies)) := by
  intro F σ H s Q sr w
  simp only [denE] at w
  refine .of (pe_tup pa_w) ?_
  have w' := w.bind
  cases q : denEs C ies s with
  | bad => rw [q] at w'; exact w'.elim
  | exn c => exact h F σ H s _ sr (by rw [q] at w' ⊢; exact w')
  | ok r =>
    refine h.run (.refl sr) (P := fun r' => RP (R.ok (Opd.val (.tup r'.1), r'.2)) (fun r => ∀ F' v H', EPost X.K F σ H s F' H' r.2 → OR X.K F' σ H H' r.2 v r.1 → Q v H') (Acc X σ H (Own σ s)) ∧ r'.1.length = ies.length) ?_ fun r F1 vs H1 w1 p1 q1 rs => ?_
    · rw [q] at w' ⊢
      exact ⟨w', hlen s r q⟩
    · obtain ⟨w1, hl1⟩ := w1
      refine ⟨by rw [rs.len, hl1, ← lim_eq]; exact hl, fun p n => ?_⟩
      exact (res_of p1 w1).tup p1.sr rs (by rw [hl1]; exact hl) n
theorem sim_lst {ies : List IE} (hl : ies.length ≤ lim) (hlen : ∀ s r, denEs C ies s = .ok r → r.1.length = ies.length) (h : SimA X es (denEs C ies)) : SimE X (.List es pos) (denE C (.lst ies)) := by
  intro F σ H s Q sr w
  simp only [denE] at w
  refine .of (pe_lst pa_w) ?_
  have w' := w.bind
  cases q : denEs C ies s with
  | bad => rw [q] at w'; exact w'.elim
  | exn c => exact h F σ H s _ sr (by rw [q] at w' ⊢; exact w')
  | ok r =>
    refine h.run (.refl sr) (P := fun r' => RP (R.ok (Opd.fresh r'.1, r'.2)) (fun r => ∀ F' v H', EPost X.K F σ H s F' H' r.2 → OR X.K F' σ H H' r.2 v r.1 → Q v H') (Acc X σ H (Own σ s)) ∧ r'.1.length = ies.length) ?_ fun r F1 vs H1 w1 p1 q1 rs => ?_
    · rw [q] at w' ⊢
      exact ⟨w', hlen s r q⟩
    · obtain ⟨w1, hl1⟩ := w1
      refine ⟨by rw [rs.len, hl1, ← lim_eq]; exact hl, fun p n => ?_⟩
      exact (res_of p1 w1).lst p1.sr rs (by rw [hl1]; exact hl) n
theorem denEs_len : ∀ (ies : List IE) (s : DEnv) (r : List D × DEnv), denEs C ies s = .ok r → r.1.length = ies.length
  | [], s, r, e => by
    simp only [denEs] at e
    cases e
    rfl
  | i :: ies, s, r, e => by
    simp only [denEs] at e
    cases h1 : denE C i s with
    | bad => rw [h1] at e; cases e
    | exn c => rw [h1] at e; cases e
    | ok x =>
      rw [h1] at e
      have e : ((R.ofO (esc x.2 x.1)).bind fun q => (denEs C ies q.2).bind fun r => R.ok (q.1 :: r.1, r.2)) = R.ok r := e
      cases h2 : esc x.2 x.1 with
      | none => rw [h2] at e; cases e
      | some y =>
        rw [h2] at e
        have e : ((denEs C ies y.2).bind fun r => R.ok (y.1 :: r.1, r.2)) = R.ok r := e
        cases h3 : denEs C ies y.2 with
        | bad => rw [h3] at e; cases e
        | exn c => rw [h3] at e; cases e
        | ok z =>
          rw [h3] at e
          cases e
          show z.1.length + 1 = ies.length + 1
          rw [denEs_len ies y.2 z h3]
/-! ### built-ins -/
structure BltOk (X : Cx) (f : String) (v : Value) : Prop where
  gl : Gl X (Str.ofString f)
  mg : X.mg (Str.ofString f) = none
  bt : bootBuiltins (Str.ofString f) = some v
  nn : Str.ofString f ≠ "__name__"
  nd : (Str.ofString f == ("__debug__" : Str)) = false
theorem sim_isi {ty : String} {p3 p4 : Pos} (hn : notStar a = true) (B : BltOk X "isinstance" (.builtin "isinstance")) (Ty : BltOk X ty (.type ty)) (ha : SimE X a (denE C ia)) :
    SimE X (.Call (.Name (Str.ofString "isinstance") p2) [a, .Name (Str.ofString ty) p3] [] pos) (denE C (.isi ia ty)) := by
  intro F σ H s Q sr w
  simp only [denE] at w
  refine .of (pe_callB call_isi B.gl B.mg B.bt (pa_cons pe_w (pa_cons (pe_bltn (v := .ty ty) Ty.gl Ty.mg Ty.bt rfl Ty.nn Ty.nd) pa_nil) (star_cons hn)) B.nn B.nd ?_ ?_) ?_
  · exact star_cons hn
  · rfl
  · refine ha.run (.refl sr) w.bind fun x F1 v1 H1 w1 p1 q1 o1 => ?_
    obtain ⟨u, eu, w3⟩ := w1.bind.ofO
    obtain ⟨r, er, w4⟩ := w3.bind.ofO
    exact isi_ok (p1.sr.view o1 eu) er (w4 F1 _ H1 p1 (.bl r))
theorem sim_blt {f : String} {ies : List IE} (hc : X.calm = true) (hn : (e :: es).all notStar = true) (B : BltOk X f (bltV f)) (h : SimO X (e :: es) (denOs C ies)) : SimE X (.Call (.Name (Str.ofString f) p2) (e :: es) [] pos) (denE C (.blt f ies)) := by
  intro F σ H s Q sr w
  simp only [denE] at w
  have go : WpA X (e :: es) σ H fun vs H1 => WpCall X (bltV f) vs H1 Q := by
    refine h.run (.refl sr) w.bind fun r F1 vs H1 w1 p1 q1 rs => ?_
    obtain ⟨ds, eu, w3⟩ := w1.bind.ofO
    obtain ⟨o, er, w4⟩ := w3.bind.ofO
    exact blt_ok hc p1.sr (rs.views p1.sr eu) er (res_of p1 w4)
  simp only [List.all_cons, Bool.and_eq_true] at hn
  have B' := B
  unfold bltV at B go
  split at B
  · rename_i hf
    rw [if_pos hf] at go
    exact .of (pe_callTy (callr_wp _) B.gl B.mg B.bt pa_w B.nn B.nd (star_cons hn.1) (star_plain pos hn.2)) go
  · rename_i hf
    rw [if_neg hf] at go
    exact .of (pe_callB (callr_wp _) B.gl B.mg B.bt pa_w B.nn B.nd (star_cons hn.1) (star_plain pos hn.2)) go
end
end Cv
set_option maxRecDepth 100000
set_option maxHeartbeats 1000000
/-! Engine, part W: sorted(set(xs)), xs few tuples of small numbers of one length. -/
namespace Cv
open PySem PySem.Spec L2 PyProof.Rows
variable [TabC]
set_option autoImplicit false
theorem code_le {B : Int} : ∀ {a b : List Int}, a.length = b.length → TS.Bd B a → TS.Bd B b → TS.code B a ≤ TS.code B b → tLe a b
  | [], [], _, _, _, _ => rfl
  | x :: a, y :: b, hl, ha, hb, h => by
    have hl' : a.length = b.length := by simpa using hl
    unfold tLe tLt
    by_cases q : x = y
    · subst q
      have ih := code_le hl' ha.tail hb.tail (by
        have q := (TS.code_same (B := B) (d := x) hl'.symm)
        by_cases z : TS.code B b < TS.code B a
        · have := q.mpr z
          omega
        · omega)
      unfold tLe tLt at ih
      simp only [itL, List.map_cons] at ih ⊢
      simpa [PyProof.Rows.lexLt, itemOrd, itemLt] using ih
    · by_cases q2 : y < x
      · have := TS.code_lt hl'.symm hb.tail ha.tail q2
        omega
      · simp only [itL, List.map_cons]
        have : x < y := by omega
        simp [PyProof.Rows.lexLt, itemOrd, itemLt]
        omega
theorem ddT_mem : ∀ (ts : List (List Int)) (x : List Int), x ∈ ddT ts ↔ x ∈ ts
  | [], x => Iff.rfl
  | y :: r, x => by
    have ih := ddT_mem r x
    unfold ddT
    split
    · rename_i h
      have h := List.contains_iff_mem.mp h
      rw [ih, List.mem_cons]
      constructor
      · exact .inr
      · rintro (rfl | z)
        · exact (ddT_mem r x).mp h
        · exact z
    · rw [List.mem_cons, List.mem_cons, ih]
theorem ddT_nd : ∀ (ts : List (List Int)), (ddT ts).Nodup
  | [] => .nil
  | y :: r => by
    have ih := ddT_nd r
    unfold ddT
    split
    · exact ih
    · rename_i h
      exact List.nodup_cons.mpr ⟨fun z => h (List.contains_iff_mem.mpr z), ih⟩
theorem setB_ok {d : Nat} {ts : List (List Int)} (h : setB d ts = true) : ts.length < 64 ∧ ∀ t ∈ ts, t.length = d ∧ TS.Bd 64 t := by
  simp only [setB, Bool.and_eq_true, decide_eq_true_eq, List.all_eq_true] at h
  exact ⟨h.1, fun t ht => ⟨(h.2 t ht).1, fun m hm => (h.2 t ht).2 m hm⟩⟩
theorem sqT_same {K : PySem.W.Frag} {H H' : Hp} {a : Addr} {xs : List V} (h : SqT K H a xs) (e : Same H H') : SqT K H' a xs :=
  h.elim (fun h => .inl (h.elim (fun h => .inl (e _ _ h)) fun ⟨o, h⟩ => .inr ⟨o, e _ _ h⟩)) fun h => .inr h
def adr : V → Addr
  | .ref a => a
  | _ => default
section
variable {X : Cx} {C : Cal} {a : Expr} {ia : IE} {p2 p3 p4 pos : Pos}
theorem sim_sst (hc : X.calm = true) (hu : X.A.units + 64 < cLine) (hn : notStar a = true) (B : BltOk X "sorted" (.builtin "sorted")) (Bs : BltOk X "set" (.type "set")) (ha : SimE X a (denE C ia)) :
    SimE X (.Call (.Name (Str.ofString "sorted") p2) [.Call (.Name (Str.ofString "set") p3) [a] [] p4] [] pos) (denE C (.op1 "sortset" ia)) := by
  intro F σ H s Q sr w
  simp only [denE] at w
  refine .of (pe_callB (cr_sortedT hc) B.gl B.mg B.bt (pa_cons (pe_callTy (cr_setOfT hc hu) Bs.gl Bs.mg Bs.bt (pa_cons pe_w pa_nil (star_cons hn)) Bs.nn Bs.nd (star_cons hn) rfl) pa_nil (star_cons rfl)) B.nn B.nd (star_cons rfl) rfl) ?_
  refine ha.run (.refl sr) w.bind fun x F1 v1 H1 w1 p1 q1 o1 => ?_
  obtain ⟨u, eu, w3⟩ := w1.bind.ofO
  obtain ⟨r, er, w4⟩ := w3.bind.ofO
  have vw := p1.sr.view o1 eu
  have er : ssD u = some r := er
  cases u with
  | lst ds =>
    simp only [ssD, Option.bind_eq_some_iff] at er
    obtain ⟨ts, et, er⟩ := er
    cases ts with
    | nil => cases er
    | cons t0 tr =>
      simp only at er
      split at er
      · rename_i hb
        cases er
        obtain ⟨h64, hts⟩ := setB_ok hb
        have hd : 1 ≤ t0.length := by
          cases ds with
          | nil => cases et
          | cons d ds =>
            cases d with
            | tup xs =>
              simp only [tupsOf] at et
              split at et
              · simp only [Option.map_eq_some_iff] at et
                obtain ⟨_, _, e⟩ := et
                cases e
                simp
              · cases et
            | _ => simp [tupsOf] at et
        generalize t0 :: tr = ts at *
        obtain ⟨b, us, rfl, h1, h2⟩ := vw.list
        obtain ⟨L, g1, g2, g3⟩ := h2.tups et
        have hL : L.map (·.1) = (L.map fun p => (adr p.1, p.2)).map fun p => V.ref p.1 := by
          rw [List.map_map]
          refine List.map_congr_left fun p hp => ?_
          obtain ⟨⟨⟨q, e, _⟩, _⟩, _⟩ := g3 p hp
          simp [e, adr]
        refine ⟨b, L.map fun p => (adr p.1, p.2), rfl, ?_, ?_, ?_, ?_⟩
        · rw [← hL, g1]
          exact SqL.of h1
        · intro p hp
          obtain ⟨q, hq, rfl⟩ := List.mem_map.mp hp
          obtain ⟨⟨⟨c, e, hs⟩, _⟩, _⟩ := g3 q hq
          rw [e]
          exact hs
        · rw [List.length_map]
          have := congrArg List.length g2
          rw [List.length_map] at this
          omega
        · intro c M hc0 hM1 hM2
          have sm : Same H1 (upd H1 c (SetTO X.prog X.w c M)) := same_obj hc0
          have hM : ∀ p ∈ M, Rel X.K F1 H1 (.ref p.1) (.tup (p.2.map .int)) ∧ SqT X.K H1 p.1 (p.2.map V.int) ∧ p.2 ∈ ts := fun p hp => by
            obtain ⟨q, hq, rfl⟩ := List.mem_map.mp (hM1 p hp)
            obtain ⟨⟨⟨d, e, hs⟩, _⟩, hr⟩ := g3 q hq
            rw [e] at hr
            simp only [e, adr]
            exact ⟨hr, hs, by rw [← g2]; exact List.mem_map.mpr ⟨q, hq, rfl⟩⟩
          refine ⟨c, M, t0.length, 64, rfl, upd_same, fun p hp => sqT_same (hM p hp).2.1 sm, hd, fun p hp => hts _ (hM p hp).2.2, ?_⟩
          intro L' p pm nd few pw np
          have pe := p1.trans (EPost.same p1.sr sm)
          have rs := res_of pe w4
          have hd2 : (L'.map (·.2)).Perm (ddT ts) := by
            rw [List.perm_ext_iff_of_nodup nd (ddT_nd ts)]
            intro z
            rw [ddT_mem]
            constructor
            · intro hz
              obtain ⟨q, hq, rfl⟩ := List.mem_map.mp hz
              exact (hM q (pm.mem_iff.mp hq)).2.2
            · intro hz
              rw [← g2] at hz
              obtain ⟨q, hq, rfl⟩ := List.mem_map.mp hz
              have := hM2 (adr q.1, q.2) (List.mem_map.mpr ⟨q, hq, rfl⟩)
              exact ((pm.map (·.2)).mem_iff).mpr this
          have hsrt : L'.map (·.2) = sortT (ddT ts) := by
            refine sortT_uniq hd2 ?_
            rw [List.pairwise_map]
            refine List.Pairwise.imp_of_mem (fun {q r} hq hr h => ?_) pw
            have h1 := hts _ (hM q (pm.mem_iff.mp hq)).2.2
            have h2 := hts _ (hM r (pm.mem_iff.mp hr)).2.2
            exact code_le (h1.1.trans h2.1.symm) h1.2 h2.2 h
          have hrel : RelL X.K F1 (upd H1 c (SetTO X.prog X.w c M)) (L'.map fun q => V.ref q.1) ((sortT (ddT ts)).map fun ns => D.tup (ns.map .int)) := by
            rw [← hsrt]
            have := RelL.of_mem (K := X.K) (F := F1) (H := upd H1 c (SetTO X.prog X.w c M)) (L := L'.map fun q => (V.ref q.1, q.2)) fun q0 hq0 => by
              obtain ⟨q, hq, rfl⟩ := List.mem_map.mp hq0
              exact (hM q (pm.mem_iff.mp hq)).1.mono (same_keep sm) fun _ z => z
            simpa [List.map_map, Function.comp_def] using this
          refine rs.lst pe.sr hrel ?_ np
          rw [← hsrt]
          have : lim = 16777216 := rfl
          simp only [List.length_map]
          omega
      · cases er
  | _ => simp [ssD] at er
end
end Cv
set_option maxRecDepth 100000
set_option maxHeartbeats 1000000
set_option autoImplicit false
/-! Engine, part G: lists that are written, ranges, calls. -/
namespace Cv
open PySem PySem.Spec L2
variable [TabC]
section
variable {K : PySem.W.Frag} {F F' F1 F2 : ASet} {H H' H1 H2 : Hp} {σ : St} {s s' s1 s2 : DEnv} {v w : V} {d : D} {Q : VK} {ds es : List D} {vs ws : List V}
theorem ownAt_slot {i : Nat} (e : ownAt s i = some ds) : ∃ x, s[i]? = some (some x) ∧ S.muts x = some ds := by
  unfold ownAt at e
  split at e
  · rename_i q; cases e; exact ⟨_, q, rfl⟩
  · rename_i q; cases e; exact ⟨_, q, rfl⟩
  · cases e
theorem ownPut_at' {i : Nat} {x : S} (q : s[i]? = some (some x)) (m : S.muts x = some ds) : ∃ y, ownPut s i es = s.set i (some y) ∧ S.muts y = some es ∧ (S.isIo x → S.isIo y) := by
  unfold ownPut
  rw [q]
  cases x with
  | val d => cases m
  | own d => exact ⟨_, rfl, rfl, fun z => z.elim⟩
  | io d => exact ⟨_, rfl, rfl, fun z => z⟩
theorem ownPut_at {i : Nat} {x : S} (q : s[i]? = some (some x)) (m : S.muts x = some ds) : ∃ y, ownPut s i es = s.set i (some y) ∧ S.muts y = some es :=
  let ⟨y, h1, h2, _⟩ := ownPut_at' q m; ⟨y, h1, h2⟩
theorem SlR.ownR {x : S} (h : SlR K F H v x) (m : S.muts x = some ds) : OwnR K F H v ds := by
  cases x with
  | val d => cases m
  | own d => cases m; exact h
  | io d => cases m; exact h
theorem OwnR.slR {y : S} (h : OwnR K F H v ds) (m : S.muts y = some ds) : SlR K F H v y := by
  cases y with
  | val d => cases m
  | own d => cases m; exact h
  | io d => cases m; exact h
/-- the list in slot i is changed: H' differs from H at its place, and by new objects -/
theorem own_step {i : Nat} {x : S} {a : Addr} (sr : SR K F σ H s) (q : s[i]? = some (some x)) (m : S.muts x = some ds) (ha : σ[i]? = some (some (.ref a)))
    (fr : ∀ b o, H b = some o → b ≠ a → NT o → H' b = some o) (tb : TbOk H') (dm : ∀ b, H' b = none → H b = none) (sub : ∀ b, F b → F' b) (new : ∀ b, F' b → F b ∨ H b = none) (fdm : ∀ b, F' b → ∃ vs, H' b = some (.lst vs))
    (now : OwnR K F' H' (.ref a) es) : EPost K F σ H s F' H' (ownPut s i es) := by
  have oa : Own σ s a := ⟨i, x, ds, q, m, ha⟩
  have hi : i < s.length := (List.getElem?_eq_some_iff.mp q).1
  obtain ⟨y, ey, my, iy⟩ := ownPut_at' (es := es) q m
  rw [ey]
  have sub2 : ∀ b, Own σ (s.set i (some y)) b → Own σ s b := fun b ⟨j, z, fs, z1, z2, z3⟩ => by
    by_cases hj : i = j
    · subst hj
      exact ⟨i, x, ds, q, m, z3⟩
    · rw [List.getElem?_set_ne hj] at z1
      exact ⟨j, z, fs, z1, z2, z3⟩
  have ext : Ext F (Own σ s) H F' (Own σ (s.set i (some y))) H' := ⟨fun b o e n t => fr b o e (fun z => n (z ▸ oa)) t, dm, sub, fun b f => (new b f).imp id .inr, fun b z => .inl (sub2 b z)⟩
  refine ⟨ext, fun j z e => ?_, ⟨by rw [List.length_set]; exact sr.len, fun j z e => ?_, fun j k z z' fs gs b z1 z2 z3 z4 z5 z6 => ?_, fdm, tb⟩⟩
  · by_cases hj : i = j
    · subst hj
      rw [q] at e
      cases e
      exact ⟨y, List.getElem?_set_self hi, iy⟩
    · exact ⟨z, by rw [List.getElem?_set_ne hj]; exact e, id⟩
  · by_cases hj : i = j
    · subst hj
      rw [List.getElem?_set_self hi] at e
      cases e
      exact ⟨.ref a, ha, now.slR my⟩
    · rw [List.getElem?_set_ne hj] at e
      obtain ⟨v, e1, e2⟩ := sr.ats j z e
      refine ⟨v, e1, ?_⟩
      cases hz : S.muts z with
      | none =>
        cases z with
        | val d => exact sr.rel ext e2
        | own _ => cases hz
        | io _ => cases hz
      | some fs =>
        obtain ⟨b, ws, rfl, g1, g2, g3, g4⟩ := e2.ownR hz
        have nb : b ≠ a := fun z' => by
          subst z'
          exact hj (sr.sep i j x z ds fs b q m e hz ha e1)
        refine OwnR.slR ⟨b, ws, rfl, fr b _ g1 nb (fun _ => nofun), sr.relL ext g2, fun f => ?_, g4⟩ hz
        rcases new b f with f | f
        · exact g3 f
        · rw [g1] at f; cases f
  · have nn : ∀ (j : Nat) (z : S) (fs : List D), (s.set i (some y))[j]? = some (some z) → S.muts z = some fs → ∃ z' fs', s[j]? = some (some z') ∧ S.muts z' = some fs' := fun j z fs e1 e2 => by
      by_cases hj : i = j
      · subst hj
        exact ⟨x, ds, q, m⟩
      · rw [List.getElem?_set_ne hj] at e1
        exact ⟨z, fs, e1, e2⟩
    obtain ⟨p1, p2, p3, p4⟩ := nn j z fs z1 z2
    obtain ⟨r1, r2, r3, r4⟩ := nn k z' gs z3 z4
    exact sr.sep j k p1 r1 p2 r2 b p3 p4 r3 r4 z5 z6
/-- .. by a store to it alone -/
theorem own_write {i : Nat} {x : S} {a : Addr} (sr : SR K F σ H s) (q : s[i]? = some (some x)) (m : S.muts x = some ds) (ha : σ[i]? = some (some (.ref a))) (r : RelL K F H ws es) (l : es.length ≤ lim) :
    EPost K F σ H s F (upd H a (.lst ws)) (ownPut s i es) := by
  obtain ⟨⟨vs, h1⟩, n⟩ := sr.own ⟨i, x, ds, q, m, ha⟩
  have kp : Keep F H (upd H a (.lst ws)) := fun b o e z _ => by
    have : b ≠ a := fun y => by
      subst y
      rcases z with z | z
      · exact n z
      · rw [h1] at e; cases e; exact z vs rfl
    rw [upd_ne this]; exact e
  refine own_step sr q m ha (fun b o e nb _ => by rw [upd_ne nb]; exact e) (tbs_keep sr.tb fun b o e z => by rw [upd_ne fun y => by subst y; rw [h1] at e; cases e; exact z vs rfl]; exact e) (fun b e => ?_) (fun _ f => f) (fun b f => .inl f) (fun b f => ?_) ⟨a, ws, rfl, upd_same, r.mono kp fun _ f => f, n, l⟩
  · by_cases hb : b = a
    · rw [hb, upd_same] at e; cases e
    · rw [upd_ne hb] at e; exact e
  · obtain ⟨us, e⟩ := sr.fdm b f
    exact ⟨us, kp b _ e (.inl f) (fun _ => nofun)⟩
end
section
variable {X : Cx} {e a b c : Expr} {pos p2 apos : Pos} {F F1 : ASet} {σ : St} {H H1 : Hp} {s s1 : DEnv} {Q : VK} {es : List Expr} {C : Cal} {ia ib ic : IE}
/-! ### methods of a list in a slot -/
def mthName : Mth → String
  | .append => "append"
  | .pop => "pop"
  | .popAt => "pop"
  | .reverse => "reverse"
theorem slot_own {i : Nat} {ds : List D} (sr : SR X.K F σ H s) (e : ownAt s i = some ds) : ∃ x a vs, s[i]? = some (some x) ∧ S.muts x = some ds ∧ σ[i]? = some (some (.ref a)) ∧ H a = some (.lst vs) ∧ RelL X.K F H vs ds ∧ ds.length ≤ lim := by
  obtain ⟨x, q, m⟩ := ownAt_slot e
  obtain ⟨v, e1, e2⟩ := sr.ats i x q
  obtain ⟨a, vs, rfl, h1, h2, h3, h4⟩ := e2.ownR m
  exact ⟨x, a, vs, q, m, e1, h1, h2, h4⟩
theorem tyL {K : PySem.W.Frag} {a : Addr} {vs : List V} (h : H a = some (.lst vs)) : tyV K "list" (.ref a) H := .inl ⟨rfl, vs, SqL.of h⟩
theorem few1 {env : Env} (hn : notStar e = true) : ((backTo pos (starEach [e] env)).all (fun x => !x.1) && (backToKw pos (keywordEach [] env)).all (fun x => x.1.isSome)
      && decide ([e].length + ([] : List Keyword).length + (if ([] : List Keyword).isEmpty then 0 else 1) < 30)) = true := by
  rw [star_cons hn]; rfl
theorem sim_meth {i : Nat} {m : Mth} {x : Str} {ies : List IE} (hN : X.N[i]? = some x) (hv : Vis X.env.scope x) (hd : (x == ("__debug__" : Str)) = false) (hcd : (x == ("__classdict__" : Str)) = false)
    (hline : (apos.endLine == pos.line) = true) (hes : (es = [] ∧ ies = [] ∧ (m = .pop ∨ m = .reverse)) ∨ (∃ e ie, es = [e] ∧ ies = [ie] ∧ notStar e = true ∧ (m = .append ∨ m = .popAt) ∧ SimA X es (denEs C ies))) :
    SimE X (.Call (.Attribute (.Name x p2) (Str.ofString (mthName m)) apos) es [] pos) (denE C (.meth m i ies)) := by
  intro F σ H s Q sr w
  simp only [denE] at w
  obtain ⟨ds0, e0, w⟩ := w.bind.ofO
  obtain ⟨y, a, vs, q, mm, ha, h1, h2, h3⟩ := slot_own sr e0
  rcases hes with ⟨rfl, rfl, hm⟩ | ⟨e, ie, rfl, rfl, hn, hm, hA⟩
  · simp only [denEs] at w
    obtain ⟨ds, e1, w1⟩ := (RP.bind w).bind.ofO
    obtain ⟨r, e2, w2⟩ := w1.bind.ofO
    rw [e0] at e1
    cases e1
    rcases hm with rfl | rfl
    · refine .of (pe_bm0 PySem.F.plainAttrs_list PySem.F.slot_list_pop PySem.F.type_list_pop mt_pop (pe_var hN hv hd hcd) rfl hline) ⟨.ref a, ha, tyL h1, ?_⟩
      unfold methD at e2
      simp only at e2
      split at e2
      · cases e2
      · rename_i hne
        cases e2
        have hds : ds0 ≠ [] := by simpa using hne
        have hlast : ds0[ds0.length - 1]? = some (ds0.getLastD .non) := by
          rw [List.getLastD_eq_getLast?, ← List.getLast?_eq_getElem?]
          cases hq : ds0.getLast? with
          | none => simp at hq; exact absurd hq hds
          | some z => rfl
        obtain ⟨v, e3, e4⟩ := h2.get hlast
        refine ⟨a, vs, v, rfl, rfl, h1, by rw [h2.len]; exact e3, ?_⟩
        have dl : RelL X.K F H vs.dropLast ds0.dropLast := by
          rw [List.dropLast_eq_take, List.dropLast_eq_take, h2.len]
          exact h2.take _
        have p := own_write sr q mm ha dl (Nat.le_trans (by rw [List.length_dropLast]; omega) h3)
        exact w2 F v _ p (sr.rel p.ext e4)
    · refine .of (pe_bm0 PySem.F.plainAttrs_list PySem.F.slot_list_reverse PySem.F.type_list_reverse mt_reverse (pe_var hN hv hd hcd) rfl hline) ⟨.ref a, ha, tyL h1, ?_⟩
      cases e2
      refine ⟨a, vs, rfl, rfl, h1, ?_⟩
      exact w2 F _ _ (own_write sr q mm ha h2.rev (by rw [List.length_reverse]; exact h3)) .non
  · have key : ∀ {r : V → List V → Hp → VK → Prop}, (∀ F1 H1 s1 vs v a d ds w', EPost X.K F σ H s F1 H1 s1 → H1 a = some (.lst vs) → RelL X.K F1 H1 vs ds → ds.length ≤ lim → Rel X.K F1 H1 v d → methD m ds [d] = some w' →
        (∀ z ws, RelL X.K F1 H1 ws w'.2 → w'.2.length ≤ lim → Rel X.K F1 H1 z w'.1 → Q z (upd H1 a (.lst ws))) → r (.ref a) [v] H1 Q) →
        (tyV X.K "list" (.ref a) H ∧ WpA X [e] σ H fun xs H2 => r (.ref a) xs H2 Q) := fun {r} k => by
      refine ⟨tyL h1, hA.run (.refl sr) w.bind fun r F1 us H1 w1 p1 q1 rs => ?_⟩
      obtain ⟨ds, e1, w1⟩ := w1.bind.ofO
      obtain ⟨w', e2, w2⟩ := w1.bind.ofO
      obtain ⟨y1, a1, vs1, g1, g2, g3, g4, g5, g6⟩ := slot_own p1.sr e1
      rw [ha] at g3
      cases g3
      obtain ⟨r1, s1⟩ := r
      have hl : ∃ d, r1 = [d] := by
        match r1, e2 with
        | [], e2 => rcases hm with rfl | rfl <;> cases e2
        | [d], _ => exact ⟨d, rfl⟩
        | _ :: _ :: _, e2 => cases e2
      obtain ⟨d, rfl⟩ := hl
      match us, rs with
      | [_], .cons hd .nil =>
        refine k F1 H1 s1 vs1 _ a d ds w' p1 g4 g5 g6 hd e2 fun z ws rw' lw rz => ?_
        have p := own_write p1.sr g1 g2 ha rw' lw
        exact w2 F1 z _ (p1.trans p) (p1.sr.rel p.ext rz)
    rcases hm with rfl | rfl
    · refine .of (pe_bm PySem.F.plainAttrs_list PySem.F.slot_list_append PySem.F.type_list_append mt_append (pe_var hN hv hd hcd) pa_w rfl (few1 hn) hline (star_cons hn) rfl) ⟨.ref a, ha, key ?_⟩
      intro F1 H1 s1 vs v a d ds w' p1 h4 h5 h6 hv e2 k
      simp only [methD] at e2
      split at e2
      · rename_i hl
        cases e2
        exact ⟨a, vs, v, rfl, rfl, h4, by rw [h5.len, ← lim_eq]; exact hl, k .non _ (h5.app (.cons hv .nil)) (by simp; omega) .non⟩
      · cases e2
    · refine .of (pe_bm PySem.F.plainAttrs_list PySem.F.slot_list_pop PySem.F.type_list_pop mt_popAt (pe_var hN hv hd hcd) pa_w rfl (few1 hn) hline (star_cons hn) rfl) ⟨.ref a, ha, key ?_⟩
      intro F1 H1 s1 vs v a d ds w' p1 h4 h5 h6 hv e2 k
      simp only [methD] at e2
      cases d with
      | int i =>
        cases hv
        simp only at e2
        rw [if_pos h6] at e2
        cases hx : ixN ds.length i with
        | none => rw [hx] at e2; cases e2
        | some j =>
          rw [hx] at e2
          cases e2
          obtain ⟨g1, g2, g3, g4⟩ := ixN_seq hx
          have hj : ds[j]? = some (ds.getD j .non) := by
            rw [List.getD_eq_getElem?_getD]
            rw [List.getElem?_eq_getElem g2]; rfl
          obtain ⟨z, e3, e4⟩ := h5.get hj
          have hlim : ds.length ≤ 16777216 := h6
          exact ⟨a, vs, i, j, z, rfl, rfl, h4, by omega, by omega, by rw [h5.len]; exact g1, e3, k z _ (h5.erase j) (Nat.le_trans (len_erase _ _) h6) e4⟩
      | _ => cases e2
end
end Cv
set_option maxRecDepth 100000
set_option maxHeartbeats 1000000
set_option autoImplicit false
/-! Engine, part W2: defs that are called where no guard is under way (repr needs that), from their body, as callee, at the law's end. -/
namespace Cv
open PySem PySem.Spec L2
/-- room, and no repr is under way -/
structure Room (k : Nat) (A : Around) : Prop extends L2.Room k A where
  gd : A.guards = some []
theorem Room.mono {j k : Nat} {A : Around} (r : Room k A) (h : j ≤ k) : Room j A := ⟨r.toRoom.mono h, r.gd⟩
theorem Room.deeper {k : Nat} {A : Around} (r : Room (k + 1) A) (env : Env) : Room k (A.deeper env) := ⟨r.toRoom.deeper env, r.gd⟩
structure FnOk (P : Program) (w : World) (K : PySem.W.Frag) (mg : Str → Option Value) (base : Heap) (CX : CXT) (k : Nat) (f : Addr) (fd : FuncData) (ps : List Str) (sp : Sp) : Prop where
  len : ∀ vs H Q E, sp vs H Q E → vs.length = ps.length
  run : ∀ (A : Around) (outer : List Env) (s : Shared) (H : Hp) (args : Args) (us : List Value) (vs : List V) (Q : VK) (E : XK), Room k A → Env0 P w K mg base A outer s H → BindsTo s fd args (ps.zip us) → Vals vs us → sp vs H Q E →
    codeAny (model P w) A (.call (.ref f) args) (CR CX outer P w H s Q E) s
theorem FnOk.mono {P : Program} {w : World} {K : PySem.W.Frag} {mg : Str → Option Value} {base : Heap} {CX : CXT} {j k : Nat} {f : Addr} {fd : FuncData} {ps : List Str} {sp : Sp} (F : FnOk P w K mg base CX j f fd ps sp) (h : j ≤ k) : FnOk P w K mg base CX k f fd ps sp :=
  ⟨F.len, fun A outer s H args us vs Q E hr => F.run A outer s H args us vs Q E (hr.mono h)⟩
section
variable {X : Cx} {CX : CXT} {k : Nat} {f : Addr} {fd : FuncData} {ps : List Str} {sp : Sp} {E : St → XK} {x : Str} {p pos : Pos} {e : Expr} {es : List Expr} {t : TA}
theorem run_fnS {pins : List (Addr × Obj)} {σ : St} {H : Hp} {s : Shared} {Q : VK} {us : List Value} {vs : List V} (F : FnOk X.prog X.w X.K X.mg X.base CX k f fd ps sp) (hr : Room k X.A) (hb : Binds X.K fd ps []) (hx : PassesAt CX X σ (E σ))
    (I : Inv X pins σ H s) (r : Vals vs us) (h : sp vs H Q (E σ)) : wpAny (model X.prog X.w) X.A (call (.ref f) us) (EP X pins σ Q) X.xe s := by
  have b := hb s us I.kIn (by rw [List.append_nil, ← r.length]; exact F.len _ _ _ _ h)
  rw [List.append_nil] at b
  refine wpAny_call (codeAny_mono (F.run X.A X.stack s H ⟨us, []⟩ us vs Q (E σ) hr I.env0 b r h) fun r s' hq => ?_)
  match r, hq with
  | .error e, hq => exact hx pins H s e s' I hq
  | .ok (.ret u), hq => exact I.after hq
  | .ok .next, hq => exact False.elim hq
  | .ok .brk, hq => exact False.elim hq
  | .ok .cont, hq => exact False.elim hq
theorem pe_callS (F : FnOk X.prog X.w X.K X.mg X.base CX k f fd ps sp) (hr : Room k X.A) (hg : Gl X x) (hm : X.mg x = some (.ref f)) (hk : PySem.W.keepIn X.K (.ref f) = true) (hb : Binds X.K fd ps []) (hx : ∀ σ, PassesAt CX X σ (E σ))
    (ha : PA X (e :: es) t) (hdb : (x == ("__debug__" : Str)) = false) (he : starEach (e :: es) X.env = (false, eval e X.env) :: starEach es X.env) (hpl : (backTo pos (starEach es X.env)).any (·.1) = false) :
    PE X (.Call (.Name x p) (e :: es) [] pos) (tCallS sp E t) :=
  ⟨fun pins s σ H Q I h => PySem.wpAny_Call_Name_kw (ld_glob I hg hm (PySem.W.callWith_K (h₀ := X.base) I.ok.mod.kin hk (thn (ha.run pos pins s σ H _ I h) fun us s1 ⟨vs, H1, I1, r, q⟩ => ⟨I1.kIn, run_fnS F hr hb (hx σ) I1 r q⟩) he hpl) hdb)⟩
end
/-- the code object of the def at f -/
def CodeAt (K : PySem.W.Frag) (f : Addr) (cdv : Value) : Prop := ∃ (oc : Value) (od : Option Addr) (osl : Array (Option Value)) (fd : FuncData) (q : Str), K.lookup f = some ⟨oc, od, .func fd, osl⟩ ∧ fd.code = cdv ∧ PySem.W.codeIn K cdv q = true
/-- a def from its body, no guard being under way -/
theorem fnG {CX : CXT} {P : Program} {w : World} {K : PySem.W.Frag} {mg : Str → Option Value} {base : Heap} {x qual : Str} {params : Arguments} {body : List Stmt} {scope : Scope} {dvs : List V} {kws : List (Str × V)} {f : Addr} {fd : FuncData} {N ps : List Str} {k : Nat} {sp : Sp}
    (F : FunD K x qual params body scope dvs kws f fd) (S : FnScope N ps scope) (len : ∀ vs H Q E, sp vs H Q E → vs.length = ps.length)
    (hbody : ∀ (cdv : Value) (A : Around) (outer : List Env) (s : Shared) (H : Hp) (vs : List V) (Q : VK) (E : XK), CodeAt K f cdv → Room k (A.deeper (PyProof.Rows.envOfC qual scope s.heap.objs.size f cdv)) → sp vs H Q E →
      ∃ t, PSs (cxOf CX P w K mg base N qual scope f cdv A outer s H E) body t ∧ t { nx := fun _ H' => Q .non H', rt := Q } (start N vs) H) : FnOk P w K mg base CX (k + 1) f fd ps sp := by
  obtain ⟨oc, od, dV, kV, doc, pm, an, cdv, ct, osl, rfl, lk, hcd, _, _⟩ := F.ex
  refine ⟨len, fun A outer s H args us vs Q E hr e0 hb r hsp => ?_⟩
  have old : ∀ b o, base.get? b = some o → s.heap.get? b = some o := fun b o e => (e0.bs b o e).1
  have KX : K.In s.heap := e0.mod.kin.keeps old
  have kinds : ∀ y ∈ ps.zip us, scope.names.lookup y.1 = some .local ∨ (scope.names.lookup y.1 = some .cell ∧ ((cellsFrom (s.heap.objs.size + 1) scope.names []).lookup y.1).isSome = true) := fun y hy =>
    (S.par y.1 (List.of_mem_zip (a := y.1) (b := y.2) hy).1).imp id fun q => ⟨q, PySem.W.cellsFrom_some _ _ _ (.inl q)⟩
  obtain ⟨t, ht, hq⟩ := hbody cdv A outer s H vs Q E ⟨oc, od, osl, _, qual, lk, rfl, hcd⟩ (hr.deeper _) hsp
  refine codeAny_call_function hr.toRoom.depth (KX _ _ lk) rfl S.co S.gen rfl (PySem.W.codeRec_of KX hcd) (hb _ _ _ _ (wpAny_newFunctionEnv_cells S.kind kinds fun env he s1 nw => ?_))
  subst he
  refine ⟨(e0.mod.nolimit.keeps old).keeps nw.toInCall.keep, codeAny_func (wpAny_mono (ht.run [] s1 (start N vs) H _ (inv_start S hr.hd e0 (len _ _ _ _ hsp) r nw) hq) (fun fl s' hs => ?_) fun e s' hs => hs)⟩
  match fl, hs with
  | .ret u, ⟨v, σ', H', J, rv, q⟩ => exact ⟨v, H', J.os, J.bare, J.base, J.hok, rv, q⟩
  | .next, ⟨σ', H', J, q⟩ => exact ⟨V.non, H', J.os, J.bare, J.base, J.hok, rfl, q⟩
  | .brk, ⟨_, _, _, q⟩ => exact False.elim q
  | .cont, ⟨_, _, _, q⟩ => exact False.elim q
end Cv
set_option maxRecDepth 100000
set_option maxHeartbeats 1000000
set_option autoImplicit false
/-! Engine, part W3: the law's end, no guard being under way. -/
namespace Cv
open PySem PySem.Spec L2
section
variable {P : Program} {w : World} {K : PySem.W.Frag} {mg mb : Str → Option Value} {CX : CXT} {k : Nat} {fa a : Addr} {fd : FuncData} {x : Str} {sp : Sp} {s : Shared} {vs : List Value} {ns : List Int} {H : Hp}
/-- from an abstract heap that tells of the script at most -/
theorem end_at (KX : K.In s.heap) (hns : s.heap.Ns mainGlobals mg) (hb : s.heap.Ns builtinsNs mb) (hbb : ∀ x : Str, x ≠ "__name__" → mb x = bootBuiltins x) (hlim : s.heap.NoLimit) (hg : s.gens = #[])
    (ha : s.heap.get? a = some { cls := .type "list", data := .seq vs.toArray }) (hr : Room k callerA) (F : ∀ base : Heap, K.In base → base.Ns mainGlobals mg → FnOk P w K mg base CX k fa fd [x] sp) (hbind : BindsTo s fd ⟨[.ref a], []⟩ [(x, .ref a)])
    (hsp : sp [.ref a] H (fun v _ => v = .bl true) fun _ _ _ => False) (hCX : ∀ e s', CX [] H s (fun _ _ _ => False) e s' → False) (hO : Only H) (hok : HOk P w H s.heap) (hA : ∀ b u, H b = some u → b = a ∧ K.lookup a = none) :
    codeAny (model P w) callerA (.call (.ref fa) ⟨[.ref a], []⟩) (fun r s' => r = .ok (.ret (.bool true)) ∧ OldK s.heap s'.heap ∧ s'.os = s.os ∧ PyProof.Rows.AllBare s'.gens) s := by
  have free : ∀ (b : Addr) (o : Obj), s.heap.get? b = some o → (∀ is n, o.data ≠ .seq is n) → H b = none := fun b o e nd => by
    match q : H b with
    | none => rfl
    | some u =>
      obtain ⟨rfl, _⟩ := hA b u q
      rw [ha] at e
      cases e
      exact absurd rfl (nd _ _)
  have up : ∀ {b : Addr} {m : Str → Option Value}, s.heap.Ns b m → (hidT s.heap H).Ns b m := fun {b m} ⟨o, es, ep, e, d, r⟩ => ⟨o, es, ep, hidT_get e (free b o e fun is n z => by rw [d] at z; cases z), d, r⟩
  have kb : K.In (hidT s.heap H) := fun b o e => hidT_get (KX b o e) (by
    match q : H b with
    | none => rfl
    | some u =>
      obtain ⟨rfl, z⟩ := hA b u q
      rw [z] at e
      cases e)
  have md : Mod K mg (hidT s.heap H) := ⟨kb, up hns, ⟨mb, up hb, hbb⟩, let ⟨mc, h1, h2⟩ := hlim; ⟨mc, up h1, h2⟩⟩
  have e0 : Env0 P w K mg (hidT s.heap H) callerA [] s H := ⟨rfl, md, fun b o e => of_hidT e, Nat.le_of_eq (hidT_size _ _), trivial, fun b hb => (List.not_mem_nil hb).elim, hok, .of_eq hg⟩
  refine codeAny_mono ((F _ kb (up hns)).run callerA [] s H ⟨[.ref a], []⟩ [.ref a] [.ref a] _ _ hr e0 hbind (.cons rfl .nil) hsp) fun r s' h => ?_
  match r, h with
  | .error e, h => exact (hCX e s' h).elim
  | .ok .next, h => exact False.elim h
  | .ok .brk, h => exact False.elim h
  | .ok .cont, h => exact False.elim h
  | .ok (.ret u), ⟨v, H', os, bare, un, hok', rv, (q : v = .bl true)⟩ =>
    subst q
    obtain rfl : u = Value.bool true := rv
    refine ⟨rfl, OldK.of_keep fun b o e => ?_, os, bare⟩
    rcases hO b with z | ⟨ob, xs, z⟩
    · exact un.keep b o e z (fun z => (List.not_mem_nil z).elim) (by simp)
    · obtain ⟨e1, _⟩ := hok b _ z
      obtain ⟨e2, _⟩ := hok' b _ (un.frzs b ob _ z)
      rw [e] at e1
      cases e1
      exact e2
theorem end_call (KX : K.In s.heap) (hns : s.heap.Ns mainGlobals mg) (hb : s.heap.Ns builtinsNs mb) (hbb : ∀ x : Str, x ≠ "__name__" → mb x = bootBuiltins x) (hlim : s.heap.NoLimit) (hg : s.gens = #[])
    (ha : s.heap.get? a = some { cls := .type "list", data := .seq vs.toArray }) (hi : PyProof.Rows.IntsAre vs ns) (hl : ns.length ≤ sizeLine) (hr : Room k callerA) (F : ∀ base : Heap, K.In base → base.Ns mainGlobals mg → FnOk P w K mg base CX k fa fd [x] sp) (hbind : ∀ (s : Shared) (u : Value), BindsTo s fd ⟨[u], []⟩ [(x, u)])
    (hsp : ∀ H : Hp, Only H → SqL K H a (ns.map V.int) → sp [.ref a] H (fun v _ => v = .bl true) fun _ _ _ => False) (hCX : ∀ H e s', CX [] H s (fun _ _ _ => False) e s' → False) :
    codeAny (model P w) callerA (.call (.ref fa) ⟨[.ref a], []⟩) (fun r s' => r = .ok (.ret (.bool true)) ∧ OldK s.heap s'.heap ∧ s'.os = s.os ∧ PyProof.Rows.AllBare s'.gens) s := by
  have rv := vals_ints hi
  match hk : K.lookup a with
  | some o =>
    have e := KX a o hk
    rw [ha] at e
    cases e
    have hO : Only (fun _ => none) := fun _ => .inl rfl
    exact end_at (H := fun _ => none) KX hns hb hbb hlim hg ha hr F (hbind _ _) (hsp _ hO (.inr ⟨_, vs.toArray, _, hk, rfl, rfl, rfl, by rw [List.size_toArray, hi.length]; exact hl, by simpa using rv⟩)) (hCX _) hO (fun b u z => nomatch z) fun b u z => nomatch z
  | none =>
    let H : Hp := fun b => if b = a then some (.frz { cls := .type "list", data := .seq vs.toArray } (.lst (ns.map V.int))) else none
    have at_ : H a = some (.frz { cls := .type "list", data := .seq vs.toArray } (.lst (ns.map V.int))) := if_pos rfl
    have only : ∀ b u, H b = some u → b = a := fun b u z => by
      by_cases q : b = a
      · exact q
      · exact nomatch (if_neg q).symm.trans z
    have hO : Only H := fun b => by
      by_cases q : b = a
      · exact .inr ⟨_, _, if_pos q⟩
      · exact .inl (if_neg q)
    refine end_at (H := H) KX hns hb hbb hlim hg ha hr F (hbind _ _) (hsp _ hO (.inl (.inr ⟨_, at_⟩))) (hCX _) hO (fun b u z => ?_) fun b u z => ⟨only b u z, hk⟩
    obtain rfl := only b u z
    rw [at_] at z
    cases z
    exact ⟨ha, by rw [List.length_map]; exact hl, vs, _, rv, ha⟩
end
/-- the goal that the head leaves -/
theorem walk_end {l : PySem.W.OpenLaw} {n k : Nat} {q : Program} {loose : List Str} {XP : (Str → Option Value) → Heap → Prop} {YP : World → Heap → Prop} {d : DefRec} {CX : CXT} {x : Str}
    (hn : l.most = some n) (hn2 : n ≤ sizeLine) (hdf : d.params.defaults = []) (hr : Room k callerA)
    (F : ∀ (w : World) (mg : Str → Option Value) (fa : Addr) (h : Heap), YP w h → h.Ns mainGlobals mg → mg d.name = some (.ref fa) →
      ∃ (K : PySem.W.Frag) (fd : FuncData) (sp : Sp), K.In h ∧ (∀ (s : Shared) (u : Value), BindsTo s fd ⟨[u], []⟩ [(x, u)]) ∧
        (∀ (H : Hp) (a : Addr) (ns : List Int), ns.length ≤ n → Only H → SqL K H a (ns.map V.int) → sp [.ref a] H (fun v _ => v = .bl true) fun _ _ _ => False) ∧
        ∀ base : Heap, K.In base → base.Ns mainGlobals mg → FnOk l.prog w K mg base CX k fa fd [x] sp)
    (hCX : ∀ (H : Hp) (s : Shared) (e : Value) (s' : Shared), CX [] H s (fun _ _ _ => False) e s' → False) :
    PySem.W.WalkO q loose XP YP l.row.toRowW d [] (fun f vs => PySem.call f vs) := by
  refine Att.attach_call hn hdf fun w s₀ s₁ mg mb fa o pm cd doc a vs ns G Y ho hd hcd hmg hobj hints hlen hg => ?_
  obtain ⟨K, fd, sp, KX, hb, hsp, hF⟩ := F w mg fa _ Y G.T.g hmg
  exact end_call KX G.T.g G.T.b G.T.builtins G.T.nolimit hg hobj hints (Nat.le_trans hlen hn2) hr hF hb (fun H hO hS => hsp H a ns hlen hO hS) fun H e s' => hCX H s₁ e s'
end Cv
set_option maxRecDepth 100000
set_option maxHeartbeats 1000000
set_option autoImplicit false
/-! Engine, part W4: repr of data. -/
namespace Cv
open PySem PySem.Spec L2
variable [TabC]
section
variable {X : Cx} {pins : List (Addr × Obj)} {σ : St} {H : Hp} {s : Shared} {F : ASet}
mutual
theorem reads_of (I : Inv X pins σ H s) : ∀ {v : V} {d : D} {p : PyData} {u : Value}, Rel X.K F H v d → rpPy d = some p → RelV v u → ∃ as, Reads s.heap u p as
  | _, _, _, _, .non, e, r => by cases e; cases r; exact ⟨_, .none⟩
  | _, _, _, _, .bl b, e, r => by cases e; cases r; exact ⟨_, .bool b⟩
  | _, _, _, _, .int i, e, r => by cases e; obtain ⟨t, rfl⟩ := r; exact ⟨_, .int i t⟩
  | _, _, _, _, .str x h, e, r => by cases e
  | _, _, _, _, .tup h r l, e, rv => by
    simp only [rpPy, Option.map_eq_some_iff] at e
    obtain ⟨ps, e1, rfl⟩ := e
    cases rv
    obtain ⟨its, q, ⟨o, ho, hc, n, hd⟩, _⟩ := I.tuple h
    obtain ⟨as, ra⟩ := reads_all I r e1 q
    exact ⟨_, .tuple ho hc hd (by simpa using ra)⟩
  | _, _, _, _, .lst f h r l, e, rv => by
    simp only [rpPy, Option.map_eq_some_iff] at e
    obtain ⟨ps, e1, rfl⟩ := e
    cases rv
    obtain ⟨its, q, ⟨o, m, ho, hc, hx, hd⟩, _⟩ := I.list (SqL.of h)
    obtain ⟨as, ra⟩ := reads_all I r e1 q
    exact ⟨_, .list ho hc hd (by simpa using ra)⟩
  | _, _, _, _, .scr h, e, _ => by cases e
  | _, _, _, _, .fn f, e, _ => by cases e
theorem reads_all (I : Inv X pins σ H s) : ∀ {vs : List V} {ds : List D} {ps : List PyData} {us : List Value}, RelL X.K F H vs ds → rpPys ds = some ps → Vals vs us → ∃ as, ReadsAll s.heap us ps as
  | _, _, _, _, .nil, e, .nil => by cases e; exact ⟨_, .nil⟩
  | _, _, _, _, .cons h r, e, .cons q qs => by
    simp only [rpPys] at e
    split at e
    · rename_i p ps e1 e2
      cases e
      obtain ⟨as, h1⟩ := reads_of I h e1 q
      obtain ⟨bs, h2⟩ := reads_all I r e2 qs
      exact ⟨_, .cons h1 h2⟩
    · cases e
end
mutual
theorem rpPy_nd : ∀ {d : D} {p : PyData}, rpPy d = some p → p.hasDict = false
  | .non, _, e => by cases e; rfl
  | .bl _, _, e => by cases e; rfl
  | .int _, _, e => by cases e; rfl
  | .str _, _, e => by cases e
  | .tup ds, _, e => by
    simp only [rpPy, Option.map_eq_some_iff] at e
    obtain ⟨ps, e1, rfl⟩ := e
    simpa only [PyData.hasDict] using rpPys_nd e1
  | .lst ds, _, e => by
    simp only [rpPy, Option.map_eq_some_iff] at e
    obtain ⟨ps, e1, rfl⟩ := e
    simpa only [PyData.hasDict] using rpPys_nd e1
  | .scr _, _, e => by cases e
  | .fn _, _, e => by cases e
theorem rpPys_nd : ∀ {ds : List D} {ps : List PyData}, rpPys ds = some ps → PyData.hasDictAll ps = false
  | [], _, e => by cases e; rfl
  | d :: ds, _, e => by
    simp only [rpPys] at e
    split at e
    · rename_i p ps e1 e2
      cases e
      simp only [PyData.hasDictAll, rpPy_nd e1, rpPys_nd e2, Bool.or_self]
    · cases e
end
/-- repr(x) -/
def rRepr (K : PySem.W.Frag) : List V → Hp → VK → Prop := fun vs H Q => ∃ (F : ASet) (v : V) (d : D) (y : Str), vs = [v] ∧ View K F H v d ∧ reprD d = some y ∧ Q (.str y) H
theorem cr_repr (hg : X.A.guards = some []) (hu : X.A.units + 65 < cLine) : CallR X (.builtin "repr") (rRepr X.K) := by
  intro pins s σ H xs us Q I r h
  obtain ⟨F, v, d, y, rfl, vw, e, q⟩ := h
  obtain ⟨u, rfl, ru⟩ := vals1 r
  have go : ∀ {a : Addr} {p : PyData} {as : List Addr}, Reads s.heap (.ref a) p as → p.hasDict = false → rpOk p = true → p.shown = y → wpAny (model X.prog X.w) X.A (call (.builtin "repr") [.ref a]) (EP X pins σ Q) X.xe s := fun {a p as} rd nd ok ey => by
    simp only [rpOk, Bool.and_eq_true, decide_eq_true_eq] at ok
    obtain ⟨⟨⟨o1, o2⟩, o3⟩, _⟩ := ok
    refine repr_of_reads' rd o1 (fun z => by rw [nd] at z; cases z) hg (by omega) (fun _ _ e => e) (fun h' u tk k => ?_) (by rw [sizeLine_eq]; exact o3)
    rw [ey]
    exact ⟨.str y, H, I.kept k, ⟨_, rfl⟩, q⟩
  cases d with
  | non =>
    cases e
    cases vw with
    | rel vw =>
      cases vw
      cases ru
      exact PySem.P.repr_of_none ⟨.str _, H, I.tok _, ⟨_, rfl⟩, q⟩
  | int i =>
    simp only [reprD] at e
    split at e
    · rename_i hz
      cases e
      cases vw with
      | rel vw =>
        cases vw
        obtain ⟨t, rfl⟩ := ru
        exact PySem.P.repr_of_int hz ⟨.str _, H, I.tok _, ⟨_, rfl⟩, q⟩
    · cases e
  | tup ds =>
    simp only [reprD, Option.bind_eq_some_iff] at e
    obtain ⟨p, e1, e2⟩ := e
    split at e2
    · rename_i ok
      cases e2
      cases vw with
      | rel vw =>
        obtain ⟨as, rd⟩ := reads_of I vw e1 ru
        cases vw
        cases ru
        exact go rd (rpPy_nd e1) ok rfl
    · cases e2
  | lst ds =>
    simp only [reprD, Option.bind_eq_some_iff] at e
    obtain ⟨p, e1, e2⟩ := e
    split at e2
    · rename_i ok
      cases e2
      obtain ⟨a, vs, rfl, h1, h2⟩ := vw.list
      simp only [rpPy, Option.map_eq_some_iff] at e1
      obtain ⟨ps, e1, rfl⟩ := e1
      cases ru
      obtain ⟨its, q2, ⟨o, m, ho, hc, hx, hd⟩, _⟩ := I.list (SqL.of h1)
      obtain ⟨as, ra⟩ := reads_all I h2 e1 q2
      exact go (.list ho hc hd (by simpa using ra)) (by simpa only [PyData.hasDict] using rpPys_nd e1) ok rfl
    · cases e2
  | _ => cases e
end
section
variable {X : Cx} {C : Cal} {a : Expr} {ia : IE} {p2 pos : Pos}
theorem strOk_string (x : String) : PyData.strOk (Str.ofString x) = true := by
  unfold PyData.strOk
  rw [Array.all_eq_true_iff_forall_mem]
  intro c hc
  have e : (Str.ofString x).cps.toList = x.toList.map Char.toNat := by rw [Str.ofString_eq_toList]
  have := Array.mem_toList_iff.mpr hc
  rw [e] at this
  obtain ⟨ch, _, rfl⟩ := List.mem_map.mp this
  have q : ch.toNat < 1114112 := by
    have v : ch.toNat < 0xD800 ∨ (0xDFFF < ch.toNat ∧ ch.toNat < 0x110000) := ch.valid
    omega
  simpa using q
theorem reprD_ok {d : D} {y : Str} (e : reprD d = some y) : PyData.strOk y = true := by
  have go : ∀ p : PyData, (if rpOk p = true then some p.shown else none) = some y → PyData.strOk y = true := fun p e => by
    split at e
    · rename_i ok
      cases e
      simp only [rpOk, Bool.and_eq_true] at ok
      exact ok.2
    · cases e
  cases d with
  | non =>
    cases e
    exact strOk_string _
  | int i =>
    simp only [reprD] at e
    split at e
    · cases e
      exact strOk_string _
    · cases e
  | tup ds =>
    simp only [reprD, Option.bind_eq_some_iff] at e
    obtain ⟨p, _, e2⟩ := e
    exact go p e2
  | lst ds =>
    simp only [reprD, Option.bind_eq_some_iff] at e
    obtain ⟨p, _, e2⟩ := e
    exact go p e2
  | _ => cases e
theorem sim_repr (hg : X.A.guards = some []) (hu : X.A.units + 65 < cLine) (hn : notStar a = true) (B : BltOk X "repr" (.builtin "repr")) (ha : SimE X a (denE C ia)) :
    SimE X (.Call (.Name (Str.ofString "repr") p2) [a] [] pos) (denE C (.op1 "repr" ia)) := by
  intro F σ H s Q sr w
  simp only [denE] at w
  refine .of (pe_callB (cr_repr hg hu) B.gl B.mg B.bt (pa_cons pe_w pa_nil (star_cons hn)) B.nn B.nd (star_cons hn) rfl) ?_
  refine ha.run (.refl sr) w.bind fun x F1 v1 H1 w1 p1 q1 o1 => ?_
  obtain ⟨u, eu, w3⟩ := w1.bind.ofO
  obtain ⟨r, er, w4⟩ := w3.bind.ofO
  have er : (reprD u).map (fun y => Opd.val (.str y)) = some r := by simpa [op1D] using er
  simp only [Option.map_eq_some_iff] at er
  obtain ⟨y, e1, rfl⟩ := er
  exact ⟨F1, v1, u, y, rfl, p1.sr.view o1 eu, e1, (res_of p1 w4).val p1.sr (.str y (reprD_ok e1))⟩
end
end Cv
set_option maxRecDepth 100000
set_option maxHeartbeats 1000000
set_option autoImplicit false
/-! Engine, part H: extend, ranges, calls of own defs. -/
namespace Cv
open PySem PySem.Spec L2
variable [TabC]
section
variable {X : Cx} {e a b c : Expr} {pos p2 apos : Pos} {F F1 : ASet} {σ : St} {H H1 : Hp} {s s1 : DEnv} {Q : VK} {es : List Expr} {C : Cal} {ia ib ic : IE}
theorem sim_extend {i : Nat} {x : Str} (hN : X.N[i]? = some x) (hv : Vis X.env.scope x) (hd : (x == ("__debug__" : Str)) = false) (hcd : (x == ("__classdict__" : Str)) = false)
    (hline : (apos.endLine == pos.line) = true) (hn : notStar e = true) (he : SimE X e (denE C ia)) : SimE X (.Call (.Attribute (.Name x p2) (Str.ofString "extend") apos) [e] [] pos) (denE C (.extend i ia)) := by
  intro F σ H s Q sr w
  simp only [denE] at w
  obtain ⟨ds0, e0, w⟩ := w.bind.ofO
  obtain ⟨y, a, vs, q, mm, ha, h1, h2, h3⟩ := slot_own sr e0
  refine .of (pe_bm PySem.F.plainAttrs_list PySem.F.slot_list_extend PySem.F.type_list_extend mt_extend (pe_var hN hv hd hcd) (pa_cons pe_w pa_nil (star_cons hn)) rfl (few1 hn) hline (star_cons hn) rfl) ⟨.ref a, ha, tyL h1, ?_⟩
  refine he.run (.refl sr) w.bind fun r F1 v H1 w1 p1 q1 o1 => ?_
  obtain ⟨u, eu, w2⟩ := w1.bind.ofO
  obtain ⟨ds, e1, w3⟩ := w2.bind.ofO
  obtain ⟨y1, a1, vs1, g1, g2, g3, g4, g5, g6⟩ := slot_own p1.sr e1
  rw [ha] at g3
  cases g3
  cases u with
  | lst zs =>
    obtain ⟨b, us, rfl, k1, k2⟩ := (p1.sr.view o1 eu).list
    simp only at w3
    split at w3
    · rename_i hl
      have p := own_write p1.sr g1 g2 ha (g5.app k2) (by rw [List.length_append]; exact hl)
      exact ⟨a, b, vs1, us, rfl, rfl, g4, k1, by rw [g5.len, k2.len, ← lim_eq]; exact hl, w3 F1 _ _ (p1.trans p) .non⟩
    · exact w3.elim
  | _ => exact w3.elim
/-! ### list(range(..)), tuple(range(..)) -/
theorem rng_rel {K : PySem.W.Frag} {i j : Int} : RelL K F H (rgV i j) (rngD i j) := by
  unfold rgV rngD
  generalize (List.range (j - i).toNat) = l
  induction l with
  | nil => exact .nil
  | cons x r ih => exact .cons (.int _) ih
theorem rngOk_ok {i j : Int} (h : rngOk i j = true) : RgOk i j := by
  simp only [rngOk, Bool.and_eq_true, decide_eq_true_eq, lim] at h
  obtain ⟨⟨⟨⟨h1, h2⟩, h3⟩, h4⟩, h5⟩ := h
  have e : (2 : Nat) ^ 24 = 16777216 := by decide
  exact ⟨by omega, by omega, by omega, by omega, by rw [e]; simpa using h5⟩
theorem rng_len {i j : Int} (h : rngOk i j = true) : (rngD i j).length ≤ lim := by
  simp only [rngOk, Bool.and_eq_true, decide_eq_true_eq] at h
  simpa [rngD] using h.2
theorem items_rng1 {u v : D} {ds : List D} (e : itemsD .rng1 u v = some ds) : ∃ n, u = .int n ∧ rngOk 0 n = true ∧ ds = rngD 0 n := by
  cases u with
  | int n =>
    simp only [itemsD] at e
    split at e
    · rename_i h; cases e; exact ⟨n, rfl, h, rfl⟩
    · cases e
  | _ => cases e
theorem items_rng2 {u v : D} {ds : List D} (e : itemsD .rng2 u v = some ds) : ∃ m n, u = .int m ∧ v = .int n ∧ rngOk m n = true ∧ ds = rngD m n := by
  cases u with
  | int m =>
    cases v with
    | int n =>
      simp only [itemsD] at e
      split at e
      · rename_i h; cases e; exact ⟨m, n, rfl, rfl, h, rfl⟩
      · cases e
    | _ => cases e
  | _ => cases e
theorem sim_rng1 {tp : Bool} {p3 p4 : Pos} (hc : X.calm = true) (hn : notStar a = true) (B : BltOk X "range" (.type "range")) (B2 : BltOk X (if tp then "tuple" else "list") (.type (if tp then "tuple" else "list"))) (ha : SimE X a (denE C ia)) :
    SimE X (.Call (.Name (Str.ofString (if tp then "tuple" else "list")) p2) [.Call (.Name (Str.ofString "range") p3) [a] [] p4] [] pos) (denE C (.rngOf tp false ia ib)) := by
  intro F σ H s Q sr w
  simp only [denE, Bool.false_eq_true, if_false, R.bind_ok] at w
  have PR := prg_1 (p := p3) (pos := p4) B.gl B.mg (pe_w (X := X) (e := a)) (star_cons hn)
  cases tp with
  | true =>
    refine .of (pe_tupRg hc B2.gl B2.mg PR) ?_
    refine ha.run (.refl sr) w.bind fun x F1 v1 H1 w1 p1 q1 o1 => ?_
    obtain ⟨u, eu, w3⟩ := w1.bind.ofO
    obtain ⟨v, ev, w4⟩ := w3.bind.ofO
    obtain ⟨ds, ed, w5⟩ := w4.bind.ofO
    obtain ⟨n, rfl, hr, rfl⟩ := items_rng1 ed
    cases (p1.sr.view o1 eu).int_
    exact ⟨n, rfl, rngOk_ok hr, fun q nq => (res_of p1 w5).tup p1.sr rng_rel (rng_len hr) nq⟩
  | false =>
    refine .of (pe_listRg hc B2.gl B2.mg PR) ?_
    refine ha.run (.refl sr) w.bind fun x F1 v1 H1 w1 p1 q1 o1 => ?_
    obtain ⟨u, eu, w3⟩ := w1.bind.ofO
    obtain ⟨v, ev, w4⟩ := w3.bind.ofO
    obtain ⟨ds, ed, w5⟩ := w4.bind.ofO
    obtain ⟨n, rfl, hr, rfl⟩ := items_rng1 ed
    cases (p1.sr.view o1 eu).int_
    exact ⟨n, rfl, rngOk_ok hr, fun q nq => (res_of p1 w5).lst p1.sr rng_rel (rng_len hr) nq⟩
theorem sim_rng2 {tp : Bool} {p3 p4 : Pos} (hc : X.calm = true) (hn : notStar a = true) (hn2 : notStar b = true) (B : BltOk X "range" (.type "range")) (B2 : BltOk X (if tp then "tuple" else "list") (.type (if tp then "tuple" else "list"))) (ha : SimE X a (denE C ia)) (hb : SimE X b (denE C ib)) :
    SimE X (.Call (.Name (Str.ofString (if tp then "tuple" else "list")) p2) [.Call (.Name (Str.ofString "range") p3) [a, b] [] p4] [] pos) (denE C (.rngOf tp true ia ib)) := by
  intro F σ H s Q sr w
  simp only [denE, if_true] at w
  have PR := prg_2 (p := p3) (pos := p4) B.gl B.mg (pe_w (X := X) (e := a)) (pe_w (X := X) (e := b)) (star_cons hn) (star_cons hn2) (star_plain p4 (by simp [hn2]))
  cases tp with
  | true =>
    refine .of (pe_tupRg hc B2.gl B2.mg PR) ?_
    refine ha.run (.refl sr) w.bind fun x F1 v1 H1 w1 p1 q1 o1 => ?_
    refine hb.run p1 w1.bind fun y F2 v2 H2 w2 p2 q2 o2 => ?_
    obtain ⟨u, eu, w3⟩ := w2.bind.ofO
    obtain ⟨v, ev, w4⟩ := w3.bind.ofO
    obtain ⟨ds, ed, w5⟩ := w4.bind.ofO
    obtain ⟨m, n, rfl, rfl, hr, rfl⟩ := items_rng2 ed
    cases (p2.sr.view (o1.mono q2 p1.sr) eu).int_
    cases (p2.sr.view o2 ev).int_
    exact ⟨m, n, rfl, rfl, rngOk_ok hr, fun q nq => (res_of p2 w5).tup p2.sr rng_rel (rng_len hr) nq⟩
  | false =>
    refine .of (pe_listRg hc B2.gl B2.mg PR) ?_
    refine ha.run (.refl sr) w.bind fun x F1 v1 H1 w1 p1 q1 o1 => ?_
    refine hb.run p1 w1.bind fun y F2 v2 H2 w2 p2 q2 o2 => ?_
    obtain ⟨u, eu, w3⟩ := w2.bind.ofO
    obtain ⟨v, ev, w4⟩ := w3.bind.ofO
    obtain ⟨ds, ed, w5⟩ := w4.bind.ofO
    obtain ⟨m, n, rfl, rfl, hr, rfl⟩ := items_rng2 ed
    cases (p2.sr.view (o1.mono q2 p1.sr) eu).int_
    cases (p2.sr.view o2 ev).int_
    exact ⟨m, n, rfl, rfl, rngOk_ok hr, fun q nq => (res_of p2 w5).lst p2.sr rng_rel (rng_len hr) nq⟩
end
/-! ### calls -/
section
variable {K : PySem.W.Frag} {F F' : ASet} {H H' : Hp} {σ : St} {s : DEnv}
theorem SR.grow (r : SR K F σ H s) (sm : LamX.ExtN H H') (dm : ∀ b, H' b = none → H b = none) (tb : TbOk H') (sub : ∀ b, F b → F' b) (new : ∀ b, F' b → F b ∨ H b = none) (fdm : ∀ b, F' b → ∃ us, H' b = some (.lst us)) : EPost K F σ H s F' H' s := by
  have ext : Ext F (Own σ s) H F' (Own σ s) H' := ⟨fun b o e _ t => sm b o e t, dm, sub, fun b f => (new b f).imp id .inr, fun _ e => .inl e⟩
  refine ⟨ext, fun _ x e => ⟨x, e, id⟩, ⟨r.len, fun i x e => ?_, r.sep, fdm, tb⟩⟩
  obtain ⟨v, e1, e2⟩ := r.ats i x e
  refine ⟨v, e1, ?_⟩
  cases hz : S.muts x with
  | none =>
    cases x with
    | val d => exact r.rel ext e2
    | own _ => cases hz
    | io _ => cases hz
  | some fs =>
    obtain ⟨b, ws, rfl, g1, g2, g3, g4⟩ := e2.ownR hz
    refine OwnR.slR ⟨b, ws, rfl, sm _ _ g1 (fun _ => nofun), r.relL ext g2, fun f => ?_, g4⟩ hz
    rcases new b f with f | f
    · exact g3 f
    · rw [g1] at f; cases f
end
def RetR (K : PySem.W.Frag) (F' : ASet) (H H' : Hp) (v : V) : Opd → Prop
  | .val d => Rel K F' H' v d
  | .fresh ds => OwnR K F' H' v ds ∧ ∀ b, v = .ref b → H b = none
  | .slot _ => False
abbrev ArgO (vs : List V) (Ss : List S) : ASet := Own (vs.map some) (Ss.map some)
structure CPost (K : PySem.W.Frag) (F : ASet) (H : Hp) (vs : List V) (Ss : List S) (r : Opd × List D) (F' : ASet) (v : V) (H' : Hp) : Prop where
  ext : Ext F (ArgO vs Ss) H F' (ArgO vs Ss) H'
  fdm : ∀ b, F' b → ∃ us, H' b = some (.lst us)
  ret : RetR K F' H H' v r.1
  tb : TbOk H'
  io : ∀ ds, Ss[0]? = some (.io ds) → ∃ v0, vs[0]? = some v0 ∧ OwnR K F' H' v0 r.2
/-- what a def promises: it does what call tells -/
def spF (K : PySem.W.Frag) (mg : Str → Option Value) (call : List S → R (Opd × List D)) : Sp := fun vs H Q E => ∃ (F : ASet) (Ss : List S), SR K F (vs.map some) H (Ss.map some) ∧
  RP (call Ss) (fun r => ∀ F' v H', CPost K F H vs Ss r F' v H' → Q v H') (fun c => ∀ H', XP (ArgO vs Ss) H H' → ∀ C, mg (Str.ofString c) = some (.ref C) → E (.ref C) none H')
/-- the def f stands, and keeps its promise at level n -/
def FnSim (P : Program) (w : World) (K : PySem.W.Frag) (mg : Str → Option Value) (base : Heap) (n : Nat) (f : String) (call : List S → R (Opd × List D)) : Prop :=
  ∃ (a : Addr) (fd : FuncData) (ps : List Str), mg (Str.ofString f) = some (.ref a) ∧ PySem.W.keepIn K (.ref a) = true ∧ Binds K fd ps [] ∧ FnOk P w K mg base (L2N.CX P w) n a fd ps (spF K mg call)
section
variable {X : Cx} {e : Expr} {pos p2 : Pos} {F F1 : ASet} {σ : St} {H H1 : Hp} {s s1 : DEnv} {Q : VK} {es : List Expr} {C : Cal}
theorem pe_callS0 {CX : CXT} {k : Nat} {f : Addr} {fd : FuncData} {ps : List Str} {sp : Sp} {E : St → XK} {x : Str} {p : Pos} (F : FnOk X.prog X.w X.K X.mg X.base CX k f fd ps sp) (hr : Room k X.A) (hg : Gl X x) (hm : X.mg x = some (.ref f)) (hk : PySem.W.keepIn X.K (.ref f) = true) (hb : Binds X.K fd ps []) (hx : ∀ σ, PassesAt CX X σ (E σ))
    (hdb : (x == ("__debug__" : Str)) = false) : PE X (.Call (.Name x p) [] [] pos) (tCallS sp E tNil) := by
  refine ⟨fun pins s σ H Q I h => ?_⟩
  refine PySem.wpAny_Call_Name_kw (ld_glob I hg hm ?_ hdb)
  exact PySem.W.callWith_K0 I.kIn hk (run_fnS (us := []) F hr hb (hx σ) I .nil h)
theorem SimA.at_ {m : DEnv → R (List D × DEnv)} {r : List D × DEnv} {Q : List V → Hp → Prop} (h : SimA X es m) (sr : SR X.K F σ H s) (e : m s = .ok r) (k : ∀ F' vs H', EPost X.K F σ H s F' H' r.2 → RelL X.K F' H' vs r.1 → Q vs H') : WpA X es σ H Q :=
  h F σ H s Q sr (by rw [e]; exact k)
theorem takes0N : L2N.Takes X (fun _ _ _ _ => False) := fun _ _ x => by
  obtain ⟨_, _, _, _, _, _, _, _, _, _, _, _, _, _, _, _, z⟩ := x
  exact z.elim
/-- f(..) from what it is to promise at the arguments' values -/
theorem call_wp {n : Nat} {f : String} {call : List S → R (Opd × List D)} (Fs : FnSim X.prog X.w X.K X.mg X.base n f call) (hr : Room n X.A) (hg : Gl X (Str.ofString f)) (hdb : (Str.ofString f == ("__debug__" : Str)) = false) (hn : (e :: es).all notStar = true)
    (W : WX) (tk : L2N.Takes X W) (h : WpA X (e :: es) σ H fun vs H1 => spF X.K X.mg call vs H1 Q (WE W σ)) : WpE X (.Call (.Name (Str.ofString f) p2) (e :: es) [] pos) σ H Q := by
  obtain ⟨a, fd, ps, h1, h2, h3, h4⟩ := Fs
  simp only [List.all_cons, Bool.and_eq_true] at hn
  exact .of (pe_callS (E := WE W) h4 hr hg h1 h2 h3 (L2N.passAt tk) pa_w hdb (star_cons hn.1) (star_plain pos hn.2)) h
theorem call_wp0 {n : Nat} {f : String} {call : List S → R (Opd × List D)} (Fs : FnSim X.prog X.w X.K X.mg X.base n f call) (hr : Room n X.A) (hg : Gl X (Str.ofString f)) (hdb : (Str.ofString f == ("__debug__" : Str)) = false)
    (W : WX) (tk : L2N.Takes X W) (h : spF X.K X.mg call [] H Q (WE W σ)) : WpE X (.Call (.Name (Str.ofString f) p2) [] [] pos) σ H Q := by
  obtain ⟨a, fd, ps, h1, h2, h3, h4⟩ := Fs
  exact .of (pe_callS0 (E := WE W) h4 hr hg h1 h2 h3 (L2N.passAt tk) hdb) h
theorem vals_SR (sr : SR X.K F σ H s) {vs : List V} {ds : List D} (r : RelL X.K F H vs ds) : SR X.K F (vs.map some) H ((ds.map S.val).map some) := by
  refine ⟨by simp [r.len], fun i x e => ?_, fun i j x y _ _ b e m => ?_, sr.fdm, sr.tb⟩
  · simp only [List.getElem?_map, Option.map_eq_some_iff] at e
    obtain ⟨y, ⟨d, e1, rfl⟩, e2⟩ := e
    cases e2
    obtain ⟨v, e3, e4⟩ := r.get e1
    exact ⟨v, by simp [e3], e4⟩
  · simp only [List.getElem?_map, Option.map_eq_some_iff] at e
    obtain ⟨z, ⟨d, e1, rfl⟩, e2⟩ := e
    cases e2
    cases m
theorem vals_noO {vs : List V} {ds : List D} {b : Addr} : ¬ ArgO vs (ds.map S.val) b := fun ⟨i, x, es, e, m, _⟩ => by
  simp only [List.getElem?_map, Option.map_eq_some_iff] at e
  obtain ⟨z, ⟨d, e1, rfl⟩, e2⟩ := e
  cases e2
  cases m
theorem XP.vals {vs : List V} {ds : List D} {O : ASet} {H H' : Hp} (x : XP (ArgO vs (ds.map S.val)) H H') : XP O H H' := ⟨fun b o e _ t => x.fr b o e vals_noO t, x.dm, x.tb⟩
theorem ret_or {K : PySem.W.Frag} {F' : ASet} {H' : Hp} {v : V} {o : Opd} (sr : SR K F σ H s) (h : RetR K F' H H' v o) (no : ∀ b, Own σ s1 b → Own σ s b) : OR K F' σ H H' s1 v o := by
  cases o with
  | val d => exact h
  | fresh ds => exact ⟨h.1, fun b e => ⟨fun z => sr.noO (h.2 b e) (no b z), h.2 b e⟩⟩
  | slot i => exact h.elim
theorem sim_call {n : Nat} {f : String} {ies : List IE} (Fs : FnSim X.prog X.w X.K X.mg X.base n f (C.call f)) (hr : Room n X.A) (hg : Gl X (Str.ofString f)) (hdb : (Str.ofString f == ("__debug__" : Str)) = false) (hn : (e :: es).all notStar = true)
    (hA : SimA X (e :: es) (denEs C ies)) : SimE X (.Call (.Name (Str.ofString f) p2) (e :: es) [] pos) (denE C (.call f ies)) := by
  intro F σ H s Q sr w
  simp only [denE] at w
  split at w
  · exact w.elim
  · cases q : denEs C ies s with
    | bad => rw [q] at w; exact w.elim
    | exn c =>
      rw [q] at w
      obtain ⟨W, tk, hW⟩ := (show Acc X σ H (Own σ s) c from w)
      exact call_wp Fs hr hg hdb hn W tk (hA F σ H s _ sr (by rw [q]; exact w))
    | ok r =>
      rw [q] at w
      have w : RP ((C.call f (r.1.map .val)).bind fun q => R.ok (q.1, r.2)) _ _ := w
      cases g : C.call f (r.1.map .val) with
      | bad => rw [g] at w; exact w.elim
      | exn c =>
        rw [g] at w
        obtain ⟨W, tk, hW⟩ := (show Acc X σ H (Own σ s) c from w)
        refine call_wp Fs hr hg hdb hn W tk (hA.at_ sr q fun F1 vs H1 p1 rs => ⟨F1, r.1.map .val, vals_SR p1.sr rs, ?_⟩)
        rw [g]
        exact fun H' fr C' hC => hW H' ((XP.vals fr).early p1.ext) C' hC
      | ok z =>
        rw [g] at w
        refine call_wp Fs hr hg hdb hn _ takes0N (hA.at_ sr q fun F1 vs H1 p1 rs => ⟨F1, r.1.map .val, vals_SR p1.sr rs, ?_⟩)
        rw [g]
        intro F' v H' cp
        have p2 : EPost X.K F1 σ H1 r.2 F' H' r.2 := p1.sr.grow (fun b o e t => cp.ext.fr b o e vals_noO t) cp.ext.dm cp.tb cp.ext.sub (fun b f => (cp.ext.new b f).imp id fun z => z.elim (fun z => absurd z vals_noO) id) cp.fdm
        exact w F' v H' (p1.trans p2) (OR.early p1.ext.dm (ret_or p1.sr cp.ret fun _ z => z))
theorem pe_callLS {CX : CXT} {k i : Nat} {f : Addr} {fd : FuncData} {ps : List Str} {sp : Sp} {E : St → XK} {x : Str} {p : Pos} {t : TA} (F : FnOk X.prog X.w X.K X.mg X.base CX k f fd ps sp) (hr : Room k X.A) (hN : X.N[i]? = some x) (hv : Vis X.env.scope x) (hk : PySem.W.keepIn X.K (.ref f) = true) (hb : Binds X.K fd ps []) (hx : ∀ σ, PassesAt CX X σ (E σ)) (ha : PA X (e :: es) t)
    (hdb : (x == ("__debug__" : Str)) = false) (hcd : (x == ("__classdict__" : Str)) = false)
    (he : starEach (e :: es) X.env = (false, eval e X.env) :: starEach es X.env) (hpl : (backTo pos (starEach es X.env)).any (·.1) = false) : PE X (.Call (.Name x p) (e :: es) [] pos) (fun σ H Q => σ[i]? = some (some (.ref f)) ∧ tCallS sp E t σ H Q) := by
  refine ⟨fun pins s σ H Q I h => ?_⟩
  obtain ⟨hs, ht⟩ := h
  refine PySem.wpAny_Call_Name_kw (thn ((pe_var (pos := p) hN hv hdb hcd).run pins s σ H (fun v H1 => v = .ref f ∧ H1 = H) I ⟨.ref f, hs, rfl, rfl⟩) fun u s1 ⟨v, H1, I1, r1, q1⟩ => ?_)
  obtain ⟨rfl, rfl⟩ := q1
  cases r1
  refine PySem.W.callWith_K (h₀ := X.base) I.ok.mod.kin hk (thn (ha.run pos pins s1 σ _ _ I1 ht) fun us s2 ⟨vs, H2, I2, r, q⟩ => ⟨I2.kIn, ?_⟩) he hpl
  exact run_fnS F hr hb (hx σ) I2 r q
/-- x(..), x a local name that holds a def -/
theorem sim_callL {n i : Nat} {x : Str} {ies : List IE} (Fs : ∀ f, C.io f = false → FnSim X.prog X.w X.K X.mg X.base n f (C.call f) ∧ X.mg (Str.ofString f) = some (.ref (He.ga X.K (Str.ofString f)))) (hr : Room n X.A) (hN : X.N[i]? = some x) (hv : Vis X.env.scope x) (hdb : (x == ("__debug__" : Str)) = false) (hcd : (x == ("__classdict__" : Str)) = false) (hn : (e :: es).all notStar = true)
    (hA : SimA X (e :: es) (denEs C ies)) : SimE X (.Call (.Name x p2) (e :: es) [] pos) (denE C (.callL i ies)) := by
  intro F σ H s Q sr w
  simp only [denE] at w
  split at w
  · rename_i f hi
    split at w
    · exact w.elim
    · rename_i hio
      obtain ⟨v, hσ, hrel⟩ := sr.ats i _ hi
      cases (show Rel X.K F H v (.fn f) from hrel)
      obtain ⟨⟨a, fd, ps, h1, h2, h3, h4⟩, h5⟩ := Fs f (by simpa using hio)
      · have ea : a = He.ga X.K (Str.ofString f) := by
          rw [h1] at h5
          cases h5
          rfl
        subst ea
        simp only [List.all_cons, Bool.and_eq_true] at hn
        have wp : ∀ (W : WX), L2N.Takes X W → (WpA X (e :: es) σ H fun vs H1 => spF X.K X.mg (C.call f) vs H1 Q (WE W σ)) → WpE X (.Call (.Name x p2) (e :: es) [] pos) σ H Q := fun W tk h =>
          .of (pe_callLS (E := WE W) h4 hr hN hv h2 h3 (L2N.passAt tk) pa_w hdb hcd (star_cons hn.1) (star_plain pos hn.2)) ⟨hσ, h⟩
        cases q : denEs C ies s with
        | bad => rw [q] at w; exact w.elim
        | exn c =>
          rw [q] at w
          obtain ⟨W, tk, hW⟩ := (show Acc X σ H (Own σ s) c from w)
          exact wp W tk (hA F σ H s _ sr (by rw [q]; exact w))
        | ok r =>
          rw [q] at w
          have w : RP ((C.call f (r.1.map .val)).bind fun q => R.ok (q.1, r.2)) _ _ := w
          cases g : C.call f (r.1.map .val) with
          | bad => rw [g] at w; exact w.elim
          | exn c =>
            rw [g] at w
            obtain ⟨W, tk, hW⟩ := (show Acc X σ H (Own σ s) c from w)
            refine wp W tk (hA.at_ sr q fun F1 vs H1 p1 rs => ⟨F1, r.1.map .val, vals_SR p1.sr rs, ?_⟩)
            rw [g]
            exact fun H' fr C' hC => hW H' ((XP.vals fr).early p1.ext) C' hC
          | ok z =>
            rw [g] at w
            refine wp _ takes0N (hA.at_ sr q fun F1 vs H1 p1 rs => ⟨F1, r.1.map .val, vals_SR p1.sr rs, ?_⟩)
            rw [g]
            intro F' v H' cp
            have p2 : EPost X.K F1 σ H1 r.2 F' H' r.2 := p1.sr.grow (fun b o e t => cp.ext.fr b o e vals_noO t) cp.ext.dm cp.tb cp.ext.sub (fun b f => (cp.ext.new b f).imp id fun z => z.elim (fun z => absurd z vals_noO) id) cp.fdm
            exact w F' v H' (p1.trans p2) (OR.early p1.ext.dm (ret_or p1.sr cp.ret fun _ z => z))
  · exact w.elim
theorem sim_call0 {n : Nat} {f : String} (Fs : FnSim X.prog X.w X.K X.mg X.base n f (C.call f)) (hr : Room n X.A) (hg : Gl X (Str.ofString f)) (hdb : (Str.ofString f == ("__debug__" : Str)) = false) :
    SimE X (.Call (.Name (Str.ofString f) p2) [] [] pos) (denE C (.call f [])) := by
  intro F σ H s Q sr w
  simp only [denE, denEs] at w
  split at w
  · exact w.elim
  · have w : RP ((C.call f []).bind fun q => R.ok (q.1, s)) _ _ := w
    have sr0 : SR X.K F (([] : List V).map some) H (([] : List S).map some) := vals_SR (ds := []) sr .nil
    cases g : C.call f [] with
    | bad => rw [g] at w; exact w.elim
    | exn c =>
      rw [g] at w
      obtain ⟨W, tk, hW⟩ := (show Acc X σ H (Own σ s) c from w)
      refine call_wp0 Fs hr hg hdb W tk ⟨F, [], sr0, ?_⟩
      rw [g]
      exact fun H' fr C' hC => hW H' (XP.vals (ds := []) fr) C' hC
    | ok z =>
      rw [g] at w
      refine call_wp0 Fs hr hg hdb _ takes0N ⟨F, [], sr0, ?_⟩
      rw [g]
      intro F' v H' cp
      have p2 : EPost X.K F σ H s F' H' s := sr.grow (fun b o e t => cp.ext.fr b o e (vals_noO (ds := [])) t) cp.ext.dm cp.tb cp.ext.sub (fun b f => (cp.ext.new b f).imp id fun z => z.elim (fun z => absurd z (vals_noO (ds := []))) id) cp.fdm
      exact w F' v H' p2 (ret_or sr cp.ret fun _ z => z)
theorem sim_callIo {n : Nat} {f : String} {ies : List IE} {i : Nat} {x : Str} {p3 : Pos} (Fs : FnSim X.prog X.w X.K X.mg X.base n f (C.call f)) (hr : Room n X.A) (hg : Gl X (Str.ofString f)) (hdb : (Str.ofString f == ("__debug__" : Str)) = false) (hn : es.all notStar = true)
    (hN : X.N[i]? = some x) (hv : Vis X.env.scope x) (hd : (x == ("__debug__" : Str)) = false) (hcd : (x == ("__classdict__" : Str)) = false)
    (hA : SimA X es (denEs C ies)) : SimE X (.Call (.Name (Str.ofString f) p2) (.Name x p3 :: es) [] pos) (denE C (.callIo f i ies)) := by
  intro F σ H s Q sr w
  simp only [denE] at w
  have hn' : (Expr.Name x p3 :: es).all notStar = true := by simp only [List.all_cons, hn, Bool.and_true]; rfl
  split at w
  · obtain ⟨ds0, e0, w⟩ := w.bind.ofO
    obtain ⟨y, a, vs, q0, mm, ha, h1, h2, h3⟩ := slot_own sr e0
    have first : ∀ {Q' : List V → Hp → Prop}, WpA X es σ H (fun vs H1 => Q' (.ref a :: vs) H1) → WpA X (.Name x p3 :: es) σ H Q' := fun {Q'} h =>
      .of (pa_cons (pe_var hN hv hd hcd) pa_w rfl) ⟨.ref a, ha, h⟩
    have args : ∀ {F1 : ASet} {H1 : Hp} {s1 : DEnv} {vs : List V} {r1 : List D} {ds : List D}, SR X.K F1 σ H1 s1 → RelL X.K F1 H1 vs r1 → ownAt s1 i = some ds →
        SR X.K F1 ((V.ref a :: vs).map some) H1 ((S.io ds :: r1.map S.val).map some) := fun {F1 H1 s1 vs r1 ds} sr1 rs e1 => by
      obtain ⟨y1, a1, vs1, g1, g2, g3, g4, g5, g6⟩ := slot_own sr1 e1
      rw [ha] at g3
      cases g3
      have base := vals_SR sr1 rs
      refine ⟨by simp [rs.len], fun j z e => ?_, fun j k z z' fs gs b z1 z2 z3 z4 _ _ => ?_, sr1.fdm, sr1.tb⟩
      · cases j with
        | zero => cases e; exact ⟨.ref a, rfl, a, vs1, rfl, g4, g5, (sr1.own ⟨i, y1, ds, g1, g2, ha⟩).2, g6⟩
        | succ j => exact base.ats j z e
      · have zero : ∀ (j : Nat) (z : S) (fs : List D), ((S.io ds :: r1.map S.val).map some)[j]? = some (some z) → S.muts z = some fs → j = 0 := fun j z fs e1 e2 => by
          cases j with
          | zero => rfl
          | succ j =>
            have e1 : ((r1.map S.val).map some)[j]? = some (some z) := e1
            simp only [List.getElem?_map, Option.map_eq_some_iff] at e1
            obtain ⟨z', ⟨d, e3, rfl⟩, e4⟩ := e1
            cases e4
            cases e2
        rw [zero j z fs z1 z2, zero k z' gs z3 z4]
    have ao : ∀ {vs : List V} {r1 ds : List D} {b : Addr}, ArgO (.ref a :: vs) (S.io ds :: r1.map S.val) b → b = a := fun {vs r1 ds b} ⟨j, z, fs, e1, e2, e3⟩ => by
      cases j with
      | zero => cases e3; rfl
      | succ j =>
        have e1 : ((r1.map S.val).map some)[j]? = some (some z) := e1
        simp only [List.getElem?_map, Option.map_eq_some_iff] at e1
        obtain ⟨z', ⟨d, e3, rfl⟩, e4⟩ := e1
        cases e4
        cases e2
    cases q : denEs C ies s with
    | bad => rw [q] at w; exact w.elim
    | exn c =>
      rw [q] at w
      obtain ⟨W, tk, hW⟩ := (show Acc X σ H (Own σ s) c from w)
      exact call_wp Fs hr hg hdb hn' W tk (first (hA F σ H s _ sr (by rw [q]; exact w)))
    | ok r =>
      rw [q] at w
      obtain ⟨ds, e1, w⟩ := (show RP ((R.ofO (ownAt r.2 i)).bind _) _ _ from w).bind.ofO
      cases g : C.call f (.io ds :: r.1.map .val) with
      | bad => rw [g] at w; exact w.elim
      | exn c =>
        rw [g] at w
        obtain ⟨W, tk, hW⟩ := (show Acc X σ H (Own σ s) c from w)
        refine call_wp Fs hr hg hdb hn' W tk (first (hA.at_ sr q fun F1 vs H1 p1 rs => ⟨F1, .io ds :: r.1.map .val, args p1.sr rs e1, ?_⟩))
        rw [g]
        exact fun H' fr C' hC => hW H' ⟨fun b o e no t => fr.fr b o (p1.ext.fr b o e no t) (fun z => no (ao z ▸ ⟨i, y, ds0, q0, mm, ha⟩)) t, fun b z => p1.ext.dm b (fr.dm b z), fr.tb⟩ C' hC
      | ok z =>
        rw [g] at w
        refine call_wp Fs hr hg hdb hn' _ takes0N (first (hA.at_ sr q fun F1 vs H1 p1 rs => ⟨F1, .io ds :: r.1.map .val, args p1.sr rs e1, ?_⟩))
        rw [g]
        intro F' v H' cp
        obtain ⟨y1, a1, vs1, g1, g2, g3, g4, g5, g6⟩ := slot_own p1.sr e1
        rw [ha] at g3
        cases g3
        obtain ⟨v0, k1, k2⟩ := cp.io ds rfl
        cases k1
        have p2 : EPost X.K F1 σ H1 r.2 F' H' (ownPut r.2 i z.2) := own_step p1.sr g1 g2 ha (fun b o e nb t => cp.ext.fr b o e (fun z => nb (ao z)) t) cp.tb cp.ext.dm cp.ext.sub
          (fun b f => (cp.ext.new b f).imp id fun z => z.elim (fun z => by
            obtain ⟨a', _, e, _, _, n, _⟩ := k2
            cases e
            exact absurd f (ao z ▸ n)) id) cp.fdm k2
        obtain ⟨yy, ey, my⟩ := ownPut_at (es := z.2) g1 g2
        refine w F' v H' (p1.trans p2) (OR.early p1.ext.dm (ret_or p1.sr cp.ret fun b hb => ?_))
        rw [ey] at hb
        obtain ⟨j, x', fs, z1, z2, z3⟩ := hb
        by_cases hj : i = j
        · subst hj
          exact ⟨i, y1, ds, g1, g2, z3⟩
        · rw [List.getElem?_set_ne hj] at z1
          exact ⟨j, x', fs, z1, z2, z3⟩
  · exact w.elim
end
end Cv
set_option maxRecDepth 100000
set_option maxHeartbeats 1000000
set_option autoImplicit false
/-! Engine, part U: enumerate over a tuple. -/
namespace Cv
open PySem PySem.Spec L2 PyProof.Rows
open AutoSeq1 (wpAny_loadPart')
set_option maxHeartbeats 2000000 in
theorem meets_enumerate_newT (l : Addr) (items : Array Value) (n : Nat) (dct : Option Addr) (sl : Array (Option Value)) :
    Meets (Builtin.«enumerate.__new__» ⟨[.type "enumerate", .ref l], []⟩) (fun _ R s => s.heap.get? l = some { cls := .type "tuple", dict := dct, data := .seq items n, slots := sl } ∧
      R (.ok (.ret (.ref (s.heap.push { cls := .type "tuple_iterator", data := .fields #[.ref l, .int 0 0] }).objs.size)))
        { s with heap := (s.heap.push { cls := .type "tuple_iterator", data := .fields #[.ref l, .int 0 0] }).push { cls := .type "enumerate", data := .fields #[.none, .bool false, .ref s.heap.objs.size, rawInt 0, .none, .none] } }) :=
  .of_wp fun prog w A R s h => by
    obtain ⟨hp, g, d, tk, os⟩ := s; obtain ⟨hl, h⟩ := h
    have hsub := sub_enumerate
    have hL : Heap.IsTuple (Shared.heap ⟨hp, g, d, tk, os⟩) l items := ⟨_, hl, rfl, n, rfl⟩
    wp_walk using wpAny_loadPart' hl
    refine wpAny_stack_any fun st => wpAny_pure ?_
    split
    · rename_i c _ _ _ _ _
      cases (c == Value.type "enumerate")
      · wp_walk using wpAny_loadPart' hl, wpAny_pyIter_tuple hL
        exact ⟨_, rfl, h⟩
      · wp_walk using wpAny_loadPart' hl, wpAny_pyIter_tuple hL
        exact ⟨_, rfl, h⟩
    · wp_walk using wpAny_loadPart' hl, wpAny_pyIter_tuple hL
      exact ⟨_, rfl, h⟩
section
variable {prog : Program} {w : World} {A : Around} {E : Value → Shared → Prop} {s : Shared}
theorem call_enumerate_tuple {l : Addr} {items : Array Value} {Q : Value → Shared → Prop} (hL : s.heap.IsTuple l items)
    (h : ∀ h', IsEnum h' (s.heap.objs.size + 1) s.heap.objs.size 0 .none → h'.IsTupleIter s.heap.objs.size l 0 → h'.objs.size = s.heap.objs.size + 2 →
      (∀ b o, s.heap.get? b = some o → h'.get? b = some o) → Q (.ref (s.heap.objs.size + 1)) { s with heap := h' }) :
    wpAny (model prog w) A (call (.type "enumerate") [.ref l]) Q E s := by
  obtain ⟨⟨c, dct, dt, sl⟩, hl, hc, n, hd⟩ := hL
  replace hc : c = .type "tuple" := hc
  replace hd : dt = .seq items n := hd
  subst hc hd
  refine callType_new F.called_enumerate (by decide) (F.typeCall_enumerate_1 _) (F.newCall_enumerate_1 _) (fun obj => F.args_object_init_2 obj _) F.entry_enumerate_new
    (meets_enumerate_newT l items n dct sl) ⟨hl, ?_⟩
  have hz : (s.heap.push { cls := .type "tuple_iterator", data := .fields #[.ref l, .int 0 0] }).objs.size = s.heap.objs.size + 1 := Heap.size_push ..
  show _ ∧ _
  rw [hz]
  have he : IsEnum ((s.heap.push { cls := .type "tuple_iterator", data := .fields #[.ref l, .int 0 0] }).push
      { cls := .type "enumerate", data := .fields #[.none, .bool false, .ref s.heap.objs.size, rawInt 0, .none, .none] }) (s.heap.objs.size + 1) s.heap.objs.size 0 .none := by
    have := Heap.get?_push_size (s.heap.push { cls := .type "tuple_iterator", data := .fields #[.ref l, .int 0 0] })
      (o := { cls := .type "enumerate", data := .fields #[.none, .bool false, .ref s.heap.objs.size, rawInt 0, .none, .none] }) rfl
    rw [hz] at this; exact this
  refine ⟨⟨_, he, rfl⟩, h _ he ⟨_, Heap.get?_push_of_some _ (Heap.get?_push_size _ rfl), rfl, rfl⟩ (by rw [Heap.size_push, hz]) fun b o x => Heap.get?_push_of_some _ (Heap.get?_push_of_some _ x)⟩
theorem pyNext_enum_endT {e it a : Addr} {i : Int} {k : Nat} {items : Array Value} {old : Value} {Q : Option Value → Shared → Prop} (hh : A.handled = none) (he : IsEnum s.heap e it i old) (hit : s.heap.IsTupleIter it a k) (ht : s.heap.IsTuple a items) (hx : items[k]? = none)
    (hQ : ∀ h', Heap.ExtBut it s.heap h' → Q none { s with heap := h' }) : wpAny (model prog w) A (pyNext (.ref e)) Q E s := by
  have hT : s.TypeIs (.ref e) "enumerate" := ⟨_, he, rfl⟩
  unfold pyNext
  refine wpAny_bind (wpAny_attempt (wpAny_callSpecial?_slot (name := Str.ofString "__next__") hT F.slot_enumerate_next
    (wpAny_call_entry F.slot_enumerate_next hT F.entry_enumerate_next ?_ (F.args_enumerate_next_1 _))))
  show wpAny _ _ (field (.ref e) 2 >>= _) _ _ _
  refine wpAny_bind (wpAny_field he rfl (x := .ref it) rfl ?_)
  refine wpAny_bind (wpAny_nextOf_tuple_end (A := A.in1) hh hit ht hx fun h' x he' hx' => ?_)
  obtain ⟨o, ho, hc⟩ := hx'
  refine wpAny_bind (wpAny_isInstance (T := "StopIteration") (b := true) ⟨o, ho, hc⟩ isSubtype_stop ?_)
  exact wpAny_pure (hQ _ he')
end
/-- the tuple at a, each item in a new pair -/
def IteT (K : PySem.W.Frag) (a : Addr) : It :=
  ⟨fun i H => ∃ (xs : List V) (x : V), SqT K H a xs ∧ xs[i]? = some x, fun i H v H' => ∃ T x, v = .ref T ∧ H T = none ∧ H' = upd H T (.tup [.int (i : Nat), x]) ∧ ∀ xs, SqT K H a xs → xs[i]? = some x, fun i H => ∃ xs : List V, SqT K H a xs ∧ xs.length ≤ i⟩
theorem turn_enumT {P : Program} {w : World} {K : PySem.W.Frag} {elts : List Expr} {kk : Nat} {tpos : Pos} (a e it : Addr) :
    Turn P w K (.Tuple elts kk tpos) (IteT K a) [e, it] e (fun i h => (∃ old, IsEnum h e it ((i : Nat) : Int) old) ∧ h.IsTupleIter it a i ∧ e ≠ it ∧ a ≠ it ∧ a ≠ e) where
  mem := by simp
  obj := fun i h st b hb => by
    obtain ⟨⟨old, he⟩, ⟨o, ho, hc, hd⟩, _⟩ := st
    have e' : b = e ∨ b = it := by simpa using hb
    rcases e' with z | z
    · rw [z]; exact ⟨_, he, fun v q => nomatch q⟩
    · rw [z]; exact ⟨o, ho, fun v q => by rw [hd] at q; cases q⟩
  keep := fun i h h' st k => let ⟨⟨old, he⟩, hi, hne⟩ := st; ⟨⟨old, k e (by simp) _ he⟩, hi.at fun o q => k it (by simp) o q, hne⟩
  item := by
    intro X hP hw hK hc i pins s σ H E I hf st hg
    subst hP hw hK
    obtain ⟨⟨old, he⟩, hit, hne, hai, hae⟩ := st
    obtain ⟨xs, x, hq, hx⟩ := hg
    obtain ⟨its, rv, p, hz⟩ := I.tuple hq
    obtain ⟨u, hu, ru⟩ := rv.get hx
    have hel : e < s.heap.objs.size := Heap.lt_size he
    have hil : it < s.heap.objs.size := by obtain ⟨_, q, _⟩ := hit; exact Heap.lt_size q
    have hlt : i < its.toArray.size := by
      have := (List.getElem?_eq_some_iff.mp hu).1
      simpa using this
    refine wpAny_pyNext_enum_itemD (Draws.tuple (A := X.A.in1) (I.ok.hd hc) it a hai its.toArray) he ⟨hit, p⟩ hlt hne (by simp; exact ⟨hne, fun z => hae z.symm⟩) fun y h' tk hy ho hst hT hsz hk => ?_
    have hyu : y = u := by
      simp only [List.getElem?_toArray] at hy
      rw [hu] at hy
      exact (Option.some.inj hy).symm
    subst hyu
    refine ⟨_, rfl, wpAny_letOwnedTupleGo_enum (s := { s with heap := h', toks := tk + 1 }) ho fun h'' he' sb => ?_⟩
    have hT2 : h''.get? s.heap.objs.size = some { cls := .type "tuple", data := .seq #[.int i tk, y] } := (sb.2 _ (Nat.ne_of_gt hel)).trans hT
    have new : ObjOk X.prog X.w (upd H s.heap.objs.size (.tup [.int (i : Nat), x])) h'' s.heap.objs.size (.tup [.int (i : Nat), x]) :=
      ⟨by show 2 ≤ sizeLine; decide, [.int i tk, y], .cons ⟨_, rfl⟩ (.cons ru .nil), ⟨_, hT2, rfl, _, rfl⟩⟩
    have I1 : Inv X pins σ (upd H s.heap.objs.size (.tup [.int (i : Nat), x])) { s with heap := h'', toks := tk + 1 } :=
      I.turnedNew (ch := [e, it]) (fun b ob hb q => (sb.2 b (fun z => hb (by simp [z]))).trans (hk b ob (fun z => hb (by simp [z])) (fun z => hb (by simp [z])) q)) hf (Nat.le_refl _) new
    refine ⟨.ref s.heap.objs.size, _, I1, rfl, ⟨_, x, rfl, I.hok.fresh (Nat.le_refl _), rfl, fun ys hy => by rw [I.tuple_inj hy hq]; exact hx⟩, ⟨⟨y, ?_⟩, hst.1.at fun o q => (sb.2 it (Ne.symm hne)).trans q, hne, hai, hae⟩, fun b hb => ?_⟩
    · have e1 : ((i + 1 : Nat) : Int) = (i : Int) + 1 := by omega
      rw [e1]; exact he'
    · have hb' : b < s.heap.objs.size := by
        have e' : b = e ∨ b = it := by simpa using hb
        rcases e' with z | z
        · rw [z]; exact hel
        · rw [z]; exact hil
      rw [upd_ne (Nat.ne_of_lt hb')]
      exact (hf b hb).1
  done := by
    intro X hP hw hK hc i pins s σ H E I hf st hg
    subst hP hw hK
    obtain ⟨⟨old, he⟩, hit, hne, hai, hae⟩ := st
    obtain ⟨xs, hq, hx⟩ := hg
    obtain ⟨its, rv, p, hz⟩ := I.tuple hq
    obtain ⟨f0, f1, f2, f3, f4, f5⟩ := hf it (by simp)
    have hl := rv.length
    exact pyNext_enum_endT (I.ok.hd hc) he hit p (by simp; omega) fun h' eb => ⟨rfl, I.turned (t' := s.toks) (fun b o hb q => eb b o hb q) f0 f1 f3 f4 f5⟩
  self := fun A i s Q E st h => let ⟨⟨_, he⟩, _⟩ := st; wpAny_pyIter_enum he h
def iEnumA (K : PySem.W.Frag) (ta : TA) : TI := fun σ H R => ta σ H fun vs H1 => ∃ a, vs = [.ref a] ∧ ((∃ xs, SqL K H1 a xs ∧ R (Ite K a) H1) ∨ ∃ xs, SqT K H1 a xs ∧ R (IteT K a) H1)
theorem pi_enumA {X : Cx} {e : Expr} {ta : TA} {p pos tpos : Pos} {elts : List Expr} {kk : Nat} (hg : Gl X "enumerate") (hm : X.mg "enumerate" = none) (ha : PA X [e] ta) (hs : starEach [e] X.env = [(false, eval e X.env)] := by rfl) :
    PI X (.Tuple elts kk tpos) (.Call (.Name "enumerate" p) [e] [] pos) (iEnumA X.K ta) := by
  refine ⟨fun pins s σ H R I h => ?_⟩
  refine Call_ (ld_blt I hg hm boot_enumerate (PyProof.Rows.callWith_type1 (thn (ha.run pos pins s σ H _ I h) fun us s1 ⟨vs, H1, I1, r1, q1⟩ => ?_) hs rfl))
  obtain ⟨a, ex, q1⟩ := q1
  subst ex
  cases r1 with
  | cons r rr =>
    cases rr
    cases r
    rcases q1 with ⟨xs, hq, q⟩ | ⟨xs, hq, q⟩
    · obtain ⟨its, rv, p', hz⟩ := I1.list hq
      refine call_enumerate_list p'.isList fun h' he hit hsz hk => wpAny_pyIter_enum he ?_
      have I2 : Inv X pins σ H1 { s1 with heap := h' } := I1.kept (t' := s1.toks) hk
      refine ⟨s1.heap.objs.size + 1, [s1.heap.objs.size + 1, s1.heap.objs.size], _, _, H1, rfl, I2, turn_enum a (s1.heap.objs.size + 1) s1.heap.objs.size, ⟨⟨.none, he⟩, hit, Nat.succ_ne_self _⟩, fun b hb => ?_, q⟩
      have e' : b = s1.heap.objs.size + 1 ∨ b = s1.heap.objs.size := by simpa using hb
      have hle : s1.heap.objs.size ≤ b := by
        rcases e' with z | z
        · rw [z]; exact Nat.le_add_right _ _
        · rw [z]; exact Nat.le_refl _
      exact I1.fpOk hle (I1.hok.fresh hle)
    · obtain ⟨its, rv, p', hz⟩ := I1.tuple hq
      have hal : a < s1.heap.objs.size := by obtain ⟨_, q, _⟩ := id p'; exact Heap.lt_size q
      refine call_enumerate_tuple p' fun h' he hit hsz hk => wpAny_pyIter_enum he ?_
      have I2 : Inv X pins σ H1 { s1 with heap := h' } := I1.kept (t' := s1.toks) hk
      refine ⟨s1.heap.objs.size + 1, [s1.heap.objs.size + 1, s1.heap.objs.size], _, _, H1, rfl, I2, turn_enumT a (s1.heap.objs.size + 1) s1.heap.objs.size, ⟨⟨.none, he⟩, hit, Nat.succ_ne_self _, Nat.ne_of_lt hal, Nat.ne_of_lt (Nat.lt_succ_of_lt hal)⟩, fun b hb => ?_, q⟩
      have e' : b = s1.heap.objs.size + 1 ∨ b = s1.heap.objs.size := by simpa using hb
      have hle : s1.heap.objs.size ≤ b := by
        rcases e' with z | z
        · rw [z]; exact Nat.le_add_right _ _
        · rw [z]; exact Nat.le_refl _
      exact I1.fpOk hle (I1.hok.fresh hle)
theorem walk_enumT {K : PySem.W.Frag} {a : Addr} {xs : List V} : Walk (IteT K a) xs.length (fun H => SqT K H a xs) (YPair (fun i => some (.int (i : Nat))) (fun i => xs[i]?)) := by
  refine ⟨fun i _ hi q => ⟨xs, xs[i], q, by simp [hi]⟩, fun _ q => ⟨xs, q, Nat.le_refl _⟩, fun i H v H' _ q y => ?_⟩
  obtain ⟨T, x, h1, h2, h3, h4⟩ := y
  exact ⟨T, .int (i : Nat), x, h1, h2, h3, rfl, h4 xs q⟩
end Cv
set_option maxRecDepth 100000
set_option maxHeartbeats 1000000
set_option autoImplicit false
/-! Engine, part I: what is walked. -/
namespace Cv
open PySem PySem.Spec L2
variable [TabC]
/-- J gives the items ds, while frozen lists and tuples stay -/
def ItD (K : PySem.W.Frag) (F : ASet) (H : Hp) (J : It) (ds : List D) : Prop := ∀ (F' : ASet) (H' : Hp), (∀ a, F a → F' a) → Keep F H H' →
  (∀ (i : Nat) (d : D), ds[i]? = some d → J.go i H' ∧ ∀ x H'', J.yld i H' x H'' → Same H' H'' ∧ Rel K F' H'' x d) ∧ J.stop ds.length H'
section
variable {K : PySem.W.Frag} {F : ASet} {H : Hp} {a b : Addr} {vs ws : List V} {ds es : List D}
theorem it_walk {J : It} {n : Nat} {G : Hp → Prop} {Y : Nat → Hp → V → Hp → Prop} (w : Walk J n G Y) (hn : ds.length = n) (hG : ∀ (F' : ASet) (H' : Hp), (∀ a, F a → F' a) → Keep F H H' → G H')
    (hY : ∀ (F' : ASet) (H' H'' : Hp) (i : Nat) (d : D) (x : V), (∀ a, F a → F' a) → Keep F H H' → ds[i]? = some d → Y i H' x H'' → Same H' H'' ∧ Rel K F' H'' x d) : ItD K F H J ds := fun F' H' f k =>
  ⟨fun i d e => by
    have hi : i < n := by rw [← hn]; exact (List.getElem?_eq_some_iff.mp e).1
    exact ⟨w.goes i H' hi (hG F' H' f k), fun x H'' y => hY F' H' H'' i d x f k e (w.yields i H' x H'' hi (hG F' H' f k) y)⟩, by rw [hn]; exact w.stops H' (hG F' H' f k)⟩
theorem it_at {F' : ASet} {H' H'' : Hp} {i : Nat} {d : D} {x : V} (r : RelL K F H vs ds) (f : ∀ a, F a → F' a) (k : Keep F H H') (e : ds[i]? = some d) (y : YAt vs i H' x H'') : Same H' H'' ∧ Rel K F' H'' x d := by
  obtain ⟨rfl, y⟩ := y
  obtain ⟨v, e1, e2⟩ := r.get e
  rw [e1] at y
  cases y
  exact ⟨Same.refl _, e2.mono k f⟩
theorem it_list (f : F a) (h : H a = some (.lst vs)) (r : RelL K F H vs ds) : ItD K F H (Itl K a) ds :=
  it_walk walk_list r.len.symm (fun F' H' _ k => SqL.of (k a _ h (.inl f) (fun _ => nofun))) fun F' H' H'' i d x f' k e y => it_at r f' k e y
theorem it_tup (h : SqT K H a vs) (r : RelL K F H vs ds) : ItD K F H (Itt K a) ds :=
  it_walk walk_tup r.len.symm (fun F' H' _ k => k.tup h) fun F' H' H'' i d x f' k e y => it_at r f' k e y
theorem it_range {lo hi : Int} : ItD K F H (Itr lo (hi - lo).toNat) (rngD lo hi) := by
  refine it_walk walk_range (by simp [rngD]) (fun _ _ _ _ => trivial) fun F' H' H'' i d x _ _ e y => ?_
  obtain ⟨rfl, rfl⟩ := y
  refine ⟨Same.refl _, ?_⟩
  simp only [rngD, List.getElem?_map, Option.map_eq_some_iff] at e
  obtain ⟨j, e1, rfl⟩ := e
  obtain ⟨h1, h2⟩ := List.getElem?_eq_some_iff.mp e1
  simp at h2
  subst h2
  exact .int _
theorem rev_get {α : Type} {l : List α} {i : Nat} {d : α} (e : l.reverse[i]? = some d) : l[l.length - 1 - i]? = some d := by
  have hi : i < l.length := by have := (List.getElem?_eq_some_iff.mp e).1; simpa using this
  rw [List.getElem?_reverse hi] at e
  exact e
theorem it_rev (f : F a) (h : H a = some (.lst vs)) (r : RelL K F H vs ds) : ItD K F H (Itv K a vs.length) ds.reverse := by
  refine it_walk walk_rev (by rw [List.length_reverse, r.len]) (fun F' H' _ k => SqL.of (k a _ h (.inl f) (fun _ => nofun))) fun F' H' H'' i d x f' k e y => ?_
  obtain ⟨rfl, y⟩ := y
  have e := rev_get e
  rw [← r.len] at e
  obtain ⟨v, e1, e2⟩ := r.get e
  rw [e1] at y
  cases y
  exact ⟨Same.refl _, e2.mono k f'⟩
theorem walk_revT : Walk (RT.ItvT K a vs.length) vs.length (fun H => SqT K H a vs) (fun i H x H' => H' = H ∧ vs[vs.length - 1 - i]? = some x) :=
  ⟨fun i _ hi q => ⟨hi, vs, vs[vs.length - 1 - i]'(by omega), q, by simp [show vs.length - 1 - i < vs.length by omega]⟩, fun _ _ => Nat.le_refl _, fun _ _ _ _ _ q y => ⟨y.1, y.2 vs q⟩⟩
theorem it_revT (h : SqT K H a vs) (r : RelL K F H vs ds) : ItD K F H (RT.ItvT K a vs.length) ds.reverse := by
  refine it_walk walk_revT (by rw [List.length_reverse, r.len]) (fun F' H' _ k => k.tup h) fun F' H' H'' i d x f' k e y => ?_
  obtain ⟨rfl, y⟩ := y
  have e := rev_get e
  rw [← r.len] at e
  obtain ⟨v, e1, e2⟩ := r.get e
  rw [e1] at y
  cases y
  exact ⟨Same.refl _, e2.mono k f'⟩
theorem enumD_get : ∀ {ds : List D} {j i : Nat} {d : D}, (enumD j ds)[i]? = some d → ∃ z, ds[i]? = some z ∧ d = .tup [.int ((j + i : Nat) : Int), z]
  | [], _, _, _, e => by simp [enumD] at e
  | z :: ds, j, 0, d, e => by simp [enumD] at e; exact ⟨z, rfl, e.symm⟩
  | z :: ds, j, i + 1, d, e => by
    obtain ⟨y, e1, e2⟩ := enumD_get (ds := ds) (j := j + 1) (i := i) (by simpa [enumD] using e)
    exact ⟨y, by simpa using e1, by rw [e2]; congr 3; omega⟩
theorem enumD_len : ∀ (ds : List D) (j : Nat), (enumD j ds).length = ds.length
  | [], _ => rfl
  | _ :: ds, j => congrArg (· + 1) (enumD_len ds (j + 1))
theorem pair_rel {F' : ASet} {H' H'' : Hp} {v x y : V} {d e : D} {T : Addr} (n : H' T = none) (eH : H'' = upd H' T (.tup [x, y])) (hv : v = .ref T) (rx : Rel K F' H' x d) (ry : Rel K F' H' y e) : Same H' H'' ∧ Rel K F' H'' v (.tup [d, e]) := by
  subst eH hv
  have sm : Same H' (upd H' T (.tup [x, y])) := same_obj n
  exact ⟨sm, .tup (SqT.of upd_same) (.cons (rx.mono (same_keep sm) fun _ z => z) (.cons (ry.mono (same_keep sm) fun _ z => z) .nil)) (by show 2 ≤ 16777216; decide)⟩
theorem it_enum (f : F a) (h : H a = some (.lst vs)) (r : RelL K F H vs ds) : ItD K F H (Ite K a) (enumD 0 ds) := by
  refine it_walk walk_enum (by rw [enumD_len, r.len]) (fun F' H' _ k => SqL.of (k a _ h (.inl f) (fun _ => nofun))) fun F' H' H'' i d x f' k e y => ?_
  obtain ⟨T, x1, x2, h1, h2, h3, h4, h5⟩ := y
  obtain ⟨z, e1, rfl⟩ := enumD_get e
  obtain ⟨v, e3, e4⟩ := r.get e1
  have h5 : vs[i]? = some x2 := h5
  rw [e3] at h5
  cases h4
  cases h5
  rw [Nat.zero_add]
  exact pair_rel h2 h3 h1 (.int _) (e4.mono k f')
theorem it_enumT (h : SqT K H a vs) (r : RelL K F H vs ds) : ItD K F H (IteT K a) (enumD 0 ds) := by
  refine it_walk walk_enumT (by rw [enumD_len, r.len]) (fun F' H' _ k => k.tup h) fun F' H' H'' i d x f' k e y => ?_
  obtain ⟨T, x1, x2, h1, h2, h3, h4, h5⟩ := y
  obtain ⟨z, e1, rfl⟩ := enumD_get e
  obtain ⟨v, e3, e4⟩ := r.get e1
  have h5 : vs[i]? = some x2 := h5
  rw [e3] at h5
  cases h4
  cases h5
  rw [Nat.zero_add]
  exact pair_rel h2 h3 h1 (.int _) (e4.mono k f')
theorem zipD_get : ∀ {xs ys : List D} {i : Nat} {d : D}, (zipD xs ys)[i]? = some d → ∃ x y, xs[i]? = some x ∧ ys[i]? = some y ∧ d = .tup [x, y]
  | [], _, _, _, e => by simp [zipD] at e
  | _ :: _, [], _, _, e => by simp [zipD] at e
  | x :: xs, y :: ys, 0, d, e => by simp [zipD] at e; exact ⟨x, y, rfl, rfl, e.symm⟩
  | x :: xs, y :: ys, i + 1, d, e => by
    obtain ⟨a, b, e1, e2, e3⟩ := zipD_get (xs := xs) (ys := ys) (i := i) (by simpa [zipD] using e)
    exact ⟨a, b, by simpa using e1, by simpa using e2, e3⟩
theorem zipD_len : ∀ (xs ys : List D), (zipD xs ys).length = min xs.length ys.length
  | [], _ => by simp [zipD]
  | _ :: _, [] => by simp [zipD]
  | x :: xs, y :: ys => by simp only [zipD, List.length_cons, zipD_len xs ys]; omega
theorem it_zip (f : F a) (h : H a = some (.lst vs)) (r : RelL K F H vs ds) (f2 : F b) (h2 : H b = some (.lst ws)) (r2 : RelL K F H ws es) : ItD K F H (Itz K a b) (zipD ds es) := by
  refine it_walk (walk_zip (xs := vs) (ys := ws) rfl) (by rw [zipD_len, r.len, r2.len]) (fun F' H' _ k => ⟨SqL.of (k a _ h (.inl f) (fun _ => nofun)), SqL.of (k b _ h2 (.inl f2) (fun _ => nofun))⟩) fun F' H' H'' i d x f' k e y => ?_
  obtain ⟨T, x1, x2, h1, h2, h3, h4, h5⟩ := y
  obtain ⟨z1, z2, e1, e2, rfl⟩ := zipD_get e
  obtain ⟨v, e3, e4⟩ := r.get e1
  obtain ⟨v2, e5, e6⟩ := r2.get e2
  have h4 : vs[i]? = some x1 := h4
  have h5 : ws[i]? = some x2 := h5
  rw [e3] at h4
  rw [e5] at h5
  cases h4
  cases h5
  exact pair_rel h2 h3 h1 (e4.mono k f') (e6.mono k f')
end
def WpI (X : Cx) (tg iter : Expr) : TI := fun σ H R => ∀ (pins : List (Addr × Obj)) (s : Shared), Inv X pins σ H s → wpAny (model X.prog X.w) X.A (eval iter X.env) (fun v s1 => wpAny (model X.prog X.w) X.A (pyIter v) (PIE X pins σ tg R) X.xe s1) X.xe s
def SimI (X : Cx) (tg iter : Expr) (m : DEnv → R (List D × DEnv)) : Prop := ∀ (F : ASet) (σ : St) (H : Hp) (s : DEnv) (Q : It → Hp → Prop), SR X.K F σ H s →
  RP (m s) (fun r => ∀ F' J H', EPost X.K F σ H s F' H' r.2 → ItD X.K F' H' J r.1 → r.1.length ≤ lim → Q J H') (Acc X σ H (Own σ s)) → WpI X tg iter σ H Q
section
variable {X : Cx} {tg e a b : Expr} {pos p2 tpos : Pos} {F F1 : ASet} {σ : St} {H H1 : Hp} {s s1 : DEnv} {C : Cal} {ia ib : IE} {m1 m2 : DEnv → R (Opd × DEnv)} {elts : List Expr} {kk : Nat}
theorem pi_w : PI X tg e (WpI X tg e) := ⟨fun pins s σ H Q I h => h pins s I⟩
theorem WpI.of {t : TI} {Q : It → Hp → Prop} (h : PI X tg e t) (q : t σ H Q) : WpI X tg e σ H Q := fun pins s I => h.run pins s σ H Q I q
theorem SimE.at_ {m : DEnv → R (Opd × DEnv)} {r : Opd × DEnv} {Q : VK} (h : SimE X e m) (sr : SR X.K F σ H s) (q : m s = .ok r) (k : ∀ F' v H', EPost X.K F σ H s F' H' r.2 → OR X.K F' σ H H' r.2 v r.1 → Q v H') : WpE X e σ H Q :=
  h F σ H s Q sr (by rw [q]; exact k)
theorem simI_seq (he : SimE X e m1) : SimI X tg e (itR .seq m1 m2) := by
  intro F σ H s Q sr w
  simp only [itR] at w
  cases q : m1 s with
  | bad => rw [q] at w; exact w.elim
  | exn c => rw [q] at w; exact .of (pi_list pe_w) (he F σ H s _ sr (by rw [q]; exact w))
  | ok x =>
    rw [q] at w
    obtain ⟨⟨d, s2⟩, eu, w3⟩ := (show RP ((R.ofO (esc x.2 x.1)).bind _) _ _ from w).bind.ofO
    obtain ⟨ds, ed, w4⟩ := w3.bind.ofO
    cases d with
    | lst es =>
      cases ed
      refine .of (pi_list pe_w) (he.at_ sr q fun F1 v H1 p1 o1 => ?_)
      obtain ⟨F2, p2, r2⟩ := esc_ok p1 o1 eu
      cases r2 with
      | lst f h r l => exact ⟨_, rfl, ⟨_, SqL.of h⟩, w4 F2 _ H1 p2 (it_list f h r) l⟩
    | tup es =>
      cases ed
      refine .of (pi_tup pe_w) (he.at_ sr q fun F1 v H1 p1 o1 => ?_)
      obtain ⟨F2, p2, r2⟩ := esc_ok p1 o1 eu
      cases r2 with
      | tup h r l => exact ⟨_, rfl, ⟨_, h⟩, w4 F2 _ H1 p2 (it_tup h r) l⟩
    | _ => cases ed
theorem rng_bd {i j : Int} (h : rngOk i j = true) : -(2 ^ 62) ≤ i ∧ i < 2 ^ 62 ∧ -(2 ^ 62) ≤ j ∧ j < 2 ^ 62 := by
  obtain ⟨h1, h2, h3, h4, _⟩ := rngOk_ok h
  exact ⟨h1, h2, h3, h4⟩
theorem simI_rng1 (hn : notStar e = true) (B : BltOk X "range" (.type "range")) (he : SimE X e m1) : SimI X tg (.Call (.Name (Str.ofString "range") p2) [e] [] pos) (itR .rng1 m1 m2) := by
  intro F σ H s Q sr w
  simp only [itR] at w
  refine .of (pi_range1 B.gl B.mg (pa_cons pe_w pa_nil (star_cons hn)) (star_cons hn)) ?_
  refine he.run (.refl sr) w.bind fun x F1 v H1 w1 p1 q1 o1 => ?_
  obtain ⟨⟨d, s2⟩, eu, w3⟩ := w1.bind.ofO
  obtain ⟨ds, ed, w4⟩ := w3.bind.ofO
  obtain ⟨n, rfl, hr, rfl⟩ := items_rng1 ed
  obtain ⟨F2, p2, r2⟩ := esc_ok p1 o1 eu
  cases r2
  obtain ⟨_, _, h3, h4⟩ := rng_bd hr
  refine ⟨n, rfl, h3, h4, ?_⟩
  have := w4 F2 (Itr 0 (n - 0).toNat) H1 p2 it_range (rng_len hr)
  simpa using this
theorem simI_rng2 (hn : notStar a = true) (hn2 : notStar b = true) (B : BltOk X "range" (.type "range")) (ha : SimE X a m1) (hb : SimE X b m2) : SimI X tg (.Call (.Name (Str.ofString "range") p2) [a, b] [] pos) (itR .rng2 m1 m2) := by
  intro F σ H s Q sr w
  simp only [itR] at w
  have hs : starEach [a, b] X.env = [(false, eval a X.env), (false, eval b X.env)] := by rw [star_cons hn, star_cons hn2]; rfl
  refine .of (pi_range2 B.gl B.mg (pa_cons pe_w (pa_cons pe_w pa_nil (star_cons hn2)) (star_cons hn)) hs (star_cons hn2)) ?_
  refine ha.run (.refl sr) w.bind fun x F1 v1 H1 w1 p1 q1 o1 => ?_
  refine hb.run p1 w1.bind fun y F2 v2 H2 w2 p2 q2 o2 => ?_
  obtain ⟨u, eu, w3⟩ := w2.bind.ofO
  obtain ⟨v, ev, w4⟩ := w3.bind.ofO
  obtain ⟨ds, ed, w5⟩ := w4.bind.ofO
  obtain ⟨m, n, rfl, rfl, hr, rfl⟩ := items_rng2 ed
  cases (p2.sr.view (o1.mono q2 p1.sr) eu).int_
  cases (p2.sr.view o2 ev).int_
  exact ⟨m, n, rfl, rng_bd hr, w5 F2 _ H2 p2 it_range (rng_len hr)⟩
theorem simI_enum (hn : notStar e = true) (B : BltOk X "enumerate" (.type "enumerate")) (he : SimE X e m1) : SimI X (.Tuple elts kk tpos) (.Call (.Name (Str.ofString "enumerate") p2) [e] [] pos) (itR .enum m1 m2) := by
  intro F σ H s Q sr w
  simp only [itR] at w
  refine .of (pi_enumA B.gl B.mg (pa_cons pe_w pa_nil (star_cons hn)) (star_cons hn)) ?_
  refine he.run (.refl sr) w.bind fun x F1 v H1 w1 p1 q1 o1 => ?_
  obtain ⟨⟨d, s2⟩, eu, w3⟩ := w1.bind.ofO
  obtain ⟨ds, ed, w4⟩ := w3.bind.ofO
  obtain ⟨F2, p2, r2⟩ := esc_ok p1 o1 eu
  cases d with
  | lst es =>
    cases ed
    cases r2 with
    | lst f h r l => exact ⟨_, rfl, .inl ⟨_, SqL.of h, w4 F2 _ H1 p2 (it_enum f h r) (by rw [enumD_len]; exact l)⟩⟩
  | tup es =>
    cases ed
    cases r2 with
    | tup h r l => exact ⟨_, rfl, .inr ⟨_, h, w4 F2 _ H1 p2 (it_enumT h r) (by rw [enumD_len]; exact l)⟩⟩
  | _ => cases ed
theorem simI_rev (hn : notStar e = true) (B : BltOk X "reversed" (.type "reversed")) (he : SimE X e m1) : SimI X tg (.Call (.Name (Str.ofString "reversed") p2) [e] [] pos) (itR .rev m1 m2) := by
  intro F σ H s Q sr w
  simp only [itR] at w
  refine .of (RT.pi_revA B.gl B.mg pe_w (star_cons hn)) ?_
  refine he.run (.refl sr) w.bind fun x F1 v H1 w1 p1 q1 o1 => ?_
  obtain ⟨⟨d, s2⟩, eu, w3⟩ := w1.bind.ofO
  obtain ⟨ds, ed, w4⟩ := w3.bind.ofO
  obtain ⟨F2, p2, r2⟩ := esc_ok p1 o1 eu
  cases d with
  | lst es =>
    cases ed
    cases r2 with
    | lst f h r l => exact ⟨_, _, rfl, .inl ⟨SqL.of h, w4 F2 _ H1 p2 (it_rev f h r) (by rw [List.length_reverse]; exact l)⟩⟩
  | tup es =>
    cases ed
    cases r2 with
    | tup h r l => exact ⟨_, _, rfl, .inr ⟨h, w4 F2 _ H1 p2 (it_revT h r) (by rw [List.length_reverse]; exact l)⟩⟩
  | _ => cases ed
theorem simI_zip (hn : notStar a = true) (hn2 : notStar b = true) (B : BltOk X "zip" (.type "zip")) (ha : SimE X a m1) (hb : SimE X b m2) : SimI X (.Tuple elts kk tpos) (.Call (.Name (Str.ofString "zip") p2) [a, b] [] pos) (itR .zip m1 m2) := by
  intro F σ H s Q sr w
  simp only [itR] at w
  refine .of (pi_zip B.gl B.mg (pa_cons pe_w (pa_cons pe_w pa_nil (star_cons hn2)) (star_cons hn)) (star_cons hn) (star_plain pos (by simp [hn2]))) ?_
  refine ha.run (.refl sr) w.bind fun x F1 v1 H1 w1 p1 q1 o1 => ?_
  obtain ⟨⟨d, s2⟩, eu, w3⟩ := w1.bind.ofO
  obtain ⟨F2, p2, r2⟩ := esc_ok p1 o1 eu
  refine hb.run p2 w3.bind fun y F3 v2 H3 w4 p3 q3 o3 => ?_
  obtain ⟨⟨d2, s3⟩, ev, w5⟩ := w4.bind.ofO
  obtain ⟨ds, ed, w6⟩ := w5.bind.ofO
  obtain ⟨F4, p4, r4⟩ := esc_ok q3 o3 ev
  have r2' := p2.sr.rel p4.ext r2
  cases d with
  | lst es =>
    cases d2 with
    | lst fs =>
      cases ed
      cases r2' with
      | lst f h r l =>
        cases r4 with
        | lst f2 h2 r2 l2 => exact ⟨_, _, _, _, rfl, SqL.of h, SqL.of h2, w6 F4 _ H3 (p2.trans p4) (it_zip f h r f2 h2 r2) (by rw [zipD_len]; omega)⟩
    | _ => cases ed
  | _ => cases ed
end
end Cv
set_option maxRecDepth 100000
set_option maxHeartbeats 1000000
set_option autoImplicit false
/-! Engine, part J: targets, comprehensions. -/
namespace Cv
open PySem PySem.Spec L2
variable [TabC]
section
variable {K : PySem.W.Frag} {F F' F1 : ASet} {H H' H1 : Hp} {σ σ' : St} {s s' s0 s1 : DEnv} {v : V} {d : D} {vs : List Nat}
/-- a slot is stored -/
theorem SR.put {i : Nat} {x : S} (r : SR K F σ H s) (hi : i < s.length) (h : SlR K F H v x) (nw : ∀ ds b, S.muts x = some ds → v = .ref b → ¬ Own σ s b) :
    SR K F (σ.set i (some v)) H (s.set i (some x)) ∧ ∀ b, Own (σ.set i (some v)) (s.set i (some x)) b → Own σ s b ∨ ∃ ds, S.muts x = some ds ∧ v = .ref b := by
  have hσ : i < σ.length := by rw [r.len]; exact hi
  have low : ∀ b, Own (σ.set i (some v)) (s.set i (some x)) b → Own σ s b ∨ ∃ ds, S.muts x = some ds ∧ v = .ref b := fun b ⟨j, y, ds, e1, e2, e3⟩ => by
    by_cases hj : i = j
    · subst hj
      rw [List.getElem?_set_self hi] at e1
      rw [List.getElem?_set_self hσ] at e3
      cases e1
      cases e3
      exact .inr ⟨ds, e2, rfl⟩
    · rw [List.getElem?_set_ne hj] at e1 e3
      exact .inl ⟨j, y, ds, e1, e2, e3⟩
  refine ⟨⟨by rw [List.length_set, List.length_set]; exact r.len, fun j y e => ?_, fun j k y z ds es b e1 e2 e3 e4 e5 e6 => ?_, r.fdm, r.tb⟩, low⟩
  · by_cases hj : i = j
    · subst hj
      rw [List.getElem?_set_self hi] at e
      cases e
      exact ⟨v, List.getElem?_set_self hσ, h⟩
    · rw [List.getElem?_set_ne hj] at e ⊢
      exact r.ats j y e
  · by_cases hj : i = j <;> by_cases hk : i = k
    · rw [← hj, hk]
    · subst hj
      rw [List.getElem?_set_self hi] at e1
      rw [List.getElem?_set_self hσ] at e5
      cases e1
      cases e5
      rw [List.getElem?_set_ne hk] at e3 e6
      exact absurd ⟨k, z, es, e3, e4, e6⟩ (nw ds b e2 rfl)
    · subst hk
      rw [List.getElem?_set_self hi] at e3
      rw [List.getElem?_set_self hσ] at e6
      cases e3
      cases e6
      rw [List.getElem?_set_ne hj] at e1 e5
      exact absurd ⟨j, y, ds, e1, e2, e5⟩ (nw es b e4 rfl)
    · rw [List.getElem?_set_ne hj] at e1 e5
      rw [List.getElem?_set_ne hk] at e3 e6
      exact r.sep j k y z ds es b e1 e2 e3 e4 e5 e6
/-- what a target leaves -/
structure TPost (K : PySem.W.Frag) (F : ASet) (σ : St) (H : Hp) (s : DEnv) (vs : List Nat) (σ' : St) (s' : DEnv) : Prop where
  sr : SR K F σ' H s'
  own : ∀ b, Own σ' s' b → Own σ s b
  sig : ∀ j : Nat, j ∉ vs → σ'[j]? = σ[j]?
  env : ∀ j : Nat, j ∉ vs → s'[j]? = s[j]?
  len : σ'.length = σ.length
  io : ∀ (j : Nat) (x : S), s[j]? = some (some x) → S.isIo x → s'[j]? = some (some x) ∧ σ'[j]? = σ[j]?
theorem setN_ok {i : Nat} {x : S} (e : setN s i x = some s') : i < s.length ∧ s' = s.set i (some x) ∧ ∀ y, s[i]? = some (some y) → ¬ S.isIo y := by
  unfold setN at e
  split at e
  · rename_i hi
    split at e
    · cases e
    · rename_i hn
      cases e
      refine ⟨hi, rfl, fun y hy z => ?_⟩
      cases y with
      | io ds => exact hn _ hy
      | _ => exact z
  · cases e
theorem TPost.name {i : Nat} (r : SR K F σ H s) (h : Rel K F H v d) (e : setN s i (.val d) = some s') : TPost K F σ H s [i] (σ.set i (some v)) s' := by
  obtain ⟨hi, rfl, hn⟩ := setN_ok e
  obtain ⟨h1, h2⟩ := r.put (x := .val d) hi h fun ds b m => by cases m
  refine ⟨h1, fun b o => (h2 b o).elim id (fun ⟨_, m, _⟩ => nomatch m), fun j hj => ?_, fun j hj => ?_, List.length_set .., fun j x hx hz => ?_⟩
  · exact List.getElem?_set_ne (fun z => hj (by simp [z]))
  · exact List.getElem?_set_ne (fun z => hj (by simp [z]))
  · have : i ≠ j := fun z => by subst z; exact hn x hx hz
    exact ⟨by rw [List.getElem?_set_ne this]; exact hx, List.getElem?_set_ne this⟩
theorem TPost.cons {σ2 : St} {s2 : DEnv} {i : Nat} (a : TPost K F σ H s [i] σ' s') (b : TPost K F σ' H s' vs σ2 s2) : TPost K F σ H s (i :: vs) σ2 s2 :=
  ⟨b.sr, fun c o => a.own c (b.own c o), fun j hj => (b.sig j fun z => hj (List.mem_cons_of_mem _ z)).trans (a.sig j fun z => hj (by simp at z; simp [z])), fun j hj => (b.env j fun z => hj (List.mem_cons_of_mem _ z)).trans (a.env j fun z => hj (by simp at z; simp [z])), b.len.trans a.len,
    fun j x hx hz => let ⟨h1, h2⟩ := a.io j x hx hz; let ⟨h3, h4⟩ := b.io j x h1 hz; ⟨h3, h4.trans h2⟩⟩
end
def WpG (X : Cx) (tg : Expr) : TG := fun v σ H Q => ∀ (pins : List (Addr × Obj)) (s : Shared) (u : Value), Inv X pins σ H s → RelV v u → wpAny (model X.prog X.w) X.A (assign tg X.env u) (fun _ s' => ∃ σ' H', Inv X pins σ' H' s' ∧ Q σ' H') X.xe s
def SimG (X : Cx) (tg : Expr) (t : Tgt) : Prop := ∀ (F : ASet) (σ : St) (H : Hp) (s : DEnv) (d : D) (v : V) (s' : DEnv) (Q : St → Hp → Prop), SR X.K F σ H s → Rel X.K F H v d → setT s t d = some s' →
  (∀ σ', TPost X.K F σ H s (tgtSlots t) σ' s' → Q σ' H) → WpG X tg v σ H Q
section
variable {X : Cx} {tg e : Expr} {pos : Pos} {F : ASet} {σ : St} {H : Hp} {s : DEnv}
theorem pg_w : PG X tg (WpG X tg) := ⟨fun pins s σ H v u Q I r h => h pins s u I r⟩
theorem WpG.of {t : TG} {v : V} {Q : St → Hp → Prop} (h : PG X tg t) (q : t v σ H Q) : WpG X tg v σ H Q := fun pins s u I r => h.run pins s σ H v u Q I r q
/-- a name that may be stored -/
structure StOk (X : Cx) (i : Nat) (x : Str) : Prop where
  ix : X.N[i]? = some x
  loc : Loc X.env.scope x
  fn : X.fn x = true ∨ X.env.scope.names.lookup x = some .local
theorem simG_name {i : Nat} {x : Str} (hN : X.N.Nodup) (h : StOk X i x) : SimG X (.Name x pos) (.name i) := fun F σ H s d v s' Q sr r e k =>
  .of (pg_name hN h.ix h.loc h.fn) (k _ (TPost.name sr r e))
inductive StOks (X : Cx) : List Nat → List Expr → Prop
  | nil : StOks X [] []
  | cons {i : Nat} {is : List Nat} {x : Str} {p : Pos} {es : List Expr} (h : StOk X i x) (r : StOks X is es) : StOks X (i :: is) (.Name x p :: es)
theorem StOks.len {is : List Nat} {es : List Expr} (h : StOks X is es) {env : Env} : (assignEach es env).length = is.length ∧ (assignEach es env).findIdx? (·.1) = none := by
  induction h with
  | nil => exact ⟨rfl, rfl⟩
  | cons h r ih =>
    refine ⟨congrArg (· + 1) ih.1, ?_⟩
    show List.findIdx? (·.1) ((false, _) :: assignEach _ env) = none
    rw [List.findIdx?_cons]
    simp [ih.2]
def WpGs (X : Cx) (ts : List Expr) : TGs := fun vs σ H Q => ∀ (pins : List (Addr × Obj)) (s : Shared) (us : List Value), Inv X pins σ H s → Vals vs us → wpAny (model X.prog X.w) X.A (assignInOrder ((assignEach ts X.env).map (·.2)) us) (fun _ s' => ∃ σ' H', Inv X pins σ' H' s' ∧ Q σ' H') X.xe s
theorem pgs_w {ts : List Expr} : PGs X ts (WpGs X ts) := ⟨fun pins s σ H vs us Q I r h => h pins s us I r⟩
theorem WpGs.of {ts : List Expr} {t : TGs} {vs : List V} {Q : St → Hp → Prop} (h : PGs X ts t) (q : t vs σ H Q) : WpGs X ts vs σ H Q := fun pins s us I r => h.run pins s σ H vs us Q I r q
theorem simGs {is : List Nat} {es : List Expr} (hN : X.N.Nodup) (h : StOks X is es) : ∀ (F : ASet) (σ : St) (H : Hp) (s : DEnv) (ds : List D) (vs : List V) (s' : DEnv) (Q : St → Hp → Prop), SR X.K F σ H s → RelL X.K F H vs ds → setNs s is ds = some s' →
    (∀ σ', TPost X.K F σ H s is σ' s' → Q σ' H) → WpGs X es vs σ H Q := by
  induction h with
  | nil =>
    intro F σ H s ds vs s' Q sr r e k
    cases ds with
    | nil =>
      cases e
      cases r
      exact .of pgs_nil ⟨rfl, k σ ⟨sr, fun _ o => o, fun _ _ => rfl, fun _ _ => rfl, rfl, fun _ _ h _ => ⟨h, rfl⟩⟩⟩
    | cons d ds => cases e
  | cons h r' ih =>
    intro F σ H s ds vs s' Q sr r e k
    cases ds with
    | nil => cases e
    | cons d ds =>
      cases r with
      | cons rv rr =>
        simp only [setNs] at e
        split at e
        · rename_i s1 e1
          refine .of (pgs_cons (pg_name hN h.ix h.loc h.fn) pgs_w rfl) ⟨_, _, rfl, ?_⟩
          have t1 := TPost.name sr rv e1
          exact ih F _ H s1 ds _ s' Q t1.sr rr e fun σ2 t2 => k σ2 (TPost.cons t1 t2)
        · cases e
theorem setNs_len : ∀ (is : List Nat) (ds : List D) (s s' : DEnv), setNs s is ds = some s' → ds.length = is.length := by
  intro is
  induction is with
  | nil => intro ds s s' e; cases ds with | nil => rfl | cons _ _ => cases e
  | cons i is ih =>
    intro ds s s' e
    cases ds with
    | nil => cases e
    | cons d ds =>
      simp only [setNs] at e
      split at e
      · exact congrArg (· + 1) (ih ds _ _ e)
      · cases e
/-- unpacking, also of a list that is not frozen -/
def SimGV (X : Cx) (tg : Expr) (is : List Nat) : Prop := ∀ (F : ASet) (σ : St) (H : Hp) (s : DEnv) (d : D) (v : V) (s' : DEnv) (Q : St → Hp → Prop), SR X.K F σ H s → View X.K F H v d → setT s (.tup is) d = some s' →
  (∀ σ', TPost X.K F σ H s is σ' s' → Q σ' H) → WpG X tg v σ H Q
theorem simGV_tup {is : List Nat} {es : List Expr} {kk : Nat} (hc : X.calm = true) (hN : X.N.Nodup) (h : StOks X is es) : SimGV X (.Tuple es kk pos) is := by
  intro F σ H s d v s' Q sr r e k
  cases d with
  | tup ds =>
    cases r with
    | rel r =>
      cases r with
      | tup h1 h2 l =>
        have e' : setNs s is ds = some s' := e
        refine .of (pg_tup hc pgs_w h.len.1 h.len.2) ⟨_, _, rfl, h1, ?_, simGs hN h F σ H s ds _ s' Q sr h2 e' k⟩
        rw [h2.len]
        exact setNs_len is ds s s' e'
  | lst ds =>
    obtain ⟨a, vs, rfl, h1, h2⟩ := r.list
    have e' : setNs s is ds = some s' := e
    refine .of (pg_unl hc pgs_w h.len.1 h.len.2) ⟨_, _, rfl, SqL.of h1, ?_, simGs hN h F σ H s ds _ s' Q sr h2 e' k⟩
    rw [h2.len]
    exact setNs_len is ds s s' e'
  | _ => cases e
theorem simG_tup {is : List Nat} {es : List Expr} {kk : Nat} (hc : X.calm = true) (hN : X.N.Nodup) (h : StOks X is es) : SimG X (.Tuple es kk pos) (.tup is) :=
  fun F σ H s d v s' Q sr r e k => simGV_tup hc hN h F σ H s d v s' Q sr (.rel r) e k
end
/-! ### slots hidden and brought back -/
section
variable {K : PySem.W.Frag} {F F' F1 : ASet} {H H' H1 : Hp} {σ σ' : St} {s s' s0 s1 : DEnv}
theorem wipeD_len (s : DEnv) : ∀ vs : List Nat, (wipeD s vs).length = s.length
  | [] => rfl
  | v :: vs => by unfold wipeD; rw [List.length_set, wipeD_len s vs]
theorem wipeD_some {i : Nat} {x : S} : ∀ {vs : List Nat}, (wipeD s vs)[i]? = some (some x) → s[i]? = some (some x) ∧ i ∉ vs
  | [], h => ⟨h, by simp⟩
  | v :: vs, h => by
    unfold wipeD at h
    by_cases hi : v = i
    · subst hi
      by_cases hv : v < (wipeD s vs).length
      · rw [List.getElem?_set_self hv] at h; cases h
      · rw [List.getElem?_eq_none (by simpa using hv)] at h; cases h
    · rw [List.getElem?_set_ne hi] at h
      obtain ⟨h1, h2⟩ := wipeD_some h
      exact ⟨h1, by simp only [List.mem_cons, not_or]; exact ⟨fun e => hi e.symm, h2⟩⟩
theorem wipeD_out {i : Nat} : ∀ {vs : List Nat}, i ∉ vs → (wipeD s vs)[i]? = s[i]?
  | [], _ => rfl
  | v :: vs, h => by
    unfold wipeD
    rw [List.getElem?_set_ne (fun z => h (by simp [z])), wipeD_out fun z => h (List.mem_cons_of_mem _ z)]
theorem wipe_out {i : Nat} : ∀ {vs : List Nat}, i ∉ vs → (wipe σ vs)[i]? = σ[i]?
  | [], _ => rfl
  | v :: vs, h => by
    unfold wipe
    rw [List.getElem?_set_ne (fun z => h (by simp [z])), wipe_out fun z => h (List.mem_cons_of_mem _ z)]
theorem wipe_in {i : Nat} : ∀ {vs : List Nat}, i ∈ vs → i < σ.length → (wipe σ vs)[i]? = some none
  | v :: vs, h, hl => by
    unfold wipe
    by_cases hv : v = i
    · subst hv
      exact List.getElem?_set_self (by rw [wipe_length]; exact hl)
    · rw [List.getElem?_set_ne hv]
      exact wipe_in ((List.mem_cons.mp h).resolve_left (fun z => hv z.symm)) hl
theorem wipe_same {vs : List Nat} (hl : σ'.length = σ.length) (h : ∀ j : Nat, j ∉ vs → σ'[j]? = σ[j]?) : wipe σ' vs = wipe σ vs := by
  apply List.ext_getElem?
  intro i
  by_cases hi : i ∈ vs
  · by_cases hlt : i < σ.length
    · rw [wipe_in hi hlt, wipe_in hi (by rw [hl]; exact hlt)]
    · rw [List.getElem?_eq_none (by rw [wipe_length]; omega), List.getElem?_eq_none (by rw [wipe_length]; omega)]
  · rw [wipe_out hi, wipe_out hi, h i hi]
theorem backD_len (s0 s : DEnv) : ∀ vs : List Nat, (backD s0 s vs).length = s.length
  | [] => rfl
  | v :: vs => by unfold backD; rw [List.length_set, backD_len s0 s vs]
theorem backD_out {i : Nat} : ∀ {vs : List Nat}, i ∉ vs → (backD s0 s vs)[i]? = s[i]?
  | [], _ => rfl
  | v :: vs, h => by
    unfold backD
    rw [List.getElem?_set_ne (fun z => h (by simp [z])), backD_out fun z => h (List.mem_cons_of_mem _ z)]
theorem backD_in {i : Nat} : ∀ {vs : List Nat}, i ∈ vs → i < s.length → (backD s0 s vs)[i]? = some (s0[i]?.getD none)
  | v :: vs, h, hl => by
    unfold backD
    by_cases hv : v = i
    · subst hv
      exact List.getElem?_set_self (by rw [backD_len]; exact hl)
    · rw [List.getElem?_set_ne hv]
      exact backD_in ((List.mem_cons.mp h).resolve_left (fun z => hv z.symm)) hl
theorem SR.wipe_ {vs : List Nat} (r : SR K F σ H s) : SR K F (wipe σ vs) H (wipeD s vs) := by
  refine ⟨by rw [wipe_length, wipeD_len]; exact r.len, fun i x e => ?_, fun i j x y ds es b e1 e2 e3 e4 e5 e6 => ?_, r.fdm, r.tb⟩
  · obtain ⟨h1, h2⟩ := wipeD_some e
    rw [wipe_out h2]
    exact r.ats i x h1
  · obtain ⟨h1, h2⟩ := wipeD_some e1
    obtain ⟨h3, h4⟩ := wipeD_some e3
    rw [wipe_out h2] at e5
    rw [wipe_out h4] at e6
    exact r.sep i j x y ds es b h1 e2 h3 e4 e5 e6
theorem own_wipe {vs : List Nat} {b : Addr} (o : Own (wipe σ vs) (wipeD s vs) b) : Own σ s b := by
  obtain ⟨i, x, ds, e1, e2, e3⟩ := o
  obtain ⟨h1, h2⟩ := wipeD_some e1
  rw [wipe_out h2] at e3
  exact ⟨i, x, ds, h1, e2, e3⟩
/-- a list that nobody holds is changed -/
theorem SR.free_upd {D : Addr} {vs ws : List V} (r : SR K F σ H s) (h : H D = some (.lst vs)) (nF : ¬ F D) (nO : ¬ Own σ s D) : SR K F σ (upd H D (.lst ws)) s ∧ Keep F H (upd H D (.lst ws)) := by
  have kp : Keep F H (upd H D (.lst ws)) := fun b o e z _ => by
    have : b ≠ D := fun y => by
      subst y
      rcases z with z | z
      · exact nF z
      · rw [h] at e; cases e; exact z vs rfl
    rw [upd_ne this]; exact e
  refine ⟨⟨r.len, fun i x e => ?_, r.sep, fun b f => ?_, tbs_keep r.tb fun b o e z => by rw [upd_ne fun y => by subst y; rw [h] at e; cases e; exact z vs rfl]; exact e⟩, kp⟩
  · obtain ⟨v, e1, e2⟩ := r.ats i x e
    refine ⟨v, e1, ?_⟩
    cases hz : S.muts x with
    | none =>
      cases x with
      | val d => exact Rel.mono kp (fun _ z => z) e2
      | own _ => cases hz
      | io _ => cases hz
    | some fs =>
      obtain ⟨b, us, rfl, g1, g2, g3, g4⟩ := e2.ownR hz
      have nb : b ≠ D := fun z => nO (z ▸ ⟨i, x, fs, e, hz, e1⟩)
      exact OwnR.slR ⟨b, us, rfl, by rw [upd_ne nb]; exact g1, g2.mono kp fun _ z => z, g3, g4⟩ hz
  · obtain ⟨us, e⟩ := r.fdm b f
    exact ⟨us, kp b _ e (.inl f) (fun _ => nofun)⟩
theorem Ext.upd_ {F O F' O' : ASet} {D : Addr} {o : HO} (e : Ext F O H F' O' H') (n : H D = none) : Ext F O H F' O' (upd H' D o) :=
  ⟨fun b u q no t => by rw [upd_ne (ne_of_none q n)]; exact e.fr b u q no t, fun b q => by
    by_cases hb : b = D
    · rw [hb]; exact n
    · rw [upd_ne hb] at q; exact e.dm b q, e.sub, e.new, e.own⟩
end
end Cv
set_option maxRecDepth 100000
set_option maxHeartbeats 2000000
set_option autoImplicit false
/-! Engine, part K: comprehensions. -/
namespace Cv
open PySem PySem.Spec L2
variable [TabC]
theorem noX_RP {α : Type} {r : R α} {P : α → Prop} {E : String → Prop} (h : RP (noX r) P E) : RP r P (fun _ => False) := by
  cases r with
  | ok a => exact h
  | exn c => exact h
  | bad => exact h
theorem Ext.wk {F O H F' O' H' O2 O2'} (e : Ext F O H F' O' H') (h1 : ∀ b, O b → O2 b) (h2 : ∀ b, O2' b → O' b) : Ext F O2 H F' O2' H' :=
  ⟨fun b o q n t => e.fr b o q (fun z => n (h1 b z)) t, e.dm, e.sub, fun b q => (e.new b q).imp id fun z => z.imp (h1 b) id, fun b q => (e.own b (h2 b q)).imp (h1 b) id⟩
section
variable {X : Cx} {tg iter : Expr} {t : Tgt} {g : TG} {tt : TT} {te : TE} {mI : DEnv → R (List D × DEnv)} {mc : DEnv → R (Bool × DEnv)} {me : DEnv → R (Opd × DEnv)}
theorem back_ok {K : PySem.W.Frag} {F1 F' : ASet} {σ : St} {H1 H' : Hp} {s1 s' : DEnv} {vs : List Nat} (sr1 : SR K F1 σ H1 s1) (sr' : SR K F' (wipe σ vs) H' (wipeD s' vs))
    (ext : Ext F1 (Own (wipe σ vs) (wipeD s1 vs)) H1 F' (Own (wipe σ vs) (wipeD s' vs)) H') (dom : ∀ (j : Nat) (x : S), j ∉ vs → s1[j]? = some (some x) → ∃ x' : S, s'[j]? = some (some x') ∧ (S.isIo x → S.isIo x')) (len : s'.length = s1.length) :
    EPost K F1 σ H1 s1 F' H' (backD s1 s' vs) ∧ ∀ D, H1 D = none → ¬ Own (wipe σ vs) (wipeD s' vs) D → ¬ Own σ (backD s1 s' vs) D := by
  have kp : Keep F1 H1 H' := sr1.wipe_.keep ext
  have parts : ∀ (j : Nat) (x : S), (backD s1 s' vs)[j]? = some (some x) → (j ∈ vs ∧ s1[j]? = some (some x)) ∨ (j ∉ vs ∧ (wipeD s' vs)[j]? = some (some x) ∧ (wipe σ vs)[j]? = σ[j]?) := fun j x e => by
    by_cases hj : j ∈ vs
    · have hl : j < s'.length := by
        have := (List.getElem?_eq_some_iff.mp e).1
        rw [backD_len] at this
        exact this
      rw [backD_in hj hl] at e
      refine .inl ⟨hj, ?_⟩
      have e := Option.some.inj e
      cases q : s1[j]? with
      | none => rw [q] at e; cases e
      | some y => rw [q] at e; exact congrArg some e
    · rw [backD_out hj] at e
      exact .inr ⟨hj, by rw [wipeD_out hj]; exact e, wipe_out hj⟩
  have inV : ∀ (j : Nat) (x : S) (ds : List D) (b : Addr), j ∈ vs → s1[j]? = some (some x) → S.muts x = some ds → σ[j]? = some (some (V.ref b)) → ¬ Own (wipe σ vs) (wipeD s1 vs) b := fun j x ds b hj e m ha ⟨k, y, es, e1, e2, e3⟩ => by
    obtain ⟨h1, h2⟩ := wipeD_some e1
    rw [wipe_out h2] at e3
    have := sr1.sep j k x y ds es b e m h1 e2 ha e3
    exact h2 (this ▸ hj)
  have eo : ∀ b, Own σ (backD s1 s' vs) b → Own σ s1 b ∨ Own (wipe σ vs) (wipeD s' vs) b := fun b ⟨j, x, ds, e1, e2, e3⟩ => by
    rcases parts j x e1 with ⟨_, h⟩ | ⟨_, h1, h2⟩
    · exact .inl ⟨j, x, ds, h, e2, e3⟩
    · exact .inr ⟨j, x, ds, h1, e2, by rw [h2]; exact e3⟩
  have ext2 : Ext F1 (Own σ s1) H1 F' (Own σ (backD s1 s' vs)) H' := ⟨fun b o q n t => ext.fr b o q (fun z => n (own_wipe z)) t, ext.dm, ext.sub, fun b q => (ext.new b q).imp id fun z => z.imp own_wipe id, fun b q => by
    rcases eo b q with z | z
    · exact .inl z
    · exact (ext.own b z).imp own_wipe id⟩
  refine ⟨⟨ext2, fun j x e => ?_, ⟨by rw [backD_len, len]; exact sr1.len, fun j x e => ?_, fun j k x y ds es b e1 e2 e3 e4 e5 e6 => ?_, sr'.fdm, sr'.tb⟩⟩, fun D nD nO q => ?_⟩
  · by_cases hj : j ∈ vs
    · refine ⟨x, ?_, id⟩
      rw [backD_in hj (by rw [len]; exact (List.getElem?_eq_some_iff.mp e).1), e]
      rfl
    · rw [backD_out hj]
      exact dom j x hj e
  · rcases parts j x e with ⟨hj, h⟩ | ⟨hj, h1, h2⟩
    · obtain ⟨v, e1, e2⟩ := sr1.ats j x h
      refine ⟨v, e1, ?_⟩
      cases hz : S.muts x with
      | none =>
        cases x with
        | val d => exact Rel.mono kp ext.sub e2
        | own _ => cases hz
        | io _ => cases hz
      | some fs =>
        obtain ⟨b, us, rfl, g1, g2, g3, g4⟩ := e2.ownR hz
        have nb := inV j x fs b hj h hz e1
        refine OwnR.slR ⟨b, us, rfl, ext.fr b _ g1 nb (fun _ => nofun), g2.mono kp ext.sub, fun f => ?_, g4⟩ hz
        rcases ext.new b f with z | z | z
        · exact g3 z
        · exact nb z
        · rw [g1] at z; cases z
    · rw [← h2]
      exact sr'.ats j x h1
  · have mixed : ∀ (j k : Nat) (x y : S) (ds es : List D), j ∈ vs → s1[j]? = some (some x) → S.muts x = some ds → σ[j]? = some (some (V.ref b)) → (wipeD s' vs)[k]? = some (some y) → S.muts y = some es → (wipe σ vs)[k]? = some (some (V.ref b)) → False :=
      fun j k x y ds es hj q1 q2 q3 q4 q5 q6 => by
        have nb := inV j x ds b hj q1 q2 q3
        rcases ext.own b ⟨k, y, es, q4, q5, q6⟩ with z | z
        · exact nb z
        · obtain ⟨⟨us, g⟩, _⟩ := sr1.own ⟨j, x, ds, q1, q2, q3⟩
          rw [g] at z; cases z
    rcases parts j x e1 with ⟨hj, h⟩ | ⟨hj, h1, h2⟩ <;> rcases parts k y e3 with ⟨hk, g⟩ | ⟨hk, g1, g2⟩
    · exact sr1.sep j k x y ds es b h e2 g e4 e5 e6
    · exact (mixed j k x y ds es hj h e2 e5 g1 e4 (by rw [g2]; exact e6)).elim
    · exact (mixed k j y x es ds hk g e4 e6 h1 e2 (by rw [h2]; exact e5)).elim
    · exact sr'.sep j k x y ds es b h1 e2 g1 e4 (by rw [h2]; exact e5) (by rw [g2]; exact e6)
  · rcases eo D q with z | z
    · exact sr1.noO nD z
    · exact nO z
theorem lc_sim (hI : SimI X tg iter mI)
    (hg : ∀ (F : ASet) (σ : St) (H : Hp) (s : DEnv) (d : D) (v : V) (s' : DEnv) (Q : St → Hp → Prop), SR X.K F σ H s → Rel X.K F H v d → setT s t d = some s' → (∀ σ', TPost X.K F σ H s (tgtSlots t) σ' s' → Q σ' H) → g v σ H Q)
    (ht : ∀ (F : ASet) (σ : St) (H : Hp) (s : DEnv) (Q : Bool → Hp → Prop), SR X.K F σ H s → RP (mc s) (fun r => ∀ F' H', EPost X.K F σ H s F' H' r.2 → Q r.1 H') (fun _ => False) → tt σ H Q)
    (he : ∀ (F : ASet) (σ : St) (H : Hp) (s : DEnv) (Q : VK), SR X.K F σ H s → RP (me s) (fun r => ∀ F' v H', EPost X.K F σ H s F' H' r.2 → OR X.K F' σ H H' r.2 v r.1 → Q v H') (fun _ => False) → te σ H Q)
    {F : ASet} {σ : St} {H : Hp} {s : DEnv} {Q : VK} (sr : SR X.K F σ H s)
    (w : RP ((mI s).bind fun it => (compLoop (fun s => wipeD s (tgtSlots t)) (fun s d => setT s t d) mc (fun s => eltR me s) it.1 [] it.2).bind fun r => R.ok (Opd.fresh r.1, backD it.2 r.2 (tgtSlots t)))
      (fun r => ∀ F' v H', EPost X.K F σ H s F' H' r.2 → OR X.K F' σ H H' r.2 v r.1 → Q v H') (Acc X σ H (Own σ s))) : tLc (WpI X tg iter) g tt te (tgtSlots t) σ H Q := by
  refine hI F σ H s _ sr (w.bind.mono (fun it w1 F1 J H1 p1 itd hlim A0 nD => ?_) (fun c a => a))
  obtain ⟨ds, s1⟩ := it
  simp only at p1 itd hlim w1
  generalize hvs : tgtSlots t = vs at *
  refine ⟨fun i m H' => m = ds.length - i ∧ i ≤ ds.length ∧ ∃ (F' : ASet) (s' : DEnv) (acc : List D) (us : List V),
      RP ((compLoop (fun s => wipeD s vs) (fun s d => setT s t d) mc (fun s => eltR me s) (ds.drop i) acc s').bind fun r => R.ok (Opd.fresh r.1, backD s1 r.2 vs)) (fun r => ∀ F' v H', EPost X.K F σ H s F' H' r.2 → OR X.K F' σ H H' r.2 v r.1 → Q v H') (Acc X σ H (Own σ s)) ∧
      SR X.K F' (wipe σ vs) H' (wipeD s' vs) ∧ Ext F1 (Own (wipe σ vs) (wipeD s1 vs)) H1 F' (Own (wipe σ vs) (wipeD s' vs)) H' ∧ H' A0 = some (.lst us) ∧ RelL X.K F' H' us acc ∧ ¬ F' A0 ∧ ¬ Own (wipe σ vs) (wipeD s' vs) A0 ∧ acc.length ≤ i ∧
      (∀ (j : Nat) (x : S), j ∉ vs → s1[j]? = some (some x) → ∃ x' : S, s'[j]? = some (some x') ∧ (S.isIo x → S.isIo x')) ∧ s'.length = s1.length, ⟨ds.length, by simp, Nat.zero_le _, F1, s1, [], [], w1, ?_, ?_, upd_same, .nil, ?_, ?_, Nat.le_refl _, fun j x _ e => ⟨x, e, id⟩, rfl⟩, ?_⟩
  · exact (p1.sr.wipe_).same (same_obj nD)
  · exact Ext.obj nD
  · exact p1.sr.noF nD
  · exact p1.sr.wipe_.noO nD
  rintro i m H' ⟨rfl, hi, F', s', acc, us, wl, sr', ext, hD, rD, nF, nO, hacc, dom, len'⟩
  have kp : Keep F1 H1 H' := p1.sr.wipe_.keep ext
  have it' := itd F' H' ext.sub kp
  by_cases hlt : i < ds.length
  · obtain ⟨d, ed⟩ : ∃ d, ds[i]? = some d := ⟨ds[i], List.getElem?_eq_getElem hlt⟩
    have hdrop : ds.drop i = d :: ds.drop (i + 1) := by
      rw [List.drop_eq_getElem_cons hlt]
      rw [List.getElem?_eq_getElem hlt] at ed
      rw [Option.some.inj ed]
    rw [hdrop] at wl
    simp only [compLoop] at wl
    obtain ⟨s2, e2, w2⟩ := wl.bind.bind.ofO
    refine .inr ⟨(it'.1 i d ed).1, _, fun H'' h => ⟨ds.length - (i + 1), by omega, h⟩, fun x H2 y => ?_⟩
    obtain ⟨sm, rx⟩ := (it'.1 i d ed).2 x H2 y
    have sr2 := sr'.same sm
    refine hg F' (wipe σ vs) H2 (wipeD s' vs) d x s2 _ sr2 rx e2 fun σ2 tp => ?_
    have hw : wipe σ2 vs = wipe σ vs := wipe_same (by rw [tp.len, wipe_length]) fun j hj => (tp.sig j hj).trans (wipe_out hj)
    refine ⟨hw, ?_⟩
    have lenσ : σ2.length = s1.length := by rw [tp.len, wipe_length]; exact p1.sr.len
    -- what carries over to a later state of this turn
    have carry : ∀ {F3 : ASet} {H3 : Hp} {s3 : DEnv}, EPost X.K F' σ2 H2 s2 F3 H3 s3 → SR X.K F3 (wipe σ vs) H3 (wipeD s3 vs) ∧ Ext F1 (Own (wipe σ vs) (wipeD s1 vs)) H1 F3 (Own (wipe σ vs) (wipeD s3 vs)) H3 ∧ H3 A0 = some (.lst us) ∧ RelL X.K F3 H3 us acc ∧ ¬ F3 A0 ∧ ¬ Own σ2 s3 A0 ∧
        (∀ (j : Nat) (x : S), j ∉ vs → s1[j]? = some (some x) → ∃ x' : S, s3[j]? = some (some x') ∧ (S.isIo x → S.isIo x')) ∧ s3.length = s1.length := fun {F3 H3 s3} p3 => by
      have hD2 := sm _ _ hD
      have nO2 : ¬ Own σ2 s2 A0 := fun z => nO (tp.own A0 z)
      have gone : ∀ {P : Prop}, (F' A0 ∨ Own σ2 s2 A0 ∨ H2 A0 = none) → P := fun z => by
        rcases z with z | z | z
        · exact absurd z nF
        · exact absurd z nO2
        · rw [hD2] at z; cases z
      refine ⟨by rw [← hw]; exact p3.sr.wipe_, ?_, p3.ext.fr A0 _ hD2 nO2 (fun _ => nofun), tp.sr.relL p3.ext (rD.mono (same_keep sm) fun _ z => z), fun f => gone (p3.ext.new A0 f), fun o => gone (.inr (p3.ext.own A0 o)), fun j x hj e => ?_, by rw [← lenσ]; exact p3.sr.len.symm⟩
      · refine ext.trans ((same_ext sm).trans (p3.ext.wk tp.own fun b z => ?_))
        rw [← hw] at z
        exact own_wipe z
      · obtain ⟨x1, q1, q2⟩ := dom j x hj e
        have q3 : s2[j]? = some (some x1) := by rw [tp.env j hj, wipeD_out hj]; exact q1
        obtain ⟨x2, q4, q5⟩ := p3.dom j x1 q3
        exact ⟨x2, q4, fun z => q5 (q2 z)⟩
    refine ht F' σ2 H2 s2 _ tp.sr ((noX_RP w2.bind).mono (fun b w3 F3 H3 p3 => ?_) fun _ z => z)
    obtain ⟨b, s3⟩ := b
    cases b with
    | false =>
      simp only [Bool.false_eq_true, if_false] at w3 ⊢
      obtain ⟨c1, c2, c3, c4, c5, c6, c7, c8⟩ := carry p3
      refine ⟨trivial, hlt, F3, s3, acc, us, ?_, c1, c2, c3, c4, c5, fun z => c6 (own_wipe (hw ▸ z)), by omega, c7, c8⟩
      have bk : ∀ {r : R (List D × DEnv)} {f : List D × DEnv → R (Opd × DEnv)} {P : Opd × DEnv → Prop} {E : String → Prop}, RP r (fun a => RP (f a) P E) E → RP (r.bind f) P E := fun {r f P E} h => by cases r <;> exact h
      exact bk w3
    | true =>
      simp only [if_true] at w3 ⊢
      refine he F3 σ2 H3 s3 _ p3.sr (RP.mono (RP.bind (noX_RP w3.bind)) (fun x w4 F4 v H4 p4 o4 => ?_) fun _ z => z)
      obtain ⟨⟨dd, s5⟩, e5, w5⟩ := w4.ofO
      obtain ⟨F5, p5, r5⟩ := esc_ok p4 o4 e5
      obtain ⟨c1, c2, c3, c4, c5, c6, c7, c8⟩ := carry (p3.trans p5)
      have nO5 : ¬ Own (wipe σ vs) (wipeD s5 vs) A0 := fun z => c6 (own_wipe (hw ▸ z))
      have ha : acc.length < lim := by omega
      refine ⟨us, c3, by rw [c4.len, ← lim_eq]; exact ha, trivial, hlt, F5, s5, acc ++ [dd], us ++ [v], ?_, ?_⟩
      · have bk : ∀ {r : R (List D × DEnv)} {f : List D × DEnv → R (Opd × DEnv)} {P : Opd × DEnv → Prop} {E : String → Prop}, RP r (fun a => RP (f a) P E) E → RP (r.bind f) P E := fun {r f P E} h => by cases r <;> exact h
        exact bk w5
      · obtain ⟨f1, f2⟩ := c1.free_upd (ws := us ++ [v]) c3 c5 nO5
        exact ⟨f1, c2.upd_ nD, upd_same, (c4.app (.cons r5 .nil)).mono f2 fun _ z => z, c5, nO5, by simp; omega, c7, c8⟩
  · have e : i = ds.length := by omega
    subst e
    refine .inl ⟨it'.2, ?_⟩
    rw [List.drop_length] at wl
    simp only [compLoop, R.bind_ok] at wl
    obtain ⟨bp, bo⟩ := back_ok p1.sr sr' ext dom len'
    refine wl F' _ H' (p1.trans bp) ⟨⟨A0, us, rfl, hD, rD, nF, by omega⟩, fun b q => ?_⟩
    cases q
    exact ⟨bo A0 nD nO, p1.ext.dm A0 nD⟩
end
end Cv
set_option maxRecDepth 100000
set_option maxHeartbeats 2000000
set_option autoImplicit false
/-! Engine, part L: statements. -/
namespace Cv
open PySem PySem.Spec L2
variable [TabC]
def WpS (X : Cx) (st : Stmt) : TS := fun D σ H => ∀ (pins : List (Addr × Obj)) (s : Shared), Inv X pins σ H s → wpAny (model X.prog X.w) X.A (exec st X.env) (SP X pins D) X.xe s
def WpSs (X : Cx) (st : List Stmt) : TS := fun D σ H => ∀ (pins : List (Addr × Obj)) (s : Shared), Inv X pins σ H s → wpAny (model X.prog X.w) X.A (execs st X.env) (SP X pins D) X.xe s
structure SPost (K : PySem.W.Frag) (F : ASet) (σ : St) (H : Hp) (s : DEnv) (F' : ASet) (σ' : St) (H' : Hp) (s' : DEnv) : Prop where
  ext : Ext F (Own σ s) H F' (Own σ' s') H'
  sr : SR K F' σ' H' s'
  len : σ'.length = σ.length
  io : ∀ ds, s[0]? = some (some (.io ds)) → σ'[0]? = σ[0]? ∧ ∃ ds', s'[0]? = some (some (S.io ds'))
theorem SPost.refl {K : PySem.W.Frag} {F : ASet} {σ : St} {H : Hp} {s : DEnv} (r : SR K F σ H s) : SPost K F σ H s F σ H s := ⟨.refl, r, rfl, fun ds e => ⟨rfl, ds, e⟩⟩
theorem SPost.trans {K : PySem.W.Frag} {F F1 F2 : ASet} {σ σ1 σ2 : St} {H H1 H2 : Hp} {s s1 s2 : DEnv} (a : SPost K F σ H s F1 σ1 H1 s1) (b : SPost K F1 σ1 H1 s1 F2 σ2 H2 s2) : SPost K F σ H s F2 σ2 H2 s2 :=
  ⟨a.ext.trans b.ext, b.sr, b.len.trans a.len, fun ds e => let ⟨h1, ds1, e1⟩ := a.io ds e; let ⟨h2, r⟩ := b.io ds1 e1; ⟨h2.trans h1, r⟩⟩
theorem EPost.s {K : PySem.W.Frag} {F F1 : ASet} {σ : St} {H H1 : Hp} {s s1 : DEnv} (a : EPost K F σ H s F1 H1 s1) : SPost K F σ H s F1 σ H1 s1 :=
  ⟨a.ext, a.sr, rfl, fun ds e => by
    obtain ⟨x, e1, e2⟩ := a.dom 0 _ e
    have := e2 trivial
    cases x with
    | io ds' => exact ⟨rfl, ds', e1⟩
    | _ => exact this.elim⟩
theorem TPost.s {K : PySem.W.Frag} {F : ASet} {σ σ1 : St} {H : Hp} {s s1 : DEnv} {vs : List Nat} (a : TPost K F σ H s vs σ1 s1) : SPost K F σ H s F σ1 H s1 :=
  ⟨⟨fun _ _ e _ _ => e, fun _ e => e, fun _ e => e, fun _ e => .inl e, fun b o => .inl (a.own b o)⟩, a.sr, a.len, fun ds e => by
    obtain ⟨h1, h2⟩ := a.io 0 _ e trivial
    exact ⟨h2, ds, h1⟩⟩
/-- the class of the name c may leave X at any slots -/
def AccS (X : Cx) (H : Hp) (O : ASet) (n : Nat) (c : String) : Prop :=
  ∃ W, L2N.Takes X W ∧ ∀ σ' H', σ'.length = n → XP O H H' → ∀ C, X.mg (Str.ofString c) = some (.ref C) → W (.ref C) none σ' H'
theorem AccS.mono {X : Cx} {F F' O O' : ASet} {H H' : Hp} {c : String} {n : Nat} (a : AccS X H O n c) (e : Ext F O H F' O' H') : AccS X H' O' n c := by
  obtain ⟨W, t, h⟩ := a
  exact ⟨W, t, fun σ' H2 hl f C m => h σ' H2 hl (f.early e) C m⟩
theorem AccS.acc {X : Cx} {H : Hp} {O : ASet} {c : String} {n : Nat} {σ : St} (a : AccS X H O n c) (hl : σ.length = n) : Acc X σ H O c := by
  obtain ⟨W, t, h⟩ := a
  exact ⟨W, t, fun H' f C m => h σ H' hl f C m⟩
/-- what is wanted of an outcome -/
def OutP (K : PySem.W.Frag) (F : ASet) (σ : St) (H : Hp) (s : DEnv) (D : Ends) : Out → Prop
  | .next s' => ∀ F' σ' H', SPost K F σ H s F' σ' H' s' → D.nx σ' H'
  | .brk s' => ∀ F' σ' H', SPost K F σ H s F' σ' H' s' → D.bk σ' H'
  | .cont s' => ∀ F' σ' H', SPost K F σ H s F' σ' H' s' → D.ct σ' H'
  | .ret v s' => ∀ F' σ' u H', SPost K F σ H s F' σ' H' s' → OR K F' σ' H H' s' u v → D.rt u H'
def SimS (X : Cx) (st : Stmt) (m : DEnv → R Out) : Prop := ∀ (F : ASet) (σ : St) (H : Hp) (s : DEnv) (D : Ends), SR X.K F σ H s → RP (m s) (OutP X.K F σ H s D) (AccS X H (Own σ s) σ.length) → WpS X st D σ H
def SimSs (X : Cx) (st : List Stmt) (m : DEnv → R Out) : Prop := ∀ (F : ASet) (σ : St) (H : Hp) (s : DEnv) (D : Ends), SR X.K F σ H s → RP (m s) (OutP X.K F σ H s D) (AccS X H (Own σ s) σ.length) → WpSs X st D σ H
section
variable {X : Cx} {st : Stmt} {sts : List Stmt} {e a b c tg : Expr} {pos p2 : Pos} {F F1 : ASet} {σ σ1 : St} {H H1 : Hp} {s s1 : DEnv} {C : Cal} {ie ia ib : IE} {D : Ends}
theorem ps_w : PS X st (WpS X st) := ⟨fun pins s σ H D I h => h pins s I⟩
theorem pss_w : PSs X sts (WpSs X sts) := ⟨fun pins s σ H D I h => h pins s I⟩
theorem WpS.of {t : TS} (h : PS X st t) (q : t D σ H) : WpS X st D σ H := fun pins s I => h.run pins s σ H D I q
theorem WpSs.of {t : TS} (h : PSs X sts t) (q : t D σ H) : WpSs X sts D σ H := fun pins s I => h.run pins s σ H D I q
/-- the ends wanted from a later state on -/
theorem OutP.later {o : Out} (p : SPost X.K F σ H s F1 σ1 H1 s1) (h : OutP X.K F σ H s D o) : OutP X.K F1 σ1 H1 s1 D o := by
  cases o with
  | next s' => exact fun F' σ' H' q => h F' σ' H' (p.trans q)
  | brk s' => exact fun F' σ' H' q => h F' σ' H' (p.trans q)
  | cont s' => exact fun F' σ' H' q => h F' σ' H' (p.trans q)
  | ret v s' => exact fun F' σ' u H' q o => h F' σ' u H' (p.trans q) (o.early p.ext.dm)
theorem SimSs.run {m : DEnv → R Out} (h : SimSs X sts m) (p : SPost X.K F σ H s F1 σ1 H1 s1) (w : RP (m s1) (OutP X.K F σ H s D) (AccS X H (Own σ s) σ.length)) : WpSs X sts D σ1 H1 :=
  h F1 σ1 H1 s1 D p.sr (w.mono (fun o q => q.later p) fun c a => by rw [p.len]; exact a.mono p.ext)
theorem SimE.runS {m : DEnv → R (Opd × DEnv)} {Q : VK} (h : SimE X e m) (sr : SR X.K F σ H s) {P : Opd × DEnv → Prop} (w : RP (m s) P (AccS X H (Own σ s) σ.length))
    (k : ∀ r F2 v H2, P r → EPost X.K F σ H s F2 H2 r.2 → OR X.K F2 σ H H2 r.2 v r.1 → Q v H2) : WpE X e σ H Q :=
  h F σ H s Q sr (w.mono (fun r hr F2 v H2 q o => k r F2 v H2 hr q o) fun c a => a.acc rfl)
theorem SimT.runS {m : DEnv → R (Bool × DEnv)} {Q : Bool → Hp → Prop} (h : SimT X e m) (sr : SR X.K F σ H s) {P : Bool × DEnv → Prop} (w : RP (m s) P (AccS X H (Own σ s) σ.length))
    (k : ∀ r F2 H2, P r → EPost X.K F σ H s F2 H2 r.2 → Q r.1 H2) : WpT X e σ H Q :=
  h F σ H s Q sr (w.mono (fun r hr F2 H2 q => k r F2 H2 hr q) fun c a => a.acc rfl)
/-! ### blocks -/
theorem sims_nil : SimSs X [] (denSs C []) := by
  intro F σ H s D sr w
  simp only [denSs] at w
  exact .of pss_nil (w F σ H (.refl sr))
theorem sims_cons {i : IS} {is : List IS} (h1 : SimS X st (denS C i)) (h2 : SimSs X sts (denSs C is)) : SimSs X (st :: sts) (denSs C (i :: is)) := by
  intro F σ H s D sr w
  simp only [denSs] at w
  refine .of (pss_cons ps_w pss_w) ?_
  refine h1 F σ H s _ sr (w.bind.mono (fun o q => ?_) fun _ a => a)
  cases o with
  | next s1 => exact fun F1 σ1 H1 p1 => h2.run p1 q
  | brk s1 => exact fun F1 σ1 H1 p1 => q F1 σ1 H1 p1
  | cont s1 => exact fun F1 σ1 H1 p1 => q F1 σ1 H1 p1
  | ret v s1 => exact fun F1 σ1 u H1 p1 o => q F1 σ1 u H1 p1 o
/-! ### stores -/
theorem asgO_ok {K : PySem.W.Frag} {o : Opd} {i : Nat} {v : V} {s' : DEnv} (p : EPost K F σ H s F1 H1 s1) (h : OR K F1 σ H H1 s1 v o) (e : asgO s1 i o = some s') : ∃ F2, SPost K F σ H s F2 (σ.set i (some v)) H1 s' := by
  cases o with
  | val d => exact ⟨F1, p.s.trans (TPost.name p.sr h e).s⟩
  | slot j =>
    simp only [asgO] at e
    split at e
    · rename_i d s2 e1
      obtain ⟨F2, p2, r2⟩ := esc_ok p h e1
      exact ⟨F2, p2.s.trans (TPost.name p2.sr r2 e).s⟩
    · cases e
  | fresh ds =>
    obtain ⟨h1, h2⟩ := h
    obtain ⟨hi, rfl, hn⟩ := setN_ok (show setN s1 i (.own ds) = some s' from e)
    obtain ⟨q1, q2⟩ := p.sr.put (x := .own ds) hi h1 fun _ b _ e => (h2 b e).1
    refine ⟨F1, ⟨⟨p.ext.fr, p.ext.dm, p.ext.sub, p.ext.new, fun b o => ?_⟩, q1, List.length_set .., fun ds' e' => ?_⟩⟩
    · rcases q2 b o with z | ⟨_, _, z⟩
      · exact p.ext.own b z
      · exact .inr (h2 b z).2
    · obtain ⟨h3, ds2, h4⟩ := p.s.io ds' e'
      have : i ≠ 0 := fun z => by subst z; exact hn _ h4 trivial
      exact ⟨List.getElem?_set_ne this, ds2, by rw [List.getElem?_set_ne this]; exact h4⟩
theorem sim_asg {i : Nat} {x : Str} (hN : X.N.Nodup) (h : StOk X i x) (hs : swapsWith e (some (.Name x p2)) pos.line X.env = pure false) (he : SimE X e (denE C ie)) : SimS X (.Assign [.Name x p2] e pos) (denS C (.asg (.name i) ie)) := by
  intro F σ H s D sr w
  simp only [denS] at w
  refine .of (ps_set hN h.ix h.loc pe_w hs h.fn) ?_
  refine he.runS sr w.bind fun r F1 v H1 w1 p1 o1 => ?_
  obtain ⟨s2, e2, w2⟩ := w1.bind.ofO
  obtain ⟨F2, p2⟩ := asgO_ok p1 o1 e2
  exact w2 F2 _ H1 p2
theorem sim_asgT {is : List Nat} (hg : SimGV X tg is) (hs : swapsWithSole [tg] e pos.line X.env = pure false) (hw : swappedStores [tg] e X.env = pure none) (h1 : (assignEach [tg] X.env).map (·.2) = [assign tg X.env]) (he : SimE X e (denE C ie)) :
    SimS X (.Assign [tg] e pos) (denS C (.asg (.tup is) ie)) := by
  intro F σ H s D sr w
  simp only [denS] at w
  refine .of (ps_asg pe_w pg_w hs hw h1) ?_
  refine he.runS sr w.bind fun r F1 v H1 w1 p1 o1 => ?_
  obtain ⟨d, e2, w2⟩ := w1.bind.ofO
  obtain ⟨s2, e3, w3⟩ := w2.bind.ofO
  exact hg F1 σ H1 _ _ v s2 _ p1.sr (p1.sr.view o1 e2) e3 fun σ' t => w3 F1 σ' H1 (p1.s.trans t.s)
theorem put_ok {K : PySem.W.Frag} {i : Nat} {v : V} {x : S} {s' : DEnv} (sr : SR K F σ H s) (h : SlR K F H v x) (nw : ∀ ds b, S.muts x = some ds → v = .ref b → ¬ Own σ s b) (e : setN s i x = some s') :
    SR K F (σ.set i (some v)) H s' ∧ (∀ b, Own (σ.set i (some v)) s' b → Own σ s b ∨ ∃ ds, S.muts x = some ds ∧ v = .ref b) ∧ (∀ ds, s[0]? = some (some (.io ds)) → (σ.set i (some v))[0]? = σ[0]? ∧ s'[0]? = some (some (S.io ds))) := by
  obtain ⟨hi, rfl, hn⟩ := setN_ok e
  obtain ⟨q1, q2⟩ := sr.put (x := x) hi h nw
  refine ⟨q1, q2, fun ds e' => ?_⟩
  have : i ≠ 0 := fun z => by subst z; exact hn _ e' trivial
  exact ⟨List.getElem?_set_ne this, by rw [List.getElem?_set_ne this]; exact e'⟩
/-- what a name gets of an operand that is no slot -/
def sOf : Opd → S
  | .val d => .val d
  | .fresh ds => .own ds
  | .slot _ => .val .non
/-- a, b = x, y where the stores are not exchanged -/
theorem ps_par2 {i j : Nat} {x y : Str} {ta : TA} {px py pt pt2 : Pos} {kt k2 : Nat} (hc : X.calm = true) (hN : X.N.Nodup) (hx : StOk X i x) (hy : StOk X j y) (hab : PA X [a, b] ta)
    (hw : swappedStores [.Tuple [.Name x px, .Name y py] kt pt] (.Tuple [a, b] k2 pt2) X.env = pure none)
    (hs : swapsWithSole [.Tuple [.Name x px, .Name y py] kt pt] (.Tuple [a, b] k2 pt2) pos.line X.env = pure false := by rfl) :
    PS X (.Assign [.Tuple [.Name x px, .Name y py] kt pt] (.Tuple [a, b] k2 pt2) pos) (tPar i j ta) := by
  refine ⟨fun pins s σ H D I h => ?_⟩
  refine wpAny_Assign_stores (PyProof.Rows.Tuple_ (thn (hab.run _ pins s σ H _ I h) fun us s1 ⟨vs, H1, I1, r1, q1⟩ => ?_)) hs hw
  obtain ⟨v, w, e1, q1⟩ := q1
  subst e1
  obtain ⟨u1, u2, rfl, rv, rw'⟩ : ∃ u1 u2, us = [u1, u2] ∧ RelV v u1 ∧ RelV w u2 := by
    cases r1 with
    | cons p q =>
      cases q with
      | cons p' q' =>
        cases q'
        exact ⟨_, _, rfl, p, p'⟩
  refine wpAny_newObj_type ?_ (by show 2 ≤ sizeLine; decide)
  have I2 : Inv X pins σ H1 { s1 with heap := s1.heap.push { cls := .type "tuple", data := .seq [u1, u2].toArray } } := I1.kept (t' := s1.toks) fun b o e => Heap.get?_push_of_some _ e
  have G : PGs X [.Name x px, .Name y py] _ := pgs_cons (pg_name hN hx.ix hx.loc hx.fn) (pgs_cons (pg_name hN hy.ix hy.loc hy.fn) pgs_nil rfl) rfl
  show wpAny _ _ (assign (.Tuple [.Name x px, .Name y py] kt pt) X.env (.ref s1.heap.objs.size)) _ _ _
  refine PyProof.Rows.assign_Tuple_tuple (items := #[u1, u2]) (I.ok.hd hc) (PyProof.Rows.IsTup.new s1.heap _) rfl rfl fun h' hx' => ?_
  have I3 := I2.kept (h' := h') (t' := s1.toks) fun b o e => hx' b o (Nat.ne_of_lt (Heap.lt_size e)) e
  refine thn (G.run pins _ σ H1 [v, w] _ (fun σ' H' => σ' = (σ.set i (some v)).set j (some w) ∧ H' = H1) I3 (.cons rv (.cons rw' .nil)) ⟨_, _, rfl, _, _, rfl, rfl, rfl, rfl⟩) fun _ s2 ⟨σ', H', I4, e1, e2⟩ => ?_
  subst e1 e2
  exact ⟨_, _, I4, q1⟩
theorem sim_par {i j : Nat} {x y : Str} {px py pt pt2 : Pos} {kt k2 : Nat} (hx : StOk X i x) (hy : StOk X j y) (hN : X.N.Nodup)
    (hn : notStar a = true) (hn2 : notStar b = true) (hP : i ≠ j → ∀ ta, PA X [a, b] ta → PS X (.Assign [.Tuple [.Name x px, .Name y py] kt pt] (.Tuple [a, b] k2 pt2) pos) (tPar i j ta)) (ha : SimE X a (denE C ia)) (hb : SimE X b (denE C ib)) :
    SimS X (.Assign [.Tuple [.Name x px, .Name y py] kt pt] (.Tuple [a, b] k2 pt2) pos) (denS C (.par i j ia ib)) := by
  intro F σ H s D sr w
  simp only [denS] at w
  split at w
  · exact w.elim
  · rename_i hij
    refine .of (hP hij _ (pa_cons pe_w (pa_cons pe_w pa_nil (star_cons hn2)) (star_cons hn))) ?_
    refine ha.runS sr w.bind fun r1 F1 v1 H1 w1 p1 o1 => ?_
    refine hb F1 σ H1 r1.2 _ p1.sr (w1.bind.mono (fun r2 w2 F2 v2 H2 q2 o2 => ?_) fun c a => (a.acc rfl).mono p1.ext)
    have p2 := p1.trans q2
    have o1' := o1.mono q2 p1.sr
    refine ⟨v1, v2, rfl, ?_⟩
    obtain ⟨u1, s1⟩ := r1
    obtain ⟨u2, s2⟩ := r2
    have key : ∀ (x1 x2 : S) (s3 s4 : DEnv), SlR X.K F2 H2 v1 x1 → SlR X.K F2 H2 v2 x2 → (∀ ds b, S.muts x1 = some ds → v1 = .ref b → ¬ Own σ s2 b ∧ H b = none ∧ H1 b ≠ none) → (∀ ds b, S.muts x2 = some ds → v2 = .ref b → ¬ Own σ s2 b ∧ H1 b = none) →
        setN s2 i x1 = some s3 → setN s3 j x2 = some s4 → SPost X.K F σ H s F2 ((σ.set i (some v1)).set j (some v2)) H2 s4 := fun x1 x2 s3 s4 h1 h2 n1 n2 e1 e2 => by
      obtain ⟨a1, a2, a3⟩ := put_ok p2.sr h1 (fun ds b m e => (n1 ds b m e).1) e1
      obtain ⟨b1, b2, b3⟩ := put_ok a1 h2 (fun ds b m e o => by
        rcases a2 b o with z | ⟨ds1, m1, z⟩
        · exact (n2 ds b m e).1 z
        · exact (n1 ds1 b m1 z).2.2 (n2 ds b m e).2) e2
      refine ⟨⟨p2.ext.fr, p2.ext.dm, p2.ext.sub, p2.ext.new, fun b o => ?_⟩, b1, by rw [List.length_set, List.length_set], fun ds e => ?_⟩
      · rcases b2 b o with z | ⟨ds2, m2, z⟩
        · rcases a2 b z with z | ⟨ds1, m1, z⟩
          · exact p2.ext.own b z
          · exact .inr (n1 ds1 b m1 z).2.1
        · exact .inr (p1.ext.dm b (n2 ds2 b m2 z).2)
      · obtain ⟨h3, ds2, h4⟩ := p2.s.io ds e
        obtain ⟨h5, h6⟩ := a3 ds2 h4
        obtain ⟨h7, h8⟩ := b3 ds2 h6
        exact ⟨h7.trans h5, ds2, h8⟩
    have own1 : ∀ {ds : List Cv.D}, OR X.K F1 σ H H1 s1 v1 (.fresh ds) → ∀ b, v1 = .ref b → H1 b ≠ none := fun {ds} h b e z => by
      obtain ⟨⟨a', vs, e1, h1, _⟩, _⟩ := h
      rw [e1] at e
      cases e
      rw [h1] at z; cases z
    cases u1 with
    | slot _ => exact w2.elim
    | val d1 =>
      cases u2 with
      | slot _ => exact w2.elim
      | val d2 =>
        obtain ⟨s3, e3, w3⟩ := w2.bind.ofO
        obtain ⟨s4, e4, w4⟩ := w3.bind.ofO
        exact w4 F2 _ H2 (key (.val d1) (.val d2) s3 s4 o1' o2 (fun _ _ m => nomatch m) (fun _ _ m => nomatch m) e3 e4)
      | fresh ds2 =>
        obtain ⟨s3, e3, w3⟩ := w2.bind.ofO
        obtain ⟨s4, e4, w4⟩ := w3.bind.ofO
        exact w4 F2 _ H2 (key (.val d1) (.own ds2) s3 s4 o1' o2.1 (fun _ _ m => nomatch m) (fun _ b _ e => o2.2 b e) e3 e4)
    | fresh ds1 =>
      cases u2 with
      | slot _ => exact w2.elim
      | val d2 =>
        obtain ⟨s3, e3, w3⟩ := w2.bind.ofO
        obtain ⟨s4, e4, w4⟩ := w3.bind.ofO
        exact w4 F2 _ H2 (key (.own ds1) (.val d2) s3 s4 o1'.1 o2 (fun _ b _ e => ⟨(o1'.2 b e).1, (o1'.2 b e).2, own1 o1 b e⟩) (fun _ _ m => nomatch m) e3 e4)
      | fresh ds2 =>
        obtain ⟨s3, e3, w3⟩ := w2.bind.ofO
        obtain ⟨s4, e4, w4⟩ := w3.bind.ofO
        exact w4 F2 _ H2 (key (.own ds1) (.own ds2) s3 s4 o1'.1 o2.1 (fun _ b _ e => ⟨(o1'.2 b e).1, (o1'.2 b e).2, own1 o1 b e⟩) (fun _ b _ e => o2.2 b e) e3 e4)
theorem sim_expr (hs : swapsWith e none pos.line X.env = pure false) (he : SimE X e (denE C ie)) : SimS X (.Expr e pos) (denS C (.expr ie)) := by
  intro F σ H s D sr w
  simp only [denS] at w
  refine .of (ps_expr pe_w hs) ?_
  exact he.runS sr w.bind fun r F1 v H1 w1 p1 o1 => w1 F1 σ H1 p1.s
theorem sim_ret (he : SimE X e (denE C ie)) : SimS X (.Return (some e) pos) (denS C (.ret ie)) := by
  intro F σ H s D sr w
  simp only [denS] at w
  refine .of (ps_ret pe_w) ?_
  exact he.runS sr w.bind fun r F1 v H1 w1 p1 o1 => w1 F1 σ v H1 p1.s o1
theorem sim_retN : SimS X (.Return none pos) (denS C .retN) := by
  intro F σ H s D sr w
  simp only [denS] at w
  exact .of ps_retN (w F σ .non H (.refl sr) .non)
theorem sim_pass : SimS X (.Pass pos) (denS C .pass) := by
  intro F σ H s D sr w
  simp only [denS] at w
  exact .of ps_pass (w F σ H (.refl sr))
theorem sim_cont : SimS X (.Continue pos) (denS C .cont) := by
  intro F σ H s D sr w
  simp only [denS] at w
  exact .of ps_continue (w F σ H (.refl sr))
theorem sim_brk : SimS X (.Break pos) (denS C .brk) := by
  intro F σ H s D sr w
  simp only [denS] at w
  exact .of ps_break (w F σ H (.refl sr))
theorem sim_if {ta tb : List Stmt} {sa sb : List IS} (hc : SimT X c (denT C ie)) (ha : SimSs X ta (denSs C sa)) (hb : SimSs X tb (denSs C sb)) : SimS X (.If c ta tb pos) (denS C (.ife ie sa sb)) := by
  intro F σ H s D sr w
  simp only [denS] at w
  refine .of (ps_if pt_w pss_w pss_w) ?_
  refine hc.runS sr w.bind fun t F1 H1 w1 p1 => ?_
  obtain ⟨t, s1⟩ := t
  cases t with
  | true => simp only [if_true] at w1 ⊢; exact ha.run p1.s w1
  | false => simp only [Bool.false_eq_true, if_false] at w1 ⊢; exact hb.run p1.s w1
def notSlice : Expr → Bool
  | .Slice .. => false
  | _ => true
theorem sub_plain {o i : Expr} (h : notSlice i = true) : ∀ v, assign (.Subscript o i pos) X.env v = (do
      let ov ← holding [v] (eval o X.env)
      let iv ← holding [v, ov] (eval i X.env)
      standAt pos
      holding [v, ov, iv] (setItem ov iv v)
      release [v, ov, iv] []) := by
  intro v
  cases i <;> first | rfl | cases h
/-- x[k] = v -/
theorem sim_sub {i : Nat} {x : Str} {p3 : Pos} (hN : X.N[i]? = some x) (hv : Vis X.env.scope x) (hd : (x == ("__debug__" : Str)) = false) (hcd : (x == ("__classdict__" : Str)) = false) (hi : SimE X a (denE C ia)) (he : SimE X e (denE C ie))
    (hs : swapsWithSole [.Subscript (.Name x p3) a p2] e pos.line X.env = pure false) (hw : swappedStores [.Subscript (.Name x p3) a p2] e X.env = pure none) (hsl : notSlice a = true) :
    SimS X (.Assign [.Subscript (.Name x p3) a p2] e pos) (denS C (.sub i ia ie)) := by
  intro F σ H s D sr w
  simp only [denS] at w
  refine .of (ps_asg pe_w (pg_sub (pe_var hN hv hd hcd) pe_w set_list (sub_plain hsl)) hs hw) ?_
  refine he.runS sr w.bind fun r F1 v H1 w1 p1 o1 => ?_
  obtain ⟨⟨dv, s2⟩, e2, w2⟩ := w1.bind.ofO
  obtain ⟨F2, p2, r2⟩ := esc_ok p1 o1 e2
  obtain ⟨ds0, e0, w2⟩ := w2.bind.ofO
  obtain ⟨y0, a0, vs0, k1, k2, k3, k4, k5, k6⟩ := slot_own p2.sr e0
  refine ⟨.ref a0, k3, ?_⟩
  refine hi F2 σ H1 s2 _ p2.sr (w2.bind.mono (fun r3 w3 F3 u H3 q3 o3 => ?_) fun c a => (a.acc rfl).mono p2.ext)
  have p3 := p2.trans q3
  obtain ⟨k, ek, w4⟩ := w3.bind.ofO
  obtain ⟨ds, e1, w5⟩ := w4.bind.ofO
  obtain ⟨y1, a1, vs1, g1, g2, g3, g4, g5, g6⟩ := slot_own p3.sr e1
  rw [k3] at g3
  cases g3
  cases k with
  | int n =>
    cases (p3.sr.view o3 ek).int_
    obtain ⟨j, ej, w6⟩ := w5.bind.ofO
    have rv := p2.sr.rel q3.ext r2
    have p := own_write p3.sr g1 g2 k3 (g5.set rv j) (by rw [List.length_set]; exact g6)
    exact ⟨a0, vs1, n, j, rfl, rfl, g4, by rw [g5.len]; exact ej, w6 F3 σ _ (p3.trans p).s⟩
  | _ => exact w5.elim
end
end Cv
set_option maxRecDepth 100000
set_option maxHeartbeats 2000000
set_option autoImplicit false
/-! Engine, part M: loops, comprehensions as statements and values, raise, defs. -/
namespace Cv
open PySem PySem.Spec L2
variable [TabC]
section
variable {X : Cx} {st : Stmt} {sts body : List Stmt} {e a b c tg iter : Expr} {pos p2 : Pos} {F F1 : ASet} {σ σ1 : St} {H H1 : Hp} {s s1 : DEnv} {C : Cal} {ie ia ib : IE} {D : Ends}
def notSet : Expr → Bool
  | .Set .. => false
  | _ => true
theorem folded_plain {env : Env} (h : notSet e = true) : ∀ x, foldedSetIterable e env x = pure x := by
  intro x
  cases e <;> first | rfl | cases h
theorem sim_for {t : Tgt} {mI : DEnv → R (List Cv.D × DEnv)} {mb : DEnv → R Out} {m : DEnv → R Out} (hm : ∀ s, m s = (mI s).bind fun it => forLoop (fun s d => setT s t d) mb it.1 it.2) (hp : PassesOwn (model X.prog X.w) X.A X.env X.xe) (hc : X.calm = true) (hs : notSet iter = true)
    (hI : SimI X tg iter mI) (hg : SimG X tg t) (hb : SimSs X body mb) : SimS X (.For tg iter body [] pos) m := by
  intro F σ H s D sr w
  rw [hm] at w
  refine .of (ps_for hp hc pi_w pg_w pss_w (folded_plain hs)) ?_
  refine hI F σ H s _ sr (w.bind.mono (fun it w1 F1 J H1 p1 itd hlim => ?_) fun c a => a.acc rfl)
  obtain ⟨ds, s1⟩ := it
  simp only at p1 itd hlim w1
  refine ⟨fun i m σ' H' => m = ds.length - i ∧ i ≤ ds.length ∧ ∃ (F' : ASet) (s' : DEnv), RP (forLoop (fun s d => setT s t d) mb (ds.drop i) s') (OutP X.K F σ H s D) (AccS X H (Own σ s) σ.length) ∧ SPost X.K F1 σ H1 s1 F' σ' H' s',
    ⟨ds.length, by simp, Nat.zero_le _, F1, s1, w1, .refl p1.sr⟩, ?_⟩
  rintro i m σ' H' ⟨rfl, hi, F', s', wl, q⟩
  have it' := itd F' H' q.ext.sub (p1.sr.keep q.ext)
  by_cases hlt : i < ds.length
  · obtain ⟨d, ed⟩ : ∃ d, ds[i]? = some d := ⟨ds[i], List.getElem?_eq_getElem hlt⟩
    have hdrop : ds.drop i = d :: ds.drop (i + 1) := by
      rw [List.drop_eq_getElem_cons hlt]
      rw [List.getElem?_eq_getElem hlt] at ed
      rw [Option.some.inj ed]
    rw [hdrop] at wl
    simp only [forLoop] at wl
    obtain ⟨s2, e2, w2⟩ := wl.bind.ofO
    refine .inr ⟨(it'.1 i d ed).1, _, fun σ'' H'' h => ⟨ds.length - (i + 1), by omega, h⟩, fun x H2 y => ?_⟩
    obtain ⟨sm, rx⟩ := (it'.1 i d ed).2 x H2 y
    refine hg F' σ' H2 s' d x s2 _ (q.sr.same sm) rx e2 fun σ2 tp => ?_
    have q2 : SPost X.K F1 σ H1 s1 F' σ2 H2 s2 := (q.trans (EPost.same q.sr sm).s).trans tp.s
    have pq := p1.s.trans q2
    refine hb F' σ2 H2 s2 _ q2.sr (w2.bind.mono (fun o w3 => ?_) fun c a => by rw [pq.len]; exact a.mono pq.ext)
    cases o with
    | next s3 => exact fun F3 σ3 H3 q3 => ⟨rfl, hlt, F3, s3, w3, q2.trans q3⟩
    | cont s3 => exact fun F3 σ3 H3 q3 => ⟨rfl, hlt, F3, s3, w3, q2.trans q3⟩
    | brk s3 => exact fun F3 σ3 H3 q3 => w3 F3 σ3 H3 (pq.trans q3)
    | ret v s3 => exact fun F3 σ3 u H3 q3 o => w3 F3 σ3 u H3 (pq.trans q3) (o.early pq.ext.dm)
  · have e : i = ds.length := by omega
    subst e
    refine .inl ⟨it'.2, ?_⟩
    rw [List.drop_length] at wl
    exact wl F' σ' H' (p1.s.trans q)
theorem sim_while {sb : List IS} (hp : PassesOwn (model X.prog X.w) X.A X.env X.xe) (hc : SimT X c (denT C ie)) (hb : SimSs X body (denSs C sb)) : SimS X (.While c body [] pos) (denS C (.whl ie sb)) := by
  intro F σ H s D sr w
  simp only [denS] at w
  refine .of (ps_while hp pt_w pss_w) ?_
  refine ⟨fun m σ' H' => ∃ (F' : ASet) (s' : DEnv), RP (whileLoop (fun s => denT C ie s) (fun s => denSs C sb s) m s') (OutP X.K F σ H s D) (AccS X H (Own σ s) σ.length) ∧ SPost X.K F σ H s F' σ' H' s', ⟨_, F, s, w, .refl sr⟩, ?_⟩
  rintro m σ' H' ⟨F', s', wl, q⟩
  cases m with
  | zero => exact wl.elim
  | succ m =>
    simp only [whileLoop] at wl
    refine hc F' σ' H' s' _ q.sr (wl.bind.mono (fun t w1 F1 H1 p1 => ?_) fun c a => by
      have := a.mono q.ext
      exact this.acc q.len)
    obtain ⟨t, s1⟩ := t
    have pq := q.trans p1.s
    cases t with
    | false => exact w1 F1 σ' H1 pq
    | true =>
      simp only [if_true] at w1 ⊢
      refine ⟨_, fun σ'' H'' h => ⟨m, Nat.lt_succ_self _, h⟩, ?_⟩
      refine hb F1 σ' H1 s1 _ p1.sr (w1.bind.mono (fun o w3 => ?_) fun c a => by rw [q.len]; exact a.mono pq.ext)
      cases o with
      | next s3 => exact fun F3 σ3 H3 q3 => ⟨F3, s3, w3, pq.trans q3⟩
      | cont s3 => exact fun F3 σ3 H3 q3 => ⟨F3, s3, w3, pq.trans q3⟩
      | brk s3 => exact fun F3 σ3 H3 q3 => w3 F3 σ3 H3 (pq.trans q3)
      | ret v s3 => exact fun F3 σ3 u H3 q3 o => w3 F3 σ3 u H3 (pq.trans q3) (o.early pq.ext.dm)
/-! ### comprehensions -/
abbrev Blk (X : Cx) (scope : Scope) (s : Shared) (H : Hp) (C : Addr) (cl : List (Str × Addr)) (fp : List Addr) : Cx := X.blk s H scope (compEnvC scope cl C X.env) fp
def BG (X : Cx) (scope : Scope) (tg : Expr) : TG := fun v σ H Q => ∀ s H0 C cl fp, WpG (Blk X scope s H0 C cl fp) tg v σ H Q
def BT (X : Cx) (scope : Scope) (e : Expr) : TT := fun σ H Q => ∀ s H0 C cl fp, WpT (Blk X scope s H0 C cl fp) e σ H Q
def BE (X : Cx) (scope : Scope) (e : Expr) : TE := fun σ H Q => ∀ s H0 C cl fp, WpE (Blk X scope s H0 C cl fp) e σ H Q
theorem pg_b {scope : Scope} (s : Shared) (H : Hp) (C : Addr) (cl : List (Str × Addr)) (fp : List Addr) : PG (Blk X scope s H C cl fp) tg (BG X scope tg) := ⟨fun pins sh σ H v u Q I r h => h _ _ _ _ _ pins sh u I r⟩
theorem pt_b {scope : Scope} (s : Shared) (H : Hp) (C : Addr) (cl : List (Str × Addr)) (fp : List Addr) : PT (Blk X scope s H C cl fp) e (BT X scope e) := ⟨fun pins sh σ H Q I h => h _ _ _ _ _ pins sh I⟩
theorem pe_b {scope : Scope} (s : Shared) (H : Hp) (C : Addr) (cl : List (Str × Addr)) (fp : List Addr) : PE (Blk X scope s H C cl fp) e (BE X scope e) := ⟨fun pins sh σ H Q I h => h _ _ _ _ _ pins sh I⟩
structure LcOk (X : Cx) (scope : Scope) (tg iter elt : Expr) (ifs : List Expr) (t : Tgt) (mI : DEnv → R (List Cv.D × DEnv)) (mc : DEnv → R (Bool × DEnv)) (me : DEnv → R (Opd × DEnv)) (own : List (Str × Nat)) (tt : TT) : Prop where
  nset : notSet iter = true
  blk : BlkOk X.N X.env.scope scope own
  own : own.map (·.2) = tgtSlots t
  it : SimI X tg iter mI
  tgt : ∀ s H C cl fp, SimG (Blk X scope s H C cl fp) tg t
  elt : ∀ s H C cl fp, SimE (Blk X scope s H C cl fp) elt me
  tst : ∀ s H C cl fp, PTs (Blk X scope s H C cl fp) ifs tt
  tsim : ∀ (F : ASet) (σ : St) (H : Hp) (s : DEnv) (Q : Bool → Hp → Prop), SR X.K F σ H s → RP (mc s) (fun r => ∀ F' H', EPost X.K F σ H s F' H' r.2 → Q r.1 H') (fun _ => False) → tt σ H Q
theorem LcOk.read {scope : Scope} {elt : Expr} {ifs : List Expr} {t : Tgt} {mI : DEnv → R (List Cv.D × DEnv)} {mc : DEnv → R (Bool × DEnv)} {me : DEnv → R (Opd × DEnv)} {own : List (Str × Nat)} {tt : TT} (L : LcOk X scope tg iter elt ifs t mI mc me own tt)
    {Q : VK} (sr : SR X.K F σ H s)
    (w : RP ((mI s).bind fun it => (compLoop (fun s => wipeD s (tgtSlots t)) (fun s d => setT s t d) mc (fun s => eltR me s) it.1 [] it.2).bind fun r => R.ok (Opd.fresh r.1, backD it.2 r.2 (tgtSlots t)))
      (fun r => ∀ F' v H', EPost X.K F σ H s F' H' r.2 → OR X.K F' σ H H' r.2 v r.1 → Q v H') (Acc X σ H (Own σ s))) : tLc (WpI X tg iter) (BG X scope tg) tt (BE X scope elt) (own.map (·.2)) σ H Q := by
  rw [L.own]
  refine lc_sim L.it (fun F σ H s d v s' Q sr r e k s0 H0 C cl fp => L.tgt s0 H0 C cl fp F σ H s d v s' Q sr r e k) L.tsim (fun F σ H s Q sr w s0 H0 C cl fp => L.elt s0 H0 C cl fp F σ H s Q sr (w.mono (fun _ z => z) fun _ z => z.elim)) sr w
theorem sim_comp {scope : Scope} {elt : Expr} {ifs : List Expr} {t : Tgt} {mI : DEnv → R (List Cv.D × DEnv)} {mc : DEnv → R (Bool × DEnv)} {me : DEnv → R (Opd × DEnv)} {own : List (Str × Nat)} {tt : TT} {m : DEnv → R (Opd × DEnv)} (hc : X.calm = true) (hN : X.N.Nodup) (L : LcOk X scope tg iter elt ifs t mI mc me own tt)
    (hm : ∀ s, m s = (mI s).bind fun it => (compLoop (fun s => wipeD s (tgtSlots t)) (fun s d => setT s t d) mc (fun s => eltR me s) it.1 [] it.2).bind fun r => R.ok (Opd.fresh r.1, backD it.2 r.2 (tgtSlots t))) :
    SimE X (.ListComp elt [⟨tg, iter, ifs, 0⟩] scope pos) m := by
  intro F σ H s Q sr w
  rw [hm] at w
  exact .of (pe_lc hc hN pi_w L.blk pg_b L.tst pe_b (folded_plain L.nset)) (L.read sr w)
theorem sim_asgLc {scope : Scope} {elt : Expr} {ifs : List Expr} {t : Tgt} {mI : DEnv → R (List Cv.D × DEnv)} {mc : DEnv → R (Bool × DEnv)} {me : DEnv → R (Opd × DEnv)} {own : List (Str × Nat)} {tt : TT} {i : Nat} {y : Str} {p3 : Pos} (hc : X.calm = true) (hN : X.N.Nodup) (L : LcOk X scope tg iter elt ifs t mI mc me own tt)
    (hm : ∀ s, denE C ie s = (mI s).bind fun it => (compLoop (fun s => wipeD s (tgtSlots t)) (fun s d => setT s t d) mc (fun s => eltR me s) it.1 [] it.2).bind fun r => R.ok (Opd.fresh r.1, backD it.2 r.2 (tgtSlots t)))
    (hy : X.N[i]? = some y) (hyl : X.env.scope.names.lookup y = some .local) (hsw : swapsWith (.ListComp elt [⟨tg, iter, ifs, 0⟩] scope p2) (some (.Name y p3)) pos.line X.env = pure true) :
    SimS X (.Assign [.Name y p3] (.ListComp elt [⟨tg, iter, ifs, 0⟩] scope p2) pos) (denS C (.asg (.name i) ie)) := by
  intro F σ H s D sr w
  simp only [denS] at w
  refine .of (ps_setLc hc hN hy hyl hsw pi_w L.blk pg_b L.tst pe_b (folded_plain L.nset)) ?_
  refine L.read sr ?_
  rw [← hm]
  refine w.bind.mono (fun r w1 F1 v H1 p1 o1 => ?_) fun c a => a.acc rfl
  obtain ⟨s2, e2, w2⟩ := w1.bind.ofO
  obtain ⟨F2, p2⟩ := asgO_ok p1 o1 e2
  exact w2 F2 _ H1 p2
/-! ### raise -/
theorem sim_raise {cn : String} {Ca : Addr} (hc : X.calm = true) (hm : X.mg (Str.ofString cn) = some (.ref Ca)) (mk : L2N.PMk X e (fun _ H Q => Q (.ref Ca) none H)) : SimS X (.Raise (some e) none pos) (denS C (.raise cn)) := by
  intro F σ H s D sr w
  simp only [denS] at w
  obtain ⟨W, tk, hW⟩ := (show AccS X H (Own σ s) σ.length cn from w)
  exact .of (L2N.ps_raise hc tk mk) (hW σ H rfl ⟨fun _ _ e _ _ => e, fun _ e => e, sr.tb⟩ Ca hm)
end
/-! ### a def -/
section
variable {P : Program} {w : World} {K : PySem.W.Frag} {mg : Str → Option Value} {base : Heap}
/-- the context of a def's body -/
structure BodyCx (X : Cx) (N : List Str) (sc : Scope) (n : Nat) : Prop where
  names : X.N = N
  scope : X.env.scope = sc
  room : Room n X.A
  calm : X.calm = true
  fn : ∀ x, X.fn x = true
  po : PassesOwn (model X.prog X.w) X.A X.env X.xe
theorem start_SR {F : ASet} {H : Hp} {N : List Str} {vs : List V} {Ss : List S} {fd : FD} (sr : SR K F (vs.map some) H (Ss.map some)) (hN : N.length = fd.ns) :
    SR K F (L2.start N vs) H (startD fd Ss) ∧ (∀ b, Own (L2.start N vs) (startD fd Ss) b ↔ ArgO vs Ss b) := by
  have hl : vs.length = Ss.length := by have := sr.len; simpa using this
  have parts : ∀ (i : Nat) (x : S), (startD fd Ss)[i]? = some (some x) → (Ss.map some)[i]? = some (some x) ∧ (L2.start N vs)[i]? = (vs.map some)[i]? := fun i x e => by
    unfold startD at e
    by_cases hi : i < (Ss.map some).length
    · rw [List.getElem?_append_left hi] at e
      refine ⟨e, ?_⟩
      unfold L2.start
      exact List.getElem?_append_left (by rw [List.length_map, hl]; rw [List.length_map] at hi; exact hi)
    · rw [List.getElem?_append_right (by omega)] at e
      rw [List.getElem?_replicate] at e
      split at e <;> cases e
  have back : ∀ (i : Nat) (x : S), (Ss.map some)[i]? = some (some x) → (startD fd Ss)[i]? = some (some x) ∧ (L2.start N vs)[i]? = (vs.map some)[i]? := fun i x e => by
    have hi : i < (Ss.map some).length := (List.getElem?_eq_some_iff.mp e).1
    unfold startD L2.start
    exact ⟨by rw [List.getElem?_append_left hi]; exact e, List.getElem?_append_left (by rw [List.length_map, hl]; rw [List.length_map] at hi; exact hi)⟩
  refine ⟨⟨?_, fun i x e => ?_, fun i j x y ds es b e1 e2 e3 e4 e5 e6 => ?_, sr.fdm, sr.tb⟩, fun b => ⟨fun ⟨i, x, ds, e1, e2, e3⟩ => ?_, fun ⟨i, x, ds, e1, e2, e3⟩ => ?_⟩⟩
  · unfold L2.start startD
    simp only [List.length_append, List.length_map, List.length_replicate]
    rw [hl, hN]
  · obtain ⟨h1, h2⟩ := parts i x e
    rw [h2]
    exact sr.ats i x h1
  · obtain ⟨h1, h2⟩ := parts i x e1
    obtain ⟨h3, h4⟩ := parts j y e3
    exact sr.sep i j x y ds es b h1 e2 h3 e4 (by rw [← h2]; exact e5) (by rw [← h4]; exact e6)
  · obtain ⟨h1, h2⟩ := parts i x e1
    exact ⟨i, x, ds, h1, e2, by rw [← h2]; exact e3⟩
  · obtain ⟨h1, h2⟩ := back i x e1
    exact ⟨i, x, ds, h1, e2, by rw [h2]; exact e3⟩
theorem args_mut {io : Bool} {Ss : List S} (h : argsOk io Ss = true) {k : Nat} {x : S} {ds : List D} (e : Ss[k]? = some x) (m : S.muts x = some ds) : k = 0 ∧ io = true ∧ ∃ ds, Ss[0]? = some (.io ds) := by
  have nv : ∀ {l : List S} {k : Nat}, l.all S.isVal = true → l[k]? = some x → False := fun {l k} hl e => by
    have := List.all_eq_true.mp hl x (List.mem_of_getElem? e)
    cases x with
    | val d => cases m
    | _ => cases this
  cases Ss with
  | nil => cases e
  | cons y r =>
    cases y with
    | io d0 =>
      simp only [argsOk, Bool.and_eq_true] at h
      cases k with
      | zero => exact ⟨rfl, h.1, d0, rfl⟩
      | succ k => exact (nv h.2 e).elim
    | val d =>
      simp only [argsOk, Bool.and_eq_true] at h
      exact (nv h.2 e).elim
    | own d =>
      simp only [argsOk, Bool.and_eq_true] at h
      exact (nv h.2 e).elim
theorem leave_ok {F F' : ASet} {H H' : Hp} {σ0 σ' : St} {s0 s' : DEnv} {vs : List V} {Ss : List S} {fd : FD} {o : Opd} {u : V} {r : Opd × List D} (sr0 : SR K F σ0 H s0) (hs : ∀ (i : Nat) (x : S), Ss[i]? = some x → s0[i]? = some (some x) ∧ ∃ v, vs[i]? = some v ∧ σ0[i]? = some (some v))
    (ho : ∀ b, Own σ0 s0 b ↔ ArgO vs Ss b) (ha : argsOk fd.io Ss = true) (q : SPost K F σ0 H s0 F' σ' H' s') (h : OR K F' σ' H H' s' u o) (e : leaveD fd o s' = .ok r) : CPost K F H vs Ss r F' u H' := by
  unfold leaveD at e
  cases e1 : leaveO s' o with
  | none => rw [e1] at e; cases e
  | some r1 =>
    rw [e1] at e
    have e : (if fd.io then (R.ofO (ioFin s')).bind fun ds => R.ok (r1, ds) else R.ok (r1, [])) = R.ok r := e
    have hr1 : r.1 = r1 := by
      split at e
      · cases e2 : ioFin s' with
        | none => rw [e2] at e; cases e
        | some ds => rw [e2] at e; cases e; rfl
      · cases e; rfl
    refine ⟨⟨fun b ob e n t => q.ext.fr b ob e (fun z => n ((ho b).mp z)) t, q.ext.dm, q.ext.sub, fun b f => (q.ext.new b f).imp id fun z => z.imp (ho b).mp id, fun b z => .inl z⟩, q.sr.fdm, ?_, q.sr.tb, fun ds e0 => ?_⟩
    · rw [hr1]
      cases o with
      | val d => cases e1; exact h
      | fresh ds => cases e1; exact ⟨h.1, fun b e => (h.2 b e).2⟩
      | slot i =>
        obtain ⟨h1, x, h2⟩ := h
        obtain ⟨v, g1, g2⟩ := q.sr.ats i x h2
        rw [h1] at g1
        cases g1
        simp only [leaveO, h2] at e1
        cases x with
        | val d => cases e1; exact g2
        | io ds => cases e1
        | own ds =>
          cases e1
          refine ⟨g2, fun b eb => ?_⟩
          subst eb
          rcases q.ext.own b ⟨i, _, ds, h2, rfl, h1⟩ with z | z
          · obtain ⟨k, y, fs, k1, k2, k3⟩ := z
            have z2 := (ho b).mp ⟨k, y, fs, k1, k2, k3⟩
            obtain ⟨k', y', fs', l1, l2, l3⟩ := z2
            have l1' : Ss[k']? = some y' := by
              simp only [List.getElem?_map, Option.map_eq_some_iff] at l1
              obtain ⟨y2, l4, l5⟩ := l1
              cases l5
              exact l4
            obtain ⟨rfl, _, d0, e0⟩ := args_mut ha l1' l2
            obtain ⟨m1, v0, m2, m3⟩ := hs 0 _ e0
            obtain ⟨n1, ds', n2⟩ := q.io d0 m1
            have l3' : σ0[0]? = some (some (V.ref b)) := by
              rw [m3]
              simp only [List.getElem?_map, Option.map_eq_some_iff] at l3
              obtain ⟨v1, l6, l7⟩ := l3
              rw [m2] at l6
              cases l6
              cases l7
              rfl
            have := q.sr.sep i 0 _ _ ds ds' b h2 rfl n2 rfl h1 (by rw [n1]; exact l3')
            subst this
            rw [n2] at h2
            cases h2
          · exact z
    · obtain ⟨_, hio, _⟩ := args_mut ha e0 rfl
      rw [if_pos hio] at e
      cases e2 : ioFin s' with
      | none => rw [e2] at e; cases e
      | some fin =>
        rw [e2] at e
        cases e
        unfold ioFin at e2
        split at e2
        · rename_i ds3 g1
          cases e2
          obtain ⟨m1, v0, m2, m3⟩ := hs 0 _ e0
          obtain ⟨v, k1, k2⟩ := q.sr.ats 0 _ g1
          obtain ⟨n1, _⟩ := q.io ds m1
          rw [n1, m3] at k1
          cases k1
          exact ⟨v0, m2, k2⟩
        · cases e2
/-- a def whose body means its den keeps the promise -/
theorem fn_sim {x qual : Str} {params : Arguments} {body : List Stmt} {sc : Scope} {dvs : List V} {kws : List (Str × V)} {f : Addr} {fdt : FuncData} {N ps : List Str} {n : Nat} {fd : FD} {C : Cal} (Fd : FunD K x qual params body sc dvs kws f fdt) (S : FnScope N ps sc) (hN : N.length = fd.ns) (hp : ps.length = fd.np)
    (hb : ∀ X : Cx, X.prog = P → X.w = w → X.K = K → X.mg = mg → X.base = base → BodyCx X N sc n → CodeAt K f X.env.code → X.env.qual = qual ++ ".<locals>." → SimSs X body (denSs C fd.body)) : FnOk P w K mg base (L2N.CX P w) (n + 1) f fdt ps (spF K mg (runF C fd)) := by
  refine fnG Fd S (fun vs H Q E h => ?_) (fun cdv A outer s H vs Q E hcv hr h => ?_)
  · obtain ⟨F, Ss, sr, w⟩ := h
    have hl : vs.length = Ss.length := by have := sr.len; simpa using this
    unfold runF at w
    split at w
    · rename_i e
      rw [hl, e.1, hp]
    · exact w.elim
  · obtain ⟨F, Ss, sr, w⟩ := h
    unfold runF at w
    split at w
    · rename_i hlen
      obtain ⟨sr0, ho⟩ := start_SR (N := N) (fd := fd) sr hN
      have hl : vs.length = Ss.length := by have := sr.len; simpa using this
      have hs : ∀ (i : Nat) (x : Cv.S), Ss[i]? = some x → (startD fd Ss)[i]? = some (some x) ∧ ∃ v, vs[i]? = some v ∧ (L2.start N vs)[i]? = some (some v) := fun i x e => by
        have hi : i < Ss.length := (List.getElem?_eq_some_iff.mp e).1
        refine ⟨?_, vs[i]'(by omega), List.getElem?_eq_getElem _, ?_⟩
        · unfold startD
          rw [List.getElem?_append_left (by rw [List.length_map]; exact hi), List.getElem?_map, e]
          rfl
        · unfold L2.start
          rw [List.getElem?_append_left (by rw [List.length_map]; omega), List.getElem?_map, List.getElem?_eq_getElem (by omega)]
          rfl
      refine ⟨_, pss_w, ?_⟩
      refine hb _ rfl rfl rfl rfl rfl ⟨rfl, rfl, hr, rfl, fun _ => rfl, passes_of rfl⟩ hcv rfl F _ H (startD fd Ss) _ sr0 ?_
      refine w.bind.mono (fun o w1 => ?_) fun c hE => ?_
      · cases o with
        | brk s' => exact w1.elim
        | cont s' => exact w1.elim
        | next s' =>
          intro F' σ' H' q
          have w1 : RP (leaveD fd (.val .non) s') _ _ := w1
          cases g : leaveD fd (.val .non) s' with
          | bad => rw [g] at w1; exact w1.elim
          | exn c =>
            unfold leaveD at g
            simp only [leaveO] at g
            have g : (if fd.io then (R.ofO (ioFin s')).bind fun ds => R.ok (Opd.val D.non, ds) else R.ok (Opd.val D.non, [])) = R.exn c := g
            split at g
            · cases e2 : ioFin s' <;> rw [e2] at g <;> cases g
            · cases g
          | ok r =>
            rw [g] at w1
            exact w1 F' .non H' (leave_ok (o := .val .non) sr0 hs ho hlen.2 q (Rel.non (K := K)) g)
        | ret v s' =>
          intro F' σ' u H' q o
          have w1 : RP (leaveD fd v s') _ _ := w1
          cases g : leaveD fd v s' with
          | bad => rw [g] at w1; exact w1.elim
          | exn c =>
            unfold leaveD at g
            cases e1 : leaveO s' v with
            | none => rw [e1] at g; cases g
            | some r1 =>
              rw [e1] at g
              have g : (if fd.io then (R.ofO (ioFin s')).bind fun ds => R.ok (r1, ds) else R.ok (r1, [])) = R.exn c := g
              split at g
              · cases e2 : ioFin s' <;> rw [e2] at g <;> cases g
              · cases g
          | ok r =>
            rw [g] at w1
            exact w1 F' u H' (leave_ok sr0 hs ho hlen.2 q o g)
      · refine ⟨fun cls d _ H => E cls d H, L2N.takes_of rfl rfl rfl rfl, fun σ' H' _ fr C' hC => hE H' ⟨fun b o e n t => fr.fr b o e (fun z => n ((ho b).mp z)) t, fr.dm, fr.tb⟩ C' hC⟩
    · exact w.elim
end
end Cv
set_option maxRecDepth 100000
set_option maxHeartbeats 2000000
set_option autoImplicit false
/-! Engine, part Ha: walks that end while an exception is handled. -/
namespace Cv
open PySem PySem.Spec L2 PyProof.Rows HotX
section
variable {prog : Program} {w : World} {A : Around} {E : Value → Shared → Prop} {s : Shared}
/-- a list's iterator at its end, asked by another builtin -/
theorem nextOf_list_endH {it l x1 : Addr} {i : Nat} {items : Array Value} {Q : Value → Shared → Prop} (hot : HotAt A x1 s.heap) (hne : x1 ≠ it) (hit : s.heap.IsListIter it l i) (hl : s.heap.IsList l items) (hx : items[i]? = none)
    (hE : ∀ h' e, Heap.ExtBut it s.heap h' → (∃ o, h'.get? e = some o ∧ o.cls = .type "StopIteration") → E (.ref e) { s with heap := h' }) : wpAny (model prog w) A (Builtin.SmallTypes.nextOf (.ref it)) Q E s := by
  obtain ⟨o, ho, hc, hd⟩ := id hit
  obtain ⟨ol, hol, _, nl, hdl⟩ := hl
  obtain ⟨hh, o1, vs1, h1, d1, c1⟩ := hot
  unfold Builtin.SmallTypes.nextOf
  refine wpAny_bind (wpAny_callSpecial?_slot (name := Str.ofString "__next__") hit.typeIs slot_listiter_next (wpAny_call_entry slot_listiter_next hit.typeIs entry_listiter_next ?_ (args_listiter_next _)))
  show wpAny _ _ (field (.ref it) 0 >>= _) _ _ s
  refine wpAny_bind (wpAny_field ho hd (x := .ref l) rfl ?_)
  show wpAny _ _ (if (Value.ref l == Value.none) = true then _ else _) _ _ s
  rw [if_neg (show ¬ ((Value.ref l == Value.none) = true) from Bool.false_ne_true)]
  show wpAny _ _ (field (.ref it) 1 >>= _) _ _ s
  refine wpAny_bind (wpAny_field ho hd (x := .int i 0) rfl ?_)
  show wpAny _ _ (seqItems? (.ref l) >>= _) _ _ s
  refine wpAny_bind (wpAny_seqItems hol hdl ?_)
  simp only [Int.toNat_natCast, hx]
  refine wpAny_bind (wpAny_rule (wpAny_bind (wpAny_setField ho hd (by simp) ?_)))
  show wpAny _ _ (newExc (.type "StopIteration") [] >>= _) _ _ _
  refine wpAny_bind ?_
  simp only [newExc, newTuple]
  refine wpAny_bind (wpAny_newObj_type ?_ (by size_fits))
  refine wpAny_bind (m := firstArgMember _ _) (wpAny_of_eq (a := Value.none) (by first | rfl | (simp only [firstArgMember]; rfl)) ?_)
  refine wpAny_newObj_type ?_ (by size_fits)
  have k1 : ∀ b ob, b ≠ it → s.heap.get? b = some ob → (s.heap.update it (Obj.mapFields (·.setIfInBounds 0 .none))).get? b = some ob := fun b ob nb e => by
    rw [Heap.get?_update_other _ _ (Ne.symm nb)]
    exact e
  refine raiseNew_hot ⟨hh, o1, vs1, Heap.get?_push_of_some _ (Heap.get?_push_of_some _ (k1 _ _ hne h1)), d1, c1⟩ (Nat.ne_of_lt (Heap.lt_size (Heap.get?_push_of_some _ (k1 _ _ hne h1)))) (Heap.get?_push_size _ rfl) rfl (by first | (simp; done) | (simp; omega) | (simp only [Array.size_append]; simp; omega)) ?_
  refine hE _ _ (fun b ob nb e => ?_) ⟨_, Heap.get?_update_self _ (Heap.get?_push_size _ rfl) rfl, rfl⟩
  rw [Heap.get?_update_other _ _ (Nat.ne_of_gt (Heap.lt_size (Heap.get?_push_of_some _ (k1 b ob nb e))))]
  exact Heap.get?_push_of_some _ (Heap.get?_push_of_some _ (k1 b ob nb e))
theorem pyNext_enum_endH {e it l x1 : Addr} {i : Nat} {items : Array Value} {old : Value} {Q : Option Value → Shared → Prop} (hot : HotAt A x1 s.heap) (hne : x1 ≠ it) (he : IsEnum s.heap e it i old) (hit : s.heap.IsListIter it l i) (hl : s.heap.IsList l items) (hx : items[i]? = none)
    (hQ : ∀ h', Heap.ExtBut it s.heap h' → Q none { s with heap := h' }) : wpAny (model prog w) A (pyNext (.ref e)) Q E s := by
  have hT : s.TypeIs (.ref e) "enumerate" := ⟨_, he, rfl⟩
  unfold pyNext
  refine wpAny_bind (wpAny_attempt (wpAny_callSpecial?_slot (name := Str.ofString "__next__") hT F.slot_enumerate_next (wpAny_call_entry F.slot_enumerate_next hT F.entry_enumerate_next ?_ (F.args_enumerate_next_1 _))))
  show wpAny _ _ (field (.ref e) 2 >>= _) _ _ _
  refine wpAny_bind (wpAny_field he rfl (x := .ref it) rfl ?_)
  refine wpAny_bind (nextOf_list_endH (A := A.in1) hot hne hit hl hx fun h' x he' hx' => ?_)
  obtain ⟨o, ho, hc⟩ := hx'
  exact wpAny_bind (wpAny_isInstance (T := "StopIteration") (b := true) ⟨o, ho, hc⟩ isSubtype_stop (wpAny_pure (hQ _ he')))
/-- a tuple's iterator at its end -/
theorem next_tuple_endH {it t x1 : Addr} {i : Nat} {items : Array Value} {Q : Option Value → Shared → Prop} (hot : HotAt A x1 s.heap) (hne : x1 ≠ it) (hit : IsTupIter s.heap it t i) (ht : IsTup s.heap t items) (hx : items[i]? = none)
    (hQ : ∀ h', Heap.ExtBut it s.heap h' → Q none { s with heap := h' }) : wpAny (model prog w) A (pyNext (.ref it)) Q E s := by
  obtain ⟨o, ho, hc, hd⟩ := id hit
  obtain ⟨ol, hol, _, nl, hdl⟩ := ht
  obtain ⟨hh, o1, vs1, h1, d1, c1⟩ := hot
  unfold pyNext
  refine wpAny_bind (wpAny_attempt (wpAny_callSpecial?_slot (name := Str.ofString "__next__") hit.typeIs slot_tupleiter_next (wpAny_call_entry slot_tupleiter_next hit.typeIs entry_tupleiter_next ?_ (args_tupleiter_next _))))
  show wpAny _ _ (field (.ref it) 0 >>= _) _ _ s
  refine wpAny_bind (wpAny_field ho hd (x := .ref t) rfl ?_)
  show wpAny _ _ (if (Value.ref t == Value.none) = true then _ else _) _ _ s
  rw [if_neg (show ¬ ((Value.ref t == Value.none) = true) from Bool.false_ne_true)]
  show wpAny _ _ (field (.ref it) 1 >>= _) _ _ s
  refine wpAny_bind (wpAny_field ho hd (x := .int i 0) rfl ?_)
  show wpAny _ _ (seqItems? (.ref t) >>= _) _ _ s
  refine wpAny_bind (wpAny_seqItems hol hdl ?_)
  simp only [Int.toNat_natCast, hx]
  refine wpAny_bind (wpAny_rule (wpAny_bind (wpAny_setField ho hd (by simp) ?_)))
  show wpAny _ _ (newExc (.type "StopIteration") [] >>= _) _ _ _
  refine wpAny_bind ?_
  simp only [newExc, newTuple]
  refine wpAny_bind (wpAny_newObj_type ?_ (by size_fits))
  refine wpAny_bind (m := firstArgMember _ _) (wpAny_of_eq (a := Value.none) (by first | rfl | (simp only [firstArgMember]; rfl)) ?_)
  refine wpAny_newObj_type ?_ (by size_fits)
  have k1 : ∀ b ob, b ≠ it → s.heap.get? b = some ob → (s.heap.update it (Obj.mapFields (·.setIfInBounds 0 .none))).get? b = some ob := fun b ob nb e => by
    rw [Heap.get?_update_other _ _ (Ne.symm nb)]
    exact e
  refine raiseNew_hot ⟨hh, o1, vs1, Heap.get?_push_of_some _ (Heap.get?_push_of_some _ (k1 _ _ hne h1)), d1, c1⟩ (Nat.ne_of_lt (Heap.lt_size (Heap.get?_push_of_some _ (k1 _ _ hne h1)))) (Heap.get?_push_size _ rfl) rfl (by first | (simp; done) | (simp; omega) | (simp only [Array.size_append]; simp; omega)) ?_
  refine wpAny_bind (wpAny_isInstance (T := "StopIteration") (b := true) ⟨_, Heap.get?_update_self _ (Heap.get?_push_size _ rfl) rfl, rfl⟩ isSubtype_stop ?_)
  refine wpAny_pure (hQ _ fun b ob nb e => ?_)
  rw [Heap.get?_update_other _ _ (Nat.ne_of_gt (Heap.lt_size (Heap.get?_push_of_some _ (k1 b ob nb e))))]
  exact Heap.get?_push_of_some _ (Heap.get?_push_of_some _ (k1 b ob nb e))
/-- a, b = a tuple -/
theorem assign_TupleH {env : Env} {elts : List Expr} {k : Nat} {pos : Pos} {t x1 : Addr} {items : Array Value} {Q : Unit → Shared → Prop} (hot : HotAt A x1 s.heap) (ht : IsTup s.heap t items) (hn : (assignEach elts env).length = items.size) (hstar : (assignEach elts env).findIdx? (·.1) = none)
    (h : ∀ h', Heap.ExtBut s.heap.objs.size s.heap h' → wpAny (model prog w) A (assignInOrder ((assignEach elts env).map (·.2)) items.toList) Q E { s with heap := h' }) : wpAny (model prog w) A (assign (.Tuple elts k pos) env (.ref t)) Q E s := by
  have hlt : t ≠ s.heap.objs.size := by obtain ⟨o, ho, _⟩ := ht; exact Nat.ne_of_lt (Heap.lt_size ho)
  obtain ⟨hh, o1, vs1, h1, d1, c1⟩ := hot
  have hx1 : x1 ≠ s.heap.objs.size := Nat.ne_of_lt (Heap.lt_size h1)
  rw [assign_Tuple]
  refine wpAny_bind (wpAny_standAt ?_)
  unfold unpack
  rw [hn, hstar]
  refine wpAny_bind (wpAny_holding ?_)
  unfold unpackItems
  refine wpAny_bind ?_
  unfold notIterableAtAll
  refine wpAny_bind (wpAny_specialOf ht.typeIs slot_tuple_iter.lookup (wpAny_pure ?_))
  simp only [Bool.false_eq_true, if_false]
  refine wpAny_bind (wpAny_holding (iter_tuple ht ?_))
  refine wpAny_bind (wpAny_holding (draw_tuple hlt items.size 0 _ _ ⟨_, Heap.get?_push_size _ rfl, rfl, rfl⟩ (ht.push _) (by omega) fun h₁ hit₁ hs₁ => ?_))
  have hall : List.take items.size (List.drop 0 items.toList) = items.toList := by
    rw [List.drop_zero]; exact List.take_of_length_le (by simp)
  rw [hall, if_neg (by simp)]
  have ht₁ : IsTup h₁ t items := (ht.push _).extBut hs₁.extBut hlt
  refine wpAny_bind (wpAny_holding (next_tuple_endH ⟨hh, o1, vs1, hs₁.extBut x1 _ hx1 (Heap.get?_push_of_some _ h1), d1, c1⟩ hx1 hit₁ ht₁ (by simp) fun h₂ he₂ => ?_))
  simp only [Option.isSome_none, Bool.false_eq_true, if_false]
  exact wpAny_pure (h h₂ fun b o hb e => he₂ b o hb (hs₁.extBut b o hb (Heap.get?_push_of_some _ e)))
end
end Cv
set_option maxRecDepth 100000
set_option maxHeartbeats 4000000
set_option autoImplicit false
/-! Engine, part Hb: a comprehension over enumerate(list) while an exception is handled. -/
namespace Cv
open PySem PySem.Spec L2 PyProof.Rows HotX
/-- as Turn, x1 being handled -/
structure TurnQ (P : Program) (w : World) (K : PySem.W.Frag) (x1 : Addr) (tg : Expr) (J : It) (fp : List Addr) (it : Addr) (tn : Nat → Heap → Prop) : Prop where
  obj : ∀ i h, tn i h → ∀ b ∈ fp, ∃ o, h.get? b = some o ∧ ∀ v, o.data ≠ .cell v
  keep : ∀ i h h', tn i h → (∀ b ∈ fp, ∀ o, h.get? b = some o → h'.get? b = some o) → tn i h'
  item : ∀ (X : Cx), X.prog = P → X.w = w → X.K = K → ∀ (i : Nat) (pins : List (Addr × Obj)) (s : Shared) (σ : L2.St) (H : Hp) (E : Value → Shared → Prop), Inv X pins σ H s → (∀ b ∈ fp, FpOk X pins H b) → tn i s.heap → J.go i H →
    wpAny (model P w) X.A (pyNext (.ref it)) (fun r s1 => ∃ u, r = some u ∧ wpAny (model P w) X.A (letOwnedTupleGo tg (.ref it) u) (fun _ s2 => ∃ x H', Inv X pins σ H' s2 ∧ RelV x u ∧ J.yld i H x H' ∧ tn (i + 1) s2.heap ∧ ∀ b ∈ fp, H' b = none) E s1) E s
  done : ∀ (X : Cx), X.prog = P → X.w = w → X.K = K → ∀ (i : Nat) (pins : List (Addr × Obj)) (s : Shared) (σ : L2.St) (H : Hp) (E : Value → Shared → Prop), Inv X pins σ H s → HotAt X.A x1 s.heap → x1 ∉ fp → (∀ b ∈ fp, FpOk X pins H b) → tn i s.heap → J.stop i H →
    wpAny (model P w) X.A (pyNext (.ref it)) (fun r s1 => r = none ∧ Inv X pins σ H s1) E s
  self : ∀ (A : Around) (i : Nat) (s : Shared) (Q : Value → Shared → Prop) (E : Value → Shared → Prop), tn i s.heap → Q (.ref it) s → wpAny (model P w) A (pyIter (.ref it)) Q E s
theorem turn_enumQ {P : Program} {w : World} {K : PySem.W.Frag} {elts : List Expr} {kk : Nat} {tpos : Pos} (x1 a e it : Addr) :
    TurnQ P w K x1 (.Tuple elts kk tpos) (Ite K a) [e, it] e (fun i h => (∃ old, IsEnum h e it ((i : Nat) : Int) old) ∧ h.IsListIter it a i ∧ e ≠ it) where
  obj := (turn_enum (P := P) (w := w) (K := K) (elts := elts) (kk := kk) (tpos := tpos) a e it).obj
  keep := (turn_enum (P := P) (w := w) (K := K) (elts := elts) (kk := kk) (tpos := tpos) a e it).keep
  self := (turn_enum (P := P) (w := w) (K := K) (elts := elts) (kk := kk) (tpos := tpos) a e it).self
  item := by
    intro X hP hw hK i pins s σ H E I hf st hg
    subst hP hw hK
    obtain ⟨⟨old, he⟩, hit, hne⟩ := st
    obtain ⟨xs, x, hq, hx⟩ := hg
    obtain ⟨its, rv, p, hz⟩ := I.list hq
    obtain ⟨u, hu, ru⟩ := rv.get hx
    have hel : e < s.heap.objs.size := Heap.lt_size he
    have hil : it < s.heap.objs.size := by obtain ⟨_, q, _⟩ := hit; exact Heap.lt_size q
    refine wpAny_pyNext_enum_item he hit p.isList (x := u) (by simpa using hu) hne fun h' ho hit' hT hsz hk => ?_
    refine ⟨_, rfl, wpAny_letOwnedTupleGo_enum (s := { s with heap := h', toks := s.toks + 1 }) ho fun h'' he' sb => ?_⟩
    have hT2 : h''.get? s.heap.objs.size = some { cls := .type "tuple", data := .seq #[.int i s.toks, u] } := (sb.2 _ (Nat.ne_of_gt hel)).trans hT
    have new : ObjOk X.prog X.w (upd H s.heap.objs.size (.tup [.int (i : Nat), x])) h'' s.heap.objs.size (.tup [.int (i : Nat), x]) := ⟨by show 2 ≤ sizeLine; decide, [.int i s.toks, u], .cons ⟨_, rfl⟩ (.cons ru .nil), ⟨_, hT2, rfl, _, rfl⟩⟩
    have I1 : Inv X pins σ (upd H s.heap.objs.size (.tup [.int (i : Nat), x])) { s with heap := h'', toks := s.toks + 1 } := I.turnedNew (ch := [e, it]) (fun b ob hb q => (sb.2 b (fun z => hb (by simp [z]))).trans (hk b ob (fun z => hb (by simp [z])) (fun z => hb (by simp [z])) q)) hf (Nat.le_refl _) new
    refine ⟨.ref s.heap.objs.size, _, I1, rfl, ⟨_, x, rfl, I.hok.fresh (Nat.le_refl _), rfl, fun ys hy => by rw [I.list_inj hy hq]; exact hx⟩, ⟨⟨u, ?_⟩, hit'.at fun o q => (sb.2 it (Ne.symm hne)).trans q, hne⟩, fun b hb => ?_⟩
    · have e1 : ((i + 1 : Nat) : Int) = (i : Int) + 1 := by omega
      rw [e1]; exact he'
    · have hb' : b < s.heap.objs.size := by
        have e' : b = e ∨ b = it := by simpa using hb
        rcases e' with rfl | rfl
        · exact hel
        · exact hil
      rw [upd_ne (Nat.ne_of_lt hb')]
      exact (hf b hb).1
  done := by
    intro X hP hw hK i pins s σ H E I hot hx1 hf st hg
    subst hP hw hK
    obtain ⟨⟨old, he⟩, hit, hne⟩ := st
    obtain ⟨xs, hq, hx⟩ := hg
    obtain ⟨its, rv, p, hz⟩ := I.list hq
    obtain ⟨f0, f1, f2, f3, f4, f5⟩ := hf it (by simp)
    have hl := rv.length
    exact pyNext_enum_endH hot (fun z => hx1 (by simp [z])) he hit p.isList (by simp; omega) fun h' eb => ⟨rfl, I.turned (t' := s.toks) (fun b o hb q => eb b o hb q) f0 f1 f3 f4 f5⟩
/-- the block of a comprehension while p is handled: p's object stands there too -/
def BlkHot (X : Cx) (p : Addr × Obj) : Prop := ∀ (pins : List (Addr × Obj)) (σ : L2.St) (H : Hp) (s : Shared), Inv X pins σ H s → s.heap.get? p.1 = some p.2
def PIEQ (X : Cx) (x1 : Addr) (pins : List (Addr × Obj)) (σ : L2.St) (tg : Expr) (R : It → Hp → Prop) (itv : Value) (s2 : Shared) : Prop :=
  ∃ (it : Addr) (fp : List Addr) (tn : Nat → Heap → Prop) (J : It) (H' : Hp), itv = .ref it ∧ Inv X pins σ H' s2 ∧ TurnQ X.prog X.w X.K x1 tg J fp it tn ∧ tn 0 s2.heap ∧ (∀ b ∈ fp, FpOk X pins H' b) ∧ R J H'
structure PIQ (X : Cx) (x1 : Addr) (tg iter : Expr) (wi : TI) : Prop where
  run : ∀ (pins : List (Addr × Obj)) (s : Shared) (σ : L2.St) (H : Hp) (R : It → Hp → Prop), Inv X pins σ H s → wi σ H R →
    wpAny (model X.prog X.w) X.A (eval iter X.env) (fun v s1 => wpAny (model X.prog X.w) X.A (pyIter v) (PIEQ X x1 pins σ tg R) X.xe s1) X.xe s
theorem pi_enumQ {X : Cx} {x1 : Addr} {e : Expr} {ta : TA} {p pos tpos : Pos} {elts : List Expr} {kk : Nat} (hg : Gl X "enumerate") (hm : X.mg "enumerate" = none) (ha : PA X [e] ta) (hs : starEach [e] X.env = [(false, eval e X.env)]) :
    PIQ X x1 (.Tuple elts kk tpos) (.Call (.Name "enumerate" p) [e] [] pos) (iEnum X.K ta) := by
  refine ⟨fun pins s σ H R I h => ?_⟩
  refine Call_ (ld_blt I hg hm boot_enumerate (PyProof.Rows.callWith_type1 (thn (ha.run pos pins s σ H _ I h) fun us s1 ⟨vs, H1, I1, r1, q1⟩ => ?_) hs rfl))
  obtain ⟨a, xs, rfl, hq, q⟩ := q1
  cases r1 with
  | cons r rr =>
    cases rr
    cases r
    obtain ⟨its, rv, p', hz⟩ := I1.list hq
    refine call_enumerate_list p'.isList fun h' he hit hsz hk => wpAny_pyIter_enum he ?_
    have I2 : Inv X pins σ H1 { s1 with heap := h' } := I1.kept (t' := s1.toks) hk
    refine ⟨s1.heap.objs.size + 1, [s1.heap.objs.size + 1, s1.heap.objs.size], _, _, H1, rfl, I2, turn_enumQ x1 a (s1.heap.objs.size + 1) s1.heap.objs.size, ⟨⟨.none, he⟩, hit, Nat.succ_ne_self _⟩, fun b hb => ?_, q⟩
    have hle : s1.heap.objs.size ≤ b := by
      have e' : b = s1.heap.objs.size + 1 ∨ b = s1.heap.objs.size := by simpa using hb
      rcases e' with rfl | rfl
      · exact Nat.le_add_right _ _
      · exact Nat.le_refl _
    exact I1.fpOk hle (I1.hok.fresh hle)
section
variable {X : Cx}
theorem lc_coreQ {pins : List (Addr × Obj)} {s : Shared} {σ : L2.St} {H : Hp} {Q : VK} {elt tg iter : Expr} {ifs : List Expr} {scope : Scope} {own : List (Str × Nat)} {pos pos' : Pos} {wi : TI} {g : TG} {tt : TT} {te : TE} {use : Option (Value → Sem Unit)} {Qf : Value → Shared → Prop} {ph : Addr × Obj}
    (hh : L2H.Hot1 X.A ph) (hpn : ph ∈ X.pn) (hN : X.N.Nodup) (I : Inv X pins σ H s) (hi : PIQ X ph.1 tg iter wi) (ok : BlkOk X.N X.env.scope scope own)
    (hg : ∀ (s : Shared) (H : Hp) (C : Addr) (cl : List (Str × Addr)) (fp : List Addr), BlkHot (X.blk s H scope (compEnvC scope cl C X.env) fp) ph → PG (X.blk s H scope (compEnvC scope cl C X.env) fp) tg g) (ht : ∀ (s : Shared) (H : Hp) (C : Addr) (cl : List (Str × Addr)) (fp : List Addr), PTs (X.blk s H scope (compEnvC scope cl C X.env) fp) ifs tt)
    (he : ∀ (s : Shared) (H : Hp) (C : Addr) (cl : List (Str × Addr)) (fp : List Addr), PE (X.blk s H scope (compEnvC scope cl C X.env) fp) elt te) (hs : ∀ x, foldedSetIterable iter X.env x = pure x)
    (h : tLc wi g tt te (own.map (·.2)) σ H Q)
    (hRR : ∀ D C s' m H', Inv X pins σ H' s' → Q (.ref D) H' → s'.heap.Ns C m → FpOk X pins H' C → compPost (model X.prog X.w) X.A X.xe use Qf (.ref D) C (.ok .next) s') :
    wpAny (model X.prog X.w) X.A (comprehension (.ListComp elt [⟨tg, iter, ifs, 0⟩] scope pos) scope X.env pos' (newList []) false (eval iter X.env) use) Qf X.xe s := by
  have hfree : ∀ y ∈ scope.names, y.2 = .free → ∃ c, X.env.cells.lookup y.1 = some c := fun y hy e => (ok.free y hy e).elim (fun k => I.ok.has _ (.inl k)) fun k => I.ok.has _ (.inr k)
  refine wpAny_comprehension_free (use := use) rfl hs (closure_ok hfree) ok.kind (fun y hy e => by rw [ok.uniq y hy, e]) (thn (hi.run pins s σ H _ I h) fun xv s1 hx => thn hx fun itv s2 h2 => ?_)
  obtain ⟨it, fp, tn, J, H2, rfl, I2, T, st2, f2, q⟩ := h2
  refine wpAny_newObj_type (newEnv_comp ?_) (by show 0 ≤ sizeLine; decide)
  generalize hD : s2.heap.objs.size = D
  obtain ⟨W, ⟨m0, w0⟩, turn⟩ := q D (I2.hok.fresh (Nat.le_of_eq hD))
  generalize hs3 : ({ s2 with heap := s2.heap.push { cls := .type "list", data := .seq ([] : List Value).toArray } } : Shared) = s3
  have I3 : Inv X pins σ (upd H2 D (.lst [])) s3 := by
    rw [← hs3]
    refine I2.laid (t' := s2.toks) (fun b o e => Heap.get?_push_of_some _ e) (Nat.le_of_eq hD) ⟨Nat.zero_le _, [], 0, .nil, ?_⟩
    rw [← hD]
    exact Heap.get?_push_size _ rfl
  have h3 : s3.heap = s2.heap.push { cls := .type "list", data := .seq ([] : List Value).toArray } := by rw [← hs3]
  have f3 : ∀ b ∈ fp, FpOk X pins (upd H2 D (.lst [])) b ∧ b < s3.heap.objs.size := fun b hb => by
    obtain ⟨o, e, _⟩ := T.obj _ _ st2 b hb
    have hlt := Heap.lt_size e
    refine ⟨⟨?_, (f2 b hb).2⟩, by rw [h3, Heap.size_push]; exact Nat.lt_succ_of_lt hlt⟩
    rw [upd_ne (by rw [← hD]; exact Nat.ne_of_lt hlt)]
    exact (f2 b hb).1
  have st3 : tn 0 s3.heap := T.keep _ _ _ st2 fun b _ o e => by rw [h3]; exact Heap.get?_push_of_some _ e
  have I4 := block_start I3 ok hN f3
  obtain ⟨p1, p2, p3, p4, p5⟩ := I3.pin ph (List.mem_append_left _ hpn)
  have nph : ph.1 ∉ fp := fun z => (f3 _ z).1.2.2.2.2.2 ph (List.mem_append_left _ hpn) rfl
  have hotB : ∀ (C : Addr) (cl : List (Str × Addr)), BlkHot (X.blk s3 (upd H2 D (.lst [])) scope (compEnvC scope cl C X.env) fp) ph := fun C cl pins' σ' H' s' I' => by
    refine I'.base.keep ph.1 ph.2 p1 p2 (fun hm => ?_) nph
    exact (List.mem_cons.mp (I3.stkSub ph.1 hm)).elim p3 p4
  have pg := hg s3 (upd H2 D (.lst [])) s3.heap.objs.size (cellsFrom (s3.heap.objs.size + 1) scope.names (cloFrom X.env.cells scope.names [])) fp (hotB _ _)
  have hot' := hotB s3.heap.objs.size (cellsFrom (s3.heap.objs.size + 1) scope.names (cloFrom X.env.cells scope.names []))
  have pt := ht s3 (upd H2 D (.lst [])) s3.heap.objs.size (cellsFrom (s3.heap.objs.size + 1) scope.names (cloFrom X.env.cells scope.names [])) fp
  have pe := he s3 (upd H2 D (.lst [])) s3.heap.objs.size (cellsFrom (s3.heap.objs.size + 1) scope.names (cloFrom X.env.cells scope.names [])) fp
  show codeAny _ _ (.compStart (.ListComp elt [⟨tg, iter, ifs, 0⟩] scope pos) 0 (.ref it) (.ref D) (compEnvC scope (cellsFrom (s3.heap.objs.size + 1) scope.names (cloFrom X.env.cells scope.names [])) s3.heap.objs.size X.env)) (compPost (model X.prog X.w) X.A X.xe use Qf (.ref D) s3.heap.objs.size) { s3 with heap := pushCells (s3.heap.push { cls := .type "dict", data := .dict #[] }) scope.names }
  have nfp : ∀ b ∈ fp, (upd H2 D (.lst [])) b = none := fun b hb => (f3 b hb).1.1
  generalize hce : compEnvC scope (cellsFrom (s3.heap.objs.size + 1) scope.names (cloFrom X.env.cells scope.names [])) s3.heap.objs.size X.env = ce at I4 pg pt pe hot' ⊢
  have cL : ce.locals = s3.heap.objs.size := by subst hce; rfl
  generalize hH3 : upd H2 D (.lst []) = H3 at I3 I4 pg pt pe hot' w0 nfp f3
  generalize hs4 : ({ s3 with heap := pushCells (s3.heap.push { cls := .type "dict", data := .dict #[] }) scope.names } : Shared) = s4 at I4 ⊢
  have st4 : tn 0 s4.heap := T.keep _ _ _ st3 fun b _ o e => by rw [← hs4]; exact pushCells_keeps _ _ _ _ (Heap.get?_push_of_some _ e)
  have stat : ∀ {σ' : L2.St} {H' : Hp} {s' : Shared}, Inv (X.blk s3 H3 scope ce fp) [] σ' H' s' → (∀ b ∈ fp, H' b = none) → ∀ b ∈ fp, FpOk (X.blk s3 H3 scope ce fp) [] H' b := fun {σ' H' s'} I' hn b hb =>
    ⟨hn b hb, (I'.ok.exf b hb).1, I'.ok.exfs b hb, .inl hb, fun x c e => (I'.ok.exf b hb).2 x c e, fun p hp => nomatch (show p ∈ ([] : List (Addr × Obj)) ++ [] from hp)⟩
  have loop : codeAny (model X.prog X.w) X.A (.compLoop (.ListComp elt [⟨tg, iter, ifs, 0⟩] scope pos) 0 (.ref it) (.ref D) ce) (compPost (model X.prog X.w) X.A X.xe use Qf (.ref D) s3.heap.objs.size) s4 := by
    refine compLoop_any (fun n s' => ∃ i H', Inv (X.blk s3 H3 scope ce fp) [] (wipe σ (own.map (·.2))) H' s' ∧ tn i s'.heap ∧ (∀ b ∈ fp, H' b = none) ∧ W i n H') ?_ m0 ⟨0, H3, I4, st4, nfp, w0⟩
    rintro n s5 ⟨i, H5, I5, st5, n5, w5⟩
    rcases turn i n H5 w5 with ⟨stop, qq⟩ | ⟨go, Nx, hNx, step⟩
    · obtain ⟨hh1, v1, e1, c1⟩ := hh
      refine thnF (T.done (X.blk s3 H3 scope ce fp) rfl rfl rfl i [] s5 _ H5 (fun _ _ => False) I5 ⟨hh1, ph.2, v1, hot' _ _ _ _ I5, e1, c1⟩ nph (stat I5 n5) st5 stop) fun r s6 ⟨hr, I6⟩ => ?_
      subst hr
      have I7 : Inv X pins σ H5 s6 := I3.call' (ch := fp) I6.os I6.base I6.hok I6.bare fun b hb => ⟨(f3 b hb).1.2.2.2.1, (f3 b hb).1.2.1, (f3 b hb).1.2.2.2.2.1, (f3 b hb).1.2.2.2.2.2⟩
      have nC : H5 s3.heap.objs.size = none := by rw [← cL]; exact I6.free
      obtain ⟨m, hn, _⟩ := I6.loc
      have hn : s6.heap.Ns ce.locals m := hn
      rw [cL] at hn
      exact hRR D s3.heap.objs.size s6 m H5 I7 qq hn (I3.fpOk (Nat.le_refl _) nC)
    · refine thnF (T.item (X.blk s3 H3 scope ce fp) rfl rfl rfl i [] s5 _ H5 (fun _ _ => False) I5 (stat I5 n5) st5 go) fun r s6 ⟨u, hr, h6⟩ => ?_
      subst hr
      refine thnF h6 fun _ s7 ⟨x, H7, I7, r7, y7, st7, n7⟩ => ?_
      refine thnF (pg.run _ s7 _ H7 x u _ (I7.pinned (stat I7 n7) (T.obj _ _ st7)) r7 (step x H7 y7)) fun _ s8 ⟨σ8, H8, I8, hw8, q8⟩ => ?_
      refine thnF (pt.run _ s8 σ8 H8 _ I8 q8) fun b s9 ⟨H9, I9, q9⟩ => ?_
      have fin : ∀ {s' : Shared} {H' : Hp}, Inv (X.blk s3 H3 scope ce fp) ([] ++ pinsAt fp s7.heap) σ8 H' s' → Nx H' → ∃ m, m < n ∧ ∃ i H', Inv (X.blk s3 H3 scope ce fp) [] (wipe σ (own.map (·.2))) H' s' ∧ tn i s'.heap ∧ (∀ b ∈ fp, H' b = none) ∧ W i m H' := fun {s' H'} I' nx => by
        obtain ⟨m', hm, w'⟩ := hNx H' nx
        have pin' : ∀ b ∈ fp, ∀ o, s7.heap.get? b = some o → s'.heap.get? b = some o ∧ H' b = none := fun b hb o e =>
          let z := I'.pin (b, o) (List.mem_append_right _ (List.mem_append_right _ (mem_pinsAt hb e)))
          ⟨z.1, z.2.1⟩
        refine ⟨m', hm, i + 1, H', (I'.unpinned (pins := [])).weak (by rw [← hw8, wipe_length]) (fun j v e => ?_), T.keep _ _ _ st7 fun b hb o e => (pin' b hb o e).1, fun b hb => ?_, w'⟩
        · rw [← hw8] at e
          exact (wipe_some e).1
        · obtain ⟨o, e, _⟩ := T.obj _ _ st7 b hb
          exact (pin' b hb o e).2
      cases b with
      | false => exact fin I9 (by simpa using q9)
      | true =>
        simp only [if_true] at q9 ⊢
        refine thnF (pe.run _ s9 σ8 H9 _ I9 q9) fun z s10 ⟨yv, H10, I10, r10, acc, hD10, hz10, nx⟩ => ?_
        exact app_ok (X := X.blk s3 H3 scope ce fp) I10 hD10 hz10 r10 fun s11 I11 => fin I11 nx
  exact codeAny_compStart_list loop (T.self X.A 0 _ _ _ st4 loop)
/-- as a value -/
theorem pe_lcQ {elt tg iter : Expr} {ifs : List Expr} {scope : Scope} {own : List (Str × Nat)} {pos : Pos} {wi : TI} {g : TG} {tt : TT} {te : TE} {ph : Addr × Obj} (hh : L2H.Hot1 X.A ph) (hpn : ph ∈ X.pn) (hN : X.N.Nodup) (hi : PIQ X ph.1 tg iter wi) (ok : BlkOk X.N X.env.scope scope own)
    (hg : ∀ (s : Shared) (H : Hp) (C : Addr) (cl : List (Str × Addr)) (fp : List Addr), BlkHot (X.blk s H scope (compEnvC scope cl C X.env) fp) ph → PG (X.blk s H scope (compEnvC scope cl C X.env) fp) tg g) (ht : ∀ (s : Shared) (H : Hp) (C : Addr) (cl : List (Str × Addr)) (fp : List Addr), PTs (X.blk s H scope (compEnvC scope cl C X.env) fp) ifs tt)
    (he : ∀ (s : Shared) (H : Hp) (C : Addr) (cl : List (Str × Addr)) (fp : List Addr), PE (X.blk s H scope (compEnvC scope cl C X.env) fp) elt te) (hs : ∀ x, foldedSetIterable iter X.env x = pure x) :
    PE X (.ListComp elt [⟨tg, iter, ifs, 0⟩] scope pos) (tLc wi g tt te (own.map (·.2))) := by
  refine ⟨fun pins s σ H Q I h => ?_⟩
  rw [eval_ListComp]
  refine lc_coreQ hh hpn hN I hi ok hg ht he hs h fun D C s' m H' I' q hn f => ⟨m, hn, fun h'' sb => ?_⟩
  obtain ⟨f0, f1, f2, f3, f4, f5⟩ := f
  exact ⟨.ref D, H', I'.turned (t' := s'.toks) (fun b o hb e => (sb.2 b hb).trans e) f0 f1 f3 f4 f5, rfl, q⟩
/-- name = [..] on one line -/
theorem ps_setLcQ {i : Nat} {y : Str} {py : Pos} {elt tg iter : Expr} {ifs : List Expr} {scope : Scope} {own : List (Str × Nat)} {pos spos : Pos} {wi : TI} {g : TG} {tt : TT} {te : TE} {ph : Addr × Obj} (hh : L2H.Hot1 X.A ph) (hpn : ph ∈ X.pn) (hN : X.N.Nodup) (hy : X.N[i]? = some y) (hyl : X.env.scope.names.lookup y = some .local)
    (hsw : swapsWith (.ListComp elt [⟨tg, iter, ifs, 0⟩] scope pos) (some (.Name y py)) spos.line X.env = pure true) (hi : PIQ X ph.1 tg iter wi) (ok : BlkOk X.N X.env.scope scope own)
    (hg : ∀ (s : Shared) (H : Hp) (C : Addr) (cl : List (Str × Addr)) (fp : List Addr), BlkHot (X.blk s H scope (compEnvC scope cl C X.env) fp) ph → PG (X.blk s H scope (compEnvC scope cl C X.env) fp) tg g) (ht : ∀ (s : Shared) (H : Hp) (C : Addr) (cl : List (Str × Addr)) (fp : List Addr), PTs (X.blk s H scope (compEnvC scope cl C X.env) fp) ifs tt)
    (he : ∀ (s : Shared) (H : Hp) (C : Addr) (cl : List (Str × Addr)) (fp : List Addr), PE (X.blk s H scope (compEnvC scope cl C X.env) fp) elt te) (hs : ∀ x, foldedSetIterable iter X.env x = pure x) :
    PS X (.Assign [.Name y py] (.ListComp elt [⟨tg, iter, ifs, 0⟩] scope pos) spos) (tAsg (tLc wi g tt te (own.map (·.2))) (gName i)) := by
  refine ⟨fun pins s σ H D I h => ?_⟩
  rw [exec_Assign_Name_used _ _ _ _ hsw]
  refine wpAny_bind (wpAny_standAt (wpAny_bind ?_))
  show wpAny _ X.A (do let _ ← comprehension (.ListComp elt [⟨tg, iter, ifs, 0⟩] scope pos) scope X.env (firstIterPos [⟨tg, iter, ifs, 0⟩] pos) (newList []) false (eval iter X.env) (some (assign (.Name y py) X.env))) _ _ s
  have h : tLc wi g tt te (own.map (·.2)) σ H (fun x H1 => gName i x σ H1 D.nx) := h
  refine wpAny_bind (thn (lc_coreQ (Qf := fun _ s' => SP X pins D .next s') hh hpn hN I hi ok hg ht he hs h fun L C s' m H' I' q hn f => ?_) fun _ s' hq => wpAny_pure (wpAny_pure hq))
  show wpAny _ _ (assign (.Name y py) X.env (.ref L)) _ _ _
  refine wpAny_assign_Name (store_ok2 (v := V.ref L) I' hN hy (.inl hyl) rfl (fun s2 I2 ⟨a, sb, ha⟩ => ?_) (.inr hyl))
  obtain ⟨f0, f1, f2, f3, f4, f5⟩ := f
  have haC : C ≠ a := ha.elim (fun z => by rw [z]; exact f1) fun z e => f4 y a z e.symm
  exact ⟨m, hn.sameBut sb haC, fun h3 sb3 => ⟨_, H', I2.turned (t' := s2.toks) (fun b o hb e => (sb3.2 b hb).trans e) f0 f1 f3 f4 f5, q⟩⟩
/-- a, b = a tuple, in such a block -/
theorem pg_tupQ {es : List Expr} {k : Nat} {t : TGs} {n : Nat} {pos : Pos} {ph : Addr × Obj} (hh : L2H.Hot1 X.A ph) (hb : BlkHot X ph) (h : PGs X es t) (hn : (assignEach es X.env).length = n) (hst : (assignEach es X.env).findIdx? (·.1) = none) : PG X (.Tuple es k pos) (gTup X.K n t) := by
  refine ⟨fun pins s σ H v u Q I r hw => ?_⟩
  obtain ⟨a, xs, rfl, hq, hl, hw⟩ := hw
  cases r
  obtain ⟨its, rv, ht, hz⟩ := I.tuple hq
  obtain ⟨hh1, v1, e1, c1⟩ := hh
  refine assign_TupleH ⟨hh1, ph.2, v1, hb _ _ _ _ I, e1, c1⟩ ht (by simp [hn, ← hl, rv.length]) hst fun h' hx => ?_
  exact h.run pins _ σ H xs _ Q (I.kept (t' := s.toks) fun b o e => hx b o (Nat.ne_of_lt (Heap.lt_size e)) e) (by simpa using rv) hw
end
end Cv
set_option maxRecDepth 100000
set_option maxHeartbeats 4000000
set_option autoImplicit false
/-! Engine, part Hc: _law_classes, and the places of the classes of a refusal. -/
namespace Cv
open PySem PySem.Spec L2 PyProof.Rows HotX L2H
/-! ### the classes -/
/-- what is asked of the refusals' classes -/
structure ExK (K : PySem.W.Frag) (c : String) : Prop where
  ex : ExcC K (He.ga K (Str.ofString c))
  cu : PySem.W.exmOne K (.ref (He.ga K (Str.ofString c))) (.ref (He.ga K (Str.ofString "CurveError"))) = some true
  ve : PySem.W.kitOne K (.ref (He.ga K (Str.ofString c))) (.type "ValueError") = some true
  is : ∀ d ∈ clsNames, PySem.W.kitOne K (.ref (He.ga K (Str.ofString c))) (.ref (He.ga K (Str.ofString d))) = some (decide (c = d))
def excCB (K : PySem.W.Frag) (D : Addr) : Bool := decide (PySem.W.findIn K (.ref D) "__getattribute__" = some (some (.builtin "BaseException.__getattribute__"))) && (decide (PySem.W.findIn K (.ref D) "__getattr__" = some none) && (decide (PySem.W.subIn K (.ref D) (.type "BaseException") = some true) && (PySem.W.hasDictIn K D &&
  (decide (PySem.W.findIn K (.ref D) "__class__" = some (some (.builtin "object.__class__"))) && (decide (PySem.W.specialIn K (.builtin "object.__class__") "__get__" = some (some (.builtin "getset_descriptor.__get__"))) && (decide (PySem.W.takesIn K (.builtin "object.__class__") = some true) && decide (PySem.W.mroIn K D (.type "object") = some true)))))))
theorem excCB_ok {K : PySem.W.Frag} {D : Addr} (h : excCB K D = true) : ExcC K D := by
  simp only [excCB, Bool.and_eq_true, decide_eq_true_eq] at h
  obtain ⟨h1, h2, h3, h4, h5, h6, h7, h8⟩ := h
  exact ⟨h1, h2, h3, h4, h5, h6, h7, h8⟩
def exKB (K : PySem.W.Frag) (c : String) : Bool := excCB K (He.ga K (Str.ofString c)) && (decide (PySem.W.exmOne K (.ref (He.ga K (Str.ofString c))) (.ref (He.ga K (Str.ofString "CurveError"))) = some true) && (decide (PySem.W.kitOne K (.ref (He.ga K (Str.ofString c))) (.type "ValueError") = some true) &&
  clsNames.all fun d => decide (PySem.W.kitOne K (.ref (He.ga K (Str.ofString c))) (.ref (He.ga K (Str.ofString d))) = some (decide (c = d)))))
theorem exKB_ok {K : PySem.W.Frag} {c : String} (h : exKB K c = true) : ExK K c := by
  simp only [exKB, Bool.and_eq_true, decide_eq_true_eq, List.all_eq_true] at h
  obtain ⟨h1, h2, h3, h4⟩ := h
  exact ⟨excCB_ok h1, h2, h3, h4⟩
/-- what the program's top tells of names -/
structure ExG (mg : Str → Option Value) (K : PySem.W.Frag) : Prop where
  cls : ∀ d ∈ clsNames, mg (Str.ofString d) = some (.ref (He.ga K (Str.ofString d)))
  ce : mg (Str.ofString "CurveError") = some (.ref (He.ga K (Str.ofString "CurveError")))
  isi : mg (Str.ofString "isinstance") = none
  enu : mg (Str.ofString "enumerate") = none
  ve : mg (Str.ofString "ValueError") = none
  len : mg (Str.ofString "len") = none
/-! ### isinstance(e, C) -/
theorem call_isP {X : Cx} {a D : Addr} {oe : Obj} (hin : (a, oe) ∈ X.pn) (C : ExcC X.K D) (hz : Zc (.ref D) none oe) (hf : ∃ vs, oe.data = .fields vs) : CallR X (.builtin "isinstance") (rIsE X.K D a) := by
  intro pins s σ H xs us Q I r h
  obtain ⟨c, cv, b, rfl, hcv, e, q⟩ := h
  obtain ⟨u1, u2, rfl, rx, rt⟩ := vals2 r
  cases rx
  have ec := hcv _ rt
  subst ec
  obtain ⟨hget, _⟩ := I.pin (a, oe) (List.mem_append_left _ hin)
  obtain ⟨vs, hv⟩ := hf
  have J : PySem.W.InstAt s.heap a oe D none := by
    obtain ⟨oc, od, oda, osl⟩ := oe
    obtain ⟨h1, h2⟩ := hz
    dsimp only at h1 h2 hv
    subst h1 h2 hv
    exact ⟨hget, rfl, rfl, trivial⟩
  exact PySem.W.kia_one (PySem.W.handS_kitx_exc C.hg C.hk C.hs C.hd C.ha C.hn C.ht C.hm) I.kIn J e (fun z => nomatch z) fun tk => ⟨.bl b, H, I.kept (t' := tk) fun _ _ z => z, rfl, q⟩
section
variable {X : Cx} {ph : Addr × Obj} {c : String}
/-- ph is the refusal of class c that is handled -/
structure Han (X : Cx) (ph : Addr × Obj) (c : String) : Prop where
  hot : Hot1 X.A ph
  pn : ph ∈ X.pn
  zc : Zc (.ref (He.ga X.K (Str.ofString c))) none ph.2
  ek : ExK X.K c
  eg : ExG X.mg X.K
theorem Han.flds (h : Han X ph c) : ∃ vs, ph.2.data = .fields vs := let ⟨_, vs, e, _⟩ := h.hot; ⟨vs, e⟩
def tIs (i : Nat) (a : Addr) (b : Bool) : TE := fun σ H Q => σ[i]? = some (some (.ref a)) ∧ Q (.bl b) H
theorem pe_isD (h : Han X ph c) {i : Nat} {e : Str} {d : String} (hd : d ∈ clsNames) (hi : Gl X (Str.ofString "isinstance")) (hN : X.N[i]? = some e) (hv : Vis X.env.scope e) (hde : (e == ("__debug__" : Str)) = false) (hce : (e == ("__classdict__" : Str)) = false) (hg : Gl X (Str.ofString d)) (hdd : (Str.ofString d == ("__debug__" : Str)) = false) {p p1 p2 pos : Pos} :
    PE X (.Call (.Name (Str.ofString "isinstance") p) [.Name e p1, .Name (Str.ofString d) p2] [] pos) (tIs i ph.1 (decide (c = d))) := by
  refine ⟨fun pins s σ H Q I hq => ?_⟩
  have key := pe_callB (pos := pos) (p := p) (call_isP (X := X) (a := ph.1) (oe := ph.2) h.pn h.ek.ex h.zc h.flds) hi h.eg.isi rfl (pa_cons (pe_var (pos := p1) hN hv hde hce) (pa_cons (pe_glob (pos := p2) (v := .ref (He.ga X.K (Str.ofString d))) hg (h.eg.cls d hd) rfl hdd) pa_nil rfl) rfl) (by decide) (by decide) rfl rfl
  exact key.run pins s σ H Q I ⟨.ref ph.1, hq.1, _, _, _, rfl, fun u r => r, h.ek.is d hd, hq.2⟩
theorem pe_isV (h : Han X ph c) {i : Nat} {e : Str} (hi : Gl X (Str.ofString "isinstance")) (hN : X.N[i]? = some e) (hv : Vis X.env.scope e) (hde : (e == ("__debug__" : Str)) = false) (hce : (e == ("__classdict__" : Str)) = false) (hg : Gl X (Str.ofString "ValueError")) {p p1 p2 pos : Pos} :
    PE X (.Call (.Name (Str.ofString "isinstance") p) [.Name e p1, .Name (Str.ofString "ValueError") p2] [] pos) (tIs i ph.1 true) := by
  refine ⟨fun pins s σ H Q I hq => ?_⟩
  have key := pe_callB (pos := pos) (p := p) (call_isP (X := X) (a := ph.1) (oe := ph.2) h.pn h.ek.ex h.zc h.flds) hi h.eg.isi rfl (pa_cons (pe_var (pos := p1) hN hv hde hce) (pa_cons (pe_bltn (pos := p2) (v := .ty "ValueError") hg h.eg.ve rfl rfl (by decide) (by decide)) pa_nil rfl) rfl) (by decide) (by decide) rfl rfl
  exact key.run pins s σ H Q I ⟨.ref ph.1, hq.1, _, .type "ValueError", _, rfl, fun u r => r, h.ek.ve, hq.2⟩
end
/-! ### _law_classes -/
def isA (P : Nat → Pos) (k : Nat) (d : String) : Expr := .Call (.Name (Str.ofString "isinstance") (P k)) [.Name (Str.ofString "_law_e") (P (k + 1)), .Name (Str.ofString d) (P (k + 2))] [] (P (k + 3))
def bClasses (P : Nat → Pos) : List Stmt := [
  .Assign [.Name (Str.ofString "_law_found") (P 0)] (.List [isA P 1 "NoCurve", isA P 5 "NoLot", isA P 9 "NoPane", isA P 13 "NoFace"] (P 17)) (P 18),
  .Assign [.Name (Str.ofString "_law_found") (P 19)] (.BinOp (.Name (Str.ofString "_law_found") (P 20)) .Add (.List [isA P 21 "NoCell", isA P 25 "NoCorner", isA P 29 "NoNumber", isA P 33 "NoCounts"] (P 37)) (P 38)) (P 39),
  .Assign [.Name (Str.ofString "_law_found") (P 40)] (.BinOp (.Name (Str.ofString "_law_found") (P 41)) .Add (.List [isA P 42 "NoCover", isA P 46 "NoTurn", isA P 50 "NoCut", isA P 54 "NoOrder"] (P 58)) (P 59)) (P 60),
  .Return (some (.BinOp (.Name (Str.ofString "_law_found") (P 61)) .Add (.List [isA P 62 "TooMany", isA P 66 "NoText", isA P 70 "NoLine"] (P 74)) (P 75))) (P 76)]
def sClasses : Scope := { kind := .function, names := [(Str.ofString "_law_e", .local), (Str.ofString "_law_found", .local), (Str.ofString "isinstance", .globalImplicit)] ++ clsNames.map (fun d => (Str.ofString d, .globalImplicit)), isGenerator := false, isCoroutine := false, more := [] }
def nClasses : List Str := [Str.ofString "_law_e", Str.ofString "_law_found"]
/-- the answers of _law_classes of a refusal of class c -/
def clsB (c : String) : List Bool := clsNames.map fun d => decide (c = d)
theorem upd_none {H : Hp} {p a : Addr} {o : HO} (h : upd H p o a = none) : H a = none := by
  by_cases e : a = p
  · rw [e, upd_same] at h; cases h
  · rw [upd_ne e] at h; exact h
variable [TabC]
section
variable {X : Cx} {ph : Addr × Obj} {c : String}
theorem pe_isA (h : Han X ph c) (hN : X.N = nClasses) (hs : X.env.scope = sClasses) {d : String} (hd : d ∈ clsNames) (hl : sClasses.names.lookup (Str.ofString d) = some .globalImplicit) (hdd : (Str.ofString d == ("__debug__" : Str)) = false) (P : Nat → Pos) (k : Nat) : PE X (isA P k d) (tIs 0 ph.1 (decide (c = d))) :=
  pe_isD (i := 0) (e := Str.ofString "_law_e") h hd (by show X.env.scope.names.lookup _ = _; rw [hs]; decide +kernel) (by rw [hN]; rfl) (by rw [hs]; exact .inl (by decide +kernel)) (by decide +kernel) (by decide +kernel) (by show X.env.scope.names.lookup _ = _; rw [hs]; exact hl) hdd
theorem ps_classes (h : Han X ph c) (hN : X.N = nClasses) (hs : X.env.scope = sClasses) (hfn : ∀ x, X.fn x = true) (P : Nat → Pos) {Q : VK} {σ : L2.St} {H : Hp} (h0 : σ[0]? = some (some (.ref ph.1))) (hl : σ.length = 2)
    (q : ∀ (p : Addr) (H' : Hp), Same H H' → H p = none → H' p = some (.lst ((clsB c).map V.bl)) → Q (.ref p) H') : ∃ t, PSs X (bClasses P) t ∧ t { nx := fun _ H' => Q .non H', rt := Q } σ H := by
  have hnd : X.N.Nodup := by rw [hN]; decide +kernel
  have h1 : X.N[1]? = some (Str.ofString "_law_found") := by rw [hN]; rfl
  have hloc : Loc X.env.scope (Str.ofString "_law_found") := by rw [hs]; exact .inl (by decide +kernel)
  have hvis : Vis X.env.scope (Str.ofString "_law_found") := by rw [hs]; exact .inl (by decide +kernel)
  have I := fun (d : String) (hd : d ∈ clsNames) (hl : sClasses.names.lookup (Str.ofString d) = some .globalImplicit) (hdd : (Str.ofString d == ("__debug__" : Str)) = false) (k : Nat) => pe_isA h hN hs hd hl hdd P k
  have A4 : ∀ {e1 e2 e3 e4 : Expr} {b1 b2 b3 b4 : Bool}, PE X e1 (tIs 0 ph.1 b1) → PE X e2 (tIs 0 ph.1 b2) → PE X e3 (tIs 0 ph.1 b3) → PE X e4 (tIs 0 ph.1 b4) → (hn : [e1, e2, e3, e4].all notStar = true) → PA X [e1, e2, e3, e4] (fun σ H Q => σ[0]? = some (some (.ref ph.1)) ∧ Q [.bl b1, .bl b2, .bl b3, .bl b4] H) := fun {e1 e2 e3 e4 b1 b2 b3 b4} p1 p2 p3 p4 hn => by
    simp only [List.all_cons, List.all_nil, Bool.and_eq_true, Bool.and_true] at hn
    refine ⟨fun pos pins s σ H Q I hq => (pa_cons p1 (pa_cons p2 (pa_cons p3 (pa_cons p4 pa_nil (star_cons hn.2.2.2)) (star_cons hn.2.2.1)) (star_cons hn.2.1)) (star_cons hn.1)).run pos pins s σ H Q I ⟨hq.1, hq.1, hq.1, hq.1, hq.2⟩⟩
  have A3 : ∀ {e1 e2 e3 : Expr} {b1 b2 b3 : Bool}, PE X e1 (tIs 0 ph.1 b1) → PE X e2 (tIs 0 ph.1 b2) → PE X e3 (tIs 0 ph.1 b3) → (hn : [e1, e2, e3].all notStar = true) → PA X [e1, e2, e3] (fun σ H Q => σ[0]? = some (some (.ref ph.1)) ∧ Q [.bl b1, .bl b2, .bl b3] H) := fun {e1 e2 e3 b1 b2 b3} p1 p2 p3 hn => by
    simp only [List.all_cons, List.all_nil, Bool.and_eq_true, Bool.and_true] at hn
    refine ⟨fun pos pins s σ H Q I hq => (pa_cons p1 (pa_cons p2 (pa_cons p3 pa_nil (star_cons hn.2.2)) (star_cons hn.2.1)) (star_cons hn.1)).run pos pins s σ H Q I ⟨hq.1, hq.1, hq.1, hq.2⟩⟩
  have c1 := A4 (I "NoCurve" (by decide) (by decide +kernel) (by decide +kernel) 1) (I "NoLot" (by decide) (by decide +kernel) (by decide +kernel) 5) (I "NoPane" (by decide) (by decide +kernel) (by decide +kernel) 9) (I "NoFace" (by decide) (by decide +kernel) (by decide +kernel) 13) rfl
  have c2 := A4 (I "NoCell" (by decide) (by decide +kernel) (by decide +kernel) 21) (I "NoCorner" (by decide) (by decide +kernel) (by decide +kernel) 25) (I "NoNumber" (by decide) (by decide +kernel) (by decide +kernel) 29) (I "NoCounts" (by decide) (by decide +kernel) (by decide +kernel) 33) rfl
  have c3 := A4 (I "NoCover" (by decide) (by decide +kernel) (by decide +kernel) 42) (I "NoTurn" (by decide) (by decide +kernel) (by decide +kernel) 46) (I "NoCut" (by decide) (by decide +kernel) (by decide +kernel) 50) (I "NoOrder" (by decide) (by decide +kernel) (by decide +kernel) 54) rfl
  have c4 := A3 (I "TooMany" (by decide) (by decide +kernel) (by decide +kernel) 62) (I "NoText" (by decide) (by decide +kernel) (by decide +kernel) 66) (I "NoLine" (by decide) (by decide +kernel) (by decide +kernel) 70) rfl
  have v := fun (p : Pos) => pe_var (X := X) (pos := p) h1 hvis (by decide +kernel) (by decide +kernel)
  refine ⟨_, pss_cons (ps_set hnd h1 hloc (pe_lst c1) rfl (.inl (hfn _))) (pss_cons (ps_set hnd h1 hloc (pe_op op_cat (v (P 20)) (pe_lst c2)) rfl (.inl (hfn _))) (pss_cons (ps_set hnd h1 hloc (pe_op op_cat (v (P 41)) (pe_lst c3)) rfl (.inl (hfn _))) (pss_one (ps_ret (pe_op op_cat (v (P 61)) (pe_lst c4)))))), ?_⟩
  have g0 : ∀ (τ : L2.St) (v : V), τ[0]? = some (some (.ref ph.1)) → (τ.set 1 (some v))[0]? = some (some (.ref ph.1)) := fun τ v e => by rw [List.getElem?_set_ne (by decide)]; exact e
  have g1 : ∀ (τ : L2.St) (v : V), τ.length = 2 → (τ.set 1 (some v))[1]? = some (some v) := fun τ v e => List.getElem?_set_self (by omega)
  have gl : ∀ (τ : L2.St) (v : V), τ.length = 2 → (τ.set 1 (some v)).length = 2 := fun τ v e => by rw [List.length_set]; exact e
  refine ⟨h0, by show 4 ≤ sizeLine; decide, fun p1 n1 => ⟨.ref p1, g1 _ _ hl, g0 _ _ h0, by show 4 ≤ sizeLine; decide, fun p2 n2 => ⟨p1, p2, _, _, rfl, rfl, (upd_ne (ne_of_none upd_same n2)).trans upd_same, upd_same, by show 4 + 4 ≤ sizeLine; decide, fun p3 n3 => ⟨.ref p3, g1 _ _ (gl _ _ hl), g0 _ _ (g0 _ _ h0), by show 4 ≤ sizeLine; decide, fun p4 n4 => ⟨p3, p4, _, _, rfl, rfl, (upd_ne (ne_of_none upd_same n4)).trans upd_same, upd_same, by show 8 + 4 ≤ sizeLine; decide, fun p5 n5 => ⟨.ref p5, g1 _ _ (gl _ _ (gl _ _ hl)), g0 _ _ (g0 _ _ (g0 _ _ h0)), by show 3 ≤ sizeLine; decide, fun p6 n6 => ⟨p5, p6, _, _, rfl, rfl, (upd_ne (ne_of_none upd_same n6)).trans upd_same, upd_same, by show 12 + 3 ≤ sizeLine; decide, fun p7 n7 => ?_⟩⟩⟩⟩⟩⟩⟩
  exact q p7 _ (fun b o e => same_obj n7 b o (same_obj n6 b o (same_obj n5 b o (same_obj n4 b o (same_obj n3 b o (same_obj n2 b o (same_obj n1 b o e))))))) (upd_none (upd_none (upd_none (upd_none (upd_none (upd_none n7)))))) upd_same
end
end Cv
set_option maxRecDepth 100000
set_option maxHeartbeats 4000000
set_option autoImplicit false
/-! Engine, part Hd: _law_classes called in an except suite; the places of its truths. -/
namespace Cv
open PySem PySem.Spec L2 PyProof.Rows HotX L2H
/-- the def _law_classes stands -/
def ClsFn (K : PySem.W.Frag) (mg : Str → Option Value) : Prop := ∃ (f : Addr) (P : Nat → Pos) (params : Arguments) (dV kV doc pm cdv ct oc : Value) (an od : Option Addr) (osl : Array (Option Value)),
  mg (Str.ofString "_law_classes") = some (.ref f) ∧ PySem.W.keepIn K (.ref f) = true ∧ K.lookup f = some ⟨oc, od, .func (PySem.W.fnOf (Str.ofString "_law_classes") (Str.ofString "_law_classes") params (bClasses P) sClasses dV kV doc pm an cdv ct), osl⟩ ∧
  PySem.W.codeIn K cdv (Str.ofString "_law_classes") = true ∧ Binds K (PySem.W.fnOf (Str.ofString "_law_classes") (Str.ofString "_law_classes") params (bClasses P) sClasses dV kV doc pm an cdv ct) [Str.ofString "_law_e"] []
variable [TabC]
section
variable {X : Cx} {ph : Addr × Obj} {c : String}
def tCls (i : Nat) (a : Addr) (c : String) : TE := fun σ H Q => σ[i]? = some (some (.ref a)) ∧ ∀ (p : Addr) (H' : Hp), Same H H' → H p = none → H' p = some (.lst ((clsB c).map V.bl)) → Q (.ref p) H'
theorem pe_cls (h : Han X ph c) (F : ClsFn X.K X.mg) (hr : RoomH 1 X.A) {i : Nat} {e : Str} (hN : X.N[i]? = some e) (hv : Vis X.env.scope e) (hde : (e == ("__debug__" : Str)) = false) (hce : (e == ("__classdict__" : Str)) = false) (hg : Gl X (Str.ofString "_law_classes")) {p p1 pos : Pos} :
    PE X (.Call (.Name (Str.ofString "_law_classes") p) [.Name e p1] [] pos) (tCls i ph.1 c) := by
  refine ⟨fun pins s σ H Q I hq => ?_⟩
  obtain ⟨f, P, params, dV, kV, doc, pm, cdv, ct, oc, an, od, osl, hm, hk, lk, hcd, hb⟩ := F
  obtain ⟨h0, q⟩ := hq
  refine wpAny_Call_Name_kw (ld_glob I hg hm ?_ (by decide +kernel))
  refine PySem.W.callWith_K (h₀ := X.base) I.ok.mod.kin hk (thn ((pa_cons (pe_var (pos := p1) hN hv hde hce) pa_nil rfl).run pos pins s σ H (fun vs H1 => vs = [.ref ph.1] ∧ H1 = H) I ⟨.ref ph.1, h0, rfl, rfl⟩) fun us s1 ⟨vs, H1, I1, r, e1, e2⟩ => ⟨I1.kIn, ?_⟩) rfl rfl
  subst e1 e2
  have P1 := I1.pin ph (List.mem_append_left _ h.pn)
  have hpin : PinOk X.stack H1 s1 ph := ⟨P1.1, P1.2.1, fun hm => (List.mem_cons.mp (I1.stkSub ph.1 hm)).elim P1.2.2.1 P1.2.2.2.1, P1.2.2.2.2⟩
  have S : FnScope nClasses [Str.ofString "_law_e"] sClasses := ⟨rfl, rfl, rfl, by decide +kernel, rfl, by decide +kernel, by decide +kernel⟩
  have b := hb s1 us I1.kIn (by rw [List.append_nil, ← r.length]; rfl)
  rw [List.append_nil] at b
  have KX : X.K.In s1.heap := I1.kIn
  have e0 := I1.env0
  have rc : codeAny (model X.prog X.w) X.A (.call (.ref f) ⟨us, []⟩) (CR C8.CX0 X.stack X.prog X.w H1 s1 Q C8.E0) s1 := by
    have hkind : ∀ y ∈ [Str.ofString "_law_e"].zip us, sClasses.names.lookup y.1 = some .local ∨ (sClasses.names.lookup y.1 = some .cell ∧ ((cellsFrom (s1.heap.objs.size + 1) sClasses.names []).lookup y.1).isSome = true) := fun ⟨n, v⟩ hy => by
      rcases S.par n (List.of_mem_zip hy).1 with q | q
      · exact .inl q
      · exact .inr ⟨q, PySem.W.cellsFrom_some _ _ _ (.inl q)⟩
    refine codeAny_call_function hr.depth (KX _ _ lk) rfl S.co S.gen rfl (PySem.W.codeRec_of KX hcd) (b _ _ _ _ (wpAny_newFunctionEnv_cells S.kind hkind fun env he s2 x => ?_))
    subst he
    refine ⟨(e0.mod.nolimit.keeps fun b o e => (e0.bs b o e).1).keeps x.toInCall.keep, codeAny_func ?_⟩
    have J : Inv (cxH C8.CX0 X.prog X.w X.K X.mg X.base nClasses (Str.ofString "_law_classes") sClasses f cdv X.A X.stack s1 H1 C8.E0 ph) [] (L2.start nClasses [.ref ph.1]) H1 s2 := inv_startH S hpin e0 rfl r x
    have hc : Han (cxH C8.CX0 X.prog X.w X.K X.mg X.base nClasses (Str.ofString "_law_classes") sClasses f cdv X.A X.stack s1 H1 C8.E0 ph) ph c := ⟨h.hot, List.mem_cons_self, h.zc, h.ek, h.eg⟩
    obtain ⟨t, ht, hq⟩ := ps_classes hc rfl rfl (fun _ => rfl) P (Q := Q) (σ := L2.start nClasses [.ref ph.1]) (H := H1) rfl rfl q
    refine wpAny_mono (ht.run [] s2 _ H1 _ J hq) (fun fl s' hs => ?_) fun e s' hs => hs
    cases fl with
    | ret u => obtain ⟨v, σ', H', J', rv, q⟩ := hs; exact ⟨v, H', J'.os, J'.bare, J'.base, J'.hok, rv, q⟩
    | next => obtain ⟨σ', H', J', q⟩ := hs; exact ⟨V.non, H', J'.os, J'.bare, J'.base, J'.hok, rfl, q⟩
    | brk => obtain ⟨_, _, _, q⟩ := hs; exact False.elim q
    | cont => obtain ⟨_, _, _, q⟩ := hs; exact False.elim q
  refine wpAny_call (codeAny_mono rc fun r s2 hq => ?_)
  cases r with
  | error e => exact (show False from hq).elim
  | ok fl =>
    cases fl with
    | ret u => exact I1.after hq
    | next => exact False.elim hq
    | brk => exact False.elim hq
    | cont => exact False.elim hq
end
/-! ### the places -/
def plc : Nat → List Bool → List Nat
  | _, [] => []
  | k, true :: r => k :: plc (k + 1) r
  | k, false :: r => plc (k + 1) r
theorem plc_snoc : ∀ (k : Nat) (bs : List Bool) (b : Bool), plc k (bs ++ [b]) = plc k bs ++ (if b then [k + bs.length] else [])
  | k, [], b => by cases b <;> rfl
  | k, true :: r, b => by
    simp only [List.cons_append, plc, plc_snoc (k + 1) r b, List.length_cons]
    rw [show k + 1 + r.length = k + (r.length + 1) by omega]
  | k, false :: r, b => by
    simp only [List.cons_append, plc, plc_snoc (k + 1) r b, List.length_cons]
    rw [show k + 1 + r.length = k + (r.length + 1) by omega]
def plV (bs : List Bool) : List V := (plc 0 bs).map fun n : Nat => V.int (n : Int)
theorem plc_len : ∀ (k : Nat) (bs : List Bool), (plc k bs).length ≤ bs.length
  | _, [] => Nat.le_refl _
  | k, true :: r => Nat.succ_le_succ (plc_len (k + 1) r)
  | k, false :: r => Nat.le_succ_of_le (plc_len (k + 1) r)
theorem plV_take {bs : List Bool} {i : Nat} {b : Bool} (e : bs[i]? = some b) : plV (bs.take (i + 1)) = plV (bs.take i) ++ (if b then [V.int (i : Nat)] else []) := by
  obtain ⟨hi, eb⟩ := List.getElem?_eq_some_iff.mp e
  have et : bs.take (i + 1) = bs.take i ++ [b] := by rw [List.take_succ, e]; rfl
  have el : (bs.take i).length = i := by rw [List.length_take]; omega
  unfold plV
  rw [et, plc_snoc, List.map_append, el]
  cases b <;> simp
def scLc (own : String) : Scope := { kind := .function, names := [(Str.ofString ".0", .local), (Str.ofString "_law_place", .local), (Str.ofString own, .local)], isGenerator := false, isCoroutine := false, more := [] }
def lcE (own : String) (P : Nat → Pos) (k : Nat) : Expr := .ListComp (.Name (Str.ofString "_law_place") (P k)) [⟨.Tuple [.Name (Str.ofString "_law_place") (P (k + 1)), .Name (Str.ofString own) (P (k + 2))] 0 (P (k + 3)),
  .Call (.Name (Str.ofString "enumerate") (P (k + 4))) [.Call (.Name (Str.ofString "_law_classes") (P (k + 5))) [.Name (Str.ofString "_law_e") (P (k + 6))] [] (P (k + 7))] [] (P (k + 8)), [.Name (Str.ofString own) (P (k + 9))], 0⟩] (scLc own) (P (k + 10))
section
variable {X : Cx} {ph : Addr × Obj} {c own : String}
/-- what the context of such a comprehension tells -/
structure LcX (X : Cx) (own : String) : Prop where
  nd : X.N.Nodup
  ne : X.N[1]? = some (Str.ofString "_law_e")
  np : X.N[2]? = some (Str.ofString "_law_place")
  no : X.N[3]? = some (Str.ofString own)
  vis : Vis X.env.scope (Str.ofString "_law_e")
  gc : Gl X (Str.ofString "_law_classes")
  ge : Gl X (Str.ofString "enumerate")
  blk : BlkOk X.N X.env.scope (scLc own) [(Str.ofString "_law_place", 2), (Str.ofString own, 3)]
  od : (Str.ofString own == ("__debug__" : Str)) = false
  oc : (Str.ofString own == ("__classdict__" : Str)) = false
  ol : (scLc own).names.lookup (Str.ofString own) = some .local
  pl : (scLc own).names.lookup (Str.ofString "_law_place") = some .local
def tPl (a : Addr) (c : String) : TE := fun σ H Q => σ[1]? = some (some (.ref a)) ∧ 3 < σ.length ∧ ∀ (p : Addr) (H' : Hp), Same H H' → H p = none → H' p = some (.lst (plV (clsB c))) → Q (.ref p) H'
abbrev lcT (X : Cx) (a : Addr) (c : String) : TE := tLc (iEnum X.K (tCons (tCls 1 a c) tNil)) (gTup X.K 2 (gCons (gName 2) (gCons (gName 3) gNil))) (tB (tVar 3)) (tVar 2) [2, 3]
theorem lcT_of {σ : L2.St} {H : Hp} {Q : VK} {a : Addr} (h : tPl a c σ H Q) : lcT X a c σ H Q := by
  obtain ⟨h1, hl, q⟩ := h
  refine ⟨h1, fun p H1 sm np hp => ⟨p, (clsB c).map V.bl, rfl, SqL.of hp, fun D nD => ?_⟩⟩
  refine ⟨fun i m H2 => m = (clsB c).length - i ∧ i ≤ (clsB c).length ∧ Same H1 H2 ∧ H2 D = some (.lst (plV ((clsB c).take i))), ⟨(clsB c).length, rfl, Nat.zero_le _, same_obj nD, upd_same⟩, ?_⟩
  rintro i m H2 ⟨rfl, hi, s2, hD⟩
  have hp2 := s2 _ _ hp
  by_cases hlt : i < (clsB c).length
  · obtain ⟨b, eb⟩ : ∃ b, (clsB c)[i]? = some b := ⟨_, List.getElem?_eq_getElem hlt⟩
    refine .inr ⟨⟨_, .bl b, SqL.of hp2, by rw [List.getElem?_map, eb]; rfl⟩, fun H' => Same H1 H' ∧ H' D = some (.lst (plV ((clsB c).take (i + 1)))), fun H' h => ⟨(clsB c).length - (i + 1), by omega, rfl, hlt, h.1, h.2⟩, fun x H' y => ?_⟩
    obtain ⟨T, x', rfl, nT, rfl, hx⟩ := y
    have ex : x' = .bl b := by
      have := hx _ (SqL.of hp2)
      rw [List.getElem?_map, eb] at this
      exact (Option.some.inj this).symm
    subst ex
    have hD3 : (upd H2 T (.tup [.int (i : Nat), .bl b])) D = some (.lst (plV ((clsB c).take i))) := by rw [upd_ne (ne_of_none hD nT)]; exact hD
    have sm3 : Same H1 (upd H2 T (.tup [.int (i : Nat), .bl b])) := fun b o e => same_obj nT b o (s2 b o e)
    refine ⟨T, _, rfl, SqT.of upd_same, rfl, _, _, rfl, _, _, rfl, rfl, ?_, ?_⟩
    · refine wipe_same (by rw [List.length_set, List.length_set, wipe_length]) fun j hj => ?_
      rw [List.getElem?_set_ne (fun z => hj (by simp [z])), List.getElem?_set_ne (fun z => hj (by simp [z])), wipe_out hj]
    · refine ⟨.bl b, List.getElem?_set_self (by rw [List.length_set, wipe_length]; exact hl), b, rfl, ?_⟩
      cases b with
      | false =>
        simp only [Bool.false_eq_true, if_false]
        refine ⟨sm3, ?_⟩
        rw [plV_take eb, hD3]
        simp
      | true =>
        simp only [if_true]
        refine ⟨.int (i : Nat), by rw [List.getElem?_set_ne (by decide), List.getElem?_set_self (by rw [wipe_length]; omega)], _, hD3, ?_, ?_, ?_⟩
        · have := plc_len 0 ((clsB c).take i)
          have e15 : (clsB c).length = 15 := by simp [clsB, clsNames]
          unfold plV
          rw [List.length_map]
          rw [List.length_take] at this
          rw [sizeLine_eq]
          omega
        · intro b o e
          have : b ≠ D := ne_of_none e nD
          rw [upd_ne this]
          exact sm3 b o e
        · rw [upd_same, plV_take eb]
          rfl
  · have e : i = (clsB c).length := by omega
    subst e
    refine .inl ⟨⟨_, SqL.of hp2, by rw [List.length_map]; exact Nat.le_refl _⟩, q D H2 (fun b o e => s2 b o (sm b o e)) (Same.free sm nD) ?_⟩
    rw [hD, List.take_of_length_le (Nat.le_refl _)]
theorem lc_parts (h : Han X ph c) (L : LcX X own) (P : Nat → Pos) (k : Nat) :
    (∀ (s : Shared) (H : Hp) (C : Addr) (cl : List (Str × Addr)) (fp : List Addr), BlkHot (X.blk s H (scLc own) (compEnvC (scLc own) cl C X.env) fp) ph → PG (X.blk s H (scLc own) (compEnvC (scLc own) cl C X.env) fp) (.Tuple [.Name (Str.ofString "_law_place") (P (k + 1)), .Name (Str.ofString own) (P (k + 2))] 0 (P (k + 3))) (gTup X.K 2 (gCons (gName 2) (gCons (gName 3) gNil)))) ∧
    (∀ (s : Shared) (H : Hp) (C : Addr) (cl : List (Str × Addr)) (fp : List Addr), PTs (X.blk s H (scLc own) (compEnvC (scLc own) cl C X.env) fp) [.Name (Str.ofString own) (P (k + 9))] (tB (tVar 3))) ∧
    (∀ (s : Shared) (H : Hp) (C : Addr) (cl : List (Str × Addr)) (fp : List Addr), PE (X.blk s H (scLc own) (compEnvC (scLc own) cl C X.env) fp) (.Name (Str.ofString "_law_place") (P k)) (tVar 2)) := by
  have lp : ∀ (cl : List (Str × Addr)) (C : Addr), (compEnvC (scLc own) cl C X.env).scope.names.lookup (Str.ofString "_law_place") = some .local := fun cl C => lookup_relS_keep (by decide) L.pl
  have lo : ∀ (cl : List (Str × Addr)) (C : Addr), (compEnvC (scLc own) cl C X.env).scope.names.lookup (Str.ofString own) = some .local := fun cl C => lookup_relS_keep (by decide) L.ol
  refine ⟨fun s H C cl fp hb => ?_, fun s H C cl fp => ?_, fun s H C cl fp => ?_⟩
  · exact pg_tupQ (ph := ph) h.hot hb (pgs_cons (pg_name L.nd L.np (.inl (lp cl C)) (.inr (lp cl C))) (pgs_cons (pg_name L.nd L.no (.inl (lo cl C)) (.inr (lo cl C))) pgs_nil rfl) rfl) rfl rfl
  · exact pts_one (pt_val (pe_var L.no (.inl (lo cl C)) L.od L.oc) (by intro _; rfl))
  · exact pe_var L.np (.inl (lp cl C)) (by decide +kernel) (by decide +kernel)
theorem pe_places (h : Han X ph c) (F : ClsFn X.K X.mg) (hr : RoomH 1 X.A) (L : LcX X own) (P : Nat → Pos) (k : Nat) : PE X (lcE own P k) (tPl ph.1 c) := by
  obtain ⟨pg, pt, pe⟩ := lc_parts h L P k
  refine ⟨fun pins s σ H Q I hq => (pe_lcQ h.hot h.pn L.nd (pi_enumQ L.ge h.eg.enu (pa_cons (pe_cls h F hr L.ne L.vis (by decide +kernel) (by decide +kernel) L.gc) pa_nil rfl) rfl) L.blk pg pt pe (by intro _; rfl)).run pins s σ H Q I (lcT_of hq)⟩
theorem ps_places (h : Han X ph c) (F : ClsFn X.K X.mg) (hr : RoomH 1 X.A) (L : LcX X own) (P : Nat → Pos) (k : Nat) {i : Nat} {y : Str} {py spos : Pos} (hy : X.N[i]? = some y) (hyl : X.env.scope.names.lookup y = some .local) (hk : X.env.scope.kind = .function) (hl : (py.line == (P (k + 10)).line) = true)
    (ha : ((scLc own).names.any fun (n, k) => n == y && (k == .local || k == .cell)) = false) : PS X (.Assign [.Name y py] (lcE own P k) spos) (tAsg (tPl ph.1 c) (gName i)) := by
  obtain ⟨pg, pt, pe⟩ := lc_parts h L P k
  refine ⟨fun pins s σ H D I hq => (ps_setLcQ h.hot h.pn L.nd hy hyl (sw_true hk hyl hl ha) (pi_enumQ L.ge h.eg.enu (pa_cons (pe_cls h F hr L.ne L.vis (by decide +kernel) (by decide +kernel) L.gc) pa_nil rfl) rfl) L.blk pg pt pe (by intro _; rfl)).run pins s σ H D I (lcT_of hq)⟩
end
end Cv
set_option maxRecDepth 100000
set_option maxHeartbeats 4000000
set_option autoImplicit false
/-! Engine, part He: what _law_refused and _law_told do with a refusal. -/
namespace Cv
open PySem PySem.Spec L2 PyProof.Rows HotX L2H
def ifV (P : Nat → Pos) : Stmt := .If (.UnaryOp .Not (.Call (.Name (Str.ofString "isinstance") (P 4)) [.Name (Str.ofString "_law_e") (P 5), .Name (Str.ofString "ValueError") (P 6)] [] (P 7)) (P 8)) [.Return (some (.List [.Constant (.int 99) 0 (P 9)] (P 10))) (P 11)] [] (P 12)
def actE (P : Nat → Pos) : Expr := .Call (.Name (Str.ofString "_law_call") (P 0)) [] [] (P 1)
def bRefused (P : Nat → Pos) : List Stmt := [.Try [.Expr (actE P) (P 2)] [.ExceptHandler (some (.Name (Str.ofString "CurveError") (P 3))) (some (Str.ofString "_law_e")) [ifV P, .Return (some (lcE "_law_own" P 13)) (P 24)] (P 25)] [] [] (P 26), .Return (some (.List [] (P 27))) (P 28)]
def bTold (P : Nat → Pos) : List Stmt := [.Try [.Return (some (actE P)) (P 2)] [.ExceptHandler (some (.Name (Str.ofString "CurveError") (P 3))) (some (Str.ofString "_law_e")) [ifV P, .Assign [.Name (Str.ofString "_law_found") (P 13)] (lcE "_law_mark" P 14) (P 25),
  .Return (some (.IfExp (.Compare (.Call (.Name (Str.ofString "len") (P 26)) [.Name (Str.ofString "_law_found") (P 27)] [] (P 28)) [.Eq] [.Constant (.int 1) 0 (P 29)] (P 30)) (.Name (Str.ofString "_law_found") (P 31)) (.List [.Constant (.int 99) 0 (P 32)] (P 33)) (P 34))) (P 35)] (P 36)] [] [] (P 37)]
def loc (x : String) : Str × NameKind := (Str.ofString x, .local)
def glo (x : String) : Str × NameKind := (Str.ofString x, .globalImplicit)
def fast (x : String) : Str × Const := (Str.ofString "fast", .str (Str.ofString x))
def sRefused : Scope := { kind := .function, names := [loc "_law_call", loc "_law_e", glo "CurveError", glo "isinstance", glo "ValueError", glo "enumerate", glo "_law_classes"], isGenerator := false, isCoroutine := false, more := [fast "_law_call", fast "_law_e", fast "_law_place", fast "_law_own"] }
def sTold : Scope := { kind := .function, names := [loc "_law_call", loc "_law_e", loc "_law_found", glo "CurveError", glo "isinstance", glo "ValueError", glo "enumerate", glo "_law_classes", glo "len"], isGenerator := false, isCoroutine := false, more := [fast "_law_call", fast "_law_e", fast "_law_place", fast "_law_mark", fast "_law_found"] }
def nRefused : List Str := [Str.ofString "_law_call", Str.ofString "_law_e", Str.ofString "_law_place", Str.ofString "_law_own"]
def nTold : List Str := [Str.ofString "_law_call", Str.ofString "_law_e", Str.ofString "_law_place", Str.ofString "_law_mark", Str.ofString "_law_found"]
theorem fs_refused : FnScope nRefused [Str.ofString "_law_call"] sRefused := ⟨rfl, rfl, rfl, by decide +kernel, rfl, by decide +kernel, by decide +kernel⟩
theorem fs_told : FnScope nTold [Str.ofString "_law_call"] sTold := ⟨rfl, rfl, rfl, by decide +kernel, rfl, by decide +kernel, by decide +kernel⟩
theorem place_mem {c : String} {j : Nat} (h : placeOf c = some j) : c ∈ clsNames := by
  have go : ∀ (l : List String) (i : Nat), placeIn c l i = some j → c ∈ l := fun l => by
    induction l with
    | nil => intro i h; cases h
    | cons x r ih =>
      intro i h
      simp only [placeIn] at h
      split at h
      · rename_i e; rw [e]; exact List.mem_cons_self
      · exact List.mem_cons_of_mem _ (ih _ h)
  exact go _ _ h
theorem plV_place {c : String} {j : Nat} (h : placeOf c = some j) : plV (clsB c) = [V.int (j : Nat)] := by
  have key : ∀ d ∈ clsNames, ∀ j, placeOf d = some j → plc 0 (clsB d) = [j] := by decide +kernel
  have mem := place_mem h
  unfold plV
  rw [key c mem j h]
  rfl
variable [TabC]
/-- what a suite is to reach: the list of one place -/
def tCatch (K : PySem.W.Frag) (cls : Value) (d : Option Addr) (Q : VK) (H : Hp) : Prop := ∃ (c : String) (j : Nat), placeOf c = some j ∧ ExK K c ∧ cls = .ref (He.ga K (Str.ofString c)) ∧ d = none ∧ ∀ (p : Addr) (H' : Hp), Same H H' → H p = none → H' p = some (.lst [.int (j : Nat)]) → Q (.ref p) H'
def tSuite (K : PySem.W.Frag) (n : Nat) (a : Addr) (cls : Value) (d : Option Addr) : TS := fun D σ H => σ[1]? = some (some (.ref a)) ∧ σ.length = n ∧ tCatch K cls d D.rt H
section
variable {X : Cx} {a : Addr} {oe : Obj} {cls : Value} {d : Option Addr}
theorem ps_ifV {c : String} (h : Han X (a, oe) c) (hN : X.N[1]? = some (Str.ofString "_law_e")) (hv : Vis X.env.scope (Str.ofString "_law_e")) (hi : Gl X (Str.ofString "isinstance")) (hg : Gl X (Str.ofString "ValueError")) (P : Nat → Pos) : PS X (ifV P) (fun D σ H => σ[1]? = some (some (.ref a)) ∧ D.nx σ H) := by
  refine ⟨fun pins s σ H D I hq => (ps_if (pt_not (pt_val (pe_isV h hi hN hv (by decide +kernel) (by decide +kernel) hg) (by intro _; rfl))) (pss_one (ps_ret (pe_lst (pa_cons pe_int pa_nil rfl)))) pss_nil).run pins s σ H D I ?_⟩
  exact ⟨hq.1, true, rfl, hq.2⟩
theorem suite_refused (hot : X.A.handled = none) (hN : X.N = nRefused) (hs : X.env.scope = sRefused) (eg : ExG X.mg X.K) (F : ClsFn X.K X.mg) (hr : L2.Room 1 X.A) (pn : List (Addr × Obj)) (hz : L2N.Zn cls d oe) (hf : ∃ vs, oe.data = .fields vs) (P : Nat → Pos) :
    PSs (X.suite a ((a, oe) :: pn)) [ifV P, .Return (some (lcE "_law_own" P 13)) (P 24)] (tSuite X.K 4 a cls d) := by
  refine ⟨fun pins s σ H D I hq => ?_⟩
  obtain ⟨h1, hl, c, j, hj, ek, rfl, rfl, q⟩ := hq
  obtain ⟨vs, hv⟩ := hf
  have hn : Han (X.suite a ((a, oe) :: pn)) (a, oe) c := ⟨⟨rfl, vs, hv, hz.2.2 vs hv⟩, List.mem_cons_self, ⟨hz.1, hz.2.1⟩, ek, eg⟩
  have N' : (X.suite a ((a, oe) :: pn)).N = nRefused := hN
  have S' : (X.suite a ((a, oe) :: pn)).env.scope = sRefused := hs
  have gl : ∀ x, sRefused.names.lookup x = some .globalImplicit → Gl (X.suite a ((a, oe) :: pn)) x := fun x e => by show (X.suite a ((a, oe) :: pn)).env.scope.names.lookup x = _; rw [S']; exact e
  have vis : Vis (X.suite a ((a, oe) :: pn)).env.scope (Str.ofString "_law_e") := by rw [S']; exact .inl (by decide +kernel)
  have hrh : RoomH 1 (X.suite a ((a, oe) :: pn)).A := ⟨hr.dp, hr.un⟩
  have L : LcX (X.suite a ((a, oe) :: pn)) "_law_own" := ⟨by rw [N']; decide +kernel, by rw [N']; rfl, by rw [N']; rfl, by rw [N']; rfl, vis, gl _ (by decide +kernel), gl _ (by decide +kernel), by rw [N', S']; exact blkOk_by (by decide +kernel), by decide +kernel, by decide +kernel, by decide +kernel, by decide +kernel⟩
  refine (pss_cons (ps_ifV hn L.ne vis (gl _ (by decide +kernel)) (gl _ (by decide +kernel)) P) (pss_one (ps_ret (pe_places hn F hrh L P 13)))).run pins s σ H D I ⟨h1, h1, by omega, fun p H' sm np hp => q p H' sm np ?_⟩
  rw [hp, plV_place hj]
theorem suite_told (hot : X.A.handled = none) (hN : X.N = nTold) (hs : X.env.scope = sTold) (hfn : ∀ x, X.fn x = true) (eg : ExG X.mg X.K) (F : ClsFn X.K X.mg) (hr : L2.Room 1 X.A) (pn : List (Addr × Obj)) (hz : L2N.Zn cls d oe) (hf : ∃ vs, oe.data = .fields vs) (P : Nat → Pos) (hP : ((P 13).line == (P 24).line) = true) :
    PSs (X.suite a ((a, oe) :: pn)) [ifV P, .Assign [.Name (Str.ofString "_law_found") (P 13)] (lcE "_law_mark" P 14) (P 25),
  .Return (some (.IfExp (.Compare (.Call (.Name (Str.ofString "len") (P 26)) [.Name (Str.ofString "_law_found") (P 27)] [] (P 28)) [.Eq] [.Constant (.int 1) 0 (P 29)] (P 30)) (.Name (Str.ofString "_law_found") (P 31)) (.List [.Constant (.int 99) 0 (P 32)] (P 33)) (P 34))) (P 35)] (tSuite X.K 5 a cls d) := by
  refine ⟨fun pins s σ H D I hq => ?_⟩
  obtain ⟨h1, hl, c, j, hj, ek, rfl, rfl, q⟩ := hq
  obtain ⟨vs, hv⟩ := hf
  have hn : Han (X.suite a ((a, oe) :: pn)) (a, oe) c := ⟨⟨rfl, vs, hv, hz.2.2 vs hv⟩, List.mem_cons_self, ⟨hz.1, hz.2.1⟩, ek, eg⟩
  have N' : (X.suite a ((a, oe) :: pn)).N = nTold := hN
  have S' : (X.suite a ((a, oe) :: pn)).env.scope = sTold := hs
  have gl : ∀ x, sTold.names.lookup x = some .globalImplicit → Gl (X.suite a ((a, oe) :: pn)) x := fun x e => by show (X.suite a ((a, oe) :: pn)).env.scope.names.lookup x = _; rw [S']; exact e
  have vis : Vis (X.suite a ((a, oe) :: pn)).env.scope (Str.ofString "_law_e") := by rw [S']; exact .inl (by decide +kernel)
  have visF : Vis (X.suite a ((a, oe) :: pn)).env.scope (Str.ofString "_law_found") := by rw [S']; exact .inl (by decide +kernel)
  have hrh : RoomH 1 (X.suite a ((a, oe) :: pn)).A := ⟨hr.dp, hr.un⟩
  have L : LcX (X.suite a ((a, oe) :: pn)) "_law_mark" := ⟨by rw [N']; decide +kernel, by rw [N']; rfl, by rw [N']; rfl, by rw [N']; rfl, vis, gl _ (by decide +kernel), gl _ (by decide +kernel), by rw [N', S']; exact blkOk_by (by decide +kernel), by decide +kernel, by decide +kernel, by decide +kernel, by decide +kernel⟩
  have n4 : (X.suite a ((a, oe) :: pn)).N[4]? = some (Str.ofString "_law_found") := by rw [N']; rfl
  have vf := fun (p : Pos) => pe_var (X := X.suite a ((a, oe) :: pn)) (pos := p) n4 visF (by decide +kernel) (by decide +kernel)
  refine (pss_cons (ps_ifV hn L.ne vis (gl _ (by decide +kernel)) (gl _ (by decide +kernel)) P) (pss_cons (ps_places hn F hrh L P 14 n4 (by rw [S']; decide +kernel) (by rw [S']; rfl) hP (by decide +kernel)) (pss_one (ps_ret (pe_ifExp (pt_cmp (pc_eqI (pe_callB call_len_seq (gl _ (by decide +kernel)) eg.len rfl (pa_cons (vf (P 27)) pa_nil rfl) (by decide) (by decide) rfl rfl) pe_int) rfl) (vf (P 31)) (pe_lst (pa_cons pe_int pa_nil rfl))))))).run pins s σ H D I ?_
  refine ⟨h1, h1, by omega, fun p H' sm np hp => ?_⟩
  rw [plV_place hj] at hp
  have g4 : (σ.set 4 (some (V.ref p)))[4]? = some (some (.ref p)) := List.getElem?_set_self (by omega)
  exact ⟨.ref p, g4, p, _, rfl, .inl (SqL.of hp), _, 1, rfl, rfl, true, rfl, .ref p, g4, q p H' sm np hp⟩
end
end Cv
set_option maxRecDepth 100000
set_option maxHeartbeats 4000000
set_option autoImplicit false
/-! Engine, part Hf: a lambda is made, handed over and called. -/
namespace Cv
open PySem PySem.Spec L2 PyProof.Rows LamX
variable [TabC]
/-- the maker of a lambda: its code object and its table -/
structure Mkr (X : Cx) (c P : Addr) : Prop where
  tb : TabB X.base X.mg c P
  code : X.env.code = .ref c
  mem : (P, X.env.qual ++ "<lambda>") ∈ TabC.T
  one : ∀ p ∈ TabC.T, p.1 = P → p.2 = X.env.qual ++ "<lambda>"
section
variable {X : Cx} {pins : List (Addr × Obj)} {σ : L2.St} {H HZ : Hp} {s s1 : Shared}
abbrev lamO (X : Cx) (params : Arguments) (body : Expr) (scope : Scope) (pm ctv : Value) (c' : Addr) : Obj := PySem.W.kla_obj "<lambda>" (X.env.qual ++ "<lambda>") params body scope (cloFrom X.env.cells scope.names []) pm c' ctv
theorem lam_new {c P : Addr} {params : Arguments} {body : Expr} {scope : Scope} {pos : Pos} {E Q : Value → Shared → Prop} (I : Inv X pins σ H s) (M : Mkr X c P) (hT : TbOk H) (hdef : defaultsOf params X.env = ([], [])) (hfree : ∀ y ∈ scope.names, y.2 = .free → ∃ c, X.env.cells.lookup y.1 = some c)
    (h : ∀ (f c' : Addr) (pm ctv : Value) (H1 : Hp) (s' : Shared), Inv X pins σ H1 s' → ExtN H H1 → (∀ b, H1 b = none → H b = none) → TbOk H1 → s'.heap.get? f = some (lamO X params body scope pm ctv c') → H1 f = none → f ∉ frs X.stack → H1 c' = some (CodeO c' (X.env.qual ++ "<lambda>")) → Q (.ref f) s') :
    wpAny (model X.prog X.w) X.A (eval (.Lambda params body scope pos) X.env) Q E s := by
  obtain ⟨ps, hP, ht, ha⟩ := hT _ M.mem
  have bP : s.heap.BuiltinsAt X.mg P := M.tb.bm.keeps I.bk
  have hP' : s.heap.get? P = some { cls := .none, data := .fields ps } := I.hok P _ hP
  have nofr : ∀ f, s.heap.objs.size ≤ f → f ∉ frs X.stack := fun f hf z => (List.mem_cons.mp (I.stkSub _ z)).elim (fun e => by have h1 := I.lt; rw [← e] at h1; exact Nat.lt_irrefl _ (Nat.lt_of_lt_of_le h1 hf)) fun e => I.nofs hf e
  refine PySem.W.kla_eval hdef ?_
  match hc : codeAmong pos ps.toList with
  | some cv =>
    obtain ⟨c', rfl, hco⟩ := ha pos cv hc
    exact PySem.W.kla_makeFunctionHit (mg := X.mg) (c := c) (P := P) (ps := ps) (closure_ok hfree) I.ok.glob (I.mod.glob.keeps I.bk) M.code (M.tb.code.keeps I.bk) hP' ht hc bP fun ctv h' tk hx hsz =>
      h h'.objs.size c' ((X.mg "__name__").getD .none) ctv H _ (I.kept fun b o e => Heap.get?_push_of_some _ (hx b o e)) (ExtN.refl H) (fun _ e => e) hT (Heap.get?_push_size _ rfl) (I.hok.fresh hsz) (nofr _ hsz) hco
  | none =>
    refine PySem.W.kla_makeFunction (mg := X.mg) (c := c) (P := P) (ps := ps) (closure_ok hfree) I.ok.glob (I.mod.glob.keeps I.bk) M.code (M.tb.code.keeps I.bk) hP' ht hc M.tb.gP bP fun c' ctv h' tk hx hge hlt hrec htb => ?_
    obtain ⟨c2, oc, vs, t, e2, hoc, hd, hv⟩ := hrec
    cases e2
    have hsz : s.heap.objs.size ≤ h'.objs.size := Nat.le_trans hge (Nat.le_of_lt hlt)
    have nC : H c' = none := I.hok.fresh hge
    generalize hmore : (#[rawInt pos.line, rawInt pos.col, .ref c'] : Array Value) = more at htb
    have I1 := inv_table (t' := tk) (more := more) (h' := h'.push (lamO X params body scope ((X.mg "__name__").getD .none) ctv c')) I hP (fun b o hb e => Heap.get?_push_of_some _ (hx b o hb e)) (Heap.get?_push_of_some _ htb) hge ⟨oc, vs, t, Heap.get?_push_of_some _ hoc, hd, hv⟩
    have hE : ExtN H (upd (upd H P (.tbl (ps ++ more))) c' (CodeO c' (X.env.qual ++ "<lambda>"))) := fun b o e n => by
      rw [upd_ne (ne_of_none e nC), upd_ne (fun z => n ps (Option.some.inj (e.symm.trans (by rw [z]; exact hP))))]
      exact e
    have eL : (ps ++ more).toList = ps.toList ++ [rawInt pos.line, rawInt pos.col, .ref c'] := by rw [← hmore]; simp
    have hTP : TabS (upd (upd H P (.tbl (ps ++ more))) c' (CodeO c' (X.env.qual ++ "<lambda>"))) P (X.env.qual ++ "<lambda>") := by
      refine ⟨_, by rw [upd_ne (ne_of_none hP nC), upd_same], by rw [eL]; exact PySem.TriplesOk_snoc _ _ _ _ ht, fun p' cv hcv => ?_⟩
      rw [eL] at hcv
      rcases among_app _ ht hcv with z | z
      · obtain ⟨c0, e1, e2⟩ := ha p' cv z
        exact ⟨c0, e1, hE _ _ e2 codeO_ne⟩
      · exact ⟨c', z, upd_same⟩
    refine h h'.objs.size c' ((X.mg "__name__").getD .none) ctv _ _ I1 hE (fun b e => ?_) (fun p hp => ?_) (Heap.get?_push_size _ rfl) ?_ (nofr _ hsz) upd_same
    · have e := upd_none e
      by_cases q : b = P
      · rw [q, upd_same] at e; cases e
      · rw [upd_ne q] at e; exact e
    · by_cases hb : p.1 = P
      · rw [M.one p hp hb, hb]
        exact hTP
      · obtain ⟨ps', a1, a2, a3⟩ := hT p hp
        exact ⟨ps', by rw [upd_ne (ne_of_none a1 nC), upd_ne hb]; exact a1, a2, fun p' cv hcv => let ⟨c0, e1, e2⟩ := a3 p' cv hcv; ⟨c0, e1, hE _ _ e2 codeO_ne⟩⟩
    · rw [upd_ne (Nat.ne_of_gt hlt), upd_ne (Nat.ne_of_gt (Nat.lt_of_lt_of_le (Heap.lt_size hP') hsz))]
      exact I.hok.fresh hsz
/-- the context of the lambda's body -/
def lamC (X : Cx) (A : Around) (outer : List Env) (s : Shared) (H : Hp) (E : XK) (scope : Scope) (f c' : Addr) : Cx := (lamCx X A outer s H E scope f c').tr [] fun e s' => wpAny (model X.prog X.w) (A.deeper (lamEnv X scope s.heap.objs.size f c')) (leaving (lamEnv X scope s.heap.objs.size f c') e)
  (fun _ s'' => L2N.CX X.prog X.w outer H s E e s'') (fun e' s'' => L2N.CX X.prog X.w outer H s E e' s'') s'
/-- x(), in the def that got the lambda -/
theorem pe_actN {CXg : CXT} {Eg : XK} {Ng : List Str} {qg : Str} {sg : Scope} {g f c' : Addr} {cdg pm ctv : Value} {params : Arguments} {body : Expr} {scope : Scope} {k i : Nat} {a : Str} {pn : List (Addr × Obj)} {xe : Value → Shared → Prop} {W : WX} {E : XK} {tb : TE} {p1 p2 : Pos}
    (I : Inv X pins σ H s) (L : LamS X.env.scope scope) (hf : s.heap.get? f = some (lamO X params body scope pm ctv c')) (hfn : H f = none) (hfr : f ∉ frs X.stack)
    (hbind : bindArgs (PySem.W.kla_fn "<lambda>" (X.env.qual ++ "<lambda>") params body scope (cloFrom X.env.cells scope.names []) pm (.ref c') ctv) ⟨[], []⟩ = pure [])
    (tk : L2N.Takes ((cxOf CXg X.prog X.w X.K X.mg X.base Ng qg sg g cdg X.A X.stack s H Eg).tr pn xe) W) (hr : Room (k + 1) (X.A.deeper (envOfC qg sg s.heap.objs.size g cdg)))
    (hbody : ∀ (A : Around) (outer : List Env) (s : Shared) (H : Hp), Room k (A.deeper (lamEnv X scope s.heap.objs.size f c')) → PE (lamC X A outer s H E scope f c') body tb) (hN : Ng[i]? = some a) (hv : Vis sg a) (hd : (a == ("__debug__" : Str)) = false) (hcd : (a == ("__classdict__" : Str)) = false) :
    PE ((cxOf CXg X.prog X.w X.K X.mg X.base Ng qg sg g cdg X.A X.stack s H Eg).tr pn xe) (.Call (.Name a p1) [] [] p2) (fun σZ HZ Q => σZ[i]? = some (some (.ref f)) ∧ HZ c' = some (CodeO c' (X.env.qual ++ "<lambda>")) ∧ (∀ cls d H', E cls d H' → W cls d σZ H') ∧ tb σ HZ Q) := by
  refine ⟨fun pinsZ sZ σZ HZ Q IZ ⟨hs, hc, hW, ht⟩ => ?_⟩
  refine wpAny_Call_Name_kw (thn ((pe_var (pos := p1) (i := i) hN hv hd hcd).run pinsZ sZ σZ HZ (fun v H1 => v = .ref f ∧ H1 = HZ) IZ ⟨.ref f, hs, rfl, rfl⟩) fun u s1 ⟨v, H1, I1, r1, ev, eH⟩ => ?_)
  subst ev eH
  cases r1
  have of1 : s1.heap.get? f = some (lamO X params body scope pm ctv c') := I1.base.keep f _ hf hfn hfr (fun z => nomatch (show f ∈ ([] : List Addr) from z))
  refine PySem.W.callWith_F0 ⟨_, _, _, _, of1⟩ ?_
  have un : Un (frs X.stack) [] H H1 s.heap s1.heap := I1.base
  obtain ⟨⟨oc, vs, t, hoc, hdc, hvc⟩, _, _⟩ := I1.hok c' _ hc
  have rc : codeAny (model X.prog X.w) (X.A.deeper (envOfC qg sg s.heap.objs.size g cdg)) (.call (.ref f) ⟨[], []⟩) (CR (L2N.CX X.prog X.w) (envOfC qg sg s.heap.objs.size g cdg :: X.stack) X.prog X.w H1 s1 Q E) s1 := by
    refine PySem.W.kla_callFunE hr.toRoom.depth of1 rfl L.co L.gen rfl ⟨c', oc, vs, t, rfl, hoc, hdc, hvc⟩ ?_
    rw [hbind]
    refine wpAny_pure (wpAny_newFunctionEnv (fun y hy => (L.own y hy).2) (fun y hy => nomatch hy) (fun h₁ hns hsb => ⟨I1.nolimit.fresh _ hsb, ?_⟩) L.kind)
    show codeAny _ _ (.expr body (lamEnv X scope s1.heap.objs.size f c')) _ _
    have J := lam_start2 (E := E) (scope := scope) (f := f) (c' := c') (h₁ := h₁) (tk := s1.toks + ([] : List (Str × Value)).length) I L I1.env0 hr.toRoom.hd un hns (fun b o e => hsb.extBut b o (Nat.ne_of_lt (Heap.lt_size e)) (Heap.get?_push_of_some _ e))
    have J : Inv (lamC X (X.A.deeper (envOfC qg sg s.heap.objs.size g cdg)) (envOfC qg sg s.heap.objs.size g cdg :: X.stack) s1 H1 E scope f c') [] σ H1 { s1 with heap := h₁, toks := s1.toks + ([] : List (Str × Value)).length } := J.toTry _
    refine PySem.W.kla_codeExpr (wpAny_mono ((hbody _ _ s1 H1 (hr.deeper _)).run [] _ _ H1 Q J ht) (fun v s' hq => ?_) fun e s' hq => hq)
    obtain ⟨w', H', J', rv, q⟩ := hq
    exact ⟨w', H', J'.os, J'.bare, J'.base, J'.hok, rv, q⟩
  refine wpAny_call (codeAny_mono rc fun r s' hq => ?_)
  match r, hq with
  | .error e, hq => exact tk e s' (L2N.XE.of_call I1 hW hq)
  | .ok (.ret u), hq => exact I1.after hq
  | .ok .next, hq => exact False.elim hq
  | .ok .brk, hq => exact False.elim hq
  | .ok .cont, hq => exact False.elim hq
end
/-! ### _law_refused(lambda: ..), _law_told(lambda: ..) -/
def lamName (told : Bool) : String := if told then "_law_told" else "_law_refused"
def lamB (told : Bool) (P : Nat → Pos) : List Stmt := if told then bTold P else bRefused P
def lamSc (told : Bool) : Scope := if told then sTold else sRefused
/-- the def stands -/
def LamFn (K : PySem.W.Frag) (mg : Str → Option Value) (told : Bool) : Prop := ∃ (g : Addr) (P : Nat → Pos) (params : Arguments) (dV kV doc pm cdv ct oc : Value) (an od : Option Addr) (osl : Array (Option Value)),
  mg (Str.ofString (lamName told)) = some (.ref g) ∧ PySem.W.keepIn K (.ref g) = true ∧ K.lookup g = some ⟨oc, od, .func (PySem.W.fnOf (Str.ofString (lamName told)) (Str.ofString (lamName told)) params (lamB told P) (lamSc told) dV kV doc pm an cdv ct), osl⟩ ∧
  PySem.W.codeIn K cdv (Str.ofString (lamName told)) = true ∧ Binds K (PySem.W.fnOf (Str.ofString (lamName told)) (Str.ofString (lamName told)) params (lamB told P) (lamSc told) dV kV doc pm an cdv ct) [Str.ofString "_law_call"] [] ∧ ((P 13).line == (P 24).line) = true
def okQ (told : Bool) (Q : VK) : VK := fun v H => match told with
  | true => Q v H
  | false => ([] : List V).length ≤ sizeLine ∧ ∀ p, H p = none → Q (.ref p) (upd H p (.lst []))
def tLamN (K : PySem.W.Frag) (told : Bool) (t : XK → TE) : TE := fun σ H Q => TbOk H ∧ ∀ H1, ExtN H H1 → (∀ b, H1 b = none → H b = none) → TbOk H1 → t (fun cls d H' => tCatch K cls d Q H') σ H1 (okQ told Q)
section
variable {X : Cx}
theorem pe_lamN {told : Bool} {c P : Addr} {k : Nat} {params : Arguments} {body : Expr} {scope : Scope} {t : XK → TE} {p lpos pos : Pos} (hg : Gl X (Str.ofString (lamName told))) (F : LamFn X.K X.mg told) (FC : ClsFn X.K X.mg) (eg : ExG X.mg X.K) (M : Mkr X c P) (hr : Room (k + 2) X.A) (L : LamS X.env.scope scope) (hdef : defaultsOf params X.env = ([], []))
    (hbind : ∀ (q : Str) (cl : List (Str × Addr)) (pm cv ctv : Value), bindArgs (PySem.W.kla_fn "<lambda>" q params body scope cl pm cv ctv) ⟨[], []⟩ = pure [])
    (hbody : ∀ (A : Around) (outer : List Env) (s : Shared) (H : Hp) (E : XK) (f c' : Addr), Room k (A.deeper (lamEnv X scope s.heap.objs.size f c')) → PE (lamC X A outer s H E scope f c') body (t E)) :
    PE X (.Call (.Name (Str.ofString (lamName told)) p) [.Lambda params body scope lpos] [] pos) (tLamN X.K told t) := by
  refine ⟨fun pins s σ H Q I ⟨hT, h⟩ => ?_⟩
  obtain ⟨g, P, pg, dV, kV, doc, pm0, cdv, ct, oc, an, od, osl, hm, hk, lk, hcg, hb, hP⟩ := F
  refine wpAny_Call_Name_kw (ld_glob I hg hm ?_ (by cases told <;> decide +kernel))
  refine PySem.W.callWith_K (h₀ := X.base) I.ok.mod.kin hk ?_ rfl rfl
  show wpAny _ _ (spliced ((false, eval (.Lambda params body scope lpos) X.env) :: backTo pos (starEach [] X.env))) _ _ s
  refine Calls.spliced_cons (lam_new I M hT hdef (L.has I.ok) fun f c' pm' ctv H1 s' I1 eN dm T1 hf hfn hfr hco => Calls.spliced_nil ⟨I1.kIn, ?_⟩)
  have h1 := h H1 eN dm T1
  have rc : codeAny (model X.prog X.w) X.A (.call (.ref g) ⟨[.ref f], []⟩) (CR C8.CX0 X.stack X.prog X.w H1 s' Q C8.E0) s' := by
    cases told with
    | false =>
      refine run_ofS (N := nRefused) (ps := [Str.ofString "_law_call"]) (us := [.ref f]) (vs := [.ref f]) lk hcg fs_refused hr.toRoom I1.env0 (hb s' [.ref f] I1.kIn rfl) (.cons rfl .nil) rfl fun hr' => ?_
      have hrr : Room (k + 1) (X.A.deeper (envOfC (Str.ofString (lamName false)) (lamSc false) s'.heap.objs.size g cdv)) := ⟨hr', hr.gd⟩
      let Z := (cxOf C8.CX0 X.prog X.w X.K X.mg X.base nRefused (Str.ofString (lamName false)) (lamSc false) g cdv X.A X.stack s' H1 C8.E0).nox
      have act := fun (W : WX) (pn : List (Addr × Obj)) (xe : Value → Shared → Prop) (E : XK) (q1 q2 : Pos) (tk : L2N.Takes (Z.tr pn xe) W) =>
        pe_actN (CXg := C8.CX0) (Eg := C8.E0) (Ng := nRefused) (qg := Str.ofString (lamName false)) (sg := lamSc false) (g := g) (cdg := cdv) (i := 0) (a := Str.ofString "_law_call") (pn := pn) (xe := xe) (W := W) (E := E) (p1 := q1) (p2 := q2) I1 L hf hfn hfr (hbind _ _ _ _ _) tk hrr (fun A outer s H hr2 => hbody A outer s H E f c' hr2) rfl (.inl (by decide +kernel)) (by decide +kernel) (by decide +kernel)
      have ctch : ∀ (cls : Value) (d : Option Addr) (H' : Hp) (D : Ends), D.rt = Q → tCatch X.K cls d Q H' → wAs X.K (.ref (He.ga X.K (Str.ofString "CurveError"))) 1 (fun a cls d => tSuite X.K 4 a cls d) (fun _ _ _ _ => False) D cls d (L2.start nRefused [.ref f]) H' := fun cls d H' D hD z => by
        obtain ⟨cc, j, hj, ek, rfl, rfl, q⟩ := z
        exact ⟨true, ek.cu, fun _ a na => ⟨rfl, rfl, cc, j, hj, ek, rfl, rfl, by rw [show _ = Q from hD]; exact q⟩, fun z => nomatch z⟩
      refine ⟨_, (pss_cons (X := Z) (L2N.ps_try_as (X := Z) (c := .ref (He.ga X.K (Str.ofString "CurveError"))) (i := 1) (n := Str.ofString "_law_e") (ts := fun a cls d => tSuite X.K 4 a cls d) (Wout := fun _ _ _ _ => False)
        (tb := fun W D τ HZ => ∃ E : XK, τ[0]? = some (some (V.ref f)) ∧ HZ c' = some (CodeO c' (X.env.qual ++ "<lambda>")) ∧ (∀ cls d H', E cls d H' → W cls d τ H') ∧ t E σ HZ (fun _ H' => D.nx τ H'))
        rfl rfl (by show nRefused.Nodup; decide +kernel) rfl (show sRefused.names.lookup (Str.ofString "_law_e") = some .local by decide +kernel) ⟨(show sRefused.names.lookup (Str.ofString "CurveError") = some .globalImplicit by decide +kernel), by decide +kernel, .inl eg.ce⟩ takes0N (fun W pn xe tk _ => ⟨fun pins s τ HZ D IZ ⟨E, z⟩ => (pss_one (ps_expr (act W pn xe E (P 0) (P 1) tk) rfl)).run pins s τ HZ D IZ z⟩)
        (fun a oe cls d pn hz hf => suite_refused (X := Z) hrr.toRoom.hd rfl rfl eg FC (hrr.toRoom.mono (by omega)) pn hz hf P)) (pss_one (ps_ret (pe_lst pa_nil)))).nox, ?_⟩
      exact ⟨fun cls d H' => tCatch X.K cls d Q H', rfl, hco, fun cls d H' z => ctch cls d H' _ rfl z, h1⟩
    | true =>
      refine run_ofS (N := nTold) (ps := [Str.ofString "_law_call"]) (us := [.ref f]) (vs := [.ref f]) lk hcg fs_told hr.toRoom I1.env0 (hb s' [.ref f] I1.kIn rfl) (.cons rfl .nil) rfl fun hr' => ?_
      have hrr : Room (k + 1) (X.A.deeper (envOfC (Str.ofString (lamName true)) (lamSc true) s'.heap.objs.size g cdv)) := ⟨hr', hr.gd⟩
      let Z := (cxOf C8.CX0 X.prog X.w X.K X.mg X.base nTold (Str.ofString (lamName true)) (lamSc true) g cdv X.A X.stack s' H1 C8.E0).nox
      have act := fun (W : WX) (pn : List (Addr × Obj)) (xe : Value → Shared → Prop) (E : XK) (q1 q2 : Pos) (tk : L2N.Takes (Z.tr pn xe) W) =>
        pe_actN (CXg := C8.CX0) (Eg := C8.E0) (Ng := nTold) (qg := Str.ofString (lamName true)) (sg := lamSc true) (g := g) (cdg := cdv) (i := 0) (a := Str.ofString "_law_call") (pn := pn) (xe := xe) (W := W) (E := E) (p1 := q1) (p2 := q2) I1 L hf hfn hfr (hbind _ _ _ _ _) tk hrr (fun A outer s H hr2 => hbody A outer s H E f c' hr2) rfl (.inl (by decide +kernel)) (by decide +kernel) (by decide +kernel)
      have ctch : ∀ (cls : Value) (d : Option Addr) (H' : Hp) (D : Ends), D.rt = Q → tCatch X.K cls d Q H' → wAs X.K (.ref (He.ga X.K (Str.ofString "CurveError"))) 1 (fun a cls d => tSuite X.K 5 a cls d) (fun _ _ _ _ => False) D cls d (L2.start nTold [.ref f]) H' := fun cls d H' D hD z => by
        obtain ⟨cc, j, hj, ek, rfl, rfl, q⟩ := z
        exact ⟨true, ek.cu, fun _ a na => ⟨rfl, rfl, cc, j, hj, ek, rfl, rfl, by rw [show _ = Q from hD]; exact q⟩, fun z => nomatch z⟩
      refine ⟨_, (pss_one (X := Z) (L2N.ps_try_as (X := Z) (c := .ref (He.ga X.K (Str.ofString "CurveError"))) (i := 1) (n := Str.ofString "_law_e") (ts := fun a cls d => tSuite X.K 5 a cls d) (Wout := fun _ _ _ _ => False)
        (tb := fun W D τ HZ => ∃ E : XK, τ[0]? = some (some (V.ref f)) ∧ HZ c' = some (CodeO c' (X.env.qual ++ "<lambda>")) ∧ (∀ cls d H', E cls d H' → W cls d τ H') ∧ t E σ HZ D.rt)
        rfl rfl (by show nTold.Nodup; decide +kernel) rfl (show sTold.names.lookup (Str.ofString "_law_e") = some .local by decide +kernel) ⟨(show sTold.names.lookup (Str.ofString "CurveError") = some .globalImplicit by decide +kernel), by decide +kernel, .inl eg.ce⟩ takes0N (fun W pn xe tk _ => ⟨fun pins s τ HZ D IZ ⟨E, z⟩ => (pss_one (ps_ret (act W pn xe E (P 0) (P 1) tk))).run pins s τ HZ D IZ z⟩)
        (fun a oe cls d pn hz hf => suite_told (X := Z) hrr.toRoom.hd rfl rfl (fun _ => rfl) eg FC (hrr.toRoom.mono (by omega)) pn hz hf P hP))).nox, ?_⟩
      exact ⟨fun cls d H' => tCatch X.K cls d Q H', rfl, hco, fun cls d H' z => ctch cls d H' _ rfl z, h1⟩
  refine wpAny_call (codeAny_mono rc fun r s2 hq => ?_)
  match r, hq with
  | .error e, hq => exact (show False from hq).elim
  | .ok (.ret u), hq => exact I1.after hq
  | .ok .next, hq => exact False.elim hq
  | .ok .brk, hq => exact False.elim hq
  | .ok .cont, hq => exact False.elim hq
end
end Cv
set_option maxRecDepth 100000
set_option maxHeartbeats 4000000
set_option autoImplicit false
/-! Engine, part Hg: _law_refused(lambda: f(..)) means what den tells. -/
namespace Cv
open PySem PySem.Spec L2 LamX
variable [TabC]
/-- all that the top tells for lambdas -/
structure LamFx (K : PySem.W.Frag) (mg : Str → Option Value) (told : Bool) : Prop where
  lf : LamFn K mg told
  cf : ClsFn K mg
  eg : ExG mg K
  ek : ∀ c j, placeOf c = some j → ExK K c
def lamTE (X : Cx) (k : Nat) (scope : Scope) (body : Expr) (E : XK) : TE := fun σ H Q => ∀ (A : Around) (outer : List Env) (s : Shared) (H0 : Hp) (f c' : Addr), Room k (A.deeper (lamEnv X scope s.heap.objs.size f c')) → WpE (lamC X A outer s H0 E scope f c') body σ H Q
section
variable {X : Cx} {told : Bool} {C C0 : Cal} {k : Nat} {c P : Addr} {params : Arguments} {scope : Scope} {e : Expr} {es : List Expr} {fx : Str} {g : IE} {ies : List IE} {p p2 p3 lpos pos : Pos}
theorem sim_lam (hg : Gl X (Str.ofString (lamName told))) (Fx : LamFx X.K X.mg told) (M : Mkr X c P) (hr : Room (k + 2) X.A) (L : LamS X.env.scope scope) (hdef : defaultsOf params X.env = ([], []))
    (hbind : ∀ (q : Str) (cl : List (Str × Addr)) (pm cv ctv : Value), bindArgs (PySem.W.kla_fn "<lambda>" q params (.Call (.Name fx p2) (e :: es) [] p3) scope cl pm cv ctv) ⟨[], []⟩ = pure [])
    (hA : ∀ (A : Around) (outer : List Env) (s : Shared) (H : Hp) (E : XK) (f c' : Addr), SimA (lamC X A outer s H E scope f c') (e :: es) (denEs C ies))
    (wp : ∀ (A : Around) (outer : List Env) (s0 : Shared) (H0 : Hp) (E : XK) (f' c' : Addr), Room k (A.deeper (lamEnv X scope s0.heap.objs.size f' c')) → ∀ (F : ASet) (σ : L2.St) (H : Hp) (s : DEnv) (f : String), SR X.K F σ H s → calleeD s g = some f → C.io f = false → ∀ (W : WX) (Q : VK), L2N.Takes (lamC X A outer s0 H0 E scope f' c') W →
      (WpA (lamC X A outer s0 H0 E scope f' c') (e :: es) σ H fun vs H1 => spF X.K X.mg (C.lam f) vs H1 Q (WE W σ)) → WpE (lamC X A outer s0 H0 E scope f' c') (.Call (.Name fx p2) (e :: es) [] p3) σ H Q) :
    SimE X (.Call (.Name (Str.ofString (lamName told)) p) [.Lambda params (.Call (.Name fx p2) (e :: es) [] p3) scope lpos] [] pos) (denE C (.lam told g ies)) := by
  intro F σ H s Q sr w
  simp only [denE] at w
  split at w
  · split at w
    · rename_i f hf
      split at w
      · exact w.elim
      · rename_i hio
        have hio : C.io f = false := by simpa using hio
        refine .of (pe_lamN (k := k) (t := lamTE X k scope (.Call (.Name fx p2) (e :: es) [] p3)) hg Fx.lf Fx.cf Fx.eg M hr L hdef hbind fun A outer s0 H0 E f' c' hr2 => ⟨fun pins s1 σ1 H1 Q1 I1 h1 => h1 A outer s0 H0 f' c' hr2 pins s1 I1⟩) ?_
        refine ⟨sr.tb, fun H1 eN dm T1 A outer s0 H0 f' c' hr2 => ?_⟩
        have p0 : EPost X.K F σ H s F H1 s := sr.grow eN dm T1 (fun _ z => z) (fun _ z => .inl z) fun b z => let ⟨us, e⟩ := sr.fdm b z; ⟨us, eN _ _ e (fun _ => nofun)⟩
        cases q : denEs C ies s with
        | bad => rw [q] at w; exact w.elim
        | exn cc => rw [q] at w; exact w.elim
        | ok r =>
          rw [q] at w
          have w : RP (lamR told (C.lam f (r.1.map S.val)) r.2) _ _ := w
          have wp1 := wp A outer s0 H0 (fun cls d H' => tCatch X.K cls d Q H') f' c' hr2 F σ H1 s f p0.sr hf hio (fun cls d _ H' => tCatch X.K cls d Q H') (okQ told Q) (L2N.takes_of rfl rfl rfl rfl)
          have hA1 := hA A outer s0 H0 (fun cls d H' => tCatch X.K cls d Q H') f' c'
          refine wp1 (hA1.at_ p0.sr q fun F1 vs H2 p1 rs => ⟨F1, r.1.map S.val, vals_SR p1.sr rs, ?_⟩)
          have p1 : EPost X.K F σ H1 s F1 H2 r.2 := p1
          have p01 := p0.trans p1
          cases g2 : C.lam f (r.1.map S.val) with
          | bad => rw [g2] at w; exact w.elim
          | exn cc =>
            rw [g2] at w
            simp only [lamR] at w
            cases hj : placeOf cc with
            | none => rw [hj] at w; exact w.elim
            | some j =>
              rw [hj] at w
              intro H' x Ca hC
              have ek := Fx.ek cc j hj
              have hmem : cc ∈ clsNames := place_mem hj
              have eC := Fx.eg.cls cc hmem
              have hC : X.mg (Str.ofString cc) = some (.ref Ca) := hC
              rw [eC] at hC
              cases hC
              refine ⟨cc, j, hj, ek, rfl, rfl, fun p H'' sm np hp => ?_⟩
              have n2 : H2 p = none := x.dm p np
              have p2 : EPost X.K F1 σ H2 r.2 F1 H'' r.2 := p1.sr.grow (fun b o e t => sm b o (x.fr b o e vals_noO t)) (fun b z => x.dm b (sm.free z)) (x.tb.ext sm) (fun _ z => z) (fun _ z => .inl z) fun b z => let ⟨us, e⟩ := p1.sr.fdm b z; ⟨us, sm _ _ (x.fr _ _ e vals_noO (fun _ => nofun))⟩
              exact w F1 (.ref p) H'' (p01.trans p2) ⟨⟨p, _, rfl, hp, .cons (.int _) .nil, p1.sr.noF n2, by show 1 ≤ lim; decide⟩, fun b e => by cases e; exact ⟨p1.sr.noO n2, p01.ext.dm p n2⟩⟩
          | ok z =>
            rw [g2] at w
            intro F' v H' cp
            have p2 : EPost X.K F1 σ H2 r.2 F' H' r.2 := p1.sr.grow (fun b o e t => cp.ext.fr b o e vals_noO t) cp.ext.dm cp.tb cp.ext.sub (fun b f => (cp.ext.new b f).imp id fun z => z.elim (fun z => absurd z vals_noO) id) cp.fdm
            have p012 := p01.trans p2
            cases told with
            | true => exact w F' v H' p012 (OR.early p01.ext.dm (ret_or p1.sr cp.ret fun _ z => z))
            | false => exact ⟨by show 0 ≤ sizeLine; decide, fun p np => (res_of (Q := Q) (o := .fresh []) p012 w).lst p012.sr .nil (Nat.zero_le _) np⟩
    · exact w.elim
  · exact w.elim
end
end Cv
set_option maxRecDepth 100000
set_option maxHeartbeats 2000000
set_option autoImplicit false
/-! Engine, part N: the look that a text is what the intermediate language says. -/
namespace Cv
open PySem PySem.Spec L2
/-! ### views of texts -/
def vName : Expr → Option Str
  | .Name x _ => some x
  | _ => none
def vTuple : Expr → Option (List Expr)
  | .Tuple es _ _ => some es
  | _ => none
def vList : Expr → Option (List Expr)
  | .List es _ => some es
  | _ => none
def vBin : Expr → Option (Expr × Operator × Expr)
  | .BinOp a o b _ => some (a, o, b)
  | _ => none
def vUn : Expr → Option (UnaryOp × Expr)
  | .UnaryOp o a _ => some (o, a)
  | _ => none
def vCmp1 : Expr → Option (Expr × CmpOp × Expr)
  | .Compare a [o] [b] _ => some (a, o, b)
  | _ => none
def vCmp2 : Expr → Option (Expr × CmpOp × CmpOp × Expr × Expr)
  | .Compare a [o, p] [b, c] _ => some (a, o, p, b, c)
  | _ => none
def vBool : Expr → Option (BoolOp × Expr × Expr × List Expr × Pos)
  | .BoolOp o (a :: b :: r) p => some (o, a, b, r, p)
  | _ => none
def vIf : Expr → Option (Expr × Expr × Expr)
  | .IfExp c a b _ => some (c, a, b)
  | _ => none
def vSub : Expr → Option (Expr × Expr)
  | .Subscript a b _ => some (a, b)
  | _ => none
def vSlice : Expr → Option (Option Expr × Option Expr)
  | .Slice l h none _ => some (l, h)
  | _ => none
/-- [lo::st] with written parts -/
def vLo : Option Expr → Option (Option Int)
  | none => some none
  | some (.Constant (.int i) _ _) => some (some i)
  | _ => none
def vSt : Expr → Option Int
  | .Constant (.int i) _ _ => some i
  | .UnaryOp .USub (.Constant (.int i) _ _) _ => some (-i)
  | _ => none
def stpB (lo : Option Int) (st : Int) : Expr → Bool
  | .Slice l none (some s) _ => decide (vLo l = some lo) && decide (vSt s = some st)
  | _ => false
/-- a call of a name -/
def vCall : Expr → Option (Str × List Expr)
  | .Call (.Name x _) es [] _ => some (x, es)
  | _ => none
/-- a call of a name's method, on one line -/
def vMeth : Expr → Option (Str × Str × List Expr)
  | .Call (.Attribute (.Name x _) m ap) es [] p => if (ap.endLine == p.line) = true then some (x, m, es) else none
  | _ => none
/-- d(lambda: f(..)) -/
def vLam : Expr → Option (Str × Arguments × Str × List Expr × Scope)
  | .Call (.Name x _) [.Lambda params (.Call (.Name f _) es [] _) scope _] [] _ => some (x, params, f, es, scope)
  | _ => none
def noArgsB (a : Arguments) : Bool := a.posonlyargs.isEmpty && a.args.isEmpty && a.vararg.isNone && a.kwonlyargs.isEmpty && a.kw_defaults.isEmpty && a.kwarg.isNone && a.defaults.isEmpty
theorem noArgs_eq {a : Arguments} (h : noArgsB a = true) : a = ⟨[], [], none, [], [], none, []⟩ := by
  obtain ⟨a1, a2, a3, a4, a5, a6, a7⟩ := a
  simp only [noArgsB, Bool.and_eq_true, List.isEmpty_iff, Option.isNone_iff_eq_none] at h
  obtain ⟨⟨⟨⟨⟨⟨rfl, rfl⟩, rfl⟩, rfl⟩, rfl⟩, rfl⟩, rfl⟩ := h
  rfl
theorem vLam_eq {e : Expr} {x : Str × Arguments × Str × List Expr × Scope} (h : vLam e = some x) : ∃ p1 p2 p3 p4 p5, e = .Call (.Name x.1 p1) [.Lambda x.2.1 (.Call (.Name x.2.2.1 p2) x.2.2.2.1 [] p3) x.2.2.2.2 p4] [] p5 := by
  unfold vLam at h
  split at h
  · cases h; exact ⟨_, _, _, _, _, rfl⟩
  · cases h
def vComp : Expr → Option (Expr × Expr × Expr × List Expr × Scope)
  | .ListComp el [⟨t, i, fs, a⟩] sc _ => if a = 0 then some (el, t, i, fs, sc) else none
  | _ => none
section
variable {e : Expr}
theorem vName_eq {x : Str} (h : vName e = some x) : ∃ p, e = .Name x p := by cases e <;> simp [vName] at h; subst h; exact ⟨_, rfl⟩
theorem vTuple_eq {x : List Expr} (h : vTuple e = some x) : ∃ k p, e = .Tuple x k p := by cases e <;> simp [vTuple] at h; subst h; exact ⟨_, _, rfl⟩
theorem vList_eq {x : List Expr} (h : vList e = some x) : ∃ p, e = .List x p := by cases e <;> simp [vList] at h; subst h; exact ⟨_, rfl⟩
theorem vBin_eq {x : Expr × Operator × Expr} (h : vBin e = some x) : ∃ p, e = .BinOp x.1 x.2.1 x.2.2 p := by cases e <;> simp [vBin] at h; subst h; exact ⟨_, rfl⟩
theorem vUn_eq {x : UnaryOp × Expr} (h : vUn e = some x) : ∃ p, e = .UnaryOp x.1 x.2 p := by cases e <;> simp [vUn] at h; subst h; exact ⟨_, rfl⟩
theorem vCmp1_eq {x : Expr × CmpOp × Expr} (h : vCmp1 e = some x) : ∃ p, e = .Compare x.1 [x.2.1] [x.2.2] p := by
  unfold vCmp1 at h
  split at h
  · cases h; exact ⟨_, rfl⟩
  · cases h
theorem vCmp2_eq {x : Expr × CmpOp × CmpOp × Expr × Expr} (h : vCmp2 e = some x) : ∃ p, e = .Compare x.1 [x.2.1, x.2.2.1] [x.2.2.2.1, x.2.2.2.2] p := by
  unfold vCmp2 at h
  split at h
  · cases h; exact ⟨_, rfl⟩
  · cases h
theorem vBool_eq {x : BoolOp × Expr × Expr × List Expr × Pos} (h : vBool e = some x) : e = .BoolOp x.1 (x.2.1 :: x.2.2.1 :: x.2.2.2.1) x.2.2.2.2 := by
  unfold vBool at h
  split at h
  · cases h; rfl
  · cases h
theorem vIf_eq {x : Expr × Expr × Expr} (h : vIf e = some x) : ∃ p, e = .IfExp x.1 x.2.1 x.2.2 p := by cases e <;> simp [vIf] at h; subst h; exact ⟨_, rfl⟩
theorem vSub_eq {x : Expr × Expr} (h : vSub e = some x) : ∃ p, e = .Subscript x.1 x.2 p := by cases e <;> simp [vSub] at h; subst h; exact ⟨_, rfl⟩
theorem vSlice_eq {x : Option Expr × Option Expr} (h : vSlice e = some x) : ∃ p, e = .Slice x.1 x.2 none p := by
  unfold vSlice at h
  split at h
  · cases h; exact ⟨_, rfl⟩
  · cases h
theorem vCall_eq {x : Str × List Expr} (h : vCall e = some x) : ∃ p q, e = .Call (.Name x.1 p) x.2 [] q := by
  unfold vCall at h
  split at h
  · cases h; exact ⟨_, _, rfl⟩
  · cases h
theorem vMeth_eq {x : Str × Str × List Expr} (h : vMeth e = some x) : ∃ p ap q, e = .Call (.Attribute (.Name x.1 p) x.2.1 ap) x.2.2 [] q ∧ (ap.endLine == q.line) = true := by
  unfold vMeth at h
  split at h
  · split at h
    · rename_i hl; cases h; exact ⟨_, _, _, rfl, hl⟩
    · cases h
  · cases h
theorem vComp_eq {x : Expr × Expr × Expr × List Expr × Scope} (h : vComp e = some x) : ∃ p, e = .ListComp x.1 [⟨x.2.1, x.2.2.1, x.2.2.2.1, 0⟩] x.2.2.2.2 p := by
  unfold vComp at h
  split at h
  · split at h
    · rename_i ha; cases h; subst ha; exact ⟨_, rfl⟩
    · cases h
  · cases h
end
/-! ### names -/
def visB (sc : Scope) (x : Str) : Bool := match sc.names.lookup x with
  | some .local => true
  | some .cell => true
  | some .free => true
  | _ => false
def locB (sc : Scope) (x : Str) : Bool := match sc.names.lookup x with
  | some .local => true
  | some .cell => true
  | _ => false
def glB (sc : Scope) (x : Str) : Bool := match sc.names.lookup x with
  | some .globalImplicit => true
  | _ => false
def dbgB (x : Str) : Bool := !(x == ("__debug__" : Str))
def varB (N : List Str) (sc : Scope) (i : Nat) (x : Str) : Bool := decide (N[i]? = some x) && visB sc x && dbgB x && !(x == ("__classdict__" : Str))
def globB (sc : Scope) (f : String) (x : Str) : Bool := decide (x = Str.ofString f) && glB sc x && dbgB x
theorem visB_ok {sc : Scope} {x : Str} (h : visB sc x = true) : Vis sc x := by
  unfold visB at h
  split at h
  · rename_i q; exact .inl q
  · rename_i q; exact .inr (.inl q)
  · rename_i q; exact .inr (.inr q)
  · cases h
theorem locB_ok {sc : Scope} {x : Str} (h : locB sc x = true) : Loc sc x := by
  unfold locB at h
  split at h
  · rename_i q; exact .inl q
  · rename_i q; exact .inr q
  · cases h
theorem glB_ok {sc : Scope} {x : Str} (h : glB sc x = true) : sc.names.lookup x = some .globalImplicit := by
  unfold glB at h
  split at h
  · rename_i q; exact q
  · cases h
theorem dbgB_ok {x : Str} (h : dbgB x = true) : (x == ("__debug__" : Str)) = false := by simpa [dbgB] using h
/-! ### the built-ins -/
def bltTab : List (String × Value) := [("len", .builtin "len"), ("abs", .builtin "abs"), ("min", .builtin "min"), ("max", .builtin "max"), ("sum", .builtin "sum"), ("set", .type "set"), ("repr", .builtin "repr"), ("all", .builtin "all"), ("any", .builtin "any"), ("sorted", .builtin "sorted"), ("divmod", .builtin "divmod"), ("isinstance", .builtin "isinstance"),
  ("tuple", .type "tuple"), ("list", .type "list"), ("int", .type "int"), ("bool", .type "bool"), ("str", .type "str"), ("range", .type "range"), ("enumerate", .type "enumerate"), ("reversed", .type "reversed"), ("zip", .type "zip")]
def bltOkB (p : String × Value) : Bool := decide (bootBuiltins (Str.ofString p.1) = some p.2) && !(decide (Str.ofString p.1 = ("__name__" : Str))) && dbgB (Str.ofString p.1)
theorem bltTab_ok : bltTab.all bltOkB = true := by decide +kernel
def bltIs (f : String) (v : Value) : Bool := bltTab.any fun p => decide (p.1 = f) && decide (p.2 = v)
theorem bltIs_ok {f : String} {v : Value} (h : bltIs f v = true) : (f, v) ∈ bltTab ∧ bootBuiltins (Str.ofString f) = some v ∧ Str.ofString f ≠ "__name__" ∧ (Str.ofString f == ("__debug__" : Str)) = false := by
  simp only [bltIs, List.any_eq_true, Bool.and_eq_true, decide_eq_true_eq] at h
  obtain ⟨⟨f', v'⟩, hm, rfl, rfl⟩ := h
  have := List.all_eq_true.mp bltTab_ok _ hm
  simp only [bltOkB, Bool.and_eq_true, decide_eq_true_eq, Bool.not_eq_true', decide_eq_false_iff_not] at this
  exact ⟨hm, this.1.1, this.1.2, dbgB_ok this.2⟩
end Cv
set_option maxRecDepth 100000
set_option maxHeartbeats 4000000
set_option autoImplicit false
/-! Engine, part O: the look at expressions, and that it is right. -/
namespace Cv
open PySem PySem.Spec L2
def plainT : Expr → Bool
  | .UnaryOp .Not _ _ => false
  | .BoolOp .. => false
  | .IfExp .. => false
  | .Compare .. => false
  | _ => true
theorem plainT_ok {e : Expr} {env : Env} (h : plainT e = true) : ∀ whole, isTrue e env whole = (do let v ← whole; standAt e.pos; holding [v] (truthy v)) := by
  intro w
  cases e with
  | UnaryOp o a p => cases o <;> first | rfl | cases h
  | BoolOp _ _ _ => cases h
  | IfExp _ _ _ _ => cases h
  | Compare _ _ _ _ => cases h
  | _ => rfl
def plainIxB : Expr → Bool
  | .Slice .. => false
  | _ => true
theorem plainIx_ok {b : Expr} (h : plainIxB b = true) : PlainIx b := by
  intro o i
  cases b <;> first | rfl | cases h
def cstB : D → Expr → Bool
  | .non, .Constant .none _ _ => true
  | .bl b, .Constant (.bool c) _ _ => b == c
  | .int i, .Constant (.int j) _ _ => decide (i = j)
  | .str x, .Constant (.str y) _ _ => decide (x = y) && PyData.strOk x
  | _, _ => false
/-- equal constants -/
def eqC : D → D → Bool
  | .int i, .int j => decide (i = j)
  | .str x, .str y => decide (x = y)
  | _, _ => false
theorem eqC_ok {a b : D} (h : eqC a b = true) : a = b := by
  cases a <;> cases b <;> simp [eqC] at h <;> rw [h]
def ownOf (N : List Str) (vs : List Nat) : List (Str × Nat) := vs.map fun i => (N.getD i ⟨#[]⟩, i)
theorem ownOf_snd (N : List Str) (vs : List Nat) : (ownOf N vs).map (·.2) = vs := by
  unfold ownOf
  rw [List.map_map]
  exact List.map_id' vs
/-- a name of a comprehension's block that may be stored -/
def blkB (N : List Str) (scope : Scope) (i : Nat) (x : Str) : Bool := decide (N[i]? = some x) && locB scope x
def tgtB (ok : Nat → Str → Bool) : Tgt → Expr → Bool
  | .name i, e => match vName e with
    | some x => ok i x
    | none => false
  | .tup is, e => match vTuple e with
    | some es => namesB ok is es
    | none => false
where
  namesB (ok : Nat → Str → Bool) : List Nat → List Expr → Bool
  | [], [] => true
  | i :: is, e :: es => (match vName e with | some x => ok i x | none => false) && namesB ok is es
  | _, _ => false
def isTupE : Expr → Bool
  | .Tuple .. => true
  | _ => false
def itB (k : ItK) (c1 c2 : Expr → Bool) (sc : Scope) (tg it : Expr) : Bool := match k with
  | .seq => c1 it
  | .rng1 => match vCall it with
    | some (f, [a]) => globB sc "range" f && notStar a && c1 a
    | _ => false
  | .rng2 => match vCall it with
    | some (f, [a, b]) => globB sc "range" f && notStar a && notStar b && c1 a && c2 b
    | _ => false
  | .enum => isTupE tg && match vCall it with
    | some (f, [a]) => globB sc "enumerate" f && notStar a && c1 a
    | _ => false
  | .rev => match vCall it with
    | some (f, [a]) => globB sc "reversed" f && notStar a && c1 a
    | _ => false
  | .zip => isTupE tg && match vCall it with
    | some (f, [a, b]) => globB sc "zip" f && notStar a && notStar b && c1 a && c2 b
    | _ => false
/-- a comprehension's tests -/
def ifB (hasIf : Bool) (c : Expr → Bool) (ifs : List Expr) : Bool := match hasIf, ifs with
  | true, [z] => c z
  | false, [] => true
  | _, _ => false
/-- the module's constants, and the defs that may be called -/
structure Sta where
  cs : List (String × D)
  fs : List String
  /-- makes this def lambdas, and for _law_told? -/
  lm : Option Bool
def partB (l : Bool) (c : Expr → Bool) : Option Expr → Bool
  | none => !l
  | some e => l && c e
/-- an argument within a lambda -/
def argB (N : List Str) (sc : Scope) : IE → Expr → Bool
  | .var i, e => (match vName e with
    | some x => varB N sc i x
    | none => false)
  | .cst d, e => cstB d e
  | .idx (.var i) (.cst (.int k)), e => (match vSub e with
    | some (x, y) => plainIxB y && cstB (.int k) y && (match vName x with
      | some z => varB N sc i z
      | none => false)
    | none => false)
  | _, _ => false
def argsB (N : List Str) (sc : Scope) : List IE → List Expr → Bool
  | [], [] => true
  | i :: is, e :: es => notStar e && argB N sc i e && argsB N sc is es
  | _, _ => false
def calleeB (N : List Str) (fs : List String) (sc : Scope) (x : Str) : IE → Bool
  | .fv f => globB sc f x && fs.contains f
  | .var i => varB N sc i x
  | _ => false
mutual
def chkE (N : List Str) (cs : Sta) : IE → Bool → Scope → Expr → Bool
  | .var i, t, sc, e => (!t || plainT e) && match vName e with
    | some x => varB N sc i x
    | none => false
  | .cst d, t, sc, e => (!t || plainT e) && cstB d e
  | .glob x d, t, sc, e => (!t || plainT e) && match vName e with
    | some y => globB sc x y && (match cs.cs.lookup x with | some d' => eqC d d' | none => false)
    | none => false
  | .tup es, t, sc, e => (!t || plainT e) && match vTuple e with
    | some xs => chkEs N cs es sc xs && decide (es.length ≤ lim)
    | none => false
  | .lst es, t, sc, e => (!t || plainT e) && match vList e with
    | some xs => chkEs N cs es sc xs && decide (es.length ≤ lim)
    | none => false
  | .bin op a b, t, sc, e => (!t || plainT e) && match vBin e with
    | some (x, o, y) => decide (o = opOf op) && chkE N cs a false sc x && chkE N cs b false sc y
    | none => false
  | .neg a, t, sc, e => (!t || plainT e) && match vUn e with
    | some (o, x) => decide (o = .USub) && chkE N cs a false sc x
    | none => false
  | .cmp op a b, t, sc, e => match vCmp1 e with
    | some (x, o, y) => decide (o = copOf op) && !behindInMarks o y && chkE N cs a false sc x && chkE N cs b false sc y
    | none => false
  | .chain o1 o2 a b c, t, sc, e => match vCmp2 e with
    | some (x, o, p, y, z) => decide (o = copOf o1) && decide (p = copOf o2) && !lastMarks [o, p] [y, z] && chkE N cs a false sc x && chkE N cs b false sc y && chkE N cs c false sc z
    | none => false
  | .and_ a b, t, sc, e => match vBool e with
    | some (o, x, y, r, p) => decide (o = .And) && chkE N cs a t sc x && (match r with | [] => chkE N cs b t sc y | _ => chkE N cs b t sc (.BoolOp .And (y :: r) p))
    | none => false
  | .or_ a b, t, sc, e => match vBool e with
    | some (o, x, y, r, p) => decide (o = .Or) && chkE N cs a t sc x && (match r with | [] => chkE N cs b t sc y | _ => chkE N cs b t sc (.BoolOp .Or (y :: r) p))
    | none => false
  | .not_ a, t, sc, e => match vUn e with
    | some (o, x) => decide (o = .Not) && chkE N cs a t sc x
    | none => false
  | .ite c a b, t, sc, e => !t && match vIf e with
    | some (z, x, y) => chkE N cs c true sc z && chkE N cs a false sc x && chkE N cs b false sc y
    | none => false
  | .idx a b, t, sc, e => (!t || plainT e) && match vSub e with
    | some (x, y) => plainIxB y && chkE N cs a false sc x && chkE N cs b false sc y
    | none => false
  | .slc a l h lo hi, t, sc, e => (!t || plainT e) && match vSub e with
    | some (x, y) => chkE N cs a false sc x && (match vSlice y with
      | some (p, q) => partB l (fun z => chkE N cs lo false sc z) p && partB h (fun z => chkE N cs hi false sc z) q
      | none => false)
    | none => false
  | .isi a ty, t, sc, e => (!t || plainT e) && match vCall e with
    | some (f, [x, y]) => globB sc "isinstance" f && notStar x && chkE N cs a false sc x && bltIs ty (.type ty) && (match vName y with | some z => globB sc ty z | none => false)
    | _ => false
  | .call f es, t, sc, e => (!t || plainT e) && match vCall e with
    | some (g, xs) => globB sc f g && cs.fs.contains f && chkEs N cs es sc xs
    | none => false
  | .callIo f i es, t, sc, e => (!t || plainT e) && match vCall e with
    | some (g, y :: xs) => globB sc f g && cs.fs.contains f && (match vName y with | some x => varB N sc i x | none => false) && chkEs N cs es sc xs
    | _ => false
  | .fv f, t, sc, e => (!t || plainT e) && match vName e with
    | some y => globB sc f y && cs.fs.contains f
    | none => false
  | .callL i es, t, sc, e => (!t || plainT e) && match vCall e with
    | some (g, y :: xs) => varB N sc i g && chkEs N cs es sc (y :: xs)
    | _ => false
  | .stp a lo st, t, sc, e => (!t || plainT e) && match vSub e with
    | some (x, y) => chkE N cs a false sc x && stpB lo st y
    | none => false
  | .op1 o a, t, sc, e => (!t || plainT e) && match vCall e with
    | some (g, [y]) => if o = "sortset" then globB sc "sorted" g && (match vCall y with
      | some (h, [z]) => globB sc "set" h && (notStar z && chkE N cs a false sc z)
      | _ => false) else if o = "repr" then globB sc "repr" g && (notStar y && chkE N cs a false sc y) else false
    | _ => false
  | .lam told g es, t, sc, e => (!t || plainT e) && decide (cs.lm = some told) && match vLam e with
    | some (x, params, f, y :: xs, scope) => globB sc (lamName told) x && noArgsB params && LamX.lamSB sc scope && calleeB N cs.fs scope f g && argsB N scope es (y :: xs)
    | _ => false
  | .blt f es, t, sc, e => (!t || plainT e) && match vCall e with
    | some (g, y :: xs) => globB sc f g && bltIs f (bltV f) && chkEs N cs es sc (y :: xs)
    | _ => false
  | .rngOf tp two a b, t, sc, e => (!t || plainT e) && match vCall e with
    | some (g, [y]) => globB sc (if tp then "tuple" else "list") g && (match vCall y with
      | some (h, xs) => globB sc "range" h && (match two, xs with
        | false, [x] => notStar x && chkE N cs a false sc x
        | true, [x, z] => notStar x && notStar z && chkE N cs a false sc x && chkE N cs b false sc z
        | _, _ => false)
      | none => false)
    | _ => false
  | .comp k e1 e2 tg hasIf c elt, t, sc, e => (!t || plainT e) && match vComp e with
    | some (el, tg', it, ifs, scope) => notSet it && blkC N sc scope (ownOf N (tgtSlots tg)) && tgtB (blkB N scope) tg tg' && itB k (fun a => chkE N cs e1 false sc a) (fun a => chkE N cs e2 false sc a) sc tg' it
        && ifB hasIf (fun z => chkE N cs c true (relS scope sc) z) ifs && chkE N cs elt false (relS scope sc) el
    | none => false
  | .meth m i es, t, sc, e => (!t || plainT e) && match vMeth e with
    | some (x, mm, xs) => decide (mm = Str.ofString (mthName m)) && varB N sc i x && chkEs N cs es sc xs && (match m, xs with | .pop, [] => true | .reverse, [] => true | .append, [_] => true | .popAt, [_] => true | _, _ => false)
    | none => false
  | .extend i a, t, sc, e => (!t || plainT e) && match vMeth e with
    | some (x, mm, [y]) => decide (mm = Str.ofString "extend") && varB N sc i x && notStar y && chkE N cs a false sc y
    | _ => false
def chkEs (N : List Str) (cs : Sta) : List IE → Scope → List Expr → Bool
  | [], _, [] => true
  | i :: is, sc, e :: es => notStar e && chkE N cs i false sc e && chkEs N cs is sc es
  | _, _, _ => false
end
/-- what the top has left -/
structure RzOk (K : PySem.W.Frag) (Ca : Addr) : Prop where
  ex : PySem.W.excIn K Ca [.type "ValueError", .type "Exception", .type "BaseException", .type "object"] "ValueError.__new__" = true
  kp : PySem.W.keepIn K (.ref Ca) = true
  sb : PySem.W.subIn K (.ref Ca) (.type "BaseException") = some true
  ty : PySem.W.typeIn K (.ref Ca) = some (.type "type")
variable [TabC]
structure Facts (T : Tab) (cs : Sta) (rz : List String) (P : Program) (w : World) (K : PySem.W.Frag) (mg : Str → Option Value) (base : Heap) (n : Nat) : Prop where
  fn : ∀ f, f ∈ cs.fs → FnSim P w K mg base n f (callF T n f)
  fl : ∀ f, f ∈ cs.fs → FnSim P w K mg base (n - 2) f (callF T (n - 2) f)
  lx : ∀ told, cs.lm = some told → LamFx K mg told
  bl : ∀ p ∈ bltTab, mg (Str.ofString p.1) = none
  cst : ∀ x d, cs.cs.lookup x = some d → ∃ u v, mg (Str.ofString x) = some u ∧ RelV v u ∧ ∀ F H, Rel K F H v d
  rz : ∀ c ∈ rz, ∃ Ca, mg (Str.ofString c) = some (.ref Ca) ∧ RzOk K Ca
  ad : ∀ f, f ∈ cs.fs → mg (Str.ofString f) = some (.ref (He.ga K (Str.ofString f)))
  dom : ∀ f, ioOf T f = false → f ∈ cs.fs
structure CxOk (T : Tab) (cs : Sta) (rz : List String) (N : List Str) (sc : Scope) (n : Nat) (X : Cx) : Prop where
  names : X.N = N
  nd : N.Nodup
  scope : X.env.scope = sc
  calm : X.calm = true
  room : Room n X.A
  fx : Facts T cs rz X.prog X.w X.K X.mg X.base n
  mkr : ∀ told, cs.lm = some told → ∃ c P, Mkr X c P
section
variable {T : Tab} {cs : Sta} {rz : List String} {N : List Str} {n : Nat} {sc : Scope} {X : Cx} {e : Expr}
theorem CxOk.un (c : CxOk T cs rz N sc n X) : X.A.units + 65 < cLine := by have := c.room.un; omega
theorem CxOk.gl (c : CxOk T cs rz N sc n X) {x : Str} (h : glB sc x = true) : Gl X x := by
  show X.env.scope.names.lookup x = _
  rw [c.scope]
  exact glB_ok h
theorem CxOk.glob (c : CxOk T cs rz N sc n X) {f : String} {x : Str} (h : globB sc f x = true) : x = Str.ofString f ∧ Gl X (Str.ofString f) ∧ (Str.ofString f == ("__debug__" : Str)) = false := by
  simp only [globB, Bool.and_eq_true, decide_eq_true_eq] at h
  obtain ⟨⟨rfl, h2⟩, h3⟩ := h
  exact ⟨rfl, c.gl h2, dbgB_ok h3⟩
theorem CxOk.blt (c : CxOk T cs rz N sc n X) {f : String} {v : Value} {x : Str} (h : globB sc f x = true) (hb : bltIs f v = true) : BltOk X f v := by
  obtain ⟨_, h2, h3⟩ := c.glob h
  obtain ⟨b1, b2, b3, b4⟩ := bltIs_ok hb
  exact ⟨h2, c.fx.bl _ b1, b2, b3, b4⟩
theorem CxOk.var (c : CxOk T cs rz N sc n X) {i : Nat} {x : Str} (h : varB N sc i x = true) : X.N[i]? = some x ∧ Vis X.env.scope x ∧ (x == ("__debug__" : Str)) = false ∧ (x == ("__classdict__" : Str)) = false := by
  simp only [varB, Bool.and_eq_true, decide_eq_true_eq, Bool.not_eq_true'] at h
  obtain ⟨⟨⟨h1, h2⟩, h3⟩, h4⟩ := h
  rw [c.names, c.scope]
  exact ⟨h1, visB_ok h2, dbgB_ok h3, h4⟩
theorem CxOk.blk (c : CxOk T cs rz N sc n X) {scope : Scope} (s : Shared) (H : Hp) (C : Addr) (cl : List (Str × Addr)) (fp : List Addr) : CxOk T cs rz N (relS scope sc) n (Blk X scope s H C cl fp) :=
  ⟨c.names, c.nd, by rw [← c.scope]; rfl, c.calm, c.room, c.fx, fun told h => let ⟨a, P, m⟩ := c.mkr told h; ⟨a, P, ⟨m.tb, m.code, m.mem, m.one⟩⟩⟩
theorem blk_st (c : CxOk T cs rz N sc n X) {scope : Scope} {s : Shared} {H : Hp} {C : Addr} {cl : List (Str × Addr)} {fp : List Addr} {i : Nat} {x : Str} (h : blkB N scope i x = true) : StOk (Blk X scope s H C cl fp) i x := by
  simp only [blkB, Bool.and_eq_true, decide_eq_true_eq] at h
  obtain ⟨h1, h2⟩ := h
  have keep : ∀ {k : NameKind}, k ≠ .free → scope.names.lookup x = some k → (Blk X scope s H C cl fp).env.scope.names.lookup x = some k := fun hk h => lookup_relS_keep hk h
  refine ⟨by rw [show (Blk X scope s H C cl fp).N = N from c.names]; exact h1, ?_, ?_⟩
  · rcases locB_ok h2 with q | q
    · exact .inl (keep (by decide) q)
    · exact .inr (keep (by decide) q)
  · rcases locB_ok h2 with q | q
    · exact .inr (keep (by decide) q)
    · refine .inl ?_
      show (scope.names.lookup x == some NameKind.cell) = true
      rw [q]
      decide
theorem tgt_stoks {ok : Nat → Str → Bool} (h : ∀ i x, ok i x = true → StOk X i x) {is : List Nat} (q : tgtB ok (.tup is) e = true) : ∃ es k p, e = .Tuple es k p ∧ StOks X is es := by
  simp only [tgtB] at q
  split at q
  · rename_i es hx
    obtain ⟨k, p, rfl⟩ := vTuple_eq hx
    refine ⟨es, k, p, rfl, ?_⟩
    clear hx
    induction is generalizing es with
    | nil =>
      cases es with
      | nil => exact .nil
      | cons _ _ => cases q
    | cons i is ih =>
      cases es with
      | nil => cases q
      | cons e es =>
        simp only [tgtB.namesB, Bool.and_eq_true] at q
        obtain ⟨q1, q2⟩ := q
        split at q1
        · rename_i x hx
          obtain ⟨p, rfl⟩ := vName_eq hx
          exact .cons (h i x q1) (ih es q2)
        · cases q1
  · cases q
theorem tgt_sim {ok : Nat → Str → Bool} (hc : X.calm = true) (hN : X.N.Nodup) (h : ∀ i x, ok i x = true → StOk X i x) {t : Tgt} (q : tgtB ok t e = true) : SimG X e t := by
  cases t with
  | name i =>
    simp only [tgtB] at q
    split at q
    · rename_i x hx
      obtain ⟨p, rfl⟩ := vName_eq hx
      exact simG_name hN (h i x q)
    · cases q
  | tup is =>
    obtain ⟨es, k, p, rfl, h⟩ := tgt_stoks h q
    exact simG_tup hc hN h
theorem tgt_simV {ok : Nat → Str → Bool} (hc : X.calm = true) (hN : X.N.Nodup) (h : ∀ i x, ok i x = true → StOk X i x) {is : List Nat} (q : tgtB ok (.tup is) e = true) : SimGV X e is := by
  obtain ⟨es, k, p, rfl, h⟩ := tgt_stoks h q
  exact simGV_tup hc hN h
theorem it_sim (c : CxOk T cs rz N sc n X) {k : ItK} {c1 c2 : Expr → Bool} {tg it : Expr} {m1 m2 : DEnv → R (Opd × DEnv)} (h1 : ∀ e, c1 e = true → SimE X e m1) (h2 : ∀ e, c2 e = true → SimE X e m2) (q : itB k c1 c2 sc tg it = true) : SimI X tg it (itR k m1 m2) := by
  have isT : ∀ {e : Expr}, isTupE e = true → ∃ es k p, e = .Tuple es k p := fun {e} h => by cases e <;> first | exact ⟨_, _, _, rfl⟩ | cases h
  cases k with
  | seq => exact simI_seq (h1 it q)
  | rng1 =>
    simp only [itB] at q
    split at q
    · rename_i f a hv
      obtain ⟨p, p2, rfl⟩ := vCall_eq hv
      simp only [Bool.and_eq_true] at q
      obtain ⟨rfl, _, _⟩ := c.glob q.1.1
      exact simI_rng1 q.1.2 (c.blt q.1.1 (by decide +kernel)) (h1 _ q.2)
    · cases q
  | rng2 =>
    simp only [itB] at q
    split at q
    · rename_i f a b hv
      obtain ⟨p, p2, rfl⟩ := vCall_eq hv
      simp only [Bool.and_eq_true] at q
      obtain ⟨rfl, _, _⟩ := c.glob q.1.1.1.1
      exact simI_rng2 q.1.1.1.2 q.1.1.2 (c.blt q.1.1.1.1 (by decide +kernel)) (h1 _ q.1.2) (h2 _ q.2)
    · cases q
  | enum =>
    simp only [itB, Bool.and_eq_true] at q
    obtain ⟨q0, q⟩ := q
    obtain ⟨es, kk, tp, rfl⟩ := isT q0
    split at q
    · rename_i f a hv
      obtain ⟨p, p2, rfl⟩ := vCall_eq hv
      simp only [Bool.and_eq_true] at q
      obtain ⟨rfl, _, _⟩ := c.glob q.1.1
      exact simI_enum q.1.2 (c.blt q.1.1 (by decide +kernel)) (h1 _ q.2)
    · cases q
  | rev =>
    simp only [itB] at q
    split at q
    · rename_i f a hv
      obtain ⟨p, p2, rfl⟩ := vCall_eq hv
      simp only [Bool.and_eq_true] at q
      obtain ⟨rfl, _, _⟩ := c.glob q.1.1
      exact simI_rev q.1.2 (c.blt q.1.1 (by decide +kernel)) (h1 _ q.2)
    · cases q
  | zip =>
    simp only [itB, Bool.and_eq_true] at q
    obtain ⟨q0, q⟩ := q
    obtain ⟨es, kk, tp, rfl⟩ := isT q0
    split at q
    · rename_i f a b hv
      obtain ⟨p, p2, rfl⟩ := vCall_eq hv
      simp only [Bool.and_eq_true] at q
      obtain ⟨rfl, _, _⟩ := c.glob q.1.1.1.1
      exact simI_zip q.1.1.1.2 q.1.1.2 (c.blt q.1.1.1.1 (by decide +kernel)) (h1 _ q.1.2) (h2 _ q.2)
    · cases q
end
end Cv
set_option maxRecDepth 100000
set_option maxHeartbeats 4000000
set_option autoImplicit false
/-! Engine, part P: the look at expressions is right. -/
namespace Cv
open PySem PySem.Spec L2
variable [TabC]
section
variable {T : Tab} {cs : Sta} {rz : List String} {N : List Str} {n : Nat}
/-- a value, and where it is asked as a test, a test -/
def Both (X : Cx) (e : Expr) (t : Bool) (C : Cal) (i : IE) : Prop := SimE X e (denE C i) ∧ (t = true → SimT X e (denT C i))
theorem Both.plain {X : Cx} {e : Expr} {t : Bool} {C : Cal} {i : IE} (h : SimE X e (denE C i)) (p : (!t || plainT e) = true) : Both X e t C i := by
  refine ⟨h, fun ht => simT_truth h (plainT_ok ?_)⟩
  rw [ht] at p
  exact p
theorem toW {X : Cx} {o : BoolOp} {es : List Expr} {p : Pos} {m : DEnv → R (Bool × DEnv)} (h : SimT X (.BoolOp o es p) m) : SimW X (.BoolOp o es p) m := fun _ F σ H s Q sr w pins sh I => h F σ H s Q sr w pins sh I
theorem lc_ok {sc : Scope} {X : Cx} (c : CxOk T cs rz N sc n X) {k : ItK} {e1 e2 ic ielt : IE} {tg : Tgt} {hasIf : Bool} {el tg' it : Expr} {ifs : List Expr} {scope : Scope}
    (h1 : ∀ e, chkE N cs e1 false sc e = true → SimE X e (denE (calT T n) e1)) (h2 : ∀ e, chkE N cs e2 false sc e = true → SimE X e (denE (calT T n) e2))
    (h3 : ∀ (Y : Cx) (e : Expr), CxOk T cs rz N (relS scope sc) n Y → chkE N cs ic true (relS scope sc) e = true → SimT Y e (denT (calT T n) ic))
    (h4 : ∀ (Y : Cx) (e : Expr), CxOk T cs rz N (relS scope sc) n Y → chkE N cs ielt false (relS scope sc) e = true → SimE Y e (denE (calT T n) ielt))
    (q : (notSet it && blkC N sc scope (ownOf N (tgtSlots tg)) && tgtB (blkB N scope) tg tg' && itB k (fun a => chkE N cs e1 false sc a) (fun a => chkE N cs e2 false sc a) sc tg' it
        && ifB hasIf (fun z => chkE N cs ic true (relS scope sc) z) ifs && chkE N cs ielt false (relS scope sc) el) = true) :
    ∃ tt, LcOk X scope tg' it el ifs tg (itR k (fun s => denE (calT T n) e1 s) (fun s => denE (calT T n) e2 s)) (fun s => if hasIf then tstR (fun s => denE (calT T n) ic s) s else .ok (true, s)) (fun s => denE (calT T n) ielt s) (ownOf N (tgtSlots tg)) tt := by
  simp only [Bool.and_eq_true] at q
  obtain ⟨⟨⟨⟨⟨q1, q2⟩, q3⟩, q4⟩, q5⟩, q6⟩ := q
  have nd : X.N.Nodup := by rw [c.names]; exact c.nd
  have base : ∀ (tt : TT), (∀ s H C cl fp, PTs (Blk X scope s H C cl fp) ifs tt) → (∀ (F : ASet) (σ : St) (H : Hp) (s : DEnv) (Q : Bool → Hp → Prop), SR X.K F σ H s → RP ((if hasIf then tstR (fun s => denE (calT T n) ic s) s else .ok (true, s))) (fun r => ∀ F' H', EPost X.K F σ H s F' H' r.2 → Q r.1 H') (fun _ => False) → tt σ H Q) →
      LcOk X scope tg' it el ifs tg (itR k (fun s => denE (calT T n) e1 s) (fun s => denE (calT T n) e2 s)) (fun s => if hasIf then tstR (fun s => denE (calT T n) ic s) s else .ok (true, s)) (fun s => denE (calT T n) ielt s) (ownOf N (tgtSlots tg)) tt := fun tt t1 t2 =>
    ⟨q1, by rw [c.names, c.scope]; exact blkOk_by q2, ownOf_snd _ _, it_sim c (fun e h => h1 e h) (fun e h => h2 e h) q4, fun s H C cl fp => tgt_sim (X := Blk X scope s H C cl fp) c.calm nd (fun i x h => blk_st c h) q3, fun s H C cl fp => h4 _ _ (c.blk s H C cl fp) q6, t1, t2⟩
  cases hasIf with
  | false =>
    cases ifs with
    | nil => exact ⟨tYes, base _ (fun _ _ _ _ _ => pts_nil) fun F σ H s Q sr w => w F H (.refl sr)⟩
    | cons _ _ => cases q5
  | true =>
    match ifs, q5 with
    | [z], q5 =>
      refine ⟨BT X scope z, base _ (fun s H C cl fp => pts_one (pt_b s H C cl fp)) fun F σ H s Q sr w s0 H0 C cl fp => ?_⟩
      exact h3 _ _ (c.blk s0 H0 C cl fp) q5 F σ H s Q sr (w.mono (fun _ z => z) fun _ z => z.elim)
theorem arg_ok {X : Cx} {sc : Scope} {C : Cal} (hN : X.N = N) (hs : X.env.scope = sc) : ∀ (i : IE) (e : Expr), argB N sc i e = true → SimE X e (denE C i) := by
  have var : ∀ {i : Nat} {x : Str} {p : Pos}, varB N sc i x = true → SimE X (.Name x p) (denE C (.var i)) := fun {i x p} h => by
    simp only [varB, Bool.and_eq_true, decide_eq_true_eq, Bool.not_eq_true'] at h
    obtain ⟨⟨⟨h1, h2⟩, h3⟩, h4⟩ := h
    exact sim_var (by rw [hN]; exact h1) (by rw [hs]; exact visB_ok h2) (dbgB_ok h3) h4
  have cst : ∀ {d : D} {e : Expr}, cstB d e = true → SimE X e (denE C (.cst d)) := fun {d e} h => by
    unfold cstB at h
    split at h
    · exact sim_cst (t := tC .non) pe_non fun _ _ => .non
    · have := eq_of_beq h; subst this; exact sim_cst (t := tC .non) pe_bl fun _ _ => .bl _
    · have := of_decide_eq_true h; subst this; exact sim_cst (t := tC .non) pe_int fun _ _ => .int _
    · simp only [Bool.and_eq_true, decide_eq_true_eq] at h
      obtain ⟨rfl, h2⟩ := h
      exact sim_cst (t := tC .non) pe_str fun _ _ => .str _ h2
    · cases h
  intro i e h
  unfold argB at h
  split at h
  · split at h
    · rename_i x hx
      obtain ⟨p, rfl⟩ := vName_eq hx
      exact var h
    · cases h
  · exact cst h
  · split at h
    · rename_i x y hx
      obtain ⟨p, rfl⟩ := vSub_eq hx
      simp only [Bool.and_eq_true] at h
      obtain ⟨⟨h1, h2⟩, h3⟩ := h
      split at h3
      · rename_i z hz
        obtain ⟨p2, rfl⟩ := vName_eq hz
        exact sim_idx (plainIx_ok h1) (var h3) (cst h2)
      · cases h3
    · cases h
  · cases h
theorem args_ok {X : Cx} {sc : Scope} {C : Cal} (hN : X.N = N) (hs : X.env.scope = sc) : ∀ (is : List IE) (es : List Expr), argsB N sc is es = true → SimA X es (denEs C is) ∧ es.all notStar = true
  | [], [], _ => ⟨simA_nil, rfl⟩
  | i :: is, e :: es, h => by
    simp only [argsB, Bool.and_eq_true] at h
    obtain ⟨⟨h1, h2⟩, h3⟩ := h
    obtain ⟨q1, q2⟩ := args_ok hN hs is es h3
    exact ⟨simA_cons h1 (arg_ok hN hs i e h2) q1, by simp [h1, q2]⟩
  | [], _ :: _, h => by cases h
  | _ :: _, [], h => by cases h
theorem lamC_ok {X : Cx} {sc scope : Scope} (c : CxOk T cs rz N sc n X) {told : Bool} {g : IE} {es : List IE} {e : Expr} (hl : cs.lm = some told) {x f : Str} {params : Arguments} {y : Expr} {xs : List Expr} (hv : vLam e = some (x, params, f, y :: xs, scope))
    (h : (globB sc (lamName told) x && noArgsB params && LamX.lamSB sc scope && calleeB N cs.fs scope f g && argsB N scope es (y :: xs)) = true) : SimE X e (denE (calT T n) (.lam told g es)) := by
  obtain ⟨p1, p2, p3, p4, p5, rfl⟩ := vLam_eq hv
  simp only [Bool.and_eq_true] at h
  obtain ⟨⟨⟨⟨h1, h2⟩, h3⟩, h4⟩, h5⟩ := h
  obtain ⟨rfl, g1, g2⟩ := c.glob h1
  have ep := noArgs_eq h2
  subst ep
  by_cases hn : 2 ≤ n
  · obtain ⟨ca, P, M⟩ := c.mkr told hl
    have L : LamX.LamS X.env.scope scope := by rw [c.scope]; exact LamX.lamS_by h3
    have room : Room (n - 2 + 2) X.A := by rw [Nat.sub_add_cancel hn]; exact c.room
    refine sim_lam (k := n - 2) g1 (c.fx.lx told hl) M room L rfl (fun _ _ _ _ _ => rfl) (fun A outer s H E f c' => (args_ok (X := lamC X A outer s H E scope f c') c.names rfl es (y :: xs) h5).1) ?_
    intro A outer s0 H0 E f' c' hr2 F σ H s fn sr hcal hio W Q tk hw
    have hstar := (args_ok (X := lamC X A outer s0 H0 E scope f' c') (C := calT T n) c.names rfl es (y :: xs) h5).2
    unfold calleeB at h4
    split at h4
    · rename_i f0
      cases hcal
      simp only [Bool.and_eq_true, globB, decide_eq_true_eq] at h4
      obtain ⟨⟨⟨rfl, q2⟩, q3⟩, q4⟩ := h4
      exact call_wp (X := lamC X A outer s0 H0 E scope f' c') (c.fx.fl fn (by simpa using q4)) hr2 (glB_ok q2) (dbgB_ok q3) hstar W tk hw
    · rename_i i
      simp only [calleeD] at hcal
      split at hcal
      · rename_i f1 hi
        cases hcal
        obtain ⟨v, hσ, hrel⟩ := sr.ats i _ hi
        cases (show Rel X.K F H v (.fn fn) from hrel)
        have hm := c.fx.dom fn hio
        obtain ⟨a, fd, ps, q1, q2, q3, q4⟩ := c.fx.fl fn hm
        have ea : a = He.ga X.K (Str.ofString fn) := by
          have := c.fx.ad fn hm
          rw [q1] at this
          cases this
          rfl
        subst ea
        simp only [varB, Bool.and_eq_true, decide_eq_true_eq, Bool.not_eq_true'] at h4
        obtain ⟨⟨⟨v1, v2⟩, v3⟩, v4⟩ := h4
        simp only [List.all_cons, Bool.and_eq_true] at hstar
        exact .of (pe_callLS (X := lamC X A outer s0 H0 E scope f' c') (E := WE W) q4 hr2 (by show X.N[i]? = _; rw [c.names]; exact v1) (visB_ok v2) q2 q3 (L2N.passAt tk) pa_w (dbgB_ok v3) v4 (star_cons hstar.1) (star_plain _ hstar.2)) ⟨hσ, hw⟩
      · cases hcal
    · cases h4
  · intro F σ H s Q sr w
    have e0 : n - 2 = 0 := by omega
    simp only [denE] at w
    split at w
    · split at w
      · split at w
        · exact w.elim
        · cases q : denEs (calT T n) es s with
          | bad => rw [q] at w; exact w.elim
          | exn cc => rw [q] at w; exact w.elim
          | ok r =>
            rw [q, e0] at w
            exact w.elim
      · exact w.elim
    · exact w.elim
set_option maxHeartbeats 8000000 in
mutual
theorem chkE_ok : ∀ (i : IE) (t : Bool) (sc : Scope) (X : Cx) (e : Expr), CxOk T cs rz N sc n X → chkE N cs i t sc e = true → Both X e t (calT T n) i
  | .var i, t, sc, X, e, c, h => by
    simp only [chkE, Bool.and_eq_true] at h
    obtain ⟨hp, h⟩ := h
    split at h
    · rename_i x hx
      obtain ⟨p, rfl⟩ := vName_eq hx
      obtain ⟨a1, a2, a3, a4⟩ := c.var h
      exact .plain (sim_var a1 a2 a3 a4) hp
    · cases h
  | .cst d, t, sc, X, e, c, h => by
    simp only [chkE, Bool.and_eq_true] at h
    obtain ⟨hp, h⟩ := h
    refine .plain ?_ hp
    unfold cstB at h
    split at h
    · exact sim_cst (t := tC .non) pe_non fun _ _ => .non
    · have := eq_of_beq h; subst this; exact sim_cst (t := tC .non) pe_bl fun _ _ => .bl _
    · have := of_decide_eq_true h; subst this; exact sim_cst (t := tC .non) pe_int fun _ _ => .int _
    · simp only [Bool.and_eq_true, decide_eq_true_eq] at h
      obtain ⟨rfl, h2⟩ := h
      exact sim_cst (t := tC .non) pe_str fun _ _ => .str _ h2
    · cases h
  | .glob x d, t, sc, X, e, c, h => by
    simp only [chkE, Bool.and_eq_true] at h
    obtain ⟨hp, h⟩ := h
    split at h
    · rename_i y hx
      obtain ⟨p, rfl⟩ := vName_eq hx
      simp only [Bool.and_eq_true] at h
      obtain ⟨h1, h2⟩ := h
      split at h2
      · rename_i d' hd
        have := eqC_ok h2
        subst this
        obtain ⟨rfl, g1, g2⟩ := c.glob h1
        obtain ⟨u, v, k1, k2, k3⟩ := c.fx.cst x d hd
        exact .plain (sim_glob (pe_glob g1 k1 k2 g2) k3) hp
      · cases h2
    · cases h
  | .tup es, t, sc, X, e, c, h => by
    simp only [chkE, Bool.and_eq_true] at h
    obtain ⟨hp, h⟩ := h
    split at h
    · rename_i xs hx
      obtain ⟨k, p, rfl⟩ := vTuple_eq hx
      simp only [Bool.and_eq_true, decide_eq_true_eq] at h
      exact .plain (sim_tup h.2 (denEs_len es) (chkEs_ok es sc X xs c h.1).1) hp
    · cases h
  | .lst es, t, sc, X, e, c, h => by
    simp only [chkE, Bool.and_eq_true] at h
    obtain ⟨hp, h⟩ := h
    split at h
    · rename_i xs hx
      obtain ⟨p, rfl⟩ := vList_eq hx
      simp only [Bool.and_eq_true, decide_eq_true_eq] at h
      exact .plain (sim_lst h.2 (denEs_len es) (chkEs_ok es sc X xs c h.1).1) hp
    · cases h
  | .bin op a b, t, sc, X, e, c, h => by
    simp only [chkE, Bool.and_eq_true] at h
    obtain ⟨hp, h⟩ := h
    split at h
    · rename_i x o y hx
      obtain ⟨p, rfl⟩ := vBin_eq hx
      simp only [Bool.and_eq_true, decide_eq_true_eq] at h
      obtain ⟨⟨rfl, h1⟩, h2⟩ := h
      exact .plain (sim_bin (chkE_ok a false sc X x c h1).1 (chkE_ok b false sc X y c h2).1) hp
    · cases h
  | .neg a, t, sc, X, e, c, h => by
    simp only [chkE, Bool.and_eq_true] at h
    obtain ⟨hp, h⟩ := h
    split at h
    · rename_i o x hx
      obtain ⟨p, rfl⟩ := vUn_eq hx
      simp only [Bool.and_eq_true, decide_eq_true_eq] at h
      obtain ⟨rfl, h1⟩ := h
      exact .plain (sim_neg (chkE_ok a false sc X x c h1).1) hp
    · cases h
  | .cmp op a b, t, sc, X, e, c, h => by
    simp only [chkE] at h
    split at h
    · rename_i x o y hx
      obtain ⟨p, rfl⟩ := vCmp1_eq hx
      simp only [Bool.and_eq_true, decide_eq_true_eq, Bool.not_eq_true'] at h
      obtain ⟨⟨⟨rfl, h0⟩, h1⟩, h2⟩ := h
      have a1 := (chkE_ok a false sc X x c h1).1
      have b1 := (chkE_ok b false sc X y c h2).1
      exact ⟨sim_cmp c.un h0 a1 b1, fun _ => simT_cmp c.un h0 a1 b1⟩
    · cases h
  | .chain o1 o2 a b d, t, sc, X, e, c, h => by
    simp only [chkE] at h
    split at h
    · rename_i x o p y z hx
      obtain ⟨p, rfl⟩ := vCmp2_eq hx
      simp only [Bool.and_eq_true, decide_eq_true_eq, Bool.not_eq_true'] at h
      obtain ⟨⟨⟨⟨⟨rfl, rfl⟩, h0⟩, h1⟩, h2⟩, h3⟩ := h
      have a1 := (chkE_ok a false sc X x c h1).1
      have b1 := (chkE_ok b false sc X y c h2).1
      have d1 := (chkE_ok d false sc X z c h3).1
      exact ⟨sim_chain c.un h0 a1 b1 d1, fun _ => simT_chain c.un h0 a1 b1 d1⟩
    · cases h
  | .and_ a b, t, sc, X, e, c, h => by
    simp only [chkE] at h
    split at h
    · rename_i o x y r p hx
      have := vBool_eq hx
      subst this
      simp only [Bool.and_eq_true, decide_eq_true_eq] at h
      obtain ⟨⟨rfl, h1⟩, h2⟩ := h
      have a1 := chkE_ok a t sc X x c h1
      cases r with
      | nil =>
        have b1 := chkE_ok b t sc X y c h2
        exact ⟨sim_and a1.1 (sim_one b1.1), fun ht => (simW_and (a1.2 ht) (simW_and1 (b1.2 ht))).t⟩
      | cons z r =>
        have b1 := chkE_ok b t sc X (.BoolOp .And (y :: z :: r) p) c h2
        exact ⟨sim_and a1.1 b1.1, fun ht => (simW_and (a1.2 ht) (toW (b1.2 ht))).t⟩
    · cases h
  | .or_ a b, t, sc, X, e, c, h => by
    simp only [chkE] at h
    split at h
    · rename_i o x y r p hx
      have := vBool_eq hx
      subst this
      simp only [Bool.and_eq_true, decide_eq_true_eq] at h
      obtain ⟨⟨rfl, h1⟩, h2⟩ := h
      have a1 := chkE_ok a t sc X x c h1
      cases r with
      | nil =>
        have b1 := chkE_ok b t sc X y c h2
        exact ⟨sim_or a1.1 (sim_one b1.1), fun ht => (simW_or (a1.2 ht) (simW_or1 (b1.2 ht))).t⟩
      | cons z r =>
        have b1 := chkE_ok b t sc X (.BoolOp .Or (y :: z :: r) p) c h2
        exact ⟨sim_or a1.1 b1.1, fun ht => (simW_or (a1.2 ht) (toW (b1.2 ht))).t⟩
    · cases h
  | .not_ a, t, sc, X, e, c, h => by
    simp only [chkE] at h
    split at h
    · rename_i o x hx
      obtain ⟨p, rfl⟩ := vUn_eq hx
      simp only [Bool.and_eq_true, decide_eq_true_eq] at h
      obtain ⟨rfl, h1⟩ := h
      have a1 := chkE_ok a t sc X x c h1
      exact ⟨sim_not a1.1, fun ht => simT_not (a1.2 ht)⟩
    · cases h
  | .ite d a b, t, sc, X, e, c, h => by
    simp only [chkE, Bool.and_eq_true, Bool.not_eq_true'] at h
    obtain ⟨ht, h⟩ := h
    split at h
    · rename_i z x y hx
      obtain ⟨p, rfl⟩ := vIf_eq hx
      simp only [Bool.and_eq_true] at h
      obtain ⟨⟨h1, h2⟩, h3⟩ := h
      refine ⟨sim_ite ((chkE_ok d true sc X z c h1).2 rfl) (chkE_ok a false sc X x c h2).1 (chkE_ok b false sc X y c h3).1, fun z => ?_⟩
      rw [ht] at z; cases z
    · cases h
  | .idx a b, t, sc, X, e, c, h => by
    simp only [chkE, Bool.and_eq_true] at h
    obtain ⟨hp, h⟩ := h
    split at h
    · rename_i x y hx
      obtain ⟨p, rfl⟩ := vSub_eq hx
      simp only [Bool.and_eq_true] at h
      obtain ⟨⟨h0, h1⟩, h2⟩ := h
      exact .plain (sim_idx (plainIx_ok h0) (chkE_ok a false sc X x c h1).1 (chkE_ok b false sc X y c h2).1) hp
    · cases h
  | .slc a l hb lo hi, t, sc, X, e, c, h => by
    simp only [chkE, Bool.and_eq_true] at h
    obtain ⟨hp, h⟩ := h
    split at h
    · rename_i x y hx
      obtain ⟨p, rfl⟩ := vSub_eq hx
      simp only [Bool.and_eq_true] at h
      obtain ⟨h1, h2⟩ := h
      split at h2
      · rename_i pl pu hs
        obtain ⟨p2, hy⟩ := vSlice_eq hs
        simp only at hy
        subst hy
        simp only [Bool.and_eq_true] at h2
        obtain ⟨h3, h4⟩ := h2
        have part : ∀ (l : Bool) (i : IE) (o : Option Expr), (∀ e, chkE N cs i false sc e = true → SimE X e (denE (calT T n) i)) → partB l (fun z => chkE N cs i false sc z) o = true → SimP X o l i (calT T n) := fun l i o hi q => by
          cases o with
          | none =>
            simp only [partB, Bool.not_eq_true'] at q
            exact .inl ⟨rfl, q⟩
          | some e =>
            simp only [partB, Bool.and_eq_true] at q
            exact .inr ⟨e, rfl, q.1, hi e q.2⟩
        exact .plain (sim_slc (chkE_ok a false sc X x c h1).1 (part l lo pl (fun e q => (chkE_ok lo false sc X e c q).1) h3) (part hb hi pu (fun e q => (chkE_ok hi false sc X e c q).1) h4)) hp
      · cases h2
    · cases h
  | .isi a ty, t, sc, X, e, c, h => by
    simp only [chkE, Bool.and_eq_true] at h
    obtain ⟨hp, h⟩ := h
    split at h
    · rename_i f x y hx
      obtain ⟨p, p2, rfl⟩ := vCall_eq hx
      simp only [Bool.and_eq_true] at h
      obtain ⟨⟨⟨⟨h1, h2⟩, h3⟩, h4⟩, h5⟩ := h
      split at h5
      · rename_i z hz
        obtain ⟨p3, rfl⟩ := vName_eq hz
        obtain ⟨rfl, _, _⟩ := c.glob h1
        have B2 := c.blt h5 h4
        obtain ⟨rfl, _, _⟩ := c.glob h5
        exact .plain (sim_isi (p4 := p) h2 (c.blt h1 (by decide +kernel)) B2 (chkE_ok a false sc X x c h3).1) hp
      · cases h5
    · cases h
  | .call f es, t, sc, X, e, c, h => by
    simp only [chkE, Bool.and_eq_true] at h
    obtain ⟨hp, h⟩ := h
    split at h
    · rename_i g xs hx
      obtain ⟨p, p2, rfl⟩ := vCall_eq hx
      simp only [Bool.and_eq_true] at h
      obtain ⟨⟨h1, hf⟩, h2⟩ := h
      obtain ⟨rfl, g1, g2⟩ := c.glob h1
      have hA := chkEs_ok es sc X xs c h2
      refine .plain ?_ hp
      have Fs := c.fx.fn f (by simpa using hf)
      cases xs with
      | nil =>
        cases es with
        | nil => exact sim_call0 Fs c.room g1 g2
        | cons _ _ => cases h2
      | cons y ys => exact sim_call Fs c.room g1 g2 hA.2.2 hA.1
    · cases h
  | .fv f, t, sc, X, e, c, h => by
    simp only [chkE, Bool.and_eq_true] at h
    obtain ⟨hp, h⟩ := h
    split at h
    · rename_i y hx
      obtain ⟨p, rfl⟩ := vName_eq hx
      simp only [Bool.and_eq_true] at h
      obtain ⟨rfl, g1, g2⟩ := c.glob h.1
      exact .plain (sim_fv (pe_glob g1 (c.fx.ad f (by simpa using h.2)) rfl g2)) hp
    · cases h
  | .callL i es, t, sc, X, e, c, h => by
    simp only [chkE, Bool.and_eq_true] at h
    obtain ⟨hp, h⟩ := h
    split at h
    · rename_i g y xs hx
      obtain ⟨p, p2, rfl⟩ := vCall_eq hx
      simp only [Bool.and_eq_true] at h
      obtain ⟨h1, h2⟩ := h
      obtain ⟨a1, a2, a3, a4⟩ := c.var h1
      have hA := chkEs_ok es sc X (y :: xs) c h2
      exact .plain (sim_callL (fun f hf => ⟨c.fx.fn f (c.fx.dom f hf), c.fx.ad f (c.fx.dom f hf)⟩) c.room a1 a2 a3 a4 hA.2.2 hA.1) hp
    · cases h
  | .lam told g es, t, sc, X, e, c, h => by
    simp only [chkE, Bool.and_eq_true, decide_eq_true_eq] at h
    obtain ⟨⟨hp, hl⟩, h⟩ := h
    split at h
    · rename_i x params f y xs scope hv
      exact .plain (lamC_ok c hl hv h) hp
    · cases h
  | .stp a lo st, t, sc, X, e, c, h => by
    simp only [chkE, Bool.and_eq_true] at h
    obtain ⟨hp, h⟩ := h
    split at h
    · rename_i x y hx
      obtain ⟨p, rfl⟩ := vSub_eq hx
      simp only [Bool.and_eq_true] at h
      obtain ⟨h1, h2⟩ := h
      unfold stpB at h2
      split at h2
      · rename_i l se p2
        simp only [Bool.and_eq_true, decide_eq_true_eq] at h2
        obtain ⟨k1, k2⟩ := h2
        have hl : ∃ tl, PO X l tl ∧ ∀ σ H Q, Q lo H → tl σ H Q := by
          unfold vLo at k1
          split at k1
          · cases k1; exact ⟨_, po_none, fun σ H Q q => q⟩
          · cases k1; exact ⟨_, po_some pe_int, fun σ H Q q => ⟨_, rfl, q⟩⟩
          · cases k1
        have hs : ∃ ts, PO X (some se) ts ∧ ∀ σ H Q, Q (some st) H → ts σ H Q := by
          unfold vSt at k2
          split at k2
          · cases k2; exact ⟨_, po_some pe_int, fun σ H Q q => ⟨_, rfl, q⟩⟩
          · cases k2; exact ⟨_, po_some (pe_un un_neg pe_int), fun σ H Q q => ⟨_, rfl, _, rfl, q⟩⟩
          · cases k2
        obtain ⟨tl, hl1, hl2⟩ := hl
        obtain ⟨ts, hs1, hs2⟩ := hs
        exact .plain (sim_stp (chkE_ok a false sc X x c h1).1 hl1 hl2 hs1 hs2) hp
      · cases h2
    · cases h
  | .callIo f i es, t, sc, X, e, c, h => by
    simp only [chkE, Bool.and_eq_true] at h
    obtain ⟨hp, h⟩ := h
    split at h
    · rename_i g y xs hx
      obtain ⟨p, p2, rfl⟩ := vCall_eq hx
      simp only [Bool.and_eq_true] at h
      obtain ⟨⟨⟨h1, hf⟩, h3⟩, h2⟩ := h
      split at h3
      · rename_i x hz
        obtain ⟨p3, rfl⟩ := vName_eq hz
        obtain ⟨rfl, g1, g2⟩ := c.glob h1
        obtain ⟨a1, a2, a3, a4⟩ := c.var h3
        have hA := chkEs_ok es sc X xs c h2
        refine .plain ?_ hp
        exact sim_callIo (c.fx.fn f (by simpa using hf)) c.room g1 g2 hA.2.2 a1 a2 a3 a4 hA.1
      · cases h3
    · cases h
  | .op1 o a, t, sc, X, e, c, h => by
    simp only [chkE, Bool.and_eq_true] at h
    obtain ⟨hp, h⟩ := h
    split at h
    · rename_i g y hx
      obtain ⟨p, p2, rfl⟩ := vCall_eq hx
      split at h
      · rename_i ho
        simp only [Bool.and_eq_true] at h
        obtain ⟨h1, h⟩ := h
        split at h
        · rename_i g2 z hy
          obtain ⟨p3, p4, rfl⟩ := vCall_eq hy
          simp only [Bool.and_eq_true] at h
          obtain ⟨h2, h3, h4⟩ := h
          have B := c.blt h1 (v := .builtin "sorted") (by decide +kernel)
          have B2 := c.blt h2 (v := .type "set") (by decide +kernel)
          obtain ⟨rfl, _, _⟩ := c.glob h1
          obtain ⟨rfl, _, _⟩ := c.glob h2
          subst ho
          exact .plain (sim_sst c.calm (by have := c.un; omega) h3 B B2 (chkE_ok a false sc X z c h4).1) hp
        · cases h
      · split at h
        · rename_i ho
          simp only [Bool.and_eq_true] at h
          obtain ⟨h1, h3, h4⟩ := h
          have B := c.blt h1 (v := .builtin "repr") (by decide +kernel)
          obtain ⟨rfl, _, _⟩ := c.glob h1
          subst ho
          exact .plain (sim_repr c.room.gd c.un h3 B (chkE_ok a false sc X y c h4).1) hp
        · cases h
    · cases h
  | .blt f es, t, sc, X, e, c, h => by
    simp only [chkE, Bool.and_eq_true] at h
    obtain ⟨hp, h⟩ := h
    split at h
    · rename_i g y xs hx
      obtain ⟨p, p2, rfl⟩ := vCall_eq hx
      simp only [Bool.and_eq_true] at h
      obtain ⟨⟨h1, h2⟩, h3⟩ := h
      have B := c.blt h1 h2
      obtain ⟨rfl, _, _⟩ := c.glob h1
      have hA := chkEs_ok es sc X (y :: xs) c h3
      exact .plain (sim_blt c.calm hA.2.2 B hA.2.1) hp
    · cases h
  | .rngOf tp two a b, t, sc, X, e, c, h => by
    simp only [chkE, Bool.and_eq_true] at h
    obtain ⟨hp, h⟩ := h
    split at h
    · rename_i g y hx
      obtain ⟨p, p2, rfl⟩ := vCall_eq hx
      simp only [Bool.and_eq_true] at h
      obtain ⟨h1, h2⟩ := h
      split at h2
      · rename_i f xs hy
        obtain ⟨p3, p4, rfl⟩ := vCall_eq hy
        simp only [Bool.and_eq_true] at h2
        obtain ⟨h3, h4⟩ := h2
        have B := c.blt h3 (v := .type "range") (by decide +kernel)
        have B2 := c.blt h1 (v := .type (if tp then "tuple" else "list")) (by cases tp <;> decide +kernel)
        obtain ⟨rfl, _, _⟩ := c.glob h3
        obtain ⟨rfl, _, _⟩ := c.glob h1
        refine .plain ?_ hp
        split at h4
        · rename_i x
          simp only [Bool.and_eq_true] at h4
          exact sim_rng1 c.calm h4.1 B B2 (chkE_ok a false sc X x c h4.2).1
        · rename_i x z
          simp only [Bool.and_eq_true] at h4
          exact sim_rng2 c.calm h4.1.1.1 h4.1.1.2 B B2 (chkE_ok a false sc X x c h4.1.2).1 (chkE_ok b false sc X z c h4.2).1
        · cases h4
      · cases h2
    · cases h
  | .comp k e1 e2 tg hasIf ic elt, t, sc, X, e, c, h => by
    simp only [chkE, Bool.and_eq_true] at h
    obtain ⟨hp, h⟩ := h
    split at h
    · rename_i el tg' it ifs scope hx
      obtain ⟨p, rfl⟩ := vComp_eq hx
      have nd : X.N.Nodup := by rw [c.names]; exact c.nd
      obtain ⟨tt, L⟩ := lc_ok c (k := k) (e1 := e1) (e2 := e2) (ic := ic) (ielt := elt) (tg := tg) (hasIf := hasIf) (el := el) (tg' := tg') (it := it) (ifs := ifs) (scope := scope) (fun e q => (chkE_ok e1 false sc X e c q).1) (fun e q => (chkE_ok e2 false sc X e c q).1)
        (fun Y e cy q => (chkE_ok ic true _ Y e cy q).2 rfl) (fun Y e cy q => (chkE_ok elt false _ Y e cy q).1) (by simpa only [Bool.and_eq_true] using h)
      exact .plain (sim_comp c.calm nd L fun s => by simp only [denE]) hp
    · cases h
  | .meth m i es, t, sc, X, e, c, h => by
    simp only [chkE, Bool.and_eq_true] at h
    obtain ⟨hp, h⟩ := h
    split at h
    · rename_i x mm xs hx
      obtain ⟨p, ap, p2, rfl, hl⟩ := vMeth_eq hx
      simp only [Bool.and_eq_true, decide_eq_true_eq] at h
      obtain ⟨⟨⟨rfl, h1⟩, h2⟩, h3⟩ := h
      obtain ⟨a1, a2, a3, a4⟩ := c.var h1
      have hA := chkEs_ok es sc X xs c h2
      refine .plain (sim_meth a1 a2 a3 a4 hl ?_) hp
      match m, xs, es, h3, h2, hA with
      | .pop, [], [], _, _, _ => exact .inl ⟨rfl, rfl, .inl rfl⟩
      | .reverse, [], [], _, _, _ => exact .inl ⟨rfl, rfl, .inr rfl⟩
      | .append, [y], _ :: _ :: _, _, h2, _ => simp [chkEs] at h2
      | .popAt, [y], _ :: _ :: _, _, h2, _ => simp [chkEs] at h2
      | .append, [y], [iy], _, h2, hA =>
        simp only [chkEs, Bool.and_eq_true] at h2
        exact .inr ⟨y, iy, rfl, rfl, h2.1.1, .inl rfl, hA.1⟩
      | .popAt, [y], [iy], _, h2, hA =>
        simp only [chkEs, Bool.and_eq_true] at h2
        exact .inr ⟨y, iy, rfl, rfl, h2.1.1, .inr rfl, hA.1⟩
    · cases h
  | .extend i a, t, sc, X, e, c, h => by
    simp only [chkE, Bool.and_eq_true] at h
    obtain ⟨hp, h⟩ := h
    split at h
    · rename_i x mm y hx
      obtain ⟨p, ap, p2, rfl, hl⟩ := vMeth_eq hx
      simp only [Bool.and_eq_true, decide_eq_true_eq] at h
      obtain ⟨⟨⟨rfl, h1⟩, h2⟩, h3⟩ := h
      obtain ⟨a1, a2, a3, a4⟩ := c.var h1
      exact .plain (sim_extend a1 a2 a3 a4 hl h2 (chkE_ok a false sc X y c h3).1) hp
    · cases h
theorem chkEs_ok : ∀ (is : List IE) (sc : Scope) (X : Cx) (es : List Expr), CxOk T cs rz N sc n X → chkEs N cs is sc es = true → SimA X es (denEs (calT T n) is) ∧ SimO X es (denOs (calT T n) is) ∧ es.all notStar = true
  | [], sc, X, es, c, h => by
    cases es with
    | nil => exact ⟨simA_nil, simO_nil, rfl⟩
    | cons _ _ => cases h
  | i :: is, sc, X, es, c, h => by
    cases es with
    | nil => cases h
    | cons e es =>
      simp only [chkEs, Bool.and_eq_true] at h
      obtain ⟨⟨h1, h2⟩, h3⟩ := h
      have a := (chkE_ok i false sc X e c h2).1
      obtain ⟨b1, b2, b3⟩ := chkEs_ok is sc X es c h3
      exact ⟨simA_cons h1 a b1, simO_cons h1 a b2, by simp only [List.all_cons, h1, b3]; rfl⟩
end
end
end Cv
set_option maxRecDepth 100000
set_option maxHeartbeats 4000000
set_option autoImplicit false
/-! Engine, part Q: the look at statements and defs. -/
namespace Cv
open PySem PySem.Spec L2
variable [TabC]
def isLc : Expr → Bool
  | .ListComp .. => true
  | .SetComp .. => true
  | .DictComp .. => true
  | _ => false
theorem sw_none {e : Expr} {tg : Option Expr} {l : Nat} {env : Env} (h : isLc e = false) : swapsWith e tg l env = pure false := by
  cases e <;> first | rfl | cases h
/-- y = [..]: are the stores exchanged -/
def swB (sc : Scope) (y : Str) (ly : Nat) (scope : Scope) (le : Nat) : Bool := (match sc.names.lookup y with | some .local => true | _ => false) && (ly == le) && !(scope.names.any fun (n, k) => n == y && (k == .local || k == .cell))
theorem sw_lc {elt : Expr} {gs : List Comprehension} {scope : Scope} {pos py : Pos} {y : Str} {l : Nat} {env : Env} (hk : env.scope.kind = .function) : swapsWith (.ListComp elt gs scope pos) (some (.Name y py)) l env = pure (swB env.scope y py.line scope pos.line) := by
  have hb : env.blockKind = .function := by unfold Env.blockKind; rw [hk]; rfl
  have hy : (env.kindOf y == some NameKind.local) = (match env.scope.names.lookup y with | some .local => true | _ => false) := by
    show (env.scope.names.lookup y == some NameKind.local) = _
    cases env.scope.names.lookup y with
    | none => rfl
    | some k => cases k <;> rfl
  unfold swapsWith swB
  rw [← hy]
  simp only [hb]
  rfl
def stB (N : List Str) (sc : Scope) (i : Nat) (x : Str) : Bool := decide (N[i]? = some x) && locB sc x
def locl (sc : Scope) (x : Str) : Bool := match sc.names.lookup x with | some .local => true | _ => false
/-- a, b = x, y: the stores are exchanged -/
def parB (sc : Scope) (x y : Str) (lx ly : Nat) (a b : Expr) : Bool := locl sc x && locl sc y && (lx == ly) && !(x == y) && !(foldedForSure 8 a && foldedForSure 8 b) && !(constantsAlone 8 a && constantsAlone 8 b) && notStar a && notStar b
theorem locl_ok {sc : Scope} {x : Str} (h : locl sc x = true) : sc.names.lookup x = some .local := by
  unfold locl at h
  split at h
  · rename_i q; exact q
  · cases h
theorem star_any {a b : Expr} : notStar a = true → notStar b = true → ([a, b].any fun | .Starred .. => true | _ => false) = false := by
  intro h7 h8
  cases a <;> first | (cases h7; done) | (cases b <;> first | rfl | cases h8)
def parC (sc : Scope) (x y : Str) (lx ly : Nat) (a b : Expr) : Bool := !(locl sc x && locl sc y && (lx == ly)) && notStar a && notStar b
theorem loclK (env : Env) (x : Str) : (env.kindOf x == some NameKind.local) = locl env.scope x := by
  show (env.scope.names.lookup x == some NameKind.local) = _
  unfold locl
  cases env.scope.names.lookup x with
  | none => rfl
  | some k => cases k <;> rfl
theorem par_none {x y : Str} {px py pt pt2 : Pos} {kt k2 : Nat} {a b : Expr} {env : Env} (hk : env.scope.kind = .function) (h : parC env.scope x y px.line py.line a b = true) : swappedStores [.Tuple [.Name x px, .Name y py] kt pt] (.Tuple [a, b] k2 pt2) env = pure none := by
  simp only [parC, Bool.and_eq_true, Bool.not_eq_true'] at h
  obtain ⟨⟨h1, h7⟩, h8⟩ := h
  have hb : env.blockKind = .function := by unfold Env.blockKind; rw [hk]; rfl
  have hst := star_any h7 h8
  have nm : (([Expr.Name x px, Expr.Name y py].filterMap fun
    | .Name id pos => if env.kindOf id == some .local && pos.line == (([Expr.Name x px, Expr.Name y py].head?.map (·.pos.line)).getD 0) then some id else none
    | _ => none).length == 2) = false := by
    simp only [List.head?_cons, Option.map_some, Option.getD_some, Expr.pos, loclK]
    cases k1 : locl env.scope x <;> cases k2 : locl env.scope y <;> cases k3 : (py.line == px.line) <;> simp [List.filterMap, loclK, k1, k2, k3]
    have := eq_of_beq k3
    rw [k1, k2, this] at h1
    simp at h1
  unfold swappedStores
  have d2 : ¬((!(([Expr.Name x px, Expr.Name y py].length == 2) || ([Expr.Name x px, Expr.Name y py].length == 3)) || ([a, b].length != [Expr.Name x px, Expr.Name y py].length) || (env.blockKind != ScopeKind.function)) = true) := by
    rw [hb]; simp [List.length_cons, List.length_nil]; try rfl
  refine (if_neg d2).trans ?_
  refine (if_neg (fun hh => Bool.noConfusion (hst.symm.trans hh))).trans ?_
  have nl : (((([Expr.Name x px, Expr.Name y py].filterMap fun
    | .Name id pos => if env.kindOf id == some .local && pos.line == (([Expr.Name x px, Expr.Name y py].head?.map (·.pos.line)).getD 0) then some id else none
    | _ => none).length != [Expr.Name x px, Expr.Name y py].length) || (([Expr.Name x px, Expr.Name y py].filterMap fun
    | .Name id pos => if env.kindOf id == some .local && pos.line == (([Expr.Name x px, Expr.Name y py].head?.map (·.pos.line)).getD 0) then some id else none
    | _ => none).eraseDups.length != ([Expr.Name x px, Expr.Name y py].filterMap fun
    | .Name id pos => if env.kindOf id == some .local && pos.line == (([Expr.Name x px, Expr.Name y py].head?.map (·.pos.line)).getD 0) then some id else none
    | _ => none).length)) = true) := by
    have : (([Expr.Name x px, Expr.Name y py].filterMap fun
    | .Name id pos => if env.kindOf id == some .local && pos.line == (([Expr.Name x px, Expr.Name y py].head?.map (·.pos.line)).getD 0) then some id else none
    | _ => none).length != [Expr.Name x px, Expr.Name y py].length) = true := by
      show (!(([Expr.Name x px, Expr.Name y py].filterMap fun
    | .Name id pos => if env.kindOf id == some .local && pos.line == (([Expr.Name x px, Expr.Name y py].head?.map (·.pos.line)).getD 0) then some id else none
    | _ => none).length == 2)) = true
      rw [nm]; rfl
    rw [this]; rfl
  exact if_pos nl
theorem par_sw {x y : Str} {px py pt pt2 : Pos} {kt k2 : Nat} {a b : Expr} {env : Env} (hk : env.scope.kind = .function) (h : parB env.scope x y px.line py.line a b = true) : swappedStores [.Tuple [.Name x px, .Name y py] kt pt] (.Tuple [a, b] k2 pt2) env = pure (some [x, y]) := by
  simp only [parB, Bool.and_eq_true, Bool.not_eq_true'] at h
  obtain ⟨⟨⟨⟨⟨⟨⟨h1, h2⟩, h3⟩, h4⟩, h5⟩, h6⟩, h7⟩, h8⟩ := h
  have hb : env.blockKind = .function := by unfold Env.blockKind; rw [hk]; rfl
  have k1 : (env.kindOf x == some NameKind.local) = true := by
    show (env.scope.names.lookup x == some NameKind.local) = true
    rw [locl_ok h1]; rfl
  have k2' : (env.kindOf y == some NameKind.local) = true := by
    show (env.scope.names.lookup y == some NameKind.local) = true
    rw [locl_ok h2]; rfl
  have l1 : (py.line == px.line) = true := by
    have := eq_of_beq h3
    rw [this]; exact beq_self_eq_true _
  have yx : (y == x) = false := by
    cases q : y == x with
    | false => rfl
    | true =>
      have := eq_of_beq q
      subst this
      rw [beq_self_eq_true] at h4
      cases h4
  have ed : ([x, y] : List Str).eraseDups.length = 2 := by
    rw [show ([x, y] : List Str).eraseDups = x :: ([y].filter (fun b => !b == x)).eraseDups from by rw [List.eraseDups_cons]]
    rw [show ([y].filter (fun b => !b == x)) = [y] from by simp [List.filter, yx]]
    rfl
  unfold swappedStores
  have f8 : ([a, b].all (foldedForSure 8)) = false := by simp only [List.all_cons, List.all_nil, Bool.and_true]; exact h5
  have c8 : ([a, b].all (constantsAlone 8)) = false := by simp only [List.all_cons, List.all_nil, Bool.and_true]; exact h6
  have st := star_any h7 h8
  have nm : ([Expr.Name x px, Expr.Name y py].filterMap fun
    | .Name id pos => if env.kindOf id == some .local && pos.line == (([Expr.Name x px, Expr.Name y py].head?.map (·.pos.line)).getD 0) then some id else none
    | _ => none) = [x, y] := by
    simp only [List.filterMap_cons, List.filterMap_nil, List.head?_cons, Option.map_some, Option.getD_some, Expr.pos, k1, k2', l1, beq_self_eq_true, Bool.and_true, if_true]
  have d2 : ¬((!(([Expr.Name x px, Expr.Name y py].length == 2) || ([Expr.Name x px, Expr.Name y py].length == 3)) || ([a, b].length != [Expr.Name x px, Expr.Name y py].length) || (env.blockKind != ScopeKind.function)) = true) := by
    rw [hb]; simp [List.length_cons, List.length_nil]; try rfl
  refine (if_neg d2).trans ?_
  refine (if_neg (fun hh => Bool.noConfusion (st.symm.trans hh))).trans ?_
  have nl : ¬(((([Expr.Name x px, Expr.Name y py].filterMap fun
    | .Name id pos => if env.kindOf id == some .local && pos.line == (([Expr.Name x px, Expr.Name y py].head?.map (·.pos.line)).getD 0) then some id else none
    | _ => none).length != [Expr.Name x px, Expr.Name y py].length) || (([Expr.Name x px, Expr.Name y py].filterMap fun
    | .Name id pos => if env.kindOf id == some .local && pos.line == (([Expr.Name x px, Expr.Name y py].head?.map (·.pos.line)).getD 0) then some id else none
    | _ => none).eraseDups.length != ([Expr.Name x px, Expr.Name y py].filterMap fun
    | .Name id pos => if env.kindOf id == some .local && pos.line == (([Expr.Name x px, Expr.Name y py].head?.map (·.pos.line)).getD 0) then some id else none
    | _ => none).length)) = true) := by
    rw [nm, ed]; simp
  refine (if_neg nl).trans ?_
  refine (if_neg (fun hh => Bool.noConfusion (f8.symm.trans hh))).trans ?_
  refine (if_neg (fun hh => Bool.noConfusion (c8.symm.trans hh))).trans ?_
  exact congrArg (fun z => (pure (some z) : Sem (Option (List Str)))) nm
mutual
def chkS (N : List Str) (cs : Sta) (rz : List String) (sc : Scope) : IS → Stmt → Bool
  | .asg (.name i) e, st => match st with
    | .Assign [.Name x px] v _ => stB N sc i x && chkE N cs e false sc v && (match v with
      | .ListComp _ _ scope p => (match e with | .comp .. => true | _ => !swB sc x px.line scope p.line)
      | v => !isLc v)
    | _ => false
  | .asg (.tup is) e, st => match st with
    | .Assign [tg] v _ => tgtB (stB N sc) (.tup is) tg && !isLc v && (match v with | .Tuple .. => false | _ => true) && chkE N cs e false sc v
    | _ => false
  | .par i j a b, st => match st with
    | .Assign [.Tuple [.Name x px, .Name y py] _ _] (.Tuple [va, vb] _ _) _ => stB N sc i x && stB N sc j y && (parB sc x y px.line py.line va vb || parC sc x y px.line py.line va vb) && chkE N cs a false sc va && chkE N cs b false sc vb
    | _ => false
  | .sub i ix e, st => match st with
    | .Assign [.Subscript (.Name x _) k _] v _ => varB N sc i x && notSlice k && !isLc v && chkE N cs ix false sc k && chkE N cs e false sc v
    | _ => false
  | .expr e, st => match st with
    | .Expr v _ => !isLc v && chkE N cs e false sc v
    | _ => false
  | .ret e, st => match st with
    | .Return (some v) _ => chkE N cs e false sc v
    | _ => false
  | .retN, st => match st with
    | .Return none _ => true
    | _ => false
  | .ife c a b, st => match st with
    | .If t x y _ => chkE N cs c true sc t && chkSs N cs rz sc a x && chkSs N cs rz sc b y
    | _ => false
  | .for_ k e1 e2 tg body, st => match st with
    | .For tg' it b [] _ => notSet it && tgtB (stB N sc) tg tg' && itB k (fun a => chkE N cs e1 false sc a) (fun a => chkE N cs e2 false sc a) sc tg' it && chkSs N cs rz sc body b
    | _ => false
  | .whl c body, st => match st with
    | .While t b [] _ => chkE N cs c true sc t && chkSs N cs rz sc body b
    | _ => false
  | .pass, st => match st with
    | .Pass _ => true
    | _ => false
  | .cont, st => match st with
    | .Continue _ => true
    | _ => false
  | .brk, st => match st with
    | .Break _ => true
    | _ => false
  | .raise c, st => match st with
    | .Raise (some (.Call (.Name x _) [.Constant (.str _) _ _] [] _)) none _ => globB sc c x && rz.contains c
    | _ => false
def chkSs (N : List Str) (cs : Sta) (rz : List String) (sc : Scope) : List IS → List Stmt → Bool
  | [], [] => true
  | i :: is, s :: ss => chkS N cs rz sc i s && chkSs N cs rz sc is ss
  | _, _ => false
end
section
variable {T : Tab} {cs : Sta} {rz : List String} {N : List Str} {n : Nat} {sc : Scope} {X : Cx}
structure BdOk (T : Tab) (cs : Sta) (rz : List String) (N : List Str) (sc : Scope) (n : Nat) (X : Cx) : Prop where
  cx : CxOk T cs rz N sc n X
  fn : ∀ x, X.fn x = true
  po : PassesOwn (model X.prog X.w) X.A X.env X.xe
  kd : sc.kind = .function
theorem BdOk.st (c : BdOk T cs rz N sc n X) {i : Nat} {x : Str} (h : stB N sc i x = true) : StOk X i x := by
  simp only [stB, Bool.and_eq_true, decide_eq_true_eq] at h
  exact ⟨by rw [c.cx.names]; exact h.1, by rw [c.cx.scope]; exact locB_ok h.2, .inl (c.fn x)⟩
theorem BdOk.nd (c : BdOk T cs rz N sc n X) : X.N.Nodup := by rw [c.cx.names]; exact c.cx.nd
theorem BdOk.kf (c : BdOk T cs rz N sc n X) : X.env.scope.kind = .function := by rw [c.cx.scope]; exact c.kd
set_option maxHeartbeats 8000000 in
mutual
theorem chkS_ok (c : BdOk T cs rz N sc n X) : ∀ (i : IS) (st : Stmt), chkS N cs rz sc i st = true → SimS X st (denS (calT T n) i)
  | .asg (.name i) e, st, h => by
    simp only [chkS] at h
    split at h
    · rename_i x px v pos
      simp only [Bool.and_eq_true] at h
      obtain ⟨⟨h1, h2⟩, h3⟩ := h
      have he := (chkE_ok e false sc X v c.cx h2).1
      split at h3
      · rename_i el gs scope p
        by_cases hsw : swB sc x px.line scope p.line = true
        · split at h3
          · rename_i k e1 e2 tg hasIf ic ielt
            simp only [chkE, Bool.and_eq_true] at h2
            obtain ⟨_, h2⟩ := h2
            split at h2
            · rename_i el' tg' it ifs scope' hx
              obtain ⟨p', e'⟩ := vComp_eq hx
              simp only at e'
              cases e'
              obtain ⟨tt, L⟩ := lc_ok c.cx (k := k) (e1 := e1) (e2 := e2) (ic := ic) (ielt := ielt) (tg := tg) (hasIf := hasIf) (fun e q => (chkE_ok e1 false sc X e c.cx q).1) (fun e q => (chkE_ok e2 false sc X e c.cx q).1)
                (fun Y e cy q => (chkE_ok ic true _ Y e cy q).2 rfl) (fun Y e cy q => (chkE_ok ielt false _ Y e cy q).1) (by simpa only [Bool.and_eq_true] using h2)
              have hs := hsw
              simp only [swB, Bool.and_eq_true] at hs
              refine sim_asgLc c.cx.calm c.nd L (fun s => by simp only [denE]) (c.st h1).ix ?_ ?_
              · rw [c.cx.scope]
                exact locl_ok hs.1.1
              · rw [sw_lc c.kf, c.cx.scope, hsw]
            · cases h2
          · rw [hsw] at h3; cases h3
        · refine sim_asg c.nd (c.st h1) ?_ he
          rw [sw_lc c.kf, c.cx.scope]
          simp only [Bool.not_eq_true] at hsw
          rw [hsw]
      · simp only [Bool.not_eq_true'] at h3
        exact sim_asg c.nd (c.st h1) (sw_none h3) he
    · cases h
  | .asg (.tup is) e, st, h => by
    simp only [chkS] at h
    split at h
    · rename_i tg v pos
      simp only [Bool.and_eq_true, Bool.not_eq_true'] at h
      obtain ⟨⟨⟨h1, h2⟩, h3⟩, h4⟩ := h
      have hg := tgt_simV c.cx.calm c.nd (fun i x q => c.st q) h1
      have ht : isTupE tg = true := by
        simp only [tgtB] at h1
        split at h1
        · rename_i es hx
          obtain ⟨k, p, rfl⟩ := vTuple_eq hx
          rfl
        · cases h1
      refine sim_asgT hg ?_ ?_ ?_ (chkE_ok e false sc X v c.cx h4).1
      · exact sw_none h2
      · cases tg <;> first | (cases ht; done) | skip
        cases v <;> first | rfl | cases h3
      · cases tg <;> first | rfl | cases ht
    · cases h
  | .par i j a b, st, h => by
    simp only [chkS] at h
    split at h
    · rename_i x px y py kt pt va vb k2 pt2 pos
      simp only [Bool.and_eq_true] at h
      obtain ⟨⟨⟨⟨h1, h2⟩, h3⟩, h4⟩, h5⟩ := h
      cases hB : parB sc x y px.line py.line va vb with
      | true =>
        have h3' := hB
        simp only [parB, Bool.and_eq_true] at h3'
        obtain ⟨⟨⟨⟨⟨⟨⟨k1, k2'⟩, _⟩, _⟩, _⟩, _⟩, k7⟩, k8⟩ := h3'
        refine sim_par (c.st h1) (c.st h2) c.nd k7 k8 (fun hij ta ha => ps_par c.cx.calm c.nd (c.st h1).ix (c.st h2).ix hij ?_ ?_ ha (par_sw c.kf ?_)) (chkE_ok a false sc X va c.cx h4).1 (chkE_ok b false sc X vb c.cx h5).1
        · rw [c.cx.scope]; exact locl_ok k1
        · rw [c.cx.scope]; exact locl_ok k2'
        · rw [c.cx.scope]; exact hB
      | false =>
        rw [hB, Bool.false_or] at h3
        have h3' := h3
        simp only [parC, Bool.and_eq_true] at h3'
        obtain ⟨⟨_, k7⟩, k8⟩ := h3'
        refine sim_par (c.st h1) (c.st h2) c.nd k7 k8 (fun hij ta ha => ps_par2 c.cx.calm c.nd (c.st h1) (c.st h2) ha (par_none c.kf ?_)) (chkE_ok a false sc X va c.cx h4).1 (chkE_ok b false sc X vb c.cx h5).1
        rw [c.cx.scope]; exact h3
    · cases h
  | .sub i ix e, st, h => by
    simp only [chkS] at h
    split at h
    · rename_i x p1 k p2 v pos
      simp only [Bool.and_eq_true, Bool.not_eq_true'] at h
      obtain ⟨⟨⟨⟨h1, h2⟩, h3⟩, h4⟩, h5⟩ := h
      obtain ⟨a1, a2, a3, a4⟩ := c.cx.var h1
      exact sim_sub a1 a2 a3 a4 (chkE_ok ix false sc X k c.cx h4).1 (chkE_ok e false sc X v c.cx h5).1 (by unfold swapsWithSole; exact sw_none h3) rfl h2
    · cases h
  | .expr e, st, h => by
    simp only [chkS] at h
    split at h
    · rename_i v pos
      simp only [Bool.and_eq_true, Bool.not_eq_true'] at h
      exact sim_expr (sw_none h.1) (chkE_ok e false sc X v c.cx h.2).1
    · cases h
  | .ret e, st, h => by
    simp only [chkS] at h
    split at h
    · rename_i v pos
      exact sim_ret (chkE_ok e false sc X v c.cx h).1
    · cases h
  | .retN, st, h => by
    simp only [chkS] at h
    split at h
    · exact sim_retN
    · cases h
  | .ife d a b, st, h => by
    simp only [chkS] at h
    split at h
    · rename_i t x y pos
      simp only [Bool.and_eq_true] at h
      obtain ⟨⟨h1, h2⟩, h3⟩ := h
      exact sim_if ((chkE_ok d true sc X t c.cx h1).2 rfl) (chkSs_ok c a x h2) (chkSs_ok c b y h3)
    · cases h
  | .for_ k e1 e2 tg body, st, h => by
    simp only [chkS] at h
    split at h
    · rename_i tg' it b pos
      simp only [Bool.and_eq_true] at h
      obtain ⟨⟨⟨h1, h2⟩, h3⟩, h4⟩ := h
      exact sim_for (mI := itR k (fun s => denE (calT T n) e1 s) (fun s => denE (calT T n) e2 s)) (mb := fun s => denSs (calT T n) body s) (t := tg) (fun s => by simp only [denS, denI]) c.po c.cx.calm h1
        (it_sim c.cx (fun e q => (chkE_ok e1 false sc X e c.cx q).1) (fun e q => (chkE_ok e2 false sc X e c.cx q).1) h3) (tgt_sim c.cx.calm c.nd (fun i x q => c.st q) h2) (chkSs_ok c body b h4)
    · cases h
  | .whl d body, st, h => by
    simp only [chkS] at h
    split at h
    · rename_i t b pos
      simp only [Bool.and_eq_true] at h
      exact sim_while c.po ((chkE_ok d true sc X t c.cx h.1).2 rfl) (chkSs_ok c body b h.2)
    · cases h
  | .pass, st, h => by
    simp only [chkS] at h
    split at h
    · exact sim_pass
    · cases h
  | .cont, st, h => by
    simp only [chkS] at h
    split at h
    · exact sim_cont
    · cases h
  | .brk, st, h => by
    simp only [chkS] at h
    split at h
    · exact sim_brk
    · cases h
  | .raise d, st, h => by
    simp only [chkS] at h
    split at h
    · rename_i x p1 m j p2 p3 pos
      simp only [Bool.and_eq_true] at h
      obtain ⟨rfl, g1, g2⟩ := c.cx.glob h.1
      obtain ⟨Ca, m1, m2⟩ := c.cx.fx.rz d (by simpa using h.2)
      exact sim_raise c.cx.calm m1 (L2N.pmk_own PySem.F.excBase_ValueError m2.ex m1 m2.kp (raises_own m2.sb m2.ty) g1 g2)
    · cases h
theorem chkSs_ok (c : BdOk T cs rz N sc n X) : ∀ (is : List IS) (sts : List Stmt), chkSs N cs rz sc is sts = true → SimSs X sts (denSs (calT T n) is)
  | [], sts, h => by
    cases sts with
    | nil => exact sims_nil
    | cons _ _ => cases h
  | i :: is, sts, h => by
    cases sts with
    | nil => cases h
    | cons s ss =>
      simp only [chkSs, Bool.and_eq_true] at h
      exact sims_cons (chkS_ok c i s h.1) (chkSs_ok c is ss h.2)
end
end
end Cv
set_option maxRecDepth 100000
set_option maxHeartbeats 2000000
set_option autoImplicit false
/-! Engine, part W5: the law's end where defs make lambdas. -/
namespace Cv
open PySem PySem.Spec L2 LamX
/-- nothing but the script and the tables is told -/
def OnlyT (H : Hp) : Prop := ∀ b, H b = none ∨ (∃ ps, H b = some (.tbl ps)) ∨ ∃ o xs, H b = some (.frz o (.lst xs))
section
variable {P : Program} {w : World} {K : PySem.W.Frag} {mg mb : Str → Option Value} {CX : CXT} {k : Nat} {fa a : Addr} {fd : FuncData} {x : Str} {sp : Sp} {s : Shared} {vs : List Value} {ns : List Int} {H : Hp} {tt : List (Addr × Addr)}
theorem end_atT (KX : K.In s.heap) (hns : s.heap.Ns mainGlobals mg) (hb : s.heap.Ns builtinsNs mb) (hbb : ∀ x : Str, x ≠ "__name__" → mb x = bootBuiltins x) (hlim : s.heap.NoLimit) (hg : s.gens = #[])
    (hT : ∀ p ∈ tt, s.heap.get? p.2 = some { cls := .none, data := .fields #[] }) (nT : ∀ p ∈ tt, K.lookup p.2 = none) (C : ∀ p ∈ tt, PySem.W.CodeHd s.heap p.1 p.2)
    (hbm : ∃ (bm : Addr) (ob : Obj), mg "__builtins__" = some (.ref bm) ∧ bm ≠ builtinsNs ∧ s.heap.get? bm = some ob ∧ ob.cls = .type "module" ∧ ob.dict = some builtinsNs ∧ ob.data = .plain)
    (ha : s.heap.get? a = some { cls := .type "list", data := .seq vs.toArray }) (hr : Room k callerA) (F : ∀ base : Heap, K.In base → base.Ns mainGlobals mg → (∀ p ∈ tt, TabB base mg p.1 p.2) → FnOk P w K mg base CX k fa fd [x] sp) (hbind : BindsTo s fd ⟨[.ref a], []⟩ [(x, .ref a)])
    (hsp : sp [.ref a] H (fun v _ => v = .bl true) fun _ _ _ => False) (hCX : ∀ e s', CX [] H s (fun _ _ _ => False) e s' → False) (hO : OnlyT H) (hok : HOk P w H s.heap) (hH : ∀ p ∈ tt, H p.2 = some (.tbl #[]))
    (hA : ∀ b u, H b = some u → (b = a ∧ K.lookup a = none) ∨ b ∈ tt.map (·.2)) :
    codeAny (model P w) callerA (.call (.ref fa) ⟨[.ref a], []⟩) (fun r s' => r = .ok (.ret (.bool true)) ∧ OldK s.heap s'.heap ∧ s'.os = s.os ∧ PyProof.Rows.AllBare s'.gens) s := by
  have isT : ∀ {b : Addr}, b ∈ tt.map (·.2) → s.heap.get? b = some { cls := .none, data := .fields #[] } ∧ K.lookup b = none := fun {b} h => by
    obtain ⟨p, hp, rfl⟩ := List.mem_map.mp h
    exact ⟨hT p hp, nT p hp⟩
  have free : ∀ (b : Addr) (o : Obj), s.heap.get? b = some o → (∀ is n, o.data ≠ .seq is n) → o.data ≠ .fields #[] → H b = none := fun b o e n1 n2 => by
    match q : H b with
    | none => rfl
    | some u =>
      rcases hA b u q with ⟨rfl, _⟩ | z
      · rw [ha] at e; cases e; exact absurd rfl (n1 _ _)
      · rw [(isT z).1] at e; cases e; exact absurd rfl n2
  have up : ∀ {b : Addr} {m : Str → Option Value}, s.heap.Ns b m → (hidT s.heap H).Ns b m := fun {b m} ⟨o, es, ep, e, d, r⟩ => ⟨o, es, ep, hidT_get e (free b o e (fun is n z => by rw [d] at z; cases z) (fun z => by rw [d] at z; cases z)), d, r⟩
  have kb : K.In (hidT s.heap H) := fun b o e => hidT_get (KX b o e) (by
    match q : H b with
    | none => rfl
    | some u =>
      rcases hA b u q with ⟨rfl, z⟩ | z
      · rw [z] at e; cases e
      · rw [(isT z).2] at e; cases e)
  have md : Mod K mg (hidT s.heap H) := ⟨kb, up hns, ⟨mb, up hb, hbb⟩, let ⟨mc, h1, h2⟩ := hlim; ⟨mc, up h1, h2⟩⟩
  have TB : ∀ p ∈ tt, TabB (hidT s.heap H) mg p.1 p.2 := fun p hp => by
    refine ⟨?_, ?_, fun z => ?_⟩
    · obtain ⟨o, us, file, tf, flags, tg, inF, text, tx, e1, r1, r2, r3, r⟩ := C p hp
      refine ⟨o, us, file, tf, flags, tg, inF, text, tx, hidT_get e1 (free _ _ e1 (fun is n z => by rw [r2] at z; cases z) (fun z => ?_)), r1, r2, r3, r⟩
      rw [r2] at z
      cases z
      simp at r3
    · obtain ⟨bm, ob, b1, b2, b3, b4, b5, b6⟩ := hbm
      refine ⟨bm, ob, b1, b2, fun q => ?_, fun q => ?_, hidT_get b3 (free _ _ b3 (fun is n z => by rw [b6] at z; cases z) (fun z => by rw [b6] at z; cases z)), b4, b5, b6⟩
      · obtain ⟨o, es, ep, e, hd, _⟩ := hns
        rw [q, e] at b3
        cases b3
        rw [hd] at b6
        cases b6
      · rw [q, hT p hp] at b3
        cases b3
        cases b6
    · obtain ⟨o, es, ep, e, hd, _⟩ := hns
      rw [z, hT p hp] at e
      cases e
      cases hd
  have e0 : Env0 P w K mg (hidT s.heap H) callerA [] s H := ⟨rfl, md, fun b o e => of_hidT e, Nat.le_of_eq (hidT_size _ _), trivial, fun b hb => (List.not_mem_nil hb).elim, hok, .of_eq hg⟩
  refine codeAny_mono ((F _ kb (up hns) TB).run callerA [] s H ⟨[.ref a], []⟩ [.ref a] [.ref a] _ _ hr e0 hbind (.cons rfl .nil) hsp) fun r s' h => ?_
  match r, h with
  | .error e, h => exact (hCX e s' h).elim
  | .ok .next, h => exact False.elim h
  | .ok .brk, h => exact False.elim h
  | .ok .cont, h => exact False.elim h
  | .ok (.ret u), ⟨v, H', os, bare, un, hok', rv, (q : v = .bl true)⟩ =>
    subst q
    obtain rfl : u = Value.bool true := rv
    have same : ∀ b o, b ∉ tt.map (·.2) → s.heap.get? b = some o → s'.heap.get? b = some o := fun b o nb e => by
      rcases hO b with z | ⟨ps, z⟩ | ⟨ob, xs, z⟩
      · exact un.keep b o e z (fun z => (List.not_mem_nil z).elim) (by simp)
      · rcases hA b _ z with ⟨rfl, _⟩ | y
        · have := hok _ _ z
          rw [show s.heap.get? b = _ from this] at ha
          cases ha
        · exact absurd y nb
      · obtain ⟨e1, _⟩ := hok b _ z
        obtain ⟨e2, _⟩ := hok' b _ (un.frzs b ob _ z)
        rw [e] at e1
        cases e1
        exact e2
    have grown : ∀ p ∈ tt, ∃ more : Array Value, s'.heap.get? p.2 = some { cls := .none, data := .fields more } := fun p hp => by
      obtain ⟨more, z⟩ := un.tbls p.2 #[] (hH p hp)
      exact ⟨_, hok' p.2 _ z⟩
    refine ⟨rfl, ⟨fun b o e => ?_, fun b o e => ?_⟩, os, bare⟩
    · by_cases hb : b ∈ tt.map (·.2)
      · obtain ⟨p, hp, rfl⟩ := List.mem_map.mp hb
        obtain ⟨more, hm⟩ := grown p hp
        rw [hT p hp] at e
        cases e
        exact .inr (.inl ⟨((C p hp).tab (hT p hp)).isCodeTable, rfl, #[], more, rfl, by rw [Array.empty_append]; exact hm⟩)
      · exact .inl (same b o hb e)
    · by_cases hb : b ∈ tt.map (·.2)
      · obtain ⟨p, hp, rfl⟩ := List.mem_map.mp hb
        obtain ⟨more, hm⟩ := grown p hp
        exact ⟨_, hm⟩
      · exact ⟨o, same b o hb e⟩
theorem end_callT (KX : K.In s.heap) (hns : s.heap.Ns mainGlobals mg) (hb : s.heap.Ns builtinsNs mb) (hbb : ∀ x : Str, x ≠ "__name__" → mb x = bootBuiltins x) (hlim : s.heap.NoLimit) (hg : s.gens = #[])
    (hT : ∀ p ∈ tt, s.heap.get? p.2 = some { cls := .none, data := .fields #[] }) (nT : ∀ p ∈ tt, K.lookup p.2 = none) (C : ∀ p ∈ tt, PySem.W.CodeHd s.heap p.1 p.2)
    (hbm : ∃ (bm : Addr) (ob : Obj), mg "__builtins__" = some (.ref bm) ∧ bm ≠ builtinsNs ∧ s.heap.get? bm = some ob ∧ ob.cls = .type "module" ∧ ob.dict = some builtinsNs ∧ ob.data = .plain)
    (ha : s.heap.get? a = some { cls := .type "list", data := .seq vs.toArray }) (hi : PyProof.Rows.IntsAre vs ns) (hl : ns.length ≤ sizeLine) (hr : Room k callerA) (F : ∀ base : Heap, K.In base → base.Ns mainGlobals mg → (∀ p ∈ tt, TabB base mg p.1 p.2) → FnOk P w K mg base CX k fa fd [x] sp) (hbind : ∀ (s : Shared) (u : Value), BindsTo s fd ⟨[u], []⟩ [(x, u)])
    (hsp : ∀ H : Hp, OnlyT H → (∀ p ∈ tt, H p.2 = some (.tbl #[])) → SqL K H a (ns.map V.int) → sp [.ref a] H (fun v _ => v = .bl true) fun _ _ _ => False) (hCX : ∀ H e s', CX [] H s (fun _ _ _ => False) e s' → False) :
    codeAny (model P w) callerA (.call (.ref fa) ⟨[.ref a], []⟩) (fun r s' => r = .ok (.ret (.bool true)) ∧ OldK s.heap s'.heap ∧ s'.os = s.os ∧ PyProof.Rows.AllBare s'.gens) s := by
  have rv := vals_ints hi
  have mem : ∀ p ∈ tt, p.2 ∈ tt.map (·.2) := fun p hp => List.mem_map_of_mem hp
  have isT : ∀ {b : Addr}, b ∈ tt.map (·.2) → s.heap.get? b = some { cls := .none, data := .fields #[] } := fun {b} h => by
    obtain ⟨p, hp, rfl⟩ := List.mem_map.mp h
    exact hT p hp
  have aT : a ∉ tt.map (·.2) := fun z => by
    have q := isT z
    rw [ha] at q
    cases q
  match hk : K.lookup a with
  | some o =>
    have e := KX a o hk
    rw [ha] at e
    cases e
    let H : Hp := fun b => if b ∈ tt.map (·.2) then some (.tbl #[]) else none
    have at_ : ∀ b u, H b = some u → b ∈ tt.map (·.2) ∧ u = .tbl #[] := fun b u z => by
      by_cases q : b ∈ tt.map (·.2)
      · exact ⟨q, (Option.some.inj ((if_pos q).symm.trans z)).symm⟩
      · exact nomatch (if_neg q).symm.trans z
    have hH : ∀ p ∈ tt, H p.2 = some (.tbl #[]) := fun p hp => if_pos (mem p hp)
    have hO : OnlyT H := fun b => by
      by_cases q : b ∈ tt.map (·.2)
      · exact .inr (.inl ⟨_, if_pos q⟩)
      · exact .inl (if_neg q)
    refine end_atT (H := H) KX hns hb hbb hlim hg hT nT C hbm ha hr F (hbind _ _) (hsp _ hO hH (.inr ⟨_, vs.toArray, _, hk, rfl, rfl, rfl, by rw [List.size_toArray, hi.length]; exact hl, by simpa using rv⟩)) (hCX _) hO (fun b u z => ?_) hH fun b u z => .inr (at_ b u z).1
    obtain ⟨z1, rfl⟩ := at_ b u z
    exact isT z1
  | none =>
    let H : Hp := fun b => if b = a then some (.frz { cls := .type "list", data := .seq vs.toArray } (.lst (ns.map V.int))) else if b ∈ tt.map (·.2) then some (.tbl #[]) else none
    have atA : H a = some (.frz { cls := .type "list", data := .seq vs.toArray } (.lst (ns.map V.int))) := if_pos rfl
    have at_ : ∀ b u, H b = some u → (b = a ∧ u = .frz { cls := .type "list", data := .seq vs.toArray } (.lst (ns.map V.int))) ∨ (b ∈ tt.map (·.2) ∧ u = .tbl #[]) := fun b u z => by
      by_cases q : b = a
      · exact .inl ⟨q, (Option.some.inj ((if_pos q).symm.trans z)).symm⟩
      · have z := (if_neg q).symm.trans z
        by_cases q2 : b ∈ tt.map (·.2)
        · exact .inr ⟨q2, (Option.some.inj ((if_pos q2).symm.trans z)).symm⟩
        · exact nomatch (if_neg q2).symm.trans z
    have hH : ∀ p ∈ tt, H p.2 = some (.tbl #[]) := fun p hp => (if_neg (show ¬ p.2 = a from fun z => aT (by rw [← z]; exact mem p hp))).trans (if_pos (mem p hp))
    have hO : OnlyT H := fun b => by
      match q : H b with
      | none => exact .inl rfl
      | some u =>
        rcases at_ b u q with ⟨_, rfl⟩ | ⟨_, rfl⟩
        · exact .inr (.inr ⟨_, _, rfl⟩)
        · exact .inr (.inl ⟨_, rfl⟩)
    refine end_atT (H := H) KX hns hb hbb hlim hg hT nT C hbm ha hr F (hbind _ _) (hsp _ hO hH (.inl (.inr ⟨_, atA⟩))) (hCX _) hO (fun b u z => ?_) hH fun b u z => (at_ b u z).imp (fun q => ⟨q.1, hk⟩) fun q => q.1
    rcases at_ b u z with ⟨rfl, rfl⟩ | ⟨z1, rfl⟩
    · exact ⟨ha, by rw [List.length_map]; exact hl, vs, _, rv, ha⟩
    · exact isT z1
end
/-- the goal that the head leaves -/
theorem walk_endT {l : PySem.W.OpenLaw} {n k : Nat} {q : Program} {loose : List Str} {XP : (Str → Option Value) → Heap → Prop} {YP : World → Heap → Prop} {d : DefRec} {CX : CXT} {x : Str}
    (hn : l.most = some n) (hn2 : n ≤ sizeLine) (hdf : d.params.defaults = []) (hr : Room k callerA)
    (F : ∀ (w : World) (mg : Str → Option Value) (fa : Addr) (h : Heap), YP w h → h.Ns mainGlobals mg → mg d.name = some (.ref fa) →
      ∃ (K : PySem.W.Frag) (fd : FuncData) (sp : Sp) (tt : List (Addr × Addr)), K.In h ∧ (∀ p ∈ tt, h.get? p.2 = some { cls := .none, data := .fields #[] }) ∧ (∀ p ∈ tt, K.lookup p.2 = none) ∧ (∀ p ∈ tt, PySem.W.codeHdIn K p.1 p.2 = true) ∧ (∀ (s : Shared) (u : Value), BindsTo s fd ⟨[u], []⟩ [(x, u)]) ∧
        (∀ (H : Hp) (a : Addr) (ns : List Int), ns.length ≤ n → (∀ z ∈ ns, Builtin.Int.intBits z ≤ 1048576) → OnlyT H → (∀ p ∈ tt, H p.2 = some (.tbl #[])) → SqL K H a (ns.map V.int) → sp [.ref a] H (fun v _ => v = .bl true) fun _ _ _ => False) ∧
        ∀ base : Heap, K.In base → base.Ns mainGlobals mg → (∀ p ∈ tt, TabB base mg p.1 p.2) → FnOk l.prog w K mg base CX k fa fd [x] sp)
    (hCX : ∀ (H : Hp) (s : Shared) (e : Value) (s' : Shared), CX [] H s (fun _ _ _ => False) e s' → False) :
    PySem.W.WalkO q loose XP YP l.row.toRowW d [] (fun f vs => PySem.call f vs) := by
  refine Att.attach_callB hn hdf fun w s₀ s₁ mg mb fa o pm cd doc a vs ns G Y ho hd hcd hmg hobj hints hlen hbits hg => ?_
  obtain ⟨K, fd, sp, tt, KX, hT, nT, C, hb, hsp, hF⟩ := F w mg fa _ Y G.T.g hmg
  exact end_callT KX G.T.g G.T.b G.T.builtins G.T.nolimit hg hT nT (fun p hp => PySem.W.codeHd_of_K KX (C p hp)) G.T.bmain hobj hints (Nat.le_trans hlen hn2) hr hF hb (fun H hO hH hS => hsp H a ns hlen hbits hO hH hS) fun H e s' => hCX H s₁ e s'
end Cv
set_option maxRecDepth 100000
set_option maxHeartbeats 4000000
set_option autoImplicit false
/-! Engine, part R: from the head's facts to the promise of the law's def. -/
namespace Cv
open PySem PySem.Spec L2 PyProof.Rows
/-- a def: its name, its text, its slots, its parameters, its meaning -/
structure FnI where
  name : String
  st : Stmt
  N : List Str
  ps : List Str
  fd : FD
  /-- makes it lambdas, for _law_told? -/
  lam : Option Bool
def FnI.defD (f : FnI) : He.DefD := ⟨(Str.ofString f.name, none), Str.ofString f.name, Str.ofString f.name, defArgs f.st, defBody f.st, defScope f.st, [], []⟩
def FnBind (x qual : Str) (params : Arguments) (body : List Stmt) (scope : Scope) (ps : List Str) : Prop := ∀ (kV doc pm : Value) (an : Option Addr) (cdv ct : Value) (us : List Value), us.length = ps.length → bindArgs (PySem.W.fnOf x qual params body scope .none kV doc pm an cdv ct) ⟨us, []⟩ = pure (ps.zip us)
structure FnGood (cs : Sta) (rz : List String) (f : FnI) : Prop where
  sc : FnScope f.N f.ps (defScope f.st)
  ln : f.N.length = f.fd.ns
  lp : f.ps.length = f.fd.np
  chk : chkSs f.N cs rz (defScope f.st) f.fd.body (defBody f.st) = true
  bd : FnBind (Str.ofString f.name) (Str.ofString f.name) (defArgs f.st) (defBody f.st) (defScope f.st) f.ps
def tabOf (Fs : List FnI) : Tab := Fs.map fun f => (f.name, f.fd)
def cFa : String × D → He.Fa
  | (x, .int i) => .int (Str.ofString x) i
  | (x, .str z) => .str (Str.ofString x) z
  | (x, _) => .keep (Str.ofString x)
def cOk : String × D → Bool
  | (_, .int _) => true
  | (_, .str z) => PyData.strOk z
  | _ => false
def faOf (Fs : List FnI) (cs : List (String × D)) (rz : List String) : List He.Fa :=
  Fs.map (fun f => .glo (Str.ofString f.name)) ++ (bltTab.map (fun p => .free (Str.ofString p.1)) ++ (cs.map cFa ++ (rz.map (fun c => .glo (Str.ofString c)) ++ rz.map (fun c => .exc (Str.ofString c)))))
/-- what the head tells -/
structure Says (fa : List He.Fa) (fn : List He.DefD) (K : PySem.W.Frag) : Prop where
  facts : ∀ {f : He.Fa}, f ∈ fa → f.ok K = true
  defs : ∀ {d : He.DefD}, d ∈ fn → ∃ fd, FunD K d.name d.qual d.params d.body d.scope (d.dvs K) (d.kws K) (He.fAd K d.at_) fd
theorem says_of {fa : List He.Fa} {fn : List He.DefD} {K : PySem.W.Frag} (c : He.SaysD fa fn K) : Says fa fn K := ⟨fun h => c.facts h, fun h => c.defs h⟩
theorem Says.l {fa fb : List He.Fa} {fn gn : List He.DefD} {K : PySem.W.Frag} (c : Says (fa ++ fb) (fn ++ gn) K) : Says fa fn K := ⟨fun h => c.facts (List.mem_append_left _ h), fun h => c.defs (List.mem_append_left _ h)⟩
theorem Says.r {fa fb : List He.Fa} {fn gn : List He.DefD} {K : PySem.W.Frag} (c : Says (fa ++ fb) (fn ++ gn) K) : Says fb gn K := ⟨fun h => c.facts (List.mem_append_right _ h), fun h => c.defs (List.mem_append_right _ h)⟩
theorem tab_look : ∀ {Fs : List FnI} {f : FnI}, (Fs.map (·.name)).Nodup → f ∈ Fs → (tabOf Fs).lookup f.name = some f.fd
  | [], _, _, h => by cases h
  | g :: Fs, f, nd, h => by
    simp only [List.map_cons, List.nodup_cons] at nd
    unfold tabOf
    rw [List.map_cons, List.lookup_cons]
    rcases List.mem_cons.mp h with rfl | h
    · rw [beq_self_eq_true]
    · have : (f.name == g.name) = false := by
        cases q : f.name == g.name with
        | false => rfl
        | true =>
          have := eq_of_beq q
          exact absurd (this ▸ List.mem_map_of_mem (f := (·.name)) h) nd.1
      rw [this]
      exact tab_look nd.2 h
theorem look_mem {α : Type} : ∀ {l : List (String × α)} {x : String} {d : α}, l.lookup x = some d → (x, d) ∈ l
  | [], _, _, h => by cases h
  | (y, e) :: l, x, d, h => by
    rw [List.lookup_cons] at h
    split at h
    · rename_i q
      have := eq_of_beq q
      cases h
      subst this
      exact List.mem_cons_self
    · exact List.mem_cons_of_mem _ (look_mem h)
section
variable {Fs : List FnI} {cs : List (String × D)} {rz : List String} {P : Program} {w : World} {K : PySem.W.Frag} {mg : Str → Option Value} {base h : Heap}
/-- the name of the lambdas that f makes -/
def lamQ (f : FnI) : Str := Str.ofString f.name ++ ".<locals>." ++ "<lambda>"
variable [TabC]
/-- f's code object and its table, if f makes lambdas -/
def MkF (base : Heap) (mg : Str → Option Value) (K : PySem.W.Frag) (f : FnI) : Prop := ∃ P, LamX.TabB base mg (He.codeOf K (Str.ofString f.name, none)) P ∧ (P, lamQ f) ∈ TabC.T ∧ ∀ p ∈ TabC.T, p.1 = P → p.2 = lamQ f
theorem facts_ok (X : K.In h) (G : h.Ns mainGlobals mg) (c : Says (faOf Fs cs rz) (Fs.map FnI.defD) K) (nd : (Fs.map (·.name)).Nodup) (hc : cs.all cOk = true) (good : ∀ f ∈ Fs, FnGood ⟨cs, Fs.map (·.name), f.lam⟩ rz f)
    (lx : ∀ f ∈ Fs, ∀ told, f.lam = some told → LamFx K mg told) (mk : ∀ f ∈ Fs, ∀ told, f.lam = some told → MkF base mg K f) :
    ∀ (n : Nat) (f : FnI), f ∈ Fs → (∀ m, Facts (tabOf Fs) ⟨cs, Fs.map (·.name), f.lam⟩ rz P w K mg base m) ∧ ∀ Y : Cx, Y.K = K → Y.base = base → Y.mg = mg → CodeAt K (He.ga K (Str.ofString f.name)) Y.env.code → Y.env.qual = Str.ofString f.name ++ ".<locals>." → ∀ told, f.lam = some told → ∃ c P, Mkr Y c P := by
  have bl : ∀ p ∈ bltTab, mg (Str.ofString p.1) = none := fun p hp => He.free_ok X G (c.facts (by
    unfold faOf
    exact List.mem_append_right _ (List.mem_append_left _ (List.mem_map_of_mem (f := fun p : String × Value => He.Fa.free (Str.ofString p.1)) hp))))
  have cst : ∀ x d, cs.lookup x = some d → ∃ u v, mg (Str.ofString x) = some u ∧ RelV v u ∧ ∀ F H, Rel K F H v d := fun x d e => by
    have hm := look_mem e
    have hf : (cFa (x, d)).ok K = true := c.facts (by
      unfold faOf
      exact List.mem_append_right _ (List.mem_append_right _ (List.mem_append_left _ (List.mem_map_of_mem (f := cFa) hm))))
    have ho := List.all_eq_true.mp hc _ hm
    cases d with
    | int i =>
      obtain ⟨t, e⟩ := He.int_ok X G hf
      exact ⟨_, .int i, e, ⟨t, rfl⟩, fun F H => .int i⟩
    | str z =>
      obtain ⟨t, e⟩ := He.str_ok X G hf
      exact ⟨_, .str z, e, ⟨t, rfl⟩, fun F H => .str z ho⟩
    | _ => cases ho
  have rzk : ∀ c ∈ rz, ∃ Ca, mg (Str.ofString c) = some (.ref Ca) ∧ RzOk K Ca := fun x hx => by
    have g := He.glo_ok X G (c.facts (f := .glo (Str.ofString x)) (by
      unfold faOf
      exact List.mem_append_right _ (List.mem_append_right _ (List.mem_append_right _ (List.mem_append_left _ (List.mem_map_of_mem (f := fun c => He.Fa.glo (Str.ofString c)) hx))))))
    have e := He.exc_ok (c.facts (f := .exc (Str.ofString x)) (by
      unfold faOf
      exact List.mem_append_right _ (List.mem_append_right _ (List.mem_append_right _ (List.mem_append_right _ (List.mem_map_of_mem (f := fun c => He.Fa.exc (Str.ofString c)) hx))))))
    exact ⟨_, g, e.1, e.2.1, e.2.2.1, e.2.2.2⟩
  have adr : ∀ f, f ∈ Fs.map (·.name) → mg (Str.ofString f) = some (.ref (He.ga K (Str.ofString f))) := fun f hf => by
    obtain ⟨fi, hfi, rfl⟩ := List.mem_map.mp hf
    exact He.glo_ok X G (c.facts (by
      unfold faOf
      exact List.mem_append_left _ (List.mem_map_of_mem (f := fun f : FnI => He.Fa.glo (Str.ofString f.name)) hfi)))
  have dom : ∀ f, ioOf (tabOf Fs) f = false → f ∈ Fs.map (·.name) := fun f hf => by
    unfold ioOf at hf
    cases e : (tabOf Fs).lookup f with
    | none => rw [e] at hf; cases hf
    | some fd =>
      have := look_mem e
      unfold tabOf at this
      obtain ⟨g, hg, e2⟩ := List.mem_map.mp this
      cases e2
      exact List.mem_map.mpr ⟨g, hg, rfl⟩
  have mkY : ∀ f ∈ Fs, ∀ Y : Cx, Y.K = K → Y.base = base → Y.mg = mg → CodeAt K (He.ga K (Str.ofString f.name)) Y.env.code → Y.env.qual = Str.ofString f.name ++ ".<locals>." → ∀ told, f.lam = some told → ∃ c P, Mkr Y c P := fun f hf Y e1 e2 e3 hcv hq told hl => by
    obtain ⟨P, m1, m2, m3⟩ := mk f hf told hl
    obtain ⟨oc, od, osl, fd, q, lk, ec, hci⟩ := hcv
    obtain ⟨ca, hca⟩ := He.codeIn_ref hci
    have hco : He.codeOf K (Str.ofString f.name, none) = ca := He.codeOf_eq (p := (Str.ofString f.name, none)) lk (by rw [ec, hca])
    rw [hco] at m1
    refine ⟨ca, P, ⟨by rw [e2, e3]; exact m1, hca, by rw [hq]; exact m2, fun p hp z => by rw [hq]; exact m3 p hp z⟩⟩
  have fnAll : ∀ (n : Nat) (f : String), f ∈ Fs.map (·.name) → FnSim P w K mg base n f (callF (tabOf Fs) n f) := fun n => by
    induction n using Nat.strongRecOn with
    | _ n ih =>
      intro f hf
      obtain ⟨fi, hfi, rfl⟩ := List.mem_map.mp hf
      obtain ⟨fd, FD⟩ := c.defs (List.mem_map_of_mem (f := FnI.defD) hfi)
      have gd := good fi hfi
      refine ⟨_, fd, fi.ps, He.glo_ok X G (c.facts ?_), FD.kp, FunD.bindsN FD gd.bd, ?_⟩
      · unfold faOf
        exact List.mem_append_left _ (List.mem_map_of_mem (f := fun f : FnI => He.Fa.glo (Str.ofString f.name)) hfi)
      · cases n with
        | zero => exact ⟨fun vs H Q E ⟨_, _, _, z⟩ => z.elim, fun A outer s H args us vs Q E _ _ _ _ ⟨_, _, _, z⟩ => z.elim⟩
        | succ n =>
          have e : callF (tabOf Fs) (n + 1) fi.name = runF (calT (tabOf Fs) n) fi.fd := by
            funext args
            rw [callF_succ]
            simp only [tab_look nd hfi]
          rw [e]
          refine fn_sim FD gd.sc gd.ln gd.lp fun Y h1 h2 h3 h4 h5 b hcv hq => ?_
          have fx : Facts (tabOf Fs) ⟨cs, Fs.map (·.name), fi.lam⟩ rz P w K mg base n := ⟨fun f hf => ih n (by omega) f hf, fun f hf => ih (n - 2) (by omega) f hf, lx fi hfi, bl, cst, rzk, adr, dom⟩
          have mY := mkY fi hfi Y h3 h5 h4 hcv hq
          subst h1; subst h2; subst h3; subst h4; subst h5
          exact chkSs_ok ⟨⟨b.names, gd.sc.nd, b.scope, b.calm, b.room, fx, mY⟩, b.fn, b.po, gd.sc.kind⟩ _ _ gd.chk
  exact fun n f hf => ⟨fun m => ⟨fun g hg => fnAll m g hg, fun g hg => fnAll (m - 2) g hg, lx f hf, bl, cst, rzk, adr, dom⟩, mkY f hf⟩
theorem fn_nox {k : Nat} {f : Addr} {fd : FuncData} {ps : List Str} {sp : Sp} (F : FnOk P w K mg base (L2N.CX P w) k f fd ps sp) : FnOk P w K mg base CX0 k f fd ps (fun vs H Q _ => sp vs H Q fun _ _ _ => False) := by
  refine ⟨fun vs H Q E h => F.len _ _ _ _ h, fun A outer s H args us vs Q E hr he hb hv hs => codeAny_mono (F.run A outer s H args us vs Q _ hr he hb hv hs) fun r s' g => ?_⟩
  cases r with
  | ok c => cases c <;> exact g
  | error e =>
    obtain ⟨a, B, H', cls, d, _, _, _, _, _, _, _, z⟩ := g
    exact z
/-- the tables of the defs that make lambdas -/
def tabsOf (K : PySem.W.Frag) (Fs : List FnI) : List (Addr × Str) := (Fs.filter (·.lam.isSome)).map fun f => ((He.cT K (Str.ofString f.name, none)).2, lamQ f)
def tfOf (Fs : List FnI) : List He.Defn := (Fs.filter (·.lam.isSome)).map fun f => (Str.ofString f.name, none)
end
section
variable {Fs : List FnI} {cs : List (String × D)} {rz : List String} {P : Program} {w : World} {K : PySem.W.Frag} {mg : Str → Option Value} {base h : Heap}
/-- the law's def, from the plain theorem about its meaning -/
theorem law_ok {n : Nat} {f : FnI} {x : Str} {y : String} {fa : Addr} (X : K.In h) (G : h.Ns mainGlobals mg) (c : Says (faOf Fs cs rz) (Fs.map FnI.defD) K) (nd : (Fs.map (·.name)).Nodup) (hc : cs.all cOk = true) (good : ∀ f ∈ Fs, FnGood ⟨cs, Fs.map (·.name), f.lam⟩ rz f)
    (lx : ∀ f ∈ Fs, ∀ told, f.lam = some told → LamFx K mg told) (inj : ((tabsOf K Fs).map (·.1)).Nodup)
    (hf : f ∈ Fs) (hy : f.name = y) (hp : f.ps = [x]) (hfa : mg (Str.ofString y) = some (.ref fa))
    (law : ∀ ns : List Int, ns.length ≤ 63 → (∀ z ∈ ns, Builtin.Int.intBits z ≤ 1048576) → ∃ ds, callF (tabOf Fs) (n + 1) y [.val (.scr ns)] = .ok (.val (.bl true), ds)) :
    ∃ (fd : FuncData) (sp : Sp), (∀ (s : Shared) (v : Value), BindsTo s fd ⟨[v], []⟩ [(x, v)]) ∧
      (∀ (H : Hp) (a : Addr) (ns : List Int), ns.length ≤ 63 → (∀ z ∈ ns, Builtin.Int.intBits z ≤ 1048576) → OnlyT H → (∀ p ∈ (tfOf Fs).map (He.cT K), H p.2 = some (.tbl #[])) → SqL K H a (ns.map V.int) → sp [.ref a] H (fun v _ => v = .bl true) fun _ _ _ => False) ∧
      ∀ base : Heap, K.In base → base.Ns mainGlobals mg → (∀ p ∈ (tfOf Fs).map (He.cT K), LamX.TabB base mg p.1 p.2) → FnOk P w K mg base CX0 (n + 1) fa fd [x] sp := by
  subst hy
  letI : TabC := ⟨tabsOf K Fs⟩
  obtain ⟨fd, FD⟩ := c.defs (List.mem_map_of_mem (f := FnI.defD) hf)
  have e := hfa.symm.trans (He.glo_ok X G (c.facts (f := .glo (Str.ofString f.name)) (by
    unfold faOf
    exact List.mem_append_left _ (List.mem_map_of_mem (f := fun f : FnI => He.Fa.glo (Str.ofString f.name)) hf))))
  cases e
  have b := FunD.bindsA FD (good f hf).bd
  rw [hp] at b
  refine ⟨fd, fun vs H Q _ => spF K mg (callF (tabOf Fs) (n + 1) f.name) vs H Q fun _ _ _ => False, fun s v => b s [v] rfl, fun H a ns hl hbits ho hH hS => ?_, fun base _ _ TB => ?_⟩
  · obtain ⟨ds, e⟩ := law ns hl hbits
    have sf : SqF K H a (ns.map V.int) := by
      rcases hS with (q | ⟨o, q⟩) | q
      · rcases ho a with z | ⟨ps, z⟩ | ⟨o, xs, z⟩
        · rw [z] at q; cases q
        · rw [z] at q; cases q
        · rw [z] at q; cases q
      · exact .inl ⟨o, q⟩
      · exact .inr q
    have tb : TbOk H := fun p hp => by
      obtain ⟨g, hg, rfl⟩ := List.mem_map.mp hp
      exact LamX.TabS.nil (hH _ (List.mem_map_of_mem (List.mem_map_of_mem (f := fun f : FnI => ((Str.ofString f.name, none) : He.Defn)) hg)))
    refine ⟨fun _ => False, [.val (.scr ns)], ⟨rfl, fun i x e => ?_, fun i j x y ds es b h1 h2 => ?_, fun _ f => f.elim, tb⟩, ?_⟩
    · cases i with
      | zero => cases e; exact ⟨_, rfl, Rel.scr sf⟩
      | succ i => cases e
    · cases i with
      | zero => cases h1; cases h2
      | succ i => cases h1
    · rw [e]
      intro F' v H' q
      have := q.ret
      cases (show Rel K F' H' v (.bl true) from this)
      rfl
  · have gd := good f hf
    have e : callF (tabOf Fs) (n + 1) f.name = runF (calT (tabOf Fs) n) f.fd := by
      funext args
      rw [callF_succ]
      simp only [tab_look nd hf]
    rw [e, ← hp]
    refine fn_nox ?_
    have mk : ∀ f ∈ Fs, ∀ told, f.lam = some told → MkF base mg K f := fun g hg told hl => by
      have hgm : g ∈ Fs.filter (·.lam.isSome) := List.mem_filter.mpr ⟨hg, by rw [hl]; rfl⟩
      refine ⟨(He.cT K (Str.ofString g.name, none)).2, TB _ (List.mem_map_of_mem (List.mem_map_of_mem (f := fun f : FnI => ((Str.ofString f.name, none) : He.Defn)) hgm)), List.mem_map_of_mem (f := fun f : FnI => ((He.cT K (Str.ofString f.name, none)).2, lamQ f)) hgm, fun p hp z => ?_⟩
      have key : ∀ (l : List (Addr × Str)) (q r : Addr × Str), (l.map (·.1)).Nodup → q ∈ l → r ∈ l → q.1 = r.1 → q = r := fun l => by
        induction l with
        | nil => intro q r _ h; cases h
        | cons y l ih =>
          intro q r hn h1 h2 he
          simp only [List.map_cons, List.nodup_cons] at hn
          rcases List.mem_cons.mp h1 with k1 | k1 <;> rcases List.mem_cons.mp h2 with k2 | k2
          · rw [k1, k2]
          · exact absurd (by rw [← k1, he]; exact List.mem_map_of_mem (f := (·.1)) k2) hn.1
          · exact absurd (by rw [← k2, ← he]; exact List.mem_map_of_mem (f := (·.1)) k1) hn.1
          · exact ih q r hn.2 k1 k2 he
      have := key (tabsOf K Fs) p _ inj hp (List.mem_map_of_mem (f := fun f : FnI => ((He.cT K (Str.ofString f.name, none)).2, lamQ f)) hgm) z
      rw [this]
    obtain ⟨fx, mY⟩ := facts_ok (P := P) (w := w) (base := base) X G c nd hc good lx mk n f hf
    refine fn_sim FD gd.sc gd.ln gd.lp fun Y h1 h2 h3 h4 h5 b hcv hq => ?_
    have mY1 := mY Y h3 h5 h4 hcv hq
    have fx1 := fx n
    clear mY fx
    subst h1; subst h2; subst h3; subst h4; subst h5
    exact chkSs_ok ⟨⟨b.names, gd.sc.nd, b.scope, b.calm, b.room, fx1, mY1⟩, b.fn, b.po, gd.sc.kind⟩ _ _ gd.chk
end
/-! ### the defs that catch refusals -/
section
variable {K : PySem.W.Frag} {mg : Str → Option Value} {h : Heap}
def clsD (st : Stmt) : He.DefD := ⟨(Str.ofString "_law_classes", none), Str.ofString "_law_classes", Str.ofString "_law_classes", defArgs st, defBody st, defScope st, [], []⟩
def lamD (told : Bool) (st : Stmt) : He.DefD := ⟨(Str.ofString (lamName told), none), Str.ofString (lamName told), Str.ofString (lamName told), defArgs st, defBody st, defScope st, [], []⟩
def faLam (told : Bool) : List He.Fa := (clsNames ++ ["CurveError", "_law_classes", lamName told]).map (fun d => .glo (Str.ofString d)) ++ ["isinstance", "enumerate", "ValueError", "len"].map (fun d => .free (Str.ofString d))
theorem lamFx_of {told : Bool} {s1 s2 : Stmt} {P1 P2 : Nat → Pos} (X : K.In h) (G : h.Ns mainGlobals mg) (c : Says (faLam told) [clsD s1, lamD told s2] K) (ek : clsNames.all (exKB K) = true)
    (b1 : defBody s1 = bClasses P1) (c1 : defScope s1 = sClasses) (d1 : FnBind (Str.ofString "_law_classes") (Str.ofString "_law_classes") (defArgs s1) (defBody s1) (defScope s1) [Str.ofString "_law_e"])
    (b2 : defBody s2 = lamB told P2) (c2 : defScope s2 = lamSc told) (d2 : FnBind (Str.ofString (lamName told)) (Str.ofString (lamName told)) (defArgs s2) (defBody s2) (defScope s2) [Str.ofString "_law_call"]) (hP : ((P2 13).line == (P2 24).line) = true) : LamFx K mg told := by
  have glo : ∀ d, d ∈ clsNames ++ ["CurveError", "_law_classes", lamName told] → mg (Str.ofString d) = some (.ref (He.ga K (Str.ofString d))) := fun d hd => He.glo_ok X G (c.facts (List.mem_append_left _ (List.mem_map_of_mem (f := fun d => He.Fa.glo (Str.ofString d)) hd)))
  have fre : ∀ d, d ∈ ["isinstance", "enumerate", "ValueError", "len"] → mg (Str.ofString d) = none := fun d hd => He.free_ok X G (c.facts (List.mem_append_right _ (List.mem_map_of_mem (f := fun d => He.Fa.free (Str.ofString d)) hd)))
  obtain ⟨f1, F1⟩ := c.defs (d := clsD s1) (by simp)
  obtain ⟨f2, F2⟩ := c.defs (d := lamD told s2) (by simp)
  have B1 := FunD.bindsN F1 d1
  have B2 := FunD.bindsN F2 d2
  obtain ⟨oc, od, dV, kV, doc, pm, an, cdv, ct, osl, rfl, lk, hcd, _, _⟩ := F1.ex
  obtain ⟨oc', od', dV', kV', doc', pm', an', cdv', ct', osl', rfl, lk', hcd', _, _⟩ := F2.ex
  have k1 := F1.kp
  have k2 := F2.kp
  simp only [clsD] at lk hcd B1 k1
  simp only [lamD] at lk' hcd' B2 k2
  rw [b1, c1] at lk B1
  rw [b2, c2] at lk' B2
  refine ⟨⟨_, P2, _, _, _, _, _, _, _, _, _, _, _, glo _ (by simp), k2, lk', hcd', B2, hP⟩, ⟨_, P1, _, _, _, _, _, _, _, _, _, _, _, glo _ (by simp), k1, lk, hcd, B1⟩, ⟨fun d hd => glo d (List.mem_append_left _ hd), glo _ (by simp), fre _ (by simp), fre _ (by simp), fre _ (by simp), fre _ (by simp)⟩, fun cc j hj => exKB_ok (List.all_eq_true.mp ek cc (place_mem hj))⟩
/-- what is looked at besides -/
def exB (Fs : List FnI) (K : PySem.W.Frag) : Bool := clsNames.all (exKB K) && decide ((tabsOf K Fs).map (·.1)).Nodup
end
end Cv
set_option maxRecDepth 100000
set_option maxHeartbeats 1000000
/-! Engine, part X: a second meaning of the language, by values alone; frames are functions. Who owns a list is looked at ahead of the run (part Y). -/
namespace Cv
abbrev Fm := Nat → Option D
def up (s : Fm) (i : Nat) (d : D) : Fm := fun j => if j = i then some d else s j
def oD : Opd → D
  | .val d => d
  | .fresh ds => .lst ds
  | .slot _ => .non
def lstAt (s : Fm) (i : Nat) : Option (List D) := match s i with
  | some (.lst ds) => some ds
  | _ => none
def upNs (s : Fm) : List Nat → List D → Option Fm
  | [], [] => some s
  | i :: is, d :: ds => upNs (up s i d) is ds
  | _, _ => none
def upT (s : Fm) : Tgt → D → Option Fm
  | .name i, d => some (up s i d)
  | .tup is, .tup ds => upNs s is ds
  | .tup is, .lst ds => upNs s is ds
  | _, _ => none
def backF (s0 s : Fm) (is : List Nat) : Fm := fun j => if is.contains j then s0 j else s j
inductive Ou where
  | next (s : Fm) | ret (d : D) (s : Fm) | brk (s : Fm) | cont (s : Fm)
def forV (set : Fm → D → Option Fm) (body : Fm → R Ou) : List D → Fm → R Ou
  | [], s => .ok (.next s)
  | d :: ds, s => (R.ofO (set s d)).bind fun s1 => (body s1).bind fun o => match o with
    | .next s2 => forV set body ds s2
    | .cont s2 => forV set body ds s2
    | .brk s2 => .ok (.next s2)
    | .ret v s2 => .ok (.ret v s2)
def compV (set : Fm → D → Option Fm) (c : Fm → R (Bool × Fm)) (elt : Fm → R (D × Fm)) : List D → List D → Fm → R (List D × Fm)
  | [], acc, s => .ok (acc, s)
  | d :: ds, acc, s => (R.ofO (set s d)).bind fun s1 => (noX (c s1)).bind fun b =>
    if b.1 then (noX (elt b.2)).bind fun r => compV set c elt ds (acc ++ [r.1]) r.2 else compV set c elt ds acc b.2
def whileV (c : Fm → R (Bool × Fm)) (body : Fm → R Ou) : Nat → Fm → R Ou
  | 0, _ => .bad
  | n + 1, s => (c s).bind fun b => if b.1 then (body b.2).bind fun o => match o with
    | .next s2 => whileV c body n s2
    | .cont s2 => whileV c body n s2
    | .brk s2 => .ok (.next s2)
    | .ret v s2 => .ok (.ret v s2) else .ok (.next b.2)
def itV (k : ItK) (m1 m2 : Fm → R (D × Fm)) (s : Fm) : R (List D × Fm) := match k with
  | .rng2 => (m1 s).bind fun x => (m2 x.2).bind fun y => (R.ofO (itemsD .rng2 x.1 y.1)).bind fun ds => .ok (ds, y.2)
  | .zip => (m1 s).bind fun x => (m2 x.2).bind fun y => (R.ofO (itemsD .zip x.1 y.1)).bind fun ds => .ok (ds, y.2)
  | k => (m1 s).bind fun x => (R.ofO (itemsD k x.1 .non)).bind fun ds => .ok (ds, x.2)
def tstV (m : Fm → R (D × Fm)) (s : Fm) : R (Bool × Fm) := (m s).bind fun x => (R.ofO (truD x.1)).bind fun t => .ok (t, x.2)
structure Ca where
  io : String → Bool
  call : String → List D → R (D × List D)
  lam : String → List D → R (D × List D)
def calleeV (s : Fm) : IE → Option String
  | .fv f => some f
  | .var i => (match s i with
    | some (.fn f) => some f
    | _ => none)
  | _ => none
def lamV (told : Bool) (r : R (D × List D)) (s : Fm) : R (D × Fm) := match r with
  | .ok q => .ok (if told then q.1 else .lst [], s)
  | .exn c => (match placeOf c with
    | some j => .ok (.lst [.int (j : Nat)], s)
    | none => .bad)
  | .bad => .bad
mutual
def evE (C : Ca) : IE → Fm → R (D × Fm)
  | .var i, s => match s i with
    | some d => .ok (d, s)
    | none => .bad
  | .cst d, s => .ok (d, s)
  | .glob _ d, s => .ok (d, s)
  | .tup es, s => (evEs C es s).bind fun r => .ok (.tup r.1, r.2)
  | .lst es, s => (evEs C es s).bind fun r => .ok (.lst r.1, r.2)
  | .bin op a b, s => (evE C a s).bind fun x => (evE C b x.2).bind fun y => (R.ofO (binD op x.1 y.1)).bind fun r => .ok (oD r, y.2)
  | .neg a, s => (evE C a s).bind fun x => match x.1 with
    | .int i => .ok (.int (-i), x.2)
    | _ => .bad
  | .cmp op a b, s => (evE C a s).bind fun x => (evE C b x.2).bind fun y => (R.ofO (cmpD op x.1 y.1)).bind fun r => .ok (.bl r, y.2)
  | .chain o1 o2 a b c, s => (evE C a s).bind fun x => (evE C b x.2).bind fun y => (R.ofO (cmpD o1 x.1 y.1)).bind fun r =>
      if r then (evE C c y.2).bind fun z => (R.ofO (cmpD o2 y.1 z.1)).bind fun r => .ok (.bl r, z.2) else .ok (.bl false, y.2)
  | .and_ a b, s => (evE C a s).bind fun x => (R.ofO (truD x.1)).bind fun t => if t then evE C b x.2 else .ok (x.1, x.2)
  | .or_ a b, s => (evE C a s).bind fun x => (R.ofO (truD x.1)).bind fun t => if t then .ok (x.1, x.2) else evE C b x.2
  | .not_ a, s => (evE C a s).bind fun x => (R.ofO (truD x.1)).bind fun t => .ok (.bl (!t), x.2)
  | .ite c a b, s => (evE C c s).bind fun x => (R.ofO (truD x.1)).bind fun t => if t then evE C a x.2 else evE C b x.2
  | .idx a b, s => (evE C a s).bind fun x => (evE C b x.2).bind fun y => (R.ofO (idxD x.1 y.1)).bind fun r => .ok (r, y.2)
  | .slc a l h lo hi, s => (evE C a s).bind fun x => (if l then evE C lo x.2 else .ok (.non, x.2)).bind fun y => (R.ofO (optI l y.1)).bind fun i =>
      (if h then evE C hi y.2 else .ok (.non, y.2)).bind fun z => (R.ofO (optI h z.1)).bind fun j => (R.ofO (slcD i j x.1)).bind fun r => .ok (oD r, z.2)
  | .isi a ty, s => (evE C a s).bind fun x => (R.ofO (isiD ty x.1)).bind fun r => .ok (.bl r, x.2)
  | .call f es, s => if C.io f then .bad else (evEs C es s).bind fun r => (C.call f r.1).bind fun q => .ok (q.1, r.2)
  | .callIo f i es, s => if C.io f then (evEs C es s).bind fun r => (R.ofO (lstAt r.2 i)).bind fun ds => (C.call f (.lst ds :: r.1)).bind fun q => .ok (q.1, up r.2 i (.lst q.2)) else .bad
  | .fv f, s => .ok (.fn f, s)
  | .callL i es, s => match s i with
    | some (.fn f) => if C.io f then .bad else (evEs C es s).bind fun r => (C.call f r.1).bind fun q => .ok (q.1, r.2)
    | _ => .bad
  | .stp a lo st, s => (evE C a s).bind fun x => (R.ofO (stpD lo st x.1)).bind fun r => .ok (oD r, x.2)
  | .op1 o a, s => (evE C a s).bind fun x => (R.ofO (op1D o x.1)).bind fun r => .ok (oD r, x.2)
  | .lam told g es, s => if es.all isArg then (match calleeV s g with
    | some f => if C.io f then .bad else (noX (evEs C es s)).bind fun r => lamV told (C.lam f r.1) r.2
    | none => .bad) else .bad
  | .blt f es, s => (evEs C es s).bind fun r => (R.ofO (bltD f r.1)).bind fun q => .ok (oD q, r.2)
  | .rngOf tp two a b, s => (evE C a s).bind fun x => (if two then evE C b x.2 else .ok (x.1, x.2)).bind fun y =>
      (R.ofO (itemsD (if two then .rng2 else .rng1) x.1 y.1)).bind fun ds => .ok (if tp then .tup ds else .lst ds, y.2)
  | .comp k e1 e2 tg hasIf c elt, s =>
      (itV k (fun s => evE C e1 s) (fun s => evE C e2 s) s).bind fun it =>
      (compV (fun s d => upT s tg d) (fun s => if hasIf then tstV (fun s => evE C c s) s else .ok (true, s)) (fun s => evE C elt s) it.1 [] it.2).bind fun r => .ok (.lst r.1, backF it.2 r.2 (tgtSlots tg))
  | .meth m i es, s => (evEs C es s).bind fun q => (R.ofO (lstAt q.2 i)).bind fun ds => (R.ofO (methD m ds q.1)).bind fun w => .ok (w.1, up q.2 i (.lst w.2))
  | .extend i e, s => (evE C e s).bind fun x => (R.ofO (lstAt x.2 i)).bind fun ds => match x.1 with
    | .lst zs => if ds.length + zs.length ≤ lim then .ok (.non, up x.2 i (.lst (ds ++ zs))) else .bad
    | _ => .bad
def evEs (C : Ca) : List IE → Fm → R (List D × Fm)
  | [], s => .ok ([], s)
  | e :: es, s => (evE C e s).bind fun x => (evEs C es x.2).bind fun r => .ok (x.1 :: r.1, r.2)
end
mutual
def evS (C : Ca) : IS → Fm → R Ou
  | .asg tg e, s => (evE C e s).bind fun x => (R.ofO (upT x.2 tg x.1)).bind fun s1 => .ok (.next s1)
  | .par i j a b, s => if i = j then .bad else (evE C a s).bind fun x => (evE C b x.2).bind fun y => .ok (.next (up (up y.2 i x.1) j y.1))
  | .sub i ix e, s => (evE C e s).bind fun x => (evE C ix x.2).bind fun y => (R.ofO (lstAt y.2 i)).bind fun ds => match y.1 with
    | .int k => (R.ofO (L2.ixN ds.length k)).bind fun j => .ok (.next (up y.2 i (.lst (ds.set j x.1))))
    | _ => .bad
  | .expr e, s => (evE C e s).bind fun x => .ok (.next x.2)
  | .ret e, s => (evE C e s).bind fun x => .ok (.ret x.1 x.2)
  | .retN, s => .ok (.ret .non s)
  | .ife c a b, s => (tstV (fun s => evE C c s) s).bind fun t => if t.1 then evSs C a t.2 else evSs C b t.2
  | .for_ k e1 e2 tg body, s => (itV k (fun s => evE C e1 s) (fun s => evE C e2 s) s).bind fun it => forV (fun s d => upT s tg d) (fun s => evSs C body s) it.1 it.2
  | .whl c body, s => whileV (fun s => tstV (fun s => evE C c s) s) (fun s => evSs C body s) wfuel s
  | .pass, s => .ok (.next s)
  | .cont, s => .ok (.cont s)
  | .brk, s => .ok (.brk s)
  | .raise c, _ => .exn c
def evSs (C : Ca) : List IS → Fm → R Ou
  | [], s => .ok (.next s)
  | st :: r, s => (evS C st s).bind fun o => match o with
    | .next s1 => evSs C r s1
    | o => .ok o
end
def stF (args : List D) : Fm := fun i => args[i]?
def leaveV (io : Bool) (d : D) (s : Fm) : R (D × List D) := if io then (R.ofO (lstAt s 0)).bind fun ds => .ok (d, ds) else .ok (d, [])
def argsV (io : Bool) : List D → Bool
  | .lst _ :: _ => true
  | _ => !io
def runV (C : Ca) (fd : FD) (args : List D) : R (D × List D) := if args.length = fd.np ∧ argsV fd.io args = true then
  (evSs C fd.body (stF args)).bind fun o => match o with
    | .ret d s => leaveV fd.io d s
    | .next s => leaveV fd.io .non s
    | _ => .bad else .bad
def callV (T : Tab) : Nat → String → List D → R (D × List D)
  | 0, _, _ => .bad
  | 1, f, args => (match T.lookup f with
    | some fd => runV ⟨ioOf T, callV T 0, callV T 0⟩ fd args
    | none => .bad)
  | 2, f, args => (match T.lookup f with
    | some fd => runV ⟨ioOf T, callV T 1, callV T 0⟩ fd args
    | none => .bad)
  | n + 3, f, args => match T.lookup f with
    | some fd => runV ⟨ioOf T, callV T (n + 2), callV T n⟩ fd args
    | none => .bad
abbrev caT (T : Tab) (n : Nat) : Ca := ⟨ioOf T, callV T n, callV T (n - 2)⟩
theorem callV_succ (T : Tab) (n : Nat) (f : String) (args : List D) : callV T (n + 1) f args = match T.lookup f with
    | some fd => runV (caT T n) fd args
    | none => .bad := by
  match n with
  | 0 => simp only [callV] <;> rfl
  | 1 => simp only [callV] <;> rfl
  | n + 2 => simp only [callV] <;> rfl
end Cv
set_option maxRecDepth 100000
set_option maxHeartbeats 1000000
set_option autoImplicit false
/-! Engine, part Y: who owns which list, looked at ahead of the run; then both meanings agree. -/
namespace Cv
inductive St where | own | val | unk | iot | top
deriving DecidableEq, BEq, ReflBEq, LawfulBEq
def sgB : St → Option S → Bool
  | .own, some (.own _) => true
  | .val, none => true
  | .val, some (.val _) => true
  | .unk, none => true
  | .unk, some (.val _) => true
  | .unk, some (.own _) => true
  | .iot, some (.io _) => true
  | .top, _ => true
  | _, _ => false
def vS : Option S → Option D
  | none => none
  | some (.val d) => some d
  | some (.own ds) => some (.lst ds)
  | some (.io ds) => some (.lst ds)
abbrev OS := List St
structure VR (n : Nat) (O : OS) (s1 : DEnv) (s2 : Fm) : Prop where
  len : s1.length = n
  lenO : O.length = n
  st : ∀ (i : Nat) (x : Option S) (t : St), s1[i]? = some x → O[i]? = some t → sgB t x = true
  vw : ∀ (i : Nat) (x : Option S), s1[i]? = some x → s2 i = vS x
/-- kinds of operands: a value; a new list; one of both; just the slot i; a value or the slot i; any -/
inductive Kd where | v | f | u | o (i : Nat) | s (i : Nat) | t
deriving DecidableEq
def KR : Kd → Opd → Bool
  | .v, .val _ => true
  | .f, .fresh _ => true
  | .u, .val _ => true
  | .u, .fresh _ => true
  | .o i, .slot j => i == j
  | .s _, .val _ => true
  | .s i, .slot j => i == j
  | .t, _ => true
  | _, _ => false
def clr : Kd → List Nat → Bool
  | .o i, M => !M.contains i
  | .s i, M => !M.contains i
  | .t, M => M.isEmpty
  | _, _ => true
def joinK (a b : Kd) : Kd := if a = b then a else match a, b with
  | .v, .f => .u
  | .v, .u => .u
  | .f, .v => .u
  | .f, .u => .u
  | .u, .v => .u
  | .u, .f => .u
  | .v, .o i => .s i
  | .v, .s i => .s i
  | .o i, .v => .s i
  | .s i, .v => .s i
  | _, _ => .t
theorem joinK_l {a b : Kd} {o : Opd} (h : KR a o = true) : KR (joinK a b) o = true := by
  unfold joinK
  split
  · exact h
  · cases a <;> cases b <;> cases o <;> first | rfl | cases h | exact h
theorem joinK_r {a b : Kd} {o : Opd} (h : KR b o = true) : KR (joinK a b) o = true := by
  unfold joinK
  split
  · rename_i e; rw [e]; exact h
  · cases a <;> cases b <;> cases o <;> first | rfl | cases h | exact h
def meetS (a b : St) : St := if a = b then a else match a, b with
  | .own, .val => .unk
  | .own, .unk => .unk
  | .val, .own => .unk
  | .val, .unk => .unk
  | .unk, .own => .unk
  | .unk, .val => .unk
  | _, _ => .top
theorem meetS_l {a b : St} {x : Option S} (h : sgB a x = true) : sgB (meetS a b) x = true := by
  unfold meetS
  split
  · exact h
  · cases a <;> cases b <;> rcases x with _ | (_ | _ | _) <;> first | rfl | cases h
theorem meetS_r {a b : St} {x : Option S} (h : sgB b x = true) : sgB (meetS a b) x = true := by
  unfold meetS
  split
  · rename_i e; rw [e]; exact h
  · cases a <;> cases b <;> rcases x with _ | (_ | _ | _) <;> first | rfl | cases h
def meet : OS → OS → OS
  | a :: as, b :: bs => meetS a b :: meet as bs
  | _, _ => []
theorem meet_len : ∀ {a b : OS}, a.length = b.length → (meet a b).length = a.length
  | [], [], _ => rfl
  | _ :: as, _ :: bs, h => by simp [meet, meet_len (a := as) (b := bs) (by simpa using h)]
theorem meet_get : ∀ {a b : OS} {i : Nat} {t : St}, (meet a b)[i]? = some t → ∃ x y, a[i]? = some x ∧ b[i]? = some y ∧ t = meetS x y
  | [], _, i, t, h => by simp [meet] at h
  | _ :: _, [], i, t, h => by simp [meet] at h
  | a :: as, b :: bs, 0, t, h => by simp [meet] at h; exact ⟨a, b, rfl, rfl, h.symm⟩
  | a :: as, b :: bs, i + 1, t, h => by
    obtain ⟨x, y, h1, h2, h3⟩ := meet_get (a := as) (b := bs) (i := i) (by simpa [meet] using h)
    exact ⟨x, y, by simpa using h1, by simpa using h2, h3⟩
theorem VR.meetl {n : Nat} {O O' : OS} {s1 : DEnv} {s2 : Fm} (h : VR n O s1 s2) (e : O'.length = n) : VR n (meet O O') s1 s2 :=
  ⟨h.len, by rw [meet_len (by rw [h.lenO, e]), h.lenO], fun i x t h1 h2 => by
    obtain ⟨a, b, e1, e2, rfl⟩ := meet_get h2
    exact meetS_l (h.st i x a h1 e1), h.vw⟩
theorem VR.meetr {n : Nat} {O O' : OS} {s1 : DEnv} {s2 : Fm} (h : VR n O s1 s2) (e : O'.length = n) : VR n (meet O' O) s1 s2 :=
  ⟨h.len, by rw [meet_len (by rw [h.lenO, e]), e], fun i x t h1 h2 => by
    obtain ⟨a, b, e1, e2, rfl⟩ := meet_get h2
    exact meetS_r (h.st i x b h1 e2), h.vw⟩
def leS (a b : St) : Bool := match a, b with
  | .top, _ => true
  | .own, .own => true
  | .val, .val => true
  | .unk, .unk => true
  | .unk, .own => true
  | .unk, .val => true
  | .iot, .iot => true
  | _, _ => false
theorem leS_ok {a b : St} {x : Option S} (h : leS a b = true) (q : sgB b x = true) : sgB a x = true := by
  cases a <;> cases b <;> rcases x with _ | (_ | _ | _) <;> first | rfl | exact q | exact absurd h (by decide) | exact absurd q (by simp [sgB])
def leO : OS → OS → Bool
  | [], [] => true
  | a :: as, b :: bs => leS a b && leO as bs
  | _, _ => false
theorem leO_len : ∀ {a b : OS}, leO a b = true → a.length = b.length
  | [], [], _ => rfl
  | a :: as, b :: bs, h => by
    simp only [leO, Bool.and_eq_true] at h
    simp [leO_len h.2]
theorem leO_get : ∀ {a b : OS} {i : Nat} {t : St}, leO a b = true → a[i]? = some t → ∃ u, b[i]? = some u ∧ leS t u = true
  | [], [], i, t, _, h => by simp at h
  | a :: as, b :: bs, 0, t, q, h => by
    simp only [leO, Bool.and_eq_true] at q
    simp at h
    subst h
    exact ⟨b, rfl, q.1⟩
  | a :: as, b :: bs, i + 1, t, q, h => by
    simp only [leO, Bool.and_eq_true] at q
    obtain ⟨u, h1, h2⟩ := leO_get (i := i) q.2 (by simpa using h)
    exact ⟨u, by simpa using h1, h2⟩
theorem VR.weak {n : Nat} {O O' : OS} {s1 : DEnv} {s2 : Fm} (h : VR n O s1 s2) (e : leO O' O = true) : VR n O' s1 s2 :=
  ⟨h.len, by rw [leO_len e, h.lenO], fun i x t h1 h2 => by
    obtain ⟨u, e1, e2⟩ := leO_get e h2
    exact leS_ok e2 (h.st i x u h1 e1), h.vw⟩
/-! ### outcomes of both -/
def RR {α β : Type} (r2 : R α) (r1 : R β) (P : α → β → Prop) : Prop := match r2 with
  | .ok a => ∃ b, r1 = .ok b ∧ P a b
  | .exn c => r1 = .exn c
  | .bad => True
section
variable {α β γ δ : Type}
theorem RR.bind {r2 : R α} {r1 : R β} {P : α → β → Prop} {f2 : α → R γ} {f1 : β → R δ} {Q : γ → δ → Prop} (h : RR r2 r1 P) (k : ∀ a b, P a b → RR (f2 a) (f1 b) Q) : RR (r2.bind f2) (r1.bind f1) Q := by
  cases r2 with
  | ok a =>
    obtain ⟨b, e, h⟩ := h
    rw [e]
    exact k a b h
  | exn c =>
    have e : r1 = .exn c := h
    rw [e]
    exact (rfl : (R.exn c : R β).bind f1 = .exn c)
  | bad => trivial
theorem RR.l {o : Option α} {r1 : R δ} {f2 : α → R γ} {Q : γ → δ → Prop} (k : ∀ a, o = some a → RR (f2 a) r1 Q) : RR ((R.ofO o).bind f2) r1 Q := by
  cases o with
  | none => trivial
  | some a => exact k a rfl
theorem RR.r {o : Option β} {b : β} {r2 : R γ} {f1 : β → R δ} {Q : γ → δ → Prop} (e : o = some b) (k : RR r2 (f1 b) Q) : RR r2 ((R.ofO o).bind f1) Q := by
  rw [e]
  exact k
theorem RR.ok {a : α} {b : β} {P : α → β → Prop} (h : P a b) : RR (.ok a) (.ok b) P := ⟨b, rfl, h⟩
theorem RR.bad {r1 : R β} {P : α → β → Prop} : RR .bad r1 P := trivial
theorem RR.mono {r2 : R α} {r1 : R β} {P Q : α → β → Prop} (h : RR r2 r1 P) (k : ∀ a b, P a b → Q a b) : RR r2 r1 Q := by
  cases r2 with
  | ok a => obtain ⟨b, e, h⟩ := h; exact ⟨b, e, k a b h⟩
  | exn c => exact h
  | bad => trivial
theorem RR.noX {r2 : R α} {r1 : R β} {P : α → β → Prop} (h : RR r2 r1 P) : RR (noX r2) (noX r1) P := by
  cases r2 with
  | ok a => obtain ⟨b, e, h⟩ := h; rw [e]; exact ⟨b, rfl, h⟩
  | exn c => trivial
  | bad => trivial
end
/-! ### stores -/
section
variable {n i : Nat} {O : OS} {s1 : DEnv} {s2 : Fm} {d : D}
theorem VR.get (h : VR n O s1 s2) (hi : i < n) : ∃ x, s1[i]? = some x := ⟨_, List.getElem?_eq_getElem (by rw [h.len]; exact hi)⟩
theorem VR.lt (h : VR n O s1 s2) {t : St} (e : O[i]? = some t) : i < n := by
  have := (List.getElem?_eq_some_iff.mp e).1
  rw [h.lenO] at this
  exact this
def S.toD : S → D
  | .val d => d
  | .own ds => .lst ds
  | .io ds => .lst ds
theorem VR.put (h : VR n O s1 s2) (hi : i < n) (x : S) (t : St) (e : sgB t (some x) = true) : VR n (O.set i t) (s1.set i (some x)) (up s2 i x.toD) := by
  refine ⟨by simp [h.len], by simp [h.lenO], fun j y u h1 h2 => ?_, fun j y h1 => ?_⟩
  · by_cases q : i = j
    · subst q
      rw [List.getElem?_set_self (by rw [h.len]; exact hi)] at h1
      rw [List.getElem?_set_self (by rw [h.lenO]; exact hi)] at h2
      cases h1; cases h2
      exact e
    · rw [List.getElem?_set_ne q] at h1 h2
      exact h.st j y u h1 h2
  · by_cases q : i = j
    · subst q
      rw [List.getElem?_set_self (by rw [h.len]; exact hi)] at h1
      cases h1
      simp only [up, if_true]
      cases x <;> rfl
    · rw [List.getElem?_set_ne q] at h1
      simp only [up]
      rw [if_neg (fun z => q z.symm)]
      exact h.vw j y h1
def canSet (O : OS) (i : Nat) : Bool := match O[i]? with
  | some .own => true
  | some .val => true
  | some .unk => true
  | _ => false
theorem VR.setN (h : VR n O s1 s2) (c : canSet O i = true) (x : S) : i < n ∧ Cv.setN s1 i x = some (s1.set i (some x)) := by
  unfold canSet at c
  have key : ∀ t, O[i]? = some t → (∀ l, sgB t (some (.io l)) = false) → i < n ∧ Cv.setN s1 i x = some (s1.set i (some x)) := fun t e q => by
    have hi := h.lt e
    obtain ⟨y, ey⟩ := h.get hi
    refine ⟨hi, ?_⟩
    unfold Cv.setN
    rw [if_pos (by rw [h.len]; exact hi), ey]
    rcases y with _ | (_ | _ | l)
    · rfl
    · rfl
    · rfl
    · have := h.st i _ t ey e
      rw [q l] at this
      cases this
  split at c
  · rename_i e; exact key _ e fun l => rfl
  · rename_i e; exact key _ e fun l => rfl
  · rename_i e; exact key _ e fun l => rfl
  · cases c
def canSets (O : OS) (is : List Nat) : Bool := is.all (canSet O)
def setSt (O : OS) : List Nat → OS
  | [] => O
  | i :: is => setSt (O.set i .val) is
theorem canSet_set {O : OS} {i j : Nat} (h : canSet O j = true) : canSet (O.set i .val) j = true := by
  by_cases q : i = j
  · subst q
    unfold canSet at h ⊢
    have : i < O.length := by
      cases e : O[i]? with
      | none => rw [e] at h; cases h
      | some t => exact (List.getElem?_eq_some_iff.mp e).1
    rw [List.getElem?_set_self this]
  · unfold canSet
    rw [List.getElem?_set_ne q]
    exact h
theorem VR.setNs : ∀ {is : List Nat} {ds : List D} {O : OS} {s1 : DEnv} {s2 s2' : Fm}, VR n O s1 s2 → canSets O is = true → upNs s2 is ds = some s2' → ∃ s1', Cv.setNs s1 is ds = some s1' ∧ VR n (setSt O is) s1' s2'
  | [], [], O, s1, s2, s2', h, _, e => by cases e; exact ⟨s1, rfl, h⟩
  | i :: is, d :: ds, O, s1, s2, s2', h, c, e => by
    simp only [canSets, List.all_cons, Bool.and_eq_true] at c
    obtain ⟨hi, e1⟩ := h.setN c.1 (.val d)
    obtain ⟨s1', e2, r⟩ := VR.setNs (is := is) (ds := ds) (h.put hi (.val d) .val rfl) (by
      unfold canSets
      rw [List.all_eq_true]
      intro j hj
      exact canSet_set (List.all_eq_true.mp c.2 j hj)) e
    exact ⟨s1', by simp only [Cv.setNs, e1]; exact e2, r⟩
  | [], _ :: _, _, _, _, _, _, _, e => by cases e
  | _ :: _, [], _, _, _, _, _, _, e => by cases e
theorem VR.setT {tg : Tgt} {s2' : Fm} (h : VR n O s1 s2) (c : canSets O (tgtSlots tg) = true) (e : upT s2 tg d = some s2') : ∃ s1', Cv.setT s1 tg d = some s1' ∧ VR n (setSt O (tgtSlots tg)) s1' s2' := by
  cases tg with
  | name i =>
    cases e
    simp only [canSets, tgtSlots, List.all_cons, List.all_nil, Bool.and_true] at c
    obtain ⟨hi, e1⟩ := h.setN c (.val d)
    exact ⟨_, e1, h.put hi (.val d) .val rfl⟩
  | tup is =>
    cases d with
    | tup ds => exact h.setNs c e
    | lst ds => exact h.setNs c e
    | _ => cases e
/-! ### operands -/
theorem VR.slot (h : VR n O s1 s2) (hi : i < n) : deref s1 (.slot i) = s2 i := by
  obtain ⟨x, e⟩ := h.get hi
  rw [h.vw i x e]
  simp only [deref]
  rw [e]
  rcases x with _ | (_ | _ | _) <;> rfl
theorem deref_lt {o : Opd} (h : VR n O s1 s2) (e : deref s1 o = some d) : ∀ i, o = .slot i → i < n ∧ s2 i = some d := fun i q => by
  subst q
  have hi : i < n := by
    by_cases q : i < n
    · exact q
    · have : s1[i]? = none := List.getElem?_eq_none (by rw [h.len]; omega)
      simp only [deref] at e
      rw [this] at e
      cases e
  rw [h.slot hi] at e
  exact ⟨hi, e⟩
theorem deref_keep {k : Kd} {M : List Nat} {o : Opd} {O' : OS} {s1' : DEnv} {s2' : Fm} (h : VR n O s1 s2) (h' : VR n O' s1' s2') (kr : KR k o = true) (e : deref s1 o = some d) (c : clr k M = true) (fr : ∀ j, M.contains j = false → s2' j = s2 j) : deref s1' o = some d := by
  cases o with
  | val x => exact e
  | fresh x => exact e
  | slot j =>
    obtain ⟨hj, e2⟩ := deref_lt h e j rfl
    rw [h'.slot hj, ← e2]
    refine fr j ?_
    cases k with
    | v => cases kr
    | f => cases kr
    | u => cases kr
    | o i =>
      have : i = j := eq_of_beq kr
      subst this
      simpa [clr] using c
    | s i =>
      have : i = j := eq_of_beq kr
      subst this
      simpa [clr] using c
    | t =>
      have : M = [] := by simpa [clr] using c
      rw [this]; rfl
def noIo (O : OS) : Bool := O.all fun t => match t with | .iot => false | .top => false | _ => true
/-- the operand goes into another thing -/
def escK : Kd → OS → Option OS
  | .o i, O => if canSet O i then some (O.set i .val) else none
  | .s i, O => if canSet O i then some (O.set i .unk) else none
  | .t, O => if noIo O then some (List.replicate O.length .unk) else none
  | _, O => some O
theorem VR.nio (h : VR n O s1 s2) (q : noIo O = true) : ∀ (j : Nat) (l : List D), s1[j]? ≠ some (some (.io l)) := fun j l z => by
  have hj : j < n := by
    have := (List.getElem?_eq_some_iff.mp z).1
    rw [h.len] at this
    exact this
  obtain ⟨t, ht⟩ : ∃ t, O[j]? = some t := ⟨_, List.getElem?_eq_getElem (by rw [h.lenO]; exact hj)⟩
  have hq := List.all_eq_true.mp q _ (List.mem_of_getElem? ht)
  have := h.st j _ _ z ht
  cases t <;> first | (cases this; done) | (cases hq; done)
theorem VR.unk (h : VR n O s1 s2) (q : ∀ (j : Nat) (l : List D), s1[j]? ≠ some (some (.io l))) : VR n (List.replicate n .unk) s1 s2 := by
  refine ⟨h.len, by simp, fun i x t h1 h2 => ?_, h.vw⟩
  have : t = .unk := List.eq_of_mem_replicate (List.mem_of_getElem? h2)
  subst this
  rcases x with _ | (_ | _ | l)
  · rfl
  · rfl
  · rfl
  · exact absurd h1 (q i l)
theorem canSet_lt (h : VR n O s1 s2) (c : canSet O i = true) : i < n := (h.setN c (.val .non)).1
/-- a slot that may be frozen -/
theorem VR.frz (h : VR n O s1 s2) {t' : St} (ht : t' = .val ∨ t' = .unk) {x : S} (hx : s1[i]? = some (some x)) (hn : ∀ l, x ≠ .io l) (c : i < n) : ∃ s1', esc s1 (.slot i) = some (x.toD, s1') ∧ VR n (O.set i t') s1' s2 := by
  have key : ∀ (y : Option S), sgB t' y = true → vS y = vS (some x) → VR n (O.set i t') (s1.set i y) s2 := fun y hy hv => by
    refine ⟨by simp [h.len], by simp [h.lenO], fun j z u h1 h2 => ?_, fun j z h1 => ?_⟩
    · by_cases q : i = j
      · subst q
        rw [List.getElem?_set_self (by rw [h.len]; exact c)] at h1
        rw [List.getElem?_set_self (by rw [h.lenO]; exact c)] at h2
        cases h1; cases h2
        exact hy
      · rw [List.getElem?_set_ne q] at h1 h2
        exact h.st j z u h1 h2
    · by_cases q : i = j
      · subst q
        rw [List.getElem?_set_self (by rw [h.len]; exact c)] at h1
        cases h1
        rw [hv]
        exact h.vw i _ hx
      · rw [List.getElem?_set_ne q] at h1
        exact h.vw j z h1
  simp only [esc]
  rw [hx]
  cases x with
  | val d =>
    have k := key (some (.val d)) (by rcases ht with rfl | rfl <;> rfl) rfl
    have e : s1.set i (some (.val d)) = s1 := by
      obtain ⟨h1, h2⟩ := List.getElem?_eq_some_iff.mp hx
      rw [← h2]
      exact List.set_getElem_self ..
    rw [e] at k
    exact ⟨_, rfl, k⟩
  | own ds => exact ⟨_, rfl, key (some (.val (.lst ds))) (by rcases ht with rfl | rfl <;> rfl) rfl⟩
  | io l => exact absurd rfl (hn l)
theorem esc_ok2 {k : Kd} {o : Opd} {O' : OS} (h : VR n O s1 s2) (kr : KR k o = true) (e : deref s1 o = some d) (c : escK k O = some O') : ∃ s1', esc s1 o = some (d, s1') ∧ VR n O' s1' s2 := by
  have slot : ∀ j, o = .slot j → ∀ (t' : St), (t' = .val ∨ t' = .unk) → (∀ l, s1[j]? ≠ some (some (.io l))) → ∃ s1', esc s1 (.slot j) = some (d, s1') ∧ VR n (O.set j t') s1' s2 := fun j q t' ht hn => by
    obtain ⟨hj, e2⟩ := deref_lt h e j q
    obtain ⟨x, ex⟩ := h.get hj
    have v := h.vw j x ex
    rw [e2] at v
    cases x with
    | none => cases v
    | some x =>
      obtain ⟨s1', e3, r⟩ := h.frz ht ex (fun l z => hn l (by rw [ex, z])) hj
      have : x.toD = d := by cases x <;> cases v <;> rfl
      rw [this] at e3
      exact ⟨s1', e3, r⟩
  have nio : ∀ j, canSet O j = true → ∀ l, s1[j]? ≠ some (some (.io l)) := fun j c l z => by
    have hj := canSet_lt h c
    unfold canSet at c
    split at c
    · rename_i q; have := h.st j _ _ z q; cases this
    · rename_i q; have := h.st j _ _ z q; cases this
    · rename_i q; have := h.st j _ _ z q; cases this
    · cases c
  have self : ∀ j, canSet O j = true → VR n (O.set j .unk) s1 s2 := fun j c => by
    have hj := canSet_lt h c
    refine ⟨h.len, by simp [h.lenO], fun i x u h1 h2 => ?_, h.vw⟩
    by_cases q : j = i
    · subst q
      rw [List.getElem?_set_self (by rw [h.lenO]; exact hj)] at h2
      cases h2
      rcases x with _ | (_ | _ | l)
      · rfl
      · rfl
      · rfl
      · exact absurd h1 (nio j c l)
    · rw [List.getElem?_set_ne q] at h2
      exact h.st i x u h1 h2
  cases k with
  | v => cases c; cases o <;> first | (cases kr; done) | (cases e; exact ⟨s1, rfl, h⟩)
  | f => cases c; cases o <;> first | (cases kr; done) | (cases e; exact ⟨s1, rfl, h⟩)
  | u => cases c; cases o <;> first | (cases kr; done) | (cases e; exact ⟨s1, rfl, h⟩)
  | o i =>
    simp only [escK] at c
    split at c
    · rename_i q
      cases c
      cases o with
      | slot j =>
        have : i = j := eq_of_beq kr
        subst this
        exact slot i rfl _ (.inl rfl) (nio i q)
      | _ => cases kr
    · cases c
  | s i =>
    simp only [escK] at c
    split at c
    · rename_i q
      cases c
      cases o with
      | slot j =>
        have : i = j := eq_of_beq kr
        subst this
        exact slot i rfl _ (.inr rfl) (nio i q)
      | val x => cases e; exact ⟨s1, rfl, self i q⟩
      | fresh x => cases kr
    · cases c
  | t =>
    simp only [escK] at c
    split at c
    · rename_i q
      cases c
      cases o with
      | val x => cases e; exact ⟨s1, rfl, h.lenO ▸ h.unk (h.nio q)⟩
      | fresh x => cases e; exact ⟨s1, rfl, h.lenO ▸ h.unk (h.nio q)⟩
      | slot j =>
        obtain ⟨hj, _⟩ := deref_lt h e j rfl
        obtain ⟨s1', e3, r⟩ := slot j rfl .unk (.inr rfl) (h.nio q j)
        refine ⟨s1', e3, h.lenO ▸ r.unk (r.nio ?_)⟩
        unfold noIo at q ⊢
        rw [List.all_eq_true] at q ⊢
        intro t ht
        rcases List.mem_or_eq_of_mem_set ht with z | z
        · exact q t z
        · rw [z]
    · cases c
end
end Cv
set_option maxRecDepth 100000
set_option maxHeartbeats 2000000
set_option autoImplicit false
/-! Engine, part Z: the look at who owns what, expressions. -/
namespace Cv
structure Sg where
  rk : String → Kd
def gd {α : Type} (b : Bool) (x : Option α) : Option α := if b then x else none
theorem gd_some {α : Type} {b : Bool} {x : Option α} {y : α} (h : gd b x = some y) : b = true ∧ x = some y := by
  unfold gd at h
  split at h
  · rename_i q; exact ⟨q, h⟩
  · cases h
def ownSt (O : OS) (i : Nat) : Bool := match O[i]? with
  | some .own => true
  | some .iot => true
  | _ => false
mutual
def mutE : IE → List Nat
  | .var _ => []
  | .cst _ => []
  | .glob _ _ => []
  | .tup es => mutEs es
  | .lst es => mutEs es
  | .bin _ a b => mutE a ++ mutE b
  | .neg a => mutE a
  | .cmp _ a b => mutE a ++ mutE b
  | .chain _ _ a b c => mutE a ++ (mutE b ++ mutE c)
  | .and_ a b => mutE a ++ mutE b
  | .or_ a b => mutE a ++ mutE b
  | .not_ a => mutE a
  | .ite c a b => mutE c ++ (mutE a ++ mutE b)
  | .idx a b => mutE a ++ mutE b
  | .slc a _ _ lo hi => mutE a ++ (mutE lo ++ mutE hi)
  | .isi a _ => mutE a
  | .call _ es => mutEs es
  | .callIo _ i es => i :: mutEs es
  | .fv _ => []
  | .callL _ es => mutEs es
  | .stp a _ _ => mutE a
  | .op1 _ a => mutE a
  | .lam _ _ es => mutEs es
  | .blt _ es => mutEs es
  | .rngOf _ _ a b => mutE a ++ mutE b
  | .comp _ e1 e2 _ _ c elt => (mutE e1 ++ mutE e2) ++ (mutE c ++ mutE elt)
  | .meth _ i es => i :: mutEs es
  | .extend i e => i :: mutE e
def mutEs : List IE → List Nat
  | [] => []
  | e :: es => mutE e ++ mutEs es
end
def isAdd : Bop → Bool
  | .add => true
  | _ => false
def isF : Kd → Bool
  | .f => true
  | _ => false
def isT : Kd → Bool
  | .t => true
  | .o _ => true
  | .s _ => true
  | _ => false
def bltK (f : String) : Kd := if f = "sorted" ∨ f = "list" then .f else .v
def varK (O : OS) (i : Nat) : Option Kd := match O[i]? with
  | some .val => some .v
  | some .own => some (.o i)
  | some .iot => some (.o i)
  | some _ => some (.s i)
  | none => none
def findL (f : OS → Option OS) : Nat → OS → Option OS
  | 0, _ => none
  | n + 1, L => match f L with
    | none => none
    | some O' => if leO L O' then some L else findL f n (meet L O')
theorem findL_ok {f : OS → Option OS} : ∀ {n : Nat} {L0 L : OS}, findL f n L0 = some L → ∃ O', f L = some O' ∧ leO L O' = true
  | 0, _, _, h => by cases h
  | n + 1, L0, L, h => by
    simp only [findL] at h
    split at h
    · cases h
    · rename_i O' e
      split at h
      · rename_i q
        cases h
        exact ⟨O', e, q⟩
      · exact findL_ok h
def backO (O0 L : OS) : List Nat → OS
  | [] => L
  | v :: vs => (backO O0 L vs).set v (O0[v]?.getD .top)
def meetO (a b : OS) : Option OS := gd (a.length == b.length) (some (meet a b))
theorem meetO_some {a b O : OS} (h : meetO a b = some O) : a.length = b.length ∧ O = meet a b := by
  obtain ⟨h1, h2⟩ := gd_some h
  cases h2
  exact ⟨eq_of_beq h1, rfl⟩
def calleeK (O : OS) : IE → Option Kd
  | .fv _ => some .v
  | .var i => varK O i
  | _ => none
mutual
def chkE' (G : Sg) : IE → OS → Option (Kd × OS)
  | .var i, O => (varK O i).map fun k => (k, O)
  | .cst _, O => some (.v, O)
  | .glob _ _, O => some (.v, O)
  | .tup es, O => (chkEs' G es O).map fun O' => (.v, O')
  | .lst es, O => (chkEs' G es O).map fun O' => (.f, O')
  | .bin op a b, O => (chkE' G a O).bind fun x => (chkE' G b x.2).bind fun y => gd (clr x.1 (mutE b)) (some (if isAdd op then (if isF x.1 || isF y.1 then .f else .u) else .v, y.2))
  | .neg a, O => (chkE' G a O).map fun x => (.v, x.2)
  | .cmp _ a b, O => (chkE' G a O).bind fun x => (chkE' G b x.2).bind fun y => gd (clr x.1 (mutE b)) (some (.v, y.2))
  | .chain _ _ a b c, O => (chkE' G a O).bind fun x => (chkE' G b x.2).bind fun y => (chkE' G c y.2).bind fun z => gd (clr x.1 (mutE b) && clr y.1 (mutE c)) ((meetO y.2 z.2).map fun O => (.v, O))
  | .and_ a b, O => (chkE' G a O).bind fun x => (chkE' G b x.2).bind fun y => (meetO x.2 y.2).map fun O => (joinK x.1 y.1, O)
  | .or_ a b, O => (chkE' G a O).bind fun x => (chkE' G b x.2).bind fun y => (meetO x.2 y.2).map fun O => (joinK x.1 y.1, O)
  | .not_ a, O => (chkE' G a O).map fun x => (.v, x.2)
  | .ite c a b, O => (chkE' G c O).bind fun z => (chkE' G a z.2).bind fun x => (chkE' G b z.2).bind fun y => (meetO x.2 y.2).map fun O => (joinK x.1 y.1, O)
  | .idx a b, O => (chkE' G a O).bind fun x => (chkE' G b x.2).bind fun y => gd (clr x.1 (mutE b)) (some (.v, y.2))
  | .slc a l h lo hi, O => (chkE' G a O).bind fun x => (if l then chkE' G lo x.2 else some (.v, x.2)).bind fun y => (if h then chkE' G hi y.2 else some (.v, y.2)).bind fun z => gd (clr x.1 (mutE lo ++ mutE hi)) (some (.u, z.2))
  | .isi a _, O => (chkE' G a O).map fun x => (.v, x.2)
  | .call f es, O => (chkEs' G es O).map fun O' => (G.rk f, O')
  | .callIo f i es, O => (chkEs' G es O).bind fun O' => gd (ownSt O i && ownSt O' i) (some (G.rk f, O'))
  | .fv _, O => some (.v, O)
  | .callL i es, O => (varK O i).bind fun _ => (chkEs' G es O).map fun O' => (.u, O')
  | .stp a _ _, O => (chkE' G a O).map fun x => (.u, x.2)
  | .op1 _ a, O => (chkE' G a O).map fun x => (.u, x.2)
  | .lam _ g es, O => (calleeK O g).bind fun _ => (chkEs' G es O).map fun O' => (.u, O')
  | .blt f es, O => (chkOs' G es O).map fun O' => (bltK f, O')
  | .rngOf tp two a b, O => (chkE' G a O).bind fun x => (if two then chkE' G b x.2 else some (x.1, x.2)).bind fun y => gd (clr x.1 (mutE b)) (some (if tp then .v else .f, y.2))
  | .comp k e1 e2 tg hasIf c elt, O =>
      (match k with
        | .rng2 => (chkE' G e1 O).bind fun x => (chkE' G e2 x.2).bind fun y => gd (clr x.1 (mutE e2)) (some y.2)
        | .zip => (chkE' G e1 O).bind fun x => (escK x.1 x.2).bind fun O1 => (chkE' G e2 O1).bind fun y => escK y.1 y.2
        | _ => (chkE' G e1 O).bind fun x => escK x.1 x.2).bind fun O0 =>
      (findL (fun L => (if hasIf then chkE' G c L else some (.v, L)).bind fun z => (chkE' G elt z.2).bind fun x => (escK x.1 x.2).bind fun O3 => (meetO z.2 O3).map fun O4 => setSt O4 (tgtSlots tg)) 5 (setSt O0 (tgtSlots tg))).bind fun L =>
      gd (leO L (setSt O0 (tgtSlots tg)) && canSets O0 (tgtSlots tg)) (some (.f, backO O0 L (tgtSlots tg)))
  | .meth _ i es, O => (chkEs' G es O).bind fun O' => gd (ownSt O i && ownSt O' i) (some (.v, O'))
  | .extend i e, O => (chkE' G e O).bind fun x => gd (ownSt O i && ownSt x.2 i) (some (.v, x.2))
def chkEs' (G : Sg) : List IE → OS → Option OS
  | [], O => some O
  | e :: es, O => (chkE' G e O).bind fun x => (escK x.1 x.2).bind fun O1 => chkEs' G es O1
def chkOs' (G : Sg) : List IE → OS → Option OS
  | [], O => some O
  | e :: es, O => (chkE' G e O).bind fun x => gd (clr x.1 (mutEs es)) (chkOs' G es x.2)
end
structure EP (n : Nat) (O' : OS) (k : Kd) (M : List Nat) (s2 : Fm) (a : D × Fm) (b : Opd × DEnv) : Prop where
  vr : VR n O' b.2 a.2
  kr : KR k b.1 = true
  dr : deref b.2 b.1 = some a.1
  fr : ∀ j, M.contains j = false → a.2 j = s2 j
structure CR (G : Sg) (C2 : Ca) (C1 : Cal) : Prop where
  io : C1.io = C2.io
  run : ∀ (f : String) (ds : List D), C2.io f = false → RR (C2.call f ds) (C1.call f (ds.map .val)) (fun a b => oD b.1 = a.1 ∧ KR (G.rk f) b.1 = true ∧ KR .u b.1 = true)
  runL : ∀ (f : String) (ds : List D), C2.io f = false → RR (C2.lam f ds) (C1.lam f (ds.map .val)) (fun a b => oD b.1 = a.1 ∧ KR (G.rk f) b.1 = true ∧ KR .u b.1 = true)
  runIo : ∀ (f : String) (l ds : List D), C2.io f = true → RR (C2.call f (.lst l :: ds)) (C1.call f (.io l :: ds.map .val)) (fun a b => b.2 = a.2 ∧ oD b.1 = a.1 ∧ KR (G.rk f) b.1 = true ∧ KR .u b.1 = true)
theorem oD_dr {o : Opd} {s : DEnv} (h : KR .u o = true) : deref s o = some (oD o) := by
  cases o <;> first | rfl | cases h
section
variable {n i : Nat} {O : OS} {s1 : DEnv} {s2 : Fm} {d : D}
theorem VR.own (h : VR n O s1 s2) (c : ownSt O i = true) : i < n ∧ ∃ ds, ownAt s1 i = some ds ∧ lstAt s2 i = some ds ∧ ∀ es, VR n O (ownPut s1 i es) (up s2 i (.lst es)) := by
  have go : ∀ t, O[i]? = some t → (t = .own ∨ t = .iot) → i < n ∧ ∃ ds, ownAt s1 i = some ds ∧ lstAt s2 i = some ds ∧ ∀ es, VR n O (ownPut s1 i es) (up s2 i (.lst es)) := fun t e ht => by
    have hi := h.lt e
    obtain ⟨x, ex⟩ := h.get hi
    have hs := h.st i x t ex e
    have hv := h.vw i x ex
    have self : O.set i t = O := by
      obtain ⟨h1, h2⟩ := List.getElem?_eq_some_iff.mp e
      rw [← h2]
      exact List.set_getElem_self ..
    refine ⟨hi, ?_⟩
    rcases ht with rfl | rfl
    · rcases x with _ | (_ | ds | _) <;> first | (cases hs; done) | skip
      refine ⟨ds, by simp [ownAt, ex], by simp [lstAt, hv, vS], fun es => ?_⟩
      have := h.put hi (.own es) .own rfl
      rw [self] at this
      simpa [ownPut, ex, S.toD] using this
    · rcases x with _ | (_ | _ | ds) <;> first | (cases hs; done) | skip
      refine ⟨ds, by simp [ownAt, ex], by simp [lstAt, hv, vS], fun es => ?_⟩
      have := h.put hi (.io es) .iot rfl
      rw [self] at this
      simpa [ownPut, ex, S.toD] using this
  unfold ownSt at c
  split at c
  · rename_i e; exact go _ e (.inl rfl)
  · rename_i e; exact go _ e (.inr rfl)
  · cases c
theorem bltK_ok {f : String} {ds : List D} {q : Opd} (h : bltD f ds = some q) : KR (bltK f) q = true ∧ KR .u q = true := by
  unfold bltK
  unfold bltD at h
  split at h
  all_goals (repeat' split at h)
  all_goals first
    | (cases h; done)
    | (cases h; subst_vars; simp_all [KR]; done)
    | (simp only [Option.map_eq_some_iff] at h; obtain ⟨_, _, rfl⟩ := h; subst_vars; simp_all [KR]; done)
    | skip
theorem binD_K {op : Bop} {a b : D} {r : Opd} (h : binD op a b = some r) : KR .u r = true ∧ (isAdd op = false → KR .v r = true) ∧ (∀ l, a = .lst l → KR .f r = true ∨ isAdd op = false) ∧ (∀ l, b = .lst l → KR .f r = true ∨ isAdd op = false) := by
  unfold binD at h
  split at h <;> first | (cases h; done) | (split at h <;> first | (cases h; done) | (cases h; simp [KR, isAdd])) | (cases h; simp [KR, isAdd])
theorem slcD_K {i j : Option Int} {a : D} {r : Opd} (h : slcD i j a = some r) : KR .u r = true := by
  unfold slcD at h
  split at h <;> cases h <;> rfl
theorem op1D_K {o : String} {a : D} {r : Opd} (h : op1D o a = some r) : KR .u r = true := by
  unfold op1D at h
  split at h
  · unfold ssD at h
    split at h
    · simp only [Option.bind_eq_some_iff] at h
      obtain ⟨ts, _, h⟩ := h
      split at h
      · cases h
      · split at h
        · cases h; rfl
        · cases h
    · cases h
  · split at h
    · simp only [Option.map_eq_some_iff] at h
      obtain ⟨y, _, rfl⟩ := h
      rfl
    · cases h
theorem stpD_K {lo : Option Int} {st : Int} {a : D} {r : Opd} (h : stpD lo st a = some r) : KR .u r = true := by
  unfold stpD at h
  split at h
  · split at h
    · cases h; rfl
    · cases h
  · split at h
    · cases h; rfl
    · cases h
  · cases h
theorem cj {M N : List Nat} {j : Nat} (h : (M ++ N).contains j = false) : M.contains j = false ∧ N.contains j = false := by
  rw [List.contains_eq_any_beq, List.any_append, Bool.or_eq_false_iff] at h
  rw [List.contains_eq_any_beq, List.contains_eq_any_beq]
  exact h
theorem cc {M : List Nat} {i j : Nat} (h : (i :: M).contains j = false) : j ≠ i ∧ M.contains j = false := by
  rw [List.contains_cons, Bool.or_eq_false_iff] at h
  exact ⟨fun z => by rw [z] at h; simp at h, h.2⟩
theorem F_lst {k : Kd} {o : Opd} {s : DEnv} (hk : isF k = true) (kr : KR k o = true) (dr : deref s o = some d) : ∃ l, d = .lst l := by
  cases k <;> first | (cases hk; done) | skip
  cases o <;> first | (cases kr; done) | skip
  cases dr
  exact ⟨_, rfl⟩
/-! ### comprehensions -/
theorem upNs_same : ∀ {is : List Nat} {ds : List D} {s t s' t' : Fm}, upNs s is ds = some s' → upNs t is ds = some t' → (∀ j, j ∉ is → s j = t j) → s' = t'
  | [], [], s, t, s', t', h1, h2, h => by cases h1; cases h2; funext j; exact h j (by simp)
  | i :: is, d :: ds, s, t, s', t', h1, h2, h => upNs_same (is := is) (ds := ds) h1 h2 fun j hj => by
      simp only [up]
      split
      · rfl
      · rename_i q
        exact h j (by simp [q, hj])
  | [], _ :: _, _, _, _, _, h1, _, _ => by cases h1
  | _ :: _, [], _, _, _, _, h1, _, _ => by cases h1
theorem upNs_some : ∀ {is : List Nat} {ds : List D} {s s' : Fm} (t : Fm), upNs s is ds = some s' → ∃ t', upNs t is ds = some t'
  | [], [], s, s', t, h1 => ⟨t, rfl⟩
  | i :: is, d :: ds, s, s', t, h1 => upNs_some (is := is) (ds := ds) (up t i d) h1
  | [], _ :: _, _, _, _, h1 => by cases h1
  | _ :: _, [], _, _, _, h1 => by cases h1
theorem upNs_fr : ∀ {is : List Nat} {ds : List D} {s s' : Fm} {j : Nat}, upNs s is ds = some s' → j ∉ is → s' j = s j
  | [], [], s, s', j, h1, _ => by cases h1; rfl
  | i :: is, d :: ds, s, s', j, h1, h => by
      rw [upNs_fr (is := is) (ds := ds) h1 (by simp at h; exact h.2)]
      simp at h
      simp [up, h.1]
  | [], _ :: _, _, _, _, h1, _ => by cases h1
  | _ :: _, [], _, _, _, h1, _ => by cases h1
theorem upT_fr {tg : Tgt} {s s' : Fm} {j : Nat} (h : upT s tg d = some s') (hj : (tgtSlots tg).contains j = false) : s' j = s j := by
  cases tg with
  | name i =>
    cases h
    have : j ≠ i := by simpa [tgtSlots] using hj
    simp [up, this]
  | tup is =>
    cases d with
    | tup ds => exact upNs_fr h (by simpa [tgtSlots] using hj)
    | lst ds => exact upNs_fr h (by simpa [tgtSlots] using hj)
    | _ => cases h
theorem wipe_len : ∀ {is : List Nat} {s : DEnv}, (wipeD s is).length = s.length
  | [], _ => rfl
  | v :: vs, s => by simp [wipeD, wipe_len (is := vs)]
theorem setSt_len : ∀ {is : List Nat} {O : OS}, (setSt O is).length = O.length
  | [], _ => rfl
  | v :: vs, O => by simp [setSt, setSt_len (is := vs)]
theorem setSt_get : ∀ {is : List Nat} {O : OS} {j : Nat}, j ∉ is → (setSt O is)[j]? = O[j]?
  | [], _, _, _ => rfl
  | v :: vs, O, j, h => by
    simp at h
    rw [setSt, setSt_get (is := vs) h.2, List.getElem?_set_ne (fun z => h.1 z.symm)]
theorem setSt_mem : ∀ {is : List Nat} {O : OS} {j : Nat} {t : St}, j ∈ is → (setSt O is)[j]? = some t → t = .val
  | v :: vs, O, j, t, h, e => by
    by_cases q : j ∈ vs
    · exact setSt_mem (is := vs) q e
    · rw [setSt, setSt_get q] at e
      have : j = v := by simp at h; exact h.resolve_right q
      subst this
      by_cases hj : j < O.length
      · rw [List.getElem?_set_self hj] at e
        cases e; rfl
      · rw [List.getElem?_eq_none (by simp; omega)] at e
        cases e
theorem wipe_get : ∀ {is : List Nat} {s : DEnv} {j : Nat}, j ∉ is → (wipeD s is)[j]? = s[j]?
  | [], _, _, _ => rfl
  | v :: vs, s, j, h => by
    simp at h
    rw [wipeD, List.getElem?_set_ne (fun z => h.1 z.symm), wipe_get (is := vs) h.2]
theorem wipe_mem : ∀ {is : List Nat} {s : DEnv} {j : Nat} {x : Option S}, j ∈ is → (wipeD s is)[j]? = some x → x = none
  | v :: vs, s, j, x, h, e => by
    by_cases q : v = j
    · subst q
      rw [wipeD] at e
      by_cases hj : v < (wipeD s vs).length
      · rw [List.getElem?_set_self hj] at e
        cases e; rfl
      · rw [List.getElem?_eq_none (by simp; omega)] at e
        cases e
    · rw [wipeD, List.getElem?_set_ne q] at e
      simp at h
      exact wipe_mem (is := vs) (h.resolve_left fun z => q z.symm) e
theorem VR.wipe (h : VR n O s1 s2) (is : List Nat) : VR n (setSt O is) (wipeD s1 is) (fun j => if is.contains j then none else s2 j) := by
  refine ⟨by rw [wipe_len, h.len], by rw [setSt_len, h.lenO], fun j x t h1 h2 => ?_, fun j x h1 => ?_⟩
  · by_cases q : j ∈ is
    · rw [wipe_mem q h1, setSt_mem q h2]; rfl
    · rw [wipe_get q] at h1
      rw [setSt_get q] at h2
      exact h.st j x t h1 h2
  · by_cases q : j ∈ is
    · rw [wipe_mem q h1]; simp [q, vS]
    · rw [wipe_get q] at h1
      simp only [List.contains_eq_mem, q, decide_false]
      exact h.vw j x h1
theorem setSt_idem : ∀ {is : List Nat} {O : OS}, (∀ j ∈ is, j < O.length → O[j]? = some .val) → setSt O is = O
  | [], _, _ => rfl
  | v :: vs, O, h => by
    rw [setSt]
    have e : O.set v .val = O := by
      by_cases q : v < O.length
      · have := h v (by simp) q
        obtain ⟨h1, h2⟩ := List.getElem?_eq_some_iff.mp this
        rw [← h2]
        exact List.set_getElem_self ..
      · exact List.set_eq_of_length_le (by omega)
    rw [e]
    exact setSt_idem fun j hj => h j (by simp [hj])
theorem canSet_st {is : List Nat} (c : ∀ j ∈ is, j < O.length) : canSets (setSt O is) is = true := by
  unfold canSets
  rw [List.all_eq_true]
  intro j hj
  have hl := c j hj
  obtain ⟨t, e⟩ : ∃ t, (setSt O is)[j]? = some t := ⟨_, List.getElem?_eq_getElem (by rw [setSt_len]; exact hl)⟩
  rw [setSt_mem hj e] at e
  unfold canSet
  rw [e]
theorem VR.setTw {tg : Tgt} {s2' : Fm} (h : VR n O s1 s2) (c : ∀ j ∈ tgtSlots tg, j < n) (e : upT s2 tg d = some s2') : ∃ s1', Cv.setT (wipeD s1 (tgtSlots tg)) tg d = some s1' ∧ VR n (setSt O (tgtSlots tg)) s1' s2' := by
  have w := h.wipe (tgtSlots tg)
  have idem : setSt (setSt O (tgtSlots tg)) (tgtSlots tg) = setSt O (tgtSlots tg) := setSt_idem fun j hj hl => by
    obtain ⟨t, e⟩ : ∃ t, (setSt O (tgtSlots tg))[j]? = some t := ⟨_, List.getElem?_eq_getElem hl⟩
    rw [setSt_mem hj e] at e
    exact e
  have key : ∀ (s2w : Fm), upT (fun j => if (tgtSlots tg).contains j then none else s2 j) tg d = some s2w → s2w = s2' → ∃ s1', Cv.setT (wipeD s1 (tgtSlots tg)) tg d = some s1' ∧ VR n (setSt O (tgtSlots tg)) s1' s2' := fun s2w e1 e2 => by
    obtain ⟨s1', e3, r⟩ := w.setT (canSet_st fun j hj => by rw [h.lenO]; exact c j hj) e1
    rw [idem, e2] at r
    exact ⟨s1', e3, r⟩
  cases tg with
  | name i =>
    cases e
    refine key _ rfl ?_
    funext j
    simp only [up, tgtSlots]
    split
    · rfl
    · rename_i q
      simp [q]
  | tup is =>
    cases d with
    | tup ds =>
      obtain ⟨t', ht⟩ := upNs_some (is := is) (ds := ds) (fun j => if is.contains j then none else s2 j) e
      refine key t' ht (upNs_same ht e fun j hj => ?_)
      simp [hj]
    | lst ds =>
      obtain ⟨t', ht⟩ := upNs_some (is := is) (ds := ds) (fun j => if is.contains j then none else s2 j) e
      refine key t' ht (upNs_same ht e fun j hj => ?_)
      simp [hj]
    | _ => cases e
theorem VR.back {O0 : OS} {s10 : DEnv} {s20 : Fm} (h0 : VR n O0 s10 s20) (h : VR n O s1 s2) : ∀ (is : List Nat), (∀ j ∈ is, j < n) → VR n (backO O0 O is) (backD s10 s1 is) (backF s20 s2 is)
  | [], _ => by
    have : backF s20 s2 [] = s2 := by funext j; simp [backF]
    rw [this]
    exact h
  | v :: vs, hl => by
    have r := VR.back h0 h vs fun j hj => hl j (by simp [hj])
    have hv := hl v (by simp)
    obtain ⟨x, ex⟩ := h0.get hv
    obtain ⟨t, et⟩ : ∃ t, O0[v]? = some t := ⟨_, List.getElem?_eq_getElem (by rw [h0.lenO]; exact hv)⟩
    have hs := h0.st v x t ex et
    have hw := h0.vw v x ex
    refine ⟨by simp [backD, r.len], by simp [backO, r.lenO], fun j y u h1 h2 => ?_, fun j y h1 => ?_⟩
    · rw [backD, ex] at h1
      rw [backO, et] at h2
      by_cases q : v = j
      · subst q
        rw [List.getElem?_set_self (by rw [r.len]; exact hv)] at h1
        rw [List.getElem?_set_self (by rw [r.lenO]; exact hv)] at h2
        cases h1; cases h2
        exact hs
      · rw [List.getElem?_set_ne q] at h1 h2
        exact r.st j y u h1 h2
    · rw [backD, ex] at h1
      by_cases q : v = j
      · subst q
        rw [List.getElem?_set_self (by rw [r.len]; exact hv)] at h1
        cases h1
        simp only [backF, List.contains_cons, beq_self_eq_true, Bool.true_or, if_true]
        exact hw
      · rw [List.getElem?_set_ne q] at h1
        have := r.vw j y h1
        simp only [backF, List.contains_cons] at this ⊢
        have q2 : (j == v) = false := by simp; exact fun z => q z.symm
        rw [q2, Bool.false_or]
        exact this
theorem canSets_lt {is : List Nat} (h : VR n O s1 s2) (c : canSets O is = true) : ∀ j ∈ is, j < n := fun j hj => canSet_lt h (List.all_eq_true.mp c j hj)
theorem compV_ok {L O1 O3 : OS} {tg : Tgt} {c2 : Fm → R (Bool × Fm)} {e2 : Fm → R (D × Fm)} {c1 : DEnv → R (Bool × DEnv)} {e1 : DEnv → R (D × DEnv)} {M : List Nat} (hL : leO L (setSt (meet O1 O3) (tgtSlots tg)) = true) (hcan : ∀ j ∈ tgtSlots tg, j < n)
    (h1 : ∀ s1 s2, VR n L s1 s2 → RR (c2 s2) (c1 s1) (fun a b => b.1 = a.1 ∧ VR n O1 b.2 a.2 ∧ ∀ j, M.contains j = false → a.2 j = s2 j))
    (h2 : ∀ s1 s2, VR n O1 s1 s2 → RR (e2 s2) (e1 s1) (fun a b => b.1 = a.1 ∧ VR n O3 b.2 a.2 ∧ ∀ j, M.contains j = false → a.2 j = s2 j)) (hn : O1.length = n) (hn3 : O3.length = n) :
    ∀ (ds acc : List D) (Ox : OS) (s1 : DEnv) (s2 : Fm), VR n Ox s1 s2 → leO L (setSt Ox (tgtSlots tg)) = true → RR (compV (fun s d => upT s tg d) c2 e2 ds acc s2) (compLoop (fun s => wipeD s (tgtSlots tg)) (fun s d => Cv.setT s tg d) c1 e1 ds acc s1) (fun a b => b.1 = a.1 ∧ (∃ Ox, VR n Ox b.2 a.2 ∧ leO L (setSt Ox (tgtSlots tg)) = true) ∧ ∀ j, M.contains j = false → (tgtSlots tg).contains j = false → a.2 j = s2 j)
  | [], acc, Ox, s1, s2, h, hx => .ok ⟨rfl, ⟨Ox, h, hx⟩, fun _ _ _ => rfl⟩
  | d :: ds, acc, Ox, s1, s2, h, hx => by
    simp only [compV, compLoop]
    refine RR.l fun s2a ea => ?_
    obtain ⟨s1a, ea1, ra⟩ := h.setTw hcan ea
    refine RR.r ea1 ?_
    refine (h1 s1a s2a (ra.weak hx)).noX.bind fun b2 b1 hb => ?_
    obtain ⟨hb1, hb2, hb3⟩ := hb
    rw [hb1]
    split
    · refine (h2 b1.2 b2.2 hb2).noX.bind fun r2 r1 hr => ?_
      obtain ⟨hr1, hr2, hr3⟩ := hr
      rw [hr1]
      refine (compV_ok hL hcan h1 h2 hn hn3 ds (acc ++ [r2.1]) (meet O1 O3) r1.2 r2.2 (hr2.meetr hn) hL).mono fun a b hab => ⟨hab.1, hab.2.1, fun j hj hj2 => ?_⟩
      rw [hab.2.2 j hj hj2, hr3 j hj, hb3 j hj, upT_fr ea hj2]
    · refine (compV_ok hL hcan h1 h2 hn hn3 ds acc (meet O1 O3) b1.2 b2.2 (hb2.meetl hn3) hL).mono fun a b hab => ⟨hab.1, hab.2.1, fun j hj hj2 => ?_⟩
      rw [hab.2.2 j hj hj2, hb3 j hj, upT_fr ea hj2]
theorem VR.backL {O0 L Ox : OS} {s10 : DEnv} {s20 : Fm} {is : List Nat} (h0 : VR n O0 s10 s20) (h : VR n Ox s1 s2) (hl : ∀ j ∈ is, j < n) (hx : leO L (setSt Ox is) = true) : VR n (backO O0 L is) (backD s10 s1 is) (backF s20 s2 is) := by
  have r := VR.back h0 h is hl
  have hL : L.length = n := by rw [leO_len hx, setSt_len, h.lenO]
  have blen : ∀ (L : OS) (is : List Nat), (backO O0 L is).length = L.length := fun L is => by
    induction is with
    | nil => rfl
    | cons v vs ih => simp [backO, ih]
  have bmem : ∀ (A B : OS) (is : List Nat) (j : Nat), j ∈ is → A.length = B.length → (backO O0 A is)[j]? = (backO O0 B is)[j]? := fun A B is => by
    induction is with
    | nil => intro j hj; cases hj
    | cons v vs ih =>
      intro j hj e
      by_cases q : v = j
      · subst q
        by_cases hv : v < A.length
        · rw [backO, backO, List.getElem?_set_self (by rw [blen]; exact hv), List.getElem?_set_self (by rw [blen, ← e]; exact hv)]
        · rw [List.getElem?_eq_none (by rw [blen]; omega), List.getElem?_eq_none (by rw [blen]; omega)]
      · rw [backO, backO, List.getElem?_set_ne q, List.getElem?_set_ne q]
        exact ih j (by simp at hj; exact hj.resolve_left fun z => q z.symm) e
  have bout : ∀ (A : OS) (is : List Nat) (j : Nat), j ∉ is → (backO O0 A is)[j]? = A[j]? := fun A is => by
    induction is with
    | nil => intro j _; rfl
    | cons v vs ih =>
      intro j hj
      simp at hj
      rw [backO, List.getElem?_set_ne (fun z => hj.1 z.symm)]
      exact ih j hj.2
  refine ⟨r.len, by rw [blen, hL], fun j y t h1 h2 => ?_, r.vw⟩
  by_cases q : j ∈ is
  · rw [bmem L Ox is j q (by rw [hL, h.lenO])] at h2
    exact r.st j y t h1 h2
  · rw [bout L is j q] at h2
    obtain ⟨u, e1, e2⟩ := leO_get hx h2
    rw [setSt_get q] at e1
    refine leS_ok e2 (r.st j y u h1 ?_)
    rw [bout Ox is j q]
    exact e1
end
end Cv
set_option maxRecDepth 100000
set_option maxHeartbeats 4000000
set_option autoImplicit false
/-! Engine, part Z2: both meanings of expressions agree. -/
namespace Cv
section
variable {G : Sg} {C2 : Ca} {C1 : Cal} {n : Nat}
theorem varK_ok {O : OS} {s1 : DEnv} {s2 : Fm} {i : Nat} {k : Kd} (h : VR n O s1 s2) (e : varK O i = some k) : RR (match s2 i with | some d => (R.ok (d, s2) : R (D × Fm)) | none => .bad) (match s1[i]? with
    | some (some (.val d)) => (R.ok (.val d, s1) : R (Opd × DEnv))
    | some (some (.own _)) => .ok (.slot i, s1)
    | some (some (.io _)) => .ok (.slot i, s1)
    | _ => .bad) (EP n O k [] s2) := by
  have hO : ∃ t, O[i]? = some t := by
    unfold varK at e
    cases q : O[i]? with
    | none => rw [q] at e; cases e
    | some t => exact ⟨t, rfl⟩
  obtain ⟨t, ht⟩ := hO
  have hi := h.lt ht
  obtain ⟨x, ex⟩ := h.get hi
  have hs := h.st i x t ex ht
  have hv := h.vw i x ex
  have sl := h.slot hi
  rw [hv, ex]
  rw [hv] at sl
  unfold varK at e
  rw [ht] at e
  rcases x with _ | (d | ds | ds)
  · exact RR.bad
  · refine .ok ⟨h, ?_, rfl, fun _ _ => rfl⟩
    cases t <;> first | (cases hs; done) | (cases e; rfl)
  · refine .ok ⟨h, ?_, sl, fun _ _ => rfl⟩
    cases t <;> first | (cases hs; done) | (cases e; simp [KR])
  · refine .ok ⟨h, ?_, sl, fun _ _ => rfl⟩
    cases t <;> first | (cases hs; done) | (cases e; simp [KR])
/-- two operands, the first looked at behind the second -/
theorem two_ok {O1 O2 : OS} {k1 k2 : Kd} {M1 M2 : List Nat} {s1 : DEnv} {s2 : Fm} {a2 b2 : Fm → R (D × Fm)} {a1 b1 : DEnv → R (Opd × DEnv)} {γ δ : Type} {f2 : D → D → Fm → R γ} {f1 : D → D → (Opd × DEnv) → (Opd × DEnv) → R δ} {Q : γ → δ → Prop} (c : clr k1 M2 = true)
    (h1 : RR (a2 s2) (a1 s1) (EP n O1 k1 M1 s2)) (h2 : ∀ t1 t2, VR n O1 t1 t2 → RR (b2 t2) (b1 t1) (EP n O2 k2 M2 t2))
    (q : ∀ (x2 : D × Fm) (x1 : Opd × DEnv) (y2 : D × Fm) (y1 : Opd × DEnv), EP n O1 k1 M1 s2 x2 x1 → EP n O2 k2 M2 x2.2 y2 y1 → deref y1.2 x1.1 = some x2.1 → RR (f2 x2.1 y2.1 y2.2) (f1 x2.1 y2.1 x1 y1) Q) :
    RR ((a2 s2).bind fun x => (b2 x.2).bind fun y => f2 x.1 y.1 y.2) ((a1 s1).bind fun x => (b1 x.2).bind fun y => (R.ofO (deref y.2 x.1)).bind fun u => (R.ofO (deref y.2 y.1)).bind fun v => f1 u v x y) Q := by
  refine h1.bind fun x2 x1 ex => (h2 _ _ ex.vr).bind fun y2 y1 ey => ?_
  have d1 := deref_keep ex.vr ey.vr ex.kr ex.dr c ey.fr
  exact RR.r d1 (RR.r ey.dr (q x2 x1 y2 y1 ex ey d1))
theorem it_ok {k : ItK} {e1 e2 : IE} {O O0 : OS} {s1 : DEnv} {s2 : Fm} (h : VR n O s1 s2)
    (i1 : ∀ (O : OS) (k : Kd) (O' : OS) (s1 : DEnv) (s2 : Fm), chkE' G e1 O = some (k, O') → VR n O s1 s2 → RR (evE C2 e1 s2) (denE C1 e1 s1) (EP n O' k (mutE e1) s2))
    (i2 : ∀ (O : OS) (k : Kd) (O' : OS) (s1 : DEnv) (s2 : Fm), chkE' G e2 O = some (k, O') → VR n O s1 s2 → RR (evE C2 e2 s2) (denE C1 e2 s1) (EP n O' k (mutE e2) s2))
    (e : (match k with
        | .rng2 => (chkE' G e1 O).bind fun x => (chkE' G e2 x.2).bind fun y => gd (clr x.1 (mutE e2)) (some y.2)
        | .zip => (chkE' G e1 O).bind fun x => (escK x.1 x.2).bind fun O1 => (chkE' G e2 O1).bind fun y => escK y.1 y.2
        | _ => (chkE' G e1 O).bind fun x => escK x.1 x.2) = some O0) :
    RR (itV k (fun s => evE C2 e1 s) (fun s => evE C2 e2 s) s2) (itR k (fun s => denE C1 e1 s) (fun s => denE C1 e2 s) s1) (fun a b => b.1 = a.1 ∧ VR n O0 b.2 a.2 ∧ ∀ j, (mutE e1 ++ mutE e2).contains j = false → a.2 j = s2 j) := by
  have one : ∀ (k : ItK), ((chkE' G e1 O).bind fun x => escK x.1 x.2) = some O0 → RR ((evE C2 e1 s2).bind fun x => (R.ofO (itemsD k x.1 .non)).bind fun ds => (R.ok (ds, x.2) : R (List D × Fm))) ((denE C1 e1 s1).bind fun x => (R.ofO (esc x.2 x.1)).bind fun r => (R.ofO (itemsD k r.1 .non)).bind fun ds => (R.ok (ds, r.2) : R (List D × DEnv))) (fun a b => b.1 = a.1 ∧ VR n O0 b.2 a.2 ∧ ∀ j, (mutE e1 ++ mutE e2).contains j = false → a.2 j = s2 j) := fun k e => by
    simp only [Option.bind_eq_some_iff] at e
    obtain ⟨⟨k1, O1⟩, c1, c2⟩ := e
    refine (i1 _ _ _ _ _ c1 h).bind fun x2 x1 ex => ?_
    obtain ⟨s1', e3, r⟩ := esc_ok2 ex.vr ex.kr ex.dr c2
    refine RR.r e3 (RR.l fun ds ed => RR.r ed (.ok ⟨rfl, r, fun j hj => ex.fr j (cj hj).1⟩))
  cases k with
  | rng2 =>
    simp only [Option.bind_eq_some_iff] at e
    obtain ⟨⟨k1, O1⟩, c1, ⟨k2, O2⟩, c2, c0⟩ := e
    obtain ⟨c3, c4⟩ := gd_some c0
    clear c0
    cases c4
    simp only [itV, itR]
    refine two_ok (f2 := fun u v t => (R.ofO (itemsD .rng2 u v)).bind fun ds => R.ok (ds, t)) (f1 := fun u v x y => (R.ofO (itemsD .rng2 u v)).bind fun ds => R.ok (ds, y.2)) (a2 := evE C2 e1) (a1 := denE C1 e1) (b2 := evE C2 e2) (b1 := denE C1 e2) c3 (i1 _ _ _ _ _ c1 h) (fun t1 t2 ht => i2 _ _ _ _ _ c2 ht) fun x2 x1 y2 y1 ex ey d1 => RR.l fun ds ed => RR.r ed (.ok ⟨rfl, ey.vr, fun j hj => ?_⟩)
    rw [ey.fr j (cj hj).2, ex.fr j (cj hj).1]
  | zip =>
    simp only [Option.bind_eq_some_iff] at e
    obtain ⟨⟨k1, O1⟩, c1, O1', c2, ⟨k2, O2⟩, c3, c4⟩ := e
    simp only [itV, itR]
    refine (i1 _ _ _ _ _ c1 h).bind fun x2 x1 ex => ?_
    obtain ⟨s1', e3, r⟩ := esc_ok2 ex.vr ex.kr ex.dr c2
    refine RR.r e3 ((i2 _ _ _ _ _ c3 r).bind fun y2 y1 ey => ?_)
    obtain ⟨s1'', e4, r2⟩ := esc_ok2 ey.vr ey.kr ey.dr c4
    refine RR.r e4 (RR.l fun ds ed => RR.r ed (.ok ⟨rfl, r2, fun j hj => ?_⟩))
    rw [ey.fr j (cj hj).2, ex.fr j (cj hj).1]
  | seq => exact one .seq e
  | rng1 => exact one .rng1 e
  | enum => exact one .enum e
  | rev => exact one .rev e
mutual
theorem ev_ok (c : CR G C2 C1) : ∀ (e : IE) (O : OS) (k : Kd) (O' : OS) (s1 : DEnv) (s2 : Fm), chkE' G e O = some (k, O') → VR n O s1 s2 → RR (evE C2 e s2) (denE C1 e s1) (EP n O' k (mutE e) s2)
  | .var i, O, k, O', s1, s2, e, h => by
    simp only [chkE', Option.map_eq_some_iff] at e
    obtain ⟨k', e1, e2⟩ := e
    cases e2
    simp only [evE, denE, mutE]
    exact varK_ok h e1
  | .cst d, O, k, O', s1, s2, e, h => by
    cases e
    simp only [evE, denE]
    exact .ok ⟨h, rfl, rfl, fun _ _ => rfl⟩
  | .glob x d, O, k, O', s1, s2, e, h => by
    cases e
    simp only [evE, denE]
    exact .ok ⟨h, rfl, rfl, fun _ _ => rfl⟩
  | .tup es, O, k, O', s1, s2, e, h => by
    simp only [chkE', Option.map_eq_some_iff] at e
    obtain ⟨O1, e1, e2⟩ := e
    cases e2
    simp only [evE, denE, mutE]
    exact (evs_ok c es O _ s1 s2 e1 h).bind fun a b hab => .ok ⟨hab.1, rfl, by rw [hab.2.1]; rfl, hab.2.2⟩
  | .lst es, O, k, O', s1, s2, e, h => by
    simp only [chkE', Option.map_eq_some_iff] at e
    obtain ⟨O1, e1, e2⟩ := e
    cases e2
    simp only [evE, denE, mutE]
    exact (evs_ok c es O _ s1 s2 e1 h).bind fun a b hab => .ok ⟨hab.1, rfl, by rw [hab.2.1]; rfl, hab.2.2⟩
  | .bin op a b, O, k, O', s1, s2, e, h => by
    simp only [chkE', Option.bind_eq_some_iff] at e
    obtain ⟨⟨k1, O1⟩, c1, ⟨k2, O2⟩, c2, c0⟩ := e
    obtain ⟨c3, c4⟩ := gd_some c0
    clear c0
    cases c4
    simp only [evE, denE, mutE]
    refine two_ok (f2 := fun u v t => (R.ofO (binD op u v)).bind fun r => R.ok (oD r, t)) (f1 := fun u v x y => (R.ofO (binD op u v)).bind fun r => R.ok (r, y.2)) (a2 := evE C2 a) (a1 := denE C1 a) (b2 := evE C2 b) (b1 := denE C1 b) c3 (ev_ok c a _ _ _ _ _ c1 h) (fun t1 t2 ht => ev_ok c b _ _ _ _ _ c2 ht) fun x2 x1 y2 y1 ex ey d1 => RR.l fun r er => RR.r er (.ok ⟨ey.vr, ?_, ?_, fun j hj => ?_⟩)
    · obtain ⟨q1, q2, q3, q4⟩ := binD_K er
      cases ha : isAdd op with
      | false => exact q2 ha
      | true =>
        simp only [if_true]
        split
        · rename_i q
          rw [Bool.or_eq_true] at q
          rcases q with q | q
          · obtain ⟨l, el⟩ := F_lst q ex.kr ex.dr
            exact (q3 l el).resolve_right (by rw [ha]; simp)
          · obtain ⟨l, el⟩ := F_lst q ey.kr ey.dr
            exact (q4 l el).resolve_right (by rw [ha]; simp)
        · exact q1
    · exact oD_dr (binD_K er).1
    · show y2.2 j = _
      rw [ey.fr j (cj hj).2, ex.fr j (cj hj).1]
  | .neg a, O, k, O', s1, s2, e, h => by
    simp only [chkE', Option.map_eq_some_iff] at e
    obtain ⟨⟨k1, O1⟩, c1, c2⟩ := e
    cases c2
    simp only [evE, denE, mutE]
    refine (ev_ok c a _ _ _ _ _ c1 h).bind fun x2 x1 ex => RR.r ex.dr ?_
    cases x2.1 with
    | int i => exact .ok ⟨ex.vr, rfl, rfl, ex.fr⟩
    | _ => exact RR.bad
  | .cmp op a b, O, k, O', s1, s2, e, h => by
    simp only [chkE', Option.bind_eq_some_iff] at e
    obtain ⟨⟨k1, O1⟩, c1, ⟨k2, O2⟩, c2, c0⟩ := e
    obtain ⟨c3, c4⟩ := gd_some c0
    clear c0
    cases c4
    simp only [evE, denE, mutE]
    refine two_ok (f2 := fun u v t => (R.ofO (cmpD op u v)).bind fun r => R.ok (D.bl r, t)) (f1 := fun u v x y => (R.ofO (cmpD op u v)).bind fun r => R.ok (Opd.val (D.bl r), y.2)) (a2 := evE C2 a) (a1 := denE C1 a) (b2 := evE C2 b) (b1 := denE C1 b) c3 (ev_ok c a _ _ _ _ _ c1 h) (fun t1 t2 ht => ev_ok c b _ _ _ _ _ c2 ht) fun x2 x1 y2 y1 ex ey d1 => RR.l fun r er => RR.r er (.ok ⟨ey.vr, rfl, rfl, fun j hj => ?_⟩)
    show y2.2 j = _
    rw [ey.fr j (cj hj).2, ex.fr j (cj hj).1]
  | .chain o1 o2 a b d, O, k, O', s1, s2, e, h => by
    simp only [chkE', Option.bind_eq_some_iff] at e
    obtain ⟨⟨k1, O1⟩, c1, ⟨k2, O2⟩, c2, ⟨k3, O3⟩, c3, c0⟩ := e
    obtain ⟨c4, c5⟩ := gd_some c0
    simp only [Option.map_eq_some_iff] at c5
    obtain ⟨Om, c5, c6⟩ := c5
    cases c6
    obtain ⟨lm, rfl⟩ := meetO_some c5
    rw [Bool.and_eq_true] at c4
    simp only [evE, denE, mutE]
    refine (ev_ok c a _ _ _ _ _ c1 h).bind fun x2 x1 ex => (ev_ok c b _ _ _ _ _ c2 ex.vr).bind fun y2 y1 ey => ?_
    have d1 := deref_keep ex.vr ey.vr ex.kr ex.dr c4.1 ey.fr
    refine RR.r d1 (RR.r ey.dr (RR.l fun r er => RR.r er ?_))
    split
    · refine (ev_ok c d _ _ _ _ _ c3 ey.vr).bind fun z2 z1 ez => ?_
      have d2 := deref_keep ey.vr ez.vr ey.kr ey.dr c4.2 ez.fr
      refine RR.r d2 (RR.r ez.dr (RR.l fun r er => RR.r er (.ok ⟨ez.vr.meetr ey.vr.lenO, rfl, rfl, fun j hj => ?_⟩)))
      show z2.2 j = _
      rw [ez.fr j (cj (cj hj).2).2, ey.fr j (cj (cj hj).2).1, ex.fr j (cj hj).1]
    · refine .ok ⟨ey.vr.meetl (lm.symm.trans ey.vr.lenO), rfl, rfl, fun j hj => ?_⟩
      show y2.2 j = _
      rw [ey.fr j (cj (cj hj).2).1, ex.fr j (cj hj).1]
  | .and_ a b, O, k, O', s1, s2, e, h => by
    simp only [chkE', Option.bind_eq_some_iff, Option.map_eq_some_iff] at e
    obtain ⟨⟨k1, O1⟩, c1, ⟨k2, O2⟩, c2, Om, c3, c4⟩ := e
    cases c4
    obtain ⟨lm, rfl⟩ := meetO_some c3
    simp only [evE, denE, mutE]
    refine (ev_ok c a _ _ _ _ _ c1 h).bind fun x2 x1 ex => RR.r ex.dr (RR.l fun t et => RR.r et ?_)
    split
    · refine (ev_ok c b _ _ _ _ _ c2 ex.vr).mono fun y2 y1 ey => ⟨ey.vr.meetr ex.vr.lenO, joinK_r ey.kr, ey.dr, fun j hj => ?_⟩
      rw [ey.fr j (cj hj).2, ex.fr j (cj hj).1]
    · exact .ok ⟨ex.vr.meetl (lm.symm.trans ex.vr.lenO), joinK_l ex.kr, ex.dr, fun j hj => ex.fr j (cj hj).1⟩
  | .or_ a b, O, k, O', s1, s2, e, h => by
    simp only [chkE', Option.bind_eq_some_iff, Option.map_eq_some_iff] at e
    obtain ⟨⟨k1, O1⟩, c1, ⟨k2, O2⟩, c2, Om, c3, c4⟩ := e
    cases c4
    obtain ⟨lm, rfl⟩ := meetO_some c3
    simp only [evE, denE, mutE]
    refine (ev_ok c a _ _ _ _ _ c1 h).bind fun x2 x1 ex => RR.r ex.dr (RR.l fun t et => RR.r et ?_)
    split
    · exact .ok ⟨ex.vr.meetl (lm.symm.trans ex.vr.lenO), joinK_l ex.kr, ex.dr, fun j hj => ex.fr j (cj hj).1⟩
    · refine (ev_ok c b _ _ _ _ _ c2 ex.vr).mono fun y2 y1 ey => ⟨ey.vr.meetr ex.vr.lenO, joinK_r ey.kr, ey.dr, fun j hj => ?_⟩
      rw [ey.fr j (cj hj).2, ex.fr j (cj hj).1]
  | .not_ a, O, k, O', s1, s2, e, h => by
    simp only [chkE', Option.map_eq_some_iff] at e
    obtain ⟨⟨k1, O1⟩, c1, c2⟩ := e
    cases c2
    simp only [evE, denE, mutE]
    exact (ev_ok c a _ _ _ _ _ c1 h).bind fun x2 x1 ex => RR.r ex.dr (RR.l fun t et => RR.r et (.ok ⟨ex.vr, rfl, rfl, ex.fr⟩))
  | .ite d a b, O, k, O', s1, s2, e, h => by
    simp only [chkE', Option.bind_eq_some_iff, Option.map_eq_some_iff] at e
    obtain ⟨⟨k0, O0⟩, c0, ⟨k1, O1⟩, c1, ⟨k2, O2⟩, c2, Om, c3, c4⟩ := e
    cases c4
    obtain ⟨lm, rfl⟩ := meetO_some c3
    simp only [evE, denE, mutE]
    refine (ev_ok c d _ _ _ _ _ c0 h).bind fun z2 z1 ez => RR.r ez.dr (RR.l fun t et => RR.r et ?_)
    split
    · refine (ev_ok c a _ _ _ _ _ c1 ez.vr).mono fun y2 y1 ey => ⟨ey.vr.meetl (lm.symm.trans ey.vr.lenO), joinK_l ey.kr, ey.dr, fun j hj => ?_⟩
      rw [ey.fr j (cj (cj hj).2).1, ez.fr j (cj hj).1]
    · refine (ev_ok c b _ _ _ _ _ c2 ez.vr).mono fun y2 y1 ey => ⟨ey.vr.meetr (lm.trans ey.vr.lenO), joinK_r ey.kr, ey.dr, fun j hj => ?_⟩
      rw [ey.fr j (cj (cj hj).2).2, ez.fr j (cj hj).1]
  | .idx a b, O, k, O', s1, s2, e, h => by
    simp only [chkE', Option.bind_eq_some_iff] at e
    obtain ⟨⟨k1, O1⟩, c1, ⟨k2, O2⟩, c2, c0⟩ := e
    obtain ⟨c3, c4⟩ := gd_some c0
    clear c0
    cases c4
    simp only [evE, denE, mutE]
    refine two_ok (f2 := fun u v t => (R.ofO (idxD u v)).bind fun r => R.ok (r, t)) (f1 := fun u v x y => (R.ofO (idxD u v)).bind fun r => R.ok (Opd.val r, y.2)) (a2 := evE C2 a) (a1 := denE C1 a) (b2 := evE C2 b) (b1 := denE C1 b) c3 (ev_ok c a _ _ _ _ _ c1 h) (fun t1 t2 ht => ev_ok c b _ _ _ _ _ c2 ht) fun x2 x1 y2 y1 ex ey d1 => RR.l fun r er => RR.r er (.ok ⟨ey.vr, rfl, rfl, fun j hj => ?_⟩)
    show y2.2 j = _
    rw [ey.fr j (cj hj).2, ex.fr j (cj hj).1]
  | .slc a l hh lo hi, O, k, O', s1, s2, e, h => by
    simp only [chkE', Option.bind_eq_some_iff] at e
    obtain ⟨⟨k1, O1⟩, c1, ⟨k2, O2⟩, c2, ⟨k3, O3⟩, c3, c0⟩ := e
    obtain ⟨c4, c5⟩ := gd_some c0
    clear c0
    cases c5
    simp only [evE, denE, mutE]
    have lo_ok : ∀ t1 t2, VR n O1 t1 t2 → RR (if l = true then evE C2 lo t2 else .ok (.non, t2)) (if l = true then denE C1 lo t1 else .ok (.val .non, t1)) (EP n O2 k2 (mutE lo) t2) := fun t1 t2 ht => by
      cases l with
      | true => exact ev_ok c lo _ _ _ _ _ c2 ht
      | false => cases c2; exact .ok ⟨ht, rfl, rfl, fun _ _ => rfl⟩
    have hi_ok : ∀ t1 t2, VR n O2 t1 t2 → RR (if hh = true then evE C2 hi t2 else .ok (.non, t2)) (if hh = true then denE C1 hi t1 else .ok (.val .non, t1)) (EP n O3 k3 (mutE hi) t2) := fun t1 t2 ht => by
      cases hh with
      | true => exact ev_ok c hi _ _ _ _ _ c3 ht
      | false => cases c3; exact .ok ⟨ht, rfl, rfl, fun _ _ => rfl⟩
    refine (ev_ok c a _ _ _ _ _ c1 h).bind fun x2 x1 ex => (lo_ok _ _ ex.vr).bind fun y2 y1 ey => RR.r ey.dr (RR.l fun i ei => RR.r ei ((hi_ok _ _ ey.vr).bind fun z2 z1 ez => RR.r ez.dr (RR.l fun j ej => RR.r ej ?_)))
    have d1 := deref_keep (M := mutE lo ++ mutE hi) ex.vr ez.vr ex.kr ex.dr c4 fun j hj => by rw [ez.fr j (cj hj).2, ey.fr j (cj hj).1]
    refine RR.r d1 (RR.l fun r er => RR.r er (.ok ⟨ez.vr, slcD_K er, oD_dr (slcD_K er), fun j hj => ?_⟩))
    show z2.2 j = _
    rw [ez.fr j (cj (cj hj).2).2, ey.fr j (cj (cj hj).2).1, ex.fr j (cj hj).1]
  | .isi a ty, O, k, O', s1, s2, e, h => by
    simp only [chkE', Option.map_eq_some_iff] at e
    obtain ⟨⟨k1, O1⟩, c1, c2⟩ := e
    cases c2
    simp only [evE, denE, mutE]
    exact (ev_ok c a _ _ _ _ _ c1 h).bind fun x2 x1 ex => RR.r ex.dr (RR.l fun t et => RR.r et (.ok ⟨ex.vr, rfl, rfl, ex.fr⟩))
  | .call f es, O, k, O', s1, s2, e, h => by
    simp only [chkE', Option.map_eq_some_iff] at e
    obtain ⟨O1, e1, e2⟩ := e
    cases e2
    simp only [evE, denE, mutE]
    rw [c.io]
    cases hio : C2.io f with
    | true => exact RR.bad
    | false =>
      refine (evs_ok c es O _ s1 s2 e1 h).bind fun a b hab => ?_
      rw [hab.2.1]
      exact (c.run f a.1 hio).bind fun q2 q1 hq => .ok ⟨hab.1, hq.2.1, by rw [oD_dr hq.2.2, hq.1], hab.2.2⟩
  | .callIo f i es, O, k, O', s1, s2, e, h => by
    simp only [chkE', Option.bind_eq_some_iff] at e
    obtain ⟨O1, e1, c0⟩ := e
    obtain ⟨c2, c3⟩ := gd_some c0
    clear c0
    cases c3
    rw [Bool.and_eq_true] at c2
    simp only [evE, denE, mutE]
    rw [c.io]
    cases hio : C2.io f with
    | false => exact RR.bad
    | true =>
      obtain ⟨_, ds0, o1, _, _⟩ := h.own c2.1
      refine RR.r o1 ((evs_ok c es O _ s1 s2 e1 h).bind fun a b hab => ?_)
      obtain ⟨hi, ds, o2, o3, o4⟩ := hab.1.own c2.2
      refine RR.r o2 ?_
      rw [o3, hab.2.1]
      refine (c.runIo f ds a.1 hio).bind fun q2 q1 hq => ?_
      rw [hq.1]
      refine .ok ⟨o4 _, hq.2.2.1, by rw [oD_dr hq.2.2.2, hq.2.1], fun j hj => ?_⟩
      obtain ⟨hj1, hj2⟩ := cc hj
      show up a.2 i _ j = _
      simp only [up, if_neg hj1]
      exact hab.2.2 j hj2
  | .fv f, O, k, O', s1, s2, e, h => by
    cases e
    simp only [evE, denE]
    exact .ok ⟨h, rfl, rfl, fun _ _ => rfl⟩
  | .callL i es, O, k, O', s1, s2, e, h => by
    simp only [chkE', Option.bind_eq_some_iff, Option.map_eq_some_iff] at e
    obtain ⟨kv, e0, O1, e1, e2⟩ := e
    cases e2
    simp only [evE, denE, mutE]
    have hO : ∃ t, O[i]? = some t := by
      unfold varK at e0
      cases q : O[i]? with
      | none => rw [q] at e0; cases e0
      | some t => exact ⟨t, rfl⟩
    obtain ⟨t, ht⟩ := hO
    obtain ⟨x, ex⟩ := h.get (h.lt ht)
    rw [h.vw i x ex, ex]
    rcases x with _ | (d | ds | ds)
    · exact RR.bad
    · cases d with
      | fn f =>
        show RR (if C2.io f = true then _ else _) (if C1.io f = true then _ else _) _
        rw [c.io]
        cases hio : C2.io f with
        | true => exact RR.bad
        | false =>
          refine (evs_ok c es O _ s1 s2 e1 h).bind fun a b hab => ?_
          rw [hab.2.1]
          exact (c.run f a.1 hio).bind fun q2 q1 hq => .ok ⟨hab.1, hq.2.2, by rw [oD_dr hq.2.2, hq.1], hab.2.2⟩
      | _ => exact RR.bad
    · exact RR.bad
    · exact RR.bad
  | .lam told g es, O, k, O', s1, s2, e, h => by
    simp only [chkE', Option.bind_eq_some_iff, Option.map_eq_some_iff] at e
    obtain ⟨kv, e0, O1, e1, e2⟩ := e
    cases e2
    simp only [evE, denE, mutE]
    cases hA : es.all isArg with
    | false => simp only [Bool.false_eq_true, if_false]; exact RR.bad
    | true =>
      simp only [if_true]
      have fin : ∀ f, RR (if C2.io f = true then R.bad else (noX (evEs C2 es s2)).bind fun r => lamV told (C2.lam f r.1) r.2) (if C1.io f = true then R.bad else (noX (denEs C1 es s1)).bind fun r => lamR told (C1.lam f (r.1.map .val)) r.2) (EP n O' .u (mutEs es) s2) := fun f => by
        rw [c.io]
        cases hio : C2.io f with
        | true => exact RR.bad
        | false =>
          refine (evs_ok c es O _ s1 s2 e1 h).noX.bind fun a b hab => ?_
          rw [hab.2.1]
          have q := c.runL f a.1 hio
          cases g2 : C2.lam f a.1 with
          | bad => exact RR.bad
          | exn cc =>
            rw [g2] at q
            have q : C1.lam f (a.1.map S.val) = .exn cc := q
            rw [q]
            simp only [lamV, lamR]
            cases placeOf cc with
            | none => exact RR.bad
            | some j => exact .ok ⟨hab.1, rfl, rfl, hab.2.2⟩
          | ok z =>
            rw [g2] at q
            obtain ⟨z1, q1, q2, q3, q4⟩ := q
            rw [q1]
            simp only [lamV, lamR]
            cases told with
            | true => exact .ok ⟨hab.1, q4, by simp only [if_true]; rw [oD_dr q4, q2], hab.2.2⟩
            | false => exact .ok ⟨hab.1, rfl, rfl, hab.2.2⟩
      cases g with
      | fv f => exact fin f
      | var i =>
        simp only [calleeV, calleeD]
        have hO : ∃ t, O[i]? = some t := by
          simp only [calleeK, varK] at e0
          cases q : O[i]? with
          | none => rw [q] at e0; cases e0
          | some t => exact ⟨t, rfl⟩
        obtain ⟨t, ht⟩ := hO
        obtain ⟨x, ex⟩ := h.get (h.lt ht)
        rw [h.vw i x ex, ex]
        rcases x with _ | (d | ds | ds)
        · exact RR.bad
        · cases d with
          | fn f => exact fin f
          | _ => exact RR.bad
        · exact RR.bad
        · exact RR.bad
      | _ => exact RR.bad
  | .stp a lo st, O, k, O', s1, s2, e, h => by
    simp only [chkE', Option.map_eq_some_iff] at e
    obtain ⟨⟨k1, O1⟩, c1, c2⟩ := e
    cases c2
    simp only [evE, denE, mutE]
    exact (ev_ok c a _ _ _ _ _ c1 h).bind fun x2 x1 ex => RR.r ex.dr (RR.l fun t et => RR.r et (.ok ⟨ex.vr, stpD_K et, oD_dr (stpD_K et), ex.fr⟩))
  | .op1 o a, O, k, O', s1, s2, e, h => by
    simp only [chkE', Option.map_eq_some_iff] at e
    obtain ⟨⟨k1, O1⟩, c1, c2⟩ := e
    cases c2
    simp only [evE, denE, mutE]
    exact (ev_ok c a _ _ _ _ _ c1 h).bind fun x2 x1 ex => RR.r ex.dr (RR.l fun t et => RR.r et (.ok ⟨ex.vr, op1D_K et, oD_dr (op1D_K et), ex.fr⟩))
  | .blt f es, O, k, O', s1, s2, e, h => by
    simp only [chkE', Option.map_eq_some_iff] at e
    obtain ⟨O1, e1, e2⟩ := e
    cases e2
    simp only [evE, denE, mutE]
    exact (evo_ok c es O _ s1 s2 e1 h).bind fun a b hab => RR.r hab.2.1 (RR.l fun q eq => RR.r eq (.ok ⟨hab.1, (bltK_ok eq).1, oD_dr (bltK_ok eq).2, hab.2.2⟩))
  | .rngOf tp two a b, O, k, O', s1, s2, e, h => by
    simp only [chkE', Option.bind_eq_some_iff] at e
    obtain ⟨⟨k1, O1⟩, c1, ⟨k2, O2⟩, c2, c0⟩ := e
    obtain ⟨c3, c4⟩ := gd_some c0
    clear c0
    cases c4
    simp only [evE, denE, mutE]
    refine (ev_ok c a _ _ _ _ _ c1 h).bind fun x2 x1 ex => ?_
    cases two with
    | true =>
      refine (ev_ok c b _ _ _ _ _ c2 ex.vr).bind fun y2 y1 ey => ?_
      have d1 := deref_keep ex.vr ey.vr ex.kr ex.dr c3 ey.fr
      refine RR.r d1 (RR.r ey.dr (RR.l fun ds ed => RR.r ed (.ok ⟨ey.vr, by cases tp <;> rfl, by cases tp <;> rfl, fun j hj => ?_⟩)))
      show y2.2 j = _
      rw [ey.fr j (cj hj).2, ex.fr j (cj hj).1]
    | false =>
      cases c2
      exact RR.r ex.dr (RR.r ex.dr (RR.l fun ds ed => RR.r ed (.ok ⟨ex.vr, by cases tp <;> rfl, by cases tp <;> rfl, fun j hj => ex.fr j (cj hj).1⟩)))
  | .comp ik e1 e2 tg hasIf d elt, O, k, O', s1, s2, e, h => by
    simp only [chkE', Option.bind_eq_some_iff] at e
    obtain ⟨O0, c1, L, c2, c0⟩ := e
    obtain ⟨c3, c4⟩ := gd_some c0
    clear c0
    cases c4
    rw [Bool.and_eq_true] at c3
    obtain ⟨O4, f1, f2⟩ := findL_ok c2
    simp only [Option.bind_eq_some_iff, Option.map_eq_some_iff] at f1
    obtain ⟨⟨kz, Oz⟩, g1, ⟨kx, Ox⟩, g2, O3, g3, Om, g4, g5⟩ := f1
    subst g5
    obtain ⟨lm, rfl⟩ := meetO_some g4
    simp only [evE, denE, mutE]
    refine (it_ok h (fun O k O' s1 s2 => ev_ok c e1 O k O' s1 s2) (fun O k O' s1 s2 => ev_ok c e2 O k O' s1 s2) c1).bind fun i2 i1 hi => ?_
    rw [hi.1]
    have hcan := canSets_lt hi.2.1 c3.2
    have Ln : L.length = n := by rw [leO_len c3.1, setSt_len, hi.2.1.lenO]
    have hz : ∀ t1 t2, VR n L t1 t2 → RR (if hasIf = true then tstV (fun s => evE C2 d s) t2 else .ok (true, t2)) (if hasIf = true then tstR (fun s => denE C1 d s) t1 else .ok (true, t1)) (fun a b => b.1 = a.1 ∧ VR n Oz b.2 a.2 ∧ ∀ j, (mutE d ++ mutE elt).contains j = false → a.2 j = t2 j) := fun t1 t2 ht => by
      cases hasIf with
      | true =>
        simp only [if_true, tstV, tstR]
        exact (ev_ok c d _ _ _ _ _ g1 ht).bind fun x2 x1 ex => RR.r ex.dr (RR.l fun t et => RR.r et (.ok ⟨rfl, ex.vr, fun j hj => ex.fr j (cj hj).1⟩))
      | false => cases g1; exact .ok ⟨rfl, ht, fun _ _ => rfl⟩
    have hx : ∀ t1 t2, VR n Oz t1 t2 → RR (evE C2 elt t2) (eltR (fun s => denE C1 elt s) t1) (fun a b => b.1 = a.1 ∧ VR n O3 b.2 a.2 ∧ ∀ j, (mutE d ++ mutE elt).contains j = false → a.2 j = t2 j) := fun t1 t2 ht => by
      have := (ev_ok c elt _ _ _ _ _ g2 ht)
      have bb : (evE C2 elt t2).bind (fun x => .ok x) = evE C2 elt t2 := by cases evE C2 elt t2 <;> rfl
      rw [← bb]
      unfold eltR
      refine this.bind fun x2 x1 ex => ?_
      obtain ⟨s1', e3, r⟩ := esc_ok2 ex.vr ex.kr ex.dr g3
      rw [e3]
      exact .ok ⟨rfl, r, fun j hj => ex.fr j (cj hj).2⟩
    have lz : Oz.length = n := by
      have := leO_len f2
      rw [setSt_len, meet_len lm, Ln] at this
      exact this.symm
    refine (compV_ok (M := mutE d ++ mutE elt) f2 hcan hz hx lz (lm.symm.trans lz) i2.1 [] O0 i1.2 i2.2 hi.2.1 c3.1).bind fun a b hab => ?_
    obtain ⟨q1, ⟨Oy, q2, q3⟩, q4⟩ := hab
    refine .ok ⟨VR.backL hi.2.1 q2 hcan q3, rfl, by rw [q1]; rfl, fun j hj => ?_⟩
    show backF i2.2 a.2 (tgtSlots tg) j = _
    unfold backF
    split
    · exact hi.2.2 j (cj hj).1
    · rename_i q
      rw [q4 j (cj hj).2 (by simpa using q)]
      exact hi.2.2 j (cj hj).1
  | .meth m i es, O, k, O', s1, s2, e, h => by
    simp only [chkE', Option.bind_eq_some_iff] at e
    obtain ⟨O1, e1, c0⟩ := e
    obtain ⟨c2, c3⟩ := gd_some c0
    clear c0
    cases c3
    rw [Bool.and_eq_true] at c2
    simp only [evE, denE, mutE]
    obtain ⟨_, ds0, o1, _, _⟩ := h.own c2.1
    refine RR.r o1 ((evs_ok c es O _ s1 s2 e1 h).bind fun a b hab => ?_)
    obtain ⟨hi, ds, o2, o3, o4⟩ := hab.1.own c2.2
    refine RR.r o2 ?_
    rw [o3, hab.2.1]
    refine RR.l fun _ z => ?_
    cases z
    refine RR.l fun w ew => RR.r ew (.ok ⟨o4 _, rfl, rfl, fun j hj => ?_⟩)
    obtain ⟨hj1, hj2⟩ := cc hj
    show up a.2 i _ j = _
    simp only [up, if_neg hj1]
    exact hab.2.2 j hj2
  | .extend i a, O, k, O', s1, s2, e, h => by
    simp only [chkE', Option.bind_eq_some_iff] at e
    obtain ⟨⟨k1, O1⟩, e1, c0⟩ := e
    obtain ⟨c2, c3⟩ := gd_some c0
    clear c0
    cases c3
    rw [Bool.and_eq_true] at c2
    simp only [evE, denE, mutE]
    obtain ⟨_, ds0, o1, _, _⟩ := h.own c2.1
    refine RR.r o1 ((ev_ok c a _ _ _ _ _ e1 h).bind fun x2 x1 ex => RR.r ex.dr ?_)
    obtain ⟨hi, ds, o2, o3, o4⟩ := ex.vr.own c2.2
    refine RR.r o2 ?_
    rw [o3]
    refine RR.l fun _ z => ?_
    cases z
    cases x2.1 with
    | lst zs =>
      simp only
      split
      · refine .ok ⟨o4 _, rfl, rfl, fun j hj => ?_⟩
        obtain ⟨hj1, hj2⟩ := cc hj
        show up x2.2 i _ j = _
        simp only [up, if_neg hj1]
        exact ex.fr j hj2
      · exact RR.bad
    | _ => exact RR.bad
theorem evs_ok (c : CR G C2 C1) : ∀ (es : List IE) (O O' : OS) (s1 : DEnv) (s2 : Fm), chkEs' G es O = some O' → VR n O s1 s2 → RR (evEs C2 es s2) (denEs C1 es s1) (fun a b => VR n O' b.2 a.2 ∧ b.1 = a.1 ∧ ∀ j, (mutEs es).contains j = false → a.2 j = s2 j)
  | [], O, O', s1, s2, e, h => by
    cases e
    simp only [evEs, denEs]
    exact .ok ⟨h, rfl, fun _ _ => rfl⟩
  | e :: es, O, O', s1, s2, he, h => by
    simp only [chkEs', Option.bind_eq_some_iff] at he
    obtain ⟨⟨k1, O1⟩, c1, O2, c2, c3⟩ := he
    simp only [evEs, denEs, mutEs]
    refine (ev_ok c e _ _ _ _ _ c1 h).bind fun x2 x1 ex => ?_
    obtain ⟨s1', e3, r⟩ := esc_ok2 ex.vr ex.kr ex.dr c2
    refine RR.r e3 ((evs_ok c es _ _ _ _ c3 r).bind fun a b hab => .ok ⟨hab.1, by rw [hab.2.1], fun j hj => ?_⟩)
    show a.2 j = _
    rw [hab.2.2 j (cj hj).2, ex.fr j (cj hj).1]
theorem evo_ok (c : CR G C2 C1) : ∀ (es : List IE) (O O' : OS) (s1 : DEnv) (s2 : Fm), chkOs' G es O = some O' → VR n O s1 s2 → RR (evEs C2 es s2) (denOs C1 es s1) (fun a b => VR n O' b.2 a.2 ∧ derefs b.2 b.1 = some a.1 ∧ ∀ j, (mutEs es).contains j = false → a.2 j = s2 j)
  | [], O, O', s1, s2, e, h => by
    cases e
    simp only [evEs, denOs]
    exact .ok ⟨h, rfl, fun _ _ => rfl⟩
  | e :: es, O, O', s1, s2, he, h => by
    simp only [chkOs', Option.bind_eq_some_iff] at he
    obtain ⟨⟨k1, O1⟩, c1, c2⟩ := he
    obtain ⟨c2, c3⟩ := gd_some c2
    simp only [evEs, denOs, mutEs]
    refine (ev_ok c e _ _ _ _ _ c1 h).bind fun x2 x1 ex => (evo_ok c es _ _ _ _ c3 ex.vr).bind fun a b hab => .ok ⟨hab.1, ?_, fun j hj => ?_⟩
    · have d1 := deref_keep ex.vr hab.1 ex.kr ex.dr c2 hab.2.2
      simp only [derefs, d1, hab.2.1]
    · show a.2 j = _
      rw [hab.2.2 j (cj hj).2, ex.fr j (cj hj).1]
end
end
end Cv
set_option maxRecDepth 100000
set_option maxHeartbeats 4000000
set_option autoImplicit false
/-! Engine, part Z3: both meanings of statements and of calls agree. -/
namespace Cv
def retK (k : Kd) (O : OS) : Option Kd := match k with
  | .v => some .v
  | .f => some .f
  | .u => some .u
  | .o i => (match O[i]? with
    | some .own => some .f
    | some .val => some .u
    | some .unk => some .u
    | _ => none)
  | .s i => if canSet O i then some .u else none
  | .t => if noIo O then some .u else none
def leK (k rk : Kd) : Bool := match rk with
  | .u => true
  | .v => (match k with | .v => true | _ => false)
  | .f => (match k with | .f => true | _ => false)
  | _ => false
def asgK (k : Kd) (O : OS) : Option (OS × St) := match k with
  | .v => some (O, .val)
  | .f => some (O, .own)
  | .u => some (O, .unk)
  | .o _ => (escK k O).map fun O' => (O', .val)
  | .s _ => (escK k O).map fun O' => (O', .val)
  | .t => (escK k O).map fun O' => (O', .unk)
def parK : Kd → Option St
  | .v => some .val
  | .f => some .own
  | .u => some .unk
  | _ => none
def joinR : Option OS → Option OS → Option (Option OS)
  | none, b => some b
  | a, none => some a
  | some a, some b => (meetO a b).map some
def io0 (io : Bool) (O : OS) : Bool := !io || (match (O[0]? : Option St) with | some .iot => true | _ => false)
mutual
def chkS' (G : Sg) (rk : Kd) (io : Bool) : Option OS → IS → OS → Option (Option OS)
  | L, .asg (.name i) e, O => (chkE' G e O).bind fun x => (asgK x.1 x.2).bind fun y => gd (canSet y.1 i) (some (some (y.1.set i y.2)))
  | L, .asg (.tup is) e, O => (chkE' G e O).bind fun x => gd (canSets x.2 is) (some (some (setSt x.2 is)))
  | L, .par i j a b, O => (chkE' G a O).bind fun x => (chkE' G b x.2).bind fun y => (parK x.1).bind fun t => (parK y.1).bind fun u => gd (canSet y.2 i && canSet (y.2.set i t) j) (some (some ((y.2.set i t).set j u)))
  | L, .sub i ix e, O => (chkE' G e O).bind fun x => (escK x.1 x.2).bind fun O1 => (chkE' G ix O1).bind fun y => gd (ownSt O1 i && ownSt y.2 i) (some (some y.2))
  | L, .expr e, O => (chkE' G e O).map fun x => some x.2
  | L, .ret e, O => (chkE' G e O).bind fun x => (retK x.1 x.2).bind fun k => gd (leK k rk && io0 io x.2) (some none)
  | L, .retN, O => gd (leK .v rk && io0 io O) (some none)
  | L, .ife c a b, O => (chkE' G c O).bind fun x => (chkSs' G rk io L a x.2).bind fun p => (chkSs' G rk io L b x.2).bind fun q => joinR p q
  | L, .for_ k e1 e2 tg body, O =>
      (match k with
        | .rng2 => (chkE' G e1 O).bind fun x => (chkE' G e2 x.2).bind fun y => gd (clr x.1 (mutE e2)) (some y.2)
        | .zip => (chkE' G e1 O).bind fun x => (escK x.1 x.2).bind fun O1 => (chkE' G e2 O1).bind fun y => escK y.1 y.2
        | _ => (chkE' G e1 O).bind fun x => escK x.1 x.2).bind fun O0 =>
      (findL (fun L => (chkSs' G rk io (some L) body (setSt L (tgtSlots tg))).map fun (r : Option OS) => r.getD L) 6 O0).bind fun L => gd (leO L O0 && canSets L (tgtSlots tg)) (some (some L))
  | _, .whl c body, O => (findL (fun L => (chkE' G c L).bind fun x => (chkSs' G rk io (some L) body x.2).map fun (r : Option OS) => r.getD L) 6 O).bind fun L => (chkE' G c L).bind fun x => gd (leO L O) ((meetO L x.2).map some)
  | L, .pass, O => some (some O)
  | L, .cont, O => match L with
    | some L => gd (leO L O) (some none)
    | none => none
  | L, .brk, O => match L with
    | some L => gd (leO L O) (some none)
    | none => none
  | L, .raise _, O => some none
def chkSs' (G : Sg) (rk : Kd) (io : Bool) : Option OS → List IS → OS → Option (Option OS)
  | L, [], O => some (some O)
  | L, st :: r, O => (chkS' G rk io L st O).bind fun p => match p with
    | none => some none
    | some O1 => chkSs' G rk io L r O1
end
section
variable {n : Nat} {O : OS} {s1 : DEnv} {s2 : Fm} {d : D} {k k' : Kd} {o : Opd}
theorem leave_okV (h : VR n O s1 s2) (kr : KR k o = true) (e : deref s1 o = some d) (c : retK k O = some k') : ∃ q, leaveO s1 o = some q ∧ oD q = d ∧ KR k' q = true ∧ KR .u q = true := by
  have slot : ∀ i, o = .slot i → (∀ l, s1[i]? ≠ some (some (.io l))) → ∃ q, leaveO s1 o = some q ∧ oD q = d ∧ KR .u q = true ∧ (O[i]? = some .own → KR .f q = true) := fun i q hn => by
    subst q
    obtain ⟨hi, e2⟩ := deref_lt h e i rfl
    obtain ⟨x, ex⟩ := h.get hi
    have v := h.vw i x ex
    rw [e2] at v
    rcases x with _ | (x | l | l)
    · cases v
    · cases v
      refine ⟨.val d, by simp only [leaveO, ex], rfl, rfl, fun z => ?_⟩
      have := h.st i _ _ ex z
      cases this
    · cases v
      exact ⟨.fresh l, by simp only [leaveO, ex], rfl, rfl, fun _ => rfl⟩
    · exact absurd ex (hn l)
  have nio : ∀ (j : Nat) (t : St), O[j]? = some t → (t = .own ∨ t = .val ∨ t = .unk) → ∀ (l : List D), s1[j]? ≠ some (some (.io l)) := fun j t q ht l z => by
    have := h.st j _ _ z q
    rcases ht with rfl | rfl | rfl <;> cases this
  have nio2 : ∀ (j : Nat), canSet O j = true → ∀ (l : List D), s1[j]? ≠ some (some (.io l)) := fun j c => by
    unfold canSet at c
    split at c
    · rename_i q; exact nio j _ q (.inl rfl)
    · rename_i q; exact nio j _ q (.inr (.inl rfl))
    · rename_i q; exact nio j _ q (.inr (.inr rfl))
    · cases c
  cases k with
  | v => cases c; cases o <;> first | (cases kr; done) | (cases e; exact ⟨_, rfl, rfl, rfl, rfl⟩)
  | f => cases c; cases o <;> first | (cases kr; done) | (cases e; exact ⟨_, rfl, rfl, rfl, rfl⟩)
  | u => cases c; cases o <;> first | (cases kr; done) | (cases e; exact ⟨_, rfl, rfl, rfl, rfl⟩)
  | o i =>
    cases o <;> first | (cases kr; done) | skip
    rename_i j
    have : i = j := eq_of_beq kr
    subst this
    simp only [retK] at c
    split at c
    · rename_i q
      cases c
      obtain ⟨w, h1, h2, h3, h4⟩ := slot i rfl (nio i _ q (.inl rfl))
      exact ⟨w, h1, h2, h4 q, h3⟩
    · rename_i q
      cases c
      obtain ⟨w, h1, h2, h3, h4⟩ := slot i rfl (nio i _ q (.inr (.inl rfl)))
      exact ⟨w, h1, h2, h3, h3⟩
    · rename_i q
      cases c
      obtain ⟨w, h1, h2, h3, h4⟩ := slot i rfl (nio i _ q (.inr (.inr rfl)))
      exact ⟨w, h1, h2, h3, h3⟩
    · cases c
  | s i =>
    simp only [retK] at c
    split at c
    · rename_i q
      cases c
      cases o with
      | val x => cases e; exact ⟨_, rfl, rfl, rfl, rfl⟩
      | fresh x => cases kr
      | slot j =>
        have : i = j := eq_of_beq kr
        subst this
        obtain ⟨w, h1, h2, h3, h4⟩ := slot i rfl (nio2 i q)
        exact ⟨w, h1, h2, h3, h3⟩
    · cases c
  | t =>
    simp only [retK] at c
    split at c
    · rename_i q
      cases c
      cases o with
      | val x => cases e; exact ⟨_, rfl, rfl, rfl, rfl⟩
      | fresh x => cases e; exact ⟨_, rfl, rfl, rfl, rfl⟩
      | slot j =>
        obtain ⟨w, h1, h2, h3, h4⟩ := slot j rfl (h.nio q j)
        exact ⟨w, h1, h2, h3, h3⟩
    · cases c
theorem leK_ok {rk : Kd} {q : Opd} (h : leK k rk = true) (a : KR k q = true) (b : KR .u q = true) : KR rk q = true := by
  unfold leK at h
  split at h
  · exact b
  · split at h
    · exact a
    · cases h
  · split at h
    · exact a
    · cases h
  · cases h
theorem asg_ok {O' : OS} {t : St} {i : Nat} (h : VR n O s1 s2) (kr : KR k o = true) (e : deref s1 o = some d) (c : asgK k O = some (O', t)) (hc : canSet O' i = true) : ∃ s1', asgO s1 i o = some s1' ∧ VR n (O'.set i t) s1' (up s2 i d) := by
  have esc : ∀ (k : Kd) (t : St), KR k o = true → (escK k O).map (fun O' => (O', t)) = some (O', t) → (t = .val ∨ t = .unk) → (t = .val → ∀ l, o ≠ .fresh l) → ∃ s1', asgO s1 i o = some s1' ∧ VR n (O'.set i t) s1' (up s2 i d) := fun k t kr c ht hf => by
    simp only [Option.map_eq_some_iff] at c
    obtain ⟨Oe, c1, c2⟩ := c
    cases c2
    obtain ⟨s1', e3, r⟩ := esc_ok2 h kr e c1
    cases o with
    | val x =>
      cases e; cases e3
      obtain ⟨hi, es⟩ := r.setN hc (.val d)
      exact ⟨_, es, r.put hi (.val d) t (by rcases ht with rfl | rfl <;> rfl)⟩
    | fresh l =>
      cases e; cases e3
      obtain ⟨hi, es⟩ := r.setN hc (.own l)
      have : t = .unk := ht.resolve_left fun z => hf z l rfl
      subst this
      exact ⟨_, es, r.put hi (.own l) .unk rfl⟩
    | slot j =>
      obtain ⟨hi, es⟩ := r.setN hc (.val d)
      exact ⟨_, by simp only [asgO, e3]; exact es, r.put hi (.val d) t (by rcases ht with rfl | rfl <;> rfl)⟩
  cases k with
  | v =>
    cases c
    cases o <;> first | (cases kr; done) | skip
    cases e
    obtain ⟨hi, es⟩ := h.setN hc (.val d)
    exact ⟨_, es, h.put hi (.val d) .val rfl⟩
  | f =>
    cases c
    cases o <;> first | (cases kr; done) | skip
    rename_i l
    cases e
    obtain ⟨hi, es⟩ := h.setN hc (.own l)
    exact ⟨_, es, h.put hi (.own l) .own rfl⟩
  | u =>
    cases c
    cases o <;> first | (cases kr; done) | skip
    · cases e
      obtain ⟨hi, es⟩ := h.setN hc (.val d)
      exact ⟨_, es, h.put hi (.val d) .unk rfl⟩
    · rename_i l
      cases e
      obtain ⟨hi, es⟩ := h.setN hc (.own l)
      exact ⟨_, es, h.put hi (.own l) .unk rfl⟩
  | o j =>
    have : t = .val := by
      simp only [asgK, Option.map_eq_some_iff] at c
      obtain ⟨_, _, z⟩ := c
      cases z; rfl
    subst this
    exact esc _ _ kr c (.inl rfl) fun _ l z => by subst z; cases kr
  | s j =>
    have : t = .val := by
      simp only [asgK, Option.map_eq_some_iff] at c
      obtain ⟨_, _, z⟩ := c
      cases z; rfl
    subst this
    exact esc _ _ kr c (.inl rfl) fun _ l z => by subst z; cases kr
  | t =>
    have : t = .unk := by
      simp only [asgK, Option.map_eq_some_iff] at c
      obtain ⟨_, _, z⟩ := c
      cases z; rfl
    subst this
    exact esc _ _ kr c (.inr rfl) fun z => by cases z
/-- a value or a new list stored -/
theorem par_ok {t : St} {i : Nat} (h : VR n O s1 s2) (kr : KR k o = true) (hd : oD o = d) (c : parK k = some t) (hc : canSet O i = true) : KR .u o = true ∧ ∃ s1', asgO s1 i o = some s1' ∧ VR n (O.set i t) s1' (up s2 i d) := by
  have hu : KR .u o = true := by
    cases k <;> first | (cases c; done) | skip
    all_goals cases o <;> first | (cases kr; done) | rfl
  refine ⟨hu, asg_ok (k := k) h kr (by rw [oD_dr hu, hd]) ?_ hc⟩
  cases k <;> cases c <;> rfl
end
def OuR (n : Nat) (rk : Kd) (io : Bool) (L ro : Option OS) : Ou → Out → Prop
  | .next s2, .next s1 => ∃ O, ro = some O ∧ VR n O s1 s2
  | .ret d s2, .ret o s1 => (∃ q, leaveO s1 o = some q ∧ oD q = d ∧ KR rk q = true ∧ KR .u q = true) ∧ (io = true → ∃ ds, ioFin s1 = some ds ∧ lstAt s2 0 = some ds)
  | .brk s2, .brk s1 => ∃ O, L = some O ∧ VR n O s1 s2
  | .cont s2, .cont s1 => ∃ O, L = some O ∧ VR n O s1 s2
  | _, _ => False
theorem io_ok {n : Nat} {O : OS} {s1 : DEnv} {s2 : Fm} {io : Bool} (h : VR n O s1 s2) (c : io0 io O = true) (hi : io = true) : ∃ ds, ioFin s1 = some ds ∧ lstAt s2 0 = some ds := by
  unfold io0 at c
  rw [hi] at c
  simp only [Bool.not_true, Bool.false_or] at c
  split at c
  · rename_i q
    have h0 := h.lt q
    obtain ⟨x, ex⟩ := h.get h0
    have hs := h.st 0 x _ ex q
    have hv := h.vw 0 x ex
    rcases x with _ | (_ | _ | l) <;> first | (cases hs; done) | skip
    exact ⟨l, by simp [ioFin, ex], by simp [lstAt, hv, vS]⟩
  · cases c
section
variable {G : Sg} {C2 : Ca} {C1 : Cal} {n : Nat} {rk : Kd} {io : Bool}
theorem OuR.mono {L ro ro' : Option OS} (h : ∀ O s1 s2, ro = some O → VR n O s1 s2 → ∃ O', ro' = some O' ∧ VR n O' s1 s2) : ∀ {a : Ou} {b : Out}, OuR n rk io L ro a b → OuR n rk io L ro' a b
  | .next s2, .next s1, ⟨O, e, v⟩ => h O s1 s2 e v
  | .ret _ _, .ret _ _, q => q
  | .brk _, .brk _, q => q
  | .cont _, .cont _, q => q
  | .next _, .ret _ _, q => q.elim
  | .next _, .brk _, q => q.elim
  | .next _, .cont _, q => q.elim
  | .ret _ _, .next _, q => q.elim
  | .ret _ _, .brk _, q => q.elim
  | .ret _ _, .cont _, q => q.elim
  | .brk _, .next _, q => q.elim
  | .brk _, .ret _ _, q => q.elim
  | .brk _, .cont _, q => q.elim
  | .cont _, .next _, q => q.elim
  | .cont _, .ret _ _, q => q.elim
  | .cont _, .brk _, q => q.elim
theorem forV_ok {Lo : Option OS} {L : OS} {r : Option OS} {tg : Tgt} {b2 : Fm → R Ou} {b1 : DEnv → R Out} (hcan : canSets L (tgtSlots tg) = true) (hL : leO L (r.getD L) = true)
    (hb : ∀ s1 s2, VR n (setSt L (tgtSlots tg)) s1 s2 → RR (b2 s2) (b1 s1) (OuR n rk io (some L) r)) : ∀ (ds : List D) (s1 : DEnv) (s2 : Fm), VR n L s1 s2 → RR (forV (fun s d => upT s tg d) b2 ds s2) (forLoop (fun s d => setT s tg d) b1 ds s1) (OuR n rk io Lo (some L))
  | [], s1, s2, h => .ok ⟨L, rfl, h⟩
  | d :: ds, s1, s2, h => by
    simp only [forV, forLoop]
    refine RR.l fun s2a ea => ?_
    obtain ⟨s1a, ea1, ra⟩ := h.setT hcan ea
    refine RR.r ea1 ((hb _ _ ra).bind fun a b hab => ?_)
    cases a <;> cases b <;> first | exact hab.elim | skip
    · obtain ⟨O, e, v⟩ := hab
      rw [e] at hL
      exact forV_ok hcan (by rw [e]; exact hL) hb ds _ _ (v.weak hL)
    · exact .ok hab
    · obtain ⟨O, e, v⟩ := hab
      cases e
      exact .ok ⟨L, rfl, v⟩
    · obtain ⟨O, e, v⟩ := hab
      cases e
      exact forV_ok hcan hL hb ds _ _ v
theorem whileV_ok {Lo : Option OS} {L O1 : OS} {r : Option OS} {c2 : Fm → R (Bool × Fm)} {c1 : DEnv → R (Bool × DEnv)} {b2 : Fm → R Ou} {b1 : DEnv → R Out} (hL : leO L (r.getD L) = true) (hlen : L.length = O1.length)
    (hc : ∀ s1 s2, VR n L s1 s2 → RR (c2 s2) (c1 s1) (fun a b => b.1 = a.1 ∧ VR n O1 b.2 a.2))
    (hb : ∀ s1 s2, VR n O1 s1 s2 → RR (b2 s2) (b1 s1) (OuR n rk io (some L) r)) : ∀ (m : Nat) (s1 : DEnv) (s2 : Fm), VR n L s1 s2 → RR (whileV c2 b2 m s2) (whileLoop c1 b1 m s1) (OuR n rk io Lo (some (meet L O1)))
  | 0, s1, s2, h => RR.bad
  | m + 1, s1, s2, h => by
    simp only [whileV, whileLoop]
    refine (hc _ _ h).bind fun a b hab => ?_
    rw [hab.1]
    split
    · refine (hb _ _ hab.2).bind fun a b hab => ?_
      cases a <;> cases b <;> first | exact hab.elim | skip
      · obtain ⟨O, e, v⟩ := hab
        rw [e] at hL
        exact whileV_ok (by rw [e]; exact hL) hlen hc hb m _ _ (v.weak hL)
      · exact .ok hab
      · obtain ⟨O, e, v⟩ := hab
        cases e
        exact .ok ⟨_, rfl, v.meetl (hlen.symm.trans v.lenO)⟩
      · obtain ⟨O, e, v⟩ := hab
        cases e
        exact whileV_ok hL hlen hc hb m _ _ v
    · exact .ok ⟨_, rfl, hab.2.meetr (hlen.trans hab.2.lenO)⟩
mutual
theorem evS_ok (c : CR G C2 C1) : ∀ (st : IS) (L : Option OS) (O : OS) (ro : Option OS) (s1 : DEnv) (s2 : Fm), chkS' G rk io L st O = some ro → VR n O s1 s2 → RR (evS C2 st s2) (denS C1 st s1) (OuR n rk io L ro)
  | .asg (.name i) e, L, O, ro, s1, s2, q, h => by
    simp only [chkS', Option.bind_eq_some_iff] at q
    obtain ⟨⟨k, O1⟩, c1, ⟨O2, t⟩, c2, c0⟩ := q
    obtain ⟨c3, c4⟩ := gd_some c0
    clear c0
    cases c4
    simp only [evS, denS]
    refine (ev_ok c e _ _ _ _ _ c1 h).bind fun x2 x1 ex => ?_
    obtain ⟨s1', e1, r⟩ := asg_ok ex.vr ex.kr ex.dr c2 c3
    exact RR.r e1 (.ok ⟨_, rfl, r⟩)
  | .asg (.tup is) e, L, O, ro, s1, s2, q, h => by
    simp only [chkS', Option.bind_eq_some_iff] at q
    obtain ⟨⟨k, O1⟩, c1, c0⟩ := q
    obtain ⟨c3, c4⟩ := gd_some c0
    clear c0
    cases c4
    simp only [evS, denS]
    refine (ev_ok c e _ _ _ _ _ c1 h).bind fun x2 x1 ex => RR.r ex.dr (RR.l fun s2' e2 => ?_)
    obtain ⟨s1', e1, r⟩ := ex.vr.setT (tg := .tup is) c3 e2
    exact RR.r e1 (.ok ⟨_, rfl, r⟩)
  | .par i j a b, L, O, ro, s1, s2, q, h => by
    simp only [chkS', Option.bind_eq_some_iff] at q
    obtain ⟨⟨k1, O1⟩, c1, ⟨k2, O2⟩, c2, t, c3, u, c4, c0⟩ := q
    obtain ⟨c5, c6⟩ := gd_some c0
    clear c0
    cases c6
    rw [Bool.and_eq_true] at c5
    simp only [evS, denS]
    split
    · exact RR.bad
    · refine (ev_ok c a _ _ _ _ _ c1 h).bind fun x2 x1 ex => (ev_ok c b _ _ _ _ _ c2 ex.vr).bind fun y2 y1 ey => ?_
      have hx : oD x1.1 = x2.1 := by
        have := ex.kr
        have := ex.dr
        cases hk : x1.1 with
        | val z => rw [hk] at this; exact Option.some.inj this
        | fresh z => rw [hk] at this; exact Option.some.inj this
        | slot z =>
          have kr := ex.kr
          rw [hk] at kr
          cases k1 <;> first | (cases kr; done) | (cases c3; done)
      have hy : oD y1.1 = y2.1 := by
        have := ey.kr
        have := ey.dr
        cases hk : y1.1 with
        | val z => rw [hk] at this; exact Option.some.inj this
        | fresh z => rw [hk] at this; exact Option.some.inj this
        | slot z =>
          have kr := ey.kr
          rw [hk] at kr
          cases k2 <;> first | (cases kr; done) | (cases c4; done)
      obtain ⟨ux, s1', e1, r1⟩ := par_ok (i := i) ey.vr ex.kr hx c3 c5.1
      obtain ⟨uy, s1'', e2, r2⟩ := par_ok (i := j) r1 ey.kr hy c4 c5.2
      cases hk : x1.1 with
      | slot z => rw [hk] at ux; cases ux
      | val z =>
        cases hk2 : y1.1 with
        | slot z => rw [hk2] at uy; cases uy
        | val w =>
          rw [hk] at e1; rw [hk2] at e2
          exact RR.r e1 (RR.r e2 (.ok ⟨_, rfl, r2⟩))
        | fresh w =>
          rw [hk] at e1; rw [hk2] at e2
          exact RR.r e1 (RR.r e2 (.ok ⟨_, rfl, r2⟩))
      | fresh z =>
        cases hk2 : y1.1 with
        | slot z => rw [hk2] at uy; cases uy
        | val w =>
          rw [hk] at e1; rw [hk2] at e2
          exact RR.r e1 (RR.r e2 (.ok ⟨_, rfl, r2⟩))
        | fresh w =>
          rw [hk] at e1; rw [hk2] at e2
          exact RR.r e1 (RR.r e2 (.ok ⟨_, rfl, r2⟩))
  | .sub i ix e, L, O, ro, s1, s2, q, h => by
    simp only [chkS', Option.bind_eq_some_iff] at q
    obtain ⟨⟨k1, O1⟩, c1, O1', c2, ⟨k2, O2⟩, c3, c0⟩ := q
    obtain ⟨c5, c6⟩ := gd_some c0
    clear c0
    cases c6
    rw [Bool.and_eq_true] at c5
    simp only [evS, denS]
    refine (ev_ok c e _ _ _ _ _ c1 h).bind fun x2 x1 ex => ?_
    obtain ⟨s1', e3, r⟩ := esc_ok2 ex.vr ex.kr ex.dr c2
    refine RR.r e3 ?_
    obtain ⟨_, ds0, o1, _, _⟩ := r.own c5.1
    refine RR.r o1 ((ev_ok c ix _ _ _ _ _ c3 r).bind fun y2 y1 ey => RR.r ey.dr ?_)
    obtain ⟨hi, ds, o2, o3, o4⟩ := ey.vr.own c5.2
    refine RR.r o2 (RR.l fun z ez => ?_)
    rw [o3] at ez
    cases ez
    cases y2.1 with
    | int k => exact RR.l fun j ej => RR.r ej (.ok ⟨_, rfl, o4 _⟩)
    | _ => exact RR.bad
  | .expr e, L, O, ro, s1, s2, q, h => by
    simp only [chkS', Option.map_eq_some_iff] at q
    obtain ⟨⟨k, O1⟩, c1, c2⟩ := q
    cases c2
    simp only [evS, denS]
    exact (ev_ok c e _ _ _ _ _ c1 h).bind fun x2 x1 ex => .ok ⟨_, rfl, ex.vr⟩
  | .ret e, L, O, ro, s1, s2, q, h => by
    simp only [chkS', Option.bind_eq_some_iff] at q
    obtain ⟨⟨k, O1⟩, c1, k', c2, c0⟩ := q
    obtain ⟨c3, c4⟩ := gd_some c0
    clear c0
    cases c4
    rw [Bool.and_eq_true] at c3
    simp only [evS, denS]
    refine (ev_ok c e _ _ _ _ _ c1 h).bind fun x2 x1 ex => ?_
    obtain ⟨w, h1, h2, h3, h4⟩ := leave_okV ex.vr ex.kr ex.dr c2
    exact .ok ⟨⟨w, h1, h2, leK_ok c3.1 h3 h4, h4⟩, io_ok ex.vr c3.2⟩
  | .retN, L, O, ro, s1, s2, q, h => by
    simp only [chkS'] at q
    obtain ⟨c3, c4⟩ := gd_some q
    cases c4
    rw [Bool.and_eq_true] at c3
    simp only [evS, denS]
    exact .ok ⟨⟨.val .non, rfl, rfl, leK_ok c3.1 rfl rfl, rfl⟩, io_ok h c3.2⟩
  | .ife d a b, L, O, ro, s1, s2, q, h => by
    simp only [chkS', Option.bind_eq_some_iff] at q
    obtain ⟨⟨k, O1⟩, c1, p, c2, r, c3, c4⟩ := q
    simp only [evS, denS, denT, tstV, tstR]
    have bb : ∀ {α β : Type} (r : R α) (f : α → R β), r.bind f = r.bind f := fun _ _ => rfl
    have hc : RR ((evE C2 d s2).bind fun x => (R.ofO (truD x.1)).bind fun t => (R.ok (t, x.2) : R (Bool × Fm))) ((denE C1 d s1).bind fun x => (R.ofO (deref x.2 x.1)).bind fun u => (R.ofO (truD u)).bind fun t => (R.ok (t, x.2) : R (Bool × DEnv))) (fun a b => b.1 = a.1 ∧ VR n O1 b.2 a.2) :=
      (ev_ok c d _ _ _ _ _ c1 h).bind fun x2 x1 ex => RR.r ex.dr (RR.l fun t et => RR.r et (.ok ⟨rfl, ex.vr⟩))
    refine hc.bind fun t2 t1 ht => ?_
    rw [ht.1]
    have la : ∀ {p r : Option OS} {ro : Option OS}, joinR p r = some ro → ∀ O s1 s2, p = some O → VR n O s1 s2 → ∃ O', ro = some O' ∧ VR n O' s1 s2 := fun {p r ro} e O s1 s2 hp v => by
      subst hp
      cases r with
      | none => cases e; exact ⟨O, rfl, v⟩
      | some b =>
        simp only [joinR, Option.map_eq_some_iff] at e
        obtain ⟨Om, e1, e2⟩ := e
        obtain ⟨lm, rfl⟩ := meetO_some e1
        exact ⟨_, e2.symm, v.meetl (lm.symm.trans v.lenO)⟩
    have lb : ∀ {p r : Option OS} {ro : Option OS}, joinR p r = some ro → ∀ O s1 s2, r = some O → VR n O s1 s2 → ∃ O', ro = some O' ∧ VR n O' s1 s2 := fun {p r ro} e O s1 s2 hp v => by
      subst hp
      cases p with
      | none => cases e; exact ⟨O, rfl, v⟩
      | some b =>
        simp only [joinR, Option.map_eq_some_iff] at e
        obtain ⟨Om, e1, e2⟩ := e
        obtain ⟨lm, rfl⟩ := meetO_some e1
        exact ⟨_, e2.symm, v.meetr (lm.trans v.lenO)⟩
    split
    · exact (evSs_ok c a L _ _ _ _ c2 ht.2).mono fun x y hxy => hxy.mono (la c4)
    · exact (evSs_ok c b L _ _ _ _ c3 ht.2).mono fun x y hxy => hxy.mono (lb c4)
  | .for_ ik e1 e2 tg body, L, O, ro, s1, s2, q, h => by
    simp only [chkS', Option.bind_eq_some_iff] at q
    obtain ⟨O0, c1, Lf, c2, c0⟩ := q
    obtain ⟨c3, c4⟩ := gd_some c0
    clear c0
    cases c4
    rw [Bool.and_eq_true] at c3
    obtain ⟨O4, f1, f2⟩ := findL_ok c2
    simp only [Option.map_eq_some_iff] at f1
    obtain ⟨r, g1, rfl⟩ := f1
    simp only [evS, denS, denI]
    refine (it_ok h (fun O k O' s1 s2 => ev_ok c e1 O k O' s1 s2) (fun O k O' s1 s2 => ev_ok c e2 O k O' s1 s2) c1).bind fun i2 i1 hi => ?_
    rw [hi.1]
    exact forV_ok c3.2 f2 (fun t1 t2 ht => evSs_ok c body _ _ _ _ _ g1 ht) _ _ _ (hi.2.1.weak c3.1)
  | .whl d body, L, O, ro, s1, s2, q, h => by
    simp only [chkS', Option.bind_eq_some_iff] at q
    obtain ⟨Lf, c2, ⟨k, O1⟩, c1, c0⟩ := q
    obtain ⟨c3, c4⟩ := gd_some c0
    clear c0
    simp only [Option.map_eq_some_iff] at c4
    obtain ⟨Om, c5, c6⟩ := c4
    cases c6
    obtain ⟨lm, rfl⟩ := meetO_some c5
    obtain ⟨O4, f1, f2⟩ := findL_ok c2
    simp only [c1, Option.bind_some, Option.map_eq_some_iff] at f1
    obtain ⟨r, g1, rfl⟩ := f1
    simp only [evS, denS]
    refine whileV_ok f2 lm (fun t1 t2 ht => ?_) (fun t1 t2 ht => evSs_ok c body _ _ _ _ _ g1 ht) _ _ _ (h.weak c3)
    simp only [denT, tstV, tstR]
    exact (ev_ok c d _ _ _ _ _ c1 ht).bind fun x2 x1 ex => RR.r ex.dr (RR.l fun t et => RR.r et (.ok ⟨rfl, ex.vr⟩))
  | .pass, L, O, ro, s1, s2, q, h => by
    cases q
    simp only [evS, denS]
    exact .ok ⟨O, rfl, h⟩
  | .cont, L, O, ro, s1, s2, q, h => by
    simp only [evS, denS]
    cases L with
    | none => cases q
    | some L =>
      obtain ⟨c3, c4⟩ := gd_some q
      exact .ok ⟨L, rfl, h.weak c3⟩
  | .brk, L, O, ro, s1, s2, q, h => by
    simp only [evS, denS]
    cases L with
    | none => cases q
    | some L =>
      obtain ⟨c3, c4⟩ := gd_some q
      exact .ok ⟨L, rfl, h.weak c3⟩
  | .raise x, L, O, ro, s1, s2, q, h => by
    simp only [evS, denS]
    rfl
theorem evSs_ok (c : CR G C2 C1) : ∀ (ss : List IS) (L : Option OS) (O : OS) (ro : Option OS) (s1 : DEnv) (s2 : Fm), chkSs' G rk io L ss O = some ro → VR n O s1 s2 → RR (evSs C2 ss s2) (denSs C1 ss s1) (OuR n rk io L ro)
  | [], L, O, ro, s1, s2, q, h => by
    cases q
    simp only [evSs, denSs]
    exact .ok ⟨O, rfl, h⟩
  | st :: ss, L, O, ro, s1, s2, q, h => by
    simp only [chkSs', Option.bind_eq_some_iff] at q
    obtain ⟨p, c1, c2⟩ := q
    simp only [evSs, denSs]
    refine (evS_ok c st L O p s1 s2 c1 h).bind fun a b hab => ?_
    cases a <;> cases b <;> first | exact hab.elim | skip
    · obtain ⟨O1, e, v⟩ := hab
      subst e
      exact evSs_ok c ss L O1 ro _ _ c2 v
    · exact .ok hab
    · exact .ok hab
    · exact .ok hab
end
def startO (fd : FD) : OS := if fd.io then .iot :: List.replicate (fd.ns - 1) .val else List.replicate fd.ns .val
def chkF (G : Sg) (rk : Kd) (fd : FD) : Bool := decide (fd.np ≤ fd.ns) && (!fd.io || decide (1 ≤ fd.np)) && (match chkSs' G rk fd.io none fd.body (startO fd) with
  | none => false
  | some none => true
  | some (some O) => leK .v rk && io0 fd.io O)
theorem start_ok {fd : FD} {args : List D} (hl : args.length = fd.np) (h1 : fd.np ≤ fd.ns) (hio : fd.io = false) : VR fd.ns (startO fd) (startD fd (args.map .val)) (stF args) := by
  have e0 : startD fd (args.map .val) = args.map (fun d => some (S.val d)) ++ List.replicate (fd.ns - args.length) none := by simp [startD, List.map_map, Function.comp_def]
  rw [e0]
  refine ⟨by simp; omega, by simp [startO, hio], fun i x t e1 e2 => ?_, fun i x e1 => ?_⟩
  · simp only [startO, hio, Bool.false_eq_true, if_false] at e2
    have : t = .val := List.eq_of_mem_replicate (List.mem_of_getElem? e2)
    subst this
    rw [List.getElem?_append] at e1
    split at e1
    · simp only [List.getElem?_map, Option.map_eq_some_iff] at e1
      obtain ⟨d, _, rfl⟩ := e1
      rfl
    · have : x = none := List.eq_of_mem_replicate (List.mem_of_getElem? e1)
      subst this
      rfl
  · rw [List.getElem?_append] at e1
    unfold stF
    split at e1
    · simp only [List.getElem?_map, Option.map_eq_some_iff] at e1
      obtain ⟨d, e, rfl⟩ := e1
      rw [e]; rfl
    · rename_i q
      have : x = none := List.eq_of_mem_replicate (List.mem_of_getElem? e1)
      subst this
      simp at q
      rw [List.getElem?_eq_none (by omega)]; rfl
theorem start_io {fd : FD} {l args : List D} (hl : args.length + 1 = fd.np) (h1 : fd.np ≤ fd.ns) (hio : fd.io = true) : VR fd.ns (startO fd) (startD fd (.io l :: args.map .val)) (stF (.lst l :: args)) := by
  have e0 : startD fd (.io l :: args.map .val) = some (S.io l) :: (args.map (fun d => some (S.val d)) ++ List.replicate (fd.ns - (args.length + 1)) none) := by simp [startD, List.map_map, Function.comp_def]
  rw [e0]
  refine ⟨by simp; omega, by simp [startO, hio]; omega, fun i x t e1 e2 => ?_, fun i x e1 => ?_⟩
  · simp only [startO, hio, if_true] at e2
    cases i with
    | zero => simp at e1 e2; subst e1; subst e2; rfl
    | succ i =>
      simp only [List.getElem?_cons_succ] at e1 e2
      have : t = .val := List.eq_of_mem_replicate (List.mem_of_getElem? e2)
      subst this
      rw [List.getElem?_append] at e1
      split at e1
      · simp only [List.getElem?_map, Option.map_eq_some_iff] at e1
        obtain ⟨d, _, rfl⟩ := e1
        rfl
      · have : x = none := List.eq_of_mem_replicate (List.mem_of_getElem? e1)
        subst this
        rfl
  · cases i with
    | zero => simp at e1; subst e1; rfl
    | succ i =>
      unfold stF
      simp only [List.getElem?_cons_succ] at e1 ⊢
      rw [List.getElem?_append] at e1
      split at e1
      · simp only [List.getElem?_map, Option.map_eq_some_iff] at e1
        obtain ⟨d, e, rfl⟩ := e1
        rw [e]; rfl
      · rename_i q
        have : x = none := List.eq_of_mem_replicate (List.mem_of_getElem? e1)
        subst this
        simp at q
        rw [List.getElem?_eq_none (by omega)]; rfl
theorem runV_ok {fd : FD} (c : CR G C2 C1) (hf : chkF G rk fd = true) (as2 : List D) (as1 : List S) (hargs : (fd.io = false ∧ as1 = as2.map .val) ∨ (fd.io = true ∧ ∃ l ds, as2 = .lst l :: ds ∧ as1 = .io l :: ds.map .val)) :
    RR (runV C2 fd as2) (runF C1 fd as1) (fun a b => (fd.io = true → b.2 = a.2) ∧ oD b.1 = a.1 ∧ KR rk b.1 = true ∧ KR .u b.1 = true) := by
  unfold chkF at hf
  simp only [Bool.and_eq_true, Bool.or_eq_true, Bool.not_eq_true', decide_eq_true_eq] at hf
  obtain ⟨⟨h1, h2⟩, h3⟩ := hf
  unfold runV
  split
  · rename_i hq
    have hlen : as1.length = as2.length := by
      rcases hargs with ⟨_, rfl⟩ | ⟨_, l, ds, rfl, rfl⟩ <;> simp
    have hok : argsOk fd.io as1 = true := by
      rcases hargs with ⟨hi, rfl⟩ | ⟨hi, l, ds, rfl, rfl⟩
      · rw [hi]
        cases as2 with
        | nil => rfl
        | cons a as => simp [argsOk, S.isVal]
      · rw [hi]
        simp [argsOk, S.isVal]
    have hvr : VR fd.ns (startO fd) (startD fd as1) (stF as2) := by
      rcases hargs with ⟨hi, rfl⟩ | ⟨hi, l, ds, rfl, rfl⟩
      · exact start_ok hq.1 h1 hi
      · exact start_io (by simpa using hq.1) h1 hi
    unfold runF
    rw [if_pos ⟨by rw [hlen]; exact hq.1, hok⟩]
    cases hch : chkSs' G rk fd.io none fd.body (startO fd) with
    | none => rw [hch] at h3; cases h3
    | some ro =>
      rw [hch] at h3
      refine (evSs_ok c fd.body none _ ro _ _ hch hvr).bind fun a b hab => ?_
      have fin : ∀ (d : D) (o : Opd) (s1 : DEnv) (s2 : Fm), ((∃ q, leaveO s1 o = some q ∧ oD q = d ∧ KR rk q = true ∧ KR .u q = true) ∧ (fd.io = true → ∃ ds, ioFin s1 = some ds ∧ lstAt s2 0 = some ds)) → RR (leaveV fd.io d s2) (leaveD fd o s1) (fun a b => (fd.io = true → b.2 = a.2) ∧ oD b.1 = a.1 ∧ KR rk b.1 = true ∧ KR .u b.1 = true) := fun d o s1 s2 h => by
        obtain ⟨⟨w, e1, e2, e3, e4⟩, hio⟩ := h
        unfold leaveV leaveD
        refine RR.r e1 ?_
        cases hi : fd.io with
        | true =>
          obtain ⟨ds, e5, e6⟩ := hio hi
          simp only [if_true]
          rw [e5, e6]
          exact .ok ⟨fun _ => rfl, e2, e3, e4⟩
        | false => exact .ok ⟨fun z => by simp at z, e2, e3, e4⟩
      cases a <;> cases b <;> first | exact hab.elim | skip
      · obtain ⟨O, e, v⟩ := hab
        subst e
        rw [Bool.and_eq_true] at h3
        exact fin .non (.val .non) _ _ ⟨⟨.val .non, rfl, rfl, leK_ok h3.1 rfl rfl, rfl⟩, io_ok v h3.2⟩
      · exact fin _ _ _ _ hab
      · exact RR.bad
      · exact RR.bad
  · exact RR.bad
theorem callV_ok {T : Tab} (hT : ∀ f fd, T.lookup f = some fd → chkF G (G.rk f) fd = true) : ∀ n, CR G (caT T n) (calT T n)
  | 0 => ⟨rfl, fun f ds _ => RR.bad, fun f ds _ => RR.bad, fun f l ds _ => RR.bad⟩
  | n + 1 => by
    have ih := callV_ok hT n
    have lo : ∀ m, m ≤ n → CR G (caT T m) (calT T m) := fun m _ => callV_ok hT m
    have hio : ∀ f fd, T.lookup f = some fd → ioOf T f = fd.io := fun f fd e => by simp [ioOf, e]
    refine ⟨rfl, fun f ds h => ?_, fun f ds h => (lo (n + 1 - 2) (by omega)).run f ds h, fun f l ds h => ?_⟩
    · show RR (callV T (n + 1) f ds) (callF T (n + 1) f (ds.map .val)) _
      rw [callV_succ, callF_succ]
      cases e : T.lookup f with
      | none => exact RR.bad
      | some fd =>
        refine (runV_ok ih (hT f fd e) ds _ (.inl ⟨by rw [← hio f fd e]; exact h, rfl⟩)).mono fun a b hab => hab.2
    · show RR (callV T (n + 1) f (.lst l :: ds)) (callF T (n + 1) f (.io l :: ds.map .val)) _
      rw [callV_succ, callF_succ]
      cases e : T.lookup f with
      | none => exact RR.bad
      | some fd =>
        have hi : fd.io = true := by rw [← hio f fd e]; exact h
        exact (runV_ok ih (hT f fd e) (.lst l :: ds) _ (.inr ⟨hi, l, ds, rfl, rfl⟩)).mono fun a b hab => ⟨hab.1 hi, hab.2⟩
end
def chkT (T : Tab) (rk : List (String × Kd)) : Bool := T.all fun p => chkF ⟨fun f => (rk.lookup f).getD .u⟩ ((rk.lookup p.1).getD .u) p.2
theorem law_V {T : Tab} {rk : List (String × Kd)} (h : chkT T rk = true) {n : Nat} {f : String} {ns : List Int} {l : List D} (hio : ioOf T f = false) (e : callV T n f [.scr ns] = .ok (.bl true, l)) : ∃ ds, callF T n f [.val (.scr ns)] = .ok (.val (.bl true), ds) := by
  have c := callV_ok (G := ⟨fun f => (rk.lookup f).getD .u⟩) (T := T) (fun f fd ef => List.all_eq_true.mp h (f, fd) (by
    have : ∀ {l : List (String × FD)}, l.lookup f = some fd → (f, fd) ∈ l := fun {l} => by
      induction l with
      | nil => intro h; cases h
      | cons p l ih =>
        intro h
        obtain ⟨x, y⟩ := p
        rw [List.lookup_cons] at h
        split at h
        · rename_i q
          cases h
          have := eq_of_beq q
          subst this
          exact List.mem_cons_self
        · exact List.mem_cons_of_mem _ (ih h)
    exact this ef)) n
  have r := c.run f [.scr ns] hio
  have e' : (caT T n).call f [.scr ns] = .ok (.bl true, l) := e
  rw [e'] at r
  obtain ⟨⟨o, ds⟩, e1, e2, e3, e4⟩ := r
  refine ⟨ds, ?_⟩
  have : o = .val (.bl true) := by
    cases o with
    | val d => exact congrArg Opd.val e2
    | fresh l => cases e2
    | slot i => cases e4
  rw [← this]
  exact e1
end Cv
set_option maxRecDepth 100000
set_option maxHeartbeats 1000000
/-! Tools to tell what IR text computes, by its second meaning. -/
namespace Cv
section
variable {α β : Type}
@[simp] theorem R.bindOk (a : α) (f : α → R β) : (R.ok a).bind f = f a := Eq.trans rfl rfl
@[simp] theorem R.bindExn (c : String) (f : α → R β) : (R.exn c).bind f = .exn c := Eq.trans rfl rfl
@[simp] theorem R.ofO_some (a : α) : R.ofO (some a) = .ok a := Eq.trans rfl rfl
@[simp] theorem noX_ok (a : α) : noX (R.ok a) = .ok a := Eq.trans rfl rfl
def Ok (r : R α) (P : α → Prop) : Prop := ∃ a, r = .ok a ∧ P a
theorem Ok.mk {a : α} {P : α → Prop} (h : P a) : Ok (.ok a) P := ⟨a, rfl, h⟩
@[simp] theorem Ok_ok {a : α} {P : α → Prop} : Ok (.ok a) P ↔ P a := ⟨fun ⟨_, e, h⟩ => by cases e; exact h, fun h => ⟨a, rfl, h⟩⟩
theorem Ok.bind {r : R α} {f : α → R β} {P : β → Prop} (h : Ok r fun a => Ok (f a) P) : Ok (r.bind f) P := by
  obtain ⟨a, e, b, e2, h⟩ := h
  exact ⟨b, by rw [e]; exact e2, h⟩
theorem Ok.bind2 {r : R α} {Q : α → Prop} {f : α → R β} {P : β → Prop} (h : Ok r Q) (k : ∀ a, Q a → Ok (f a) P) : Ok (r.bind f) P := by
  obtain ⟨a, e, h⟩ := h
  rw [e]
  exact k a h
theorem Ok.imp {r : R α} {P Q : α → Prop} (h : Ok r P) (k : ∀ a, P a → Q a) : Ok r Q := by
  obtain ⟨a, e, h⟩ := h
  exact ⟨a, e, k a h⟩
end
/-! ### data -/
@[simp] theorem truD_bl (b : Bool) : truD (.bl b) = some b := Eq.trans rfl rfl
@[simp] theorem truD_tup (l : List D) : truD (.tup l) = some (!l.isEmpty) := Eq.trans rfl rfl
@[simp] theorem truD_lst (l : List D) : truD (.lst l) = some (!l.isEmpty) := Eq.trans rfl rfl
@[simp] theorem cmpD_lt (i j : Int) : cmpD .lt (.int i) (.int j) = some (decide (i < j)) := Eq.trans rfl rfl
@[simp] theorem cmpD_le (i j : Int) : cmpD .le (.int i) (.int j) = some (decide (i ≤ j)) := Eq.trans rfl rfl
@[simp] theorem cmpD_gt (i j : Int) : cmpD .gt (.int i) (.int j) = some (decide (j < i)) := Eq.trans rfl rfl
@[simp] theorem cmpD_ge (i j : Int) : cmpD .ge (.int i) (.int j) = some (decide (j ≤ i)) := Eq.trans rfl rfl
@[simp] theorem cmpD_eqI (i j : Int) : cmpD .eq (.int i) (.int j) = some (i == j) := Eq.trans rfl rfl
@[simp] theorem cmpD_neI (i j : Int) : cmpD .ne (.int i) (.int j) = some (!(i == j)) := Eq.trans rfl rfl
@[simp] theorem cmpD_eqB (i j : Bool) : cmpD .eq (.bl i) (.bl j) = some (i == j) := Eq.trans rfl rfl
@[simp] theorem cmpD_neB (i j : Bool) : cmpD .ne (.bl i) (.bl j) = some (!(i == j)) := Eq.trans rfl rfl
@[simp] theorem cmpD_isN : cmpD .isN .non .non = some true := Eq.trans rfl rfl
@[simp] theorem cmpD_notN : cmpD .notN .non .non = some false := Eq.trans rfl rfl
@[simp] theorem cmpD_isN_i (i : Int) : cmpD .isN (.int i) .non = some false := Eq.trans rfl rfl
@[simp] theorem cmpD_notN_i (i : Int) : cmpD .notN (.int i) .non = some true := Eq.trans rfl rfl
@[simp] theorem cmpD_isN_t (i : List D) : cmpD .isN (.tup i) .non = some false := Eq.trans rfl rfl
@[simp] theorem cmpD_notN_t (i : List D) : cmpD .notN (.tup i) .non = some true := Eq.trans rfl rfl
@[simp] theorem binD_add (i j : Int) : binD .add (.int i) (.int j) = some (.val (.int (i + j))) := Eq.trans rfl rfl
@[simp] theorem binD_sub (i j : Int) : binD .sub (.int i) (.int j) = some (.val (.int (i - j))) := Eq.trans rfl rfl
theorem binD_mul {i j : Int} (h : j.natAbs < 18446744073709551616) : binD .mul (.int i) (.int j) = some (.val (.int (i * j))) := by
  simp [binD, mulOk, h]
theorem binD_mul' {i j : Int} (h : i.natAbs < 18446744073709551616) : binD .mul (.int i) (.int j) = some (.val (.int (i * j))) := by
  simp [binD, mulOk, h]
theorem binD_mod {i j : Int} (h : 0 < j) : binD .mod (.int i) (.int j) = some (.val (.int (i % j))) := by simp [binD, h]
theorem binD_fdiv {i j : Int} (h : 0 < j) (h2 : j < 1073741824) : binD .fdiv (.int i) (.int j) = some (.val (.int (i / j))) := by simp [binD, h, h2]
@[simp] theorem binD_mod2 (i : Int) : binD .mod (.int i) (.int 2) = some (.val (.int (i % 2))) := by simp [binD]
@[simp] theorem binD_fdiv2 (i : Int) : binD .fdiv (.int i) (.int 2) = some (.val (.int (i / 2))) := by simp [binD]
theorem divmod_ok {i j : Int} (h : 0 < j) (h2 : j < 1073741824) : bltD "divmod" [.int i, .int j] = some (.val (.tup [.int (i / j), .int (i % j)])) := by simp [bltD, h, h2]
theorem binD_addL {a b : List D} (h : a.length + b.length ≤ lim) : binD .add (.lst a) (.lst b) = some (.fresh (a ++ b)) := by simp [binD, h]
theorem binD_addT {a b : List D} (h : a.length + b.length ≤ lim) : binD .add (.tup a) (.tup b) = some (.val (.tup (a ++ b))) := by simp [binD, h]
@[simp] theorem oD_val (d : D) : oD (.val d) = d := Eq.trans rfl rfl
@[simp] theorem oD_fresh (d : List D) : oD (.fresh d) = .lst d := Eq.trans rfl rfl
@[simp] theorem blt_lenT (l : List D) : bltD "len" [.tup l] = some (.val (.int l.length)) := by simp [bltD]
@[simp] theorem blt_lenL (l : List D) : bltD "len" [.lst l] = some (.val (.int l.length)) := by simp [bltD]
@[simp] theorem blt_lenS (l : List Int) : bltD "len" [.scr l] = some (.val (.int l.length)) := by simp [bltD]
@[simp] theorem blt_tupL (l : List D) : bltD "tuple" [.lst l] = some (.val (.tup l)) := by simp [bltD]
@[simp] theorem blt_tupT (l : List D) : bltD "tuple" [.tup l] = some (.val (.tup l)) := by simp [bltD]
@[simp] theorem blt_lstL (l : List D) : bltD "list" [.lst l] = some (.fresh l) := by simp [bltD]
@[simp] theorem blt_lstT (l : List D) : bltD "list" [.tup l] = some (.fresh l) := by simp [bltD]
@[simp] theorem blt_abs (i : Int) : bltD "abs" [.int i] = some (.val (.int (if i < 0 then -i else i))) := by simp [bltD]
@[simp] theorem blt_intI (i : Int) : bltD "int" [.int i] = some (.val (.int i)) := by simp [bltD]
@[simp] theorem blt_intB (b : Bool) : bltD "int" [.bl b] = some (.val (.int (if b then 1 else 0))) := by simp [bltD]
@[simp] theorem blt_max (i j : Int) : bltD "max" [.int i, .int j] = some (.val (.int (if j > i then j else i))) := by simp [bltD]
@[simp] theorem blt_min (i j : Int) : bltD "min" [.int i, .int j] = some (.val (.int (if j < i then j else i))) := by simp [bltD]
@[simp] theorem idx_t0 (a : D) (l : List D) : idxD (.tup (a :: l)) (.int 0) = some a := by simp [idxD, atD, L2.atI, L2.ixN]
@[simp] theorem idx_t1 (a b : D) (l : List D) : idxD (.tup (a :: b :: l)) (.int 1) = some b := by
  have h : (1 : Int) < (l.length : Int) + 1 + 1 := by omega
  simp [idxD, atD, L2.atI, L2.ixN, h]
@[simp] theorem idx_l0 (a : D) (l : List D) : idxD (.lst (a :: l)) (.int 0) = some a := by simp [idxD, atD, L2.atI, L2.ixN]
@[simp] theorem idx_l1 (a b : D) (l : List D) : idxD (.lst (a :: b :: l)) (.int 1) = some b := by
  have h : (1 : Int) < (l.length : Int) + 1 + 1 := by omega
  simp [idxD, atD, L2.atI, L2.ixN, h]
@[simp] theorem isiD_bl (b : Bool) : isiD "bool" (.bl b) = some true := by simp [isiD]
@[simp] theorem isiD_lst (b : List D) : isiD "list" (.lst b) = some true := by simp [isiD]
@[simp] theorem isiD_tup (b : List D) : isiD "tuple" (.tup b) = some true := by simp [isiD]
@[simp] theorem isiD_int (b : Int) : isiD "int" (.int b) = some true := by simp [isiD]
@[simp] theorem isiD_intb (b : Int) : isiD "bool" (.int b) = some false := by simp [isiD]
/-! ### frames -/
@[simp] theorem up_get {s : Fm} {i j : Nat} {d : D} : up s i d j = if j = i then some d else s j := Eq.trans rfl rfl
@[simp] theorem up_up {s : Fm} {i : Nat} {a b : D} : up (up s i a) i b = up s i b := by
  funext j
  simp only [up_get]
  split <;> simp_all
@[simp] theorem stF_get {l : List D} {i : Nat} : stF l i = l[i]? := Eq.trans rfl rfl
theorem up_self {s : Fm} {i : Nat} {d : D} (h : s i = some d) : up s i d = s := by
  funext j
  simp only [up_get]
  split
  · rename_i q; rw [q, h]
  · rfl
@[simp] theorem backF_up {s : Fm} {i : Nat} {d : D} : backF s (up s i d) [i] = s := by
  funext j
  simp only [backF, up_get, List.contains_cons, List.contains_nil, Bool.or_false]
  split
  · rfl
  · rename_i q
    rw [if_neg (by simpa using q)]
@[simp] theorem backF_self {s : Fm} {l : List Nat} : backF s s l = s := by
  funext j
  simp only [backF]
  split <;> rfl
@[simp] theorem lstAt_eq {s : Fm} {i : Nat} : lstAt s i = match s i with | some (.lst ds) => some ds | _ => none := Eq.trans rfl rfl
/-! ### the meaning, form by form -/
section
variable {C : Ca} {s : Fm}
@[simp] theorem eE_var {i : Nat} : evE C (.var i) s = match s i with | some d => .ok (d, s) | none => .bad := by simp only [evE] <;> rfl
@[simp] theorem eE_cst {d : D} : evE C (.cst d) s = .ok (d, s) := by simp only [evE]
@[simp] theorem eE_glob {x : String} {d : D} : evE C (.glob x d) s = .ok (d, s) := by simp only [evE]
@[simp] theorem eE_tup {es : List IE} : evE C (.tup es) s = (evEs C es s).bind fun r => .ok (.tup r.1, r.2) := by simp only [evE]
@[simp] theorem eE_lst {es : List IE} : evE C (.lst es) s = (evEs C es s).bind fun r => .ok (.lst r.1, r.2) := by simp only [evE]
@[simp] theorem eE_bin {op : Bop} {a b : IE} : evE C (.bin op a b) s = (evE C a s).bind fun x => (evE C b x.2).bind fun y => (R.ofO (binD op x.1 y.1)).bind fun r => .ok (oD r, y.2) := by simp only [evE]
@[simp] theorem eE_neg {i : Int} : evE C (.neg (.cst (.int i))) s = .ok (.int (-i), s) := by simp only [evE, R.bindOk]
@[simp] theorem eE_cmp {op : Cop} {a b : IE} : evE C (.cmp op a b) s = (evE C a s).bind fun x => (evE C b x.2).bind fun y => (R.ofO (cmpD op x.1 y.1)).bind fun r => .ok (.bl r, y.2) := by simp only [evE]
@[simp] theorem eE_chain {o1 o2 : Cop} {a b c : IE} : evE C (.chain o1 o2 a b c) s = (evE C a s).bind fun x => (evE C b x.2).bind fun y => (R.ofO (cmpD o1 x.1 y.1)).bind fun r =>
      if r then (evE C c y.2).bind fun z => (R.ofO (cmpD o2 y.1 z.1)).bind fun r => .ok (.bl r, z.2) else .ok (.bl false, y.2) := by simp only [evE]
@[simp] theorem eE_and {a b : IE} : evE C (.and_ a b) s = (evE C a s).bind fun x => (R.ofO (truD x.1)).bind fun t => if t then evE C b x.2 else .ok (x.1, x.2) := by simp only [evE]
@[simp] theorem eE_or {a b : IE} : evE C (.or_ a b) s = (evE C a s).bind fun x => (R.ofO (truD x.1)).bind fun t => if t then .ok (x.1, x.2) else evE C b x.2 := by simp only [evE]
@[simp] theorem eE_not {a : IE} : evE C (.not_ a) s = (evE C a s).bind fun x => (R.ofO (truD x.1)).bind fun t => .ok (.bl (!t), x.2) := by simp only [evE]
@[simp] theorem eE_ite {c a b : IE} : evE C (.ite c a b) s = (evE C c s).bind fun x => (R.ofO (truD x.1)).bind fun t => if t then evE C a x.2 else evE C b x.2 := by simp only [evE]
@[simp] theorem eE_idx {a b : IE} : evE C (.idx a b) s = (evE C a s).bind fun x => (evE C b x.2).bind fun y => (R.ofO (idxD x.1 y.1)).bind fun r => .ok (r, y.2) := by simp only [evE]
@[simp] theorem eE_slc {a lo hi : IE} {l h : Bool} : evE C (.slc a l h lo hi) s = (evE C a s).bind fun x => (if l then evE C lo x.2 else .ok (.non, x.2)).bind fun y => (R.ofO (optI l y.1)).bind fun i =>
      (if h then evE C hi y.2 else .ok (.non, y.2)).bind fun z => (R.ofO (optI h z.1)).bind fun j => (R.ofO (slcD i j x.1)).bind fun r => .ok (oD r, z.2) := by simp only [evE]
@[simp] theorem eE_isi {a : IE} {ty : String} : evE C (.isi a ty) s = (evE C a s).bind fun x => (R.ofO (isiD ty x.1)).bind fun r => .ok (.bl r, x.2) := by simp only [evE]
@[simp] theorem eE_call {f : String} {es : List IE} : evE C (.call f es) s = if C.io f then .bad else (evEs C es s).bind fun r => (C.call f r.1).bind fun q => .ok (q.1, r.2) := by simp only [evE]
@[simp] theorem eE_callIo {f : String} {i : Nat} {es : List IE} : evE C (.callIo f i es) s = if C.io f then (evEs C es s).bind fun r => (R.ofO (lstAt r.2 i)).bind fun ds => (C.call f (.lst ds :: r.1)).bind fun q => .ok (q.1, up r.2 i (.lst q.2)) else .bad := by simp only [evE]
@[simp] theorem eE_fv {f : String} : evE C (.fv f) s = .ok (.fn f, s) := by simp only [evE]
theorem eE_callL {i : Nat} {es : List IE} {f : String} (h : s i = some (.fn f)) : evE C (.callL i es) s = if C.io f then .bad else (evEs C es s).bind fun r => (C.call f r.1).bind fun q => .ok (q.1, r.2) := by simp only [evE, h]
theorem eE_lam {told : Bool} {g : IE} {es : List IE} {f : String} (ha : es.all isArg = true) (hf : calleeV s g = some f) (hio : C.io f = false) : evE C (.lam told g es) s = (noX (evEs C es s)).bind fun r => lamV told (C.lam f r.1) r.2 := by simp only [evE, ha, hf, hio, if_true, Bool.false_eq_true, if_false]
@[simp] theorem eE_lamF {told : Bool} {f : String} {es : List IE} : evE C (.lam told (.fv f) es) s = if es.all isArg then (if C.io f then .bad else (noX (evEs C es s)).bind fun r => lamV told (C.lam f r.1) r.2) else .bad := by simp only [evE, calleeV]
@[simp] theorem lamV_ok {told : Bool} {q : D × List D} : lamV told (.ok q) s = .ok (if told then q.1 else .lst [], s) := Eq.trans rfl rfl
theorem lamV_exn {told : Bool} {c : String} {j : Nat} (h : placeOf c = some j) : lamV told (.exn c) s = .ok (.lst [.int (j : Nat)], s) := by simp only [lamV, h]
@[simp] theorem isArg_var {i : Nat} : isArg (.var i) = true := Eq.trans rfl rfl
@[simp] theorem isArg_cst {d : D} : isArg (.cst d) = true := Eq.trans rfl rfl
@[simp] theorem isArg_idx {i : Nat} {k : Int} : isArg (.idx (.var i) (.cst (.int k))) = true := Eq.trans rfl rfl
@[simp] theorem eE_op1 {a : IE} {o : String} : evE C (.op1 o a) s = (evE C a s).bind fun x => (R.ofO (op1D o x.1)).bind fun r => .ok (oD r, x.2) := by simp only [evE]
@[simp] theorem eE_stp {a : IE} {lo : Option Int} {st : Int} : evE C (.stp a lo st) s = (evE C a s).bind fun x => (R.ofO (stpD lo st x.1)).bind fun r => .ok (oD r, x.2) := by simp only [evE]
@[simp] theorem cmpD_isB (i j : Bool) : cmpD .isN (.bl i) (.bl j) = some (i == j) := Eq.trans rfl rfl
@[simp] theorem cmpD_notB (i j : Bool) : cmpD .notN (.bl i) (.bl j) = some (!(i == j)) := Eq.trans rfl rfl
@[simp] theorem eE_blt {f : String} {es : List IE} : evE C (.blt f es) s = (evEs C es s).bind fun r => (R.ofO (bltD f r.1)).bind fun q => .ok (oD q, r.2) := by simp only [evE]
@[simp] theorem eE_rng1 {tp : Bool} {a b : IE} : evE C (.rngOf tp false a b) s = (evE C a s).bind fun x => (R.ofO (itemsD .rng1 x.1 x.1)).bind fun ds => .ok (if tp then .tup ds else .lst ds, x.2) := by
  simp only [evE, Bool.false_eq_true, if_false]
  cases evE C a s <;> rfl
@[simp] theorem eE_rng2 {tp : Bool} {a b : IE} : evE C (.rngOf tp true a b) s = (evE C a s).bind fun x => (evE C b x.2).bind fun y => (R.ofO (itemsD .rng2 x.1 y.1)).bind fun ds => .ok (if tp then .tup ds else .lst ds, y.2) := by
  simp only [evE, if_true]
@[simp] theorem eE_meth {m : Mth} {i : Nat} {es : List IE} : evE C (.meth m i es) s = (evEs C es s).bind fun q => (R.ofO (lstAt q.2 i)).bind fun ds => (R.ofO (methD m ds q.1)).bind fun w => .ok (w.1, up q.2 i (.lst w.2)) := by simp only [evE]
@[simp] theorem eE_extend {i : Nat} {e : IE} : evE C (.extend i e) s = (evE C e s).bind fun x => (R.ofO (lstAt x.2 i)).bind fun ds => match x.1 with
    | .lst zs => if ds.length + zs.length ≤ lim then .ok (.non, up x.2 i (.lst (ds ++ zs))) else .bad
    | _ => .bad := by simp only [evE] <;> rfl
@[simp] theorem eEs_nil : evEs C [] s = .ok ([], s) := by simp only [evEs]
@[simp] theorem eEs_cons {e : IE} {es : List IE} : evEs C (e :: es) s = (evE C e s).bind fun x => (evEs C es x.2).bind fun r => .ok (x.1 :: r.1, r.2) := by simp only [evEs]
@[simp] theorem eS_asg {i : Nat} {e : IE} : evS C (.asg (.name i) e) s = (evE C e s).bind fun x => .ok (.next (up x.2 i x.1)) := by simp only [evS, upT, R.ofO_some, R.bindOk]
@[simp] theorem eS_asgT {is : List Nat} {e : IE} : evS C (.asg (.tup is) e) s = (evE C e s).bind fun x => (R.ofO (upT x.2 (.tup is) x.1)).bind fun s1 => .ok (.next s1) := by simp only [evS]
@[simp] theorem upT_tup {is : List Nat} {ds : List D} : upT s (.tup is) (.tup ds) = upNs s is ds := Eq.trans rfl rfl
@[simp] theorem upNs_nil : upNs s [] [] = some s := Eq.trans rfl rfl
@[simp] theorem upNs_cons {i : Nat} {is : List Nat} {d : D} {ds : List D} : upNs s (i :: is) (d :: ds) = upNs (up s i d) is ds := Eq.trans rfl rfl
@[simp] theorem eS_par {i j : Nat} {a b : IE} : evS C (.par i j a b) s = if i = j then .bad else (evE C a s).bind fun x => (evE C b x.2).bind fun y => .ok (.next (up (up y.2 i x.1) j y.1)) := by simp only [evS]
@[simp] theorem eS_sub {i : Nat} {ix e : IE} : evS C (.sub i ix e) s = (evE C e s).bind fun x => (evE C ix x.2).bind fun y => (R.ofO (lstAt y.2 i)).bind fun ds => match y.1 with
    | .int k => (R.ofO (L2.ixN ds.length k)).bind fun j => .ok (.next (up y.2 i (.lst (ds.set j x.1))))
    | _ => .bad := by simp only [evS] <;> rfl
@[simp] theorem eS_expr {e : IE} : evS C (.expr e) s = (evE C e s).bind fun x => .ok (.next x.2) := by simp only [evS]
@[simp] theorem eS_ret {e : IE} : evS C (.ret e) s = (evE C e s).bind fun x => .ok (.ret x.1 x.2) := by simp only [evS]
@[simp] theorem eS_retN : evS C .retN s = .ok (.ret .non s) := by simp only [evS]
@[simp] theorem eS_if {c : IE} {a b : List IS} : evS C (.ife c a b) s = (evE C c s).bind fun x => (R.ofO (truD x.1)).bind fun t => if t then evSs C a x.2 else evSs C b x.2 := by
  simp only [evS, tstV]
  cases evE C c s with
  | ok x =>
    simp only [R.bindOk]
    cases truD x.1 <;> rfl
  | exn c => rfl
  | bad => rfl
def bodV (C : Ca) (body : List IS) (s : Fm) : R Ou := evSs C body s
def tesV (C : Ca) (c : IE) (s : Fm) : R (Bool × Fm) := tstV (fun s => evE C c s) s
def setV (tg : Tgt) (s : Fm) (d : D) : Option Fm := upT s tg d
@[simp] theorem setV_name {i : Nat} {d : D} : setV (.name i) s d = some (up s i d) := Eq.trans rfl rfl
@[simp] theorem setV_tupL {is : List Nat} {ds : List D} : setV (.tup is) s (.lst ds) = upNs s is ds := Eq.trans rfl rfl
@[simp] theorem setV_tup {is : List Nat} {ds : List D} : setV (.tup is) s (.tup ds) = upNs s is ds := Eq.trans rfl rfl
@[simp] theorem eS_for {k : ItK} {e1 e2 : IE} {tg : Tgt} {body : List IS} : evS C (.for_ k e1 e2 tg body) s = (itV k (evE C e1) (evE C e2) s).bind fun it => forV (setV tg) (bodV C body) it.1 it.2 := by
  simp only [evS] <;> rfl
@[simp] theorem eS_whl {c : IE} {body : List IS} : evS C (.whl c body) s = whileV (tesV C c) (bodV C body) wfuel s := by
  simp only [evS] <;> rfl
@[simp] theorem eS_pass : evS C .pass s = .ok (.next s) := by simp only [evS]
@[simp] theorem eS_cont : evS C .cont s = .ok (.cont s) := by simp only [evS]
@[simp] theorem eS_brk : evS C .brk s = .ok (.brk s) := by simp only [evS]
@[simp] theorem eS_raise {c : String} : evS C (.raise c) s = .exn c := by simp only [evS]
@[simp] theorem eSs_nil : evSs C [] s = .ok (.next s) := by simp only [evSs]
@[simp] theorem eSs_cons {st : IS} {r : List IS} : evSs C (st :: r) s = (evS C st s).bind fun o => match o with
    | .next s1 => evSs C r s1
    | o => .ok o := by simp only [evSs] <;> rfl
variable {m1 m2 : Fm → R (D × Fm)}
@[simp] theorem itv_seq : itV .seq m1 m2 s = (m1 s).bind fun x => (R.ofO (itemsD .seq x.1 .non)).bind fun ds => .ok (ds, x.2) := Eq.trans rfl rfl
@[simp] theorem itv_rng1 : itV .rng1 m1 m2 s = (m1 s).bind fun x => (R.ofO (itemsD .rng1 x.1 .non)).bind fun ds => .ok (ds, x.2) := Eq.trans rfl rfl
@[simp] theorem itv_enum : itV .enum m1 m2 s = (m1 s).bind fun x => (R.ofO (itemsD .enum x.1 .non)).bind fun ds => .ok (ds, x.2) := Eq.trans rfl rfl
@[simp] theorem itv_rev : itV .rev m1 m2 s = (m1 s).bind fun x => (R.ofO (itemsD .rev x.1 .non)).bind fun ds => .ok (ds, x.2) := Eq.trans rfl rfl
@[simp] theorem itv_rng2 : itV .rng2 m1 m2 s = (m1 s).bind fun x => (m2 x.2).bind fun y => (R.ofO (itemsD .rng2 x.1 y.1)).bind fun ds => .ok (ds, y.2) := Eq.trans rfl rfl
@[simp] theorem itv_zip : itV .zip m1 m2 s = (m1 s).bind fun x => (m2 x.2).bind fun y => (R.ofO (itemsD .zip x.1 y.1)).bind fun ds => .ok (ds, y.2) := Eq.trans rfl rfl
@[simp] theorem items_tup {ds : List D} : itemsD .seq (.tup ds) .non = some ds := Eq.trans rfl rfl
@[simp] theorem items_lst {ds : List D} : itemsD .seq (.lst ds) .non = some ds := Eq.trans rfl rfl
@[simp] theorem items_enum {ds : List D} : itemsD .enum (.lst ds) .non = some (enumD 0 ds) := Eq.trans rfl rfl
@[simp] theorem items_revT {ds : List D} : itemsD .rev (.tup ds) .non = some ds.reverse := Eq.trans rfl rfl
@[simp] theorem items_revL {ds : List D} : itemsD .rev (.lst ds) .non = some ds.reverse := Eq.trans rfl rfl
end
/-! ### numbers and tuples of numbers -/
abbrev nI (i : Nat) : D := .int i
abbrev tN (l : List Nat) : D := .tup (l.map nI)
theorem itm_rng1 {d : D} {m : Nat} (h : m ≤ 1000) : itemsD .rng1 (.int m) d = some ((List.range m).map nI) := by
  have : rngOk 0 (m : Int) = true := by simp [rngOk, lim]; omega
  simp only [itemsD, this, if_true, rngD]
  congr 1
  have e : ((m : Int) - 0).toNat = m := by omega
  rw [e]
  apply List.map_congr_left
  intro i _
  simp [nI]
theorem itm_rng2 {a b : Nat} (h : a ≤ 1000) (h2 : b ≤ 1000) : itemsD .rng2 (.int a) (.int b) = some (((List.range (b - a)).map (a + ·)).map nI) := by
  have : rngOk (a : Int) (b : Int) = true := by simp [rngOk, lim]; omega
  simp only [itemsD, this, if_true, rngD]
  congr 1
  have e : ((b : Int) - (a : Int)).toNat = b - a := by omega
  rw [e, List.map_map]
  apply List.map_congr_left
  intro i _
  simp [nI]
/-! ### loops -/
def nx (I : Fm → Prop) : Ou → Prop
  | .next s => I s
  | .cont s => I s
  | _ => False
@[simp] theorem nx_next {I : Fm → Prop} {s : Fm} : nx I (.next s) = I s := Eq.trans rfl rfl
@[simp] theorem nx_cont {I : Fm → Prop} {s : Fm} : nx I (.cont s) = I s := Eq.trans rfl rfl
section
variable {set : Fm → D → Option Fm} {body : Fm → R Ou} {C : Ca} {s : Fm} {i : Nat} {bd : List IS}
theorem for_ok (I : Fm → Prop) : ∀ {ds : List D} {s : Fm}, I s → (∀ (s : Fm) (d : D), d ∈ ds → I s → ∃ s1, set s d = some s1 ∧ Ok (body s1) (nx I)) → Ok (forV set body ds s) fun o => ∃ s', o = .next s' ∧ I s'
  | [], s, h, _ => ⟨_, rfl, s, rfl, h⟩
  | d :: ds, s, h, k => by
    obtain ⟨s1, e1, o, e2, h2⟩ := k s d (by simp) h
    have ih := fun s' h => for_ok I (ds := ds) (s := s') h fun s d hd hs => k s d (by simp [hd]) hs
    simp only [forV, e1, R.ofO_some, R.bindOk, e2]
    cases o with
    | next s2 => exact ih s2 h2
    | cont s2 => exact ih s2 h2
    | brk _ => exact h2.elim
    | ret _ _ => exact h2.elim
/-- for x in ds, x in slot i -/
theorem forN (I : Fm → Prop) {ds : List D} (h : I s) (k : ∀ (s : Fm) (d : D), d ∈ ds → I s → Ok (evSs C bd (up s i d)) (nx I)) : Ok (forV (setV (.name i)) (bodV C bd) ds s) fun o => ∃ s', o = .next s' ∧ I s' :=
  for_ok I h fun s d hd hs => ⟨_, rfl, k s d hd hs⟩
theorem forNB {β : Type} {dec : β → D} (I : Fm → Prop) {bs : List β} (h : I s) (k : ∀ (s : Fm) (b : β), b ∈ bs → I s → Ok (evSs C bd (up s i (dec b))) (nx I)) : Ok (forV (setV (.name i)) (bodV C bd) (bs.map dec) s) fun o => ∃ s', o = .next s' ∧ I s' :=
  forN I h fun s d hd hs => by
    obtain ⟨b, hb, rfl⟩ := List.mem_map.mp hd
    exact k s b hb hs
/-- a loop with an accumulator: the frame told by an invariant I a s -/
theorem forA {α β : Type} {dec : β → D} (I : α → Fm → Prop) (f : α → β → α) : ∀ {bs : List β} {a : α} {s : Fm}, I a s → (∀ (s : Fm) (a : α) (b : β), b ∈ bs → I a s → Ok (evSs C bd (up s i (dec b))) (nx (I (f a b)))) → Ok (forV (setV (.name i)) (bodV C bd) (bs.map dec) s) fun o => ∃ s', o = .next s' ∧ I (bs.foldl f a) s'
  | [], a, s, h, _ => ⟨_, rfl, s, rfl, h⟩
  | b :: bs, a, s, h, k => by
    obtain ⟨o, e2, h2⟩ := k s a b (by simp) h
    have ih := fun s' h => forA (dec := dec) I f (bs := bs) (a := f a b) (s := s') h fun s a b hb hs => k s a b (by simp [hb]) hs
    simp only [List.map_cons, forV, setV_name, R.ofO_some, R.bindOk]
    rw [show bodV C bd (up s i (dec b)) = .ok o from e2]
    simp only [R.bindOk, List.foldl_cons]
    cases o with
    | next s2 => exact ih s2 h2
    | cont s2 => exact ih s2 h2
    | brk _ => exact h2.elim
    | ret _ _ => exact h2.elim
/-- the same with a bound of the turns done -/
theorem forK {α β : Type} {dec : β → D} (I : Nat → α → Fm → Prop) (f : α → β → α) (N : Nat) : ∀ {bs : List β} {a : α} {s : Fm} {k : Nat}, I k a s → k + bs.length ≤ N → (∀ (s : Fm) (a : α) (b : β) (k : Nat), b ∈ bs → k < N → I k a s → Ok (evSs C bd (up s i (dec b))) (nx (I (k + 1) (f a b)))) → Ok (forV (setV (.name i)) (bodV C bd) (bs.map dec) s) fun o => ∃ s', o = .next s' ∧ ∃ k, k ≤ N ∧ I k (bs.foldl f a) s'
  | [], a, s, k, h, hk, _ => ⟨_, rfl, s, rfl, k, by simpa using hk, h⟩
  | b :: bs, a, s, k, h, hk, q => by
    simp only [List.length_cons] at hk
    obtain ⟨o, e2, h2⟩ := q s a b k (by simp) (by omega) h
    have ih := fun s' h => forK (dec := dec) I f N (bs := bs) (a := f a b) (s := s') (k := k + 1) h (by omega) fun s a b k hb hk hs => q s a b k (by simp [hb]) hk hs
    simp only [List.map_cons, forV, setV_name, R.ofO_some, R.bindOk]
    rw [show bodV C bd (up s i (dec b)) = .ok o from e2]
    simp only [R.bindOk, List.foldl_cons]
    cases o with
    | next s2 => exact ih s2 h2
    | cont s2 => exact ih s2 h2
    | brk _ => exact h2.elim
    | ret _ _ => exact h2.elim
/-- a loop that returns v at the first item of which p holds -/
theorem forF {β : Type} {dec : β → D} (I : Fm → Prop) (p : β → Bool) (v : β → D) : ∀ {bs : List β} {s : Fm}, I s → (∀ (s : Fm) (b : β), b ∈ bs → I s → if p b then ∃ s', evSs C bd (up s i (dec b)) = .ok (.ret (v b) s') else Ok (evSs C bd (up s i (dec b))) (nx I)) → Ok (forV (setV (.name i)) (bodV C bd) (bs.map dec) s) fun o => match bs.find? p with
      | some b => ∃ s', o = .ret (v b) s'
      | none => ∃ s', o = .next s' ∧ I s'
  | [], s, h, _ => ⟨_, rfl, s, rfl, h⟩
  | b :: bs, s, h, k => by
    have hb := k s b (by simp) h
    simp only [List.map_cons, forV, setV_name, R.ofO_some, R.bindOk, List.find?_cons]
    cases hp : p b with
    | true =>
      rw [hp] at hb
      obtain ⟨s', e⟩ := hb
      rw [show bodV C bd (up s i (dec b)) = .ok (.ret (v b) s') from e]
      exact ⟨_, rfl, s', rfl⟩
    | false =>
      rw [hp] at hb
      obtain ⟨o, e2, h2⟩ := hb
      rw [show bodV C bd (up s i (dec b)) = .ok o from e2]
      simp only [R.bindOk]
      have ih := fun s' h => forF (dec := dec) I p v (bs := bs) (s := s') h fun s b hb hs => k s b (by simp [hb]) hs
      cases o with
      | next s2 => exact ih s2 h2
      | cont s2 => exact ih s2 h2
      | brk _ => exact h2.elim
      | ret _ _ => exact h2.elim
/-! ### loops over pairs -/
theorem forNB2 {β : Type} {a b : β → D} {i j : Nat} (I : Fm → Prop) {bs : List β} (h : I s) (k : ∀ (s : Fm) (x : β), x ∈ bs → I s → Ok (evSs C bd (up (up s i (a x)) j (b x))) (nx I)) : Ok (forV (setV (.tup [i, j])) (bodV C bd) (bs.map fun x => .tup [a x, b x]) s) fun o => ∃ s', o = .next s' ∧ I s' :=
  for_ok I h fun s d hd hs => by
    obtain ⟨x, hx, rfl⟩ := List.mem_map.mp hd
    exact ⟨_, rfl, k s x hx hs⟩
theorem forF2 {β : Type} {a b : β → D} {i j : Nat} (I : Fm → Prop) (p : β → Bool) (v : β → D) : ∀ {bs : List β} {s : Fm}, I s → (∀ (s : Fm) (x : β), x ∈ bs → I s → if p x then ∃ s', evSs C bd (up (up s i (a x)) j (b x)) = .ok (.ret (v x) s') else Ok (evSs C bd (up (up s i (a x)) j (b x))) (nx I)) → Ok (forV (setV (.tup [i, j])) (bodV C bd) (bs.map fun x => .tup [a x, b x]) s) fun o => match bs.find? p with
      | some b => ∃ s', o = .ret (v b) s'
      | none => ∃ s', o = .next s' ∧ I s'
  | [], s, h, _ => ⟨_, rfl, s, rfl, h⟩
  | x :: bs, s, h, k => by
    have hb := k s x (by simp) h
    have e0 : setV (.tup [i, j]) s (.tup [a x, b x]) = some (up (up s i (a x)) j (b x)) := rfl
    simp only [List.map_cons, forV, e0, R.ofO_some, R.bindOk, List.find?_cons]
    cases hp : p x with
    | true =>
      rw [hp] at hb
      obtain ⟨s', e⟩ := hb
      rw [show bodV C bd (up (up s i (a x)) j (b x)) = .ok (.ret (v x) s') from e]
      exact ⟨_, rfl, s', rfl⟩
    | false =>
      rw [hp] at hb
      obtain ⟨o, e2, h2⟩ := hb
      rw [show bodV C bd (up (up s i (a x)) j (b x)) = .ok o from e2]
      simp only [R.bindOk]
      have ih := fun s' h => forF2 (a := a) (b := b) I p v (bs := bs) (s := s') h fun s b hb hs => k s b (by simp [hb]) hs
      cases o with
      | next s2 => exact ih s2 h2
      | cont s2 => exact ih s2 h2
      | brk _ => exact h2.elim
      | ret _ _ => exact h2.elim
/-! ### comprehensions -/
variable {k : ItK} {e1 e2 c elt : IE} {v : Nat}
theorem compV_if {β : Type} (dec : β → D) (p : β → Bool) (g : β → D) {c2 : Fm → R (Bool × Fm)} {el : Fm → R (D × Fm)} (s : Fm) : ∀ (bs : List β) (acc : List D) (t : Fm), (t = s ∨ ∃ d, t = up s v d) → (∀ b ∈ bs, c2 (up s v (dec b)) = .ok (p b, up s v (dec b))) → (∀ b ∈ bs, p b = true → el (up s v (dec b)) = .ok (g b, up s v (dec b))) →
    ∃ t', (t' = s ∨ ∃ d, t' = up s v d) ∧ compV (fun s d => upT s (.name v) d) c2 el (bs.map dec) acc t = .ok (acc ++ (bs.filter p).map g, t')
  | [], acc, t, ht, _, _ => ⟨t, ht, by simp [compV]⟩
  | b :: bs, acc, t, ht, h1, h2 => by
    have e0 : upT t (.name v) (dec b) = some (up s v (dec b)) := by
      rcases ht with rfl | ⟨d, rfl⟩
      · rfl
      · show some _ = _; rw [up_up]
    have a1 := h1 b (by simp)
    simp only [List.map_cons, compV, e0, R.ofO_some, R.bindOk, a1, noX_ok]
    cases hp : p b with
    | true =>
      have a2 := h2 b (by simp) hp
      obtain ⟨t', ht', e⟩ := compV_if dec p g (c2 := c2) (el := el) s bs (acc ++ [g b]) (up s v (dec b)) (.inr ⟨_, rfl⟩) (fun b hb => h1 b (by simp [hb])) (fun b hb => h2 b (by simp [hb]))
      refine ⟨t', ht', ?_⟩
      simp only [if_true, a2, noX_ok, R.bindOk]
      rw [e]
      simp [hp]
    | false =>
      obtain ⟨t', ht', e⟩ := compV_if dec p g (c2 := c2) (el := el) s bs acc (up s v (dec b)) (.inr ⟨_, rfl⟩) (fun b hb => h1 b (by simp [hb])) (fun b hb => h2 b (by simp [hb]))
      refine ⟨t', ht', ?_⟩
      simp only [Bool.false_eq_true, if_false]
      rw [e]
      simp [hp]
theorem comp_ifS {β : Type} {bs : List β} (dec : β → D) (p : β → Bool) (g : β → D) {s0 : Fm} (hit : itV k (evE C e1) (evE C e2) s = .ok (bs.map dec, s0)) (hc : ∀ b ∈ bs, evE C c (up s0 v (dec b)) = .ok (.bl (p b), up s0 v (dec b))) (he : ∀ b ∈ bs, p b = true → evE C elt (up s0 v (dec b)) = .ok (g b, up s0 v (dec b))) :
    evE C (.comp k e1 e2 (.name v) true c elt) s = .ok (.lst ((bs.filter p).map g), s0) := by
  have hit' : itV k (fun s => evE C e1 s) (fun s => evE C e2 s) s = .ok (bs.map dec, s0) := hit
  simp only [evE, hit', R.bindOk, if_true]
  obtain ⟨t', ht', e⟩ := compV_if (v := v) dec p g (c2 := fun s => tstV (fun s => evE C c s) s) (el := fun s => evE C elt s) s0 bs [] s0 (.inl rfl) (fun b hb => by simp only [tstV, hc b hb, R.bindOk, truD_bl, R.ofO_some]) he
  rw [e]
  simp only [R.bindOk, tgtSlots, List.nil_append]
  congr 2
  rcases ht' with rfl | ⟨d, rfl⟩
  · exact backF_self
  · exact backF_up
theorem comp_noS {β : Type} {bs : List β} (dec : β → D) (g : β → D) {s0 : Fm} (hit : itV k (evE C e1) (evE C e2) s = .ok (bs.map dec, s0)) (he : ∀ b ∈ bs, evE C elt (up s0 v (dec b)) = .ok (g b, up s0 v (dec b))) :
    evE C (.comp k e1 e2 (.name v) false c elt) s = .ok (.lst (bs.map g), s0) := by
  have hit' : itV k (fun s => evE C e1 s) (fun s => evE C e2 s) s = .ok (bs.map dec, s0) := hit
  simp only [evE, hit', R.bindOk, Bool.false_eq_true, if_false]
  obtain ⟨t', ht', e⟩ := compV_if (v := v) dec (fun _ => true) g (c2 := fun s => R.ok (true, s)) (el := fun s => evE C elt s) s0 bs [] s0 (.inl rfl) (fun b hb => rfl) (fun b hb _ => he b hb)
  rw [e]
  have hf : bs.filter (fun _ => true) = bs := List.filter_eq_self.mpr fun _ _ => rfl
  simp only [R.bindOk, tgtSlots, List.nil_append, hf]
  congr 2
  rcases ht' with rfl | ⟨d, rfl⟩
  · exact backF_self
  · exact backF_up
theorem comp_if {β : Type} {bs : List β} (dec : β → D) (p : β → Bool) (g : β → D) (hit : itV k (evE C e1) (evE C e2) s = .ok (bs.map dec, s)) (hc : ∀ b ∈ bs, evE C c (up s v (dec b)) = .ok (.bl (p b), up s v (dec b))) (he : ∀ b ∈ bs, p b = true → evE C elt (up s v (dec b)) = .ok (g b, up s v (dec b))) :
    evE C (.comp k e1 e2 (.name v) true c elt) s = .ok (.lst ((bs.filter p).map g), s) := comp_ifS dec p g hit hc he
theorem comp_no {β : Type} {bs : List β} (dec : β → D) (g : β → D) (hit : itV k (evE C e1) (evE C e2) s = .ok (bs.map dec, s)) (he : ∀ b ∈ bs, evE C elt (up s v (dec b)) = .ok (g b, up s v (dec b))) :
    evE C (.comp k e1 e2 (.name v) false c elt) s = .ok (.lst (bs.map g), s) := comp_noS dec g hit he
end
/-! ### calls -/
theorem callV_run {T : Tab} {n : Nat} {f : String} {fd : FD} {args : List D} (h : T.lookup f = some fd) : callV T (n + 1) f args = runV (caT T n) fd args := by
  rw [callV_succ]
  simp only [h]
/-- a def without an in-out parameter -/
theorem run_val {C : Ca} {fd : FD} {args : List D} {P : D × List D → Prop} (hl : args.length = fd.np) (hio : fd.io = false) (h : Ok (evSs C fd.body (stF args)) fun o => match o with
    | .ret d _ => P (d, [])
    | .next _ => P (.non, [])
    | _ => False) : Ok (runV C fd args) P := by
  have ha : argsV fd.io args = true := by
    rw [hio]
    unfold argsV
    split <;> rfl
  unfold runV
  rw [if_pos ⟨hl, ha⟩]
  refine h.bind2 fun o ho => ?_
  cases o with
  | ret d s => exact ⟨(d, []), by simp [leaveV, hio], ho⟩
  | next s => exact ⟨(.non, []), by simp [leaveV, hio], ho⟩
  | brk _ => exact ho.elim
  | cont _ => exact ho.elim
theorem run_eq {C : Ca} {fd : FD} {args : List D} (hl : args.length = fd.np) (hio : fd.io = false) : runV C fd args = (evSs C fd.body (stF args)).bind fun o => match o with
    | .ret d _ => .ok (d, [])
    | .next _ => .ok (.non, [])
    | _ => .bad := by
  have ha : argsV fd.io args = true := by
    rw [hio]
    unfold argsV
    split <;> rfl
  unfold runV
  rw [if_pos ⟨hl, ha⟩]
  cases evSs C fd.body (stF args) with
  | ok o => cases o <;> simp [leaveV, hio]
  | exn c => rfl
  | bad => rfl
theorem run_io {C : Ca} {fd : FD} {l args : List D} (hl : args.length + 1 = fd.np) (hio : fd.io = true) : runV C fd (.lst l :: args) = (evSs C fd.body (stF (.lst l :: args))).bind fun o => match o with
    | .ret d s => (R.ofO (lstAt s 0)).bind fun ds => .ok (d, ds)
    | .next s => (R.ofO (lstAt s 0)).bind fun ds => .ok (.non, ds)
    | _ => .bad := by
  unfold runV
  rw [if_pos ⟨by simpa using hl, by rw [hio]; rfl⟩]
  cases evSs C fd.body (stF (.lst l :: args)) with
  | ok o => cases o <;> simp [leaveV, hio]
  | exn c => rfl
  | bad => rfl
end Cv
set_option maxRecDepth 100000
set_option maxHeartbeats 1000000
/-! Tuples of numbers: what operations tell of them. -/
namespace Cv
/-! ### rows of numbers -/
@[simp] theorem dle_int (k : Nat) (i : Int) : dle k (.int i) = true := by cases k <;> rfl
@[simp] theorem dle_non (k : Nat) : dle k .non = true := by cases k <;> rfl
@[simp] theorem dle_bl (k : Nat) (b : Bool) : dle k (.bl b) = true := by cases k <;> rfl
theorem dles_all {k : Nat} : ∀ {ds : List D}, (∀ d ∈ ds, dle k d = true) → dles k ds = true
  | [], _ => rfl
  | d :: ds, h => by
    simp only [dles, Bool.and_eq_true]
    exact ⟨h d List.mem_cons_self, dles_all fun e he => h e (List.mem_cons_of_mem _ he)⟩
@[simp] theorem dles_nI (k : Nat) (l : List Nat) : dles k (l.map nI) = true := dles_all fun d h => by
  obtain ⟨i, _, rfl⟩ := List.mem_map.mp h
  exact dle_int _ _
@[simp] theorem dle_tN (k : Nat) (l : List Nat) : dle (k + 1) (tN l) = true := dles_nI k l
@[simp] theorem dles_tN (k : Nat) (l : List (List Nat)) : dles (k + 1) (l.map tN) = true := dles_all fun d h => by
  obtain ⟨i, _, rfl⟩ := List.mem_map.mp h
  exact dle_tN _ _
@[simp] theorem dle_lT (k : Nat) (l : List (List Nat)) : dle (k + 2) (.lst (l.map tN)) = true := dles_tN k l
@[simp] theorem eqD_nI (i j : Nat) : eqD (nI i) (nI j) = (i == j) := by
  show ((i : Int) == (j : Int)) = _
  rw [Bool.eq_iff_iff, beq_iff_eq, beq_iff_eq]
  omega
@[simp] theorem eqDs_nI : ∀ (a b : List Nat), eqDs (a.map nI) (b.map nI) = (a == b)
  | [], [] => rfl
  | [], _ :: _ => rfl
  | _ :: _, [] => rfl
  | i :: a, j :: b => by
    show (eqD (nI i) (nI j) && eqDs (a.map nI) (b.map nI)) = _
    rw [eqD_nI, eqDs_nI a b]
    rfl
@[simp] theorem eqD_tN (a b : List Nat) : eqD (tN a) (tN b) = (a == b) := eqDs_nI a b
@[simp] theorem eqDs_tN : ∀ (a b : List (List Nat)), eqDs (a.map tN) (b.map tN) = (a == b)
  | [], [] => rfl
  | [], _ :: _ => rfl
  | _ :: _, [] => rfl
  | i :: a, j :: b => by
    show (eqD (tN i) (tN j) && eqDs (a.map tN) (b.map tN)) = _
    rw [eqD_tN, eqDs_tN a b]
    rfl
theorem any_nI (i : Nat) (l : List Nat) : ((l.map nI).any fun z => eqD z (nI i)) = l.contains i := by
  induction l with
  | nil => rfl
  | cons a l ih =>
    rw [List.map_cons, List.any_cons, ih, eqD_nI, List.contains_cons]
    rw [show (a == i) = (i == a) from by rw [Bool.eq_iff_iff, beq_iff_eq, beq_iff_eq]; exact eq_comm]
theorem in_tN (i : Nat) (l : List Nat) : cmpD .isIn (nI i) (tN l) = some (l.contains i) := by
  show (if dle 60 (nI i) && dles 60 (l.map nI) then some ((l.map nI).any fun z => eqD z (nI i)) else none) = _
  rw [any_nI, dle_int, dles_nI]
  rfl
theorem notin_tN (i : Nat) (l : List Nat) : cmpD .notIn (nI i) (tN l) = some (!l.contains i) := by
  show (if dle 60 (nI i) && dles 60 (l.map nI) then some (!(l.map nI).any fun z => eqD z (nI i)) else none) = _
  rw [any_nI, dle_int, dles_nI]
  rfl
theorem cmp_tN (a b : List Nat) : cmpD .ne (tN a) (tN b) = some (!(a == b)) := by
  have h1 := dle_tN 59 a
  have h2 := dle_tN 59 b
  simp only [cmpD, h1, h2, Bool.and_self, if_true, eqD_tN]
theorem cmpE_tN (a b : List Nat) : cmpD .eq (tN a) (tN b) = some (a == b) := by
  have h1 := dle_tN 59 a
  have h2 := dle_tN 59 b
  simp only [cmpD, h1, h2, Bool.and_self, if_true, eqD_tN]
theorem cmp_lT (a b : List (List Nat)) : cmpD .ne (.lst (a.map tN)) (.lst (b.map tN)) = some (!(a == b)) := by
  have h1 := dle_lT 58 a
  have h2 := dle_lT 58 b
  simp only [cmpD, h1, h2, Bool.and_self, if_true, eqD, eqDs_tN]
theorem cmpE_lT (a b : List (List Nat)) : cmpD .eq (.lst (a.map tN)) (.lst (b.map tN)) = some (a == b) := by
  have h1 := dle_lT 58 a
  have h2 := dle_lT 58 b
  simp only [cmpD, h1, h2, Bool.and_self, if_true, eqD, eqDs_tN]
theorem ixN_last (n : Nat) : L2.ixN (n + 1) (-1) = some n := by
  unfold L2.ixN
  have h : (-1 : Int) + ((n + 1 : Nat) : Int) = (n : Int) := by omega
  simp only [h]
  split <;> first | (rename_i q; omega) | skip
  all_goals first | rfl | (split <;> first | rfl | omega) | skip
theorem atI_last {α : Type} (l : List α) (x : α) : L2.atI (l ++ [x]) (-1) = some x := by
  have e : L2.ixN (l ++ [x]).length (-1) = some l.length := by rw [List.length_append]; exact ixN_last _
  unfold L2.atI
  rw [e]
  simp
theorem set_last {α : Type} (l : List α) (x y : α) : (l ++ [x]).set l.length y = l ++ [y] := by
  induction l with
  | nil => rfl
  | cons a l ih => simp [ih]
def subs : List Nat → List (List Nat)
  | [] => [[]]
  | a :: l => (subs l) ++ (subs l).map (a :: ·)
theorem mem_subs : ∀ {a l : List Nat}, a.Sublist l → a ∈ subs l
  | _, [], h => by cases h; simp [subs]
  | _, b :: l, h => by
    simp only [subs, List.mem_append, List.mem_map]
    cases h with
    | cons _ h => exact .inl (mem_subs h)
    | cons_cons _ h => exact .inr ⟨_, mem_subs h, rfl⟩
theorem sub_rng {m : Nat} {l : List D} (h : l.Sublist (rngD 0 m)) : ∃ k : List Nat, l = k.map nI ∧ k.Sublist (List.range m) := by
  have e : rngD 0 m = (List.range m).map nI := by
    unfold rngD
    simp
  rw [e] at h
  obtain ⟨k, h1, h2⟩ := List.sublist_map_iff.mp h
  exact ⟨k, h2, h1⟩
def enumN : Nat → List Nat → List (Nat × Nat)
  | _, [] => []
  | i, a :: r => (i, a) :: enumN (i + 1) r
abbrev dec2 (p : Nat × Nat) : D := .tup [nI p.1, nI p.2]
theorem enumD_nI : ∀ (i : Nat) (l : List Nat), enumD i (l.map nI) = (enumN i l).map dec2
  | _, [] => rfl
  | i, a :: r => by
    simp only [List.map_cons, enumD, enumN, enumD_nI (i + 1) r]
theorem cut_take (ds : List D) (i : Nat) : cutD ds none (some (i : Int)) = ds.take i := by
  unfold cutD
  rw [HT.sIx_none, HT.sIx_nat]
  simp
theorem cut_init (ds : List D) (x : D) : cutD (ds ++ [x]) none (some (-1)) = ds := by
  unfold cutD
  rw [HT.sIx_none]
  have : HT.sIx (ds ++ [x]).length (ds ++ [x]).length (some (-1)) = ds.length := by
    unfold HT.sIx
    simp
    omega
  rw [this]
  simp
theorem cut_drop (ds : List D) (i : Nat) : cutD ds (some (i : Int)) none = ds.drop i := by
  unfold cutD
  rw [HT.sIx_none, HT.sIx_nat]
  by_cases h : i ≤ ds.length
  · rw [Nat.min_eq_left h, List.take_of_length_le (by simp)]
  · rw [Nat.min_eq_right (by omega), List.drop_eq_nil_of_le (by omega), List.drop_eq_nil_of_le (by omega)]
    simp
@[simp] theorem slcT_take (l : List Nat) (i : Nat) : slcD none (some (i : Int)) (tN l) = some (.val (tN (l.take i))) := by
  simp [slcD, cut_take, List.map_take]
@[simp] theorem slcT_drop (l : List Nat) (i : Nat) : slcD (some (i : Int)) none (tN l) = some (.val (tN (l.drop i))) := by
  simp [slcD, cut_drop, List.map_drop]
theorem slcL_take (l : List D) (i : Nat) : slcD none (some (i : Int)) (.lst l) = some (.fresh (l.take i)) := by
  simp [slcD, cut_take]
theorem slcL_drop (l : List D) (i : Nat) : slcD (some (i : Int)) none (.lst l) = some (.fresh (l.drop i)) := by
  simp [slcD, cut_drop]
theorem addT (a b : List Nat) (h : a.length + b.length ≤ 10000) : binD .add (tN a) (tN b) = some (.val (tN (a ++ b))) := by
  simp [binD, lim]; omega
@[simp] theorem optI_t (i : Int) : optI true (.int i) = some (some i) := Eq.trans rfl rfl
@[simp] theorem optI_f (d : D) : optI false d = some none := Eq.trans rfl rfl
theorem atI_nat {α : Type} {l : List α} {k : Nat} (h : k < l.length) : L2.atI l (k : Int) = some l[k] := by
  simp [L2.atI, L2.ixN, h]
theorem bls_map {α : Type} (p : α → Bool) : ∀ (l : List α), blsOf (l.map fun x => D.bl (p x)) = some (l.map p)
  | [] => rfl
  | x :: l => by simp [blsOf, bls_map p l]
theorem all_map {α : Type} (p : α → Bool) (l : List α) : bltD "all" [.lst (l.map fun x => D.bl (p x))] = some (.val (.bl (l.all p))) := by
  simp [bltD, bls_map]
theorem any_map {α : Type} (p : α → Bool) (l : List α) : bltD "any" [.lst (l.map fun x => D.bl (p x))] = some (.val (.bl (l.any p))) := by
  simp [bltD, bls_map]
theorem nat_beq (a b : Nat) : (((a : Int)) == (b : Int)) = (a == b) := by
  rw [Bool.eq_iff_iff, beq_iff_eq, beq_iff_eq]
  omega
theorem snoc_cases {α : Type} (l : List α) : l = [] ∨ ∃ i x, l = i ++ [x] := by
  rcases List.eq_nil_or_concat l with h | ⟨i, x, h⟩
  · exact .inl h
  · exact .inr ⟨i, x, by simpa using h⟩
@[simp] theorem idx_last {l : List D} {x : D} : idxD (.tup (l ++ [x])) (.int (-1)) = some x := atI_last l x
@[simp] theorem idx_lastL {l : List D} {x : D} : idxD (.lst (l ++ [x])) (.int (-1)) = some x := atI_last l x
@[simp] theorem idx_lastN {l : List Nat} {x : Nat} : idxD (tN (l ++ [x])) (.int (-1)) = some (nI x) := by
  unfold tN
  rw [List.map_append]
  exact atI_last _ _
@[simp] theorem idx_0N {l : List Nat} {x : Nat} : idxD (tN (x :: l)) (.int 0) = some (nI x) := idx_t0 _ _
theorem last_cons {x : Nat} {r : List Nat} {z : Nat} : (x :: (r ++ [z])).getLastD 0 = z := by
  rw [List.getLastD_eq_getLast?, ← List.cons_append, List.getLast?_append]
  rfl
theorem cmpE_lN (a b : List Nat) : cmpD .eq (.lst (a.map nI)) (.lst (b.map nI)) = some (a == b) := by
  have h : ∀ l : List Nat, dle 60 (.lst (l.map nI)) = true := fun l => dles_nI 59 l
  simp only [cmpD, h, Bool.and_self, if_true, eqD, eqDs_nI]
theorem cmpN_lN (a b : List Nat) : cmpD .ne (.lst (a.map nI)) (.lst (b.map nI)) = some (!(a == b)) := by
  have h : ∀ l : List Nat, dle 60 (.lst (l.map nI)) = true := fun l => dles_nI 59 l
  simp only [cmpD, h, Bool.and_self, if_true, eqD, eqDs_nI]
theorem isin_lT (a : List Nat) (b : List (List Nat)) : cmpD .isIn (tN a) (.lst (b.map tN)) = some (b.contains a) := by
  have h1 : dle 60 (tN a) = true := dle_tN 59 a
  have h2 : dles 60 (b.map tN) = true := dles_tN 59 b
  simp only [cmpD, h1, h2, Bool.and_self, if_true, List.any_map]
  congr 1
  rw [List.contains_eq_any_beq]
  apply List.any_congr rfl
  intro x
  rw [Function.comp, eqD_tN]
  exact Bool.beq_comm
theorem notin_lT (a : List Nat) (b : List (List Nat)) : cmpD .notIn (tN a) (.lst (b.map tN)) = some (!b.contains a) := by
  have h := isin_lT a b
  have h1 : dle 60 (tN a) = true := dle_tN 59 a
  have h2 : dles 60 (b.map tN) = true := dles_tN 59 b
  simp only [cmpD, h1, h2, Bool.and_self, if_true, Option.some.injEq] at h ⊢
  rw [h]
theorem ints_map {α : Type} (g : α → Int) : ∀ (bs : List α), intsOf (bs.map fun b => D.int (g b)) = some (bs.map g)
  | [] => rfl
  | b :: bs => by simp [intsOf, ints_map g bs]
theorem sum_blt {α : Type} (g : α → Int) (bs : List α) : bltD "sum" [.lst (bs.map fun b => D.int (g b))] = some (.val (.int (bs.map g).sum)) := by
  simp [bltD, ints_map]
theorem add1 (l : List Nat) (c : Nat) (h : l.length ≤ 1000) : binD .add (tN l) (.tup [nI c]) = some (.val (tN (l ++ [c]))) := by
  simp [binD, lim]; omega
/-- for k in range(max(1, min(len(script), K))) -/
theorem cnt_ok {C : Ca} {s : Fm} {ns : List Int} {K : Int} (h : s 0 = some (.scr ns)) (h1 : 0 ≤ K) (h2 : K ≤ 100) : ∃ c : Nat, itV .rng1 (evE C (.blt "max" [(.cst (.int 1)), (.blt "min" [(.blt "len" [(.var 0)]), (.cst (.int K))])])) (evE C (.cst .non)) s = .ok ((List.range c).map nI, s) := by
  have key : ∀ c : Nat, c ≤ 100 → bltD "max" [.int 1, .int (if K < (ns.length : Int) then K else (ns.length : Int))] = some (.val (.int c)) → itV .rng1 (evE C (.blt "max" [(.cst (.int 1)), (.blt "min" [(.blt "len" [(.var 0)]), (.cst (.int K))])])) (evE C (.cst .non)) s = .ok ((List.range c).map nI, s) := fun c hc e => by
    simp only [itv_rng1, eE_blt, eEs_cons, eEs_nil, eE_cst, eE_var, h, R.bindOk, blt_lenS, R.ofO_some, oD_val, blt_min, e, itm_rng1 (show c ≤ 1000 by omega)]
  by_cases q : K < (ns.length : Int)
  · by_cases q2 : K > 1
    · refine ⟨K.toNat, key _ (by omega) ?_⟩
      rw [if_pos q, blt_max, if_pos q2]
      congr 3
      omega
    · refine ⟨1, key _ (by omega) ?_⟩
      rw [if_pos q, blt_max, if_neg q2]
      rfl
  · by_cases q2 : (ns.length : Int) > 1
    · refine ⟨ns.length, key _ (by omega) ?_⟩
      rw [if_neg q, blt_max, if_pos q2]
    · refine ⟨1, key _ (by omega) ?_⟩
      rw [if_neg q, blt_max, if_neg q2]
      rfl
/-- a law whose text is the loop over the cells alone -/
theorem law_loop {T : Tab} {n : Nat} {fd : FD} {ns : List Int} {K : Int} {body : List IS} (hl : T.lookup "law" = some fd) (hb : fd.body = [.for_ .rng1 (.blt "max" [(.cst (.int 1)), (.blt "min" [(.blt "len" [(.var 0)]), (.cst (.int K))])]) (.cst .non) (.name 1) body, .ret (.cst (.bl true))]) (hn : fd.np = 1) (hio : fd.io = false) (h1 : 0 ≤ K) (h2 : K ≤ 100)
    (h : ∀ (s : Fm) (k : Nat), s 0 = some (.scr ns) → Ok (evSs (caT T n) body (up s 1 (nI k))) (nx fun s => s 0 = some (.scr ns))) : ∃ l, callV T (n + 1) "law" [.scr ns] = .ok (.bl true, l) := by
  suffices h : Ok (callV T (n + 1) "law" [.scr ns]) fun r => r.1 = .bl true by
    obtain ⟨⟨_, l⟩, e, rfl⟩ := h
    exact ⟨l, e⟩
  rw [callV_run hl]
  refine run_val (by rw [hn]; rfl) hio ?_
  rw [hb]
  simp only [eSs_cons, eS_for]
  obtain ⟨c, hc⟩ := cnt_ok (C := caT T n) (s := stF [.scr ns]) (ns := ns) (K := K) rfl h1 h2
  rw [hc]
  simp only [R.bindOk]
  refine Ok.bind2 (forNB (fun s => s 0 = some (.scr ns)) rfl fun s k _ h0 => h s k h0) fun o ho => ?_
  obtain ⟨s', rfl, _⟩ := ho
  simp
/-! ### sorted -/
def ltN : List Nat → List Nat → Bool
  | [], [] => false
  | [], _ :: _ => true
  | _ :: _, [] => false
  | x :: r, y :: t => Nat.blt x y || (!Nat.blt y x && ltN r t)
abbrev iN (l : List Nat) : List Int := l.map fun x : Nat => (x : Int)
theorem blt_dec (x y : Nat) : decide ((x : Int) < (y : Int)) = Nat.blt x y := by
  rw [Bool.eq_iff_iff, decide_eq_true_eq, Nat.blt_eq]
  omega
theorem tLt_nat : ∀ (a b : List Nat), tLt (iN a) (iN b) = ltN a b
  | [], [] => rfl
  | [], _ :: _ => rfl
  | _ :: _, [] => rfl
  | x :: r, y :: t => by
    have ih := tLt_nat r t
    simp only [ltN, ← ih, ← blt_dec]
    rfl
def insN (x : List Nat) : List (List Nat) → List (List Nat)
  | [] => [x]
  | y :: r => if ltN y x then y :: insN x r else x :: y :: r
def sortN : List (List Nat) → List (List Nat)
  | [] => []
  | x :: r => insN x (sortN r)
theorem insT_nat (x : List Nat) : ∀ (r : List (List Nat)), insT (iN x) (r.map iN) = (insN x r).map iN
  | [] => rfl
  | y :: r => by
    simp only [List.map_cons, insT, insN]
    rw [tLt_nat, insT_nat x r]
    split <;> rfl
theorem sortT_nat : ∀ (r : List (List Nat)), sortT (r.map iN) = (sortN r).map iN
  | [] => rfl
  | x :: r => by
    simp only [List.map_cons, sortT, sortN]
    rw [sortT_nat r, insT_nat]
theorem intsOf_nI : ∀ (l : List Nat), intsOf (l.map nI) = some (iN l)
  | [] => rfl
  | x :: l => by simp [intsOf, intsOf_nI l]
theorem tupsOf_nat : ∀ (ts : List (List Nat)), (∀ t ∈ ts, t ≠ []) → tupsOf (ts.map tN) = some (ts.map iN)
  | [], _ => rfl
  | [] :: ts, h => absurd rfl (h [] (by simp))
  | (x :: t) :: ts, h => by
    have ih := tupsOf_nat ts fun t ht => h t (by simp [ht])
    have e := intsOf_nI (x :: t)
    rw [List.map_cons]
    show (match intsOf ((x :: t).map nI) with
      | some (n :: ns) => (tupsOf (ts.map tN)).map ((n :: ns) :: ·)
      | _ => none) = _
    rw [e, ih]
    rfl
theorem sorted_tN {ts : List (List Nat)} (h : ∀ t ∈ ts, t ≠ []) : bltD "sorted" [.lst (ts.map tN)] = some (.fresh ((sortN ts).map tN)) := by
  have e : ∀ l : List Nat, (iN l).map D.int = l.map nI := fun l => by simp [iN, Function.comp_def]
  cases ts with
  | nil => simp [bltD, intsOf, sortI, sortN]
  | cons t ts =>
    have h1 : intsOf ((t :: ts).map tN) = none := rfl
    have h2 := tupsOf_nat (t :: ts) h
    simp only [bltD, h1, h2]
    have h3 := sortT_nat (t :: ts)
    simp only [Option.map_some, h3, List.map_map, Function.comp_def, e]
    rfl
theorem maxI_nat : ∀ (r : List Nat) (a : Nat), maxI (a : Int) (iN r) = ((r.foldl max a : Nat) : Int)
  | [], a => rfl
  | x :: r, a => by
    simp only [iN, List.map_cons, maxI, List.foldl_cons]
    have e : (if (x : Int) > (a : Int) then (x : Int) else (a : Int)) = ((max a x : Nat) : Int) := by
      split <;> omega
    rw [e]
    exact maxI_nat r (max a x)
def maxN : List Nat → Nat
  | [] => 0
  | a :: r => r.foldl max a
theorem max_nI {l : List Nat} (h : l ≠ []) : bltD "max" [.lst (l.map nI)] = some (.val (nI (maxN l))) := by
  cases l with
  | nil => exact absurd rfl h
  | cons a r =>
    have e := intsOf_nI (a :: r)
    simp only [iN, List.map_cons] at e
    simp only [bltD, List.map_cons, e]
    have := maxI_nat r a
    simp only [iN] at this
    simp [this, maxN]
end Cv
set_option maxHeartbeats 4000000
set_option autoImplicit true
namespace Law
open PySem PySem.Spec L2 Cv PyProof.Rows
def top (i : Nat) : Stmt := PySem.Challenge.pw_curvefaces_k10_beyond.main.body.getD i (.Pass ⟨0, 0, 0, 0⟩)
def d_is_from : FD := { np := 3, ns := 3, io := false, body := [
  .ret (.and_ (.isi (.var 0) "int") (.and_ (.not_ (.isi (.var 0) "bool")) (.chain .le .le (.var 1) (.var 0) (.var 2))))] }
def d_is_curve : FD := { np := 1, ns := 1, io := false, body := [
  .ife (.or_ (.not_ (.isi (.var 0) "tuple")) (.or_ (.cmp .ne (.blt "len" [(.var 0)]) (.cst (.int 2))) (.not_ (.call "is_from" [(.idx (.var 0) (.cst (.int 1))), (.cst (.int 1)), (.glob "MOST_DEEP" (.int 6))])))) [.ret (.cst (.bl false))] [],
  .ret (.call "is_from" [(.idx (.var 0) (.cst (.int 0))), (.bin .add (.idx (.var 0) (.cst (.int 1))) (.cst (.int 1))), (.glob "MOST_CORNERS" (.int 9))])] }
def d_need_curve : FD := { np := 1, ns := 1, io := false, body := [
  .ife (.not_ (.call "is_curve" [(.var 0)])) [.raise "NoCurve"] []] }
def d_is_rising : FD := { np := 1, ns := 2, io := false, body := [
  .ret (.blt "all" [(.comp .rng2 (.cst (.int 1)) (.blt "len" [(.var 0)]) (.name 1) false (.cst .non) (.cmp .lt (.idx (.var 0) (.bin .sub (.var 1) (.cst (.int 1)))) (.idx (.var 0) (.var 1))))])] }
def d_is_lot_of : FD := { np := 2, ns := 3, io := false, body := [
  .ife (.or_ (.not_ (.isi (.var 0) "tuple")) (.not_ (.blt "all" [(.comp .seq (.var 0) (.cst .non) (.name 2) false (.cst .non) (.call "is_from" [(.var 2), (.cst (.int 0)), (.bin .sub (.var 1) (.cst (.int 1)))]))]))) [.ret (.cst (.bl false))] [],
  .ret (.call "is_rising" [(.var 0)])] }
def d_blocks_of : FD := { np := 1, ns := 3, io := false, body := [
  .asg (.name 1) (.lst []),
  .for_ .seq (.var 0) (.cst .non) (.name 2) [.ife (.and_ (.cmp .ne (.var 1) (.lst [])) (.cmp .eq (.idx (.idx (.var 1) (.neg (.cst (.int 1)))) (.neg (.cst (.int 1)))) (.bin .sub (.var 2) (.cst (.int 1))))) [.sub 1 (.neg (.cst (.int 1))) (.bin .add (.idx (.var 1) (.neg (.cst (.int 1)))) (.tup [(.var 2)]))] [.expr (.meth .append 1 [(.tup [(.var 2)])])]],
  .ret (.var 1)] }
def d_odd_of : FD := { np := 2, ns := 4, io := false, body := [
  .asg (.name 2) (.comp .seq (.call "blocks_of" [(.var 1)]) (.cst .non) (.name 3) true (.and_ (.cmp .gt (.idx (.var 3) (.cst (.int 0))) (.cst (.int 0))) (.cmp .lt (.idx (.var 3) (.neg (.cst (.int 1)))) (.bin .sub (.var 0) (.cst (.int 1))))) (.var 3)),
  .ret (.blt "len" [(.comp .seq (.var 2) (.cst .non) (.name 3) true (.cmp .eq (.bin .mod (.blt "len" [(.var 3)]) (.cst (.int 2))) (.cst (.int 1))) (.var 3))])] }
def d_pane_of : FD := { np := 2, ns := 2, io := false, body := [
  .ret (.and_ (.cmp .eq (.blt "len" [(.var 1)]) (.idx (.var 0) (.cst (.int 1)))) (.cmp .eq (.call "odd_of" [(.idx (.var 0) (.cst (.int 0))), (.var 1)]) (.cst (.int 0))))] }
def d_is_pane : FD := { np := 2, ns := 2, io := false, body := [
  .expr (.call "need_curve" [(.var 1)]),
  .ret (.and_ (.call "is_lot_of" [(.var 0), (.idx (.var 1) (.cst (.int 0)))]) (.call "pane_of" [(.var 1), (.var 0)]))] }
def d_need_pane : FD := { np := 2, ns := 2, io := false, body := [
  .ife (.not_ (.call "is_pane" [(.var 1), (.var 0)])) [.raise "NoPane"] []] }
def d_need_corner : FD := { np := 2, ns := 2, io := false, body := [
  .ife (.not_ (.call "is_from" [(.var 1), (.cst (.int 0)), (.bin .sub (.idx (.var 0) (.cst (.int 0))) (.cst (.int 1)))])) [.raise "NoCorner"] []] }
def d_all_lots : FD := { np := 2, ns := 8, io := false, body := [
  .asg (.name 2) (.lst [(.tup [])]),
  .for_ .rng1 (.var 1) (.cst .non) (.name 3) [.asg (.name 4) (.lst []), .for_ .seq (.var 2) (.cst .non) (.name 5) [.asg (.name 6) (.ite (.cmp .ne (.var 5) (.tup [])) (.bin .add (.idx (.var 5) (.neg (.cst (.int 1)))) (.cst (.int 1))) (.cst (.int 0))), .expr (.extend 4 (.comp .rng2 (.var 6) (.var 0) (.name 7) false (.cst .non) (.bin .add (.var 5) (.tup [(.var 7)]))))], .asg (.name 2) (.var 4)],
  .ret (.var 2)] }
def d_within : FD := { np := 2, ns := 3, io := false, body := [
  .ret (.blt "all" [(.comp .seq (.var 0) (.cst .non) (.name 2) false (.cst .non) (.cmp .isIn (.var 2) (.var 1)))])] }
def d_without : FD := { np := 2, ns := 3, io := false, body := [
  .ret (.blt "tuple" [(.comp .seq (.var 0) (.cst .non) (.name 2) true (.cmp .ne (.var 2) (.var 1)) (.var 2))])] }
def d_panes_of : FD := { np := 1, ns := 2, io := false, body := [
  .ret (.comp .seq (.call "all_lots" [(.idx (.var 0) (.cst (.int 0))), (.idx (.var 0) (.cst (.int 1)))]) (.cst .non) (.name 1) true (.call "pane_of" [(.var 0), (.var 1)]) (.var 1))] }
def d_beyond : FD := { np := 3, ns := 5, io := false, body := [
  .expr (.call "need_pane" [(.var 0), (.var 1)]),
  .expr (.call "need_corner" [(.var 0), (.var 2)]),
  .ife (.cmp .notIn (.var 2) (.var 1)) [.raise "NoCorner"] [],
  .asg (.name 3) (.call "without" [(.var 1), (.var 2)]),
  .ret (.idx (.comp .seq (.call "panes_of" [(.var 0)]) (.cst .non) (.name 4) true (.and_ (.cmp .ne (.var 4) (.var 1)) (.call "within" [(.var 3), (.var 4)])) (.var 4)) (.cst (.int 0)))] }
def d__law_box : FD := { np := 2, ns := 6, io := false, body := [
  .asg (.name 2) (.bin .add (.bin .mul (.cst (.int 7919)) (.var 1)) (.cst (.int 13))),
  .ife (.cmp .lt (.var 1) (.blt "len" [(.var 0)])) [.asg (.name 2) (.idx (.var 0) (.var 1))] [],
  .ife (.cmp .eq (.bin .mod (.var 2) (.cst (.int 2))) (.cst (.int 0))) [.ret (.lst [(.bin .fdiv (.var 2) (.cst (.int 2))), (.bin .mod (.blt "abs" [(.var 2)]) (.cst (.int 2147483647)))])] [],
  .asg (.name 3) (.cst (.int 0)),
  .for_ .rng1 (.cst (.int 16)) (.cst .non) (.name 4) [.asg (.name 5) (.bin .mod (.bin .add (.bin .add (.bin .mul (.bin .mod (.var 2) (.cst (.int 2147483647))) (.cst (.int 48271))) (.bin .mul (.cst (.int 7919)) (.var 4))) (.cst (.int 1))) (.cst (.int 2147483647))), .asg (.name 5) (.bin .mod (.bin .mul (.var 5) (.var 5)) (.cst (.int 2147483629))), .asg (.name 3) (.bin .add (.bin .mul (.var 3) (.cst (.int 2147483647))) (.bin .mod (.bin .mul (.var 5) (.bin .add (.var 5) (.cst (.int 13)))) (.cst (.int 2147483647))))],
  .ret (.lst [(.var 3), (.bin .mod (.blt "abs" [(.var 2)]) (.cst (.int 2147483647)))])] }
def d__law_more : FD := { np := 1, ns := 3, io := true, body := [
  .asg (.name 1) (.cst (.int 0)),
  .for_ .rng1 (.cst (.int 12)) (.cst .non) (.name 2) [.sub 0 (.cst (.int 1)) (.bin .mod (.bin .add (.bin .mul (.idx (.var 0) (.cst (.int 1))) (.cst (.int 48271))) (.cst (.int 30269))) (.cst (.int 2147483647))), .asg (.name 1) (.bin .add (.bin .mul (.var 1) (.cst (.int 65521))) (.bin .mod (.bin .fdiv (.idx (.var 0) (.cst (.int 1))) (.cst (.int 7))) (.cst (.int 65521))))],
  .ret (.var 1)] }
def d__law_take : FD := { np := 2, ns := 4, io := true, body := [
  .ife (.chain .le .lt (.cst (.int 0)) (.idx (.var 0) (.cst (.int 0))) (.var 1)) [.sub 0 (.cst (.int 0)) (.bin .add (.idx (.var 0) (.cst (.int 0))) (.bin .mul (.var 1) (.callIo "_law_more" 0 [])))] [],
  .asg (.tup [2, 3]) (.blt "divmod" [(.idx (.var 0) (.cst (.int 0))), (.var 1)]),
  .sub 0 (.cst (.int 0)) (.var 2),
  .ret (.var 3)] }
def d__law_curve : FD := { np := 1, ns := 2, io := true, body := [
  .asg (.name 1) (.bin .add (.cst (.int 1)) (.callIo "_law_take" 0 [(.cst (.int 6))])),
  .ret (.tup [(.bin .add (.bin .add (.var 1) (.cst (.int 1))) (.callIo "_law_take" 0 [(.bin .sub (.cst (.int 9)) (.var 1))])), (.var 1)])] }
def d__law_lots : FD := { np := 2, ns := 7, io := false, body := [
  .asg (.name 2) (.lst [(.tup [])]),
  .for_ .rng1 (.var 1) (.cst .non) (.name 3) [.asg (.name 4) (.lst []), .for_ .seq (.var 2) (.cst .non) (.name 5) [.asg (.name 4) (.bin .add (.var 4) (.comp .rng2 (.bin .add (.idx (.or_ (.var 5) (.tup [(.neg (.cst (.int 1)))])) (.neg (.cst (.int 1)))) (.cst (.int 1))) (.var 0) (.name 6) false (.cst .non) (.bin .add (.var 5) (.tup [(.var 6)]))))], .asg (.name 2) (.var 4)],
  .ret (.var 2)] }
def d__law_is_pane : FD := { np := 2, ns := 7, io := false, body := [
  .asg (.name 2) (.comp .rng1 (.idx (.var 0) (.cst (.int 0))) (.cst .non) (.name 6) true (.cmp .notIn (.var 6) (.var 1)) (.var 6)),
  .for_ .enum (.var 2) (.cst .non) (.tup [3, 4]) [.for_ .seq (.slc (.var 2) false true (.cst .non) (.var 3)) (.cst .non) (.name 5) [.ife (.cmp .eq (.bin .mod (.blt "len" [(.comp .seq (.var 1) (.cst .non) (.name 6) true (.chain .lt .lt (.var 5) (.var 6) (.var 4)) (.var 6))]) (.cst (.int 2))) (.cst (.int 1))) [.ret (.cst (.bl false))] []]],
  .ret (.cmp .eq (.blt "len" [(.var 1)]) (.idx (.var 0) (.cst (.int 1))))] }
def d__law_panes : FD := { np := 1, ns := 2, io := false, body := [
  .ret (.comp .seq (.call "_law_lots" [(.idx (.var 0) (.cst (.int 0))), (.idx (.var 0) (.cst (.int 1)))]) (.cst .non) (.name 1) true (.call "_law_is_pane" [(.var 0), (.var 1)]) (.var 1))] }
def d__law_has : FD := { np := 2, ns := 3, io := false, body := [
  .ret (.cmp .eq (.comp .seq (.var 1) (.cst .non) (.name 2) true (.cmp .notIn (.var 2) (.var 0)) (.var 2)) (.lst []))] }
def d_law : FD := { np := 1, ns := 12, io := false, body := [
  .for_ .rng1 (.blt "max" [(.cst (.int 1)), (.blt "min" [(.blt "len" [(.var 0)]), (.cst (.int 3))])]) (.cst .non) (.name 1) [.asg (.name 2) (.call "_law_box" [(.var 0), (.var 1)]), .asg (.name 3) (.callIo "_law_curve" 2 []), .asg (.name 4) (.call "_law_panes" [(.var 3)]), .asg (.name 5) (.callIo "_law_take" 2 [(.blt "len" [(.var 4)])]), .for_ .seq (.slc (.bin .add (.slc (.var 4) true false (.var 5) (.cst .non)) (.slc (.var 4) false true (.cst .non) (.var 5))) false true (.cst .non) (.cst (.int 12))) (.cst .non) (.name 6) [.for_ .rng1 (.idx (.var 3) (.cst (.int 0))) (.cst .non) (.name 7) [.ife (.cmp .notIn (.var 7) (.var 6)) [.ife (.cmp .ne (.lam false (.fv "beyond") [(.var 3), (.var 6), (.var 7)]) (.lst [(.cst (.int 5))])) [.ret (.cst (.bl false))] [], .cont] [], .asg (.name 8) (.comp .seq (.var 6) (.cst .non) (.name 11) true (.cmp .ne (.var 11) (.var 7)) (.var 11)), .asg (.name 9) (.comp .seq (.var 4) (.cst .non) (.name 11) true (.and_ (.cmp .ne (.var 11) (.var 6)) (.call "_law_has" [(.var 11), (.var 8)])) (.var 11)), .asg (.name 10) (.call "beyond" [(.var 3), (.var 6), (.var 7)]), .ife (.cmp .ne (.lst [(.var 10)]) (.var 9)) [.ret (.cst (.bl false))] [], .ife (.cmp .ne (.call "beyond" [(.var 3), (.var 10), (.idx (.comp .seq (.var 10) (.cst .non) (.name 11) true (.cmp .notIn (.var 11) (.var 6)) (.var 11)) (.cst (.int 0)))]) (.var 6)) [.ret (.cst (.bl false))] []]]],
  .ret (.cst (.bl true))] }
def T : Tab := [("is_from", d_is_from), ("is_curve", d_is_curve), ("need_curve", d_need_curve), ("is_rising", d_is_rising), ("is_lot_of", d_is_lot_of), ("blocks_of", d_blocks_of), ("odd_of", d_odd_of), ("pane_of", d_pane_of), ("is_pane", d_is_pane), ("need_pane", d_need_pane), ("need_corner", d_need_corner), ("all_lots", d_all_lots), ("within", d_within), ("without", d_without), ("panes_of", d_panes_of), ("beyond", d_beyond), ("_law_box", d__law_box), ("_law_more", d__law_more), ("_law_take", d__law_take), ("_law_curve", d__law_curve), ("_law_lots", d__law_lots), ("_law_is_pane", d__law_is_pane), ("_law_panes", d__law_panes), ("_law_has", d__law_has), ("law", d_law)]
def i_is_from : FnI := ⟨"is_from", top 20, [Str.ofString "thing", Str.ofString "least", Str.ofString "most"], [Str.ofString "thing", Str.ofString "least", Str.ofString "most"], d_is_from, none⟩
def i_is_curve : FnI := ⟨"is_curve", top 21, [Str.ofString "thing"], [Str.ofString "thing"], d_is_curve, none⟩
def i_need_curve : FnI := ⟨"need_curve", top 22, [Str.ofString "curve"], [Str.ofString "curve"], d_need_curve, none⟩
def i_is_rising : FnI := ⟨"is_rising", top 23, [Str.ofString "row", Str.ofString "at"], [Str.ofString "row"], d_is_rising, none⟩
def i_is_lot_of : FnI := ⟨"is_lot_of", top 24, [Str.ofString "thing", Str.ofString "many", Str.ofString "one"], [Str.ofString "thing", Str.ofString "many"], d_is_lot_of, none⟩
def i_blocks_of : FnI := ⟨"blocks_of", top 25, [Str.ofString "lot", Str.ofString "found", Str.ofString "corner"], [Str.ofString "lot"], d_blocks_of, none⟩
def i_odd_of : FnI := ⟨"odd_of", top 26, [Str.ofString "many", Str.ofString "lot", Str.ofString "inner", Str.ofString "block"], [Str.ofString "many", Str.ofString "lot"], d_odd_of, none⟩
def i_pane_of : FnI := ⟨"pane_of", top 27, [Str.ofString "curve", Str.ofString "lot"], [Str.ofString "curve", Str.ofString "lot"], d_pane_of, none⟩
def i_is_pane : FnI := ⟨"is_pane", top 28, [Str.ofString "thing", Str.ofString "curve"], [Str.ofString "thing", Str.ofString "curve"], d_is_pane, none⟩
def i_need_pane : FnI := ⟨"need_pane", top 29, [Str.ofString "curve", Str.ofString "pane"], [Str.ofString "curve", Str.ofString "pane"], d_need_pane, none⟩
def i_need_corner : FnI := ⟨"need_corner", top 30, [Str.ofString "curve", Str.ofString "corner"], [Str.ofString "curve", Str.ofString "corner"], d_need_corner, none⟩
def i_all_lots : FnI := ⟨"all_lots", top 31, [Str.ofString "many", Str.ofString "size", Str.ofString "found", Str.ofString "turn", Str.ofString "later", Str.ofString "lot", Str.ofString "least", Str.ofString "corner"], [Str.ofString "many", Str.ofString "size"], d_all_lots, none⟩
def i_within : FnI := ⟨"within", top 32, [Str.ofString "one", Str.ofString "other", Str.ofString "corner"], [Str.ofString "one", Str.ofString "other"], d_within, none⟩
def i_without : FnI := ⟨"without", top 33, [Str.ofString "lot", Str.ofString "corner", Str.ofString "one"], [Str.ofString "lot", Str.ofString "corner"], d_without, none⟩
def i_panes_of : FnI := ⟨"panes_of", top 35, [Str.ofString "curve", Str.ofString "lot"], [Str.ofString "curve"], d_panes_of, none⟩
def i_beyond : FnI := ⟨"beyond", top 36, [Str.ofString "curve", Str.ofString "pane", Str.ofString "corner", Str.ofString "rest", Str.ofString "other"], [Str.ofString "curve", Str.ofString "pane", Str.ofString "corner"], d_beyond, none⟩
def i__law_box : FnI := ⟨"_law_box", top 38, [Str.ofString "_law_script", Str.ofString "_law_k", Str.ofString "_law_here", Str.ofString "_law_number", Str.ofString "_law_j", Str.ofString "_law_part"], [Str.ofString "_law_script", Str.ofString "_law_k"], d__law_box, none⟩
def i__law_more : FnI := ⟨"_law_more", top 39, [Str.ofString "_law_box_here", Str.ofString "_law_number", Str.ofString "_law_j"], [Str.ofString "_law_box_here"], d__law_more, none⟩
def i__law_take : FnI := ⟨"_law_take", top 40, [Str.ofString "_law_box_here", Str.ofString "_law_wide", Str.ofString "_law_rest_of", Str.ofString "_law_digit"], [Str.ofString "_law_box_here", Str.ofString "_law_wide"], d__law_take, none⟩
def i__law_curve : FnI := ⟨"_law_curve", top 41, [Str.ofString "_law_box_here", Str.ofString "_law_deep"], [Str.ofString "_law_box_here"], d__law_curve, none⟩
def i__law_lots : FnI := ⟨"_law_lots", top 42, [Str.ofString "_law_many", Str.ofString "_law_size", Str.ofString "_law_found", Str.ofString "_law_turn", Str.ofString "_law_longer", Str.ofString "_law_lot", Str.ofString "_law_corner"], [Str.ofString "_law_many", Str.ofString "_law_size"], d__law_lots, none⟩
def i__law_is_pane : FnI := ⟨"_law_is_pane", top 43, [Str.ofString "_law_curve_here", Str.ofString "_law_lot", Str.ofString "_law_apart", Str.ofString "_law_place", Str.ofString "_law_one", Str.ofString "_law_other", Str.ofString "_law_corner"], [Str.ofString "_law_curve_here", Str.ofString "_law_lot"], d__law_is_pane, none⟩
def i__law_panes : FnI := ⟨"_law_panes", top 44, [Str.ofString "_law_curve_here", Str.ofString "_law_lot"], [Str.ofString "_law_curve_here"], d__law_panes, none⟩
def i__law_has : FnI := ⟨"_law_has", top 45, [Str.ofString "_law_pane", Str.ofString "_law_lot", Str.ofString "_law_corner"], [Str.ofString "_law_pane", Str.ofString "_law_lot"], d__law_has, none⟩
def i_law : FnI := ⟨"law", top 48, [Str.ofString "_law_script", Str.ofString "_law_k", Str.ofString "_law_box_here", Str.ofString "_law_curve_here", Str.ofString "_law_rows", Str.ofString "_law_spot", Str.ofString "_law_pane", Str.ofString "_law_corner", Str.ofString "_law_rest", Str.ofString "_law_due", Str.ofString "_law_found", Str.ofString "_law_one"], [Str.ofString "_law_script"], d_law, some false⟩
def Fs : List FnI := [i_is_from, i_is_curve, i_need_curve, i_is_rising, i_is_lot_of, i_blocks_of, i_odd_of, i_pane_of, i_is_pane, i_need_pane, i_need_corner, i_all_lots, i_within, i_without, i_panes_of, i_beyond, i__law_box, i__law_more, i__law_take, i__law_curve, i__law_lots, i__law_is_pane, i__law_panes, i__law_has, i_law]
def cs : List (String × D) := [("MOST_CORNERS", (.int 9)), ("MOST_DEEP", (.int 6))]
def rz : List String := ["NoCorner", "NoCurve", "NoPane"]
def sta (l : Option Bool) : Sta := ⟨cs, ["is_from", "is_curve", "need_curve", "is_rising", "is_lot_of", "blocks_of", "odd_of", "pane_of", "is_pane", "need_pane", "need_corner", "all_lots", "within", "without", "panes_of", "beyond", "_law_box", "_law_more", "_law_take", "_law_curve", "_law_lots", "_law_is_pane", "_law_panes", "_law_has", "law"], l⟩
def rk : List (String × Kd) := [("is_from", .v), ("is_curve", .v), ("need_curve", .v), ("is_rising", .v), ("is_lot_of", .v), ("blocks_of", .f), ("odd_of", .v), ("pane_of", .v), ("is_pane", .v), ("need_pane", .v), ("need_corner", .v), ("all_lots", .u), ("within", .v), ("without", .v), ("panes_of", .f), ("beyond", .v), ("_law_box", .f), ("_law_more", .u), ("_law_take", .v), ("_law_curve", .v), ("_law_lots", .u), ("_law_is_pane", .v), ("_law_panes", .f), ("_law_has", .v), ("law", .v)]
theorem chk_T : chkT T rk = true := by decide +kernel
@[simp] theorem io_is_from : ioOf T "is_from" = false := Eq.trans rfl rfl
@[simp] theorem io_is_curve : ioOf T "is_curve" = false := Eq.trans rfl rfl
@[simp] theorem io_need_curve : ioOf T "need_curve" = false := Eq.trans rfl rfl
@[simp] theorem io_is_rising : ioOf T "is_rising" = false := Eq.trans rfl rfl
@[simp] theorem io_is_lot_of : ioOf T "is_lot_of" = false := Eq.trans rfl rfl
@[simp] theorem io_blocks_of : ioOf T "blocks_of" = false := Eq.trans rfl rfl
@[simp] theorem io_odd_of : ioOf T "odd_of" = false := Eq.trans rfl rfl
@[simp] theorem io_pane_of : ioOf T "pane_of" = false := Eq.trans rfl rfl
@[simp] theorem io_is_pane : ioOf T "is_pane" = false := Eq.trans rfl rfl
@[simp] theorem io_need_pane : ioOf T "need_pane" = false := Eq.trans rfl rfl
@[simp] theorem io_need_corner : ioOf T "need_corner" = false := Eq.trans rfl rfl
@[simp] theorem io_all_lots : ioOf T "all_lots" = false := Eq.trans rfl rfl
@[simp] theorem io_within : ioOf T "within" = false := Eq.trans rfl rfl
@[simp] theorem io_without : ioOf T "without" = false := Eq.trans rfl rfl
@[simp] theorem io_panes_of : ioOf T "panes_of" = false := Eq.trans rfl rfl
@[simp] theorem io_beyond : ioOf T "beyond" = false := Eq.trans rfl rfl
@[simp] theorem io__law_box : ioOf T "_law_box" = false := Eq.trans rfl rfl
@[simp] theorem io__law_more : ioOf T "_law_more" = true := Eq.trans rfl rfl
@[simp] theorem io__law_take : ioOf T "_law_take" = true := Eq.trans rfl rfl
@[simp] theorem io__law_curve : ioOf T "_law_curve" = true := Eq.trans rfl rfl
@[simp] theorem io__law_lots : ioOf T "_law_lots" = false := Eq.trans rfl rfl
@[simp] theorem io__law_is_pane : ioOf T "_law_is_pane" = false := Eq.trans rfl rfl
@[simp] theorem io__law_panes : ioOf T "_law_panes" = false := Eq.trans rfl rfl
@[simp] theorem io__law_has : ioOf T "_law_has" = false := Eq.trans rfl rfl
@[simp] theorem io_law : ioOf T "law" = false := Eq.trans rfl rfl
theorem tab_eq : tabOf Fs = T := rfl
theorem sta_eq (l : Option Bool) : (⟨cs, Fs.map (·.name), l⟩ : Sta) = sta l := rfl
end Law

namespace Law
open Cv
abbrev bxD (a b : Int) : D := .lst [.int a, .int b]
theorem sp_more (n : Nat) (a b : Int) : ∃ v b' : Int, callV T (n + 1) "_law_more" [bxD a b] = .ok (.int v, [.int a, .int b']) := by
  suffices h : Ok (callV T (n + 1) "_law_more" [bxD a b]) fun r => ∃ v b' : Int, r = (.int v, [.int a, .int b']) by
    obtain ⟨_, e, v, b', rfl⟩ := h
    exact ⟨v, b', e⟩
  rw [callV_run (fd := d__law_more) rfl, run_io rfl rfl]
  have e1 : itemsD .rng1 (.int 12) .non = some ((List.range 12).map nI) := itm_rng1 (m := 12) (by omega)
  simp [d__law_more, e1]
  repeat (with_reducible refine Ok.bind ?_)
  refine (forN (fun s => ∃ v b' : Int, s 0 = some (bxD a b') ∧ s 1 = some (.int v)) ⟨0, b, by simp, by simp⟩ fun s d _ hI => ?_).imp fun o ho => ?_
  · obtain ⟨v, b', h0, h1⟩ := hI
    simp [h0, h1, binD_mod, binD_mul, binD_fdiv, L2.ixN]
  · obtain ⟨s', rfl, v, b', h0, h1⟩ := ho
    simp [h0, h1]
theorem sp_take (n : Nat) (a b w : Int) (h0 : 0 < w) (h1 : w < 1073741824) : ∃ v a' b' : Int, callV T (n + 2) "_law_take" [.lst [.int a, .int b], .int w] = .ok (.int v, [.int a', .int b']) ∧ 0 ≤ v ∧ v < w := by
  rw [callV_run (fd := d__law_take) rfl, run_io rfl rfl]
  have ew : w.natAbs < 18446744073709551616 := by omega
  obtain ⟨v, b', hm⟩ := sp_more n a b
  by_cases q : 0 ≤ a
  · by_cases q2 : a < w
    · simp [d__law_take, q, q2, hm, binD_mul' ew, divmod_ok h0 h1, L2.ixN]
      exact ⟨Int.emod_nonneg _ (by omega), Int.emod_lt_of_pos _ h0⟩
    · simp [d__law_take, q, q2, divmod_ok h0 h1, L2.ixN]
      exact ⟨Int.emod_nonneg _ (by omega), Int.emod_lt_of_pos _ h0⟩
  · simp [d__law_take, q, divmod_ok h0 h1, L2.ixN]
    exact ⟨Int.emod_nonneg _ (by omega), Int.emod_lt_of_pos _ h0⟩
theorem sp_takeN (n : Nat) (a b : Int) (w : Nat) (h0 : 0 < w) (h1 : w < 1073741824) : ∃ (v : Nat) (a' b' : Int), callV T (n + 2) "_law_take" [bxD a b, .int w] = .ok (nI v, [.int a', .int b']) ∧ v < w := by
  obtain ⟨v, a', b', e, h2, h3⟩ := sp_take n a b w (by omega) (by omega)
  obtain ⟨v, rfl⟩ : ∃ k : Nat, v = k := ⟨v.toNat, by omega⟩
  exact ⟨v, a', b', e, by omega⟩
abbrev crv (m d : Nat) : D := .tup [.int m, .int d]
structure Crv (m d : Nat) : Prop where
  d1 : 1 ≤ d
  d6 : d ≤ 6
  m1 : d + 1 ≤ m
  m9 : m ≤ 9
theorem sp_box (n : Nat) (ns : List Int) (k : Nat) : ∃ a b : Int, callV T (n + 1) "_law_box" [.scr ns, nI k] = .ok (bxD a b, []) := by
  suffices h : Ok (callV T (n + 1) "_law_box" [.scr ns, nI k]) fun r => ∃ a b : Int, r = (bxD a b, []) by
    obtain ⟨_, e, v, b', rfl⟩ := h
    exact ⟨v, b', e⟩
  rw [callV_run (fd := d__law_box) rfl]
  refine run_val rfl rfl ?_
  have e1 : itemsD .rng1 (.int 16) .non = some ((List.range 16).map nI) := itm_rng1 (m := 16) (by omega)
  have rest : ∀ (here : Int) (s : Fm), s 2 = some (.int here) → Ok (evSs (caT T n) (d__law_box.body.drop 2) s) fun o => match o with
    | .ret d _ => ∃ a b : Int, (d, ([] : List D)) = (bxD a b, [])
    | .next _ => ∃ a b : Int, (D.non, ([] : List D)) = (bxD a b, [])
    | _ => False := fun here s h2 => by
    by_cases q : here % 2 = 0
    · simp [d__law_box, h2, binD_mod, binD_fdiv, q]
    · simp [d__law_box, h2, binD_mod, binD_fdiv, q, e1]
      repeat (with_reducible refine Ok.bind ?_)
      refine (forNB (fun s => ∃ v : Int, s 2 = some (.int here) ∧ s 3 = some (.int v)) ⟨0, by simp [h2], by simp⟩ fun s b hb hI => ?_).imp fun o ho => ?_
      · obtain ⟨v, g2, g3⟩ := hI
        have hb := List.mem_range.mp hb
        have m1 : ((here % 2147483647 * 48271 + 7919 * (b : Int) + 1) % 2147483647).natAbs < 18446744073709551616 := by omega
        have m2 : ∀ z : Int, (z % 2147483629).natAbs < 18446744073709551616 := fun z => by omega
        have m3 : (b : Int).natAbs < 18446744073709551616 := by omega
        simp [g2, g3, binD_mod, binD_mul', binD_mul, m1, m2, m3]
      · obtain ⟨s', rfl, v, g2, g3⟩ := ho
        simp [g2, g3, binD_mod]
  by_cases q : k < ns.length
  · have ha : L2.atI ns (k : Int) = some ns[k] := by simp [L2.atI, L2.ixN, q]
    have := rest ns[k] (up (up (stF [.scr ns, nI k]) 2 (.int (7919 * k + 13))) 2 (.int ns[k])) (by simp)
    simp [d__law_box, idxD, ha, q, binD, mulOk] at this ⊢
    exact this
  · have := rest (7919 * k + 13) (up (stF [.scr ns, nI k]) 2 (.int (7919 * k + 13))) (by simp)
    simp [d__law_box, q, binD, mulOk] at this ⊢
    exact this
end Law
namespace Law
open Cv
theorem sp_curve (n : Nat) (a b : Int) : ∃ (m d : Nat) (a' b' : Int), callV T (n + 3) "_law_curve" [bxD a b] = .ok (crv m d, [.int a', .int b']) ∧ Crv m d := by
  rw [callV_run (fd := d__law_curve) rfl, run_io rfl rfl]
  obtain ⟨d, a1, b1, h1, h2⟩ := sp_takeN n a b 6 (by omega) (by omega)
  obtain ⟨e, a2, b2, h4, h5⟩ := sp_takeN n a1 b1 (9 - (1 + d)) (by omega) (by omega)
  have e1 : ((9 - (1 + d) : Nat) : Int) = 9 - (1 + (d : Int)) := by omega
  rw [e1] at h4
  have h1' : callV T (n + 2) "_law_take" [bxD a b, .int 6] = .ok (nI d, [.int a1, .int b1]) := h1
  refine ⟨1 + d + 1 + e, 1 + d, a2, b2, ?_, by omega, by omega, by omega, by omega⟩
  simp [d__law_curve, h1', h4]
end Law
namespace Law
open Cv
def noScr : D → Bool
  | .scr _ => false
  | .fn _ => false
  | _ => true
/-- a whole number from l to m -/
def fromB (l m : Int) : D → Bool
  | .int i => decide (l ≤ i) && decide (i ≤ m)
  | _ => false
theorem sp_is_from (n : Nat) (x : D) (l m : Int) (h : noScr x = true) : callV T (n + 1) "is_from" [x, .int l, .int m] = .ok (.bl (fromB l m x), []) := by
  rw [callV_run (fd := d_is_from) rfl, run_eq rfl rfl]
  cases x with
  | int x => by_cases q : l ≤ x <;> simp [d_is_from, isiD, fromB, q]
  | scr _ => cases h
  | fn _ => cases h
  | _ => simp [d_is_from, isiD, fromB]
end Law
namespace Law
open Cv
def curveB : D → Bool
  | .tup [a, .int d] => fromB 1 6 (.int d) && fromB (d + 1) 9 a
  | _ => false
def noScrs : D → Bool
  | .scr _ => false
  | .fn _ => false
  | .tup ds => ds.all noScr
  | .lst ds => ds.all noScr
  | _ => true
theorem sp_is_curve (n : Nat) (x : D) (h : noScrs x = true) : callV T (n + 2) "is_curve" [x] = .ok (.bl (curveB x), []) := by
  rw [callV_run (fd := d_is_curve) rfl, run_eq rfl rfl]
  cases x with
  | scr _ => cases h
  | fn _ => cases h
  | tup ds =>
    match ds, h with
    | [], _ => simp [d_is_curve, curveB]
    | [a], _ => simp [d_is_curve, curveB]
    | [a, b], h =>
      have ha : noScr a = true := by simp [noScrs] at h; exact h.1
      have hb : noScr b = true := by simp [noScrs] at h; exact h.2
      cases hq : fromB 1 6 b with
      | true =>
        obtain ⟨d, rfl⟩ : ∃ d, b = .int d := by cases b <;> first | exact ⟨_, rfl⟩ | cases hq
        simp [d_is_curve, curveB, sp_is_from _ _ _ _ hb, sp_is_from _ _ _ _ ha, hq]
      | false =>
        have e : curveB (.tup [a, b]) = false := by
          cases b <;> first | rfl | skip
          simp only [curveB, hq, Bool.false_and]
        simp [d_is_curve, e, sp_is_from _ _ _ _ hb, hq]
    | a :: b :: c :: l, _ =>
      have q : ¬ ((l.length : Int) + 1 + 1 + 1 = 2) := by omega
      simp [d_is_curve, curveB, q]
  | _ => simp [d_is_curve, curveB, isiD]
theorem sp_need_curve' (n : Nat) (x : D) (h : noScrs x = true) : callV T (n + 3) "need_curve" [x] = if curveB x then .ok (.non, []) else .exn "NoCurve" := by
  rw [callV_run (fd := d_need_curve) rfl, run_eq rfl rfl]
  cases hq : curveB x <;> simp [d_need_curve, sp_is_curve _ _ h, hq]
theorem curveB_crv {m d : Nat} (h : Crv m d) : curveB (crv m d) = true := by
  have h1 := h.d1; have h2 := h.d6; have h3 := h.m1; have h4 := h.m9
  simp [curveB, fromB]
  omega
theorem sp_need_curve (n : Nat) {m d : Nat} (h : Crv m d) : callV T (n + 3) "need_curve" [crv m d] = .ok (.non, []) := by
  rw [sp_need_curve' n _ rfl, curveB_crv h]
  rfl
end Law
namespace Law
open Cv
def riseI : List Int → Bool
  | a :: b :: l => decide (a < b) && riseI (b :: l)
  | _ => true
theorem rise_all : ∀ (l : List Int), riseI l = (List.range (l.length - 1)).all fun i => decide (l.getD i 0 < l.getD (i + 1) 0)
  | [] => rfl
  | [a] => rfl
  | a :: b :: l => by
    have ih := rise_all (b :: l)
    simp only [riseI, ih, List.length_cons, Nat.add_sub_cancel]
    rw [List.range_succ_eq_map, List.all_cons, List.all_map]
    rfl
theorem sp_is_rising (n : Nat) (l : List Int) (hl : l.length ≤ 1000) : callV T (n + 1) "is_rising" [.tup (l.map .int)] = .ok (.bl (riseI l), []) := by
  rw [callV_run (fd := d_is_rising) rfl, run_eq rfl rfl]
  have e2 : itemsD .rng2 (.int 1) (.int l.length) = some (((List.range (l.length - 1)).map (1 + ·)).map nI) := itm_rng2 (a := 1) (by omega) hl
  simp only [d_is_rising, eSs_cons, eS_ret, eE_blt, eEs_cons, eEs_nil]
  rw [comp_no (bs := (List.range (l.length - 1)).map (1 + ·)) nI (fun i => D.bl (decide (l.getD (i - 1) 0 < l.getD i 0)))]
  · rw [List.map_map]
    simp only [R.bindOk, all_map, R.ofO_some, oD_val]
    rw [rise_all]
    have : ((fun i => D.bl (decide (l.getD (i - 1) 0 < l.getD i 0))) ∘ (1 + ·)) = fun i => D.bl (decide (l.getD i 0 < l.getD (i + 1) 0)) := by
      funext i
      simp only [Function.comp]
      simp only [Nat.add_comm 1 i, Nat.add_sub_cancel]
    rw [this, all_map]
    rfl
  · simp [e2]
  · intro b hb
    simp only [List.mem_map, List.mem_range] at hb
    obtain ⟨i, hi, rfl⟩ := hb
    have h1 : L2.atI (l.map D.int) ((i : Nat) : Int) = some (.int (l.getD i 0)) := by
      rw [atI_nat (by simp; omega)]
      simp [List.getD_eq_getElem?_getD, show i < l.length by omega]
    have h2 : L2.atI (l.map D.int) ((i + 1 : Nat) : Int) = some (.int (l.getD (i + 1) 0)) := by
      rw [atI_nat (by simp; omega)]
      simp [List.getD_eq_getElem?_getD, show i + 1 < l.length by omega]
    have e3 : ((1 + i : Nat) : Int) - 1 = (i : Nat) := by omega
    have e4 : ((1 + i : Nat) : Int) = (i + 1 : Nat) := by omega
    rw [show 1 + i - 1 = i by omega, show 1 + i = i + 1 by omega]
    rw [show 1 + i = i + 1 by omega] at e3
    simp only [List.getD_eq_getElem?_getD] at h1 h2
    simp [idxD, atD, e3, h1, h2, -Int.natCast_add, -List.getElem?_map]
/-- whether a thing is a lot of m corners -/
def intsB (m : Int) : List D → Option (List Int)
  | [] => some []
  | d :: ds => match d with
    | .int i => if 0 ≤ i ∧ i ≤ m - 1 then (intsB m ds).map (i :: ·) else none
    | _ => none
def lotB (m : Int) : D → Bool
  | .tup ds => match intsB m ds with
    | some l => riseI l
    | none => false
  | _ => false
theorem intsB_none {m : Int} : ∀ {ds : List D}, intsB m ds = none ↔ ds.all (fromB 0 (m - 1)) = false
  | [] => by simp [intsB]
  | d :: ds => by
    have ih := intsB_none (m := m) (ds := ds)
    cases d with
    | int i =>
      simp only [intsB, List.all_cons, fromB]
      by_cases q : 0 ≤ i ∧ i ≤ m - 1
      · rw [if_pos q]
        simp [q.1, q.2, ih]
      · rw [if_neg q]
        have : (decide (0 ≤ i) && decide (i ≤ m - 1)) = false := by simp; omega
        rw [this]; simp
    | _ => simp [intsB, fromB]
theorem intsB_some {m : Int} : ∀ {ds : List D} {l : List Int}, intsB m ds = some l → ds = l.map .int
  | [], l, h => by cases h; rfl
  | d :: ds, l, h => by
    cases d with
    | int i =>
      simp only [intsB] at h
      split at h
      · simp only [Option.map_eq_some_iff] at h
        obtain ⟨l', h1, rfl⟩ := h
        rw [intsB_some h1]; rfl
      · cases h
    | _ => cases h
theorem sp_is_lot_of (n : Nat) (x : D) (m : Int) (h : noScrs x = true) (hl : ∀ ds, x = .tup ds → ds.length ≤ 1000) : callV T (n + 2) "is_lot_of" [x, .int m] = .ok (.bl (lotB m x), []) := by
  rw [callV_run (fd := d_is_lot_of) rfl, run_eq rfl rfl]
  cases x with
  | scr _ => cases h
  | fn _ => cases h
  | tup ds =>
    have hlen := hl ds rfl
    have c1 : ∀ s : Fm, s 0 = some (.tup ds) → s 1 = some (.int m) → evE (caT T (n + 1)) (.comp .seq (.var 0) (.cst .non) (.name 2) false (.cst .non) (.call "is_from" [(.var 2), (.cst (.int 0)), (.bin .sub (.var 1) (.cst (.int 1)))])) s = .ok (.lst (ds.map fun d => .bl (fromB 0 (m - 1) d)), s) := fun s h0 h1 =>
      comp_no (bs := ds) id (fun d => .bl (fromB 0 (m - 1) d)) (by simp [h0]) (fun d hd => by
        have hs : noScr d = true := List.all_eq_true.mp h d hd
        simp [h0, h1, sp_is_from _ _ _ _ hs])
    cases hq : ds.all (fromB 0 (m - 1)) with
    | false =>
      have e : intsB m ds = none := intsB_none.mpr hq
      simp [d_is_lot_of, c1, all_map, hq, lotB, e, isiD]
    | true =>
      cases e : intsB m ds with
      | none => rw [intsB_none.mp e] at hq; cases hq
      | some l =>
        have ed := intsB_some e
        have hr := sp_is_rising n l (by rw [ed] at hlen; simpa using hlen)
        rw [← ed] at hr
        simp [d_is_lot_of, c1, all_map, hq, lotB, e, isiD, hr]
  | _ => simp [d_is_lot_of, lotB, isiD]
end Law
namespace Law
open Cv
def bstep (f : List (List Nat)) (c : Nat) : List (List Nat) := match f.reverse with
  | [] => [[c]]
  | b :: r => if b.getLastD 0 + 1 == c then r.reverse ++ [b ++ [c]] else f ++ [[c]]
theorem bstep_nil (c : Nat) : bstep [] c = [[c]] := rfl
theorem bstep_snoc (f : List (List Nat)) (b : List Nat) (z c : Nat) : bstep (f ++ [b ++ [z]]) c = if z + 1 = c then f ++ [b ++ [z] ++ [c]] else f ++ [b ++ [z]] ++ [[c]] := by
  simp only [bstep, List.reverse_append, List.reverse_cons, List.reverse_nil, List.nil_append, List.singleton_append, List.reverse_reverse]
  simp
abbrev blks (l : List Nat) : List (List Nat) := l.foldl bstep []
theorem sp_blocks_of' (n : Nat) (L : List Nat) (hl : L.length ≤ 100) : Ok (callV T (n + 1) "blocks_of" [tN L]) fun r => r = (.lst ((blks L).map tN), []) ∧ ∀ b ∈ blks L, b ≠ [] := by
  rw [callV_run (fd := d_blocks_of) rfl]
  refine run_val rfl rfl ?_
  simp only [d_blocks_of, eSs_cons, eS_asg, eE_lst, eEs_nil, R.bindOk, eS_for, itv_seq, eE_var, up_get, stF_get]
  simp
  refine Ok.bind2 (forK (I := fun k f s => s 1 = some (.lst (f.map tN)) ∧ f.length ≤ k ∧ ∀ b ∈ f, b ≠ [] ∧ b.length ≤ k) (f := bstep) (N := 100) (k := 0) (a := []) (by simp) (by simpa using hl) fun s f c k hc hk hI => ?_) fun o ho => ?_
  · obtain ⟨h1, hI1, hI2⟩ := hI
    rcases snoc_cases f with rfl | ⟨f, b, rfl⟩
    · simp [h1, cmpD, eqD, eqDs, dle, dles, methD, lim, bstep_nil]
    · rcases snoc_cases b with rfl | ⟨b, z, rfl⟩
      · exact absurd rfl (hI2 [] (by simp)).1
      · have hb := (hI2 (b ++ [z]) (by simp)).2
        simp at hb hI1
        have ne := cmp_lT (f ++ [b ++ [z]]) []
        have nb : ((f ++ [b ++ [z]]) == []) = false := by cases f <;> rfl
        rw [nb] at ne
        rw [bstep_snoc]
        have eT : (f ++ [b ++ [z]]).map tN = f.map tN ++ [tN (b ++ [z])] := by rw [List.map_append]; rfl
        rw [eT] at ne h1
        simp only [List.map_nil] at ne
        by_cases q : z + 1 = c
        · have q' : ((z : Int) = (c : Int) - 1) := by omega
          have a5 := add1 (b ++ [z]) c (by simp; omega)
          have a6 : L2.ixN (f.length + 1) (-1) = some f.length := ixN_last _
          rw [if_pos q]
          simp [h1, ne, q', a5, a6]
          refine ⟨by omega, fun x hx => ?_⟩
          rcases hx with h | rfl
          · exact ⟨(hI2 x (by simp [h])).1, by have := (hI2 x (by simp [h])).2; omega⟩
          · simp; omega
        · have q' : ¬ ((z : Int) = (c : Int) - 1) := by omega
          rw [if_neg q]
          have a6 : f.length + 1 < lim := by simp [lim]; omega
          simp [h1, ne, q', methD, a6]
          refine ⟨by omega, fun x hx => ?_⟩
          rcases hx with h | rfl | rfl
          · exact ⟨(hI2 x (by simp [h])).1, by have := (hI2 x (by simp [h])).2; omega⟩
          · simp; omega
          · simp
  · obtain ⟨s', rfl, k, hk, h1, h2, h3⟩ := ho
    simp [h1]
    exact fun b hb => (h3 b hb).1
theorem sp_blocks_of (n : Nat) (L : List Nat) (hl : L.length ≤ 100) : callV T (n + 1) "blocks_of" [tN L] = .ok (.lst ((blks L).map tN), []) := by
  obtain ⟨_, e, rfl, _⟩ := sp_blocks_of' n L hl
  exact e
theorem blks_ne (L : List Nat) (hl : L.length ≤ 100) : ∀ b ∈ blks L, b ≠ [] := by
  obtain ⟨_, e, rfl, h⟩ := sp_blocks_of' 0 L hl
  exact h
def inB (m : Nat) (b : List Nat) : Bool := decide (0 < b.headD 0) && decide (b.getLastD 0 + 1 < m)
def oddB (b : List Nat) : Bool := b.length % 2 == 1
theorem odd_len (b : List Nat) : (((b.length : Int) % 2) == 1) = oddB b := by
  unfold oddB
  rw [Bool.eq_iff_iff, beq_iff_eq, beq_iff_eq]
  omega
def oddN (m : Nat) (l : List Nat) : Nat := (((blks l).filter (inB m)).filter oddB).length
theorem sp_odd_of (n m : Nat) (L : List Nat) (hl : L.length ≤ 100) : callV T (n + 2) "odd_of" [nI m, tN L] = .ok (nI (oddN m L), []) := by
  rw [callV_run (fd := d_odd_of) rfl, run_eq rfl rfl]
  have hb := sp_blocks_of n L hl
  have hne := blks_ne L hl
  simp only [d_odd_of, eSs_cons, eS_asg]
  rw [comp_if (bs := blks L) tN (inB m) tN]
  · simp only [R.bindOk, eS_ret, eE_blt, eEs_cons]
    rw [comp_if (bs := (blks L).filter (inB m)) tN oddB tN]
    · simp [oddN]
    · simp
    · intro b _
      have := odd_len b
      simp [this]
    · intro b _ _
      simp
  · simp [hb]
  · intro b hb
    have h0 := hne b hb
    obtain ⟨i, z, rfl⟩ : ∃ i z, b = i ++ [z] := (snoc_cases b).resolve_left h0
    have a4 : ∃ x r, i ++ [z] = x :: r ∧ inB m (i ++ [z]) = (decide (0 < x) && decide (z + 1 < m)) := by
      cases i with
      | nil => exact ⟨z, [], rfl, by simp [inB]⟩
      | cons x r => exact ⟨x, r ++ [z], rfl, by simp only [inB, List.cons_append, last_cons]; rfl⟩
    obtain ⟨x, r, e, a4⟩ := a4
    have a0 : idxD (tN (i ++ [z])) (.int 0) = some (nI x) := by rw [e]; exact idx_0N
    have a1 : idxD (tN (i ++ [z])) (.int (-1)) = some (nI z) := idx_lastN
    rw [a4]
    have a3 : decide ((z : Int) < (m : Int) - 1) = decide (z + 1 < m) := by apply decide_eq_decide.mpr; omega
    by_cases q : 0 < x
    · simp only [eE_and, eE_cmp, eE_idx, eE_var, eE_cst, up_get, if_true, R.bindOk, a0, R.ofO_some, cmpD_gt, truD_bl, eE_neg, a1]
      simp [q, a3]
    · simp only [eE_and, eE_cmp, eE_idx, eE_var, eE_cst, up_get, if_true, R.bindOk, a0, R.ofO_some, cmpD_gt, truD_bl]
      simp [q]
  · intro b _ _
    simp
def paneB (m d : Nat) (l : List Nat) : Bool := l.length == d && oddN m l == 0
theorem sp_pane_of (n m d : Nat) (l : List Nat) (hl : l.length ≤ 100) : callV T (n + 3) "pane_of" [crv m d, tN l] = .ok (.bl (paneB m d l), []) := by
  rw [callV_run (fd := d_pane_of) rfl, run_eq rfl rfl]
  have ho := sp_odd_of n m l hl
  by_cases h : l.length = d
  · have q : ((oddN m l : Int) = 0) = (oddN m l = 0) := by apply propext; omega
    have q2 : ((oddN m l : Int) == 0) = (oddN m l == 0) := by rw [Bool.eq_iff_iff, beq_iff_eq, beq_iff_eq]; omega
    simp [d_pane_of, paneB, h, ho, q2]
  · have h' : ¬ ((l.length : Int) = d) := by omega
    have h2 : (l.length == d) = false := by simpa using h
    have h3 : ((l.length : Int) == d) = false := by simpa using h'
    simp [d_pane_of, paneB, h2, h3]
end Law
namespace Law
open Cv
def stL (l : List Nat) : Nat := if l = [] then 0 else l.getLastD 0 + 1
def nextL (m : Nat) (l : List Nat) : List (List Nat) := ((List.range (m - stL l)).map (stL l + ·)).map fun c => l ++ [c]
def allL (m : Nat) : Nat → List (List Nat)
  | 0 => [[]]
  | k + 1 => (allL m k).flatMap (nextL m)
def okA (m k : Nat) : Bool := decide ((allL m k).length ≤ 200) && (allL m k).all fun l => decide (l.length = k) && decide (stL l ≤ 9) && decide (l.Pairwise (· < ·)) && l.all fun x => decide (x < m)
theorem okA_all : (List.range 10).all (fun m => (List.range 11).all (okA m)) = true := by decide +kernel
theorem allL_ok {m k : Nat} (hm : m ≤ 9) (hk : k ≤ 10) : (allL m k).length ≤ 200 ∧ ∀ l ∈ allL m k, l.length = k ∧ stL l ≤ 9 ∧ l.Pairwise (· < ·) ∧ ∀ x ∈ l, x < m := by
  have := List.all_eq_true.mp (List.all_eq_true.mp okA_all m (List.mem_range.mpr (by omega))) k (List.mem_range.mpr (by omega))
  simp only [okA, Bool.and_eq_true, decide_eq_true_eq, List.all_eq_true] at this
  exact ⟨this.1, fun l hl => ⟨(this.2 l hl).1.1.1, (this.2 l hl).1.1.2, (this.2 l hl).1.2, (this.2 l hl).2⟩⟩
theorem nextL_len (m : Nat) (l : List Nat) : (nextL m l).length ≤ m := by
  simp [nextL]
theorem fold_flat {α β : Type} (g : α → List β) : ∀ (l : List α) (acc : List β), l.foldl (fun a x => a ++ g x) acc = acc ++ l.flatMap g
  | [], acc => by simp
  | x :: l, acc => by simp [fold_flat g l]
theorem foldl_rng {α : Type} (g : α → α) (f : Nat → α) (h : ∀ i, f (i + 1) = g (f i)) : ∀ n, (List.range n).foldl (fun a _ => g a) (f 0) = f n
  | 0 => rfl
  | n + 1 => by rw [List.range_succ, List.foldl_append, foldl_rng g f h n, h]; rfl
theorem fold_nat {β : Type} (l : List β) : ∀ k, l.foldl (fun (k : Nat) _ => k + 1) k = k + l.length := by
  induction l with
  | nil => intro k; rfl
  | cons a l ih => intro k; rw [List.foldl_cons, ih, List.length_cons]; omega
end Law
namespace Law
open Cv
theorem sp_all_lots (n m k : Nat) (hm : m ≤ 9) (hk : k ≤ 10) : callV T (n + 1) "all_lots" [nI m, nI k] = .ok (.lst ((allL m k).map tN), []) := by
  suffices h : Ok (callV T (n + 1) "all_lots" [nI m, nI k]) fun r => r = (.lst ((allL m k).map tN), []) by
    obtain ⟨_, e, rfl⟩ := h
    exact e
  rw [callV_run (fd := d_all_lots) rfl]
  refine run_val rfl rfl ?_
  simp only [d_all_lots, eSs_cons, eS_asg, eE_lst, eE_tup, eEs_cons, eEs_nil, R.bindOk, eS_for, itv_rng1, eE_var, up_get, stF_get]
  simp [itm_rng1 (show k ≤ 1000 by omega)]
  refine Ok.bind2 (forK (I := fun j i s => i = j ∧ s 0 = some (nI m) ∧ s 2 = some (.lst ((allL m i).map tN))) (f := fun i _ => i + 1) (N := k) (k := 0) (a := 0) (by simp [allL]) (by simp) fun s i _ j _ hj hI => ?_) fun o ho => ?_
  · obtain ⟨rfl, h0, h2⟩ := hI
    obtain ⟨hl1, hl2⟩ := allL_ok (m := m) hm (k := i) (by omega)
    simp [h0, h2]
    refine Ok.bind2 (forK (I := fun j (acc : List (List Nat)) s => acc.length ≤ 9 * j ∧ s 0 = some (nI m) ∧ s 4 = some (.lst (acc.map tN))) (f := fun a l => a ++ nextL m l) (N := 200) (k := 0) (a := []) (by simp [h0]) (by simpa using hl1) fun s acc l j hl hj hI => ?_) fun o ho => ?_
    · obtain ⟨ha, g0, g4⟩ := hI
      obtain ⟨q1, q2, _, _⟩ := hl2 l hl
      have hne : cmpD .ne (tN l) (.tup []) = some (!(l == [])) := cmp_tN l []
      have e6 : ∀ s' : Fm, s' 5 = some (tN l) → evE (caT T n) (.ite (.cmp .ne (.var 5) (.tup [])) (.bin .add (.idx (.var 5) (.neg (.cst (.int 1)))) (.cst (.int 1))) (.cst (.int 0))) s' = .ok (nI (stL l), s') := fun s' h5 => by
        rcases snoc_cases l with rfl | ⟨i, z, rfl⟩
        · simp [hne, h5, stL]
        · have : (i ++ [z] == []) = false := by cases i <;> rfl
          rw [this] at hne
          simp [hne, h5, stL]
      have hx := nextL_len m l
      have hlim : acc.length + (m - stL l) ≤ lim := by simp [lim]; omega
      have e7 : ∀ s' : Fm, s' 5 = some (tN l) → s' 6 = some (nI (stL l)) → s' 0 = some (nI m) → evE (caT T n) (.comp .rng2 (.var 6) (.var 0) (.name 7) false (.cst .non) (.bin .add (.var 5) (.tup [(.var 7)]))) s' = .ok (.lst ((nextL m l).map tN), s') := fun s' h5 h6 h0 => by
        rw [comp_no (bs := (List.range (m - stL l)).map (stL l + ·)) nI (fun c => tN (l ++ [c]))]
        · simp [nextL]
        · simp [h6, h0, itm_rng2 (a := stL l) (b := m) (by omega) (by omega)]
        · intro c _
          have := add1 l c (by omega)
          simp [h5, this]
      simp only [eSs_cons, eSs_nil, eS_asg, eS_expr, eE_extend]
      rw [e6 _ (by simp)]
      simp only [R.bindOk]
      rw [e7 _ (by simp) (by simp) (by simp [g0])]
      have l2 : (nextL m l).length = m - stL l := by simp [nextL]
      simp [g0, g4, l2, hlim]
      omega
    · obtain ⟨s', rfl, j', _, _, g0, g4⟩ := ho
      have e : (allL m i).foldl (fun a l => a ++ nextL m l) [] = allL m (i + 1) := by rw [fold_flat]; simp [allL]
      rw [e] at g4
      simp [g0, g4]
  · obtain ⟨s', rfl, j, hj, e, h0, h2⟩ := ho
    rw [fold_nat] at e h2
    simp at h2
    simp [h2]
end Law
namespace Law
open Cv
abbrev panesL (m d : Nat) : List (List Nat) := (allL m d).filter (paneB m d)
theorem sp_panes_of (n m d : Nat) (hm : m ≤ 9) (hd : d ≤ 9) : callV T (n + 4) "panes_of" [crv m d] = .ok (.lst ((panesL m d).map tN), []) := by
  rw [callV_run (fd := d_panes_of) rfl, run_eq rfl rfl]
  have hl := (allL_ok hm (k := d) (by omega)).2
  simp only [d_panes_of, eSs_cons, eS_ret]
  rw [comp_if (bs := allL m d) tN (paneB m d) tN]
  · simp
  · simp [sp_all_lots _ m d hm (by omega)]
  · intro l h
    have := (hl l h).1
    simp [sp_pane_of _ m d l (by omega)]
  · intro l _ _
    simp
end Law
namespace Law
open Cv
theorem rise_nat : ∀ (l : List Nat), l.Pairwise (· < ·) → riseI (l.map fun x : Nat => (x : Int)) = true
  | [], _ => rfl
  | [a], _ => rfl
  | a :: b :: l, h => by
    have h1 := List.pairwise_cons.mp h
    have ih := rise_nat (b :: l) h1.2
    have : a < b := h1.1 b (by simp)
    simp only [List.map_cons] at ih ⊢
    simp only [riseI, ih, Bool.and_true, decide_eq_true_eq]
    omega
theorem intsB_nat (m : Nat) : ∀ (l : List Nat), (∀ x ∈ l, x < m) → intsB m (l.map nI) = some (l.map fun x : Nat => (x : Int))
  | [], _ => rfl
  | a :: l, h => by
    have ih := intsB_nat m l fun x hx => h x (by simp [hx])
    have ha := h a (by simp)
    simp only [List.map_cons, intsB, ih]
    rw [if_pos (by omega)]
    rfl
theorem lotB_nat {m : Nat} {l : List Nat} (h1 : l.Pairwise (· < ·)) (h2 : ∀ x ∈ l, x < m) : lotB m (tN l) = true := by
  simp only [lotB, intsB_nat m l h2]
  exact rise_nat l h1
theorem noScrs_tN (l : List Nat) : noScrs (tN l) = true := by simp [noScrs, noScr]
theorem sp_is_lot_ofN (n m : Nat) (l : List Nat) (hl : l.length ≤ 1000) (h1 : l.Pairwise (· < ·)) (h2 : ∀ x ∈ l, x < m) : callV T (n + 2) "is_lot_of" [tN l, nI m] = .ok (.bl true, []) := by
  rw [sp_is_lot_of n (tN l) m (noScrs_tN l) (fun ds e => by cases e; simpa using hl), lotB_nat h1 h2]
/-- a lot of m corners -/
structure Lot (m : Nat) (l : List Nat) : Prop where
  pw : l.Pairwise (· < ·)
  lt : ∀ x ∈ l, x < m
theorem Lot.len {m : Nat} {l : List Nat} (h : Lot m l) : l.length ≤ m := by
  have : ∀ (l : List Nat) (k : Nat), l.Pairwise (· < ·) → (∀ x ∈ l, x < m) → (∀ x ∈ l, k ≤ x) → k ≤ m → l.length + k ≤ m := fun l => by
    induction l with
    | nil => intro k _ _ _ h; simpa using h
    | cons a l ih =>
      intro k h1 h2 h3 h4
      have h5 := List.pairwise_cons.mp h1
      have ha := h2 a (by simp)
      have hk := h3 a (by simp)
      have := ih (a + 1) h5.2 (fun x hx => h2 x (by simp [hx])) (fun x hx => h5.1 x hx) (by omega)
      simp; omega
  simpa using this l 0 h.pw h.lt (by simp) (by omega)
theorem allL_lot {m k : Nat} (hm : m ≤ 9) (hk : k ≤ 10) {l : List Nat} (h : l ∈ allL m k) : Lot m l := ⟨((allL_ok hm hk).2 l h).2.2.1, ((allL_ok hm hk).2 l h).2.2.2⟩
theorem sp_is_lot_ofL (n : Nat) {m : Nat} {l : List Nat} (hm : m ≤ 100) (h : Lot m l) : callV T (n + 2) "is_lot_of" [tN l, nI m] = .ok (.bl true, []) :=
  sp_is_lot_ofN n m l (by have := h.len; omega) h.pw h.lt
end Law
namespace Law
open Cv
theorem sp_is_pane (n : Nat) {m d : Nat} {l : List Nat} (h : Crv m d) (hl : Lot m l) : callV T (n + 4) "is_pane" [tN l, crv m d] = .ok (.bl (paneB m d l), []) := by
  rw [callV_run (fd := d_is_pane) rfl, run_eq rfl rfl]
  have h9 := h.m9
  have := hl.len
  simp [d_is_pane, sp_need_curve _ h, sp_is_lot_ofL _ (show m ≤ 100 by omega) hl, sp_pane_of _ m d l (by omega)]
end Law
namespace Law
open Cv
def wo (l : List Nat) (c : Nat) : List Nat := l.filter fun x => !(x == c)
theorem sp_without (n : Nat) (l : List Nat) (c : Nat) : callV T (n + 1) "without" [tN l, nI c] = .ok (tN (wo l c), []) := by
  rw [callV_run (fd := d_without) rfl, run_eq rfl rfl]
  simp only [d_without, eSs_cons, eS_ret, eE_blt, eEs_cons, eEs_nil]
  rw [comp_if (bs := l) nI (fun x => !(x == c)) nI]
  · simp [wo]
  · simp
  · intro x _
    have := nat_beq x c
    have e : cmpD .ne (nI x) (nI c) = some (!(x == c)) := by rw [cmpD_neI, this]
    simp [e]
  · intro c _ _
    simp
end Law
namespace Law
open Cv
def withB (l p : List Nat) : Bool := l.all fun c => p.contains c
theorem sp_within (n : Nat) (l p : List Nat) : callV T (n + 1) "within" [tN l, tN p] = .ok (.bl (withB l p), []) := by
  rw [callV_run (fd := d_within) rfl, run_eq rfl rfl]
  simp only [d_within, eSs_cons, eS_ret, eE_blt, eEs_cons, eEs_nil]
  rw [comp_no (bs := l) nI (fun c => .bl (p.contains c))]
  · have := all_map (fun c => p.contains c) l
    simp only [R.bindOk, this, R.ofO_some, oD_val]
    rfl
  · simp
  · intro c _
    have := in_tN c p
    simp [this]
end Law
namespace Law
open Cv
theorem sp_need_corner (n : Nat) {m d c : Nat} (hc : c < m) : callV T (n + 2) "need_corner" [crv m d, nI c] = .ok (.non, []) := by
  rw [callV_run (fd := d_need_corner) rfl, run_eq rfl rfl]
  have e := sp_is_from n (nI c) 0 ((m : Int) - 1) rfl
  have : fromB 0 ((m : Int) - 1) (nI c) = true := by
    simp [fromB]
    omega
  rw [this] at e
  simp [d_need_corner, e]
end Law
namespace Law
open Cv
theorem sp_need_pane (n : Nat) {m d : Nat} {l : List Nat} (h : Crv m d) (hl : Lot m l) (hp : paneB m d l = true) : callV T (n + 5) "need_pane" [crv m d, tN l] = .ok (.non, []) := by
  rw [callV_run (fd := d_need_pane) rfl, run_eq rfl rfl]
  simp [d_need_pane, sp_is_pane _ h hl, hp]
theorem panes_mem {m d : Nat} (hm : m ≤ 9) (hd : d ≤ 10) {l : List Nat} (h : l ∈ panesL m d) : Lot m l ∧ paneB m d l = true := by
  have := List.mem_filter.mp h
  exact ⟨allL_lot hm hd this.1, this.2⟩
end Law
namespace Law
open Cv
theorem idx_hd (x : D) (l : List D) : idxD (.lst (x :: l)) (.int 0) = some x := by simp [idxD, atD, L2.atI, L2.ixN]
end Law
namespace Law
open Cv
abbrev beyL (m d : Nat) (one : List Nat) (c : Nat) : List (List Nat) := (panesL m d).filter fun o => !(o == one) && withB (wo one c) o
theorem sp_beyond (n : Nat) {m d c : Nat} {one other : List Nat} {r : List (List Nat)} (h : Crv m d) (hl : Lot m one) (hp : paneB m d one = true) (hc : c < m) (hin : one.contains c = true) (ha : beyL m d one c = other :: r) : callV T (n + 6) "beyond" [crv m d, tN one, nI c] = .ok (tN other, []) := by
  rw [callV_run (fd := d_beyond) rfl, run_eq rfl rfl]
  have h6 := h.d6
  have e0 : cmpD .notIn (nI c) (tN one) = some false := by
    have := notin_tN c one
    rw [hin] at this
    exact this
  have c1 : ∀ s : Fm, s 0 = some (crv m d) → s 1 = some (tN one) → s 3 = some (tN (wo one c)) → evE (caT T (n + 5)) (.comp .seq (.call "panes_of" [(.var 0)]) (.cst .non) (.name 4) true (.and_ (.cmp .ne (.var 4) (.var 1)) (.call "within" [(.var 3), (.var 4)])) (.var 4)) s = .ok (.lst ((beyL m d one c).map tN), s) := fun s h0 h1 h3 => by
    rw [comp_if (bs := panesL m d) tN (fun o => !(o == one) && withB (wo one c) o) tN]
    · simp [h0, sp_panes_of (n + 1) m d h.m9 (by omega)]
    · intro o _
      have e1 := cmp_tN o one
      have e2 := sp_within (n + 4) (wo one c) o
      cases hq : (o == one) with
      | true =>
        rw [hq] at e1
        simp [h1, e1]
      | false =>
        rw [hq] at e1
        simp [h1, h3, e1, e2]
    · intro p _ _
      simp
  have e := idx_hd (tN other) (r.map tN)
  have ew := sp_without (n + 4) one c
  rw [ha] at c1
  simp only [List.map_cons] at c1
  have ep := sp_need_pane n h hl hp
  have ec := sp_need_corner (d := d) (n + 3) hc
  generalize r.map tN = A at c1 e
  simp [d_beyond, ep, ec, e0, ew, c1, e]
end Law
namespace Law
open Cv
theorem sp_beyond_out (n : Nat) {m d c : Nat} {one : List Nat} (h : Crv m d) (hl : Lot m one) (hp : paneB m d one = true) (hc : c < m) (hin : one.contains c = false) : callV T (n + 6) "beyond" [crv m d, tN one, nI c] = .exn "NoCorner" := by
  rw [callV_run (fd := d_beyond) rfl, run_eq rfl rfl]
  have e0 : cmpD .notIn (nI c) (tN one) = some true := by
    have := notin_tN c one
    rw [hin] at this
    exact this
  have ep := sp_need_pane n h hl hp
  have ec := sp_need_corner (d := d) (n + 3) hc
  simp [d_beyond, ep, ec, e0]
end Law
namespace Law
open Cv
theorem sp_law_lots (n m k : Nat) (hm : m ≤ 9) (hk : k ≤ 10) : callV T (n + 1) "_law_lots" [nI m, nI k] = .ok (.lst ((allL m k).map tN), []) := by
  suffices h : Ok (callV T (n + 1) "_law_lots" [nI m, nI k]) fun r => r = (.lst ((allL m k).map tN), []) by
    obtain ⟨_, e, rfl⟩ := h
    exact e
  rw [callV_run (fd := d__law_lots) rfl]
  refine run_val rfl rfl ?_
  simp only [d__law_lots, eSs_cons, eS_asg, eE_lst, eE_tup, eEs_cons, eEs_nil, R.bindOk, eS_for, itv_rng1, eE_var, up_get, stF_get]
  simp [itm_rng1 (show k ≤ 1000 by omega)]
  refine Ok.bind2 (forK (I := fun j i s => i = j ∧ s 0 = some (nI m) ∧ s 2 = some (.lst ((allL m i).map tN))) (f := fun i _ => i + 1) (N := k) (k := 0) (a := 0) (by simp [allL]) (by simp) fun s i _ j _ hj hI => ?_) fun o ho => ?_
  · obtain ⟨rfl, h0, h2⟩ := hI
    obtain ⟨hl1, hl2⟩ := allL_ok (m := m) hm (k := i) (by omega)
    simp [h0, h2]
    refine Ok.bind2 (forK (I := fun j (acc : List (List Nat)) s => acc.length ≤ 9 * j ∧ s 0 = some (nI m) ∧ s 4 = some (.lst (acc.map tN))) (f := fun a l => a ++ nextL m l) (N := 200) (k := 0) (a := []) (by simp [h0]) (by simpa using hl1) fun s acc l j hl hj hI => ?_) fun o ho => ?_
    · obtain ⟨ha, g0, g4⟩ := hI
      obtain ⟨q1, q2, _, _⟩ := hl2 l hl
      have hx := nextL_len m l
      have hlim : acc.length + (m - stL l) ≤ lim := by simp [lim]; omega
      have e6 : ∀ s' : Fm, s' 5 = some (tN l) → evE (caT T n) (.bin .add (.idx (.or_ (.var 5) (.tup [(.neg (.cst (.int 1)))])) (.neg (.cst (.int 1)))) (.cst (.int 1))) s' = .ok (nI (stL l), s') := fun s' h5 => by
        rcases snoc_cases l with rfl | ⟨i, z, rfl⟩
        · simp [h5, stL, idxD, atD, L2.atI, L2.ixN]
        · simp [h5, stL]
      have e7 : ∀ s' : Fm, s' 5 = some (tN l) → s' 0 = some (nI m) → evE (caT T n) (.comp .rng2 (.bin .add (.idx (.or_ (.var 5) (.tup [(.neg (.cst (.int 1)))])) (.neg (.cst (.int 1)))) (.cst (.int 1))) (.var 0) (.name 6) false (.cst .non) (.bin .add (.var 5) (.tup [(.var 6)]))) s' = .ok (.lst ((nextL m l).map tN), s') := fun s' h5 h0 => by
        rw [comp_no (bs := (List.range (m - stL l)).map (stL l + ·)) nI (fun c => tN (l ++ [c]))]
        · simp [nextL]
        · rw [itv_rng2, e6 s' h5]
          simp [h0, itm_rng2 (a := stL l) (b := m) (by omega) (by omega)]
        · intro c _
          have := add1 l c (by omega)
          simp [h5, this]
      simp only [eSs_cons, eSs_nil, eS_asg, eE_bin, eE_var, up_get]
      simp [g4]
      rw [e7 _ (by simp) (by simp [g0])]
      have l2 : (nextL m l).length = m - stL l := by simp [nextL]
      have hadd := binD_addL (a := acc.map tN) (b := (nextL m l).map tN) (by simp [l2]; exact hlim)
      simp [hadd, g0, l2]
      omega
    · obtain ⟨s', rfl, j', _, _, g0, g4⟩ := ho
      have e : (allL m i).foldl (fun a l => a ++ nextL m l) [] = allL m (i + 1) := by rw [fold_flat]; simp [allL]
      rw [e] at g4
      simp [g0, g4]
  · obtain ⟨s', rfl, j, hj, e, h0, h2⟩ := ho
    rw [fold_nat] at e h2
    simp at h2
    simp [h2]
end Law
namespace Law
open Cv
def outN (m : Nat) (l : List Nat) : List Nat := (List.range m).filter fun c => !l.contains c
end Law
namespace Law
open Cv
def betw (l : List Nat) (a b : Nat) : Nat := (l.filter fun c => decide (a < c) && decide (c < b)).length
def lawPaneB (m d : Nat) (l : List Nat) : Bool := !((enumN 0 (outN m l)).any fun p => ((outN m l).take p.1).any fun o => betw l o p.2 % 2 == 1) && l.length == d
theorem sp_law_is_pane (n m d : Nat) (l : List Nat) (hm : m ≤ 100) : callV T (n + 1) "_law_is_pane" [crv m d, tN l] = .ok (.bl (lawPaneB m d l), []) := by
  suffices h : Ok (callV T (n + 1) "_law_is_pane" [crv m d, tN l]) fun r => r = (.bl (lawPaneB m d l), []) by
    obtain ⟨_, e, rfl⟩ := h
    exact e
  rw [callV_run (fd := d__law_is_pane) rfl]
  refine run_val rfl rfl ?_
  simp only [d__law_is_pane, eSs_cons, eS_asg]
  rw [comp_if (bs := List.range m) nI (fun c => !l.contains c) nI]
  · simp only [R.bindOk, eS_for, itv_enum, eE_var, up_get, if_true]
    have he : itemsD .enum (.lst (((List.range m).filter fun c => !l.contains c).map nI)) .non = some ((enumN 0 (outN m l)).map dec2) := by
      rw [items_enum, enumD_nI]
      rfl
    simp only [R.bindOk, he, R.ofO_some]
    refine Ok.bind2 (forF2 (β := Nat × Nat) (a := fun p => nI p.1) (b := fun p => nI p.2) (fun s => s 0 = some (crv m d) ∧ s 1 = some (tN l) ∧ s 2 = some (.lst ((outN m l).map nI))) (fun p => ((outN m l).take p.1).any fun o => betw l o p.2 % 2 == 1) (fun _ => .bl false) (by simp [outN]) fun s p hp hI => ?_) fun o ho => ?_
    · obtain ⟨g0, g1, g2⟩ := hI
      have hcut : slcD none (some (p.1 : Int)) (.lst ((outN m l).map nI)) = some (.fresh (((outN m l).take p.1).map nI)) := by
        simp [slcD, cut_take, List.map_take]
      have inner : Ok (evSs (caT T n) [.for_ .seq (.slc (.var 2) false true (.cst .non) (.var 3)) (.cst .non) (.name 5) [.ife (.cmp .eq (.bin .mod (.blt "len" [(.comp .seq (.var 1) (.cst .non) (.name 6) true (.chain .lt .lt (.var 5) (.var 6) (.var 4)) (.var 6))]) (.cst (.int 2))) (.cst (.int 1))) [.ret (.cst (.bl false))] []]] (up (up s 3 (nI p.1)) 4 (nI p.2))) fun o => match ((outN m l).take p.1).find? (fun o => betw l o p.2 % 2 == 1) with
        | some _ => ∃ s', o = .ret (.bl false) s'
        | none => ∃ s', o = .next s' ∧ (s' 0 = some (crv m d) ∧ s' 1 = some (tN l) ∧ s' 2 = some (.lst ((outN m l).map nI))) := by
        simp [g2, optI, hcut, -List.map_take]
        refine Ok.bind2 (forF (dec := nI) (fun s => s 0 = some (crv m d) ∧ s 1 = some (tN l) ∧ s 2 = some (.lst ((outN m l).map nI)) ∧ s 4 = some (nI p.2)) (fun o => betw l o p.2 % 2 == 1) (fun _ => .bl false) ⟨by simp [g0], by simp [g1], by simp [g2], by simp⟩ fun s o _ hI => ?_) fun o ho => ?_
        · obtain ⟨g0, g1, g2, g5⟩ := hI
          have c1 : evE (caT T n) (.comp .seq (.var 1) (.cst .non) (.name 6) true (.chain .lt .lt (.var 5) (.var 6) (.var 4)) (.var 6)) (up s 5 (nI o)) = .ok (.lst ((l.filter fun c => decide (o < c) && decide (c < p.2)).map nI), up s 5 (nI o)) := by
            rw [comp_if (bs := l) nI (fun c => decide (o < c) && decide (c < p.2)) nI]
            · simp [g1]
            · intro c _
              by_cases q : o < c <;> simp [g5, q]
            · intro c _ _
              simp
          have e1 : ((((l.filter fun c => decide (o < c) && decide (c < p.2)).length : Nat) : Int) % 2 == 1) = (betw l o p.2 % 2 == 1) := by
            unfold betw
            rw [Bool.eq_iff_iff, beq_iff_eq, beq_iff_eq]
            omega
          generalize (l.filter fun c => decide (o < c) && decide (c < p.2)) = F at c1 e1
          cases hq : (betw l o p.2 % 2 == 1) with
          | true =>
            rw [hq] at e1
            simp only [beq_iff_eq] at e1
            simp [c1, e1]
          | false =>
            rw [hq] at e1
            simp only [beq_eq_false_iff_ne, ne_eq] at e1
            simp [c1, e1, g0, g1, g2, g5]
        · cases hf : ((outN m l).take p.1).find? (fun o => betw l o p.2 % 2 == 1) with
          | some b =>
            rw [hf] at ho
            obtain ⟨s', rfl⟩ := ho
            exact ⟨_, rfl, s', rfl⟩
          | none =>
            rw [hf] at ho
            obtain ⟨s', rfl, h0, h1, h2, _⟩ := ho
            exact ⟨_, rfl, s', rfl, h0, h1, h2⟩
      cases hf : ((outN m l).take p.1).find? (fun o => betw l o p.2 % 2 == 1) with
      | some b =>
        rw [hf] at inner
        obtain ⟨o, e, s', rfl⟩ := inner
        have : ((outN m l).take p.1).any (fun o => betw l o p.2 % 2 == 1) = true := by
          rw [List.any_eq_true]
          exact ⟨b, List.mem_of_find?_eq_some hf, by simpa using List.find?_some hf⟩
        rw [if_pos this]
        exact ⟨s', e⟩
      | none =>
        rw [hf] at inner
        obtain ⟨o, e, s', rfl, hs⟩ := inner
        have : ((outN m l).take p.1).any (fun o => betw l o p.2 % 2 == 1) = false := by
          rw [List.any_eq_false]
          intro x hx
          exact List.find?_eq_none.mp hf x hx
        rw [if_neg (by rw [this]; simp)]
        exact ⟨_, e, hs⟩
    · cases hf : (enumN 0 (outN m l)).find? (fun p => ((outN m l).take p.1).any fun o => betw l o p.2 % 2 == 1) with
      | some b =>
        rw [hf] at ho
        obtain ⟨s', rfl⟩ := ho
        have : ((enumN 0 (outN m l)).any fun p => ((outN m l).take p.1).any fun o => betw l o p.2 % 2 == 1) = true := by
          rw [List.any_eq_true]
          exact ⟨b, List.mem_of_find?_eq_some hf, by simpa using List.find?_some hf⟩
        unfold lawPaneB
        rw [this]
        simp
      | none =>
        rw [hf] at ho
        obtain ⟨s', rfl, g0, g1, _⟩ := ho
        have : ((enumN 0 (outN m l)).any fun p => ((outN m l).take p.1).any fun o => betw l o p.2 % 2 == 1) = false := by
          rw [List.any_eq_false]
          intro x hx
          exact List.find?_eq_none.mp hf x hx
        unfold lawPaneB
        rw [this]
        have := nat_beq l.length d
        simp only [eSs_cons, eS_ret, eE_cmp, eE_blt, eE_idx, eEs_cons, eEs_nil, eE_var, eE_cst, g0, g1, R.bindOk, blt_lenT, R.ofO_some, oD_val, idx_t1, cmpD_eqI, List.length_map, this]
        simp
  · simp [itm_rng1 (show m ≤ 1000 by omega)]
  · intro c _
    have := notin_tN c l
    simp [this]
  · intro c _ _
    simp
abbrev lpanesL (m d : Nat) : List (List Nat) := (allL m d).filter (lawPaneB m d)
theorem sp_law_panes (n m d : Nat) (hm : m ≤ 9) (hd : d ≤ 9) : callV T (n + 2) "_law_panes" [crv m d] = .ok (.lst ((lpanesL m d).map tN), []) := by
  rw [callV_run (fd := d__law_panes) rfl, run_eq rfl rfl]
  simp only [d__law_panes, eSs_cons, eS_ret]
  rw [comp_if (bs := allL m d) tN (lawPaneB m d) tN]
  · simp
  · simp [sp_law_lots _ m d hm (by omega)]
  · intro l h
    simp [sp_law_is_pane _ m d l (by omega)]
  · intro l _ _
    simp
end Law
namespace Law
open Cv
def hasB (p l : List Nat) : Bool := (l.filter fun c => !p.contains c) == []
theorem sp_law_has (n : Nat) (p l : List Nat) : callV T (n + 1) "_law_has" [tN p, tN l] = .ok (.bl (hasB p l), []) := by
  rw [callV_run (fd := d__law_has) rfl, run_eq rfl rfl]
  simp only [d__law_has, eSs_cons, eS_ret, eE_cmp]
  rw [comp_if (bs := l) nI (fun c => !p.contains c) nI]
  · have := cmpE_lN (l.filter fun c => !p.contains c) []
    simp only [R.bindOk, eE_lst, eEs_nil]
    simp only [List.map_nil] at this
    rw [this]
    rfl
  · simp
  · intro c _
    have := notin_tN c p
    simp [this]
  · intro c _ _
    simp
end Law
namespace Law
open Cv
theorem sp_law_hasL (n : Nat) (p l : List Nat) : callV T (n + 1) "_law_has" [tN p, .lst (l.map nI)] = .ok (.bl (hasB p l), []) := by
  rw [callV_run (fd := d__law_has) rfl, run_eq rfl rfl]
  simp only [d__law_has, eSs_cons, eS_ret, eE_cmp]
  rw [comp_if (bs := l) nI (fun c => !p.contains c) nI]
  · have := cmpE_lN (l.filter fun c => !p.contains c) []
    simp only [R.bindOk, eE_lst, eEs_nil]
    simp only [List.map_nil] at this
    rw [this]
    rfl
  · simp
  · intro c _
    have := notin_tN c p
    simp [this]
  · intro c _ _
    simp
end Law
namespace Law
open Cv
def curvesD (d : Nat) : List (Nat × Nat) := (List.range (9 - d)).map fun i => (d + 1 + i, d)
theorem curve_mem {m d : Nat} (h : Crv m d) : (m, d) ∈ curvesD d := by
  obtain ⟨h1, h2, h3, h4⟩ := h
  unfold curvesD
  exact List.mem_map.mpr ⟨m - (d + 1), List.mem_range.mpr (by omega), by rw [Prod.mk.injEq]; omega⟩
theorem crv_all {p : Nat × Nat → Bool} (h1 : (curvesD 1).all p = true) (h2 : (curvesD 2).all p = true) (h3 : (curvesD 3).all p = true) (h4 : (curvesD 4).all p = true) (h5 : (curvesD 5).all p = true) (h6 : (curvesD 6).all p = true) {m d : Nat} (hc : Crv m d) : p (m, d) = true := by
  have hm := curve_mem hc
  have d1 := hc.d1
  have d6 := hc.d6
  obtain rfl | rfl | rfl | rfl | rfl | rfl : d = 1 ∨ d = 2 ∨ d = 3 ∨ d = 4 ∨ d = 5 ∨ d = 6 := by omega
  · exact List.all_eq_true.mp h1 _ hm
  · exact List.all_eq_true.mp h2 _ hm
  · exact List.all_eq_true.mp h3 _ hm
  · exact List.all_eq_true.mp h4 _ hm
  · exact List.all_eq_true.mp h5 _ hm
  · exact List.all_eq_true.mp h6 _ hm
end Law
namespace Law
open Cv
def depth : Nat := 20
def p10 (m d : Nat) (P : List (List Nat)) (one : List Nat) (c : Nat) : Bool := !one.contains c || match P.filter fun o => !(o == one) && withB (wo one c) o with
  | [other] => ((P.filter fun o => !(o == one) && hasB o (wo one c)) == [other]) && P.contains other && (match other.filter fun x => !one.contains x with
    | [] => false
    | c2 :: _ => other.contains c2 && decide (c2 < m) && ((P.filter fun o => !(o == other) && withB (wo other c2) o).head? == some one))
  | _ => false
def chk10 (p : Nat × Nat) : Bool := (fun P => (lpanesL p.1 p.2 == P) && !P.isEmpty && P.all fun one => (List.range p.1).all (p10 p.1 p.2 P one)) (panesL p.1 p.2)
theorem chk10_1 : (curvesD 1).all chk10 = true := by decide +kernel
theorem chk10_2 : (curvesD 2).all chk10 = true := by decide +kernel
theorem chk10_3 : (curvesD 3).all chk10 = true := by decide +kernel
theorem chk10_4 : (curvesD 4).all chk10 = true := by decide +kernel
theorem chk10_5 : (curvesD 5).all chk10 = true := by decide +kernel
theorem chk10_6 : (curvesD 6).all chk10 = true := by decide +kernel
theorem f10 {m d : Nat} (h : Crv m d) : lpanesL m d = panesL m d ∧ panesL m d ≠ [] ∧ ∀ one ∈ panesL m d, ∀ c < m, p10 m d (panesL m d) one c = true := by
  have := crv_all chk10_1 chk10_2 chk10_3 chk10_4 chk10_5 chk10_6 h
  simp only [chk10, Bool.and_eq_true, beq_iff_eq, List.all_eq_true, Bool.not_eq_true', List.isEmpty_eq_false_iff, List.mem_range] at this
  exact ⟨this.1.1, this.1.2, this.2⟩
theorem law_val : ∀ ns : List Int, ns.length ≤ 63 → ∃ l, callV T (depth + 1) "law" [.scr ns] = .ok (.bl true, l) := by
  intro ns _
  refine law_loop (n := 20) (fd := d_law) (K := 3) rfl rfl rfl rfl (by omega) (by omega) fun s k h0 => ?_
  obtain ⟨a, b, hb⟩ := sp_box 19 ns k
  obtain ⟨m, d, a1, b1, hcv, hcr⟩ := sp_curve 17 a b
  obtain ⟨F1, F2, F3⟩ := f10 hcr
  have h6 := hcr.d6
  have h9 := hcr.m9
  have hP := sp_law_panes 18 m d hcr.m9 (by omega)
  rw [F1] at hP
  have mem : ∀ l ∈ panesL m d, Lot m l ∧ paneB m d l = true := fun l hl => panes_mem hcr.m9 (by omega) hl
  have hlen : (panesL m d).length ≤ 200 := Nat.le_trans (List.length_filter_le _ _) (allL_ok h9 (k := d) (by omega)).1
  have hpos : 0 < (panesL m d).length := List.length_pos_iff.mpr F2
  obtain ⟨v, a2, b2, ht, hv⟩ := sp_takeN 18 a1 b1 (panesL m d).length hpos (by omega)
  -- one corner of one pane
  have one_ok : ∀ one ∈ panesL m d, ∀ c < m, ∀ s : Fm, s 0 = some (.scr ns) → s 3 = some (crv m d) → s 4 = some (.lst ((panesL m d).map tN)) → s 6 = some (tN one) →
      Ok (evSs (caT T 20) [.ife (.cmp .notIn (.var 7) (.var 6)) [.ife (.cmp .ne (.lam false (.fv "beyond") [(.var 3), (.var 6), (.var 7)]) (.lst [(.cst (.int 5))])) [.ret (.cst (.bl false))] [], .cont] [], .asg (.name 8) (.comp .seq (.var 6) (.cst .non) (.name 11) true (.cmp .ne (.var 11) (.var 7)) (.var 11)), .asg (.name 9) (.comp .seq (.var 4) (.cst .non) (.name 11) true (.and_ (.cmp .ne (.var 11) (.var 6)) (.call "_law_has" [(.var 11), (.var 8)])) (.var 11)), .asg (.name 10) (.call "beyond" [(.var 3), (.var 6), (.var 7)]), .ife (.cmp .ne (.lst [(.var 10)]) (.var 9)) [.ret (.cst (.bl false))] [], .ife (.cmp .ne (.call "beyond" [(.var 3), (.var 10), (.idx (.comp .seq (.var 10) (.cst .non) (.name 11) true (.cmp .notIn (.var 11) (.var 6)) (.var 11)) (.cst (.int 0)))]) (.var 6)) [.ret (.cst (.bl false))] []] (up s 7 (nI c))) (nx fun s => s 0 = some (.scr ns) ∧ s 3 = some (crv m d) ∧ s 4 = some (.lst ((panesL m d).map tN)) ∧ s 6 = some (tN one)) := fun one h1 c hc s g0 g3 g4 g6 => by
    obtain ⟨q1, q2⟩ := mem one h1
    have hk := F3 one h1 c hc
    have e0 := notin_tN c one
    cases hin : one.contains c with
    | false =>
      rw [hin] at e0
      have hx := sp_beyond_out 12 hcr q1 q2 hc hin
      have e5 : cmpD .ne (.lst [.int 5]) (.lst [.int 5]) = some false := rfl
      simp [g3, g6, e0, hx, lamV_exn (show placeOf "NoCorner" = some 5 from rfl), g0, g4, e5]
    | true =>
      rw [hin] at e0
      simp only [p10, hin, Bool.not_true, Bool.false_or] at hk
      split at hk
      · rename_i other ho
        simp only [Bool.and_eq_true, beq_iff_eq, List.contains_iff_mem] at hk
        obtain ⟨⟨k1, k2⟩, k3⟩ := hk
        split at k3
        · cases k3
        · rename_i c2 r2 ho2
          simp only [Bool.and_eq_true, decide_eq_true_eq, beq_iff_eq] at k3
          obtain ⟨⟨k4, k5⟩, k6⟩ := k3
          obtain ⟨q3, q4⟩ := mem other k2
          obtain ⟨r3, hr3⟩ : ∃ r, beyL m d other c2 = one :: r := by
            cases hz : (panesL m d).filter fun o => !(o == other) && withB (wo other c2) o with
            | nil => rw [hz] at k6; cases k6
            | cons x r => rw [hz] at k6; cases k6; exact ⟨r, hz⟩
          have b1 := sp_beyond 14 hcr q1 q2 hc hin ho
          have b2 := sp_beyond 14 hcr q3 q4 k5 k4 hr3
          have c1 : ∀ s : Fm, s 6 = some (tN one) → s 7 = some (nI c) → evE (caT T 20) (.comp .seq (.var 6) (.cst .non) (.name 11) true (.cmp .ne (.var 11) (.var 7)) (.var 11)) s = .ok (.lst ((wo one c).map nI), s) := fun s g6 g7 => by
            rw [comp_if (bs := one) nI (fun x => !(x == c)) nI]
            · rfl
            · simp [g6]
            · intro x _
              have e := nat_beq x c
              have e : cmpD .ne (nI x) (nI c) = some (!(x == c)) := by rw [cmpD_neI, e]
              simp [g7, e]
            · intro x _ _
              simp
          have c3 : ∀ s : Fm, s 4 = some (.lst ((panesL m d).map tN)) → s 6 = some (tN one) → s 8 = some (.lst ((wo one c).map nI)) → evE (caT T 20) (.comp .seq (.var 4) (.cst .non) (.name 11) true (.and_ (.cmp .ne (.var 11) (.var 6)) (.call "_law_has" [(.var 11), (.var 8)])) (.var 11)) s = .ok (.lst [tN other], s) := fun s g4 g6 g8 => by
            rw [comp_if (bs := panesL m d) tN (fun o => !(o == one) && hasB o (wo one c)) tN]
            · rw [k1]; rfl
            · simp [g4]
            · intro o _
              have e1 := cmp_tN o one
              have e2 := sp_law_hasL 19 o (wo one c)
              cases hq : (o == one) with
              | true =>
                rw [hq] at e1
                simp [g6, e1]
              | false =>
                rw [hq] at e1
                simp [g6, g8, e1, e2]
            · intro p _ _
              simp
          have c4 : ∀ s : Fm, s 10 = some (tN other) → s 6 = some (tN one) → evE (caT T 20) (.comp .seq (.var 10) (.cst .non) (.name 11) true (.cmp .notIn (.var 11) (.var 6)) (.var 11)) s = .ok (.lst (nI c2 :: r2.map nI), s) := fun s g10 g6 => by
            rw [comp_if (bs := other) nI (fun x => !one.contains x) nI]
            · rw [ho2]; rfl
            · simp [g10]
            · intro x _
              have e := notin_tN x one
              simp [g6, e]
            · intro x _ _
              simp
          have e6 : cmpD .ne (.lst [tN other]) (.lst [tN other]) = some false := by
            have := cmp_lT [other] [other]
            simpa using this
          have e7 := cmp_tN one one
          simp only [beq_self_eq_true, Bool.not_true] at e7
          generalize hA : (panesL m d).map tN = A at *
          generalize (wo one c).map nI = W at *
          generalize r2.map nI = R2 at *
          have e8 := idx_hd (nI c2) R2
          simp [g0, g3, g4, g6, e0, c1, c3, b1, e6, c4, e8, b2, e7]
      · cases hk
  have sub : ∀ x ∈ (((panesL m d).drop v ++ (panesL m d).take v).take 12), x ∈ panesL m d := fun x hx => by
    have := List.mem_of_mem_take hx
    rcases List.mem_append.mp this with h | h
    · exact List.mem_of_mem_drop h
    · exact List.mem_of_mem_take h
  have s1 : slcD (some (v : Int)) none (.lst ((panesL m d).map tN)) = some (.fresh (((panesL m d).drop v).map tN)) := by rw [slcL_drop, List.map_drop]
  have s2 : slcD none (some (v : Int)) (.lst ((panesL m d).map tN)) = some (.fresh (((panesL m d).take v).map tN)) := by rw [slcL_take, List.map_take]
  have s3 : binD .add (.lst (((panesL m d).drop v).map tN)) (.lst (((panesL m d).take v).map tN)) = some (.fresh ((((panesL m d).drop v) ++ ((panesL m d).take v)).map tN)) := by
    rw [binD_addL (by simp [lim]; omega), List.map_append]
  have s4 : slcD none (some 12) (.lst ((((panesL m d).drop v) ++ ((panesL m d).take v)).map tN)) = some (.fresh (((((panesL m d).drop v) ++ ((panesL m d).take v)).take 12).map tN)) := by
    have := slcL_take ((((panesL m d).drop v) ++ ((panesL m d).take v)).map tN) 12
    rw [← List.map_take] at this
    exact this
  have hlenI : bltD "len" [.lst ((panesL m d).map tN)] = some (.val (nI (panesL m d).length)) := by rw [blt_lenL, List.length_map]
  generalize hQ : (((panesL m d).drop v ++ (panesL m d).take v).take 12) = Q at *
  generalize (panesL m d).drop v = Q1 at *
  generalize (panesL m d).take v = Q2 at *
  have er : itemsD .rng1 (.int m) .non = some ((List.range m).map nI) := itm_rng1 (by omega)
  generalize hPP : (panesL m d).length = Ln at *
  generalize panesL m d = PP at *
  simp [h0, hb, hcv, hP, hlenI, ht, s1, s2, s3, s4, -List.map_append, -List.map_take, -List.map_drop, -blt_lenL]
  refine Ok.bind2 (forNB (fun s => s 0 = some (.scr ns) ∧ s 3 = some (crv m d) ∧ s 4 = some (.lst (PP.map tN))) (by simp [h0]) fun s one h1 hI => ?_) fun o ho => ?_
  · obtain ⟨g0, g3, g4⟩ := hI
    simp [g3, er]
    refine Ok.bind2 (forNB (fun s => s 0 = some (.scr ns) ∧ s 3 = some (crv m d) ∧ s 4 = some (.lst (PP.map tN)) ∧ s 6 = some (tN one)) (by simp [g0, g3, g4]) fun s c hc hI => ?_) fun o ho => ?_
    · obtain ⟨g0, g3, g4, g6⟩ := hI
      exact one_ok one (sub one h1) c (List.mem_range.mp hc) s g0 g3 g4 g6
    · obtain ⟨s', rfl, g0, g3, g4, _⟩ := ho
      simp [g0, g3, g4]
  · obtain ⟨s', rfl, g0, _⟩ := ho
    simp [g0]
end Law
namespace Law
open Cv
theorem law_plain : ∀ ns : List Int, ns.length ≤ 63 → (∀ z ∈ ns, PySem.Builtin.Int.intBits z ≤ 1048576) → ∃ ds, callF (tabOf Fs) (depth + 1) "law" [.val (.scr ns)] = .ok (.val (.bl true), ds) := fun ns h hb => by
  obtain ⟨l, e⟩ := law_val ns h
  rw [tab_eq]
  exact law_V chk_T rfl e
end Law
set_option maxHeartbeats 0
namespace Law
open PySem PySem.Spec L2 Cv PyProof.Rows
theorem g_is_from : FnGood (sta none) rz i_is_from := ⟨⟨rfl, rfl, rfl, by decide +kernel, rfl, by decide +kernel, by decide +kernel⟩, rfl, rfl, by decide +kernel, fun _ _ _ _ _ _ us hl => match us, hl with | [_, _, _], _ => rfl⟩
theorem g_is_curve : FnGood (sta none) rz i_is_curve := ⟨⟨rfl, rfl, rfl, by decide +kernel, rfl, by decide +kernel, by decide +kernel⟩, rfl, rfl, by decide +kernel, fun _ _ _ _ _ _ us hl => match us, hl with | [_], _ => rfl⟩
theorem g_need_curve : FnGood (sta none) rz i_need_curve := ⟨⟨rfl, rfl, rfl, by decide +kernel, rfl, by decide +kernel, by decide +kernel⟩, rfl, rfl, by decide +kernel, fun _ _ _ _ _ _ us hl => match us, hl with | [_], _ => rfl⟩
theorem g_is_rising : FnGood (sta none) rz i_is_rising := ⟨⟨rfl, rfl, rfl, by decide +kernel, rfl, by decide +kernel, by decide +kernel⟩, rfl, rfl, by decide +kernel, fun _ _ _ _ _ _ us hl => match us, hl with | [_], _ => rfl⟩
theorem g_is_lot_of : FnGood (sta none) rz i_is_lot_of := ⟨⟨rfl, rfl, rfl, by decide +kernel, rfl, by decide +kernel, by decide +kernel⟩, rfl, rfl, by decide +kernel, fun _ _ _ _ _ _ us hl => match us, hl with | [_, _], _ => rfl⟩
theorem g_blocks_of : FnGood (sta none) rz i_blocks_of := ⟨⟨rfl, rfl, rfl, by decide +kernel, rfl, by decide +kernel, by decide +kernel⟩, rfl, rfl, by decide +kernel, fun _ _ _ _ _ _ us hl => match us, hl with | [_], _ => rfl⟩
theorem g_odd_of : FnGood (sta none) rz i_odd_of := ⟨⟨rfl, rfl, rfl, by decide +kernel, rfl, by decide +kernel, by decide +kernel⟩, rfl, rfl, by decide +kernel, fun _ _ _ _ _ _ us hl => match us, hl with | [_, _], _ => rfl⟩
theorem g_pane_of : FnGood (sta none) rz i_pane_of := ⟨⟨rfl, rfl, rfl, by decide +kernel, rfl, by decide +kernel, by decide +kernel⟩, rfl, rfl, by decide +kernel, fun _ _ _ _ _ _ us hl => match us, hl with | [_, _], _ => rfl⟩
theorem g_is_pane : FnGood (sta none) rz i_is_pane := ⟨⟨rfl, rfl, rfl, by decide +kernel, rfl, by decide +kernel, by decide +kernel⟩, rfl, rfl, by decide +kernel, fun _ _ _ _ _ _ us hl => match us, hl with | [_, _], _ => rfl⟩
theorem g_need_pane : FnGood (sta none) rz i_need_pane := ⟨⟨rfl, rfl, rfl, by decide +kernel, rfl, by decide +kernel, by decide +kernel⟩, rfl, rfl, by decide +kernel, fun _ _ _ _ _ _ us hl => match us, hl with | [_, _], _ => rfl⟩
theorem g_need_corner : FnGood (sta none) rz i_need_corner := ⟨⟨rfl, rfl, rfl, by decide +kernel, rfl, by decide +kernel, by decide +kernel⟩, rfl, rfl, by decide +kernel, fun _ _ _ _ _ _ us hl => match us, hl with | [_, _], _ => rfl⟩
theorem g_all_lots : FnGood (sta none) rz i_all_lots := ⟨⟨rfl, rfl, rfl, by decide +kernel, rfl, by decide +kernel, by decide +kernel⟩, rfl, rfl, by decide +kernel, fun _ _ _ _ _ _ us hl => match us, hl with | [_, _], _ => rfl⟩
theorem g_within : FnGood (sta none) rz i_within := ⟨⟨rfl, rfl, rfl, by decide +kernel, rfl, by decide +kernel, by decide +kernel⟩, rfl, rfl, by decide +kernel, fun _ _ _ _ _ _ us hl => match us, hl with | [_, _], _ => rfl⟩
theorem g_without : FnGood (sta none) rz i_without := ⟨⟨rfl, rfl, rfl, by decide +kernel, rfl, by decide +kernel, by decide +kernel⟩, rfl, rfl, by decide +kernel, fun _ _ _ _ _ _ us hl => match us, hl with | [_, _], _ => rfl⟩
theorem g_panes_of : FnGood (sta none) rz i_panes_of := ⟨⟨rfl, rfl, rfl, by decide +kernel, rfl, by decide +kernel, by decide +kernel⟩, rfl, rfl, by decide +kernel, fun _ _ _ _ _ _ us hl => match us, hl with | [_], _ => rfl⟩
theorem g_beyond : FnGood (sta none) rz i_beyond := ⟨⟨rfl, rfl, rfl, by decide +kernel, rfl, by decide +kernel, by decide +kernel⟩, rfl, rfl, by decide +kernel, fun _ _ _ _ _ _ us hl => match us, hl with | [_, _, _], _ => rfl⟩
theorem g__law_box : FnGood (sta none) rz i__law_box := ⟨⟨rfl, rfl, rfl, by decide +kernel, rfl, by decide +kernel, by decide +kernel⟩, rfl, rfl, by decide +kernel, fun _ _ _ _ _ _ us hl => match us, hl with | [_, _], _ => rfl⟩
theorem g__law_more : FnGood (sta none) rz i__law_more := ⟨⟨rfl, rfl, rfl, by decide +kernel, rfl, by decide +kernel, by decide +kernel⟩, rfl, rfl, by decide +kernel, fun _ _ _ _ _ _ us hl => match us, hl with | [_], _ => rfl⟩
theorem g__law_take : FnGood (sta none) rz i__law_take := ⟨⟨rfl, rfl, rfl, by decide +kernel, rfl, by decide +kernel, by decide +kernel⟩, rfl, rfl, by decide +kernel, fun _ _ _ _ _ _ us hl => match us, hl with | [_, _], _ => rfl⟩
theorem g__law_curve : FnGood (sta none) rz i__law_curve := ⟨⟨rfl, rfl, rfl, by decide +kernel, rfl, by decide +kernel, by decide +kernel⟩, rfl, rfl, by decide +kernel, fun _ _ _ _ _ _ us hl => match us, hl with | [_], _ => rfl⟩
theorem g__law_lots : FnGood (sta none) rz i__law_lots := ⟨⟨rfl, rfl, rfl, by decide +kernel, rfl, by decide +kernel, by decide +kernel⟩, rfl, rfl, by decide +kernel, fun _ _ _ _ _ _ us hl => match us, hl with | [_, _], _ => rfl⟩
theorem g__law_is_pane : FnGood (sta none) rz i__law_is_pane := ⟨⟨rfl, rfl, rfl, by decide +kernel, rfl, by decide +kernel, by decide +kernel⟩, rfl, rfl, by decide +kernel, fun _ _ _ _ _ _ us hl => match us, hl with | [_, _], _ => rfl⟩
theorem g__law_panes : FnGood (sta none) rz i__law_panes := ⟨⟨rfl, rfl, rfl, by decide +kernel, rfl, by decide +kernel, by decide +kernel⟩, rfl, rfl, by decide +kernel, fun _ _ _ _ _ _ us hl => match us, hl with | [_], _ => rfl⟩
theorem g__law_has : FnGood (sta none) rz i__law_has := ⟨⟨rfl, rfl, rfl, by decide +kernel, rfl, by decide +kernel, by decide +kernel⟩, rfl, rfl, by decide +kernel, fun _ _ _ _ _ _ us hl => match us, hl with | [_, _], _ => rfl⟩
theorem g_law : FnGood (sta (some false)) rz i_law := ⟨⟨rfl, rfl, rfl, by decide +kernel, rfl, by decide +kernel, by decide +kernel⟩, rfl, rfl, by decide +kernel, fun _ _ _ _ _ _ us hl => match us, hl with | [_], _ => rfl⟩
theorem good : ∀ f ∈ Fs, FnGood ⟨cs, Fs.map (·.name), f.lam⟩ rz f := by
  intro f hf
  rw [sta_eq]
  simp only [Fs, List.mem_cons, List.not_mem_nil, or_false] at hf
  rcases hf with rfl | rfl | rfl | rfl | rfl | rfl | rfl | rfl | rfl | rfl | rfl | rfl | rfl | rfl | rfl | rfl | rfl | rfl | rfl | rfl | rfl | rfl | rfl | rfl | rfl
  · exact g_is_from
  · exact g_is_curve
  · exact g_need_curve
  · exact g_is_rising
  · exact g_is_lot_of
  · exact g_blocks_of
  · exact g_odd_of
  · exact g_pane_of
  · exact g_is_pane
  · exact g_need_pane
  · exact g_need_corner
  · exact g_all_lots
  · exact g_within
  · exact g_without
  · exact g_panes_of
  · exact g_beyond
  · exact g__law_box
  · exact g__law_more
  · exact g__law_take
  · exact g__law_curve
  · exact g__law_lots
  · exact g__law_is_pane
  · exact g__law_panes
  · exact g__law_has
  · exact g_law
def posC : List Pos := [⟨145, 4, 145, 14⟩, ⟨145, 18, 145, 28⟩, ⟨145, 29, 145, 35⟩, ⟨145, 37, 145, 44⟩, ⟨145, 18, 145, 45⟩, ⟨145, 47, 145, 57⟩, ⟨145, 58, 145, 64⟩, ⟨145, 66, 145, 71⟩, ⟨145, 47, 145, 72⟩, ⟨145, 74, 145, 84⟩, ⟨145, 85, 145, 91⟩, ⟨145, 93, 145, 99⟩, ⟨145, 74, 145, 100⟩, ⟨145, 102, 145, 112⟩, ⟨145, 113, 145, 119⟩, ⟨145, 121, 145, 127⟩, ⟨145, 102, 145, 128⟩, ⟨145, 17, 145, 129⟩, ⟨145, 4, 145, 129⟩, ⟨146, 4, 146, 14⟩, ⟨146, 17, 146, 27⟩, ⟨146, 31, 146, 41⟩, ⟨146, 42, 146, 48⟩, ⟨146, 50, 146, 56⟩, ⟨146, 31, 146, 57⟩, ⟨146, 59, 146, 69⟩, ⟨146, 70, 146, 76⟩, ⟨146, 78, 146, 86⟩, ⟨146, 59, 146, 87⟩, ⟨146, 89, 146, 99⟩, ⟨146, 100, 146, 106⟩, ⟨146, 108, 146, 116⟩, ⟨146, 89, 146, 117⟩, ⟨146, 119, 146, 129⟩, ⟨146, 130, 146, 136⟩, ⟨146, 138, 146, 146⟩, ⟨146, 119, 146, 147⟩, ⟨146, 30, 146, 148⟩, ⟨146, 17, 146, 148⟩, ⟨146, 4, 146, 148⟩, ⟨147, 4, 147, 14⟩, ⟨147, 17, 147, 27⟩, ⟨147, 31, 147, 41⟩, ⟨147, 42, 147, 48⟩, ⟨147, 50, 147, 57⟩, ⟨147, 31, 147, 58⟩, ⟨147, 60, 147, 70⟩, ⟨147, 71, 147, 77⟩, ⟨147, 79, 147, 85⟩, ⟨147, 60, 147, 86⟩, ⟨147, 88, 147, 98⟩, ⟨147, 99, 147, 105⟩, ⟨147, 107, 147, 112⟩, ⟨147, 88, 147, 113⟩, ⟨147, 115, 147, 125⟩, ⟨147, 126, 147, 132⟩, ⟨147, 134, 147, 141⟩, ⟨147, 115, 147, 142⟩, ⟨147, 30, 147, 143⟩, ⟨147, 17, 147, 143⟩, ⟨147, 4, 147, 143⟩, ⟨148, 11, 148, 21⟩, ⟨148, 25, 148, 35⟩, ⟨148, 36, 148, 42⟩, ⟨148, 44, 148, 51⟩, ⟨148, 25, 148, 52⟩, ⟨148, 54, 148, 64⟩, ⟨148, 65, 148, 71⟩, ⟨148, 73, 148, 79⟩, ⟨148, 54, 148, 80⟩, ⟨148, 82, 148, 92⟩, ⟨148, 93, 148, 99⟩, ⟨148, 101, 148, 107⟩, ⟨148, 82, 148, 108⟩, ⟨148, 24, 148, 109⟩, ⟨148, 11, 148, 109⟩, ⟨148, 4, 148, 109⟩]
def posL : List Pos := [⟨151, 8, 151, 17⟩, ⟨151, 8, 151, 19⟩, ⟨151, 8, 151, 19⟩, ⟨152, 11, 152, 21⟩, ⟨153, 15, 153, 25⟩, ⟨153, 26, 153, 32⟩, ⟨153, 34, 153, 44⟩, ⟨153, 15, 153, 45⟩, ⟨153, 11, 153, 45⟩, ⟨154, 20, 154, 22⟩, ⟨154, 19, 154, 23⟩, ⟨154, 12, 154, 23⟩, ⟨153, 8, 154, 23⟩, ⟨155, 16, 155, 26⟩, ⟨155, 31, 155, 41⟩, ⟨155, 43, 155, 51⟩, ⟨155, 31, 155, 51⟩, ⟨155, 55, 155, 64⟩, ⟨155, 65, 155, 77⟩, ⟨155, 78, 155, 84⟩, ⟨155, 65, 155, 85⟩, ⟨155, 55, 155, 86⟩, ⟨155, 90, 155, 98⟩, ⟨155, 15, 155, 99⟩, ⟨155, 8, 155, 99⟩, ⟨152, 4, 155, 99⟩, ⟨150, 4, 155, 99⟩, ⟨156, 11, 156, 13⟩, ⟨156, 4, 156, 13⟩]
def pC (n : Nat) : Pos := posC.getD n ⟨0, 0, 0, 0⟩
def pL (n : Nat) : Pos := posL.getD n ⟨0, 0, 0, 0⟩
theorem lam_fx {K : PySem.W.Frag} {mg : Str → Option Value} {h : Heap} (X : K.In h) (G : h.Ns mainGlobals mg) (c : Says (faLam false) [clsD (top 46), lamD false (top 47)] K) (ek : clsNames.all (exKB K) = true) : ∀ f ∈ Fs, ∀ told, f.lam = some told → LamFx K mg told := by
  have key : LamFx K mg false := lamFx_of (P1 := pC) (P2 := pL) X G c ek (by kernel_rfl) (by kernel_rfl) (fun _ _ _ _ _ _ us hl => match us, hl with | [_], _ => rfl) (by kernel_rfl) (by kernel_rfl) (fun _ _ _ _ _ _ us hl => match us, hl with | [_], _ => rfl) (by decide +kernel)
  intro f hf t ht
  have hl : ∀ f ∈ Fs, f.lam = none ∨ f.lam = some false := by decide +kernel
  rcases hl f hf with z | z
  · rw [z] at ht; cases ht
  · rw [z] at ht; cases ht; exact key
def fn : List He.DefD := Fs.map FnI.defD ++ [clsD (top 46), lamD false (top 47)]
def fa : List He.Fa := faOf Fs cs rz ++ faLam false
abbrev R : PySem.W.OpenRow := PySem.W.OpenLaw.row PySem.Challenge.rw_curvefaces_k10_beyond
abbrev hk : PySem.W.Hook := He.hookX 4 fa fn [] (tfOf Fs) (exB Fs)
def ob (s : PySem.W.SharedT) : He.AlX := He.obsX 4 fa fn [] (tfOf Fs) (exB Fs) (HandSHeadRun.getT s)
theorem ob_eq (s : PySem.W.SharedT) : ob s = hk.obs s.abs := He.obsX_eq (HandSHeadRun.getT_eq s)
def loose : List Str := (["CurveError", "NoCurve", "NoLot", "NoPane", "NoFace", "NoCell", "NoCorner", "NoNumber", "NoCounts", "NoCover", "NoTurn", "NoCut", "NoOrder", "TooMany", "NoText", "NoLine", "MOST_DEEP", "MOST_CORNERS", "is_from", "is_curve", "need_curve", "is_rising", "is_lot_of", "blocks_of", "odd_of", "pane_of", "is_pane", "need_pane", "need_corner", "all_lots"] : List Str) ++ (["within", "without", "panes_of", "beyond", "_law_box", "_law_more", "_law_take", "_law_curve", "_law_lots", "_law_is_pane", "_law_panes", "_law_has", "_law_classes", "_law_refused"] : List Str)
theorem run (w : World) : HandSHeadRun.RunEq R (PySem.W.view R.prog [48]) hk ob 6000 loose w := by
  intro os
  kernel_rfl
end Law

open PySem PySem.W PySem.Calls PyProof.Rows in
theorem PySem.Challenge.cw_curvefaces_k10_beyond_holds : PySem.Challenge.rw_curvefaces_k10_beyond.Holds := by
  w_on; o_law
  refine HandSHeadRun.head_any (r := OpenLaw.row PySem.Challenge.rw_curvefaces_k10_beyond) (q := view (OpenLaw.row PySem.Challenge.rw_curvefaces_k10_beyond).prog [48]) (H := Law.hk) (ob := Law.ob) (M := 6000) (loose := Law.loose) (d := HandSHeadRun.topDef (OpenLaw.row PySem.Challenge.rw_curvefaces_k10_beyond).prog 48) (kwd := []) Law.ob_eq
    (by kernel_rfl) (fun s => by kernel_rfl) Law.run (by kernel_rfl) (by kernel_rfl) (by kernel_rfl) (by rfl) (by first | assumption | decide +kernel) (by decide +kernel) ⟨rfl, rfl, rfl, rfl, rfl, by decide +kernel⟩ ?hw ?hc
  case hw => w_witness2
  case hc =>
    refine Cv.walk_endT (l := PySem.Challenge.rw_curvefaces_k10_beyond) (n := 63) (k := Law.depth + 1) (x := PySem.Str.ofString "_law_script") (CX := L2.CX0) rfl (by decide) (by kernel_rfl) ⟨⟨rfl, by decide, by decide⟩, rfl⟩ ?F (fun _ _ _ _ z => z)
    intro w mg fa h Y G hmg0
    obtain ⟨K, KX, c⟩ := Y
    have hmg : mg (PySem.Str.ofString "law") = some (.ref fa) := by
      have e : (HandSHeadRun.topDef (OpenLaw.row PySem.Challenge.rw_curvefaces_k10_beyond).prog 48).name = PySem.Str.ofString "law" := by kernel_rfl
      rw [← e]
      exact hmg0
    have cs := Cv.says_of c.t.d
    have ex := Bool.and_eq_true_iff.mp c.more
    obtain ⟨fd, sp, hb, h1, h2⟩ := Cv.law_ok (P := (PySem.Challenge.rw_curvefaces_k10_beyond).prog) (w := w) (n := Law.depth) (f := Law.i_law) KX G cs.l (by decide +kernel) (by decide +kernel) Law.good (Law.lam_fx KX G cs.r ex.1) (of_decide_eq_true ex.2) (by unfold Law.Fs; repeat (first | exact List.mem_cons_self | apply List.mem_cons_of_mem)) rfl rfl hmg Law.law_plain
    refine ⟨K, fd, sp, (Cv.tfOf Law.Fs).map (He.cT K), KX, ?_, ?_, ?_, hb, h1, h2⟩
    · intro p hp; obtain ⟨q, hq, rfl⟩ := List.mem_map.mp hp; exact c.empty q hq
    · intro p hp; obtain ⟨q, hq, rfl⟩ := List.mem_map.mp hp; exact c.out q hq
    · intro p hp; obtain ⟨q, hq, rfl⟩ := List.mem_map.mp hp; exact c.hd q hq

