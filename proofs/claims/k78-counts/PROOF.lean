import PyProof.Rows.All
import Wide.All
import OpenK.AllK
import Wide.FinOn
import HandS.ForMost
import HandS.Exc
import HandS.ExcOwn
import HandS.WordsExc
import HandS.TryOnly
import HandS.Defaults
import HandS.HotCalls
import HandS.ExcIs
import HandS.IsInst
import HandS.Conv
import HandS.FStr
import HandS.TupMul
import HandS.TupAny
import HandS.Wide
import HandS.Zip
import HandS.Deep
import HandS.Flow
import KE.SortData
import KE.DatumIndex
import KE.DataMinMax
import HandS.Style
import HandS.Gcd
import HandS.Text
import HandS.ExcCtx
import HandS.Set
import HandS.SetTxt0
import PyProof.Rows.SetFrom
import PyProof.WalksMore
import HandS.SetFor
import HandS.Strs
import HandS.Walk
import KE.GoesEnum
import HandS.ExcValue
import KE.KStateDown
import Lean
import HandS.Head0
import HandS.Head1
import HandS.Head2
import HandS.HeadEnd
import HandS.HeadHook1
import HandS.HeadHook2
import PySem.Challenge.RW_menagerie_k78_how_many_concepts
section
set_option Elab.async false
set_option linter.all false
set_option maxRecDepth 100000
set_option maxHeartbeats 1000000
/-! MP: a small part of Python as plain Lean: data, terms, what they do. -/
namespace MP
open PySem

/-- data: immutable values; lists that nobody changes any more; defs; cells of the store -/
inductive D where
  | non | bl (b : Bool) | int (i : Int) | str (x : Str) | tup (xs : List D) | lst (xs : List D) | fn (i : Nat) | ref (i : Nat) | scr (ns : List Int)
  deriving Inhabited

mutual
def D.pd : D → PyData
  | .non => .none
  | .bl b => .bool b
  | .int i => .int i
  | .str x => .str x
  | .tup xs => .tuple (pdL xs)
  | .lst xs => .list (pdL xs)
  | .fn _ => .none
  | .ref _ => .none
  | .scr _ => .none
def pdL : List D → List PyData
  | [] => []
  | x :: xs => x.pd :: pdL xs
end
theorem pdL_map : ∀ xs : List D, pdL xs = xs.map D.pd
  | [] => rfl
  | x :: xs => by rw [pdL, pdL_map xs]; rfl
mutual
/-- no def, no cell in it -/
def D.flat : D → Bool
  | .tup xs => flatL xs
  | .lst xs => flatL xs
  | .fn _ => false
  | .ref _ => false
  | .scr _ => false
  | .non => true
  | .bl _ => true
  | .int _ => true
  | .str _ => true
def flatL : List D → Bool
  | [] => true
  | x :: xs => x.flat && flatL xs
end

mutual
/-- nothing in it leads to a cell from n on -/
def D.under (n : Nat) : D → Bool
  | .tup xs => underL n xs
  | .lst xs => underL n xs
  | .fn _ => true
  | .ref i => decide (i < n)
  | .scr _ => true
  | .non => true
  | .bl _ => true
  | .int _ => true
  | .str _ => true
def underL (n : Nat) : List D → Bool
  | [] => true
  | x :: xs => x.under n && underL n xs
end
/-- what a slot of a frame holds: nothing; a datum; a list that this slot alone holds -/
inductive Slot where
  | unb | val (d : D) | own (xs : List D)
  deriving Inhabited
/-- a cell of the store -/
inductive Cell where
  | lst (xs : List D)
  | ins (c : Nat) (ks : List Str) (xs : List D)
  | dK (ks : List L2.Key) (xs : List D)
  | dT (ks : List (List L2.Key)) (xs : List D)
  | tup (xs : List D)
  deriving Inhabited
/-- the data in a cell -/
def Cell.ds : Cell → List D
  | .lst xs => xs
  | .ins _ _ xs => xs
  | .dK _ xs => xs
  | .dT _ xs => xs
  | .tup xs => xs
/-- cells that are written -/
def Cell.mut : Cell → Bool
  | .tup _ => false
  | _ => true
abbrev Sto := List Cell
structure S where
  loc : List Slot
  sto : Sto
/-- an end: a value, an error of the c-th class, or nothing that is said -/
inductive Out (α : Type) where
  | ok (a : α) (s : S)
  | exc (c : Nat) (t : Sto)
  | bad
inductive Res where
  | ok (d : D) (t : Sto)
  | exc (c : Nat) (t : Sto)
  | bad
inductive Fl where
  | nx | brk | cnt | ret (d : D)
def Out.bind {α β : Type} : Out α → (α → S → Out β) → Out β
  | .ok a s, f => f a s
  | .exc c t, _ => .exc c t
  | .bad, _ => .bad
/-- an error within is not followed -/
def Out.calm {α : Type} : Out α → Out α
  | .ok a s => .ok a s
  | _ => .bad
@[simp] theorem calm_ok {α : Type} (a : α) (s : S) : (Out.ok a s).calm = .ok a s := rfl
@[simp] theorem calm_bad {α : Type} : (Out.bad : Out α).calm = .bad := rfl
@[simp] theorem bind_ok {α β : Type} (a : α) (s : S) (f : α → S → Out β) : (Out.ok a s).bind f = f a s := rfl
@[simp] theorem bind_exc {α β : Type} (c : Nat) (t : Sto) (f : α → S → Out β) : (Out.exc c t : Out α).bind f = .exc c t := rfl
@[simp] theorem bind_bad {α β : Type} (f : α → S → Out β) : (Out.bad : Out α).bind f = .bad := rfl

/-! ### what the primitives do -/
inductive Prim where
  | add | sub | mul | fdiv | mod | pow | shl | neg
  | eq | ne | lt | le | gt | ge | isIn | notIn | isNone | notNone
  | item | sl11 | sl10 | sl01 | sl00 | rev
  | tup | lst
  | len | abs | int1 | str1 | repr | sum | all | any | max2 | min2 | tuple | list | sorted | sortedRev | sortedSet | lenSet | tupRng | lstRng | isTup | gcd
  | index | join
  deriving DecidableEq, Inhabited

/-- data of one kind can be compared by == -/
def eqOk (d e : D) : Bool := d.flat && e.flat && SeqAt.shaped d.pd && SeqAt.shaped e.pd
def eqD (d e : D) : Bool := PyData.eqv d.pd e.pd
def notNone : D → Bool
  | .non => false
  | _ => true
def ltOk (d e : D) : Bool := d.flat && e.flat && PySem.W.alike d.pd e.pd && notNone d && decide (d.pd.depth ≤ 64)
def ltD (d e : D) : Bool := PySem.W.dataLt d.pd e.pd
def intsOf : List D → Option (List Int)
  | [] => some []
  | .int i :: r => (intsOf r).map (i :: ·)
  | _ :: _ => none
def boolsOf : List D → Option (List Bool)
  | [] => some []
  | .bl b :: r => (boolsOf r).map (b :: ·)
  | _ :: _ => none
def strsOf : List D → Option (List Str)
  | [] => some []
  | .str b :: r => (strsOf r).map (b :: ·)
  | _ :: _ => none
/-- a slice -/
def cut {α : Type} (xs : List α) (lo hi : Option Int) : List α := (xs.drop (HT.sIx xs.length 0 lo)).take (HT.sIx xs.length xs.length hi - HT.sIx xs.length 0 lo)
def mulOk (i j : Int) : Bool := decide (i.natAbs.log2 + j.natAbs.log2 < 1000000)
def divOk (j : Int) : Bool := decide (0 < j) && decide (j.natAbs.log2 < 9000)
def seqOf : D → Option (List D)
  | .tup xs => some xs
  | .lst xs => some xs
  | _ => none
def inOk (x : D) (xs : List D) : Bool := eqOk x (.lst xs)
def inD (x : D) (xs : List D) : Bool := xs.any fun y => eqD y x
def allAlike (xs : List D) : Bool := xs.all fun x => xs.all fun y => PySem.W.alike x.pd y.pd
/-- the items can be sorted -/
def sortOk (xs : List D) : Bool := xs.all (fun d => d.flat && notNone d && decide (d.pd.depth ≤ 64)) && allAlike xs && decide (xs.length ≤ 16777216)
def sortD (b : Bool) (xs : List D) : List D := xs.mergeSort (PySem.W.dataLe b D.pd)
def joinOk (a : Str) (ys : List Str) : Bool := decide ((ys.map fun y => y.length).sum + ys.length * a.length ≤ 16777216)
def strD (i : Int) : D := .str (Str.ofString (toString i))
def oneSign (x : Str) (i : Int) : Option D := if x.length ≤ 16777216 then (L2.atI x.cps.toList i).map fun c => .str ⟨#[c]⟩ else none
def cutStr (x : Str) (lo hi : Option Int) : Option D := if x.length ≤ 16777216 then some (.str (L2.cutS x lo hi)) else none
def reprOk (d : D) : Bool := d.flat && d.pd.showable && decide (d.pd.depth ≤ 60) && decide (d.pd.shown.length ≤ 16777216)

def p_add : List D → Option D
  | [.int i, .int j] => some (.int (i + j))
  | [.str x, .str y] => if x.length + y.length ≤ 16777216 then some (.str (x ++ y)) else none
  | [.tup x, .tup y] => if x.length + y.length ≤ 16777216 then some (.tup (x ++ y)) else none
  | [.lst x, .lst y] => if x.length + y.length ≤ 16777216 then some (.lst (x ++ y)) else none
  | _ => none
def p_sub : List D → Option D
  | [.int i, .int j] => some (.int (i - j))
  | _ => none
def p_mul : List D → Option D
  | [.int i, .int j] => if mulOk i j then some (.int (i * j)) else none
  | [.tup x, .int k] => if x.length = 1 ∧ 2 ≤ k ∧ k ≤ 1000 then some (.tup (List.replicate k.toNat x).flatten) else none
  | [.lst x, .int k] => if 0 ≤ k ∧ k ≤ 1000 ∧ x.length ≤ 1000 then some (.lst (List.replicate k.toNat x).flatten) else none
  | _ => none
def p_fdiv : List D → Option D
  | [.int i, .int j] => if divOk j then some (.int (i / j)) else none
  | _ => none
def p_mod : List D → Option D
  | [.int i, .int j] => if 0 < j then some (.int (i % j)) else none
  | _ => none
def p_pow : List D → Option D
  | [.int i, .int j] => if 0 ≤ j ∧ j ≤ 1000 ∧ i.natAbs < 2 ^ 64 then some (.int (i ^ j.toNat)) else none
  | _ => none
def p_shl : List D → Option D
  | [.int i, .int j] => if 0 ≤ j ∧ j ≤ 1000 ∧ i.natAbs < 2 ^ 64 then some (.int (i * 2 ^ j.toNat)) else none
  | _ => none
def p_neg : List D → Option D
  | [.int i] => some (.int (-i))
  | _ => none
def p_eq : List D → Option D
  | [x, y] => if eqOk x y then some (.bl (eqD x y)) else none
  | _ => none
def p_ne : List D → Option D
  | [x, y] => if eqOk x y then some (.bl (!eqD x y)) else none
  | _ => none
def p_lt : List D → Option D
  | [.int i, .int j] => some (.bl (decide (i < j)))
  | [.str x, .str y] => some (.bl (decide (x.cps.toList < y.cps.toList)))
  | [.tup x, .tup y] => if ltOk (.tup x) (.tup y) then some (.bl (ltD (.tup x) (.tup y))) else none
  | _ => none
def p_le : List D → Option D
  | [.int i, .int j] => some (.bl (decide (i ≤ j)))
  | _ => none
def p_gt : List D → Option D
  | [.int i, .int j] => some (.bl (decide (j < i)))
  | _ => none
def p_ge : List D → Option D
  | [.int i, .int j] => some (.bl (decide (j ≤ i)))
  | _ => none
def p_isIn : List D → Option D
  | [.str x, .str y] => if x.cps.size = 1 then some (.bl (decide (x.cps.getD 0 0 ∈ y.cps.toList))) else none
  | [x, .tup y] => if inOk x y then some (.bl (inD x y)) else none
  | [x, .lst y] => if inOk x y then some (.bl (inD x y)) else none
  | _ => none
def p_notIn : List D → Option D
  | [.str x, .str y] => if x.cps.size = 1 then some (.bl (!decide (x.cps.getD 0 0 ∈ y.cps.toList))) else none
  | [x, .tup y] => if inOk x y then some (.bl (!inD x y)) else none
  | [x, .lst y] => if inOk x y then some (.bl (!inD x y)) else none
  | _ => none
def p_isNone : List D → Option D
  | [x] => some (.bl (!notNone x))
  | _ => none
def p_notNone : List D → Option D
  | [x] => some (.bl (notNone x))
  | _ => none
def p_item : List D → Option D
  | [.tup x, .int i] => L2.atI x i
  | [.lst x, .int i] => L2.atI x i
  | [.str x, .int i] => oneSign x i
  | _ => none
def p_sl11 : List D → Option D
  | [.tup x, .int i, .int j] => some (.tup (cut x (some i) (some j)))
  | [.lst x, .int i, .int j] => some (.lst (cut x (some i) (some j)))
  | [.str x, .int i, .int j] => cutStr x (some i) (some j)
  | _ => none
def p_sl10 : List D → Option D
  | [.tup x, .int i] => some (.tup (cut x (some i) none))
  | [.lst x, .int i] => some (.lst (cut x (some i) none))
  | [.str x, .int i] => cutStr x (some i) none
  | _ => none
def p_sl01 : List D → Option D
  | [.tup x, .int j] => some (.tup (cut x none (some j)))
  | [.lst x, .int j] => some (.lst (cut x none (some j)))
  | [.scr x, .int j] => some (.lst (cut (x.map .int) none (some j)))
  | [.str x, .int j] => cutStr x none (some j)
  | _ => none
def p_sl00 : List D → Option D
  | [.lst x] => some (.lst x)
  | _ => none
def p_rev : List D → Option D
  | [.tup x] => some (.tup x.reverse)
  | [.lst x] => some (.lst x.reverse)
  | _ => none
def p_tup : List D → Option D
  | xs => if xs.length ≤ 1000 then some (.tup xs) else none
def p_lst : List D → Option D
  | xs => if xs.length ≤ 1000 then some (.lst xs) else none
def p_len : List D → Option D
  | [.tup x] => some (.int x.length)
  | [.lst x] => some (.int x.length)
  | [.str x] => if x.length ≤ 16777216 then some (.int x.length) else none
  | _ => none
def p_abs : List D → Option D
  | [.int i] => some (.int (if i < 0 then -i else i))
  | _ => none
def p_int1 : List D → Option D
  | [.int i] => some (.int i)
  | [.bl b] => some (.int (if b then 1 else 0))
  | _ => none
def p_str1 : List D → Option D
  | [.int i] => if i.natAbs.log2 < 1920 then some (strD i) else none
  | _ => none
def p_repr : List D → Option D
  | [d] => if reprOk d then some (.str d.pd.shown) else none
  | _ => none
def p_sum : List D → Option D
  | [.lst x] => (intsOf x).map fun ns => .int ns.sum
  | _ => none
def p_all : List D → Option D
  | [.lst x] => (boolsOf x).map fun bs => .bl (bs.all id)
  | _ => none
def p_any : List D → Option D
  | [.lst x] => (boolsOf x).map fun bs => .bl (bs.any id)
  | _ => none
def p_max2 : List D → Option D
  | [.int i, .int j] => some (.int (if j > i then j else i))
  | _ => none
def p_min2 : List D → Option D
  | [.int i, .int j] => some (.int (if j < i then j else i))
  | [.tup x, .tup y] => if sortOk [.tup x, .tup y] then some (if ltD (.tup y) (.tup x) then .tup y else .tup x) else none
  | _ => none
def p_tuple : List D → Option D
  | [.tup x] => some (.tup x)
  | [.lst x] => some (.tup x)
  | _ => none
def p_list : List D → Option D
  | [.tup x] => some (.lst x)
  | [.lst x] => some (.lst x)
  | _ => none
def p_sorted : List D → Option D
  | [.lst x] => if sortOk x then some (.lst (sortD false x)) else none
  | [.tup x] => if sortOk x then some (.lst (sortD false x)) else none
  | _ => none
/-- the members of ys, each once, in the order of texts -/
def sortT (ys : List Str) : List Str := ys.eraseDups.mergeSort (PySem.W.dataLe false PyData.str)
/-- the same of ints -/
def sortI (ys : List Int) : List Int := ys.eraseDups.mergeSort (fun a b => decide (a ≤ b))
def p_sortedSet : List D → Option D
  | [.tup x] => match strsOf x with
    | some ys => if ys.length ≤ 1000 then some (.lst ((sortT ys).map .str)) else none
    | none => none
  | [.lst x] => match intsOf x with
    | some ys => if ys.length ≤ 60 then some (.lst ((sortI ys).map .int)) else none
    | none => none
  | _ => none
def p_sortedRev : List D → Option D
  | [.lst x] => if sortOk x then some (.lst (sortD true x)) else none
  | _ => none
def p_tupRng : List D → Option D
  | [.int i] => if 0 ≤ i ∧ i ≤ 100000 then some (.tup ((List.range i.toNat).map fun k => .int (k : Nat))) else none
  | _ => none
def p_lstRng : List D → Option D
  | [.int i] => if 0 ≤ i ∧ i ≤ 100000 then some (.lst ((List.range i.toNat).map fun k => .int (k : Nat))) else none
  | _ => none
def p_isTup : List D → Option D
  | [.tup _] => some (.bl true)
  | [.str _] => some (.bl false)
  | [.non] => some (.bl false)
  | [.bl _] => some (.bl false)
  | [.int _] => some (.bl false)
  | [.lst _] => some (.bl false)
  | _ => none
def p_gcd : List D → Option D
  | [.int a, .int b] => some (.int ((Nat.gcd a.natAbs b.natAbs : Nat) : Int))
  | _ => none
def p_index : List D → Option D
  | [.tup x, y] => if inOk y x && inD y x then some (.int ((x.map fun z => eqD z y).idxOf true : Nat)) else none
  | [.lst x, y] => if inOk y x && inD y x then some (.int ((x.map fun z => eqD z y).idxOf true : Nat)) else none
  | _ => none
def p_join : List D → Option D
  | [.str a, .lst x] => match strsOf x with
    | some ys => if joinOk a ys then some (.str (Txt.join a ys)) else none
    | none => none
  | _ => none
def prim : Prim → List D → Option D
  | .add => p_add
  | .sub => p_sub
  | .mul => p_mul
  | .fdiv => p_fdiv
  | .mod => p_mod
  | .pow => p_pow
  | .shl => p_shl
  | .neg => p_neg
  | .eq => p_eq
  | .ne => p_ne
  | .lt => p_lt
  | .le => p_le
  | .gt => p_gt
  | .ge => p_ge
  | .isIn => p_isIn
  | .notIn => p_notIn
  | .isNone => p_isNone
  | .notNone => p_notNone
  | .item => p_item
  | .sl11 => p_sl11
  | .sl10 => p_sl10
  | .sl01 => p_sl01
  | .sl00 => p_sl00
  | .rev => p_rev
  | .tup => p_tup
  | .lst => p_lst
  | .len => p_len
  | .abs => p_abs
  | .int1 => p_int1
  | .str1 => p_str1
  | .repr => p_repr
  | .sum => p_sum
  | .all => p_all
  | .any => p_any
  | .max2 => p_max2
  | .min2 => p_min2
  | .tuple => p_tuple
  | .list => p_list
  | .sorted => p_sorted
  | .sortedRev => p_sortedRev
  | .sortedSet => p_sortedSet
  | .tupRng => p_tupRng
  | .lstRng => p_lstRng
  | .isTup => p_isTup
  | .gcd => p_gcd
  | .index => p_index
  | .join => p_join
  | _ => fun _ => none

/-! ### terms -/
inductive Tgt where
  | nm (i : Nat)
  | tp (ts : List Tgt)
mutual
inductive PE where
  | var (i : Nat) | peek (i : Nat) | con (d : D) | glob (x : Str) (d : D) | fnv (f : Nat)
  | prim (p : Prim) (es : PL)
  | tup (es : PL) | lst (es : PL) | sl2 (a b c : PE) | meth (p : Prim) (a b : PE) | tupRng (a : PE) | lstRng (a : PE)
  | fstr (es : PL)
  | nt (a : PE) | bop (isAnd : Bool) (es : PL) | ite (c a b : PE)
  | chain (o1 o2 : Prim) (a b c : PE)
  | call (f : Nat) (es : PL) | callv (e : PE) (es : PL)
  | comp (elt : PE) (t : Tgt) (it : Iter) (cs : PL) (vs : List Nat)
  | fld (c : Nat) (o : PE) (x : Str) | mcal (c f : Nat) (m : Str) (o : PE) (es : PL) | mk (c f : Nat) (es : PL) | dnew (k : Bool) | lcell (es : PL) | tcell (es : PL) | dget (o k : PE) | din (neg : Bool) (k o : PE)
inductive PL where
  | nil | cons (e : PE) (r : PL)
inductive Iter where
  | seq (e : PE) | rng1 (a : PE) | rng2 (a b : PE) | rng3 (a b c : PE) | enum (e : PE) | zip (a b : PE)
end
mutual
inductive PS where
  | set (t : Tgt) (e : PE)
  | own (i : Nat) (e : PE)
  | cell (i : Nat) (e : PE)
  | seti (i : Nat) (ix e : PE)
  | setc (o ix e : PE)
  | aug (i : Nat) (o : Prim) (e : PE)
  | app (i : Nat) (e : PE)
  | ext (i : Nat) (e : PE)
  | appc (o e : PE)
  | forc (t : Tgt) (e : PE) (b : PB)
  | fset (c : Nat) (o : PE) (x : Str) (e : PE)
  | dput (o k e : PE)
  | ife (c : PE) (a b : PB)
  | whl (c : PE) (b : PB)
  | forr (t : Tgt) (it : Iter) (b : PB)
  | ret (e : PE) | retn | rais (c : Nat) | expr (e : PE) | brk | cnt | pas
  | tryT (b : PB) (i : Nat)
inductive PB where
  | nil | cons (s : PS) (r : PB)
end

/-! ### what they do -/
abbrev CF := Nat → List D → Sto → Res
def rdVar (i : Nat) (s : S) : Out D :=
  match s.loc[i]? with
  | some (.val d) => .ok d s
  | some (.own ds) => .ok (.lst ds) { s with loc := s.loc.set i (.val (.lst ds)) }
  | _ => .bad
def rdPeek (i : Nat) (s : S) : Out D :=
  match s.loc[i]? with
  | some (.val d) => .ok d s
  | some (.own ds) => .ok (.lst ds) s
  | _ => .bad
/-- a list cell is read as its items -/
def deref (t : Sto) : D → D
  | .ref i => match t[i]? with
    | some (.lst xs) => .lst xs
    | _ => .ref i
  | d => d
def toOut (o : Option D) (s : S) : Out D :=
  match o with
  | some d => .ok d s
  | none => .bad
def Cell.under (n : Nat) (c : Cell) : Bool := underL n c.ds
/-- cells that a call made are gone where nothing can lead to them -/
def trim (n : Nat) (d : D) (t : Sto) : Sto := if d.under n = true ∧ n < t.length ∧ (t.take n).all (Cell.under n) = true then t.take n else t
theorem trim_le {n : Nat} {d : D} {t : Sto} (h : t.length ≤ n) : trim n d t = t := if_neg fun z => by omega
def callO (cf : CF) (f : Nat) (ds : List D) (s : S) : Out D :=
  match cf f ds s.sto with
  | .ok d t => .ok d { s with sto := trim s.sto.length d t }
  | .exc c t => .exc c t
  | .bad => .bad
mutual
def assign : Tgt → D → S → Option S
  | .nm i, d, s => if i < s.loc.length then some { s with loc := s.loc.set i (.val d) } else none
  | .tp ts, .tup ds, s => assignL ts ds s
  | .tp ts, .lst ds, s => assignL ts ds s
  | .tp _, _, _ => none
def assignL : List Tgt → List D → S → Option S
  | [], [], s => some s
  | t :: ts, d :: ds, s => (assign t d s).bind fun s' => assignL ts ds s'
  | _, _, _ => none
end
def ofOpt {α : Type} (o : Option S) (f : S → Out α) : Out α :=
  match o with
  | some s => f s
  | none => .bad
def wipe (loc : List Slot) : List Nat → List Slot
  | [] => loc
  | i :: r => (wipe loc r).set i .unb
/-- the slots vs as they were in old, the others as in new -/
def unwipe (old new : List Slot) : List Nat → List Slot
  | [] => new
  | i :: r => (unwipe old new r).set i (match old[i]? with
    | some (.val d) => .val d
    | _ => .unb)
def compLoop (vs : List Nat) (f : D → S → Out (List D)) : List D → S → Out (List D)
  | [], s => .ok [] s
  | x :: r, s => (f x { s with loc := wipe s.loc vs }).bind fun ds s' => (compLoop vs f r s').bind fun es s'' => .ok (ds ++ es) s''
def strOf : D → Option Str
  | .str x => some x
  | .int i => if i.natAbs.log2 < 1920 then some (Str.ofString (toString i)) else none
  | _ => none
def rngL (a b : Int) : List D := (List.range (b - a).toNat).map fun k => .int (a + (k : Nat))
def rngD (a b : Int) : List D := (List.range (a - b).toNat).map fun k => .int (a + (k : Nat) * (-1))
def smallI (i : Int) : Bool := decide (-1000000 ≤ i) && decide (i ≤ 1000000)
def enumL : Nat → List D → List D
  | _, [] => []
  | n, x :: r => .tup [.int (n : Nat), x] :: enumL (n + 1) r
def zipL : List D → List D → List D
  | x :: r, y :: q => .tup [x, y] :: zipL r q
  | _, _ => []
def itemsOf : D → Option (List D)
  | .tup xs => some xs
  | .lst xs => some xs
  | .str x => some (x.cps.toList.map fun c => .str ⟨#[c]⟩)
  | _ => none
/-! objects and dicts -/
def lookS : List Str → List D → Str → Option D
  | k :: ks, d :: ds, x => if x = k then some d else lookS ks ds x
  | _, _, _ => none
def putS : List Str → List D → Str → D → List Str × List D
  | k :: ks, d :: ds, x, e => if k = x then (k :: ks, e :: ds) else (k :: (putS ks ds x e).1, d :: (putS ks ds x e).2)
  | _, _, x, e => ([x], [e])
def keyD : D → Option L2.Key
  | .int i => some (.inl i)
  | .str x => some (.inr x)
  | _ => none
def keysD : List D → Option (List L2.Key)
  | [] => some []
  | d :: ds => match keyD d, keysD ds with
    | some k, some ks => some (k :: ks)
    | _, _ => none
def valD {κ : Type} [DecidableEq κ] : List κ → List D → κ → Option D
  | k :: ks, d :: ds, x => if k = x then some d else valD ks ds x
  | _, _, _ => none
def setV {κ : Type} [DecidableEq κ] : List κ → List D → κ → D → List D
  | k :: ks, d :: ds, x, e => if k = x then e :: setV ks ds x e else d :: setV ks ds x e
  | _, _, _, _ => []
/-- what the dict in a cell has for a key -/
def cellGet (t : Sto) : Cell → D → Option (Option D)
  | .dK ks xs, kd => (keyD kd).map fun k => valD ks xs k
  | .dT ks xs, .ref i => match t[i]? with
    | some (.tup kd) => (keysD kd).map fun k => valD ks xs k
    | _ => none
  | _, _ => none
def putC {κ : Type} [DecidableEq κ] (ks : List κ) (xs : List D) (k : κ) (e : D) : List κ × List D := if (ks.any fun y => decide (y = k)) = true then (ks, setV ks xs k e) else (ks ++ [k], xs ++ [e])
def cellPut (t : Sto) : Cell → D → D → Option Cell
  | .dK ks xs, kd, e => (keyD kd).bind fun k => if ks.length < 1000000 then some (.dK (putC ks xs k e).1 (putC ks xs k e).2) else none
  | .dT ks xs, .ref i, e => match t[i]? with
    | some (.tup kd) => (keysD kd).bind fun k => if ks.length < 1000000 then some (.dT (putC ks xs k e).1 (putC ks xs k e).2) else none
    | _ => none
  | _, _, _ => none
/-- x[b:c] behind x -/
def slRest (eb ec : S → Out D) (x : D) (s1 : S) : Out D := (eb s1).bind fun y s2 => match y with
  | .int i => (ec s2).bind fun z s3 => toOut (prim .sl11 [deref s3.sto x, .int i, z]) s3
  | _ => .bad
/-- the object of a method is of the right type -/
def recvOk : Prim → D → Bool
  | .index, .lst _ => true
  | .join, .str _ => true
  | _, _ => false
/-- x.m(b) behind x -/
def methRest (p : Prim) (eb : S → Out D) (x : D) (s1 : S) : Out D := if recvOk p x then (eb s1).bind fun y s2 => toOut (prim p [x, deref s2.sto y]) s2 else .bad
mutual
def evalE (cf : CF) : PE → S → Out D
  | .var i, s => rdVar i s
  | .peek _, _ => .bad
  | .con d, s => .ok d s
  | .glob _ d, s => .ok d s
  | .fnv f, s => .ok (.fn f) s
  | .prim p es, s => (evalO cf es s).bind fun ds s' => toOut (prim p (ds.map (deref s'.sto))) s'
  | .sl2 (.peek i) b c, s => (rdPeek i s).bind (slRest (evalE cf b) (evalE cf c))
  | .sl2 a b c, s => (evalE cf a s).bind (slRest (evalE cf b) (evalE cf c))
  | .meth p (.peek i) b, s => (rdPeek i s).bind (methRest p (evalE cf b))
  | .meth p a b, s => (evalE cf a s).bind (methRest p (evalE cf b))
  | .tupRng a, s => (evalE cf a s).bind fun d s' => match d with
    | .int i => if 0 ≤ i ∧ i ≤ 100000 then .ok (.tup (rngL 0 i)) s' else .bad
    | _ => .bad
  | .lstRng a, s => (evalE cf a s).bind fun d s' => match d with
    | .int i => if 0 ≤ i ∧ i ≤ 100000 then .ok (.lst (rngL 0 i)) s' else .bad
    | _ => .bad
  | .tup es, s => (evalL cf es s).bind fun ds s' => if ds.length ≤ 1000 then .ok (.tup ds) s' else .bad
  | .lst es, s => (evalL cf es s).bind fun ds s' => if ds.length ≤ 1000 then .ok (.lst ds) s' else .bad
  | .fstr es, s => evalF cf es Str.empty s
  | .nt a, s => (evalE cf a s).bind fun d s' => match d with
    | .bl b => .ok (.bl !b) s'
    | _ => .bad
  | .bop k es, s => evalB cf k es s
  | .ite c a b, s => (evalE cf c s).bind fun d s' => match d with
    | .bl true => evalE cf a s'
    | .bl false => evalE cf b s'
    | _ => .bad
  | .chain o1 o2 a b c, s => (evalE cf a s).bind fun x s1 => (evalE cf b s1).bind fun y s2 => match prim o1 [x, y] with
    | some (.bl true) => (evalE cf c s2).bind fun z s3 => toOut (prim o2 [y, z]) s3
    | some (.bl false) => .ok (.bl false) s2
    | _ => .bad
  | .call f es, s => (evalL cf es s).bind fun ds s' => callO cf f ds s'
  | .callv e es, s => (evalE cf e s).bind fun d s1 => match d with
    | .fn f => (evalL cf es s1).bind fun ds s' => callO cf f ds s'
    | _ => .bad
  | .comp elt t it cs vs, s => (evalI cf it s).bind fun xs s1 =>
      (compLoop vs (fun d s2 => ofOpt (assign t d s2) fun s3 => (evalC cf cs s3).bind fun b s4 => if b then (evalE cf elt s4).bind fun e s5 => .ok [e] s5 else .ok [] s4) xs s1).calm.bind
        fun ds s6 => if ds.length ≤ 1000000 then .ok (.lst ds) { s6 with loc := unwipe s1.loc s6.loc vs } else .bad
  | .fld c o x, s => (evalE cf o s).bind fun d s1 => match d with
    | .ref j => match s1.sto[j]? with
      | some (.ins c' ks xs) => if c' = c then toOut (lookS ks xs x) s1 else .bad
      | _ => .bad
    | _ => .bad
  | .mcal c f m o es, s => (evalE cf o s).bind fun d s1 => match d with
    | .ref j => match s1.sto[j]? with
      | some (.ins c' ks _) => if c' = c ∧ m ∉ ks then (evalL cf es s1).bind fun ds s2 => callO cf f (.ref j :: ds) s2 else .bad
      | _ => .bad
    | _ => .bad
  | .mk c f es, s => (evalL cf es s).bind fun ds s1 => match cf f (.ref s1.sto.length :: ds) (s1.sto ++ [.ins c [] []]) with
    | .ok .non t => .ok (.ref s1.sto.length) { s1 with sto := t }
    | .exc k t => .exc k t
    | _ => .bad
  | .dnew k, s => .ok (.ref s.sto.length) { s with sto := s.sto ++ [if k then .dK [] [] else .dT [] []] }
  | .lcell es, s => (evalL cf es s).bind fun ds s1 => if ds.length ≤ 1000 then .ok (.ref s1.sto.length) { s1 with sto := s1.sto ++ [.lst ds] } else .bad
  | .tcell es, s => (evalL cf es s).bind fun ds s1 => if ds.length ≤ 1000 then .ok (.ref s1.sto.length) { s1 with sto := s1.sto ++ [.tup ds] } else .bad
  | .dget o k, s => (evalE cf o s).bind fun d s1 => (evalE cf k s1).bind fun kd s2 => match d with
    | .ref j => match s2.sto[j]? with
      | some c => match cellGet s2.sto c kd with
        | some (some v) => .ok v s2
        | _ => .bad
      | _ => .bad
    | _ => .bad
  | .din neg k o, s => (evalE cf k s).bind fun kd s1 => (evalE cf o s1).bind fun d s2 => match d with
    | .ref j => match s2.sto[j]? with
      | some c => match cellGet s2.sto c kd with
        | some r => .ok (.bl (if neg then !r.isSome else r.isSome)) s2
        | _ => .bad
      | _ => .bad
    | _ => .bad
def evalF (cf : CF) : PL → Str → S → Out D
  | .nil, acc, s => .ok (.str acc) s
  | .cons e r, acc, s => (evalE cf e s).bind fun d s' => match strOf d with
    | some y => if (acc ++ y).length ≤ 16777216 then evalF cf r (acc ++ y) s' else .bad
    | none => .bad
def evalL (cf : CF) : PL → S → Out (List D)
  | .nil, s => .ok [] s
  | .cons e r, s => (evalE cf e s).bind fun d s' => (evalL cf r s').bind fun ds s'' => .ok (d :: ds) s''
def evalO (cf : CF) : PL → S → Out (List D)
  | .nil, s => .ok [] s
  | .cons (.peek i) r, s => (rdPeek i s).bind fun d s' => (evalO cf r s').bind fun ds s'' => .ok (d :: ds) s''
  | .cons e r, s => (evalE cf e s).bind fun d s' => (evalO cf r s').bind fun ds s'' => .ok (d :: ds) s''
def evalB (cf : CF) (k : Bool) : PL → S → Out D
  | .nil, _ => .bad
  | .cons e .nil, s => evalE cf e s
  | .cons e r, s => (evalE cf e s).bind fun d s' => match d with
    | .bl b => if b = k then evalB cf k r s' else .ok (.bl b) s'
    | _ => .bad
def evalC (cf : CF) : PL → S → Out Bool
  | .nil, s => .ok true s
  | .cons e r, s => (evalE cf e s).bind fun d s' => match d with
    | .bl true => evalC cf r s'
    | .bl false => .ok false s'
    | _ => .bad
def evalI (cf : CF) : Iter → S → Out (List D)
  | .seq (.peek i), s => (rdPeek i s).bind fun d s' => match itemsOf d with
    | some xs => .ok xs s'
    | none => .bad
  | .seq e, s => (evalE cf e s).bind fun d s' => match itemsOf d with
    | some xs => .ok xs s'
    | none => .bad
  | .rng1 a, s => (evalE cf a s).bind fun d s' => match d with
    | .int i => if smallI i then .ok (rngL 0 i) s' else .bad
    | _ => .bad
  | .rng2 a b, s => (evalE cf a s).bind fun d s1 => (evalE cf b s1).bind fun e s' => match d, e with
    | .int i, .int j => if smallI i && smallI j then .ok (rngL i j) s' else .bad
    | _, _ => .bad
  | .rng3 a b c, s => (evalE cf a s).bind fun d s1 => (evalE cf b s1).bind fun e s2 => (evalE cf c s2).bind fun f s' => match d, e, f with
    | .int i, .int j, .int k => if smallI i && smallI j && decide (k = -1) then .ok (rngD i j) s' else .bad
    | _, _, _ => .bad
  | .enum (.peek i), s => (rdPeek i s).bind fun d s' => match seqOf d with
    | some xs => .ok (enumL 0 xs) s'
    | none => .bad
  | .enum e, s => (evalE cf e s).bind fun d s' => match seqOf d with
    | some xs => .ok (enumL 0 xs) s'
    | none => .bad
  | .zip a b, s => (evalE cf a s).bind fun d s1 => (evalE cf b s1).bind fun e s' => match seqOf d, seqOf e with
    | some xs, some ys => .ok (zipL xs ys) s'
    | _, _ => .bad
end

def setAt (xs : List D) (i : Int) (d : D) : Option (List D) :=
  if 0 ≤ i ∧ i.toNat < xs.length then some (xs.set i.toNat d) else if i < 0 ∧ 0 ≤ i + xs.length then some (xs.set (i + xs.length).toNat d) else none
def whileN (c : S → Out D) (b : S → Out Fl) : Nat → S → Out Fl
  | 0, _ => .bad
  | n + 1, s => (c s).bind fun d s1 => match d with
    | .bl true => (b s1).bind fun f s2 => match f with
      | .nx => whileN c b n s2
      | .cnt => whileN c b n s2
      | .brk => .ok .nx s2
      | .ret d => .ok (.ret d) s2
    | .bl false => .ok .nx s1
    | _ => .bad
def forLoop (f : D → S → Out Fl) : List D → S → Out Fl
  | [], s => .ok .nx s
  | x :: r, s => (f x s).bind fun g s' => match g with
    | .nx => forLoop f r s'
    | .cnt => forLoop f r s'
    | .brk => .ok .nx s'
    | .ret d => .ok (.ret d) s'
/-- a walk along the list in cell j, which keeps its length n; m items are left -/
def forCell (f : D → S → Out Fl) (j n : Nat) : Nat → S → Out Fl
  | 0, s => match s.sto[j]? with
    | some (.lst ys) => if ys.length = n then .ok .nx s else .bad
    | _ => .bad
  | m + 1, s => match s.sto[j]? with
    | some (.lst ys) => if ys.length = n then match ys[n - (m + 1)]? with
        | some d => (f d s).bind fun g s' => match g with
          | .nx => forCell f j n m s'
          | .cnt => forCell f j n m s'
          | .brk => .ok .nx s'
          | .ret d => .ok (.ret d) s'
        | none => .bad
      else .bad
    | _ => .bad
/-- the word of the law for an error of the c-th class -/
def errWord (c : Nat) : D := .str (match c with
  | 0 => "refused" | 1 => "large" | 2 => "missing" | 3 => "paper" | 4 => "form" | _ => "odd")
def smallW (i : Int) : Bool := decide (-(2 ^ 64) < i) && decide (i < 2 ^ 64)
/-- x op= y of ints -/
def augI : Prim → Int → D → Option D
  | .add, x, .int y => some (.int (x + y))
  | .sub, x, .int y => some (.int (x - y))
  | .mul, x, .int y => if smallW x || smallW y then some (.int (x * y)) else none
  | _, _, _ => none
mutual
def evalS (cf : CF) (wf : Nat) : PS → S → Out Fl
  | .set t e, s => (evalE cf e s).bind fun d s' => ofOpt (assign t d s') fun s'' => .ok .nx s''
  | .own i e, s => (evalE cf e s).bind fun d s' => match d with
    | .lst xs => if i < s'.loc.length then .ok .nx { s' with loc := s'.loc.set i (.own xs) } else .bad
    | _ => .bad
  | .cell i e, s => (evalE cf e s).bind fun d s' => match d with
    | .lst xs => if i < s'.loc.length then .ok .nx { loc := s'.loc.set i (.val (.ref s'.sto.length)), sto := s'.sto ++ [.lst xs] } else .bad
    | _ => .bad
  | .seti i ix e, s => (evalE cf e s).bind fun d s1 => match s1.loc[i]? with
    | some (.own _) => (evalE cf ix s1).bind fun k s2 => match s2.loc[i]?, k with
      | some (.own xs), .int k => match setAt xs k d with
        | some ys => .ok .nx { s2 with loc := s2.loc.set i (.own ys) }
        | none => .bad
      | _, _ => .bad
    | _ => .bad
  | .setc o ix e, s => (evalE cf e s).bind fun d s1 => (evalE cf o s1).bind fun o s2 => (evalE cf ix s2).bind fun k s3 => match o, k with
    | .ref j, .int k => match s3.sto[j]? with
      | some (.lst xs) => match setAt xs k d with
        | some ys => .ok .nx { s3 with sto := s3.sto.set j (.lst ys) }
        | none => .bad
      | _ => .bad
    | _, _ => .bad
  | .aug i o e, s => match s.loc[i]? with
    | some (.val (.int x)) => (evalE cf e s).bind fun y s1 => match augI o x y with
      | some z => .ok .nx { s1 with loc := s1.loc.set i (.val z) }
      | none => .bad
    | _ => .bad
  | .app i e, s => match s.loc[i]? with
    | some (.own _) => (evalE cf e s).bind fun d s1 => match s1.loc[i]? with
      | some (.own xs) => if xs.length < 1000000 then .ok .nx { s1 with loc := s1.loc.set i (.own (xs ++ [d])) } else .bad
      | _ => .bad
    | _ => .bad
  | .ext i e, s => match s.loc[i]? with
    | some (.own _) => (evalE cf e s).bind fun d s1 => match s1.loc[i]?, d with
      | some (.own xs), .lst ys => if xs.length + ys.length < 1000000 then .ok .nx { s1 with loc := s1.loc.set i (.own (xs ++ ys)) } else .bad
      | _, _ => .bad
    | _ => .bad
  | .appc o e, s => (evalE cf o s).bind fun od s1 => match od with
    | .ref j => match s1.sto[j]? with
      | some (.lst _) => (evalE cf e s1).bind fun d s2 => match s2.sto[j]? with
        | some (.lst xs) => if xs.length < 1000000 then .ok .nx { s2 with sto := s2.sto.set j (.lst (xs ++ [d])) } else .bad
        | _ => .bad
      | _ => .bad
    | _ => .bad
  | .forc t e b, s => (evalE cf e s).bind fun d s1 => match d with
    | .ref j => match s1.sto[j]? with
      | some (.lst xs) => forCell (fun d s2 => ofOpt (assign t d s2) fun s3 => evalSs cf wf b s3) j xs.length xs.length s1
      | _ => .bad
    | _ => .bad
  | .fset c o x e, s => (evalE cf e s).bind fun d s1 => (evalE cf o s1).bind fun od s2 => match od with
    | .ref j => match s2.sto[j]? with
      | some (.ins c' ks xs) => if c' = c ∧ ks.length < 900 then .ok .nx { s2 with sto := s2.sto.set j (.ins c (putS ks xs x d).1 (putS ks xs x d).2) } else .bad
      | _ => .bad
    | _ => .bad
  | .dput o k e, s => (evalE cf e s).bind fun d s1 => (evalE cf o s1).bind fun od s2 => (evalE cf k s2).bind fun kd s3 => match od with
    | .ref j => match s3.sto[j]? with
      | some c => match cellPut s3.sto c kd d with
        | some c' => .ok .nx { s3 with sto := s3.sto.set j c' }
        | none => .bad
      | _ => .bad
    | _ => .bad
  | .ife c a b, s => (evalE cf c s).bind fun d s' => match d with
    | .bl true => evalSs cf wf a s'
    | .bl false => evalSs cf wf b s'
    | _ => .bad
  | .whl c b, s => whileN (evalE cf c) (evalSs cf wf b) wf s
  | .forr t it b, s => (evalI cf it s).bind fun xs s1 => forLoop (fun d s2 => ofOpt (assign t d s2) fun s3 => evalSs cf wf b s3) xs s1
  | .ret e, s => (evalE cf e s).bind fun d s' => .ok (.ret d) s'
  | .retn, s => .ok (.ret .non) s
  | .rais c, s => .exc c s.sto
  | .expr e, s => (evalE cf e s).bind fun _ s' => .ok .nx s'
  | .brk, s => .ok .brk s
  | .cnt, s => .ok .cnt s
  | .pas, s => .ok .nx s
  | .tryT b i, s => match evalSs cf wf b s with
    | .exc c t => if c < 5 then .ok (.ret (errWord c)) { s with sto := t } else .bad
    | .ok f s' => .ok f s'
    | .bad => .bad
def evalSs (cf : CF) (wf : Nat) : PB → S → Out Fl
  | .nil, s => .ok .nx s
  | .cons a r, s => (evalS cf wf a s).bind fun f s' => match f with
    | .nx => evalSs cf wf r s'
    | f => .ok f s'
end
structure FDef where
  np : Nat
  nl : Nat
  body : PB
def runRes : Out Fl → Res
  | .ok .nx s => .ok .non s.sto
  | .ok (.ret d) s => .ok d s.sto
  | .exc c t => .exc c t
  | _ => .bad
/-- a call of the f-th def, at most n calls deep -/
def callF (F : List FDef) (wf : Nat) : Nat → CF
  | 0 => fun _ _ _ => .bad
  | n + 1 => fun f ds t => match F[f]? with
    | some d => if ds.length = d.np then runRes (evalSs (callF F wf n) wf d.body { loc := ds.map .val ++ List.replicate (d.nl - d.np) .unb, sto := t }) else .bad
    | none => .bad
end MP
end
section
set_option Elab.async false
set_option linter.all false
set_option maxRecDepth 100000
set_option maxHeartbeats 1000000
/-! MP: how data stand in the heap of the hand layer -/
namespace MP
open PySem PySem.Spec PyProof.Rows L2

/-- what is fixed: the written part, where the defs and the error classes stand -/
structure Gd where
  K : PySem.W.Frag
  fa : Nat → Addr
  ca : Nat → Addr
  mg : Str → Option Value
  cc : Nat → Addr

/-- the script -/
def ScrAt (K : PySem.W.Frag) (H : Hp) (a : Addr) (vs : List V) : Prop := (∃ o, H a = some (.frz o (.lst vs))) ∨ SqL K (fun _ => none) a vs
theorem ScrAt.sq {K : PySem.W.Frag} {H : Hp} {a : Addr} {vs : List V} (h : ScrAt K H a vs) : SqL K H a vs := by
  rcases h with ⟨o, h⟩ | h
  · exact .inl (.inr ⟨o, h⟩)
  · rcases h with (h | ⟨o, h⟩) | h
    · cases h
    · cases h
    · exact .inr h
mutual
inductive RepD (G : Gd) (as : List Addr) (fz : Addr → Prop) (H : Hp) : V → D → Prop
  | non : RepD G as fz H .non .non
  | bl (b : Bool) : RepD G as fz H (.bl b) (.bl b)
  | int (i : Int) : RepD G as fz H (.int i) (.int i)
  | str (x : Str) : RepD G as fz H (.str x) (.str x)
  | tup {a : Addr} {vs : List V} {ds : List D} : SqT G.K H a vs → RepL G as fz H vs ds → RepD G as fz H (.ref a) (.tup ds)
  | lst {a : Addr} {vs : List V} {ds : List D} : fz a → H a = some (.lst vs) → RepL G as fz H vs ds → RepD G as fz H (.ref a) (.lst ds)
  | fn (i : Nat) : RepD G as fz H (.ref (G.fa i)) (.fn i)
  | ref {i : Nat} {a : Addr} : as[i]? = some a → RepD G as fz H (.ref a) (.ref i)
  | scr {a : Addr} {ns : List Int} : ScrAt G.K H a (ns.map V.int) → ns.length ≤ 16777216 → RepD G as fz H (.ref a) (.scr ns)
inductive RepL (G : Gd) (as : List Addr) (fz : Addr → Prop) (H : Hp) : List V → List D → Prop
  | nil : RepL G as fz H [] []
  | cons {v : V} {d : D} {vs : List V} {ds : List D} : RepD G as fz H v d → RepL G as fz H vs ds → RepL G as fz H (v :: vs) (d :: ds)
end

/-- what an expression may do to the heap -/
structure Step (as : List Addr) (fz : Addr → Prop) (H : Hp) (as' : List Addr) (fz' : Addr → Prop) (H' : Hp) : Prop where
  fr : ∀ b o, H b = some o → b ∉ as → H' b = some o
  tups : ∀ b xs, H b = some (.tup xs) → H' b = some (.tup xs)
  frzs : ∀ b o u, H b = some (.frz o u) → H' b = some (.frz o u)
  fzs : ∀ b o, fz b → H b = some o → H' b = some o
  there : ∀ b, H b ≠ none → H' b ≠ none
  pre : ∃ r, as' = as ++ r
  newa : ∀ a, a ∈ as' → a ∈ as ∨ H a = none
  fzm : ∀ a, fz a → fz' a
section
variable {G : Gd} {as as' as'' : List Addr} {fz fz' fz'' : Addr → Prop} {H H' H'' : Hp}
theorem Step.refl : Step as fz H as fz H := ⟨fun _ _ e _ => e, fun _ _ e => e, fun _ _ _ e => e, fun _ _ _ e => e, fun _ e => e, ⟨[], by simp⟩, fun _ h => .inl h, fun _ h => h⟩
theorem Step.trans (x : Step as fz H as' fz' H') (y : Step as' fz' H' as'' fz'' H'') : Step as fz H as'' fz'' H'' where
  fr := fun b o e n => y.fr b o (x.fr b o e n) fun hb => (x.newa b hb).elim n fun z => by rw [z] at e; cases e
  tups := fun b xs e => y.tups b xs (x.tups b xs e)
  frzs := fun b o u e => y.frzs b o u (x.frzs b o u e)
  fzs := fun b o f e => y.fzs b o (x.fzm b f) (x.fzs b o f e)
  there := fun b e => y.there b (x.there b e)
  pre := by
    obtain ⟨r, e⟩ := x.pre
    obtain ⟨q, e'⟩ := y.pre
    exact ⟨r ++ q, by rw [e', e, List.append_assoc]⟩
  newa := fun a h => (y.newa a h).elim (x.newa a) fun z => .inr (by
    cases q : H a with
    | none => rfl
    | some o => exact absurd z (x.there a (by rw [q]; simp)))
  fzm := fun a h => y.fzm a (x.fzm a h)
theorem ScrAt.step {K : PySem.W.Frag} {a : Addr} {vs : List V} (h : ScrAt K H a vs) (x : Step as fz H as' fz' H') : ScrAt K H' a vs := by
  rcases h with ⟨o, h⟩ | h
  · exact .inl ⟨o, x.frzs _ _ _ h⟩
  · exact .inr h
theorem sqT_step {K : PySem.W.Frag} {a : Addr} {vs : List V} (h : SqT K H a vs) (x : Step as fz H as' fz' H') : SqT K H' a vs := by
  rcases h with (r | ⟨o, r⟩) | h
  · exact .inl (.inl (x.tups a _ r))
  · exact .inl (.inr ⟨o, x.frzs a _ _ r⟩)
  · exact .inr h
mutual
theorem RepD.step (x : Step as fz H as' fz' H') : ∀ (d : D) (v : V), RepD G as fz H v d → RepD G as' fz' H' v d
  | .non, _, h => by cases h; exact .non
  | .bl _, _, h => by cases h; exact .bl _
  | .int _, _, h => by cases h; exact .int _
  | .str _, _, h => by cases h; exact .str _
  | .tup ds, _, h => by
    cases h with
    | tup s r => exact .tup (sqT_step s x) (RepL.step x ds _ r)
  | .lst ds, _, h => by
    cases h with
    | lst f e r => exact .lst (x.fzm _ f) (x.fzs _ _ f e) (RepL.step x ds _ r)
  | .fn _, _, h => by cases h; exact .fn _
  | .ref i, _, h => by
    cases h with
    | ref e =>
      obtain ⟨r, q⟩ := x.pre
      refine .ref ?_
      rw [q, List.getElem?_append_left (List.getElem?_eq_some_iff.mp e).1]
      exact e
  | .scr ns, _, h => by
    cases h with
    | scr e l => exact .scr (e.step x) l
theorem RepL.step (x : Step as fz H as' fz' H') : ∀ (ds : List D) (vs : List V), RepL G as fz H vs ds → RepL G as' fz' H' vs ds
  | [], _, h => by cases h; exact .nil
  | d :: ds, _, h => by
    cases h with
    | cons a r => exact .cons (RepD.step x d _ a) (RepL.step x ds _ r)
end
theorem RepL.length : ∀ {ds : List D} {vs : List V}, RepL G as fz H vs ds → vs.length = ds.length
  | [], _, h => by cases h; rfl
  | d :: ds, _, h => by
    cases h with
    | cons a r => simp [RepL.length r]
theorem RepL.get : ∀ {ds : List D} {vs : List V} {i : Nat} {d : D}, RepL G as fz H vs ds → ds[i]? = some d → ∃ v, vs[i]? = some v ∧ RepD G as fz H v d
  | [], _, _, _, _, e => by simp at e
  | _ :: _, _, 0, _, h, e => by
    cases h with
    | cons a r =>
      simp at e
      subst e
      exact ⟨_, rfl, a⟩
  | _ :: _, _, i + 1, _, h, e => by
    cases h with
    | cons a r =>
      obtain ⟨v, e1, e2⟩ := RepL.get (i := i) r (by simpa using e)
      exact ⟨v, by simpa using e1, e2⟩
theorem RepL.append : ∀ {ds es : List D} {vs us : List V}, RepL G as fz H vs ds → RepL G as fz H us es → RepL G as fz H (vs ++ us) (ds ++ es)
  | [], _, _, _, h, k => by cases h; exact k
  | _ :: _, _, _, _, h, k => by
    cases h with
    | cons a r => exact .cons a (RepL.append r k)
theorem RepL.take (n : Nat) : ∀ {ds : List D} {vs : List V} {n : Nat}, RepL G as fz H vs ds → RepL G as fz H (vs.take n) (ds.take n)
  | _, _, 0, _ => .nil
  | [], _, n + 1, h => by cases h; exact .nil
  | _ :: _, _, n + 1, h => by
    cases h with
    | cons a r => exact .cons a (RepL.take n r)
theorem RepL.drop : ∀ {ds : List D} {vs : List V} {n : Nat}, RepL G as fz H vs ds → RepL G as fz H (vs.drop n) (ds.drop n)
  | _, _, 0, h => h
  | [], _, n + 1, h => by cases h; exact .nil
  | _ :: _, _, n + 1, h => by
    cases h with
    | cons a r => exact RepL.drop (n := n) r
theorem RepL.rev : ∀ {ds : List D} {vs : List V}, RepL G as fz H vs ds → RepL G as fz H vs.reverse ds.reverse
  | [], _, h => by cases h; exact .nil
  | _ :: _, _, h => by
    cases h with
    | cons a r =>
      rw [List.reverse_cons, List.reverse_cons]
      exact (RepL.rev r).append (.cons a .nil)
theorem RepL.set : ∀ {ds : List D} {vs : List V} {i : Nat} {v : V} {d : D}, RepL G as fz H vs ds → RepD G as fz H v d → RepL G as fz H (vs.set i v) (ds.set i d)
  | [], _, _, _, _, h, _ => by cases h; exact .nil
  | _ :: _, _, 0, _, _, h, k => by
    cases h with
    | cons a r => exact .cons k r
  | _ :: _, _, i + 1, _, _, h, k => by
    cases h with
    | cons a r => exact .cons a (RepL.set r k)
mutual
theorem RepD.dp : ∀ (d : D) (v : V), RepD G as fz H v d → d.flat = true → Dp G.K H v d.pd
  | .non, _, h, _ => by cases h; exact .non
  | .bl _, _, h, _ => by cases h; exact .bl _
  | .int _, _, h, _ => by cases h; exact .int _
  | .str _, _, h, _ => by cases h; exact .str _
  | .tup ds, _, h, f => by
    cases h with
    | tup s r =>
      rw [D.pd]
      exact .tup s (RepL.dp ds _ r (by simpa [D.flat] using f))
  | .lst ds, _, h, f => by
    cases h with
    | lst _ e r =>
      rw [D.pd]
      exact .lst (SqL.of e) (RepL.dp ds _ r (by simpa [D.flat] using f))
  | .fn _, _, _, f => by simp [D.flat] at f
  | .ref _, _, _, f => by simp [D.flat] at f
  | .scr _, _, _, f => by simp [D.flat] at f
theorem RepL.dp : ∀ (ds : List D) (vs : List V), RepL G as fz H vs ds → flatL ds = true → DpAll G.K H vs (pdL ds)
  | [], _, h, _ => by cases h; exact .nil
  | d :: ds, _, h, f => by
    cases h with
    | cons a r =>
      rw [flatL, Bool.and_eq_true] at f
      exact .cons (RepD.dp d _ a f.1) (RepL.dp ds _ r f.2)
end

/-- readable at this moment: a datum, or a list whoever holds it -/
inductive RepR (G : Gd) (as : List Addr) (fz : Addr → Prop) (H : Hp) : V → D → Prop
  | dat {v : V} {d : D} : RepD G as fz H v d → RepR G as fz H v d
  | lst {a : Addr} {vs : List V} {ds : List D} : H a = some (.lst vs) → RepL G as fz H vs ds → RepR G as fz H (.ref a) (.lst ds)
inductive RepRs (G : Gd) (as : List Addr) (fz : Addr → Prop) (H : Hp) : List V → List D → Prop
  | nil : RepRs G as fz H [] []
  | cons {v : V} {d : D} {vs : List V} {ds : List D} : RepR G as fz H v d → RepRs G as fz H vs ds → RepRs G as fz H (v :: vs) (d :: ds)
/-- an operand: a datum, or a list of this frame's own -/
inductive RepO (G : Gd) (as : List Addr) (fz : Addr → Prop) (H : Hp) : V → D → Prop
  | dat {v : V} {d : D} : RepD G as fz H v d → RepO G as fz H v d
  | lst {a : Addr} {vs : List V} {ds : List D} : a ∉ as → H a = some (.lst vs) → RepL G as fz H vs ds → RepO G as fz H (.ref a) (.lst ds)
inductive RepOs (G : Gd) (as : List Addr) (fz : Addr → Prop) (H : Hp) : List V → List D → Prop
  | nil : RepOs G as fz H [] []
  | cons {v : V} {d : D} {vs : List V} {ds : List D} : RepO G as fz H v d → RepOs G as fz H vs ds → RepOs G as fz H (v :: vs) (d :: ds)
theorem RepO.step {v : V} {d : D} (h : RepO G as fz H v d) (x : Step as fz H as' fz' H') : RepO G as' fz' H' v d := by
  cases h with
  | dat r => exact .dat (RepD.step x _ _ r)
  | lst n e r => exact .lst (fun z => (x.newa _ z).elim n fun q => by rw [q] at e; cases e) (x.fr _ _ e n) (RepL.step x _ _ r)
theorem RepOs.step {vs : List V} {ds : List D} (h : RepOs G as fz H vs ds) (x : Step as fz H as' fz' H') : RepOs G as' fz' H' vs ds := by
  induction h with
  | nil => exact .nil
  | cons a _ ih => exact .cons (a.step x) ih
theorem RepR.dp {v : V} {d : D} (h : RepR G as fz H v d) (f : d.flat = true) : Dp G.K H v d.pd := by
  cases h with
  | dat r => exact RepD.dp _ _ r f
  | lst s r =>
    rw [D.pd]
    exact .lst (SqL.of s) (RepL.dp _ _ r (by simpa [D.flat] using f))
theorem RepR.tup {v : V} {ds : List D} (h : RepR G as fz H v (.tup ds)) : ∃ a vs, v = .ref a ∧ SqT G.K H a vs ∧ RepL G as fz H vs ds := by
  cases h with
  | dat r =>
    cases r with
    | tup s r => exact ⟨_, _, rfl, s, r⟩
theorem RepR.lsts {v : V} {ds : List D} (h : RepR G as fz H v (.lst ds)) : ∃ a vs, v = .ref a ∧ H a = some (.lst vs) ∧ RepL G as fz H vs ds := by
  cases h with
  | dat r =>
    cases r with
    | lst _ s r => exact ⟨_, _, rfl, s, r⟩
  | lst s r => exact ⟨_, _, rfl, s, r⟩
theorem RepR.int {v : V} {i : Int} (h : RepR G as fz H v (.int i)) : v = .int i := by
  cases h with
  | dat r => cases r; rfl
theorem RepR.str {v : V} {i : Str} (h : RepR G as fz H v (.str i)) : v = .str i := by
  cases h with
  | dat r => cases r; rfl
theorem RepR.bl {v : V} {i : Bool} (h : RepR G as fz H v (.bl i)) : v = .bl i := by
  cases h with
  | dat r => cases r; rfl
end

section
variable {G : Gd} {as : List Addr} {fz : Addr → Prop} {H : Hp}
theorem RepR.scr {v : V} {ns : List Int} (h : RepR G as fz H v (.scr ns)) : ∃ a, v = .ref a ∧ SqL G.K H a (ns.map V.int) ∧ ns.length ≤ 16777216 := by
  cases h with
  | dat r =>
    cases r with
    | scr s l => exact ⟨_, rfl, s.sq, l⟩
theorem RepL.ints : ∀ {ns : List Int} {vs : List V}, RepL G as fz H vs (ns.map .int) → vs = ns.map V.int
  | [], _, h => by cases h; rfl
  | n :: ns, _, h => by
    cases h with
    | cons a r =>
      cases a
      rw [RepL.ints r]
      rfl
theorem RepL.of_ints : ∀ (ns : List Int), RepL G as fz H (ns.map V.int) (ns.map .int)
  | [] => .nil
  | n :: ns => .cons (.int n) (RepL.of_ints ns)
theorem RepL.bools : ∀ {ns : List Bool} {vs : List V}, RepL G as fz H vs (ns.map .bl) → vs = ns.map V.bl
  | [], _, h => by cases h; rfl
  | n :: ns, _, h => by
    cases h with
    | cons a r =>
      cases a
      rw [RepL.bools r]
      rfl
theorem RepL.strs : ∀ {ns : List Str} {vs : List V}, RepL G as fz H vs (ns.map .str) → vs = ns.map V.str
  | [], _, h => by cases h; rfl
  | n :: ns, _, h => by
    cases h with
    | cons a r =>
      cases a
      rw [RepL.strs r]
      rfl
theorem intsOf_some : ∀ {xs : List D} {ns : List Int}, intsOf xs = some ns → xs = ns.map .int
  | [], _, h => by cases h; rfl
  | .int i :: r, _, h => by
    cases e : intsOf r with
    | none => simp [intsOf, e] at h
    | some ms =>
      simp only [intsOf, e, Option.map_some, Option.some.injEq] at h
      subst h
      rw [intsOf_some e]
      rfl
  | .non :: _, _, h => by simp [intsOf] at h
  | .bl _ :: _, _, h => by simp [intsOf] at h
  | .str _ :: _, _, h => by simp [intsOf] at h
  | .tup _ :: _, _, h => by simp [intsOf] at h
  | .lst _ :: _, _, h => by simp [intsOf] at h
  | .fn _ :: _, _, h => by simp [intsOf] at h
  | .ref _ :: _, _, h => by simp [intsOf] at h
  | .scr _ :: _, _, h => by simp [intsOf] at h
theorem boolsOf_some : ∀ {xs : List D} {ns : List Bool}, boolsOf xs = some ns → xs = ns.map .bl
  | [], _, h => by cases h; rfl
  | .bl i :: r, _, h => by
    cases e : boolsOf r with
    | none => simp [boolsOf, e] at h
    | some ms =>
      simp only [boolsOf, e, Option.map_some, Option.some.injEq] at h
      subst h
      rw [boolsOf_some e]
      rfl
  | .non :: _, _, h => by simp [boolsOf] at h
  | .int _ :: _, _, h => by simp [boolsOf] at h
  | .str _ :: _, _, h => by simp [boolsOf] at h
  | .tup _ :: _, _, h => by simp [boolsOf] at h
  | .lst _ :: _, _, h => by simp [boolsOf] at h
  | .fn _ :: _, _, h => by simp [boolsOf] at h
  | .ref _ :: _, _, h => by simp [boolsOf] at h
  | .scr _ :: _, _, h => by simp [boolsOf] at h
theorem strsOf_some : ∀ {xs : List D} {ns : List Str}, strsOf xs = some ns → xs = ns.map .str
  | [], _, h => by cases h; rfl
  | .str i :: r, _, h => by
    cases e : strsOf r with
    | none => simp [strsOf, e] at h
    | some ms =>
      simp only [strsOf, e, Option.map_some, Option.some.injEq] at h
      subst h
      rw [strsOf_some e]
      rfl
  | .non :: _, _, h => by simp [strsOf] at h
  | .int _ :: _, _, h => by simp [strsOf] at h
  | .bl _ :: _, _, h => by simp [strsOf] at h
  | .tup _ :: _, _, h => by simp [strsOf] at h
  | .lst _ :: _, _, h => by simp [strsOf] at h
  | .fn _ :: _, _, h => by simp [strsOf] at h
  | .ref _ :: _, _, h => by simp [strsOf] at h
  | .scr _ :: _, _, h => by simp [strsOf] at h
end
/-! ### the store, the frame -/
def Shape (G : Gd) : Cell → HO → List V → Prop
  | .lst _, o, vs => o = .lst vs
  | .ins c ks xs, o, vs => ks.length = xs.length ∧ ∃ dx, o = .ins (G.cc c) dx (ks.zip vs)
  | .dK ks xs, o, vs => ks.length = xs.length ∧ o = .dK (ks.zip vs)
  | .dT ks xs, o, vs => ks.length = xs.length ∧ o = .dT (ks.zip vs)
  | .tup _, o, vs => o = .tup vs
/-- what may be written -/
def Mut : HO → Prop
  | .tup _ => False
  | .frz _ _ => False
  | _ => True
theorem Shape.mu {G : Gd} {c : Cell} {o : HO} {vs : List V} (h : Shape G c o vs) (hm : c.mut = true) : Mut o := by
  cases c with
  | tup xs => cases hm
  | lst xs => cases h; trivial
  | ins c ks xs => obtain ⟨_, dx, rfl⟩ := h; trivial
  | dK ks xs => obtain ⟨_, rfl⟩ := h; trivial
  | dT ks xs => obtain ⟨_, rfl⟩ := h; trivial
def CellAt (G : Gd) (as : List Addr) (fz : Addr → Prop) (H : Hp) (a : Addr) (c : Cell) : Prop := ∃ o vs, H a = some o ∧ Shape G c o vs ∧ RepL G as fz H vs c.ds
theorem CellAt.lst {G : Gd} {as : List Addr} {fz : Addr → Prop} {H : Hp} {a : Addr} {xs : List D} (h : CellAt G as fz H a (.lst xs)) : ∃ vs, H a = some (.lst vs) ∧ RepL G as fz H vs xs := by
  obtain ⟨o, vs, e, rfl, r⟩ := h
  exact ⟨vs, e, r⟩
structure SimC (G : Gd) (t : Sto) (as : List Addr) (fz : Addr → Prop) (H : Hp) : Prop where
  nd : as.Nodup
  len : as.length = t.length
  at_ : ∀ (i : Nat) (c : Cell) (a : Addr), t[i]? = some c → as[i]? = some a → CellAt G as fz H a c
  frz : ∀ a, fz a → a ∉ as ∧ H a ≠ none
/-- how it was at the def's entry -/
structure Base where
  H0 : Hp
  as0 : List Addr
  fz0 : Addr → Prop
structure SimB (B : Base) (as : List Addr) (fz : Addr → Prop) (H : Hp) : Prop where
  fr : ∀ b o, B.H0 b = some o → b ∉ B.as0 → H b = some o
  tups : ∀ b xs, B.H0 b = some (.tup xs) → H b = some (.tup xs)
  frzs : ∀ b o u, B.H0 b = some (.frz o u) → H b = some (.frz o u)
  fzs : ∀ b o, B.fz0 b → B.H0 b = some o → H b = some o
  there : ∀ b, B.H0 b ≠ none → H b ≠ none
  pre : ∃ r, as = B.as0 ++ r
  newa : ∀ a, a ∈ as → a ∈ B.as0 ∨ B.H0 a = none
  fzm : ∀ a, B.fz0 a → fz a
  newf : ∀ a, fz a → B.fz0 a ∨ B.H0 a = none
structure SimL (G : Gd) (B : Base) (loc : List Slot) (as : List Addr) (fz : Addr → Prop) (σ : L2.St) (H : Hp) : Prop where
  len : σ.length = loc.length
  val : ∀ (i : Nat) (d : D), loc[i]? = some (.val d) → ∃ v, σ[i]? = some (some v) ∧ RepD G as fz H v d
  own : ∀ (i : Nat) (ds : List D), loc[i]? = some (.own ds) → ∃ a vs, σ[i]? = some (some (.ref a)) ∧ H a = some (.lst vs) ∧ RepL G as fz H vs ds ∧ ¬ fz a ∧ a ∉ as ∧ B.H0 a = none
  dist : ∀ (i j : Nat) (ds es : List D) (a : Addr), i ≠ j → loc[i]? = some (.own ds) → loc[j]? = some (.own es) → σ[i]? = some (some (.ref a)) → σ[j]? ≠ some (some (.ref a))
structure Sim (G : Gd) (B : Base) (st : S) (as : List Addr) (fz : Addr → Prop) (σ : L2.St) (H : Hp) : Prop where
  c : SimC G st.sto as fz H
  b : SimB B as fz H
  l : SimL G B st.loc as fz σ H
end MP
end
section
set_option Elab.async false
set_option linter.all false
set_option maxRecDepth 100000
set_option maxHeartbeats 2000000
/-! MP: the primitives are what the machine does -/
namespace MP
open PySem PySem.Spec PyProof.Rows L2

/-- what a primitive hands back: something that stands; a new tuple; a new list -/
def ResR (G : Gd) (as : List Addr) (fz : Addr → Prop) (H : Hp) (v : V) (r : D) (H' : Hp) : Prop :=
  (H' = H ∧ RepD G as fz H v r) ∨ (∃ p vs ds, H p = none ∧ v = .ref p ∧ H' = upd H p (.tup vs) ∧ r = .tup ds ∧ RepL G as fz H vs ds) ∨
    ∃ p vs ds, H p = none ∧ v = .ref p ∧ H' = upd H p (.lst vs) ∧ r = .lst ds ∧ RepL G as fz H vs ds
def rP1 (G : Gd) (p : Prim) : V → Hp → VK → Prop := fun x H Q => ∃ as fz d r, RepR G as fz H x d ∧ prim p [d] = some r ∧ ∀ v H', ResR G as fz H v r H' → Q v H'
def rP2 (G : Gd) (p : Prim) : R2 := fun x y H Q => ∃ as fz d e r, RepR G as fz H x d ∧ RepR G as fz H y e ∧ prim p [d, e] = some r ∧ ∀ v H', ResR G as fz H v r H' → Q v H'
def rPL (G : Gd) (p : Prim) : List V → Hp → VK → Prop := fun xs H Q => ∃ as fz ds r, RepRs G as fz H xs ds ∧ prim p ds = some r ∧ ∀ v H', ResR G as fz H v r H' → Q v H'

section
variable {X : Cx} {G : Gd} {as : List Addr} {fz : Addr → Prop} {H : Hp} {Q : VK}
theorem ResR.here {v : V} {r : D} (h : RepD G as fz H v r) : ResR G as fz H v r H := .inl ⟨rfl, h⟩
theorem ResR.ntup {p : Addr} {vs : List V} {ds : List D} (n : H p = none) (h : RepL G as fz H vs ds) : ResR G as fz H (.ref p) (.tup ds) (upd H p (.tup vs)) := .inr (.inl ⟨p, vs, ds, n, rfl, rfl, rfl, h⟩)
theorem ResR.nlst {p : Addr} {vs : List V} {ds : List D} (n : H p = none) (h : RepL G as fz H vs ds) : ResR G as fz H (.ref p) (.lst ds) (upd H p (.lst vs)) := .inr (.inr ⟨p, vs, ds, n, rfl, rfl, rfl, h⟩)
theorem sl_line : sizeLine = 16777216 := by decide

/-! ### arithmetic -/
theorem o_add (hK : G.K = X.K) : OpR X (binaryOp .Add) (rP2 G .add) := by
  intro pins s σ H x y v u Q I rx ry ⟨as, fz, d, e, r, hd, he, hp, q⟩
  simp only [prim] at hp
  unfold p_add at hp
  split at hp
  · rename_i i j h; cases h; cases hp
    obtain rfl := hd.int; obtain rfl := he.int
    exact op_add pins s σ H _ _ v u Q I rx ry ⟨_, _, rfl, rfl, q _ _ (.here (.int _))⟩
  · rename_i i j h; cases h
    obtain rfl := hd.str; obtain rfl := he.str
    split at hp
    · rename_i hl; cases hp
      exact op_add_str pins s σ H _ _ v u Q I rx ry ⟨_, _, rfl, rfl, hl, q _ _ (.here (.str _))⟩
    · cases hp
  · rename_i i j h; cases h
    obtain ⟨a, vs, rfl, ha, r1⟩ := hd.tup; obtain ⟨b, us, rfl, hb, r2⟩ := he.tup
    split at hp
    · rename_i hl; cases hp
      have l1 := r1.length; have l2 := r2.length
      refine op_catA pins s σ H _ _ v u Q I rx ry ⟨a, b, vs, us, rfl, rfl, hK ▸ ha, hK ▸ hb, by rw [sl_line]; omega, fun e => ?_, fun e1 e => ?_, fun e1 e2 p hn => ?_⟩
      · subst e
        cases r1
        exact q _ _ (.here (.tup hb r2))
      · subst e
        cases r2
        rw [List.append_nil] at q
        exact q _ _ (.here (.tup ha r1))
      · exact q _ _ (.ntup hn (r1.append r2))
    · cases hp
  · rename_i i j h; cases h
    obtain ⟨a, vs, rfl, ha, r1⟩ := hd.lsts; obtain ⟨b, us, rfl, hb, r2⟩ := he.lsts
    split at hp
    · rename_i hl; cases hp
      have l1 := r1.length; have l2 := r2.length
      exact op_cat pins s σ H _ _ v u Q I rx ry ⟨a, b, vs, us, rfl, rfl, ha, hb, by rw [sl_line]; omega, fun p hn => q _ _ (.nlst hn (r1.append r2))⟩
    · cases hp
  · cases hp
theorem o_sub (hK : G.K = X.K) : OpR X (binaryOp .Sub) (rP2 G .sub) := by
  intro pins s σ H x y v u Q I rx ry ⟨as, fz, d, e, r, hd, he, hp, q⟩
  simp only [prim] at hp
  unfold p_sub at hp
  split at hp
  · rename_i i j h; cases h; cases hp
    obtain rfl := hd.int; obtain rfl := he.int
    exact op_sub pins s σ H _ _ v u Q I rx ry ⟨_, _, rfl, rfl, q _ _ (.here (.int _))⟩
  · cases hp
theorem RepL.rep {ds : List D} {vs : List V} (h : RepL G as fz H vs ds) : ∀ k : Nat, RepL G as fz H (List.replicate k vs).flatten (List.replicate k ds).flatten
  | 0 => .nil
  | k + 1 => by
    rw [List.replicate_succ, List.replicate_succ, List.flatten_cons, List.flatten_cons]
    exact h.append (RepL.rep h k)
theorem mulOk_ok {i j : Int} (h : mulOk i j = true) : CMulW i j := by
  have h' : i.natAbs.log2 + j.natAbs.log2 < 1000000 := of_decide_eq_true h
  exact h'
theorem o_mul (hK : G.K = X.K) : OpR X (binaryOp .Mult) (rP2 G .mul) := by
  intro pins s σ H x y v u Q I rx ry ⟨as, fz, d, e, r, hd, he, hp, q⟩
  simp only [prim] at hp
  unfold p_mul at hp
  split at hp
  · rename_i i j h; cases h
    obtain rfl := hd.int; obtain rfl := he.int
    split at hp
    · rename_i hm; cases hp
      exact op_mulW pins s σ H _ _ v u Q I rx ry ⟨_, _, rfl, rfl, mulOk_ok hm, q _ _ (.here (.int _))⟩
    · cases hp
  · rename_i i j h; cases h
    obtain ⟨a, vs, rfl, ha, r1⟩ := hd.tup; obtain rfl := he.int
    split at hp
    · rename_i hm; cases hp
      have l1 := r1.length
      exact op_repT pins s σ H _ _ v u Q I rx ry ⟨a, _, vs, rfl, rfl, hK ▸ ha, by intro z; rw [z] at l1; simp at l1; omega, hm.2.1, hm.2.2, by omega, fun p hn => q _ _ (.ntup hn (r1.rep _))⟩
    · cases hp
  · rename_i i j h; cases h
    obtain ⟨a, vs, rfl, ha, r1⟩ := hd.lsts; obtain rfl := he.int
    split at hp
    · rename_i hm; cases hp
      have l1 := r1.length
      refine op_rep pins s σ H _ _ v u Q I rx ry ⟨a, _, vs, rfl, rfl, ha, by omega, by omega, ?_, fun p hn => q _ _ (.nlst hn (r1.rep _))⟩
      rw [sl_line]
      exact Nat.le_trans (Nat.mul_le_mul (show vs.length ≤ 1000 by omega) (show Int.toNat _ ≤ 1000 by omega)) (by decide)
    · cases hp
  · cases hp
theorem o_fdiv (hK : G.K = X.K) : OpR X (binaryOp .FloorDiv) (rP2 G .fdiv) := by
  intro pins s σ H x y v u Q I rx ry ⟨as, fz, d, e, r, hd, he, hp, q⟩
  simp only [prim] at hp
  unfold p_fdiv at hp
  split at hp
  · rename_i i j h; cases h
    obtain rfl := hd.int; obtain rfl := he.int
    split at hp
    · rename_i hm; cases hp
      rw [divOk, Bool.and_eq_true] at hm
      exact op_fdivW pins s σ H _ _ v u Q I rx ry ⟨_, _, rfl, rfl, ⟨of_decide_eq_true hm.1, of_decide_eq_true hm.2⟩, q _ _ (.here (.int _))⟩
    · cases hp
  · cases hp
theorem o_mod (hK : G.K = X.K) : OpR X (binaryOp .Mod) (rP2 G .mod) := by
  intro pins s σ H x y v u Q I rx ry ⟨as, fz, d, e, r, hd, he, hp, q⟩
  simp only [prim] at hp
  unfold p_mod at hp
  split at hp
  · rename_i i j h; cases h
    obtain rfl := hd.int; obtain rfl := he.int
    split at hp
    · rename_i hm; cases hp
      exact op_mod pins s σ H _ _ v u Q I rx ry ⟨_, _, rfl, rfl, hm, q _ _ (.here (.int _))⟩
    · cases hp
  · cases hp
theorem o_pow (hK : G.K = X.K) : OpR X (binaryOp .Pow) (rP2 G .pow) := by
  intro pins s σ H x y v u Q I rx ry ⟨as, fz, d, e, r, hd, he, hp, q⟩
  simp only [prim] at hp
  unfold p_pow at hp
  split at hp
  · rename_i i j h; cases h
    obtain rfl := hd.int; obtain rfl := he.int
    split at hp
    · rename_i hm; cases hp
      exact op_pow pins s σ H _ _ v u Q I rx ry ⟨_, _, rfl, rfl, ⟨hm.1, by omega, hm.2.2⟩, q _ _ (.here (.int _))⟩
    · cases hp
  · cases hp
theorem o_shl (hK : G.K = X.K) : OpR X (binaryOp .LShift) (rP2 G .shl) := by
  intro pins s σ H x y v u Q I rx ry ⟨as, fz, d, e, r, hd, he, hp, q⟩
  simp only [prim] at hp
  unfold p_shl at hp
  split at hp
  · rename_i i j h; cases h
    obtain rfl := hd.int; obtain rfl := he.int
    split at hp
    · rename_i hm; cases hp
      exact op_shl pins s σ H _ _ v u Q I rx ry ⟨_, _, rfl, rfl, ⟨hm.1, by omega, hm.2.2⟩, q _ _ (.here (.int _))⟩
    · cases hp
  · cases hp
theorem o_neg (hK : G.K = X.K) : UnR X (unaryOp .USub) (rP1 G .neg) := by
  intro pins s σ H x v Q I rx ⟨as, fz, d, r, hd, hp, q⟩
  simp only [prim] at hp
  unfold p_neg at hp
  split at hp
  · rename_i i h; cases h; cases hp
    obtain rfl := hd.int
    exact un_neg pins s σ H _ v Q I rx ⟨_, rfl, q _ _ (.here (.int _))⟩
  · cases hp
/-! ### comparisons -/
theorem Dp.of2 (hK : G.K = X.K) {x : V} {d : D} (h : RepR G as fz H x d) (f : d.flat = true) : Dp X.K H x d.pd := hK ▸ h.dp f
theorem o_eq (hK : G.K = X.K) (hu : X.A.units + 65 < cLine) : OpR X (compareOp .Eq) (rP2 G .eq) := by
  intro pins s σ H x y v u Q I rx ry ⟨as, fz, d, e, r, hd, he, hp, q⟩
  simp only [prim, p_eq] at hp
  split at hp
  · rename_i hm; cases hp
    simp only [eqOk, Bool.and_eq_true] at hm
    exact op_eqD (by omega) pins s σ H _ _ v u Q I rx ry ⟨d.pd, e.pd, Dp.of2 hK hd hm.1.1.1, Dp.of2 hK he hm.1.1.2, hm.1.2, hm.2, q _ _ (.here (.bl _))⟩
  · cases hp
theorem o_ne (hK : G.K = X.K) (hu : X.A.units + 65 < cLine) : OpR X (compareOp .NotEq) (rP2 G .ne) := by
  intro pins s σ H x y v u Q I rx ry ⟨as, fz, d, e, r, hd, he, hp, q⟩
  simp only [prim, p_ne] at hp
  split at hp
  · rename_i hm; cases hp
    simp only [eqOk, Bool.and_eq_true] at hm
    exact op_neD (by omega) pins s σ H _ _ v u Q I rx ry ⟨d.pd, e.pd, Dp.of2 hK hd hm.1.1.1, Dp.of2 hK he hm.1.1.2, hm.1.2, hm.2, q _ _ (.here (.bl _))⟩
  · cases hp
theorem o_le (hK : G.K = X.K) : OpR X (compareOp .LtE) (rP2 G .le) := by
  intro pins s σ H x y v u Q I rx ry ⟨as, fz, d, e, r, hd, he, hp, q⟩
  simp only [prim] at hp
  unfold p_le at hp
  split at hp
  · rename_i i j h; cases h; cases hp
    obtain rfl := hd.int; obtain rfl := he.int
    exact op_le pins s σ H _ _ v u Q I rx ry ⟨_, _, rfl, rfl, q _ _ (.here (.bl _))⟩
  · cases hp
theorem o_gt (hK : G.K = X.K) : OpR X (compareOp .Gt) (rP2 G .gt) := by
  intro pins s σ H x y v u Q I rx ry ⟨as, fz, d, e, r, hd, he, hp, q⟩
  simp only [prim] at hp
  unfold p_gt at hp
  split at hp
  · rename_i i j h; cases h; cases hp
    obtain rfl := hd.int; obtain rfl := he.int
    exact op_gt pins s σ H _ _ v u Q I rx ry ⟨_, _, rfl, rfl, q _ _ (.here (.bl _))⟩
  · cases hp
theorem o_ge (hK : G.K = X.K) : OpR X (compareOp .GtE) (rP2 G .ge) := by
  intro pins s σ H x y v u Q I rx ry ⟨as, fz, d, e, r, hd, he, hp, q⟩
  simp only [prim] at hp
  unfold p_ge at hp
  split at hp
  · rename_i i j h; cases h; cases hp
    obtain rfl := hd.int; obtain rfl := he.int
    exact op_ge pins s σ H _ _ v u Q I rx ry ⟨_, _, rfl, rfl, q _ _ (.here (.bl _))⟩
  · cases hp
theorem o_lt (hK : G.K = X.K) (hu : X.A.units + 65 < cLine) : OpR X (compareOp .Lt) (rP2 G .lt) := by
  intro pins s σ H x y v u Q I rx ry ⟨as, fz, d, e, r, hd, he, hp, q⟩
  simp only [prim] at hp
  unfold p_lt at hp
  split at hp
  · rename_i i j h; cases h; cases hp
    obtain rfl := hd.int; obtain rfl := he.int
    exact op_lt pins s σ H _ _ v u Q I rx ry ⟨_, _, rfl, rfl, q _ _ (.here (.bl _))⟩
  · rename_i i j h; cases h; cases hp
    obtain rfl := hd.str; obtain rfl := he.str
    exact op_lt_str pins s σ H _ _ v u Q I rx ry ⟨_, _, rfl, rfl, q _ _ (.here (.bl _))⟩
  · rename_i i j h; cases h
    split at hp
    · rename_i hm; cases hp
      simp only [ltOk, Bool.and_eq_true, decide_eq_true_eq] at hm
      obtain ⟨as1, r1⟩ := Dp.reads I _ x v (Dp.of2 hK hd hm.1.1.1.1) rx
      obtain ⟨as2, r2⟩ := Dp.reads I _ y u (Dp.of2 hK he hm.1.1.1.2) ry
      have lt := PySem.W.rcLt_alike _ _ X.A s v u _ _ r1 r2 hm.1.1.2 (by rw [D.pd]; intro z; cases z) (by
        have h2 : min (D.tup i).pd.depth (D.tup j).pd.depth ≤ (D.tup i).pd.depth := Nat.min_le_left _ _
        omega)
      exact lt X.prog X.w X.xe (EP X pins σ Q) ⟨.bl _, H, I, rfl, q _ _ (.here (.bl _))⟩
    · cases hp
  · cases hp
end
end MP
end
section
set_option Elab.async false
set_option linter.all false
set_option maxRecDepth 100000
set_option maxHeartbeats 2000000
/-! MP: the primitives, further -/
namespace MP
open PySem PySem.Spec PyProof.Rows L2
section
variable {X : Cx} {G : Gd} {as : List Addr} {fz : Addr → Prop} {H : Hp} {Q : VK}
theorem pd_lst (xs : List D) : (D.lst xs).pd = .list (pdL xs) := by rw [D.pd]
theorem pd_tup (xs : List D) : (D.tup xs).pd = .tuple (pdL xs) := by rw [D.pd]
theorem any_pd (x : D) : ∀ xs : List D, ((pdL xs).any fun z => PyData.eqv z x.pd) = inD x xs
  | [] => by simp [pdL, inD]
  | y :: ys => by
    have h := any_pd x ys
    simp only [pdL, inD, List.any_cons, eqD] at h ⊢
    rw [h]
theorem shaped_lst_tup {ds : List PyData} (h : SeqAt.shaped (.list ds) = true) : SeqAt.shaped (.tuple ds) = true := h
theorem in_seq {x : V} {d : D} {y : V} {xs : List D} (hd : RepR G as fz H x d) (hK : G.K = X.K) (hu : X.A.units + 65 < cLine) (hok : inOk d xs = true) {pins s σ v u} (I : Inv X pins σ H s) (rx : RelV x v) (ry : RelV y u)
    (he : (∃ a vs, y = .ref a ∧ SqT G.K H a vs ∧ RepL G as fz H vs xs) ∨ (∃ a vs, y = .ref a ∧ H a = some (.lst vs) ∧ RepL G as fz H vs xs)) {R : Value → Shared → Prop} :
    (R (.bool (inD d xs)) s → wpAny (model X.prog X.w) X.A (compareOp .In v u) R X.xe s) ∧ (R (.bool (!inD d xs)) s → wpAny (model X.prog X.w) X.A (compareOp .NotIn v u) R X.xe s) := by
  simp only [inOk, eqOk, Bool.and_eq_true] at hok
  obtain ⟨⟨⟨f1, f2⟩, s1⟩, s2⟩ := hok
  rw [pd_lst] at s2
  have f2' : flatL xs = true := by simpa [D.flat] using f2
  obtain ⟨bs, r1⟩ := Dp.reads I _ x v (Dp.of2 hK hd f1) rx
  have room := room_in_shaped (xs := pdL xs) s1 hu
  rw [← any_pd]
  rcases he with ⟨a, vs, rfl, ha, r⟩ | ⟨a, vs, rfl, ha, r⟩
  · obtain ⟨cs, r2⟩ := Dp.reads I (.tuple (pdL xs)) _ u (.tup (hK ▸ ha) (hK ▸ RepL.dp _ _ r f2')) ry
    exact ⟨fun q => SeqAt.in_tuple_reads r2 r1 (SeqAt.canLay_of_shaped (d := .tuple (pdL xs)) s2) (SeqAt.canLay_of_shaped s1) room q, fun q => SeqAt.notIn_tuple_reads r2 r1 (SeqAt.canLay_of_shaped (d := .tuple (pdL xs)) s2) (SeqAt.canLay_of_shaped s1) room q⟩
  · obtain ⟨cs, r2⟩ := Dp.reads I (.list (pdL xs)) _ u (.lst (SqL.of ha) (hK ▸ RepL.dp _ _ r f2')) ry
    exact ⟨fun q => SeqAt.in_list_reads r2 r1 (SeqAt.canLay_of_shaped s2) (SeqAt.canLay_of_shaped s1) room q, fun q => SeqAt.notIn_list_reads r2 r1 (SeqAt.canLay_of_shaped s2) (SeqAt.canLay_of_shaped s1) room q⟩
theorem one_sign {x : Str} (h : x.cps.size = 1) : x = ⟨#[x.cps.getD 0 0]⟩ := by
  obtain ⟨⟨l⟩⟩ := x
  match l, h with
  | [c], _ => rfl
theorem o_in (hK : G.K = X.K) (hu : X.A.units + 65 < cLine) : OpR X (compareOp .In) (rP2 G .isIn) := by
  intro pins s σ H x y v u Q I rx ry ⟨as, fz, d, e, r, hd, he, hp, q⟩
  simp only [prim] at hp
  unfold p_isIn at hp
  split at hp
  · rename_i i j h; cases h
    obtain rfl := hd.str; obtain rfl := he.str
    split at hp
    · rename_i hm; cases hp
      exact op_in_sign pins s σ H _ _ v u Q I rx ry ⟨_, _, by rw [← one_sign hm], rfl, q _ _ (.here (.bl _))⟩
    · cases hp
  · rename_i i j h; cases h
    split at hp
    · rename_i hm; cases hp
      exact (in_seq hd hK hu hm I rx ry (.inl he.tup)).1 ⟨.bl _, H, I, rfl, q _ _ (.here (.bl _))⟩
    · cases hp
  · rename_i i j h; cases h
    split at hp
    · rename_i hm; cases hp
      exact (in_seq hd hK hu hm I rx ry (.inr he.lsts)).1 ⟨.bl _, H, I, rfl, q _ _ (.here (.bl _))⟩
    · cases hp
  · cases hp
theorem o_notIn (hK : G.K = X.K) (hu : X.A.units + 65 < cLine) : OpR X (compareOp .NotIn) (rP2 G .notIn) := by
  intro pins s σ H x y v u Q I rx ry ⟨as, fz, d, e, r, hd, he, hp, q⟩
  simp only [prim] at hp
  unfold p_notIn at hp
  split at hp
  · rename_i i j h; cases h
    obtain rfl := hd.str; obtain rfl := he.str
    split at hp
    · rename_i hm; cases hp
      exact op_notIn_sign pins s σ H _ _ v u Q I rx ry ⟨_, _, by rw [← one_sign hm], rfl, q _ _ (.here (.bl _))⟩
    · cases hp
  · rename_i i j h; cases h
    split at hp
    · rename_i hm; cases hp
      exact (in_seq hd hK hu hm I rx ry (.inl he.tup)).2 ⟨.bl _, H, I, rfl, q _ _ (.here (.bl _))⟩
    · cases hp
  · rename_i i j h; cases h
    split at hp
    · rename_i hm; cases hp
      exact (in_seq hd hK hu hm I rx ry (.inr he.lsts)).2 ⟨.bl _, H, I, rfl, q _ _ (.here (.bl _))⟩
    · cases hp
  · cases hp
theorem RepR.isNon {v : V} {d : D} (h : RepR G as fz H v d) : decide (v = .non) = !notNone d := by
  cases h with
  | dat r => cases r <;> rfl
  | lst e r => rfl
theorem o_isN : OpR X (compareOp .Is) (fun x y H Q => ∃ as fz d, RepR G as fz H x d ∧ y = .non ∧ ∀ v, RepD G as fz H v (.bl (!notNone d)) → Q v H) := by
  intro pins s σ H x y v u Q I rx ry ⟨as, fz, d, hd, hy, q⟩
  refine op_isN pins s σ H x y v u Q I rx ry ⟨hy, q _ ?_⟩
  rw [hd.isNon]
  exact .bl _
theorem o_notN : OpR X (compareOp .IsNot) (fun x y H Q => ∃ as fz d, RepR G as fz H x d ∧ y = .non ∧ ∀ v, RepD G as fz H v (.bl (notNone d)) → Q v H) := by
  intro pins s σ H x y v u Q I rx ry ⟨as, fz, d, hd, hy, q⟩
  refine op_notN pins s σ H x y v u Q I rx ry ⟨hy, q _ ?_⟩
  rw [hd.isNon, Bool.not_not]
  exact .bl _

/-! ### subscripts -/
theorem atI_rep {ds : List D} {vs : List V} {i : Int} {d : D} (h : RepL G as fz H vs ds) (e : L2.atI ds i = some d) : ∃ v, L2.atI vs i = some v ∧ RepD G as fz H v d := by
  unfold L2.atI at e ⊢
  rw [h.length]
  cases k : ixN ds.length i with
  | none => rw [k] at e; cases e
  | some j =>
    rw [k] at e
    exact h.get e
theorem o_item (hK : G.K = X.K) : IxR X (rP2 G .item) := by
  intro value slice pins s σ H x y v u Q I rx ry ⟨as, fz, d, e, r, hd, he, hp, q⟩ hs
  simp only [prim] at hp
  unfold p_item at hp
  split at hp
  · rename_i i j h; cases h
    obtain ⟨a, vs, rfl, ha, r1⟩ := hd.tup; obtain rfl := he.int
    obtain ⟨w, hw, rw'⟩ := atI_rep r1 hp
    exact ix_tup value slice pins s σ H _ _ v u Q I rx ry ⟨a, vs, _, w, rfl, rfl, hK ▸ ha, hw, q _ _ (.here rw')⟩ hs
  · rename_i i j h; cases h
    obtain ⟨a, vs, rfl, ha, r1⟩ := hd.lsts; obtain rfl := he.int
    obtain ⟨w, hw, rw'⟩ := atI_rep r1 hp
    exact ix_list value slice pins s σ H _ _ v u Q I rx ry ⟨a, vs, _, w, rfl, rfl, SqL.of ha, hw, q _ _ (.here rw')⟩ hs
  · rename_i i j h; cases h
    obtain rfl := hd.str; obtain rfl := he.int
    unfold oneSign at hp
    split at hp
    · rename_i hl
      cases e : L2.atI i.cps.toList j with
      | none => rw [e] at hp; cases hp
      | some c =>
        rw [e] at hp
        cases hp
        exact ix_str value slice pins s σ H _ _ v u Q I rx ry ⟨i, j, c, rfl, rfl, hl, e, q _ _ (.here (.str _))⟩ hs
    · cases hp
  · cases hp
theorem RepL.cut {ds : List D} {vs : List V} (h : RepL G as fz H vs ds) (lo hi : Option Int) : RepL G as fz H (cutV vs lo hi) (MP.cut ds lo hi) := by
  unfold cutV MP.cut
  rw [h.length]
  exact RepL.take 0 h.drop
/-- a slice by its bounds -/
def slD (d : D) (lo hi : Option Int) : Option D :=
  match d with
  | .tup x => some (.tup (cut x lo hi))
  | .lst x => some (.lst (cut x lo hi))
  | .scr x => some (.lst (cut (x.map .int) lo hi))
  | .str x => cutStr x lo hi
  | _ => none
theorem cut_whole {α : Type} {xs : List α} {lo hi : Option Int} (h : HT.sIx xs.length 0 lo = 0 ∧ HT.sIx xs.length xs.length hi = xs.length) : cut xs lo hi = xs := by
  unfold cut
  rw [h.1, h.2]
  simp
theorem o_slice (hK : G.K = X.K) : SlR X (fun x lo hi H Q => ∃ as fz d r, RepR G as fz H x d ∧ slD d lo hi = some r ∧ ∀ v H', ResR G as fz H v r H' → Q v H') := by
  intro pins s σ H x v vl vu lo hi sl Q I rx hs pl pu ⟨as, fz, d, r, hd, hp, q⟩
  unfold slD at hp
  split at hp
  · cases hp
    obtain ⟨a, vs, rfl, ha, r1⟩ := hd.tup
    refine sl_tupA pins s σ H _ v vl vu lo hi sl Q I rx hs pl pu ⟨a, vs, rfl, hK ▸ ha, fun e => ?_, fun e p hn => q _ _ (.ntup hn (r1.cut lo hi))⟩
    rw [r1.length] at e
    rw [cut_whole e] at q
    exact q _ _ (.here (.tup ha r1))
  · cases hp
    obtain ⟨a, vs, rfl, ha, r1⟩ := hd.lsts
    exact sl_list pins s σ H _ v vl vu lo hi sl Q I rx hs pl pu ⟨a, vs, rfl, SqL.of ha, fun p hn => q _ _ (.nlst hn (r1.cut lo hi))⟩
  · cases hp
    obtain ⟨a, rfl, ha, r1⟩ := hd.scr
    exact sl_list pins s σ H _ v vl vu lo hi sl Q I rx hs pl pu ⟨a, _, rfl, hK ▸ ha, fun p hn => q _ _ (.nlst hn ((RepL.of_ints _).cut lo hi))⟩
  · obtain rfl := hd.str
    unfold cutStr at hp
    split at hp
    · rename_i hl; cases hp
      exact sl_str pins s σ H _ v vl vu lo hi sl Q I rx hs pl pu ⟨_, rfl, hl, q _ _ (.here (.str _))⟩
    · cases hp
  · cases hp

/-! ### built-in functions -/
theorem RepRs.one {xs : List V} {d : D} (h : RepRs G as fz H xs [d]) : ∃ x, xs = [x] ∧ RepR G as fz H x d := by
  cases h with
  | cons a r =>
    cases r
    exact ⟨_, rfl, a⟩
theorem RepRs.two {xs : List V} {d e : D} (h : RepRs G as fz H xs [d, e]) : ∃ x y, xs = [x, y] ∧ RepR G as fz H x d ∧ RepR G as fz H y e := by
  cases h with
  | cons a r =>
    obtain ⟨y, rfl, b⟩ := r.one
    exact ⟨_, _, rfl, a, b⟩
theorem c_len (hK : G.K = X.K) : CallR X (.builtin "len") (rPL G .len) := by
  intro pins s σ H xs us Q I rx ⟨as, fz, ds, r, hd, hp, q⟩
  simp only [prim] at hp
  unfold p_len at hp
  split at hp
  · cases hp
    obtain ⟨x, rfl, h⟩ := hd.one
    obtain ⟨a, vs, rfl, ha, r1⟩ := h.tup
    exact call_len_seq pins s σ H _ us Q I rx ⟨a, vs, rfl, .inr (hK ▸ ha), by rw [r1.length]; exact q _ _ (.here (.int _))⟩
  · cases hp
    obtain ⟨x, rfl, h⟩ := hd.one
    obtain ⟨a, vs, rfl, ha, r1⟩ := h.lsts
    exact call_len_seq pins s σ H _ us Q I rx ⟨a, vs, rfl, .inl (SqL.of ha), by rw [r1.length]; exact q _ _ (.here (.int _))⟩
  · split at hp
    · rename_i hl; cases hp
      obtain ⟨x, rfl, h⟩ := hd.one
      obtain rfl := h.str
      exact L2.call_len pins s σ H _ us Q I rx ⟨_, _, rfl, ⟨hl, rfl⟩, q _ _ (.here (.int _))⟩
    · cases hp
  · cases hp
theorem c_abs : CallR X (.builtin "abs") (rPL G .abs) := by
  intro pins s σ H xs us Q I rx ⟨as, fz, ds, r, hd, hp, q⟩
  simp only [prim] at hp
  unfold p_abs at hp
  split at hp
  · cases hp
    obtain ⟨x, rfl, h⟩ := hd.one
    obtain rfl := h.int
    exact L2.call_abs pins s σ H _ us Q I rx ⟨_, rfl, q _ _ (.here (.int _))⟩
  · cases hp
theorem c_int : CallR X (.type "int") (rPL G .int1) := by
  intro pins s σ H xs us Q I rx ⟨as, fz, ds, r, hd, hp, q⟩
  simp only [prim] at hp
  unfold p_int1 at hp
  split at hp
  · cases hp
    obtain ⟨x, rfl, h⟩ := hd.one
    obtain rfl := h.int
    exact L2.call_int1 pins s σ H _ us Q I rx (.inl ⟨_, rfl, q _ _ (.here (.int _))⟩)
  · cases hp
    obtain ⟨x, rfl, h⟩ := hd.one
    obtain rfl := h.bl
    exact L2.call_int1 pins s σ H _ us Q I rx (.inr ⟨_, rfl, q _ _ (.here (.int _))⟩)
  · cases hp
theorem c_str : CallR X (.type "str") (rPL G .str1) := by
  intro pins s σ H xs us Q I rx ⟨as, fz, ds, r, hd, hp, q⟩
  simp only [prim] at hp
  unfold p_str1 at hp
  split at hp
  · split at hp
    · rename_i hl; cases hp
      obtain ⟨x, rfl, h⟩ := hd.one
      obtain rfl := h.int
      exact L2.call_str_int pins s σ H _ us Q I rx ⟨_, rfl, hl, q _ _ (.here (.str _))⟩
    · cases hp
  · cases hp
theorem c_max (hc : X.calm = true) : CallR X (.builtin "max") (rPL G .max2) := by
  intro pins s σ H xs us Q I rx ⟨as, fz, ds, r, hd, hp, q⟩
  simp only [prim] at hp
  unfold p_max2 at hp
  split at hp
  · cases hp
    obtain ⟨x, y, rfl, h, k⟩ := hd.two
    obtain rfl := h.int; obtain rfl := k.int
    exact L2.call_max2 hc pins s σ H _ us Q I rx ⟨_, _, rfl, q _ _ (.here (.int _))⟩
  · cases hp
theorem c_gcd : CallR X (.builtin "math.gcd") (rPL G .gcd) := by
  intro pins s σ H xs us Q I rx ⟨as, fz, ds, r, hd, hp, q⟩
  simp only [prim] at hp
  unfold p_gcd at hp
  split at hp
  · cases hp
    obtain ⟨x, y, rfl, h, k⟩ := hd.two
    obtain rfl := h.int; obtain rfl := k.int
    exact cr_gcd pins s σ H _ us Q I rx ⟨_, _, rfl, q _ _ (.here (.int _))⟩
  · cases hp
theorem c_sum (hc : X.calm = true) : CallR X (.builtin "sum") (rPL G .sum) := by
  intro pins s σ H xs us Q I rx ⟨as, fz, ds, r, hd, hp, q⟩
  simp only [prim] at hp
  unfold p_sum at hp
  split at hp
  · rename_i l
    cases e : intsOf l with
    | none => rw [e] at hp; cases hp
    | some ns =>
      rw [e] at hp; cases hp
      obtain ⟨x, rfl, h⟩ := hd.one
      obtain ⟨a, vs, rfl, ha, r1⟩ := h.lsts
      rw [intsOf_some e] at r1
      obtain rfl := r1.ints
      exact cr_sum hc pins s σ H _ us Q I rx ⟨a, ns, rfl, SqL.of ha, q _ _ (.here (.int _))⟩
  · cases hp
theorem c_all (hc : X.calm = true) : CallR X (.builtin "all") (rPL G .all) := by
  intro pins s σ H xs us Q I rx ⟨as, fz, ds, r, hd, hp, q⟩
  simp only [prim] at hp
  unfold p_all at hp
  split at hp
  · rename_i l
    cases e : boolsOf l with
    | none => rw [e] at hp; cases hp
    | some ns =>
      rw [e] at hp; cases hp
      obtain ⟨x, rfl, h⟩ := hd.one
      obtain ⟨a, vs, rfl, ha, r1⟩ := h.lsts
      rw [boolsOf_some e] at r1
      obtain rfl := r1.bools
      exact cr_all hc pins s σ H _ us Q I rx ⟨a, ns, rfl, SqL.of ha, q _ _ (.here (.bl _))⟩
  · cases hp
theorem c_any (hc : X.calm = true) : CallR X (.builtin "any") (rPL G .any) := by
  intro pins s σ H xs us Q I rx ⟨as, fz, ds, r, hd, hp, q⟩
  simp only [prim] at hp
  unfold p_any at hp
  split at hp
  · rename_i l
    cases e : boolsOf l with
    | none => rw [e] at hp; cases hp
    | some ns =>
      rw [e] at hp; cases hp
      obtain ⟨x, rfl, h⟩ := hd.one
      obtain ⟨a, vs, rfl, ha, r1⟩ := h.lsts
      rw [boolsOf_some e] at r1
      obtain rfl := r1.bools
      exact cr_any hc pins s σ H _ us Q I rx ⟨a, ns, rfl, SqL.of ha, q _ _ (.here (.bl _))⟩
  · cases hp
theorem c_tuple (hK : G.K = X.K) : CallR X (.type "tuple") (rPL G .tuple) := by
  intro pins s σ H xs us Q I rx ⟨as, fz, ds, r, hd, hp, q⟩
  simp only [prim] at hp
  unfold p_tuple at hp
  split at hp
  · cases hp
    obtain ⟨x, rfl, h⟩ := hd.one
    obtain ⟨a, vs, rfl, ha, r1⟩ := h.tup
    exact call_tuple_of pins s σ H _ us Q I rx ⟨a, vs, rfl, .inr ⟨hK ▸ ha, q _ _ (.here (.tup ha r1))⟩⟩
  · cases hp
    obtain ⟨x, rfl, h⟩ := hd.one
    obtain ⟨a, vs, rfl, ha, r1⟩ := h.lsts
    exact call_tuple_of pins s σ H _ us Q I rx ⟨a, vs, rfl, .inl ⟨SqL.of ha, fun l hn => q _ _ (.ntup hn r1)⟩⟩
  · cases hp
theorem c_list (hK : G.K = X.K) : CallR X (.type "list") (rPL G .list) := by
  intro pins s σ H xs us Q I rx ⟨as, fz, ds, r, hd, hp, q⟩
  simp only [prim] at hp
  unfold p_list at hp
  split at hp
  · cases hp
    obtain ⟨x, rfl, h⟩ := hd.one
    obtain ⟨a, vs, rfl, ha, r1⟩ := h.tup
    exact call_list_of pins s σ H _ us Q I rx ⟨a, vs, rfl, .inr (hK ▸ ha), fun l hn => q _ _ (.nlst hn r1)⟩
  · cases hp
    obtain ⟨x, rfl, h⟩ := hd.one
    obtain ⟨a, vs, rfl, ha, r1⟩ := h.lsts
    exact call_list_of pins s σ H _ us Q I rx ⟨a, vs, rfl, .inl (SqL.of ha), fun l hn => q _ _ (.nlst hn r1)⟩
  · cases hp
theorem vals_one {x : V} {us : List Value} (h : Vals [x] us) : ∃ u, us = [u] ∧ RelV x u := by
  cases h with
  | cons a r =>
    cases r
    exact ⟨_, rfl, a⟩
mutual
theorem nodict : ∀ d : D, d.pd.hasDict = false
  | .non => by simp [D.pd, PyData.hasDict]
  | .bl _ => by simp [D.pd, PyData.hasDict]
  | .int _ => by simp [D.pd, PyData.hasDict]
  | .str _ => by simp [D.pd, PyData.hasDict]
  | .tup xs => by rw [D.pd, PyData.hasDict]; exact nodictL xs
  | .lst xs => by rw [D.pd, PyData.hasDict]; exact nodictL xs
  | .fn _ => by simp [D.pd, PyData.hasDict]
  | .ref _ => by simp [D.pd, PyData.hasDict]
  | .scr _ => by simp [D.pd, PyData.hasDict]
theorem nodictL : ∀ ds : List D, PyData.hasDictAll (pdL ds) = false
  | [] => by simp [pdL, PyData.hasDictAll]
  | d :: ds => by rw [pdL, PyData.hasDictAll, nodict d, nodictL ds]; rfl
end
theorem c_repr (hK : G.K = X.K) (hg : X.A.guards = some []) (hu : X.A.units + 65 < cLine) : CallR X (.builtin "repr") (rPL G .repr) := by
  intro pins s σ H xs us Q I rx ⟨as, fz, ds, r, hd, hp, q⟩
  simp only [prim] at hp
  unfold p_repr at hp
  split at hp
  · split at hp
    · rename_i hl; cases hp
      obtain ⟨x, rfl, h⟩ := hd.one
      obtain ⟨u, rfl, ru⟩ := vals_one rx
      simp only [reprOk, Bool.and_eq_true, decide_eq_true_eq] at hl
      obtain ⟨⟨⟨f, sh⟩, dp⟩, ln⟩ := hl
      obtain ⟨bs, rd⟩ := Dp.reads I _ x u (Dp.of2 hK h f) ru
      have nod := nodict
      cases h with
      | dat h =>
        cases h with
        | non =>
          cases ru
          refine PySem.P.repr_of_none ⟨.str _, H, I.tok _, ⟨_, rfl⟩, ?_⟩
          have z := q _ _ (.here (.str _))
          simpa only [D.pd, PyData.shown] using z
        | bl b =>
          cases ru
          refine PySem.P.repr_of_bool ⟨.str _, H, I.tok _, ⟨_, rfl⟩, ?_⟩
          have z := q _ _ (.here (.str _))
          simpa only [D.pd, PyData.shown] using z
        | int i =>
          obtain ⟨t, rfl⟩ := ru
          refine PySem.P.repr_of_int (by simpa [D.pd, PyData.showable] using sh) ⟨.str _, H, I.tok _, ⟨_, rfl⟩, ?_⟩
          have z := q _ _ (.here (.str _))
          simpa only [D.pd, PyData.shown] using z
        | str x =>
          obtain ⟨t, rfl⟩ := ru
          refine PySem.P.repr_of_str ⟨.str _, H, I.tok _, ⟨_, rfl⟩, ?_⟩ (by rw [sl_line]; simpa only [D.pd, PyData.shown] using ln)
          have z := q _ _ (.here (.str _))
          simpa only [D.pd, PyData.shown] using z
        | tup a r =>
          cases ru
          exact repr_of_reads' rd sh (PyData.noDict_hsm (nod _)) hg (by omega) (fun _ _ e => e) (fun h' u tk hk => ⟨.str _, H, I.kept hk, ⟨_, rfl⟩, q _ _ (.here (.str _))⟩) ln
        | lst a b r =>
          cases ru
          exact repr_of_reads' rd sh (PyData.noDict_hsm (nod _)) hg (by omega) (fun _ _ e => e) (fun h' u tk hk => ⟨.str _, H, I.kept hk, ⟨_, rfl⟩, q _ _ (.here (.str _))⟩) ln
        | fn i => simp [D.flat] at f
        | ref e => simp [D.flat] at f
        | scr e => simp [D.flat] at f
      | lst a r =>
        cases ru
        exact repr_of_reads' rd sh (PyData.noDict_hsm (nod _)) hg (by omega) (fun _ _ e => e) (fun h' u tk hk => ⟨.str _, H, I.kept hk, ⟨_, rfl⟩, q _ _ (.here (.str _))⟩) ln
    · cases hp
  · cases hp
end
end MP
end
section
set_option Elab.async false
set_option linter.all false
set_option maxRecDepth 100000
set_option maxHeartbeats 2000000
/-! MP: sorting data of one kind, empty tuples too, of lists and of tuples -/
namespace MP
open PySem PySem.Spec PySem.Calls PyProof.Rows PySem.W PySem.SeqAt

theorem keyLt_gen (x y : Value) : keyLt' general' x y = oneLt' false x y := rfl
section
variable {prog : Program} {w : World} {A : Around} {E : Value → Shared → Prop} {s : Shared}
/-- tuple's own less-than, called as a sort calls it -/
theorem tuple_lt_call {Q : Value → Shared → Prop} {p q : Addr} {xs ys : Array Value} {e r : Nat → Bool} (hp : s.heap.IsTuple p xs) (hq : s.heap.IsTuple q ys)
    (he : ∀ j (h1 : j < xs.size) (h2 : j < ys.size), EqAt A.in1 s xs[j] ys[j] (e j)) (hr : ∀ j (h1 : j < xs.size) (h2 : j < ys.size), e j = false → RcLt A.in1 s xs[j] ys[j] (r j))
    (k : Q (.bool (firstLt e r (decide (xs.size < ys.size)) (List.range (min xs.size ys.size)))) s) : wpAny (model prog w) A (call (.builtin "tuple.__lt__") [.ref p, .ref q]) Q E s := by
  rcases hp with ⟨⟨c1, d1, dt1, s1⟩, g1, rfl, n1, rfl⟩
  rcases hq with ⟨⟨c2, d2, dt2, s2⟩, g2, rfl, n2, rfl⟩
  have m := tuple_ltAt p q xs ys n1 n2 d1 d2 s1 s2 e r
  exact call_meets PySem.F.slot_tuple_lt ⟨_, g1, rfl⟩ PySem.F.entry_tuple_lt (PySem.F.args_tuple_lt_2 _ _) m ⟨g1, g2, he, hr, k⟩
/-- one tuple against another, where all keys are of one type -/
theorem oneLt_tuples {xs ys : List PyData} {a b : Value} {as bs : List Addr} {Q : Bool → Shared → Prop} (ra : Reads s.heap a (.tuple xs) as) (rb : Reads s.heap b (.tuple ys) bs) (h : alike (.tuple xs) (.tuple ys) = true)
    (hu : A.units + min (PyData.tuple xs).depth (PyData.tuple ys).depth < cLine) (hq : Q (dataLt (.tuple xs) (.tuple ys)) s) : wpAny (model prog w) A (oneLt' true a b) Q E s := by
  have hal : alikeAll xs ys = true := by simpa [alike] using h
  rcases ra with _ | _ | _ | _ | _ | ⟨g1, c1, d1, r1⟩
  rcases rb with _ | _ | _ | _ | _ | ⟨g2, c2, d2, r2⟩
  have z1 := SeqAt.ReadsAll.length _ _ _ r1
  have z2 := SeqAt.ReadsAll.length _ _ _ r2
  simp only [Array.length_toList] at z1 z2
  rw [dataLt_tuple, ← firstLt_toks xs ys hal, ← z1, ← z2] at hq
  rw [oneLt'_eq]
  simp only [if_true]
  refine wpAny_bind (wpAny_cRoomFor (room_here hu) ?_)
  refine wpAny_bind (wpAny_callSpecialIfBound?_slot (T := "tuple") ⟨_, g1, c1⟩ PySem.F.slot_tuple_lt (tuple_lt_call (e := pairEq xs ys) (r := fun j => dataLt (xs.getD j .none) (ys.getD j .none)) ⟨_, g1, c1, _, d1⟩ ⟨_, g2, c2, _, d2⟩ ?_ ?_ (wpAny_truthy_bool hq)))
  · intro j j1 j2
    have t := eqAt_alikeAll xs ys A.in1 s _ _ _ _ r1 r2 hal (room_in hu) j (by simpa using j1) (by simpa using j2)
    simpa using t
  · intro j j1 j2 hj
    have t := rcLt_alikeAll xs ys A.in1 s _ _ _ _ r1 r2 hal (room_in hu) j (by simpa using j1) (by simpa using j2) hj
    simpa using t
def fullT : PyData → Bool
  | .tuple (_ :: _) => true
  | _ => false
/-- the first items of tuples, where they have some -/
theorem firsts_mix {M : Model} : ∀ (vs : List Value) (ds : List PyData) {Q : List (Option Value) → Shared → Prop}, EachIs (fun v d => ∃ as, Reads s.heap v d as) vs ds → (∀ d ∈ ds, ∃ xs, d = .tuple xs) →
    (∀ fs : List (Option Value), fs.map Option.isSome = ds.map fullT → Q fs s) → wpAny M A (vs.mapM firstOfTuple') Q E s
  | [], _, Q, e, _, h => by
    cases e
    rw [List.mapM_nil]
    exact wpAny_pure (h [] rfl)
  | v :: vs, _, Q, e, ht, h => by
    cases e with
    | @cons _ d _ ds e1 e2 =>
      obtain ⟨as, r⟩ := e1
      obtain ⟨xs, rfl⟩ := ht d (List.mem_cons_self ..)
      rcases r with _ | _ | _ | _ | _ | ⟨g1, c1, d1, r1⟩
      rw [List.mapM_cons, kas_first_eq]
      refine wpAny_bind (wpAny_bind (Looks.here (show Looks M s.heap (typeOf _) _ from (Looks.ld g1).andThen .now) ?_))
      rw [c1, if_neg (by decide)]
      refine wpAny_bind (listItems_at g1 d1 (wpAny_pure ?_))
      refine wpAny_bind (firsts_mix vs ds e2 (fun d hd => ht d (List.mem_cons_of_mem _ hd)) fun fs hf => wpAny_pure (h _ ?_))
      rw [List.map_cons, List.map_cons, hf]
      congr 1
      have z1 := SeqAt.ReadsAll.length _ _ _ r1
      simp only [Array.length_toList] at z1
      cases xs with
      | nil =>
        rw [Array.getElem?_eq_none (by rw [z1]; exact Nat.le_refl _)]
        rfl
      | cons x r =>
        rw [Array.getElem?_eq_getElem (by rw [z1]; exact Nat.succ_pos _)]
        rfl
theorem all_isSome {fs : List (Option Value)} {ds : List PyData} (h : fs.map Option.isSome = ds.map fullT) : (fs.toArray.all fun x => x.isSome) = ds.all fullT := by
  have e : (fs.toArray.all fun x => x.isSome) = (fs.map Option.isSome).all id := by simp [List.all_map]
  have e2 : (ds.map fullT).all id = ds.all fullT := by simp [List.all_map]
  rw [e, h, e2]
/-- data of one kind, no None: they can be sorted -/
theorem SortsAt.mix {vs : List Value} {ds : List PyData} (e : EachIs (fun v d => ∃ as, Reads s.heap v d as) vs ds) (hal : AllAlike ds) (hk : ∀ d ∈ ds, d ≠ .none) (hu : ∀ d, d ∈ ds → A.units + d.depth < cLine) : SortsAt prog w A s (dataKind s.heap ds) vs := by
  by_cases h0 : ∃ xs, PyData.tuple xs ∈ ds
  · have ht : ∀ d ∈ ds, ∃ xs, d = .tuple xs := fun d hd => by
      obtain ⟨xs, hx⟩ := h0
      have q := hal _ hx d hd
      cases d with
      | tuple ys => exact ⟨ys, rfl⟩
      | _ => simp [alike] at q
    by_cases hf : ds.all fullT = true
    · refine SortsAt.data e hal (.inl fun d hd => ?_) hu
      have q := List.all_eq_true.mp hf d hd
      obtain ⟨xs, rfl⟩ := ht d hd
      cases xs with
      | nil => simp [fullT] at q
      | cons x r => exact ⟨x, r, rfl⟩
    · refine ⟨fun v hv => ?_, ?_⟩
      · obtain ⟨d, hd, as, r⟩ := e.left v hv
        exact ⟨_, dataKind_some hal hd r⟩
      · have room : ∀ {d d' : PyData}, d ∈ ds → A.units + min d.depth d'.depth < cLine := fun {d d'} hd => Nat.lt_of_le_of_lt (Nat.add_le_add_left (Nat.min_le_left _ _) _) (hu d hd)
        by_cases hfst : (ds[0]?.map fullT) = some true
        · refine ⟨general', ?_, fun h2 E Q hq => ?_⟩
          · intro E x y a b Q ha hb hq
            obtain ⟨d, as, hd, ra, rfl⟩ := dataKind_inv ha
            obtain ⟨d', as', hd', rb, rfl⟩ := dataKind_inv hb
            rw [keyLt_gen]
            exact oneLt_alike (fun z => absurd z (by decide)) ra rb (hal d hd d' hd') (hk d hd) (room hd) hq
          · rw [kat_kind_eq, List.mapM_toArray, map_eq_pure_bind]
            refine wpAny_bind (wpAny_bind (firsts_mix vs ds e ht fun fs hfs => wpAny_pure ?_))
            rw [all_isSome hfs, if_neg hf]
            have e0 : (fs.toArray[0]?.bind id).isSome = true := by
              cases fs with
              | nil => cases ds with
                | nil => simp at hfst
                | cons _ _ => simp at hfs
              | cons f fr => cases ds with
                | nil => simp at hfs
                | cons d dr =>
                  simp only [List.map_cons, List.cons.injEq] at hfs
                  simp only [List.getElem?_cons_zero, Option.map_some, Option.some.injEq] at hfst
                  simp [hfs.1, hfst]
            rw [if_pos e0]
            exact wpAny_pure hq
        · refine ⟨oneType', ?_, fun h2 E Q hq => ?_⟩
          · intro E x y a b Q ha hb hq
            obtain ⟨d, as, hd, ra, rfl⟩ := dataKind_inv ha
            obtain ⟨d', as', hd', rb, rfl⟩ := dataKind_inv hb
            obtain ⟨xs, rfl⟩ := ht d hd
            obtain ⟨ys, rfl⟩ := ht d' hd'
            rw [keyLt'_oneType]
            exact oneLt_tuples ra rb (hal _ hd _ hd') (room hd) hq
          · rw [kat_kind_eq, List.mapM_toArray, map_eq_pure_bind]
            refine wpAny_bind (wpAny_bind (firsts_mix vs ds e ht fun fs hfs => wpAny_pure ?_))
            rw [all_isSome hfs, if_neg hf]
            have e0 : ¬ (fs.toArray[0]?.bind id).isSome = true := by
              cases fs with
              | nil => simp
              | cons f fr => cases ds with
                | nil => simp at hfs
                | cons d dr =>
                  simp only [List.map_cons, List.cons.injEq] at hfs
                  simp only [List.getElem?_cons_zero, Option.map_some, Option.some.injEq] at hfst
                  simp [hfs.1, hfst]
            rw [if_neg e0]
            rw [oneTypeOnly'_eq, List.mapM_toArray, map_eq_pure_bind]
            have looks : ∀ v ∈ vs, Looks (model prog w) s.heap (typeOf v) (.type "tuple") := fun v hv => by
              obtain ⟨d, hd, as, r⟩ := e.left v hv
              obtain ⟨xs, rfl⟩ := ht d hd
              rcases r with _ | _ | _ | _ | _ | ⟨g1, c1, d1, r1⟩
              rw [← c1]
              exact (Looks.ld g1).andThen .now
            refine wpAny_bind (wpAny_bind (wpAny_bind (kas_mapM (r := .type "tuple") _ (fun v hv Q' hq => (looks v hv).here hq) (wpAny_pure ?_))))
            obtain ⟨v1, vr, rfl⟩ : ∃ v1 vr, vs = v1 :: vr := by
              cases vs with
              | nil => simp at h2
              | cons v1 vr => exact ⟨v1, vr, rfl⟩
            have hall : ((List.map (fun _ => Value.type "tuple") (v1 :: vr)).toArray.all fun x => x == Value.type "tuple") = true := by
              simp only [List.all_toArray, List.all_map, List.all_eq_true]
              intro _ _
              rfl
            have h0' : (List.map (fun _ => Value.type "tuple") (v1 :: vr)).toArray[0]? = some (Value.type "tuple") := by simp
            rw [h0']
            simp only [hall, if_true]
            exact wpAny_pure (wpAny_pure hq)
  · exact SortsAt.data e hal (.inr fun d hd => ⟨hk d hd, fun xs z => h0 ⟨xs, z ▸ hd⟩⟩) hu

/-- what sorted makes of a tuple's items first -/
theorem collect_tup {t : Addr} {vs : List Value} {Q : List Value → Shared → Prop} (ht : s.heap.IsTuple t vs.toArray) (hz : vs.length ≤ sizeLine)
    (h : Q vs { s with heap := (s.heap.push (seqObj "list" #[] 0)).update s.heap.objs.size (Obj.mapSeq (· ++ vs.toArray)) }) : wpAny (model prog w) A (collect (.ref t)) Q E s := by
  rcases ht with ⟨o, g, c, n, d⟩
  have g' : (s.heap.push (seqObj "list" #[] 0)).get? t = some o := Heap.get?_push_of_some _ g
  unfold collect
  refine wpAny_bind (wpAny_runValue (codeAny_builtin entry_proto_collect' ?_))
  show wpAny (model prog w) A.in1 (newList [] >>= fun l => again (.builtin "list.__iadd__" ⟨[l, .ref t], []⟩)) _ _ s
  refine wpAny_bind (wpAny_newList ?_ (Nat.zero_le _))
  refine wpAny_pure ⟨Code.quiet_builtin _ (by decide +kernel), codeAny_builtin entry_list_iadd' ?_⟩
  show wpAny _ _ (Builtin.List.listExtendWith (.ref s.heap.objs.size) (.ref t) (.ref s.heap.objs.size)) _ _ { s with heap := s.heap.push (seqObj "list" #[] 0) }
  unfold Builtin.List.listExtendWith
  refine wpAny_bind (wpAny_typeOf (T := "tuple") ⟨o, g', c⟩ ?_)
  have q2 : (Value.type "tuple" == Value.type "tuple") = true := by rfl
  rw [if_pos (by rw [q2]; simp)]
  refine wpAny_bind (listItems_at g' d (wpAny_bind (listItems_at (xs := #[]) (n := 0) (Heap.get?_push_size _ rfl) rfl ?_)))
  rw [if_neg (by simp)]
  refine wpAny_bind (listUpdate_at (xs := #[]) (n := 0) (Heap.get?_push_size _ rfl) rfl ?_ (Nat.zero_le _) (by simp only [Array.size_append, List.size_toArray, List.length_nil]; omega))
  refine wpAny_pure ?_
  have l2 := get?_update_seq (Heap.get?_push_size (h := s.heap) (o := seqObj "list" #[] 0) rfl) (· ++ vs.toArray)
  have em : ((#[] : Array Value) ++ vs.toArray).toList = vs := by simp
  show wpAny (model prog w) A (load s.heap.objs.size >>= _) Q E _
  refine wpAny_bind (wpAny_load l2 ?_)
  show wpAny _ _ (pure ((#[] : Array Value) ++ vs.toArray).toList) Q E _
  rw [em]
  exact wpAny_pure h
theorem sorted_tup_sort {t : Addr} {vs : List Value} {kw : List (Str × Value)} {Q : Value → Shared → Prop} (ht : s.heap.IsTuple t vs.toArray) (hL : vs.length ≤ sizeLine) (ha1 : argsOk "sorted" ⟨[.ref t], kw⟩) (ha2 : ∀ x, argsOk "list.sort" ⟨[.ref x], kw⟩)
    (body : ∀ E' : Value → Shared → Prop, wpAny (model prog w) A.in1.in1 (Builtin.«list.sort» ⟨[.ref (s.heap.objs.size + 1)], kw⟩) (fun f s' => f = .done (.ret .none) ∧ Q (.ref (s.heap.objs.size + 1)) s') E' { s with heap := copyHeap s.heap vs }) :
    wpAny (model prog w) A (call (.builtin "sorted") [.ref t] kw) Q E s := by
  have hsz : ((s.heap.push (seqObj "list" #[] 0)).update s.heap.objs.size (Obj.mapSeq (· ++ vs.toArray))).objs.size = s.heap.objs.size + 1 := by
    rw [Heap.size_update, size_push']
  refine call_function_entry_kw kind_sorted plain_sorted entry_sorted ha1 ?_
  unfold Builtin.«sorted»
  refine wpAny_bind (m := checkCount "sorted" 1 1 _) (wpAny_pure (wpAny_bind (collect_tup ht hL (wpAny_bind (wpAny_newList ?_ hL)))))
  show wpAny _ _ _ _ _ { s with heap := copyHeap s.heap vs }
  rw [hsz]
  refine wpAny_bind (wpAny_holding (wpAny_call_entry_kw slot_list_sort ⟨_, copyHeap_at s.heap vs, rfl⟩ entry_list_sort ?_ (ha2 _)))
  show wpAny (model prog w) A.in1.in1 (Builtin.«list.sort» ⟨[.ref (s.heap.objs.size + 1)], kw⟩) _ _ _
  exact wpAny_mono (body _) (fun f s' ⟨e, q⟩ => by
    subst e
    exact ⟨_, rfl, wpAny_pure ⟨_, rfl, q⟩⟩) fun _ _ z => z
end
end MP
namespace MP
open PySem PySem.Spec PySem.Calls PyProof.Rows PySem.W PySem.SeqAt L2
section
variable {X : Cx} {G : Gd} {as : List Addr} {fz : Addr → Prop} {H : Hp}
theorem each_rep : ∀ {ds : List D} {xs : List V} {us : List Value}, RepL G as fz H xs ds → Vals xs us → EachIs (fun u d => ∃ x, RelV x u ∧ RepD G as fz H x d) us ds
  | [], _, _, h, r => by
    cases h
    cases r
    exact .nil
  | _ :: _, _, _, h, r => by
    cases h with
    | cons a t =>
      cases r with
      | cons b q => exact .cons ⟨_, b, a⟩ (each_rep t q)
theorem rep_each : ∀ {ds : List D} {us : List Value}, EachIs (fun u d => ∃ x, RelV x u ∧ RepD G as fz H x d) us ds → ∃ xs, Vals xs us ∧ RepL G as fz H xs ds
  | [], _, e => by
    cases e
    exact ⟨[], .nil, .nil⟩
  | _ :: _, _, e => by
    cases e with
    | cons a t =>
      obtain ⟨x, b, c⟩ := a
      obtain ⟨xs, q, k⟩ := rep_each t
      exact ⟨x :: xs, .cons b q, .cons c k⟩
theorem alikeD {xs : List D} (h : allAlike xs = true) : AllAlike (xs.map D.pd) := by
  intro d hd d' hd'
  obtain ⟨x, hx, rfl⟩ := List.mem_map.mp hd
  obtain ⟨y, hy, rfl⟩ := List.mem_map.mp hd'
  exact List.all_eq_true.mp (List.all_eq_true.mp h x hx) y hy
theorem flat_of_all {xs : List D} (h : ∀ x ∈ xs, x.flat = true) : flatL xs = true := by
  induction xs with
  | nil => rfl
  | cons x r ih =>
    rw [flatL, h x (List.mem_cons_self ..), ih fun y hy => h y (List.mem_cons_of_mem _ hy)]
    rfl
/-- the sorted list, laid -/
theorem sort_end {pins s σ} {ds : List D} {vs : List V} {us : List Value} {Q : VK} {b : Bool} (hK : G.K = X.K) (I : Inv X pins σ H s) (r : RepL G as fz H vs ds) (rv : Vals vs us) (hok : sortOk ds = true) (hu : X.A.units + 70 < cLine)
    (q : ∀ v H', ResR G as fz H v (.lst (sortD b ds)) H' → Q v H') :
    us.length ≤ sizeLine ∧ SortsAt X.prog X.w X.A.in1.in1 { s with heap := sortingHeap (copyHeap s.heap us) (s.heap.objs.size + 1) us } (dataKind (sortingHeap (copyHeap s.heap us) (s.heap.objs.size + 1) us) (ds.map D.pd)) us ∧
      EP X pins σ Q (.ref (s.heap.objs.size + 1)) { s with heap := sortedAll s.heap us (sortVals (dataKind (sortingHeap (copyHeap s.heap us) (s.heap.objs.size + 1) us) (ds.map D.pd)) b us us).toArray } := by
  simp only [sortOk, Bool.and_eq_true, decide_eq_true_eq, List.all_eq_true] at hok
  obtain ⟨⟨each, hal⟩, hlen⟩ := hok
  have l1 := r.length
  have l2 := rv.length
  have hal' := alikeD hal
  obtain ⟨bs, rd⟩ := Dp.readsAll I _ _ us (hK ▸ RepL.dp ds vs r (flat_of_all fun x hx => (each x hx).1.1)) rv
  have rd1 : EachIs (fun u d => ∃ as, Reads (sortingHeap (copyHeap s.heap us) (s.heap.objs.size + 1) us) u d as) us (ds.map D.pd) := by
    have rd' : ReadsAll s.heap us (ds.map D.pd) bs := by rw [← pdL_map]; exact rd
    have e1 := readsAll_each (h := s.heap) D.pd rd'
    exact each_map (R := fun v d => ∃ as, Reads _ v d as) D.pd (e1.mono fun v d ⟨as, q⟩ => ⟨as, PyProof.Rows.Reads.keeps (fun _ _ => sorting_copy_old) q⟩)
  refine ⟨by rw [sl_line]; omega, SortsAt.mix (s := { s with heap := sortingHeap (copyHeap s.heap us) (s.heap.objs.size + 1) us }) rd1 hal' ?_ ?_, ?_⟩
  · intro d hd
    obtain ⟨x, hx, rfl⟩ := List.mem_map.mp hd
    have := (each x hx).1.2
    cases x <;> simp [D.pd, notNone] at this ⊢
    all_goals
      have f := (each _ hx).1.1
      simp [D.flat] at f
  · intro d hd
    obtain ⟨x, hx, rfl⟩ := List.mem_map.mp hd
    have := (each x hx).2
    show X.A.units + 1 + 1 + _ < _
    omega
  · have er : EachIs (fun v (d : D) => ∃ as, Reads (sortingHeap (copyHeap s.heap us) (s.heap.objs.size + 1) us) v d.pd as) us ds := by
      have rd' : ReadsAll s.heap us (ds.map D.pd) bs := by rw [← pdL_map]; exact rd
      exact (readsAll_each (h := s.heap) D.pd rd').mono fun v d ⟨as, q⟩ => ⟨as, PyProof.Rows.Reads.keeps (fun _ _ => sorting_copy_old) q⟩
    have out := sortVals_data (enc := D.pd) b (each_rep r rv) er hal'
    obtain ⟨ws, rw', rl⟩ := rep_each out
    obtain ⟨c, hc⟩ := sortedAll_at s.heap us (sortVals (dataKind (sortingHeap (copyHeap s.heap us) (s.heap.objs.size + 1) us) (ds.map D.pd)) b us us).toArray
    have lw : ws.length ≤ sizeLine := by
      rw [rl.length, List.length_mergeSort, sl_line]
      omega
    have hn : H (s.heap.objs.size + 1) = none := I.hok.fresh (Nat.le_succ _)
    exact ⟨.ref _, _, I.laid (t' := s.toks) (o := .lst ws) (fun b u e => sortedAll_old e) (Nat.le_succ _) ⟨lw, _, c, rw', hc⟩, rfl, q _ _ (.nlst hn rl)⟩
theorem c_sorted (hK : G.K = X.K) (hu : X.A.units + 70 < cLine) : CallR X (.builtin "sorted") (rPL G .sorted) := by
  intro pins s σ H xs us Q I rx ⟨as, fz, ds, r, hd, hp, q⟩
  simp only [prim] at hp
  unfold p_sorted at hp
  split at hp
  · rename_i l
    split at hp
    · rename_i hok; cases hp
      obtain ⟨x, rfl, h⟩ := hd.one
      obtain ⟨a, vs, rfl, ha, r1⟩ := h.lsts
      obtain ⟨u, rfl, ru⟩ := vals_one rx
      cases ru
      obtain ⟨its, rv, pl, hz⟩ := I.list (SqL.of ha)
      obtain ⟨h1, h2, h3⟩ := sort_end (b := false) hK I r1 rv hok hu q
      exact sorted_vals pl.isList h2 h1 h3
    · cases hp
  · rename_i l
    split at hp
    · rename_i hok; cases hp
      obtain ⟨x, rfl, h⟩ := hd.one
      obtain ⟨a, vs, rfl, ha, r1⟩ := h.tup
      obtain ⟨u, rfl, ru⟩ := vals_one rx
      cases ru
      obtain ⟨its, rv, pl, hz⟩ := I.tuple (hK ▸ ha)
      obtain ⟨h1, h2, h3⟩ := sort_end (b := false) hK I r1 rv hok hu q
      exact sorted_tup_sort pl h1 (args_sorted1 _) (fun _ => args_list_sort _) fun _ => list_sort_vals (s := { s with heap := copyHeap s.heap its }) (copyHeap_at s.heap its) h2 h1 ⟨rfl, h3⟩
    · cases hp
  · cases hp
end
end MP
end
section
set_option Elab.async false
set_option linter.all false
set_option maxRecDepth 100000
set_option maxHeartbeats 2000000
/-! MP: the primitives, the rest -/
namespace MP
open PySem PySem.Spec PySem.Calls PyProof.Rows PySem.W PySem.SeqAt L2
section
variable {X : Cx} {G : Gd} {as : List Addr} {fz : Addr → Prop} {H : Hp} {Q : VK}
theorem canLay_all {xs : List PyData} (h : PyData.canLayAll0 xs = true) : ∀ x ∈ xs, x.canLay0 = true := by
  induction xs with
  | nil => intro x hx; cases hx
  | cons y r ih =>
    rw [PyData.canLayAll0, Bool.and_eq_true] at h
    intro x hx
    rcases List.mem_cons.mp hx with rfl | hx
    · exact h.1
    · exact ih h.2 x hx
theorem depth_all {xs : List PyData} : ∀ x ∈ xs, x.depth ≤ PyData.depthAll xs := by
  induction xs with
  | nil => intro x hx; cases hx
  | cons y r ih =>
    intro x hx
    rw [PyData.depthAll]
    rcases List.mem_cons.mp hx with rfl | hx
    · exact Nat.le_max_left _ _
    · exact Nat.le_trans (ih x hx) (Nat.le_max_right _ _)
theorem each_get {α β : Type} {R : α → β → Prop} : ∀ {us : List α} {ds : List β}, EachIs R us ds → ∀ (j : Nat) (h1 : j < us.length) (h2 : j < ds.length), R us[j] ds[j]
  | _, _, .nil, j, h1, _ => absurd h1 (Nat.not_lt_zero _)
  | _, _, .cons a t, 0, _, _ => a
  | _, _, .cons a t, j + 1, h1, h2 => each_get t j (Nat.lt_of_succ_lt_succ h1) (Nat.lt_of_succ_lt_succ h2)
/-- the items against a datum, place by place -/
theorem items_eq {s : Shared} {A : Around} {ds : List D} {us : List Value} {d : D} {u : Value} {bs cs : List Addr} (rs : ReadsAll s.heap us (pdL ds) bs) (ru : Reads s.heap u d.pd cs) (hok : inOk d ds = true) (hu : A.units + 65 < cLine) :
    ItemsEq A.in1 s us (ds.map fun z => eqD z d) u true := by
  simp only [inOk, eqOk, Bool.and_eq_true] at hok
  obtain ⟨⟨_, s1⟩, s2⟩ := hok
  rw [pd_lst] at s2
  have hc : PyData.canLayAll0 (pdL ds) = true := canLay_of_shaped (d := .list (pdL ds)) s2
  have ln := SeqAt.ReadsAll.length _ _ _ rs
  refine ⟨by rw [ln, pdL_map]; simp, fun j h1 h2 => ?_⟩
  have hj : j < ds.length := by simpa using h2
  have e1 : decide ((ds.map fun z => eqD z d)[j] = true) = PyData.eqv (ds[j]).pd d.pd := by
    simp [eqD]
  rw [e1]
  obtain ⟨es, r1⟩ : ∃ es, Reads s.heap us[j] (ds[j]).pd es := by
    have rs' : ReadsAll s.heap us (ds.map D.pd) bs := by rw [← pdL_map]; exact rs
    exact each_get (readsAll_each (h := s.heap) D.pd rs') j h1 hj
  have hm : (ds[j]).pd ∈ pdL ds := by
    rw [pdL_map]
    exact List.mem_map.mpr ⟨_, List.getElem_mem _, rfl⟩
  have room := depth_of_shaped s1
  refine eqAt_reads _ _ A.in1 s _ _ _ _ r1 ru (canLay_all hc _ hm) (canLay_of_shaped s1) ?_
  have h3 : min (ds[j]).pd.depth d.pd.depth ≤ d.pd.depth := Nat.min_le_right _ _
  show A.units + 1 + _ < _
  omega
theorem inD_mem {d : D} {ds : List D} (h : inD d ds = true) : true ∈ ds.map fun z => eqD z d := by
  obtain ⟨z, hz, e⟩ := List.any_eq_true.mp h
  exact List.mem_map.mpr ⟨z, hz, e⟩
theorem sz_of_shaped {ds : List D} : (ds.map fun z => eqD z (.non)).length = ds.length := by simp
theorem m_index_list (hK : G.K = X.K) (hu : X.A.units + 70 < cLine) : MtR X "list.index" (fun x xs H Q => ∃ as fz ds d r, RepR G as fz H x (.lst ds) ∧ RepRs G as fz H xs [d] ∧ prim .index [.lst ds, d] = some r ∧ ds.length ≤ 16777216 ∧ ∀ v, RepD G as fz H v r → Q v H) := by
  intro pins s σ H x xs v us Q I rx rxs ⟨as, fz, ds, d, r, h1, h2, hp, hz, q⟩
  simp only [prim, p_index] at hp
  split at hp
  · rename_i hm; cases hp
    rw [Bool.and_eq_true] at hm
    obtain ⟨a, vs, rfl, ha, rl⟩ := h1.lsts
    obtain ⟨y, rfl, ry⟩ := h2.one
    obtain ⟨u, rfl, ru⟩ := vals_one rxs
    cases rx
    have hok := hm.1
    simp only [inOk, eqOk, Bool.and_eq_true] at hok
    obtain ⟨its, rv, pl, _⟩ := I.list (SqL.of ha)
    obtain ⟨bs, rs⟩ := Dp.readsAll I _ _ its (hK ▸ RepL.dp ds vs rl (by simpa [D.flat] using hok.1.1.2)) rv
    obtain ⟨cs, rd⟩ := Dp.reads I _ y u (Dp.of2 hK ry hok.1.1.1) ru
    exact call_list_index pl.isList (items_eq rs rd hm.1 (A := X.A) (by omega)) (by rw [sl_line]; simpa using hz) (inD_mem hm.2) ⟨.int _, H, I.tok _, ⟨_, rfl⟩, q _ (.int _)⟩
  · cases hp
theorem m_index_tup (hK : G.K = X.K) (hu : X.A.units + 70 < cLine) : MtR X "tuple.index" (fun x xs H Q => ∃ as fz ds d r, RepR G as fz H x (.tup ds) ∧ RepRs G as fz H xs [d] ∧ prim .index [.tup ds, d] = some r ∧ ∀ v, RepD G as fz H v r → Q v H) := by
  intro pins s σ H x xs v us Q I rx rxs ⟨as, fz, ds, d, r, h1, h2, hp, q⟩
  simp only [prim, p_index] at hp
  split at hp
  · rename_i hm; cases hp
    rw [Bool.and_eq_true] at hm
    obtain ⟨a, vs, rfl, ha, rl⟩ := h1.tup
    obtain ⟨y, rfl, ry⟩ := h2.one
    obtain ⟨u, rfl, ru⟩ := vals_one rxs
    cases rx
    have hok := hm.1
    simp only [inOk, eqOk, Bool.and_eq_true] at hok
    obtain ⟨its, rv, pl, _⟩ := I.tuple (hK ▸ ha)
    obtain ⟨bs, rs⟩ := Dp.readsAll I _ _ its (hK ▸ RepL.dp ds vs rl (by simpa [D.flat] using hok.1.1.2)) rv
    obtain ⟨cs, rd⟩ := Dp.reads I _ y u (Dp.of2 hK ry hok.1.1.1) ru
    exact call_tuple_index pl (items_eq rs rd hm.1 (A := X.A) (by omega)) (inD_mem hm.2) ⟨.int _, H, I.tok _, ⟨_, rfl⟩, q _ (.int _)⟩
  · cases hp
theorem m_join (hK : G.K = X.K) : MtR X "str.join" (fun x xs H Q => ∃ as fz a ds r, RepR G as fz H x (.str a) ∧ RepRs G as fz H xs [.lst ds] ∧ prim .join [.str a, .lst ds] = some r ∧ ∀ v, RepD G as fz H v r → Q v H) := by
  intro pins s σ H x xs v us Q I rx rxs ⟨as, fz, a, ds, r, h1, h2, hp, q⟩
  simp only [prim, p_join] at hp
  split at hp
  · rename_i ys e
    split at hp
    · rename_i hj; cases hp
      obtain rfl := h1.str
      obtain ⟨y, rfl, ry⟩ := h2.one
      obtain ⟨b, vs, rfl, hb, rl⟩ := ry.lsts
      rw [strsOf_some e] at rl
      obtain rfl := rl.strs
      exact mt_join pins s σ H _ _ v us Q I rx rxs ⟨a, b, ys, rfl, rfl, .inl (SqL.of hb), of_decide_eq_true hj, q _ (.str _)⟩
    · cases hp
  · cases hp
theorem c_isTup (hK : G.K = X.K) : CallR X (.builtin "isinstance") (fun xs H Q => ∃ as fz d r x, xs = [x, .ty "tuple"] ∧ RepR G as fz H x d ∧ prim .isTup [d] = some r ∧ ∀ v, RepD G as fz H v r → Q v H) := by
  intro pins s σ H xs us Q I rx ⟨as, fz, d, r, x, e, hd, hp, q⟩
  simp only [prim] at hp
  unfold p_isTup at hp
  have go : ∀ (t : String) (b : Bool), TyX X.K H x (.type t) → kitB t "tuple" = some b → Q (.bl b) H → wpAny (model X.prog X.w) X.A (call (.builtin "isinstance") us) (EP X pins σ Q) X.xe s := fun t b ty k q =>
    call_isi pins s σ H xs us Q I rx ⟨x, .ty "tuple", .type t, .type "tuple", b, e, .ty _, ty, kit_ty k, q⟩
  split at hp
  · rename_i z; cases z; cases hp
    obtain ⟨a, vs, rfl, ha, rl⟩ := hd.tup
    rw [hK] at ha
    refine go "tuple" true ?_ (by decide +kernel) (q _ (.bl _))
    rcases ha with (h | ⟨o, h⟩) | ⟨o, its, n, k1, k2, _⟩
    · exact .base (.tup h)
    · exact .fTuple h
    · exact .kTuple k1 k2
  · rename_i z; cases z; cases hp
    obtain rfl := hd.str
    exact go "str" false (.base (.str _)) (by decide +kernel) (q _ (.bl _))
  · rename_i z; cases z; cases hp
    have : x = .non := by
      cases hd with
      | dat h => cases h; rfl
    subst this
    exact go "NoneType" false (.base .non) (by decide +kernel) (q _ (.bl _))
  · rename_i z; cases z; cases hp
    obtain rfl := hd.bl
    exact go "bool" false (.base (.bl _)) (by decide +kernel) (q _ (.bl _))
  · rename_i z; cases z; cases hp
    obtain rfl := hd.int
    exact go "int" false (.base (.int _)) (by decide +kernel) (q _ (.bl _))
  · rename_i z; cases z; cases hp
    obtain ⟨a, vs, rfl, ha, rl⟩ := hd.lsts
    exact go "list" false (.base (.lst ha)) (by decide +kernel) (q _ (.bl _))
  · cases hp
/-- min of two alike tuples -/
theorem min_two_data {prog : Program} {w : World} {A : Around} {E : Value → Shared → Prop} {s : Shared} {a b : Value} {x y : PyData} {as bs : List Addr} {Q : Value → Shared → Prop} (hh : A.handled = none) (ra : Reads s.heap a x as) (rb : Reads s.heap b y bs)
    (hal : alike y x = true) (hal2 : AlikeAll [x, y]) (hu : A.units + 1 + PyData.depthAll [x, y] < cLine) (h : ∀ h' tk, (∀ c o, s.heap.get? c = some o → h'.get? c = some o) → Q (if dataLt y x = true then b else a) { s with heap := h', toks := tk }) :
    wpAny (model prog w) A (call (.builtin "min") [a, b]) Q E s := by
  have hname : (toString "min" ++ toString ".loop" : String) = "min.loop" := by decide
  refine call_function_tree F.kind_min F.plain_min F.entry_min (F.args_min2 _ _) ?_
  show wpAny _ A.in1 (Builtin.Builtins.bindParams "min" ["key", "default"] 0 ⟨[], []⟩ >>= _) _ _ s
  refine wpAny_bind (wpAny_of_eq (show Builtin.Builtins.bindParams "min" ["key", "default"] 0 ⟨[], []⟩ = pure [none, none] from rfl) ?_)
  show wpAny _ A.in1 (newTuple [a, b] >>= _) _ _ s
  refine wpAny_bind (wpAny_newObj_type ?_ (by show 2 ≤ sizeLine; decide))
  have old : ∀ c o, s.heap.get? c = some o → (s.heap.push { cls := .type "tuple", data := .seq [a, b].toArray }).get? c = some o := fun c o e => Heap.get?_push_of_some _ e
  have hT : (s.heap.push { cls := .type "tuple", data := .seq [a, b].toArray }).IsTuple s.heap.objs.size [a, b].toArray := ⟨_, Heap.get?_push_size _ rfl, rfl, _, rfl⟩
  have rs : ReadsAll (s.heap.push { cls := .type "tuple", data := .seq [a, b].toArray }) [a, b] [x, y] _ := .cons (reads_keeps old ra) (.cons (reads_keeps old rb) .nil)
  refine wpAny_bind (iter_tupleW (s := { s with heap := s.heap.push { cls := .type "tuple", data := .seq [a, b].toArray } }) (A := A.in1) hh hT fun s₂ e W st hfp hw hk => ?_)
  refine wpAny_bind (wpAny_newObj_type ?_ (by first | exact Nat.zero_le _ | decide | skip))
  have hSf : s₂.heap.objs.size ∉ [(s.heap.push { cls := .type "tuple", data := .seq [a, b].toArray }).objs.size, s.heap.objs.size] := fun hm => Nat.lt_irrefl _ (hfp _ hm)
  rw [hname]
  refine wpAny_pure ⟨plainId_quiet F.plain_min_loop _, codeAny_min_loop_firstH W _ hw (fun i j => dataLt ([x, y].getD i .none) ([x, y].getD j .none)) (cmpIn_lt (s := { s with heap := s.heap.push { cls := .type "tuple", data := .seq [a, b].toArray } }) (A := A.in1) rs hal2 (by show A.units + 1 + _ < _; exact hu)) s₂.heap.objs.size hSf (fresh_in hk) _ (by show 0 < 2; decide) (fun b o e => Heap.get?_push_of_some _ (hk b o e)) (W.frame 0 s₂ _ s₂.toks st (Nat.le_refl _) fun b _ o e => Heap.get?_push_of_some _ e) (Heap.get?_push_size _ rfl) fun v s' hP hm => ?_⟩
  have hm' := Moved.drop_new (tk := s₂.toks) hm (Nat.le_refl _)
  obtain ⟨h', tk, rfl, hk'⟩ := moved_old (s := { s with heap := s.heap.push { cls := .type "tuple", data := .seq [a, b].toArray } }) e rfl hm'
  have hv : v = if dataLt y x = true then b else a := by
    have hP' : [a, b][argBest (fun i j => dataLt ([x, y].getD i .none) ([x, y].getD j .none)) 1]? = some v := by simpa using hP
    unfold argBest at hP'
    by_cases c : dataLt y x = true
    · rw [if_pos c]
      have c' : dataLt ([x, y].getD (0 + 1) .none) ([x, y].getD (argBest (fun i j => dataLt ([x, y].getD i .none) ([x, y].getD j .none)) 0) .none) = true := c
      rw [if_pos c'] at hP'
      simpa using hP'.symm
    · rw [if_neg c]
      have c' : ¬ dataLt ([x, y].getD (0 + 1) .none) ([x, y].getD (argBest (fun i j => dataLt ([x, y].getD i .none) ([x, y].getD j .none)) 0) .none) = true := c
      rw [if_neg c'] at hP'
      simpa [argBest] using hP'.symm
  rw [hv]
  exact h h' tk fun c o e => hk' c o (old c o e)
end
end MP
end
section
set_option Elab.async false
set_option linter.all false
set_option maxRecDepth 100000
set_option maxHeartbeats 2000000
/-! MP: x[::-1]; min; range as an argument -/
namespace MP
open PySem PySem.Spec PySem.Calls PyProof.Rows PySem.W PySem.SeqAt L2 HT
section
variable {prog : Program} {w : World} {A : Around} {E : Value → Shared → Prop} {s : Shared}
theorem back_adjust (n : Nat) : Builtin.Slice.sliceAdjust none none (-1) (n : Int) = ((n : Int) - 1, -1) := by
  unfold Builtin.Slice.sliceAdjust
  rfl
theorem back_places (n : Nat) : Builtin.Slice.slicePlaces ((n : Int) - 1) (-1) (-1) = n := by
  unfold Builtin.Slice.slicePlaces
  rw [if_neg (by decide)]
  by_cases h : n = 0
  · subst h
    rfl
  · rw [if_pos (by omega)]
    have e : ((n : Int) - 1 - -1 - 1) / (- -1) = (n : Int) - 1 := by
      rw [show ((n : Int) - 1 - -1 - 1) = (n : Int) - 1 by omega]
      exact Int.ediv_one _
    rw [e]
    omega
theorem slice_back {sl : Addr} {vs : Value} {n : Nat} {Q : Int × Int × Nat → Shared → Prop} (hs : s.heap.IsSliceOf sl .none .none vs) (ps : IsPart vs (some (-1))) (h : Q ((n : Int) - 1, -1, n) s) :
    wpAny (model prog w) A (Builtin.Slice.sliceApplied (.ref sl) (pure (n : Int))) Q E s := by
  rcases hs with ⟨o, g, c, d⟩
  unfold Builtin.Slice.sliceApplied Builtin.Slice.sliceFields
  refine wpAny_bind (wpAny_bind (wpAny_field g d (x := .none) rfl (wpAny_bind (wpAny_field g d (x := .none) rfl (wpAny_bind (wpAny_field g d (x := vs) rfl (wpAny_pure ?_)))))))
  refine wpAny_bind (slicePart_ ps ?_)
  show wpAny _ _ (if ((-1 : Int) == 0) = true then _ else _) _ _ s
  rw [if_neg (by decide)]
  refine wpAny_bind (slicePart_none (wpAny_bind (slicePart_none (wpAny_bind (wpAny_pure ?_)))))
  show wpAny _ _ (match Builtin.Slice.sliceAdjust none none (-1) (n : Int) with | (lo, hi) => pure (lo, (-1 : Int), Builtin.Slice.slicePlaces lo hi (-1))) _ _ s
  rw [back_adjust]
  show wpAny _ _ (pure ((n : Int) - 1, (-1 : Int), Builtin.Slice.slicePlaces ((n : Int) - 1) (-1) (-1))) _ _ s
  rw [back_places]
  exact wpAny_pure h
theorem fm_congr {α β : Type} {f g : α → Option β} : ∀ {l : List α}, (∀ x ∈ l, f x = g x) → l.filterMap f = l.filterMap g
  | [], _ => rfl
  | x :: r, h => by
    rw [List.filterMap_cons, List.filterMap_cons, h x (List.mem_cons_self ..), fm_congr fun y hy => h y (List.mem_cons_of_mem _ hy)]
theorem back_pick (xs : Array Value) : ((List.range xs.size).filterMap fun (k : Nat) => xs[(((xs.size : Int) - 1) + (k : Int) * (-1)).toNat]?) = xs.toList.reverse := by
  have e : ((List.range xs.size).filterMap fun (k : Nat) => xs[(((xs.size : Int) - 1) + (k : Int) * (-1)).toNat]?) = (List.range xs.size).filterMap fun k => xs[xs.size - 1 - k]? := by
    refine fm_congr fun k hk => ?_
    have hk' := List.mem_range.mp hk
    congr 1
    omega
  rw [e]
  have e2 : ((List.range xs.size).filterMap fun k => xs[xs.size - 1 - k]?) = (((List.range xs.size).map fun k => xs.size - 1 - k).filterMap fun j => xs[j]?) := by
    rw [List.filterMap_map]
    rfl
  rw [e2, krv_range, List.filterMap_reverse, krv_all]
theorem tup_back {t sl : Addr} {xs : Array Value} {vs : Value} {Q : Value → Shared → Prop} (ht : IsTup s.heap t xs) (hs : s.heap.IsSliceOf sl .none .none vs) (ps : IsPart vs (some (-1))) (hz : xs.size ≤ sizeLine)
    (h : Q (.ref s.heap.objs.size) { s with heap := s.heap.push { cls := .type "tuple", data := .seq xs.toList.reverse.toArray } }) : wpAny (model prog w) A (getItem (.ref t) (.ref sl)) Q E s := by
  have tS : s.TypeIs (.ref sl) "slice" := by
    rcases hs with ⟨o, g, c, d⟩
    exact ⟨o, g, c⟩
  unfold getItem
  try with_reducible refine wpAny_holding ?_
  first | refine wpAny_bind (wpAny_pure ?_) | skip
  refine wpAny_bind (wpAny_sequenceKey ht.typeIs (by decide) ?_)
  refine wpAny_bind (wpAny_callSpecial?_slot (name := Str.ofString "__getitem__") ht.typeIs PyProof.Rows.slot_tuple_getitem (wpAny_call_entry PyProof.Rows.slot_tuple_getitem ht.typeIs entry_tuple_getitem ?_ (args_tuple_getitem _ _)))
  show wpAny _ _ (Builtin.Tuple.tupleItemsOf (.ref t) >>= _) _ _ s
  refine wpAny_bind (tupleItemsOf_ ht (wpAny_bind (wpAny_typeOf tS ?_)))
  rw [if_pos (by decide)]
  refine wpAny_bind (slice_back hs ps ?_)
  have no : ¬ ((((xs.size : Int) - 1) == 0 && (-1 : Int) == 1 && xs.size == xs.size) = true) := by simp
  show wpAny _ _ (if ((((xs.size : Int) - 1) == 0 && (-1 : Int) == 1 && xs.size == xs.size) = true) then _ else _) _ _ s
  rw [if_neg no, back_pick]
  refine wpAny_bind (m := Builtin.Tuple.tupleExact _) (wpAny_newObj_type (wpAny_pure ⟨_, rfl, wpAny_pure h⟩) ?_)
  show xs.toList.reverse.toArray.size ≤ sizeLine
  rw [List.size_toArray, List.length_reverse, Array.length_toList]
  exact hz
end
section
variable {X : Cx} {G : Gd} {as : List Addr} {fz : Addr → Prop} {H : Hp} {Q : VK}
/-- e[::-1] -/
def tRevD (G : Gd) (te : TE) : TE := fun σ H Q => te σ H fun x H1 => ∃ as fz d r, RepR G as fz H1 x d ∧ prim .rev [d] = some r ∧ ∀ v H', ResR G as fz H1 v r H' → Q v H'
theorem e_rev (hK : G.K = X.K) {e : Expr} {te : TE} {k : Nat} {p1 p2 p3 pos : Pos} (he : L2.PE X e te) : L2.PE X (.Subscript e (.Slice none none (some (.UnaryOp .USub (.Constant (.int 1) k p1) p2)) p3) pos) (tRevD G te) := by
  refine ⟨fun pins s σ H Q I h => ?_⟩
  refine Subscript_ (thn (he.run pins s σ H _ I h) fun v s1 ⟨x, H1, I1, r1, q1⟩ => ?_)
  obtain ⟨as, fz, d, r, hd, hp, q⟩ := q1
  have hst : PO X (some (.UnaryOp .USub (.Constant (.int 1) k p1) p2)) (tPart (tUn (rU fun i => .int (-i)) (tC (.int 1)))) := po_some (pe_un un_neg pe_int)
  refine wpAny_Slice (thn (po_none.run pins s1 σ H1 (fun o H2 => o = none ∧ H2 = H1) I1 ⟨rfl, rfl⟩) fun vl s2 ⟨l, H2, I2, pl, el, e2⟩ => ?_)
  subst el e2
  refine thn (po_none.run pins s2 σ H2 (fun o H3 => o = none ∧ H3 = H2) I2 ⟨rfl, rfl⟩) fun vu s3 ⟨u, H3, I3, pu, eu, e3⟩ => ?_
  subst eu e3
  refine thn (hst.run pins s3 σ H3 (fun o H4 => o = some (-1) ∧ H4 = H3) I3 ⟨1, rfl, -1, rfl, rfl, rfl⟩) fun vs s4 ⟨o, H4, I4, ps, eo, e4⟩ => ?_
  subst eo e4
  have I5 : Inv X pins σ H4 { s4 with heap := s4.heap.push { cls := .type "slice", data := .fields #[vl, vu, vs] } } := I4.kept (t' := s4.toks) fun b ob q => Heap.get?_push_of_some _ q
  simp only [prim] at hp
  unfold p_rev at hp
  split at hp
  · rename_i ds z; cases z; cases hp
    obtain ⟨a, xs, rfl, ha, rl⟩ := hd.tup
    cases r1
    obtain ⟨its, rv, ht, hz⟩ := I5.tuple (hK ▸ ha)
    have hlen := rv.length
    obtain rfl : vl = .none := by cases pl; rfl
    obtain rfl : vu = .none := by cases pu; rfl
    show wpAny (model X.prog X.w) X.A (subscriptTail e (.Slice none none (some (.UnaryOp .USub (.Constant (.int 1) k p1) p2)) p3) (.ref a) (.ref s4.heap.objs.size)) (EP X pins σ Q) X.xe { s4 with heap := s4.heap.push { cls := .type "slice", data := .fields #[.none, .none, vs] } }
    refine tail_any (ops := [.ref a, .ref s4.heap.objs.size]) ht.typeIs (PyProof.Rows.slot_tuple_getitem.lookup) ?_ (by with_unfolding_all rfl)
    refine tup_back ht (Heap.IsSliceOf.new _ _ _ vs) ps (by rw [List.size_toArray]; omega) ?_
    refine ⟨.ref _, _, I5.laid (t' := s4.toks) (o := .tup xs.reverse) (fun b ob q => Heap.get?_push_of_some _ q) (Nat.le_refl _) ?_, rfl, q _ _ (.ntup (I5.hok.fresh (Nat.le_refl _)) rl.rev)⟩
    exact ⟨by rw [List.length_reverse]; exact hz, _, by simpa using rv.reverse, IsTup.new _ _⟩
  · rename_i ds z; cases z; cases hp
    obtain ⟨a, xs, rfl, ha, rl⟩ := hd.lsts
    cases r1
    obtain ⟨its, rv, ht, hz⟩ := I5.list (SqL.of ha)
    have hlen := rv.length
    show wpAny (model X.prog X.w) X.A (subscriptTail e (.Slice none none (some (.UnaryOp .USub (.Constant (.int 1) k p1) p2)) p3) (.ref a) (.ref s4.heap.objs.size)) (EP X pins σ Q) X.xe { s4 with heap := s4.heap.push { cls := .type "slice", data := .fields #[vl, vu, vs] } }
    refine tail_any (ops := [.ref a, .ref s4.heap.objs.size]) ht.isList.typeIs (PySem.slot_list_getitem.lookup) ?_ (by with_unfolding_all rfl)
    refine wpAny_getItem_list_slice ht.isList (Heap.IsSliceOf.new _ vl vu vs) pl pu ps (by decide) ?_ (by rw [List.size_toArray]; omega)
    rw [PySem.W.krv_pick]
    refine ⟨.ref _, _, I5.laid (t' := s4.toks) (o := .lst xs.reverse) (fun b ob q => Heap.get?_push_of_some _ q) (Nat.le_refl _) ?_, rfl, q _ _ (.nlst (I5.hok.fresh (Nat.le_refl _)) rl.rev)⟩
    exact ⟨by rw [List.length_reverse]; exact hz, _, 0, rv.reverse, Heap.get?_push_size _ rfl⟩
  · cases hp
theorem c_min (hK : G.K = X.K) (hc : X.calm = true) (hu : X.A.units + 70 < cLine) : CallR X (.builtin "min") (rPL G .min2) := by
  intro pins s σ H xs us Q I rx ⟨as, fz, ds, r, hd, hp, q⟩
  simp only [prim] at hp
  unfold p_min2 at hp
  split at hp
  · cases hp
    obtain ⟨x, y, rfl, h, k⟩ := hd.two
    obtain rfl := h.int; obtain rfl := k.int
    exact L2.call_min2 hc pins s σ H _ us Q I rx ⟨_, _, rfl, q _ _ (.here (.int _))⟩
  · rename_i x y
    split at hp
    · rename_i hm; cases hp
      simp only [sortOk, allAlike, List.all_cons, List.all_nil, Bool.and_true, Bool.and_eq_true, decide_eq_true_eq] at hm
      obtain ⟨⟨⟨⟨⟨f2, n2⟩, d2⟩, ⟨⟨f1, n1⟩, d1⟩⟩, ⟨⟨a11, a12⟩, ⟨a21, a22⟩⟩⟩, _⟩ := hm
      obtain ⟨u, w, rfl, h, k⟩ := hd.two
      obtain ⟨ux, uw, rfl, ru, rw'⟩ : ∃ ux uw, us = [ux, uw] ∧ RelV u ux ∧ RelV w uw := by
        cases rx with
        | cons a t =>
          obtain ⟨b, rfl, c⟩ := vals_one t
          exact ⟨_, _, rfl, a, c⟩
      obtain ⟨a1, r1⟩ := Dp.reads I _ u ux (Dp.of2 hK h f2) ru
      obtain ⟨a2, r2⟩ := Dp.reads I _ w uw (Dp.of2 hK k f1) rw'
      refine min_two_data (I.ok.hd hc) r1 r2 a21 ⟨fun p hp p' hp' => ?_, fun p hp => ?_⟩ ?_ fun h' tk kp => ?_
      · simp only [List.mem_cons, List.not_mem_nil, or_false] at hp hp'
        rcases hp with rfl | rfl <;> rcases hp' with rfl | rfl <;> assumption
      · simp only [List.mem_cons, List.not_mem_nil, or_false] at hp
        rcases hp with rfl | rfl <;> rw [D.pd] <;> intro z <;> cases z
      · simp only [PyData.depthAll]
        have e1 : max (D.tup x).pd.depth (max (D.tup y).pd.depth 0) ≤ 64 := Nat.max_le.mpr ⟨d2, Nat.max_le.mpr ⟨d1, Nat.zero_le _⟩⟩
        omega
      · by_cases c : dataLt (D.tup y).pd (D.tup x).pd = true
        · rw [if_pos c]
          refine ⟨w, H, I.kept kp, rw', q _ _ (.here ?_)⟩
          rw [if_pos (show ltD (.tup y) (.tup x) = true from c)]
          obtain ⟨a, vs, rfl, ha, rl⟩ := k.tup
          exact .tup ha rl
        · rw [if_neg c]
          refine ⟨u, H, I.kept kp, ru, q _ _ (.here ?_)⟩
          rw [if_neg (show ¬ ltD (.tup y) (.tup x) = true from c)]
          obtain ⟨a, vs, rfl, ha, rl⟩ := h.tup
          exact .tup ha rl
    · cases hp
  · cases hp
end
end MP
end
section
set_option Elab.async false
set_option linter.all false
set_option maxRecDepth 100000
set_option maxHeartbeats 2000000
/-! MP: how the simulation goes on -/
namespace MP
open PySem PySem.Spec PyProof.Rows L2
section
variable {G : Gd} {B : Base} {as as' : List Addr} {fz fz' : Addr → Prop} {H H' : Hp} {σ : L2.St} {st : S} {t t' : Sto}

theorem SimB.refl {H : Hp} {as : List Addr} {fz : Addr → Prop} : SimB ⟨H, as, fz⟩ as fz H :=
  ⟨fun _ _ e _ => e, fun _ _ e => e, fun _ _ _ e => e, fun _ _ _ e => e, fun _ e => e, ⟨[], by simp⟩, fun _ h => .inl h, fun _ h => h, fun _ h => .inl h⟩
theorem SimB.step (x : SimB ⟨H, as, fz⟩ as' fz' H') : Step as fz H as' fz' H' := ⟨x.fr, x.tups, x.frzs, x.fzs, x.there, x.pre, x.newa, x.fzm⟩
theorem SimB.fresh (x : SimB B as fz H) {a : Addr} (h : H a = none) : B.H0 a = none := by
  cases q : B.H0 a with
  | none => rfl
  | some o => exact absurd h (x.there a (by rw [q]; simp))
theorem SimB.trans (x : SimB B as fz H) (y : SimB ⟨H, as, fz⟩ as' fz' H') (c : ∀ a, a ∈ as → H a ≠ none) : SimB B as' fz' H' where
  fr := fun b o e n => by
    have e1 := x.fr b o e n
    refine y.fr b o e1 fun hb => ?_
    rcases x.newa b hb with z | z
    · exact n z
    · rw [z] at e; cases e
  tups := fun b xs e => y.tups b xs (x.tups b xs e)
  frzs := fun b o u e => y.frzs b o u (x.frzs b o u e)
  fzs := fun b o f e => y.fzs b o (x.fzm b f) (x.fzs b o f e)
  there := fun b e => y.there b (x.there b e)
  pre := by
    obtain ⟨r, e⟩ := x.pre
    obtain ⟨q, e'⟩ := y.pre
    have e2 : as' = as ++ q := e'
    exact ⟨r ++ q, by rw [e2, e, List.append_assoc]⟩
  newa := fun a h => by
    rcases y.newa a h with z | z
    · exact x.newa a z
    · exact .inr (x.fresh z)
  fzm := fun a h => y.fzm a (x.fzm a h)
  newf := fun a h => by
    rcases y.newf a h with z | z
    · exact x.newf a z
    · exact .inr (x.fresh z)
theorem SimC.live (x : SimC G t as fz H) {a : Addr} (h : a ∈ as) : H a ≠ none := by
  obtain ⟨i, hi, e⟩ := List.mem_iff_getElem.mp h
  have hi2 : i < t.length := by rw [← x.len]; exact hi
  have z := x.at_ i t[i] a (List.getElem?_eq_getElem hi2) (by rw [List.getElem?_eq_getElem hi, e])
  obtain ⟨o, vs, e, _⟩ := z
  rw [e]
  simp
/-- all that stood, stands: things may be made, and frozen as they are made -/
structure Grow (fz : Addr → Prop) (H : Hp) (fz' : Addr → Prop) (H' : Hp) : Prop where
  keep : ∀ b o, H b = some o → H' b = some o
  fzm : ∀ a, fz a → fz' a
  newf : ∀ a, fz' a → fz a ∨ (H a = none ∧ H' a ≠ none)
theorem Grow.refl : Grow fz H fz H := ⟨fun _ _ e => e, fun _ e => e, fun _ e => .inl e⟩
theorem Grow.simB (x : Grow fz H fz' H') : SimB ⟨H, as, fz⟩ as fz' H' where
  fr := fun b o e _ => x.keep b o e
  tups := fun b xs e => x.keep b _ e
  frzs := fun b o u e => x.keep b _ e
  fzs := fun b o _ e => x.keep b _ e
  there := fun b h => by
    cases q : H b with
    | none => exact absurd q h
    | some o => rw [x.keep b o q]; simp
  pre := ⟨[], by simp⟩
  newa := fun a h => .inl h
  fzm := x.fzm
  newf := fun a h => (x.newf a h).imp id fun z => z.1
theorem Grow.simC (x : Grow fz H fz' H') (c : SimC G t as fz H) : SimC G t as fz' H' where
  nd := c.nd
  len := c.len
  at_ := fun i cl a e1 e2 => by
    have z := c.at_ i cl a e1 e2
    obtain ⟨o, vs, e, sh, r⟩ := z
    exact ⟨o, vs, x.keep _ _ e, sh, RepL.step (x.simB (as := as)).step _ _ r⟩
  frz := fun a h => by
    rcases x.newf a h with z | ⟨z, y⟩
    · refine ⟨(c.frz a z).1, ?_⟩
      cases q : H a with
      | none => exact absurd q (c.frz a z).2
      | some o => rw [x.keep a o q]; simp
    · exact ⟨fun hm => c.live hm z, y⟩
/-- the frame's slots behind a step that froze nothing of them -/
theorem SimL.step {loc : List Slot} (l : SimL G B loc as fz σ H) (x : SimB ⟨H, as, fz⟩ as' fz' H') : SimL G B loc as' fz' σ H' where
  len := l.len
  val := fun i d e => by
    obtain ⟨v, e1, r⟩ := l.val i d e
    exact ⟨v, e1, RepD.step x.step _ _ r⟩
  own := fun i ds e => by
    obtain ⟨a, vs, e1, e2, r, n, na, n0⟩ := l.own i ds e
    refine ⟨a, vs, e1, x.fr a _ e2 na, RepL.step x.step _ _ r, fun f => ?_, fun h => ?_, n0⟩
    · rcases x.newf a f with z | z
      · exact n z
      · have z' : H a = none := z
        rw [e2] at z'
        cases z'
    · rcases x.newa a h with z | z
      · exact na z
      · have z' : H a = none := z
        rw [e2] at z'
        cases z'
  dist := l.dist
theorem Sim.call (x : Sim G B st as fz σ H) (y : SimB ⟨H, as, fz⟩ as' fz' H') (c : SimC G t' as' fz' H') : Sim G B { st with sto := t' } as' fz' σ H' :=
  ⟨c, x.b.trans y fun _ h => x.c.live h, x.l.step y⟩
theorem Sim.grow (x : Sim G B st as fz σ H) (y : Grow fz H fz' H') : Sim G B st as fz' σ H' :=
  ⟨y.simC x.c, x.b.trans y.simB fun _ h => x.c.live h, x.l.step y.simB⟩
/-- a slot's own list is frozen -/
theorem Sim.freeze (x : Sim G B st as fz σ H) {i : Nat} {ds : List D} (e : st.loc[i]? = some (.own ds)) :
    ∃ (a : Addr) (fz' : Addr → Prop), σ[i]? = some (some (.ref a)) ∧ Step as fz H as fz' H ∧ RepD G as fz' H (.ref a) (.lst ds) ∧ Sim G B { st with loc := st.loc.set i (.val (.lst ds)) } as fz' σ H := by
  obtain ⟨a, vs, e1, e2, r, n, na, n0⟩ := x.l.own i ds e
  have hi : i < st.loc.length := (List.getElem?_eq_some_iff.mp e).1
  have stp : Step as fz H as (fun b => fz b ∨ b = a) H := ⟨fun _ _ e _ => e, fun _ _ e => e, fun _ _ _ e => e, fun _ _ _ e => e, fun _ e => e, ⟨[], by simp⟩, fun _ h => .inl h, fun _ h => .inl h⟩
  have rd : RepD G as (fun b => fz b ∨ b = a) H (.ref a) (.lst ds) := .lst (.inr rfl) e2 (RepL.step stp _ _ r)
  refine ⟨a, fun b => fz b ∨ b = a, e1, stp, rd, ⟨?_, ?_, ?_⟩⟩
  · refine ⟨x.c.nd, x.c.len, fun j c b h1 h2 => ?_, fun b h => ?_⟩
    · have z := x.c.at_ j c b h1 h2
      obtain ⟨o, vs, e, sh, r⟩ := z
      exact ⟨o, vs, e, sh, RepL.step stp _ _ r⟩
    · rcases h with h | rfl
      · exact x.c.frz b h
      · exact ⟨na, by rw [e2]; simp⟩
  · exact ⟨x.b.fr, x.b.tups, x.b.frzs, x.b.fzs, x.b.there, x.b.pre, x.b.newa, fun b h => .inl (x.b.fzm b h), fun b h => by
      rcases h with h | rfl
      · exact x.b.newf b h
      · exact .inr n0⟩
  · refine ⟨by rw [List.length_set]; exact x.l.len, fun j d h => ?_, fun j es h => ?_, fun j k es fs b hjk h1 h2 h3 => ?_⟩
    · by_cases hj : i = j
      · subst hj
        rw [List.getElem?_set_self hi] at h
        cases h
        exact ⟨_, e1, rd⟩
      · rw [List.getElem?_set_ne hj] at h
        obtain ⟨v, e3, r3⟩ := x.l.val j d h
        exact ⟨v, e3, RepD.step stp _ _ r3⟩
    · by_cases hj : i = j
      · subst hj
        rw [List.getElem?_set_self hi] at h
        cases h
      · rw [List.getElem?_set_ne hj] at h
        obtain ⟨b, us, e3, e4, r3, m, mb, m0⟩ := x.l.own j es h
        refine ⟨b, us, e3, e4, RepL.step stp _ _ r3, fun f => ?_, mb, m0⟩
        rcases f with f | rfl
        · exact m f
        · exact x.l.dist i j ds es _ hj e h e1 e3
    · have d1 : i ≠ j := fun q => by subst q; rw [List.getElem?_set_self hi] at h1; cases h1
      have d2 : i ≠ k := fun q => by subst q; rw [List.getElem?_set_self hi] at h2; cases h2
      rw [List.getElem?_set_ne d1] at h1
      rw [List.getElem?_set_ne d2] at h2
      exact x.l.dist j k es fs b hjk h1 h2 h3
/-- a new thing that is not frozen -/
theorem grow_new {p : Addr} {o : HO} (n : H p = none) : Grow fz H fz (upd H p o) :=
  ⟨fun b u e => by rw [upd_ne (ne_of_none e n)]; exact e, fun _ e => e, fun _ e => .inl e⟩
/-- a new list that is frozen at once -/
theorem grow_frz {p : Addr} {o : HO} (n : H p = none) : Grow fz H (fun b => fz b ∨ b = p) (upd H p o) :=
  ⟨fun b u e => by rw [upd_ne (ne_of_none e n)]; exact e, fun _ e => .inl e, fun a e => by
    rcases e with e | rfl
    · exact .inl e
    · exact .inr ⟨n, by rw [upd_same]; simp⟩⟩
/-- what a primitive hands back is a datum, behind a growth -/
theorem ResR.grow {v : V} {r : D} (h : ResR G as fz H v r H') : ∃ fz', Grow fz H fz' H' ∧ RepD G as fz' H' v r := by
  rcases h with ⟨rfl, h⟩ | ⟨p, vs, ds, n, rfl, rfl, rfl, h⟩ | ⟨p, vs, ds, n, rfl, rfl, rfl, h⟩
  · exact ⟨fz, .refl, h⟩
  · exact ⟨fz, grow_new n, .tup (.of upd_same) (RepL.step (grow_new (fz := fz) n).simB.step _ _ h)⟩
  · exact ⟨_, grow_frz n, .lst (.inr rfl) upd_same (RepL.step (grow_frz (fz := fz) n).simB.step _ _ h)⟩
/-- an operand is readable -/
theorem RepO.repR {v : V} {d : D} (h : RepO G as fz H v d) : RepR G as fz H v d := by
  cases h with
  | dat r => exact .dat r
  | lst n e r => exact .lst e r
/-- a list cell is readable -/
theorem RepR.deref {v : V} {d : D} (h : RepR G as fz H v d) (c : SimC G t as fz H) : RepR G as fz H v (deref t d) := by
  unfold MP.deref
  split
  · rename_i i
    cases h with
    | dat r =>
      cases r with
      | ref e =>
        split
        · rename_i xs e2
          obtain ⟨vs, e3, r⟩ := (c.at_ i _ _ e2 e).lst
          exact .lst e3 r
        · exact .dat (.ref e)
  · exact h
theorem RepOs.repRs {vs : List V} {ds : List D} (h : RepOs G as fz H vs ds) (c : SimC G t as fz H) : RepRs G as fz H vs (ds.map (deref t)) := by
  induction h with
  | nil => exact .nil
  | cons a _ ih => exact .cons (a.repR.deref c) ih
theorem RepL.get2 {ds : List D} {vs : List V} (h : RepL G as fz H vs ds) {i : Nat} {v : V} (e : vs[i]? = some v) : ∃ d, ds[i]? = some d ∧ RepD G as fz H v d := by
  have hi := (List.getElem?_eq_some_iff.mp e).1
  rw [h.length] at hi
  obtain ⟨w, e2, r⟩ := h.get (List.getElem?_eq_getElem hi)
  rw [e] at e2
  cases e2
  exact ⟨_, List.getElem?_eq_getElem hi, r⟩
end
end MP
end
section
set_option Elab.async false
set_option linter.all false
set_option maxRecDepth 100000
set_option maxHeartbeats 2000000
/-! MP: a def's promise where no repr is under way, and calls of such defs -/
namespace MP
open PySem PySem.Spec PyProof.Rows L2

structure FnG (P : Program) (w : World) (K : PySem.W.Frag) (mg : Str → Option Value) (base : Heap) (k : Nat) (f : Addr) (fd : FuncData) (ps : List Str) (sp : Sp) : Prop where
  len : ∀ vs H Q E, sp vs H Q E → vs.length = ps.length
  run : ∀ (A : Around) (outer : List Env) (s : Shared) (H : Hp) (args : Args) (us : List Value) (vs : List V) (Q : VK) (E : XK), A.guards = some [] → Room k A → Env0 P w K mg base A outer s H → BindsTo s fd args (ps.zip us) → Vals vs us → sp vs H Q E →
    codeAny (model P w) A (.call (.ref f) args) (CR (L2N.CX P w) outer P w H s Q E) s
theorem deeper_guards {A : Around} (h : A.guards = some []) (env : Env) : (A.deeper env).guards = some [] := by
  show A.guards = some []
  exact h
/-- a def of the text, by its body -/
theorem fnG_of {P : Program} {w : World} {K : PySem.W.Frag} {mg : Str → Option Value} {base : Heap} {k : Nat} {f : Addr} {name qual : Str} {params : Arguments} {body : List Stmt} {scope : Scope} {dV kV doc pm cdv ct oc : Value} {an od : Option Addr}
    {osl : Array (Option Value)} {N ps : List Str} {sp : Sp} (lk : K.lookup f = some ⟨oc, od, .func (PySem.W.fnOf name qual params body scope dV kV doc pm an cdv ct), osl⟩) (hcd : PySem.W.codeIn K cdv qual = true) (Sc : FnScope N ps scope)
    (len : ∀ vs H Q E, sp vs H Q E → vs.length = ps.length)
    (hbody : ∀ (A : Around) (outer : List Env) (s : Shared) (H : Hp) (vs : List V) (Q : VK) (E : XK), A.guards = some [] → Room k (A.deeper (envOfC qual scope s.heap.objs.size f cdv)) → sp vs H Q E →
      ∃ t, L2.PSs (cxOf (L2N.CX P w) P w K mg base N qual scope f cdv A outer s H E) body t ∧ t { nx := fun _ H' => Q .non H', rt := Q } (start N vs) H) :
    FnG P w K mg base (k + 1) f (PySem.W.fnOf name qual params body scope dV kV doc pm an cdv ct) ps sp := by
  constructor
  · exact len
  intro A outer s H args us vs Q E hg hr e0 hb rv hsp
  have lv := len _ _ _ _ hsp
  have kin : K.In s.heap := e0.mod.kin.keeps fun b o e => (e0.bs b o e).1
  have nolim : s.heap.NoLimit := e0.mod.nolimit.keeps fun b o e => (e0.bs b o e).1
  have kinds : ∀ y ∈ ps.zip us, scope.names.lookup y.1 = some .local ∨ (scope.names.lookup y.1 = some .cell ∧ ((cellsFrom (s.heap.objs.size + 1) scope.names []).lookup y.1).isSome = true) := by
    rintro ⟨n, v⟩ hy
    exact (Sc.par n (List.of_mem_zip hy).1).imp id fun q => ⟨q, PySem.W.cellsFrom_some _ _ _ (.inl q)⟩
  refine codeAny_call_function hr.depth (kin _ _ lk) rfl Sc.co Sc.gen rfl (PySem.W.codeRec_of kin hcd) (hb _ _ _ _ (wpAny_newFunctionEnv_cells Sc.kind kinds fun env he s1 x => ?_))
  cases he
  refine ⟨nolim.keeps x.toInCall.keep, codeAny_func ?_⟩
  obtain ⟨t, ht, hq⟩ := hbody A outer s H vs Q E hg (hr.deeper _) hsp
  have J := inv_start (CX := L2N.CX P w) (E := E) (qual := qual) (f := f) (cd := cdv) Sc hr.hd e0 lv rv x
  refine wpAny_mono (ht.run [] s1 (start N vs) H _ J hq) ?_ fun _ _ z => z
  intro fl s' hs
  cases fl with
  | next =>
    obtain ⟨σ', H', I', q⟩ := hs
    exact ⟨V.non, H', I'.os, I'.bare, I'.base, I'.hok, rfl, q⟩
  | ret u =>
    obtain ⟨v, σ', H', I', r', q⟩ := hs
    exact ⟨v, H', I'.os, I'.bare, I'.base, I'.hok, r', q⟩
  | brk => exact hs.elim fun _ h => h.elim fun _ h => h.2.elim
  | cont => exact hs.elim fun _ h => h.elim fun _ h => h.2.elim
section
variable {X : Cx} {k : Nat} {f : Addr} {fd : FuncData} {ps : List Str} {sp : Sp} {E : L2.St → XK}
/-- such a def is called with values -/
theorem runG {pins : List (Addr × Obj)} {σ : L2.St} {H : Hp} {s : Shared} {Q : VK} {us : List Value} {vs : List V} (F : FnG X.prog X.w X.K X.mg X.base k f fd ps sp) (hg : X.A.guards = some []) (hr : Room k X.A) (hb : Binds X.K fd ps [])
    (hx : PassesAt (L2N.CX X.prog X.w) X σ (E σ)) (I : Inv X pins σ H s) (r : Vals vs us) (h : sp vs H Q (E σ)) : wpAny (model X.prog X.w) X.A (call (.ref f) us) (EP X pins σ Q) X.xe s := by
  have hl : us.length = ps.length := by
    rw [← r.length]
    exact F.len _ _ _ _ h
  have bt := hb s us I.kIn (by rw [List.append_nil]; exact hl)
  rw [List.append_nil] at bt
  refine wpAny_call (codeAny_mono (F.run X.A X.stack s H ⟨us, []⟩ us vs Q (E σ) hg hr I.env0 bt r h) ?_)
  intro res s' hq
  cases res with
  | error e => exact hx pins H s e s' I hq
  | ok fl =>
    cases fl with
    | ret u => exact I.after hq
    | next => exact hq.elim
    | brk => exact hq.elim
    | cont => exact hq.elim
end
end MP
end
section
set_option Elab.async false
set_option linter.all false
set_option maxRecDepth 100000
set_option maxHeartbeats 2000000
/-! MP: readings of expressions by the interpreter -/
namespace MP
open PySem PySem.Spec PyProof.Rows L2

/-- what an evaluation leaves behind -/
def Post (G : Gd) (B : Base) (W : WX) (σ : L2.St) {α : Type} (o : Out α) (R : α → S → List Addr → (Addr → Prop) → Hp → Prop) (as : List Addr) (fz : Addr → Prop) (H : Hp) : Prop :=
  match o with
  | .ok d st' => ∀ as' fz' H', Step as fz H as' fz' H' → Sim G B st' as' fz' σ H' → R d st' as' fz' H'
  | .exc c t => ∀ as' fz' H', SimB B as' fz' H' → SimC G t as' fz' H' → W (.ref (G.ca c)) none σ H'
  | .bad => False
section
variable {G : Gd} {B : Base} {W : WX} {σ : L2.St} {α β : Type} {as : List Addr} {fz : Addr → Prop} {H : Hp}
theorem Post.mono {o : Out α} {R R' : α → S → List Addr → (Addr → Prop) → Hp → Prop} (h : Post G B W σ o R as fz H) (k : ∀ d st' as' fz' H', Step as fz H as' fz' H' → Sim G B st' as' fz' σ H' → R d st' as' fz' H' → R' d st' as' fz' H') : Post G B W σ o R' as fz H := by
  cases o with
  | ok d st' => exact fun as' fz' H' s m => k _ _ _ _ _ s m (h as' fz' H' s m)
  | exc c t => exact h
  | bad => exact h
theorem Post.bind {o : Out α} {f : α → S → Out β} {R : β → S → List Addr → (Addr → Prop) → Hp → Prop} (h : Post G B W σ (o.bind f) R as fz H) :
    Post G B W σ o (fun d st' as' fz' H' => Post G B W σ (f d st') (fun e st2 as2 fz2 H2 => R e st2 as2 fz2 H2) as' fz' H') as fz H := by
  cases o with
  | ok d st' =>
    intro as' fz' H' s m
    have h : Post G B W σ (f d st') R as fz H := h
    revert h
    cases f d st' with
    | ok e st2 => exact fun h as2 fz2 H2 s2 m2 => h as2 fz2 H2 (s.trans s2) m2
    | exc c t => exact fun h => h
    | bad => exact fun h => h
  | exc c t => exact h
  | bad => exact h
/-- the reading of an evaluation, the things read through Rp -/
def tX {ρ : Type} (Rp : List Addr → (Addr → Prop) → Hp → ρ → α → Prop) (G : Gd) (W : WX) (m : S → Out α) : L2.St → Hp → (ρ → Hp → Prop) → Prop :=
  fun σ H Q => ∃ B as fz st, Sim G B st as fz σ H ∧ Post G B W σ (m st) (fun d _ as' fz' H' => ∀ v, Rp as' fz' H' v d → Q v H') as fz H
abbrev tI (G : Gd) (W : WX) (m : S → Out D) : TE := tX (RepD G) G W m
abbrev tO (G : Gd) (W : WX) (m : S → Out D) : TE := tX (RepO G) G W m
abbrev tL (G : Gd) (W : WX) (m : S → Out (List D)) : TA := tX (RepL G) G W m
abbrev tOs (G : Gd) (W : WX) (m : S → Out (List D)) : TA := tX (RepOs G) G W m
/-- one operand -/
def ev1 (cf : CF) : PE → S → Out D
  | .peek i, s => rdPeek i s
  | p, s => evalE cf p s
theorem evalO_cons (cf : CF) (e : PE) (r : PL) (s : S) : evalO cf (.cons e r) s = (ev1 cf e s).bind fun d s' => (evalO cf r s').bind fun ds s'' => .ok (d :: ds) s'' := by
  cases e <;> simp only [evalO, ev1]
theorem evalO_nil (cf : CF) (s : S) : evalO cf .nil s = .ok [] s := by simp only [evalO]
theorem evalL_cons (cf : CF) (e : PE) (r : PL) (s : S) : evalL cf (.cons e r) s = (evalE cf e s).bind fun d s' => (evalL cf r s').bind fun ds s'' => .ok (d :: ds) s'' := by simp only [evalL]
theorem evalL_nil (cf : CF) (s : S) : evalL cf .nil s = .ok [] s := by simp only [evalL]

section
variable {cf : CF} {Q : List V → Hp → Prop}
theorem os_nil (h : tOs G W (evalO cf .nil) σ H Q) : Q [] H := by
  obtain ⟨B, as, fz, st, sim, p⟩ := h
  rw [evalO_nil] at p
  exact p as fz H .refl sim _ .nil
theorem ls_nil (h : tL G W (evalL cf .nil) σ H Q) : Q [] H := by
  obtain ⟨B, as, fz, st, sim, p⟩ := h
  rw [evalL_nil] at p
  exact p as fz H .refl sim _ .nil
theorem os_cons {e : PE} {r : PL} (h : tOs G W (evalO cf (.cons e r)) σ H Q) : tO G W (ev1 cf e) σ H fun x H1 => tOs G W (evalO cf r) σ H1 fun xs H2 => Q (x :: xs) H2 := by
  obtain ⟨B, as, fz, st, sim, p⟩ := h
  rw [evalO_cons] at p
  refine ⟨B, as, fz, st, sim, p.bind.mono fun d st1 as1 fz1 H1 s1 m1 p1 v rv => ⟨B, as1, fz1, st1, m1, p1.bind.mono fun ds st2 as2 fz2 H2 s2 m2 p2 vs rvs => ?_⟩⟩
  exact p2 as2 fz2 H2 .refl m2 _ (.cons (rv.step s2) rvs)
theorem ls_cons {e : PE} {r : PL} (h : tL G W (evalL cf (.cons e r)) σ H Q) : tI G W (evalE cf e) σ H fun x H1 => tL G W (evalL cf r) σ H1 fun xs H2 => Q (x :: xs) H2 := by
  obtain ⟨B, as, fz, st, sim, p⟩ := h
  rw [evalL_cons] at p
  refine ⟨B, as, fz, st, sim, p.bind.mono fun d st1 as1 fz1 H1 s1 m1 p1 v rv => ⟨B, as1, fz1, st1, m1, p1.bind.mono fun ds st2 as2 fz2 H2 s2 m2 p2 vs rvs => ?_⟩⟩
  exact p2 as2 fz2 H2 .refl m2 _ (.cons (RepD.step s2 _ _ rv) rvs)
end
/-- a primitive behind its operands -/
theorem prim_post {p : Prim} {m : S → Out (List D)} {Q : VK} (h : tI G W (fun s => (m s).bind fun ds s' => toOut (prim p (ds.map (deref s'.sto))) s') σ H Q) : tOs G W m σ H fun xs H1 => rPL G p xs H1 Q := by
  obtain ⟨B, as, fz, st, sim, h⟩ := h
  refine ⟨B, as, fz, st, sim, h.bind.mono fun ds st1 as1 fz1 H1 s1 m1 p1 vs rvs => ?_⟩
  cases e : prim p (ds.map (deref st1.sto)) with
  | none => rw [e] at p1; exact p1.elim
  | some r =>
    rw [e] at p1
    refine ⟨as1, fz1, _, r, rvs.repRs m1.c, e, fun v H' rr => ?_⟩
    obtain ⟨fz2, g, rd⟩ := rr.grow
    exact p1 as1 fz2 H' g.simB.step (m1.grow g) v rd
theorem rPL_1 {p : Prim} {x : V} {Q : VK} (h : rPL G p [x] H Q) : rP1 G p x H Q := by
  obtain ⟨as, fz, ds, r, rs, e, q⟩ := h
  cases rs with
  | cons a rs =>
    cases rs
    exact ⟨as, fz, _, r, a, e, q⟩
theorem rPL_2 {p : Prim} {x y : V} {Q : VK} (h : rPL G p [x, y] H Q) : rP2 G p x y H Q := by
  obtain ⟨as, fz, ds, r, rs, e, q⟩ := h
  cases rs with
  | cons a rs =>
    cases rs with
    | cons b rs =>
      cases rs
      exact ⟨as, fz, _, _, r, a, b, e, q⟩
end
section
variable {X : Cx} {e : Expr}
theorem PEimp {t T : TE} (h : L2.PE X e T) (k : ∀ σ H Q, t σ H Q → T σ H Q) : L2.PE X e t := ⟨fun pins s σ H Q I q => h.run pins s σ H Q I (k _ _ _ q)⟩
theorem PTimp {t T : TT} (h : L2.PT X e T) (k : ∀ σ H Q, t σ H Q → T σ H Q) : L2.PT X e t := ⟨fun pins s σ H Q I q => h.run pins s σ H Q I (k _ _ _ q)⟩
theorem PAimp {es : List Expr} {t T : TA} (h : L2.PA X es T) (k : ∀ σ H Q, t σ H Q → T σ H Q) : L2.PA X es t := ⟨fun pos pins s σ H Q I q => h.run pos pins s σ H Q I (k _ _ _ q)⟩
end
def starred : Expr → Bool
  | .Starred _ _ => true
  | _ => false
theorem star_cons {e : Expr} {es : List Expr} {env : Env} (h : starred e = false) : starEach (e :: es) env = (false, eval e env) :: starEach es env := by
  cases e <;> first | rfl | exact absurd h (by simp [starred])
def noStar (es : List Expr) : Bool := es.all fun e => !starred e
theorem noStar_any : ∀ {es : List Expr} {env : Env} {pos : Pos}, noStar es = true → (backTo pos (starEach es env)).any (·.1) = false
  | [], _, _, _ => rfl
  | e :: es, env, pos, h => by
    have h' : (!starred e && noStar es) = true := h
    rw [Bool.and_eq_true] at h'
    rw [star_cons (by simpa using h'.1)]
    have := noStar_any (env := env) (pos := pos) h'.2
    show (false || (backTo pos (starEach es env)).any (·.1)) = false
    rw [this]; rfl
/-- the operands, one by one -/
inductive PEs (X : Cx) (G : Gd) (W : WX) (cf : CF) : List Expr → PL → Prop where
  | nil : PEs X G W cf [] .nil
  | cons {e : Expr} {p : PE} {es : List Expr} {ps : PL} (n : starred e = false) (h : L2.PE X e (tO G W (ev1 cf p))) (r : PEs X G W cf es ps) : PEs X G W cf (e :: es) (.cons p ps)
inductive PVs (X : Cx) (G : Gd) (W : WX) (cf : CF) : List Expr → PL → Prop where
  | nil : PVs X G W cf [] .nil
  | cons {e : Expr} {p : PE} {es : List Expr} {ps : PL} (n : starred e = false) (h : L2.PE X e (tI G W (evalE cf p))) (r : PVs X G W cf es ps) : PVs X G W cf (e :: es) (.cons p ps)
section
variable {X : Cx} {G : Gd} {W : WX} {cf : CF} {es : List Expr} {ps : PL}
theorem PEs.pa (h : PEs X G W cf es ps) : L2.PA X es (tOs G W (evalO cf ps)) := by
  induction h with
  | nil => exact PAimp pa_nil fun σ H Q q => os_nil q
  | cons n h _ ih => exact PAimp (pa_cons h ih (star_cons n)) fun σ H Q q => os_cons q
theorem PVs.pa (h : PVs X G W cf es ps) : L2.PA X es (tL G W (evalL cf ps)) := by
  induction h with
  | nil => exact PAimp pa_nil fun σ H Q q => ls_nil q
  | cons n h _ ih => exact PAimp (pa_cons h ih (star_cons n)) fun σ H Q q => ls_cons q
theorem PEs.noStar (h : PEs X G W cf es ps) : noStar es = true := by
  induction h with
  | nil => rfl
  | cons n h _ ih =>
    show (!starred _ && MP.noStar _) = true
    rw [n, ih]
    rfl
theorem PVs.noStar (h : PVs X G W cf es ps) : MP.noStar es = true := by
  induction h with
  | nil => rfl
  | cons n h _ ih =>
    show (!starred _ && MP.noStar _) = true
    rw [n, ih]
    rfl
end
end MP
end
section
set_option Elab.async false
set_option linter.all false
set_option maxRecDepth 100000
set_option maxHeartbeats 2000000
/-! MP: the text of a primitive's application, and the rules -/
namespace MP
open PySem PySem.Spec PyProof.Rows L2

/-- the promise of the f-th def, as the interpreter tells it -/
def spI (G : Gd) (cf : CF) (f : Nat) : Sp := fun vs H Q E => ∃ ds as fz t, RepL G as fz H vs ds ∧ SimC G t as fz H ∧ match cf f ds t with
  | .ok d t' => ∀ as' fz' H' v, SimB ⟨H, as, fz⟩ as' fz' H' → SimC G t' as' fz' H' → RepD G as' fz' H' v d → Q v H'
  | .exc c t' => ∀ as' fz' H', SimB ⟨H, as, fz⟩ as' fz' H' → SimC G t' as' fz' H' → E (.ref (G.ca c)) none H'
  | .bad => False
/-- what the text says of names -/
structure SE where
  N : List Str
  sc : Scope
  fn : Str → Bool
/-- a class: its name, its fields, its methods by their defs, its __init__ -/
structure CInf where
  name : Str
  flds : List Str
  mths : List (Str × Nat)
  ini : Nat
/-- a name of the module, not of a class -/
def glN (x : Str) : Bool := decide ((46 : Nat) ∉ x.cps.toList)
structure Tab where
  fns : List Str
  globs : List (Str × D)
  blts : List Str
  excs : List Str
  /-- names that stand for math.gcd -/
  mods : List Str
  clss : List CInf := []
structure Cok (T : Tab) (G : Gd) (cf : CF) (n : Nat) (se : SE) (X : Cx) : Prop where
  K : G.K = X.K
  N : X.N = se.N
  nd : se.N.Nodup
  sc : X.env.scope = se.sc
  fn : ∀ x, se.fn x = true → X.fn x = true
  calm : X.calm = true
  room : Room (n + 1) X.A
  gd : X.A.guards = some []
  fns : ∀ i x, T.fns[i]? = some x → ∃ fd ps, (glN x = true → X.mg x = some (.ref (G.fa i))) ∧ PySem.W.keepIn X.K (.ref (G.fa i)) = true ∧ Binds X.K fd ps [] ∧ FnG X.prog X.w X.K X.mg X.base n (G.fa i) fd ps (spI G cf i)
  fnk : ∀ i, PySem.W.keepIn X.K (.ref (G.fa i)) = true
  globs : ∀ x d, (x, d) ∈ T.globs → ∃ u v, X.mg x = some u ∧ RelV v u ∧ ∀ as fz H, RepD G as fz H v d
  blts : ∀ x, x ∈ T.blts → X.mg x = none
  mods : ∀ x, x ∈ T.mods → X.mg x = some (.builtin "math.gcd")
  clss : ∀ i cd, T.clss[i]? = some cd → Cls X.K (G.cc i) ∧ (∀ x, x ∈ cd.flds → NoAttr X.K (G.cc i) x) ∧ (∀ m f, (m, f) ∈ cd.mths → Meth X.K (G.cc i) m (G.fa f)) ∧ Mk X.K (G.cc i) (G.fa cd.ini) ∧ X.mg cd.name = some (.ref (G.cc i))
def visN (se : SE) (x : Str) : Bool := match se.sc.names.lookup x with
  | some .local => true
  | some .cell => true
  | some .free => true
  | _ => false
def gloN (se : SE) (x : Str) : Bool := match se.sc.names.lookup x with
  | some .globalImplicit => true
  | _ => false
def locN (se : SE) (x : Str) : Bool := match se.sc.names.lookup x with
  | some .local => true
  | some .cell => se.fn x
  | _ => false
def okName (x : Str) : Bool := decide ((x == ("__debug__" : Str)) = false) && decide ((x == ("__classdict__" : Str)) = false) && decide (x ≠ "__name__")
section
variable {T : Tab} {G : Gd} {cf : CF} {n : Nat} {se : SE} {X : Cx}
theorem Cok.vis (c : Cok T G cf n se X) {x : Str} (h : visN se x = true) : Vis X.env.scope x := by
  rw [c.sc]
  unfold visN at h
  unfold Vis
  split at h <;> simp_all
theorem Cok.glo (c : Cok T G cf n se X) {x : Str} (h : gloN se x = true) : Gl X x := by
  unfold Gl Env.kindOf
  rw [c.sc]
  unfold gloN at h
  split at h <;> simp_all
theorem Cok.loc (c : Cok T G cf n se X) {x : Str} (h : locN se x = true) : L2.Loc X.env.scope x ∧ (X.fn x = true ∨ X.env.scope.names.lookup x = some .local) := by
  rw [c.sc]
  unfold locN at h
  unfold L2.Loc
  split at h
  · rename_i e; exact ⟨.inl e, .inr e⟩
  · rename_i e; exact ⟨.inr e, .inl (c.fn _ h)⟩
  · cases h
theorem Cok.u65 (c : Cok T G cf n se X) : X.A.units + 65 < cLine := by have := c.room.un; omega
theorem Cok.u70 (c : Cok T G cf n se X) : X.A.units + 70 < cLine := by have := c.room.un; omega
theorem okName_d {x : Str} (h : okName x = true) : (x == ("__debug__" : Str)) = false ∧ (x == ("__classdict__" : Str)) = false ∧ x ≠ "__name__" := by
  unfold okName at h
  simp only [Bool.and_eq_true, decide_eq_true_eq] at h
  exact ⟨h.1.1, h.1.2, h.2⟩
end
def opOf : Prim → Option Operator
  | .add => some .Add
  | .sub => some .Sub
  | .mul => some .Mult
  | .fdiv => some .FloorDiv
  | .mod => some .Mod
  | .pow => some .Pow
  | .shl => some .LShift
  | _ => none
def cmpOf : Prim → Option CmpOp
  | .eq => some .Eq
  | .ne => some .NotEq
  | .lt => some .Lt
  | .le => some .LtE
  | .gt => some .Gt
  | .ge => some .GtE
  | .isIn => some .In
  | .notIn => some .NotIn
  | _ => none
def bltOf : Prim → Option Str
  | .len => some "len"
  | .abs => some "abs"
  | .int1 => some "int"
  | .str1 => some "str"
  | .repr => some "repr"
  | .sum => some "sum"
  | .all => some "all"
  | .any => some "any"
  | .max2 => some "max"
  | .min2 => some "min"
  | .tuple => some "tuple"
  | .list => some "list"
  | .sorted => some "sorted"
  | _ => none
def isNoneC : Expr → Bool
  | .Constant .none _ _ => true
  | _ => false
def plainBase : Expr → Bool
  | .Call _ [] _ _ => false
  | _ => true
def plainIx : Expr → Bool
  | .Slice _ _ _ _ => false
  | _ => true
def isTupleName (T : Tab) (se : SE) : Expr → Bool
  | .Name y _ => decide (y = "tuple") && gloN se "tuple" && decide (("tuple" : Str) ∈ T.blts)
  | _ => false
/-- the operands of an application of p -/
def shape (T : Tab) (se : SE) (p : Prim) : Expr → Option (List Expr)
  | .BinOp a op b _ => if opOf p = some op then some [a, b] else none
  | .UnaryOp .USub a _ => if p = .neg then some [a] else none
  | .Compare a [op] [b] _ => match p with
    | .isNone => if op = .Is ∧ isNoneC b = true then some [a] else none
    | .notNone => if op = .IsNot ∧ isNoneC b = true then some [a] else none
    | _ => if cmpOf p = some op ∧ behindInMarks op b = false then some [a, b] else none
  | .Subscript a (.Slice lo hi st _) _ => match p, lo, hi, st with
    | .sl10, some l, none, none => some [a, l]
    | .sl01, none, some h, none => some [a, h]
    | .sl00, none, none, none => some [a]
    | .rev, none, none, some (.UnaryOp .USub (.Constant (.int 1) _ _) _) => some [a]
    | _, _, _, _ => none
  | .Subscript a b _ => if p = .item ∧ plainIx b = true then some [a, b] else none
  | .Call (.Name f _) args [] _ => match p, args with
    | .gcd, [a, b] => if f ∈ T.mods ∧ gloN se f = true ∧ (f == ("__debug__" : Str)) = false then some [a, b] else none
    | .sortedSet, [.Call (.Name g _) [x] [] _] => if (f = "sorted" ∧ g = "set") ∧ (gloN se "sorted" = true ∧ ("sorted" : Str) ∈ T.blts) ∧ (gloN se "set" = true ∧ ("set" : Str) ∈ T.blts) ∧ starred x = false then some [x] else none
    | .isTup, [a, t] => if f = "isinstance" ∧ gloN se "isinstance" = true ∧ ("isinstance" : Str) ∈ T.blts ∧ isTupleName T se t = true then some [a] else none
    | p, a :: r => if bltOf p = some f ∧ gloN se f = true ∧ f ∈ T.blts then some (a :: r) else none
    | _, _ => none
  | _ => none
theorem plainIx_ok {b : Expr} (h : plainIx b = true) : PlainIx b := by
  intro o i
  cases b <;> first | rfl | exact absurd h (by simp [plainIx])
theorem plainBase_ok {o : Expr} {m : Str} {env : Env} {w : Sem Value} (h : plainBase o = true) : attributeBase o m env w = w := by
  cases o with
  | Call f args kws pos =>
    cases args with
    | nil => exact absurd h (by simp [plainBase])
    | cons a r => cases f <;> rfl
  | _ => rfl
/-- the reading of p behind its operands -/
abbrev evP (cf : CF) (p : Prim) (ps : PL) : S → Out D := fun s => (evalO cf ps s).bind fun ds s' => toOut (prim p (ds.map (deref s'.sto))) s'
theorem evalE_prim (cf : CF) (p : Prim) (ps : PL) : evalE cf (.prim p ps) = evP cf p ps := by
  funext s
  simp only [evalE, evP]
section
variable {T : Tab} {G : Gd} {cf : CF} {n : Nat} {se : SE} {X : Cx} {W : WX} {σ : L2.St} {H : Hp} {Q : VK} {p : Prim} {ps : PL}
theorem t_P1 {a : PE} (h : tI G W (evP cf p (.cons a .nil)) σ H Q) : tO G W (ev1 cf a) σ H fun x H1 => rP1 G p x H1 Q := by
  have h := os_cons (prim_post h)
  obtain ⟨B, as, fz, st, sim, q⟩ := h
  exact ⟨B, as, fz, st, sim, q.mono fun d st1 as1 fz1 H1 s1 m1 p1 v rv => rPL_1 (os_nil (p1 v rv))⟩
theorem t_P2 {a b : PE} (h : tI G W (evP cf p (.cons a (.cons b .nil))) σ H Q) : tO G W (ev1 cf a) σ H fun x H1 => tO G W (ev1 cf b) σ H1 fun y H2 => rP2 G p x y H2 Q := by
  have h := os_cons (prim_post h)
  obtain ⟨B, as, fz, st, sim, q⟩ := h
  refine ⟨B, as, fz, st, sim, q.mono fun d st1 as1 fz1 H1 s1 m1 p1 v rv => ?_⟩
  obtain ⟨B', as', fz', st', sim', q'⟩ := os_cons (p1 v rv)
  exact ⟨B', as', fz', st', sim', q'.mono fun d st1 as1 fz1 H1 s1 m1 p1 v rv => rPL_2 (os_nil (p1 v rv))⟩
theorem t_P3 {a b c : PE} (h : tI G W (evP cf p (.cons a (.cons b (.cons c .nil)))) σ H Q) : tO G W (ev1 cf a) σ H fun x H1 => tO G W (ev1 cf b) σ H1 fun y H2 => tO G W (ev1 cf c) σ H2 fun z H3 => rPL G p [x, y, z] H3 Q := by
  have h := os_cons (prim_post h)
  obtain ⟨B, as, fz, st, sim, q⟩ := h
  refine ⟨B, as, fz, st, sim, q.mono fun d st1 as1 fz1 H1 s1 m1 p1 v rv => ?_⟩
  obtain ⟨B', as', fz', st', sim', q'⟩ := os_cons (p1 v rv)
  refine ⟨B', as', fz', st', sim', q'.mono fun d st1 as1 fz1 H1 s1 m1 p1 v rv => ?_⟩
  obtain ⟨B', as', fz', st', sim', q'⟩ := os_cons (p1 v rv)
  exact ⟨B', as', fz', st', sim', q'.mono fun d st1 as1 fz1 H1 s1 m1 p1 v rv => os_nil (p1 v rv)⟩
theorem o_bin (hK : G.K = X.K) {op : Operator} (h : opOf p = some op) : OpR X (binaryOp op) (rP2 G p) := by
  cases p <;> simp only [opOf, Option.some.injEq, reduceCtorEq] at h
  all_goals subst h
  · exact o_add hK
  · exact o_sub hK
  · exact o_mul hK
  · exact o_fdiv hK
  · exact o_mod hK
  · exact o_pow hK
  · exact o_shl hK
theorem o_cmp (c : Cok T G cf n se X) {op : CmpOp} (h : cmpOf p = some op) : OpR X (compareOp op) (rP2 G p) := by
  cases p <;> simp only [cmpOf, Option.some.injEq, reduceCtorEq] at h
  all_goals subst h
  · exact o_eq c.K c.u65
  · exact o_ne c.K c.u65
  · exact o_lt c.K c.u65
  · exact o_le c.K
  · exact o_gt c.K
  · exact o_ge c.K
  · exact o_in c.K c.u65
  · exact o_notIn c.K c.u65
/-- both judgements -/
def Both (X : Cx) (e : Expr) (t : TE) : Prop := L2.PE X e t ∧ L2.PT X e (tB t)
theorem both_bin (c : Cok T G cf n se X) {a b : Expr} {op : Operator} {pos : Pos} (h : opOf p = some op) (q : PEs X G W cf [a, b] ps) : Both X (.BinOp a op b pos) (tI G W (evP cf p ps)) := by
  cases q with
  | cons n1 h1 q =>
    cases q with
    | cons n2 h2 q =>
      cases q
      have z : L2.PE X (.BinOp a op b pos) (tI G W (evP cf p _)) := PEimp (pe_op (o_bin c.K h) h1 h2) fun σ H Q hh => t_P2 hh
      exact ⟨z, pt_val z⟩
theorem both_cmp (c : Cok T G cf n se X) {a b : Expr} {op : CmpOp} {pos : Pos} (h : cmpOf p = some op) (hb : behindInMarks op b = false) (q : PEs X G W cf [a, b] ps) : Both X (.Compare a [op] [b] pos) (tI G W (evP cf p ps)) := by
  cases q with
  | cons n1 h1 q =>
    cases q with
    | cons n2 h2 q =>
      cases q
      refine ⟨PEimp (pe_cmpR (o_cmp c h) h1 h2 hb) fun σ H Q hh => t_P2 hh, PTimp (pt_cmpR (o_cmp c h) h1 h2 hb) fun σ H Q hh => ?_⟩
      exact t_P2 hh
theorem tO_mono {m : S → Out D} {Q Q' : VK} (h : tO G W m σ H Q) (k : ∀ x H', Q x H' → Q' x H') : tO G W m σ H Q' := by
  obtain ⟨B, as, fz, st, sim, q⟩ := h
  exact ⟨B, as, fz, st, sim, q.mono fun d st1 as1 fz1 H1 s1 m1 p1 v rv => k _ _ (p1 v rv)⟩
theorem tI_mono {m : S → Out D} {Q Q' : VK} (h : tI G W m σ H Q) (k : ∀ x H', Q x H' → Q' x H') : tI G W m σ H Q' := by
  obtain ⟨B, as, fz, st, sim, q⟩ := h
  exact ⟨B, as, fz, st, sim, q.mono fun d st1 as1 fz1 H1 s1 m1 p1 v rv => k _ _ (p1 v rv)⟩
theorem noneC_pe {b : Expr} (h : isNoneC b = true) : L2.PE X b (tC .non) := by
  unfold isNoneC at h
  split at h
  · exact pe_non
  · cases h
theorem noneC_mark {b : Expr} {op : CmpOp} (h : isNoneC b = true) : behindInMarks op b = false := by
  unfold isNoneC at h
  split at h
  · rfl
  · cases h
theorem both_isN {a b : Expr} {pos : Pos} (hb : isNoneC b = true) (q : PEs X G W cf [a] ps) : Both X (.Compare a [.Is] [b] pos) (tI G W (evP cf .isNone ps)) := by
  cases q with
  | @cons _ pa _ _ n1 h1 q =>
    cases q
    have k : ∀ σ H Q, tI G W (evP cf .isNone (.cons pa .nil)) σ H Q → tOp (fun x y H Q => ∃ as fz d, RepR G as fz H x d ∧ y = .non ∧ ∀ v, RepD G as fz H v (.bl (!notNone d)) → Q v H) (tO G W (ev1 cf pa)) (tC .non) σ H Q := fun σ H Q hh => by
      refine tO_mono (t_P1 hh) fun x H1 hx => ?_
      obtain ⟨as, fz, d, r, rr, e, q⟩ := hx
      cases e
      exact ⟨as, fz, d, rr, rfl, fun v rv => q v H1 (.here rv)⟩
    exact ⟨PEimp (pe_cmpR (r := _) o_isN h1 (noneC_pe hb) (noneC_mark hb)) k, PTimp (pt_cmpR (r := _) o_isN h1 (noneC_pe hb) (noneC_mark hb)) fun σ H Q hh => k _ _ _ hh⟩
theorem both_notN {a b : Expr} {pos : Pos} (hb : isNoneC b = true) (q : PEs X G W cf [a] ps) : Both X (.Compare a [.IsNot] [b] pos) (tI G W (evP cf .notNone ps)) := by
  cases q with
  | @cons _ pa _ _ n1 h1 q =>
    cases q
    have k : ∀ σ H Q, tI G W (evP cf .notNone (.cons pa .nil)) σ H Q → tOp (fun x y H Q => ∃ as fz d, RepR G as fz H x d ∧ y = .non ∧ ∀ v, RepD G as fz H v (.bl (notNone d)) → Q v H) (tO G W (ev1 cf pa)) (tC .non) σ H Q := fun σ H Q hh => by
      refine tO_mono (t_P1 hh) fun x H1 hx => ?_
      obtain ⟨as, fz, d, r, rr, e, q⟩ := hx
      cases e
      exact ⟨as, fz, d, rr, rfl, fun v rv => q v H1 (.here rv)⟩
    exact ⟨PEimp (pe_cmpR (r := _) o_notN h1 (noneC_pe hb) (noneC_mark hb)) k, PTimp (pt_cmpR (r := _) o_notN h1 (noneC_pe hb) (noneC_mark hb)) fun σ H Q hh => k _ _ _ hh⟩
theorem both_neg (c : Cok T G cf n se X) {a : Expr} {pos : Pos} (q : PEs X G W cf [a] ps) : Both X (.UnaryOp .USub a pos) (tI G W (evP cf .neg ps)) := by
  cases q with
  | cons n1 h1 q =>
    cases q
    have z : L2.PE X (.UnaryOp .USub a pos) (tI G W (evP cf .neg _)) := PEimp (pe_un (o_neg c.K) h1) fun σ H Q hh => t_P1 hh
    exact ⟨z, pt_val z⟩
theorem both_item (c : Cok T G cf n se X) {a b : Expr} {pos : Pos} (hb : plainIx b = true) (q : PEs X G W cf [a, b] ps) : Both X (.Subscript a b pos) (tI G W (evP cf .item ps)) := by
  cases q with
  | cons n1 h1 q =>
    cases q with
    | cons n2 h2 q =>
      cases q
      have z : L2.PE X (.Subscript a b pos) (tI G W (evP cf .item _)) := PEimp (pe_ix (o_item c.K) h1 h2 (plainIx_ok hb)) fun σ H Q hh => t_P2 hh
      exact ⟨z, pt_val z⟩
theorem both_tup (c : Cok T G cf n se X) {es : List Expr} {k : Nat} {pos : Pos} (q : PVs X G W cf es ps) : Both X (.Tuple es k pos) (tI G W (evalE cf (.tup ps))) := by
  have z : L2.PE X (.Tuple es k pos) (tI G W (evalE cf (.tup ps))) := PEimp (pe_tup q.pa) fun σ H Q hh => by
    obtain ⟨B, as, fz, st, sim, q⟩ := hh
    simp only [evalE] at q
    refine ⟨B, as, fz, st, sim, q.bind.mono fun ds st1 as1 fz1 H1 s1 m1 p1 vs rvs => ?_⟩
    split at p1
    · rename_i hl
      refine ⟨by rw [rvs.length, sl_line]; omega, fun p hn => ?_⟩
      have g : Grow fz1 H1 fz1 (upd H1 p (.tup vs)) := grow_new hn
      exact p1 as1 fz1 _ g.simB.step (m1.grow g) _ (.tup (.of upd_same) (RepL.step g.simB.step _ _ rvs))
    · exact p1.elim
  exact ⟨z, pt_val z⟩
theorem both_lst (c : Cok T G cf n se X) {es : List Expr} {pos : Pos} (q : PVs X G W cf es ps) : Both X (.List es pos) (tI G W (evalE cf (.lst ps))) := by
  have z : L2.PE X (.List es pos) (tI G W (evalE cf (.lst ps))) := PEimp (pe_lst q.pa) fun σ H Q hh => by
    obtain ⟨B, as, fz, st, sim, q⟩ := hh
    simp only [evalE] at q
    refine ⟨B, as, fz, st, sim, q.bind.mono fun ds st1 as1 fz1 H1 s1 m1 p1 vs rvs => ?_⟩
    split at p1
    · rename_i hl
      refine ⟨by rw [rvs.length, sl_line]; omega, fun p hn => ?_⟩
      have g : Grow fz1 H1 (fun b => fz1 b ∨ b = p) (upd H1 p (.lst vs)) := grow_frz hn
      exact p1 as1 _ _ g.simB.step (m1.grow g) _ (.lst (.inr rfl) upd_same (RepL.step g.simB.step _ _ rvs))
    · exact p1.elim
  exact ⟨z, pt_val z⟩
/-- slices -/
theorem po_of {e : Expr} {p : PE} (h : L2.PE X e (tO G W (ev1 cf p))) : PO X (some e) (tPart (tO G W (ev1 cf p))) := po_some h
theorem int_of {as : List Addr} {fz : Addr → Prop} {d : D} {v : V} (h : RepR G as fz H v d) (hi : ∃ i, d = .int i) : ∃ i, v = .int i ∧ d = .int i := by
  obtain ⟨i, rfl⟩ := hi
  exact ⟨i, h.int, rfl⟩
theorem slD_10 {d : D} {i : Int} {r : D} (h : prim .sl10 [d, .int i] = some r) : slD d (some i) none = some r := by
  simp only [prim] at h
  unfold p_sl10 at h
  split at h <;> first | (rename_i e; cases e; exact h) | cases h
theorem slD_01 {d : D} {i : Int} {r : D} (h : prim .sl01 [d, .int i] = some r) : slD d none (some i) = some r := by
  simp only [prim] at h
  unfold p_sl01 at h
  split at h <;> first | (rename_i e; cases e; exact h) | cases h
theorem slD_11 {d : D} {i j : Int} {r : D} (h : prim .sl11 [d, .int i, .int j] = some r) : slD d (some i) (some j) = some r := by
  simp only [prim] at h
  unfold p_sl11 at h
  split at h <;> first | (rename_i e; cases e; exact h) | cases h
theorem cut_none {α : Type} (xs : List α) : cut xs none none = xs := by
  unfold cut
  rw [HT.sIx_none, HT.sIx_none]
  simp
theorem slD_00 {d : D} {r : D} (h : prim .sl00 [d] = some r) : slD d none none = some r := by
  simp only [prim] at h
  unfold p_sl00 at h
  split at h
  · rename_i e; cases e; cases h
    show some (D.lst (cut _ none none)) = _
    rw [cut_none]
  · cases h
theorem sl10_int {d e r : D} (h : prim .sl10 [d, e] = some r) : ∃ i, e = .int i := by
  simp only [prim] at h
  unfold p_sl10 at h
  split at h <;> first | (rename_i e; cases e; exact ⟨_, rfl⟩) | cases h
theorem sl01_int {d e r : D} (h : prim .sl01 [d, e] = some r) : ∃ i, e = .int i := by
  simp only [prim] at h
  unfold p_sl01 at h
  split at h <;> first | (rename_i e; cases e; exact ⟨_, rfl⟩) | cases h
theorem sl11_int {d e f r : D} (h : prim .sl11 [d, e, f] = some r) : ∃ i, f = .int i := by
  simp only [prim] at h
  unfold p_sl11 at h
  split at h <;> first | (rename_i e; cases e; exact ⟨_, rfl⟩) | cases h
theorem both_sl (c : Cok T G cf n se X) {a : Expr} {lo hi st : Option Expr} {p2 pos : Pos} {xs : List Expr} (hs : shape T se p (.Subscript a (.Slice lo hi st p2) pos) = some xs) (q : PEs X G W cf xs ps) : Both X (.Subscript a (.Slice lo hi st p2) pos) (tI G W (evP cf p ps)) := by
  suffices z : L2.PE X (.Subscript a (.Slice lo hi st p2) pos) (tI G W (evP cf p ps)) from ⟨z, pt_val z⟩
  simp only [shape] at hs
  split at hs
  · cases hs
    cases q with
    | cons n1 h1 q =>
      cases q with
      | cons n2 h2 q =>
        cases q
        refine PEimp (pe_slice (o_slice (G := G) c.K) h1 (po_some h2) po_none) fun σ H Q hh => ?_
        refine tO_mono (t_P2 hh) fun x H1 hx => tO_mono hx fun y H2 hy => ?_
        obtain ⟨as, fz, d, e, r, rd, re, hp, q⟩ := hy
        obtain ⟨i, rfl⟩ := sl10_int hp
        exact ⟨i, re.int, as, fz, d, r, rd, slD_10 hp, q⟩
  · cases hs
    cases q with
    | cons n1 h1 q =>
      cases q with
      | cons n2 h2 q =>
        cases q
        refine PEimp (pe_slice (o_slice (G := G) c.K) h1 po_none (po_some h2)) fun σ H Q hh => ?_
        refine tO_mono (t_P2 hh) fun x H1 hx => tO_mono hx fun y H2 hy => ?_
        obtain ⟨as, fz, d, e, r, rd, re, hp, q⟩ := hy
        obtain ⟨i, rfl⟩ := sl01_int hp
        exact ⟨i, re.int, as, fz, d, r, rd, slD_01 hp, q⟩
  · cases hs
    cases q with
    | cons n1 h1 q =>
      cases q
      refine PEimp (pe_slice (o_slice (G := G) c.K) h1 po_none po_none) fun σ H Q hh => ?_
      refine tO_mono (t_P1 hh) fun x H1 hx => ?_
      obtain ⟨as, fz, d, r, rd, hp, q⟩ := hx
      exact ⟨as, fz, d, r, rd, slD_00 hp, q⟩
  · cases hs
    cases q with
    | cons n1 h1 q =>
      cases q
      exact PEimp (e_rev c.K h1) fun σ H Q hh => tO_mono (t_P1 hh) fun x H1 hx => hx
  · cases hs
theorem evalE_sl2 (cf : CF) (a b c : PE) (s : S) : evalE cf (.sl2 a b c) s = (ev1 cf a s).bind (slRest (evalE cf b) (evalE cf c)) := by
  cases a <;> simp only [evalE, ev1]
theorem both_sl2 (c : Cok T G cf n se X) {a lo hi : Expr} {p2 pos : Pos} {pa pb pc : PE} (ha : L2.PE X a (tO G W (ev1 cf pa))) (hb : L2.PE X lo (tI G W (evalE cf pb))) (hc : L2.PE X hi (tI G W (evalE cf pc))) :
    Both X (.Subscript a (.Slice (some lo) (some hi) none p2) pos) (tI G W (evalE cf (.sl2 pa pb pc))) := by
  have z : L2.PE X (.Subscript a (.Slice (some lo) (some hi) none p2) pos) (tI G W (evalE cf (.sl2 pa pb pc))) := by
    refine PEimp (pe_slice (o_slice (G := G) c.K) ha (po_some hb) (po_some hc)) fun σ H Q hh => ?_
    obtain ⟨B, as, fz, st, sim, q⟩ := hh
    rw [evalE_sl2] at q
    refine ⟨B, as, fz, st, sim, q.bind.mono fun d st1 as1 fz1 H1 s1 m1 p1 v rv => ?_⟩
    unfold slRest at p1
    refine ⟨B, as1, fz1, st1, m1, p1.bind.mono fun e st2 as2 fz2 H2 s2 m2 p2 y ry => ?_⟩
    split at p2
    · rename_i i
      cases ry
      refine ⟨i, rfl, B, as2, fz2, st2, m2, p2.bind.mono fun f st3 as3 fz3 H3 s3 m3 p3 w rw' => ?_⟩
      cases e : prim .sl11 [deref st3.sto d, .int i, f] with
      | none => rw [e] at p3; exact p3.elim
      | some r =>
        rw [e] at p3
        obtain ⟨j, rfl⟩ := sl11_int e
        cases rw'
        refine ⟨j, rfl, as3, fz3, _, r, ((rv.step (s2.trans s3)).repR.deref m3.c), slD_11 e, fun v H' rr => ?_⟩
        obtain ⟨fz4, g, rd⟩ := rr.grow
        exact p3 as3 fz4 H' g.simB.step (m3.grow g) v rd
    · exact p2.elim
  exact ⟨z, pt_val z⟩
end
end MP
end
section
set_option Elab.async false
set_option linter.all false
set_option maxRecDepth 100000
set_option maxHeartbeats 2000000
/-! MP: calls, names, tests -/
namespace MP
open PySem PySem.Spec PyProof.Rows L2
section
variable {T : Tab} {G : Gd} {cf : CF} {n : Nat} {se : SE} {X : Cx} {W : WX} {σ : L2.St} {H : Hp} {Q : VK} {p : Prim} {ps : PL}
theorem bt_len : bootBuiltins "len" = some (.builtin "len") := by decide +kernel
theorem bt_abs : bootBuiltins "abs" = some (.builtin "abs") := by decide +kernel
theorem bt_int : bootBuiltins "int" = some (.type "int") := by decide +kernel
theorem bt_str : bootBuiltins "str" = some (.type "str") := by decide +kernel
theorem bt_repr : bootBuiltins "repr" = some (.builtin "repr") := by decide +kernel
theorem bt_sum : bootBuiltins "sum" = some (.builtin "sum") := by decide +kernel
theorem bt_all : bootBuiltins "all" = some (.builtin "all") := by decide +kernel
theorem bt_any : bootBuiltins "any" = some (.builtin "any") := by decide +kernel
theorem bt_max : bootBuiltins "max" = some (.builtin "max") := by decide +kernel
theorem bt_min : bootBuiltins "min" = some (.builtin "min") := by decide +kernel
theorem bt_tuple : bootBuiltins "tuple" = some (.type "tuple") := by decide +kernel
theorem bt_list : bootBuiltins "list" = some (.type "list") := by decide +kernel
theorem bt_sorted : bootBuiltins "sorted" = some (.builtin "sorted") := by decide +kernel
theorem bt_isinst : bootBuiltins "isinstance" = some (.builtin "isinstance") := by decide +kernel
theorem both_blt (c : Cok T G cf n se X) {f : Str} {a : Expr} {r : List Expr} {p1 pos : Pos} (h : bltOf p = some f) (g : gloN se f = true) (m : f ∈ T.blts) (q : PEs X G W cf (a :: r) ps) : Both X (.Call (.Name f p1) (a :: r) [] pos) (tI G W (evP cf p ps)) := by
  suffices z : L2.PE X (.Call (.Name f p1) (a :: r) [] pos) (tI G W (evP cf p ps)) from ⟨z, pt_val z⟩
  have sa : starEach (a :: r) X.env = (false, eval a X.env) :: starEach r X.env := by
    cases q with
    | cons n1 h1 q => exact star_cons n1
  have sb : (backTo pos (starEach r X.env)).any (·.1) = false := by
    cases q with
    | cons n1 h1 q => exact noStar_any q.noStar
  have hm := c.blts _ m
  have hg := c.glo g
  cases p <;> simp only [bltOf, Option.some.injEq, reduceCtorEq] at h
  all_goals subst h
  · exact PEimp (pe_callB (c_len c.K) hg hm bt_len q.pa (he := sa) (hpl := sb)) fun σ H Q hh => prim_post hh
  · exact PEimp (pe_callB c_abs hg hm bt_abs q.pa (he := sa) (hpl := sb)) fun σ H Q hh => prim_post hh
  · exact PEimp (pe_callTy c_int hg hm bt_int q.pa (he := sa) (hpl := sb)) fun σ H Q hh => prim_post hh
  · exact PEimp (pe_callTy c_str hg hm bt_str q.pa (he := sa) (hpl := sb)) fun σ H Q hh => prim_post hh
  · exact PEimp (pe_callB (c_repr c.K c.gd c.u65) hg hm bt_repr q.pa (he := sa) (hpl := sb)) fun σ H Q hh => prim_post hh
  · exact PEimp (pe_callB (c_sum c.calm) hg hm bt_sum q.pa (he := sa) (hpl := sb)) fun σ H Q hh => prim_post hh
  · exact PEimp (pe_callB (c_all c.calm) hg hm bt_all q.pa (he := sa) (hpl := sb)) fun σ H Q hh => prim_post hh
  · exact PEimp (pe_callB (c_any c.calm) hg hm bt_any q.pa (he := sa) (hpl := sb)) fun σ H Q hh => prim_post hh
  · exact PEimp (pe_callB (c_max c.calm) hg hm bt_max q.pa (he := sa) (hpl := sb)) fun σ H Q hh => prim_post hh
  · exact PEimp (pe_callB (c_min c.K c.calm c.u70) hg hm bt_min q.pa (he := sa) (hpl := sb)) fun σ H Q hh => prim_post hh
  · exact PEimp (pe_callTy (c_tuple c.K) hg hm bt_tuple q.pa (he := sa) (hpl := sb)) fun σ H Q hh => prim_post hh
  · exact PEimp (pe_callTy (c_list c.K) hg hm bt_list q.pa (he := sa) (hpl := sb)) fun σ H Q hh => prim_post hh
  · exact PEimp (pe_callB (c_sorted c.K c.u70) hg hm bt_sorted q.pa (he := sa) (hpl := sb)) fun σ H Q hh => prim_post hh
theorem both_gcd (c : Cok T G cf n se X) {f : Str} {a b : Expr} {p1 pos : Pos} (m : f ∈ T.mods) (g : gloN se f = true) (hd : (f == ("__debug__" : Str)) = false) (q : PEs X G W cf [a, b] ps) : Both X (.Call (.Name f p1) [a, b] [] pos) (tI G W (evP cf .gcd ps)) := by
  suffices z : L2.PE X (.Call (.Name f p1) [a, b] [] pos) (tI G W (evP cf .gcd ps)) from ⟨z, pt_val z⟩
  have sa : starEach [a, b] X.env = (false, eval a X.env) :: starEach [b] X.env := by
    cases q with
    | cons n1 h1 q => exact star_cons n1
  have sb : (backTo pos (starEach [b] X.env)).any (·.1) = false := by
    cases q with
    | cons n1 h1 q => exact noStar_any q.noStar
  exact PEimp (pe_callBfun (c_gcd (G := G)) (c.glo g) (c.mods _ m) q.pa (hdb := hd) (he := sa) (hpl := sb)) fun σ H Q hh => prim_post hh
theorem both_isTup (c : Cok T G cf n se X) {a t : Expr} {p1 pos : Pos} (g : gloN se "isinstance" = true) (m : ("isinstance" : Str) ∈ T.blts) (ht : isTupleName T se t = true) (q : PEs X G W cf [a] ps) :
    Both X (.Call (.Name "isinstance" p1) [a, t] [] pos) (tI G W (evP cf .isTup ps)) := by
  suffices z : L2.PE X (.Call (.Name "isinstance" p1) [a, t] [] pos) (tI G W (evP cf .isTup ps)) from ⟨z, pt_val z⟩
  unfold isTupleName at ht
  split at ht
  · rename_i y py
    simp only [Bool.and_eq_true, decide_eq_true_eq] at ht
    obtain ⟨⟨rfl, g2⟩, m2⟩ := ht
    cases q with
    | @cons _ pa _ _ n1 h1 q =>
      cases q
      have h2 : L2.PE X (.Name "tuple" py) (tC (.ty "tuple")) := pe_bltn (c.glo g2) (c.blts _ m2) bt_tuple rfl
      refine PEimp (pe_callB (c_isTup (G := G) c.K) (c.glo g) (c.blts _ m) bt_isinst (pa_cons h1 (pa_cons h2 pa_nil) (star_cons n1)) (he := star_cons n1)) fun σ H Q hh => ?_
      refine tO_mono (t_P1 hh) fun x H1 hx => ?_
      obtain ⟨as, fz, d, r, rd, e, q⟩ := hx
      exact ⟨as, fz, d, r, x, rfl, rd, e, fun v rv => q v H1 (.here rv)⟩
  · cases ht
/-! ### methods -/
theorem len_of (I : Inv X pins σ H s) {a : Addr} {vs : List V} (h : H a = some (.lst vs)) : vs.length ≤ 16777216 := by
  have z : vs.length ≤ sizeLine ∧ _ := I.hok a _ h
  rw [← sl_line]
  exact z.1
theorem few_ok {y : Expr} {env : Env} {pos : Pos} (n : starred y = false) : ((backTo pos (starEach [y] env)).all (fun x => !x.1) && (backToKw pos (keywordEach [] env)).all (fun x => x.1.isSome)
      && decide (([y] : List Expr).length + ([] : List Keyword).length + (if ([] : List Keyword).isEmpty then 0 else 1) < 30)) = true := by
  rw [star_cons n]
  rfl
theorem evalE_meth (cf : CF) (p : Prim) (a b : PE) (s : S) : evalE cf (.meth p a b) s = (ev1 cf a s).bind (methRest p (evalE cf b)) := by
  cases a <;> simp only [evalE, ev1]
theorem meth_post {pa pb : PE} (h : tI G W (evalE cf (.meth p pa pb)) σ H Q) : tO G W (ev1 cf pa) σ H fun x H1 => ∃ as fz d, RepO G as fz H1 x d ∧ recvOk p d = true ∧ (tI G W (evalE cf pb)) σ H1 fun y H2 => ∃ as fz e r, RepR G as fz H2 x d ∧ RepR G as fz H2 y e ∧ prim p [d, e] = some r ∧ ∀ v H', ResR G as fz H2 v r H' → Q v H' := by
  obtain ⟨B, as, fz, st, sim, q⟩ := h
  rw [evalE_meth] at q
  refine ⟨B, as, fz, st, sim, q.bind.mono fun d st1 as1 fz1 H1 s1 m1 p1 v rv => ?_⟩
  unfold methRest at p1
  split at p1
  · rename_i hr
    refine ⟨as1, fz1, d, rv, hr, B, as1, fz1, st1, m1, p1.bind.mono fun e st2 as2 fz2 H2 s2 m2 p2 y ry => ?_⟩
    cases eq : prim p [d, deref st2.sto e] with
    | none => rw [eq] at p2; exact p2.elim
    | some r =>
      rw [eq] at p2
      refine ⟨as2, fz2, _, r, (rv.step s2).repR, (RepR.dat ry).deref m2.c, eq, fun v H' rr => ?_⟩
      obtain ⟨fz4, g, rd⟩ := rr.grow
      exact p2 as2 fz4 H' g.simB.step (m2.grow g) v rd
  · exact p1.elim
theorem join_lst {a e r : D} (h : prim .join [a, e] = some r) : ∃ x ds, a = .str x ∧ e = .lst ds := by
  simp only [prim] at h
  unfold p_join at h
  split at h
  · rename_i z; cases z; exact ⟨_, _, rfl, rfl⟩
  · cases h
theorem both_index (c : Cok T G cf n se X) {o y : Expr} {pa pb : PE} {apos cpos : Pos} (hb : plainBase o = true) (hl : (apos.endLine == cpos.line) = true) (n2 : starred y = false) (h1 : L2.PE X o (tO G W (ev1 cf pa))) (h2 : L2.PE X y (tI G W (evalE cf pb))) :
    Both X (.Call (.Attribute o "index" apos) [y] [] cpos) (tI G W (evalE cf (.meth .index pa pb))) := by
  suffices z : L2.PE X (.Call (.Attribute o "index" apos) [y] [] cpos) (tI G W (evalE cf (.meth .index pa pb))) from ⟨z, pt_val z⟩
  have pav : L2.PA X [y] (tCons (tI G W (evalE cf pb)) tNil) := pa_cons h2 pa_nil (star_cons n2)
  refine ⟨fun pins s σ H Q I h => ?_⟩
  refine wpAny_Call_method_late (plainBase_ok hb) (few_ok n2) hl rfl (thn (h1.run pins s σ H _ I (meth_post h)) fun v s1 ⟨x, H1, I1, r1, as, fz, d, rd, hr, q1⟩ => ?_)
  cases d with
  | lst ds =>
    obtain ⟨a, vs, rfl, ha, _⟩ := rd.repR.lsts
    obtain ⟨h1, h2⟩ := tyV_is (T := "list") I1 r1 (.inl ⟨rfl, vs, SqL.of ha⟩)
    refine ⟨"list", "list.index", F.plainAttrs_list, F.slot_list_index, F.type_list_index, h1, h2, ?_⟩
    have hA := pav.run cpos pins s1 σ H1 (fun xs H2 => ∃ y, xs = [y] ∧ ∃ as fz e r, RepR G as fz H2 (V.ref a) (D.lst ds) ∧ RepR G as fz H2 y e ∧ prim Prim.index [D.lst ds, e] = some r ∧ ∀ (v : V) (H' : Hp), ResR G as fz H2 v r H' → Q v H') I1 (tI_mono q1 fun y H2 hy => ⟨y, rfl, hy⟩)
    rw [star_cons n2] at hA ⊢
    refine Calls.callWith_builtin rfl (Calls.evalArgs_plain ?_)
    refine thn hA fun us s2 ⟨ys, H2, I2, r2, y, ey, as, fz, e, r, b1, b2, hp, q⟩ => ?_
    subst ey
    obtain ⟨a', vs', e1, ha', _⟩ := b1.lsts
    cases e1
    refine m_index_list (G := G) c.K c.u70 pins s2 σ H2 _ [y] _ us Q I2 r1 r2 ⟨as, fz, ds, e, r, b1, .cons b2 .nil, hp, ?_, fun v rv => q v H2 (.here rv)⟩
    have := len_of I2 ha'
    obtain ⟨_, _, e2, _, rl⟩ := b1.lsts
    rename_i e3
    cases e2
    rw [ha'] at e3
    cases e3
    rw [← rl.length]
    exact this
  | _ => cases hr
theorem both_join (c : Cok T G cf n se X) {o y : Expr} {pa pb : PE} {apos cpos : Pos} (hb : plainBase o = true) (hl : (apos.endLine == cpos.line) = true) (n2 : starred y = false) (h1 : L2.PE X o (tO G W (ev1 cf pa))) (h2 : L2.PE X y (tI G W (evalE cf pb))) :
    Both X (.Call (.Attribute o "join" apos) [y] [] cpos) (tI G W (evalE cf (.meth .join pa pb))) := by
  suffices z : L2.PE X (.Call (.Attribute o "join" apos) [y] [] cpos) (tI G W (evalE cf (.meth .join pa pb))) from ⟨z, pt_val z⟩
  have pav : L2.PA X [y] (tCons (tI G W (evalE cf pb)) tNil) := pa_cons h2 pa_nil (star_cons n2)
  refine ⟨fun pins s σ H Q I h => ?_⟩
  refine wpAny_Call_method_late (plainBase_ok hb) (few_ok n2) hl rfl (thn (h1.run pins s σ H _ I (meth_post h)) fun v s1 ⟨x, H1, I1, r1, as, fz, d, rd, hr, q1⟩ => ?_)
  cases d with
  | str a =>
    obtain rfl := rd.repR.str
    obtain ⟨h1, h2⟩ := tyV_is (T := "str") I1 r1 rfl
    refine ⟨"str", "str.join", F.plainAttrs_str, F.slot_str_join, F.type_str_join, h1, h2, ?_⟩
    have hA := pav.run cpos pins s1 σ H1 (fun xs H2 => ∃ y, xs = [y] ∧ ∃ as fz e r, RepR G as fz H2 (V.str a) (D.str a) ∧ RepR G as fz H2 y e ∧ prim Prim.join [D.str a, e] = some r ∧ ∀ (v : V) (H' : Hp), ResR G as fz H2 v r H' → Q v H') I1 (tI_mono q1 fun y H2 hy => ⟨y, rfl, hy⟩)
    rw [star_cons n2] at hA ⊢
    refine Calls.callWith_builtin rfl (Calls.evalArgs_plain ?_)
    refine thn hA fun us s2 ⟨ys, H2, I2, r2, y, ey, as, fz, e, r, b1, b2, hp, q⟩ => ?_
    subst ey
    obtain ⟨_, ds, _, rfl⟩ := join_lst hp
    exact m_join (G := G) c.K pins s2 σ H2 _ [y] _ us Q I2 r1 r2 ⟨as, fz, a, ds, r, b1, .cons b2 .nil, hp, fun v rv => q v H2 (.here rv)⟩
  | _ => cases hr
/-! ### calls of the table's defs -/
mutual
theorem RepD.unref {as as' : List Addr} {fz : Addr → Prop} {H : Hp} : ∀ (d : D) (v : V), d.under as.length = true → RepD G (as ++ as') fz H v d → RepD G as fz H v d
  | .non, _, _, h => by cases h; exact .non
  | .bl _, _, _, h => by cases h; exact .bl _
  | .int _, _, _, h => by cases h; exact .int _
  | .str _, _, _, h => by cases h; exact .str _
  | .tup ds, _, f, h => by
    cases h with
    | tup s r => exact .tup s (RepL.unref ds _ (by simpa [D.under] using f) r)
  | .lst ds, _, f, h => by
    cases h with
    | lst z e r => exact .lst z e (RepL.unref ds _ (by simpa [D.under] using f) r)
  | .fn _, _, _, h => by cases h; exact .fn _
  | .ref i, _, f, h => by
    have f : i < as.length := by simpa [D.under] using f
    cases h with
    | ref e => exact .ref (by rw [List.getElem?_append_left f] at e; exact e)
  | .scr ns, _, _, h => by
    cases h with
    | scr e l => exact .scr e l
theorem RepL.unref {as as' : List Addr} {fz : Addr → Prop} {H : Hp} : ∀ (ds : List D) (vs : List V), underL as.length ds = true → RepL G (as ++ as') fz H vs ds → RepL G as fz H vs ds
  | [], _, _, h => by cases h; exact .nil
  | d :: ds, _, f, h => by
    rw [underL, Bool.and_eq_true] at f
    cases h with
    | cons a r => exact .cons (RepD.unref d _ f.1 a) (RepL.unref ds _ f.2 r)
end
theorem SimC.trim {t : Sto} {as as' : List Addr} {fz : Addr → Prop} {H : Hp} (c : SimC G t as' fz H) {r : List Addr} (e : as' = as ++ r) (f : (t.take as.length).all (Cell.under as.length) = true) : SimC G (t.take as.length) as fz H where
  nd := by
    have := c.nd
    rw [e, List.nodup_append] at this
    exact this.1
  len := by
    have := c.len
    rw [e, List.length_append] at this
    rw [List.length_take]
    omega
  at_ := fun i cl a e1 e2 => by
    have hi : i < as.length := (List.getElem?_eq_some_iff.mp e2).1
    have e1' : t[i]? = some cl := by rw [← e1, List.getElem?_take_of_lt hi]
    have z := c.at_ i cl a e1' (by rw [e, List.getElem?_append_left hi]; exact e2)
    have fl := List.all_eq_true.mp f cl (List.mem_of_getElem? e1)
    obtain ⟨o, vs, q, sh, r'⟩ := z
    rw [e] at r'
    exact ⟨o, vs, q, sh, RepL.unref _ _ fl r'⟩
  frz := fun a h => ⟨fun hm => (c.frz a h).1 (by rw [e]; exact List.mem_append_left _ hm), (c.frz a h).2⟩
theorem call_post {f : Nat} (h : tI G W (evalE cf (.call f ps)) σ H Q) : tL G W (evalL cf ps) σ H fun vs H1 => spI G cf f vs H1 Q (WE W σ) := by
  obtain ⟨B, as, fz, st, sim, q⟩ := h
  simp only [evalE] at q
  refine ⟨B, as, fz, st, sim, q.bind.mono fun ds st1 as1 fz1 H1 s1 m1 p1 vs rvs => ⟨ds, as1, fz1, st1.sto, rvs, m1.c, ?_⟩⟩
  unfold callO at p1
  cases e : cf f ds st1.sto with
  | ok d t' =>
    rw [e] at p1
    dsimp only at p1
    intro as' fz' H' v sb sc rd
    by_cases hc : d.under st1.sto.length = true ∧ st1.sto.length < t'.length ∧ (t'.take st1.sto.length).all (Cell.under st1.sto.length) = true
    · have et : MP.trim st1.sto.length d t' = t'.take st1.sto.length := if_pos hc
      rw [et, ← m1.c.len] at p1
      have hc3 := hc.2.2
      rw [← m1.c.len] at hc3
      obtain ⟨r, ea⟩ := sb.pre
      have ea : as' = as1 ++ r := ea
      have sb' : SimB ⟨H1, as1, fz1⟩ as1 fz' H' := ⟨sb.fr, sb.tups, sb.frzs, sb.fzs, sb.there, ⟨[], by simp⟩, fun a h => .inl h, sb.fzm, sb.newf⟩
      exact p1 as1 fz' H' sb'.step (m1.call sb' (sc.trim ea hc3)) v (RepD.unref (as' := r) _ _ (by rw [m1.c.len]; exact hc.1) (by rw [← ea]; exact rd))
    · have et : MP.trim st1.sto.length d t' = t' := if_neg hc
      rw [et] at p1
      exact p1 as' fz' H' sb.step (m1.call sb sc) v rd
  | exc k t' =>
    rw [e] at p1
    exact fun as' fz' H' sb sc => p1 as' fz' H' (m1.b.trans sb fun _ h => m1.c.live h) sc
  | bad =>
    rw [e] at p1
    exact p1
theorem callW_run (c : Cok T G cf n se X) (tk : L2N.Takes X W) {f : Nat} {x : Str} (hf : T.fns[f]? = some x) {es : List Expr} {pins : List (Addr × Obj)} {s : Shared} {pos : Pos} (I : Inv X pins σ H s) (q : PVs X G W cf es ps)
    (h : tL G W (evalL cf ps) σ H fun vs H1 => spI G cf f vs H1 Q (WE W σ)) : wpAny (model X.prog X.w) X.A (callWith pos (.ref (G.fa f)) [] (backTo pos (starEach es X.env)) []) (EP X pins σ Q) X.xe s := by
  obtain ⟨fd, pp, hm, hk, hb, F⟩ := c.fns f x hf
  have hx : PassesAt (L2N.CX X.prog X.w) X σ (WE W σ) := L2N.passAt tk σ
  cases q with
  | nil => exact PySem.W.callWith_K0 I.kIn hk (runG (E := WE W) (us := []) F c.gd (c.room.mono (Nat.le_succ _)) hb hx I .nil (ls_nil h))
  | cons n1 h1 r =>
    have pa := (PVs.cons n1 h1 r).pa
    exact PySem.W.callWith_K (h₀ := X.base) I.ok.mod.kin hk (thn (pa.run pos pins s σ H _ I h) fun us s1 ⟨vs, H1, I1, r1, q1⟩ => ⟨I1.kIn, runG (E := WE W) F c.gd (c.room.mono (Nat.le_succ _)) hb hx I1 r1 q1⟩) (star_cons n1) (noStar_any r.noStar)
theorem both_call (c : Cok T G cf n se X) (tk : L2N.Takes X W) {f : Nat} {x : Str} (hf : T.fns[f]? = some x) (hgl : glN x = true) (hg : gloN se x = true) (hn : okName x = true) {es : List Expr} {p1 pos : Pos} (q : PVs X G W cf es ps) : Both X (.Call (.Name x p1) es [] pos) (tI G W (evalE cf (.call f ps))) := by
  suffices z : L2.PE X (.Call (.Name x p1) es [] pos) (tI G W (evalE cf (.call f ps))) from ⟨z, pt_val z⟩
  refine ⟨fun pins s σ H Q I h => ?_⟩
  obtain ⟨fd, pp, hm, _⟩ := c.fns f x hf
  refine wpAny_Call_Name_kw (ld_glob I (c.glo hg) (hm hgl) ?_ (okName_d hn).1)
  exact callW_run c tk hf I q (call_post h)
/-- a def that an expression yields -/
def plainFn : Expr → Bool
  | .Attribute _ _ _ => false
  | _ => true
theorem callV_post {e : PE} (h : tI G W (evalE cf (.callv e ps)) σ H Q) : tI G W (evalE cf e) σ H fun x H1 => ∃ f, x = .ref (G.fa f) ∧ tL G W (evalL cf ps) σ H1 fun vs H2 => spI G cf f vs H2 Q (WE W σ) := by
  obtain ⟨B, as, fz, st, sim, q⟩ := h
  simp only [evalE] at q
  refine ⟨B, as, fz, st, sim, q.bind.mono fun d st1 as1 fz1 H1 s1 m1 p1 v rv => ?_⟩
  split at p1
  · rename_i f
    cases rv
    refine ⟨f, rfl, call_post (f := f) ⟨B, as1, fz1, st1, m1, ?_⟩⟩
    simp only [evalE]
    exact p1
  · exact p1.elim
theorem call_expr {fe : Expr} {args : List Expr} {pos : Pos} {env : Env} (h : plainFn fe = true) : eval (.Call fe args [] pos) env = (do callWith pos (← eval fe env) [] (backTo pos (starEach args env)) (backToKw pos (keywordEach [] env))) := by
  cases fe <;> first | rfl | exact absurd h (by simp [plainFn])
theorem both_callv (c : Cok T G cf n se X) (tk : L2N.Takes X W) (big : ∀ f ds t, T.fns.length ≤ f → cf f ds t = .bad) {fe : Expr} {pf : PE} (hp : plainFn fe = true) (h1 : L2.PE X fe (tI G W (evalE cf pf))) {es : List Expr} {pos : Pos} (q : PVs X G W cf es ps) :
    Both X (.Call fe es [] pos) (tI G W (evalE cf (.callv pf ps))) := by
  suffices z : L2.PE X (.Call fe es [] pos) (tI G W (evalE cf (.callv pf ps))) from ⟨z, pt_val z⟩
  refine ⟨fun pins s σ H Q I h => ?_⟩
  rw [call_expr hp]
  refine wpAny_bind (thn (h1.run pins s σ H _ I (callV_post h)) fun u s1 ⟨x, H1, I1, rx, f, ex, q1⟩ => ?_)
  subst ex
  cases rx
  by_cases hf : f < T.fns.length
  · exact callW_run c tk (List.getElem?_eq_getElem hf) I1 q q1
  · have no : ∀ vs H2, ¬ spI G cf f vs H2 Q (WE W σ) := fun vs H2 ⟨ds, as, fz, t, _, _, m⟩ => by
      rw [big f ds t (by omega)] at m
      exact m
    cases q with
    | nil => exact (no _ _ (ls_nil q1)).elim
    | cons n1 h1 r =>
      have pa := (PVs.cons n1 h1 r).pa
      exact PySem.W.callWith_K (h₀ := X.base) I1.ok.mod.kin (c.fnk f) (thn (pa.run pos pins s1 σ H1 _ I1 q1) fun us s1 ⟨vs, H1, I1, r1, q1⟩ => (no _ _ q1).elim) (star_cons n1) (noStar_any r.noStar)
/-! ### names, constants -/
def varOk (se : SE) (i : Nat) : Expr → Bool
  | .Name x _ => decide (se.N[i]? = some x) && visN se x && okName x
  | _ => false
theorem var_post {i : Nat} (h : tI G W (evalE cf (.var i)) σ H Q) : tVar i σ H Q := by
  obtain ⟨B, as, fz, st, sim, q⟩ := h
  simp only [evalE, rdVar] at q
  split at q
  · rename_i d e
    obtain ⟨v, e1, r⟩ := sim.l.val i d e
    exact ⟨v, e1, q as fz H .refl sim v r⟩
  · rename_i ds e
    obtain ⟨a, fz', e1, stp, r, m⟩ := sim.freeze e
    exact ⟨.ref a, e1, q as fz' H stp m _ r⟩
  · exact q.elim
theorem peek_post {i : Nat} (h : tO G W (rdPeek i) σ H Q) : tVar i σ H Q := by
  obtain ⟨B, as, fz, st, sim, q⟩ := h
  simp only [rdPeek] at q
  split at q
  · rename_i d e
    obtain ⟨v, e1, r⟩ := sim.l.val i d e
    exact ⟨v, e1, q as fz H .refl sim v (.dat r)⟩
  · rename_i ds e
    obtain ⟨a, vs, e1, e2, r, n, na, _⟩ := sim.l.own i ds e
    exact ⟨.ref a, e1, q as fz H .refl sim _ (.lst na e2 r)⟩
  · exact q.elim
theorem pe_varOk (c : Cok T G cf n se X) {i : Nat} {e : Expr} (h : varOk se i e = true) : L2.PE X e (tVar i) ∧ L2.PT X e (tB (tVar i)) := by
  unfold varOk at h
  split at h
  · rename_i x pos
    simp only [Bool.and_eq_true, decide_eq_true_eq] at h
    have z : L2.PE X (.Name x pos) (tVar i) := pe_var (by rw [c.N]; exact h.1.1) (c.vis h.1.2) (okName_d h.2).1 (okName_d h.2).2.1
    exact ⟨z, pt_val z⟩
  · cases h
theorem both_var (c : Cok T G cf n se X) {i : Nat} {e : Expr} (h : varOk se i e = true) : Both X e (tI G W (evalE cf (.var i))) :=
  ⟨PEimp (pe_varOk c h).1 fun σ H Q q => var_post q, PTimp (pe_varOk c h).2 fun σ H Q q => var_post q⟩
theorem pe_peek (c : Cok T G cf n se X) {i : Nat} {e : Expr} (h : varOk se i e = true) : L2.PE X e (tO G W (ev1 cf (.peek i))) := PEimp (pe_varOk c h).1 fun σ H Q q => peek_post q
theorem con_post {m : S → Out D} {d : D} {v : V} (hm : ∀ s, m s = .ok d s) (r : ∀ as fz H, RepD G as fz H v d) (h : tI G W m σ H Q) : tC v σ H Q := by
  obtain ⟨B, as, fz, st, sim, q⟩ := h
  rw [hm] at q
  exact q as fz H .refl sim v (r _ _ _)
def conOk (d : D) : Expr → Bool
  | .Constant k _ _ => match d, k with
    | .int i, .int j => decide (i = j)
    | .bl i, .bool j => decide (i = j)
    | .str i, .str j => decide (i = j)
    | .non, .none => true
    | _, _ => false
  | _ => false
theorem both_con {d : D} {e : Expr} (h : conOk d e = true) : Both X e (tI G W (evalE cf (.con d))) := by
  have go : ∀ {v : V} {k : Const} {j : Nat} {pos : Pos}, L2.PE X (.Constant k j pos) (tC v) → (∀ as fz H, RepD G as fz H v d) → Both X (.Constant k j pos) (tI G W (evalE cf (.con d))) := fun z r => by
    have z' := PEimp z fun σ H Q q => con_post (G := G) (W := W) (m := evalE cf (.con d)) (fun s => by simp only [evalE]) r q
    exact ⟨z', pt_val z'⟩
  unfold conOk at h
  split at h
  · split at h
    · rw [decide_eq_true_eq] at h; subst h; exact go pe_int fun _ _ _ => .int _
    · rw [decide_eq_true_eq] at h; subst h; exact go pe_bl fun _ _ _ => .bl _
    · rw [decide_eq_true_eq] at h; subst h; exact go pe_str fun _ _ _ => .str _
    · exact go pe_non fun _ _ _ => .non
    · cases h
  · cases h
def fnvOk (T : Tab) (se : SE) (f : Nat) : Expr → Bool
  | .Name x _ => decide (T.fns[f]? = some x) && gloN se x && okName x && glN x
  | _ => false
theorem both_fnv (c : Cok T G cf n se X) {f : Nat} {e : Expr} (h : fnvOk T se f e = true) : Both X e (tI G W (evalE cf (.fnv f))) := by
  unfold fnvOk at h
  split at h
  · rename_i x pos
    simp only [Bool.and_eq_true, decide_eq_true_eq] at h
    obtain ⟨fd, pp, hm, _⟩ := c.fns f _ h.1.1.1
    have z := PEimp (pe_glob (pos := pos) (c.glo h.1.1.2) (hm h.2) (v := .ref (G.fa f)) rfl (okName_d h.1.2).1) fun σ H Q q => con_post (G := G) (W := W) (m := evalE cf (.fnv f)) (fun s => by simp only [evalE]) (fun _ _ _ => .fn f) q
    exact ⟨z, pt_val z⟩
  · cases h
mutual
def D.same : D → D → Bool
  | .non, .non => true
  | .bl a, .bl b => decide (a = b)
  | .int a, .int b => decide (a = b)
  | .str a, .str b => decide (a = b)
  | .tup a, .tup b => sameL a b
  | .lst a, .lst b => sameL a b
  | _, _ => false
def sameL : List D → List D → Bool
  | [], [] => true
  | a :: r, b :: q => D.same a b && sameL r q
  | _, _ => false
end
mutual
theorem D.same_eq : ∀ (a b : D), D.same a b = true → a = b
  | .non, .non, _ => rfl
  | .bl a, .bl b, h => by simp only [D.same, decide_eq_true_eq] at h; rw [h]
  | .int a, .int b, h => by simp only [D.same, decide_eq_true_eq] at h; rw [h]
  | .str a, .str b, h => by simp only [D.same, decide_eq_true_eq] at h; rw [h]
  | .tup a, .tup b, h => by simp only [D.same] at h; rw [sameL_eq a b h]
  | .lst a, .lst b, h => by simp only [D.same] at h; rw [sameL_eq a b h]
  | .non, .bl _, h | .non, .int _, h | .non, .str _, h | .non, .tup _, h | .non, .lst _, h | .non, .fn _, h | .non, .ref _, h | .non, .scr _, h => by simp [D.same] at h
  | .bl _, .non, h | .bl _, .int _, h | .bl _, .str _, h | .bl _, .tup _, h | .bl _, .lst _, h | .bl _, .fn _, h | .bl _, .ref _, h | .bl _, .scr _, h => by simp [D.same] at h
  | .int _, .non, h | .int _, .bl _, h | .int _, .str _, h | .int _, .tup _, h | .int _, .lst _, h | .int _, .fn _, h | .int _, .ref _, h | .int _, .scr _, h => by simp [D.same] at h
  | .str _, .non, h | .str _, .bl _, h | .str _, .int _, h | .str _, .tup _, h | .str _, .lst _, h | .str _, .fn _, h | .str _, .ref _, h | .str _, .scr _, h => by simp [D.same] at h
  | .tup _, .non, h | .tup _, .bl _, h | .tup _, .int _, h | .tup _, .str _, h | .tup _, .lst _, h | .tup _, .fn _, h | .tup _, .ref _, h | .tup _, .scr _, h => by simp [D.same] at h
  | .lst _, .non, h | .lst _, .bl _, h | .lst _, .int _, h | .lst _, .str _, h | .lst _, .tup _, h | .lst _, .fn _, h | .lst _, .ref _, h | .lst _, .scr _, h => by simp [D.same] at h
  | .fn _, _, h => by simp [D.same] at h
  | .ref _, _, h => by simp [D.same] at h
  | .scr _, _, h => by simp [D.same] at h
theorem sameL_eq : ∀ (a b : List D), sameL a b = true → a = b
  | [], [], _ => rfl
  | a :: r, b :: q, h => by
    simp only [sameL, Bool.and_eq_true] at h
    rw [D.same_eq a b h.1, sameL_eq r q h.2]
  | [], _ :: _, h => by simp [sameL] at h
  | _ :: _, [], h => by simp [sameL] at h
end
def globOk (T : Tab) (se : SE) (y : Str) (d : D) : Expr → Bool
  | .Name x _ => decide (y = x) && gloN se x && okName x && T.globs.any fun q => decide (q.1 = x) && D.same q.2 d
  | _ => false
theorem both_glob (c : Cok T G cf n se X) {y : Str} {d : D} {e : Expr} (h : globOk T se y d e = true) : Both X e (tI G W (evalE cf (.glob y d))) := by
  unfold globOk at h
  split at h
  · rename_i x pos
    simp only [Bool.and_eq_true, decide_eq_true_eq, List.any_eq_true] at h
    obtain ⟨⟨⟨e0, g⟩, o⟩, ⟨x', d'⟩, hq, e1, e2⟩ := h
    have e1 : x' = x := e1
    subst e1
    have e2 : d' = d := D.same_eq _ _ e2
    subst e2
    obtain ⟨u, v, hm, rv, rd⟩ := c.globs _ _ hq
    have z := PEimp (pe_glob (pos := pos) (c.glo g) hm rv (okName_d o).1) fun σ H Q q => con_post (G := G) (W := W) (m := evalE cf (.glob y d')) (fun s => by simp only [evalE]) rd q
    exact ⟨z, pt_val z⟩
  · cases h
end
end MP
end
section
set_option Elab.async false
set_option linter.all false
set_option maxRecDepth 100000
set_option maxHeartbeats 4000000
/-! MP: sets of texts -/
namespace MPSetT
open PySem PySem.Spec PyProof.Rows L2 MP
def keyS (e : Int × Value) : Str := match e.2 with | .str k _ => k | _ => Str.empty
def GoodS (w : World) (e : Int × Value) : Prop := ∃ k tk, e.2 = Value.str k tk ∧ e.1 = hashStr w k
/-- the set of texts at a: l its members; its table rises and can be walked -/
def SetS (w : World) (h : Heap) (a : Addr) (l : List Str) : Prop :=
  ∃ o es ep t, h.get? a = some o ∧ o.ExactSet ∧ o.data = .set es ep t ∧ (∀ e ∈ es.toList, GoodS w e) ∧ (es.toList.map keyS).Nodup ∧ (∀ k, k ∈ l ↔ k ∈ es.toList.map keyS) ∧
    es.size < scanBound ∧ t.fits es.size = true ∧ es.size ≤ l.length ∧ Ris t.place.toList ∧ (w.params.followText "set-order" = true ∨ t.led = true)
section
variable {P : Program} {w : World} {A : Around} {E : Value → Shared → Prop} {s : Shared} {a : Addr}
theorem SetS.at {h h' : Heap} {l : List Str} (R : SetS w h a l) (k : ∀ o, h.get? a = some o → h'.get? a = some o) : SetS w h' a l := by
  obtain ⟨o, es, ep, t, ho, r⟩ := R
  exact ⟨o, es, ep, t, k o ho, r⟩
theorem isS (k : Str) (u : Tok) : (strKind P w).is k (.str k u) = true := by
  show Value.isStrOf k (.str k u) = true
  simp [Value.isStrOf]
theorem goodS_elems {l : List (Int × Value)} (g : ∀ e ∈ l, GoodS w e) : ElemsOf (strKind P w) l := fun e he => by
  obtain ⟨k, tk, h1, h2⟩ := g e he
  refine ⟨⟨k, ?_, h2⟩, ?_⟩
  · rw [h1]; exact isS k tk
  · rw [h1]; rfl
theorem goodS_mem {l : List (Int × Value)} (g : ∀ e ∈ l, GoodS w e) (k : Str) : k ∈ l.map keyS ↔ ∃ e ∈ l, (strKind P w).is k e.2 = true := by
  rw [List.mem_map]
  constructor
  · rintro ⟨e, he, rfl⟩
    obtain ⟨k', tk, h1, h2⟩ := g e he
    refine ⟨e, he, ?_⟩
    unfold keyS
    rw [h1]
    exact isS k' tk
  · rintro ⟨e, he, q⟩
    obtain ⟨k', tk, h1, h2⟩ := g e he
    refine ⟨e, he, ?_⟩
    rw [h1] at q
    have q : Value.isStrOf k (.str k' tk) = true := q
    obtain ⟨u, hu⟩ := Value.isStrOf_shape q
    injection hu with hx
    unfold keyS
    rw [h1]
    exact hx
theorem setS_tail {g : Bool → Sem Unit} (hg : ∀ (b : Bool) (s₁ : Shared) (Q' : Unit → Shared → Prop), Q' () s₁ → wpAny (model P w) A (g b) Q' E s₁)
    {o : Obj} {es : Array (Int × Value)} {ep : Nat} {t : SetTable} (ho : s.heap.get? a = some o) (hex : o.ExactSet) (hd : o.data = .set es ep t)
    {es1 : Array (Int × Value)} {t2 : SetTable} {l : List Str} (g1 : ∀ e ∈ es1.toList, GoodS w e) (nd1 : (es1.toList.map keyS).Nodup) (m1 : ∀ k, k ∈ l ↔ k ∈ es1.toList.map keyS)
    (hb1 : es1.size < scanBound) (hf2 : t2.fits es1.size = true) (hz : es1.size ≤ l.length) (hr : Ris t2.place.toList) (hl : w.params.followText "set-order" = true ∨ t2.led = true) {wasDummy : Bool} {R : Option Bool → Shared → Prop}
    (hR : ∀ h', Heap.SameBut a s.heap h' → SetS w h' a l → R (some true) { s with heap := h' }) :
    wpAny (model P w) A (do
        storeSet a es1 t2
        if (!wasDummy && t2.tooFull) = true then do
            g (relayAll t2 es1 (SetTable.grown es1.size)).2.2
            storeSet a (relayAll t2 es1 (SetTable.grown es1.size)).1 (relayAll t2 es1 (SetTable.grown es1.size)).2.1
            pure (some true)
          else pure (some true)) R E s := by
  refine wpAny_bind (wpAny_storeSet_of ho hd ?_ (fits_of_scanBound hb1))
  have ho1 := store_at (es' := es1) (t' := t2) ho hd
  have sb1 := Heap.SameBut.update s.heap a (Obj.putSet es1 t2)
  split
  · have pm := relayAll_perm t2 es1 (SetTable.grown es1.size)
    have hf3 := relayAll_fits t2 es1 (SetTable.grown es1.size)
    have hr3 := relayAll_ris t2 es1 (SetTable.grown es1.size)
    have hl3 := relayAll_led t2 es1 (SetTable.grown es1.size)
    generalize relayAll t2 es1 (SetTable.grown es1.size) = Z at pm hf3 hr3 hl3 ⊢
    obtain ⟨es2, t3, gave⟩ := Z
    dsimp only at pm hf3 hr3 hl3 ⊢
    have hsz : es2.size = es1.size := by rw [← Array.length_toList, pm.length_eq, Array.length_toList]
    have hb2 : es2.size < scanBound := by rw [hsz]; exact hb1
    refine wpAny_bind (hg _ _ _ ?_)
    refine wpAny_bind (wpAny_storeSet_of ho1 rfl ?_ (fits_of_scanBound hb2))
    have ho2 := store_at (es' := es2) (t' := t3) ho1 rfl
    refine wpAny_pure (hR _ (sb1.trans (Heap.SameBut.update _ a _)) ?_)
    exact ⟨_, es2, _, t3, ho2, hex, rfl, fun e he => g1 e (pm.mem_iff.mp he), (pm.map keyS).nodup_iff.mpr nd1, fun k => (m1 k).trans (pm.map keyS).mem_iff.symm, hb2, hf3, by rw [hsz]; exact hz, hr3,
      hl.imp id fun z => by rw [hl3]; exact z⟩
  · exact wpAny_pure (hR _ sb1 ⟨_, es1, _, t2, ho1, hex, rfl, g1, nd1, m1, hb1, hf2, hz, hr, hl⟩)
theorem setS_add {l : List Str} {k : Str} {tk : Tok} {Q : Bool → Shared → Prop} (R : SetS w s.heap a l) (room : l.length + 1 < scanBound)
    (hQ : ∀ b h', Heap.SameBut a s.heap h' → SetS w h' a (l ++ [k]) → Q b { s with heap := h' }) :
    wpAny (model P w) A (setAddHashed a (.str k tk) ((strKind P w).hash k)) Q E s := by
  obtain ⟨o, es, ep, t, ho, hex, hd, g, nd, hm, hb, hf, hn, hr, hl⟩ := R
  have hkey : (strKind P w).is k (.str k tk) = true := isS k tk
  have hsc : (Value.str k tk).scannable = true := rfl
  have hel : ElemsOf (strKind P w) es.toList := goodS_elems g
  unfold setAddHashed setAddHashedIn
  refine wpAny_holding (wpAny_bind (wpAny_setState_of ho hd hf ?_))
  dsimp only
  rw [byScan_of hsc hb hel]
  simp only [↓reduceIte]
  unfold setAddByScan
  refine wpAny_bind ?_
  refine wpAny_bind (wpAny_rule ?_)
  refine wpAny_bind (wpAny_setScan_of hkey ho hd hf hel ?_)
  cases hfi : List.findIdx? (fun e => (strKind P w).is k e.2) es.toList with
  | some j =>
    dsimp only
    obtain ⟨hj, pj, _⟩ := List.findIdx?_eq_some_iff_getElem.mp hfi
    have hk : k ∈ l := (hm k).2 ((goodS_mem (P := P) (w := w) g k).2 ⟨es.toList[j], List.getElem_mem hj, pj⟩)
    refine wpAny_pure (wpAny_pure ?_)
    exact hQ _ s.heap (Heap.SameBut.refl a s.heap) ⟨o, es, ep, t, ho, hex, hd, g, nd, fun i => by
      rw [List.mem_append, List.mem_singleton, ← hm i]
      exact ⟨fun z => z.elim id (fun e => e ▸ hk), .inl⟩, hb, hf, by rw [List.length_append]; omega, hr, hl⟩
  | none =>
    dsimp only
    have hnk : k ∉ es.toList.map keyS := fun z => by
      obtain ⟨e, he, q⟩ := (goodS_mem (P := P) (w := w) g k).1 z
      have c := List.findIdx?_eq_none_iff.mp hfi e he
      rw [q] at c
      cases c
    have hgw : ∀ (b : Bool) {s₁ : Shared} {Q' : Unit → Shared → Prop}, Q' () s₁ → wpAny (model P w) A (match b with | true => rule "set.scan.the-table-gave-way" | false => pure ()) Q' E s₁ :=
      fun b s₁ Q' q => by cases b <;> first | exact wpAny_pure q | exact wpAny_rule q
    have pm := layNew_perm t es ((strKind P w).hash k) (.str k tk)
    have hf1 := layNew_fits t es ((strKind P w).hash k) (.str k tk)
    have hr1 := layNew_ris t es ((strKind P w).hash k) (.str k tk) hr
    have hl1 := layNew_led t es ((strKind P w).hash k) (.str k tk)
    generalize layNew t es ((strKind P w).hash k) (.str k tk) = Z at pm hf1 hr1 hl1 ⊢
    obtain ⟨es1, t1, wasDummy, gave⟩ := Z
    dsimp only at pm hf1 hr1 hl1 ⊢
    rw [Array.toList_push] at pm
    have pc : es1.toList.Perm (((strKind P w).hash k, Value.str k tk) :: es.toList) := pm.trans (List.perm_append_singleton _ _)
    have pk : (es1.toList.map keyS).Perm (k :: es.toList.map keyS) := pc.map keyS
    have g1 : ∀ e ∈ es1.toList, GoodS w e := fun e he => by
      rcases List.mem_cons.mp (pc.mem_iff.mp he) with z | z
      · rw [z]; exact ⟨k, tk, rfl, rfl⟩
      · exact g e z
    have nd1 : (es1.toList.map keyS).Nodup := pk.nodup_iff.mpr (List.nodup_cons.mpr ⟨hnk, nd⟩)
    have m1 : ∀ i, i ∈ l ++ [k] ↔ i ∈ es1.toList.map keyS := fun i => by
      rw [List.mem_append, List.mem_singleton, hm i, pk.mem_iff, List.mem_cons]
      exact Or.comm
    have hsz : es1.size = es.size + 1 := by rw [← Array.length_toList, pc.length_eq, List.length_cons, Array.length_toList]
    have hz1 : es1.size ≤ (l ++ [k]).length := by rw [hsz, List.length_append, List.length_singleton]; omega
    have hb1 : es1.size < scanBound := by rw [hsz]; omega
    have hled : w.params.followText "set-order" = true ∨ t1.led = true := hl.imp id fun z => by rw [hl1]; exact z
    refine wpAny_bind (hgw _ ?_)
    split
    · refine wpAny_bind ?_
      rw [hashByValue_scannable 8 hsc]
      refine wpAny_pure ?_
      refine setS_tail ?_ ho hex hd g1 nd1 m1 hb1 ?_ hz1 ?_ ?_ ?_
      · intro b s₁ Q' q; cases b <;> first | exact wpAny_pure q | exact wpAny_rule q
      · first | (split <;> first | exact hf1 | exact SetTable.fits_plain_off hf1) | exact hf1
      · first | (split <;> exact hr1) | exact hr1
      · first | (split <;> exact hled) | exact hled
      · intro h' sb r; dsimp only; exact wpAny_pure (hQ _ h' sb r)
    · refine wpAny_bind (wpAny_pure ?_)
      simp only [↓reduceIte]
      refine setS_tail ?_ ho hex hd g1 nd1 m1 hb1 hf1 hz1 hr1 hled ?_
      · intro b s₁ Q' q; cases b <;> first | exact wpAny_pure q | exact wpAny_rule q
      · intro h' sb r; dsimp only; exact wpAny_pure (hQ _ h' sb r)
end
end MPSetT
end
section
set_option Elab.async false
set_option linter.all false
set_option maxRecDepth 100000
set_option maxHeartbeats 4000000
/-! MP: set(t) of a tuple of texts -/
namespace MPSetT
open PySem PySem.Spec PyProof.Rows L2 MP
section
variable {P : Program} {w : World} {A : Around} {E : Value → Shared → Prop} {s : Shared} {a : Addr}
theorem code_set_led1 (x : Value) {Q₁ : Value → Shared → Prop}
    (h : Q₁ (.ref s.heap.objs.size) { s with heap := s.heap.push { cls := .type "set", dict := none, data := .set #[] 0 (.fresh 0 0 (!w.params.followText "set-order")) } }) :
    codeAny (model P w) A (.call (.builtin "set.__new__") ⟨[.type "set", x], []⟩) (wants Q₁ E) s := by
  refine codeAny_of_tree ?_
  show wpAny _ A.in1 (do checkBuiltinCall "set.__new__" ⟨[.type "set", x], []⟩; again (.builtin "set.__new__" ⟨[.type "set", x], []⟩)) _ _ s
  refine wpAny_bind (wpAny_of_eq (F.newCall_set_1 x) (wpAny_pure ⟨plainId_quiet F.plain_set_new _, codeAny_builtin F.entry_set_new ?_⟩))
  rw [Around.under_plainId F.plain_set_new _]
  unfold Builtin.«set.__new__» Builtin.Frozenset.newClass
  have hsub := sub_set_self
  obtain ⟨hp, g, d, tk, os⟩ := s
  dsimp only
  wp_walk
  refine wpAny_askSetting (wpAny_pure ?_)
  dsimp only
  simp only [newObj]
  refine wpAny_bind (wpAny_alloc (wpAny_pure ?_))
  exact wpAny_pure h
theorem setS_fresh {h h' : Heap} (w : World) (k : h'.get? h.objs.size = some { cls := .type "set", dict := none, data := .set #[] 0 (.fresh 0 0 (!w.params.followText "set-order")) }) : SetS w h' h.objs.size [] :=
  ⟨_, #[], 0, _, k, ⟨rfl, rfl, rfl⟩, rfl, (fun e he => by simp at he), (by simp), (fun k => by simp), (by decide), (by rfl), (by simp), List.Pairwise.nil, by
    show _ ∨ (!w.params.followText "set-order") = true
    cases w.params.followText "set-order"
    · exact .inr rfl
    · exact .inl rfl⟩
end
section
variable {P : Program} {w : World} {A : Around} {R : Result → Shared → Prop} {I : Addr} {fp wr : List Addr} {G : Array GenState → Array GenState → Prop} {n : Nat} {PP : Nat → Value → Prop} {St : Nat → Shared → Prop}
theorem loop_texts (W : WalksS P w A.in1 I fp wr G n PP St) (S : Addr) (hSf : S ∉ fp) (xs : List Str) (hn : n = xs.length) (hval : ∀ i v, PP i v → ∃ t, v = .str (xs.getD i Str.empty) t) (hb : n + 1 < scanBound) :
    ∀ (k i : Nat) (s : Shared), n - i = k → i ≤ n → St i s → SetS w s.heap S (xs.take i) →
      (∀ s', Moved (S :: wr) G s s' → SetS w s'.heap S xs → R (.ok (.ret .none)) s') →
      codeAny (model P w) A (.builtin "set.update.loop" ⟨[.ref S, .ref I], []⟩) R s := by
  have hSw : S ∉ wr := fun h => hSf (W.sub _ h)
  have hsub : ∀ b ∈ wr, b ∈ S :: wr := fun b hb => List.mem_cons_of_mem _ hb
  intro k
  induction k with
  | zero =>
    intro i s hk hi hst hS hR
    have hin : i = n := by omega
    subst hin
    refine codeAny_builtin F.entry_set_update_loop ?_
    rw [Around.under_plainId F.plain_set_update_loop _]
    show wpAny _ A.in1 (pyNext (.ref I) >>= _) _ _ s
    refine wpAny_bind (W.done s _ _ hst fun s' hm => ?_)
    show wpAny _ A.in1 (ret Value.none) _ _ s'
    rw [hn, List.take_length] at hS
    exact wpAny_pure (hR s' (hm.mono hsub) (hS.at fun o ho => hm.heap S _ hSw ho))
  | succ k ih =>
    intro i s hk hi hst hS hR
    have hlt : i < n := by omega
    refine codeAny_builtin F.entry_set_update_loop ?_
    rw [Around.under_plainId F.plain_set_update_loop _]
    show wpAny _ A.in1 (pyNext (.ref I) >>= _) _ _ s
    refine wpAny_bind (W.item i s _ _ hlt hst fun v s' hP hst' hm => ?_)
    obtain ⟨t, rfl⟩ := hval i v hP
    have hS' : SetS w s'.heap S (xs.take i) := hS.at fun o ho => hm.heap S _ hSw ho
    show wpAny _ A.in1 (holding [Value.str (xs.getD i Str.empty) t] (setAdd S (.str (xs.getD i Str.empty) t)) >>= _) _ _ s'
    refine wpAny_bind (wpAny_holding ?_)
    unfold setAdd
    refine wpAny_holding ?_
    refine wpAny_bind ((strKind P w).pyHash (k := xs.getD i Str.empty) (isS _ _) ?_)
    refine setS_add (P := P) (s := { s' with toks := s'.toks + 1 }) hS' (by rw [List.length_take]; omega) fun b h' hsb hS2 => ?_
    have e1 : xs.take i ++ [xs.getD i Str.empty] = xs.take (i + 1) := by
      have hi' : i < xs.length := by omega
      rw [List.take_succ, List.getD_eq_getElem?_getD, List.getElem?_eq_getElem hi']
      rfl
    rw [e1] at hS2
    refine wpAny_pure ⟨plainId_quiet F.plain_set_update_loop _, ih (i + 1) _ (by omega) hlt (W.frame _ s' _ _ hst' (Nat.le_succ _) fun b hb o e => ?_) hS2 fun s'' hm'' hS'' => ?_⟩
    · rw [hsb.2 b (fun h : b = S => hSf (by rw [← h]; exact hb))]; exact e
    · refine hR s'' (Moved.trans W.gtrans ((hm.mono hsub).then_heap (Nat.le_succ _) fun b o hb e => ?_) hm'') hS''
      rw [hsb.2 b (fun h : b = S => hb (by rw [h]; exact List.mem_cons_self))]; exact e
end
section
variable {P : Program} {w : World} {A : Around} {E : Value → Shared → Prop} {s : Shared} {a : Addr}
theorem sub_tup_set : isSubtype (.type "tuple") (.type "set") = pure false := by rw [isSubtype_type]; kernel_rfl
theorem sub_tup_frozenset : isSubtype (.type "tuple") (.type "frozenset") = pure false := by rw [isSubtype_type]; kernel_rfl
theorem call_set_texts {l : Addr} {items : Array Value} {xs : List Str} {Q : Value → Shared → Prop}
    (hh : A.handled = none) (hl : s.heap.IsTuple l items) (hi : ∀ (i : Nat) (v : Value), items[i]? = some v → ∃ t, v = .str (xs.getD i Str.empty) t) (hsz : items.size = xs.length) (hb : items.size + 1 < scanBound)
    (h : ∀ (h' : Heap) (tk : Nat), SetS w h' s.heap.objs.size xs →
      (∀ b o, b < s.heap.objs.size → s.heap.get? b = some o → h'.get? b = some o) → s.toks ≤ tk → Q (.ref s.heap.objs.size) { s with heap := h', toks := tk }) :
    wpAny (model P w) A (call (.type "set") [.ref l]) Q E s := by
  obtain ⟨c, tl, hmro⟩ := F.called_set.mro
  have hmade := F.called_set.made
  have hsub := F.called_set.sub
  refine wpAny_call (codeAny_of_tree ?_)
  show wpAny _ _ (callAny (.type "set") _) _ _ _
  refine wpAny_pure ⟨Code.quiet_builtin _ (by decide +kernel), codeAny_builtin F.entry_type_call ?_⟩
  rw [Around.under_plain (weight_type_call_type "set" [.ref l] []) rfl]
  have h1 := F.called_set.notType
  have h2 := F.called_set.canCreate
  have hct := F.typeCall_set_1 (.ref l)
  repeat (any_goals (first | assumption | wp_step))
  refine codeAny_mono (code_set_led1 (P := P) (w := w) (.ref l) (E := E) (Q₁ := fun obj s₁ => obj = .ref s.heap.objs.size ∧ s₁ = { s with heap := s.heap.push { cls := .type "set", dict := none, data := .set #[] 0 (.fresh 0 0 (!w.params.followText "set-order")) } }) ⟨rfl, rfl⟩) fun r s₁ hr => ?_
  generalize hled : (!w.params.followText "set-order") = led at hr
  cases r with
  | error e => exact hr
  | ok fl =>
    cases fl with
    | ret obj =>
      obtain ⟨rfl, rfl⟩ := hr
      have hS : (s.heap.push { cls := .type "set", dict := none, data := .set #[] 0 (.fresh 0 0 led) }).get? s.heap.objs.size = some { cls := .type "set", dict := none, data := .set #[] 0 (.fresh 0 0 led) } := Heap.get?_push_size _ rfl
      have hT : Shared.TypeIs { s with heap := s.heap.push { cls := .type "set", dict := none, data := .set #[] 0 (.fresh 0 0 led) } } (.ref s.heap.objs.size) "set" := ⟨_, hS, rfl⟩
      have hli := F.called_set.init.lookup
      have hbi := F.called_set.init.bind (.ref s.heap.objs.size)
      repeat (any_goals (first | assumption | wp_step))
      refine codeAny_mono (codeAny_call_builtin (R := wants (fun r s₂ => r = .none ∧ ∃ h' tk, s₂ = { s with heap := h', toks := tk } ∧ SetS w h' s.heap.objs.size xs ∧
          (∀ b o, b < s.heap.objs.size → s.heap.get? b = some o → h'.get? b = some o) ∧ s.toks ≤ tk) E) F.called_set.init.plain F.entry_set_init (check_set_init_1 hT ?_)) fun r₂ s₂ hr₂ => ?_
      · obtain ⟨ol, hol, hcl, nl, hdl⟩ := hl
        obtain ⟨ocls, odict, odata, oslots⟩ := ol
        simp only at hcl hdl
        subst hcl; subst hdl
        have hol' : (s.heap.push { cls := .type "set", dict := none, data := .set #[] 0 (.fresh 0 0 led) }).get? l = some { cls := .type "tuple", dict := odict, data := .seq items nl, slots := oslots } := Heap.get?_push_of_some _ hol
        have hsls := sub_tup_set
        have hslf := sub_tup_frozenset
        have hne : (Value.type "tuple" == Value.type "dict") = false := by decide
        have hl1 : (s.heap.push { cls := .type "set", dict := none, data := .set #[] 0 (.fresh 0 0 led) }).IsTuple l items := ⟨_, hol', rfl, nl, rfl⟩
        unfold Builtin.«set.__init__» noKeywords Builtin.Frozenset.updateFrom
        generalize hPI : pyIter = PI
        wp_walk
        subst hPI
        refine wpAny_pyIter_tuple hl1 ?_
        refine wpAny_bind (wpAny_runValue ?_)
        have hlS : l < s.heap.objs.size := Heap.lt_size hol
        have hh3 : A.in1.in1.in1.handled = none := by simp [hh]
        have hneI : l ≠ (s.heap.push { cls := .type "set", dict := none, data := .set #[] 0 (.fresh 0 0 led) }).objs.size := by
          rw [Heap.size_push]; exact Nat.ne_of_lt (Nat.lt_succ_of_lt hlS)
        have hSf : s.heap.objs.size ∉ [(s.heap.push { cls := .type "set", dict := none, data := .set #[] 0 (.fresh 0 0 led) }).objs.size, l] := by
          rw [Heap.size_push]; simp only [List.mem_cons, List.mem_singleton, List.not_mem_nil, or_false, not_or]
          exact ⟨Nat.ne_of_lt (Nat.lt_succ_self _), Nat.ne_of_gt hlS⟩
        refine loop_texts (P := P) ((Walks.tuple hh3 _ l hneI items).toS) s.heap.objs.size hSf xs hsz hi hb (items.size - 0) 0 _ (by omega) (Nat.zero_le _)
          ⟨⟨_, Heap.get?_push_size _ rfl, rfl, rfl⟩, ⟨_, Heap.get?_push_of_some _ hol', rfl, nl, rfl⟩⟩ ?hS0 ?hR
        case hS0 =>
          have hget : ((s.heap.push { cls := .type "set", dict := none, data := .set #[] 0 (.fresh 0 0 led) }).push { cls := .type "tuple_iterator", data := .fields #[.ref l, .int 0 0] }).get? s.heap.objs.size
              = some { cls := .type "set", dict := none, data := .set #[] 0 (.fresh 0 0 led) } := Heap.get?_push_of_some _ hS
          rw [← hled] at hget ⊢
          exact setS_fresh w hget
        case hR =>
          intro s' hm hS'
          obtain ⟨h', g', d', tk', os'⟩ := s'
          have eg : g' = s.gens := hm.gens
          have ed : d' = s.drawn := hm.drawn
          have eo : os' = s.os := hm.os
          have et := hm.toks
          subst eg; subst ed; subst eo
          show wpAny _ _ _ _ _ _
          refine wpAny_pure ?_
          show wpAny _ _ (ret Value.none) _ _ _
          refine wpAny_pure ⟨rfl, h', tk', rfl, hS', fun b o hb e => ?_, et⟩
          have hb1 : b ≠ s.heap.objs.size := Nat.ne_of_lt hb
          have hb2 : b ≠ (s.heap.push { cls := .type "set", dict := none, data := .set #[] 0 (.fresh 0 0 led) }).objs.size := by
            rw [Heap.size_push]; exact Nat.ne_of_lt (Nat.lt_succ_of_lt hb)
          exact hm.heap b o (by simp only [List.mem_cons, List.mem_singleton, List.not_mem_nil, or_false, not_or]; exact ⟨hb1, hb2⟩) (Heap.get?_push_of_some _ (Heap.get?_push_of_some _ e))
      · cases r₂ with
        | error e => exact hr₂
        | ok fl₂ =>
          cases fl₂ with
          | ret r =>
            obtain ⟨rfl, h', tk, rfl, hS', hk', ht'⟩ := hr₂
            repeat (any_goals (first | assumption | wp_step))
            exact h _ _ hS' hk' ht'
          | _ => exact hr₂.elim
    | _ => exact hr.elim
end
end MPSetT
end
section
set_option Elab.async false
set_option linter.all false
set_option maxRecDepth 100000
set_option maxHeartbeats 4000000
/-! MP: sorted(s) of a set of texts -/
namespace MPSetT
open PySem PySem.Spec PySem.Calls PyProof.Rows PySem.W PySem.SeqAt L2 MP
section
variable {P : Program} {w : World} {A : Around} {E : Value → Shared → Prop} {s : Shared} {a : Addr}
def keyV (v : Value) : Str := match v with | .str k _ => k | _ => Str.empty
def isT (v : Value) (x : Str) : Prop := ∃ t, v = .str x t
theorem each_keys' : ∀ {vs : List Value}, (∀ v ∈ vs, ∃ k t, v = .str k t) → EachIs isT vs (vs.map keyV)
  | [], _ => .nil
  | v :: vs, h => by
    obtain ⟨k, t, rfl⟩ := h v List.mem_cons_self
    exact .cons ⟨t, rfl⟩ (each_keys' fun u hu => h u (List.mem_cons_of_mem _ hu))
theorem sorted_texts {l : List Str} {Q : Value → Shared → Prop} (R : SetS w s.heap a l) (hh : A.handled = none) (hn : l.length ≤ 1000) (hu : A.units + 3 < cLine)
    (hQ : ∀ s' p (out : Array Value) (c : Nat) (bs : List Str), (∀ b o, s.heap.get? b = some o → s'.heap.get? b = some o) → s'.gens = s.gens → s'.os = s.os → s.heap.objs.size ≤ p →
      s'.heap.get? p = some (seqObj "list" out c) → bs.Nodup → (∀ k, k ∈ bs ↔ k ∈ l) → EachIs isT out.toList (bs.mergeSort (PySem.W.dataLe false PyData.str)) → Q (.ref p) s') :
    wpAny (model P w) A (call (.builtin "sorted") [.ref a]) Q E s := by
  obtain ⟨o, es, ep, t, ho, hex, hd, g, nd, hm, hb, hf, hn', hr, hl⟩ := R
  refine Calls.call_function_entry kind_sorted plain_sorted entry_sorted (args_sorted1 _) ?_
  unfold Builtin.«sorted»
  refine wpAny_bind (m := checkCount "sorted" 1 1 _) (wpAny_pure ?_)
  refine wpAny_bind (collect_set (A := A.in1) hh ⟨o, ho, hex.1, hd⟩ hf hb hr hl fun s1 vs k1 hz g1 o1 pm => ?_)
  have hvl : vs.length = es.size := by rw [pm.length_eq, List.length_map, Array.length_toList]
  have hall : ∀ v ∈ vs, ∃ k t, v = Value.str k t := fun v hv => by
    obtain ⟨e, he, q⟩ := List.mem_map.mp (pm.mem_iff.mp hv)
    obtain ⟨k, tk, h1, _⟩ := g e he
    exact ⟨k, tk, by rw [← q]; exact h1⟩
  have er := each_keys' hall
  have pk : (vs.map keyV).Perm (es.toList.map keyS) := by
    have q := pm.map keyV
    rw [List.map_map] at q
    exact q
  refine wpAny_bind (wpAny_newList ?_ (by rw [hvl, sizeLine_eq]; omega))
  have hoL : (s1.heap.push (seqObj "list" vs.toArray 0)).get? s1.heap.objs.size = some (seqObj "list" vs.toArray 0) := Heap.get?_push_size _ rfl
  have rd : EachIs (fun v d => ∃ as, Reads (sortingHeap (s1.heap.push (seqObj "list" vs.toArray 0)) s1.heap.objs.size vs) v d as) vs ((vs.map keyV).map PyData.str) :=
    each_map (R := fun v d => ∃ as, Reads (sortingHeap (s1.heap.push (seqObj "list" vs.toArray 0)) s1.heap.objs.size vs) v d as) PyData.str (er.mono fun v x ⟨t, e⟩ => ⟨[], by rw [e]; exact .str x t⟩)
  have hal : AllAlike ((vs.map keyV).map PyData.str) := by
    intro d hd d' hd'
    obtain ⟨x, _, rfl⟩ := List.mem_map.mp hd
    obtain ⟨y, _, rfl⟩ := List.mem_map.mp hd'
    simp [alike]
  have S : SortsAt P w A.in1.in1 { s1 with heap := sortingHeap (s1.heap.push (seqObj "list" vs.toArray 0)) s1.heap.objs.size vs } (dataKind (sortingHeap (s1.heap.push (seqObj "list" vs.toArray 0)) s1.heap.objs.size vs) ((vs.map keyV).map PyData.str)) vs :=
    SortsAt.mix (s := { s1 with heap := sortingHeap (s1.heap.push (seqObj "list" vs.toArray 0)) s1.heap.objs.size vs }) rd hal (fun d hd => by
      obtain ⟨x, _, rfl⟩ := List.mem_map.mp hd
      simp) (fun d hd => by
      obtain ⟨x, _, rfl⟩ := List.mem_map.mp hd
      show A.units + 1 + 1 + 0 < _
      omega)
  have hL : vs.length ≤ sizeLine := by rw [hvl, sizeLine_eq]; omega
  have rd0 : EachIs (fun v x => ∃ as, Reads (sortingHeap (s1.heap.push (seqObj "list" vs.toArray 0)) s1.heap.objs.size vs) v (PyData.str x) as) vs (vs.map keyV) := er.mono fun v x ⟨t, e⟩ => ⟨[], by rw [e]; exact .str x t⟩
  have out := sortVals_data (enc := PyData.str) false er rd0 hal
  refine wpAny_bind (wpAny_holding (wpAny_call_entry slot_list_sort ⟨_, hoL, rfl⟩ entry_list_sort (list_sort_vals (s := { s1 with heap := s1.heap.push (seqObj "list" vs.toArray 0) }) hoL S hL ⟨_, rfl, ?_⟩) (args_list_sort _)))
  obtain ⟨c, hc⟩ := sortedHeap_at (vs := vs) (out := (sortVals (dataKind (sortingHeap (s1.heap.push (seqObj "list" vs.toArray 0)) s1.heap.objs.size vs) ((vs.map keyV).map PyData.str)) false vs vs).toArray) hoL
  refine wpAny_pure ⟨_, rfl, hQ _ s1.heap.objs.size _ c (vs.map keyV) (fun b u e => ?_) g1 o1 hz hc (pk.nodup_iff.mpr nd) (fun k => by rw [pk.mem_iff, ← hm k]) out⟩
  have q := k1 b u e
  have hlt := Heap.lt_size q
  show (sortedHeap (s1.heap.push (seqObj "list" vs.toArray 0)) s1.heap.objs.size vs _).get? b = some u
  rw [sortedHeap_old (Nat.ne_of_lt hlt) (by rw [size_push']; exact Nat.lt_succ_of_lt hlt)]
  exact Heap.get?_push_of_some _ q
end
end MPSetT
end
section
set_option Elab.async false
set_option linter.all false
set_option maxRecDepth 100000
set_option maxHeartbeats 4000000
/-! MP: set(l) of a list of ints -/
namespace MPSetI
open PySem PySem.Spec PyProof.Rows L2 MP
section
variable {P : Program} {w : World} {A : Around} {E : Value → Shared → Prop} {s : Shared} {a : Addr}
theorem sub_list_set : isSubtype (.type "list") (.type "set") = pure false := by rw [isSubtype_type]; kernel_rfl
theorem sub_list_frozenset : isSubtype (.type "list") (.type "frozenset") = pure false := by rw [isSubtype_type]; kernel_rfl
theorem call_set_ints {l : Addr} {items : Array Value} {ns : List Int} {Q : Value → Shared → Prop}
    (hh : A.handled = none) (hl : s.heap.IsList l items) (hi : IntsAre items.toList ns) (hsz : items.size = ns.length) (hb : ns.length + 1 < scanBound)
    (h : ∀ (h' : Heap) (tk c : Nat), SetR w h' s.heap.objs.size (fun j => decide (j ∈ ns)) c → c ≤ ns.length →
      (∀ b o, b < s.heap.objs.size → s.heap.get? b = some o → h'.get? b = some o) → s.toks ≤ tk → Q (.ref s.heap.objs.size) { s with heap := h', toks := tk }) :
    wpAny (model P w) A (call (.type "set") [.ref l]) Q E s := by
  obtain ⟨c, tl, hmro⟩ := F.called_set.mro
  have hmade := F.called_set.made
  have hsub := F.called_set.sub
  refine wpAny_call (codeAny_of_tree ?_)
  show wpAny _ _ (callAny (.type "set") _) _ _ _
  refine wpAny_pure ⟨Code.quiet_builtin _ (by decide +kernel), codeAny_builtin F.entry_type_call ?_⟩
  rw [Around.under_plain (weight_type_call_type "set" [.ref l] []) rfl]
  have h1 := F.called_set.notType
  have h2 := F.called_set.canCreate
  have hct := F.typeCall_set_1 (.ref l)
  repeat (any_goals (first | assumption | wp_step))
  refine codeAny_mono (MPSetT.code_set_led1 (P := P) (w := w) (.ref l) (E := E) (Q₁ := fun obj s₁ => obj = .ref s.heap.objs.size ∧ s₁ = { s with heap := s.heap.push { cls := .type "set", dict := none, data := .set #[] 0 (.fresh 0 0 (!w.params.followText "set-order")) } }) ⟨rfl, rfl⟩) fun r s₁ hr => ?_
  generalize hled : (!w.params.followText "set-order") = led at hr
  cases r with
  | error e => exact hr
  | ok fl =>
    cases fl with
    | ret obj =>
      obtain ⟨rfl, rfl⟩ := hr
      have hS : (s.heap.push { cls := .type "set", dict := none, data := .set #[] 0 (.fresh 0 0 led) }).get? s.heap.objs.size = some { cls := .type "set", dict := none, data := .set #[] 0 (.fresh 0 0 led) } := Heap.get?_push_size _ rfl
      have hT : Shared.TypeIs { s with heap := s.heap.push { cls := .type "set", dict := none, data := .set #[] 0 (.fresh 0 0 led) } } (.ref s.heap.objs.size) "set" := ⟨_, hS, rfl⟩
      have hli := F.called_set.init.lookup
      have hbi := F.called_set.init.bind (.ref s.heap.objs.size)
      repeat (any_goals (first | assumption | wp_step))
      refine codeAny_mono (codeAny_call_builtin (R := wants (fun r s₂ => r = .none ∧ ∃ h' tk c, s₂ = { s with heap := h', toks := tk } ∧ SetR w h' s.heap.objs.size (fun j => decide (j ∈ ns)) c ∧ c ≤ ns.length ∧
          (∀ b o, b < s.heap.objs.size → s.heap.get? b = some o → h'.get? b = some o) ∧ s.toks ≤ tk) E) F.called_set.init.plain F.entry_set_init (check_set_init_1 hT ?_)) fun r₂ s₂ hr₂ => ?_
      · obtain ⟨ol, hol, hcl, nl, hdl⟩ := hl
        obtain ⟨ocls, odict, odata, oslots⟩ := ol
        simp only at hcl hdl
        subst hcl; subst hdl
        have hol' : (s.heap.push { cls := .type "set", dict := none, data := .set #[] 0 (.fresh 0 0 led) }).get? l = some { cls := .type "list", dict := odict, data := .seq items nl, slots := oslots } := Heap.get?_push_of_some _ hol
        have hsls := sub_list_set
        have hslf := sub_list_frozenset
        have hne : (Value.type "list" == Value.type "dict") = false := by decide
        have hl1 : (s.heap.push { cls := .type "set", dict := none, data := .set #[] 0 (.fresh 0 0 led) }).IsList l items := ⟨_, hol', rfl, nl, rfl⟩
        unfold Builtin.«set.__init__» noKeywords Builtin.Frozenset.updateFrom
        generalize hPI : pyIter = PI
        wp_walk
        subst hPI
        refine wpAny_pyIter_list hl1 ?_
        refine wpAny_bind (wpAny_runValue ?_)
        have hlS : l < s.heap.objs.size := Heap.lt_size hol
        have hh3 : A.in1.in1.in1.handled = none := by simp [hh]
        have hneI : l ≠ (s.heap.push { cls := .type "set", dict := none, data := .set #[] 0 (.fresh 0 0 led) }).objs.size := by
          rw [Heap.size_push]; exact Nat.ne_of_lt (Nat.lt_succ_of_lt hlS)
        have hSf : s.heap.objs.size ∉ [(s.heap.push { cls := .type "set", dict := none, data := .set #[] 0 (.fresh 0 0 led) }).objs.size, l] := by
          rw [Heap.size_push]; simp only [List.mem_cons, List.mem_singleton, List.not_mem_nil, or_false, not_or]
          exact ⟨Nat.ne_of_lt (Nat.lt_succ_self _), Nat.ne_of_gt hlS⟩
        refine set_update_ints (P := P) ((Walks.list hh3 _ l hneI items).toS) s.heap.objs.size hSf ns hsz hb ?hv (items.size - 0) 0 _ (by omega) (Nat.zero_le _)
          ⟨⟨_, Heap.get?_push_size _ rfl, rfl, rfl⟩, ⟨_, Heap.get?_push_of_some _ hol', rfl, nl, rfl⟩⟩ ?hS0 ?hR
        case hv =>
          intro i v hv
          have hv' : items.toList[i]? = some v := by simpa using hv
          obtain ⟨t, e⟩ := hi.int_at i v hv'
          have hlt : i < ns.length := by
            have := (List.getElem?_eq_some_iff.mp hv').1
            rw [Array.length_toList] at this
            omega
          refine ⟨ns.getD i 0, t, ?_, e⟩
          rw [List.getD_eq_getElem?_getD, List.getElem?_eq_getElem hlt]
          rfl
        case hS0 =>
          have hget : ((s.heap.push { cls := .type "set", dict := none, data := .set #[] 0 (.fresh 0 0 led) }).push { cls := .type "list_iterator", data := .fields #[.ref l, .int 0 0] }).get? s.heap.objs.size
              = some { cls := .type "set", dict := none, data := .set #[] 0 (.fresh 0 0 led) } := Heap.get?_push_of_some _ hS
          rw [← hled] at hget ⊢
          exact ⟨0, Nat.le_refl _, setR_new_at hget⟩
        case hR =>
          intro s' c hm hc hS'
          obtain ⟨h', g', d', tk', os'⟩ := s'
          have eg : g' = s.gens := hm.gens
          have ed : d' = s.drawn := hm.drawn
          have eo : os' = s.os := hm.os
          have et := hm.toks
          subst eg; subst ed; subst eo
          show wpAny _ _ _ _ _ _
          refine wpAny_pure ?_
          show wpAny _ _ (ret Value.none) _ _ _
          refine wpAny_pure ⟨rfl, h', tk', c, rfl, hS', by omega, fun b o hb e => ?_, et⟩
          have hb1 : b ≠ s.heap.objs.size := Nat.ne_of_lt hb
          have hb2 : b ≠ (s.heap.push { cls := .type "set", dict := none, data := .set #[] 0 (.fresh 0 0 led) }).objs.size := by
            rw [Heap.size_push]; exact Nat.ne_of_lt (Nat.lt_succ_of_lt hb)
          exact hm.heap b o (by simp only [List.mem_cons, List.mem_singleton, List.not_mem_nil, or_false, not_or]; exact ⟨hb1, hb2⟩) (Heap.get?_push_of_some _ (Heap.get?_push_of_some _ e))
      · cases r₂ with
        | error e => exact hr₂
        | ok fl₂ =>
          cases fl₂ with
          | ret r =>
            obtain ⟨rfl, h', tk, c, rfl, hS', hc', hk', ht'⟩ := hr₂
            repeat (any_goals (first | assumption | wp_step))
            exact h _ _ c hS' hc' hk' ht'
          | _ => exact hr₂.elim
    | _ => exact hr.elim
end
end MPSetI
end
section
set_option Elab.async false
set_option linter.all false
set_option maxRecDepth 100000
set_option maxHeartbeats 4000000
/-! MP: sorted(set(t)), t a tuple of texts -/
namespace MP
open PySem PySem.Spec PySem.Calls PyProof.Rows L2 MPSetT
theorem strsOf_eq : ∀ {xs : List D} {ys : List Str}, strsOf xs = some ys → xs = ys.map .str
  | [], ys, h => by cases h; rfl
  | x :: xs, ys, h => by
    cases x <;> simp only [strsOf] at h <;> try (cases h; done)
    rename_i b
    cases e : strsOf xs with
    | none => rw [e] at h; cases h
    | some zs =>
      rw [e] at h
      cases h
      rw [strsOf_eq e]
      rfl
theorem strs_inj (a b : Str) (h : PySem.W.keyToks (PyData.str a) = PySem.W.keyToks (PyData.str b)) : a = b := by
  simp only [PySem.W.keyToks, List.cons.injEq, Sum.inr.injEq, and_true] at h
  exact PySem.W.str_of_cps h
theorem ed_ok : ∀ (n : Nat) (l : List Str), l.length ≤ n → l.eraseDups.Nodup ∧ l.eraseDups.length ≤ l.length
  | _, [], _ => by simp
  | 0, x :: l, h => by simp at h
  | n + 1, x :: l, h => by
    rw [List.length_cons] at h
    have fl := List.length_filter_le (fun b => !b == x) l
    obtain ⟨h1, h2⟩ := ed_ok n (l.filter fun b => !b == x) (by omega)
    rw [List.eraseDups_cons, List.nodup_cons]
    refine ⟨⟨fun hx => ?_, h1⟩, by simp only [List.length_cons]; omega⟩
    rw [List.mem_eraseDups, List.mem_filter] at hx
    simp at hx
theorem edI_ok : ∀ (n : Nat) (l : List Int), l.length ≤ n → l.eraseDups.Nodup ∧ l.eraseDups.length ≤ l.length
  | _, [], _ => by simp
  | 0, x :: l, h => by simp at h
  | n + 1, x :: l, h => by
    rw [List.length_cons] at h
    have fl := List.length_filter_le (fun b => !b == x) l
    obtain ⟨h1, h2⟩ := edI_ok n (l.filter fun b => !b == x) (by omega)
    rw [List.eraseDups_cons, List.nodup_cons]
    refine ⟨⟨fun hx => ?_, h1⟩, by simp only [List.length_cons]; omega⟩
    rw [List.mem_eraseDups, List.mem_filter] at hx
    simp at hx
theorem sortT_of {bs ys : List Str} (nd : bs.Nodup) (h : ∀ k, k ∈ bs ↔ k ∈ ys) : bs.mergeSort (PySem.W.dataLe false PyData.str) = sortT ys := by
  have p : bs.Perm ys.eraseDups := (List.perm_ext_iff_of_nodup nd (ed_ok _ ys (Nat.le_refl _)).1).mpr fun k => by rw [h k, List.mem_eraseDups]
  have t : PySem.W.TotalLe (PySem.W.dataLe false PyData.str) := PySem.W.sortLe_total (listOrd itemOrd) false fun b => PySem.W.keyToks (PyData.str b)
  refine List.Perm.eq_of_pairwise (le := fun a b => PySem.W.dataLe false PyData.str a b = true) (fun a b _ _ h1 h2 => ?_) ?_ ?_ ?_
  · have h1' : (!PyProof.Rows.lexLt itemOrd (PySem.W.keyToks (.str b)) (PySem.W.keyToks (.str a))) = true := h1
    have h2' : (!PyProof.Rows.lexLt itemOrd (PySem.W.keyToks (.str a)) (PySem.W.keyToks (.str b))) = true := h2
    rw [Bool.not_eq_true'] at h1' h2'
    exact strs_inj a b (lex_total (O := itemOrd) _ _ h2' h1')
  · exact PySem.W.sort_pairwise t bs
  · exact PySem.W.sort_pairwise t _
  · exact (List.mergeSort_perm bs _).trans (p.trans (List.mergeSort_perm _ _).symm)
theorem repl_strs {G : Gd} {as : List Addr} {fz : Addr → Prop} {H : Hp} : ∀ {ys : List Str} {vs : List V}, RepL G as fz H vs (ys.map .str) → vs = ys.map V.str
  | [], _, h => by cases h; rfl
  | y :: ys, _, h => by
    cases h with
    | cons a t =>
      cases a
      rw [repl_strs t]
      rfl
theorem vals_strs : ∀ {ys : List Str} {us : List Value}, Vals (ys.map V.str) us → us.length = ys.length ∧ ∀ (i : Nat) (v : Value), us[i]? = some v → ∃ t, v = .str (ys.getD i Str.empty) t
  | [], _, h => by cases h; exact ⟨rfl, fun i v e => by simp at e⟩
  | y :: ys, _, h => by
    cases h with
    | cons a t =>
      obtain ⟨tk, rfl⟩ := a
      obtain ⟨l, k⟩ := vals_strs t
      refine ⟨by simp [l], fun i v e => ?_⟩
      cases i with
      | zero => simp at e; exact ⟨tk, by rw [← e]; simp⟩
      | succ i => simpa using k i v (by simpa using e)
theorem strs_rep {G : Gd} {as : List Addr} {fz : Addr → Prop} {H : Hp} : ∀ ys : List Str, RepL G as fz H (ys.map V.str) (ys.map D.str)
  | [] => .nil
  | y :: ys => .cons (.str y) (strs_rep ys)
theorem vals_isT : ∀ {us : List Value} {ys : List Str}, PySem.W.EachIs isT us ys → Vals (ys.map V.str) us
  | _, _, .nil => .nil
  | _, _, .cons a t => .cons a (vals_isT t)
/-- the set of texts at a -/
def SetT (w : World) (a : Addr) (l : List Str) : HO := .ext fun h => SetS w h a l
section
variable {X : Cx} {G : Gd}
theorem setT_new {w : World} {P : Program} {H : Hp} {h : Heap} {a : Addr} {l : List Str} (R : SetS w h a l) : ObjOk P w H h a (SetT w a l) := by
  have ⟨o, _, _, _, ho, _⟩ := R
  exact ⟨R, ⟨o, ho⟩, fun h1 h2 p k => SetS.at p k⟩
def rSetT (G : Gd) (w : World) : List V → Hp → VK → Prop := fun xs H Q => ∃ as fz ys, RepRs G as fz H xs [.tup (ys.map .str)] ∧ ys.length ≤ 1000 ∧ ∀ p, H p = none → Q (.ref p) (upd H p (SetT w p ys))
theorem c_setT (hK : G.K = X.K) (hc : X.calm = true) : CallR X (.type "set") (rSetT G X.w) := by
  intro pins s σ H xs us Q I rx ⟨as, fz, ys, hd, hl, q⟩
  obtain ⟨x, rfl, h⟩ := hd.one
  obtain ⟨a, vs, rfl, ha, r1⟩ := h.tup
  obtain ⟨u, rfl, ru⟩ := vals_one rx
  cases ru
  obtain ⟨its, rv, pl, hz⟩ := I.tuple (hK ▸ ha)
  have e := repl_strs r1
  subst e
  obtain ⟨l1, k1⟩ := vals_strs rv
  have sb : 2000 < scanBound := by decide
  refine call_set_texts (P := X.prog) (w := X.w) (xs := ys) (I.ok.hd hc) pl (fun i v e => k1 i v (by simpa using e)) (by simpa using l1) (by simp only [List.size_toArray]; omega) fun h' tk R old ht => ?_
  exact ⟨.ref _, upd H s.heap.objs.size (SetT X.w s.heap.objs.size ys), I.laid (t' := tk) (fun b u e => old b u (Heap.lt_size e) e) (Nat.le_refl _) (setT_new R), rfl, q _ (I.hok.fresh (Nat.le_refl _))⟩
def rSortT (w : World) : List V → Hp → VK → Prop := fun vs H Q => ∃ (a : Addr) (ys : List Str), vs = [V.ref a] ∧ H a = some (SetT w a ys) ∧ ys.length ≤ 1000 ∧ ∀ p, H p = none → Q (.ref p) (upd H p (.lst ((sortT ys).map V.str)))
theorem c_sortT (hc : X.calm = true) (hu : X.A.units + 70 < cLine) : CallR X (.builtin "sorted") (rSortT X.w) := by
  intro pins s σ H vs us Q I r h
  obtain ⟨a, ys, rfl, ha, hl, q⟩ := h
  have R : SetS X.w s.heap a ys := (I.hok a _ ha).1
  rw [Vals.ref1 r]
  refine sorted_texts R (I.ok.hd hc) hl (by omega) fun s' p out c bs k g o hp hg nd hm he => ?_
  rw [sortT_of nd hm] at he
  have hv := vals_isT he
  have hlen : ((sortT ys).map V.str).length ≤ sizeLine := by
    have : (sortT ys).length ≤ ys.length := by
      unfold sortT
      rw [List.length_mergeSort]
      exact (ed_ok _ ys (Nat.le_refl _)).2
    rw [List.length_map, sizeLine_eq]
    omega
  have hn : H p = none := I.hok.fresh hp
  have J : Inv X pins σ (upd H p (.lst ((sortT ys).map V.str))) { s with heap := s'.heap, gens := s'.gens, drawn := s'.drawn, toks := s'.toks } :=
    I.call (ch := []) (Un.laid k hp hn) (I.hok.laid k hp ⟨hlen, out.toList, c, hv, hg⟩) (by rw [g]; exact I.bare) (fun _ z => nomatch z)
  have e : s' = { s with heap := s'.heap, gens := s'.gens, drawn := s'.drawn, toks := s'.toks } := by
    cases s'
    cases s
    cases o
    rfl
  rw [e]
  exact ⟨.ref p, _, J, rfl, q p hn⟩
end
theorem sortI_of {bs ys : List Int} (nd : bs.Pairwise (· < ·)) (h : ∀ k, k ∈ bs ↔ k ∈ ys) : bs = sortI ys := by
  have nb : bs.Nodup := nd.imp fun {a b} h e => by omega
  have p : bs.Perm ys.eraseDups := (List.perm_ext_iff_of_nodup nb (edI_ok _ ys (Nat.le_refl _)).1).mpr fun k => by rw [h k, List.mem_eraseDups]
  refine List.Perm.eq_of_pairwise (le := fun a b => decide (a ≤ b) = true) (fun a b _ _ h1 h2 => ?_) ?_ ?_ (p.trans (List.mergeSort_perm _ _).symm)
  · rw [decide_eq_true_eq] at h1 h2
    omega
  · exact nd.imp fun {a b} h => by rw [decide_eq_true_eq]; omega
  · exact List.pairwise_mergeSort (fun a b c h1 h2 => by rw [decide_eq_true_eq] at h1 h2 ⊢; omega) (fun a b => by simp only [Bool.or_eq_true, decide_eq_true_eq]; omega) _
theorem vals_ints : ∀ {ys : List Int} {us : List Value}, Vals (ys.map V.int) us → us.length = ys.length ∧ IntsAre us ys
  | [], _, h => by cases h; exact ⟨rfl, .nil⟩
  | y :: ys, _, h => by
    cases h with
    | cons a t =>
      obtain ⟨tk, rfl⟩ := a
      obtain ⟨l, k⟩ := vals_ints t
      exact ⟨by simp [l], .cons y tk k⟩
section
variable {X : Cx} {G : Gd}
theorem setI_new {w : World} {P : Program} {H : Hp} {h : Heap} {a : Addr} {S : Int → Bool} {n : Nat} (R : SetR w h a S n) : ObjOk P w H h a (SetO w a S n) := by
  have ⟨o, es, ep, t, ho, r⟩ := R
  exact ⟨R, ⟨o, ho⟩, fun h1 h2 ⟨o, es, ep, t, ho, r⟩ k => ⟨o, es, ep, t, k o ho, r⟩⟩
def rSetI (G : Gd) (w : World) : List V → Hp → VK → Prop := fun xs H Q => ∃ (as : List Addr) (fz : Addr → Prop) (ys : List Int), RepRs G as fz H xs [.lst (ys.map .int)] ∧ ys.length ≤ 60 ∧ ∀ p c, c ≤ ys.length → H p = none → Q (.ref p) (upd H p (SetO w p (fun j => decide (j ∈ ys)) c))
theorem c_setI (hK : G.K = X.K) (hc : X.calm = true) : CallR X (.type "set") (rSetI G X.w) := by
  intro pins s σ H xs us Q I rx ⟨as, fz, ys, hd, hl, q⟩
  obtain ⟨x, rfl, h⟩ := hd.one
  obtain ⟨a, vs, rfl, ha, r1⟩ := h.lsts
  obtain ⟨u, rfl, ru⟩ := vals_one rx
  cases ru
  obtain ⟨its, rv, pl, hz⟩ := I.list (SqL.of ha)
  have e := r1.ints
  subst e
  obtain ⟨l1, k1⟩ := vals_ints rv
  have sb : 2000 < scanBound := by decide
  refine MPSetI.call_set_ints (P := X.prog) (w := X.w) (ns := ys) (I.ok.hd hc) pl.isList (by simpa using k1) (by simpa using l1) (by omega) fun h' tk c R hc old ht => ?_
  exact ⟨.ref _, upd H s.heap.objs.size (SetO X.w s.heap.objs.size (fun j => decide (j ∈ ys)) c), I.laid (t' := tk) (fun b u e => old b u (Heap.lt_size e) e) (Nat.le_refl _) (setI_new R), rfl, q _ c hc (I.hok.fresh (Nat.le_refl _))⟩
def rSetA (G : Gd) (w : World) : List V → Hp → VK → Prop := fun xs H Q => rSetT G w xs H Q ∨ rSetI G w xs H Q
theorem c_setA (hK : G.K = X.K) (hc : X.calm = true) : CallR X (.type "set") (rSetA G X.w) := fun pins s σ H xs us Q I rx h =>
  h.elim (c_setT hK hc pins s σ H xs us Q I rx) (c_setI hK hc pins s σ H xs us Q I rx)
def rSortA (w : World) : List V → Hp → VK → Prop := fun xs H Q => rSortT w xs H Q ∨ rSortedSet w xs H Q
theorem c_sortA (hc : X.calm = true) (hu : X.A.units + 70 < cLine) : CallR X (.builtin "sorted") (rSortA X.w) := fun pins s σ H xs us Q I rx h =>
  h.elim (c_sortT hc hu pins s σ H xs us Q I rx) (cr_sortedSet hc pins s σ H xs us Q I rx)
end
section
variable {T : Tab} {G : Gd} {cf : CF} {n : Nat} {se : SE} {X : Cx} {W : WX} {σ : L2.St} {H : Hp} {Q : VK} {ps : PL}
theorem set_post {m : S → Out (List D)} (w : World) (h : tI G W (fun s => (m s).bind fun ds s' => toOut (prim .sortedSet (ds.map (deref s'.sto))) s') σ H Q) : tOs G W m σ H fun xs H1 =>
    rSetA G w xs H1 fun v H2 => rSortA w [v] H2 Q := by
  obtain ⟨B, as, fz, st, sim, h⟩ := h
  refine ⟨B, as, fz, st, sim, h.bind.mono fun ds st1 as1 fz1 H1 s1 m1 p1 vs rvs => ?_⟩
  cases e : prim .sortedSet (ds.map (deref st1.sto)) with
  | none => rw [e] at p1; exact p1.elim
  | some r =>
    rw [e] at p1
    simp only [prim] at e
    unfold p_sortedSet at e
    split at e
    · rename_i x hx
      split at e
      · rename_i ys hy
        split at e
        · rename_i hl
          cases e
          have e1 := strsOf_eq hy
          subst e1
          have rr := rvs.repRs m1.c
          rw [hx] at rr
          refine .inl ⟨as1, fz1, ys, rr, hl, fun p0 h0 => .inl ⟨p0, ys, rfl, upd_same, hl, fun p hp => ?_⟩⟩
          have g1 : Grow fz1 H1 fz1 (upd H1 p0 (SetT w p0 ys)) := grow_new h0
          have g2 : Grow fz1 (upd H1 p0 (SetT w p0 ys)) (fun b => fz1 b ∨ b = p) (upd (upd H1 p0 (SetT w p0 ys)) p (.lst ((sortT ys).map V.str))) := grow_frz hp
          refine p1 as1 _ _ (g1.simB.step.trans g2.simB.step) ((m1.grow g1).grow g2) _ (.lst (.inr rfl) upd_same ?_)
          exact strs_rep _
        · cases e
      · cases e
    · rename_i x hx
      split at e
      · rename_i ys hy
        split at e
        · rename_i hl
          cases e
          have e1 := intsOf_some hy
          subst e1
          have rr := rvs.repRs m1.c
          rw [hx] at rr
          refine .inr ⟨as1, fz1, ys, rr, hl, fun p0 c hc h0 => .inr ⟨p0, _, c, rfl, upd_same, by omega, fun ns p hn hm hz hp => ?_⟩⟩
          rw [sortI_of (ys := ys) hn fun k => by rw [hm k, decide_eq_true_eq]]
          have g1 : Grow fz1 H1 fz1 (upd H1 p0 (SetO w p0 (fun j => decide (j ∈ ys)) c)) := grow_new h0
          have g2 : Grow fz1 (upd H1 p0 (SetO w p0 (fun j => decide (j ∈ ys)) c)) (fun b => fz1 b ∨ b = p) (upd (upd H1 p0 (SetO w p0 (fun j => decide (j ∈ ys)) c)) p (.lst ((sortI ys).map V.int))) := grow_frz hp
          exact p1 as1 _ _ (g1.simB.step.trans g2.simB.step) ((m1.grow g1).grow g2) _ (.lst (.inr rfl) upd_same (RepL.of_ints _))
        · cases e
      · cases e
    · cases e
theorem bt_set : bootBuiltins "set" = some (.type "set") := by decide +kernel
theorem both_sortedSet (c : Cok T G cf n se X) {x : Expr} {p1 p2 pos pos2 : Pos} (g1 : gloN se "sorted" = true) (m1 : ("sorted" : Str) ∈ T.blts) (g2 : gloN se "set" = true) (m2 : ("set" : Str) ∈ T.blts) (hs : starred x = false) (q : PEs X G W cf [x] ps) :
    Both X (.Call (.Name "sorted" p1) [.Call (.Name "set" p2) [x] [] pos2] [] pos) (tI G W (evP cf .sortedSet ps)) := by
  suffices z : L2.PE X (.Call (.Name "sorted" p1) [.Call (.Name "set" p2) [x] [] pos2] [] pos) (tI G W (evP cf .sortedSet ps)) from ⟨z, pt_val z⟩
  have inner : L2.PE X (.Call (.Name "set" p2) [x] [] pos2) _ := pe_callTy (c_setA (G := G) c.K c.calm) (c.glo g2) (c.blts _ m2) bt_set q.pa (he := star_cons hs)
  exact PEimp (pe_callB (c_sortA c.calm c.u70) (c.glo g1) (c.blts _ m1) bt_sorted (pa_cons inner pa_nil (star_cons rfl)) (he := star_cons rfl)) fun σ H Q hh => set_post X.w hh
end
end MP
end
section
set_option Elab.async false
set_option linter.all false
set_option maxRecDepth 100000
set_option maxHeartbeats 2000000
/-! MP: not, and, or, if else, a < b < c, f'..' -/
namespace MP
open PySem PySem.Spec PyProof.Rows L2
section
variable {T : Tab} {G : Gd} {cf : CF} {n : Nat} {se : SE} {X : Cx} {W : WX} {σ : L2.St} {H : Hp} {Q : VK} {p : Prim} {ps : PL}
theorem both_nt {a : Expr} {pa : PE} {pos : Pos} (h : Both X a (tI G W (evalE cf pa))) : Both X (.UnaryOp .Not a pos) (tI G W (evalE cf (.nt pa))) := by
  have k : ∀ σ H (Q : VK), tI G W (evalE cf (.nt pa)) σ H Q → tI G W (evalE cf pa) σ H fun x H1 => ∃ c, x = .bl c ∧ Q (.bl (!c)) H1 := fun σ H Q ⟨B, as, fz, st, sim, q⟩ => by
    simp only [evalE] at q
    refine ⟨B, as, fz, st, sim, q.bind.mono fun d st1 as1 fz1 H1 s1 m1 p1 v rv => ?_⟩
    split at p1
    · cases rv
      exact ⟨_, rfl, p1 as1 fz1 H1 .refl m1 _ (.bl _)⟩
    · exact p1.elim
  refine ⟨PEimp (pe_not h.1) k, PTimp (pt_not h.2) fun σ H Q q => ?_⟩
  refine tI_mono (k _ _ _ q) fun x H1 ⟨c, e, c', e', q⟩ => ⟨c, e, ?_⟩
  cases e'
  exact q
/-- the list of the parts of and, or -/
inductive PBs (X : Cx) (G : Gd) (W : WX) (cf : CF) : List Expr → PL → Prop where
  | nil : PBs X G W cf [] .nil
  | cons {e : Expr} {p : PE} {es : List Expr} {ps : PL} (n : starred e = false) (h : Both X e (tI G W (evalE cf p))) (r : PBs X G W cf es ps) : PBs X G W cf (e :: es) (.cons p ps)
theorem PBs.pvs {es : List Expr} (h : PBs X G W cf es ps) : PVs X G W cf es ps := by
  induction h with
  | nil => exact .nil
  | cons n h _ ih => exact .cons n h.1 ih
def bopOf (k : Bool) : PySem.BoolOp := if k then .And else .Or
theorem bop_post {k : Bool} {e f : PE} {r : PL} (h : tI G W (evalB cf k (.cons e (.cons f r))) σ H Q) : tI G W (evalE cf e) σ H fun x H1 => ∃ c, x = .bl c ∧ if c = k then tI G W (evalB cf k (.cons f r)) σ H1 Q else Q (.bl c) H1 := by
  obtain ⟨B, as, fz, st, sim, q⟩ := h
  simp only [evalB] at q
  refine ⟨B, as, fz, st, sim, q.bind.mono fun d st1 as1 fz1 H1 s1 m1 p1 v rv => ?_⟩
  split at p1
  · rename_i b
    cases rv
    refine ⟨b, rfl, ?_⟩
    split
    · rename_i hb
      rw [if_pos hb] at p1
      exact ⟨B, as1, fz1, st1, m1, p1⟩
    · rename_i hb
      rw [if_neg hb] at p1
      exact p1 as1 fz1 H1 .refl m1 _ (.bl _)
  · exact p1.elim
theorem bop_one {k : Bool} {e : PE} : evalB cf k (.cons e .nil) = evalE cf e := by
  funext s
  simp only [evalB]
theorem both_bopL {k : Bool} {pos : Pos} : ∀ {es : List Expr} {ps : PL}, PBs X G W cf es ps → es ≠ [] → L2.PE X (.BoolOp (bopOf k) es pos) (tI G W (evalB cf k ps)) ∧ L2.PW X (.BoolOp (bopOf k) es pos) (tB (tI G W (evalB cf k ps)))
  | _, _, .nil, h => (h rfl).elim
  | _, _, .cons n1 h1 .nil, _ => by
    rw [bop_one]
    refine ⟨pe_one h1.1, ?_⟩
    cases k with
    | true => exact pw_and1 h1.2
    | false => exact pw_or1 h1.2
  | _, _, .cons n1 h1 (.cons n2 h2 r), _ => by
    obtain ⟨i1, i2⟩ := both_bopL (k := k) (pos := pos) (PBs.cons n2 h2 r) (by simp)
    cases k with
    | true =>
      refine ⟨PEimp (pe_and h1.1 i1) fun σ H Q q => tI_mono (bop_post q) fun x H1 ⟨c, e, q⟩ => ⟨c, e, ?_⟩, ⟨fun w pins s σ H Q I q => (pw_and h1.2 i2).run w pins s σ H Q I (tI_mono (bop_post q) fun x H1 ⟨c, e, q⟩ => ⟨c, e, ?_⟩)⟩⟩
      · cases c with
        | true => exact q
        | false => exact q
      · cases c with
        | true => exact q
        | false => obtain ⟨c', e', q⟩ := q; cases e'; exact q
    | false =>
      refine ⟨PEimp (pe_or h1.1 i1) fun σ H Q q => tI_mono (bop_post q) fun x H1 ⟨c, e, q⟩ => ⟨c, e, ?_⟩, ⟨fun w pins s σ H Q I q => (pw_or h1.2 i2).run w pins s σ H Q I (tI_mono (bop_post q) fun x H1 ⟨c, e, q⟩ => ⟨c, e, ?_⟩)⟩⟩
      · cases c with
        | true => exact q
        | false => exact q
      · cases c with
        | true => obtain ⟨c', e', q⟩ := q; cases e'; exact q
        | false => exact q
theorem both_bop {k : Bool} {pos : Pos} {es : List Expr} (h : PBs X G W cf es ps) (hn : es ≠ []) : Both X (.BoolOp (bopOf k) es pos) (tI G W (evalE cf (.bop k ps))) := by
  have e : evalE cf (.bop k ps) = evalB cf k ps := by funext s; simp only [evalE]
  rw [e]
  obtain ⟨a, b⟩ := both_bopL (k := k) (pos := pos) h hn
  exact ⟨a, b.pt⟩
theorem pt_ifExp {c a b : Expr} {tc ta tb : TT} {pos : Pos} (hc : L2.PT X c tc) (ha : L2.PT X a ta) (hb : L2.PT X b tb) : L2.PT X (.IfExp c a b pos) (fun σ H Q => tc σ H fun k H1 => if k = true then ta σ H1 Q else tb σ H1 Q) := by
  refine ⟨fun pins s σ H Q I h => ?_⟩
  have e : isTrue (.IfExp c a b pos) X.env (eval (.IfExp c a b pos) X.env) = (do
    if ← isTrue c X.env (eval c X.env) then isTrue a X.env (eval a X.env) else isTrue b X.env (eval b X.env)) := rfl
  rw [e]
  refine wpAny_bind (thn (hc.run pins s σ H _ I h) fun k s1 ⟨H1, I1, q1⟩ => ?_)
  cases k with
  | true => exact ha.run pins s1 σ H1 Q I1 q1
  | false => exact hb.run pins s1 σ H1 Q I1 q1
theorem ite_post {c a b : PE} (h : tI G W (evalE cf (.ite c a b)) σ H Q) : tI G W (evalE cf c) σ H fun x H1 => ∃ k, x = .bl k ∧ if k = true then tI G W (evalE cf a) σ H1 Q else tI G W (evalE cf b) σ H1 Q := by
  obtain ⟨B, as, fz, st, sim, q⟩ := h
  simp only [evalE] at q
  refine ⟨B, as, fz, st, sim, q.bind.mono fun d st1 as1 fz1 H1 s1 m1 p1 v rv => ?_⟩
  split at p1
  · cases rv
    exact ⟨true, rfl, B, as1, fz1, st1, m1, p1⟩
  · cases rv
    exact ⟨false, rfl, B, as1, fz1, st1, m1, p1⟩
  · exact p1.elim
theorem both_ite {c a b : Expr} {pc pa pb : PE} {pos : Pos} (hc : Both X c (tI G W (evalE cf pc))) (ha : Both X a (tI G W (evalE cf pa))) (hb : Both X b (tI G W (evalE cf pb))) : Both X (.IfExp c a b pos) (tI G W (evalE cf (.ite pc pa pb))) := by
  refine ⟨PEimp (pe_ifExp hc.2 ha.1 hb.1) fun σ H Q q => ite_post q, PTimp (pt_ifExp hc.2 ha.2 hb.2) fun σ H Q q => ?_⟩
  refine tI_mono (ite_post q) fun x H1 ⟨k, e, q⟩ => ⟨k, e, ?_⟩
  cases k with
  | true => exact q
  | false => exact q
theorem deref_id {t : Sto} {d : D} (h : ∀ i, d ≠ .ref i) : deref t d = d := by
  cases d <;> first | rfl | exact absurd rfl (h _)
theorem chain_post {o1 o2 : Prim} {a b c : PE} (h : tI G W (evalE cf (.chain o1 o2 a b c)) σ H Q) : tI G W (evalE cf a) σ H fun x H1 => tI G W (evalE cf b) σ H1 fun y H2 => rP2 G o1 x y H2 fun z H3 => ∃ k, z = .bl k ∧ if k = true then tI G W (evalE cf c) σ H3 fun w H4 => rP2 G o2 y w H4 Q else Q (.bl false) H3 := by
  obtain ⟨B, as, fz, st, sim, q⟩ := h
  simp only [evalE] at q
  refine ⟨B, as, fz, st, sim, q.bind.mono fun d st1 as1 fz1 H1 s1 m1 p1 v rv => ⟨B, as1, fz1, st1, m1, p1.bind.mono fun e st2 as2 fz2 H2 s2 m2 p2 w rw' => ?_⟩⟩
  have rr : ∀ {r : D}, prim o1 [d, e] = some r → (∀ z H3, ResR G as2 fz2 H2 z r H3 → ∃ k, z = V.bl k ∧ if k = true then tI G W (evalE cf c) σ H3 fun w' H4 => rP2 G o2 w w' H4 Q else Q (.bl false) H3) → rP2 G o1 v w H2 fun z H3 => ∃ k, z = .bl k ∧ if k = true then tI G W (evalE cf c) σ H3 fun w' H4 => rP2 G o2 w w' H4 Q else Q (.bl false) H3 := fun e1 q => ⟨as2, fz2, d, e, _, .dat (RepD.step s2 _ _ rv), .dat rw', e1, q⟩
  split at p2
  · rename_i e1
    refine rr e1 fun z H3 hz => ?_
    obtain ⟨fz3, g, rd⟩ := hz.grow
    cases rd
    refine ⟨true, rfl, B, as2, fz3, st2, m2.grow g, ?_⟩
    have g2 : Step as2 fz2 H2 as2 fz3 H3 := g.simB.step
    have p2 := p2.bind
    refine (show Post G B W σ (evalE cf c st2) _ as2 fz3 H3 from ?_)
    have p3 : Post G B W σ (evalE cf c st2) (fun f st3 as3 fz4 H4 => Post G B W σ (toOut (prim o2 [e, f]) st3) (fun d x as' fz' H' => ∀ v, RepD G as' fz' H' v d → Q v H') as3 fz4 H4) as2 fz3 H3 := by
      revert p2
      cases evalE cf c st2 with
      | ok f st3 => exact fun p2 as' fz' H' s m => p2 as' fz' H' (g2.trans s) m
      | exc k t => exact fun p2 => p2
      | bad => exact fun p2 => p2
    refine p3.mono fun f st3 as3 fz4 H4 s3 m3 p3 u ru => ?_
    cases e3 : prim o2 [e, f] with
    | none => rw [e3] at p3; exact p3.elim
    | some r =>
      rw [e3] at p3
      refine ⟨as3, fz4, e, f, r, .dat (RepD.step (g2.trans s3) _ _ rw'), .dat ru, e3, fun v H' rr => ?_⟩
      obtain ⟨fz5, g5, rd⟩ := rr.grow
      exact p3 as3 fz5 H' g5.simB.step (m3.grow g5) v rd
  · rename_i e1
    refine rr e1 fun z H3 hz => ?_
    obtain ⟨fz3, g, rd⟩ := hz.grow
    cases rd
    exact ⟨false, rfl, p2 as2 fz3 H3 g.simB.step (m2.grow g) _ (.bl _)⟩
  · exact p2.elim
theorem both_chain (c : Cok T G cf n se X) {o1 o2 : Prim} {k1 k2 : CmpOp} {a b d : Expr} {pa pb pd : PE} {pos : Pos} (e1 : cmpOf o1 = some k1) (e2 : cmpOf o2 = some k2) (hm : lastMarks [k1, k2] [b, d] = false)
    (ha : L2.PE X a (tI G W (evalE cf pa))) (hb : L2.PE X b (tI G W (evalE cf pb))) (hd : L2.PE X d (tI G W (evalE cf pd))) : Both X (.Compare a [k1, k2] [b, d] pos) (tI G W (evalE cf (.chain o1 o2 pa pb pd))) :=
  ⟨PEimp (pe_chain (o_cmp (p := o1) c e1) (o_cmp (p := o2) c e2) ha hb hd hm) fun σ H Q q => chain_post q, PTimp (pt_chain (o_cmp (p := o1) c e1) (o_cmp (p := o2) c e2) ha hb hd hm) fun σ H Q q => chain_post q⟩
/-! ### f'..' -/
theorem str_len_append (a b : Str) : (a ++ b).length = a.length + b.length := by
  show (a.cps ++ b.cps).size = _
  rw [Array.size_append]
  rfl
theorem str_empty_append (a : Str) : Str.empty ++ a = a := by
  show (⟨#[] ++ a.cps⟩ : Str) = a
  rw [Array.empty_append]
inductive PFs (X : Cx) (G : Gd) (W : WX) (cf : CF) : List Expr → PL → Prop where
  | nil : PFs X G W cf [] .nil
  | cons {e : Expr} {p : PE} {es : List Expr} {ps : PL} (h : L2.PE X e (tFmt (tI G W (evalE cf p)))) (r : PFs X G W cf es ps) : PFs X G W cf (e :: es) (.cons p ps)
theorem f_step {p : PE} {ps : PL} {acc : Str} (h : tI G W (evalF cf (.cons p ps) acc) σ H Q) : tFmt (tI G W (evalE cf p)) σ H fun x H1 => ∃ y : Str, x = .str y ∧ (acc ++ y).length ≤ sizeLine ∧ tI G W (evalF cf ps (acc ++ y)) σ H1 Q := by
  obtain ⟨B, as, fz, st, sim, q⟩ := h
  simp only [evalF] at q
  refine ⟨B, as, fz, st, sim, q.bind.mono fun d st1 as1 fz1 H1 s1 m1 p1 v rv => ?_⟩
  split at p1
  · rename_i y e
    split at p1
    · rename_i hl
      have hy : y.length ≤ sizeLine := by
        rw [str_len_append] at hl
        rw [sl_line]
        omega
      have q' : tI G W (evalF cf ps (acc ++ y)) σ H1 Q := ⟨B, as1, fz1, st1, m1, p1⟩
      unfold strOf at e
      split at e
      · cases e
        cases rv
        exact .inl ⟨_, rfl, hy, _, rfl, by rw [sl_line]; exact hl, q'⟩
      · split at e
        · rename_i i hi
          cases e
          cases rv
          exact .inr ⟨_, rfl, hi, _, rfl, by rw [sl_line]; exact hl, q'⟩
        · cases e
      · cases e
    · exact p1.elim
  · exact p1.elim
theorem f_nil {acc : Str} (h : tI G W (evalF cf .nil acc) σ H Q) : Q (.str acc) H := by
  obtain ⟨B, as, fz, st, sim, q⟩ := h
  simp only [evalF] at q
  exact q as fz H .refl sim _ (.str _)
theorem tFmt_mono {te : TE} {Q Q' : VK} (hm : ∀ σ H (Q Q' : VK), (∀ x H1, Q x H1 → Q' x H1) → te σ H Q → te σ H Q') (k : ∀ x H1, Q x H1 → Q' x H1) (h : tFmt te σ H Q) : tFmt te σ H Q' := by
  refine hm _ _ _ _ (fun x H1 q => ?_) h
  rcases q with ⟨y, e, hy, q⟩ | ⟨i, e, hi, q⟩
  · exact .inl ⟨y, e, hy, k _ _ q⟩
  · exact .inr ⟨i, e, hi, k _ _ q⟩
theorem PFs.pj {es : List Expr} (h : PFs X G W cf es ps) : ∃ ts, PJ X es ts ∧ ∀ (acc : Str) (σ : L2.St) (H : Hp) (Q : VK), tI G W (evalF cf ps acc) σ H Q → tJs ts acc σ H fun out H1 => Q (.str out) H1 := by
  induction h with
  | nil => exact ⟨[], .nil, fun acc σ H Q q => f_nil q⟩
  | cons h r ih =>
    obtain ⟨ts, pj, k⟩ := ih
    refine ⟨_, .cons h pj, fun acc σ H Q q => ?_⟩
    refine tFmt_mono (fun σ H Q Q' k h => tI_mono h k) (fun x H1 hx => ?_) (f_step q)
    obtain ⟨y, e, hy, q⟩ := hx
    exact ⟨y, e, hy, k _ _ _ _ q⟩
theorem both_fstr {es : List Expr} {pos : Pos} (h : PFs X G W cf es ps) (hn : es ≠ []) : Both X (.JoinedStr es pos) (tI G W (evalE cf (.fstr ps))) := by
  have e : evalE cf (.fstr ps) = evalF cf ps Str.empty := by funext s; simp only [evalE]
  rw [e]
  suffices z : L2.PE X (.JoinedStr es pos) (tI G W (evalF cf ps Str.empty)) from ⟨z, pt_val z⟩
  cases h with
  | nil => exact (hn rfl).elim
  | cons h r =>
    cases r with
    | nil =>
      refine PEimp (pe_joined1 h) fun σ H Q q => ?_
      refine tFmt_mono (fun σ H Q Q' k h => tI_mono h k) (fun x H1 hx => ?_) (f_step q)
      obtain ⟨y, e, hy, q⟩ := hx
      rw [str_empty_append] at q
      rw [e]
      exact f_nil q
    | cons h2 r2 =>
      obtain ⟨ts, pj, k⟩ := (PFs.cons h (PFs.cons h2 r2)).pj
      exact PEimp (pe_joined pj) fun σ H Q q => k _ _ _ _ q
theorem pf_fmt {e : Expr} {p : PE} {pos : Pos} (h : L2.PE X e (tI G W (evalE cf p))) : L2.PE X (.FormattedValue e (-1) none pos) (tFmt (tI G W (evalE cf p))) := pe_fmt h
def fconOk (x : Str) : Expr → Bool
  | .Constant (.str y) _ _ => decide (x = y)
  | _ => false
theorem pf_con {x : Str} {e : Expr} (h : fconOk x e = true) : L2.PE X e (tFmt (tI G W (evalE cf (.con (.str x))))) := by
  unfold fconOk at h
  split at h
  · rw [decide_eq_true_eq] at h
    subst h
    refine PEimp pe_str fun σ H Q q => ?_
    have z := con_post (G := G) (W := W) (v := .str x) (fun s => by simp only [evalE]) (fun _ _ _ => .str _) q
    rcases z with ⟨y, e, _, q⟩ | ⟨i, e, _⟩
    · cases e; exact q
    · cases e
  · cases h
end
end MP
end
section
set_option Elab.async false
set_option linter.all false
set_option maxRecDepth 100000
set_option maxHeartbeats 2000000
/-! MP: targets, iterators -/
namespace MP
open PySem PySem.Spec PyProof.Rows L2

/-- what a statement may do to the heap: lists that are no data may change -/
structure StepS (as : List Addr) (fz : Addr → Prop) (H : Hp) (as' : List Addr) (fz' : Addr → Prop) (H' : Hp) : Prop where
  tups : ∀ b xs, H b = some (.tup xs) → H' b = some (.tup xs)
  frzs : ∀ b o u, H b = some (.frz o u) → H' b = some (.frz o u)
  fzs : ∀ b o, fz b → H b = some o → H' b = some o
  there : ∀ b, H b ≠ none → H' b ≠ none
  pre : ∃ r, as' = as ++ r
  newa : ∀ a, a ∈ as' → a ∈ as ∨ H a = none
  fzm : ∀ a, fz a → fz' a
section
variable {G : Gd} {as as' as'' : List Addr} {fz fz' fz'' : Addr → Prop} {H H' H'' : Hp} {B : Base} {W : WX} {σ : L2.St}
theorem Step.s (x : Step as fz H as' fz' H') : StepS as fz H as' fz' H' := ⟨x.tups, x.frzs, x.fzs, x.there, x.pre, x.newa, x.fzm⟩
theorem StepS.refl : StepS as fz H as fz H := Step.refl.s
theorem StepS.trans (x : StepS as fz H as' fz' H') (y : StepS as' fz' H' as'' fz'' H'') : StepS as fz H as'' fz'' H'' where
  tups := fun b xs e => y.tups b xs (x.tups b xs e)
  frzs := fun b o u e => y.frzs b o u (x.frzs b o u e)
  fzs := fun b o f e => y.fzs b o (x.fzm b f) (x.fzs b o f e)
  there := fun b e => y.there b (x.there b e)
  pre := by
    obtain ⟨r, e⟩ := x.pre
    obtain ⟨q, e'⟩ := y.pre
    exact ⟨r ++ q, by rw [e', e, List.append_assoc]⟩
  newa := fun a h => (y.newa a h).elim (x.newa a) fun z => .inr (by
    cases q : H a with
    | none => rfl
    | some o => exact absurd z (x.there a (by rw [q]; simp)))
  fzm := fun a h => y.fzm a (x.fzm a h)
theorem sqT_stepS {K : PySem.W.Frag} {a : Addr} {vs : List V} (h : SqT K H a vs) (x : StepS as fz H as' fz' H') : SqT K H' a vs := by
  rcases h with (r | ⟨o, r⟩) | h
  · exact .inl (.inl (x.tups a _ r))
  · exact .inl (.inr ⟨o, x.frzs a _ _ r⟩)
  · exact .inr h
mutual
theorem RepD.stepS (x : StepS as fz H as' fz' H') : ∀ (d : D) (v : V), RepD G as fz H v d → RepD G as' fz' H' v d
  | .non, _, h => by cases h; exact .non
  | .bl _, _, h => by cases h; exact .bl _
  | .int _, _, h => by cases h; exact .int _
  | .str _, _, h => by cases h; exact .str _
  | .tup ds, _, h => by
    cases h with
    | tup s r => exact .tup (sqT_stepS s x) (RepL.stepS x ds _ r)
  | .lst ds, _, h => by
    cases h with
    | lst f e r => exact .lst (x.fzm _ f) (x.fzs _ _ f e) (RepL.stepS x ds _ r)
  | .fn _, _, h => by cases h; exact .fn _
  | .ref i, _, h => by
    cases h with
    | ref e =>
      obtain ⟨r, q⟩ := x.pre
      refine .ref ?_
      rw [q, List.getElem?_append_left (List.getElem?_eq_some_iff.mp e).1]
      exact e
  | .scr ns, _, h => by
    cases h with
    | scr e l =>
      refine .scr ?_ l
      rcases e with ⟨o, h⟩ | h
      · exact .inl ⟨o, x.frzs _ _ _ h⟩
      · exact .inr h
theorem RepL.stepS (x : StepS as fz H as' fz' H') : ∀ (ds : List D) (vs : List V), RepL G as fz H vs ds → RepL G as' fz' H' vs ds
  | [], _, h => by cases h; exact .nil
  | d :: ds, _, h => by
    cases h with
    | cons a r => exact .cons (RepD.stepS x d _ a) (RepL.stepS x ds _ r)
end
/-! ### targets -/
mutual
def tvars : Tgt → List Nat
  | .nm i => [i]
  | .tp ts => tvarsL ts
def tvarsL : List Tgt → List Nat
  | [] => []
  | t :: ts => tvars t ++ tvarsL ts
end
theorem Sim.setVal {st : S} (x : Sim G B st as fz σ H) {i : Nat} {v : V} {d : D} (hi : i < st.loc.length) (r : RepD G as fz H v d) : Sim G B { st with loc := st.loc.set i (.val d) } as fz (σ.set i (some v)) H := by
  have hs : i < σ.length := by rw [x.l.len]; exact hi
  refine ⟨x.c, x.b, by rw [List.length_set, List.length_set]; exact x.l.len, fun j e h => ?_, fun j es h => ?_, fun j k es fs b hjk h1 h2 h3 => ?_⟩
  · by_cases hj : i = j
    · subst hj
      rw [List.getElem?_set_self hi] at h
      cases h
      exact ⟨v, by rw [List.getElem?_set_self hs], r⟩
    · rw [List.getElem?_set_ne hj] at h ⊢
      exact x.l.val j e h
  · by_cases hj : i = j
    · subst hj
      rw [List.getElem?_set_self hi] at h
      cases h
    · rw [List.getElem?_set_ne hj] at h ⊢
      exact x.l.own j es h
  · have d1 : i ≠ j := fun q => by subst q; rw [List.getElem?_set_self hi] at h1; cases h1
    have d2 : i ≠ k := fun q => by subst q; rw [List.getElem?_set_self hi] at h2; cases h2
    rw [List.getElem?_set_ne d1] at h1 h3
    rw [List.getElem?_set_ne d2] at h2 ⊢
    exact x.l.dist j k es fs b hjk h1 h2 h3
def Agree (vs : List Nat) (σ σ' : L2.St) : Prop := σ'.length = σ.length ∧ ∀ j, j ∉ vs → σ'[j]? = σ[j]?
def gI (G : Gd) (t : Tgt) : TG := fun v σ H Q => ∃ B as fz st d st', Sim G B st as fz σ H ∧ RepD G as fz H v d ∧ assign t d st = some st' ∧ ∀ σ', Sim G B st' as fz σ' H → Agree (tvars t) σ σ' → Q σ' H
def gIs (G : Gd) (ts : List Tgt) : TGs := fun vs σ H Q => ∃ B as fz st ds st', Sim G B st as fz σ H ∧ RepL G as fz H vs ds ∧ assignL ts ds st = some st' ∧ ∀ σ', Sim G B st' as fz σ' H → Agree (tvarsL ts) σ σ' → Q σ' H
end
mutual
def ckT (se : SE) : Tgt → Expr → Bool
  | .nm i, .Name x _ => decide (se.N[i]? = some x) && locN se x
  | .tp ts, .Tuple es _ _ => ckTs se ts es
  | _, _ => false
def ckTs (se : SE) : List Tgt → List Expr → Bool
  | [], [] => true
  | t :: ts, e :: es => ckT se t e && ckTs se ts es
  | _, _ => false
end
section
variable {T : Tab} {G : Gd} {cf : CF} {n : Nat} {se : SE} {X : Cx} {W : WX} {σ : L2.St} {H : Hp} {Q : VK} {p : Prim} {ps : PL}
theorem ckT_star {t : Tgt} {e : Expr} (h : ckT se t e = true) : starred e = false := by
  cases e <;> first | rfl | (cases t <;> simp [ckT] at h)
theorem asg_cons {e : Expr} {es : List Expr} {env : Env} (h : starred e = false) : assignEach (e :: es) env = (false, PySem.assign e env) :: assignEach es env := by
  cases e <;> first | rfl | exact absurd h (by simp [starred])
theorem ckTs_len : ∀ {ts : List Tgt} {es : List Expr} {env : Env}, ckTs se ts es = true → (assignEach es env).length = ts.length ∧ (assignEach es env).findIdx? (·.1) = none
  | [], [], _, _ => ⟨rfl, rfl⟩
  | t :: ts, e :: es, env, h => by
    simp only [ckTs, Bool.and_eq_true] at h
    obtain ⟨i1, i2⟩ := ckTs_len (env := env) h.2
    rw [asg_cons (ckT_star h.1)]
    refine ⟨by rw [List.length_cons, i1, List.length_cons], ?_⟩
    rw [List.findIdx?_cons]
    simp [i2]
  | [], _ :: _, _, h => by simp [ckTs] at h
  | _ :: _, [], _, h => by simp [ckTs] at h
theorem RepL.len_eq {G : Gd} {as : List Addr} {fz : Addr → Prop} {H : Hp} {vs : List V} {ds : List D} (h : RepL G as fz H vs ds) : vs.length = ds.length := h.length
theorem assignL_len : ∀ {ts : List Tgt} {ds : List D} {s s' : S}, assignL ts ds s = some s' → ds.length = ts.length
  | [], [], _, _, _ => rfl
  | t :: ts, d :: ds, s, s', h => by
    rw [assignL] at h
    cases e : MP.assign t d s with
    | none => rw [e] at h; cases h
    | some s1 =>
      rw [e] at h
      rw [List.length_cons, List.length_cons, assignL_len (show assignL ts ds s1 = some s' from h)]
  | [], _ :: _, _, _, h => by simp [assignL] at h
  | _ :: _, [], _, _, h => by simp [assignL] at h
mutual
theorem pg_ckT (c : Cok T G cf n se X) : ∀ (t : Tgt) (e : Expr), ckT se t e = true → L2.PG X e (gI G t)
  | .nm i, e, h => by
    cases e <;> try (simp [ckT] at h; done)
    rename_i x pos
    simp only [ckT, Bool.and_eq_true, decide_eq_true_eq] at h
    obtain ⟨l1, l2⟩ := c.loc h.2
    have g : L2.PG X (.Name x pos) (gName i) := pg_name (by rw [c.N]; exact c.nd) (by rw [c.N]; exact h.1) l1 l2
    refine ⟨fun pins s σ H v u Q I r hw => g.run pins s σ H v u Q I r ?_⟩
    obtain ⟨B, as, fz, st, d, st', sim, rd, ha, k⟩ := hw
    rw [MP.assign] at ha
    split at ha
    · rename_i hi
      cases ha
      refine k _ (sim.setVal hi rd) ⟨by rw [List.length_set], fun j hj => ?_⟩
      have hj : j ∉ [i] := hj
      rw [List.getElem?_set_ne (fun e => hj (by simp [e]))]
    · cases ha
  | .tp ts, e, h => by
    cases e <;> try (simp [ckT] at h; done)
    rename_i es k pos
    simp only [ckT] at h
    obtain ⟨i1, i2⟩ := ckTs_len (env := X.env) h
    have g : L2.PG X (.Tuple es k pos) (gTup X.K ts.length (gIs G ts)) := pg_tup c.calm (pg_ckTs c ts es h) i1 i2
    have g2 : L2.PG X (.Tuple es k pos) (gLst X.K ts.length (gIs G ts)) := pg_lst c.calm (pg_ckTs c ts es h) i1 i2
    refine ⟨fun pins s σ H v u Q I r hw => ?_⟩
    obtain ⟨B, as, fz, st, d, st', sim, rd, ha, k⟩ := hw
    cases d with
    | tup ds =>
      refine g.run pins s σ H v u Q I r ?_
      cases rd with
      | tup sq rl =>
        rw [MP.assign] at ha
        exact ⟨_, _, rfl, c.K ▸ sq, by rw [rl.length]; exact assignL_len ha, B, as, fz, st, ds, st', sim, rl, ha, k⟩
    | lst ds =>
      refine g2.run pins s σ H v u Q I r ?_
      cases rd with
      | lst _ e rl =>
        rw [MP.assign] at ha
        exact ⟨_, _, rfl, SqL.of e, by rw [rl.length]; exact assignL_len ha, B, as, fz, st, ds, st', sim, rl, ha, k⟩
    | _ => simp [MP.assign] at ha
theorem pg_ckTs (c : Cok T G cf n se X) : ∀ (ts : List Tgt) (es : List Expr), ckTs se ts es = true → PGs X es (gIs G ts)
  | [], es, h => by
    cases es with
    | nil =>
      refine ⟨fun pins s σ H vs us Q I r hw => pgs_nil.run pins s σ H vs us Q I r ?_⟩
      obtain ⟨B, as, fz, st, ds, st', sim, rl, ha, k⟩ := hw
      have l := assignL_len ha
      cases ds with
      | nil =>
        cases rl
        rw [assignL] at ha
        cases ha
        exact ⟨rfl, k σ sim ⟨rfl, fun _ _ => rfl⟩⟩
      | cons d ds => simp at l
    | cons e es => simp [ckTs] at h
  | t :: ts, es, h => by
    cases es with
    | nil => simp [ckTs] at h
    | cons e es =>
      simp only [ckTs, Bool.and_eq_true] at h
      have g := pgs_cons (pg_ckT c t e h.1) (pg_ckTs c ts es h.2) (by rw [asg_cons (ckT_star h.1)]; rfl)
      refine ⟨fun pins s σ H vs us Q I r hw => g.run pins s σ H vs us Q I r ?_⟩
      obtain ⟨B, as, fz, st, ds, st', sim, rl, ha, k⟩ := hw
      have l := assignL_len ha
      cases ds with
      | nil => simp at l
      | cons d ds =>
        cases rl with
        | cons rd rl =>
          rw [assignL] at ha
          cases e1 : MP.assign t d st with
          | none => rw [e1] at ha; cases ha
          | some st1 =>
            rw [e1] at ha
            refine ⟨_, _, rfl, B, as, fz, st, d, st1, sim, rd, e1, fun σ1 sim1 a1 => ⟨B, as, fz, st1, ds, st', sim1, rl, ha, fun σ2 sim2 a2 => k σ2 sim2 ⟨by rw [a2.1, a1.1], fun j hj => ?_⟩⟩⟩
            have hj : j ∉ tvars t ++ tvarsL ts := hj
            rw [List.mem_append, not_or] at hj
            rw [a2.2 j hj.2, a1.2 j hj.1]
end
end
end MP
end
section
set_option Elab.async false
set_option linter.all false
set_option maxRecDepth 100000
/-! MP: enumerate of a tuple -/
namespace MPE
open PySem
open Sem (wp)
set_option maxHeartbeats 1000000 in
theorem enum_newB1 {v : Value} {o : Obj} {H : Heap → Prop} (B : Begins v o H) :
    Meets (Builtin.«enumerate.__new__» ⟨[.type "enumerate", v], []⟩) (fun _ R s => H s.heap ∧
      R (.ok (.ret (.ref (s.heap.push o).objs.size))) { s with heap := (s.heap.push o).push { cls := .type "enumerate", data := .fields #[.none, .bool false, .ref s.heap.objs.size, rawInt 0, .none, .none] } }) :=
  .of_wp fun prog w A R s h => by
    obtain ⟨hp, g, d, tk, os⟩ := s; obtain ⟨h1, h⟩ := h
    have hsub := sub_enumerate
    have q1 : ∀ {A' : Around} {E : Value → Shared → Prop} {Q : Value → Shared → Prop}, Q (.ref hp.objs.size) ⟨hp.push o, g, d, tk, os⟩ → wpAny (model prog w) A' (pyIter v) Q E ⟨hp, g, d, tk, os⟩ :=
      fun q => B.iter prog w _ _ ⟨hp, g, d, tk, os⟩ _ h1 q
    wp_walk using q1
    refine wpAny_stack_any fun st => wpAny_pure ?_
    split
    · rename_i c _ _ _ _ _
      cases (c == Value.type "enumerate")
      · wp_walk using q1
        exact ⟨_, rfl, h⟩
      · wp_walk using q1
        exact ⟨_, rfl, h⟩
    · wp_walk using q1
      exact ⟨_, rfl, h⟩
section
variable {prog : Program} {w : World} {A : Around} {E : Value → Shared → Prop} {s : Shared}
theorem enum_start1 {v : Value} {o : Obj} {H : Heap → Prop} {Q : Value → Shared → Prop} (B : Begins v o H) (h1 : H s.heap)
    (h : ∀ h', IsEnum h' (s.heap.objs.size + 1) s.heap.objs.size 0 .none → h'.get? s.heap.objs.size = some o → h'.objs.size = s.heap.objs.size + 2 →
      (∀ b o, s.heap.get? b = some o → h'.get? b = some o) → Q (.ref (s.heap.objs.size + 1)) { s with heap := h' }) :
    wpAny (model prog w) A (call (.type "enumerate") [v]) Q E s := by
  refine callType_new F.called_enumerate (by decide) (F.typeCall_enumerate_1 _) (F.newCall_enumerate_1 _) (fun obj => F.args_object_init_2 obj _) F.entry_enumerate_new
    (enum_newB1 B) ⟨h1, ?_⟩
  have hz : (s.heap.push o).objs.size = s.heap.objs.size + 1 := Heap.size_push ..
  show _ ∧ _
  rw [hz]
  have he : IsEnum ((s.heap.push o).push { cls := .type "enumerate", data := .fields #[.none, .bool false, .ref s.heap.objs.size, rawInt 0, .none, .none] }) (s.heap.objs.size + 1) s.heap.objs.size 0 .none := by
    have := Heap.get?_push_size (s.heap.push o) (o := { cls := .type "enumerate", data := .fields #[.none, .bool false, .ref s.heap.objs.size, rawInt 0, .none, .none] }) rfl
    rw [hz] at this; exact this
  refine ⟨⟨_, he, rfl⟩, h _ he (Heap.get?_push_of_some _ (Heap.get?_push_size _ B.free)) (by rw [Heap.size_push, hz]) fun b o x => Heap.get?_push_of_some _ (Heap.get?_push_of_some _ x)⟩
end
end MPE
namespace MP
open PySem PySem.Spec PyProof.Rows L2
/-- the tuple at a, each item in a new pair -/
def IteT (K : PySem.W.Frag) (a : Addr) : It :=
  ⟨fun i H => ∃ (xs : List V) (x : V), SqT K H a xs ∧ xs[i]? = some x, fun i H v H' => ∃ T x, v = .ref T ∧ H T = none ∧ H' = upd H T (.tup [.int (i : Nat), x]) ∧ ∀ xs, SqT K H a xs → xs[i]? = some x, fun i H => ∃ xs : List V, SqT K H a xs ∧ xs.length = i⟩
theorem tup_ne_enum {h : Heap} {a e it : Addr} {its : Array Value} {i : Int} {old : Value} (ht : IsTup h a its) (he : IsEnum h e it i old) : a ≠ e := fun z => by
  subst z
  obtain ⟨o, e1, c, _⟩ := ht
  rw [show h.get? a = _ from he] at e1
  cases e1
  exact absurd (show Value.type "enumerate" = Value.type "tuple" from c) (by decide)
theorem tup_ne_iter {h : Heap} {a t it : Addr} {its : Array Value} {i : Nat} (ht : IsTup h a its) (hi : h.IsTupleIter it t i) : a ≠ it := fun z => by
  subst z
  obtain ⟨o, e1, c, _⟩ := ht
  obtain ⟨o', e2, c', _⟩ := hi
  rw [e1] at e2
  cases e2
  rw [c] at c'
  exact absurd c' (by decide)
theorem turn_enumT {P : Program} {w : World} {K : PySem.W.Frag} {elts : List Expr} {kk : Nat} {tpos : Pos} (a e it : Addr) :
    Turn P w K (.Tuple elts kk tpos) (IteT K a) [e, it] e (fun i h => (∃ old, IsEnum h e it ((i : Nat) : Int) old) ∧ h.IsTupleIter it a i ∧ e ≠ it) where
  mem := by simp
  obj := fun i h st b hb => by
    obtain ⟨⟨old, he⟩, ⟨o, ho, hc, hd⟩, _⟩ := st
    have e' : b = e ∨ b = it := by simpa using hb
    rcases e' with z | z
    · rw [z]; exact ⟨_, he, fun v q => nomatch q⟩
    · rw [z]; exact ⟨o, ho, fun v q => by rw [hd] at q; cases q⟩
  keep := fun i h h' st k => let ⟨⟨old, he⟩, hi, hne⟩ := st; ⟨⟨old, k e (by simp) _ he⟩, hi.at fun o q => k it (by simp) o q, hne⟩
  item := by
    intro X hP hw hK hc i pins s σ H E I hf st hg
    subst hP hw hK
    obtain ⟨⟨old, he⟩, hit, hne⟩ := st
    obtain ⟨xs, x, hq, hx⟩ := hg
    obtain ⟨its, rv, p, hz⟩ := I.tuple hq
    obtain ⟨u, hu, ru⟩ := rv.get hx
    have hel : e < s.heap.objs.size := Heap.lt_size he
    have hil : it < s.heap.objs.size := by obtain ⟨_, q, _⟩ := hit; exact Heap.lt_size q
    have nae := tup_ne_enum p he
    have nai := tup_ne_iter p hit
    have pt : s.heap.IsTuple a its.toArray := p
    refine wpAny_pyNext_enum_itemD (Draws.tuple (show X.A.in1.handled = none from I.ok.hd hc) it a nai its.toArray) he ⟨hit, pt⟩ (by
      have := (List.getElem?_eq_some_iff.mp hu).1
      simpa using this) hne (by simp [hne, Ne.symm nae]) fun y h' tk hP ho st' hT hsz hk => ?_
    have hy : u = y := by
      have h1 : its.toArray[i]? = some y := hP
      rw [show its.toArray[i]? = some u by simpa using hu] at h1
      exact Option.some.inj h1
    subst hy
    obtain ⟨hit', _⟩ := st'
    refine ⟨_, rfl, wpAny_letOwnedTupleGo_enum (s := { s with heap := h', toks := tk + 1 }) ho fun h'' he' sb => ?_⟩
    have hT2 : h''.get? s.heap.objs.size = some { cls := .type "tuple", data := .seq #[.int i tk, u] } := (sb.2 _ (Nat.ne_of_gt hel)).trans hT
    have new : ObjOk X.prog X.w (upd H s.heap.objs.size (.tup [.int (i : Nat), x])) h'' s.heap.objs.size (.tup [.int (i : Nat), x]) :=
      ⟨by show 2 ≤ sizeLine; decide, [.int i tk, u], .cons ⟨_, rfl⟩ (.cons ru .nil), ⟨_, hT2, rfl, _, rfl⟩⟩
    have I1 : Inv X pins σ (upd H s.heap.objs.size (.tup [.int (i : Nat), x])) { s with heap := h'', toks := tk + 1 } :=
      I.turnedNew (ch := [e, it]) (fun b ob hb q => (sb.2 b (fun z => hb (by simp [z]))).trans (hk b ob (fun z => hb (by simp [z])) (fun z => hb (by simp [z])) q)) hf (Nat.le_refl _) new
    refine ⟨.ref s.heap.objs.size, _, I1, rfl, ⟨_, x, rfl, I.hok.fresh (Nat.le_refl _), rfl, fun ys hy => by rw [I.tuple_inj hy hq]; exact hx⟩, ⟨⟨u, ?_⟩, hit'.at fun o q => (sb.2 it (Ne.symm hne)).trans q, hne⟩, fun b hb => ?_⟩
    · have e1 : ((i + 1 : Nat) : Int) = (i : Int) + 1 := by omega
      rw [e1]; exact he'
    · have hb' : b < s.heap.objs.size := by
        have e' : b = e ∨ b = it := by simpa using hb
        rcases e' with z | z
        · rw [z]; exact hel
        · rw [z]; exact hil
      rw [upd_ne (Nat.ne_of_lt hb')]
      exact (hf b hb).1
  done := by
    intro X hP hw hK hc i pins s σ H E I hf st hg
    subst hP hw hK
    obtain ⟨⟨old, he⟩, hit, hne⟩ := st
    obtain ⟨xs, hq, hx⟩ := hg
    obtain ⟨its, rv, p, hz⟩ := I.tuple hq
    obtain ⟨f0, f1, f2, f3, f4, f5⟩ := hf it (by simp)
    have hl := rv.length
    have nai := tup_ne_iter p hit
    have e1 : i = its.toArray.size := by rw [List.size_toArray, ← hl, hx]
    subst e1
    exact wpAny_pyNext_enum_endD (Draws.tuple (show X.A.in1.handled = none from I.ok.hd hc) it a nai its.toArray) he ⟨hit, p⟩ fun h' eb => ⟨rfl, I.turned (t' := s.toks) (fun b o hb q => eb b o hb q) f0 f1 f3 f4 f5⟩
  self := fun A i s Q E st h => let ⟨⟨_, he⟩, _⟩ := st; wpAny_pyIter_enum he h
theorem walk_enumT {K : PySem.W.Frag} {a : Addr} {xs : List V} : Walk (IteT K a) xs.length (fun H => SqT K H a xs) (YPair (fun i => some (.int (i : Nat))) (fun i => xs[i]?)) := by
  refine ⟨fun i _ hi q => ⟨xs, xs[i], q, by simp [hi]⟩, fun _ q => ⟨xs, q, rfl⟩, fun i H v H' _ q y => ?_⟩
  obtain ⟨T, x, h1, h2, h3, h4⟩ := y
  exact ⟨T, .int (i : Nat), x, h1, h2, h3, rfl, h4 xs q⟩
def iEnumT (K : PySem.W.Frag) (ta : TA) : TI := fun σ H R => ta σ H fun vs H1 => ∃ a xs, vs = [.ref a] ∧ SqT K H1 a xs ∧ R (IteT K a) H1
theorem bt_enum : bootBuiltins "enumerate" = some (.type "enumerate") := by decide +kernel
theorem pi_enumT {X : Cx} {e : Expr} {ta : TA} {p pos tpos : Pos} {elts : List Expr} {kk : Nat} (hg : Gl X "enumerate") (hm : X.mg "enumerate" = none) (ha : L2.PA X [e] ta) (hs : starEach [e] X.env = [(false, eval e X.env)]) :
    L2.PI X (.Tuple elts kk tpos) (.Call (.Name "enumerate" p) [e] [] pos) (iEnumT X.K ta) := by
  refine ⟨fun pins s σ H R I h => ?_⟩
  refine Call_ (ld_blt I hg hm bt_enum (PyProof.Rows.callWith_type1 (thn (ha.run pos pins s σ H _ I h) fun us s1 ⟨vs, H1, I1, r1, q1⟩ => ?_) hs rfl))
  obtain ⟨a, xs, ex, hq, q⟩ := q1
  subst ex
  cases r1 with
  | cons r rr =>
    cases rr
    cases r
    obtain ⟨its, rv, p', hz⟩ := I1.tuple hq
    refine MPE.enum_start1 (begins_tuple a its.toArray) p' fun h' he hit hsz hk => wpAny_pyIter_enum he ?_
    have I2 : Inv X pins σ H1 { s1 with heap := h' } := I1.kept (t' := s1.toks) hk
    refine ⟨s1.heap.objs.size + 1, [s1.heap.objs.size + 1, s1.heap.objs.size], _, _, H1, rfl, I2, turn_enumT a (s1.heap.objs.size + 1) s1.heap.objs.size, ⟨⟨.none, he⟩, ⟨_, hit, rfl, rfl⟩, Nat.succ_ne_self _⟩, fun b hb => ?_, q⟩
    have e' : b = s1.heap.objs.size + 1 ∨ b = s1.heap.objs.size := by simpa using hb
    have hle : s1.heap.objs.size ≤ b := by
      rcases e' with z | z
      · rw [z]; exact Nat.le_add_right _ _
      · rw [z]; exact Nat.le_refl _
    exact I1.fpOk hle (I1.hok.fresh hle)
end MP
end
section
set_option Elab.async false
set_option linter.all false
set_option maxRecDepth 100000
set_option maxHeartbeats 2000000
/-! MP: iterators -/
namespace MP
open PySem PySem.Spec PyProof.Rows L2
section
variable {T : Tab} {G : Gd} {cf : CF} {n : Nat} {se : SE} {X : Cx} {W : WX} {σ : L2.St} {H : Hp} {as : List Addr} {fz : Addr → Prop} {lp : Bool}
def Later (lp : Bool) (as : List Addr) (fz : Addr → Prop) (H : Hp) (as2 : List Addr) (fz2 : Addr → Prop) (H2 : Hp) : Prop := StepS as fz H as2 fz2 H2 ∧ (lp = false → Step as fz H as2 fz2 H2)
/-- what walks along the data xs, as long as the heap goes on so -/
def ItOk (G : Gd) (lp : Bool) (J : It) (xs : List D) (as : List Addr) (fz : Addr → Prop) (H : Hp) : Prop :=
  ∃ (Gs : Hp → Prop) (Y : Nat → Hp → V → Hp → Prop), Walk J xs.length Gs Y ∧ (∀ as2 fz2 H2, Later lp as fz H as2 fz2 H2 → Gs H2) ∧
    ∀ as2 fz2 H2 i x H3 d, Later lp as fz H as2 fz2 H2 → xs[i]? = some d → Y i H2 x H3 → ∃ fz3, Grow fz2 H2 fz3 H3 ∧ RepD G as2 fz3 H3 x d
def wI (G : Gd) (W : WX) (lp : Bool) (m : S → Out (List D)) : TI :=
  fun σ H R => ∃ B as fz st, Sim G B st as fz σ H ∧ Post G B W σ (m st) (fun xs _ as1 fz1 H1 => ∀ J, ItOk G lp J xs as1 fz1 H1 → R J H1) as fz H
theorem itok_tup {K : PySem.W.Frag} {a : Addr} {vs : List V} {ds : List D} (sq : SqT K H a vs) (rl : RepL G as fz H vs ds) : ItOk G lp (Itt K a) ds as fz H := by
  refine ⟨fun H => SqT K H a vs, YAt vs, by rw [← rl.length]; exact walk_tup, fun as2 fz2 H2 l => sqT_stepS sq l.1, fun as2 fz2 H2 i x H3 d l e y => ?_⟩
  obtain ⟨v, e1, r⟩ := rl.get e
  obtain ⟨e2, e3⟩ := y
  subst e2
  rw [e1] at e3
  cases e3
  exact ⟨fz2, .refl, RepD.stepS l.1 _ _ r⟩
theorem itok_lst {K : PySem.W.Frag} {a : Addr} {vs : List V} {ds : List D} (he : H a = some (.lst vs)) (hz : fz a ∨ (lp = false ∧ a ∉ as)) (rl : RepL G as fz H vs ds) : ItOk G lp (Itl K a) ds as fz H := by
  refine ⟨fun H => SqL K H a vs, YAt vs, by rw [← rl.length]; exact walk_list, fun as2 fz2 H2 l => ?_, fun as2 fz2 H2 i x H3 d l e y => ?_⟩
  · rcases hz with hz | ⟨h1, h2⟩
    · exact SqL.of (l.1.fzs _ _ hz he)
    · exact SqL.of ((l.2 h1).fr _ _ he h2)
  · obtain ⟨v, e1, r⟩ := rl.get e
    obtain ⟨e2, e3⟩ := y
    subst e2
    rw [e1] at e3
    cases e3
    exact ⟨fz2, .refl, RepD.stepS l.1 _ _ r⟩
theorem itok_str {x : Str} : ItOk G lp (Its x) (x.cps.toList.map fun c => .str ⟨#[c]⟩) as fz H := by
  refine ⟨fun _ => True, _, by rw [List.length_map, Array.length_toList]; exact walk_str, fun _ _ _ _ => trivial, fun as2 fz2 H2 i v H3 d l e y => ?_⟩
  obtain ⟨e2, c, e3, e4⟩ := y
  subst e2 e4
  rw [List.getElem?_map, Array.getElem?_toList, e3] at e
  cases e
  exact ⟨fz2, .refl, .str _⟩
theorem itok_rng {lo : Int} {k : Nat} : ItOk G lp (Itr lo k) ((List.range k).map fun j => .int (lo + (j : Nat))) as fz H := by
  refine ⟨fun _ => True, _, by rw [List.length_map, List.length_range]; exact walk_range, fun _ _ _ _ => trivial, fun as2 fz2 H2 i v H3 d l e y => ?_⟩
  obtain ⟨e2, e3⟩ := y
  subst e2 e3
  rw [List.getElem?_map] at e
  cases e1 : (List.range k)[i]? with
  | none => rw [e1] at e; cases e
  | some j =>
    rw [e1] at e
    cases e
    have := List.getElem?_eq_some_iff.mp e1
    obtain ⟨h1, h2⟩ := this
    rw [List.getElem_range] at h2
    subst h2
    exact ⟨fz2, .refl, .int _⟩
theorem itok_rngC {lo c : Int} {k : Nat} : ItOk G lp (Itc lo c k) ((List.range k).map fun j => .int (lo + (j : Nat) * c)) as fz H := by
  refine ⟨fun _ => True, _, by rw [List.length_map, List.length_range]; exact walk_rangeC, fun _ _ _ _ => trivial, fun as2 fz2 H2 i v H3 d l e y => ?_⟩
  obtain ⟨e2, e3⟩ := y
  subst e2 e3
  rw [List.getElem?_map] at e
  cases e1 : (List.range k)[i]? with
  | none => rw [e1] at e; cases e
  | some j =>
    rw [e1] at e
    cases e
    obtain ⟨h1, h2⟩ := List.getElem?_eq_some_iff.mp e1
    rw [List.getElem_range] at h2
    subst h2
    exact ⟨fz2, .refl, .int _⟩
theorem enumL_length : ∀ (k : Nat) (ds : List D), (enumL k ds).length = ds.length
  | _, [] => rfl
  | k, d :: ds => by rw [enumL, List.length_cons, enumL_length (k + 1) ds, List.length_cons]
theorem enumL_get : ∀ {k i : Nat} {ds : List D} {d : D}, (enumL k ds)[i]? = some d → ∃ e, ds[i]? = some e ∧ d = .tup [.int ((k + i : Nat) : Int), e]
  | k, i, [], d, h => by simp [enumL] at h
  | k, 0, e :: ds, d, h => by
    simp [enumL] at h
    exact ⟨e, rfl, h.symm⟩
  | k, i + 1, e :: ds, d, h => by
    rw [enumL, List.getElem?_cons_succ] at h
    obtain ⟨e', h1, h2⟩ := enumL_get h
    refine ⟨e', by rw [List.getElem?_cons_succ]; exact h1, ?_⟩
    rw [h2]
    congr 3
    omega
theorem enum_rep {vs : List V} {ds : List D} {as2 : List Addr} {fz2 : Addr → Prop} {H2 H3 : Hp} {i : Nat} {x : V} {d : D} (rl : RepL G as2 fz2 H2 vs ds) (e : (enumL 0 ds)[i]? = some d) (y : YPair (fun i => some (.int (i : Nat))) (fun i => vs[i]?) i H2 x H3) : ∃ fz3, Grow fz2 H2 fz3 H3 ∧ RepD G as2 fz3 H3 x d := by
  obtain ⟨e', h1, h2⟩ := enumL_get e
  obtain ⟨v, e1, r⟩ := rl.get h1
  obtain ⟨p, a, b, rfl, hn, rfl, h3, h4⟩ := y
  have h4 : vs[i]? = some b := h4
  rw [e1] at h4
  cases h4
  have h3 : some (V.int (i : Nat)) = some a := h3
  cases h3
  subst h2
  have g : Grow fz2 H2 fz2 (upd H2 p (.tup [.int (i : Nat), v])) := grow_new hn
  refine ⟨fz2, g, .tup (.of upd_same) (.cons ?_ (.cons (RepD.step (g.simB (as := as2)).step _ _ r) .nil))⟩
  rw [Nat.zero_add]
  exact .int _
theorem itok_enumT {K : PySem.W.Frag} {a : Addr} {vs : List V} {ds : List D} (sq : SqT K H a vs) (rl : RepL G as fz H vs ds) : ItOk G lp (IteT K a) (enumL 0 ds) as fz H :=
  ⟨fun H => SqT K H a vs, _, by rw [enumL_length, ← rl.length]; exact walk_enumT, fun as2 fz2 H2 l => sqT_stepS sq l.1, fun as2 fz2 H2 i x H3 d l e y => enum_rep (RepL.stepS l.1 _ _ rl) e y⟩
theorem itok_enumL {K : PySem.W.Frag} {a : Addr} {vs : List V} {ds : List D} (he : H a = some (.lst vs)) (hz : fz a ∨ (lp = false ∧ a ∉ as)) (rl : RepL G as fz H vs ds) : ItOk G lp (Ite K a) (enumL 0 ds) as fz H := by
  refine ⟨fun H => SqL K H a vs, _, by rw [enumL_length, ← rl.length]; exact walk_enum, fun as2 fz2 H2 l => ?_, fun as2 fz2 H2 i x H3 d l e y => enum_rep (RepL.stepS l.1 _ _ rl) e y⟩
  rcases hz with hz | ⟨h1, h2⟩
  · exact SqL.of (l.1.fzs _ _ hz he)
  · exact SqL.of ((l.2 h1).fr _ _ he h2)
/-! ### the rules -/
theorem evalI_seq (cf : CF) (p : PE) (s : S) : evalI cf (.seq p) s = (ev1 cf p s).bind fun d s' => match itemsOf d with
    | some xs => .ok xs s'
    | none => .bad := by
  cases p <;> (simp only [evalI, ev1] <;> rfl)
theorem evalI_enum (cf : CF) (p : PE) (s : S) : evalI cf (.enum p) s = (ev1 cf p s).bind fun d s' => match seqOf d with
    | some xs => .ok (enumL 0 xs) s'
    | none => .bad := by
  cases p <;> (simp only [evalI, ev1] <;> rfl)
def notPeek : PE → Bool
  | .peek _ => false
  | _ => true
theorem ev1_np {p : PE} (h : notPeek p = true) : ev1 cf p = evalE cf p := by
  funext s
  cases p <;> first | rfl | exact absurd h (by simp [notPeek]) | simp only [ev1]
theorem tO_of {p : PE} {e : Expr} (h : notPeek p = true) (z : L2.PE X e (tI G W (evalE cf p))) : L2.PE X e (tO G W (ev1 cf p)) := by
  rw [ev1_np h]
  refine PEimp z fun σ H Q ⟨B, as, fz, st, sim, q⟩ => ⟨B, as, fz, st, sim, q.mono fun d st1 as1 fz1 H1 s1 m1 p1 v rv => p1 v (.dat rv)⟩
/-- the operand of a walk: what an operand may be where the heap goes on as lp says -/
def RepW (G : Gd) (lp : Bool) (as : List Addr) (fz : Addr → Prop) (H : Hp) (v : V) (d : D) : Prop := RepD G as fz H v d ∨ (lp = false ∧ RepO G as fz H v d)
def opW (lp : Bool) (p : PE) : Bool := !lp || notPeek p
theorem RepW.tup {v : V} {ds : List D} (h : RepW G lp as fz H v (.tup ds)) : ∃ a vs, v = .ref a ∧ SqT G.K H a vs ∧ RepL G as fz H vs ds := by
  rcases h with h | ⟨_, h⟩
  · cases h with
    | tup s r => exact ⟨_, _, rfl, s, r⟩
  · cases h with
    | dat h =>
      cases h with
      | tup s r => exact ⟨_, _, rfl, s, r⟩
theorem RepW.lst {v : V} {ds : List D} (h : RepW G lp as fz H v (.lst ds)) : ∃ a vs, v = .ref a ∧ H a = some (.lst vs) ∧ (fz a ∨ (lp = false ∧ a ∉ as)) ∧ RepL G as fz H vs ds := by
  rcases h with h | ⟨hl, h⟩
  · cases h with
    | lst f e r => exact ⟨_, _, rfl, e, .inl f, r⟩
  · cases h with
    | dat h =>
      cases h with
      | lst f e r => exact ⟨_, _, rfl, e, .inl f, r⟩
    | lst na e r => exact ⟨_, _, rfl, e, .inr ⟨hl, na⟩, r⟩
theorem RepW.str {v : V} {x : Str} (h : RepW G lp as fz H v (.str x)) : v = .str x := by
  rcases h with h | ⟨_, h⟩
  · cases h; rfl
  · cases h with
    | dat h => cases h; rfl
/-- an operand in a walk -/
def tW (G : Gd) (lp : Bool) (W : WX) (m : S → Out D) : TE := tX (RepW G lp) G W m
theorem tW_of {p : PE} {e : Expr} (h : opW lp p = true) (z : L2.PE X e (tO G W (ev1 cf p))) (z2 : notPeek p = true → L2.PE X e (tI G W (evalE cf p))) : L2.PE X e (tW G lp W (ev1 cf p)) := by
  cases lp with
  | false => exact PEimp z fun σ H Q ⟨B, as, fz, st, sim, q⟩ => ⟨B, as, fz, st, sim, q.mono fun d st1 as1 fz1 H1 s1 m1 p1 v rv => p1 v (.inr ⟨rfl, rv⟩)⟩
  | true =>
    have hp : notPeek p = true := by simpa [opW] using h
    rw [ev1_np hp]
    exact PEimp (z2 hp) fun σ H Q ⟨B, as, fz, st, sim, q⟩ => ⟨B, as, fz, st, sim, q.mono fun d st1 as1 fz1 H1 s1 m1 p1 v rv => p1 v (.inl rv)⟩
theorem pi_seqI (c : Cok T G cf n se X) {tg e : Expr} {p : PE} (h : L2.PE X e (tW G lp W (ev1 cf p))) : L2.PI X tg e (wI G W lp (evalI cf (.seq p))) := by
  refine ⟨fun pins s σ H R I ⟨B, as, fz, st, sim, q⟩ => ?_⟩
  rw [evalI_seq] at q
  have q := q.bind
  cases ev : ev1 cf p st with
  | bad => rw [ev] at q; exact q.elim
  | exc k t =>
    rw [ev] at q
    refine (pi_list (tg := tg) h).run pins s σ H R I ⟨B, as, fz, st, sim, ?_⟩
    rw [ev]
    exact q
  | ok d st1 =>
    rw [ev] at q
    have key : ∀ {Q' : VK}, (∀ as1 fz1 H1 v xs, itemsOf d = some xs → (∀ J, ItOk G lp J xs as1 fz1 H1 → R J H1) → RepW G lp as1 fz1 H1 v d → Q' v H1) → tW G lp W (ev1 cf p) σ H Q' := fun k => by
      refine ⟨B, as, fz, st, sim, ?_⟩
      rw [ev]
      intro as1 fz1 H1 s1 m1 v rv
      have z := q as1 fz1 H1 s1 m1
      dsimp only at z
      cases ei : itemsOf d with
      | none => rw [ei] at z; exact z.elim
      | some xs =>
        rw [ei] at z
        exact k as1 fz1 H1 v xs ei (z as1 fz1 H1 .refl m1) rv
    cases d with
    | tup ds =>
      refine (pi_tup (tg := tg) h).run pins s σ H R I (key fun as1 fz1 H1 v xs e1 k rv => ?_)
      cases e1
      obtain ⟨a, vs, rfl, sq, rl⟩ := rv.tup
      exact ⟨a, rfl, ⟨vs, c.K ▸ sq⟩, k _ (itok_tup (c.K ▸ sq) rl)⟩
    | lst ds =>
      refine (pi_list (tg := tg) h).run pins s σ H R I (key fun as1 fz1 H1 v xs e1 k rv => ?_)
      cases e1
      obtain ⟨a, vs, rfl, he, hz, rl⟩ := rv.lst
      exact ⟨a, rfl, ⟨vs, SqL.of he⟩, k _ (itok_lst he hz rl)⟩
    | str x =>
      refine (pi_str (tg := tg) h).run pins s σ H R I (key fun as1 fz1 H1 v xs e1 k rv => ?_)
      cases e1
      exact ⟨x, rv.str, k _ itok_str⟩
    | _ => exact (pi_list (tg := tg) h).run pins s σ H R I (key fun as1 fz1 H1 v xs e1 k rv => by cases e1)
theorem pi_enumI (c : Cok T G cf n se X) {elts : List Expr} {kk : Nat} {tpos p1 pos : Pos} {e : Expr} {p : PE} (hg : gloN se "enumerate" = true) (hm : ("enumerate" : Str) ∈ T.blts) (hs : starred e = false) (h : L2.PE X e (tW G lp W (ev1 cf p))) :
    L2.PI X (.Tuple elts kk tpos) (.Call (.Name "enumerate" p1) [e] [] pos) (wI G W lp (evalI cf (.enum p))) := by
  refine ⟨fun pins s σ H R I ⟨B, as, fz, st, sim, q⟩ => ?_⟩
  have hst : starEach [e] X.env = [(false, eval e X.env)] := star_cons hs
  have pa : L2.PA X [e] (tCons (tW G lp W (ev1 cf p)) tNil) := pa_cons h pa_nil hst
  rw [evalI_enum] at q
  have q := q.bind
  cases ev : ev1 cf p st with
  | bad => rw [ev] at q; exact q.elim
  | exc k t =>
    rw [ev] at q
    refine (pi_enum (kk := kk) (tpos := tpos) (elts := elts) (p := p1) (pos := pos) (c.glo hg) (c.blts _ hm) pa hst).run pins s σ H R I ⟨B, as, fz, st, sim, ?_⟩
    rw [ev]
    exact q
  | ok d st1 =>
    rw [ev] at q
    have key : ∀ {Q' : VK}, (∀ as1 fz1 H1 v xs, seqOf d = some xs → (∀ J, ItOk G lp J (enumL 0 xs) as1 fz1 H1 → R J H1) → RepW G lp as1 fz1 H1 v d → Q' v H1) → tW G lp W (ev1 cf p) σ H Q' := fun k => by
      refine ⟨B, as, fz, st, sim, ?_⟩
      rw [ev]
      intro as1 fz1 H1 s1 m1 v rv
      have z := q as1 fz1 H1 s1 m1
      dsimp only at z
      cases ei : seqOf d with
      | none => rw [ei] at z; exact z.elim
      | some xs =>
        rw [ei] at z
        exact k as1 fz1 H1 v xs ei (z as1 fz1 H1 .refl m1) rv
    cases d with
    | tup ds =>
      refine (pi_enumT (kk := kk) (tpos := tpos) (elts := elts) (p := p1) (pos := pos) (c.glo hg) (c.blts _ hm) pa hst).run pins s σ H R I (key fun as1 fz1 H1 v xs e1 k rv => ?_)
      cases e1
      obtain ⟨a, vs, rfl, sq, rl⟩ := rv.tup
      exact ⟨a, vs, rfl, c.K ▸ sq, k _ (itok_enumT (c.K ▸ sq) rl)⟩
    | lst ds =>
      refine (pi_enum (kk := kk) (tpos := tpos) (elts := elts) (p := p1) (pos := pos) (c.glo hg) (c.blts _ hm) pa hst).run pins s σ H R I (key fun as1 fz1 H1 v xs e1 k rv => ?_)
      cases e1
      obtain ⟨a, vs, rfl, he, hz, rl⟩ := rv.lst
      exact ⟨a, vs, rfl, SqL.of he, k _ (itok_enumL he hz rl)⟩
    | _ => exact (pi_enum (kk := kk) (tpos := tpos) (elts := elts) (p := p1) (pos := pos) (c.glo hg) (c.blts _ hm) pa hst).run pins s σ H R I (key fun as1 fz1 H1 v xs e1 k rv => by cases e1)
end
end MP
end
section
set_option Elab.async false
set_option linter.all false
set_option maxRecDepth 100000
set_option maxHeartbeats 2000000
/-! MP: ranges, list comprehensions -/
namespace MP
open PySem PySem.Spec PyProof.Rows L2
section
variable {T : Tab} {G : Gd} {cf : CF} {n : Nat} {se : SE} {X : Cx} {W : WX} {σ : L2.St} {H : Hp} {as : List Addr} {fz : Addr → Prop} {lp : Bool}
theorem smallI_ok {i : Int} (h : smallI i = true) : -(2 ^ 62) ≤ i ∧ i < 2 ^ 62 := by
  simp only [smallI, Bool.and_eq_true, decide_eq_true_eq] at h
  have : (2 : Int) ^ 62 = 4611686018427387904 := by decide
  rw [this]
  omega
theorem pi_rng1 (c : Cok T G cf n se X) {tg a : Expr} {pa : PE} {p1 pos : Pos} (hg : gloN se "range" = true) (hm : ("range" : Str) ∈ T.blts) (hs : starred a = false) (h : L2.PE X a (tI G W (evalE cf pa))) :
    L2.PI X tg (.Call (.Name "range" p1) [a] [] pos) (wI G W lp (evalI cf (.rng1 pa))) := by
  have hst : starEach [a] X.env = [(false, eval a X.env)] := star_cons hs
  have pav : L2.PA X [a] (tCons (tI G W (evalE cf pa)) tNil) := pa_cons h pa_nil hst
  refine ⟨fun pins s σ H R I ⟨B, as, fz, st, sim, q⟩ => (pi_range1 (c.glo hg) (c.blts _ hm) pav hst).run pins s σ H R I ⟨B, as, fz, st, sim, ?_⟩⟩
  simp only [evalI] at q
  refine q.bind.mono fun d st1 as1 fz1 H1 s1 m1 p1 v rv => ?_
  split at p1
  · rename_i i
    split at p1
    · rename_i hi
      cases rv
      have z := p1 as1 fz1 H1 .refl m1
      refine ⟨i, rfl, (smallI_ok hi).1, (smallI_ok hi).2, z _ ?_⟩
      have e : rngL 0 i = (List.range i.toNat).map fun j => .int (0 + (j : Nat)) := by
        unfold rngL
        rw [Int.sub_zero]
      rw [e]
      exact itok_rng
    · exact p1.elim
  · exact p1.elim
theorem pi_rng2 (c : Cok T G cf n se X) {tg a b : Expr} {pa pb : PE} {p1 pos : Pos} (hg : gloN se "range" = true) (hm : ("range" : Str) ∈ T.blts) (hs : starred a = false) (hs2 : starred b = false) (h : L2.PE X a (tI G W (evalE cf pa))) (h2 : L2.PE X b (tI G W (evalE cf pb))) :
    L2.PI X tg (.Call (.Name "range" p1) [a, b] [] pos) (wI G W lp (evalI cf (.rng2 pa pb))) := by
  have hst : starEach [a, b] X.env = [(false, eval a X.env), (false, eval b X.env)] := by rw [star_cons hs, star_cons hs2]; rfl
  have pav : L2.PA X [a, b] (tCons (tI G W (evalE cf pa)) (tCons (tI G W (evalE cf pb)) tNil)) := pa_cons h (pa_cons h2 pa_nil (star_cons hs2)) (star_cons hs)
  refine ⟨fun pins s σ H R I ⟨B, as, fz, st, sim, q⟩ => (pi_range2 (c.glo hg) (c.blts _ hm) pav hst (star_cons hs2)).run pins s σ H R I ⟨B, as, fz, st, sim, ?_⟩⟩
  simp only [evalI] at q
  refine q.bind.mono fun d st1 as1 fz1 H1 s1 m1 p1 v rv => ⟨B, as1, fz1, st1, m1, p1.bind.mono fun e st2 as2 fz2 H2 s2 m2 p2 w rw' => ?_⟩
  split at p2
  · rename_i i j
    split at p2
    · rename_i hi
      rw [Bool.and_eq_true] at hi
      cases rv
      cases rw'
      exact ⟨i, j, rfl, ⟨(smallI_ok hi.1).1, (smallI_ok hi.1).2, (smallI_ok hi.2).1, (smallI_ok hi.2).2⟩, p2 as2 fz2 H2 .refl m2 _ itok_rng⟩
    · exact p2.elim
  · exact p2.elim
theorem pi_rng3 (c : Cok T G cf n se X) {tg a b d : Expr} {pa pb pd : PE} {p1 pos : Pos} (hg : gloN se "range" = true) (hm : ("range" : Str) ∈ T.blts) (hs : starred a = false) (hs2 : starred b = false) (hs3 : starred d = false) (h : L2.PE X a (tI G W (evalE cf pa))) (h2 : L2.PE X b (tI G W (evalE cf pb)))
    (h3 : L2.PE X d (tI G W (evalE cf pd))) : L2.PI X tg (.Call (.Name "range" p1) [a, b, d] [] pos) (wI G W lp (evalI cf (.rng3 pa pb pd))) := by
  have pav : L2.PA X [a, b, d] (tCons (tI G W (evalE cf pa)) (tCons (tI G W (evalE cf pb)) (tCons (tI G W (evalE cf pd)) tNil))) := pa_cons h (pa_cons h2 (pa_cons h3 pa_nil (star_cons hs3)) (star_cons hs2)) (star_cons hs)
  have hp : (backTo pos (starEach [b, d] X.env)).any (·.1) = false := noStar_any (by simp [noStar, hs2, hs3])
  refine ⟨fun pins s σ H R I ⟨B, as, fz, st, sim, q⟩ => (pi_range3 (c.glo hg) (c.blts _ hm) pav (star_cons hs) hp).run pins s σ H R I ⟨B, as, fz, st, sim, ?_⟩⟩
  simp only [evalI] at q
  refine q.bind.mono fun d st1 as1 fz1 H1 s1 m1 p1 v rv => ⟨B, as1, fz1, st1, m1, p1.bind.mono fun e st2 as2 fz2 H2 s2 m2 p2 w rw' => ⟨B, as2, fz2, st2, m2, p2.bind.mono fun f st3 as3 fz3 H3 s3 m3 p3 u ru => ?_⟩⟩
  split at p3
  · rename_i i j k
    split at p3
    · rename_i hi
      simp only [Bool.and_eq_true, decide_eq_true_eq] at hi
      obtain ⟨⟨h1, h2⟩, rfl⟩ := hi
      cases rv
      cases rw'
      cases ru
      exact ⟨i, j, -1, _, rfl, RgC.neg (smallI_ok h1).1 (smallI_ok h1).2 (smallI_ok h2).1 (smallI_ok h2).2, p3 as3 fz3 H3 .refl m3 _ itok_rngC⟩
    · exact p3.elim
  · exact p3.elim

theorem rng_rep {as : List Addr} {fz : Addr → Prop} {H : Hp} (a b : Int) : RepL G as fz H (rgV a b) (rngL a b) := by
  unfold rgV rngL
  induction List.range (b - a).toNat with
  | nil => exact .nil
  | cons x r ih => exact .cons (.int _) ih
theorem both_tupRng (c : Cok T G cf n se X) {a : Expr} {pa : PE} {p1 p2 pos p3 : Pos} (hg : gloN se "range" = true) (hm : ("range" : Str) ∈ T.blts) (hg2 : gloN se "tuple" = true) (hm2 : ("tuple" : Str) ∈ T.blts) (hs : starred a = false) (h : L2.PE X a (tI G W (evalE cf pa))) :
    Both X (.Call (.Name "tuple" p1) [.Call (.Name "range" p2) [a] [] p3] [] pos) (tI G W (evalE cf (.tupRng pa))) := by
  have z : L2.PE X (.Call (.Name "tuple" p1) [.Call (.Name "range" p2) [a] [] p3] [] pos) (tI G W (evalE cf (.tupRng pa))) := by
    refine PEimp (pe_tupRg c.calm (c.glo hg2) (c.blts _ hm2) (prg_1 (c.glo hg) (c.blts _ hm) h (star_cons hs))) fun σ H Q ⟨B, as, fz, st, sim, q⟩ => ?_
    simp only [evalE] at q
    refine ⟨B, as, fz, st, sim, q.bind.mono fun d st1 as1 fz1 H1 s1 m1 p1 v rv => ?_⟩
    split at p1
    · rename_i i
      split at p1
      · rename_i hi
        cases rv
        refine ⟨i, rfl, RgOk.of_le (Int.le_refl _) (by omega) (by decide) hi.1, fun q hn => ?_⟩
        have g : Grow fz1 H1 fz1 (upd H1 q (.tup (rgV 0 i))) := grow_new hn
        exact p1 as1 fz1 _ g.simB.step (m1.grow g) _ (.tup (.of upd_same) (rng_rep 0 i))
      · exact p1.elim
    · exact p1.elim
  exact ⟨z, pt_val z⟩
theorem both_lstRng (c : Cok T G cf n se X) {a : Expr} {pa : PE} {p1 p2 pos p3 : Pos} (hg : gloN se "range" = true) (hm : ("range" : Str) ∈ T.blts) (hg2 : gloN se "list" = true) (hm2 : ("list" : Str) ∈ T.blts) (hs : starred a = false) (h : L2.PE X a (tI G W (evalE cf pa))) :
    Both X (.Call (.Name "list" p1) [.Call (.Name "range" p2) [a] [] p3] [] pos) (tI G W (evalE cf (.lstRng pa))) := by
  have z : L2.PE X (.Call (.Name "list" p1) [.Call (.Name "range" p2) [a] [] p3] [] pos) (tI G W (evalE cf (.lstRng pa))) := by
    refine PEimp (pe_listRg c.calm (c.glo hg2) (c.blts _ hm2) (prg_1 (c.glo hg) (c.blts _ hm) h (star_cons hs))) fun σ H Q ⟨B, as, fz, st, sim, q⟩ => ?_
    simp only [evalE] at q
    refine ⟨B, as, fz, st, sim, q.bind.mono fun d st1 as1 fz1 H1 s1 m1 p1 v rv => ?_⟩
    split at p1
    · rename_i i
      split at p1
      · rename_i hi
        cases rv
        refine ⟨i, rfl, RgOk.of_le (Int.le_refl _) (by omega) (by decide) hi.1, fun q hn => ?_⟩
        have g : Grow fz1 H1 (fun b => fz1 b ∨ b = q) (upd H1 q (.lst (rgV 0 i))) := grow_frz hn
        exact p1 as1 _ _ g.simB.step (m1.grow g) _ (.lst (.inr rfl) upd_same (rng_rep 0 i))
      · exact p1.elim
    · exact p1.elim
  exact ⟨z, pt_val z⟩

/-! ### the state of a comprehension: the new list stands at Dn, with acc in it -/
def Base.plus (B : Base) (a : Addr) (o : HO) : Base := ⟨upd B.H0 a o, B.as0, B.fz0⟩
structure Out1 (B : Base) (as : List Addr) (fz : Addr → Prop) (Dn : Addr) : Prop where
  n0 : B.H0 Dn = none
  nas : Dn ∉ as
  nfz : ¬ fz Dn
  nas0 : Dn ∉ B.as0
  nfz0 : ¬ B.fz0 Dn
theorem rep_mut {as : List Addr} {fz : Addr → Prop} {Dn : Addr} {u u' : HO} (hD : H Dn = some u) (mu : Mut u) (nfz : ¬ fz Dn) : (∀ (d : D) (v : V), RepD G as fz H v d → RepD G as fz (upd H Dn u') v d) ∧ (∀ (ds : List D) (vs : List V), RepL G as fz H vs ds → RepL G as fz (upd H Dn u') vs ds) := by
  have keep : ∀ b v, b ≠ Dn → H b = some v → upd H Dn u' b = some v := fun b v hb e => by rw [upd_ne hb]; exact e
  have sqt : ∀ {a : Addr} {vs : List V}, SqT G.K H a vs → SqT G.K (upd H Dn u') a vs := fun {a vs} h => by
    have ne : ∀ w, H a = some w → ¬ Mut w → a ≠ Dn := fun w e hw z => by
      subst z
      rw [hD] at e
      cases e
      exact hw mu
    rcases h with (r | ⟨q, r⟩) | r
    · exact .inl (.inl (keep a _ (ne _ r id) r))
    · exact .inl (.inr ⟨q, keep a _ (ne _ r id) r⟩)
    · exact .inr r
  have scr : ∀ {a : Addr} {vs : List V}, ScrAt G.K H a vs → ScrAt G.K (upd H Dn u') a vs := fun {a vs} h => by
    rcases h with ⟨q, r⟩ | r
    · refine .inl ⟨q, keep a _ (fun z => ?_) r⟩
      subst z
      rw [hD] at r
      cases r
      exact mu
    · exact .inr r
  have rec2 : ∀ k : Nat, (∀ (d : D) (v : V), sizeOf d ≤ k → RepD G as fz H v d → RepD G as fz (upd H Dn u') v d) ∧ (∀ (ds : List D) (vs : List V), sizeOf ds ≤ k → RepL G as fz H vs ds → RepL G as fz (upd H Dn u') vs ds) := by
    intro k
    induction k with
    | zero =>
      refine ⟨fun d v hk => ?_, fun ds vs hk => ?_⟩
      · exfalso; cases d <;> simp at hk
      · exfalso; cases ds <;> simp at hk
    | succ k ih =>
      refine ⟨fun d v hk h => ?_, fun ds vs hk h => ?_⟩
      · cases h with
        | non => exact .non
        | bl b => exact .bl b
        | int i => exact .int i
        | str s => exact .str s
        | tup s r => exact .tup (sqt s) (ih.2 _ _ (by simp at hk; omega) r)
        | lst f e r =>
          refine .lst f (keep _ _ (fun z => ?_) e) (ih.2 _ _ (by simp at hk; omega) r)
          subst z
          exact nfz f
        | fn i => exact .fn i
        | ref e => exact .ref e
        | scr e l => exact .scr (scr e) l
      · cases h with
        | nil => exact .nil
        | cons a r => exact .cons (ih.1 _ _ (by simp at hk; omega) a) (ih.2 _ _ (by simp at hk; omega) r)
  exact ⟨fun d v => (rec2 _).1 d v (Nat.le_refl _), fun ds vs => (rec2 _).2 ds vs (Nat.le_refl _)⟩
theorem rep_swap {as : List Addr} {fz : Addr → Prop} {Dn : Addr} {xs ys : List V} (hD : H Dn = some (.lst xs)) (nfz : ¬ fz Dn) : (∀ (d : D) (v : V), RepD G as fz H v d → RepD G as fz (upd H Dn (.lst ys)) v d) ∧ (∀ (ds : List D) (vs : List V), RepL G as fz H vs ds → RepL G as fz (upd H Dn (.lst ys)) vs ds) := rep_mut hD trivial nfz
theorem Sim.swap {st : S} {B : Base} {Dn : Addr} {o o' : HO} {xs ys : List V} (ho : o = .lst xs) (ho' : o' = .lst ys) (x : Sim G (B.plus Dn o) st as fz σ H) (u : Out1 B as fz Dn) : Sim G (B.plus Dn o') st as fz σ (upd H Dn o') := by
  have hD : H Dn = some o := x.b.fr Dn o upd_same u.nas0
  have keep : ∀ b v, b ≠ Dn → H b = some v → upd H Dn o' b = some v := fun b v hb e => by rw [upd_ne hb]; exact e
  have b0 : ∀ b, b ≠ Dn → (B.plus Dn o').H0 b = (B.plus Dn o).H0 b := fun b hb => by
    show upd B.H0 Dn o' b = upd B.H0 Dn o b
    rw [upd_ne hb, upd_ne hb]
  have bD : (B.plus Dn o').H0 Dn = some o' := upd_same
  have bD1 : (B.plus Dn o).H0 Dn = some o := upd_same
  have tr := rep_swap (G := G) (as := as) (ys := ys) (hD.trans (congrArg some ho)) u.nfz
  rw [← ho'] at tr
  refine ⟨⟨x.c.nd, x.c.len, fun i cl a e1 e2 => ?_, fun a f => ⟨(x.c.frz a f).1, ?_⟩⟩, ⟨fun b v e n => ?_, fun b v e => ?_, fun b v w e => ?_, fun b v f e => ?_, fun b e => ?_, x.b.pre, fun a h => ?_, x.b.fzm, fun a h => ?_⟩, ⟨x.l.len, fun i d e => ?_, fun i ds e => ?_, x.l.dist⟩⟩
  · have z := x.c.at_ i cl a e1 e2
    have ha : a ≠ Dn := fun z => u.nas (z ▸ List.mem_of_getElem? e2)
    obtain ⟨q, vs, e, sh, r⟩ := z
    exact ⟨q, vs, keep a _ ha e, sh, tr.2 _ _ r⟩
  · have ha : a ≠ Dn := fun z => u.nfz (z ▸ f)
    rw [upd_ne ha]
    exact (x.c.frz a f).2
  · by_cases hb : b = Dn
    · subst hb
      rw [bD] at e
      rw [upd_same]
      exact e
    · rw [b0 b hb] at e
      exact keep b _ hb (x.b.fr b v e n)
  · by_cases hb : b = Dn
    · subst hb
      rw [bD, ho'] at e
      cases e
    · rw [b0 b hb] at e
      exact keep b _ hb (x.b.tups b v e)
  · by_cases hb : b = Dn
    · subst hb
      rw [bD, ho'] at e
      cases e
    · rw [b0 b hb] at e
      exact keep b _ hb (x.b.frzs b v w e)
  · have hb : b ≠ Dn := fun z => u.nfz0 (z ▸ f)
    rw [b0 b hb] at e
    exact keep b _ hb (x.b.fzs b v f e)
  · by_cases hb : b = Dn
    · subst hb
      rw [upd_same]
      simp
    · rw [b0 b hb] at e
      rw [upd_ne hb]
      exact x.b.there b e
  · rcases x.b.newa a h with z | z
    · exact .inl z
    · have ha : a ≠ Dn := fun w => u.nas (w ▸ h)
      rw [b0 a ha]
      exact .inr z
  · rcases x.b.newf a h with z | z
    · exact .inl z
    · have ha : a ≠ Dn := fun w => u.nfz (w ▸ h)
      rw [b0 a ha]
      exact .inr z
  · obtain ⟨v, e1, r⟩ := x.l.val i d e
    exact ⟨v, e1, tr.1 _ _ r⟩
  · obtain ⟨a, vs, e1, e2, r, nf, na, n0⟩ := x.l.own i ds e
    have ha : a ≠ Dn := fun w => by
      rw [w, bD1] at n0
      cases n0
    exact ⟨a, vs, e1, keep a _ ha e2, tr.2 _ _ r, nf, na, by rw [b0 a ha]; exact n0⟩
theorem Sim.plus {st : S} {B : Base} {Dn : Addr} {o : HO} (x : Sim G B st as fz σ H) (hD : H Dn = none) : Sim G (B.plus Dn o) st as fz σ (upd H Dn o) ∧ Out1 B as fz Dn := by
  have y := x.grow (grow_new (o := o) hD)
  have nas : Dn ∉ as := fun h => x.c.live h hD
  have nfz : ¬ fz Dn := fun f => (x.c.frz Dn f).2 hD
  have n0 : B.H0 Dn = none := x.b.fresh hD
  have nas0 : Dn ∉ B.as0 := fun h => nas (by obtain ⟨r, e⟩ := x.b.pre; rw [e]; exact List.mem_append_left _ h)
  have nfz0 : ¬ B.fz0 Dn := fun f => nfz (x.b.fzm _ f)
  have b0 : ∀ b, b ≠ Dn → (B.plus Dn o).H0 b = B.H0 b := fun b hb => by
    show upd B.H0 Dn o b = B.H0 b
    rw [upd_ne hb]
  refine ⟨⟨y.c, ⟨fun b v e n => ?_, fun b v e => ?_, fun b v w e => ?_, fun b v f e => ?_, fun b e => ?_, x.b.pre, fun a h => ?_, x.b.fzm, fun a h => ?_⟩, ⟨y.l.len, y.l.val, fun i ds e => ?_, y.l.dist⟩⟩, ⟨n0, nas, nfz, nas0, nfz0⟩⟩
  · by_cases hb : b = Dn
    · subst hb
      rw [show (B.plus b o).H0 b = some o from upd_same] at e
      rw [upd_same]
      exact e
    · rw [b0 b hb] at e
      exact y.b.fr b v e n
  · by_cases hb : b = Dn
    · subst hb
      rw [show (B.plus b o).H0 b = some o from upd_same] at e
      rw [upd_same]
      exact e
    · rw [b0 b hb] at e
      exact y.b.tups b v e
  · by_cases hb : b = Dn
    · subst hb
      rw [show (B.plus b o).H0 b = some o from upd_same] at e
      rw [upd_same]
      exact e
    · rw [b0 b hb] at e
      exact y.b.frzs b v w e
  · by_cases hb : b = Dn
    · subst hb
      rw [show (B.plus b o).H0 b = some o from upd_same] at e
      rw [upd_same]
      exact e
    · rw [b0 b hb] at e
      exact y.b.fzs b v f e
  · by_cases hb : b = Dn
    · subst hb
      rw [upd_same]
      simp
    · rw [b0 b hb] at e
      exact y.b.there b e
  · rcases y.b.newa a h with z | z
    · exact .inl z
    · exact .inr (by rw [b0 a fun w => nas (w ▸ h)]; exact z)
  · rcases y.b.newf a h with z | z
    · exact .inl z
    · exact .inr (by rw [b0 a fun w => nfz (w ▸ h)]; exact z)
  · obtain ⟨a, vs, e1, e2, r, nf, na, n1⟩ := x.l.own i ds e
    obtain ⟨a', vs', e1', e2', r', nf', na', n1'⟩ := y.l.own i ds e
    rw [e1] at e1'
    cases e1'
    have ha : a ≠ Dn := fun w => by rw [w, hD] at e2; cases e2
    exact ⟨a, vs', e1, e2', r', nf', na', by rw [b0 a ha]; exact n1⟩
theorem Sim.out1 {st : S} {B : Base} {Dn : Addr} {o : HO} (x : Sim G (B.plus Dn o) st as fz σ H) (n0 : B.H0 Dn = none) (nas0 : Dn ∉ B.as0) (nfz0 : ¬ B.fz0 Dn) : Out1 B as fz Dn := by
  have e : (B.plus Dn o).H0 Dn = some o := upd_same
  refine ⟨n0, fun h => ?_, fun h => ?_, nas0, nfz0⟩
  · rcases x.b.newa _ h with z | z
    · exact nas0 z
    · rw [e] at z; cases z
  · rcases x.b.newf _ h with z | z
    · exact nfz0 z
    · rw [e] at z; cases z
/-- the new list becomes a datum -/
theorem Sim.unplus {st : S} {B : Base} {Dn : Addr} {acc : List V} (x : Sim G (B.plus Dn (.lst acc)) st as fz σ H) (u : Out1 B as fz Dn) : H Dn = some (.lst acc) ∧ Sim G B st as (fun b => fz b ∨ b = Dn) σ H ∧ Step as fz H as (fun b => fz b ∨ b = Dn) H := by
  have hD : H Dn = some (.lst acc) := x.b.fr Dn _ upd_same u.nas0
  have b0 : ∀ b v, B.H0 b = some v → (B.plus Dn (.lst acc)).H0 b = some v := fun b v e => by
    have hb : b ≠ Dn := fun z => by rw [z, u.n0] at e; cases e
    show upd B.H0 Dn _ b = some v
    rw [upd_ne hb]
    exact e
  have b1 : ∀ b, (B.plus Dn (.lst acc)).H0 b = none → B.H0 b = none := fun b e => by
    cases q : B.H0 b with
    | none => rfl
    | some v => rw [b0 b v q] at e; cases e
  have stp : Step as fz H as (fun b => fz b ∨ b = Dn) H := ⟨fun _ _ e _ => e, fun _ _ e => e, fun _ _ _ e => e, fun _ _ _ e => e, fun _ e => e, ⟨[], by simp⟩, fun _ h => .inl h, fun _ h => .inl h⟩
  refine ⟨hD, ⟨⟨x.c.nd, x.c.len, fun i cl a e1 e2 => ?_, fun a f => ?_⟩, ⟨fun b v e n => x.b.fr b v (b0 b v e) n, fun b v e => x.b.tups b v (b0 b _ e), fun b v w e => x.b.frzs b v w (b0 b _ e), fun b v f e => x.b.fzs b v f (b0 b _ e), fun b e => x.b.there b fun z => e (b1 b z), x.b.pre, fun a h => (x.b.newa a h).imp id (b1 a), fun a f => .inl (x.b.fzm a f), fun a f => ?_⟩,
    ⟨x.l.len, fun i d e => ?_, fun i ds e => ?_, x.l.dist⟩⟩, stp⟩
  · have z := x.c.at_ i cl a e1 e2
    obtain ⟨q, vs, e, sh, r⟩ := z
    exact ⟨q, vs, e, sh, RepL.step stp _ _ r⟩
  · rcases f with f | rfl
    · exact x.c.frz a f
    · exact ⟨u.nas, by rw [hD]; simp⟩
  · rcases f with f | rfl
    · exact (x.b.newf a f).imp id (b1 a)
    · exact .inr u.n0
  · obtain ⟨v, e1, r⟩ := x.l.val i d e
    exact ⟨v, e1, RepD.step stp _ _ r⟩
  · obtain ⟨a, vs, e1, e2, r, nf, na, n1⟩ := x.l.own i ds e
    refine ⟨a, vs, e1, e2, RepL.step stp _ _ r, fun f => ?_, na, b1 a n1⟩
    rcases f with f | rfl
    · exact nf f
    · rw [show (B.plus a (.lst acc)).H0 a = some (.lst acc) from upd_same] at n1
      cases n1
/-! ### slots forgotten -/
theorem wipe_len : ∀ (loc : List Slot) (vs : List Nat), (MP.wipe loc vs).length = loc.length
  | _, [] => rfl
  | loc, i :: r => by rw [MP.wipe, List.length_set, wipe_len loc r]
theorem wipe_get {loc : List Slot} {j : Nat} : ∀ {vs : List Nat}, j ∉ vs → (MP.wipe loc vs)[j]? = loc[j]?
  | [], _ => rfl
  | i :: r, h => by
    rw [List.mem_cons, not_or] at h
    rw [MP.wipe, List.getElem?_set_ne (Ne.symm h.1), wipe_get h.2]
theorem wipe_in {loc : List Slot} {j : Nat} : ∀ {vs : List Nat}, j ∈ vs → ∀ s, (MP.wipe loc vs)[j]? = some s → s = .unb
  | i :: r, h, s, e => by
    rw [MP.wipe] at e
    by_cases hj : i = j
    · subst hj
      by_cases hl : i < (MP.wipe loc r).length
      · rw [List.getElem?_set_self hl] at e
        exact (Option.some.inj e).symm
      · rw [List.getElem?_eq_none (by rw [List.length_set]; omega)] at e
        cases e
    · rw [List.getElem?_set_ne hj] at e
      rcases List.mem_cons.mp h with z | z
      · exact absurd z.symm hj
      · exact wipe_in z s e
theorem Sim.wipe {st : S} {B : Base} (x : Sim G B st as fz σ H) (vs : List Nat) : Sim G B { st with loc := MP.wipe st.loc vs } as fz (L2.wipe σ vs) H := by
  have nin : ∀ {j : Nat} {s : Slot}, (MP.wipe st.loc vs)[j]? = some s → s ≠ .unb → j ∉ vs := fun e h hj => h (wipe_in hj _ e)
  refine ⟨x.c, x.b, ⟨by rw [wipe_length, wipe_len]; exact x.l.len, fun i d e => ?_, fun i ds e => ?_, fun i j ds es a hij e1 e2 e3 => ?_⟩⟩
  · have hi := nin e (by simp)
    rw [wipe_get hi] at e
    rw [wipe_out hi]
    exact x.l.val i d e
  · have hi := nin e (by simp)
    rw [wipe_get hi] at e
    rw [wipe_out hi]
    exact x.l.own i ds e
  · have hi := nin e1 (by simp)
    have hj := nin e2 (by simp)
    rw [wipe_get hi] at e1
    rw [wipe_get hj] at e2
    rw [wipe_out hi] at e3
    rw [wipe_out hj]
    exact x.l.dist i j ds es a hij e1 e2 e3
theorem unwipe_len : ∀ (old new : List Slot) (vs : List Nat), (unwipe old new vs).length = new.length
  | _, _, [] => rfl
  | old, new, i :: r => by rw [unwipe, List.length_set, unwipe_len old new r]
theorem unwipe_get {old new : List Slot} {j : Nat} : ∀ {vs : List Nat}, j ∉ vs → (unwipe old new vs)[j]? = new[j]?
  | [], _ => rfl
  | i :: r, h => by
    rw [List.mem_cons, not_or] at h
    rw [unwipe, List.getElem?_set_ne (Ne.symm h.1), unwipe_get h.2]
theorem unwipe_in {old new : List Slot} {j : Nat} : ∀ {vs : List Nat}, j ∈ vs → ∀ s, (unwipe old new vs)[j]? = some s → (∃ d, s = .val d ∧ old[j]? = some (.val d)) ∨ s = .unb
  | i :: r, h, s, e => by
    rw [unwipe] at e
    by_cases hj : i = j
    · subst hj
      by_cases hl : i < (unwipe old new r).length
      · rw [List.getElem?_set_self hl] at e
        have e := (Option.some.inj e).symm
        split at e
        · rename_i d ho
          exact .inl ⟨d, e, ho⟩
        · exact .inr e
      · rw [List.getElem?_eq_none (by rw [List.length_set]; omega)] at e
        cases e
    · rw [List.getElem?_set_ne hj] at e
      rcases List.mem_cons.mp h with z | z
      · exact absurd z.symm hj
      · exact unwipe_in z s e
theorem Sim.unwipe {st st1 : S} {B : Base} {as1 : List Addr} {fz1 : Addr → Prop} {H1 : Hp} {vs : List Nat} (x1 : Sim G B st1 as1 fz1 σ H1) (s : Step as1 fz1 H1 as fz H) (x : Sim G B { st with loc := MP.wipe st.loc vs } as fz (L2.wipe σ vs) H) :
    Sim G B { st with loc := MP.unwipe st1.loc st.loc vs } as fz σ H := by
  refine ⟨x.c, x.b, ⟨?_, fun i d e => ?_, fun i ds e => ?_, fun i j ds es a hij e1 e2 e3 => ?_⟩⟩
  · have := x.l.len
    rw [wipe_length, wipe_len] at this
    rw [unwipe_len]
    exact this
  · by_cases hi : i ∈ vs
    · rcases unwipe_in hi _ e with ⟨d', e1, e2⟩ | e1
      · cases e1
        obtain ⟨v, e3, r⟩ := x1.l.val i d e2
        exact ⟨v, e3, RepD.step s _ _ r⟩
      · cases e1
    · rw [unwipe_get hi] at e
      obtain ⟨v, e1, r⟩ := x.l.val i d (by rw [wipe_get hi]; exact e)
      rw [wipe_out hi] at e1
      exact ⟨v, e1, r⟩
  · by_cases hi : i ∈ vs
    · rcases unwipe_in hi _ e with ⟨d', e1, e2⟩ | e1 <;> cases e1
    · rw [unwipe_get hi] at e
      obtain ⟨a, us, e1, r⟩ := x.l.own i ds (by rw [wipe_get hi]; exact e)
      rw [wipe_out hi] at e1
      exact ⟨a, us, e1, r⟩
  · by_cases hi : i ∈ vs
    · rcases unwipe_in hi _ e1 with ⟨d', e, _⟩ | e <;> cases e
    · by_cases hj : j ∈ vs
      · rcases unwipe_in hj _ e2 with ⟨d', e, _⟩ | e <;> cases e
      · rw [unwipe_get hi] at e1
        rw [unwipe_get hj] at e2
        have z := x.l.dist i j ds es a hij (by rw [wipe_get hi]; exact e1) (by rw [wipe_get hj]; exact e2) (by rw [wipe_out hi]; exact e3)
        rw [wipe_out hj] at z
        exact z
theorem wipe_agree {σ σ2 : L2.St} {vs ts : List Nat} (h : Agree ts (L2.wipe σ vs) σ2) (hs : ∀ t ∈ ts, t ∈ vs) : L2.wipe σ2 vs = L2.wipe σ vs := by
  apply List.ext_getElem?
  intro j
  by_cases hj : j ∈ vs
  · have g : ∀ τ : L2.St, j < τ.length → (L2.wipe τ vs)[j]? = some none := fun τ hl => by
      have hl2 : j < (L2.wipe τ vs).length := by rw [wipe_length]; exact hl
      rw [List.getElem?_eq_getElem hl2]
      cases e : (L2.wipe τ vs)[j] with
      | none => rfl
      | some v =>
        have z : (L2.wipe τ vs)[j]? = some (some v) := by rw [List.getElem?_eq_getElem hl2, e]
        exact absurd hj (wipe_some z).2
    have hlen : σ2.length = σ.length := by rw [h.1, wipe_length]
    by_cases hl : j < σ.length
    · rw [g σ hl, g σ2 (by rw [hlen]; exact hl)]
    · rw [List.getElem?_eq_none (by rw [wipe_length]; omega), List.getElem?_eq_none (by rw [wipe_length]; omega)]
  · rw [wipe_out hj, h.2 j fun z => hj (hs j z)]
theorem Step.touch {as' : List Addr} {fz' : Addr → Prop} {H' : Hp} {Dn : Addr} {o : HO} (x : Step as fz H as' fz' H') (hD : H Dn = none) : Step as fz H as' fz' (upd H' Dn o) := by
  have ne : ∀ b v, H b = some v → b ≠ Dn := fun b v e z => by rw [z, hD] at e; cases e
  exact ⟨fun b v e n => by rw [upd_ne (ne b _ e)]; exact x.fr b v e n, fun b v e => by rw [upd_ne (ne b _ e)]; exact x.tups b v e, fun b v w e => by rw [upd_ne (ne b _ e)]; exact x.frzs b v w e, fun b v f e => by rw [upd_ne (ne b _ e)]; exact x.fzs b v f e,
    fun b e => by
      by_cases hb : b = Dn
      · subst hb; rw [upd_same]; simp
      · rw [upd_ne hb]; exact x.there b e, x.pre, x.newa, x.fzm⟩
end
end MP
end
section
set_option Elab.async false
set_option linter.all false
set_option maxRecDepth 100000
set_option maxHeartbeats 2000000
/-! MP: list comprehensions -/
namespace MP
open PySem PySem.Spec PyProof.Rows L2
section
variable {T : Tab} {G : Gd} {cf : CF} {n : Nat} {se : SE} {X : Cx} {W : WX} {σ : L2.St} {H : Hp} {as : List Addr} {fz : Addr → Prop} {lp : Bool}
theorem takesNo {X : Cx} : L2N.Takes X (fun _ _ _ _ => False) := fun _ _ ⟨_, _, _, _, _, _, _, _, x⟩ => by
  have w := x.2.2.2.2.2.2.2.2
  exact w.elim
/-- the block's names -/
def SE.blk (se : SE) (scope : Scope) : SE := ⟨se.N, relS scope se.sc, fun x => scope.names.lookup x == some .cell⟩
theorem Cok.blk (c : Cok T G cf n se X) {s : Shared} {H : Hp} {scope : Scope} {C : Addr} {cl : List (Str × Addr)} {fp : List Addr} : Cok T G cf n (se.blk scope) (X.blk s H scope (compEnvC scope cl C X.env) fp) where
  K := c.K
  N := c.N
  nd := c.nd
  sc := by
    show relabel scope X.env = relS scope se.sc
    rw [← c.sc]
    rfl
  fn := fun x h => h
  calm := c.calm
  room := c.room
  gd := c.gd
  fns := c.fns
  clss := c.clss
  fnk := c.fnk
  globs := c.globs
  blts := c.blts
  mods := c.mods
/-- the tests of a clause -/
inductive PTs1 (X : Cx) (G : Gd) (W : WX) (cf : CF) : List Expr → PL → Prop where
  | nil : PTs1 X G W cf [] .nil
  | one {e : Expr} {p : PE} (h : Both X e (tI G W (evalE cf p))) : PTs1 X G W cf [e] (.cons p .nil)
def ttOf (G : Gd) (W : WX) (cf : CF) : PL → TT
  | .nil => tYes
  | .cons p _ => tB (tI G W (evalE cf p))
theorem PTs1.pts {es : List Expr} {ps : PL} (h : PTs1 X G W cf es ps) : L2.PTs X es (ttOf G W cf ps) := by
  cases h with
  | nil => exact pts_nil
  | one h => exact pts_one h.2
theorem tt_run {es : List Expr} {cs : PL} (h : PTs1 X G W cf es cs) {B : Base} {st st' : S} {b : Bool} {Q : Bool → Hp → Prop} (e : evalC cf cs st = .ok b st') (sim : Sim G B st as fz σ H) (k : ∀ as' fz' H', Step as fz H as' fz' H' → Sim G B st' as' fz' σ H' → Q b H') : ttOf G W cf cs σ H Q := by
  cases h with
  | nil =>
    simp only [evalC] at e
    cases e
    exact k as fz H .refl sim
  | one h =>
    simp only [evalC] at e
    refine ⟨B, as, fz, st, sim, ?_⟩
    cases ev : evalE cf _ st with
    | ok d st1 =>
      rw [ev] at e
      simp only [bind_ok] at e
      intro as' fz' H' s m v rv
      split at e
      · cases e
        cases rv
        exact ⟨_, rfl, k as' fz' H' s m⟩
      · cases e
        cases rv
        exact ⟨_, rfl, k as' fz' H' s m⟩
      · cases e
    | exc c t => rw [ev] at e; cases e
    | bad => rw [ev] at e; cases e
/-- one turn -/
def turnF (cf : CF) (elt : PE) (t : Tgt) (cs : PL) : D → S → Out (List D) :=
  fun d s2 => ofOpt (MP.assign t d s2) fun s3 => (evalC cf cs s3).bind fun b s4 => if b then (evalE cf elt s4).bind fun e s5 => .ok [e] s5 else .ok [] s4
theorem evalE_comp (cf : CF) (elt : PE) (t : Tgt) (it : Iter) (cs : PL) (vs : List Nat) (s : S) : evalE cf (.comp elt t it cs vs) s = (evalI cf it s).bind fun xs s1 =>
    (compLoop vs (turnF cf elt t cs) xs s1).calm.bind fun ds s6 => if ds.length ≤ 1000000 then .ok (.lst ds) { s6 with loc := unwipe s1.loc s6.loc vs } else .bad := by
  simp only [evalE]
  rfl
theorem bind_inv {α β : Type} {o : Out α} {f : α → S → Out β} {b : β} {s : S} (h : o.bind f = .ok b s) : ∃ a s1, o = .ok a s1 ∧ f a s1 = .ok b s := by
  cases o with
  | ok a s1 => exact ⟨a, s1, rfl, h⟩
  | exc c t => cases h
  | bad => cases h
theorem comp_core (c : Cok T G cf n se X) {elt : PE} {t : Tgt} {it : Iter} {cs : PL} {vs : List Nat} {es : List Expr} {X' : Cx} {W' : WX} (hts : PTs1 X' G W' cf es cs) (hv : ∀ i ∈ tvars t, i ∈ vs) {Q : VK}
    {B : Base} {st : S} {R : D → S → List Addr → (Addr → Prop) → Hp → Prop} (sim : Sim G B st as fz σ H) (q : Post G B W σ (evalE cf (.comp elt t it cs vs) st) R as fz H)
    (fin : ∀ (total : List D) (st6 st1 : S) (as1 : List Addr) (fz1 : Addr → Prop) (H1 : Hp) (as2 : List Addr) (fz2 : Addr → Prop) (H2 : Hp) (Dn : Addr) (acc : List V), Step as fz H as1 fz1 H1 → Sim G B st1 as1 fz1 σ H1 → H1 Dn = none → Step as1 fz1 H1 as2 fz2 H2 → Sim G (B.plus Dn (.lst acc)) { st6 with loc := MP.wipe st6.loc vs } as2 fz2 (L2.wipe σ vs) H2 → Out1 B as2 fz2 Dn → RepL G as2 fz2 H2 acc total →
      Post G B W σ (.ok (.lst total) { st6 with loc := MP.unwipe st1.loc st6.loc vs }) R as1 fz1 H1 → Q (.ref Dn) H2) :
    tLc (wI G W false (evalI cf it)) (gI G t) (ttOf G W' cf cs) (tI G W' (evalE cf elt)) vs σ H Q := by
  rw [evalE_comp] at q
  refine ⟨B, as, fz, st, sim, q.bind.mono fun xs st1 as1 fz1 H1 s1 m1 p1 J iok Dn hD => ?_⟩
  cases e : compLoop vs (turnF cf elt t cs) xs st1 with
  | exc k t => rw [e] at p1; exact p1.elim
  | bad => rw [e] at p1; exact p1.elim
  | ok total s6 =>
    rw [e, calm_ok, bind_ok] at p1
    split at p1
    · rename_i hlen
      obtain ⟨Gs, Y, wk, hGs, hY⟩ := iok
      have n0 : B.H0 Dn = none := m1.b.fresh hD
      obtain ⟨simP, out⟩ := m1.plus (o := .lst []) hD
      refine lc_it wk (fun i H => ∃ as2 fz2 st2 acc ds es, Sim G (B.plus Dn (.lst acc)) { st2 with loc := MP.wipe st2.loc vs } as2 fz2 (L2.wipe σ vs) H ∧ Step as1 fz1 H1 as2 fz2 H ∧ RepL G as2 fz2 H acc ds ∧
        compLoop vs (turnF cf elt t cs) (xs.drop i) st2 = .ok es s6 ∧ ds ++ es = total) ?_ ?_ ?_ ?_
      · exact ⟨as1, fz1, st1, [], [], total, simP.wipe vs, (grow_new (fz := fz1) hD).simB.step, .nil, by rw [List.drop_zero]; exact e, rfl⟩
      · rintro i H2 hi ⟨as2, fz2, st2, acc, ds, es', sm, stp, rl, ec, et⟩
        exact hGs as2 fz2 H2 ⟨stp.s, fun _ => stp⟩
      · rintro i x H2 H3 hi ⟨as2, fz2, st2, acc, ds, es', sm, stp, rl, ec, et⟩ y
        obtain ⟨fz3, g3, rd⟩ := hY as2 fz2 H2 i x H3 xs[i] ⟨stp.s, fun _ => stp⟩ (List.getElem?_eq_getElem hi) y
        rw [List.drop_eq_getElem_cons hi, compLoop] at ec
        obtain ⟨ds1, st3, e1, e2⟩ := bind_inv ec
        obtain ⟨es1, st4, e3, e4⟩ := bind_inv e2
        cases e4
        have sm3 := sm.grow g3
        unfold turnF at e1
        cases ea : MP.assign t xs[i] { st2 with loc := MP.wipe st2.loc vs } with
        | none => rw [ea] at e1; cases e1
        | some st5 =>
          rw [ea] at e1
          obtain ⟨b, st6, e5, e6⟩ := bind_inv e1
          refine ⟨_, as2, fz3, _, xs[i], st5, sm3, rd, ea, fun σ2 sm5 ag => ?_⟩
          have hw := wipe_agree ag hv
          refine ⟨hw, tt_run hts e5 sm5 fun as6 fz6 H6 s6' m6 => ?_⟩
          have stp6 : Step as1 fz1 H1 as6 fz6 H6 := (stp.trans g3.simB.step).trans s6'
          have rl6 : RepL G as6 fz6 H6 acc ds := RepL.step ((g3.simB (as := as2)).step.trans s6') _ _ rl
          cases b with
          | true =>
            obtain ⟨r, st7, e7, e8⟩ := bind_inv e6
            cases e8
            refine ⟨_, as6, fz6, st6, m6, ?_⟩
            rw [e7]
            intro as8 fz8 H8 s8 m8 yv ry
            have o8 := m8.out1 n0 out.nas0 out.nfz0
            have hDn : H8 Dn = some (.lst acc) := m8.b.fr Dn _ upd_same out.nas0
            have rl8 := RepL.step s8 _ _ rl6
            refine ⟨acc, hDn, ?_, as8, fz8, st3, acc ++ [yv], ds ++ [r], es1, ?_, (stp6.trans s8).touch hD, ?_, e3, ?_⟩
            · rw [sl_line, rl8.length]
              have : (ds ++ ([r] ++ es1)).length ≤ 1000000 := by rw [et]; exact hlen
              simp at this
              omega
            · have z := (m8.swap (o' := .lst (acc ++ [yv])) rfl rfl o8).wipe vs
              rw [hw] at z
              exact z
            · have tr := rep_swap (G := G) (as := as8) (fz := fz8) (ys := acc ++ [yv]) hDn o8.nfz
              exact (tr.2 _ _ rl8).append (.cons (tr.1 _ _ ry) .nil)
            · rw [← et, List.append_assoc]
          | false =>
            cases e6
            refine ⟨as6, fz6, st3, acc, ds, es1, ?_, stp6, rl6, e3, et⟩
            have z := m6.wipe vs
            rw [hw] at z
            exact z
      · rintro H2 ⟨as2, fz2, st2, acc, ds, es', sm, stp, rl, ec, et⟩
        rw [List.drop_length, compLoop] at ec
        cases ec
        rw [List.append_nil] at et
        subst et
        have o2 := sm.out1 n0 out.nas0 out.nfz0
        exact fin ds _ st1 as1 fz1 H1 as2 fz2 H2 Dn acc s1 m1 hD stp sm o2 rl p1
    · exact p1.elim
theorem comp_post (c : Cok T G cf n se X) {elt : PE} {t : Tgt} {it : Iter} {cs : PL} {vs : List Nat} {es : List Expr} {X' : Cx} {W' : WX} (hts : PTs1 X' G W' cf es cs) (hv : ∀ i ∈ tvars t, i ∈ vs) {Q : VK} (h : tI G W (evalE cf (.comp elt t it cs vs)) σ H Q) :
    tLc (wI G W false (evalI cf it)) (gI G t) (ttOf G W' cf cs) (tI G W' (evalE cf elt)) vs σ H Q := by
  obtain ⟨B, as, fz, st, sim, q⟩ := h
  refine comp_core c hts hv sim q fun total st6 st1 as1 fz1 H1 as2 fz2 H2 Dn acc s1 m1 hD stp sm o2 rl p1 => ?_
  obtain ⟨hDn, sm2, stp2⟩ := sm.unplus o2
  have st3 : Step as1 fz1 H1 as2 (fun b => fz2 b ∨ b = Dn) H2 := stp.trans stp2
  exact p1 as2 _ H2 st3 (m1.unwipe st3 sm2) (.ref Dn) (.lst (.inr rfl) hDn (RepL.step stp2 _ _ rl))
/-- a new list, of nobody yet -/
def NewL (G : Gd) (B : Base) (st' : S) (σ : L2.St) (H0 : Hp) (as' : List Addr) (fz' : Addr → Prop) (H' : Hp) (v : V) (d : D) : Prop := ∃ a vs ds, v = .ref a ∧ d = .lst ds ∧ H0 a = none ∧ H' a = some (.lst vs) ∧ RepL G as' fz' H' vs ds ∧ ¬ fz' a ∧ a ∉ as' ∧ B.H0 a = none ∧
  ∀ (i : Nat) (es : List D) (b : Addr), st'.loc[i]? = some (.own es) → σ[i]? = some (some (.ref b)) → b ≠ a
def tN (G : Gd) (W : WX) (m : S → Out D) : TE := fun σ H Q => ∃ B as fz st, Sim G B st as fz σ H ∧ Post G B W σ (m st) (fun d st' as' fz' H' => ∀ v, NewL G B st' σ H as' fz' H' v d → Q v H') as fz H
theorem Sim.unplus0 {st : S} {B : Base} {Dn : Addr} {acc : List V} (x : Sim G (B.plus Dn (.lst acc)) st as fz σ H) (u : Out1 B as fz Dn) : H Dn = some (.lst acc) ∧ Sim G B st as fz σ H ∧ ∀ (i : Nat) (es : List D) (b : Addr), st.loc[i]? = some (.own es) → σ[i]? = some (some (.ref b)) → b ≠ Dn := by
  have hD : H Dn = some (.lst acc) := x.b.fr Dn _ upd_same u.nas0
  have b0 : ∀ b v, B.H0 b = some v → (B.plus Dn (.lst acc)).H0 b = some v := fun b v e => by
    have hb : b ≠ Dn := fun z => by rw [z, u.n0] at e; cases e
    show upd B.H0 Dn _ b = some v
    rw [upd_ne hb]
    exact e
  have b1 : ∀ b, (B.plus Dn (.lst acc)).H0 b = none → B.H0 b = none := fun b e => by
    cases q : B.H0 b with
    | none => rfl
    | some v => rw [b0 b v q] at e; cases e
  refine ⟨hD, ⟨x.c, ⟨fun b v e n => x.b.fr b v (b0 b v e) n, fun b v e => x.b.tups b v (b0 b _ e), fun b v w e => x.b.frzs b v w (b0 b _ e), fun b v f e => x.b.fzs b v f (b0 b _ e), fun b e => x.b.there b fun z => e (b1 b z), x.b.pre, fun a h => (x.b.newa a h).imp id (b1 a), x.b.fzm, fun a f => (x.b.newf a f).imp id (b1 a)⟩,
    ⟨x.l.len, x.l.val, fun i ds e => ?_, x.l.dist⟩⟩, fun i es b e1 e2 => ?_⟩
  · obtain ⟨a, vs, e1, e2, r, nf, na, n1⟩ := x.l.own i ds e
    exact ⟨a, vs, e1, e2, r, nf, na, b1 a n1⟩
  · obtain ⟨a, vs, e1', e2', r, nf, na, n1⟩ := x.l.own i es e1
    rw [e2] at e1'
    cases e1'
    intro z
    subst z
    rw [show (B.plus b (.lst acc)).H0 b = some (.lst acc) from upd_same] at n1
    cases n1
theorem unwipe_own {old new : List Slot} {vs : List Nat} {i : Nat} {es : List D} (h : (MP.unwipe old new vs)[i]? = some (.own es)) : i ∉ vs ∧ new[i]? = some (.own es) := by
  by_cases hi : i ∈ vs
  · rcases unwipe_in hi _ h with ⟨d', e, _⟩ | e <;> cases e
  · exact ⟨hi, by rw [← unwipe_get hi]; exact h⟩
theorem comp_new (c : Cok T G cf n se X) {elt : PE} {t : Tgt} {it : Iter} {cs : PL} {vs : List Nat} {es : List Expr} {X' : Cx} {W' : WX} (hts : PTs1 X' G W' cf es cs) (hv : ∀ i ∈ tvars t, i ∈ vs) {Q : VK} (h : tN G W (evalE cf (.comp elt t it cs vs)) σ H Q) :
    tLc (wI G W false (evalI cf it)) (gI G t) (ttOf G W' cf cs) (tI G W' (evalE cf elt)) vs σ H Q := by
  obtain ⟨B, as, fz, st, sim, q⟩ := h
  refine comp_core c hts hv sim q fun total st6 st1 as1 fz1 H1 as2 fz2 H2 Dn acc s1 m1 hD stp sm o2 rl p1 => ?_
  obtain ⟨hDn, sm2, ow⟩ := sm.unplus0 o2
  have n0 : H Dn = none := by
    cases q : H Dn with
    | none => rfl
    | some o => exact absurd hD (s1.there Dn (by rw [q]; simp))
  refine p1 as2 _ H2 stp (m1.unwipe stp sm2) (.ref Dn) ⟨Dn, acc, total, rfl, rfl, n0, hDn, rl, o2.nfz, o2.nas, o2.n0, fun i es b e1 e2 => ?_⟩
  obtain ⟨hi, e3⟩ := unwipe_own e1
  exact ow i es b (by rw [MP.wipe_get hi]; exact e3) (by rw [wipe_out hi]; exact e2)
theorem both_comp (c : Cok T G cf n se X) {elt tg iter : Expr} {ifs : List Expr} {scope : Scope} {own : List (Str × Nat)} {pos : Pos} {pe : PE} {t : Tgt} {it : Iter} {cs : PL}
    (hI : L2.PI X tg iter (wI G W false (evalI cf it))) (hb : blkC se.N se.sc scope own = true) (ht : ckT (se.blk scope) t tg = true) (hv : ∀ i ∈ tvars t, i ∈ own.map (·.2))
    (hc : ∀ X', Cok T G cf n (se.blk scope) X' → PTs1 X' G (fun _ _ _ _ => False) cf ifs cs) (he : ∀ X', Cok T G cf n (se.blk scope) X' → L2.PE X' elt (tI G (fun _ _ _ _ => False) (evalE cf pe)))
    (hs : ∀ x, foldedSetIterable iter X.env x = pure x) : Both X (.ListComp elt [⟨tg, iter, ifs, 0⟩] scope pos) (tI G W (evalE cf (.comp pe t it cs (own.map (·.2))))) := by
  have ok : BlkOk X.N X.env.scope scope own := by rw [c.N, c.sc]; exact blkOk_by hb
  have z : L2.PE X (.ListComp elt [⟨tg, iter, ifs, 0⟩] scope pos) (tI G W (evalE cf (.comp pe t it cs (own.map (·.2))))) :=
    PEimp (pe_lc (pos := pos) c.calm (by rw [c.N]; exact c.nd) hI ok (fun s H C cl fp => pg_ckT c.blk t tg ht) (fun s H C cl fp => (hc _ c.blk).pts) (fun s H C cl fp => he _ c.blk) hs)
      fun σ H Q q => comp_post c (hc _ (c.blk (s := X.s_0) (H := X.H_0) (scope := scope) (C := 0) (cl := []) (fp := []))) hv q
  exact ⟨z, pt_val z⟩
theorem new_comp (c : Cok T G cf n se X) {elt tg iter : Expr} {ifs : List Expr} {scope : Scope} {own : List (Str × Nat)} {pos : Pos} {pe : PE} {t : Tgt} {it : Iter} {cs : PL}
    (hI : L2.PI X tg iter (wI G W false (evalI cf it))) (hb : blkC se.N se.sc scope own = true) (ht : ckT (se.blk scope) t tg = true) (hv : ∀ i ∈ tvars t, i ∈ own.map (·.2))
    (hc : ∀ X', Cok T G cf n (se.blk scope) X' → PTs1 X' G (fun _ _ _ _ => False) cf ifs cs) (he : ∀ X', Cok T G cf n (se.blk scope) X' → L2.PE X' elt (tI G (fun _ _ _ _ => False) (evalE cf pe)))
    (hs : ∀ x, foldedSetIterable iter X.env x = pure x) : L2.PE X (.ListComp elt [⟨tg, iter, ifs, 0⟩] scope pos) (tN G W (evalE cf (.comp pe t it cs (own.map (·.2))))) := by
  have ok : BlkOk X.N X.env.scope scope own := by rw [c.N, c.sc]; exact blkOk_by hb
  exact PEimp (pe_lc (pos := pos) c.calm (by rw [c.N]; exact c.nd) hI ok (fun s H C cl fp => pg_ckT c.blk t tg ht) (fun s H C cl fp => (hc _ c.blk).pts) (fun s H C cl fp => he _ c.blk) hs)
      fun σ H Q q => comp_new c (hc _ (c.blk (s := X.s_0) (H := X.H_0) (scope := scope) (C := 0) (cl := []) (fp := []))) hv q
/-- name = [..] on one line -/
theorem ps_lcI (c : Cok T G cf n se X) {i : Nat} {y : Str} {py : Pos} {elt tg iter : Expr} {ifs : List Expr} {scope : Scope} {own : List (Str × Nat)} {pos spos : Pos} {pe : PE} {t : Tgt} {it : Iter} {cs : PL}
    (hy : se.N[i]? = some y) (hyl : se.sc.names.lookup y = some .local) (hk : se.sc.kind = .function) (hl : (py.line == pos.line) = true) (hsc : (scope.names.any fun (n, k) => n == y && (k == .local || k == .cell)) = false)
    (hI : L2.PI X tg iter (wI G W false (evalI cf it))) (hb : blkC se.N se.sc scope own = true) (ht : ckT (se.blk scope) t tg = true) (hv : ∀ i ∈ tvars t, i ∈ own.map (·.2))
    (hc : ∀ X', Cok T G cf n (se.blk scope) X' → PTs1 X' G (fun _ _ _ _ => False) cf ifs cs) (he : ∀ X', Cok T G cf n (se.blk scope) X' → L2.PE X' elt (tI G (fun _ _ _ _ => False) (evalE cf pe)))
    (hs : ∀ x, foldedSetIterable iter X.env x = pure x) : L2.PS X (.Assign [.Name y py] (.ListComp elt [⟨tg, iter, ifs, 0⟩] scope pos) spos) (tAsg (tI G W (evalE cf (.comp pe t it cs (own.map (·.2))))) (gName i)) := by
  have ok : BlkOk X.N X.env.scope scope own := by rw [c.N, c.sc]; exact blkOk_by hb
  have z := ps_setLc (i := i) (y := y) (py := py) (pos := pos) (spos := spos) c.calm (by rw [c.N]; exact c.nd) (by rw [c.N]; exact hy) (by rw [c.sc]; exact hyl) (sw_true (by rw [c.sc]; exact hk) (by rw [c.sc]; exact hyl) hl hsc) hI ok
    (fun s H C cl fp => pg_ckT c.blk t tg ht) (fun s H C cl fp => (hc _ c.blk).pts) (fun s H C cl fp => he _ c.blk) hs
  refine ⟨fun pins s σ H D I h => z.run pins s σ H D I ?_⟩
  exact comp_post c (hc _ (c.blk (s := X.s_0) (H := X.H_0) (scope := scope) (C := 0) (cl := []) (fp := []))) hv h
theorem ps_lcN (c : Cok T G cf n se X) {i : Nat} {y : Str} {py : Pos} {elt tg iter : Expr} {ifs : List Expr} {scope : Scope} {own : List (Str × Nat)} {pos spos : Pos} {pe : PE} {t : Tgt} {it : Iter} {cs : PL}
    (hy : se.N[i]? = some y) (hyl : se.sc.names.lookup y = some .local) (hk : se.sc.kind = .function) (hl : (py.line == pos.line) = true) (hsc : (scope.names.any fun (n, k) => n == y && (k == .local || k == .cell)) = false)
    (hI : L2.PI X tg iter (wI G W false (evalI cf it))) (hb : blkC se.N se.sc scope own = true) (ht : ckT (se.blk scope) t tg = true) (hv : ∀ i ∈ tvars t, i ∈ own.map (·.2))
    (hc : ∀ X', Cok T G cf n (se.blk scope) X' → PTs1 X' G (fun _ _ _ _ => False) cf ifs cs) (he : ∀ X', Cok T G cf n (se.blk scope) X' → L2.PE X' elt (tI G (fun _ _ _ _ => False) (evalE cf pe)))
    (hs : ∀ x, foldedSetIterable iter X.env x = pure x) : L2.PS X (.Assign [.Name y py] (.ListComp elt [⟨tg, iter, ifs, 0⟩] scope pos) spos) (tAsg (tN G W (evalE cf (.comp pe t it cs (own.map (·.2))))) (gName i)) := by
  have ok : BlkOk X.N X.env.scope scope own := by rw [c.N, c.sc]; exact blkOk_by hb
  have z := ps_setLc (i := i) (y := y) (py := py) (pos := pos) (spos := spos) c.calm (by rw [c.N]; exact c.nd) (by rw [c.N]; exact hy) (by rw [c.sc]; exact hyl) (sw_true (by rw [c.sc]; exact hk) (by rw [c.sc]; exact hyl) hl hsc) hI ok
    (fun s H C cl fp => pg_ckT c.blk t tg ht) (fun s H C cl fp => (hc _ c.blk).pts) (fun s H C cl fp => he _ c.blk) hs
  refine ⟨fun pins s σ H D I h => z.run pins s σ H D I ?_⟩
  exact comp_new c (hc _ (c.blk (s := X.s_0) (H := X.H_0) (scope := scope) (C := 0) (cl := []) (fp := []))) hv h
end
end MP
end
section
set_option Elab.async false
set_option linter.all false
set_option maxRecDepth 100000
set_option maxHeartbeats 4000000
/-! MP: objects and dicts -/
namespace MP
open PySem PySem.Spec PyProof.Rows L2
section
variable {T : Tab} {G : Gd} {cf : CF} {n : Nat} {se : SE} {X : Cx} {B : Base} {W : WX} {σ : L2.St} {H H' : Hp} {as as' : List Addr} {fz fz' : Addr → Prop} {ps : PL}
/-! ### more cells -/
theorem rep_more {r : List Addr} : (∀ (d : D) (v : V), RepD G as fz H v d → RepD G (as ++ r) fz H v d) ∧ (∀ (ds : List D) (vs : List V), RepL G as fz H vs ds → RepL G (as ++ r) fz H vs ds) := by
  have rec2 : ∀ k : Nat, (∀ (d : D) (v : V), sizeOf d ≤ k → RepD G as fz H v d → RepD G (as ++ r) fz H v d) ∧ (∀ (ds : List D) (vs : List V), sizeOf ds ≤ k → RepL G as fz H vs ds → RepL G (as ++ r) fz H vs ds) := by
    intro k
    induction k with
    | zero =>
      refine ⟨fun d v hk => ?_, fun ds vs hk => ?_⟩
      · exfalso; cases d <;> simp at hk
      · exfalso; cases ds <;> simp at hk
    | succ k ih =>
      refine ⟨fun d v hk h => ?_, fun ds vs hk h => ?_⟩
      · cases h with
        | non => exact .non
        | bl b => exact .bl b
        | int i => exact .int i
        | str s => exact .str s
        | tup s r => exact .tup s (ih.2 _ _ (by simp at hk; omega) r)
        | lst f e r => exact .lst f e (ih.2 _ _ (by simp at hk; omega) r)
        | fn i => exact .fn i
        | ref e => exact .ref (by rw [List.getElem?_append_left (List.getElem?_eq_some_iff.mp e).1]; exact e)
        | scr e l => exact .scr e l
      · cases h with
        | nil => exact .nil
        | cons a r => exact .cons (ih.1 _ _ (by simp at hk; omega) a) (ih.2 _ _ (by simp at hk; omega) r)
  exact ⟨fun d v => (rec2 _).1 d v (Nat.le_refl _), fun ds vs => (rec2 _).2 ds vs (Nat.le_refl _)⟩
/-- a new object that is tracked in a cell -/
theorem Sim.addCell {st : S} (x : Sim G B st as fz σ H) {p : Addr} {o : HO} {c : Cell} {vs : List V} (hp : H p = none) (sh : Shape G c o vs) (r : RepL G as fz H vs c.ds) :
    Sim G B { st with sto := st.sto ++ [c] } (as ++ [p]) fz σ (upd H p o) ∧ Step as fz H (as ++ [p]) fz (upd H p o) := by
  have g : Grow fz H fz (upd H p o) := grow_new hp
  have y := x.grow g
  have na : p ∉ as := fun h => x.c.live h hp
  have nf : ¬ fz p := fun h => (x.c.frz p h).2 hp
  have r2 := RepL.step (g.simB (as := as)).step _ _ r
  refine ⟨⟨⟨?_, by rw [List.length_append, List.length_append, y.c.len]; rfl, fun j cl b e1 e2 => ?_, fun b f => ⟨fun hm => ?_, (y.c.frz b f).2⟩⟩,
    ⟨fun b v e n => y.b.fr b v e n, y.b.tups, y.b.frzs, y.b.fzs, y.b.there, ?_, fun b hm => ?_, y.b.fzm, y.b.newf⟩, y.l.len, fun j d q => ?_, fun j es q => ?_, y.l.dist⟩, ?_⟩
  · rw [List.nodup_append]
    exact ⟨y.c.nd, by simp, fun b hb c hc z => na (by simp at hc; rw [← hc, ← z]; exact hb)⟩
  · by_cases hj : j < st.sto.length
    · rw [List.getElem?_append_left hj] at e1
      rw [List.getElem?_append_left (by rw [y.c.len]; exact hj)] at e2
      obtain ⟨o', us, q, s', r'⟩ := y.c.at_ j cl b e1 e2
      exact ⟨o', us, q, s', rep_more.2 _ _ r'⟩
    · have hj2 : st.sto.length ≤ j := by omega
      rw [List.getElem?_append_right hj2] at e1
      rw [List.getElem?_append_right (by rw [y.c.len]; exact hj2), y.c.len] at e2
      cases k : j - st.sto.length with
      | zero =>
        rw [k] at e1 e2
        cases e1
        cases e2
        exact ⟨o, vs, upd_same, sh, rep_more.2 _ _ r2⟩
      | succ k' => rw [k] at e1; simp at e1
  · rcases List.mem_append.mp hm with z | z
    · exact (y.c.frz b f).1 z
    · simp at z
      exact nf (z ▸ f)
  · obtain ⟨q, e⟩ := y.b.pre
    exact ⟨q ++ [p], by rw [e, List.append_assoc]⟩
  · rcases List.mem_append.mp hm with z | z
    · exact y.b.newa b z
    · simp at z
      exact .inr (z ▸ x.b.fresh hp)
  · obtain ⟨v, q1, r'⟩ := y.l.val j d q
    exact ⟨v, q1, rep_more.1 _ _ r'⟩
  · obtain ⟨b, us, q1, q2, r', m1, m2, m3⟩ := y.l.own j es q
    refine ⟨b, us, q1, q2, rep_more.2 _ _ r', m1, fun hm => ?_, m3⟩
    rcases List.mem_append.mp hm with z | z
    · exact m2 z
    · simp at z
      obtain ⟨b', us', q1', q2', _⟩ := x.l.own j es q
      rw [q1] at q1'
      cases q1'
      rw [z, hp] at q2'
      cases q2'
  · have s := (g.simB (as := as)).step
    refine ⟨s.fr, s.tups, s.frzs, s.fzs, s.there, ⟨[p], rfl⟩, fun b hm => ?_, s.fzm⟩
    rcases List.mem_append.mp hm with z | z
    · exact .inl z
    · simp at z
      exact .inr (z ▸ hp)
theorem new_ref {st : S} (x : Sim G B st as fz σ H) (p : Addr) : (as ++ [p])[st.sto.length]? = some p := by
  rw [← x.c.len, List.getElem?_append_right (Nat.le_refl _), Nat.sub_self]
  rfl
/-! ### fields, keys -/
theorem look_zip {x : Str} {d : D} : ∀ {ks : List Str} {xs : List D} {vs : List V}, RepL G as fz H vs xs → lookS ks xs x = some d → ∃ v, (ks.zip vs).lookup x = some v ∧ RepD G as fz H v d
  | [], xs, vs, _, h => by cases xs <;> simp [lookS] at h
  | k :: ks, [], vs, _, h => by simp [lookS] at h
  | k :: ks, y :: xs, _, .cons a r, h => by
    rw [lookS] at h
    by_cases e : x = k
    · rw [if_pos e] at h
      cases h
      refine ⟨_, ?_, a⟩
      rw [List.zip_cons_cons, List.lookup_cons, e, beq_self_eq_true]
    · rw [if_neg e] at h
      obtain ⟨v, e1, r1⟩ := look_zip r h
      refine ⟨v, ?_, r1⟩
      rw [List.zip_cons_cons, List.lookup_cons, beq_false_of_ne e]
      exact e1
theorem look_none {x : Str} : ∀ {ks : List Str} {vs : List V}, x ∉ ks → (ks.zip vs).lookup x = none
  | [], vs, _ => by simp
  | k :: ks, [], _ => by simp
  | k :: ks, v :: vs, h => by
    rw [List.mem_cons, not_or] at h
    rw [List.zip_cons_cons, List.lookup_cons, beq_false_of_ne h.1]
    exact look_none h.2
theorem put_zip {x : Str} {v : V} {d : D} (rd : RepD G as fz H v d) : ∀ {ks : List Str} {xs : List D} {vs : List V}, ks.length = xs.length → RepL G as fz H vs xs → ∃ us, putF x v (ks.zip vs) = (putS ks xs x d).1.zip us ∧ (putS ks xs x d).1.length = (putS ks xs x d).2.length ∧ RepL G as fz H us (putS ks xs x d).2
  | [], [], _, _, .nil => ⟨[v], rfl, rfl, .cons rd .nil⟩
  | [], y :: xs, _, h, _ => by simp at h
  | k :: ks, [], _, h, _ => by simp at h
  | k :: ks, y :: xs, w :: vs, h, .cons a r => by
    rw [List.zip_cons_cons, putF, putS]
    by_cases e : k = x
    · rw [if_pos e, if_pos e]
      exact ⟨v :: vs, rfl, by simpa using h, .cons rd r⟩
    · rw [if_neg e, if_neg e]
      obtain ⟨us, e1, e2, r2⟩ := put_zip rd (ks := ks) (by simpa using h) r
      exact ⟨w :: us, by rw [e1]; rfl, by simp [e2], .cons a r2⟩
theorem keyD_rep {v : V} {d : D} {k : Key} (h : keyD d = some k) (r : RepD G as fz H v d) : v = kV k := by
  cases d <;> simp only [keyD, Option.some.injEq, reduceCtorEq] at h
  · subst h; cases r; rfl
  · subst h; cases r; rfl
theorem keysD_rep : ∀ {ds : List D} {vs : List V} {ks : List Key}, keysD ds = some ks → RepL G as fz H vs ds → vs = ks.map kV
  | [], _, _, h, .nil => by simp [keysD] at h; subst h; rfl
  | d :: ds, v :: vs, ks, h, .cons a r => by
    rw [keysD] at h
    cases e1 : keyD d with
    | none => rw [e1] at h; cases h
    | some k =>
      cases e2 : keysD ds with
      | none => rw [e1, e2] at h; cases h
      | some ks' =>
        rw [e1, e2] at h
        cases h
        rw [keyD_rep e1 a, keysD_rep e2 r]
        rfl
theorem val_zip {κ : Type} [DecidableEq κ] {k : κ} : ∀ {ks : List κ} {xs : List D} {vs : List V}, RepL G as fz H vs xs → ∃ r : Option V, valV (ks.zip vs) k = r ∧ r.isSome = (valD ks xs k).isSome ∧ ∀ d, valD ks xs k = some d → ∃ v, r = some v ∧ RepD G as fz H v d
  | [], xs, vs, _ => ⟨none, rfl, by cases xs <;> rfl, fun d h => by cases xs <;> simp [valD] at h⟩
  | _ :: _, [], _, .nil => ⟨none, rfl, rfl, fun d h => by simp [valD] at h⟩
  | c :: ks, y :: xs, w :: vs, .cons a r => by
    by_cases e : c = k
    · refine ⟨some w, ?_, ?_, fun d h => ?_⟩
      · unfold valV; rw [List.zip_cons_cons, List.find?_cons]; simp [e]
      · rw [valD, if_pos e]; rfl
      · rw [valD, if_pos e] at h; cases h; exact ⟨w, rfl, a⟩
    · obtain ⟨q, e1, e2, e3⟩ := val_zip (k := k) (ks := ks) r
      refine ⟨q, ?_, ?_, fun d h => ?_⟩
      · rw [← e1]; unfold valV; rw [List.zip_cons_cons, List.find?_cons]; simp [e]
      · rw [valD, if_neg e]; exact e2
      · rw [valD, if_neg e] at h; exact e3 d h
theorem any_zip {κ : Type} [DecidableEq κ] {k : κ} : ∀ {ks : List κ} {vs : List V}, ks.length = vs.length → ((ks.zip vs).any fun kv => decide (kv.1 = k)) = ks.any fun y => decide (y = k)
  | [], _, _ => by simp
  | c :: ks, [], h => by simp at h
  | c :: ks, v :: vs, h => by rw [List.zip_cons_cons, List.any_cons, List.any_cons, any_zip (by simpa using h)]
theorem putK_zip {κ : Type} [DecidableEq κ] {k : κ} {v : V} {d : D} {ks : List κ} {xs : List D} {vs : List V} (rd : RepD G as fz H v d) (h : ks.length = xs.length) (r : RepL G as fz H vs xs) :
    ∃ us ys, RepL G as fz H us ys ∧ (if (ks.any fun y => decide (y = k)) = true then ys = setV ks xs k d ∧ ks.length = ys.length ∧ putK (ks.zip vs) k v = ks.zip us else ys = xs ++ [d] ∧ putK (ks.zip vs) k v = (ks ++ [k]).zip us) := by
  have lv : ks.length = vs.length := by rw [h, r.length]
  unfold putK
  rw [any_zip lv]
  split
  · rename_i hc
    have key : ∀ {ks : List κ} {xs : List D} {vs : List V}, ks.length = xs.length → RepL G as fz H vs xs → ∃ us, RepL G as fz H us (setV ks xs k d) ∧ ks.length = (setV ks xs k d).length ∧ (ks.zip vs).map (fun kv => if kv.1 = k then (kv.1, v) else kv) = ks.zip us := fun {ks} => by
      induction ks with
      | nil => intro xs vs h r; cases xs <;> first | exact ⟨[], .nil, rfl, rfl⟩ | simp at h
      | cons c ks ih =>
        intro xs vs h r
        cases r with
        | nil => simp at h
        | cons a r =>
          obtain ⟨us, r2, l2, e2⟩ := ih (by simpa using h) r
          rw [setV]
          by_cases e : c = k
          · rw [if_pos e]
            exact ⟨v :: us, .cons rd r2, by simp [l2], by rw [List.zip_cons_cons, List.map_cons, e2]; simp [e]⟩
          · rw [if_neg e]
            exact ⟨_ :: us, .cons a r2, by simp [l2], by rw [List.zip_cons_cons, List.map_cons, e2]; simp [e]⟩
    obtain ⟨us, r2, l2, e2⟩ := key h r
    exact ⟨us, _, r2, rfl, l2, e2⟩
  · rename_i hc
    refine ⟨vs ++ [v], _, r.append (.cons rd .nil), rfl, ?_⟩
    rw [List.zip_append lv]
    rfl
theorem SimC.tupc {t : Sto} (c : SimC G t as fz H) {i : Nat} {ds : List D} {v : V} (e : t[i]? = some (.tup ds)) (r : RepD G as fz H v (.ref i)) : ∃ b vs, v = .ref b ∧ H b = some (.tup vs) ∧ RepL G as fz H vs ds := by
  cases r with
  | ref ea =>
    obtain ⟨o, vs, q, rfl, rl⟩ := c.at_ i _ _ e ea
    exact ⟨_, vs, rfl, q, rl⟩
/-- what a dict has for a key, in the heap -/
theorem cellGet_rep {t : Sto} {a : Addr} {c : Cell} {kd : D} {kv : V} {r : Option D} {o : HO} {vs : List V} (sc : SimC G t as fz H) (ho : H a = some o) (sh : Shape G c o vs) (rl : RepL G as fz H vs c.ds) (rk : RepD G as fz H kv kd) (h : cellGet t c kd = some r) :
    ∃ q, DGet H a kv q ∧ q.isSome = r.isSome ∧ ∀ d, r = some d → ∃ v, q = some v ∧ RepD G as fz H v d := by
  cases c with
  | lst xs => simp [cellGet] at h
  | tup xs => simp [cellGet] at h
  | ins c ks xs => simp [cellGet] at h
  | dK ks xs =>
    obtain ⟨hl, rfl⟩ := sh
    simp only [cellGet] at h
    cases e : keyD kd with
    | none => rw [e] at h; cases h
    | some k =>
      rw [e] at h
      cases h
      obtain ⟨q, e1, e2, e3⟩ := val_zip (k := k) (ks := ks) rl
      exact ⟨q, .inl ⟨_, k, .inl ho, keyD_rep e rk, e1.symm⟩, e2, e3⟩
  | dT ks xs =>
    obtain ⟨hl, rfl⟩ := sh
    cases kd with
    | ref i =>
      simp only [cellGet] at h
      split at h
      · rename_i ds et
        cases e : keysD ds with
        | none => rw [e] at h; cases h
        | some k =>
          rw [e] at h
          cases h
          obtain ⟨b, us, rfl, hb, rs⟩ := sc.tupc et rk
          obtain ⟨q, e1, e2, e3⟩ := val_zip (k := k) (ks := ks) rl
          rw [keysD_rep e rs] at hb
          exact ⟨q, .inr ⟨_, k, b, .inl ho, rfl, hb, e1.symm⟩, e2, e3⟩
      · cases h
    | _ => simp [cellGet] at h
theorem putC_zip {κ : Type} [DecidableEq κ] {k : κ} {v : V} {d : D} {ks : List κ} {xs : List D} {vs : List V} (rd : RepD G as fz H v d) (h : ks.length = xs.length) (r : RepL G as fz H vs xs) :
    ∃ us, RepL G as fz H us (putC ks xs k d).2 ∧ (putC ks xs k d).1.length = (putC ks xs k d).2.length ∧ putK (ks.zip vs) k v = (putC ks xs k d).1.zip us := by
  obtain ⟨us, ys, r2, z⟩ := putK_zip (k := k) rd h r
  unfold putC
  split at z
  · rename_i hc
    obtain ⟨rfl, l, e⟩ := z
    rw [if_pos hc]
    exact ⟨us, r2, l, e⟩
  · rename_i hc
    obtain ⟨rfl, e⟩ := z
    rw [if_neg hc]
    exact ⟨us, r2, by simp [h], e⟩
/-- what a dict is behind d[k] = v, in the heap -/
theorem cellPut_rep {t : Sto} {a : Addr} {c c' : Cell} {kd d : D} {kv v : V} {o : HO} {vs : List V} (sc : SimC G t as fz H) (ho : H a = some o) (sh : Shape G c o vs) (rl : RepL G as fz H vs c.ds) (rk : RepD G as fz H kv kd) (rd : RepD G as fz H v d) (h : cellPut t c kd d = some c') :
    c.mut = true ∧ ∃ o' us, DPut H a kv v (upd H a o') ∧ Shape G c' o' us ∧ RepL G as fz H us c'.ds := by
  cases c with
  | lst xs => simp [cellPut] at h
  | tup xs => simp [cellPut] at h
  | ins c ks xs => simp [cellPut] at h
  | dK ks xs =>
    obtain ⟨hl, rfl⟩ := sh
    simp only [cellPut] at h
    cases e : keyD kd with
    | none => rw [e] at h; cases h
    | some k =>
      rw [e] at h
      have h : (if ks.length < 1000000 then some (Cell.dK (putC ks xs k d).1 (putC ks xs k d).2) else none) = some c' := h
      split at h
      · rename_i hs
        cases h
        obtain ⟨us, r2, l2, e2⟩ := putC_zip (k := k) rd hl rl
        refine ⟨rfl, _, us, .inl ⟨_, k, ho, keyD_rep e rk, ?_, rfl⟩, ⟨l2, by rw [e2]⟩, r2⟩
        rw [List.length_zip, sl_line]
        omega
      · cases h
  | dT ks xs =>
    obtain ⟨hl, rfl⟩ := sh
    cases kd with
    | ref i =>
      simp only [cellPut] at h
      split at h
      · rename_i ds et
        cases e : keysD ds with
        | none => rw [e] at h; cases h
        | some k =>
          rw [e] at h
          have h : (if ks.length < 1000000 then some (Cell.dT (putC ks xs k d).1 (putC ks xs k d).2) else none) = some c' := h
          split at h
          · rename_i hs
            cases h
            obtain ⟨b, ws, rfl, hb, rs⟩ := sc.tupc et rk
            rw [keysD_rep e rs] at hb
            obtain ⟨us, r2, l2, e2⟩ := putC_zip (k := k) rd hl rl
            refine ⟨rfl, _, us, .inr ⟨_, k, b, ho, rfl, hb, ?_, rfl⟩, ⟨l2, by rw [e2]⟩, r2⟩
            rw [List.length_zip, sl_line]
            omega
          · cases h
      · cases h
    | _ => simp [cellPut] at h
end
end MP
end
section
set_option Elab.async false
set_option linter.all false
set_option maxRecDepth 100000
set_option maxHeartbeats 4000000
/-! MP: fields, methods, making, dicts -/
namespace MP
open PySem PySem.Spec PyProof.Rows L2
theorem star_all : ∀ {es : List Expr} {env : Env} {pos : Pos}, noStar es = true → (backTo pos (starEach es env)).all (fun x => !x.1) = true
  | [], _, _, _ => rfl
  | e :: es, env, pos, h => by
    have h' : (!starred e && noStar es) = true := h
    rw [Bool.and_eq_true] at h'
    rw [star_cons (by simpa using h'.1)]
    have := star_all (env := env) (pos := pos) h'.2
    show (true && (backTo pos (starEach es env)).all (fun x => !x.1)) = true
    rw [this]; rfl
theorem meth_eval {o : Expr} {m : Str} {apos pos : Pos} {args : List Expr} {env : Env} (hb : plainBase o = true) (hl : (apos.endLine == pos.line) = true) (hn : noStar args = true) (hlen : args.length < 30) :
    eval (.Call (.Attribute o m apos) args [] pos) env = (do
      let ov ← eval o env
      standAt apos.atName
      let (f, first) ← holding [ov] (getMethod ov m (do return (← importBound o env).getD true))
      callWith pos f first (backTo pos (starEach args env)) (backToKw pos (keywordEach [] env))) := by
  have hform : methodCallForm (args.length + ([] : List Keyword).length) (backTo pos (starEach args env)) (backToKw pos (keywordEach [] env)) = true := by
    unfold methodCallForm
    rw [star_all hn]
    show (true && true && decide (args.length + 0 + 0 < 30)) = true
    simpa using hlen
  rw [arm_eval_Call, plainBase_ok hb]
  unfold methodCall
  rw [hform]
  have hp : methodCallPos true o env apos pos = pure pos := by
    unfold methodCallPos
    rw [hl]
    rfl
  rw [hp]
  rfl
section
variable {T : Tab} {G : Gd} {cf : CF} {n : Nat} {se : SE} {X : Cx} {B : Base} {W : WX} {σ : L2.St} {H H' : Hp} {as as' : List Addr} {fz fz' : Addr → Prop} {ps : PL} {Q : VK}
theorem both_fld (c : Cok T G cf n se X) {o : Expr} {po : PE} {f : Str} {ci : Nat} {cd : CInf} {pos : Pos} (hc : T.clss[ci]? = some cd) (hf : f ∈ cd.flds) (hb : plainBase o = true) (ho : L2.PE X o (tI G W (evalE cf po))) :
    Both X (.Attribute o f pos) (tI G W (evalE cf (.fld ci po f))) := by
  have z : L2.PE X (.Attribute o f pos) (tI G W (evalE cf (.fld ci po f))) := PEimp (pe_fld ho (plainBase_ok hb)) fun σ H Q ⟨B, as, fz, st, sim, q⟩ => by
    simp only [evalE] at q
    refine ⟨B, as, fz, st, sim, q.bind.mono fun d st1 as1 fz1 H1 s1 m1 p1 v rv => ?_⟩
    split at p1
    · rename_i j
      split at p1
      · rename_i c' ks xs e0
        split at p1
        · rename_i hcc
          subst hcc
          cases rv with
          | @ref _ a ea =>
            obtain ⟨o', vs, e2, ⟨hl, dx, rfl⟩, r⟩ := m1.c.at_ j _ a e0 ea
            cases e : lookS ks xs f with
            | none => rw [e] at p1; exact p1.elim
            | some y =>
              rw [e] at p1
              obtain ⟨w, e3, r3⟩ := look_zip r e
              obtain ⟨k1, k2, _⟩ := c.clss _ _ hc
              exact ⟨a, _, dx, _, w, rfl, e2, k1, k2 f hf, e3, p1 as1 fz1 H1 .refl m1 w r3⟩
        · exact p1.elim
      · exact p1.elim
    · exact p1.elim
  exact ⟨z, pt_val z⟩
/-- a call within an evaluation -/
theorem callO_post {f : Nat} {ds : List D} {vs : List V} {st1 : S} (m1 : Sim G B st1 as fz σ H) (rvs : RepL G as fz H vs ds)
    (p1 : Post G B W σ (callO cf f ds st1) (fun d _ as' fz' H' => ∀ v, RepD G as' fz' H' v d → Q v H') as fz H) : spI G cf f vs H Q (WE W σ) := by
  refine ⟨ds, as, fz, st1.sto, rvs, m1.c, ?_⟩
  unfold callO at p1
  cases e : cf f ds st1.sto with
  | ok d t' =>
    rw [e] at p1
    dsimp only at p1
    intro as' fz' H' v sb sc rd
    by_cases hc : d.under st1.sto.length = true ∧ st1.sto.length < t'.length ∧ (t'.take st1.sto.length).all (Cell.under st1.sto.length) = true
    · have et : MP.trim st1.sto.length d t' = t'.take st1.sto.length := if_pos hc
      rw [et, ← m1.c.len] at p1
      have hc3 := hc.2.2
      rw [← m1.c.len] at hc3
      obtain ⟨r, ea⟩ := sb.pre
      have ea : as' = as ++ r := ea
      have sb' : SimB ⟨H, as, fz⟩ as fz' H' := ⟨sb.fr, sb.tups, sb.frzs, sb.fzs, sb.there, ⟨[], by simp⟩, fun a h => .inl h, sb.fzm, sb.newf⟩
      exact p1 as fz' H' sb'.step (m1.call sb' (sc.trim ea hc3)) v (RepD.unref (as' := r) _ _ (by rw [m1.c.len]; exact hc.1) (by rw [← ea]; exact rd))
    · have et : MP.trim st1.sto.length d t' = t' := if_neg hc
      rw [et] at p1
      exact p1 as' fz' H' sb.step (m1.call sb sc) v rd
  | exc k t' =>
    rw [e] at p1
    exact fun as' fz' H' sb sc => p1 as' fz' H' (m1.b.trans sb fun _ h => m1.c.live h) sc
  | bad =>
    rw [e] at p1
    exact p1
theorem callW_run1 (c : Cok T G cf n se X) (tk : L2N.Takes X W) {f : Nat} {x : Str} (hf : T.fns[f]? = some x) {es : List Expr} {pins : List (Addr × Obj)} {s : Shared} {pos : Pos} {a : Addr} (I : Inv X pins σ H s) (q : PVs X G W cf es ps)
    (h : tL G W (evalL cf ps) σ H fun vs H1 => spI G cf f (.ref a :: vs) H1 Q (WE W σ)) : wpAny (model X.prog X.w) X.A (callWith pos (.ref (G.fa f)) [.ref a] (backTo pos (starEach es X.env)) (backToKw pos (keywordEach [] X.env))) (EP X pins σ Q) X.xe s := by
  obtain ⟨fd, pp, hm, hk, hb, F⟩ := c.fns f x hf
  have hx : PassesAt (L2N.CX X.prog X.w) X σ (WE W σ) := L2N.passAt tk σ
  cases q with
  | nil => exact PySem.W.callWith_K0 (first := [.ref a]) I.kIn hk (runG (E := WE W) (us := [.ref a]) (vs := [.ref a]) F c.gd (c.room.mono (Nat.le_succ _)) hb hx I (.cons rfl .nil) (ls_nil h))
  | cons n1 h1 r =>
    have pa := (PVs.cons n1 h1 r).pa
    exact PySem.W.callWith_K (first := [.ref a]) (h₀ := X.base) I.ok.mod.kin hk (thn (pa.run pos pins s σ H _ I h) fun us s1 ⟨vs, H1, I1, r1, q1⟩ => ⟨I1.kIn, runG (E := WE W) (us := .ref a :: us) (vs := .ref a :: vs) F c.gd (c.room.mono (Nat.le_succ _)) hb hx I1 (.cons rfl r1) q1⟩) (star_cons n1) (noStar_any r.noStar)
theorem both_mcal (c : Cok T G cf n se X) (tk : L2N.Takes X W) {o : Expr} {es : List Expr} {po : PE} {m : Str} {ci f : Nat} {cd : CInf} {x : Str} {apos pos : Pos} (hc : T.clss[ci]? = some cd) (hm : (m, f) ∈ cd.mths) (hf : T.fns[f]? = some x) (hb : plainBase o = true)
    (hl : (apos.endLine == pos.line) = true) (hlen : es.length < 30) (ho : L2.PE X o (tI G W (evalE cf po))) (q : PVs X G W cf es ps) : Both X (.Call (.Attribute o m apos) es [] pos) (tI G W (evalE cf (.mcal ci f m po ps))) := by
  suffices z : L2.PE X (.Call (.Attribute o m apos) es [] pos) (tI G W (evalE cf (.mcal ci f m po ps))) from ⟨z, pt_val z⟩
  refine ⟨fun pins s σ H Q I ⟨B, as, fz, st, sim, h⟩ => ?_⟩
  simp only [evalE] at h
  refine methcall_of ho I ?_ (meth_eval hb hl q.noStar hlen)
  refine ⟨B, as, fz, st, sim, h.bind.mono fun d st1 as1 fz1 H1 s1 m1 p1 v rv => ?_⟩
  split at p1
  · rename_i j
    split at p1
    · rename_i c' ks xs e0
      split at p1
      · rename_i hcc
        obtain ⟨rfl, hmk⟩ := hcc
        cases rv with
        | @ref _ a ea =>
          obtain ⟨o', vs, e2, ⟨hlk, dx, rfl⟩, r⟩ := m1.c.at_ j _ a e0 ea
          obtain ⟨k1, k2, k3, _⟩ := c.clss _ _ hc
          refine ⟨a, _, dx, _, _, rfl, e2, k1, k3 m f hm, look_none hmk, fun s1 I1 => ?_⟩
          refine callW_run1 c tk hf I1 q ⟨B, as1, fz1, st1, m1, p1.bind.mono fun ds st2 as2 fz2 H2 s2 m2 p2 ws rws => ?_⟩
          exact callO_post m2 (.cons (RepD.step s2 _ _ (RepD.ref (G := G) (fz := fz1) (H := H1) ea)) rws) p2
      · exact p1.elim
    · exact p1.elim
  · exact p1.elim
/-! ### making -/
theorem run_makeG {k : Nat} {f C : Addr} {fd : FuncData} {pp : List Str} {sp : Sp} {E : L2.St → XK} {pins : List (Addr × Obj)} {s : Shared} {us : List Value} {vs : List V} (M : Mk X.K C f) (F : FnG X.prog X.w X.K X.mg X.base k f fd pp sp) (hg : X.A.guards = some []) (hr : Room (k + 1) X.A)
    (hb : Binds X.K fd pp []) (hx : PassesAt (L2N.CX X.prog X.w) X σ (E σ)) (I : Inv X pins σ H s) (r : Vals vs us)
    (h : ∀ x dx, H x = none → H dx = none → dx ≠ x → sp (.ref x :: vs) (upd (upd H dx (.own x)) x (.ins C dx [])) (fun v H2 => v = .non ∧ Q (.ref x) H2) (E σ)) : wpAny (model X.prog X.w) X.A (call (.ref C) us) (EP X pins σ Q) X.xe s := by
  have hq := h (s.heap.objs.size + 1) s.heap.objs.size (I.hok.fresh (Nat.le_succ _)) (I.hok.fresh (Nat.le_refl _)) (Nat.ne_of_lt (Nat.lt_succ_self _))
  have I2 := Inv.made (C := C) I
  have r2 : Vals (V.ref (s.heap.objs.size + 1) :: vs) (Value.ref (s.heap.objs.size + 1) :: us) := .cons rfl r
  have hl : (Value.ref (s.heap.objs.size + 1) :: us).length = pp.length := by
    have e := r2.length
    rw [F.len _ _ _ _ hq] at e
    exact e.symm
  have bt := hb _ (Value.ref (s.heap.objs.size + 1) :: us) I2.kIn (by rw [List.append_nil]; exact hl)
  rw [List.append_nil] at bt
  have hg2 : (X.A.under (.builtin "type.__call__" ⟨.ref C :: us, []⟩)).guards = some [] := by
    first | exact hg | (simp [Around.under, hg])
  refine wpAny_call (make_map (f := f) I.kIn M.makes M.init (beq_iff_eq.mp M.fn) (codeAny_mono (F.run _ X.stack _ _ ⟨Value.ref (s.heap.objs.size + 1) :: us, []⟩ (Value.ref (s.heap.objs.size + 1) :: us) _ _ (E σ) hg2 (hr.make C us [])
    (I2.env0.make C us []) bt r2 hq) fun r s' hq' => ?_))
  cases r with
  | error e => exact hx pins _ _ e s' I2 hq'
  | ok fl =>
    cases fl with
    | ret u =>
      obtain ⟨v, H', I3, rv, ev, q3⟩ := I2.after hq'
      subst ev
      exact ⟨rv, ⟨V.ref (s.heap.objs.size + 1), H', I3, rfl, q3⟩⟩
    | next => exact False.elim hq'
    | brk => exact False.elim hq'
    | cont => exact False.elim hq'
theorem both_mk (c : Cok T G cf n se X) (tk : L2N.Takes X W) {ci : Nat} {cd : CInf} {x : Str} {es : List Expr} {p1 pos : Pos} (hc : T.clss[ci]? = some cd) (hf : T.fns[cd.ini]? = some x) (hg : gloN se cd.name = true) (hn : okName cd.name = true) (q : PVs X G W cf es ps) :
    Both X (.Call (.Name cd.name p1) es [] pos) (tI G W (evalE cf (.mk ci cd.ini ps))) := by
  suffices z : L2.PE X (.Call (.Name cd.name p1) es [] pos) (tI G W (evalE cf (.mk ci cd.ini ps))) from ⟨z, pt_val z⟩
  refine ⟨fun pins s σ H Q I ⟨B, as, fz, st, sim, h⟩ => ?_⟩
  simp only [evalE] at h
  obtain ⟨k1, k2, k3, k4, k5⟩ := c.clss _ _ hc
  obtain ⟨fd, pp, hm, hk, hb, F⟩ := c.fns _ x hf
  have hx : PassesAt (L2N.CX X.prog X.w) X σ (WE W σ) := L2N.passAt tk σ
  have h : tL G W (evalL cf ps) σ H fun vs H1 => ∀ x dx, H1 x = none → H1 dx = none → dx ≠ x → spI G cf cd.ini (.ref x :: vs) (upd (upd H1 dx (.own x)) x (.ins (G.cc ci) dx [])) (fun v H2 => v = .non ∧ Q (.ref x) H2) (WE W σ) := by
    refine ⟨B, as, fz, st, sim, h.bind.mono fun ds st1 as1 fz1 H1 s1 m1 p1 vs rvs x dx hx1 hx2 hne => ?_⟩
    have g1 : Grow fz1 H1 fz1 (upd H1 dx (.own x)) := grow_new hx2
    have m2 := m1.grow g1
    obtain ⟨m3, st3⟩ := m2.addCell (p := x) (o := .ins (G.cc ci) dx []) (c := .ins ci [] []) (vs := []) (by rw [upd_ne (Ne.symm hne)]; exact hx1) ⟨rfl, dx, rfl⟩ .nil
    have stp := (g1.simB (as := as1)).step.trans st3
    have rx : RepD G (as1 ++ [x]) fz1 (upd (upd H1 dx (.own x)) x (.ins (G.cc ci) dx [])) (.ref x) (.ref st1.sto.length) := .ref (new_ref m1 x)
    refine ⟨.ref st1.sto.length :: ds, as1 ++ [x], fz1, st1.sto ++ [.ins ci [] []], .cons rx (RepL.step stp _ _ rvs), m3.c, ?_⟩
    cases e : cf cd.ini (.ref st1.sto.length :: ds) (st1.sto ++ [.ins ci [] []]) with
    | ok d t' =>
      rw [e] at p1
      intro as' fz' H' v sb sc rd
      cases d with
      | non =>
        cases rd
        refine ⟨rfl, p1 as' fz' H' (stp.trans sb.step) (m3.call sb sc) (.ref x) (RepD.step sb.step _ _ rx)⟩
      | _ => exact p1.elim
    | exc k t' =>
      rw [e] at p1
      exact fun as' fz' H' sb sc => p1 as' fz' H' (m3.b.trans sb fun _ h => m3.c.live h) sc
    | bad =>
      rw [e] at p1
      exact p1
  refine wpAny_Call_Name_kw (ld_glob I (c.glo hg) k5 ?_ (okName_d hn).1)
  cases q with
  | nil => exact PySem.W.callWith_K0 I.kIn k4.kp (run_makeG (E := WE W) (us := []) k4 F c.gd c.room hb hx I .nil (ls_nil h))
  | cons n1 h1 r =>
    have pa := (PVs.cons n1 h1 r).pa
    exact PySem.W.callWith_K (h₀ := X.base) I.ok.mod.kin k4.kp (thn (pa.run pos pins s σ H _ I h) fun us s1 ⟨vs, H1, I1, r1, q1⟩ => ⟨I1.kIn, run_makeG (E := WE W) k4 F c.gd c.room hb hx I1 r1 q1⟩) (star_cons n1) (noStar_any r.noStar)
/-! ### cells made by displays -/
theorem both_dnew {k : Bool} {pos : Pos} : Both X (.Dict [] [] pos) (tI G W (evalE cf (.dnew k))) := by
  have z : L2.PE X (.Dict [] [] pos) (tI G W (evalE cf (.dnew k))) := by
    cases k with
    | true =>
      refine PEimp pe_dnewK fun σ H Q ⟨B, as, fz, st, sim, q⟩ p hp => ?_
      simp only [evalE] at q
      obtain ⟨m, stp⟩ := sim.addCell (p := p) (o := .dK []) (c := .dK [] []) (vs := []) hp ⟨rfl, rfl⟩ .nil
      exact q _ _ _ stp m _ (.ref (new_ref sim p))
    | false =>
      refine PEimp pe_dnewT fun σ H Q ⟨B, as, fz, st, sim, q⟩ p hp => ?_
      simp only [evalE] at q
      obtain ⟨m, stp⟩ := sim.addCell (p := p) (o := .dT []) (c := .dT [] []) (vs := []) hp ⟨rfl, rfl⟩ .nil
      exact q _ _ _ stp m _ (.ref (new_ref sim p))
  exact ⟨z, pt_val z⟩
theorem both_lcell {es : List Expr} {pos : Pos} (q : PVs X G W cf es ps) : Both X (.List es pos) (tI G W (evalE cf (.lcell ps))) := by
  have z : L2.PE X (.List es pos) (tI G W (evalE cf (.lcell ps))) := PEimp (pe_lst q.pa) fun σ H Q ⟨B, as, fz, st, sim, q⟩ => by
    simp only [evalE] at q
    refine ⟨B, as, fz, st, sim, q.bind.mono fun ds st1 as1 fz1 H1 s1 m1 p1 vs rvs => ?_⟩
    split at p1
    · rename_i hl
      refine ⟨by rw [rvs.length, sl_line]; omega, fun p hn => ?_⟩
      obtain ⟨m, stp⟩ := m1.addCell (p := p) (o := .lst vs) (c := .lst ds) (vs := vs) hn rfl rvs
      exact p1 _ _ _ stp m _ (.ref (new_ref m1 p))
    · exact p1.elim
  exact ⟨z, pt_val z⟩
theorem both_tcell {es : List Expr} {k : Nat} {pos : Pos} (q : PVs X G W cf es ps) : Both X (.Tuple es k pos) (tI G W (evalE cf (.tcell ps))) := by
  have z : L2.PE X (.Tuple es k pos) (tI G W (evalE cf (.tcell ps))) := PEimp (pe_tup q.pa) fun σ H Q ⟨B, as, fz, st, sim, q⟩ => by
    simp only [evalE] at q
    refine ⟨B, as, fz, st, sim, q.bind.mono fun ds st1 as1 fz1 H1 s1 m1 p1 vs rvs => ?_⟩
    split at p1
    · rename_i hl
      refine ⟨by rw [rvs.length, sl_line]; omega, fun p hn => ?_⟩
      obtain ⟨m, stp⟩ := m1.addCell (p := p) (o := .tup vs) (c := .tup ds) (vs := vs) hn rfl rvs
      exact p1 _ _ _ stp m _ (.ref (new_ref m1 p))
    · exact p1.elim
  exact ⟨z, pt_val z⟩
/-! ### dicts -/
theorem both_dget (c : Cok T G cf n se X) {o i : Expr} {po pk : PE} {pos : Pos} (hi : plainIx i = true) (h1 : L2.PE X o (tI G W (evalE cf po))) (h2 : L2.PE X i (tI G W (evalE cf pk))) : Both X (.Subscript o i pos) (tI G W (evalE cf (.dget po pk))) := by
  have z : L2.PE X (.Subscript o i pos) (tI G W (evalE cf (.dget po pk))) := PEimp (pe_dget (by have := c.u65; omega) h1 h2 (plainIx_ok hi)) fun σ H Q ⟨B, as, fz, st, sim, q⟩ => by
    simp only [evalE] at q
    refine ⟨B, as, fz, st, sim, q.bind.mono fun d st1 as1 fz1 H1 s1 m1 p1 v rv => ⟨B, as1, fz1, st1, m1, p1.bind.mono fun kd st2 as2 fz2 H2 s2 m2 p2 kv rk => ?_⟩⟩
    split at p2
    · rename_i j
      split at p2
      · rename_i c' e0
        split at p2
        · rename_i w e1
          cases RepD.step s2 _ _ rv with
          | @ref _ a ea =>
            obtain ⟨o', vs, e2, sh, r⟩ := m2.c.at_ j _ a e0 ea
            obtain ⟨q, g, _, e3⟩ := cellGet_rep m2.c e2 sh r rk e1
            obtain ⟨v', rfl, rv'⟩ := e3 w rfl
            exact ⟨a, v', rfl, g, p2 as2 fz2 H2 .refl m2 v' rv'⟩
        · exact p2.elim
      · exact p2.elim
    · exact p2.elim
  exact ⟨z, pt_val z⟩
theorem both_din (c : Cok T G cf n se X) {neg : Bool} {i o : Expr} {pk po : PE} {pos : Pos} (hb : behindInMarks (if neg then .NotIn else .In) o = false) (h1 : L2.PE X i (tI G W (evalE cf pk))) (h2 : L2.PE X o (tI G W (evalE cf po))) :
    Both X (.Compare i [if neg then .NotIn else .In] [o] pos) (tI G W (evalE cf (.din neg pk po))) := by
  have hu : X.A.units + 1 < cLine := by have := c.u65; omega
  have key : ∀ σ H (Q : VK), tI G W (evalE cf (.din neg pk po)) σ H Q → tI G W (evalE cf pk) σ H fun y H1 => tI G W (evalE cf po) σ H1 fun x H2 => ∃ a q, x = .ref a ∧ DGet H2 a y q ∧ Q (.bl (if neg then !q.isSome else q.isSome)) H2 := fun σ H Q ⟨B, as, fz, st, sim, q⟩ => by
    simp only [evalE] at q
    refine ⟨B, as, fz, st, sim, q.bind.mono fun kd st1 as1 fz1 H1 s1 m1 p1 kv rk => ⟨B, as1, fz1, st1, m1, p1.bind.mono fun d st2 as2 fz2 H2 s2 m2 p2 v rv => ?_⟩⟩
    split at p2
    · rename_i j
      split at p2
      · rename_i c' e0
        split at p2
        · rename_i w e1
          cases rv with
          | @ref _ a ea =>
            obtain ⟨o', vs, e2, sh, r⟩ := m2.c.at_ j _ a e0 ea
            obtain ⟨q, g, e4, _⟩ := cellGet_rep m2.c e2 sh r (RepD.step s2 _ _ rk) e1
            refine ⟨a, q, rfl, g, ?_⟩
            rw [e4]
            exact p2 as2 fz2 H2 .refl m2 _ (.bl _)
        · exact p2.elim
      · exact p2.elim
    · exact p2.elim
  cases neg with
  | false => exact ⟨PEimp (pe_cmp (pc_din hu h1 h2) hb) fun σ H Q h => key σ H Q h, PTimp (pt_cmp (pc_din hu h1 h2) hb) fun σ H Q h => key σ H _ h⟩
  | true => exact ⟨PEimp (pe_cmp (pc_dnotin hu h1 h2) hb) fun σ H Q h => key σ H Q h, PTimp (pt_cmp (pc_dnotin hu h1 h2) hb) fun σ H Q h => key σ H _ h⟩
end
end MP
end
section
set_option Elab.async false
set_option linter.all false
set_option maxRecDepth 100000
set_option maxHeartbeats 4000000
/-! MP: which text a term of expression stands for, checked -/
namespace MP
open PySem PySem.Spec PyProof.Rows L2
def notSet : Expr → Bool
  | .Set _ _ _ => false
  | _ => true
theorem notSet_ok {e : Expr} {env : Env} (h : notSet e = true) : ∀ x, foldedSetIterable e env x = pure x := by
  intro x
  cases e <;> first | rfl | exact absurd h (by simp [notSet])
def ownOf (se : SE) (vs : List Nat) : List (Str × Nat) := vs.map fun i => (se.N[i]?.getD "", i)
theorem ownOf_snd (se : SE) (vs : List Nat) : (ownOf se vs).map (·.2) = vs := by
  unfold ownOf
  rw [List.map_map]
  exact List.map_id' vs
mutual
def ckE (T : Tab) : PE → SE → Expr → Bool
  | .var i, se, e => varOk se i e
  | .peek i, se, e => varOk se i e
  | .con d, _, e => conOk d e
  | .glob x d, se, e => globOk T se x d e
  | .fnv f, se, e => fnvOk T se f e
  | .prim p ps, se, e => match shape T se p e with
    | some xs => ckL T ps se xs
    | none => false
  | .tupRng a, se, e => match e with
    | .Call (.Name f _) [.Call (.Name g _) [x] [] _] [] _ => decide (f = "tuple") && decide (g = "range") && gloN se "range" && decide (("range" : Str) ∈ T.blts) && gloN se "tuple" && decide (("tuple" : Str) ∈ T.blts) && !starred x && ckE T a se x
    | _ => false
  | .lstRng a, se, e => match e with
    | .Call (.Name f _) [.Call (.Name g _) [x] [] _] [] _ => decide (f = "list") && decide (g = "range") && gloN se "range" && decide (("range" : Str) ∈ T.blts) && gloN se "list" && decide (("list" : Str) ∈ T.blts) && !starred x && ckE T a se x
    | _ => false
  | .tup ps, se, e => match e with
    | .Tuple es _ _ => ckL T ps se es
    | _ => false
  | .lst ps, se, e => match e with
    | .List es _ => ckL T ps se es
    | _ => false
  | .sl2 a b c, se, e => match e with
    | .Subscript x (.Slice (some l) (some h) none _) _ => ckE T a se x && ckE T b se l && ckE T c se h
    | _ => false
  | .meth p a b, se, e => match e with
    | .Call (.Attribute o m apos) [y] [] cpos => plainBase o && (apos.endLine == cpos.line) && !starred y && (decide (p = .index ∧ m = "index") || decide (p = .join ∧ m = "join")) && ckE T a se o && ckE T b se y
    | _ => false
  | .fstr ps, se, e => match e with
    | .JoinedStr (x :: r) _ => ckF T ps se (x :: r)
    | _ => false
  | .nt a, se, e => match e with
    | .UnaryOp .Not x _ => ckE T a se x
    | _ => false
  | .bop k ps, se, e => match e with
    | .BoolOp op (x :: r) _ => decide (op = bopOf k) && ckL T ps se (x :: r)
    | _ => false
  | .ite c a b, se, e => match e with
    | .IfExp x y z _ => ckE T c se x && ckE T a se y && ckE T b se z
    | _ => false
  | .chain o1 o2 a b c, se, e => match e with
    | .Compare x [k1, k2] [y, z] _ => decide (cmpOf o1 = some k1) && decide (cmpOf o2 = some k2) && !lastMarks [k1, k2] [y, z] && ckE T a se x && ckE T b se y && ckE T c se z && notPeek a && notPeek b && notPeek c
    | _ => false
  | .call f ps, se, e => match e with
    | .Call (.Name x _) es [] _ => decide (T.fns[f]? = some x) && gloN se x && okName x && glN x && ckL T ps se es
    | _ => false
  | .callv p ps, se, e => match e with
    | .Call fe es [] _ => plainFn fe && ckE T p se fe && ckL T ps se es
    | _ => false
  | .comp pe t it cs vs, se, e => match e with
    | .ListComp elt [⟨tg, iter, ifs, 0⟩] scope _ => blkC se.N se.sc scope (ownOf se vs) && ckT (se.blk scope) t tg && (tvars t).all (fun i => decide (i ∈ vs)) && notSet iter && ckI T false it se tg iter && ckC T cs (se.blk scope) ifs && ckE T pe (se.blk scope) elt
    | _ => false
  | .fld ci a x, se, e => match e with
    | .Attribute o f _ => decide (f = x) && plainBase o && (match T.clss[ci]? with
      | some cd => decide (f ∈ cd.flds)
      | none => false) && ckE T a se o
    | _ => false
  | .mcal ci f m a ps, se, e => match e with
    | .Call (.Attribute o m' apos) es [] pos => decide (m' = m) && plainBase o && (apos.endLine == pos.line) && decide (es.length < 30) && decide (f < T.fns.length) && (match T.clss[ci]? with
      | some cd => decide ((m', f) ∈ cd.mths)
      | none => false) && ckE T a se o && ckL T ps se es
    | _ => false
  | .mk ci f ps, se, e => match e with
    | .Call (.Name y _) es [] _ => decide (f < T.fns.length) && gloN se y && okName y && (match T.clss[ci]? with
      | some cd => decide (cd.name = y) && decide (cd.ini = f)
      | none => false) && ckL T ps se es
    | _ => false
  | .dnew _, _, e => match e with
    | .Dict [] [] _ => true
    | _ => false
  | .lcell ps, se, e => match e with
    | .List es _ => ckL T ps se es
    | _ => false
  | .tcell ps, se, e => match e with
    | .Tuple es _ _ => ckL T ps se es
    | _ => false
  | .dget a b, se, e => match e with
    | .Subscript o i _ => plainIx i && ckE T a se o && ckE T b se i
    | _ => false
  | .din neg k a, se, e => match e with
    | .Compare i [op] [o] _ => decide (op = if neg then .NotIn else .In) && !behindInMarks op o && ckE T k se i && ckE T a se o
    | _ => false
def ckL (T : Tab) : PL → SE → List Expr → Bool
  | .nil, _, es => match es with
    | [] => true
    | _ => false
  | .cons p ps, se, es => match es with
    | e :: r => !starred e && ckE T p se e && ckL T ps se r
    | [] => false
def ckF (T : Tab) : PL → SE → List Expr → Bool
  | .nil, _, es => match es with
    | [] => true
    | _ => false
  | .cons p ps, se, es => match es with
    | e :: r => (match p, e with
      | .con (.str x), .Constant _ _ _ => fconOk x e
      | _, .FormattedValue v (-1) none _ => ckE T p se v
      | _, _ => false) && ckF T ps se r
    | [] => false
def ckC (T : Tab) : PL → SE → List Expr → Bool
  | .nil, _, es => match es with
    | [] => true
    | _ => false
  | .cons p ps, se, es => match ps, es with
    | .nil, [e] => ckE T p se e
    | _, _ => false
def ckI (T : Tab) (lp : Bool) : Iter → SE → Expr → Expr → Bool
  | .seq p, se, _, e => ckE T p se e && opW lp p
  | .rng1 a, se, _, e => match e with
    | .Call (.Name f _) [x] [] _ => decide (f = "range") && gloN se "range" && decide (("range" : Str) ∈ T.blts) && !starred x && ckE T a se x
    | _ => false
  | .rng2 a b, se, _, e => match e with
    | .Call (.Name f _) [x, y] [] _ => decide (f = "range") && gloN se "range" && decide (("range" : Str) ∈ T.blts) && !starred x && !starred y && ckE T a se x && ckE T b se y
    | _ => false
  | .rng3 a b c, se, _, e => match e with
    | .Call (.Name f _) [x, y, z] [] _ => decide (f = "range") && gloN se "range" && decide (("range" : Str) ∈ T.blts) && !starred x && !starred y && !starred z && ckE T a se x && ckE T b se y && ckE T c se z
    | _ => false
  | .enum p, se, tg, e => match tg, e with
    | .Tuple _ _ _, .Call (.Name f _) [x] [] _ => decide (f = "enumerate") && gloN se "enumerate" && decide (("enumerate" : Str) ∈ T.blts) && !starred x && ckE T p se x && opW lp p
    | _, _ => false
  | .zip _ _, _, _, _ => false
end
section
variable {T : Tab} {G : Gd} {cf : CF} {n : Nat} {se : SE} {X : Cx} {W : WX} {σ : L2.St} {H : Hp} {ps : PL} {p : Prim}
theorem both_shape (c : Cok T G cf n se X) {e : Expr} {xs : List Expr} (h : shape T se p e = some xs) (q : PEs X G W cf xs ps) : Both X e (tI G W (evalE cf (.prim p ps))) := by
  rw [evalE_prim]
  cases e with
  | BinOp a op b pos =>
    simp only [shape] at h
    split at h
    · cases h; exact both_bin c (by assumption) q
    · cases h
  | UnaryOp op a pos =>
    cases op <;> simp only [shape] at h <;> try (cases h; done)
    split at h
    · rename_i hp; subst hp; cases h; exact both_neg c q
    · cases h
  | Compare a ops bs pos =>
    unfold shape at h
    split at h <;> try (cases h; done)
    all_goals try (rename_i z; cases z; done)
    · rename_i a' op b _ z
      cases z
      split at h
      · split at h
        · rename_i hc; cases h; obtain ⟨rfl, hb⟩ := hc; exact both_isN hb q
        · cases h
      · split at h
        · rename_i hc; cases h; obtain ⟨rfl, hb⟩ := hc; exact both_notN hb q
        · cases h
      · split at h
        · rename_i hc; cases h; exact both_cmp c hc.1 hc.2 q
        · cases h
  | Subscript a b pos =>
    by_cases hb : plainIx b = true
    · have h' : (if p = .item ∧ plainIx b = true then some [a, b] else none) = some xs := by
        cases b <;> first | exact h | exact absurd hb (by simp [plainIx])
      split at h'
      · rename_i hc; cases h'; obtain ⟨rfl, _⟩ := hc; exact both_item c hb q
      · cases h'
    · cases b <;> first | exact absurd rfl hb | skip
      exact both_sl c h q
  | Call f args kws pos =>
    unfold shape at h
    split at h <;> try (cases h; done)
    all_goals try (rename_i z; cases z; done)
    · rename_i fn _ args' _ z
      cases z
      split at h
      · split at h
        · rename_i hc; cases h; exact both_gcd c hc.1 hc.2.1 hc.2.2 q
        · cases h
      · split at h
        · rename_i hc; cases h; obtain ⟨⟨rfl, rfl⟩, ⟨g1, m1⟩, ⟨g2, m2⟩, hs⟩ := hc; exact both_sortedSet c g1 m1 g2 m2 hs q
        · cases h
      · split at h
        · rename_i hc; cases h; obtain ⟨rfl, g, m, ht⟩ := hc; exact both_isTup c g m ht q
        · cases h
      · split at h
        · rename_i hc; cases h; exact both_blt c hc.1 hc.2.1 hc.2.2 q
        · cases h
      · cases h
  | _ => simp [shape] at h
theorem opnd (c : Cok T G cf n se X) {p : PE} {e : Expr} (h : ckE T p se e = true) (b : Both X e (tI G W (evalE cf p))) : L2.PE X e (tO G W (ev1 cf p)) := by
  cases p with
  | peek i => exact pe_peek c (by simpa only [ckE] using h)
  | _ => exact tO_of rfl b.1
theorem both_peek {i : Nat} {e : Expr} (c : Cok T G cf n se X) (h : varOk se i e = true) : Both X e (tI G W (evalE cf (.peek i))) := by
  have k : ∀ σ H Q, tI G W (evalE cf (.peek i)) σ H Q → tVar i σ H Q := fun σ H Q ⟨B, as, fz, st, sim, q⟩ => by
    simp only [evalE] at q
    exact q.elim
  exact ⟨PEimp (pe_varOk c h).1 k, PTimp (pe_varOk c h).2 fun σ H Q q => k _ _ _ q⟩
theorem star_ck {e : Expr} (h : starred e = false) : starred e = false := h
variable (big : ∀ f ds t, T.fns.length ≤ f → cf f ds t = .bad)
include big
mutual
theorem sE : ∀ (p : PE) (se : SE) (e : Expr) (X : Cx) (W : WX), Cok T G cf n se X → L2N.Takes X W → ckE T p se e = true → Both X e (tI G W (evalE cf p))
  | .var i, se, e, X, W, c, tk, h => both_var c (by simpa only [ckE] using h)
  | .peek i, se, e, X, W, c, tk, h => both_peek c (by simpa only [ckE] using h)
  | .con d, se, e, X, W, c, tk, h => both_con (by simpa only [ckE] using h)
  | .glob x d, se, e, X, W, c, tk, h => both_glob c (by simpa only [ckE] using h)
  | .fnv f, se, e, X, W, c, tk, h => both_fnv c (by simpa only [ckE] using h)
  | .prim p ps, se, e, X, W, c, tk, h => by
    simp only [ckE] at h
    split at h
    · rename_i xs hs
      exact both_shape c hs (sL ps se xs X W c tk h).2
    · cases h
  | .tupRng a, se, e, X, W, c, tk, h => by
    simp only [ckE] at h
    split at h
    · simp only [Bool.and_eq_true, decide_eq_true_eq, Bool.not_eq_true'] at h
      obtain ⟨⟨⟨⟨⟨⟨⟨rfl, rfl⟩, g1⟩, m1⟩, g2⟩, m2⟩, s⟩, h1⟩ := h
      exact both_tupRng c g1 m1 g2 m2 s (sE a se _ X W c tk h1).1
    · cases h
  | .lstRng a, se, e, X, W, c, tk, h => by
    simp only [ckE] at h
    split at h
    · simp only [Bool.and_eq_true, decide_eq_true_eq, Bool.not_eq_true'] at h
      obtain ⟨⟨⟨⟨⟨⟨⟨rfl, rfl⟩, g1⟩, m1⟩, g2⟩, m2⟩, s⟩, h1⟩ := h
      exact both_lstRng c g1 m1 g2 m2 s (sE a se _ X W c tk h1).1
    · cases h
  | .tup ps, se, e, X, W, c, tk, h => by
    simp only [ckE] at h
    split at h
    · exact both_tup c (sL ps se _ X W c tk h).1.pvs
    · cases h
  | .lst ps, se, e, X, W, c, tk, h => by
    simp only [ckE] at h
    split at h
    · exact both_lst c (sL ps se _ X W c tk h).1.pvs
    · cases h
  | .sl2 a b d, se, e, X, W, c, tk, h => by
    simp only [ckE] at h
    split at h
    · simp only [Bool.and_eq_true] at h
      exact both_sl2 c (opnd c h.1.1 (sE a se _ X W c tk h.1.1)) (sE b se _ X W c tk h.1.2).1 (sE d se _ X W c tk h.2).1
    · cases h
  | .meth p a b, se, e, X, W, c, tk, h => by
    simp only [ckE] at h
    split at h
    · simp only [Bool.and_eq_true, Bool.or_eq_true, decide_eq_true_eq, Bool.not_eq_true'] at h
      obtain ⟨⟨⟨⟨⟨hb, hl⟩, hs⟩, hm⟩, h1⟩, h2⟩ := h
      rcases hm with ⟨rfl, rfl⟩ | ⟨rfl, rfl⟩
      · exact both_index c hb hl hs (opnd c h1 (sE a se _ X W c tk h1)) (sE b se _ X W c tk h2).1
      · exact both_join c hb hl hs (opnd c h1 (sE a se _ X W c tk h1)) (sE b se _ X W c tk h2).1
    · cases h
  | .fstr ps, se, e, X, W, c, tk, h => by
    simp only [ckE] at h
    split at h
    · exact both_fstr (sF ps se _ X W c tk h) (by simp)
    · cases h
  | .nt a, se, e, X, W, c, tk, h => by
    simp only [ckE] at h
    split at h
    · exact both_nt (sE a se _ X W c tk h)
    · cases h
  | .bop k ps, se, e, X, W, c, tk, h => by
    simp only [ckE] at h
    split at h
    · simp only [Bool.and_eq_true, decide_eq_true_eq] at h
      obtain ⟨rfl, h⟩ := h
      exact both_bop (sL ps se _ X W c tk h).1 (by simp)
    · cases h
  | .ite a b d, se, e, X, W, c, tk, h => by
    simp only [ckE] at h
    split at h
    · simp only [Bool.and_eq_true] at h
      exact both_ite (sE a se _ X W c tk h.1.1) (sE b se _ X W c tk h.1.2) (sE d se _ X W c tk h.2)
    · cases h
  | .chain o1 o2 a b d, se, e, X, W, c, tk, h => by
    simp only [ckE] at h
    split at h
    · simp only [Bool.and_eq_true, decide_eq_true_eq, Bool.not_eq_true'] at h
      obtain ⟨⟨⟨⟨⟨⟨⟨⟨e1, e2⟩, hm⟩, h1⟩, h2⟩, h3⟩, n1⟩, n2⟩, n3⟩ := h
      exact both_chain c e1 e2 hm (sE a se _ X W c tk h1).1 (sE b se _ X W c tk h2).1 (sE d se _ X W c tk h3).1
    · cases h
  | .call f ps, se, e, X, W, c, tk, h => by
    simp only [ckE] at h
    split at h
    · simp only [Bool.and_eq_true, decide_eq_true_eq] at h
      exact both_call c tk h.1.1.1.1 h.1.2 h.1.1.1.2 h.1.1.2 (sL ps se _ X W c tk h.2).1.pvs
    · cases h
  | .callv p ps, se, e, X, W, c, tk, h => by
    simp only [ckE] at h
    split at h
    · simp only [Bool.and_eq_true] at h
      exact both_callv c tk big h.1.1 (sE p se _ X W c tk h.1.2).1 (sL ps se _ X W c tk h.2).1.pvs
    · cases h
  | .comp pe t it cs vs, se, e, X, W, c, tk, h => by
    simp only [ckE] at h
    split at h
    · rename_i elt tg iter ifs scope pos
      simp only [Bool.and_eq_true, List.all_eq_true, decide_eq_true_eq] at h
      obtain ⟨⟨⟨⟨⟨⟨hb, ht⟩, hv⟩, hs⟩, hi⟩, hc⟩, he⟩ := h
      have z := both_comp (W := W) (pos := pos) c (sI false it se tg iter X W c tk hi) hb ht (by rw [ownOf_snd]; exact hv) (fun X' c' => sC cs _ ifs X' _ c' takesNo hc) (fun X' c' => (sE pe _ elt X' _ c' takesNo he).1) (notSet_ok hs)
      rw [ownOf_snd] at z
      exact z
    · cases h
  | .fld ci a x, se, e, X, W, c, tk, h => by
    simp only [ckE] at h
    split at h
    · simp only [Bool.and_eq_true, decide_eq_true_eq] at h
      obtain ⟨⟨⟨rfl, hb⟩, hf⟩, h1⟩ := h
      split at hf
      · rename_i cd hc
        exact both_fld c hc (by simpa using hf) hb (sE a se _ X W c tk h1).1
      · cases hf
    · cases h
  | .mcal ci f m a ps, se, e, X, W, c, tk, h => by
    simp only [ckE] at h
    split at h
    · simp only [Bool.and_eq_true, decide_eq_true_eq] at h
      obtain ⟨⟨⟨⟨⟨⟨⟨rfl, hb⟩, hl⟩, hn⟩, hf⟩, hm⟩, h1⟩, h2⟩ := h
      split at hm
      · rename_i cd hc
        exact both_mcal c tk hc (by simpa using hm) (List.getElem?_eq_getElem hf) hb hl hn (sE a se _ X W c tk h1).1 (sL ps se _ X W c tk h2).1.pvs
      · cases hm
    · cases h
  | .mk ci f ps, se, e, X, W, c, tk, h => by
    simp only [ckE] at h
    split at h
    · simp only [Bool.and_eq_true, decide_eq_true_eq] at h
      obtain ⟨⟨⟨⟨hf, hg⟩, hn⟩, hm⟩, h2⟩ := h
      split at hm
      · rename_i cd hc
        simp only [Bool.and_eq_true, decide_eq_true_eq] at hm
        obtain ⟨rfl, rfl⟩ := hm
        exact both_mk c tk hc (List.getElem?_eq_getElem hf) hg hn (sL ps se _ X W c tk h2).1.pvs
      · cases hm
    · cases h
  | .dnew k, se, e, X, W, c, tk, h => by
    simp only [ckE] at h
    split at h
    · exact both_dnew
    · cases h
  | .lcell ps, se, e, X, W, c, tk, h => by
    simp only [ckE] at h
    split at h
    · exact both_lcell (sL ps se _ X W c tk h).1.pvs
    · cases h
  | .tcell ps, se, e, X, W, c, tk, h => by
    simp only [ckE] at h
    split at h
    · exact both_tcell (sL ps se _ X W c tk h).1.pvs
    · cases h
  | .dget a b, se, e, X, W, c, tk, h => by
    simp only [ckE] at h
    split at h
    · simp only [Bool.and_eq_true] at h
      exact both_dget c h.1.1 (sE a se _ X W c tk h.1.2).1 (sE b se _ X W c tk h.2).1
    · cases h
  | .din neg k a, se, e, X, W, c, tk, h => by
    simp only [ckE] at h
    split at h
    · simp only [Bool.and_eq_true, decide_eq_true_eq, Bool.not_eq_true'] at h
      obtain ⟨⟨⟨rfl, hb⟩, h1⟩, h2⟩ := h
      exact both_din c hb (sE k se _ X W c tk h1).1 (sE a se _ X W c tk h2).1
    · cases h
theorem sL : ∀ (ps : PL) (se : SE) (es : List Expr) (X : Cx) (W : WX), Cok T G cf n se X → L2N.Takes X W → ckL T ps se es = true → PBs X G W cf es ps ∧ PEs X G W cf es ps
  | .nil, se, es, X, W, c, tk, h => by
    simp only [ckL] at h
    split at h
    · exact ⟨.nil, .nil⟩
    · cases h
  | .cons p ps, se, es, X, W, c, tk, h => by
    simp only [ckL] at h
    split at h
    · simp only [Bool.and_eq_true, Bool.not_eq_true'] at h
      have z := sE p se _ X W c tk h.1.2
      have y := sL ps se _ X W c tk h.2
      exact ⟨.cons h.1.1 z y.1, .cons h.1.1 (opnd c h.1.2 z) y.2⟩
    · cases h
theorem sF : ∀ (ps : PL) (se : SE) (es : List Expr) (X : Cx) (W : WX), Cok T G cf n se X → L2N.Takes X W → ckF T ps se es = true → PFs X G W cf es ps
  | .nil, se, es, X, W, c, tk, h => by
    simp only [ckF] at h
    split at h
    · exact .nil
    · cases h
  | .cons p ps, se, es, X, W, c, tk, h => by
    simp only [ckF] at h
    split at h
    · simp only [Bool.and_eq_true] at h
      obtain ⟨h1, h2⟩ := h
      refine .cons ?_ (sF ps se _ X W c tk h2)
      split at h1
      · exact pf_con h1
      · exact pf_fmt (sE p se _ X W c tk h1).1
      · cases h1
    · cases h
theorem sC : ∀ (ps : PL) (se : SE) (es : List Expr) (X : Cx) (W : WX), Cok T G cf n se X → L2N.Takes X W → ckC T ps se es = true → PTs1 X G W cf es ps
  | .nil, se, es, X, W, c, tk, h => by
    simp only [ckC] at h
    split at h
    · exact .nil
    · cases h
  | .cons p ps, se, es, X, W, c, tk, h => by
    simp only [ckC] at h
    split at h
    · exact .one (sE p se _ X W c tk h)
    · cases h
theorem sI (lp : Bool) : ∀ (it : Iter) (se : SE) (tg e : Expr) (X : Cx) (W : WX), Cok T G cf n se X → L2N.Takes X W → ckI T lp it se tg e = true → L2.PI X tg e (wI G W lp (evalI cf it))
  | .seq p, se, tg, e, X, W, c, tk, h => by
    simp only [ckI, Bool.and_eq_true] at h
    have z := sE p se _ X W c tk h.1
    exact pi_seqI c (tW_of h.2 (opnd c h.1 z) fun _ => z.1)
  | .rng1 a, se, tg, e, X, W, c, tk, h => by
    simp only [ckI] at h
    split at h
    · simp only [Bool.and_eq_true, decide_eq_true_eq, Bool.not_eq_true'] at h
      obtain ⟨⟨⟨⟨rfl, g⟩, m⟩, s⟩, h1⟩ := h
      exact pi_rng1 c g m s (sE a se _ X W c tk h1).1
    · cases h
  | .rng2 a b, se, tg, e, X, W, c, tk, h => by
    simp only [ckI] at h
    split at h
    · simp only [Bool.and_eq_true, decide_eq_true_eq, Bool.not_eq_true'] at h
      obtain ⟨⟨⟨⟨⟨⟨rfl, g⟩, m⟩, s⟩, s2⟩, h1⟩, h2⟩ := h
      exact pi_rng2 c g m s s2 (sE a se _ X W c tk h1).1 (sE b se _ X W c tk h2).1
    · cases h
  | .rng3 a b d, se, tg, e, X, W, c, tk, h => by
    simp only [ckI] at h
    split at h
    · simp only [Bool.and_eq_true, decide_eq_true_eq, Bool.not_eq_true'] at h
      obtain ⟨⟨⟨⟨⟨⟨⟨⟨rfl, g⟩, m⟩, s⟩, s2⟩, s3⟩, h1⟩, h2⟩, h3⟩ := h
      exact pi_rng3 c g m s s2 s3 (sE a se _ X W c tk h1).1 (sE b se _ X W c tk h2).1 (sE d se _ X W c tk h3).1
    · cases h
  | .enum p, se, tg, e, X, W, c, tk, h => by
    simp only [ckI] at h
    split at h
    · simp only [Bool.and_eq_true, decide_eq_true_eq, Bool.not_eq_true'] at h
      obtain ⟨⟨⟨⟨⟨rfl, g⟩, m⟩, s⟩, h1⟩, h2⟩ := h
      have z := sE p se _ X W c tk h1
      exact pi_enumI c g m s (tW_of h2 (opnd c h1 z) fun _ => z.1)
    · cases h
  | .zip a b, se, tg, e, X, W, c, tk, h => by simp [ckI] at h
end
end
end MP
end
section
set_option Elab.async false
set_option linter.all false
set_option maxRecDepth 100000
set_option maxHeartbeats 2000000
/-! MP: statements -/
namespace MP
open PySem PySem.Spec PyProof.Rows L2

theorem nodup_idx {α : Type} {l : List α} (h : l.Nodup) {i j : Nat} (hi : i < l.length) (hj : j < l.length) (e : l[i] = l[j]) : i = j := by
  have p := List.pairwise_iff_getElem.mp h
  rcases Nat.lt_trichotomy i j with z | z | z
  · exact absurd e (p i j hi hj z)
  · exact z
  · exact absurd e.symm (p j i hj hi z)
def Ends1 (G : Gd) (D : Ends) (f : Fl) (σ' : L2.St) (H' : Hp) : Prop :=
  match f with
  | .nx => D.nx σ' H'
  | .brk => D.bk σ' H'
  | .cnt => D.ct σ' H'
  | .ret _ => True
def PostS (G : Gd) (B : Base) (W : WX) (o : Out Fl) (D : Ends) (as : List Addr) (fz : Addr → Prop) (H : Hp) : Prop :=
  match o with
  | .ok (.ret d) st' => ∀ as' fz' H' v, SimB B as' fz' H' → SimC G st'.sto as' fz' H' → RepD G as' fz' H' v d → D.rt v H'
  | .ok f st' => ∀ σ' as' fz' H', StepS as fz H as' fz' H' → Sim G B st' as' fz' σ' H' → Ends1 G D f σ' H'
  | .exc c t => ∀ σ' as' fz' H', SimB B as' fz' H' → SimC G t as' fz' H' → W (.ref (G.ca c)) none σ' H'
  | .bad => False
def tS (G : Gd) (W : WX) (m : S → Out Fl) : TS := fun D σ H => ∃ B as fz st, Sim G B st as fz σ H ∧ PostS G B W (m st) D as fz H
section
variable {T : Tab} {G : Gd} {cf : CF} {n : Nat} {se : SE} {X : Cx} {B : Base} {W : WX} {σ : L2.St} {H H' : Hp} {as as' : List Addr} {fz fz' : Addr → Prop} {Z : Ends}
theorem PostS.trans {o : Out Fl} (h : PostS G B W o Z as fz H) (s : StepS as fz H as' fz' H') : PostS G B W o Z as' fz' H' := by
  cases o with
  | ok f st' =>
    cases f with
    | ret d => exact h
    | nx => exact fun σ2 as2 fz2 H2 s2 m => h σ2 as2 fz2 H2 (s.trans s2) m
    | brk => exact fun σ2 as2 fz2 H2 s2 m => h σ2 as2 fz2 H2 (s.trans s2) m
    | cnt => exact fun σ2 as2 fz2 H2 s2 m => h σ2 as2 fz2 H2 (s.trans s2) m
  | exc c t => exact h
  | bad => exact h
/-- an expression ahead of a statement -/
theorem PostS.expr {α : Type} {o : Out α} {f : α → S → Out Fl} (h : PostS G B W (o.bind f) Z as fz H) : Post G B W σ o (fun d st1 as1 fz1 H1 => PostS G B W (f d st1) Z as1 fz1 H1) as fz H := by
  cases o with
  | ok d st1 => exact fun as1 fz1 H1 s m => PostS.trans h s.s
  | exc c t => exact h σ
  | bad => exact h
/-- a statement ahead of statements -/
theorem PostS.stmt {o : Out Fl} {f : Fl → S → Out Fl} {D' : Ends} (h : PostS G B W (o.bind f) Z as fz H) (hr : ∀ d st', f (.ret d) st' = .ok (.ret d) st') (hd : D'.rt = Z.rt)
    (k : ∀ g st' σ' as' fz' H', (∀ d, g ≠ .ret d) → StepS as fz H as' fz' H' → Sim G B st' as' fz' σ' H' → PostS G B W (f g st') Z as' fz' H' → Ends1 G D' g σ' H') : PostS G B W o D' as fz H := by
  cases o with
  | ok g st1 =>
    cases g with
    | ret d =>
      have h : PostS G B W (f (.ret d) st1) Z as fz H := h
      rw [hr] at h
      intro as' fz' H' v sb sc rd
      rw [hd]
      exact h as' fz' H' v sb sc rd
    | nx => exact fun σ1 as1 fz1 H1 s m => k .nx st1 σ1 as1 fz1 H1 (fun _ e => nomatch e) s m (PostS.trans h s)
    | brk => exact fun σ1 as1 fz1 H1 s m => k .brk st1 σ1 as1 fz1 H1 (fun _ e => nomatch e) s m (PostS.trans h s)
    | cnt => exact fun σ1 as1 fz1 H1 s m => k .cnt st1 σ1 as1 fz1 H1 (fun _ e => nomatch e) s m (PostS.trans h s)
  | exc c t => exact h
  | bad => exact h
/-! ### lists written -/
theorem stepS_mut {a : Addr} {u u' : HO} (h : H a = some u) (mu : Mut u) (n : ¬ fz a) : StepS as fz H as fz (upd H a u') := by
  have ne : ∀ b v, H b = some v → ¬ Mut v → b ≠ a := fun b v e hv z => by rw [z, h] at e; cases e; exact hv mu
  refine ⟨fun b v e => ?_, fun b v w e => ?_, fun b v f e => ?_, fun b e => ?_, ⟨[], by simp⟩, fun _ h => .inl h, fun _ h => h⟩
  · rw [upd_ne (ne b _ e id)]; exact e
  · rw [upd_ne (ne b _ e id)]; exact e
  · rw [upd_ne (fun z : b = a => n (z ▸ f))]; exact e
  · by_cases hb : b = a
    · subst hb; rw [upd_same]; simp
    · rw [upd_ne hb]; exact e
theorem stepS_lst {a : Addr} {xs ys : List V} (h : H a = some (.lst xs)) (n : ¬ fz a) : StepS as fz H as fz (upd H a (.lst ys)) := stepS_mut h trivial n
/-- the frame's own list is written -/
theorem Sim.setOwn {st : S} (x : Sim G B st as fz σ H) {i : Nat} {ds es : List D} (e : st.loc[i]? = some (.own ds)) : ∃ a vs, σ[i]? = some (some (.ref a)) ∧ H a = some (.lst vs) ∧ RepL G as fz H vs ds ∧ ¬ fz a ∧
    ∀ ys, RepL G as fz H ys es → Sim G B { st with loc := st.loc.set i (.own es) } as fz σ (upd H a (.lst ys)) ∧ StepS as fz H as fz (upd H a (.lst ys)) := by
  obtain ⟨a, vs, e1, e2, r, nf, na, n0⟩ := x.l.own i ds e
  have hi : i < st.loc.length := (List.getElem?_eq_some_iff.mp e).1
  refine ⟨a, vs, e1, e2, r, nf, fun ys ry => ⟨?_, stepS_lst e2 nf⟩⟩
  have tr := rep_swap (G := G) (as := as) (fz := fz) (ys := ys) e2 nf
  have ne0 : ∀ b v, B.H0 b = some v → b ≠ a := fun b v q z => by rw [z, n0] at q; cases q
  have nea : ∀ b, b ∈ as → b ≠ a := fun b hb z => na (z ▸ hb)
  refine ⟨⟨x.c.nd, x.c.len, fun j cl b e3 e4 => ?_, fun b f => ⟨(x.c.frz b f).1, by rw [upd_ne fun z : b = a => nf (z ▸ f)]; exact (x.c.frz b f).2⟩⟩,
    ⟨fun b v q n => by rw [upd_ne (ne0 b v q)]; exact x.b.fr b v q n, fun b v q => by rw [upd_ne (ne0 b _ q)]; exact x.b.tups b v q, fun b v w q => by rw [upd_ne (ne0 b _ q)]; exact x.b.frzs b v w q, fun b v f q => by rw [upd_ne (ne0 b _ q)]; exact x.b.fzs b v f q,
      fun b q => by
        by_cases hb : b = a
        · subst hb; rw [upd_same]; simp
        · rw [upd_ne hb]; exact x.b.there b q, x.b.pre, x.b.newa, x.b.fzm, x.b.newf⟩,
    ⟨by rw [List.length_set]; exact x.l.len, fun j d q => ?_, fun j cs q => ?_, fun j k cs fs b hjk h1 h2 h3 => ?_⟩⟩
  · have z := x.c.at_ j cl b e3 e4
    obtain ⟨o, us, q, sh, r'⟩ := z
    exact ⟨o, us, by rw [upd_ne (nea b (List.mem_of_getElem? e4))]; exact q, sh, tr.2 _ _ r'⟩
  · by_cases hj : i = j
    · subst hj
      rw [List.getElem?_set_self hi] at q
      cases q
    · rw [List.getElem?_set_ne hj] at q
      obtain ⟨v, q1, r'⟩ := x.l.val j d q
      exact ⟨v, q1, tr.1 _ _ r'⟩
  · by_cases hj : i = j
    · subst hj
      rw [List.getElem?_set_self hi] at q
      cases q
      exact ⟨a, ys, e1, upd_same, tr.2 _ _ ry, nf, na, n0⟩
    · rw [List.getElem?_set_ne hj] at q
      obtain ⟨b, us, q1, q2, r', m1, m2, m3⟩ := x.l.own j cs q
      have hb : b ≠ a := fun z => x.l.dist i j ds cs a hj e q e1 (z ▸ q1)
      exact ⟨b, us, q1, by rw [upd_ne hb]; exact q2, tr.2 _ _ r', m1, m2, m3⟩
  · have own : ∀ {j : Nat} {cs : List D}, (st.loc.set i (.own es))[j]? = some (.own cs) → ∃ cs', st.loc[j]? = some (.own cs') := fun {j cs} q => by
      by_cases hj : i = j
      · subst hj; exact ⟨ds, e⟩
      · rw [List.getElem?_set_ne hj] at q; exact ⟨cs, q⟩
    obtain ⟨c1, k1⟩ := own h1
    obtain ⟨c2, k2⟩ := own h2
    exact x.l.dist j k c1 c2 b hjk k1 k2 h3
/-- a cell is written -/
theorem Sim.putCell {st : S} (x : Sim G B st as fz σ H) {j : Nat} {a : Addr} {c c' : Cell} (hcm : c.mut = true) (e : st.sto[j]? = some c) (ea : as[j]? = some a) : ∃ o vs, H a = some o ∧ Shape G c o vs ∧ RepL G as fz H vs c.ds ∧
    ∀ o' ys, Shape G c' o' ys → RepL G as fz H ys c'.ds → Sim G B { st with sto := st.sto.set j c' } as fz σ (upd H a o') ∧ StepS as fz H as fz (upd H a o') := by
  obtain ⟨o, vs, e2, sh, r⟩ := x.c.at_ j _ a e ea
  have mu := sh.mu hcm
  have hm : a ∈ as := List.mem_of_getElem? ea
  have nf : ¬ fz a := fun f => (x.c.frz a f).1 hm
  have hj : j < st.sto.length := (List.getElem?_eq_some_iff.mp e).1
  refine ⟨o, vs, e2, sh, r, fun o' ys sh' ry => ⟨?_, stepS_mut e2 mu nf⟩⟩
  have tr := rep_mut (G := G) (as := as) (fz := fz) (u' := o') e2 mu nf
  have n0 : ∀ b, B.H0 b ≠ none → b ∉ B.as0 → b ≠ a := fun b q n z => by
    subst z
    rcases x.b.newa b hm with w | w
    · exact n w
    · exact q w
  have nl : ∀ b v, B.H0 b = some v → ¬ Mut v → (H b = some v) → b ≠ a := fun b v q hv q2 z => by rw [z, e2] at q2; cases q2; exact hv mu
  refine ⟨⟨x.c.nd, by rw [List.length_set]; exact x.c.len, fun k cl b e3 e4 => ?_, fun b f => ⟨(x.c.frz b f).1, by rw [upd_ne fun z : b = a => nf (z ▸ f)]; exact (x.c.frz b f).2⟩⟩,
    ⟨fun b v q n => by rw [upd_ne (n0 b (by rw [q]; simp) n)]; exact x.b.fr b v q n, fun b v q => by
        have z := x.b.tups b v q
        rw [upd_ne (nl b _ q id z)]; exact z, fun b v w q => by
        have z := x.b.frzs b v w q
        rw [upd_ne (nl b _ q id z)]; exact z, fun b v f q => by
        rw [upd_ne (fun z : b = a => nf (z ▸ x.b.fzm b f))]; exact x.b.fzs b v f q,
      fun b q => by
        by_cases hb : b = a
        · subst hb; rw [upd_same]; simp
        · rw [upd_ne hb]; exact x.b.there b q, x.b.pre, x.b.newa, x.b.fzm, x.b.newf⟩,
    ⟨x.l.len, fun k d q => ?_, fun k cs q => ?_, x.l.dist⟩⟩
  · by_cases hk : j = k
    · subst hk
      rw [List.getElem?_set_self hj] at e3
      cases e3
      rw [ea] at e4
      cases e4
      exact ⟨o', ys, upd_same, sh', tr.2 _ _ ry⟩
    · rw [List.getElem?_set_ne hk] at e3
      have z := x.c.at_ k cl b e3 e4
      have hb : b ≠ a := fun w => by
        subst w
        have h1 := (List.getElem?_eq_some_iff.mp ea)
        have h2 := (List.getElem?_eq_some_iff.mp e4)
        obtain ⟨l1, q1⟩ := h1
        obtain ⟨l2, q2⟩ := h2
        exact hk ((nodup_idx x.c.nd) l1 l2 (q1.trans q2.symm))
      obtain ⟨u, us, q, s3, r'⟩ := z
      exact ⟨u, us, by rw [upd_ne hb]; exact q, s3, tr.2 _ _ r'⟩
  · obtain ⟨v, q1, r'⟩ := x.l.val k d q
    exact ⟨v, q1, tr.1 _ _ r'⟩
  · obtain ⟨b, us, q1, q2, r', m1, m2, m3⟩ := x.l.own k cs q
    exact ⟨b, us, q1, by rw [upd_ne fun z : b = a => m2 (z ▸ hm)]; exact q2, tr.2 _ _ r', m1, m2, m3⟩
/-- a list cell is written -/
theorem Sim.setCell {st : S} (x : Sim G B st as fz σ H) {j : Nat} {a : Addr} {ds es : List D} (e : st.sto[j]? = some (.lst ds)) (ea : as[j]? = some a) : ∃ vs, H a = some (.lst vs) ∧ RepL G as fz H vs ds ∧
    ∀ ys, RepL G as fz H ys es → Sim G B { st with sto := st.sto.set j (.lst es) } as fz σ (upd H a (.lst ys)) ∧ StepS as fz H as fz (upd H a (.lst ys)) := by
  obtain ⟨o, vs, e2, sh, r, k⟩ := x.putCell (c' := .lst es) rfl e ea
  cases sh
  exact ⟨vs, e2, r, fun ys ry => k _ ys rfl ry⟩
end
end MP
end
section
set_option Elab.async false
set_option linter.all false
set_option maxRecDepth 100000
set_option maxHeartbeats 4000000
/-! MP: the rules of statements -/
namespace MP
open PySem PySem.Spec PyProof.Rows L2
section
variable {T : Tab} {G : Gd} {cf : CF} {wf n : Nat} {se : SE} {X : Cx} {B : Base} {W : WX} {σ : L2.St} {H H' : Hp} {as as' : List Addr} {fz fz' : Addr → Prop} {Z : Ends}
theorem PSimp {st : Stmt} {t T : TS} (h : L2.PS X st T) (k : ∀ Z σ H, t Z σ H → T Z σ H) : L2.PS X st t := ⟨fun pins s σ H Z I q => h.run pins s σ H Z I (k _ _ _ q)⟩
theorem PSsimp {st : List Stmt} {t T : TS} (h : L2.PSs X st T) (k : ∀ Z σ H, t Z σ H → T Z σ H) : L2.PSs X st t := ⟨fun pins s σ H Z I q => h.run pins s σ H Z I (k _ _ _ q)⟩
theorem Sim.newOwn {st : S} (x : Sim G B st as fz σ H) {i : Nat} {H0 : Hp} {v : V} {ds : List D} (hi : i < st.loc.length) (h : NewL G B st σ H0 as fz H v (.lst ds)) : Sim G B { st with loc := st.loc.set i (.own ds) } as fz (σ.set i (some v)) H := by
  obtain ⟨a, vs, ds', rfl, e, h0, hH, r, nf, na, n0, ow⟩ := h
  cases e
  have hs : i < σ.length := by rw [x.l.len]; exact hi
  refine ⟨x.c, x.b, by rw [List.length_set, List.length_set]; exact x.l.len, fun j d q => ?_, fun j es q => ?_, fun j k es fs b hjk h1 h2 h3 => ?_⟩
  · by_cases hj : i = j
    · subst hj
      rw [List.getElem?_set_self hi] at q
      cases q
    · rw [List.getElem?_set_ne hj] at q ⊢
      exact x.l.val j d q
  · by_cases hj : i = j
    · subst hj
      rw [List.getElem?_set_self hi] at q
      cases q
      exact ⟨a, vs, by rw [List.getElem?_set_self hs], hH, r, nf, na, n0⟩
    · rw [List.getElem?_set_ne hj] at q ⊢
      exact x.l.own j es q
  · by_cases hj : i = j
    · subst hj
      rw [List.getElem?_set_self hs] at h3
      cases h3
      rw [List.getElem?_set_ne hjk] at h2 ⊢
      intro z
      exact ow k fs a h2 z rfl
    · rw [List.getElem?_set_ne hj] at h1 h3
      by_cases hk : i = k
      · subst hk
        rw [List.getElem?_set_self hs]
        intro z
        cases z
        exact ow j es a h1 h3 rfl
      · rw [List.getElem?_set_ne hk] at h2 ⊢
        exact x.l.dist j k es fs b hjk h1 h2 h3
theorem Sim.newCell {st : S} (x : Sim G B st as fz σ H) {i : Nat} {H0 : Hp} {v : V} {ds : List D} (hi : i < st.loc.length) (h : NewL G B st σ H0 as fz H v (.lst ds)) : ∃ a, v = .ref a ∧ H0 a = none ∧ Sim G B { loc := st.loc.set i (.val (.ref st.sto.length)), sto := st.sto ++ [.lst ds] } (as ++ [a]) fz (σ.set i (some v)) H := by
  obtain ⟨a, vs, ds', rfl, e, h0, hH, r, nf, na, n0, ow⟩ := h
  cases e
  have hs : i < σ.length := by rw [x.l.len]; exact hi
  refine ⟨a, rfl, h0, ⟨⟨?_, by rw [List.length_append, List.length_append, x.c.len]; rfl, fun j cl b e1 e2 => ?_, fun b f => ⟨fun hm => ?_, (x.c.frz b f).2⟩⟩,
    ⟨fun b o e n => x.b.fr b o e n, x.b.tups, x.b.frzs, x.b.fzs, x.b.there, ?_, fun b hm => ?_, x.b.fzm, x.b.newf⟩, by rw [List.length_set, List.length_set]; exact x.l.len, fun j d q => ?_, fun j es q => ?_, fun j k es fs b hjk h1 h2 h3 => ?_⟩⟩
  · rw [List.nodup_append]
    exact ⟨x.c.nd, by simp, fun b hb c hc z => na (by simp at hc; rw [← hc, ← z]; exact hb)⟩
  · by_cases hj : j < st.sto.length
    · rw [List.getElem?_append_left hj] at e1
      rw [List.getElem?_append_left (by rw [x.c.len]; exact hj)] at e2
      have z := x.c.at_ j cl b e1 e2
      obtain ⟨o, us, q, sh, r'⟩ := z
      exact ⟨o, us, q, sh, rep_more.2 _ _ r'⟩
    · have hj2 : st.sto.length ≤ j := by omega
      rw [List.getElem?_append_right hj2] at e1
      rw [List.getElem?_append_right (by rw [x.c.len]; exact hj2), x.c.len] at e2
      cases k : j - st.sto.length with
      | zero =>
        rw [k] at e1 e2
        cases e1
        cases e2
        exact ⟨_, vs, hH, rfl, rep_more.2 _ _ r⟩
      | succ k' => rw [k] at e1; simp at e1
  · rcases List.mem_append.mp hm with z | z
    · exact (x.c.frz b f).1 z
    · simp at z
      exact nf (z ▸ f)
  · obtain ⟨q, e⟩ := x.b.pre
    exact ⟨q ++ [a], by rw [e, List.append_assoc]⟩
  · rcases List.mem_append.mp hm with z | z
    · exact x.b.newa b z
    · simp at z
      exact .inr (z ▸ n0)
  · by_cases hj : i = j
    · subst hj
      rw [List.getElem?_set_self hi] at q
      cases q
      refine ⟨.ref a, by rw [List.getElem?_set_self hs], .ref ?_⟩
      rw [← x.c.len, List.getElem?_append_right (Nat.le_refl _), Nat.sub_self]
      rfl
    · rw [List.getElem?_set_ne hj] at q ⊢
      obtain ⟨v, q1, r'⟩ := x.l.val j d q
      exact ⟨v, q1, rep_more.1 _ _ r'⟩
  · by_cases hj : i = j
    · subst hj
      rw [List.getElem?_set_self hi] at q
      cases q
    · rw [List.getElem?_set_ne hj] at q ⊢
      obtain ⟨b, us, q1, q2, r', m1, m2, m3⟩ := x.l.own j es q
      refine ⟨b, us, q1, q2, rep_more.2 _ _ r', m1, fun hm => ?_, m3⟩
      rcases List.mem_append.mp hm with z | z
      · exact m2 z
      · simp at z
        exact ow j es b q q1 z
  · have d1 : i ≠ j := fun q => by subst q; rw [List.getElem?_set_self hi] at h1; cases h1
    have d2 : i ≠ k := fun q => by subst q; rw [List.getElem?_set_self hi] at h2; cases h2
    rw [List.getElem?_set_ne d1] at h1 h3
    rw [List.getElem?_set_ne d2] at h2 ⊢
    exact x.l.dist j k es fs b hjk h1 h2 h3
/-! ### assignments -/
theorem s_set {st : Stmt} {t : Tgt} {p : PE} (h : L2.PS X st (tAsg (tI G W (evalE cf p)) (gI G t))) : L2.PS X st (tS G W (evalS cf wf (.set t p))) := by
  refine PSimp h fun Z σ H ⟨B, as, fz, st, sim, q⟩ => ?_
  simp only [evalS] at q
  refine ⟨B, as, fz, st, sim, (q.expr (σ := σ)).mono fun d st1 as1 fz1 H1 s1 m1 p1 v rv => ?_⟩
  cases ea : MP.assign t d st1 with
  | none => rw [ea] at p1; exact p1.elim
  | some st2 =>
    rw [ea] at p1
    exact ⟨B, as1, fz1, st1, d, st2, m1, rv, ea, fun σ' sim' _ => p1 σ' as1 fz1 H1 .refl sim'⟩
theorem s_setN {st : Stmt} {i : Nat} {p : PE} (h : L2.PS X st (tAsg (tI G W (evalE cf p)) (gName i))) : L2.PS X st (tS G W (evalS cf wf (.set (.nm i) p))) := by
  refine PSimp h fun Z σ H ⟨B, as, fz, st, sim, q⟩ => ?_
  simp only [evalS] at q
  refine ⟨B, as, fz, st, sim, (q.expr (σ := σ)).mono fun d st1 as1 fz1 H1 s1 m1 p1 v rv => ?_⟩
  rw [MP.assign] at p1
  split at p1
  · rename_i hi
    exact p1 _ as1 fz1 H1 .refl (m1.setVal hi rv)
  · exact p1.elim
theorem s_own {st : Stmt} {i : Nat} {p : PE} (h : L2.PS X st (tAsg (tN G W (evalE cf p)) (gName i))) : L2.PS X st (tS G W (evalS cf wf (.own i p))) := by
  refine PSimp h fun Z σ H ⟨B, as, fz, st, sim, q⟩ => ?_
  simp only [evalS] at q
  refine ⟨B, as, fz, st, sim, (q.expr (σ := σ)).mono fun d st1 as1 fz1 H1 s1 m1 p1 v rv => ?_⟩
  split at p1
  · split at p1
    · rename_i hi
      exact p1 _ as1 fz1 H1 .refl (m1.newOwn hi rv)
    · exact p1.elim
  · exact p1.elim
theorem s_cell {st : Stmt} {i : Nat} {p : PE} (h : L2.PS X st (tAsg (tN G W (evalE cf p)) (gName i))) : L2.PS X st (tS G W (evalS cf wf (.cell i p))) := by
  refine PSimp h fun Z σ H ⟨B, as, fz, st, sim, q⟩ => ?_
  simp only [evalS] at q
  refine ⟨B, as, fz, st, sim, ?_⟩
  cases ev : evalE cf p st with
  | bad => rw [ev] at q; exact q
  | exc c t => rw [ev] at q; exact q σ
  | ok d st1 =>
    rw [ev] at q
    intro as1 fz1 H1 s1 m1 v rv
    simp only [bind_ok] at q
    split at q
    · split at q
      · rename_i hi
        obtain ⟨a, rfl, h0, sim'⟩ := m1.newCell hi rv
        refine q _ (as1 ++ [a]) fz1 H1 ?_ sim'
        have s := s1.s
        refine ⟨s.tups, s.frzs, s.fzs, s.there, ?_, fun b hb => ?_, s.fzm⟩
        · obtain ⟨r, e⟩ := s.pre
          exact ⟨r ++ [a], by rw [e, List.append_assoc]⟩
        · rcases List.mem_append.mp hb with z | z
          · exact s.newa b z
          · simp at z
            exact .inr (z ▸ h0)
      · exact q.elim
    · exact q.elim
theorem new_lst {es : List Expr} {ps : PL} {pos : Pos} (q : PVs X G W cf es ps) : L2.PE X (.List es pos) (tN G W (evalE cf (.lst ps))) := by
  refine PEimp (pe_lst q.pa) fun σ H Q ⟨B, as, fz, st, sim, q⟩ => ?_
  simp only [evalE] at q
  refine ⟨B, as, fz, st, sim, q.bind.mono fun ds st1 as1 fz1 H1 s1 m1 p1 vs rvs => ?_⟩
  split at p1
  · rename_i hl
    refine ⟨by rw [rvs.length, sl_line]; omega, fun p hn => ?_⟩
    have g : Grow fz1 H1 fz1 (upd H1 p (.lst vs)) := grow_new hn
    have n0 : H p = none := by
      cases q : H p with
      | none => rfl
      | some o => exact absurd hn (s1.there p (by rw [q]; simp))
    refine p1 as1 fz1 _ g.simB.step (m1.grow g) _ ⟨p, vs, ds, rfl, rfl, n0, upd_same, RepL.step g.simB.step _ _ rvs, fun f => (m1.c.frz p f).2 hn, fun h => m1.c.live h hn, m1.b.fresh hn, fun i es b e1 e2 => ?_⟩
    obtain ⟨a, us, q1, q2, _⟩ := m1.l.own i es e1
    rw [e2] at q1
    cases q1
    intro z
    rw [z, hn] at q2
    cases q2
  · exact p1.elim
theorem new_lstRng (c : Cok T G cf n se X) {a : Expr} {pa : PE} {p1 p2 pos p3 : Pos} (hg : gloN se "range" = true) (hm : ("range" : Str) ∈ T.blts) (hg2 : gloN se "list" = true) (hm2 : ("list" : Str) ∈ T.blts) (hs : starred a = false) (h : L2.PE X a (tI G W (evalE cf pa))) :
    L2.PE X (.Call (.Name "list" p1) [.Call (.Name "range" p2) [a] [] p3] [] pos) (tN G W (evalE cf (.lstRng pa))) := by
  refine PEimp (pe_listRg c.calm (c.glo hg2) (c.blts _ hm2) (prg_1 (c.glo hg) (c.blts _ hm) h (star_cons hs))) fun σ H Q ⟨B, as, fz, st, sim, q⟩ => ?_
  simp only [evalE] at q
  refine ⟨B, as, fz, st, sim, q.bind.mono fun d st1 as1 fz1 H1 s1 m1 p1 v rv => ?_⟩
  split at p1
  · rename_i i
    split at p1
    · rename_i hi
      cases rv
      refine ⟨i, rfl, RgOk.of_le (Int.le_refl _) (by omega) (by decide) hi.1, fun p hn => ?_⟩
      have g : Grow fz1 H1 fz1 (upd H1 p (.lst (rgV 0 i))) := grow_new hn
      have n0 : H p = none := by
        cases q : H p with
        | none => rfl
        | some o => exact absurd hn (s1.there p (by rw [q]; simp))
      refine p1 as1 fz1 _ g.simB.step (m1.grow g) _ ⟨p, _, _, rfl, rfl, n0, upd_same, rng_rep 0 i, fun f => (m1.c.frz p f).2 hn, fun h => m1.c.live h hn, m1.b.fresh hn, fun i es b e1 e2 => ?_⟩
      obtain ⟨a, us, q1, q2, _⟩ := m1.l.own i es e1
      rw [e2] at q1
      cases q1
      intro z
      rw [z, hn] at q2
      cases q2
    · exact p1.elim
  · exact p1.elim
/-! ### swaps -/
def isComp : Expr → Bool
  | .ListComp _ _ _ _ => true
  | .SetComp _ _ _ _ => true
  | .DictComp _ _ _ _ _ => true
  | _ => false
/-- a comprehension that is stored without the swap -/
def noSwap (se : SE) (tg e : Expr) : Bool := !isComp e || (match tg, e with
  | .Name y py, .ListComp _ _ _ pos => !(decide (se.sc.names.lookup y = some .local) && (py.line == pos.line))
  | .Tuple _ _ _, .ListComp _ _ _ _ => true
  | _, _ => false)
theorem swaps_not {e : Expr} {tg : Option Expr} {l : Nat} {env : Env} (h : isComp e = false) : swapsWith e tg l env = pure false := by
  cases e <;> first | rfl | exact absurd h (by simp [isComp])
theorem swaps_ok (c : Cok T G cf n se X) {tg e : Expr} {l : Nat} (h : noSwap se tg e = true) : swapsWith e (some tg) l X.env = pure false := by
  by_cases hc : isComp e = false
  · exact swaps_not hc
  · unfold noSwap at h
    rw [Bool.or_eq_true] at h
    rcases h with h | h
    · rw [Bool.not_eq_true'] at h; exact absurd h hc
    · split at h
      · rename_i y py elt gs scope pos
        have hk : (X.env.kindOf y == some .local && py.line == pos.line) = false := by
          rw [Bool.not_eq_true', Bool.and_eq_false_iff] at h
          rw [Bool.and_eq_false_iff]
          rcases h with h | h
          · left
            have h : ¬ se.sc.names.lookup y = some .local := by simpa using h
            show (X.env.scope.names.lookup y == some .local) = false
            rw [c.sc]
            cases q : se.sc.names.lookup y with
            | none => rfl
            | some k =>
              rw [q] at h
              cases k <;> first | exact absurd rfl h | rfl
          · right; exact h
        unfold swapsWith
        simp only [Expr.pos]
        have e1 : (X.env.blockKind == .function && X.env.kindOf y == some .local && py.line == pos.line && !(scope.names.any fun x => x.1 == y && (x.2 == .local || x.2 == .cell))) = false := by
          rw [Bool.and_assoc (X.env.blockKind == .function), hk, Bool.and_false, Bool.false_and]
        simp only [e1]
      · rfl
      · cases h
def noPar : Expr → Expr → Bool
  | .Tuple _ _ _, .Tuple _ _ _ => false
  | .Tuple _ _ _, _ => true
  | .Name _ _, _ => true
  | .Subscript _ _ _, _ => true
  | _, _ => false
theorem noPar_ok {tg e : Expr} {env : Env} (h : noPar tg e = true) : swappedStores [tg] e env = pure none := by
  cases tg <;> first | rfl | (simp [noPar] at h; done) | skip
  cases e <;> first | rfl | exact absurd h (by simp [noPar])
theorem asg_one {tg : Expr} {env : Env} (h : starred tg = false) : (assignEach [tg] env).map (·.2) = [PySem.assign tg env] := by
  rw [asg_cons h]; rfl
theorem ps_gen (c : Cok T G cf n se X) {tg e : Expr} {te : TE} {g : TG} {pos : Pos} (he : L2.PE X e te) (hg : L2.PG X tg g) (h1 : noSwap se tg e = true) (h2 : noPar tg e = true) (h3 : starred tg = false) : L2.PS X (.Assign [tg] e pos) (tAsg te g) :=
  ps_asg he hg (swaps_ok c h1) (noPar_ok h2) (asg_one h3)
theorem pg_nameOk (c : Cok T G cf n se X) {i : Nat} {x : Str} {pos : Pos} (h1 : se.N[i]? = some x) (h2 : locN se x = true) : L2.PG X (.Name x pos) (gName i) := by
  obtain ⟨l1, l2⟩ := c.loc h2
  exact pg_name (by rw [c.N]; exact c.nd) (by rw [c.N]; exact h1) l1 l2
end
end MP
end
section
set_option Elab.async false
set_option linter.all false
set_option maxRecDepth 100000
set_option maxHeartbeats 4000000
/-! MP: more rules of statements -/
namespace MP
open PySem PySem.Spec PyProof.Rows L2
section
variable {T : Tab} {G : Gd} {cf : CF} {wf n : Nat} {se : SE} {X : Cx} {B : Base} {W : WX} {σ : L2.St} {H H' : Hp} {as as' : List Addr} {fz fz' : Addr → Prop} {Z : Ends}
theorem setAt_some {xs ys : List D} {k : Int} {d : D} (h : setAt xs k d = some ys) : ∃ j, ixN xs.length k = some j ∧ ys = xs.set j d := by
  unfold setAt at h
  unfold ixN
  split at h
  · rename_i hc
    cases h
    refine ⟨k.toNat, ?_, rfl⟩
    rw [if_pos hc.1, if_pos (by omega)]
  · rename_i h1
    split at h
    · rename_i hc
      cases h
      refine ⟨(k + xs.length).toNat, ?_, rfl⟩
      rw [if_neg (by omega), if_pos (by omega)]
    · cases h
theorem asg_sub {o k : Expr} {p1 : Pos} {env : Env} (h : plainIx k = true) : ∀ v, PySem.assign (.Subscript o k p1) env v = (do
      let ov ← holding [v] (eval o env)
      let iv ← holding [v, ov] (eval k env)
      standAt p1
      holding [v, ov, iv] (setItem ov iv v)
      release [v, ov, iv] []) := by
  intro v
  cases k <;> first | rfl | exact absurd h (by simp [plainIx])
theorem s_seti (c : Cok T G cf n se X) {i : Nat} {o k e : Expr} {pk pe : PE} {pos p1 : Pos} (ho : varOk se i o = true) (hx : plainIx k = true) (hk : L2.PE X k (tI G W (evalE cf pk))) (he : L2.PE X e (tI G W (evalE cf pe))) :
    L2.PS X (.Assign [.Subscript o k p1] e pos) (tS G W (evalS cf wf (.seti i pk pe))) := by
  have hs : swapsWithSole [.Subscript o k p1] e pos.line X.env = pure false := by cases e <;> rfl
  have hw : swappedStores [.Subscript o k p1] e X.env = pure none := by cases e <;> rfl
  refine PSimp (ps_asg he (pg_sub (pe_varOk c ho).1 hk set_list (asg_sub hx)) hs hw) fun Z σ H ⟨B, as, fz, st, sim, q⟩ => ?_
  simp only [evalS] at q
  refine ⟨B, as, fz, st, sim, (q.expr (σ := σ)).mono fun d st1 as1 fz1 H1 s1 m1 p1 v rv => ?_⟩
  split at p1
  · rename_i xs0 e0
    obtain ⟨a0, vs0, e1, _⟩ := m1.l.own i xs0 e0
    refine ⟨_, e1, B, as1, fz1, st1, m1, (p1.expr (σ := σ)).mono fun kd st2 as2 fz2 H2 s2 m2 p2 kv rk => ?_⟩
    split at p2
    · rename_i xs kk e2
      cases rk
      split at p2
      · rename_i ys e3
        obtain ⟨j, e4, rfl⟩ := setAt_some e3
        obtain ⟨a, vs, e5, e6, r, nf, upd'⟩ := m2.setOwn (es := xs.set j d) e2
        rw [e1] at e5
        cases e5
        refine ⟨a0, vs, kk, j, rfl, rfl, e6, by rw [r.length]; exact e4, ?_⟩
        obtain ⟨sm, stp⟩ := upd' (vs.set j v) (r.set (RepD.step s2 _ _ rv))
        exact p2 σ as2 fz2 _ stp sm
      · exact p2.elim
    · exact p2.elim
  · exact p1.elim
theorem s_setc (c : Cok T G cf n se X) {o k e : Expr} {po pk pe : PE} {pos p1 : Pos} (hx : plainIx k = true) (ho : L2.PE X o (tI G W (evalE cf po))) (hk : L2.PE X k (tI G W (evalE cf pk))) (he : L2.PE X e (tI G W (evalE cf pe))) :
    L2.PS X (.Assign [.Subscript o k p1] e pos) (tS G W (evalS cf wf (.setc po pk pe))) := by
  have hs : swapsWithSole [.Subscript o k p1] e pos.line X.env = pure false := by cases e <;> rfl
  have hw : swappedStores [.Subscript o k p1] e X.env = pure none := by cases e <;> rfl
  refine PSimp (ps_asg he (pg_sub ho hk set_list (asg_sub hx)) hs hw) fun Z σ H ⟨B, as, fz, st, sim, q⟩ => ?_
  simp only [evalS] at q
  refine ⟨B, as, fz, st, sim, (q.expr (σ := σ)).mono fun d st1 as1 fz1 H1 s1 m1 p1 v rv => ⟨B, as1, fz1, st1, m1, (p1.expr (σ := σ)).mono fun od st2 as2 fz2 H2 s2 m2 p2 ov ro => ⟨B, as2, fz2, st2, m2, (p2.expr (σ := σ)).mono fun kd st3 as3 fz3 H3 s3 m3 p3 kv rk => ?_⟩⟩⟩
  split at p3
  · rename_i j kk
    cases rk
    split at p3
    · rename_i xs e2
      split at p3
      · rename_i ys e3
        obtain ⟨i, e4, rfl⟩ := setAt_some e3
        have ro3 := RepD.step s3 _ _ ro
        cases ro3 with
        | ref ea =>
          obtain ⟨vs, e6, r, upd'⟩ := m3.setCell (es := xs.set i d) e2 ea
          refine ⟨_, vs, kk, i, rfl, rfl, e6, by rw [r.length]; exact e4, ?_⟩
          obtain ⟨sm, stp⟩ := upd' (vs.set i v) (r.set (RepD.step (s2.trans s3) _ _ rv))
          exact p3 σ as3 fz3 _ stp sm
      · exact p3.elim
    · exact p3.elim
  · exact p3.elim
def augOf : Prim → Option Operator
  | .add => some .Add
  | .sub => some .Sub
  | .mul => some .Mult
  | _ => none
theorem ip_aug {p : Prim} {op : Operator} (h : augOf p = some op) : PIp X op (fun x y H Q => ∃ i j r, x = .int i ∧ y = .int j ∧ augI p i (.int j) = some (.int r) ∧ Q (.int r) H) := by
  intro pins s σ H x y v u Q I rx ry ⟨i, j, r, ex, ey, er, q⟩
  cases p <;> simp only [augOf, Option.some.injEq, reduceCtorEq] at h
  all_goals subst h
  · simp only [augI, Option.some.injEq, D.int.injEq] at er
    subst er
    exact iop_add pins s σ H x y v u Q I rx ry ⟨i, j, ex, ey, q⟩
  · simp only [augI, Option.some.injEq, D.int.injEq] at er
    subst er
    exact iop_sub pins s σ H x y v u Q I rx ry ⟨i, j, ex, ey, q⟩
  · simp only [augI] at er
    split at er
    · rename_i hc
      simp only [Option.some.injEq, D.int.injEq] at er
      subst er
      refine iop_mul pins s σ H x y v u Q I rx ry ⟨i, j, ex, ey, ?_, q⟩
      simp only [smallW, Bool.or_eq_true, Bool.and_eq_true, decide_eq_true_eq] at hc
      exact hc
    · cases er
theorem augI_int {p : Prim} {x : Int} {d z : D} (h : augI p x d = some z) : ∃ y r, d = .int y ∧ z = .int r := by
  unfold augI at h
  split at h
  · cases h; exact ⟨_, _, rfl, rfl⟩
  · cases h; exact ⟨_, _, rfl, rfl⟩
  · split at h
    · cases h; exact ⟨_, _, rfl, rfl⟩
    · cases h
  · cases h
theorem s_aug (c : Cok T G cf n se X) {i : Nat} {x : Str} {e : Expr} {p : Prim} {op : Operator} {pe : PE} {p1 pos : Pos} (h : augOf p = some op) (h1 : se.N[i]? = some x) (h2 : locN se x = true) (he : L2.PE X e (tI G W (evalE cf pe))) :
    L2.PS X (.AugAssign (.Name x p1) op e pos) (tS G W (evalS cf wf (.aug i p pe))) := by
  obtain ⟨l1, l2⟩ := c.loc h2
  refine PSimp (ps_aug (by rw [c.N]; exact c.nd) (by rw [c.N]; exact h1) l1 he (ip_aug h) l2) fun Z σ H ⟨B, as, fz, st, sim, q⟩ => ?_
  simp only [evalS] at q
  split at q
  · rename_i xv e0
    obtain ⟨v, e1, r⟩ := sim.l.val i _ e0
    cases r
    refine ⟨_, e1, B, as, fz, st, sim, (q.expr (σ := σ)).mono fun d st1 as1 fz1 H1 s1 m1 p1 w rw' => ?_⟩
    split at p1
    · rename_i z ez
      obtain ⟨y, r, rfl, rfl⟩ := augI_int ez
      cases rw'
      have hi : i < st1.loc.length := by
        rw [← m1.l.len, sim.l.len]
        exact (List.getElem?_eq_some_iff.mp e0).1
      exact ⟨xv, y, r, rfl, rfl, ez, p1 _ as1 fz1 H1 .refl (m1.setVal hi (.int r))⟩
    · exact p1.elim
  · exact q.elim
theorem s_app (c : Cok T G cf n se X) {i : Nat} {o y : Expr} {pe : PE} {apos cpos pos : Pos} (ho : varOk se i o = true) (hb : plainBase o = true) (hl : (apos.endLine == cpos.line) = true) (hy : starred y = false) (he : L2.PE X y (tI G W (evalE cf pe))) :
    L2.PS X (.Expr (.Call (.Attribute o "append" apos) [y] [] cpos) pos) (tS G W (evalS cf wf (.app i pe))) := by
  have z : L2.PE X (.Call (.Attribute o "append" apos) [y] [] cpos) (tBM X.K "list" rAppend (tVar i) (tCons (tI G W (evalE cf pe)) tNil)) :=
    pe_bm F.plainAttrs_list F.slot_list_append F.type_list_append mt_append (pe_varOk c ho).1 (pa_cons he pa_nil (star_cons hy)) (plainBase_ok hb) (few_ok hy) hl (star_cons hy) rfl
  refine PSimp (ps_expr z) fun Z σ H ⟨B, as, fz, st, sim, q⟩ => ?_
  simp only [evalS] at q
  split at q
  · rename_i xs0 e0
    obtain ⟨a, vs, e1, e2, _⟩ := sim.l.own i xs0 e0
    refine ⟨_, e1, .inl ⟨rfl, vs, SqL.of e2⟩, B, as, fz, st, sim, (q.expr (σ := σ)).mono fun d st1 as1 fz1 H1 s1 m1 p1 w rw' => ?_⟩
    split at p1
    · rename_i xs e3
      split at p1
      · rename_i hlen
        obtain ⟨a', vs', e5, e6, r, nf, upd'⟩ := m1.setOwn (es := xs ++ [d]) e3
        rw [e1] at e5
        cases e5
        obtain ⟨sm, stp⟩ := upd' (vs' ++ [w]) (r.append (.cons rw' .nil))
        exact ⟨a, vs', w, rfl, rfl, e6, by rw [sl_line, r.length]; omega, p1 σ as1 fz1 _ stp sm⟩
      · exact p1.elim
    · exact p1.elim
  · exact q.elim
/-! ### flow -/
theorem s_if {e : Expr} {p : PE} {a b : List Stmt} {pa pb : PB} {pos : Pos} (hc : Both X e (tI G W (evalE cf p))) (ha : L2.PSs X a (tS G W (evalSs cf wf pa))) (hb : L2.PSs X b (tS G W (evalSs cf wf pb))) :
    L2.PS X (.If e a b pos) (tS G W (evalS cf wf (.ife p pa pb))) := by
  refine PSimp (ps_if hc.2 ha hb) fun Z σ H ⟨B, as, fz, st, sim, q⟩ => ?_
  simp only [evalS] at q
  refine ⟨B, as, fz, st, sim, (q.expr (σ := σ)).mono fun d st1 as1 fz1 H1 s1 m1 p1 v rv => ?_⟩
  split at p1
  · cases rv
    exact ⟨true, rfl, B, as1, fz1, st1, m1, p1⟩
  · cases rv
    exact ⟨false, rfl, B, as1, fz1, st1, m1, p1⟩
  · exact p1.elim
theorem s_ret {e : Expr} {p : PE} {pos : Pos} (he : L2.PE X e (tI G W (evalE cf p))) : L2.PS X (.Return (some e) pos) (tS G W (evalS cf wf (.ret p))) := by
  refine PSimp (ps_ret he) fun Z σ H ⟨B, as, fz, st, sim, q⟩ => ?_
  simp only [evalS] at q
  exact ⟨B, as, fz, st, sim, (q.expr (σ := σ)).mono fun d st1 as1 fz1 H1 s1 m1 p1 v rv => p1 as1 fz1 H1 v m1.b m1.c rv⟩
theorem s_retn {pos : Pos} : L2.PS X (.Return none pos) (tS G W (evalS cf wf .retn)) := by
  refine PSimp ps_retN fun Z σ H ⟨B, as, fz, st, sim, q⟩ => ?_
  simp only [evalS] at q
  exact q as fz H _ sim.b sim.c .non
theorem s_expr {e : Expr} {p : PE} {pos : Pos} (hc : isComp e = false) (he : L2.PE X e (tI G W (evalE cf p))) : L2.PS X (.Expr e pos) (tS G W (evalS cf wf (.expr p))) := by
  refine PSimp (ps_expr he (swaps_not hc)) fun Z σ H ⟨B, as, fz, st, sim, q⟩ => ?_
  simp only [evalS] at q
  exact ⟨B, as, fz, st, sim, (q.expr (σ := σ)).mono fun d st1 as1 fz1 H1 s1 m1 p1 v rv => p1 σ as1 fz1 H1 .refl m1⟩
theorem s_brk {pos : Pos} : L2.PS X (.Break pos) (tS G W (evalS cf wf .brk)) := PSimp ps_break fun Z σ H ⟨B, as, fz, st, sim, q⟩ => by
  simp only [evalS] at q
  exact q σ as fz H .refl sim
theorem s_cnt {pos : Pos} : L2.PS X (.Continue pos) (tS G W (evalS cf wf .cnt)) := PSimp ps_continue fun Z σ H ⟨B, as, fz, st, sim, q⟩ => by
  simp only [evalS] at q
  exact q σ as fz H .refl sim
theorem s_pas {pos : Pos} : L2.PS X (.Pass pos) (tS G W (evalS cf wf .pas)) := PSimp ps_pass fun Z σ H ⟨B, as, fz, st, sim, q⟩ => by
  simp only [evalS] at q
  exact q σ as fz H .refl sim
theorem s_doc {x : Str} {j : Nat} {p1 pos : Pos} : L2.PS X (.Expr (.Constant (.str x) j p1) pos) (tS G W (evalS cf wf .pas)) := PSimp ps_doc fun Z σ H ⟨B, as, fz, st, sim, q⟩ => by
  simp only [evalS] at q
  exact q σ as fz H .refl sim
theorem ss_nil : L2.PSs X [] (tS G W (evalSs cf wf .nil)) := PSsimp pss_nil fun Z σ H ⟨B, as, fz, st, sim, q⟩ => by
  simp only [evalSs] at q
  exact q σ as fz H .refl sim
theorem ss_cons {s : Stmt} {r : List Stmt} {p : PS} {q : PB} (h : L2.PS X s (tS G W (evalS cf wf p))) (h2 : L2.PSs X r (tS G W (evalSs cf wf q))) : L2.PSs X (s :: r) (tS G W (evalSs cf wf (.cons p q))) := by
  refine PSsimp (pss_cons h h2) fun Z σ H ⟨B, as, fz, st, sim, q⟩ => ?_
  simp only [evalSs] at q
  refine ⟨B, as, fz, st, sim, q.stmt (fun _ _ => rfl) rfl fun g st1 σ1 as1 fz1 H1 ng s1 m1 p1 => ?_⟩
  cases g with
  | nx => exact ⟨B, as1, fz1, st1, m1, p1⟩
  | brk => exact p1 σ1 as1 fz1 H1 .refl m1
  | cnt => exact p1 σ1 as1 fz1 H1 .refl m1
  | ret d => exact (ng d rfl).elim
theorem s_whl (hp : PassesOwn (model X.prog X.w) X.A X.env X.xe) {e : Expr} {p : PE} {b : List Stmt} {pb : PB} {pos : Pos} (hc : Both X e (tI G W (evalE cf p))) (hb : L2.PSs X b (tS G W (evalSs cf wf pb))) :
    L2.PS X (.While e b [] pos) (tS G W (evalS cf wf (.whl p pb))) := by
  refine PSimp (ps_while hp hc.2 hb) fun Z σ H ⟨B, as, fz, st, sim, q⟩ => ?_
  simp only [evalS] at q
  refine ⟨fun m σ' H' => ∃ as' fz' st', Sim G B st' as' fz' σ' H' ∧ PostS G B W (whileN (evalE cf p) (evalSs cf wf pb) m st') Z as' fz' H', ⟨wf, as, fz, st, sim, q⟩, ?_⟩
  rintro m σ1 H1 ⟨as1, fz1, st1, sim1, q1⟩
  cases m with
  | zero => rw [whileN] at q1; exact q1.elim
  | succ m =>
    rw [whileN] at q1
    refine ⟨B, as1, fz1, st1, sim1, (q1.expr (σ := σ1)).mono fun d st2 as2 fz2 H2 s2 m2 p2 v rv => ?_⟩
    split at p2
    · cases rv
      refine ⟨true, rfl, fun σ' H' => ∃ as' fz' st', Sim G B st' as' fz' σ' H' ∧ PostS G B W (whileN (evalE cf p) (evalSs cf wf pb) m st') Z as' fz' H', fun σ' H' h => ⟨m, Nat.lt_succ_self m, h⟩, B, as2, fz2, st2, m2, p2.stmt (fun _ _ => rfl) rfl fun g st3 σ3 as3 fz3 H3 ng s3 m3 p3 => ?_⟩
      cases g with
      | nx => exact ⟨as3, fz3, st3, m3, p3⟩
      | cnt => exact ⟨as3, fz3, st3, m3, p3⟩
      | brk => exact p3 σ3 as3 fz3 H3 .refl m3
      | ret d => exact (ng d rfl).elim
    · cases rv
      exact ⟨false, rfl, p2 σ1 as2 fz2 H2 .refl m2⟩
    · exact p2.elim
theorem s_for (c : Cok T G cf n se X) (hp : PassesOwn (model X.prog X.w) X.A X.env X.xe) {tg iter : Expr} {t : Tgt} {it : Iter} {b : List Stmt} {pb : PB} {pos : Pos} (hI : L2.PI X tg iter (wI G W true (evalI cf it))) (ht : ckT se t tg = true)
    (hb : L2.PSs X b (tS G W (evalSs cf wf pb))) (hs : notSet iter = true) : L2.PS X (.For tg iter b [] pos) (tS G W (evalS cf wf (.forr t it pb))) := by
  refine PSimp (ps_for hp c.calm hI (pg_ckT c t tg ht) hb (notSet_ok hs)) fun Z σ H ⟨B, as, fz, st, sim, q⟩ => ?_
  simp only [evalS] at q
  refine ⟨B, as, fz, st, sim, (q.expr (σ := σ)).mono fun xs st1 as1 fz1 H1 s1 m1 p1 J iok => ?_⟩
  obtain ⟨Gs, Y, wk, hGs, hY⟩ := iok
  refine for_it wk (fun i σ' H' => ∃ as' fz' st', Sim G B st' as' fz' σ' H' ∧ StepS as1 fz1 H1 as' fz' H' ∧ PostS G B W (forLoop (fun d s2 => ofOpt (MP.assign t d s2) fun s3 => evalSs cf wf pb s3) (xs.drop i) st') Z as' fz' H') ?_ ?_ ?_ ?_
  · exact ⟨as1, fz1, st1, m1, .refl, p1⟩
  · rintro i σ2 H2 hi ⟨as2, fz2, st2, sm, stp, q2⟩
    exact hGs as2 fz2 H2 ⟨stp, fun z => nomatch z⟩
  · rintro i x σ2 H2 H3 hi ⟨as2, fz2, st2, sm, stp, q2⟩ y
    obtain ⟨fz3, g3, rd⟩ := hY as2 fz2 H2 i x H3 xs[i] ⟨stp, fun z => nomatch z⟩ (List.getElem?_eq_getElem hi) y
    rw [List.drop_eq_getElem_cons hi, forLoop] at q2
    have sm3 := sm.grow g3
    have stp3 : StepS as1 fz1 H1 as2 fz3 H3 := stp.trans (g3.simB (as := as2)).step.s
    have q3 := PostS.trans q2 (g3.simB (as := as2)).step.s
    cases ea : MP.assign t xs[i] st2 with
    | none => simp only [ea, ofOpt] at q3; exact q3.elim
    | some st4 =>
      simp only [ea, ofOpt] at q3
      refine ⟨B, as2, fz3, st2, xs[i], st4, sm3, rd, ea, fun σ4 sm4 _ => ⟨B, as2, fz3, st4, sm4, q3.stmt (fun _ _ => rfl) rfl fun g st5 σ5 as5 fz5 H5 ng s5 m5 p5 => ?_⟩⟩
      cases g with
      | nx => exact ⟨as5, fz5, st5, m5, stp3.trans s5, p5⟩
      | cnt => exact ⟨as5, fz5, st5, m5, stp3.trans s5, p5⟩
      | brk => exact p5 σ5 as5 fz5 H5 .refl m5
      | ret d => exact (ng d rfl).elim
  · rintro σ2 H2 ⟨as2, fz2, st2, sm, stp, q2⟩
    rw [List.drop_length, forLoop] at q2
    exact q2 σ2 as2 fz2 H2 .refl sm
end
end MP
end
section
set_option Elab.async false
set_option linter.all false
set_option maxRecDepth 100000
set_option maxHeartbeats 4000000
/-! MP: a, b = x, y -/
namespace MP
open PySem PySem.Spec PyProof.Rows L2
def parC (se : SE) (i j : Nat) (x y : Str) (px py : Pos) (a b : Expr) : Bool := decide (se.N[i]? = some x) && decide (se.N[j]? = some y) && decide (i ≠ j) && decide (x ≠ y) && decide (se.sc.names.lookup x = some .local) && decide (se.sc.names.lookup y = some .local) &&
  decide (se.sc.kind = .function) && (px.line == py.line) && !starred a && !starred b && !([a, b].all (foldedForSure 8)) && !([a, b].all (constantsAlone 8))
section
variable {T : Tab} {G : Gd} {cf : CF} {n wf : Nat} {se : SE} {X : Cx} {W : WX}
theorem star_eq (a : Expr) : (match a with | .Starred _ _ => true | _ => false) = starred a := by
  cases a <;> rfl
theorem par_swaps (c : Cok T G cf n se X) {i j : Nat} {x y : Str} {px py pt : Pos} {kt k2 : Nat} {pt2 : Pos} {a b : Expr} (h : parC se i j x y px py a b = true) :
    swappedStores [.Tuple [.Name x px, .Name y py] kt pt] (.Tuple [a, b] k2 pt2) X.env = pure (some [x, y]) := by
  simp only [parC, Bool.and_eq_true, decide_eq_true_eq, Bool.not_eq_true', beq_iff_eq] at h
  obtain ⟨⟨⟨⟨⟨⟨⟨⟨⟨⟨⟨h1, h2⟩, h3⟩, h4⟩, h5⟩, h6⟩, h7⟩, h8⟩, h9⟩, h10⟩, h11⟩, h12⟩ := h
  rw [← c.sc] at h5 h6 h7
  have hk : X.env.blockKind = .function := by
    unfold Env.blockKind
    rw [h7]
    rfl
  have k1 : X.env.kindOf x = some .local := h5
  have k2 : X.env.kindOf y = some .local := h6
  unfold swappedStores
  have hyx : (y == x) = false := by
    rw [beq_eq_false_iff_ne]
    exact fun z => h4 z.symm
  have hpl : (Expr.Name x px).pos.line = px.line := rfl
  have s1 : ([a, b].any fun x => match x with | .Starred _ _ => true | _ => false) = false := by
    simp only [List.any_cons, List.any_nil, star_eq, h9, h10, Bool.or_false]
  simp only [s1, h11, h12, hk]
  simp [k1, k2, h8, hpl, List.eraseDups_cons, hyx]
  intro hh
  rcases hh with hh | hh
  · cases a <;> first | (cases hh; done) | (simp [starred] at h9; done)
  · cases b <;> first | (cases hh; done) | (simp [starred] at h10; done)
theorem par_assoc {α β γ : Type} (o : Out α) (f : α → S → Out β) (g : β → S → Out γ) : (o.bind f).bind g = o.bind fun a s => (f a s).bind g := by
  cases o <;> rfl
theorem s_par (c : Cok T G cf n se X) {i j : Nat} {x y : Str} {px py pt pos : Pos} {kt k2 : Nat} {pt2 : Pos} {a b : Expr} {p1 p2 : PE} (h : parC se i j x y px py a b = true) (q : PVs X G W cf [a, b] (.cons p1 (.cons p2 .nil))) :
    L2.PS X (.Assign [.Tuple [.Name x px, .Name y py] kt pt] (.Tuple [a, b] k2 pt2) pos) (tS G W (evalS cf wf (.set (.tp [.nm i, .nm j]) (.tup (.cons p1 (.cons p2 .nil)))))) := by
  have hw := par_swaps (pt := pt) (kt := kt) (k2 := k2) (pt2 := pt2) c h
  simp only [parC, Bool.and_eq_true, decide_eq_true_eq, Bool.not_eq_true', beq_iff_eq] at h
  obtain ⟨⟨⟨⟨⟨⟨⟨⟨⟨⟨⟨h1, h2⟩, h3⟩, h4⟩, h5⟩, h6⟩, h7⟩, h8⟩, h9⟩, h10⟩, h11⟩, h12⟩ := h
  rw [← c.sc] at h5 h6
  refine PSimp (ps_par c.calm (by rw [c.N]; exact c.nd) (by rw [c.N]; exact h1) (by rw [c.N]; exact h2) h3 h5 h6 q.pa hw) fun Z σ H ⟨B, as, fz, st, sim, q⟩ => ?_
  simp only [evalS, evalE, par_assoc] at q
  refine ⟨B, as, fz, st, sim, (q.expr (σ := σ)).mono fun ds st1 as1 fz1 H1 s1 m1 p1 vs rv => ?_⟩
  split at p1
  · simp only [bind_ok] at p1
    cases rv with
    | nil => exact p1.elim
    | cons r1 rv =>
      cases rv with
      | nil =>
        simp only [MP.assign, assignL] at p1
        by_cases hi : i < st1.loc.length
        · rw [if_pos hi] at p1
          exact p1.elim
        · rw [if_neg hi] at p1
          exact p1.elim
      | cons r2 rv =>
        simp only [MP.assign, assignL] at p1
        by_cases hi : i < st1.loc.length
        · rw [if_pos hi] at p1
          simp only [Option.bind_some, List.length_set] at p1
          by_cases hj : j < st1.loc.length
          · rw [if_pos hj] at p1
            cases rv with
            | nil => exact ⟨_, _, rfl, p1 _ as1 fz1 H1 .refl ((m1.setVal hi r1).setVal (by rw [List.length_set]; exact hj) r2)⟩
            | cons r3 rv => exact p1.elim
          · rw [if_neg hj] at p1
            exact p1.elim
        · rw [if_neg hi] at p1
          exact p1.elim
  · exact p1.elim
end
end MP
end
section
set_option Elab.async false
set_option linter.all false
set_option maxRecDepth 100000
set_option maxHeartbeats 4000000
/-! MP: lists in cells: append, walk -/
namespace MP
open PySem PySem.Spec PyProof.Rows L2
section
variable {T : Tab} {G : Gd} {cf : CF} {wf n : Nat} {se : SE} {X : Cx} {B : Base} {W : WX} {σ : L2.St} {H H' : Hp} {as as' : List Addr} {fz fz' : Addr → Prop} {Z : Ends}
theorem s_appc (c : Cok T G cf n se X) {o y : Expr} {po pe : PE} {apos cpos pos : Pos} (ho : L2.PE X o (tI G W (evalE cf po))) (hb : plainBase o = true) (hl : (apos.endLine == cpos.line) = true) (hy : starred y = false) (he : L2.PE X y (tI G W (evalE cf pe))) :
    L2.PS X (.Expr (.Call (.Attribute o "append" apos) [y] [] cpos) pos) (tS G W (evalS cf wf (.appc po pe))) := by
  have z : L2.PE X (.Call (.Attribute o "append" apos) [y] [] cpos) (tBM X.K "list" rAppend (tI G W (evalE cf po)) (tCons (tI G W (evalE cf pe)) tNil)) :=
    pe_bm F.plainAttrs_list F.slot_list_append F.type_list_append mt_append ho (pa_cons he pa_nil (star_cons hy)) (plainBase_ok hb) (few_ok hy) hl (star_cons hy) rfl
  refine PSimp (ps_expr z) fun Z σ H ⟨B, as, fz, st, sim, q⟩ => ?_
  simp only [evalS] at q
  refine ⟨B, as, fz, st, sim, (q.expr (σ := σ)).mono fun od st0 as0 fz0 H0 s0 m0 p0 ov ro => ?_⟩
  split at p0
  · rename_i j
    cases ro with
    | @ref _ a ea =>
      split at p0
      · rename_i xs0 e0
        obtain ⟨vs, e2, r0⟩ := (m0.c.at_ j _ a e0 ea).lst
        refine ⟨.inl ⟨rfl, vs, SqL.of e2⟩, B, as0, fz0, st0, m0, (p0.expr (σ := σ)).mono fun d st1 as1 fz1 H1 s1 m1 p1 w rw' => ?_⟩
        split at p1
        · rename_i xs e3
          split at p1
          · rename_i hlen
            have ro2 := RepD.step s1 _ _ (RepD.ref (G := G) (fz := fz0) (H := H0) ea)
            cases ro2 with
            | ref ea1 =>
              obtain ⟨vs', e6, r, upd'⟩ := m1.setCell (es := xs ++ [d]) e3 ea1
              obtain ⟨sm, stp⟩ := upd' (vs' ++ [w]) (r.append (.cons rw' .nil))
              exact ⟨a, vs', w, rfl, rfl, e6, by rw [sl_line, r.length]; omega, p1 σ as1 fz1 _ stp sm⟩
          · exact p1.elim
        · exact p1.elim
      · exact p0.elim
  · exact p0.elim
theorem walk_cell {K : PySem.W.Frag} {a : Addr} {n : Nat} : Walk (Itl K a) n (fun H => ∃ vs, H a = some (.lst vs) ∧ vs.length = n) (fun i H x H' => H' = H ∧ ∃ vs, H a = some (.lst vs) ∧ vs[i]? = some x) where
  goes := fun i H hi ⟨vs, e, l⟩ => ⟨vs, vs[i]'(by omega), SqL.of e, List.getElem?_eq_getElem _⟩
  stops := fun H ⟨vs, e, l⟩ => ⟨vs, SqL.of e, by omega⟩
  yields := fun i H x H' hi ⟨vs, e, l⟩ ⟨h1, h2⟩ => ⟨h1, vs, e, h2 vs (SqL.of e)⟩
theorem forCell_at {f : D → S → Out Fl} {j n m : Nat} {s : S} (h : forCell f j n m s ≠ .bad) : ∃ ys, s.sto[j]? = some (.lst ys) ∧ ys.length = n := by
  cases m with
  | zero =>
    rw [forCell] at h
    split at h
    · rename_i ys e
      split at h
      · rename_i hl
        exact ⟨ys, e, hl⟩
      · exact absurd rfl h
    · exact absurd rfl h
  | succ m =>
    rw [forCell] at h
    split at h
    · rename_i ys e
      split at h
      · rename_i hl
        exact ⟨ys, e, hl⟩
      · exact absurd rfl h
    · exact absurd rfl h
theorem postS_ne {o : Out Fl} (h : PostS G B W o Z as fz H) : o ≠ .bad := fun e => by rw [e] at h; exact h
theorem s_forc (c : Cok T G cf n se X) (hp : PassesOwn (model X.prog X.w) X.A X.env X.xe) {tg iter : Expr} {t : Tgt} {pe : PE} {b : List Stmt} {pb : PB} {pos : Pos} (he : L2.PE X iter (tI G W (evalE cf pe))) (ht : ckT se t tg = true)
    (hb : L2.PSs X b (tS G W (evalSs cf wf pb))) (hs : notSet iter = true) : L2.PS X (.For tg iter b [] pos) (tS G W (evalS cf wf (.forc t pe pb))) := by
  refine PSimp (ps_for hp c.calm (pi_list he) (pg_ckT c t tg ht) hb (notSet_ok hs)) fun Z σ H ⟨B, as, fz, st, sim, q⟩ => ?_
  simp only [evalS] at q
  refine ⟨B, as, fz, st, sim, (q.expr (σ := σ)).mono fun d st1 as1 fz1 H1 s1 m1 p1 v rv => ?_⟩
  split at p1
  · rename_i j
    cases rv with
    | @ref _ a ea =>
      split at p1
      · rename_i xs e0
        obtain ⟨vs, e2, r0⟩ := (m1.c.at_ j _ a e0 ea).lst
        refine ⟨a, rfl, ⟨vs, SqL.of e2⟩, ?_⟩
        generalize hn : xs.length = N at p1
        have live : ∀ {as2 : List Addr} {fz2 : Addr → Prop} {H2 : Hp} {σ2 : L2.St} {st2 : S} {m : Nat} {f : D → S → Out Fl}, Sim G B st2 as2 fz2 σ2 H2 → StepS as1 fz1 H1 as2 fz2 H2 → PostS G B W (forCell f j N m st2) Z as2 fz2 H2 →
            ∃ ys us, st2.sto[j]? = some (.lst ys) ∧ ys.length = N ∧ H2 a = some (.lst us) ∧ RepL G as2 fz2 H2 us ys := fun {as2 fz2 H2 σ2 st2 m f} sm stp q2 => by
          obtain ⟨ys, e, l⟩ := forCell_at (postS_ne q2)
          obtain ⟨r, q⟩ := stp.pre
          have ea2 : as2[j]? = some a := by
            rw [q, List.getElem?_append_left (List.getElem?_eq_some_iff.mp ea).1]
            exact ea
          obtain ⟨us, u1, u2⟩ := (sm.c.at_ j _ a e ea2).lst
          exact ⟨ys, us, e, l, u1, u2⟩
        refine for_it (walk_cell (K := X.K) (a := a) (n := N)) (fun i σ' H' => i ≤ N ∧ ∃ as' fz' st', Sim G B st' as' fz' σ' H' ∧ StepS as1 fz1 H1 as' fz' H' ∧ PostS G B W (forCell (fun d s2 => ofOpt (MP.assign t d s2) fun s3 => evalSs cf wf pb s3) j N (N - i) st') Z as' fz' H') ?_ ?_ ?_ ?_
        · exact ⟨Nat.zero_le _, as1, fz1, st1, m1, .refl, p1⟩
        · rintro i σ2 H2 hi ⟨_, as2, fz2, st2, sm, stp, q2⟩
          obtain ⟨ys, us, e, l, u1, u2⟩ := live sm stp q2
          exact ⟨us, u1, by rw [u2.length, l]⟩
        · rintro i x σ2 H2 H3 hi ⟨_, as2, fz2, st2, sm, stp, q2⟩ ⟨rfl, us', g1, g2⟩
          obtain ⟨ys, us, e, l, u1, u2⟩ := live sm stp q2
          rw [u1] at g1
          cases g1
          obtain ⟨m, hm⟩ : ∃ m, N - i = m + 1 := ⟨N - i - 1, by omega⟩
          have hd : ys[i]? = some (ys[i]'(by omega)) := List.getElem?_eq_getElem _
          obtain ⟨v', w1, rd⟩ := u2.get hd
          rw [g2] at w1
          cases w1
          rw [hm, forCell, e] at q2
          simp only [l, if_true] at q2
          rw [show N - (m + 1) = i by omega, hd] at q2
          simp only at q2
          cases ea : MP.assign t ys[i] st2 with
          | none => simp only [ea, ofOpt] at q2; exact q2.elim
          | some st4 =>
            simp only [ea, ofOpt] at q2
            refine ⟨B, as2, fz2, st2, ys[i], st4, sm, rd, ea, fun σ4 sm4 _ => ⟨B, as2, fz2, st4, sm4, q2.stmt (fun _ _ => rfl) rfl fun g st5 σ5 as5 fz5 H5 ng s5 m5 p5 => ?_⟩⟩
            cases g with
            | nx => exact ⟨by omega, as5, fz5, st5, m5, stp.trans s5, by rw [show N - (i + 1) = m by omega]; exact p5⟩
            | cnt => exact ⟨by omega, as5, fz5, st5, m5, stp.trans s5, by rw [show N - (i + 1) = m by omega]; exact p5⟩
            | brk => exact p5 σ5 as5 fz5 H5 .refl m5
            | ret d => exact (ng d rfl).elim
        · rintro σ2 H2 ⟨_, as2, fz2, st2, sm, stp, q2⟩
          obtain ⟨ys, us, e, l, u1, u2⟩ := live sm stp q2
          rw [Nat.sub_self, forCell, e] at q2
          simp only [l, if_true] at q2
          exact q2 σ2 as2 fz2 H2 .refl sm
      · exact p1.elim
  · exact p1.elim
end
end MP
end
section
set_option Elab.async false
set_option linter.all false
set_option maxRecDepth 100000
set_option maxHeartbeats 4000000
/-! MP: fields and dicts written, extend -/
namespace MP
open PySem PySem.Spec PyProof.Rows L2
section
variable {T : Tab} {G : Gd} {cf : CF} {wf n : Nat} {se : SE} {X : Cx} {B : Base} {W : WX} {σ : L2.St} {H H' : Hp} {as as' : List Addr} {fz fz' : Addr → Prop} {Z : Ends}
theorem s_fset (c : Cok T G cf n se X) {o e : Expr} {po pe : PE} {f : Str} {ci : Nat} {cd : CInf} {p1 pos : Pos} (hc : T.clss[ci]? = some cd) (hf : f ∈ cd.flds) (ho : L2.PE X o (tI G W (evalE cf po))) (he : L2.PE X e (tI G W (evalE cf pe))) (hs : isComp e = false) :
    L2.PS X (.Assign [.Attribute o f p1] e pos) (tS G W (evalS cf wf (.fset ci po f pe))) := by
  refine PSimp (ps_fld ho he (swaps_not hs)) fun Z σ H ⟨B, as, fz, st, sim, q⟩ => ?_
  simp only [evalS] at q
  refine ⟨B, as, fz, st, sim, (q.expr (σ := σ)).mono fun d st1 as1 fz1 H1 s1 m1 p1 v rv => ⟨B, as1, fz1, st1, m1, (p1.expr (σ := σ)).mono fun od st2 as2 fz2 H2 s2 m2 p2 ov ro => ?_⟩⟩
  split at p2
  · rename_i j
    cases ro with
    | @ref _ a ea =>
      split at p2
      · rename_i c' ks xs e0
        split at p2
        · rename_i hcc
          obtain ⟨rfl, hk⟩ := hcc
          obtain ⟨o', vs, e2, ⟨hl, dx, rfl⟩, r, upd'⟩ := m2.putCell (c' := .ins c' (putS ks xs f d).1 (putS ks xs f d).2) rfl e0 ea
          obtain ⟨k1, k2, _⟩ := c.clss _ _ hc
          obtain ⟨us, u1, u2, u3⟩ := put_zip (x := f) (RepD.step s2 _ _ rv) hl r
          obtain ⟨sm, stp⟩ := upd' (.ins (G.cc c') dx ((putS ks xs f d).1.zip us)) us ⟨u2, dx, rfl⟩ u3
          refine ⟨a, _, dx, _, rfl, e2, k1, k2 f hf, by rw [List.length_zip]; omega, ?_⟩
          rw [u1]
          exact p2 σ as2 fz2 _ stp sm
        · exact p2.elim
      · exact p2.elim
  · exact p2.elim
theorem s_dput (c : Cok T G cf n se X) {o i e : Expr} {po pk pe : PE} {p1 pos : Pos} (ho : L2.PE X o (tI G W (evalE cf po))) (hi : L2.PE X i (tI G W (evalE cf pk))) (he : L2.PE X e (tI G W (evalE cf pe))) (hs : isComp e = false) :
    L2.PS X (.Assign [.Subscript o i p1] e pos) (tS G W (evalS cf wf (.dput po pk pe))) := by
  refine PSimp (ps_dput (by have := c.u65; omega) ho hi he (swaps_not hs)) fun Z σ H ⟨B, as, fz, st, sim, q⟩ => ?_
  simp only [evalS] at q
  refine ⟨B, as, fz, st, sim, (q.expr (σ := σ)).mono fun d st1 as1 fz1 H1 s1 m1 p1 v rv => ⟨B, as1, fz1, st1, m1, (p1.expr (σ := σ)).mono fun od st2 as2 fz2 H2 s2 m2 p2 ov ro => ⟨B, as2, fz2, st2, m2, (p2.expr (σ := σ)).mono fun kd st3 as3 fz3 H3 s3 m3 p3 kv rk => ?_⟩⟩⟩
  split at p3
  · rename_i j
    split at p3
    · rename_i c' e0
      split at p3
      · rename_i c2 e1
        cases RepD.step s3 _ _ ro with
        | @ref _ a ea =>
          obtain ⟨o', vs, e2, sh, r⟩ := m3.c.at_ j _ a e0 ea
          obtain ⟨hm, o2, us, g, sh2, r2⟩ := cellPut_rep m3.c e2 sh r rk (RepD.step (s2.trans s3) _ _ rv) e1
          obtain ⟨_, _, _, _, _, upd'⟩ := m3.putCell (c' := c2) hm e0 ea
          obtain ⟨sm, stp⟩ := upd' o2 us sh2 r2
          exact ⟨a, _, rfl, g, p3 σ as3 fz3 _ stp sm⟩
      · exact p3.elim
    · exact p3.elim
  · exact p3.elim
theorem s_ext (c : Cok T G cf n se X) {i : Nat} {o y : Expr} {pe : PE} {apos cpos pos : Pos} (ho : varOk se i o = true) (hb : plainBase o = true) (hl : (apos.endLine == cpos.line) = true) (hy : starred y = false) (he : L2.PE X y (tI G W (evalE cf pe))) :
    L2.PS X (.Expr (.Call (.Attribute o "extend" apos) [y] [] cpos) pos) (tS G W (evalS cf wf (.ext i pe))) := by
  have z : L2.PE X (.Call (.Attribute o "extend" apos) [y] [] cpos) (tBM X.K "list" rExtend (tVar i) (tCons (tI G W (evalE cf pe)) tNil)) :=
    pe_bm F.plainAttrs_list F.slot_list_extend F.type_list_extend mt_extend (pe_varOk c ho).1 (pa_cons he pa_nil (star_cons hy)) (plainBase_ok hb) (few_ok hy) hl (star_cons hy) rfl
  refine PSimp (ps_expr z) fun Z σ H ⟨B, as, fz, st, sim, q⟩ => ?_
  simp only [evalS] at q
  split at q
  · rename_i xs0 e0
    obtain ⟨a, vs, e1, e2, _⟩ := sim.l.own i xs0 e0
    refine ⟨_, e1, .inl ⟨rfl, vs, SqL.of e2⟩, B, as, fz, st, sim, (q.expr (σ := σ)).mono fun d st1 as1 fz1 H1 s1 m1 p1 w rw' => ?_⟩
    split at p1
    · rename_i xs ys e3
      split at p1
      · rename_i hlen
        cases rw' with
        | @lst b zs _ hfz hbz rz =>
          obtain ⟨a', vs', e5, e6, r, nf, upd'⟩ := m1.setOwn (es := xs ++ ys) e3
          rw [e1] at e5
          cases e5
          obtain ⟨sm, stp⟩ := upd' (vs' ++ zs) (r.append rz)
          exact ⟨a, b, vs', zs, rfl, rfl, e6, hbz, by rw [sl_line, r.length, rz.length]; omega, p1 σ as1 fz1 _ stp sm⟩
      · exact p1.elim
    · exact p1.elim
  · exact q.elim
end
end MP
end
section
set_option Elab.async false
set_option linter.all false
set_option maxRecDepth 100000
set_option maxHeartbeats 4000000
/-! MP: which text a term of statement stands for, checked -/
namespace MP
open PySem PySem.Spec PyProof.Rows L2
/-- an error class of the package -/
def ExcOk (K : PySem.W.Frag) (mg : Str → Option Value) (x : Str) (C : Addr) : Prop := ∃ (B newId initId : String) (bmB : List Value), ExcBaseFacts B newId initId bmB ∧ PySem.W.excIn K C bmB newId = true ∧ mg x = some (.ref C) ∧ PySem.W.keepIn K (.ref C) = true ∧
  PySem.W.subIn K (.ref C) (.type "BaseException") = some true ∧ PySem.W.typeIn K (.ref C) = some (.type "type")
structure Sok (T : Tab) (G : Gd) (X : Cx) : Prop where
  own : PassesOwn (model X.prog X.w) X.A X.env X.xe
  excs : ∀ k x, T.excs[k]? = some x → x ≠ ("BadForm" : Str) → ExcOk X.K X.mg x (G.ca k)
  stk : X.stack = X.env :: X.outer
  frm : X.env.frame = some X.env.locals
  mg : X.mg = G.mg
theorem s_rais {T : Tab} {G : Gd} {cf : CF} {wf n : Nat} {se : SE} {X : Cx} {W : WX} (c : Cok T G cf n se X) (k : Sok T G X) (tk : L2N.Takes X W) {i : Nat} {x m : Str} {j : Nat} {p1 p2 p3 pos : Pos} (h : T.excs[i]? = some x) (hb : x ≠ ("BadForm" : Str)) (hg : gloN se x = true) (hn : okName x = true) :
    L2.PS X (.Raise (some (.Call (.Name x p1) [.Constant (.str m) j p2] [] p3)) none pos) (tS G W (evalS cf wf (.rais i))) := by
  obtain ⟨B, a, b, bm, F, e1, e2, e3, e4, e5⟩ := k.excs i x h hb
  refine PSimp (L2N.ps_raise c.calm tk (L2N.pmk_own F e1 e2 e3 (raises_own e4 e5) (c.glo hg) (okName_d hn).1)) fun Z σ H ⟨B, as, fz, st, sim, q⟩ => ?_
  simp only [evalS] at q
  exact q σ as fz H sim.b sim.c
/-- try .. except .. as e: return _law_error(e), for a body that is sound everywhere -/
def TryRule (T : Tab) (G : Gd) (cf : CF) (wf n : Nat) (se : SE) (i : Nat) (body : List Stmt) (hs : List ExceptHandler) (pb : PB) : Prop :=
  ∀ (X : Cx) (W : WX) (pos : Pos), Cok T G cf n se X → Sok T G X → L2N.Takes X W → (∀ (X' : Cx) (W' : WX), Cok T G cf n se X' → Sok T G X' → L2N.Takes X' W' → L2.PSs X' body (tS G W' (evalSs cf wf pb))) →
    L2.PS X (.Try body hs [] [] pos) (tS G W (evalS cf wf (.tryT pb i)))
/-- the handler of a law -/
def ckH (T : Tab) (se : SE) (i : Nat) : List ExceptHandler → Bool
  | [.ExceptHandler (some (.Name b _)) (some e) [.Return (some (.Call (.Name f _) [.Name e2 _] [] _)) _] _] => decide (b = "BeastError") && gloN se b && decide (se.N[i]? = some e) && decide (se.sc.names.lookup e = some .local) && decide (f = "_law_error") && gloN se f && decide (e2 = e) && okName e
  | _ => false
mutual
def ckS (T : Tab) (se : SE) : PS → Stmt → Bool
  | .set t p, st => match st with
    | .Assign [tg] e _ => (ckE T p se e && ckT se t tg && noSwap se tg e && noPar tg e) || (match t, p, tg, e with
      | .nm i, .comp pe t' it cs vs, .Name y py, .ListComp elt [⟨tg', iter, ifs, 0⟩] scope lpos => decide (se.N[i]? = some y) && decide (se.sc.names.lookup y = some .local) && decide (se.sc.kind = .function) && (py.line == lpos.line) && !(scope.names.any fun (n, k) => n == y && (k == .local || k == .cell)) &&
          ckE T (.comp pe t' it cs vs) se (.ListComp elt [⟨tg', iter, ifs, 0⟩] scope lpos)
      | .tp [.nm i, .nm j], .tup (.cons p1 (.cons p2 .nil)), .Tuple [.Name x px, .Name y py] _ _, .Tuple [a, b] _ _ => parC se i j x y px py a b && ckL T (.cons p1 (.cons p2 .nil)) se [a, b]
      | _, _, _, _ => false)
    | _ => false
  | .own i p, st => ckN T se i p st
  | .cell i p, st => ckN T se i p st
  | .seti i k p, st => match st with
    | .Assign [.Subscript o x _] e _ => varOk se i o && plainIx x && ckE T k se x && ckE T p se e
    | _ => false
  | .setc o k p, st => match st with
    | .Assign [.Subscript x y _] e _ => plainIx y && ckE T o se x && ckE T k se y && ckE T p se e
    | _ => false
  | .aug i o p, st => match st with
    | .AugAssign (.Name x _) op e _ => decide (augOf o = some op) && decide (se.N[i]? = some x) && locN se x && ckE T p se e
    | _ => false
  | .app i p, st => match st with
    | .Expr (.Call (.Attribute o m apos) [y] [] cpos) _ => decide (m = "append") && varOk se i o && plainBase o && (apos.endLine == cpos.line) && !starred y && ckE T p se y
    | _ => false
  | .ext i p, st => match st with
    | .Expr (.Call (.Attribute o m apos) [y] [] cpos) _ => decide (m = "extend") && varOk se i o && plainBase o && (apos.endLine == cpos.line) && !starred y && ckE T p se y
    | _ => false
  | .fset ci o x p, st => match st with
    | .Assign [.Attribute a f _] e _ => decide (f = x) && !isComp e && (match T.clss[ci]? with
      | some cd => decide (f ∈ cd.flds)
      | none => false) && ckE T o se a && ckE T p se e
    | _ => false
  | .dput o k p, st => match st with
    | .Assign [.Subscript x y _] e _ => !isComp e && ckE T o se x && ckE T k se y && ckE T p se e
    | _ => false
  | .appc o p, st => match st with
    | .Expr (.Call (.Attribute x m apos) [y] [] cpos) _ => decide (m = "append") && plainBase x && (apos.endLine == cpos.line) && !starred y && ckE T o se x && ckE T p se y
    | _ => false
  | .forc t e b, st => match st with
    | .For tg iter x [] _ => ckE T e se iter && ckT se t tg && notSet iter && ckB T se b x
    | _ => false
  | .ife p a b, st => match st with
    | .If e x y _ => ckE T p se e && ckB T se a x && ckB T se b y
    | _ => false
  | .whl p b, st => match st with
    | .While e x [] _ => ckE T p se e && ckB T se b x
    | _ => false
  | .forr t it b, st => match st with
    | .For tg iter x [] _ => ckI T true it se tg iter && ckT se t tg && notSet iter && ckB T se b x
    | _ => false
  | .ret p, st => match st with
    | .Return (some e) _ => ckE T p se e
    | _ => false
  | .retn, st => match st with
    | .Return none _ => true
    | _ => false
  | .rais i, st => match st with
    | .Raise (some (.Call (.Name x _) [.Constant (.str _) _ _] [] _)) none _ => decide (T.excs[i]? = some x) && decide (x ≠ ("BadForm" : Str)) && gloN se x && okName x
    | _ => false
  | .expr p, st => match st with
    | .Expr e _ => !isComp e && ckE T p se e
    | _ => false
  | .brk, st => match st with
    | .Break _ => true
    | _ => false
  | .cnt, st => match st with
    | .Continue _ => true
    | _ => false
  | .pas, st => match st with
    | .Pass _ => true
    | .Expr (.Constant (.str _) _ _) _ => true
    | _ => false
  | .tryT b i, st => match st with
    | .Try body hs [] [] _ => ckB T se b body && ckH T se i hs
    | _ => false
def ckN (T : Tab) (se : SE) (i : Nat) (p : PE) : Stmt → Bool
  | .Assign [.Name y py] e _ => decide (se.N[i]? = some y) && (match p, e with
    | .lst ps, .List es _ => locN se y && ckL T ps se es
    | .lstRng pa, .Call (.Name f _) [.Call (.Name g _) [a] [] _] [] _ => locN se y && (decide (f = "list") && decide (g = "range") && gloN se "range" && decide (("range" : Str) ∈ T.blts) && gloN se "list" && decide (("list" : Str) ∈ T.blts) && !starred a && ckE T pa se a)
    | .comp pe t it cs vs, .ListComp elt [⟨tg', iter, ifs, 0⟩] scope lpos => ckE T (.comp pe t it cs vs) se (.ListComp elt [⟨tg', iter, ifs, 0⟩] scope lpos) &&
        ((locN se y && noSwap se (.Name y py) (.ListComp elt [⟨tg', iter, ifs, 0⟩] scope lpos)) || (decide (se.sc.names.lookup y = some .local) && decide (se.sc.kind = .function) && (py.line == lpos.line) && !(scope.names.any fun (n, k) => n == y && (k == .local || k == .cell))))
    | _, _ => false)
  | _ => false
def ckB (T : Tab) (se : SE) : PB → List Stmt → Bool
  | .nil, st => match st with
    | [] => true
    | _ => false
  | .cons p q, st => match st with
    | s :: r => ckS T se p s && ckB T se q r
    | [] => false
end
section
variable {T : Tab} {G : Gd} {cf : CF} {wf n : Nat} {se : SE}
variable (big : ∀ f ds t, T.fns.length ≤ f → cf f ds t = .bad) (hTry : ∀ i body hs pb, ckH T se i hs = true → TryRule T G cf wf n se i body hs pb)
include big
theorem sN {X : Cx} {W : WX} (c : Cok T G cf n se X) (tk : L2N.Takes X W) {i : Nat} {p : PE} {st : Stmt} (h : ckN T se i p st = true) : L2.PS X st (tAsg (tN G W (evalE cf p)) (gName i)) := by
  unfold ckN at h
  split at h
  · rename_i y py e pos
    rw [Bool.and_eq_true, decide_eq_true_eq] at h
    obtain ⟨hN, h⟩ := h
    split at h
    · rename_i ps es lpos
      rw [Bool.and_eq_true] at h
      exact ps_gen c (new_lst (sL big ps se es X W c tk h.2).1.pvs) (pg_nameOk c hN h.1) rfl rfl rfl
    · rename_i pa f q1 g q2 a q3 q4
      simp only [Bool.and_eq_true, decide_eq_true_eq, Bool.not_eq_true'] at h
      obtain ⟨h0, ⟨⟨⟨⟨⟨⟨⟨rfl, rfl⟩, g1⟩, m1⟩, g2⟩, m2⟩, hs⟩, h1⟩⟩ := h
      exact ps_gen c (new_lstRng c g1 m1 g2 m2 hs (sE big pa se a X W c tk h1).1) (pg_nameOk c hN h0) rfl rfl rfl
    · rename_i pe t it cs vs elt tg' iter ifs scope lpos
      rw [Bool.and_eq_true] at h
      obtain ⟨h1, h2⟩ := h
      simp only [ckE, Bool.and_eq_true, List.all_eq_true, decide_eq_true_eq] at h1
      obtain ⟨⟨⟨⟨⟨⟨hb, ht⟩, hv⟩, hs⟩, hi⟩, hc⟩, he⟩ := h1
      rw [Bool.or_eq_true] at h2
      rcases h2 with h2 | h2
      · rw [Bool.and_eq_true] at h2
        have z := new_comp (W := W) (pos := lpos) c (sI big false it se tg' iter X W c tk hi) hb ht (by rw [ownOf_snd]; exact hv) (fun X' c' => sC big cs _ ifs X' _ c' takesNo hc) (fun X' c' => (sE big pe _ elt X' _ c' takesNo he).1) (notSet_ok hs)
        rw [ownOf_snd] at z
        exact ps_gen c z (pg_nameOk c hN h2.1) h2.2 rfl rfl
      · simp only [Bool.and_eq_true, decide_eq_true_eq, Bool.not_eq_true'] at h2
        obtain ⟨⟨⟨hyl, hk⟩, hl⟩, hsc⟩ := h2
        have z := ps_lcN (W := W) (py := py) (pos := lpos) (spos := pos) c hN hyl hk hl hsc (sI big false it se tg' iter X W c tk hi) hb ht (by rw [ownOf_snd]; exact hv) (fun X' c' => sC big cs _ ifs X' _ c' takesNo hc) (fun X' c' => (sE big pe _ elt X' _ c' takesNo he).1) (notSet_ok hs)
        rw [ownOf_snd] at z
        exact z
    · cases h
  · cases h
include hTry
mutual
theorem sS : ∀ (p : PS) (st : Stmt) (X : Cx) (W : WX), Cok T G cf n se X → Sok T G X → L2N.Takes X W → ckS T se p st = true → L2.PS X st (tS G W (evalS cf wf p))
  | .set t p, st, X, W, c, k, tk, h => by
    simp only [ckS] at h
    split at h
    · rename_i tg e pos
      rw [Bool.or_eq_true] at h
      rcases h with h | h
      · simp only [Bool.and_eq_true] at h
        obtain ⟨⟨⟨h1, h2⟩, h3⟩, h4⟩ := h
        exact s_set (ps_gen c (sE big p se e X W c tk h1).1 (pg_ckT c t tg h2) h3 h4 (ckT_star h2))
      · split at h
        · rename_i i pe t' it cs vs y py elt tg' iter ifs scope lpos
          simp only [ckE, Bool.and_eq_true, List.all_eq_true, decide_eq_true_eq, Bool.not_eq_true'] at h
          obtain ⟨⟨⟨⟨⟨hN, hyl⟩, hk⟩, hl⟩, hsc⟩, ⟨⟨⟨⟨⟨hb, ht⟩, hv⟩, hs⟩, hi⟩, hc⟩, he⟩ := h
          have z := ps_lcI (W := W) (py := py) (pos := lpos) (spos := pos) c hN hyl hk hl hsc (sI big false it se tg' iter X W c tk hi) hb ht (by rw [ownOf_snd]; exact hv) (fun X' c' => sC big cs _ ifs X' _ c' takesNo hc) (fun X' c' => (sE big pe _ elt X' _ c' takesNo he).1) (notSet_ok hs)
          rw [ownOf_snd] at z
          exact s_setN z
        · rw [Bool.and_eq_true] at h
          exact s_par c h.1 (sL big _ se _ X W c tk h.2).1.pvs
        · cases h
    · cases h
  | .own i p, st, X, W, c, k, tk, h => s_own (sN big c tk (by simpa only [ckS] using h))
  | .cell i p, st, X, W, c, k, tk, h => s_cell (sN big c tk (by simpa only [ckS] using h))
  | .seti i kx p, st, X, W, c, k, tk, h => by
    simp only [ckS] at h
    split at h
    · simp only [Bool.and_eq_true] at h
      obtain ⟨⟨⟨h1, h2⟩, h3⟩, h4⟩ := h
      exact s_seti c h1 h2 (sE big kx se _ X W c tk h3).1 (sE big p se _ X W c tk h4).1
    · cases h
  | .setc o kx p, st, X, W, c, k, tk, h => by
    simp only [ckS] at h
    split at h
    · simp only [Bool.and_eq_true] at h
      obtain ⟨⟨⟨h1, h2⟩, h3⟩, h4⟩ := h
      exact s_setc c h1 (sE big o se _ X W c tk h2).1 (sE big kx se _ X W c tk h3).1 (sE big p se _ X W c tk h4).1
    · cases h
  | .aug i o p, st, X, W, c, k, tk, h => by
    simp only [ckS] at h
    split at h
    · simp only [Bool.and_eq_true, decide_eq_true_eq] at h
      obtain ⟨⟨⟨h1, h2⟩, h3⟩, h4⟩ := h
      exact s_aug c h1 h2 h3 (sE big p se _ X W c tk h4).1
    · cases h
  | .app i p, st, X, W, c, k, tk, h => by
    simp only [ckS] at h
    split at h
    · simp only [Bool.and_eq_true, decide_eq_true_eq, Bool.not_eq_true'] at h
      obtain ⟨⟨⟨⟨⟨rfl, h1⟩, h2⟩, h3⟩, h4⟩, h5⟩ := h
      exact s_app c h1 h2 h3 h4 (sE big p se _ X W c tk h5).1
    · cases h
  | .ext i p, st, X, W, c, k, tk, h => by
    simp only [ckS] at h
    split at h
    · simp only [Bool.and_eq_true, decide_eq_true_eq, Bool.not_eq_true'] at h
      obtain ⟨⟨⟨⟨⟨rfl, h1⟩, h2⟩, h3⟩, h4⟩, h5⟩ := h
      exact s_ext c h1 h2 h3 h4 (sE big p se _ X W c tk h5).1
    · cases h
  | .fset ci o x p, st, X, W, c, k, tk, h => by
    simp only [ckS] at h
    split at h
    · simp only [Bool.and_eq_true, decide_eq_true_eq, Bool.not_eq_true'] at h
      obtain ⟨⟨⟨⟨rfl, h1⟩, h2⟩, h3⟩, h4⟩ := h
      split at h2
      · rename_i cd hc
        exact s_fset c hc (by simpa using h2) (sE big o se _ X W c tk h3).1 (sE big p se _ X W c tk h4).1 h1
      · cases h2
    · cases h
  | .dput o kx p, st, X, W, c, k, tk, h => by
    simp only [ckS] at h
    split at h
    · simp only [Bool.and_eq_true, Bool.not_eq_true'] at h
      obtain ⟨⟨⟨h1, h2⟩, h3⟩, h4⟩ := h
      exact s_dput c (sE big o se _ X W c tk h2).1 (sE big kx se _ X W c tk h3).1 (sE big p se _ X W c tk h4).1 h1
    · cases h
  | .appc o p, st, X, W, c, k, tk, h => by
    simp only [ckS] at h
    split at h
    · simp only [Bool.and_eq_true, decide_eq_true_eq, Bool.not_eq_true'] at h
      obtain ⟨⟨⟨⟨⟨rfl, h2⟩, h3⟩, h4⟩, h5⟩, h6⟩ := h
      exact s_appc c (sE big o se _ X W c tk h5).1 h2 h3 h4 (sE big p se _ X W c tk h6).1
    · cases h
  | .forc t e b, st, X, W, c, k, tk, h => by
    simp only [ckS] at h
    split at h
    · simp only [Bool.and_eq_true] at h
      obtain ⟨⟨⟨h1, h2⟩, h3⟩, h4⟩ := h
      exact s_forc c k.own (sE big e se _ X W c tk h1).1 h2 (sB b _ X W c k tk h4) h3
    · cases h
  | .ife p a b, st, X, W, c, k, tk, h => by
    simp only [ckS] at h
    split at h
    · simp only [Bool.and_eq_true] at h
      obtain ⟨⟨h1, h2⟩, h3⟩ := h
      exact s_if (sE big p se _ X W c tk h1) (sB a _ X W c k tk h2) (sB b _ X W c k tk h3)
    · cases h
  | .whl p b, st, X, W, c, k, tk, h => by
    simp only [ckS] at h
    split at h
    · simp only [Bool.and_eq_true] at h
      exact s_whl k.own (sE big p se _ X W c tk h.1) (sB b _ X W c k tk h.2)
    · cases h
  | .forr t it b, st, X, W, c, k, tk, h => by
    simp only [ckS] at h
    split at h
    · simp only [Bool.and_eq_true] at h
      obtain ⟨⟨⟨h1, h2⟩, h3⟩, h4⟩ := h
      exact s_for c k.own (sI big true it se _ _ X W c tk h1) h2 (sB b _ X W c k tk h4) h3
    · cases h
  | .ret p, st, X, W, c, k, tk, h => by
    simp only [ckS] at h
    split at h
    · exact s_ret (sE big p se _ X W c tk h).1
    · cases h
  | .retn, st, X, W, c, k, tk, h => by
    simp only [ckS] at h
    split at h
    · exact s_retn
    · cases h
  | .rais i, st, X, W, c, k, tk, h => by
    simp only [ckS] at h
    split at h
    · simp only [Bool.and_eq_true, decide_eq_true_eq] at h
      exact s_rais c k tk h.1.1.1 h.1.1.2 h.1.2 h.2
    · cases h
  | .expr p, st, X, W, c, k, tk, h => by
    simp only [ckS] at h
    split at h
    · simp only [Bool.and_eq_true, Bool.not_eq_true'] at h
      exact s_expr h.1 (sE big p se _ X W c tk h.2).1
    · cases h
  | .brk, st, X, W, c, k, tk, h => by
    simp only [ckS] at h
    split at h
    · exact s_brk
    · cases h
  | .cnt, st, X, W, c, k, tk, h => by
    simp only [ckS] at h
    split at h
    · exact s_cnt
    · cases h
  | .pas, st, X, W, c, k, tk, h => by
    simp only [ckS] at h
    split at h
    · exact s_pas
    · exact s_doc
    · cases h
  | .tryT b i, st, X, W, c, k, tk, h => by
    simp only [ckS] at h
    split at h
    · rw [Bool.and_eq_true] at h
      exact hTry i _ _ b h.2 X W _ c k tk fun X' W' c' k' tk' => sB b _ X' W' c' k' tk' h.1
    · cases h
theorem sB : ∀ (p : PB) (st : List Stmt) (X : Cx) (W : WX), Cok T G cf n se X → Sok T G X → L2N.Takes X W → ckB T se p st = true → L2.PSs X st (tS G W (evalSs cf wf p))
  | .nil, st, X, W, c, k, tk, h => by
    simp only [ckB] at h
    split at h
    · exact ss_nil
    · cases h
  | .cons p q, st, X, W, c, k, tk, h => by
    simp only [ckB] at h
    split at h
    · rw [Bool.and_eq_true] at h
      exact ss_cons (sS p _ X W c k tk h.1) (sB q _ X W c k tk h.2)
    · cases h
end
end
end MP
end
section
set_option Elab.async false
set_option linter.all false
set_option maxRecDepth 100000
set_option maxHeartbeats 4000000
/-! MP: defs -/
namespace MP
open PySem PySem.Spec PyProof.Rows L2
/-- the i-th def stands in the text as its term says -/
def DefOk (K : PySem.W.Frag) (mg : Str → Option Value) (T : Tab) (G : Gd) (i : Nat) (x : Str) (FD : FDef) : Prop :=
  ∃ (name qual : Str) (params : Arguments) (body : List Stmt) (scope : Scope) (dV kV doc pm cdv ct oc : Value) (an od : Option Addr) (osl : Array (Option Value)) (N ps : List Str),
    K.lookup (G.fa i) = some ⟨oc, od, .func (PySem.W.fnOf name qual params body scope dV kV doc pm an cdv ct), osl⟩ ∧ PySem.W.codeIn K cdv qual = true ∧ FnScope N ps scope ∧
    Binds K (PySem.W.fnOf name qual params body scope dV kV doc pm an cdv ct) ps [] ∧ (glN x = true → mg x = some (.ref (G.fa i))) ∧ ckB T ⟨N, scope, fun _ => true⟩ FD.body body = true ∧ FD.np = ps.length ∧ FD.nl = N.length
/-- the module, as far as the terms go -/
structure Glob (K : PySem.W.Frag) (mg : Str → Option Value) (T : Tab) (G : Gd) (F : List FDef) (wf : Nat) : Prop where
  kk : G.K = K
  mgE : mg = G.mg
  fnk : ∀ i, PySem.W.keepIn K (.ref (G.fa i)) = true
  globs : ∀ x d, (x, d) ∈ T.globs → ∃ u v, mg x = some u ∧ RelV v u ∧ ∀ as fz H, RepD G as fz H v d
  blts : ∀ x, x ∈ T.blts → mg x = none
  mods : ∀ x, x ∈ T.mods → mg x = some (.builtin "math.gcd")
  clss : ∀ i cd, T.clss[i]? = some cd → Cls K (G.cc i) ∧ (∀ x, x ∈ cd.flds → NoAttr K (G.cc i) x) ∧ (∀ m f, (m, f) ∈ cd.mths → Meth K (G.cc i) m (G.fa f)) ∧ Mk K (G.cc i) (G.fa cd.ini) ∧ mg cd.name = some (.ref (G.cc i))
  excs : ∀ k x, T.excs[k]? = some x → x ≠ ("BadForm" : Str) → ExcOk K mg x (G.ca k)
  len : T.fns.length = F.length
  defs : ∀ i x, T.fns[i]? = some x → ∃ FD, F[i]? = some FD ∧ DefOk K mg T G i x FD
  try_ : ∀ m se i body hs pb, ckH T se i hs = true → TryRule T G (callF F wf m) wf (2 * m + 1) se i body hs pb
section
variable {P : Program} {w : World} {K : PySem.W.Frag} {mg : Str → Option Value} {base : Heap} {T : Tab} {G : Gd} {F : List FDef} {wf : Nat}
theorem callF_succ (m f : Nat) (ds : List D) (t : Sto) : callF F wf (m + 1) f ds t = match F[f]? with
    | some d => if ds.length = d.np then runRes (evalSs (callF F wf m) wf d.body { loc := ds.map .val ++ List.replicate (d.nl - d.np) .unb, sto := t }) else .bad
    | none => .bad := rfl
theorem callF_big (g : Glob K mg T G F wf) (m : Nat) : ∀ f ds t, T.fns.length ≤ f → callF F wf m f ds t = .bad := by
  intro f ds t h
  cases m with
  | zero => rfl
  | succ m =>
    rw [callF_succ, List.getElem?_eq_none (by rw [← g.len]; exact h)]
theorem start_sim {N : List Str} {vs : List V} {ds : List D} {as : List Addr} {fz : Addr → Prop} {H : Hp} {t : Sto} (r : RepL G as fz H vs ds) (c : SimC G t as fz H) (hl : ds.length ≤ N.length) :
    Sim G ⟨H, as, fz⟩ { loc := ds.map .val ++ List.replicate (N.length - ds.length) .unb, sto := t } as fz (L2.start N vs) H := by
  have lv := r.length
  refine ⟨c, SimB.refl, ⟨?_, fun i d e => ?_, fun i es e => ?_, fun i j es fs a hij e1 e2 e3 => ?_⟩⟩
  · unfold L2.start
    simp [lv]
  · by_cases hi : i < ds.length
    · rw [List.getElem?_append_left (by simpa using hi), List.getElem?_map] at e
      cases q : ds[i]? with
      | none => rw [q] at e; cases e
      | some d' =>
        rw [q] at e
        cases e
        obtain ⟨v, e1, rd⟩ := r.get q
        refine ⟨v, ?_, rd⟩
        unfold L2.start
        rw [List.getElem?_append_left (by simpa [lv] using hi), List.getElem?_map, e1]
        rfl
    · rw [List.getElem?_append_right (by simpa using hi), List.getElem?_replicate] at e
      split at e <;> cases e
  · by_cases hi : i < ds.length
    · rw [List.getElem?_append_left (by simpa using hi), List.getElem?_map] at e
      cases q : ds[i]? with
      | none => rw [q] at e; cases e
      | some d' => rw [q] at e; cases e
    · rw [List.getElem?_append_right (by simpa using hi), List.getElem?_replicate] at e
      split at e <;> cases e
  · by_cases hi : i < ds.length
    · rw [List.getElem?_append_left (by simpa using hi), List.getElem?_map] at e1
      cases q : ds[i]? with
      | none => rw [q] at e1; cases e1
      | some d' => rw [q] at e1; cases e1
    · rw [List.getElem?_append_right (by simpa using hi), List.getElem?_replicate] at e1
      split at e1 <;> cases e1
/-- all defs keep their promises, by the depth of calls -/
theorem all_fns (g : Glob K mg T G F wf) : ∀ (m i : Nat) (x : Str), T.fns[i]? = some x → ∃ fd ps, (glN x = true → mg x = some (.ref (G.fa i))) ∧ PySem.W.keepIn K (.ref (G.fa i)) = true ∧ Binds K fd ps [] ∧ FnG P w K mg base (2 * m + 1) (G.fa i) fd ps (spI G (callF F wf m) i)
  | 0, i, x, h => by
    obtain ⟨FD, e, name, qual, params, body, scope, dV, kV, doc, pm, cdv, ct, oc, an, od, osl, N, ps, lk, hcd, Sc, hb, hm, ck, e1, e2⟩ := g.defs i x h
    have no : ∀ {vs H Q E}, ¬ spI G (callF F wf 0) i vs H Q E := fun ⟨ds, as, fz, t, _, _, z⟩ => z
    exact ⟨_, ps, hm, g.fnk i, hb, ⟨fun vs H Q E z => (no z).elim, fun A outer s H args us vs Q E _ _ _ _ _ z => (no z).elim⟩⟩
  | m + 1, i, x, h => by
    obtain ⟨FD, e, name, qual, params, body, scope, dV, kV, doc, pm, cdv, ct, oc, an, od, osl, N, ps, lk, hcd, Sc, hb, hm, ck, e1, e2⟩ := g.defs i x h
    have hpl : ps.length ≤ N.length := by have := congrArg List.length Sc.pre; rw [List.length_take] at this; omega
    have hlen : ∀ vs H Q E, spI G (callF F wf (m + 1)) i vs H Q E → vs.length = ps.length := fun vs H Q E ⟨ds, as, fz, t, r, c, z⟩ => by
      rw [callF_succ, e] at z
      dsimp only at z
      by_cases hd : ds.length = FD.np
      · rw [r.length, hd, e1]
      · simp only [hd, if_false] at z
    refine ⟨_, ps, hm, g.fnk i, hb, fnG_of lk hcd Sc hlen fun A outer s H vs Q E hg hr hsp => ⟨tS G (fun cls d _ H => E cls d H) (evalSs (callF F wf m) wf FD.body), ?_, ?_⟩⟩
    · refine sB (callF_big g m) (fun i body hs pb hh => g.try_ m _ i body hs pb hh) FD.body body _ _ ?_ ?_ ?_ ck
      · exact ⟨g.kk, rfl, Sc.nd, rfl, fun _ _ => rfl, rfl, hr, deeper_guards hg _, fun j y hj => all_fns g m j y hj, g.fnk, g.globs, g.blts, g.mods, g.clss⟩
      · exact ⟨passes_of rfl, g.excs, rfl, rfl, g.mgE⟩
      · exact L2N.takes_of rfl rfl rfl rfl
    · obtain ⟨ds, as, fz, t, r, c, z⟩ := hsp
      rw [callF_succ, e] at z
      dsimp only at z
      by_cases hd : ds.length = FD.np
      · simp only [hd, if_true] at z
        have hdn : ds.length ≤ N.length := by rw [hd, e1]; exact hpl
        have sim := start_sim (N := N) r c hdn
        refine ⟨⟨H, as, fz⟩, as, fz, _, sim, ?_⟩
        rw [e2, ← hd] at z
        revert z
        cases evalSs (callF F wf m) wf FD.body { loc := ds.map Slot.val ++ List.replicate (N.length - ds.length) Slot.unb, sto := t } with
        | bad => exact fun z => z
        | exc k t' => exact fun z σ' as' fz' H' sb sc => z as' fz' H' sb sc
        | ok f st' =>
          cases f with
          | nx => exact fun z σ' as' fz' H' _ sm => z as' fz' H' _ sm.b sm.c .non
          | brk => exact fun z => z.elim
          | cnt => exact fun z => z.elim
          | ret d => exact fun z as' fz' H' v sb sc rv => z as' fz' H' v sb sc rv
      · simp only [hd, if_false] at z
end
end MP
end
section
set_option Elab.async false
set_option linter.all false
set_option maxRecDepth 100000
set_option maxHeartbeats 4000000
/-! MP: a list walked to its end while an exception is handled -/
namespace MPH
open PySem PySem.Spec PyProof.Rows L2 HotX
theorem bt_int : bootBuiltins "int" = some (.type "int") := by decide +kernel
section
variable {prog : Program} {w : World} {A : Around} {E : Value → Shared → Prop} {s : Shared}
theorem list_end_hot {it l x1 : Addr} {i : Nat} {items : Array Value} {Q : Option Value → Shared → Prop} (hot : HotAt A x1 s.heap) (hne : x1 ≠ it) (hit : s.heap.IsListIter it l i) (hl : s.heap.IsList l items) (hx : items[i]? = none)
    (hQ : ∀ h', (∀ b o, b ≠ it → s.heap.get? b = some o → h'.get? b = some o) → Q none { s with heap := h' }) : wpAny (model prog w) A (pyNext (.ref it)) Q E s := by
  obtain ⟨hh, o1, vs1, h1, d1, c1⟩ := hot
  obtain ⟨o, ho, hc, hd⟩ := id hit
  obtain ⟨ol, hol, _, nl, hdl⟩ := hl
  unfold pyNext
  refine wpAny_bind (wpAny_attempt (wpAny_callSpecial?_slot (name := Str.ofString "__next__") hit.typeIs slot_listiter_next (wpAny_call_entry slot_listiter_next hit.typeIs entry_listiter_next ?_ (args_listiter_next _))))
  show wpAny _ _ (field (.ref it) 0 >>= _) _ _ s
  refine wpAny_bind (wpAny_field ho hd (x := .ref l) rfl ?_)
  show wpAny _ _ (if (Value.ref l == Value.none) = true then _ else _) _ _ s
  rw [if_neg (show ¬ ((Value.ref l == Value.none) = true) from Bool.false_ne_true)]
  show wpAny _ _ (field (.ref it) 1 >>= _) _ _ s
  refine wpAny_bind (wpAny_field ho hd (x := .int i 0) rfl ?_)
  show wpAny _ _ (seqItems? (.ref l) >>= _) _ _ s
  refine wpAny_bind (wpAny_seqItems hol hdl ?_)
  simp only [Int.toNat_natCast, hx]
  refine wpAny_bind (wpAny_rule (wpAny_bind (wpAny_setField ho hd (by simp) ?_)))
  show wpAny _ _ (newExc (.type "StopIteration") [] >>= _) _ _ _
  refine wpAny_bind ?_
  simp only [newExc, newTuple]
  refine wpAny_bind (wpAny_newObj_type ?_ (by size_fits))
  refine wpAny_bind (m := firstArgMember _ _) (wpAny_of_eq (a := Value.none) (by first | rfl | (simp only [firstArgMember]; rfl)) ?_)
  refine wpAny_newObj_type ?_ (by size_fits)
  generalize hg : s.heap.update it _ = hp1
  have h1' : hp1.get? x1 = some o1 := by
    rw [← hg, Heap.get?_update_other _ _ (Ne.symm hne)]
    exact h1
  have old : ∀ b o, b ≠ it → s.heap.get? b = some o → hp1.get? b = some o := fun b o hb e => by
    rw [← hg, Heap.get?_update_other _ _ (Ne.symm hb)]
    exact e
  refine raiseNew_hot ⟨hh, o1, vs1, Heap.get?_push_of_some _ (Heap.get?_push_of_some _ h1'), d1, c1⟩ (Nat.ne_of_lt (Heap.lt_size (Heap.get?_push_of_some _ h1'))) (Heap.get?_push_size _ rfl) rfl (by first | (simp; done) | (simp; omega) | (simp only [Array.size_append]; simp; omega)) ?_
  refine wpAny_bind (wpAny_isInstance (T := "StopIteration") (b := true) ⟨_, Heap.get?_update_self _ (Heap.get?_push_size _ rfl) rfl, rfl⟩ isSubtype_stop ?_)
  refine wpAny_pure (hQ _ fun b o hb e => ?_)
  have e1 := old b o hb e
  rw [Heap.get?_update_other _ _ (Nat.ne_of_gt (Heap.lt_size (Heap.get?_push_of_some _ e1)))]
  exact Heap.get?_push_of_some _ (Heap.get?_push_of_some _ e1)
end
theorem walks_hot {prog : Program} {w : World} {A : Around} {x1 : Addr} {o1 : Obj} {vs1 : Array Value} (hh : A.handled = some (.ref x1)) (d1 : o1.data = .fields vs1) (c1 : vs1[2]? = some .none) (I ax : Addr) (hne : ax ≠ I) (hx : x1 ≠ I) (items : Array Value) :
    Walks prog w A I [I, ax, x1] [I] items.size (fun i v => items[i]? = some v) (fun i h => h.IsListIter I ax i ∧ h.IsList ax items ∧ h.get? x1 = some o1) where
  sub := fun b hb => by simp at hb; simp [hb]
  frame := fun _ _ _ st hk => ⟨st.1.at fun o e => hk I (by simp) o e, st.2.1.at fun o e => hk ax (by simp) o e, hk x1 (by simp) _ st.2.2⟩
  item := fun i s Q E hi st hQ => by
    refine wpAny_pyNext_list_item st.1 st.2.1 (x := items[i]) (by simp [hi]) fun h' hit' hs' => ?_
    exact hQ _ h' s.toks (by simp [hi]) ⟨hit', st.2.1.extBut hs'.extBut hne, hs'.extBut x1 _ hx st.2.2⟩ fun b o hb e => hs'.extBut b o (fun h => hb (by simp [h])) e
  done := fun s Q E st hQ => list_end_hot ⟨hh, o1, vs1, st.2.2, d1, c1⟩ hx st.1 st.2.1 (by simp) fun h' he' => hQ h' s.toks fun b o hb e => he' b o (fun h => hb (by simp [h])) e
  self := fun _ _ _ _ st hQ => wpAny_pyIter_listiter st.1 hQ
section
variable {X : Cx}
/-- the ints of bools -/
def b01 (b : Bool) : Int := if b then 1 else 0
theorem preSum_b01 : ∀ (bs : List Bool) (n : Nat), n ≤ bs.length → preSum (fun i => b01 (bs.getD i false)) n = ((bs.take n).map b01).sum
  | bs, 0, _ => by simp [preSum]
  | bs, n + 1, h => by
    rw [preSum, preSum_b01 bs n (by omega)]
    rw [List.take_add_one, List.getElem?_eq_getElem (by omega), List.map_append, List.sum_append]
    simp [List.getD, List.getElem?_eq_getElem (show n < bs.length by omega)]
theorem sum_hot (hc : L2H.HotC X) : CallR X (.builtin "sum") (fun xs H Q => ∃ (a : Addr) (bs : List Bool), xs = [.ref a] ∧ H a = some (.lst ((bs.map b01).map V.int)) ∧ bs.length ≤ 1000 ∧ Q (.int (bs.map b01).sum) H) := by
  intro pins s σ H xs us Q I r ⟨a, bs, ex, hH, hz, q⟩
  subst ex
  obtain ⟨u, rfl, ru⟩ := vals1 r
  cases ru
  obtain ⟨p, ⟨hh, vs1, d1, c1⟩, hp⟩ := hc
  obtain ⟨its, rv, pl, _⟩ := I.list (SqL.of hH)
  have hget := (I.pin p (List.mem_append_left _ hp)).1
  have hl := pl.isList
  have hlen := rv.length
  rw [List.length_map, List.length_map] at hlen
  refine call_sum_walk (wpAny_pyIter_list hl ?_)
  have na : a < s.heap.objs.size := by obtain ⟨o, e, _⟩ := hl; exact Heap.lt_size e
  have nx : p.1 < s.heap.objs.size := Heap.lt_size hget
  refine ⟨s.heap.objs.size, _, _, its.toArray.size, _, _, fun i => b01 (bs.getD i false), rfl, walks_hot (o1 := p.2) (show X.A.in1.handled = some (.ref p.1) from hh) d1 c1 s.heap.objs.size a (Nat.ne_of_lt na) (Nat.ne_of_lt nx) its.toArray, ?_, ?_, ?_, ?_, ?_⟩
  · exact ⟨⟨_, Heap.get?_push_size _ rfl, rfl, rfl⟩, hl.at fun o e => Heap.get?_push_of_some _ e, Heap.get?_push_of_some _ hget⟩
  · intro b hb
    rw [Heap.size_push]
    simp at hb
    rcases hb with z | z | z
    · rw [z]; exact Nat.lt_succ_self _
    · rw [z]; exact Nat.lt_succ_of_lt na
    · rw [z]; exact Nat.lt_succ_of_lt nx
  · intro i v hv
    have hv2 : its[i]? = some v := by simpa using hv
    have hi : i < bs.length := by
      have := (List.getElem?_eq_some_iff.mp hv2).1
      omega
    have hb : ((bs.map b01).map V.int)[i]? = some (V.int (b01 bs[i])) := by simp [hi]
    obtain ⟨u, e1, e2⟩ := rv.get hb
    rw [hv2] at e1
    cases e1
    obtain ⟨t, rfl⟩ := e2
    refine ⟨t, ?_⟩
    simp [List.getD, List.getElem?_eq_getElem hi]
  · intro j hj
    have small : ∀ k, k ≤ bs.length → 0 ≤ ((bs.take k).map b01).sum ∧ ((bs.take k).map b01).sum ≤ 1000 := fun k hk => by
      have gen : ∀ l : List Bool, 0 ≤ (l.map b01).sum ∧ (l.map b01).sum ≤ l.length := fun l => by
        induction l with
        | nil => simp
        | cons b l ih =>
          rw [List.map_cons, List.sum_cons, List.length_cons]
          have : b01 b = 0 ∨ b01 b = 1 := by cases b <;> simp [b01]
          omega
      have := gen (bs.take k)
      rw [List.length_take] at this
      omega
    have hj2 : j < bs.length := by simp at hj; omega
    have s1 := small (j + 1) (by omega)
    dsimp only
    rw [preSum_b01 bs (j + 1) (by omega)]
    have : b01 (bs.getD j false) = 0 ∨ b01 (bs.getD j false) = 1 := by cases bs.getD j false <;> simp [b01]
    unfold InLong
    omega
  · intro h' tk t' hk
    have e1 : its.toArray.size = bs.length := by rw [List.size_toArray]; omega
    rw [e1, preSum_b01 bs bs.length (Nat.le_refl _), List.take_length]
    refine ⟨.int (bs.map b01).sum, H, I.kept (t' := tk) fun b o e => hk b o (fun z => ?_) (Heap.get?_push_of_some _ e), ⟨_, rfl⟩, q⟩
    have z : b = s.heap.objs.size := by simpa using z
    subst z
    exact absurd (Heap.lt_size e) (Nat.lt_irrefl _)
/-- [int(one) for one in names] -/
def tInts (i : Nat) : TE := fun σ H Q => ∃ (a : Addr) (bs : List Bool), σ[i]? = some (some (.ref a)) ∧ H a = some (.lst (bs.map V.bl)) ∧ bs.length ≤ 1000 ∧ ∀ p, H p = none → Q (.ref p) (upd H p (.lst ((bs.map b01).map V.int)))
theorem vals_bl : ∀ {bs : List Bool} {us : List Value}, Vals (bs.map V.bl) us → us = bs.map Value.bool
  | [], _, h => by cases h; rfl
  | b :: bs, _, h => by
    cases h with
    | cons a r =>
      cases a
      rw [vals_bl r]
      rfl
theorem b01_vals : ∀ {bs : List Bool} {zs : List Value}, Paired (fun v y => ∃ b t, v = Value.bool b ∧ y = Value.int (b01 b) t) (bs.map Value.bool) zs → Vals ((bs.map b01).map V.int) zs
  | [], _, h => by cases h; exact .nil
  | b :: bs, _, h => by
    cases h with
    | cons a r =>
      obtain ⟨b', t, e1, e2⟩ := a
      cases e1
      exact .cons ⟨t, e2⟩ (b01_vals r)
theorem ints_hot (hc : L2H.HotC X) {i : Nat} {nm one : Str} {scope : Scope} {p1 p2 p3 p4 p5 pos : Pos} (hN : X.N[i]? = some nm) (hv : Vis X.env.scope nm) (hd : (nm == ("__debug__" : Str)) = false) (hcd : (nm == ("__classdict__" : Str)) = false)
    (hfree : ∀ y ∈ scope.names, y.2 ≠ .free) (hcell : ∀ y ∈ scope.names, y.2 ≠ .cell) (hkind : scope.kind = .function) (hnames : ∀ y ∈ scope.names, y.2 = .local → scope.names.lookup y.1 = some .local) (hx : scope.names.lookup one = some .local)
    (hi : scope.names.lookup ("int" : Str) = some .globalImplicit) (hm : X.mg "int" = none) (hd1 : (one == ("__debug__" : Str)) = false) (hcd1 : (one == ("__classdict__" : Str)) = false) :
    L2.PE X (.ListComp (.Call (.Name "int" p1) [.Name one p2] [] p3) [⟨.Name one p4, .Name nm p5, [], 0⟩] scope pos) (tInts i) := by
  refine ⟨fun pins s σ H Q I ⟨a, bs, hs, hH, hz, q⟩ => ?_⟩
  refine wpAny_ListComp_walk (fun _ => true) (fun v y => ∃ b t, v = .bool b ∧ y = .int (b01 b) t) hfree hcell hkind hnames hx (thn ((pe_var (pos := p5) hN hv hd hcd).run pins s σ H (fun v H1 => v = .ref a ∧ H1 = H) I ⟨.ref a, hs, rfl, rfl⟩) fun u s1 ⟨v, H1, I1, r1, e1, e2⟩ => ?_) (fun _ => rfl)
  subst e1 e2
  cases r1
  obtain ⟨p, ⟨hh, vs1, d1, c1⟩, hp⟩ := hc
  obtain ⟨its, rv, pl, _⟩ := I1.list (SqL.of hH)
  obtain rfl := vals_bl rv
  have hget := (I1.pin p (List.mem_append_left _ hp)).1
  have hl := pl.isList
  have na : a < s1.heap.objs.size := by obtain ⟨o, e, _⟩ := hl; exact Heap.lt_size e
  have nx : p.1 < s1.heap.objs.size := Heap.lt_size hget
  refine wpAny_pyIter_list hl ?_
  refine ⟨s1.heap.objs.size, _, _, (bs.map Value.bool).toArray.size, _, _, rfl, walks_hot (o1 := p.2) hh d1 c1 s1.heap.objs.size a (Nat.ne_of_lt na) (Nat.ne_of_lt nx) (bs.map Value.bool).toArray, ?_, ?_, ?_, ?_, ?_⟩
  · rw [List.size_toArray, List.length_map, sizeLine_eq]; omega
  · exact ⟨⟨_, Heap.get?_push_size _ rfl, rfl, rfl⟩, hl.at fun o e => Heap.get?_push_of_some _ e, Heap.get?_push_of_some _ hget⟩
  · intro b hb
    rw [Heap.size_push]
    simp at hb
    rcases hb with z | z | z
    · rw [z]; exact Nat.lt_succ_self _
    · rw [z]; exact Nat.lt_succ_of_lt na
    · rw [z]; exact Nat.lt_succ_of_lt nx
  · refine ⟨fun C j v s₃ m₃ E' hP hn hmx hk ht => wpAny_tests_nil ⟨rfl, s₃.heap, s₃.toks, rfl, fun _ _ e => e⟩, fun C j v s₃ m₃ E' hP _ hn hmx hk ht => ?_⟩
    have hb : ∃ b, v = Value.bool b := by
      have h1 : (bs.map Value.bool)[j]? = some v := by simpa using hP
      rw [List.getElem?_map] at h1
      cases e : bs[j]? with
      | none => rw [e] at h1; cases h1
      | some b => rw [e] at h1; cases h1; exact ⟨b, rfl⟩
    obtain ⟨b, rfl⟩ := hb
    have kp : ∀ b o, X.base.get? b = some o → s₃.heap.get? b = some o := fun b o e => by
      have e1 := I1.bk b o e
      exact hk b o (fun z => by
        have z : b = s1.heap.objs.size := by simpa using z
        subst z
        exact absurd (Heap.lt_size e1) (Nat.lt_irrefl _)) (Heap.get?_push_of_some _ e1)
    obtain ⟨mb, b1, b2⟩ := I1.mod.blt
    have ke : (compEnv scope C X.env).scope.kind = .function := hkind
    refine Call_ (Calls.Name_function_global ke hi (Calls.loadGlobal_builtin (mg := X.mg) (mb := mb) ?_ hm ?_ ((b2 "int" (by decide)).trans bt_int) ?_))
    · show s₃.heap.Ns X.env.globals X.mg
      rw [I1.ok.glob]
      exact I1.mod.glob.keeps kp
    · show s₃.heap.Ns X.env.builtins mb
      rw [I1.ok.blt]
      exact b1.keeps kp
    · refine PyProof.Rows.callWith_type1 (args_cons (wpAny_Name (wpAny_loadName_local ke hx hn hmx (args_nil ?_)) hd1)) rfl rfl
      exact call_int_bool ⟨⟨b, _, rfl, rfl⟩, s₃.heap, _, rfl, fun _ _ e => e⟩
  · intro D h' tk ys vs hD hl' hpl hlen hP hF hk
    have k : ∀ b o, s1.heap.get? b = some o → h'.get? b = some o := fun b o e => hk b o (fun z => by
      have z : b = s1.heap.objs.size := by simpa using z
      subst z
      exact absurd (Heap.lt_size e) (Nat.lt_irrefl _)) (Heap.get?_push_of_some _ e)
    have hD1 : s1.heap.get? D = none := by
      cases e : s1.heap.get? D with
      | none => rfl
      | some o => rw [Heap.get?_push_of_some _ e] at hD; cases hD
    have hn := I1.hok.gone hD1
    have hvs : vs = bs.map Value.bool := by
      apply List.ext_getElem?
      intro j
      by_cases hj : j < vs.length
      · have h1 := hP j vs[j] (List.getElem?_eq_getElem hj)
        rw [List.getElem?_eq_getElem hj]
        simpa using h1.symm
      · rw [List.getElem?_eq_none (by omega), List.getElem?_eq_none (by simp at hlen ⊢; omega)]
    subst hvs
    have hv2 : Vals ((bs.map b01).map V.int) ys.toList := by
      rw [List.filter_eq_self.mpr (fun _ _ => rfl)] at hF
      exact b01_vals hF
    obtain ⟨n', hget'⟩ := hpl
    refine ⟨.ref D, _, I1.laidN (t' := tk) (o := .lst ((bs.map b01).map V.int)) k hD1 hn ⟨?_, ys.toList, n', hv2, ?_⟩, rfl, q D hn⟩
    · rw [List.length_map, List.length_map, sizeLine_eq]; omega
    · rw [Array.toArray_toList]; exact hget'
end
end MPH
end
section
set_option Elab.async false
set_option linter.all false
set_option maxRecDepth 100000
set_option maxHeartbeats 4000000
/-! MP: the law's own word for an error, within an except suite -/
namespace MPH
open PySem PySem.Spec PyProof.Rows L2 MP
/-- what is known of the error classes -/
structure ErrK (K : PySem.W.Frag) (mg : Str → Option Value) (T : Tab) (G : Gd) : Prop where
  names : T.excs = ((["NotAllowed", "TooLarge", "Missing", "BadPaper", "BadForm"] : List String).map Str.ofString)
  mgs : ∀ k x, T.excs[k]? = some x → mg x = some (.ref (G.ca k))
  exc : ∀ k, k < 5 → ExcC K (G.ca k)
  kit : ∀ k j, k < 5 → j < 5 → PySem.W.kitOne K (.ref (G.ca k)) (.ref (G.ca j)) = some (decide (k = j))
  fr1 : mg "isinstance" = none
  fr2 : mg "sum" = none
  fr3 : mg "int" = none
theorem isE {X : Cx} {p : Addr × Obj} {D : Addr} (C : ExcC X.K D) (hp : p ∈ X.pn) (h1 : p.2.cls = .ref D) (h2 : p.2.dict = none) (hf : ∃ vs, p.2.data = .fields vs) : CallR X (.builtin "isinstance") (rIsE X.K D p.1) := by
  intro pins s σ H xs us Q I r ⟨c, cv, b, ex, hcv, e, q⟩
  subst ex
  obtain ⟨u, v, rfl, ru, rv⟩ := vals2 r
  cases ru
  have ec := hcv _ rv
  subst ec
  obtain ⟨hget, _⟩ := I.pin p (List.mem_append_left _ hp)
  have J : PySem.W.InstAt s.heap p.1 p.2 D none := by
    obtain ⟨a, oc, od, oda, osl⟩ := p
    obtain ⟨vs, hv⟩ := hf
    dsimp only at h1 h2 hv
    subst h1 h2 hv
    exact ⟨hget, rfl, rfl, trivial⟩
  exact PySem.W.kia_one (PySem.W.handS_kitx_exc C.hg C.hk C.hs C.hd C.ha C.hn C.ht C.hm) I.kIn J e (fun z => nomatch z) fun tk => ⟨.bl b, H, I.kept (t' := tk) fun _ _ z => z, rfl, q⟩
def isCall (sc : Scope) (c : String) : Expr → Bool
  | .Call (.Name f _) [.Name e _, .Name x _] [] _ => decide (f = "isinstance") && decide (e = "e") && decide (x = Str.ofString c) && decide (sc.names.lookup (Str.ofString c) = some .globalImplicit) && decide (sc.names.lookup ("isinstance" : Str) = some .globalImplicit) && decide (sc.names.lookup ("e" : Str) = some .local)
  | _ => false
def isWord (w : String) : Expr → Bool
  | .Constant (.str x) _ _ => decide (x = Str.ofString w)
  | _ => false
section
variable {X : Cx} {K : PySem.W.Frag} {mg : Str → Option Value} {T : Tab} {G : Gd} {sc : Scope} {p : Addr × Obj} {k : Nat}
theorem call_is (h : ErrK X.K X.mg T G) (hsc : X.env.scope = sc) (hN : X.N[0]? = some ("e" : Str)) (hp : p ∈ X.pn) (hk : k < 5) (h1 : p.2.cls = .ref (G.ca k)) (h2 : p.2.dict = none) (hf : ∃ vs, p.2.data = .fields vs) {j : Nat} (hj : j < 5) {c : String} (hc : T.excs[j]? = some (Str.ofString c)) (hd : (Str.ofString c == ("__debug__" : Str)) = false) {e : Expr} (ck : isCall sc c e = true) :
    starred e = false ∧ L2.PE X e (fun σ H Q => σ[0]? = some (some (.ref p.1)) ∧ Q (.bl (decide (k = j))) H) := by
  unfold isCall at ck
  split at ck
  · rename_i f pf e' pe' x px pos
    simp only [Bool.and_eq_true, decide_eq_true_eq] at ck
    obtain ⟨⟨⟨⟨⟨rfl, rfl⟩, rfl⟩, g1⟩, g2⟩, g3⟩ := ck
    subst hsc
    refine ⟨rfl, ?_⟩
    have a1 : L2.PE X (.Name "e" pe') (tVar 0) := pe_var hN (.inl g3)
    have a2 : L2.PE X (.Name (Str.ofString c) px) (tC (.ref (G.ca j))) := pe_glob g1 (h.mgs j _ hc) rfl hd
    refine PEimp (pe_callB (isE (h.exc k hk) hp h1 h2 hf) g2 h.fr1 bt_isinst (pa_cons a1 (pa_cons a2 pa_nil))) fun σ H Q ⟨hs, q⟩ => ?_
    exact ⟨_, hs, .ref (G.ca j), .ref (G.ca j), _, rfl, fun u r => r, h.kit k j hk hj, q⟩
  · cases ck
theorem word_pe {w : String} {e : Expr} (ck : isWord w e = true) : starred e = false ∧ L2.PE X e (tC (.str (Str.ofString w))) := by
  unfold isWord at ck
  split at ck
  · rw [decide_eq_true_eq] at ck
    subst ck
    exact ⟨rfl, pe_str⟩
  · cases ck
end
/-- the text of _law_error -/
def ckErr (sc : Scope) : List Stmt → Bool
  | [.Assign [.Name n1 _] (.List [i0, i1, i2, i3, i4] _) _,
     .If (.Compare (.Call (.Name s _) [.ListComp (.Call (.Name it _) [.Name o1 _] [] _) [⟨.Name o2 _, .Name n2 _, [], 0⟩] scp _] [] _) [.NotEq] [.Constant (.int 1) _ _] _) [.Return (some (.Constant (.str _) _ _)) _] [] _,
     .Return (some (.Subscript (.List [w0, w1, w2, w3, w4] _) (.Call (.Attribute (.Name n3 _) ix apos) [.Constant (.bool true) _ _] [] cpos) _)) _] =>
    isCall sc "NotAllowed" i0 && isCall sc "TooLarge" i1 && isCall sc "Missing" i2 && isCall sc "BadPaper" i3 && isCall sc "BadForm" i4 &&
    isWord "refused" w0 && isWord "large" w1 && isWord "missing" w2 && isWord "paper" w3 && isWord "form" w4 &&
    decide (n1 = "names") && decide (n2 = "names") && decide (n3 = "names") && decide (sc.names.lookup ("names" : Str) = some .local) &&
    decide (s = "sum") && decide (sc.names.lookup ("sum" : Str) = some .globalImplicit) && decide (it = "int") && decide (o1 = "one") && decide (o2 = "one") &&
    decide (ix = "index") && (apos.endLine == cpos.line) &&
    (scp.names.all fun y => decide (y.2 ≠ .free) && decide (y.2 ≠ .cell) && (decide (y.2 ≠ .local) || decide (scp.names.lookup y.1 = some .local))) && decide (scp.kind = .function) &&
    decide (scp.names.lookup ("one" : Str) = some .local) && decide (scp.names.lookup ("int" : Str) = some .globalImplicit)
  | _ => false
/-- what it promises -/
def spErr (G : Gd) : (Addr × Obj) → Sp := fun p vs H Q _ => ∃ k, k < 5 ∧ p.2.cls = .ref (G.ca k) ∧ p.2.dict = none ∧ vs = [.ref p.1] ∧ ∀ H' v x, errWord k = .str x → v = .str x → (∀ b o, H b = some o → H' b = some o) → Q v H'
def bsOf (k : Nat) : List Bool := [decide (k = 0), decide (k = 1), decide (k = 2), decide (k = 3), decide (k = 4)]
theorem idx_of (k : Nat) (hk : k < 5) : prim .index [.lst ((bsOf k).map .bl), .bl true] = some (.int k) := by
  have : k = 0 ∨ k = 1 ∨ k = 2 ∨ k = 3 ∨ k = 4 := by omega
  rcases this with rfl | rfl | rfl | rfl | rfl <;> rfl
theorem sum_of (k : Nat) (hk : k < 5) : ((bsOf k).map b01).sum = 1 := by
  have : k = 0 ∨ k = 1 ∨ k = 2 ∨ k = 3 ∨ k = 4 := by omega
  rcases this with rfl | rfl | rfl | rfl | rfl <;> decide
def wordsV : List V := (["refused", "large", "missing", "paper", "form"] : List String).map fun x => V.str (Str.ofString x)
theorem word_of (k : Nat) (hk : k < 5) : ∃ x, errWord k = .str x ∧ L2.atI wordsV (k : Int) = some (.str x) := by
  have : k = 0 ∨ k = 1 ∨ k = 2 ∨ k = 3 ∨ k = 4 := by omega
  rcases this with rfl | rfl | rfl | rfl | rfl <;> exact ⟨_, rfl, rfl⟩
theorem body_err {X : Cx} {T : Tab} {G : Gd} {p : Addr × Obj} {body : List Stmt} {k : Nat} (hG : G.K = X.K) (hu : X.A.units + 70 < cLine) (hot : L2H.HotC X) (h : ErrK X.K X.mg T G) (hN : X.N = ((["e", "names"] : List String).map Str.ofString)) (hp : p ∈ X.pn) (hf : ∃ vs, p.2.data = .fields vs) (ck : ckErr X.env.scope body = true)
    (hk : k < 5) (h1 : p.2.cls = .ref (G.ca k)) (h2 : p.2.dict = none) :
    ∃ t, L2.PSs X body t ∧ ∀ (H : Hp) (Q : VK), (∀ H' v x, errWord k = .str x → v = .str x → (∀ b o, H b = some o → H' b = some o) → Q v H') → t { nx := fun _ H' => Q .non H', rt := Q } (L2.start X.N [.ref p.1]) H := by
  unfold ckErr at ck
  split at ck
  · rename_i n1 pn1 i0 i1 i2 i3 i4 pl pa s ps it pit o1 po1 pc o2 po2 n2 pn2 scp plc pcs k1 pk1 pcm wd pwd pwk prt pif w0 w1 w2 w3 w4 pwl n3 pn3 ix apos kb pb cpos psub pret
    simp only [Bool.and_eq_true, decide_eq_true_eq] at ck
    obtain ⟨⟨⟨⟨⟨⟨⟨⟨⟨⟨⟨⟨⟨⟨⟨⟨⟨⟨⟨⟨⟨⟨⟨⟨c0, c1⟩, c2⟩, c3⟩, c4⟩, d0⟩, d1⟩, d2⟩, d3⟩, d4⟩, rfl⟩, rfl⟩, rfl⟩, gn⟩, rfl⟩, gs⟩, rfl⟩, rfl⟩, rfl⟩, rfl⟩, hl⟩, hs⟩, hk1⟩, hone⟩, hint⟩ := ck
    simp only [List.all_eq_true, Bool.and_eq_true, Bool.or_eq_true, decide_eq_true_eq] at hs
    have N0 : X.N[0]? = some ("e" : Str) := by rw [hN]; rfl
    have N1 : X.N[1]? = some ("names" : Str) := by rw [hN]; rfl
    have nd : X.N.Nodup := by rw [hN]; decide +kernel
    obtain ⟨z0, y0⟩ := call_is h rfl N0 hp hk h1 h2 hf (j := 0) (by decide) (by rw [h.names]; rfl) (by decide) c0
    obtain ⟨z1, y1⟩ := call_is h rfl N0 hp hk h1 h2 hf (j := 1) (by decide) (by rw [h.names]; rfl) (by decide) c1
    obtain ⟨z2, y2⟩ := call_is h rfl N0 hp hk h1 h2 hf (j := 2) (by decide) (by rw [h.names]; rfl) (by decide) c2
    obtain ⟨z3, y3⟩ := call_is h rfl N0 hp hk h1 h2 hf (j := 3) (by decide) (by rw [h.names]; rfl) (by decide) c3
    obtain ⟨z4, y4⟩ := call_is h rfl N0 hp hk h1 h2 hf (j := 4) (by decide) (by rw [h.names]; rfl) (by decide) c4
    obtain ⟨u0, v0⟩ := word_pe (X := X) d0
    obtain ⟨u1, v1⟩ := word_pe (X := X) d1
    obtain ⟨u2, v2⟩ := word_pe (X := X) d2
    obtain ⟨u3, v3⟩ := word_pe (X := X) d3
    obtain ⟨u4, v4⟩ := word_pe (X := X) d4
    have S1 := ps_set (X := X) (i := 1) (pos := pa) (pos' := pn1) nd N1 (.inl gn) (pe_lst (pos := pl) (pa_cons y0 (pa_cons y1 (pa_cons y2 (pa_cons y3 (pa_cons y4 pa_nil (star_cons z4)) (star_cons z3)) (star_cons z2)) (star_cons z1)) (star_cons z0))) rfl (.inr gn)
    have L := ints_hot (X := X) hot (i := 1) (nm := "names") (one := "one") (scope := scp) (p1 := pit) (p2 := po1) (p3 := pc) (p4 := po2) (p5 := pn2) (pos := plc) N1 (.inl gn) (by decide) (by decide) (fun y hy => (hs y hy).1.1) (fun y hy => (hs y hy).1.2) hk1 (fun y hy e => (hs y hy).2.elim (fun z => absurd e z) id) hone hint h.fr3 (by decide) (by decide)
    have Sm := pe_callB (X := X) (p := ps) (pos := pcs) (sum_hot hot) gs h.fr2 bt_sum (pa_cons L pa_nil)
    have S2 := ps_if (X := X) (pos := pif) (pt_cmpR (pos := pcm) op_ne Sm (pe_int (i := 1) (j := k1) (pos := pk1)) rfl) (pss_one (ps_ret (pos := prt) (pe_str (x := wd) (j := pwd) (pos := pwk)))) pss_nil
    have Lw := pe_lst (X := X) (pos := pwl) (pa_cons v0 (pa_cons v1 (pa_cons v2 (pa_cons v3 (pa_cons v4 pa_nil (star_cons u4)) (star_cons u3)) (star_cons u2)) (star_cons u1)) (star_cons u0))
    have Mi := pe_bm (X := X) (cpos := cpos) (apos := apos) F.plainAttrs_list F.slot_list_index F.type_list_index (m_index_list (G := G) hG hu) (pe_var (pos := pn3) N1 (.inl gn)) (pa_cons (pe_bl (b := true) (j := kb) (pos := pb)) pa_nil) rfl (few_ok rfl) hl rfl rfl
    have S3 := ps_ret (X := X) (pos := pret) (pe_ix (pos := psub) ix_list Lw Mi (fun _ _ => rfl))
    refine ⟨_, pss_cons S1 (pss_cons S2 (pss_one S3)), fun H Q hQ => ?_⟩
    have hst : L2.start X.N [.ref p.1] = [some (.ref p.1), none] := by rw [hN]; rfl
    rw [hst]
    refine ⟨rfl, rfl, rfl, rfl, rfl, by rw [sizeLine_eq]; show 5 ≤ 16777216; decide, fun q hq => ?_⟩
    have g1 : ∀ b o, H b = some o → upd H q (.lst ((bsOf k).map V.bl)) b = some o := fun b o e => by rw [upd_ne (ne_of_none e hq)]; exact e
    have eb : (.lst [V.bl (decide (k = 0)), V.bl (decide (k = 1)), V.bl (decide (k = 2)), V.bl (decide (k = 3)), V.bl (decide (k = 4))] : HO) = .lst ((bsOf k).map V.bl) := rfl
    rw [eb]
    refine ⟨q, bsOf k, rfl, upd_same, by show 5 ≤ 1000; decide, fun r hr => ⟨r, bsOf k, rfl, upd_same, by show 5 ≤ 1000; decide, ?_⟩⟩
    have nqr : q ≠ r := fun z => by rw [← z, upd_same] at hr; cases hr
    have g2 : ∀ b o, H b = some o → upd (upd H q (.lst ((bsOf k).map V.bl))) r (.lst (((bsOf k).map b01).map V.int)) b = some o := fun b o e => by rw [upd_ne (ne_of_none (g1 b o e) hr)]; exact g1 b o e
    have hq2 : upd (upd H q (.lst ((bsOf k).map V.bl))) r (.lst (((bsOf k).map b01).map V.int)) q = some (.lst ((bsOf k).map V.bl)) := by rw [upd_ne nqr, upd_same]
    generalize upd (upd H q (.lst ((bsOf k).map V.bl))) r (.lst (((bsOf k).map b01).map V.int)) = H2 at g2 hq2
    rw [sum_of k hk]
    refine ⟨rfl, false, rfl, ?_⟩
    refine ⟨by rw [sizeLine_eq]; show 5 ≤ 16777216; decide, fun w' hw => ?_⟩
    have ew : (.lst [V.str (Str.ofString "refused"), V.str (Str.ofString "large"), V.str (Str.ofString "missing"), V.str (Str.ofString "paper"), V.str (Str.ofString "form")] : HO) = .lst wordsV := rfl
    rw [ew]
    have nqw : q ≠ w' := fun z => by rw [← z, hq2] at hw; cases hw
    have hq3 : upd H2 w' (.lst wordsV) q = some (.lst ((bsOf k).map V.bl)) := by rw [upd_ne nqw]; exact hq2
    have g3 : ∀ b o, H b = some o → upd H2 w' (.lst wordsV) b = some o := fun b o e => by rw [upd_ne (ne_of_none (g2 b o e) hw)]; exact g2 b o e
    have hw3 : upd H2 w' (.lst wordsV) w' = some (.lst wordsV) := upd_same
    generalize upd H2 w' (.lst wordsV) = H3 at hq3 g3 hw3
    have rb : ∀ bs : List Bool, RepL G [] (fun _ => False) H3 (bs.map V.bl) (bs.map .bl) := fun bs => by
      induction bs with
      | nil => exact .nil
      | cons b r ih => exact .cons (.bl b) ih
    refine ⟨_, rfl, .inl ⟨rfl, _, SqL.of hq3⟩, [], fun _ => False, (bsOf k).map .bl, .bl true, .int k, .lst hq3 (rb _), .cons (.dat (.bl true)) .nil, idx_of k hk, by show 5 ≤ 16777216; decide, fun v rv => ?_⟩
    cases rv
    obtain ⟨x, ex, ea⟩ := word_of k hk
    exact ⟨w', wordsV, k, .str x, rfl, rfl, SqL.of hw3, ea, hQ H3 _ x ex rfl g3⟩
  · cases ck
end MPH
end
section
set_option Elab.async false
set_option linter.all false
set_option maxRecDepth 100000
set_option maxHeartbeats 4000000
/-! MP: try .. except BeastError as e: return _law_error(e) -/
namespace MPH
open PySem PySem.Spec PyProof.Rows L2 MP
/-- a def that is called with the handled error -/
def FnE (P : Program) (w : World) (K : PySem.W.Frag) (mg : Str → Option Value) (base : Heap) (f : Addr) (fd : FuncData) (sp : (Addr × Obj) → Sp) : Prop :=
  ∀ (A : Around) (outer : List Env) (s : Shared) (H : Hp) (args : Args) (us : List Value) (vs : List V) (Q : VK) (E : XK) (p : Addr × Obj), L2H.RoomH 1 A → L2H.Hot1 A p → L2H.PinOk outer H s p → Env0 P w K mg base A outer s H → BindsTo s fd args ((["e"] : List Str).zip us) → Vals vs us → vs.length = 1 → sp p vs H Q E →
    codeAny (model P w) A (.call (.ref f) args) (CR (L2N.CX P w) outer P w H s Q E) s
/-- the law's _law_error -/
def LErr (K : PySem.W.Frag) (mg : Str → Option Value) (f : Addr) (fd : FuncData) : Prop :=
  ∃ (name qual : Str) (params : Arguments) (body : List Stmt) (scope : Scope) (dV kV doc pm cdv ct oc : Value) (an od : Option Addr) (osl : Array (Option Value)),
    fd = PySem.W.fnOf name qual params body scope dV kV doc pm an cdv ct ∧ K.lookup f = some ⟨oc, od, .func (PySem.W.fnOf name qual params body scope dV kV doc pm an cdv ct), osl⟩ ∧ PySem.W.codeIn K cdv qual = true ∧
    FnScope ((["e", "names"] : List String).map Str.ofString) ["e"] scope ∧ Binds K fd ["e"] [] ∧ mg "_law_error" = some (.ref f) ∧ PySem.W.keepIn K (.ref f) = true ∧ ckErr scope body = true
section
variable {P : Program} {w : World} {K : PySem.W.Frag} {mg : Str → Option Value} {base : Heap} {T : Tab} {G : Gd} {f : Addr} {fd : FuncData}
theorem fnE_ok (hG : G.K = K) (h : ErrK K mg T G) (l : LErr K mg f fd) : FnE P w K mg base f fd (spErr G) := by
  intro A outer s H args us vs Q E p hr hot hpin e0 hb r hl hsp
  obtain ⟨name, qual, params, body, scope, dV, kV, doc, pm, cdv, ct, oc, an, od, osl, rfl, lk, hcd, Sc, _, _, _, ck⟩ := l
  have kin : K.In s.heap := e0.mod.kin.keeps fun b o e => (e0.bs b o e).1
  have lim : s.heap.NoLimit := e0.mod.nolimit.keeps fun b o e => (e0.bs b o e).1
  have kinds : ∀ y ∈ (["e"] : List Str).zip us, scope.names.lookup y.1 = some .local ∨ (scope.names.lookup y.1 = some .cell ∧ ((cellsFrom (s.heap.objs.size + 1) scope.names []).lookup y.1).isSome = true) := by
    rintro ⟨n, v⟩ hy
    exact (Sc.par n (List.of_mem_zip hy).1).imp id fun q => ⟨q, PySem.W.cellsFrom_some _ _ _ (.inl q)⟩
  refine codeAny_call_function hr.depth (kin _ _ lk) rfl Sc.co Sc.gen rfl (PySem.W.codeRec_of kin hcd) (hb _ _ _ _ (wpAny_newFunctionEnv_cells Sc.kind kinds fun env he s1 x => ?_))
  subst he
  refine ⟨lim.keeps x.toInCall.keep, codeAny_func ?_⟩
  have I : Inv (L2H.cxH (L2N.CX P w) P w K mg base ((["e", "names"] : List String).map Str.ofString) qual scope f cdv A outer s H E p) [] (L2.start ((["e", "names"] : List String).map Str.ofString) vs) H s1 := L2H.inv_startH Sc hpin e0 hl r x
  obtain ⟨k, hk, h1, h2, hvs, hQ⟩ := hsp
  subst hvs
  obtain ⟨hh, vs1, d1, c1⟩ := hot
  have hu := hr.un
  obtain ⟨t, ht, hq⟩ := body_err (X := L2H.cxH (L2N.CX P w) P w K mg base ((["e", "names"] : List String).map Str.ofString) qual scope f cdv A outer s H E p) (T := T) (G := G) (p := p) (body := body) (k := k) hG
    (by show A.units + 3 + 70 < cLine; omega) ⟨p, ⟨hh, vs1, d1, c1⟩, by show p ∈ [p]; simp⟩ h rfl (by show p ∈ [p]; simp) ⟨vs1, d1⟩ ck hk h1 h2
  refine wpAny_mono (ht.run [] s1 _ H _ I (hq H Q hQ)) ?_ fun _ _ z => z
  intro fl s' hs
  cases fl with
  | next =>
    obtain ⟨σ', H', J, q⟩ := hs
    exact ⟨V.non, H', J.os, J.bare, J.base, J.hok, rfl, q⟩
  | ret u =>
    obtain ⟨v, σ', H', J, rv, q⟩ := hs
    exact ⟨v, H', J.os, J.bare, J.base, J.hok, rv, q⟩
  | brk => exact hs.elim fun _ h => h.elim fun _ h => h.2.elim
  | cont => exact hs.elim fun _ h => h.elim fun _ h => h.2.elim
end
/-- what the suite reads -/
def tSu (G : Gd) (i : Nat) (a : Addr) (cls : Value) (d : Option Addr) : TS := fun Z σ H => (∃ τ : L2.St, σ = τ.set i (some (.ref a))) ∧ ∃ k, k < 5 ∧ cls = .ref (G.ca k) ∧ d = none ∧ ∀ H' v x, errWord k = .str x → v = .str x → (∀ b o, H b = some o → H' b = some o) → Z.rt v H'
theorem suite_ok {X : Cx} {T : Tab} {G : Gd} {f : Addr} {fd : FuncData} {i : Nat} {e : Str} {p1 p2 p3 p4 : Pos} (hG : G.K = X.K) (h : ErrK X.K X.mg T G) (l : LErr X.K X.mg f fd) (hr : L2H.RoomH 1 X.A) (hN : X.N[i]? = some e) (hv : Vis X.env.scope e) (ho : okName e = true) (hg : Gl X "_law_error")
    {a : Addr} {oe : Obj} {cls : Value} {d : Option Addr} {pn : List (Addr × Obj)} (hz : L2N.Zn cls d oe) (hf : ∃ vs, oe.data = .fields vs) :
    L2.PSs (X.suite a ((a, oe) :: pn)) [.Return (some (.Call (.Name "_law_error" p1) [.Name e p2] [] p3)) p4] (tSu G i a cls d) := by
  refine pss_one (PSimp (ps_ret (te := fun σ H Q => tSu G i a cls d ⟨fun _ _ => True, Q, fun _ _ => True, fun _ _ => True⟩ σ H) ⟨fun pins s σ H Q I hh => ?_⟩) fun Z σ H hh => hh)
  obtain ⟨⟨τ, hτ⟩, k, hk, rfl, rfl, hQ⟩ := hh
  have F : FnE X.prog X.w X.K X.mg X.base f fd (spErr G) := fnE_ok hG h l
  obtain ⟨_, _, _, _, _, _, _, _, _, _, _, _, _, _, _, _, _, _, _, hb, hm, hkp, _⟩ := l
  have hi : i < τ.length := by
    have l1 : σ.length = X.N.length := I.len
    rw [hτ, List.length_set] at l1
    rw [l1]
    exact (List.getElem?_eq_some_iff.mp hN).1
  have hs : σ[i]? = some (some (.ref a)) := by rw [hτ, List.getElem?_set_self hi]
  refine wpAny_Call_Name_kw (ld_glob I hg hm ?_)
  have pa : L2.PA (X.suite a ((a, oe) :: pn)) [.Name e p2] (tCons (tVar i) tNil) := pa_cons (pe_var hN hv (okName_d ho).1 (okName_d ho).2.1) pa_nil
  refine PySem.W.callWith_K (h₀ := X.base) I.ok.mod.kin hkp (thn (pa.run p3 pins s σ H (fun vs H1 => vs = [.ref a] ∧ H1 = H) I ⟨.ref a, hs, rfl, rfl⟩) fun us s1 ⟨vs, H1, I1, r1, e1, e2⟩ => ⟨I1.kIn, ?_⟩)
  subst e1 e2
  have bt := hb s1 us I1.kIn (by rw [List.append_nil, ← r1.length]; rfl)
  rw [List.append_nil] at bt
  obtain ⟨vs1, d1⟩ := hf
  have P1 := I1.pin (a, oe) (List.mem_append_left _ List.mem_cons_self)
  have hpin : L2H.PinOk X.stack H1 s1 (a, oe) := ⟨P1.1, P1.2.1, fun hm => (List.mem_cons.mp (I1.stkSub a hm)).elim P1.2.2.1 P1.2.2.2.1, P1.2.2.2.2⟩
  refine wpAny_call (codeAny_mono (F (X.suite a ((a, oe) :: pn)).A X.stack s1 H1 ⟨us, []⟩ us [.ref a] Q (fun _ _ _ => False) (a, oe) ⟨hr.dp, hr.un⟩ ⟨rfl, vs1, d1, hz.2.2 vs1 d1⟩ hpin I1.env0 bt r1 rfl ⟨k, hk, hz.1, hz.2.1, rfl, hQ⟩) fun r s' hq => ?_)
  cases r with
  | error e' => exact (L2N.passAt (X := X.suite a ((a, oe) :: pn)) (W := fun _ _ _ _ => False) takesNo σ) pins H1 s1 e' s' I1 hq
  | ok fl =>
    cases fl with
    | ret u => exact I1.after hq
    | next => exact hq.elim
    | brk => exact hq.elim
    | cont => exact hq.elim
/-- the try of a law -/
theorem try_rule {T : Tab} {G : Gd} {cf : CF} {wf n : Nat} {se : SE} {i : Nat} {body : List Stmt} {hs : List ExceptHandler} {pb : PB} (hck : ckH T se i hs = true)
    (facts : ∀ X : Cx, Cok T G cf (n + 1) se X → Sok T G X → ErrK X.K X.mg T G ∧ (∃ f fd, LErr X.K X.mg f fd) ∧ ∃ Bb, X.mg "BeastError" = some (.ref Bb) ∧ ∀ k, k < 5 → PySem.W.exmOne X.K (.ref (G.ca k)) (.ref Bb) = some true) :
    TryRule T G cf wf (n + 1) se i body hs pb := by
  intro X W pos c k tk hbody
  obtain ⟨eK, ⟨f, fd, lE⟩, Bb, hB, hex⟩ := facts X c k
  unfold ckH at hck
  split at hck
  · rename_i b pb' e fn pf e2 pe pc pr ph
    simp only [Bool.and_eq_true, decide_eq_true_eq] at hck
    obtain ⟨⟨⟨⟨⟨⟨⟨rfl, gB⟩, hN⟩, hl⟩, rfl⟩, gf⟩, rfl⟩, ho⟩ := hck
    have hN' : X.N[i]? = some e2 := by rw [c.N]; exact hN
    have hln : X.env.kindOf e2 = some .local := by
      unfold Env.kindOf
      rw [c.sc]
      exact hl
    have rm : L2H.RoomH 1 X.A := L2H.RoomH.mono (L2H.roomH_of c.room) (by omega)
    refine PSimp (L2N.ps_try_as (ts := tSu G i) (Wout := W) (tb := fun W' => tS G W' (evalSs cf wf pb)) k.stk k.frm (by rw [c.N]; exact c.nd) hN' hln ⟨c.glo gB, by decide, .inl hB⟩ tk (fun W' pn xe tk' ow => ?_) (fun a oe cls d pn hz hf => ?_)) fun Z σ H ⟨B, as, fz, st, sim, q⟩ => ?_
    · exact hbody _ W' ⟨c.K, c.N, c.nd, c.sc, c.fn, c.calm, c.room, c.gd, c.fns, c.fnk, c.globs, c.blts, c.mods, c.clss⟩ ⟨ow, k.excs, k.stk, k.frm, k.mg⟩ tk'
    · exact suite_ok c.K eK lE rm hN' (.inl hln) ho (c.glo gf) hz hf
    · refine ⟨B, as, fz, st, sim, ?_⟩
      simp only [evalS] at q
      cases ev : evalSs cf wf pb st with
      | bad => rw [ev] at q; exact q.elim
      | ok fl st' =>
        rw [ev] at q
        dsimp only at q
        cases fl <;> exact q
      | exc kk t =>
        rw [ev] at q
        dsimp only at q
        split at q
        · rename_i h5
          intro σ' as' fz' H' sb sc
          refine ⟨true, hex kk h5, fun _ a ha => ⟨⟨σ', rfl⟩, kk, h5, rfl, rfl, fun H2 v x ex ev' g => ?_⟩, fun z => nomatch z⟩
          have gr : Grow fz' H' fz' H2 := ⟨g, fun _ h => h, fun _ h => .inl h⟩
          refine q as' fz' H2 v (sb.trans gr.simB fun _ h => sc.live h) (gr.simC sc) ?_
          rw [ex, ev']
          exact .str x
        · exact q.elim
  · cases hck
end MPH
end
section
set_option Elab.async false
set_option linter.all false
set_option maxRecDepth 100000
set_option maxHeartbeats 4000000
/-! MP: the end: from the defs' promises to the row -/
namespace MPH
open PySem PySem.Spec PyProof.Rows L2 MP
/-- the law's def is called -/
theorem law_callG {P : Program} {w : World} {K : PySem.W.Frag} {mg mb : Str → Option Value} {k : Nat} {fa a : Addr} {sp : Sp} {s1 : Shared} {vs : List Value} {ns : List Int} (kin : K.In s1.heap) (n1 : s1.heap.Ns mainGlobals mg) (n2 : s1.heap.Ns builtinsNs mb)
    (n3 : ∀ x : Str, x ≠ "__name__" → mb x = bootBuiltins x) (lim : s1.heap.NoLimit) (gens : s1.gens = #[]) (obj : s1.heap.get? a = some { cls := .type "list", data := .seq vs.toArray }) (hi : IntsAre vs ns) (hl : ns.length ≤ sizeLine) (hr : Room k callerA)
    (F : ∀ base : Heap, K.In base → base.Ns mainGlobals mg → ∃ fd ps, Binds K fd ps [] ∧ FnG P w K mg base k fa fd ps sp) (hsp : ∀ H : Hp, ScrAt K H a (ns.map V.int) → sp [.ref a] H (fun v _ => v = .bl true) fun _ _ _ => False) :
    codeAny (model P w) callerA (.call (.ref fa) ⟨[.ref a], []⟩) (fun r s' => r = .ok (.ret (.bool true)) ∧ OldK s1.heap s'.heap ∧ s'.os = s1.os ∧ AllBare s'.gens) s1 := by
  have rv := vals_ints hi
  generalize ho : ({ cls := .type "list", data := .seq vs.toArray } : Obj) = scr at obj
  generalize hH : (fun b => if b = a ∧ K.lookup a = none then some (HO.frz scr (.lst (ns.map V.int))) else none : Hp) = H
  have out : ∀ b, (b ≠ a ∨ K.lookup a ≠ none) → H b = none := fun b h => by
    rw [← hH]
    exact if_neg fun z => h.elim (fun y => y z.1) fun y => y z.2
  have inn : ∀ b u, H b = some u → b = a ∧ K.lookup a = none ∧ u = .frz scr (.lst (ns.map V.int)) := fun b u e => by
    rw [← hH] at e
    dsimp only at e
    split at e
    · rename_i z
      cases e
      exact ⟨z.1, z.2, rfl⟩
    · cases e
  have kept : ∀ {b : Addr} {m : Str → Option Value}, s1.heap.Ns b m → (hidT s1.heap H).Ns b m := fun {b m} ⟨o, es, ep, e, d, r⟩ => by
    refine ⟨o, es, ep, hidT_get e (out b (.inl fun z => ?_)), d, r⟩
    rw [z, obj, ← ho] at e
    cases e
    cases (show Data.seq vs.toArray _ = Data.dict es ep from d)
  have kb : K.In (hidT s1.heap H) := fun b o e => hidT_get (kin b o e) (out b (by
    by_cases hba : b = a
    · exact .inr (by rw [← hba, e]; simp)
    · exact .inl hba))
  have okH : HOk P w H s1.heap := fun b u e => by
    obtain ⟨rfl, _, rfl⟩ := inn b u e
    exact ⟨obj, by rw [List.length_map]; exact hl, vs, _, rv, by rw [obj, ← ho]⟩
  have e0 : Env0 P w K mg (hidT s1.heap H) callerA [] s1 H := ⟨rfl, ⟨kb, kept n1, ⟨mb, kept n2, n3⟩, let ⟨mc, h1, h2⟩ := lim; ⟨mc, kept h1, h2⟩⟩, fun b o e => of_hidT e, Nat.le_of_eq (hidT_size _ _), trivial, fun b hb => (by cases (show b ∈ ([] : List Addr) from hb)), okH, .of_eq gens⟩
  have sc : ScrAt K H a (ns.map V.int) := by
    cases hk : K.lookup a with
    | none =>
      refine .inl ⟨scr, ?_⟩
      rw [← hH]
      exact if_pos ⟨rfl, hk⟩
    | some o =>
      have e := kin a o hk
      rw [obj] at e
      cases e
      refine .inr (.inr ⟨_, vs.toArray, 0, hk, ?_, ?_, ?_, by rw [List.size_toArray, ← rv.length, List.length_map]; exact hl, by simpa using rv⟩)
      · rw [← ho]
      · rw [← ho]
      · rw [← ho]
  obtain ⟨fd, ps, hb, Fg⟩ := F _ kb (kept n1)
  have one : ([.ref a] : List V).length = ps.length := Fg.len _ _ _ _ (hsp H sc)
  have bt := hb s1 [.ref a] kin (by rw [List.append_nil, ← one]; rfl)
  rw [List.append_nil] at bt
  refine codeAny_mono (Fg.run callerA [] s1 H ⟨[.ref a], []⟩ [.ref a] [.ref a] _ _ rfl hr e0 bt (.cons rfl .nil) (hsp H sc)) fun r s' h => ?_
  cases r with
  | error e =>
    have h : L2N.CX P w [] H s1 (fun _ _ _ => False) e s' := h
    unfold L2N.CX at h
    obtain ⟨_, _, _, _, _, _, _, _, _, _, _, h⟩ := h
    simp at h
  | ok fl =>
    cases fl with
    | next => exact h.elim
    | brk => exact h.elim
    | cont => exact h.elim
    | ret u =>
      obtain ⟨v, H', os, bare, un, ok', r', q⟩ := h
      have q' : v = .bl true := q
      subst q'
      obtain rfl : u = Value.bool true := r'
      refine ⟨rfl, OldK.of_keep fun b o e => ?_, os, bare⟩
      cases q : H b with
      | none => exact un.keep b o e q (by intro z; cases (show b ∈ ([] : List Addr) from z)) (by simp)
      | some u =>
        obtain ⟨rfl, _, rfl⟩ := inn b u q
        obtain ⟨e2, _⟩ := ok' b _ (un.frzs b _ _ q)
        rw [obj] at e
        cases e
        exact e2
end MPH
end
section
set_option Elab.async false
set_option linter.all false
set_option maxRecDepth 100000
set_option maxHeartbeats 4000000
/-! MP: the facts of a law's module -/
namespace MPH
open PySem PySem.Spec PyProof.Rows L2 MP He
/-- what isinstance asks of an error class -/
def exB (K : PySem.W.Frag) (x : Str) : Bool := decide (PySem.W.findIn K (.ref (ga K x)) "__getattribute__" = some (some (.builtin "BaseException.__getattribute__"))) && decide (PySem.W.findIn K (.ref (ga K x)) "__getattr__" = some none) &&
  decide (PySem.W.subIn K (.ref (ga K x)) (.type "BaseException") = some true) && PySem.W.hasDictIn K (ga K x) && decide (PySem.W.findIn K (.ref (ga K x)) "__class__" = some (some (.builtin "object.__class__"))) &&
  decide (PySem.W.specialIn K (.builtin "object.__class__") "__get__" = some (some (.builtin "getset_descriptor.__get__"))) && decide (PySem.W.takesIn K (.builtin "object.__class__") = some true) && decide (PySem.W.mroIn K (ga K x) (.type "object") = some true)
theorem exB_ok {K : PySem.W.Frag} {x : Str} (h : exB K x = true) : ExcC K (ga K x) := by
  simp only [exB, Bool.and_eq_true, decide_eq_true_eq] at h
  obtain ⟨⟨⟨⟨⟨⟨⟨h1, h2⟩, h3⟩, h4⟩, h5⟩, h6⟩, h7⟩, h8⟩ := h
  exact ⟨h1, h2, h3, h4, h5, h6, h7, h8⟩
abbrev AlP : Type := Bool × AlD
def gcB (K : PySem.W.Frag) (x : Str) : Bool := eqO (PySem.W.nsIn K mainGlobals x) (some (some (.builtin "math.gcd")))
def obsP (es ms : List Str) (fa : List Fa) (fn : List DefD) (K : PySem.W.Frag) : AlP := (es.all (exB K) && ms.all (gcB K), obsD fa fn K)
def valP (fn : List DefD) : AlP := (true, valD fn)
def obsPG (n : Nat) (es ms : List Str) (fa : List Fa) (fn : List DefD) (g : Addr → Option Obj) : AlP := obsP es ms fa fn (frG g (asD g n))
def hookP (n : Nat) (es ms : List Str) (fa : List Fa) (fn : List DefD) : PySem.W.Hook where
  α := AlP
  obs := fun s => obsPG n es ms fa fn s.heap.get?
  val := fun _ => valP fn
  says := fun _ h => ∃ K : PySem.W.Frag, K.In h ∧ obsP es ms fa fn K = valP fn
  of := fun _ _ e => ⟨_, frG_in, e⟩
  keeps := fun _ _ _ ⟨K, hK, c⟩ k => ⟨K, PySem.W.Frag.In.keeps hK k, c⟩
theorem obsPG_eq {n : Nat} {es ms : List Str} {fa : List Fa} {fn : List DefD} {g : Addr → Option Obj} {s : Shared} (h : ∀ a, g a = s.heap.get? a) : obsPG n es ms fa fn g = (hookP n es ms fa fn).obs s := by
  have e : g = s.heap.get? := funext h
  rw [e] <;> rfl
/-! ### the defs -/
structure DRec where
  x : Str
  params : Arguments
  body : List Stmt
  scope : Scope
  N : List Str
  np : Nat
  pb : PB
  at_ : Str × Option Str
  name : Str
def DRec.dd (r : DRec) : DefD := ⟨r.at_, r.name, r.x, r.params, r.body, r.scope, [], []⟩
def DRec.fd (r : DRec) : FDef := ⟨r.np, r.N.length, r.pb⟩
def scC (N : List Str) (np : Nat) (sc : Scope) : Bool := decide (sc.kind = .function) && !sc.isCoroutine && !sc.isGenerator && decide N.Nodup && decide (np ≤ N.length) && ((N.take np).all fun x => decide (sc.names.lookup x = some .local) || decide (sc.names.lookup x = some .cell)) && sc.names.all fun y => decide (y.2 ≠ .free)
theorem scC_ok {N : List Str} {np : Nat} {sc : Scope} (h : scC N np sc = true) : FnScope N (N.take np) sc ∧ (N.take np).length = np := by
  simp only [scC, Bool.and_eq_true, Bool.not_eq_true', decide_eq_true_eq, List.all_eq_true, Bool.or_eq_true] at h
  obtain ⟨⟨⟨⟨⟨⟨h1, h2⟩, h3⟩, h4⟩, h5⟩, h6⟩, h7⟩ := h
  have hl : (N.take np).length = np := by rw [List.length_take]; omega
  exact ⟨⟨h1, h2, h3, h4, by rw [hl], h6, h7⟩, hl⟩
def DRec.ok (T : Tab) (r : DRec) : Bool := scC r.N r.np r.scope && ckB T ⟨r.N, r.scope, fun _ => true⟩ r.pb r.body
def BindP (name x : Str) (params : Arguments) (body : List Stmt) (scope : Scope) (ps : List Str) : Prop := ∀ (kV doc pm : Value) (an : Option Addr) (cdv ct : Value) (us : List Value), us.length = ps.length → bindArgs (PySem.W.fnOf name x params body scope .none kV doc pm an cdv ct) ⟨us, []⟩ = pure (ps.zip us)
def GG (K : PySem.W.Frag) (mg : Str → Option Value) (T : Tab) (ats : List (Str × Option Str)) : Gd := ⟨K, fun i => fAd K (ats.getD i (("law" : Str), none)), fun k => ga K (T.excs.getD k "NotAllowed"), mg, fun i => ga K ((T.clss.map CInf.name).getD i "law")⟩
/-- the facts of a class -/
def clsFa (cd : CInf) : List Fa := [.glo cd.name, .cls cd.name, .mkr cd.name] ++ (cd.flds.map (Fa.noat cd.name) ++ cd.mths.map fun p => Fa.meth cd.name p.1)
/-- the methods stand where the class has them -/
def clsAt (ats : List (Str × Option Str)) (cd : CInf) : Bool := (cd.mths.all fun p => decide (ats[p.2]? = some (cd.name, some p.1))) && decide (ats[cd.ini]? = some (cd.name, some ("__init__" : Str)))
/-- the facts that are asked of the head -/
def globFa : List (Str × D) → List Fa
  | [] => []
  | (x, .int i) :: r => .int x i :: globFa r
  | (x, .str z) :: r => .str x z :: globFa r
  | _ :: r => globFa r
def isLit : Str × D → Bool
  | (_, .int _) => true
  | (_, .str _) => true
  | _ => false
def faOf (T : Tab) : List Fa := ((T.fns.filter glN).map Fa.glo ++ T.blts.map Fa.free) ++ ((T.excs.map Fa.glo ++ (T.excs.filter (fun x => decide (x ≠ ("BadForm" : Str)))).map Fa.exc) ++ (T.excs.map (fun x => Fa.exm x "BeastError" true) ++ ((T.excs.flatMap fun x => T.excs.map fun y => Fa.exm x y (decide (x = y))) ++ ([.glo "BeastError", .glo "_law_error", .free "isinstance", .free "sum", .free "int"] ++ (globFa T.globs ++ T.clss.flatMap clsFa)))))
theorem globFa_mem : ∀ {gs : List (Str × D)} {x : Str} {d : D}, (x, d) ∈ gs → isLit (x, d) = true → (∃ i, d = .int i ∧ Fa.int x i ∈ globFa gs) ∨ (∃ z, d = .str z ∧ Fa.str x z ∈ globFa gs)
  | (y, e) :: r, x, d, h, hl => by
    rcases List.mem_cons.mp h with z | z
    · cases z
      cases e <;> first | (simp [isLit] at hl; done) | skip
      · exact .inl ⟨_, rfl, List.mem_cons_self⟩
      · exact .inr ⟨_, rfl, List.mem_cons_self⟩
    · have sub : ∀ f, f ∈ globFa r → f ∈ globFa ((y, e) :: r) := fun f hf => by
        cases e <;> first | exact hf | exact List.mem_cons_of_mem _ hf
      rcases globFa_mem z hl with ⟨i, e1, e2⟩ | ⟨i, e1, e2⟩
      · exact .inl ⟨i, e1, sub _ e2⟩
      · exact .inr ⟨i, e1, sub _ e2⟩
section
variable {K : PySem.W.Frag} {mg : Str → Option Value} {h : Heap} {T : Tab} {recs : List DRec} {er : DRec}
theorem fact_mem {fa : List Fa} {fn : List DefD} (c : SaysD fa fn K) {f : Fa} (hf : f ∈ fa) : f.ok K = true := by
  obtain ⟨i, hi⟩ := List.getElem?_of_mem hf
  exact c.fact i hi
theorem kit_of_exm {t c : Value} {b : Bool} (h : PySem.W.exmOne K t c = some b) (hb : t = c → b = true) : PySem.W.kitOne K t c = some b := by
  unfold PySem.W.exmOne at h
  split at h
  · unfold PySem.W.kitOne
    by_cases e : t = c
    · rw [if_pos (by rw [e]; exact beq_self_eq_true c), hb e]
    · rw [if_neg (by simpa using e)]
      exact h
  · cases h
/-- the whole of what the terms lean on -/
theorem glob_of (X : K.In h) (Gn : h.Ns mainGlobals mg) (c : obsP T.excs T.mods (faOf T) (er.dd :: recs.map DRec.dd) K = valP (er.dd :: recs.map DRec.dd)) (hT : T.fns = recs.map DRec.x) (hlaw : ("law" : Str) ∈ T.fns) (hlit : T.globs.all isLit = true)
    (hexc : T.excs = ((["NotAllowed", "TooLarge", "Missing", "BadPaper", "BadForm"] : List String).map Str.ofString)) (hok : recs.all (DRec.ok T) = true) (hbind : ∀ r ∈ recs, BindP r.name r.x r.params r.body r.scope (r.N.take r.np))
    (her : er.at_ = (("_law_error" : Str), none)) (herN : FnScope ((["e", "names"] : List String).map Str.ofString) ["e"] er.scope) (herB : BindP er.name er.x er.params er.body er.scope ["e"]) (herC : ckErr er.scope er.body = true)
    (hat : ∀ r ∈ recs, glN r.x = true → r.at_ = (r.x, none)) (hcl : T.clss.all (clsAt (recs.map DRec.at_)) = true) (wf : Nat) :
    Glob K mg T (GG K mg T (recs.map DRec.at_)) (recs.map DRec.fd) wf := by
  have cD : SaysD (faOf T) (er.dd :: recs.map DRec.dd) K := congrArg (fun z : AlP => z.2) c
  have cEM : (T.excs.all (exB K) && T.mods.all (gcB K)) = true := congrArg (fun z : AlP => z.1) c
  have cE : T.excs.all (exB K) = true := ((Bool.and_eq_true _ _).mp cEM).1
  have cM : T.mods.all (gcB K) = true := ((Bool.and_eq_true _ _).mp cEM).2
  have fM : ∀ x ∈ T.mods, mg x = some (.builtin "math.gcd") := fun x hx => PySem.W.mg_of X Gn (eqO_ok (List.all_eq_true.mp cM x hx))
  have fact : ∀ {f : Fa}, f ∈ faOf T → f.ok K = true := fun hf => fact_mem cD hf
  have fFn : ∀ x ∈ T.fns, glN x = true → mg x = some (.ref (ga K x)) := fun x hx hg => glo_ok X Gn (fact (List.mem_append_left _ (List.mem_append_left _ (List.mem_map_of_mem (List.mem_filter.mpr ⟨hx, hg⟩)))))
  have fBl : ∀ x ∈ T.blts, mg x = none := fun x hx => free_ok X Gn (fact (List.mem_append_left _ (List.mem_append_right _ (List.mem_map_of_mem hx))))
  have fEx : ∀ x ∈ T.excs, mg x = some (.ref (ga K x)) := fun x hx => glo_ok X Gn (fact (List.mem_append_right _ (List.mem_append_left _ (List.mem_append_left _ (List.mem_map_of_mem hx)))))
  have fEc : ∀ x ∈ T.excs, x ≠ ("BadForm" : Str) → _ := fun x hx hb => exc_ok (fact (List.mem_append_right _ (List.mem_append_left _ (List.mem_append_right _ (List.mem_map_of_mem (List.mem_filter.mpr ⟨hx, decide_eq_true hb⟩))))))
  have fEm : ∀ x ∈ T.excs, PySem.W.exmOne K (.ref (ga K x)) (.ref (ga K "BeastError")) = some true := fun x hx => exm_ok (fact (List.mem_append_right _ (List.mem_append_right _ (List.mem_append_left _ (List.mem_map.mpr ⟨x, hx, rfl⟩)))))
  have fEp : ∀ x ∈ T.excs, ∀ y ∈ T.excs, PySem.W.exmOne K (.ref (ga K x)) (.ref (ga K y)) = some (decide (x = y)) := fun x hx y hy => exm_ok (fact (List.mem_append_right _ (List.mem_append_right _ (List.mem_append_right _ (List.mem_append_left _ (List.mem_flatMap.mpr ⟨x, hx, List.mem_map.mpr ⟨y, hy, rfl⟩⟩))))))
  have fR : ∀ f ∈ ([.glo "BeastError", .glo "_law_error", .free "isinstance", .free "sum", .free "int"] : List Fa) ++ (globFa T.globs ++ T.clss.flatMap clsFa), f.ok K = true := fun f hf => fact (List.mem_append_right _ (List.mem_append_right _ (List.mem_append_right _ (List.mem_append_right _ hf))))
  have fB : mg "BeastError" = some (.ref (ga K "BeastError")) := glo_ok X Gn (fR _ (by simp))
  have fL : mg "_law_error" = some (.ref (ga K "_law_error")) := glo_ok X Gn (fR _ (by simp))
  have f1 : mg "isinstance" = none := free_ok X Gn (fR _ (by simp))
  have f2 : mg "sum" = none := free_ok X Gn (fR _ (by simp))
  have f3 : mg "int" = none := free_ok X Gn (fR _ (by simp))
  have kp : ∀ r ∈ recs, PySem.W.keepIn K (.ref (fAd K r.at_)) = true := fun r hr => by
    obtain ⟨i, hi⟩ := List.getElem?_of_mem hr
    obtain ⟨fd, F⟩ := cD.def_ (i + 1) (d := r.dd) (by rw [List.getElem?_cons_succ, List.getElem?_map, hi]; rfl)
    exact F.kp
  have fC : ∀ cd ∈ T.clss, ∀ f ∈ clsFa cd, f.ok K = true := fun cd hc f hf => fR f (List.mem_append_right _ (List.mem_append_right _ (List.mem_flatMap.mpr ⟨cd, hc, hf⟩)))
  have atI : ∀ i a, (recs.map DRec.at_)[i]? = some a → (GG K mg T (recs.map DRec.at_)).fa i = fAd K a := fun i a e => by
    show fAd K ((recs.map DRec.at_).getD i (("law" : Str), none)) = _
    rw [List.getD, e]
    rfl
  have exAt : ∀ k, k < 5 → T.excs.getD k "NotAllowed" ∈ T.excs := fun k hk => by
    rw [hexc]
    have : k = 0 ∨ k = 1 ∨ k = 2 ∨ k = 3 ∨ k = 4 := by omega
    rcases this with rfl | rfl | rfl | rfl | rfl <;> decide +kernel
  have exNe : ∀ k j, k < 5 → j < 5 → (T.excs.getD k "NotAllowed" = T.excs.getD j "NotAllowed" ↔ k = j) := fun k j hk hj => by
    rw [hexc]
    have : k = 0 ∨ k = 1 ∨ k = 2 ∨ k = 3 ∨ k = 4 := by omega
    have : j = 0 ∨ j = 1 ∨ j = 2 ∨ j = 3 ∨ j = 4 := by omega
    rcases ‹k = 0 ∨ _› with rfl | rfl | rfl | rfl | rfl <;> rcases ‹j = 0 ∨ _› with rfl | rfl | rfl | rfl | rfl <;> decide +kernel
  have errK : ErrK K mg T (GG K mg T (recs.map DRec.at_)) := by
    refine ⟨hexc, fun k x hx => ?_, fun k hk => exB_ok (List.all_eq_true.mp cE _ (exAt k hk)), fun k j hk hj => ?_, f1, f2, f3⟩
    · have : T.excs.getD k "NotAllowed" = x := by rw [List.getD, hx]; rfl
      show mg x = some (.ref (ga K (T.excs.getD k "NotAllowed")))
      rw [this]
      exact fEx x (List.mem_of_getElem? hx)
    · have z := fEp _ (exAt k hk) _ (exAt j hj)
      have e : decide (T.excs.getD k "NotAllowed" = T.excs.getD j "NotAllowed") = decide (k = j) := decide_eq_decide.mpr (exNe k j hk hj)
      rw [e] at z
      refine kit_of_exm z fun q => ?_
      have q' : (Value.ref (ga K (T.excs.getD k "NotAllowed"))) = .ref (ga K (T.excs.getD j "NotAllowed")) := q
      have z2 := fEp _ (exAt k hk) _ (exAt k hk)
      rw [← q', z2] at z
      simpa using z.symm
  refine ⟨rfl, rfl, fun i => ?_, fun x d hd => ?_, fBl, fM, fun i cd hc => ?_, fun k x hx hb => ?_, by rw [hT, List.length_map, List.length_map], fun i x hx => ?_, fun m se i body hs pb hck => try_rule hck fun X' c' k' => ?_⟩
  · show PySem.W.keepIn K (.ref (fAd K ((recs.map DRec.at_).getD i (("law" : Str), none)))) = true
    cases e : recs[i]? with
    | none =>
      rw [List.getD, List.getElem?_map, e]
      rw [hT] at hlaw
      obtain ⟨r, hr, hx⟩ := List.mem_map.mp hlaw
      have z := kp r hr
      rw [hat r hr (by rw [hx]; decide +kernel), hx] at z
      exact z
    | some r => rw [List.getD, List.getElem?_map, e]; exact kp _ (List.mem_of_getElem? e)
  · have hl := List.all_eq_true.mp hlit _ hd
    rcases globFa_mem hd hl with ⟨i, rfl, e2⟩ | ⟨z, rfl, e2⟩
    · obtain ⟨t, e⟩ := int_ok X Gn (fR _ (List.mem_append_right _ (List.mem_append_left _ e2)))
      exact ⟨_, .int i, e, ⟨t, rfl⟩, fun _ _ _ => .int i⟩
    · obtain ⟨t, e⟩ := str_ok X Gn (fR _ (List.mem_append_right _ (List.mem_append_left _ e2)))
      exact ⟨_, .str z, e, ⟨t, rfl⟩, fun _ _ _ => .str z⟩
  · have hcm := List.mem_of_getElem? hc
    have e0 : (GG K mg T (recs.map DRec.at_)).cc i = ga K cd.name := by
      show ga K ((T.clss.map CInf.name).getD i "law") = _
      rw [List.getD, List.getElem?_map, hc]
      rfl
    have hca := List.all_eq_true.mp hcl cd hcm
    simp only [clsAt, Bool.and_eq_true, List.all_eq_true, decide_eq_true_eq] at hca
    obtain ⟨a1, a2⟩ := hca
    rw [e0]
    refine ⟨cls_ok (fC cd hcm _ (by simp [clsFa])), fun x hx => noat_ok (fC cd hcm _ ?_), fun m f hm => ?_, ?_, glo_ok X Gn (fC cd hcm _ (by simp [clsFa]))⟩
    · exact List.mem_append_right _ (List.mem_append_left _ (List.mem_map_of_mem hx))
    · rw [atI f _ (a1 _ hm)]
      exact meth_ok (fC cd hcm _ (List.mem_append_right _ (List.mem_append_right _ (List.mem_map.mpr ⟨_, hm, rfl⟩))))
    · rw [atI _ _ a2]
      exact mkr_ok (fC cd hcm _ (by simp [clsFa]))
  · have e0 : T.excs.getD k "NotAllowed" = x := by rw [List.getD, hx]; rfl
    obtain ⟨e1, e2, e3, e4⟩ := fEc x (List.mem_of_getElem? hx) hb
    show ExcOk K mg x (ga K (T.excs.getD k "NotAllowed"))
    rw [e0]
    exact ⟨_, _, _, _, PySem.F.excBase_ValueError, e1, fEx x (List.mem_of_getElem? hx), e2, e3, e4⟩
  · have hx2 := hx
    rw [hT, List.getElem?_map] at hx2
    cases e : recs[i]? with
    | none => rw [e] at hx2; cases hx2
    | some r =>
      rw [e] at hx2
      cases hx2
      have hr := List.mem_of_getElem? e
      obtain ⟨fd, Fd⟩ := cD.def_ (i + 1) (d := r.dd) (by rw [List.getElem?_cons_succ, List.getElem?_map, e]; rfl)
      have bn := Fd.bindsN (ps := r.N.take r.np) (hbind r hr)
      obtain ⟨oc, od, dV, kV, doc, pm, an, cdv, ct, osl, rfl, lk, hcd, _, _⟩ := Fd.ex
      have ro := List.all_eq_true.mp hok r hr
      rw [DRec.ok, Bool.and_eq_true] at ro
      obtain ⟨s1, s2⟩ := scC_ok ro.1
      have ad : (GG K mg T (recs.map DRec.at_)).fa i = fAd K r.at_ := atI i _ (by rw [List.getElem?_map, e]; rfl)
      refine ⟨r.fd, by rw [List.getElem?_map, e]; rfl, r.name, r.x, r.params, r.body, r.scope, dV, kV, doc, pm, cdv, ct, oc, an, od, osl, r.N, r.N.take r.np, ?_, hcd, s1, bn, ?_, ro.2, s2.symm, rfl⟩
      · rw [ad]; exact lk
      · intro hgl
        rw [ad, hat r hr hgl]
        exact fFn _ (List.mem_of_getElem? hx) hgl
  · have eK : X'.K = K := c'.K.symm
    have eM : X'.mg = mg := k'.mg
    rw [eK, eM]
    refine ⟨errK, ?_, ga K "BeastError", fB, fun k hk => fEm _ (exAt k hk)⟩
    obtain ⟨fd, Fd⟩ := cD.def_ 0 (d := er.dd) rfl
    have bn := Fd.bindsN (ps := ["e"]) herB
    have kp' := Fd.kp
    obtain ⟨oc, od, dV, kV, doc, pm, an, cdv, ct, osl, rfl, lk, hcd, _, _⟩ := Fd.ex
    have ad : fAd K er.dd.at_ = ga K "_law_error" := by
      show fAd K er.at_ = _
      rw [her]
      rfl
    rw [ad] at lk kp'
    exact ⟨ga K "_law_error", _, er.name, er.x, er.params, er.body, er.scope, dV, kV, doc, pm, cdv, ct, oc, an, od, osl, rfl, lk, hcd, herN, bn, fL, kp', herC⟩
end
/-- the law's def, called with a script, from what the terms say -/
theorem walk_law {l : PySem.W.OpenLaw} {q : Program} {loose : List Str} {XP : (Str → Option Value) → Heap → Prop} {d : DefRec} {T : Tab} {recs : List DRec} {er : DRec} {wf m i : Nat} (hn : l.most = some 63) (hdf : d.params.defaults = []) (hname : d.name = ("law" : Str)) (hi : T.fns[i]? = some ("law" : Str))
    (hT : T.fns = recs.map DRec.x) (hlit : T.globs.all isLit = true) (hexc : T.excs = ((["NotAllowed", "TooLarge", "Missing", "BadPaper", "BadForm"] : List String).map Str.ofString)) (hok : recs.all (DRec.ok T) = true) (hbind : ∀ r ∈ recs, BindP r.name r.x r.params r.body r.scope (r.N.take r.np))
    (her : er.at_ = (("_law_error" : Str), none)) (herN : FnScope ((["e", "names"] : List String).map Str.ofString) ["e"] er.scope) (herB : BindP er.name er.x er.params er.body er.scope ["e"]) (herC : ckErr er.scope er.body = true)
    (hat : ∀ r ∈ recs, glN r.x = true → r.at_ = (r.x, none)) (hcl : T.clss.all (clsAt (recs.map DRec.at_)) = true) (hm : m ≤ 100)
    (plain : ∀ ns : List Int, ns.length ≤ 63 → ∃ t, callF (recs.map DRec.fd) wf m i [.scr ns] [] = .ok (.bl true) t) :
    PySem.W.WalkO q loose XP (hookP 4 T.excs T.mods (faOf T) (er.dd :: recs.map DRec.dd)).says l.row.toRowW d [] (fun f vs => PySem.call f vs) := by
  refine Att.attach_call hn hdf fun w s₀ s₁ mg mb fa o pm cd doc a vs ns Gr Y ho hd hcd hmg hobj hints hlen hg => ?_
  obtain ⟨K, KX, c⟩ := Y
  have g := glob_of KX Gr.T.g c hT (List.mem_of_getElem? hi) hlit hexc hok hbind her herN herB herC hat hcl wf
  have hr : Room (2 * m + 1) callerA := ⟨rfl, by
    have : callerA.depth + 3 * 201 + 5 < recursionLimit := by decide
    omega, by
    have : callerA.units + 16 * 201 + 200 < cLine := by decide
    omega⟩
  have adr : fa = (GG K mg T (recs.map DRec.at_)).fa i := by
    obtain ⟨fd, ps, e, _⟩ := all_fns (P := l.prog) (w := w) (base := s₁.heap) g m i _ hi
    rw [hname, e (by decide +kernel)] at hmg
    cases hmg
    rfl
  subst adr
  refine law_callG KX Gr.T.g Gr.T.b Gr.T.builtins Gr.T.nolimit hg hobj hints (Nat.le_trans hlen (by rw [sizeLine_eq]; decide)) hr (fun base _ _ => ?_) (sp := spI (GG K mg T (recs.map DRec.at_)) (callF (recs.map DRec.fd) wf m) i) fun H sc => ?_
  · obtain ⟨fd, ps, _, _, hb, F⟩ := all_fns (P := l.prog) (w := w) (base := base) g m i _ hi
    exact ⟨fd, ps, hb, F⟩
  · obtain ⟨t, e⟩ := plain ns hlen
    refine ⟨[.scr ns], [], fun _ => False, [], .cons (.scr sc (by omega)) .nil, ⟨List.nodup_nil, rfl, fun j c a h => by simp at h, fun a h => h.elim⟩, ?_⟩
    rw [e]
    intro as' fz' H' v _ _ rd
    cases rd
    rfl
end MPH
end
section
set_option Elab.async false
set_option linter.all false
set_option maxRecDepth 100000
set_option maxHeartbeats 4000000
/-! MP: how the interpreter is reckoned with -/
namespace MP
open PySem
theorem wipe_in_eq {loc : List Slot} {j : Nat} : ∀ {vs : List Nat}, j ∈ vs → j < loc.length → (MP.wipe loc vs)[j]? = some .unb := fun {vs} h hl => by
  have hl2 : j < (MP.wipe loc vs).length := by rw [wipe_len]; exact hl
  rw [List.getElem?_eq_getElem hl2]
  rw [wipe_in h _ (List.getElem?_eq_getElem hl2)]
theorem unwipe_in_eq {old new : List Slot} {j : Nat} : ∀ {vs : List Nat}, j ∈ vs → j < new.length → (unwipe old new vs)[j]? = some (match old[j]? with
    | some (.val d) => .val d
    | _ => .unb)
  | i :: r, h, hl => by
    rw [unwipe]
    by_cases hj : i = j
    · subst hj
      rw [List.getElem?_set_self (by rw [unwipe_len]; exact hl)] <;> rfl
    · rw [List.getElem?_set_ne hj]
      rcases List.mem_cons.mp h with z | z
      · exact absurd z.symm hj
      · exact unwipe_in_eq z hl
theorem unwipe_same {old a b : List Slot} {vs : List Nat} (h : MP.wipe a vs = MP.wipe b vs) : unwipe old a vs = unwipe old b vs := by
  have hl : a.length = b.length := by rw [← wipe_len a vs, h, wipe_len]
  apply List.ext_getElem?
  intro j
  by_cases hj : j ∈ vs
  · by_cases hb : j < b.length
    · rw [unwipe_in_eq hj (by omega), unwipe_in_eq hj hb]
    · rw [List.getElem?_eq_none (by rw [unwipe_len]; omega), List.getElem?_eq_none (by rw [unwipe_len]; omega)]
  · rw [unwipe_get hj, unwipe_get hj, ← wipe_get (loc := a) hj, h, wipe_get hj]
theorem wipe_idem (loc : List Slot) (vs : List Nat) : MP.wipe (MP.wipe loc vs) vs = MP.wipe loc vs := by
  apply List.ext_getElem?
  intro j
  by_cases hj : j ∈ vs
  · by_cases hb : j < loc.length
    · rw [wipe_in_eq hj (by rw [wipe_len]; exact hb), wipe_in_eq hj hb]
    · rw [List.getElem?_eq_none (by rw [wipe_len, wipe_len]; omega), List.getElem?_eq_none (by rw [wipe_len]; omega)]
  · rw [wipe_get hj]
/-- a loop of a comprehension, by an invariant -/
theorem compLoop_inv {vs : List Nat} {f : D → S → Out (List D)} (I : List D → List D → S → Prop) (hI : ∀ p a s, I p a s → I p a s) : ∀ (xs p a : List D) (s : S), I p a s →
    (∀ p x r a s, p ++ x :: r = p ++ x :: r → I p a s → x ∈ xs → ∃ es s', f x { s with loc := MP.wipe s.loc vs } = .ok es s' ∧ I (p ++ [x]) (a ++ es) s') → ∃ es s', compLoop vs f xs s = .ok es s' ∧ I (p ++ xs) (a ++ es) s'
  | [], p, a, s, h, _ => ⟨[], s, rfl, by rw [List.append_nil, List.append_nil]; exact h⟩
  | x :: r, p, a, s, h, k => by
    obtain ⟨es, s1, e1, h1⟩ := k p x r a s rfl h List.mem_cons_self
    obtain ⟨fs, s2, e2, h2⟩ := compLoop_inv I hI r (p ++ [x]) (a ++ es) s1 h1 fun p y q b s e i hm => k p y q b s e i (List.mem_cons_of_mem _ hm)
    refine ⟨es ++ fs, s2, ?_, ?_⟩
    · rw [compLoop, e1]
      simp only [bind_ok]
      rw [e2]
      rfl
    · rw [List.append_assoc] at h2
      rw [← List.append_assoc]
      exact h2
/-- a comprehension that leaves the store as it is -/
theorem comp_pure {cf : CF} {elt : PE} {t : Tgt} {it : Iter} {cs : PL} {vs : List Nat} {s s1 : S} {xs : List D} (g : D → Option D) (hI : evalI cf it s = .ok xs s1)
    (hf : ∀ x ∈ xs, ∃ loc', turnF cf elt t cs x { s1 with loc := MP.wipe s1.loc vs } = .ok (g x).toList { s1 with loc := loc' } ∧ MP.wipe loc' vs = MP.wipe s1.loc vs) (hl : xs.length ≤ 1000000) :
    evalE cf (.comp elt t it cs vs) s = .ok (.lst (xs.filterMap g)) { s1 with loc := unwipe s1.loc s1.loc vs } := by
  rw [evalE_comp, hI]
  simp only [bind_ok]
  have key : ∀ (ys : List D) (s' : S), (∀ y ∈ ys, y ∈ xs) → s'.sto = s1.sto → MP.wipe s'.loc vs = MP.wipe s1.loc vs → ∃ s'', compLoop vs (turnF cf elt t cs) ys s' = .ok (ys.filterMap g) s'' ∧ s''.sto = s1.sto ∧ MP.wipe s''.loc vs = MP.wipe s1.loc vs := by
    intro ys
    induction ys with
    | nil => exact fun s' _ h1 h2 => ⟨s', rfl, h1, h2⟩
    | cons y r ih =>
      intro s' hm h1 h2
      obtain ⟨loc', e1, e2⟩ := hf y (hm y List.mem_cons_self)
      have es : ({ s' with loc := MP.wipe s'.loc vs } : S) = { s1 with loc := MP.wipe s1.loc vs } := by rw [h2, h1]
      obtain ⟨s'', e3, e4, e5⟩ := ih { s1 with loc := loc' } (fun z hz => hm z (List.mem_cons_of_mem _ hz)) rfl e2
      refine ⟨s'', ?_, e4, e5⟩
      rw [compLoop, es, e1]
      simp only [bind_ok]
      rw [e3]
      simp only [bind_ok]
      rw [List.filterMap_cons]
      cases g y <;> rfl
  obtain ⟨s'', e1, e2, e3⟩ := key xs s1 (fun _ h => h) rfl rfl
  rw [e1]
  simp only [calm_ok, bind_ok]
  rw [if_pos (Nat.le_trans (List.length_filterMap_le _ _) hl), e2, unwipe_same e3]
/-! ### texts and sets of texts -/
def setD (xs : List Str) : D := .tup (xs.map .str)
/-- texts that can be laid -/
def okStrs (xs : List Str) : Prop := ∀ x ∈ xs, PyData.strOk x = true
theorem strs_canLay : ∀ {xs : List Str}, okStrs xs → PyData.canLayAll0 (pdL (xs.map .str)) = true
  | [], _ => by simp [pdL, PyData.canLayAll0]
  | x :: xs, h => by
    have h1 := strs_canLay (xs := xs) fun y hy => h y (List.mem_cons_of_mem _ hy)
    have h2 := h x List.mem_cons_self
    simp [pdL, PyData.canLayAll0, D.pd, PyData.canLay0, h1, h2]
theorem strs_depth : ∀ xs : List Str, PyData.depthAll (pdL (xs.map .str)) = 0
  | [] => by simp [pdL, PyData.depthAll]
  | x :: xs => by simp [pdL, PyData.depthAll, D.pd, PyData.depth, strs_depth xs]
theorem strs_flat : ∀ xs : List Str, flatL (xs.map .str) = true
  | [] => rfl
  | x :: xs => by simp [flatL, D.flat, strs_flat xs]
theorem eqD_str (x y : Str) : eqD (.str x) (.str y) = decide (x = y) := by
  unfold eqD
  simp only [D.pd, PyData.eqv]
  rfl
theorem inD_strs (x : Str) (ys : List Str) : inD (.str x) (ys.map .str) = decide (x ∈ ys) := by
  unfold inD
  rw [List.any_map]
  induction ys with
  | nil => simp
  | cons y ys ih =>
    rw [List.any_cons, ih]
    simp only [Function.comp, eqD_str]
    by_cases h : y = x
    · simp [h]
    · have h' : ¬ x = y := fun z => h z.symm
      simp [h, h']
theorem inOk_strs {x : Str} {ys : List Str} (hx : PyData.strOk x = true) (h : okStrs ys) : inOk (.str x) (ys.map .str) = true := by
  simp only [inOk, eqOk, SeqAt.shaped, D.flat, D.pd, PyData.canLay0, PyData.depth, strs_flat, strs_canLay h, strs_depth, hx]
  decide
theorem p_in_set {x : Str} {ys : List Str} (hx : PyData.strOk x = true) (h : okStrs ys) : prim .isIn [.str x, setD ys] = some (.bl (decide (x ∈ ys))) := by
  show p_isIn [.str x, .tup (ys.map .str)] = _
  unfold p_isIn
  simp only [inOk_strs hx h, inD_strs, if_true]
theorem p_notIn_set {x : Str} {ys : List Str} (hx : PyData.strOk x = true) (h : okStrs ys) : prim .notIn [.str x, setD ys] = some (.bl (!decide (x ∈ ys))) := by
  show p_notIn [.str x, .tup (ys.map .str)] = _
  unfold p_notIn
  simp only [inOk_strs hx h, inD_strs, if_true]
theorem p_all_bools (bs : List Bool) : prim .all [.lst (bs.map .bl)] = some (.bl (bs.all id)) := by
  have h : ∀ l : List Bool, boolsOf (l.map .bl) = some l := fun l => by
    induction l with
    | nil => rfl
    | cons b l ih => simp [boolsOf, ih]
  show p_all [.lst (bs.map .bl)] = _
  unfold p_all
  simp only [h, Option.map_some]
/-! ### what the interpreter does, as rewriting -/
@[simp] theorem op_var (cf : CF) (i : Nat) (s : S) : ev1 cf (.var i) s = evalE cf (.var i) s := by simp only [ev1]
@[simp] theorem op_con (cf : CF) (d : D) (s : S) : ev1 cf (.con d) s = evalE cf (.con d) s := by simp only [ev1]
@[simp] theorem op_glob (cf : CF) (x : Str) (d : D) (s : S) : ev1 cf (.glob x d) s = evalE cf (.glob x d) s := by simp only [ev1]
@[simp] theorem op_fnv (cf : CF) (f : Nat) (s : S) : ev1 cf (.fnv f) s = evalE cf (.fnv f) s := by simp only [ev1]
@[simp] theorem op_prim (cf : CF) (p : Prim) (es : PL) (s : S) : ev1 cf (.prim p es) s = evalE cf (.prim p es) s := by simp only [ev1]
@[simp] theorem op_tup (cf : CF) (es : PL) (s : S) : ev1 cf (.tup es) s = evalE cf (.tup es) s := by simp only [ev1]
@[simp] theorem op_lst (cf : CF) (es : PL) (s : S) : ev1 cf (.lst es) s = evalE cf (.lst es) s := by simp only [ev1]
@[simp] theorem op_sl2 (cf : CF) (a b c : PE) (s : S) : ev1 cf (.sl2 a b c) s = evalE cf (.sl2 a b c) s := by simp only [ev1]
@[simp] theorem op_meth (cf : CF) (p : Prim) (a b : PE) (s : S) : ev1 cf (.meth p a b) s = evalE cf (.meth p a b) s := by simp only [ev1]
@[simp] theorem op_tupRng (cf : CF) (a : PE) (s : S) : ev1 cf (.tupRng a) s = evalE cf (.tupRng a) s := by simp only [ev1]
@[simp] theorem op_lstRng (cf : CF) (a : PE) (s : S) : ev1 cf (.lstRng a) s = evalE cf (.lstRng a) s := by simp only [ev1]
@[simp] theorem op_fstr (cf : CF) (es : PL) (s : S) : ev1 cf (.fstr es) s = evalE cf (.fstr es) s := by simp only [ev1]
@[simp] theorem op_nt (cf : CF) (a : PE) (s : S) : ev1 cf (.nt a) s = evalE cf (.nt a) s := by simp only [ev1]
@[simp] theorem op_bop (cf : CF) (k : Bool) (es : PL) (s : S) : ev1 cf (.bop k es) s = evalE cf (.bop k es) s := by simp only [ev1]
@[simp] theorem op_ite (cf : CF) (c a b : PE) (s : S) : ev1 cf (.ite c a b) s = evalE cf (.ite c a b) s := by simp only [ev1]
@[simp] theorem op_chain (cf : CF) (o1 o2 : Prim) (a b c : PE) (s : S) : ev1 cf (.chain o1 o2 a b c) s = evalE cf (.chain o1 o2 a b c) s := by simp only [ev1]
@[simp] theorem op_call (cf : CF) (f : Nat) (es : PL) (s : S) : ev1 cf (.call f es) s = evalE cf (.call f es) s := by simp only [ev1]
@[simp] theorem op_callv (cf : CF) (e : PE) (es : PL) (s : S) : ev1 cf (.callv e es) s = evalE cf (.callv e es) s := by simp only [ev1]
@[simp] theorem op_comp (cf : CF) (elt : PE) (t : Tgt) (it : Iter) (cs : PL) (vs : List Nat) (s : S) : ev1 cf (.comp elt t it cs vs) s = evalE cf (.comp elt t it cs vs) s := by simp only [ev1]
@[simp] theorem op_fld (cf : CF) (c : Nat) (o : PE) (x : Str) (s : S) : ev1 cf (.fld c o x) s = evalE cf (.fld c o x) s := by simp only [ev1]
@[simp] theorem op_mcal (cf : CF) (c f : Nat) (m : Str) (o : PE) (es : PL) (s : S) : ev1 cf (.mcal c f m o es) s = evalE cf (.mcal c f m o es) s := by simp only [ev1]
@[simp] theorem op_mk (cf : CF) (c f : Nat) (es : PL) (s : S) : ev1 cf (.mk c f es) s = evalE cf (.mk c f es) s := by simp only [ev1]
@[simp] theorem op_dnew (cf : CF) (k : Bool) (s : S) : ev1 cf (.dnew k) s = evalE cf (.dnew k) s := by simp only [ev1]
@[simp] theorem op_lcell (cf : CF) (es : PL) (s : S) : ev1 cf (.lcell es) s = evalE cf (.lcell es) s := by simp only [ev1]
@[simp] theorem op_tcell (cf : CF) (es : PL) (s : S) : ev1 cf (.tcell es) s = evalE cf (.tcell es) s := by simp only [ev1]
@[simp] theorem op_dget (cf : CF) (o k : PE) (s : S) : ev1 cf (.dget o k) s = evalE cf (.dget o k) s := by simp only [ev1]
@[simp] theorem op_din (cf : CF) (neg : Bool) (k o : PE) (s : S) : ev1 cf (.din neg k o) s = evalE cf (.din neg k o) s := by simp only [ev1]
@[simp] theorem op_peek (cf : CF) (i : Nat) (s : S) : ev1 cf (.peek i) s = rdPeek i s := by simp only [ev1]
@[simp] theorem ev_var (cf : CF) (i : Nat) (s : S) : evalE cf (.var i) s = rdVar i s := by simp only [evalE]
@[simp] theorem ev_con (cf : CF) (d : D) (s : S) : evalE cf (.con d) s = .ok d s := by simp only [evalE]
@[simp] theorem ev_glob (cf : CF) (x : Str) (d : D) (s : S) : evalE cf (.glob x d) s = .ok d s := by simp only [evalE]
@[simp] theorem ev_fnv (cf : CF) (f : Nat) (s : S) : evalE cf (.fnv f) s = .ok (.fn f) s := by simp only [evalE]
@[simp] theorem ev_prim (cf : CF) (p : Prim) (es : PL) (s : S) : evalE cf (.prim p es) s = (evalO cf es s).bind fun ds s' => toOut (prim p (ds.map (deref s'.sto))) s' := by simp only [evalE]
@[simp] theorem ev_tup (cf : CF) (es : PL) (s : S) : evalE cf (.tup es) s = (evalL cf es s).bind fun ds s' => if ds.length ≤ 1000 then .ok (.tup ds) s' else .bad := by simp only [evalE]
@[simp] theorem ev_lst (cf : CF) (es : PL) (s : S) : evalE cf (.lst es) s = (evalL cf es s).bind fun ds s' => if ds.length ≤ 1000 then .ok (.lst ds) s' else .bad := by simp only [evalE]
@[simp] theorem ev_fstr (cf : CF) (es : PL) (s : S) : evalE cf (.fstr es) s = evalF cf es Str.empty s := by simp only [evalE]
@[simp] theorem ev_bop (cf : CF) (k : Bool) (es : PL) (s : S) : evalE cf (.bop k es) s = evalB cf k es s := by simp only [evalE]
@[simp] theorem ev_call (cf : CF) (f : Nat) (es : PL) (s : S) : evalE cf (.call f es) s = (evalL cf es s).bind fun ds s' => callO cf f ds s' := by simp only [evalE]
def notR : D → S → Out D
  | .bl b, s => .ok (.bl !b) s
  | _, _ => .bad
def iteR (cf : CF) (a b : PE) : D → S → Out D
  | .bl true, s => evalE cf a s
  | .bl false, s => evalE cf b s
  | _, _ => .bad
def rngR (k : List D → D) : D → S → Out D
  | .int i, s => if 0 ≤ i ∧ i ≤ 100000 then .ok (k (rngL 0 i)) s else .bad
  | _, _ => .bad
def callR (cf : CF) (es : PL) : D → S → Out D
  | .fn f, s => (evalL cf es s).bind fun ds s' => callO cf f ds s'
  | _, _ => .bad
@[simp] theorem notR_bl (b : Bool) (s : S) : notR (.bl b) s = .ok (.bl !b) s := rfl
@[simp] theorem iteR_t (cf : CF) (a b : PE) (s : S) : iteR cf a b (.bl true) s = evalE cf a s := rfl
@[simp] theorem iteR_f (cf : CF) (a b : PE) (s : S) : iteR cf a b (.bl false) s = evalE cf b s := rfl
@[simp] theorem rngR_int (k : List D → D) (i : Int) (s : S) : rngR k (.int i) s = if 0 ≤ i ∧ i ≤ 100000 then .ok (k (rngL 0 i)) s else .bad := rfl
@[simp] theorem callR_fn (cf : CF) (es : PL) (f : Nat) (s : S) : callR cf es (.fn f) s = (evalL cf es s).bind fun ds s' => callO cf f ds s' := rfl
@[simp] theorem ev_nt (cf : CF) (a : PE) (s : S) : evalE cf (.nt a) s = (evalE cf a s).bind notR := by
  simp only [evalE]
  congr
  funext d s'
  cases d <;> rfl
@[simp] theorem ev_ite (cf : CF) (c a b : PE) (s : S) : evalE cf (.ite c a b) s = (evalE cf c s).bind (iteR cf a b) := by
  simp only [evalE]
  congr
  funext d s'
  cases d <;> first | rfl | (rename_i x; cases x <;> rfl)
@[simp] theorem ev_tupRng (cf : CF) (a : PE) (s : S) : evalE cf (.tupRng a) s = (evalE cf a s).bind (rngR .tup) := by
  simp only [evalE]
  congr
  funext d s'
  cases d <;> rfl
@[simp] theorem ev_lstRng (cf : CF) (a : PE) (s : S) : evalE cf (.lstRng a) s = (evalE cf a s).bind (rngR .lst) := by
  simp only [evalE]
  congr
  funext d s'
  cases d <;> rfl
@[simp] theorem ev_callv (cf : CF) (e : PE) (es : PL) (s : S) : evalE cf (.callv e es) s = (evalE cf e s).bind (callR cf es) := by
  simp only [evalE]
  congr
  funext d s'
  cases d <;> rfl
/-- a, b, .. of and, or -/
def bopR (cf : CF) (k : Bool) (r : PL) : D → S → Out D
  | .bl b, s => if b = k then evalB cf k r s else .ok (.bl b) s
  | _, _ => .bad
@[simp] theorem bopR_bl (cf : CF) (k : Bool) (r : PL) (b : Bool) (s : S) : bopR cf k r (.bl b) s = if b = k then evalB cf k r s else .ok (.bl b) s := rfl
@[simp] theorem evB_one (cf : CF) (k : Bool) (e : PE) (s : S) : evalB cf k (.cons e .nil) s = evalE cf e s := by simp only [evalB]
@[simp] theorem evB_cons (cf : CF) (k : Bool) (e f : PE) (r : PL) (s : S) : evalB cf k (.cons e (.cons f r)) s = (evalE cf e s).bind (bopR cf k (.cons f r)) := by
  simp only [evalB]
  congr
  funext d s'
  cases d <;> rfl
/-- a test of a clause -/
def tesR (cf : CF) (r : PL) : D → S → Out Bool
  | .bl true, s => evalC cf r s
  | .bl false, s => .ok false s
  | _, _ => .bad
@[simp] theorem tesR_t (cf : CF) (r : PL) (s : S) : tesR cf r (.bl true) s = evalC cf r s := rfl
@[simp] theorem tesR_f (cf : CF) (r : PL) (s : S) : tesR cf r (.bl false) s = .ok false s := rfl
@[simp] theorem evC_nil (cf : CF) (s : S) : evalC cf .nil s = .ok true s := by simp only [evalC]
@[simp] theorem evC_cons (cf : CF) (e : PE) (r : PL) (s : S) : evalC cf (.cons e r) s = (evalE cf e s).bind (tesR cf r) := by
  simp only [evalC]
  congr
  funext d s'
  cases d <;> first | rfl | (rename_i x; cases x <;> rfl)
@[simp] theorem evL_nil (cf : CF) (s : S) : evalL cf .nil s = .ok [] s := evalL_nil cf s
@[simp] theorem evL_cons (cf : CF) (e : PE) (r : PL) (s : S) : evalL cf (.cons e r) s = (evalE cf e s).bind fun d s' => (evalL cf r s').bind fun ds s'' => .ok (d :: ds) s'' := evalL_cons cf e r s
@[simp] theorem evO_nil (cf : CF) (s : S) : evalO cf .nil s = .ok [] s := evalO_nil cf s
@[simp] theorem evO_cons (cf : CF) (e : PE) (r : PL) (s : S) : evalO cf (.cons e r) s = (ev1 cf e s).bind fun d s' => (evalO cf r s').bind fun ds s'' => .ok (d :: ds) s'' := evalO_cons cf e r s
@[simp] theorem toOut_some (d : D) (s : S) : toOut (some d) s = .ok d s := rfl
@[simp] theorem toOut_none (s : S) : toOut none s = .bad := rfl
@[simp] theorem ofOpt_some {α : Type} (s : S) (f : S → Out α) : ofOpt (some s) f = f s := rfl
@[simp] theorem ofOpt_none {α : Type} (f : S → Out α) : ofOpt none f = .bad := rfl
/-! ### statements -/
def ifR (cf : CF) (wf : Nat) (a b : PB) : D → S → Out Fl
  | .bl true, s => evalSs cf wf a s
  | .bl false, s => evalSs cf wf b s
  | _, _ => .bad
@[simp] theorem ifR_t (cf : CF) (wf : Nat) (a b : PB) (s : S) : ifR cf wf a b (.bl true) s = evalSs cf wf a s := rfl
@[simp] theorem ifR_f (cf : CF) (wf : Nat) (a b : PB) (s : S) : ifR cf wf a b (.bl false) s = evalSs cf wf b s := rfl
def seqR (cf : CF) (wf : Nat) (r : PB) : Fl → S → Out Fl
  | .nx, s => evalSs cf wf r s
  | f, s => .ok f s
@[simp] theorem seqR_nx (cf : CF) (wf : Nat) (r : PB) (s : S) : seqR cf wf r .nx s = evalSs cf wf r s := rfl
@[simp] theorem seqR_ret (cf : CF) (wf : Nat) (r : PB) (d : D) (s : S) : seqR cf wf r (.ret d) s = .ok (.ret d) s := rfl
@[simp] theorem seqR_brk (cf : CF) (wf : Nat) (r : PB) (s : S) : seqR cf wf r .brk s = .ok .brk s := rfl
@[simp] theorem seqR_cnt (cf : CF) (wf : Nat) (r : PB) (s : S) : seqR cf wf r .cnt s = .ok .cnt s := rfl
@[simp] theorem ss_nil' (cf : CF) (wf : Nat) (s : S) : evalSs cf wf .nil s = .ok .nx s := by simp only [evalSs]
@[simp] theorem ss_cons' (cf : CF) (wf : Nat) (a : PS) (r : PB) (s : S) : evalSs cf wf (.cons a r) s = (evalS cf wf a s).bind (seqR cf wf r) := by
  simp only [evalSs]
  congr
  funext f s'
  cases f <;> rfl
@[simp] theorem st_set (cf : CF) (wf : Nat) (t : Tgt) (e : PE) (s : S) : evalS cf wf (.set t e) s = (evalE cf e s).bind fun d s' => ofOpt (assign t d s') fun s'' => .ok .nx s'' := by simp only [evalS]
@[simp] theorem st_if (cf : CF) (wf : Nat) (c : PE) (a b : PB) (s : S) : evalS cf wf (.ife c a b) s = (evalE cf c s).bind (ifR cf wf a b) := by
  simp only [evalS]
  congr
  funext d s'
  cases d <;> first | rfl | (rename_i x; cases x <;> rfl)
@[simp] theorem st_ret (cf : CF) (wf : Nat) (e : PE) (s : S) : evalS cf wf (.ret e) s = (evalE cf e s).bind fun d s' => .ok (.ret d) s' := by simp only [evalS]
@[simp] theorem st_retn (cf : CF) (wf : Nat) (s : S) : evalS cf wf .retn s = .ok (.ret .non) s := by simp only [evalS]
@[simp] theorem st_rais (cf : CF) (wf : Nat) (c : Nat) (s : S) : evalS cf wf (.rais c) s = .exc c s.sto := by simp only [evalS]
@[simp] theorem st_expr (cf : CF) (wf : Nat) (e : PE) (s : S) : evalS cf wf (.expr e) s = (evalE cf e s).bind fun _ s' => .ok .nx s' := by simp only [evalS]
@[simp] theorem st_brk (cf : CF) (wf : Nat) (s : S) : evalS cf wf .brk s = .ok .brk s := by simp only [evalS]
@[simp] theorem st_cnt (cf : CF) (wf : Nat) (s : S) : evalS cf wf .cnt s = .ok .cnt s := by simp only [evalS]
@[simp] theorem st_pas (cf : CF) (wf : Nat) (s : S) : evalS cf wf .pas s = .ok .nx s := by simp only [evalS]
@[simp] theorem runRes_ret (d : D) (s : S) : runRes (.ok (.ret d) s) = .ok d s.sto := rfl
@[simp] theorem runRes_nx (s : S) : runRes (.ok .nx s) = .ok .non s.sto := rfl
@[simp] theorem runRes_exc (c : Nat) (t : Sto) : runRes (.exc c t) = .exc c t := rfl
@[simp] theorem deref_str (t : Sto) (x : Str) : deref t (.str x) = .str x := rfl
@[simp] theorem deref_int (t : Sto) (x : Int) : deref t (.int x) = .int x := rfl
@[simp] theorem deref_bl (t : Sto) (x : Bool) : deref t (.bl x) = .bl x := rfl
@[simp] theorem deref_non (t : Sto) : deref t .non = .non := rfl
@[simp] theorem deref_tup (t : Sto) (x : List D) : deref t (.tup x) = .tup x := rfl
@[simp] theorem deref_lst (t : Sto) (x : List D) : deref t (.lst x) = .lst x := rfl
@[simp] theorem deref_fn (t : Sto) (x : Nat) : deref t (.fn x) = .fn x := rfl
@[simp] theorem deref_scr (t : Sto) (x : List Int) : deref t (.scr x) = .scr x := rfl
@[simp] theorem deref_set (t : Sto) (x : List Str) : deref t (setD x) = setD x := rfl
theorem p_all_map {α : Type} (l : List α) (g : α → Bool) : prim .all [.lst (l.map fun x => .bl (g x))] = some (.bl (l.all g)) := by
  have e : (l.map fun x => D.bl (g x)) = (l.map g).map .bl := by rw [List.map_map]; rfl
  rw [e, p_all_bools, List.all_map]
  rfl
theorem filterMap_some {α : Type} (f : α → D) (g : D → Option D) (h : α → D) (hg : ∀ x, g (f x) = some (h x)) (l : List α) : (l.map f).filterMap g = l.map h := by
  rw [List.filterMap_map]
  induction l with
  | nil => rfl
  | cons x l ih => rw [List.filterMap_cons, Function.comp, hg x, List.map_cons, ih]
/-! ### loops -/
@[simp] theorem st_whl (cf : CF) (wf : Nat) (c : PE) (b : PB) (s : S) : evalS cf wf (.whl c b) s = whileN (evalE cf c) (evalSs cf wf b) wf s := by simp only [evalS]
@[simp] theorem st_forr (cf : CF) (wf : Nat) (t : Tgt) (it : Iter) (b : PB) (s : S) : evalS cf wf (.forr t it b) s = (evalI cf it s).bind fun xs s1 => forLoop (fun d s2 => ofOpt (assign t d s2) fun s3 => evalSs cf wf b s3) xs s1 := by simp only [evalS]
/-- a loop that runs through, by what it makes of a -/
theorem forLoop_fold {α : Type} {f : D → S → Out Fl} (emb : α → S) (g : α → D → α) (P : α → Prop) : ∀ (xs : List D) (a : α), P a → (∀ x ∈ xs, ∀ a, P a → f x (emb a) = .ok .nx (emb (g a x)) ∧ P (g a x)) → forLoop f xs (emb a) = .ok .nx (emb (xs.foldl g a)) ∧ P (xs.foldl g a)
  | [], a, h, _ => ⟨rfl, h⟩
  | x :: r, a, h, k => by
    obtain ⟨e1, h1⟩ := k x List.mem_cons_self a h
    obtain ⟨e2, h2⟩ := forLoop_fold emb g P r (g a x) h1 fun y hy => k y (List.mem_cons_of_mem _ hy)
    refine ⟨?_, h2⟩
    rw [forLoop, e1]
    simp only [bind_ok]
    rw [e2]
    rfl
theorem whileN_step {c : S → Out D} {b : S → Out Fl} {n : Nat} {s s1 s2 : S} (h1 : c s = .ok (.bl true) s1) (h2 : b s1 = .ok .nx s2) : whileN c b (n + 1) s = whileN c b n s2 := by
  rw [whileN, h1]
  simp only [bind_ok]
  rw [h2]
  rfl
theorem whileN_done {c : S → Out D} {b : S → Out Fl} {n : Nat} {s s1 : S} (h1 : c s = .ok (.bl false) s1) : whileN c b (n + 1) s = .ok .nx s1 := by
  rw [whileN, h1]
  rfl
@[simp] theorem evI_seq (cf : CF) (p : PE) (s : S) : evalI cf (.seq p) s = (ev1 cf p s).bind fun d s' => match itemsOf d with
    | some xs => .ok xs s'
    | none => .bad := evalI_seq cf p s
@[simp] theorem items_set (xs : List Str) : itemsOf (setD xs) = some (xs.map .str) := rfl
/-! ### objects -/
section
variable {cf : CF} {wf : Nat} {s s1 s2 s3 : S}
theorem fld_ok {c j : Nat} {o : PE} {x : Str} {ks : List Str} {xs : List D} {d : D} (h : evalE cf o s = .ok (.ref j) s1) (e : s1.sto[j]? = some (.ins c ks xs)) (l : lookS ks xs x = some d) : evalE cf (.fld c o x) s = .ok d s1 := by
  simp only [evalE, h, bind_ok, e, if_true, l, toOut_some]
theorem mcal_ok {c f j : Nat} {m : Str} {o : PE} {es : PL} {ks : List Str} {xs ds : List D} (h : evalE cf o s = .ok (.ref j) s1) (e : s1.sto[j]? = some (.ins c ks xs)) (hm : m ∉ ks) (l : evalL cf es s1 = .ok ds s2) : evalE cf (.mcal c f m o es) s = callO cf f (.ref j :: ds) s2 := by
  simp only [evalE, h, bind_ok, e, hm, not_false_eq_true, and_self, if_true, l]
theorem mk_ok {c f : Nat} {es : PL} {ds : List D} {t : Sto} (l : evalL cf es s = .ok ds s1) (h : cf f (.ref s1.sto.length :: ds) (s1.sto ++ [.ins c [] []]) = .ok .non t) : evalE cf (.mk c f es) s = .ok (.ref s1.sto.length) { s1 with sto := t } := by
  simp only [evalE, l, bind_ok, h]
theorem dnew_ok {k : Bool} : evalE cf (.dnew k) s = .ok (.ref s.sto.length) { s with sto := s.sto ++ [if k then .dK [] [] else .dT [] []] } := by
  simp only [evalE]
theorem lcell_ok {es : PL} {ds : List D} (l : evalL cf es s = .ok ds s1) (hl : ds.length ≤ 1000) : evalE cf (.lcell es) s = .ok (.ref s1.sto.length) { s1 with sto := s1.sto ++ [.lst ds] } := by
  simp only [evalE, l, bind_ok, hl, if_true]
theorem tcell_ok {es : PL} {ds : List D} (l : evalL cf es s = .ok ds s1) (hl : ds.length ≤ 1000) : evalE cf (.tcell es) s = .ok (.ref s1.sto.length) { s1 with sto := s1.sto ++ [.tup ds] } := by
  simp only [evalE, l, bind_ok, hl, if_true]
theorem dget_ok {j : Nat} {o k : PE} {c : Cell} {kd v : D} (h : evalE cf o s = .ok (.ref j) s1) (hk : evalE cf k s1 = .ok kd s2) (e : s2.sto[j]? = some c) (g : cellGet s2.sto c kd = some (some v)) : evalE cf (.dget o k) s = .ok v s2 := by
  simp only [evalE, h, bind_ok, hk, e, g]
theorem din_ok {j : Nat} {neg : Bool} {o k : PE} {c : Cell} {kd : D} {r : Option D} (hk : evalE cf k s = .ok kd s1) (h : evalE cf o s1 = .ok (.ref j) s2) (e : s2.sto[j]? = some c) (g : cellGet s2.sto c kd = some r) : evalE cf (.din neg k o) s = .ok (.bl (if neg then !r.isSome else r.isSome)) s2 := by
  simp only [evalE, h, bind_ok, hk, e, g]
theorem fset_ok {c j : Nat} {o e : PE} {x : Str} {d : D} {ks : List Str} {xs : List D} (he : evalE cf e s = .ok d s1) (ho : evalE cf o s1 = .ok (.ref j) s2) (q : s2.sto[j]? = some (.ins c ks xs)) (hl : ks.length < 900) :
    evalS cf wf (.fset c o x e) s = .ok .nx { s2 with sto := s2.sto.set j (.ins c (putS ks xs x d).1 (putS ks xs x d).2) } := by
  simp only [evalS, he, ho, bind_ok, q, hl, and_self, if_true]
theorem dput_ok {j : Nat} {o k e : PE} {d kd : D} {c c' : Cell} (he : evalE cf e s = .ok d s1) (ho : evalE cf o s1 = .ok (.ref j) s2) (hk : evalE cf k s2 = .ok kd s3) (q : s3.sto[j]? = some c) (hp : cellPut s3.sto c kd d = some c') :
    evalS cf wf (.dput o k e) s = .ok .nx { s3 with sto := s3.sto.set j c' } := by
  simp only [evalS, he, ho, hk, bind_ok, q, hp]
theorem ext_ok {i : Nat} {e : PE} {xs0 xs ys : List D} (h0 : s.loc[i]? = some (.own xs0)) (he : evalE cf e s = .ok (.lst ys) s1) (h1 : s1.loc[i]? = some (.own xs)) (hl : xs.length + ys.length < 1000000) :
    evalS cf wf (.ext i e) s = .ok .nx { s1 with loc := s1.loc.set i (.own (xs ++ ys)) } := by
  simp only [evalS, h0, he, bind_ok, h1, hl, if_true]
end
end MP
end
section
set_option Elab.async false
set_option linter.all false
set_option maxRecDepth 100000
set_option maxHeartbeats 0
namespace K78
open PySem PySem.Spec PyProof.Rows L2 MP MPH
def top (i : Nat) : Stmt := PySem.Challenge.pw_menagerie_k78_how_many_concepts.main.body.getD i (.Pass ⟨0, 0, 0, 0⟩)
def mtop (i j : Nat) : Stmt := match top i with
  | .ClassDef _ _ _ b _ _ _ _ _ _ _ => b.getD j (.Pass ⟨0, 0, 0, 0⟩)
  | _ => .Pass ⟨0, 0, 0, 0⟩
def b_is_name : PB := (.cons (.ife (.bop false (.cons (.prim .lt (.cons (.prim .len (.cons (.var 0) .nil)) (.cons (.con (.int 1)) .nil))) (.cons (.prim .gt (.cons (.prim .len (.cons (.var 0) .nil)) (.cons (.con (.int 12)) .nil))) (.cons (.prim .eq (.cons (.var 0) (.cons (.con (.str "any")) .nil))) (.cons (.prim .notIn (.cons (.prim .item (.cons (.var 0) (.cons (.con (.int 0)) .nil))) (.cons (.glob "FIRST" (.str "abcdefghijklmnopqrstuvwxyz")) .nil))) .nil))))) (.cons (.ret (.con (.bl false))) .nil) .nil) (.cons (.ret (.prim .all (.cons (.comp (.prim .isIn (.cons (.var 1) (.cons (.glob "SIGNS" (.str "abcdefghijklmnopqrstuvwxyz0123456789")) .nil))) (.nm 1) (.seq (.var 0)) .nil [1]) .nil))) .nil))
def b_rising : PB := (.cons (.ret (.prim .all (.cons (.comp (.prim .lt (.cons (.prim .item (.cons (.var 0) (.cons (.var 1) .nil))) (.cons (.prim .item (.cons (.var 0) (.cons (.prim .add (.cons (.var 1) (.cons (.con (.int 1)) .nil))) .nil))) .nil))) (.nm 1) (.rng1 (.prim .sub (.cons (.prim .len (.cons (.var 0) .nil)) (.cons (.con (.int 1)) .nil)))) .nil [1]) .nil))) .nil)
def b_check_words : PB := (.cons (.set (.tp [(.nm 1), (.nm 2)]) (.var 0)) (.cons (.ife (.bop false (.cons (.prim .gt (.cons (.prim .len (.cons (.var 1) .nil)) (.cons (.glob "MAX_WORDS" (.int (24))) .nil))) (.cons (.prim .gt (.cons (.prim .len (.cons (.var 2) .nil)) (.cons (.glob "MAX_WORDS" (.int (24))) .nil))) .nil))) (.cons (.rais 1) .nil) .nil) (.cons (.ife (.nt (.prim .all (.cons (.comp (.call 0 (.cons (.var 3) .nil)) (.nm 3) (.seq (.prim .add (.cons (.var 1) (.cons (.var 2) .nil)))) .nil [3]) .nil))) (.cons (.rais 0) .nil) .nil) (.cons (.ife (.bop false (.cons (.nt (.call 1 (.cons (.var 1) .nil))) (.cons (.nt (.call 1 (.cons (.var 2) .nil))) .nil))) (.cons (.rais 0) .nil) .nil) (.cons (.ret (.con .non)) .nil)))))
def b_check_counted : PB := (.cons (.expr (.call 2 (.cons (.var 0) .nil))) (.cons (.ife (.prim .gt (.cons (.var 1) (.cons (.glob "MAX_COUNTED" (.int (40))) .nil))) (.cons (.rais 1) .nil) .nil) (.cons (.ife (.prim .lt (.cons (.var 1) (.cons (.con (.int 0)) .nil))) (.cons (.rais 0) .nil) .nil) (.cons (.ret (.con .non)) .nil))))
def b_choose : PB := (.cons (.set (.nm 2) (.con (.int 1))) (.cons (.forr (.nm 3) (.rng1 (.var 1)) (.cons (.set (.nm 2) (.prim .fdiv (.cons (.prim .mul (.cons (.var 2) (.cons (.prim .sub (.cons (.var 0) (.cons (.var 3) .nil))) .nil))) (.cons (.prim .add (.cons (.var 3) (.cons (.con (.int 1)) .nil))) .nil)))) .nil)) (.cons (.ret (.var 2)) .nil)))
def b_Counter___init__ : PB := (.cons (.fset 0 (.var 0) "names" (.prim .item (.cons (.var 1) (.cons (.con (.int 0)) .nil)))) (.cons (.fset 0 (.var 0) "roles" (.prim .item (.cons (.var 1) (.cons (.con (.int 1)) .nil)))) (.cons (.fset 0 (.var 0) "by_size" (.dnew true)) (.cons (.fset 0 (.var 0) "by_links" (.dnew false)) .nil))))
def b_Counter_of_size : PB := (.cons (.ife (.din true (.var 1) (.fld 0 (.var 0) "by_size")) (.cons (.set (.nm 2) (.comp (.mcal 0 7 "with_names" (.var 0) (.cons (.var 1) (.cons (.var 3) .nil))) (.nm 3) (.rng1 (.prim .add (.cons (.prim .min2 (.cons (.var 1) (.cons (.prim .len (.cons (.fld 0 (.var 0) "names") .nil)) .nil))) (.cons (.con (.int 1)) .nil)))) .nil [3])) (.cons (.dput (.fld 0 (.var 0) "by_size") (.var 1) (.prim .sum (.cons (.var 2) .nil))) .nil)) .nil) (.cons (.ret (.dget (.fld 0 (.var 0) "by_size") (.var 1))) .nil))
def b_Counter_with_names : PB := (.cons (.ret (.prim .mul (.cons (.call 4 (.cons (.prim .len (.cons (.fld 0 (.var 0) "names") .nil)) (.cons (.var 2) .nil))) (.cons (.mcal 0 9 "of_links" (.var 0) (.cons (.prim .sub (.cons (.var 1) (.cons (.var 2) .nil))) (.cons (.prim .sub (.cons (.var 1) (.cons (.var 2) .nil))) .nil))) .nil)))) .nil)
def b_Counter_links_of : PB := (.cons (.ret (.prim .mul (.cons (.prim .len (.cons (.fld 0 (.var 0) "roles") .nil)) (.cons (.mcal 0 6 "of_size" (.var 0) (.cons (.prim .sub (.cons (.var 1) (.cons (.con (.int 1)) .nil))) .nil)) .nil)))) .nil)
def b_Counter_of_links : PB := (.cons (.ife (.prim .eq (.cons (.var 1) (.cons (.con (.int 0)) .nil))) (.cons (.ret (.con (.int 1))) .nil) .nil) (.cons (.ife (.prim .eq (.cons (.var 2) (.cons (.con (.int 0)) .nil))) (.cons (.ret (.con (.int 0))) .nil) .nil) (.cons (.set (.nm 3) (.tcell (.cons (.var 1) (.cons (.var 2) .nil)))) (.cons (.ife (.din true (.var 3) (.fld 0 (.var 0) "by_links")) (.cons (.set (.nm 4) (.comp (.mcal 0 10 "with_links" (.var 0) (.cons (.var 1) (.cons (.var 2) (.cons (.var 5) .nil)))) (.nm 5) (.rng1 (.prim .add (.cons (.prim .fdiv (.cons (.var 1) (.cons (.var 2) .nil))) (.cons (.con (.int 1)) .nil)))) .nil [5])) (.cons (.dput (.fld 0 (.var 0) "by_links") (.var 3) (.prim .sum (.cons (.var 4) .nil))) .nil)) .nil) (.cons (.ret (.dget (.fld 0 (.var 0) "by_links") (.var 3))) .nil)))))
def b_Counter_with_links : PB := (.cons (.ife (.prim .eq (.cons (.var 3) (.cons (.con (.int 0)) .nil))) (.cons (.ret (.mcal 0 9 "of_links" (.var 0) (.cons (.var 1) (.cons (.prim .sub (.cons (.var 2) (.cons (.con (.int 1)) .nil))) .nil)))) .nil) .nil) (.cons (.ret (.prim .mul (.cons (.call 4 (.cons (.mcal 0 8 "links_of" (.var 0) (.cons (.var 2) .nil)) (.cons (.var 3) .nil))) (.cons (.mcal 0 9 "of_links" (.var 0) (.cons (.prim .sub (.cons (.var 1) (.cons (.prim .mul (.cons (.var 3) (.cons (.var 2) .nil))) .nil))) (.cons (.prim .sub (.cons (.var 2) (.cons (.con (.int 1)) .nil))) .nil))) .nil)))) .nil))
def b_count_of_size : PB := (.cons (.expr (.call 3 (.cons (.var 0) (.cons (.var 1) .nil)))) (.cons (.ret (.mcal 0 6 "of_size" (.mk 0 5 (.cons (.var 0) .nil)) (.cons (.var 1) .nil))) .nil))
def b_law_same : PB := (.cons (.ret (.prim .eq (.cons (.prim .repr (.cons (.lst (.cons (.var 0) .nil)) .nil)) (.cons (.prim .repr (.cons (.lst (.cons (.var 1) .nil)) .nil)) .nil)))) .nil)
def b_law_stream : PB := (.cons (.own 1 (.lst .nil)) (.cons (.forr (.nm 2) (.seq (.prim .sl01 (.cons (.var 0) (.cons (.con (.int 63)) .nil)))) (.cons (.set (.nm 3) (.prim .abs (.cons (.prim .int1 (.cons (.var 2) .nil)) .nil))) (.cons (.ife (.prim .ge (.cons (.var 3) (.cons (.prim .pow (.cons (.con (.int 10)) (.cons (.con (.int 18)) .nil))) .nil))) (.cons (.forr (.nm 4) (.rng1 (.con (.int 60))) (.cons (.app 1 (.prim .mod (.cons (.prim .int1 (.cons (.var 3) .nil)) (.cons (.con (.int 1009)) .nil)))) (.cons (.set (.nm 3) (.prim .fdiv (.cons (.var 3) (.cons (.con (.int 1009)) .nil)))) (.cons (.ife (.prim .eq (.cons (.var 3) (.cons (.con (.int 0)) .nil))) (.cons .brk .nil) .nil) .nil)))) .nil) (.cons (.set (.nm 5) (.prim .mod (.cons (.prim .int1 (.cons (.var 3) .nil)) (.cons (.con (.int 2147483647)) .nil)))) (.cons (.forr (.nm 4) (.rng1 (.con (.int 10))) (.cons (.set (.nm 5) (.prim .mod (.cons (.prim .int1 (.cons (.prim .add (.cons (.prim .add (.cons (.prim .mul (.cons (.var 5) (.cons (.con (.int 48271)) .nil))) (.cons (.prim .mul (.cons (.con (.int 7)) (.cons (.var 4) .nil))) .nil))) (.cons (.con (.int 11)) .nil))) .nil)) (.cons (.con (.int 2147483647)) .nil)))) (.cons (.app 1 (.prim .mod (.cons (.prim .mod (.cons (.prim .int1 (.cons (.prim .add (.cons (.prim .mul (.cons (.var 5) (.cons (.con (.int 69621)) .nil))) (.cons (.var 4) .nil))) .nil)) (.cons (.con (.int 2147483629)) .nil))) (.cons (.con (.int 1009)) .nil)))) .nil))) .nil))) .nil))) (.cons (.ife (.prim .eq (.cons (.prim .len (.cons (.peek 1) .nil)) (.cons (.con (.int 0)) .nil))) (.cons (.app 1 (.con (.int 0))) .nil) .nil) (.cons (.ret (.var 1)) .nil))))
def b_law_next : PB := (.cons (.setc (.var 0) (.con (.int 1)) (.prim .add (.cons (.prim .item (.cons (.var 0) (.cons (.con (.int 1)) .nil))) (.cons (.con (.int 1)) .nil)))) (.cons (.set (.nm 2) (.prim .fdiv (.cons (.prim .item (.cons (.var 0) (.cons (.con (.int 1)) .nil))) (.cons (.prim .len (.cons (.prim .item (.cons (.var 0) (.cons (.con (.int 0)) .nil))) .nil)) .nil)))) (.cons (.ret (.prim .mod (.cons (.prim .int1 (.cons (.prim .add (.cons (.prim .add (.cons (.prim .item (.cons (.prim .item (.cons (.var 0) (.cons (.con (.int 0)) .nil))) (.cons (.prim .mod (.cons (.prim .item (.cons (.var 0) (.cons (.con (.int 1)) .nil))) (.cons (.prim .len (.cons (.prim .item (.cons (.var 0) (.cons (.con (.int 0)) .nil))) .nil)) .nil))) .nil))) (.cons (.prim .mul (.cons (.var 2) (.cons (.con (.int 389)) .nil))) .nil))) (.cons (.prim .mul (.cons (.prim .mul (.cons (.prim .item (.cons (.var 0) (.cons (.con (.int 1)) .nil))) (.cons (.var 2) .nil))) (.cons (.con (.int 17)) .nil))) .nil))) .nil)) (.cons (.var 1) .nil)))) .nil)))
def b_law_word : PB := (.cons (.set (.nm 1) (.con (.str "abcdefghijklmnopqrstuvwxyz"))) (.cons (.set (.nm 2) (.prim .item (.cons (.var 1) (.cons (.call 14 (.cons (.var 0) (.cons (.con (.int 26)) .nil))) .nil)))) (.cons (.forr (.nm 3) (.rng1 (.prim .item (.cons (.lst (.cons (.con (.int 0)) (.cons (.con (.int 1)) (.cons (.con (.int 3)) (.cons (.con (.int 11)) .nil))))) (.cons (.call 14 (.cons (.var 0) (.cons (.con (.int 4)) .nil))) .nil)))) (.cons (.set (.nm 2) (.prim .add (.cons (.var 2) (.cons (.prim .item (.cons (.prim .add (.cons (.var 1) (.cons (.con (.str "0123456789")) .nil))) (.cons (.call 14 (.cons (.var 0) (.cons (.con (.int 36)) .nil))) .nil))) .nil)))) .nil)) (.cons (.ret (.var 2)) .nil))))
def b_law_texts : PB := (.cons (.own 2 (.lst .nil)) (.cons (.forr (.nm 3) (.rng1 (.var 1)) (.cons (.set (.nm 4) (.call 15 (.cons (.var 0) .nil))) (.cons (.ife (.bop false (.cons (.prim .isIn (.cons (.var 4) (.cons (.peek 2) .nil))) (.cons (.prim .eq (.cons (.var 4) (.cons (.con (.str "any")) .nil))) .nil))) (.cons (.set (.nm 4) (.prim .add (.cons (.prim .add (.cons (.prim .sl01 (.cons (.var 4) (.cons (.con (.int 8)) .nil))) (.cons (.con (.str "q")) .nil))) (.cons (.prim .str1 (.cons (.var 3) .nil)) .nil)))) .nil) .nil) (.cons (.ife (.prim .notIn (.cons (.var 4) (.cons (.peek 2) .nil))) (.cons (.app 2 (.var 4)) .nil) .nil) .nil)))) (.cons (.ret (.prim .tuple (.cons (.prim .sorted (.cons (.peek 2) .nil)) .nil))) .nil)))
def b_law_choose : PB := (.cons (.set (.nm 2) (.con (.int 1))) (.cons (.forr (.nm 3) (.rng1 (.var 1)) (.cons (.set (.nm 2) (.prim .fdiv (.cons (.prim .mul (.cons (.var 2) (.cons (.prim .sub (.cons (.var 0) (.cons (.var 3) .nil))) .nil))) (.cons (.prim .add (.cons (.var 3) (.cons (.con (.int 1)) .nil))) .nil)))) .nil)) (.cons (.ret (.var 2)) .nil)))
def b_law_counts : PB := (.cons (.own 3 (.lst .nil)) (.cons (.own 4 (.lst (.cons (.con (.int 1)) .nil))) (.cons (.forr (.nm 5) (.rng1 (.prim .add (.cons (.var 2) (.cons (.con (.int 1)) .nil)))) (.cons (.ife (.prim .gt (.cons (.var 5) (.cons (.con (.int 0)) .nil))) (.cons (.set (.nm 6) (.con (.int 0))) (.cons (.forr (.nm 7) (.rng2 (.con (.int 1)) (.prim .add (.cons (.var 5) (.cons (.con (.int 1)) .nil)))) (.cons (.set (.nm 8) (.con (.int 0))) (.cons (.forr (.nm 9) (.rng2 (.con (.int 1)) (.prim .add (.cons (.var 7) (.cons (.con (.int 1)) .nil)))) (.cons (.ife (.prim .eq (.cons (.prim .mod (.cons (.prim .int1 (.cons (.var 7) .nil)) (.cons (.var 9) .nil))) (.cons (.con (.int 0)) .nil))) (.cons (.set (.nm 10) (.prim .item (.cons (.lst (.cons (.prim .neg (.cons (.con (.int 1)) .nil)) (.cons (.con (.int 1)) .nil))) (.cons (.prim .mod (.cons (.prim .int1 (.cons (.prim .fdiv (.cons (.var 7) (.cons (.var 9) .nil))) .nil)) (.cons (.con (.int 2)) .nil))) .nil)))) (.cons (.set (.nm 8) (.prim .add (.cons (.var 8) (.cons (.prim .mul (.cons (.prim .mul (.cons (.prim .mul (.cons (.var 10) (.cons (.var 9) .nil))) (.cons (.var 1) .nil))) (.cons (.prim .item (.cons (.peek 3) (.cons (.prim .sub (.cons (.var 9) (.cons (.con (.int 1)) .nil))) .nil))) .nil))) .nil)))) .nil)) .nil) .nil)) (.cons (.set (.nm 6) (.prim .add (.cons (.var 6) (.cons (.prim .mul (.cons (.var 8) (.cons (.prim .item (.cons (.peek 4) (.cons (.prim .sub (.cons (.var 5) (.cons (.var 7) .nil))) .nil))) .nil))) .nil)))) .nil)))) (.cons (.app 4 (.prim .fdiv (.cons (.var 6) (.cons (.var 5) .nil)))) .nil))) .nil) (.cons (.app 3 (.prim .sum (.cons (.comp (.prim .mul (.cons (.call 17 (.cons (.var 0) (.cons (.var 7) .nil))) (.cons (.prim .item (.cons (.peek 4) (.cons (.prim .sub (.cons (.var 5) (.cons (.var 7) .nil))) .nil))) .nil))) (.nm 7) (.rng1 (.prim .add (.cons (.prim .min2 (.cons (.var 5) (.cons (.var 0) .nil))) (.cons (.con (.int 1)) .nil)))) .nil [7]) .nil))) .nil))) (.cons (.ret (.var 3)) .nil))))
def b_law_told : PB := (.cons (.tryT (.cons (.ret (.tup (.cons (.con (.str "told")) (.cons (.call 11 (.cons (.var 0) (.cons (.var 1) .nil))) .nil)))) .nil) 2) .nil)
def b_law_subsets : PB := (.cons (.set (.nm 1) (.lst (.cons (.tup .nil) .nil))) (.cons (.forr (.nm 2) (.seq (.var 0)) (.cons (.set (.nm 1) (.prim .add (.cons (.var 1) (.cons (.comp (.prim .add (.cons (.var 3) (.cons (.tup (.cons (.var 2) .nil)) .nil))) (.nm 3) (.seq (.var 1)) .nil [3]) .nil)))) .nil)) (.cons (.ret (.var 1)) .nil)))
def b_law_size : PB := (.cons (.ret (.prim .add (.cons (.prim .len (.cons (.prim .item (.cons (.var 0) (.cons (.con (.int 0)) .nil))) .nil)) (.cons (.prim .sum (.cons (.comp (.prim .add (.cons (.con (.int 1)) (.cons (.call 21 (.cons (.var 2) .nil)) .nil))) (.tp [(.nm 1), (.nm 2)]) (.seq (.prim .item (.cons (.var 0) (.cons (.con (.int 1)) .nil)))) .nil [1, 2]) .nil)) .nil)))) .nil)
def b_law_all : PB := (.cons (.set (.nm 2) (.lst (.cons (.tup (.cons (.tup .nil) (.cons (.tup .nil) .nil))) .nil))) (.cons (.forr (.nm 3) (.rng1 (.var 1)) (.cons (.own 4 (.lst .nil)) (.cons (.forr (.nm 5) (.seq (.prim .item (.cons (.var 0) (.cons (.con (.int 1)) .nil)))) (.cons (.ext 4 (.comp (.tup (.cons (.var 5) (.cons (.var 11) .nil))) (.nm 11) (.seq (.var 2)) (.cons (.prim .le (.cons (.prim .add (.cons (.con (.int 1)) (.cons (.call 21 (.cons (.var 11) .nil)) .nil))) (.cons (.var 1) .nil))) .nil) [11])) .nil)) (.cons (.set (.nm 6) (.lst (.cons (.tup .nil) .nil))) (.cons (.forr (.nm 7) (.seq (.var 4)) (.cons (.set (.nm 6) (.prim .add (.cons (.var 6) (.cons (.comp (.prim .add (.cons (.var 10) (.cons (.tup (.cons (.var 7) .nil)) .nil))) (.nm 10) (.seq (.var 6)) (.cons (.prim .le (.cons (.prim .sum (.cons (.comp (.prim .add (.cons (.con (.int 1)) (.cons (.call 21 (.cons (.var 11) .nil)) .nil))) (.tp [(.nm 5), (.nm 11)]) (.seq (.prim .add (.cons (.var 10) (.cons (.tup (.cons (.var 7) .nil)) .nil)))) .nil [5, 11]) .nil)) (.cons (.var 1) .nil))) .nil) [10]) .nil)))) .nil)) (.cons (.own 8 (.lst .nil)) (.cons (.forr (.nm 9) (.seq (.call 20 (.cons (.prim .item (.cons (.var 0) (.cons (.con (.int 0)) .nil))) .nil))) (.cons (.ext 8 (.comp (.tup (.cons (.var 9) (.cons (.prim .tuple (.cons (.prim .sorted (.cons (.var 10) .nil)) .nil)) .nil))) (.nm 10) (.seq (.var 6)) .nil [10])) .nil)) (.cons (.set (.nm 2) (.comp (.var 10) (.nm 10) (.seq (.peek 8)) (.cons (.prim .le (.cons (.call 21 (.cons (.var 10) .nil)) (.cons (.var 1) .nil))) .nil) [10])) .nil)))))))) (.cons (.ret (.var 2)) .nil)))
def b_law : PB := (.cons (.cell 1 (.lst (.cons (.call 13 (.cons (.var 0) .nil)) (.cons (.con (.int 0)) .nil)))) (.cons (.forr (.nm 2) (.rng1 (.con (.int 3))) (.cons (.set (.nm 6) (.tup (.cons (.call 16 (.cons (.var 1) (.cons (.call 14 (.cons (.var 1) (.cons (.con (.int 6)) .nil))) .nil))) (.cons (.call 16 (.cons (.var 1) (.cons (.call 14 (.cons (.var 1) (.cons (.con (.int 4)) .nil))) .nil))) .nil)))) (.cons (.set (.nm 7) (.call 18 (.cons (.prim .len (.cons (.prim .item (.cons (.var 6) (.cons (.con (.int 0)) .nil))) .nil)) (.cons (.prim .len (.cons (.prim .item (.cons (.var 6) (.cons (.con (.int 1)) .nil))) .nil)) (.cons (.con (.int 14)) .nil))))) (.cons (.set (.nm 5) (.comp (.call 19 (.cons (.var 6) (.cons (.var 4) .nil))) (.nm 4) (.rng1 (.con (.int 15))) .nil [4])) (.cons (.ife (.nt (.call 12 (.cons (.var 5) (.cons (.comp (.tup (.cons (.con (.str "told")) (.cons (.var 13) .nil))) (.nm 13) (.seq (.var 7)) .nil [13]) .nil)))) (.cons (.ret (.con (.bl false))) .nil) .nil) (.cons (.set (.nm 8) (.tup (.cons (.prim .sl01 (.cons (.prim .item (.cons (.var 6) (.cons (.con (.int 0)) .nil))) (.cons (.con (.int 2)) .nil))) (.cons (.prim .sl01 (.cons (.prim .item (.cons (.var 6) (.cons (.con (.int 1)) .nil))) (.cons (.con (.int 1)) .nil))) .nil)))) (.cons (.set (.nm 9) (.call 22 (.cons (.var 8) (.cons (.con (.int 4)) .nil)))) (.cons (.ife (.nt (.call 12 (.cons (.comp (.call 19 (.cons (.var 8) (.cons (.var 4) .nil))) (.nm 4) (.rng1 (.con (.int 5))) .nil [4]) (.cons (.comp (.tup (.cons (.con (.str "told")) (.cons (.prim .len (.cons (.comp (.var 13) (.nm 13) (.seq (.var 9)) (.cons (.prim .eq (.cons (.call 21 (.cons (.var 13) .nil)) (.cons (.var 4) .nil))) .nil) [13]) .nil)) .nil))) (.nm 4) (.rng1 (.con (.int 5))) .nil [4]) .nil)))) (.cons (.ret (.con (.bl false))) .nil) .nil) .nil)))))))) (.cons (.set (.nm 3) (.prim .tuple (.cons (.comp (.fstr (.cons (.con (.str "n")) (.cons (.prim .add (.cons (.var 12) (.cons (.con (.int 100)) .nil))) .nil))) (.nm 12) (.rng1 (.con (.int 24))) .nil [12]) .nil))) (.cons (.set (.nm 4) (.prim .add (.cons (.con (.int 30)) (.cons (.call 14 (.cons (.var 1) (.cons (.con (.int 11)) .nil))) .nil)))) (.cons (.set (.tp [(.nm 10), (.nm 11)]) (.prim .item (.cons (.lst (.cons (.tup (.cons (.con (.int 24)) (.cons (.con (.int 24)) .nil))) (.cons (.tup (.cons (.con (.int 1)) (.cons (.con (.int 1)) .nil))) (.cons (.tup (.cons (.con (.int 0)) (.cons (.con (.int 3)) .nil))) (.cons (.tup (.cons (.con (.int 24)) (.cons (.con (.int 1)) .nil))) .nil))))) (.cons (.call 14 (.cons (.var 1) (.cons (.con (.int 4)) .nil))) .nil)))) (.cons (.set (.nm 5) (.lst (.cons (.call 19 (.cons (.tup (.cons (.prim .sl01 (.cons (.var 3) (.cons (.var 10) .nil))) (.cons (.prim .sl01 (.cons (.var 3) (.cons (.var 11) .nil))) .nil))) (.cons (.var 4) .nil))) (.cons (.call 19 (.cons (.tup (.cons (.var 3) (.cons (.var 3) .nil))) (.cons (.con (.int 41)) .nil))) (.cons (.call 19 (.cons (.tup (.cons (.prim .add (.cons (.var 3) (.cons (.tup (.cons (.con (.str "o")) .nil)) .nil))) (.cons (.tup .nil) .nil))) (.cons (.prim .neg (.cons (.con (.int 1)) .nil)) .nil))) (.cons (.call 19 (.cons (.tup (.cons (.var 3) (.cons (.var 3) .nil))) (.cons (.prim .neg (.cons (.con (.int 1)) .nil)) .nil))) (.cons (.call 19 (.cons (.tup (.cons (.tup (.cons (.con (.str "b")) (.cons (.con (.str "a")) .nil))) (.cons (.tup .nil) .nil))) (.cons (.con (.int 41)) .nil))) (.cons (.call 19 (.cons (.tup (.cons (.var 3) (.cons (.tup .nil) .nil))) (.cons (.con (.int 25)) .nil))) .nil)))))))) (.cons (.ret (.call 12 (.cons (.prim .add (.cons (.var 5) (.cons (.lst (.cons (.glob "MAX_COUNTED" (.int (40))) .nil)) .nil))) (.cons (.lst (.cons (.tup (.cons (.con (.str "told")) (.cons (.prim .item (.cons (.call 18 (.cons (.var 10) (.cons (.var 11) (.cons (.var 4) .nil)))) (.cons (.var 4) .nil))) .nil))) (.cons (.con (.str "large")) (.cons (.con (.str "large")) (.cons (.con (.str "refused")) (.cons (.con (.str "refused")) (.cons (.tup (.cons (.con (.str "told")) (.cons (.con (.int 0)) .nil))) (.cons (.con (.int 40)) .nil)))))))) .nil)))) .nil)))))))
def r_is_name : DRec := ⟨"is_name", defArgs (top 10), defBody (top 10), defScope (top 10), ((["text", "sign"] : List String).map PySem.Str.ofString), 1, b_is_name, (("is_name" : PySem.Str), none), "is_name"⟩
def r_rising : DRec := ⟨"rising", defArgs (top 11), defBody (top 11), defScope (top 11), ((["row", "k"] : List String).map PySem.Str.ofString), 1, b_rising, (("rising" : PySem.Str), none), "rising"⟩
def r_check_words : DRec := ⟨"check_words", defArgs (top 14), defBody (top 14), defScope (top 14), ((["words", "names", "roles", "name"] : List String).map PySem.Str.ofString), 1, b_check_words, (("check_words" : PySem.Str), none), "check_words"⟩
def r_check_counted : DRec := ⟨"check_counted", defArgs (top 17), defBody (top 17), defScope (top 17), ((["words", "size"] : List String).map PySem.Str.ofString), 2, b_check_counted, (("check_counted" : PySem.Str), none), "check_counted"⟩
def r_choose : DRec := ⟨"choose", defArgs (top 18), defBody (top 18), defScope (top 18), ((["many", "few", "told", "k"] : List String).map PySem.Str.ofString), 2, b_choose, (("choose" : PySem.Str), none), "choose"⟩
def r_Counter___init__ : DRec := ⟨"Counter.__init__", defArgs (mtop 19 0), defBody (mtop 19 0), defScope (mtop 19 0), ((["self", "words"] : List String).map PySem.Str.ofString), 2, b_Counter___init__, (("Counter" : PySem.Str), some ("__init__" : PySem.Str)), "__init__"⟩
def r_Counter_of_size : DRec := ⟨"Counter.of_size", defArgs (mtop 19 1), defBody (mtop 19 1), defScope (mtop 19 1), ((["self", "size", "rows", "count"] : List String).map PySem.Str.ofString), 2, b_Counter_of_size, (("Counter" : PySem.Str), some ("of_size" : PySem.Str)), "of_size"⟩
def r_Counter_with_names : DRec := ⟨"Counter.with_names", defArgs (mtop 19 2), defBody (mtop 19 2), defScope (mtop 19 2), ((["self", "size", "count"] : List String).map PySem.Str.ofString), 3, b_Counter_with_names, (("Counter" : PySem.Str), some ("with_names" : PySem.Str)), "with_names"⟩
def r_Counter_links_of : DRec := ⟨"Counter.links_of", defArgs (mtop 19 3), defBody (mtop 19 3), defScope (mtop 19 3), ((["self", "weight"] : List String).map PySem.Str.ofString), 2, b_Counter_links_of, (("Counter" : PySem.Str), some ("links_of" : PySem.Str)), "links_of"⟩
def r_Counter_of_links : DRec := ⟨"Counter.of_links", defArgs (mtop 19 4), defBody (mtop 19 4), defScope (mtop 19 4), ((["self", "weight", "most", "key", "rows", "count"] : List String).map PySem.Str.ofString), 3, b_Counter_of_links, (("Counter" : PySem.Str), some ("of_links" : PySem.Str)), "of_links"⟩
def r_Counter_with_links : DRec := ⟨"Counter.with_links", defArgs (mtop 19 5), defBody (mtop 19 5), defScope (mtop 19 5), ((["self", "weight", "most", "count"] : List String).map PySem.Str.ofString), 4, b_Counter_with_links, (("Counter" : PySem.Str), some ("with_links" : PySem.Str)), "with_links"⟩
def r_count_of_size : DRec := ⟨"count_of_size", defArgs (top 20), defBody (top 20), defScope (top 20), ((["words", "size"] : List String).map PySem.Str.ofString), 2, b_count_of_size, (("count_of_size" : PySem.Str), none), "count_of_size"⟩
def r_law_same : DRec := ⟨"_law_same", defArgs (top 22), defBody (top 22), defScope (top 22), ((["told", "due"] : List String).map PySem.Str.ofString), 2, b_law_same, (("_law_same" : PySem.Str), none), "_law_same"⟩
def r_law_stream : DRec := ⟨"_law_stream", defArgs (top 23), defBody (top 23), defScope (top 23), ((["script", "numbers", "cell", "rest", "k", "stirred"] : List String).map PySem.Str.ofString), 1, b_law_stream, (("_law_stream" : PySem.Str), none), "_law_stream"⟩
def r_law_next : DRec := ⟨"_law_next", defArgs (top 24), defBody (top 24), defScope (top 24), ((["state", "many", "turn"] : List String).map PySem.Str.ofString), 2, b_law_next, (("_law_next" : PySem.Str), none), "_law_next"⟩
def r_law_word : DRec := ⟨"_law_word", defArgs (top 26), defBody (top 26), defScope (top 26), ((["state", "letters", "word", "k"] : List String).map PySem.Str.ofString), 1, b_law_word, (("_law_word" : PySem.Str), none), "_law_word"⟩
def r_law_texts : DRec := ⟨"_law_texts", defArgs (top 27), defBody (top 27), defScope (top 27), ((["state", "many", "found", "k", "word"] : List String).map PySem.Str.ofString), 2, b_law_texts, (("_law_texts" : PySem.Str), none), "_law_texts"⟩
def r_law_choose : DRec := ⟨"_law_choose", defArgs (top 28), defBody (top 28), defScope (top 28), ((["many", "few", "row", "k"] : List String).map PySem.Str.ofString), 2, b_law_choose, (("_law_choose" : PySem.Str), none), "_law_choose"⟩
def r_law_counts : DRec := ⟨"_law_counts", defArgs (top 29), defBody (top 29), defScope (top 29), ((["names", "roles", "most", "sizes", "links", "size", "whole", "k", "part", "weight", "sign"] : List String).map PySem.Str.ofString), 3, b_law_counts, (("_law_counts" : PySem.Str), none), "_law_counts"⟩
def r_law_told : DRec := ⟨"_law_told", defArgs (top 30), defBody (top 30), defScope (top 30), ((["words", "size", "e"] : List String).map PySem.Str.ofString), 2, b_law_told, (("_law_told" : PySem.Str), none), "_law_told"⟩
def r_law_subsets : DRec := ⟨"_law_subsets", defArgs (top 31), defBody (top 31), defScope (top 31), ((["rows", "found", "row", "one"] : List String).map PySem.Str.ofString), 1, b_law_subsets, (("_law_subsets" : PySem.Str), none), "_law_subsets"⟩
def r_law_size : DRec := ⟨"_law_size", defArgs (top 32), defBody (top 32), defScope (top 32), ((["concept", "role", "inner"] : List String).map PySem.Str.ofString), 1, b_law_size, (("_law_size" : PySem.Str), none), "_law_size"⟩
def r_law_all : DRec := ⟨"_law_all", defArgs (top 33), defBody (top 33), defScope (top 33), ((["words", "most", "found", "turn", "links", "role", "sets", "link", "more", "names", "one", "inner"] : List String).map PySem.Str.ofString), 2, b_law_all, (("_law_all" : PySem.Str), none), "_law_all"⟩
def r_law : DRec := ⟨"law", defArgs (top 34), defBody (top 34), defScope (top 34), ((["script", "state", "turn", "wide", "size", "told", "words", "due", "few", "every", "names", "roles", "k", "one"] : List String).map PySem.Str.ofString), 1, b_law, (("law" : PySem.Str), none), "law"⟩
def recs : List DRec := [r_is_name, r_rising, r_check_words, r_check_counted, r_choose, r_Counter___init__, r_Counter_of_size, r_Counter_with_names, r_Counter_links_of, r_Counter_of_links, r_Counter_with_links, r_count_of_size, r_law_same, r_law_stream, r_law_next, r_law_word, r_law_texts, r_law_choose, r_law_counts, r_law_told, r_law_subsets, r_law_size, r_law_all, r_law]
def er : DRec := ⟨"_law_error", defArgs (top 25), defBody (top 25), defScope (top 25), [], 0, .nil, (("_law_error" : PySem.Str), none), "_law_error"⟩
def TT : Tab := ⟨recs.map DRec.x, [("FIRST", (.str "abcdefghijklmnopqrstuvwxyz")), ("MAX_COUNTED", (.int (40))), ("MAX_WORDS", (.int (24))), ("SIGNS", (.str "abcdefghijklmnopqrstuvwxyz0123456789"))], ((["abs", "all", "int", "len", "min", "range", "repr", "sorted", "str", "sum", "tuple"] : List String).map PySem.Str.ofString), ((["NotAllowed", "TooLarge", "Missing", "BadPaper", "BadForm"] : List String).map PySem.Str.ofString), (([] : List String).map PySem.Str.ofString), [⟨"Counter", ((["names", "roles", "by_size", "by_links"] : List String).map PySem.Str.ofString), [("of_size", 6), ("with_names", 7), ("links_of", 8), ("of_links", 9), ("with_links", 10)], 5⟩]⟩
abbrev FF : List FDef := recs.map DRec.fd
theorem ok_all : recs.all (DRec.ok TT) = true := by decide +kernel
theorem bind_is_name : BindP r_is_name.name r_is_name.x r_is_name.params r_is_name.body r_is_name.scope (r_is_name.N.take r_is_name.np) := fun _ _ _ _ _ _ us hl => match us, hl with | [_], _ => rfl
theorem bind_rising : BindP r_rising.name r_rising.x r_rising.params r_rising.body r_rising.scope (r_rising.N.take r_rising.np) := fun _ _ _ _ _ _ us hl => match us, hl with | [_], _ => rfl
theorem bind_check_words : BindP r_check_words.name r_check_words.x r_check_words.params r_check_words.body r_check_words.scope (r_check_words.N.take r_check_words.np) := fun _ _ _ _ _ _ us hl => match us, hl with | [_], _ => rfl
theorem bind_check_counted : BindP r_check_counted.name r_check_counted.x r_check_counted.params r_check_counted.body r_check_counted.scope (r_check_counted.N.take r_check_counted.np) := fun _ _ _ _ _ _ us hl => match us, hl with | [_, _], _ => rfl
theorem bind_choose : BindP r_choose.name r_choose.x r_choose.params r_choose.body r_choose.scope (r_choose.N.take r_choose.np) := fun _ _ _ _ _ _ us hl => match us, hl with | [_, _], _ => rfl
theorem bind_Counter___init__ : BindP r_Counter___init__.name r_Counter___init__.x r_Counter___init__.params r_Counter___init__.body r_Counter___init__.scope (r_Counter___init__.N.take r_Counter___init__.np) := fun _ _ _ _ _ _ us hl => match us, hl with | [_, _], _ => rfl
theorem bind_Counter_of_size : BindP r_Counter_of_size.name r_Counter_of_size.x r_Counter_of_size.params r_Counter_of_size.body r_Counter_of_size.scope (r_Counter_of_size.N.take r_Counter_of_size.np) := fun _ _ _ _ _ _ us hl => match us, hl with | [_, _], _ => rfl
theorem bind_Counter_with_names : BindP r_Counter_with_names.name r_Counter_with_names.x r_Counter_with_names.params r_Counter_with_names.body r_Counter_with_names.scope (r_Counter_with_names.N.take r_Counter_with_names.np) := fun _ _ _ _ _ _ us hl => match us, hl with | [_, _, _], _ => rfl
theorem bind_Counter_links_of : BindP r_Counter_links_of.name r_Counter_links_of.x r_Counter_links_of.params r_Counter_links_of.body r_Counter_links_of.scope (r_Counter_links_of.N.take r_Counter_links_of.np) := fun _ _ _ _ _ _ us hl => match us, hl with | [_, _], _ => rfl
theorem bind_Counter_of_links : BindP r_Counter_of_links.name r_Counter_of_links.x r_Counter_of_links.params r_Counter_of_links.body r_Counter_of_links.scope (r_Counter_of_links.N.take r_Counter_of_links.np) := fun _ _ _ _ _ _ us hl => match us, hl with | [_, _, _], _ => rfl
theorem bind_Counter_with_links : BindP r_Counter_with_links.name r_Counter_with_links.x r_Counter_with_links.params r_Counter_with_links.body r_Counter_with_links.scope (r_Counter_with_links.N.take r_Counter_with_links.np) := fun _ _ _ _ _ _ us hl => match us, hl with | [_, _, _, _], _ => rfl
theorem bind_count_of_size : BindP r_count_of_size.name r_count_of_size.x r_count_of_size.params r_count_of_size.body r_count_of_size.scope (r_count_of_size.N.take r_count_of_size.np) := fun _ _ _ _ _ _ us hl => match us, hl with | [_, _], _ => rfl
theorem bind_law_same : BindP r_law_same.name r_law_same.x r_law_same.params r_law_same.body r_law_same.scope (r_law_same.N.take r_law_same.np) := fun _ _ _ _ _ _ us hl => match us, hl with | [_, _], _ => rfl
theorem bind_law_stream : BindP r_law_stream.name r_law_stream.x r_law_stream.params r_law_stream.body r_law_stream.scope (r_law_stream.N.take r_law_stream.np) := fun _ _ _ _ _ _ us hl => match us, hl with | [_], _ => rfl
theorem bind_law_next : BindP r_law_next.name r_law_next.x r_law_next.params r_law_next.body r_law_next.scope (r_law_next.N.take r_law_next.np) := fun _ _ _ _ _ _ us hl => match us, hl with | [_, _], _ => rfl
theorem bind_law_word : BindP r_law_word.name r_law_word.x r_law_word.params r_law_word.body r_law_word.scope (r_law_word.N.take r_law_word.np) := fun _ _ _ _ _ _ us hl => match us, hl with | [_], _ => rfl
theorem bind_law_texts : BindP r_law_texts.name r_law_texts.x r_law_texts.params r_law_texts.body r_law_texts.scope (r_law_texts.N.take r_law_texts.np) := fun _ _ _ _ _ _ us hl => match us, hl with | [_, _], _ => rfl
theorem bind_law_choose : BindP r_law_choose.name r_law_choose.x r_law_choose.params r_law_choose.body r_law_choose.scope (r_law_choose.N.take r_law_choose.np) := fun _ _ _ _ _ _ us hl => match us, hl with | [_, _], _ => rfl
theorem bind_law_counts : BindP r_law_counts.name r_law_counts.x r_law_counts.params r_law_counts.body r_law_counts.scope (r_law_counts.N.take r_law_counts.np) := fun _ _ _ _ _ _ us hl => match us, hl with | [_, _, _], _ => rfl
theorem bind_law_told : BindP r_law_told.name r_law_told.x r_law_told.params r_law_told.body r_law_told.scope (r_law_told.N.take r_law_told.np) := fun _ _ _ _ _ _ us hl => match us, hl with | [_, _], _ => rfl
theorem bind_law_subsets : BindP r_law_subsets.name r_law_subsets.x r_law_subsets.params r_law_subsets.body r_law_subsets.scope (r_law_subsets.N.take r_law_subsets.np) := fun _ _ _ _ _ _ us hl => match us, hl with | [_], _ => rfl
theorem bind_law_size : BindP r_law_size.name r_law_size.x r_law_size.params r_law_size.body r_law_size.scope (r_law_size.N.take r_law_size.np) := fun _ _ _ _ _ _ us hl => match us, hl with | [_], _ => rfl
theorem bind_law_all : BindP r_law_all.name r_law_all.x r_law_all.params r_law_all.body r_law_all.scope (r_law_all.N.take r_law_all.np) := fun _ _ _ _ _ _ us hl => match us, hl with | [_, _], _ => rfl
theorem bind_law : BindP r_law.name r_law.x r_law.params r_law.body r_law.scope (r_law.N.take r_law.np) := fun _ _ _ _ _ _ us hl => match us, hl with | [_], _ => rfl
theorem binds : ∀ r ∈ recs, BindP r.name r.x r.params r.body r.scope (r.N.take r.np) := by
  intro r hr
  rcases List.mem_cons.mp hr with rfl | hr; · exact bind_is_name
  rcases List.mem_cons.mp hr with rfl | hr; · exact bind_rising
  rcases List.mem_cons.mp hr with rfl | hr; · exact bind_check_words
  rcases List.mem_cons.mp hr with rfl | hr; · exact bind_check_counted
  rcases List.mem_cons.mp hr with rfl | hr; · exact bind_choose
  rcases List.mem_cons.mp hr with rfl | hr; · exact bind_Counter___init__
  rcases List.mem_cons.mp hr with rfl | hr; · exact bind_Counter_of_size
  rcases List.mem_cons.mp hr with rfl | hr; · exact bind_Counter_with_names
  rcases List.mem_cons.mp hr with rfl | hr; · exact bind_Counter_links_of
  rcases List.mem_cons.mp hr with rfl | hr; · exact bind_Counter_of_links
  rcases List.mem_cons.mp hr with rfl | hr; · exact bind_Counter_with_links
  rcases List.mem_cons.mp hr with rfl | hr; · exact bind_count_of_size
  rcases List.mem_cons.mp hr with rfl | hr; · exact bind_law_same
  rcases List.mem_cons.mp hr with rfl | hr; · exact bind_law_stream
  rcases List.mem_cons.mp hr with rfl | hr; · exact bind_law_next
  rcases List.mem_cons.mp hr with rfl | hr; · exact bind_law_word
  rcases List.mem_cons.mp hr with rfl | hr; · exact bind_law_texts
  rcases List.mem_cons.mp hr with rfl | hr; · exact bind_law_choose
  rcases List.mem_cons.mp hr with rfl | hr; · exact bind_law_counts
  rcases List.mem_cons.mp hr with rfl | hr; · exact bind_law_told
  rcases List.mem_cons.mp hr with rfl | hr; · exact bind_law_subsets
  rcases List.mem_cons.mp hr with rfl | hr; · exact bind_law_size
  rcases List.mem_cons.mp hr with rfl | hr; · exact bind_law_all
  rcases List.mem_cons.mp hr with rfl | hr; · exact bind_law
  cases hr
theorem bind_err : BindP er.name er.x er.params er.body er.scope ["e"] := fun _ _ _ _ _ _ us hl => match us, hl with | [_], _ => rfl
theorem sc_err : FnScope ((["e", "names"] : List String).map Str.ofString) ["e"] er.scope := (scC_ok (N := ((["e", "names"] : List String).map Str.ofString)) (np := 1) (by decide +kernel)).1
theorem ck_err : ckErr er.scope er.body = true := by decide +kernel
def loose : List PySem.Str := (["__name__", "BeastError", "NotAllowed", "TooLarge", "Missing", "BadPaper", "BadForm", "FIRST", "SIGNS", "is_name", "rising", "MAX_WORDS", "check_words", "MAX_COUNTED", "check_counted", "choose", "Counter", "count_of_size", "_law_same", "_law_stream", "_law_next", "_law_error", "_law_word", "_law_texts", "_law_choose", "_law_counts", "_law_told", "_law_subsets", "_law_size", "_law_all"] : List PySem.Str)
abbrev R : PySem.W.OpenRow := PySem.W.OpenLaw.row PySem.Challenge.rw_menagerie_k78_how_many_concepts
def dds : List He.DefD := er.dd :: recs.map DRec.dd
abbrev hk : PySem.W.Hook := hookP 4 TT.excs TT.mods (faOf TT) dds
def ob (s : PySem.W.SharedT) : AlP := obsPG 4 TT.excs TT.mods (faOf TT) dds (HandSHeadRun.getT s)
theorem ob_eq (s : PySem.W.SharedT) : ob s = hk.obs s.abs := obsPG_eq (HandSHeadRun.getT_eq s)
theorem run (w : World) : HandSHeadRun.RunEq R (PySem.W.view R.prog [34]) hk ob 6000 loose w := by
  intro os
  kernel_rfl
theorem holds_of (plain : ∀ ns : List Int, ns.length ≤ 63 → ∃ t, callF FF 100000 100 23 [.scr ns] [] = .ok (.bl true) t) : PySem.Challenge.rw_menagerie_k78_how_many_concepts.Holds := by
  w_on; o_law
  refine HandSHeadRun.head_any (r := PySem.W.OpenLaw.row PySem.Challenge.rw_menagerie_k78_how_many_concepts) (q := PySem.W.view (PySem.W.OpenLaw.row PySem.Challenge.rw_menagerie_k78_how_many_concepts).prog [34]) (H := hk) (ob := ob) (M := 6000) (loose := loose) (d := HandSHeadRun.topDef (PySem.W.OpenLaw.row PySem.Challenge.rw_menagerie_k78_how_many_concepts).prog 34) (kwd := []) ob_eq
    (by kernel_rfl) (fun s => by kernel_rfl) run (by kernel_rfl) (by kernel_rfl) (by kernel_rfl) (by rfl) (by first | assumption | decide +kernel) (by decide +kernel) ⟨rfl, rfl, rfl, rfl, rfl, by decide +kernel⟩ ?hw ?hc
  case hw => w_witness2
  case hc => exact walk_law (l := PySem.Challenge.rw_menagerie_k78_how_many_concepts) (T := TT) (recs := recs) (er := er) (wf := 100000) (m := 100) (i := 23) rfl (by kernel_rfl) (by kernel_rfl) (by rfl) rfl (by decide +kernel) rfl ok_all binds rfl sc_err bind_err ck_err (by decide +kernel) (by decide +kernel) (by decide) plain
end K78
end
section
set_option Elab.async false
set_option linter.all false
set_option maxRecDepth 100000
set_option maxHeartbeats 4000000
namespace K78
open PySem MP
abbrev Row := List Str
theorem forLoop_map {α β : Type} {f : D → S → Out Fl} (h : β → D) (emb : α → S) (g : α → β → α) (P : α → Prop) : ∀ (ys : List β) (a : α), P a → (∀ y ∈ ys, ∀ a, P a → f (h y) (emb a) = .ok .nx (emb (g a y)) ∧ P (g a y)) → forLoop f (ys.map h) (emb a) = .ok .nx (emb (ys.foldl g a)) ∧ P (ys.foldl g a)
  | [], a, h, _ => ⟨rfl, h⟩
  | y :: r, a, h0, k => by
    obtain ⟨e1, h1⟩ := k y List.mem_cons_self a h0
    obtain ⟨e2, h2⟩ := forLoop_map h emb g P r (g a y) h1 fun y hy => k y (List.mem_cons_of_mem _ hy)
    refine ⟨?_, h2⟩
    rw [List.map_cons, forLoop, e1]
    simp only [bind_ok]
    rw [e2]
    rfl
theorem p_tuple_lst (xs : List D) : prim .tuple [.lst xs] = some (.tup xs) := rfl
theorem filterMap_ite {α : Type} (f : α → D) (g : D → Option D) (p : α → Bool) (hg : ∀ x, g (f x) = if p x = true then some (f x) else none) (l : List α) : (l.map f).filterMap g = (l.filter p).map f := by
  rw [List.filterMap_map]
  induction l with
  | nil => rfl
  | cons x l ih =>
    rw [List.filterMap_cons, Function.comp, hg x, List.filter_cons]
    by_cases h : p x = true
    · simp [h, ih]
    · simp [h, ih]
theorem call_ok {cf : CF} {f : Nat} {ds : List D} {s : S} {d : D} {t : Sto} (h : cf f ds s.sto = .ok d t) (hl : t.length ≤ s.sto.length := by exact Nat.le_refl _) : callO cf f ds s = .ok d { s with sto := t } := by
  unfold callO
  rw [h]
  simp only [trim_le hl]
theorem evalSs_one {cf : CF} {wf : Nat} {a : PS} {s : S} {f : Fl} {s' : S} (h : evalS cf wf a s = .ok f s') (r : PB) : evalSs cf wf (.cons a r) s = seqR cf wf r f s' := by
  rw [ss_cons', h]
  rfl
theorem p_add_lsts (a b : List D) (h : a.length + b.length ≤ 16777216) : prim .add [.lst a, .lst b] = some (.lst (a ++ b)) := by
  show p_add [.lst a, .lst b] = _
  unfold p_add
  simp only
  rw [if_pos h]
theorem filterMap_ite2 {α : Type} (f : α → D) (g : D → Option D) (p : α → Bool) (h : α → D) (hg : ∀ x, g (f x) = if p x = true then some (h x) else none) (l : List α) : (l.map f).filterMap g = (l.filter p).map h := by
  rw [List.filterMap_map]
  induction l with
  | nil => rfl
  | cons x l ih =>
    rw [List.filterMap_cons, Function.comp, hg x, List.filter_cons]
    by_cases h : p x = true
    · simp [h, ih]
    · simp [h, ih]
theorem p_len_set (r : Row) (h : r.length ≤ 1000000) : prim .len [setD r] = some (.int r.length) := by
  first
  | (simp [prim, setD]; done)
  | (show p_len [.tup (r.map .str)] = _; simp [p_len])
theorem p_lt_int (a b : Int) : prim .lt [.int a, .int b] = some (.bl (decide (a < b))) := by
  rfl
theorem atI_nat {α : Type} (xs : List α) (k : Nat) (h : k < xs.length) : L2.atI xs (k : Int) = xs[k]? := by
  unfold L2.atI L2.ixN
  simp
  have : (if 0 ≤ (k : Int) then (k : Int) else (k : Int) + xs.length) = k := by omega
  simp_all
theorem p_item_set (r : Row) (k : Nat) (h : k < r.length) : prim .item [setD r, .int k] = some (.str r[k]) := by
  show L2.atI (r.map D.str) (k : Int) = _
  rw [atI_nat _ _ (by simpa using h)]
  simp [h]
def sLt (x y : Str) : Prop := x.cps.toList < y.cps.toList
instance : DecidableRel sLt := fun x y => inferInstanceAs (Decidable (x.cps.toList < y.cps.toList))
theorem p_lt_str (x y : Str) : prim .lt [.str x, .str y] = some (.bl (decide (sLt x y))) := rfl
def rng1R : D → S → Out (List D)
  | .int i, s => if smallI i then .ok (rngL 0 i) s else .bad
  | _, _ => .bad
@[simp] theorem rng1R_int (i : Int) (s : S) : rng1R (.int i) s = if smallI i then .ok (rngL 0 i) s else .bad := rfl
@[simp] theorem evI_rng1 (cf : CF) (a : PE) (s : S) : evalI cf (.rng1 a) s = (evalE cf a s).bind rng1R := by
  simp only [evalI]
  congr
  funext d s'
  cases d <;> rfl
theorem rngL_nat (n : Nat) : rngL 0 (n : Int) = (List.range n).map fun k => .int (k : Nat) := by
  simp [rngL]
theorem filterMap_const {α : Type} (d : D) (l : List α) : l.filterMap (fun _ => some d) = l.map fun _ => d := by
  induction l with
  | nil => rfl
  | cons x l ih => simp [ih]
theorem sp_rising (m : Nat) {row : Row} (t : Sto) (hp : row.Pairwise sLt) (hl : row.length ≤ 1000) : callF FF 100000 (m + 1) 1 [setD row] t = .ok (.bl true) t := by
  have hF : FF[1]? = some ⟨1, 2, b_rising⟩ := rfl
  rw [callF_succ, hF]
  have e0 : prim .len [setD row] = some (.int row.length) := p_len_set row (by omega)
  have e1 : prim .sub [.int row.length, .int 1] = some (.int ((row.length : Int) - 1)) := rfl
  have hI : evalI (callF FF 100000 m) (.rng1 (.prim .sub (.cons (.prim .len (.cons (.var 0) .nil)) (.cons (.con (.int 1)) .nil)))) { loc := [.val (setD row), .unb], sto := t } = .ok ((List.range (row.length - 1)).map fun k => .int (k : Nat)) { loc := [.val (setD row), .unb], sto := t } := by
    have sm : smallI ((row.length : Int) - 1) = true := by unfold smallI; simp; omega
    have er : rngL 0 ((row.length : Int) - 1) = (List.range (row.length - 1)).map fun k => D.int (k : Nat) := by
      unfold rngL
      have : ((row.length : Int) - 1 - 0).toNat = row.length - 1 := by omega
      rw [this]
      simp
    simp [rdVar, e0, e1, sm, er]
  have C := comp_pure (cf := callF FF 100000 m) (elt := .prim .lt (.cons (.prim .item (.cons (.var 0) (.cons (.var 1) .nil))) (.cons (.prim .item (.cons (.var 0) (.cons (.prim .add (.cons (.var 1) (.cons (.con (.int 1)) .nil))) .nil))) .nil))) (t := .nm 1) (it := .rng1 (.prim .sub (.cons (.prim .len (.cons (.var 0) .nil)) (.cons (.con (.int 1)) .nil)))) (cs := .nil) (vs := [1]) (s := { loc := [.val (setD row), .unb], sto := t }) (s1 := { loc := [.val (setD row), .unb], sto := t })
    (xs := (List.range (row.length - 1)).map fun k => .int (k : Nat)) (fun _ => some (.bl true)) hI (fun d hd => ?_) (by simp; omega)
  · rw [filterMap_const] at C
    have al := p_all_map ((List.range (row.length - 1)).map fun k => D.int (k : Nat)) (fun _ => true)
    simp only [b_rising]
    simp [C]
    simp at al
    rw [al]
    simp
  · obtain ⟨k, hk, rfl⟩ := List.mem_map.mp hd
    rw [List.mem_range] at hk
    refine ⟨[.val (setD row), .val (.int k)], ?_, rfl⟩
    have a1 := p_item_set row k (by omega)
    have a2 := p_item_set row (k + 1) (by omega)
    have a3 : prim .add [.int (k : Nat), .int 1] = some (.int ((k + 1 : Nat) : Int)) := rfl
    have a4 : sLt row[k] row[k + 1] := List.pairwise_iff_getElem.mp hp k (k + 1) (by omega) (by omega) (by omega)
    simp only [turnF]
    simp [MP.assign, rdVar, MP.wipe, a1]
    simp at a3 a2
    simp [a3, a2, p_lt_str, a4]
theorem p_eq_str {x y : Str} (hx : PyData.strOk x = true) (hy : PyData.strOk y = true) : prim .eq [.str x, .str y] = some (D.bl (decide (x = y))) := by
  show (if eqOk (D.str x) (D.str y) then some (D.bl (eqD (D.str x) (D.str y))) else none) = _
  have e : eqOk (D.str x) (D.str y) = true := by
    simp [eqOk, D.flat, D.pd, SeqAt.shaped, PyData.canLay0, PyData.depth, hx, hy]
  rw [if_pos e, eqD_str]
def sigs : Str := "abcdefghijklmnopqrstuvwxyz0123456789"
def firs : Str := "abcdefghijklmnopqrstuvwxyz"
structure NameOk (x : Str) : Prop where
  l1 : 1 ≤ x.cps.size
  l2 : x.cps.size ≤ 12
  ny : x ≠ ("any" : Str)
  hf : x.cps.getD 0 0 ∈ firs.cps.toList
  hs : ∀ c ∈ x.cps.toList, c ∈ sigs.cps.toList
theorem sig_small : ∀ c ∈ sigs.cps.toList, c < 1114112 := by decide +kernel
theorem NameOk.ok {x : Str} (h : NameOk x) : PyData.strOk x = true := by
  unfold PyData.strOk
  rw [Array.all_eq_true']
  intro c hc
  simpa using sig_small c (h.hs c (by simpa using hc))
theorem any_ok : PyData.strOk ("any" : Str) = true := by decide +kernel
theorem p_len_str (x : Str) (h : x.cps.size ≤ 12) : prim .len [.str x] = some (D.int (x.cps.size : Nat)) := by
  show (if x.length ≤ 16777216 then some (D.int (x.length : Nat)) else none) = _
  have : x.length = x.cps.size := rfl
  rw [if_pos (by omega), this]
theorem p_item0 (x : Str) (h : 1 ≤ x.cps.size) (h2 : x.cps.size ≤ 12) : prim .item [.str x, .int 0] = some (D.str ⟨#[x.cps.getD 0 0]⟩) := by
  show oneSign x 0 = _
  unfold oneSign
  have : x.length = x.cps.size := rfl
  rw [if_pos (by omega)]
  have e := atI_nat x.cps.toList 0 (by simp; omega)
  have e' : L2.atI x.cps.toList (0 : Int) = x.cps.toList[0]? := e
  rw [e']
  have : x.cps.toList[0]? = some (x.cps.getD 0 0) := by
    rw [List.getElem?_eq_getElem (by simp; omega)]
    have z : 0 < x.cps.size := by omega
    simp [Array.getD, z]
  rw [this]
  rfl
theorem p_sig_in (c : Nat) (y : Str) : prim .isIn [.str ⟨#[c]⟩, .str y] = some (D.bl (decide (c ∈ y.cps.toList))) := rfl
theorem p_sig_notIn (c : Nat) (y : Str) : prim .notIn [.str ⟨#[c]⟩, .str y] = some (D.bl (!decide (c ∈ y.cps.toList))) := rfl
theorem sp_is_name (m : Nat) {x : Str} (t : Sto) (h : NameOk x) : callF FF 100000 (m + 1) 0 [.str x] t = .ok (.bl true) t := by
  have hF : FF[0]? = some ⟨1, 2, b_is_name⟩ := rfl
  rw [callF_succ, hF]
  have C := comp_pure (cf := callF FF 100000 m) (elt := .prim .isIn (.cons (.var 1) (.cons (.glob "SIGNS" (.str "abcdefghijklmnopqrstuvwxyz0123456789")) .nil))) (t := .nm 1) (it := .seq (.var 0)) (cs := .nil) (vs := [1]) (s := { loc := [.val (.str x), .unb], sto := t }) (s1 := { loc := [.val (.str x), .unb], sto := t })
    (xs := x.cps.toList.map fun c => .str ⟨#[c]⟩) (fun _ => some (.bl true)) rfl (fun d hd => ?_) (by have := h.l2; simp; omega)
  · rw [filterMap_const] at C
    have al := p_all_map (x.cps.toList.map fun c => D.str ⟨#[c]⟩) (fun _ => true)
    have e1 := p_len_str x h.l2
    have e2 := p_eq_str h.ok any_ok
    have e3 := p_item0 x h.l1 h.l2
    have e4 := p_sig_notIn (x.cps.getD 0 0) firs
    have e5 : decide (x.cps.getD 0 0 ∈ firs.cps.toList) = true := decide_eq_true h.hf
    have e6 : decide (x = ("any" : Str)) = false := decide_eq_false h.ny
    have e7 : prim .lt [.int (x.cps.size : Nat), .int 1] = some (D.bl false) := by
      show some (D.bl (decide ((x.cps.size : Int) < 1))) = _
      have := h.l1
      rw [decide_eq_false (by omega)]
    have e8 : prim .gt [.int (x.cps.size : Nat), .int 12] = some (D.bl false) := by
      show some (D.bl (decide ((x.cps.size : Int) > 12))) = _
      have := h.l2
      rw [decide_eq_false (by omega)]
    rw [e5] at e4
    rw [e6] at e2
    have e4 : prim .notIn [D.str ⟨#[x.cps.getD 0 0]⟩, D.str "abcdefghijklmnopqrstuvwxyz"] = some (D.bl false) := e4
    clear e5 e6
    generalize x.cps.getD 0 0 = c0 at *
    simp only [b_is_name]
    simp [C, rdVar, e1, e2, e3, e4, e7, e8]
    simp at al
    rw [al]
    simp
  · obtain ⟨c, hc, rfl⟩ := List.mem_map.mp hd
    refine ⟨[.val (.str x), .val (.str ⟨#[c]⟩)], ?_, rfl⟩
    have e := p_sig_in c sigs
    rw [decide_eq_true (h.hs c hc)] at e
    have e : prim .isIn [D.str ⟨#[c]⟩, D.str "abcdefghijklmnopqrstuvwxyz0123456789"] = some (D.bl true) := e
    simp [turnF, MP.assign, rdVar, MP.wipe, e]
structure Names (names : Row) : Prop where
  nm : ∀ x ∈ names, NameOk x
  srt : names.Pairwise sLt
  nl : names.length ≤ 12
theorem sLt_irrefl (x : Str) : ¬ sLt x x := List.lt_irrefl _
theorem Names.nd {names : Row} (h : Names names) : names.Nodup := h.srt.imp fun {a b} hab e => by subst e; exact sLt_irrefl _ hab
theorem Names.ok {names : Row} (h : Names names) : okStrs names := fun x hx => (h.nm x hx).ok
theorem callv_at {m f : Nat} {ds : List D} {d : D} (h : ∀ t, callF FF 100000 m f ds t = .ok d t) (s : S) : callO (callF FF 100000 m) f ds s = .ok d s := by rw [call_ok (h s.sto)]
theorem all_true {α : Type} (l : List α) : (l.all fun _ => true) = true := by
  induction l with
  | nil => rfl
  | cons x l ih => simp
theorem p_gt_int (a b : Int) : prim .gt [.int a, .int b] = some (D.bl (decide (a > b))) := rfl
def backS (l : List D) : Row := l.filterMap fun | .str x => some x | _ => none
theorem backS_set (l : Row) : backS (l.map D.str) = l := by
  induction l with
  | nil => rfl
  | cons x l ih => show x :: backS (l.map D.str) = _; rw [ih]
theorem sIx_nat (n d k : Nat) (h : k ≤ n) : HT.sIx n d (some (k : Int)) = k := by
  show (if (k : Int) < 0 then ((k : Int) + (n : Int)).toNat else min (k : Int).toNat n) = k
  rw [if_neg (by omega)]
  omega
theorem cut_to {α : Type} (x : List α) (k : Nat) (h : k ≤ x.length) : MP.cut x none (some (k : Int)) = x.take k := by
  unfold MP.cut
  have a : HT.sIx x.length 0 none = 0 := rfl
  have b : HT.sIx x.length x.length (some (k : Int)) = k := sIx_nat _ _ _ h
  rw [a, b]
  simp
theorem cut_from {α : Type} (x : List α) (k : Nat) (h : k ≤ x.length) : MP.cut x (some (k : Int)) none = x.drop k := by
  unfold MP.cut
  have a : HT.sIx x.length x.length none = x.length := rfl
  have b : HT.sIx x.length 0 (some (k : Int)) = k := sIx_nat _ _ _ h
  rw [a, b]
  apply List.take_of_length_le
  simp
theorem st_own_ok {cf : CF} {wf i : Nat} {e : PE} {s s' : S} {xs : List D} (h : evalE cf e s = .ok (.lst xs) s') (hi : i < s'.loc.length) : evalS cf wf (.own i e) s = .ok .nx { s' with loc := s'.loc.set i (.own xs) } := by
  simp only [evalS, h, bind_ok, if_pos hi]
theorem st_app_ok {cf : CF} {wf i : Nat} {e : PE} {s s' : S} {ys xs : List D} {d : D} (h0 : s.loc[i]? = some (.own ys)) (h : evalE cf e s = .ok d s') (h1 : s'.loc[i]? = some (.own xs)) (hl : xs.length < 1000000) : evalS cf wf (.app i e) s = .ok .nx { s' with loc := s'.loc.set i (.own (xs ++ [d])) } := by
  simp only [evalS, h0, h, bind_ok, h1, if_pos hl]
theorem forLoop_rem {α β : Type} {f : D → S → Out Fl} (h : β → D) (emb : α → S) (g : α → β → α) (P : List β → α → Prop) (k : ∀ y r a, P (y :: r) a → f (h y) (emb a) = .ok .nx (emb (g a y)) ∧ P r (g a y)) : ∀ (ys : List β) (a : α), P ys a → forLoop f (ys.map h) (emb a) = .ok .nx (emb (ys.foldl g a)) ∧ P [] (ys.foldl g a)
  | [], a, h => ⟨rfl, h⟩
  | y :: r, a, h0 => by
    obtain ⟨e1, h1⟩ := k y r a h0
    obtain ⟨e2, h2⟩ := forLoop_rem h emb g P k r (g a y) h1
    refine ⟨?_, h2⟩
    rw [List.map_cons, forLoop, e1]
    simp only [bind_ok]
    rw [e2]
    rfl
theorem alike_strs : ∀ xs ys : Row, W.alikeAll (pdL (xs.map D.str)) (pdL (ys.map D.str)) = true
  | [], [] => by simp [pdL, W.alikeAll]
  | [], _ :: _ => by simp [pdL, W.alikeAll]
  | _ :: _, [] => by simp [pdL, W.alikeAll]
  | x :: xs, y :: ys => by
    simp [pdL, W.alikeAll, W.alike, D.pd, alike_strs xs ys]
theorem alike_sets (x y : Row) : W.alike (setD x).pd (setD y).pd = true := by
  show W.alike (D.tup (x.map D.str)).pd (D.tup (y.map D.str)).pd = true
  simp [D.pd, W.alike, alike_strs x y]
theorem alike_str (x y : Str) : W.alike (D.str x).pd (D.str y).pd = true := by
  simp [D.pd, W.alike]
theorem setD_flat (x : Row) : (setD x).flat = true := by
  show (D.tup (x.map D.str)).flat = true
  simp [D.flat, strs_flat]
theorem setD_depth (x : Row) : (setD x).pd.depth ≤ 64 := by
  show (D.tup (x.map D.str)).pd.depth ≤ 64
  simp [D.pd, PyData.depth, strs_depth]
theorem sortOk_sets (rs : List Row) (h : rs.length ≤ 1000000) : sortOk (rs.map setD) = true := by
  unfold sortOk allAlike
  simp only [Bool.and_eq_true, List.all_eq_true, decide_eq_true_eq, List.length_map]
  refine ⟨⟨fun d hd => ?_, fun d hd e he => ?_⟩, by omega⟩
  · obtain ⟨r, -, rfl⟩ := List.mem_map.mp hd
    exact ⟨⟨setD_flat r, rfl⟩, setD_depth r⟩
  · obtain ⟨r, -, rfl⟩ := List.mem_map.mp hd
    obtain ⟨r', -, rfl⟩ := List.mem_map.mp he
    exact alike_sets r r'
theorem sortOk_strs (rs : Row) (h : rs.length ≤ 1000000) : sortOk (rs.map D.str) = true := by
  unfold sortOk allAlike
  simp only [Bool.and_eq_true, List.all_eq_true, decide_eq_true_eq, List.length_map]
  refine ⟨⟨fun d hd => ?_, fun d hd e he => ?_⟩, by omega⟩
  · obtain ⟨r, -, rfl⟩ := List.mem_map.mp hd
    exact ⟨⟨rfl, rfl⟩, by simp [D.pd, PyData.depth]⟩
  · obtain ⟨r, -, rfl⟩ := List.mem_map.mp hd
    obtain ⟨r', -, rfl⟩ := List.mem_map.mp he
    exact alike_str r r'
theorem p_sorted_strs (rs : Row) (h : rs.length ≤ 1000000) : prim .sorted [setD rs] = some (.lst (sortD false (rs.map D.str))) := by
  show (if sortOk (rs.map D.str) then some (D.lst (sortD false (rs.map D.str))) else none) = _
  rw [if_pos (sortOk_strs rs h)]
theorem p_ge_int (a b : Int) : prim .ge [.int a, .int b] = some (D.bl (decide (a ≥ b))) := rfl
theorem p_le_int (a b : Int) : prim .le [.int a, .int b] = some (D.bl (decide (a ≤ b))) := rfl
theorem ev_chain_ok {cf : CF} {o1 o2 : Prim} {a b c : PE} {s : S} {x y z : D} {p q : Bool} (h1 : evalE cf a s = .ok x s) (h2 : evalE cf b s = .ok y s) (h3 : evalE cf c s = .ok z s) (h4 : prim o1 [x, y] = some (.bl p)) (h5 : prim o2 [y, z] = some (.bl q)) : evalE cf (.chain o1 o2 a b c) s = .ok (.bl (p && q)) s := by
  simp only [evalE, h1, h2, bind_ok, h4]
  cases p with
  | true => simp only [h3, bind_ok, h5, toOut_some, Bool.true_and]
  | false => rfl
theorem evB_two {cf : CF} {a b : PE} {s : S} {p q : Bool} (h1 : evalE cf a s = .ok (.bl p) s) (h2 : p = true → evalE cf b s = .ok (.bl q) s) : evalE cf (.bop true (.cons a (.cons b .nil))) s = .ok (.bl (p && q)) s := by
  simp [h1]
  cases p with
  | true => simpa using h2 rfl
  | false => simp
/-- the store of the law: the drawn numbers, and how many were used -/
def St (nums : List Int) (c : Int) : Sto := [.lst [.lst (nums.map .int), .int c]]
structure NumsOk (nums : List Int) : Prop where
  ne : nums ≠ []
  len : nums.length ≤ 1000000
  rng : ∀ n ∈ nums, 0 ≤ n ∧ n ≤ 1008
theorem mulOk_of {i j : Int} (h1 : i.natAbs < 2 ^ 200) (h2 : j.natAbs < 2 ^ 200) : mulOk i j = true := by
  have a : ∀ n : Nat, n < 2 ^ 200 → n.log2 < 200 := fun n h => by
    by_cases z : n = 0
    · subst z; decide
    · exact (Nat.log2_lt z).mpr h
  unfold mulOk
  have := a _ h1
  have := a _ h2
  simp
  omega
theorem deref_St (nums : List Int) (c : Int) : deref (St nums c) (.ref 0) = .lst [.lst (nums.map .int), .int c] := rfl
theorem st_setc_ok {cf : CF} {wf : Nat} {o ix e : PE} {s : S} {d : D} {j : Nat} {k : Int} {xs ys : List D} (h1 : evalE cf e s = .ok d s) (h2 : evalE cf o s = .ok (.ref j) s) (h3 : evalE cf ix s = .ok (.int k) s) (h4 : s.sto[j]? = some (.lst xs)) (h5 : setAt xs k d = some ys) : evalS cf wf (.setc o ix e) s = .ok .nx { s with sto := s.sto.set j (.lst ys) } := by
  simp only [evalS, h1, h2, h3, bind_ok, h4, h5]
theorem sp_next (m : Nat) {nums : List Int} {c many : Int} (h : NumsOk nums) (hc : 0 ≤ c ∧ c ≤ 1000000000) (hm : 0 < many) : ∃ v : Int, 0 ≤ v ∧ v < many ∧ callF FF 100000 (m + 1) 14 [.ref 0, .int many] (St nums c) = .ok (.int v) (St nums (c + 1)) := by
  have hF : FF[14]? = some ⟨2, 3, b_law_next⟩ := rfl
  have ln : 0 < nums.length := List.length_pos_iff.mpr h.ne
  have hl := h.len
  obtain ⟨j, hj⟩ : ∃ j : Nat, (c + 1) % (nums.length : Int) = j := ⟨((c + 1) % (nums.length : Int)).toNat, by have := Int.emod_nonneg (c + 1) (b := (nums.length : Int)) (by omega); omega⟩
  have jl : j < nums.length := by have := Int.emod_lt_of_pos (c + 1) (b := (nums.length : Int)) (by omega); omega
  have q1 : prim .item [.lst [.lst (nums.map .int), .int c], .int 1] = some (.int c) := rfl
  have q2 : prim .add [.int c, .int 1] = some (.int (c + 1)) := rfl
  have q3 : prim .item [.lst [.lst (nums.map .int), .int (c + 1)], .int 1] = some (.int (c + 1)) := rfl
  have q4 : prim .item [.lst [.lst (nums.map .int), .int (c + 1)], .int 0] = some (.lst (nums.map .int)) := rfl
  have q5 : prim .len [.lst (nums.map .int)] = some (.int nums.length) := by
    show some (D.int ((nums.map D.int).length : Nat)) = _
    rw [List.length_map]
  have dv : divOk (nums.length : Int) = true := by
    unfold divOk
    have z : nums.length ≠ 0 := by omega
    have : (nums.length : Nat).log2 < 200 := (Nat.log2_lt z).mpr (by omega)
    simp
    omega
  have q6 : prim .fdiv [.int (c + 1), .int nums.length] = some (.int ((c + 1) / nums.length)) := by
    show (if divOk (nums.length : Int) then some (D.int ((c + 1) / nums.length)) else none) = _
    rw [if_pos dv]
  have q7 : prim .mod [.int (c + 1), .int nums.length] = some (.int j) := by
    show (if 0 < (nums.length : Int) then some (D.int ((c + 1) % nums.length)) else none) = _
    rw [if_pos (by omega), hj]
  have q8 : prim .item [.lst (nums.map .int), .int j] = some (.int nums[j]) := by
    show L2.atI (nums.map D.int) (j : Int) = _
    rw [atI_nat _ _ (by simpa using jl)]
    simp [jl]
  have t0 : 0 ≤ (c + 1) / (nums.length : Int) := Int.ediv_nonneg (by omega) (by omega)
  have t1 : (c + 1) / (nums.length : Int) ≤ c + 1 := Int.ediv_le_self _ (by omega)
  generalize (c + 1) / (nums.length : Int) = u at *
  have q9 : prim .mul [.int u, .int 389] = some (.int (u * 389)) := by
    show (if mulOk u 389 then some (D.int (u * 389)) else none) = _
    rw [if_pos (mulOk_of (by omega) (by decide))]
  have q10 : prim .mul [.int (c + 1), .int u] = some (.int ((c + 1) * u)) := by
    show (if mulOk (c + 1) u then some (D.int ((c + 1) * u)) else none) = _
    rw [if_pos (mulOk_of (by omega) (by omega))]
  have q11 : prim .mul [.int ((c + 1) * u), .int 17] = some (.int ((c + 1) * u * 17)) := by
    show (if mulOk ((c + 1) * u) 17 then some (D.int ((c + 1) * u * 17)) else none) = _
    have b : ((c + 1) * u).natAbs < 2 ^ 200 := by
      rw [Int.natAbs_mul]
      calc (c + 1).natAbs * u.natAbs ≤ 1000000001 * 1000000001 := Nat.mul_le_mul (by omega) (by omega)
        _ < 2 ^ 200 := by decide
    rw [if_pos (mulOk_of b (by decide))]
  have q12 : prim .add [.int nums[j], .int (u * 389)] = some (.int (nums[j] + u * 389)) := rfl
  have q13 : prim .add [.int (nums[j] + u * 389), .int ((c + 1) * u * 17)] = some (.int (nums[j] + u * 389 + (c + 1) * u * 17)) := rfl
  generalize nums[j] + u * 389 + (c + 1) * u * 17 = tot at *
  have q14 : prim .int1 [.int tot] = some (.int tot) := rfl
  have q15 : prim .mod [.int tot, .int many] = some (.int (tot % many)) := by
    show (if 0 < many then some (D.int (tot % many)) else none) = _
    rw [if_pos hm]
  refine ⟨tot % many, Int.emod_nonneg _ (by omega), Int.emod_lt_of_pos _ hm, ?_⟩
  rw [callF_succ, hF]
  show (if [D.ref 0, .int many].length = 2 then runRes (evalSs (callF FF 100000 m) 100000 b_law_next { loc := [D.ref 0, .int many].map .val ++ List.replicate (3 - 2) .unb, sto := St nums c }) else .bad) = _
  rw [if_pos (show [D.ref 0, .int many].length = 2 from rfl)]
  unfold b_law_next
  have s1 : evalS (callF FF 100000 m) 100000 (.setc (.var 0) (.con (.int 1)) (.prim .add (.cons (.prim .item (.cons (.var 0) (.cons (.con (.int 1)) .nil))) (.cons (.con (.int 1)) .nil)))) { loc := [D.ref 0, .int many].map .val ++ List.replicate (3 - 2) .unb, sto := St nums c } = .ok .nx { loc := [.val (.ref 0), .val (.int many), .unb], sto := St nums (c + 1) } :=
    st_setc_ok (d := .int (c + 1)) (j := 0) (k := 1) (by simp [rdVar, deref_St, q1, q2]) (by simp [rdVar]) (by simp) rfl rfl
  rw [evalSs_one s1, seqR_nx]
  simp [rdVar, deref_St, MP.assign, q3, q4, q5, q6, q7, q8, q9, q10, q11, q12, q13, q14, q15]
/-- a comprehension whose turns write to the store -/
theorem comp_run {β : Type} {cf : CF} {elt : PE} {t : Tgt} {it : Iter} {cs : PL} {vs : List Nat} {s s1 : S} {ys : List β} {h : β → D} (K : List β → List D → Sto → Prop) (hI : evalI cf it s = .ok (ys.map h) s1) (h0 : K [] [] s1.sto)
    (hf : ∀ p y a t', y ∈ ys → p.length < ys.length → K p a t' → ∃ es loc' t'', turnF cf elt t cs (h y) { loc := MP.wipe s1.loc vs, sto := t' } = .ok es { loc := loc', sto := t'' } ∧ MP.wipe loc' vs = MP.wipe s1.loc vs ∧ K (p ++ [y]) (a ++ es) t'') (hl : ∀ a t', K ys a t' → a.length ≤ 1000000) :
    ∃ a t', evalE cf (.comp elt t it cs vs) s = .ok (.lst a) { loc := unwipe s1.loc s1.loc vs, sto := t' } ∧ K ys a t' := by
  rw [evalE_comp, hI]
  simp only [bind_ok]
  have key : ∀ (r p : List β) (a : List D) (s' : S), p ++ r = ys → K p a s'.sto → MP.wipe s'.loc vs = MP.wipe s1.loc vs → ∃ es s'', compLoop vs (turnF cf elt t cs) (r.map h) s' = .ok es s'' ∧ K ys (a ++ es) s''.sto ∧ MP.wipe s''.loc vs = MP.wipe s1.loc vs := by
    intro r
    induction r with
    | nil => exact fun p a s' e k w => ⟨[], s', rfl, by rw [List.append_nil] at e ⊢; rw [← e]; exact k, w⟩
    | cons y r ih =>
      intro p a s' e k w
      obtain ⟨es, loc', t'', e1, e2, e3⟩ := hf p y a s'.sto (by rw [← e]; simp) (by rw [← e]; simp) k
      have ess : ({ s' with loc := MP.wipe s'.loc vs } : S) = { loc := MP.wipe s1.loc vs, sto := s'.sto } := by rw [w]
      obtain ⟨fs, s'', e4, e5, e6⟩ := ih (p ++ [y]) (a ++ es) { loc := loc', sto := t'' } (by rw [← e]; simp) e3 e2
      refine ⟨es ++ fs, s'', ?_, by rw [← List.append_assoc]; exact e5, e6⟩
      rw [List.map_cons, compLoop, ess, e1]
      simp only [bind_ok]
      rw [e4]
      rfl
  obtain ⟨es, s'', e1, e2, e3⟩ := key ys [] [] s1 rfl h0 rfl
  rw [List.nil_append] at e2
  refine ⟨es, s''.sto, ?_, e2⟩
  rw [e1]
  simp only [calm_ok, bind_ok]
  rw [if_pos (hl _ _ e2), unwipe_same e3]
theorem toks_strs_inj : ∀ (xs ys : List Str), W.keyToksAll (xs.map PyData.str) = W.keyToksAll (ys.map PyData.str) → xs = ys
  | [], [], _ => rfl
  | [], y :: ys, h => by simp [W.keyToksAll, W.keyToks] at h
  | x :: xs, [], h => by simp [W.keyToksAll, W.keyToks] at h
  | x :: xs, y :: ys, h => by
    simp only [List.map_cons, W.keyToksAll, W.keyToks, List.cons_append, List.nil_append, List.cons.injEq, Sum.inr.injEq, true_and] at h
    rw [W.str_of_cps h.1, toks_strs_inj xs ys h.2]
open PyProof.Rows PySem.W in
theorem dataLe_anti {α : Type} (k : α → PyData) (inj : ∀ a b, W.keyToks (k a) = W.keyToks (k b) → a = b) (a b : α) (h1 : W.dataLe false k a b = true) (h2 : W.dataLe false k b a = true) : a = b := by
  have h1' : (!PyProof.Rows.lexLt itemOrd (W.keyToks (k b)) (W.keyToks (k a))) = true := h1
  have h2' : (!PyProof.Rows.lexLt itemOrd (W.keyToks (k a)) (W.keyToks (k b))) = true := h2
  rw [Bool.not_eq_true'] at h1' h2'
  exact inj a b (lex_total (O := itemOrd) _ _ h2' h1')
open PyProof.Rows PySem.W in
theorem sort_perm {α : Type} (k : α → PyData) (inj : ∀ a b, W.keyToks (k a) = W.keyToks (k b) → a = b) {l m : List α} (h : l.Perm m) : l.mergeSort (W.dataLe false k) = m.mergeSort (W.dataLe false k) := by
  have t : TotalLe (W.dataLe false k) := sortLe_total (listOrd itemOrd) false fun b => W.keyToks (k b)
  refine List.Perm.eq_of_pairwise (le := fun a b => W.dataLe false k a b = true) (fun a b _ _ h1 h2 => dataLe_anti k inj a b h1 h2) ?_ ?_ ?_
  · exact sort_pairwise t l
  · exact sort_pairwise t m
  · exact (List.mergeSort_perm l _).trans (h.trans (List.mergeSort_perm m _).symm)
theorem str_inj (a b : Str) (h : W.keyToks (PyData.str a) = W.keyToks (PyData.str b)) : a = b := by
  simp only [W.keyToks, List.cons.injEq, Sum.inr.injEq, and_true] at h
  exact W.str_of_cps h
theorem le_str (a b : Str) : W.dataLe false (fun x : Str => PyData.str x) a b = decide (a.cps.toList ≤ b.cps.toList) := by
  rw [W.dataLe_str]
theorem sLt_le {a b : Str} (h : sLt a b) : W.dataLe false (fun x : Str => PyData.str x) a b = true := by
  rw [le_str, decide_eq_true_eq]
  exact List.le_of_lt h
theorem sLt_of_le {a b : Str} (h : W.dataLe false (fun x : Str => PyData.str x) a b = true) (ne : a ≠ b) : sLt a b := by
  rw [le_str, decide_eq_true_eq] at h
  have : a.cps.toList ≠ b.cps.toList := fun e => ne (W.str_of_cps e)
  refine Decidable.byContradiction fun hn => this ?_
  exact List.le_antisymm h (List.not_lt.mp hn)
theorem sort_same {l : List Str} (h : l.Pairwise sLt) : l.mergeSort (W.dataLe false fun x : Str => PyData.str x) = l :=
  List.Perm.eq_of_pairwise (le := fun a b => W.dataLe false (fun x : Str => PyData.str x) a b = true) (fun a b _ _ h1 h2 => dataLe_anti _ str_inj a b h1 h2)
    (W.sort_pairwise (PySem.W.sortLe_total (PyProof.Rows.listOrd PyProof.Rows.itemOrd) false fun b => W.keyToks (PyData.str b)) l) (h.imp fun h => sLt_le h) (List.mergeSort_perm l _)
theorem sort_rising {l : List Str} (nd : l.Nodup) : (l.mergeSort (W.dataLe false fun x : Str => PyData.str x)).Pairwise sLt := by
  have h1 := W.sort_pairwise (PySem.W.sortLe_total (PyProof.Rows.listOrd PyProof.Rows.itemOrd) false fun b => W.keyToks (PyData.str b)) l
  have h2 : (l.mergeSort (W.dataLe false fun x : Str => PyData.str x)).Nodup := (List.mergeSort_perm l _).nodup_iff.mpr nd
  exact (h1.and (List.nodup_iff_pairwise_ne.mp h2)).imp fun h => sLt_of_le h.1 h.2
theorem row_inj (a b : Row) (h : W.keyToks (setD a).pd = W.keyToks (setD b).pd) : a = b := by
  have e : ∀ r : Row, W.keyToks (setD r).pd = W.keyToksAll (r.map PyData.str) := fun r => by
    show W.keyToks (D.tup (r.map D.str)).pd = _
    rw [D.pd, W.keyToks, pdL_map, List.map_map]
    rfl
  rw [e, e] at h
  exact toks_strs_inj a b h
theorem sortD_strs (l : Row) : sortD false (l.map D.str) = (l.mergeSort (W.dataLe false fun x : Str => PyData.str x)).map D.str := (W.sort_maps D.str fun _ _ _ _ => rfl).symm
theorem sLt_trans {a b c : Str} (h1 : sLt a b) (h2 : sLt b c) : sLt a c := List.lt_trans h1 h2
theorem eqD_strs : ∀ a b : Row, PyData.eqvAll (pdL (a.map .str)) (pdL (b.map .str)) = decide (a = b)
  | [], [] => by simp [pdL, PyData.eqvAll]
  | [], _ :: _ => by simp [pdL, PyData.eqvAll]
  | _ :: _, [] => by simp [pdL, PyData.eqvAll]
  | x :: a, y :: b => by
    have h := eqD_str x y
    unfold eqD at h
    simp only [List.map_cons, pdL, PyData.eqvAll, eqD_strs a b, h]
    by_cases h1 : x = y <;> by_cases h2 : a = b <;> simp [h1, h2]
theorem p_eq_strs {a b : Row} (ha : okStrs a) (hb : okStrs b) : prim .eq [.lst (a.map .str), .lst (b.map .str)] = some (.bl (decide (a = b))) := by
  show (if eqOk (D.lst (a.map .str)) (D.lst (b.map .str)) then some (D.bl (eqD (D.lst (a.map .str)) (D.lst (b.map .str)))) else none) = _
  have e : eqOk (D.lst (a.map .str)) (D.lst (b.map .str)) = true := by
    simp [eqOk, SeqAt.shaped, D.flat, D.pd, PyData.canLay0, PyData.depth, strs_flat, strs_canLay ha, strs_canLay hb, strs_depth]
  rw [if_pos e]
  have : eqD (D.lst (a.map .str)) (D.lst (b.map .str)) = decide (a = b) := by
    unfold eqD
    simp only [D.pd, PyData.eqv, eqD_strs]
  rw [this]
theorem p_sort_same {l : Row} (h : l.Pairwise sLt) (hl : l.length ≤ 1000000) : prim .sorted [setD l] = some (.lst (l.map D.str)) := by
  rw [p_sorted_strs l hl, sortD_strs, sort_same h]
theorem call_to {cf : CF} {f : Nat} {ds : List D} {s : S} {d : D} {t t' : Sto} (hs : s.sto = t) (h : cf f ds t = .ok d t') (hl : t'.length ≤ t.length := by exact Nat.le_refl _) : callO cf f ds s = .ok d { s with sto := t' } := by
  subst hs
  exact call_ok h hl
theorem evalE_call {cf : CF} {f : Nat} {es : PL} {ds : List D} {s s1 : S} {d : D} {t : Sto} (h1 : evalL cf es s = .ok ds s1) (h2 : cf f ds s1.sto = .ok d t) (hl : t.length ≤ s1.sto.length := by exact Nat.le_refl _) : evalE cf (.call f es) s = .ok d { s1 with sto := t } := by
  rw [ev_call, h1]
  simp only [bind_ok]
  exact call_ok h2 hl
theorem evalL_cons_ok {cf : CF} {e : PE} {r : PL} {s s1 s2 : S} {d : D} {ds : List D} (h1 : evalE cf e s = .ok d s1) (h2 : evalL cf r s1 = .ok ds s2) : evalL cf (.cons e r) s = .ok (d :: ds) s2 := by
  rw [evL_cons, h1]
  simp only [bind_ok]
  rw [h2]
  rfl
theorem p_eq_int (a b : Int) : prim .eq [.int a, .int b] = some (D.bl (decide (a = b))) := by
  show (if eqOk (D.int a) (D.int b) then some (D.bl (eqD (D.int a) (D.int b))) else none) = _
  have e : eqOk (D.int a) (D.int b) = true := by
    simp [eqOk, D.flat, D.pd, SeqAt.shaped, PyData.canLay0, PyData.depth]
  rw [if_pos e]
  unfold eqD
  simp only [D.pd, PyData.eqv]
  rfl
def ok1 (x : Str) : Prop := ∀ c ∈ x.cps.toList, c < 1114112
theorem ok1_iff {x : Str} : PyData.strOk x = true ↔ ok1 x := by
  unfold PyData.strOk ok1
  rw [← Array.all_toList, List.all_eq_true]
  simp
theorem ok1_append {x y : Str} (h1 : ok1 x) (h2 : ok1 y) : ok1 (x ++ y) := by
  intro c hc
  have e : (x ++ y).cps.toList = x.cps.toList ++ y.cps.toList := by
    show (x.cps ++ y.cps).toList = _
    simp
  rw [e] at hc
  rcases List.mem_append.mp hc with hc | hc
  · exact h1 c hc
  · exact h2 c hc
theorem ok1_string (s : String) : ok1 (Str.ofString s) := by
  rw [Str.ofString_eq_toList]
  intro c hc
  obtain ⟨a, _, rfl⟩ := List.mem_map.mp hc
  have := a.valid
  have e : a.toNat = a.val.toNat := rfl
  rw [e]
  rcases this with h | h
  · omega
  · have := h.2; omega
theorem ok1_from : ∀ (ts : List Str) (k : Nat) (acc : Str), ok1 acc → (∀ t ∈ ts, ok1 t) → ok1 (textFrom k acc ts)
  | [], _, _, h, _ => h
  | t :: ts, k, acc, h, ht => ok1_from ts (k + 1) _ (ok1_append (ok1_append h (ok1_string _)) (ht t List.mem_cons_self)) fun u hu => ht u (List.mem_cons_of_mem _ hu)
theorem ok1_list (ts : List Str) (ht : ∀ t ∈ ts, ok1 t) : ok1 (listText ts) := ok1_append (ok1_from ts 0 _ (ok1_string _) ht) (ok1_string _)
theorem ok1_left {x y : Str} (h : ok1 (x ++ y)) : ok1 x := fun c hc => h c (by
  show c ∈ (x.cps ++ y.cps).toList
  simp [hc])
theorem ok1_right {x y : Str} (h : ok1 (x ++ y)) : ok1 y := fun c hc => h c (by
  show c ∈ (x.cps ++ y.cps).toList
  simp [hc])
theorem ok1_join (ts : List Str) (ht : ∀ t ∈ ts, ok1 t) : ok1 (Str.join ", " ts) := by
  have h := ok1_list ts ht
  rw [listText_eq_join] at h
  exact ok1_right (ok1_left h)
theorem ok1_tuple (ts : List Str) (ht : ∀ t ∈ ts, ok1 t) : ok1 (tupleText ts) := ok1_append (ok1_append (ok1_string _) (ok1_join ts ht)) (ok1_string _)
theorem repr_char_ok {q c : Nat} (h : c < 1114112) (hq : q < 1114112) : ∀ d ∈ Builtin.Str.reprChar q c, d < 1114112 := by
  have dig : ∀ d ∈ (Nat.toDigits 16 c).map Char.toNat, d < 1114112 := fun d hd => by
    obtain ⟨a, _, rfl⟩ := List.mem_map.mp hd
    have := a.valid
    have e : a.toNat = a.val.toNat := rfl
    rw [e]
    rcases this with h | h
    · omega
    · have := h.2; omega
  have rep : ∀ n : Nat, ∀ d ∈ List.replicate n 48, d < 1114112 := fun n d hd => by rw [(List.mem_replicate.mp hd).2]; omega
  intro d hd
  unfold Builtin.Str.reprChar at hd
  simp only at hd
  split at hd
  · simp at hd; omega
  split at hd
  · simp at hd; omega
  split at hd
  · simp at hd; omega
  split at hd
  · simp at hd; omega
  split at hd
  · simp at hd; omega
  split at hd
  · rcases List.mem_append.mp hd with hd | hd
    · simp at hd; omega
    · rcases List.mem_append.mp hd with hd | hd
      · exact rep _ d hd
      · exact dig d hd
  split at hd
  · rcases List.mem_append.mp hd with hd | hd
    · simp at hd; omega
    · rcases List.mem_append.mp hd with hd | hd
      · exact rep _ d hd
      · exact dig d hd
  · rcases List.mem_append.mp hd with hd | hd
    · simp at hd; omega
    · rcases List.mem_append.mp hd with hd | hd
      · exact rep _ d hd
      · exact dig d hd
theorem repr_fold_ok {q : Nat} (hq : q < 1114112) : ∀ (l : List Nat) (acc : Array Nat), (∀ c ∈ l, c < 1114112) → (∀ c ∈ acc.toList, c < 1114112) → ∀ c ∈ (l.foldl (fun out c => out ++ (Builtin.Str.reprChar q c).toArray) acc).toList, c < 1114112
  | [], acc, _, h => h
  | c :: l, acc, hl, h => repr_fold_ok hq l _ (fun d hd => hl d (List.mem_cons_of_mem _ hd)) fun d hd => by
    rw [Array.toList_append] at hd
    rcases List.mem_append.mp hd with hd | hd
    · exact h d hd
    · exact repr_char_ok (hl c List.mem_cons_self) hq d (by simpa using hd)
theorem quote_small (x : Str) : reprQuote x < 1114112 := by
  unfold reprQuote
  split <;> omega
theorem ok1_repr {x : Str} (h : ok1 x) : ok1 (reprText x) := by
  intro c hc
  unfold reprText at hc
  have hc : c ∈ ((x.cps.foldl (fun out c => out ++ (Builtin.Str.reprChar (reprQuote x) c).toArray) #[reprQuote x]).push (reprQuote x)).toList := hc
  rw [Array.toList_push, ← Array.foldl_toList] at hc
  rcases List.mem_append.mp hc with hc | hc
  · refine repr_fold_ok (quote_small x) x.cps.toList _ h ?_ c hc
    intro d hd
    simp at hd
    rw [hd]
    exact quote_small x
  · rw [List.mem_singleton.mp hc]
    exact quote_small x
mutual
/-- data of texts that can be laid and of small ints, at most n deep -/
def fine : Nat → D → Bool
  | _, .non => true
  | _, .bl _ => true
  | _, .int i => decide (i.natAbs < 999999999999)
  | _, .str x => PyData.strOk x
  | n, .tup xs => decide (0 < n) && fineL (n - 1) xs
  | n, .lst xs => decide (0 < n) && fineL (n - 1) xs
  | _, .fn _ => false
  | _, .ref _ => false
  | _, .scr _ => false
def fineL : Nat → List D → Bool
  | _, [] => true
  | n, x :: xs => fine n x && fineL n xs
end
structure FineR (n : Nat) (d : D) : Prop where
  fl : d.flat = true
  sh : d.pd.showable = true
  lv : d.pd.leavesShort 16 = true
  tx : ok1 d.pd.shown
  dp : d.pd.depth ≤ n
structure FineRL (n : Nat) (l : List D) : Prop where
  fl : flatL l = true
  sh : PyData.showableAll (pdL l) = true
  lv : PyData.leavesShortAll 16 (pdL l) = true
  tx : ∀ t ∈ PyData.shownAll (pdL l), ok1 t
  dp : PyData.depthAll (pdL l) ≤ n
mutual
theorem fine_r : ∀ (n : Nat) (d : D), fine n d = true → FineR n d
  | n, .non, _ => ⟨rfl, rfl, rfl, ok1_string _, Nat.zero_le _⟩
  | n, .bl b, _ => ⟨rfl, rfl, rfl, by
      show ok1 (PyData.bool b).shown
      rw [PyData.shown_bool]
      cases b <;> exact ok1_string _, Nat.zero_le _⟩
  | n, .int i, h => by
    simp only [fine, decide_eq_true_eq] at h
    refine ⟨rfl, ?_, ?_, ?_, Nat.zero_le _⟩
    · show decide (i.natAbs.log2 < 1920) = true
      rw [decide_eq_true_eq]
      by_cases z : i.natAbs = 0
      · rw [z]; decide
      · have : i.natAbs.log2 < 40 := (Nat.log2_lt z).mpr (Nat.lt_trans h (by decide))
        omega
    · show decide ((PyData.shown (.int i)).length ≤ 16) = true
      have := PyData.shown_int_le2 (i := i) (by omega) (by omega)
      rw [decide_eq_true_eq]
      omega
    · show ok1 (PyData.int i).shown
      rw [PyData.shown_int]
      exact ok1_string _
  | n, .str x, h => by
    simp only [fine] at h
    have h' := ok1_iff.mp h
    refine ⟨rfl, rfl, ?_, ?_, Nat.zero_le _⟩
    · show (x.cps.toList.all fun c => decide (c < 16 ^ 8)) = true
      rw [List.all_eq_true]
      intro c hc
      have := h' c hc
      rw [decide_eq_true_eq]
      omega
    · show ok1 (PyData.str x).shown
      rw [PyData.shown_str]
      exact ok1_repr h'
  | n, .tup xs, h => by
    simp only [fine, Bool.and_eq_true, decide_eq_true_eq] at h
    obtain ⟨f, s, l, t, d⟩ := fine_rl (n - 1) xs h.2
    refine ⟨f, s, l, ?_, ?_⟩
    · show ok1 (PyData.tuple (pdL xs)).shown
      simp only [PyData.shown]
      exact ok1_tuple _ t
    · show PyData.depthAll (pdL xs) + 1 ≤ n
      omega
  | n, .lst xs, h => by
    simp only [fine, Bool.and_eq_true, decide_eq_true_eq] at h
    obtain ⟨f, s, l, t, d⟩ := fine_rl (n - 1) xs h.2
    refine ⟨f, s, l, ?_, ?_⟩
    · show ok1 (PyData.list (pdL xs)).shown
      simp only [PyData.shown]
      exact ok1_list _ t
    · show PyData.depthAll (pdL xs) + 1 ≤ n
      omega
  | n, .fn _, h => by simp [fine] at h
  | n, .ref _, h => by simp [fine] at h
  | n, .scr _, h => by simp [fine] at h
theorem fine_rl : ∀ (n : Nat) (l : List D), fineL n l = true → FineRL n l
  | n, [], _ => ⟨rfl, rfl, rfl, by simp [pdL, PyData.shownAll], Nat.zero_le _⟩
  | n, x :: xs, h => by
    simp only [fineL, Bool.and_eq_true] at h
    obtain ⟨f, s, l, t, d⟩ := fine_r n x h.1
    obtain ⟨f2, s2, l2, t2, d2⟩ := fine_rl n xs h.2
    refine ⟨by simp [flatL, f, f2], by simp [pdL, PyData.showableAll, s, s2], by simp [pdL, PyData.leavesShortAll, l, l2], ?_, by simp only [pdL, PyData.depthAll]; omega⟩
    intro u hu
    rw [pdL, PyData.shownAll_cons] at hu
    rcases List.mem_cons.mp hu with rfl | hu
    · exact t
    · exact t2 u hu
end
theorem fineL_all {n : Nat} : ∀ {l : List D}, (∀ d ∈ l, fine n d = true) → fineL n l = true
  | [], _ => rfl
  | x :: xs, h => by
    rw [fineL, h x List.mem_cons_self, fineL_all fun d hd => h d (List.mem_cons_of_mem _ hd)]
    rfl
theorem reprOk_of {n : Nat} {d : D} (h : fine n d = true) (hn : n ≤ 60) (hb : d.pd.bulk ≤ 900000) : reprOk d = true := by
  obtain ⟨f, s, l, t, dp⟩ := fine_r n d h
  have := PyData.shown_le_bulk 16 (by omega) d.pd l
  unfold reprOk
  simp only [f, s, Bool.true_and, Bool.and_eq_true, decide_eq_true_eq]
  omega
theorem p_repr_of {n : Nat} {d : D} (h : fine n d = true) (hn : n ≤ 60) (hb : d.pd.bulk ≤ 900000) : prim .repr [d] = some (.str d.pd.shown) := by
  show (if reprOk d then some (D.str d.pd.shown) else none) = _
  rw [if_pos (reprOk_of h hn hb)]
theorem shown_ok {n : Nat} {d : D} (h : fine n d = true) : PyData.strOk d.pd.shown = true := ok1_iff.mpr (fine_r n d h).tx
theorem sp_same (m : Nat) {n : Nat} {d : D} (t : Sto) (h : fine n d = true) (hn : n ≤ 59) (hb : d.pd.bulk ≤ 800000) : callF FF 100000 (m + 1) 12 [d, d] t = .ok (.bl true) t := by
  have hF : FF[12]? = some ⟨2, 2, b_law_same⟩ := rfl
  have hL : fine (n + 1) (.lst [d]) = true := by simp [fine, fineL, h]
  have p1 := p_repr_of hL (by omega) (by
    show d.pd.bulk + 1 + 0 ≤ _
    omega)
  have p2 := p_eq_str (shown_ok hL) (shown_ok hL)
  rw [decide_eq_true rfl] at p2
  rw [callF_succ, hF]
  show (if [d, d].length = 2 then runRes (evalSs (callF FF 100000 m) 100000 b_law_same { loc := [d, d].map .val ++ List.replicate (2 - 2) .unb, sto := t }) else .bad) = _
  rw [if_pos (show [d, d].length = 2 from rfl)]
  unfold b_law_same
  simp [rdVar, p1, p2]
def tryR (l : List MP.Slot) : Out Fl → Out Fl
  | .exc c t => if c < 5 then .ok (.ret (errWord c)) { loc := l, sto := t } else .bad
  | .ok f s' => .ok f s'
  | .bad => .bad
theorem st_try (cf : CF) (wf : Nat) (b : PB) (i : Nat) (s : S) : evalS cf wf (.tryT b i) s = tryR s.loc (evalSs cf wf b s) := by
  simp only [evalS]
  cases evalSs cf wf b s <;> rfl
def toldR : Res → Res
  | .ok d t => .ok (.tup [.str "told", d]) t
  | .exc c t => if c < 5 then .ok (errWord c) t else .bad
  | .bad => .bad
theorem forLoop_inv {f : D → S → Out Fl} (I : Nat → S → Prop) (N : Nat) : ∀ (xs : List D) (n : Nat) (s : S), n + xs.length ≤ N → I n s → (∀ x ∈ xs, ∀ n s, n < N → I n s → ∃ g s', f x s = .ok g s' ∧ (g = .nx ∨ g = .brk) ∧ I (n + 1) s') → ∃ s' n', forLoop f xs s = .ok .nx s' ∧ n' ≤ N ∧ I n' s'
  | [], n, s, hN, h, _ => ⟨s, n, rfl, by simpa using hN, h⟩
  | x :: r, n, s, hN, h, k => by
    rw [List.length_cons] at hN
    obtain ⟨g, s', e, hg, h'⟩ := k x List.mem_cons_self n s (by omega) h
    rcases hg with rfl | rfl
    · obtain ⟨s2, n2, e2, l2, h2⟩ := forLoop_inv I N r (n + 1) s' (by omega) h' fun y hy => k y (List.mem_cons_of_mem _ hy)
      refine ⟨s2, n2, ?_, l2, h2⟩
      rw [forLoop, e]
      exact e2
    · refine ⟨s', n + 1, ?_, by omega, h'⟩
      rw [forLoop, e]
      rfl
def goodN (nums : List Int) : Prop := ∀ n ∈ nums, 0 ≤ n ∧ n ≤ 1008
theorem goodN.snoc {nums : List Int} (h : goodN nums) {i : Int} (h1 : 0 ≤ i) (h2 : i ≤ 1008) : goodN (nums ++ [i]) := fun n hn => by
  rcases List.mem_append.mp hn with hn | hn
  · exact h n hn
  · rw [List.mem_singleton.mp hn]; exact ⟨h1, h2⟩
def eZ (ns nums : List Int) (t : Sto) (s2 s3 s4 s5 : MP.Slot) : S := { loc := [.val (.scr ns), .own (nums.map .int), s2, s3, s4, s5], sto := t }
abbrev big1 : PS := (.app 1 (.prim .mod (.cons (.prim .int1 (.cons (.var 3) .nil)) (.cons (.con (.int 1009)) .nil))))
abbrev big2 : PS := (.set (.nm 3) (.prim .fdiv (.cons (.var 3) (.cons (.con (.int 1009)) .nil))))
abbrev big3 : PS := (.ife (.prim .eq (.cons (.var 3) (.cons (.con (.int 0)) .nil))) (.cons .brk .nil) .nil)
abbrev bigB : PB := (.cons big1 (.cons big2 (.cons big3 .nil)))
abbrev sma1 : PS := (.set (.nm 5) (.prim .mod (.cons (.prim .int1 (.cons (.prim .add (.cons (.prim .add (.cons (.prim .mul (.cons (.var 5) (.cons (.con (.int 48271)) .nil))) (.cons (.prim .mul (.cons (.con (.int 7)) (.cons (.var 4) .nil))) .nil))) (.cons (.con (.int 11)) .nil))) .nil)) (.cons (.con (.int 2147483647)) .nil))))
abbrev sma2 : PS := (.app 1 (.prim .mod (.cons (.prim .mod (.cons (.prim .int1 (.cons (.prim .add (.cons (.prim .mul (.cons (.var 5) (.cons (.con (.int 69621)) .nil))) (.cons (.var 4) .nil))) .nil)) (.cons (.con (.int 2147483629)) .nil))) (.cons (.con (.int 1009)) .nil))))
abbrev smaB : PB := (.cons sma1 (.cons sma2 .nil))
theorem p_mod_pos (a b : Int) (h : 0 < b) : prim .mod [.int a, .int b] = some (.int (a % b)) := by
  show (if 0 < b then some (D.int (a % b)) else none) = _
  rw [if_pos h]
theorem turn_big (cf : CF) {ns nums : List Int} {t : Sto} (s2 s4 s5 : MP.Slot) (r k : Int) (hr : 0 ≤ r) (hl : nums.length < 1000000) :
    ∃ g, ofOpt (MP.assign (.nm 4) (.int k) (eZ ns nums t s2 (.val (.int r)) s4 s5)) (fun s3 => evalSs cf 100000 bigB s3) = .ok g (eZ ns (nums ++ [r % 1009]) t s2 (.val (.int (r / 1009))) (.val (.int k)) s5) ∧ (g = .nx ∨ g = .brk) := by
  have q1 : prim .int1 [.int r] = some (.int r) := rfl
  have q2 := p_mod_pos r 1009 (by omega)
  have q3 : prim .fdiv [.int r, .int 1009] = some (.int (r / 1009)) := by
    show (if divOk 1009 then some (D.int (r / 1009)) else none) = _
    rw [if_pos (by decide)]
  have q4 := p_eq_int (r / 1009) 0
  have as : MP.assign (.nm 4) (.int k) (eZ ns nums t s2 (.val (.int r)) s4 s5) = some (eZ ns nums t s2 (.val (.int r)) (.val (.int k)) s5) := by simp [MP.assign, eZ]
  have st1 : evalS cf 100000 big1 (eZ ns nums t s2 (.val (.int r)) (.val (.int k)) s5) = .ok .nx (eZ ns (nums ++ [r % 1009]) t s2 (.val (.int r)) (.val (.int k)) s5) := by
    have := st_app_ok (cf := cf) (wf := 100000) (i := 1) (e := .prim .mod (.cons (.prim .int1 (.cons (.var 3) .nil)) (.cons (.con (.int 1009)) .nil))) (s := eZ ns nums t s2 (.val (.int r)) (.val (.int k)) s5) (s' := eZ ns nums t s2 (.val (.int r)) (.val (.int k)) s5) (ys := nums.map .int) (xs := nums.map .int) (d := .int (r % 1009)) rfl (by simp [eZ, rdVar, q1, q2]) rfl (by simpa using hl)
    rw [this]
    simp [eZ]
  have st2 : evalS cf 100000 big2 (eZ ns (nums ++ [r % 1009]) t s2 (.val (.int r)) (.val (.int k)) s5) = .ok .nx (eZ ns (nums ++ [r % 1009]) t s2 (.val (.int (r / 1009))) (.val (.int k)) s5) := by
    simp [eZ, rdVar, q3, MP.assign]
  rw [as, ofOpt_some, evalSs_one st1, seqR_nx, evalSs_one st2, seqR_nx]
  by_cases z : r / 1009 = 0
  · refine ⟨.brk, ?_, .inr rfl⟩
    rw [decide_eq_true z] at q4
    simp [eZ, rdVar, q4]
  · refine ⟨.nx, ?_, .inl rfl⟩
    rw [decide_eq_false z] at q4
    simp [eZ, rdVar, q4]
theorem loop_big (cf : CF) {ns nums : List Int} {t : Sto} (s2 s4 s5 : MP.Slot) (r : Int) (hr : 0 ≤ r) (hg : goodN nums) (hl : nums.length ≤ 10000) :
    ∃ nums' r' s4', goodN nums' ∧ nums'.length ≤ nums.length + 60 ∧ forLoop (fun d s => ofOpt (MP.assign (.nm 4) d s) fun s3 => evalSs cf 100000 bigB s3) ((List.range 60).map fun k => .int (k : Nat)) (eZ ns nums t s2 (.val (.int r)) s4 s5) = .ok .nx (eZ ns nums' t s2 (.val (.int r')) s4' s5) := by
  obtain ⟨s', n', e, l1, nums', r', s4', h1, h2, h3, rfl⟩ := forLoop_inv (f := fun d s => ofOpt (MP.assign (.nm 4) d s) fun s3 => evalSs cf 100000 bigB s3) (fun n s => ∃ nums' r' s4', 0 ≤ r' ∧ goodN nums' ∧ nums'.length ≤ nums.length + n ∧ s = eZ ns nums' t s2 (.val (.int r')) s4' s5) 60 ((List.range 60).map fun k => .int (k : Nat)) 0 (eZ ns nums t s2 (.val (.int r)) s4 s5)
    (by simp) ⟨nums, r, s4, hr, hg, by omega, rfl⟩ (fun x hx n s hn ⟨nums', r', s4', h1, h2, h3, h4⟩ => by
      subst h4
      obtain ⟨k, -, rfl⟩ := List.mem_map.mp hx
      obtain ⟨g, e, hg'⟩ := turn_big cf (ns := ns) (nums := nums') (t := t) s2 s4' s5 r' (k : Nat) h1 (by omega)
      have := Int.emod_nonneg r' (b := 1009) (by omega)
      have := Int.emod_lt_of_pos r' (b := 1009) (by omega)
      exact ⟨g, _, e, hg', nums' ++ [r' % 1009], r' / 1009, .val (.int (k : Nat)), Int.ediv_nonneg h1 (by omega), h2.snoc (by omega) (by omega), by rw [List.length_append, List.length_singleton]; omega, rfl⟩)
  exact ⟨nums', r', s4', h2, by omega, e⟩
theorem turn_sma (cf : CF) {ns nums : List Int} {t : Sto} (s2 s3 s4 : MP.Slot) (r k : Int) (hr : 0 ≤ r ∧ r < 2147483647) (hk : 0 ≤ k ∧ k ≤ 100) (hl : nums.length < 1000000) :
    ∃ r' i : Int, (0 ≤ r' ∧ r' < 2147483647) ∧ (0 ≤ i ∧ i ≤ 1008) ∧ ofOpt (MP.assign (.nm 4) (.int k) (eZ ns nums t s2 s3 s4 (.val (.int r)))) (fun s3 => evalSs cf 100000 smaB s3) = .ok .nx (eZ ns (nums ++ [i]) t s2 s3 (.val (.int k)) (.val (.int r'))) := by
  have q1 : prim .mul [.int r, .int 48271] = some (.int (r * 48271)) := by
    show (if mulOk r 48271 then some (D.int (r * 48271)) else none) = _
    rw [if_pos (mulOk_of (by omega) (by decide))]
  have q2 : prim .mul [.int 7, .int k] = some (.int (7 * k)) := by
    show (if mulOk 7 k then some (D.int (7 * k)) else none) = _
    rw [if_pos (mulOk_of (by decide) (by omega))]
  have q3 : prim .add [.int (r * 48271), .int (7 * k)] = some (.int (r * 48271 + 7 * k)) := rfl
  have q4 : prim .add [.int (r * 48271 + 7 * k), .int 11] = some (.int (r * 48271 + 7 * k + 11)) := rfl
  have q5 : prim .int1 [.int (r * 48271 + 7 * k + 11)] = some (.int (r * 48271 + 7 * k + 11)) := rfl
  have q6 := p_mod_pos (r * 48271 + 7 * k + 11) 2147483647 (by omega)
  have b1 := Int.emod_nonneg (r * 48271 + 7 * k + 11) (b := 2147483647) (by omega)
  have b2 := Int.emod_lt_of_pos (r * 48271 + 7 * k + 11) (b := 2147483647) (by omega)
  generalize (r * 48271 + 7 * k + 11) % 2147483647 = u at *
  have q7 : prim .mul [.int u, .int 69621] = some (.int (u * 69621)) := by
    show (if mulOk u 69621 then some (D.int (u * 69621)) else none) = _
    rw [if_pos (mulOk_of (by omega) (by decide))]
  have q8 : prim .add [.int (u * 69621), .int k] = some (.int (u * 69621 + k)) := rfl
  have q9 : prim .int1 [.int (u * 69621 + k)] = some (.int (u * 69621 + k)) := rfl
  have q10 := p_mod_pos (u * 69621 + k) 2147483629 (by omega)
  generalize (u * 69621 + k) % 2147483629 = v at *
  have q11 := p_mod_pos v 1009 (by omega)
  have b3 := Int.emod_nonneg v (b := 1009) (by omega)
  have b4 := Int.emod_lt_of_pos v (b := 1009) (by omega)
  refine ⟨u, v % 1009, ⟨b1, b2⟩, ⟨b3, by omega⟩, ?_⟩
  have as : MP.assign (.nm 4) (.int k) (eZ ns nums t s2 s3 s4 (.val (.int r))) = some (eZ ns nums t s2 s3 (.val (.int k)) (.val (.int r))) := by simp [MP.assign, eZ]
  have st1 : evalS cf 100000 sma1 (eZ ns nums t s2 s3 (.val (.int k)) (.val (.int r))) = .ok .nx (eZ ns nums t s2 s3 (.val (.int k)) (.val (.int u))) := by
    simp [eZ, rdVar, q1, q2, q3, q4, q5, q6, MP.assign]
  have st2 : evalS cf 100000 sma2 (eZ ns nums t s2 s3 (.val (.int k)) (.val (.int u))) = .ok .nx (eZ ns (nums ++ [v % 1009]) t s2 s3 (.val (.int k)) (.val (.int u))) := by
    have := st_app_ok (cf := cf) (wf := 100000) (i := 1) (e := (.prim .mod (.cons (.prim .mod (.cons (.prim .int1 (.cons (.prim .add (.cons (.prim .mul (.cons (.var 5) (.cons (.con (.int 69621)) .nil))) (.cons (.var 4) .nil))) .nil)) (.cons (.con (.int 2147483629)) .nil))) (.cons (.con (.int 1009)) .nil)))) (s := eZ ns nums t s2 s3 (.val (.int k)) (.val (.int u))) (s' := eZ ns nums t s2 s3 (.val (.int k)) (.val (.int u))) (ys := nums.map .int) (xs := nums.map .int) (d := .int (v % 1009)) rfl (by simp [eZ, rdVar, q7, q8, q9, q10, q11]) rfl (by simpa using hl)
    rw [this]
    simp [eZ]
  rw [as, ofOpt_some, evalSs_one st1, seqR_nx, evalSs_one st2, seqR_nx, ss_nil']
theorem loop_sma (cf : CF) {ns nums : List Int} {t : Sto} (s2 s3 s4 : MP.Slot) (r : Int) (hr : 0 ≤ r ∧ r < 2147483647) (hg : goodN nums) (hl : nums.length ≤ 10000) :
    ∃ nums' r' s4', goodN nums' ∧ nums'.length ≤ nums.length + 60 ∧ forLoop (fun d s => ofOpt (MP.assign (.nm 4) d s) fun s3 => evalSs cf 100000 smaB s3) ((List.range 10).map fun k => .int (k : Nat)) (eZ ns nums t s2 s3 s4 (.val (.int r))) = .ok .nx (eZ ns nums' t s2 s3 s4' (.val (.int r'))) := by
  obtain ⟨s', n', e, l1, nums', r', s4', h1, h2, h3, rfl⟩ := forLoop_inv (f := fun d s => ofOpt (MP.assign (.nm 4) d s) fun s3 => evalSs cf 100000 smaB s3) (fun n s => ∃ nums' r' s4', (0 ≤ r' ∧ r' < 2147483647) ∧ goodN nums' ∧ nums'.length ≤ nums.length + n ∧ s = eZ ns nums' t s2 s3 s4' (.val (.int r'))) 10 ((List.range 10).map fun k => .int (k : Nat)) 0 (eZ ns nums t s2 s3 s4 (.val (.int r)))
    (by simp) ⟨nums, r, s4, hr, hg, by omega, rfl⟩ (fun x hx n s hn ⟨nums', r', s4', h1, h2, h3, h4⟩ => by
      subst h4
      obtain ⟨k, hk, rfl⟩ := List.mem_map.mp hx
      have hk := List.mem_range.mp hk
      obtain ⟨u, i, b1, b2, e⟩ := turn_sma cf (ns := ns) (nums := nums') (t := t) s2 s3 s4' r' (k : Nat) h1 (by omega) (by omega)
      exact ⟨.nx, _, e, .inl rfl, nums' ++ [i], u, .val (.int (k : Nat)), b1, h2.snoc b2.1 b2.2, by rw [List.length_append, List.length_singleton]; omega, rfl⟩)
  exact ⟨nums', r', s4', h2, by omega, e⟩
abbrev outB : PB := (.cons (.set (.nm 3) (.prim .abs (.cons (.prim .int1 (.cons (.var 2) .nil)) .nil))) (.cons (.ife (.prim .ge (.cons (.var 3) (.cons (.prim .pow (.cons (.con (.int 10)) (.cons (.con (.int 18)) .nil))) .nil))) (.cons (.forr (.nm 4) (.rng1 (.con (.int 60))) bigB) .nil) (.cons (.set (.nm 5) (.prim .mod (.cons (.prim .int1 (.cons (.var 3) .nil)) (.cons (.con (.int 2147483647)) .nil)))) (.cons (.forr (.nm 4) (.rng1 (.con (.int 10))) smaB) .nil))) .nil))
theorem turn_out (cf : CF) {ns nums : List Int} {t : Sto} (s2 s3 s4 s5 : MP.Slot) (i : Int) (hg : goodN nums) (hl : nums.length ≤ 10000) :
    ∃ nums' r2 r3 r4 r5, goodN nums' ∧ nums'.length ≤ nums.length + 60 ∧ ofOpt (MP.assign (.nm 2) (.int i) (eZ ns nums t s2 s3 s4 s5)) (fun s3 => evalSs cf 100000 outB s3) = .ok .nx (eZ ns nums' t r2 r3 r4 r5) := by
  have q1 : prim .int1 [.int i] = some (.int i) := rfl
  have q2 : prim .abs [.int i] = some (.int (if i < 0 then -i else i)) := rfl
  have r0 : 0 ≤ (if i < 0 then -i else i) := by split <;> omega
  generalize (if i < 0 then -i else i) = r at *
  have q3 : prim .pow [.int 10, .int 18] = some (.int 1000000000000000000) := by
    show (if 0 ≤ (18 : Int) ∧ (18 : Int) ≤ 1000 ∧ (10 : Int).natAbs < 2 ^ 64 then some (D.int ((10 : Int) ^ (18 : Int).toNat)) else none) = _
    rw [if_pos (by decide)]
    rfl
  have q4 := p_ge_int r 1000000000000000000
  have as : MP.assign (.nm 2) (.int i) (eZ ns nums t s2 s3 s4 s5) = some (eZ ns nums t (.val (.int i)) s3 s4 s5) := by simp [MP.assign, eZ]
  have st1 : evalS cf 100000 (.set (.nm 3) (.prim .abs (.cons (.prim .int1 (.cons (.var 2) .nil)) .nil))) (eZ ns nums t (.val (.int i)) s3 s4 s5) = .ok .nx (eZ ns nums t (.val (.int i)) (.val (.int r)) s4 s5) := by simp [eZ, rdVar, q1, q2, MP.assign]
  have cd : evalE cf (.prim .ge (.cons (.var 3) (.cons (.prim .pow (.cons (.con (.int 10)) (.cons (.con (.int 18)) .nil))) .nil))) (eZ ns nums t (.val (.int i)) (.val (.int r)) s4 s5) = .ok (.bl (decide (r ≥ 1000000000000000000))) (eZ ns nums t (.val (.int i)) (.val (.int r)) s4 s5) := by simp [eZ, rdVar, q3, q4]
  rw [as, ofOpt_some, evalSs_one st1, seqR_nx, ss_cons', st_if, cd]
  simp only [bind_ok]
  by_cases z : r ≥ 1000000000000000000
  · obtain ⟨nums', r', s4', g1, g2, e⟩ := loop_big cf (ns := ns) (t := t) (.val (.int i)) s4 s5 r r0 hg hl
    refine ⟨nums', .val (.int i), .val (.int r'), s4', s5, g1, g2, ?_⟩
    have it : evalI cf (.rng1 (.con (.int 60))) (eZ ns nums t (.val (.int i)) (.val (.int r)) s4 s5) = .ok ((List.range 60).map fun k => .int (k : Nat)) (eZ ns nums t (.val (.int i)) (.val (.int r)) s4 s5) := by
      have := rngL_nat 60
      simp only [evI_rng1, ev_con, bind_ok, rng1R_int]
      rw [if_pos (by decide)]
      exact congrArg (fun l => Out.ok l _) this
    rw [decide_eq_true z, ifR_t, ss_cons', st_forr, it]
    simp only [bind_ok]
    rw [e]
    simp
  · have q5 : prim .int1 [.int r] = some (.int r) := rfl
    have q6 := p_mod_pos r 2147483647 (by omega)
    have b1 := Int.emod_nonneg r (b := 2147483647) (by omega)
    have b2 := Int.emod_lt_of_pos r (b := 2147483647) (by omega)
    have st2 : evalS cf 100000 (.set (.nm 5) (.prim .mod (.cons (.prim .int1 (.cons (.var 3) .nil)) (.cons (.con (.int 2147483647)) .nil)))) (eZ ns nums t (.val (.int i)) (.val (.int r)) s4 s5) = .ok .nx (eZ ns nums t (.val (.int i)) (.val (.int r)) s4 (.val (.int (r % 2147483647)))) := by simp [eZ, rdVar, q5, q6, MP.assign]
    obtain ⟨nums', r', s4', g1, g2, e⟩ := loop_sma cf (ns := ns) (t := t) (.val (.int i)) (.val (.int r)) s4 (r % 2147483647) ⟨b1, b2⟩ hg hl
    refine ⟨nums', .val (.int i), .val (.int r), s4', .val (.int r'), g1, g2, ?_⟩
    have it : evalI cf (.rng1 (.con (.int 10))) (eZ ns nums t (.val (.int i)) (.val (.int r)) s4 (.val (.int (r % 2147483647)))) = .ok ((List.range 10).map fun k => .int (k : Nat)) (eZ ns nums t (.val (.int i)) (.val (.int r)) s4 (.val (.int (r % 2147483647)))) := by
      have := rngL_nat 10
      simp only [evI_rng1, ev_con, bind_ok, rng1R_int]
      rw [if_pos (by decide)]
      exact congrArg (fun l => Out.ok l _) this
    rw [decide_eq_false z, ifR_f, evalSs_one st2, seqR_nx, ss_cons', st_forr, it]
    simp only [bind_ok]
    rw [e]
    simp
theorem sp_stream (m : Nat) (ns : List Int) (t : Sto) (hl : ns.length ≤ 63) : ∃ nums : List Int, NumsOk nums ∧ callF FF 100000 (m + 1) 13 [.scr ns] t = .ok (.lst (nums.map .int)) t := by
  have hF : FF[13]? = some ⟨1, 6, b_law_stream⟩ := rfl
  obtain ⟨s', n', e, l1, nums', r2, r3, r4, r5, h2, h3, rfl⟩ := forLoop_inv (f := fun d s => ofOpt (MP.assign (.nm 2) d s) fun s3 => evalSs (callF FF 100000 m) 100000 outB s3) (fun n s => ∃ nums' r2 r3 r4 r5, goodN nums' ∧ nums'.length ≤ 60 * n ∧ s = eZ ns nums' t r2 r3 r4 r5) 63 (ns.map .int) 0 (eZ ns [] t .unb .unb .unb .unb)
    (by simp; omega) ⟨[], .unb, .unb, .unb, .unb, (by intro n hn; cases hn), by simp, rfl⟩ (fun x hx n s hn ⟨nums', r2, r3, r4, r5, h2, h3, h4⟩ => by
      subst h4
      obtain ⟨i, -, rfl⟩ := List.mem_map.mp hx
      obtain ⟨nums2, u2, u3, u4, u5, g1, g2, e⟩ := turn_out (callF FF 100000 m) (ns := ns) (nums := nums') (t := t) r2 r3 r4 r5 i h2 (by omega)
      exact ⟨.nx, _, e, .inl rfl, nums2, u2, u3, u4, u5, g1, by omega, rfl⟩)
  have st1 : evalS (callF FF 100000 m) 100000 (.own 1 (.lst .nil)) { loc := [D.scr ns].map .val ++ List.replicate (6 - 1) .unb, sto := t } = .ok .nx (eZ ns [] t .unb .unb .unb .unb) := st_own_ok (xs := []) (s' := { loc := [.val (.scr ns), .unb, .unb, .unb, .unb, .unb], sto := t }) (by simp) (by simp)
  have q1 : prim .sl01 [.scr ns, .int 63] = some (.lst (ns.map .int)) := by
    show some (D.lst (MP.cut (ns.map D.int) none (some (63 : Int)))) = _
    have a : HT.sIx (ns.map D.int).length 0 none = 0 := rfl
    have b : HT.sIx (ns.map D.int).length (ns.map D.int).length (some (63 : Int)) = min 63 ns.length := by
      show (if (63 : Int) < 0 then ((63 : Int) + (((ns.map D.int).length : Nat) : Int)).toNat else min (63 : Int).toNat (ns.map D.int).length) = _
      rw [if_neg (by omega), List.length_map]
      rfl
    unfold MP.cut
    rw [a, b, List.drop_zero, List.take_of_length_le (by rw [List.length_map]; omega)]
  have it : evalI (callF FF 100000 m) (.seq (.prim .sl01 (.cons (.var 0) (.cons (.con (.int 63)) .nil)))) (eZ ns [] t .unb .unb .unb .unb) = .ok (ns.map .int) (eZ ns [] t .unb .unb .unb .unb) := by
    simp [eZ, rdVar, q1, itemsOf]
  have start : callF FF 100000 (m + 1) 13 [.scr ns] t = runRes (evalSs (callF FF 100000 m) 100000 (.cons (.ife (.prim .eq (.cons (.prim .len (.cons (.peek 1) .nil)) (.cons (.con (.int 0)) .nil))) (.cons (.app 1 (.con (.int 0))) .nil) .nil) (.cons (.ret (.var 1)) .nil)) (eZ ns nums' t r2 r3 r4 r5)) := by
    rw [callF_succ, hF]
    show (if [D.scr ns].length = 1 then runRes (evalSs (callF FF 100000 m) 100000 b_law_stream { loc := [D.scr ns].map .val ++ List.replicate (6 - 1) .unb, sto := t }) else .bad) = _
    rw [if_pos (show [D.scr ns].length = 1 from rfl)]
    unfold b_law_stream
    rw [evalSs_one st1, seqR_nx, ss_cons', st_forr, it]
    simp only [bind_ok]
    rw [e]
    simp only [bind_ok, seqR_nx]
  have q2 : prim .len [.lst (nums'.map .int)] = some (.int nums'.length) := by
    show some (D.int ((nums'.map D.int).length : Nat)) = _
    rw [List.length_map]
  have q3 := p_eq_int nums'.length 0
  by_cases z : (nums'.length : Int) = 0
  · have z' : nums' = [] := List.length_eq_zero_iff.mp (by omega)
    subst z'
    refine ⟨[0], ⟨by simp, by simp, by simp⟩, ?_⟩
    have ap : evalS (callF FF 100000 m) 100000 (.app 1 (.con (.int 0))) (eZ ns [] t r2 r3 r4 r5) = .ok .nx (eZ ns [0] t r2 r3 r4 r5) := st_app_ok (ys := []) (xs := []) (s' := eZ ns [] t r2 r3 r4 r5) (d := .int 0) rfl (by simp) rfl (by simp)
    have cd : evalE (callF FF 100000 m) (.prim .eq (.cons (.prim .len (.cons (.peek 1) .nil)) (.cons (.con (.int 0)) .nil))) (eZ ns [] t r2 r3 r4 r5) = .ok (.bl true) (eZ ns [] t r2 r3 r4 r5) := by
      have q2' : prim .len [.lst []] = some (.int 0) := rfl
      have q3' : prim .eq [.int 0, .int 0] = some (.bl true) := p_eq_int 0 0
      simp [eZ, rdPeek, q2', q3']
    rw [start, ss_cons', st_if, cd]
    simp only [bind_ok, ifR_t]
    rw [evalSs_one ap, seqR_nx, ss_nil']
    simp [eZ, rdVar]
  · refine ⟨nums', ⟨fun e => z (by rw [e]; rfl), by omega, h2⟩, ?_⟩
    rw [decide_eq_false z] at q3
    have cd : evalE (callF FF 100000 m) (.prim .eq (.cons (.prim .len (.cons (.peek 1) .nil)) (.cons (.con (.int 0)) .nil))) (eZ ns nums' t r2 r3 r4 r5) = .ok (.bl false) (eZ ns nums' t r2 r3 r4 r5) := by
      simp [eZ, rdPeek, q2, q3]
    rw [start, ss_cons', st_if, cd]
    simp only [bind_ok, ifR_f, ss_nil', seqR_nx]
    simp [eZ, rdVar]
def WordP (n : Nat) (w : Str) : Prop := ∃ a l, w = ⟨(a :: l).toArray⟩ ∧ a ∈ firs.cps.toList ∧ (∀ c ∈ l, c ∈ sigs.cps.toList) ∧ l.length ≤ n
theorem firs_sig : ∀ c ∈ firs.cps.toList, c ∈ sigs.cps.toList := by decide +kernel
theorem firs_len : firs.cps.toList.length = 26 := by decide +kernel
theorem sigs_len : sigs.cps.toList.length = 36 := by decide +kernel
theorem WordP.nameOk {n : Nat} {w : Str} (h : WordP n w) (hn : n ≤ 11) (ny : w ≠ ("any" : Str)) : NameOk w := by
  obtain ⟨a, l, rfl, h1, h2, h3⟩ := h
  refine ⟨by simp, by simp; omega, ny, by simpa using h1, ?_⟩
  intro c hc
  have hc : c ∈ a :: l := by simpa using hc
  rcases List.mem_cons.mp hc with rfl | hc
  · exact firs_sig _ h1
  · exact h2 c hc
theorem WordP.ok {n : Nat} {w : Str} (h : WordP n w) : PyData.strOk w = true := by
  obtain ⟨a, l, rfl, h1, h2, h3⟩ := h
  rw [ok1_iff]
  intro c hc
  have hc : c ∈ a :: l := by simpa using hc
  rcases List.mem_cons.mp hc with rfl | hc
  · exact sig_small _ (firs_sig _ h1)
  · exact sig_small _ (h2 c hc)
theorem WordP.snoc {n : Nat} {w : Str} (h : WordP n w) {ch : Nat} (hc : ch ∈ sigs.cps.toList) : WordP (n + 1) (w ++ (⟨#[ch]⟩ : Str)) := by
  obtain ⟨a, l, rfl, h1, h2, h3⟩ := h
  refine ⟨a, l ++ [ch], ?_, h1, ?_, by simp; omega⟩
  · show Str.mk ((a :: l).toArray ++ #[ch]) = _
    simp
  · intro c hx
    rcases List.mem_append.mp hx with hx | hx
    · exact h2 c hx
    · rw [List.mem_singleton.mp hx]; exact hc
theorem WordP.len {n : Nat} {w : Str} (h : WordP n w) : w.length ≤ n + 1 := by
  obtain ⟨a, l, rfl, h1, h2, h3⟩ := h
  show (a :: l).toArray.size ≤ _
  simp; omega
theorem WordP.mono {n k : Nat} {w : Str} (h : WordP n w) (hk : n ≤ k) : WordP k w := by
  obtain ⟨a, l, e, h1, h2, h3⟩ := h
  exact ⟨a, l, e, h1, h2, by omega⟩
theorem p_item_str (x : Str) (v : Int) (h0 : 0 ≤ v) (h1 : v < x.cps.toList.length) (hx : x.cps.toList.length ≤ 1000) : ∃ ch ∈ x.cps.toList, prim .item [.str x, .int v] = some (.str ⟨#[ch]⟩) := by
  obtain ⟨k, rfl⟩ : ∃ k : Nat, v = k := ⟨v.toNat, by omega⟩
  have hk : k < x.cps.toList.length := by omega
  refine ⟨x.cps.toList[k], List.getElem_mem hk, ?_⟩
  show (if x.length ≤ 16777216 then (L2.atI x.cps.toList (k : Int)).map fun c => D.str ⟨#[c]⟩ else none) = _
  have e : x.length = x.cps.toList.length := by show x.cps.size = _; simp
  rw [if_pos (by omega), atI_nat _ _ hk, List.getElem?_eq_getElem hk]
  rfl
theorem p_add_str (x y : Str) (h : x.length + y.length ≤ 16777216) : prim .add [.str x, .str y] = some (.str (x ++ y)) := by
  show (if x.length + y.length ≤ 16777216 then some (D.str (x ++ y)) else none) = _
  rw [if_pos h]
theorem both_sigs : prim .add [.str firs, .str ("0123456789" : Str)] = some (.str sigs) := by
  rw [p_add_str _ _ (by decide +kernel)]
  have : firs ++ ("0123456789" : Str) = sigs := by decide +kernel
  rw [this]
def eU (nums : List Int) (c : Int) (w : Str) (s3 : MP.Slot) : S := { loc := [.val (.ref 0), .val (.str firs), .val (.str w), s3], sto := St nums c }
abbrev wordB : PB := (.cons (.set (.nm 2) (.prim .add (.cons (.var 2) (.cons (.prim .item (.cons (.prim .add (.cons (.var 1) (.cons (.con (.str "0123456789")) .nil))) (.cons (.call 14 (.cons (.var 0) (.cons (.con (.int 36)) .nil))) .nil))) .nil)))) .nil)
theorem turn_word (m : Nat) {nums : List Int} {c : Int} (h : NumsOk nums) (hc : 0 ≤ c ∧ c ≤ 900000000) {n : Nat} {w : Str} (hw : WordP n w) (hn : n ≤ 100) (s3 : MP.Slot) (k : Int) :
    ∃ w', WordP (n + 1) w' ∧ ofOpt (MP.assign (.nm 3) (.int k) (eU nums c w s3)) (fun s3 => evalSs (callF FF 100000 (m + 1)) 100000 wordB s3) = .ok .nx (eU nums (c + 1) w' (.val (.int k))) := by
  obtain ⟨v, v0, v1, ev⟩ := sp_next m (c := c) (many := 36) h (by omega) (by omega)
  obtain ⟨ch, hch, it⟩ := p_item_str sigs v v0 (by rw [sigs_len]; exact v1) (by rw [sigs_len]; omega)
  have e0 : ∀ s : S, s.sto = St nums c → callO (callF FF 100000 (m + 1)) 14 [.ref 0, .int 36] s = .ok (.int v) { s with sto := St nums (c + 1) } := fun s hs => call_to hs ev
  have ad := p_add_str w ⟨#[ch]⟩ (by have := hw.len; show w.length + 1 ≤ _; omega)
  refine ⟨w ++ (⟨#[ch]⟩ : Str), hw.snoc hch, ?_⟩
  simp [MP.assign, eU, rdVar, both_sigs, e0, it, ad]
theorem sp_word (m : Nat) {nums : List Int} {c : Int} (h : NumsOk nums) (hc : 0 ≤ c ∧ c ≤ 800000000) : ∃ (w : Str) (c' : Int), WordP 11 w ∧ (c ≤ c' ∧ c' ≤ c + 20) ∧ callF FF 100000 (m + 2) 15 [.ref 0] (St nums c) = .ok (.str w) (St nums c') := by
  have hF : FF[15]? = some ⟨1, 4, b_law_word⟩ := rfl
  obtain ⟨v, v0, v1, ev⟩ := sp_next m (c := c) (many := 26) h (by omega) (by omega)
  obtain ⟨u, u0, u1, ev2⟩ := sp_next m (c := c + 1) (many := 4) h (by omega) (by omega)
  obtain ⟨ch, hch, it⟩ := p_item_str firs v v0 (by rw [firs_len]; exact v1) (by rw [firs_len]; omega)
  have e0 : ∀ s : S, s.sto = St nums c → callO (callF FF 100000 (m + 1)) 14 [.ref 0, .int 26] s = .ok (.int v) { s with sto := St nums (c + 1) } := fun s hs => call_to hs ev
  have e1 : ∀ s : S, s.sto = St nums (c + 1) → callO (callF FF 100000 (m + 1)) 14 [.ref 0, .int 4] s = .ok (.int u) { s with sto := St nums (c + 1 + 1) } := fun s hs => call_to hs ev2
  have it2 : ∃ k : Nat, k ≤ 11 ∧ prim .item [.lst [.int 0, .int 1, .int 3, .int 11], .int u] = some (.int (k : Nat)) := by
    have : u = 0 ∨ u = 1 ∨ u = 2 ∨ u = 3 := by omega
    rcases this with rfl | rfl | rfl | rfl
    · exact ⟨0, by omega, rfl⟩
    · exact ⟨1, by omega, rfl⟩
    · exact ⟨3, by omega, rfl⟩
    · exact ⟨11, by omega, rfl⟩
  obtain ⟨k, hk, it2⟩ := it2
  obtain ⟨s', n', e, l1, w, c', s3, g1, g2, rfl⟩ := forLoop_inv (f := fun d s => ofOpt (MP.assign (.nm 3) d s) fun s3 => evalSs (callF FF 100000 (m + 1)) 100000 wordB s3) (fun n s => ∃ w c' s3, WordP n w ∧ (c + 2 ≤ c' ∧ c' ≤ c + 2 + n) ∧ s = eU nums c' w s3) 11 ((List.range k).map fun k => .int (k : Nat)) 0 (eU nums (c + 1 + 1) ⟨#[ch]⟩ .unb)
    (by simpa using hk) ⟨⟨#[ch]⟩, c + 1 + 1, .unb, ⟨ch, [], rfl, hch, by simp, by simp⟩, by omega, rfl⟩ (fun x hx n s hn ⟨w, c', s3, g1, g2, g3⟩ => by
      subst g3
      obtain ⟨k', -, rfl⟩ := List.mem_map.mp hx
      obtain ⟨w', g1', e'⟩ := turn_word m h (c := c') (by omega) g1 (by omega) s3 (k' : Nat)
      exact ⟨.nx, _, e', .inl rfl, w', c' + 1, .val (.int (k' : Nat)), g1', by omega, rfl⟩)
  refine ⟨w, c', g1.mono (by omega), by omega, ?_⟩
  rw [callF_succ, hF]
  show (if [D.ref 0].length = 1 then runRes (evalSs (callF FF 100000 (m + 1)) 100000 b_law_word { loc := [.val (.ref 0), .unb, .unb, .unb], sto := St nums c }) else .bad) = _
  rw [if_pos (show [D.ref 0].length = 1 from rfl)]
  unfold b_law_word
  have st1 : evalS (callF FF 100000 (m + 1)) 100000 (.set (.nm 1) (.con (.str "abcdefghijklmnopqrstuvwxyz"))) { loc := [.val (.ref 0), .unb, .unb, .unb], sto := St nums c } = .ok .nx { loc := [.val (.ref 0), .val (.str firs), .unb, .unb], sto := St nums c } := by
    simp [MP.assign]
    rfl
  have st2 : evalS (callF FF 100000 (m + 1)) 100000 (.set (.nm 2) (.prim .item (.cons (.var 1) (.cons (.call 14 (.cons (.var 0) (.cons (.con (.int 26)) .nil))) .nil)))) { loc := [.val (.ref 0), .val (.str firs), .unb, .unb], sto := St nums c } = .ok .nx (eU nums (c + 1) ⟨#[ch]⟩ .unb) := by
    simp [MP.assign, rdVar, e0, it, eU]
  have itv : evalI (callF FF 100000 (m + 1)) (.rng1 (.prim .item (.cons (.lst (.cons (.con (.int 0)) (.cons (.con (.int 1)) (.cons (.con (.int 3)) (.cons (.con (.int 11)) .nil))))) (.cons (.call 14 (.cons (.var 0) (.cons (.con (.int 4)) .nil))) .nil)))) (eU nums (c + 1) ⟨#[ch]⟩ .unb) = .ok ((List.range k).map fun k => .int (k : Nat)) (eU nums (c + 1 + 1) ⟨#[ch]⟩ .unb) := by
    have sm : smallI (k : Int) = true := by unfold smallI; simp; omega
    simp [eU, rdVar, e1, it2, sm, rngL_nat]
  rw [evalSs_one st1, seqR_nx, evalSs_one st2, seqR_nx, ss_cons', st_forr, itv]
  simp only [bind_ok]
  rw [e]
  simp [eU, rdVar]
theorem p_in_lst {x : Str} {ys : List Str} (hx : PyData.strOk x = true) (h : okStrs ys) : prim .isIn [.str x, .lst (ys.map .str)] = some (.bl (decide (x ∈ ys))) := by
  show p_isIn [.str x, .lst (ys.map .str)] = _
  unfold p_isIn
  simp only [inOk_strs hx h, inD_strs, if_true]
theorem p_notIn_lst {x : Str} {ys : List Str} (hx : PyData.strOk x = true) (h : okStrs ys) : prim .notIn [.str x, .lst (ys.map .str)] = some (.bl (!decide (x ∈ ys))) := by
  show p_notIn [.str x, .lst (ys.map .str)] = _
  unfold p_notIn
  simp only [inOk_strs hx h, inD_strs, if_true]
theorem digit_str (k : Nat) (h : k ≤ 9) : prim .str1 [.int (k : Nat)] = some (.str ⟨#[48 + k]⟩) := by
  have : ∀ j : Fin 10, (if ((j.val : Nat) : Int).natAbs.log2 < 1920 then some (Str.ofString (toString ((j.val : Nat) : Int))) else none) = some (⟨#[48 + j.val]⟩ : Str) := by decide +kernel
  have e := this ⟨k, by omega⟩
  show (if ((k : Nat) : Int).natAbs.log2 < 1920 then some (strD (k : Nat)) else none) = _
  split at e
  · rename_i hh
    rw [if_pos hh]
    have e := Option.some.inj e
    unfold strD
    rw [e]
  · cases e
theorem sig_digit : ∀ k : Fin 10, 48 + k.val ∈ sigs.cps.toList := by decide +kernel
theorem q_str : ("q" : Str) = ⟨#[113]⟩ := by decide +kernel
theorem any_list : ("any" : Str).cps.toList = [97, 110, 121] := by decide +kernel
theorem sig_q : 113 ∈ sigs.cps.toList := by decide +kernel
theorem bend_word {w : Str} (h : WordP 11 w) (k : Nat) (hk : k ≤ 9) : ∃ y : Str, prim .sl01 [.str w, .int 8] = some (.str y) ∧ prim .add [.str y, .str ("q" : Str)] = some (.str (y ++ ("q" : Str))) ∧ prim .add [.str (y ++ ("q" : Str)), .str ⟨#[48 + k]⟩] = some (.str (y ++ ("q" : Str) ++ ⟨#[48 + k]⟩)) ∧ NameOk (y ++ ("q" : Str) ++ (⟨#[48 + k]⟩ : Str)) := by
  have hl := h.len
  obtain ⟨a, l, e, h1, h2, h3⟩ := h
  refine ⟨⟨(a :: l.take 7).toArray⟩, ?_, ?_, ?_, ?_⟩
  · show (if w.length ≤ 16777216 then some (D.str (L2.cutS w none (some 8))) else none) = _
    rw [if_pos (by omega)]
    congr 2
    unfold L2.cutS
    have z1 : HT.sIx w.length 0 none = 0 := rfl
    have z2 : HT.sIx w.length w.length (some 8) = min 8 w.length := by
      show (if (8 : Int) < 0 then ((8 : Int) + (w.length : Int)).toNat else min (8 : Int).toNat w.length) = _
      rw [if_neg (by omega)]
      rfl
    have z3 : w.length = l.length + 1 := by rw [e]; show (a :: l).toArray.size = _; simp
    have z4 : w.cps.toList = a :: l := by rw [e]
    rw [z1, z2, z4, z3, List.drop_zero, Nat.sub_zero]
    congr 2
    by_cases hh : l.length + 1 ≤ 8
    · rw [show min 8 (l.length + 1) = l.length + 1 by omega, List.take_succ_cons, List.take_length, List.take_of_length_le (show l.length ≤ 7 by omega)]
    · rw [show min 8 (l.length + 1) = 8 by omega, List.take_succ_cons]
  · exact p_add_str _ _ (by
      rw [q_str]
      show (a :: l.take 7).toArray.size + 1 ≤ _
      simp; omega)
  · refine p_add_str _ _ ?_
    rw [q_str]
    show ((a :: l.take 7).toArray ++ #[113]).size + 1 ≤ _
    simp; omega
  · rw [q_str]
    have e2 : ((⟨(a :: l.take 7).toArray⟩ : Str) ++ (⟨#[113]⟩ : Str) ++ (⟨#[48 + k]⟩ : Str)) = ⟨(a :: (l.take 7 ++ [113, 48 + k])).toArray⟩ := by
      show Str.mk ((a :: l.take 7).toArray ++ #[113] ++ #[48 + k]) = _
      simp
    have W : WordP 9 ⟨(a :: (l.take 7 ++ [113, 48 + k])).toArray⟩ := by
      refine ⟨a, _, rfl, h1, ?_, by simp; omega⟩
      intro c hc
      rcases List.mem_append.mp hc with hc | hc
      · exact h2 c (List.mem_of_mem_take hc)
      · rcases List.mem_cons.mp hc with rfl | hc
        · exact sig_q
        · rw [List.mem_singleton.mp hc]
          exact sig_digit ⟨k, by omega⟩
    rw [e2]
    refine W.nameOk (by omega) fun z => ?_
    have z := congrArg (fun s : Str => s.cps.toList) z
    simp only [any_list] at z
    injection z with z1 z2
    have zl := congrArg List.length z2
    simp at zl
    have : l = [] := by
      rcases l with _ | ⟨b, l⟩
      · rfl
      · simp at zl
    subst this
    simp at z2
def eV (nums : List Int) (c : Int) (found : Row) (many : Int) (s3 s4 : MP.Slot) : S := { loc := [.val (.ref 0), .val (.int many), .own (found.map .str), s3, s4], sto := St nums c }
structure FoundOk (found : Row) : Prop where
  nm : ∀ x ∈ found, NameOk x
  nd : found.Nodup
theorem FoundOk.ok {found : Row} (h : FoundOk found) : okStrs found := fun x hx => (h.nm x hx).ok
abbrev tex1 : PS := (.set (.nm 4) (.call 15 (.cons (.var 0) .nil)))
abbrev tex2 : PS := (.ife (.bop false (.cons (.prim .isIn (.cons (.var 4) (.cons (.peek 2) .nil))) (.cons (.prim .eq (.cons (.var 4) (.cons (.con (.str "any")) .nil))) .nil))) (.cons (.set (.nm 4) (.prim .add (.cons (.prim .add (.cons (.prim .sl01 (.cons (.var 4) (.cons (.con (.int 8)) .nil))) (.cons (.con (.str "q")) .nil))) (.cons (.prim .str1 (.cons (.var 3) .nil)) .nil)))) .nil) .nil)
abbrev tex3 : PS := (.ife (.prim .notIn (.cons (.var 4) (.cons (.peek 2) .nil))) (.cons (.app 2 (.var 4)) .nil) .nil)
theorem turn_texts (m : Nat) {nums : List Int} {c many : Int} (h : NumsOk nums) (hc : 0 ≤ c ∧ c ≤ 700000000) {found : Row} (hf : FoundOk found) (hl : found.length ≤ 1000) (s3 s4 : MP.Slot) (k : Nat) (hk : k ≤ 9) :
    ∃ found' c' r4, FoundOk found' ∧ found'.length ≤ found.length + 1 ∧ (c ≤ c' ∧ c' ≤ c + 20) ∧ ofOpt (MP.assign (.nm 3) (.int (k : Nat)) (eV nums c found many s3 s4)) (fun s3 => evalSs (callF FF 100000 (m + 2)) 100000 (.cons tex1 (.cons tex2 (.cons tex3 .nil))) s3) = .ok .nx (eV nums c' found' many (.val (.int (k : Nat))) r4) := by
  obtain ⟨w, c', hw, hc', ew⟩ := sp_word m h (c := c) (by omega)
  have e0 : ∀ s : S, s.sto = St nums c → callO (callF FF 100000 (m + 2)) 15 [.ref 0] s = .ok (.str w) { s with sto := St nums c' } := fun s hs => call_to hs ew
  have as : MP.assign (.nm 3) (.int (k : Nat)) (eV nums c found many s3 s4) = some (eV nums c found many (.val (.int (k : Nat))) s4) := by simp [MP.assign, eV]
  have st1 : evalS (callF FF 100000 (m + 2)) 100000 tex1 (eV nums c found many (.val (.int (k : Nat))) s4) = .ok .nx (eV nums c' found many (.val (.int (k : Nat))) (.val (.str w))) := by
    simp [MP.assign, eV, rdVar, e0]
  have p1 := p_in_lst hw.ok hf.ok
  have p2 := p_eq_str hw.ok any_ok
  have st2 : ∃ v, NameOk v ∧ evalS (callF FF 100000 (m + 2)) 100000 tex2 (eV nums c' found many (.val (.int (k : Nat))) (.val (.str w))) = .ok .nx (eV nums c' found many (.val (.int (k : Nat))) (.val (.str v))) := by
    by_cases z : w ∈ found ∨ w = ("any" : Str)
    · obtain ⟨y, y1, y2, y3, y4⟩ := bend_word hw k hk
      have y5 := digit_str k hk
      refine ⟨_, y4, ?_⟩
      have cd : evalE (callF FF 100000 (m + 2)) (.bop false (.cons (.prim .isIn (.cons (.var 4) (.cons (.peek 2) .nil))) (.cons (.prim .eq (.cons (.var 4) (.cons (.con (.str "any")) .nil))) .nil))) (eV nums c' found many (.val (.int (k : Nat))) (.val (.str w))) = .ok (.bl true) (eV nums c' found many (.val (.int (k : Nat))) (.val (.str w))) := by
        by_cases z1 : w ∈ found
        · simp [eV, rdVar, rdPeek, p1, z1]
        · have z2 := z.resolve_left z1
          rw [decide_eq_true z2] at p2
          simp [eV, rdVar, rdPeek, p1, z1, p2]
      rw [st_if, cd]
      simp only [bind_ok, ifR_t]
      simp [eV, rdVar, y1, y2, y3, y5, MP.assign]
    · have z1 : w ∉ found := fun q => z (.inl q)
      have z2 : w ≠ ("any" : Str) := fun q => z (.inr q)
      refine ⟨w, hw.nameOk (by omega) z2, ?_⟩
      rw [decide_eq_false z2] at p2
      simp [eV, rdVar, rdPeek, p1, z1, p2]
  obtain ⟨v, hv, st2⟩ := st2
  have p3 := p_notIn_lst hv.ok hf.ok
  rw [as, ofOpt_some, evalSs_one st1, seqR_nx, evalSs_one st2, seqR_nx]
  by_cases z : v ∈ found
  · refine ⟨found, c', .val (.str v), hf, by omega, hc', ?_⟩
    simp [eV, rdVar, rdPeek, p3, z]
  · refine ⟨found ++ [v], c', .val (.str v), ⟨?_, ?_⟩, by simp, hc', ?_⟩
    · intro x hx
      rcases List.mem_append.mp hx with hx | hx
      · exact hf.nm x hx
      · rw [List.mem_singleton.mp hx]; exact hv
    · rw [List.nodup_append]
      refine ⟨hf.nd, by simp, fun x hx y hy e => ?_⟩
      rw [List.mem_singleton.mp hy] at e
      exact z (e ▸ hx)
    · have cd : evalE (callF FF 100000 (m + 2)) (.prim .notIn (.cons (.var 4) (.cons (.peek 2) .nil))) (eV nums c' found many (.val (.int (k : Nat))) (.val (.str v))) = .ok (.bl true) (eV nums c' found many (.val (.int (k : Nat))) (.val (.str v))) := by
        simp [eV, rdVar, rdPeek, p3, z]
      have ap : evalS (callF FF 100000 (m + 2)) 100000 (.app 2 (.var 4)) (eV nums c' found many (.val (.int (k : Nat))) (.val (.str v))) = .ok .nx (eV nums c' (found ++ [v]) many (.val (.int (k : Nat))) (.val (.str v))) := by
        have := st_app_ok (cf := callF FF 100000 (m + 2)) (wf := 100000) (i := 2) (e := .var 4) (s := eV nums c' found many (.val (.int (k : Nat))) (.val (.str v))) (s' := eV nums c' found many (.val (.int (k : Nat))) (.val (.str v))) (ys := found.map .str) (xs := found.map .str) (d := .str v) rfl (by simp [eV, rdVar]) rfl (by simp; omega)
        rw [this]
        simp [eV]
      rw [ss_cons', st_if, cd]
      simp only [bind_ok, ifR_t]
      rw [evalSs_one ap, seqR_nx, ss_nil']
      simp
theorem sp_texts (m : Nat) {nums : List Int} {c : Int} (many : Nat) (h : NumsOk nums) (hm : many ≤ 9) (hc : 0 ≤ c ∧ c ≤ 600000000) :
    ∃ (names : Row) (c' : Int), Names names ∧ names.length ≤ many ∧ (c ≤ c' ∧ c' ≤ c + 200) ∧ callF FF 100000 (m + 3) 16 [.ref 0, .int many] (St nums c) = .ok (setD names) (St nums c') := by
  have hF : FF[16]? = some ⟨2, 5, b_law_texts⟩ := rfl
  obtain ⟨s', n', e, l1, found, c', s3, s4, g1, g2, g3, rfl⟩ := forLoop_inv (f := fun d s => ofOpt (MP.assign (.nm 3) d s) fun s3 => evalSs (callF FF 100000 (m + 2)) 100000 (.cons tex1 (.cons tex2 (.cons tex3 .nil))) s3) (fun n s => ∃ found c' s3 s4, FoundOk found ∧ found.length ≤ n ∧ (c ≤ c' ∧ c' ≤ c + 20 * n) ∧ s = eV nums c' found many s3 s4) many ((List.range many).map fun k => .int (k : Nat)) 0 (eV nums c [] many .unb .unb)
    (by simp) ⟨[], c, .unb, .unb, ⟨by simp, by simp⟩, by simp, by omega, rfl⟩ (fun x hx n s hn ⟨found, c', s3, s4, g1, g2, g3, g4⟩ => by
      subst g4
      obtain ⟨k, hk, rfl⟩ := List.mem_map.mp hx
      have hk := List.mem_range.mp hk
      obtain ⟨f2, c2, r4, i1, i2, i3, i4⟩ := turn_texts m h (c := c') (many := many) (by omega) g1 (by omega) s3 s4 k (by omega)
      exact ⟨.nx, _, i4, .inl rfl, f2, c2, .val (.int (k : Nat)), r4, i1, by omega, by omega, rfl⟩)
  have perm := List.mergeSort_perm found (W.dataLe false fun x : Str => PyData.str x)
  refine ⟨found.mergeSort (W.dataLe false fun x : Str => PyData.str x), c', ⟨fun x hx => g1.nm x (perm.mem_iff.mp hx), sort_rising g1.nd, by rw [perm.length_eq]; omega⟩, by rw [perm.length_eq]; omega, by omega, ?_⟩
  rw [callF_succ, hF]
  show (if [D.ref 0, D.int many].length = 2 then runRes (evalSs (callF FF 100000 (m + 2)) 100000 b_law_texts { loc := [.val (.ref 0), .val (.int many), .unb, .unb, .unb], sto := St nums c }) else .bad) = _
  rw [if_pos (show [D.ref 0, D.int many].length = 2 from rfl)]
  unfold b_law_texts
  have st1 : evalS (callF FF 100000 (m + 2)) 100000 (.own 2 (.lst .nil)) { loc := [.val (.ref 0), .val (.int many), .unb, .unb, .unb], sto := St nums c } = .ok .nx (eV nums c [] many .unb .unb) := st_own_ok (xs := []) (s' := { loc := [.val (.ref 0), .val (.int many), .unb, .unb, .unb], sto := St nums c }) (by simp) (by simp)
  have it : evalI (callF FF 100000 (m + 2)) (.rng1 (.var 1)) (eV nums c [] many .unb .unb) = .ok ((List.range many).map fun k => .int (k : Nat)) (eV nums c [] many .unb .unb) := by
    have sm : smallI (many : Int) = true := by unfold smallI; simp; omega
    simp [eV, rdVar, sm, rngL_nat]
  have so : prim .sorted [.lst (found.map .str)] = some (.lst ((found.mergeSort (W.dataLe false fun x : Str => PyData.str x)).map .str)) := by
    rw [← sortD_strs]
    show (if sortOk (found.map D.str) then some (D.lst (sortD false (found.map D.str))) else none) = _
    rw [if_pos (sortOk_strs found (by omega))]
  rw [evalSs_one st1, seqR_nx, ss_cons', st_forr, it]
  simp only [bind_ok]
  rw [e]
  simp [eV, rdPeek, so, p_tuple_lst]
  rfl
theorem bulk_all {b : Nat} : ∀ {l : List D}, (∀ d ∈ l, d.pd.bulk ≤ b) → PyData.bulkAll (pdL l) ≤ (b + 1) * l.length
  | [], _ => by simp [pdL, PyData.bulkAll]
  | x :: xs, h => by
    have h1 := h x List.mem_cons_self
    have h2 := bulk_all (b := b) (l := xs) fun d hd => h d (List.mem_cons_of_mem _ hd)
    simp only [pdL, PyData.bulkAll, List.length_cons, Nat.mul_add, Nat.mul_one]
    omega
theorem bulk_tup (l : List D) : (D.tup l).pd.bulk = PyData.bulkAll (pdL l) := rfl
theorem bulk_lst (l : List D) : (D.lst l).pd.bulk = PyData.bulkAll (pdL l) := rfl
structure FineB (n b : Nat) (d : D) : Prop where
  f : fine n d = true
  b : d.pd.bulk ≤ b
theorem fineB_tup {n b k : Nat} {l : List D} (h : ∀ d ∈ l, FineB n b d) (hk : l.length ≤ k) : FineB (n + 1) ((b + 1) * k) (.tup l) := by
  refine ⟨?_, ?_⟩
  · simp only [fine, Nat.add_sub_cancel, fineL_all fun d hd => (h d hd).f]
    simp
  · rw [bulk_tup]
    exact Nat.le_trans (bulk_all fun d hd => (h d hd).b) (Nat.mul_le_mul_left _ hk)
theorem fineB_lst {n b k : Nat} {l : List D} (h : ∀ d ∈ l, FineB n b d) (hk : l.length ≤ k) : FineB (n + 1) ((b + 1) * k) (.lst l) := by
  refine ⟨?_, ?_⟩
  · simp only [fine, Nat.add_sub_cancel, fineL_all fun d hd => (h d hd).f]
    simp
  · rw [bulk_lst]
    exact Nat.le_trans (bulk_all fun d hd => (h d hd).b) (Nat.mul_le_mul_left _ hk)
theorem fine_mono : ∀ (n k : Nat) (d : D), n ≤ k → fine n d = true → fine k d = true := by
  have key : ∀ (n k : Nat), n ≤ k → (∀ d, fine n d = true → fine k d = true) := by
    intro n
    induction n with
    | zero =>
      intro k hk d h
      cases d <;> simp [fine] at h ⊢ <;> exact h
    | succ n ih =>
      intro k hk d h
      have step : ∀ l : List D, fineL n l = true → fineL (k - 1) l = true := fun l => by
        induction l with
        | nil => exact fun _ => rfl
        | cons x l ihl =>
          intro h
          simp only [fineL, Bool.and_eq_true] at h ⊢
          exact ⟨ih (k - 1) (by omega) x h.1, ihl h.2⟩
      cases d with
      | tup l =>
        simp only [fine, Nat.add_sub_cancel, Bool.and_eq_true, decide_eq_true_eq] at h ⊢
        exact ⟨by omega, step l h.2⟩
      | lst l =>
        simp only [fine, Nat.add_sub_cancel, Bool.and_eq_true, decide_eq_true_eq] at h ⊢
        exact ⟨by omega, step l h.2⟩
      | _ => simp [fine] at h ⊢ <;> exact h
  exact fun n k d hk => key n k hk d
theorem FineB.mono {n b n' b' : Nat} {d : D} (h : FineB n b d) (h1 : n ≤ n') (h2 : b ≤ b') : FineB n' b' d := ⟨fine_mono n n' d h1 h.f, Nat.le_trans h.b h2⟩
theorem fineB_name {x : Str} (h : NameOk x) : FineB 0 12 (.str x) := ⟨by simp only [fine]; exact h.ok, h.l2⟩
theorem fineB_bl (b : Bool) : FineB 0 0 (.bl b) := ⟨by simp [fine], Nat.le_refl _⟩
theorem fineB_non : FineB 0 0 .non := ⟨by simp [fine], Nat.le_refl _⟩
theorem fineB_int {i : Int} (h : i.natAbs < 999999999999) : FineB 0 0 (.int i) := ⟨by simp only [fine, decide_eq_true_eq]; exact h, Nat.le_refl _⟩
theorem fineB_told : FineB 0 4 (.str "told") := ⟨by simp only [fine]; decide +kernel, by decide +kernel⟩
theorem fineB_set {names l : Row} (g : Names names) (h : l.Sublist names) : FineB 1 156 (setD l) := by
  have := fineB_tup (n := 0) (b := 12) (k := 12) (l := l.map .str) (fun d hd => by
    obtain ⟨x, hx, rfl⟩ := List.mem_map.mp hd
    exact fineB_name (g.nm x (h.subset hx))) (by have := h.length_le; have := g.nl; simp; omega)
  exact this
theorem fineB_pair {n b : Nat} {d : D} (h : FineB n b d) (hn : 1 ≤ n + 1) : FineB (n + 1) ((max 4 b + 1) * 2) (.tup [.str "told", d]) :=
  fineB_tup (n := n) (b := max 4 b) (k := 2) (fun e he => by
    rcases List.mem_cons.mp he with rfl | he
    · exact fineB_told.mono (by omega) (by omega)
    · rw [List.mem_singleton.mp he]
      exact h.mono (by omega) (by omega)) (by simp)
theorem FineB.same (m : Nat) {n b : Nat} {d : D} (h : FineB n b d) (t : Sto) (hn : n ≤ 59) (hb : b ≤ 800000) : callF FF 100000 (m + 1) 12 [d, d] t = .ok (.bl true) t := sp_same m t h.f hn (Nat.le_trans h.b hb)
theorem eqD_set (a b : Row) : eqD (setD a) (setD b) = decide (a = b) := by
  unfold eqD
  show PyData.eqv (D.tup (a.map .str)).pd (D.tup (b.map .str)).pd = _
  simp only [D.pd, PyData.eqv, eqD_strs]
theorem p_ne_bl (a b : Bool) : prim .ne [.bl a, .bl b] = some (D.bl (a != b)) := by
  cases a <;> cases b <;> rfl
theorem p_ne_str {x y : Str} (hx : PyData.strOk x = true) (hy : PyData.strOk y = true) : prim .ne [.str x, .str y] = some (D.bl (!decide (x = y))) := by
  show (if eqOk (D.str x) (D.str y) then some (D.bl (!eqD (D.str x) (D.str y))) else none) = _
  have e : eqOk (D.str x) (D.str y) = true := by
    simp [eqOk, D.flat, D.pd, SeqAt.shaped, PyData.canLay0, PyData.depth, hx, hy]
  rw [if_pos e, eqD_str]
theorem told_ok : PyData.strOk ("told" : Str) = true := by decide +kernel
theorem ev_or2 {cf : CF} {a b : PE} {s : S} (ha : evalE cf a s = .ok (.bl false) s) (hb : evalE cf b s = .ok (.bl false) s) : evalE cf (.bop false (.cons a (.cons b .nil))) s = .ok (.bl false) s := by
  simp only [ev_bop, evB_cons, ha, bind_ok, bopR_bl, evB_one, hb, if_true]
theorem ev_or3 {cf : CF} {a b c : PE} {s : S} (ha : evalE cf a s = .ok (.bl false) s) (hb : evalE cf b s = .ok (.bl false) s) (hc : evalE cf c s = .ok (.bl false) s) : evalE cf (.bop false (.cons a (.cons b (.cons c .nil)))) s = .ok (.bl false) s := by
  simp only [ev_bop, evB_cons, ha, bind_ok, bopR_bl, evB_one, hb, hc, if_true]
theorem ev_not {cf : CF} {a : PE} {s : S} {b : Bool} (h : evalE cf a s = .ok (.bl b) s) : evalE cf (.nt a) s = .ok (.bl !b) s := by
  rw [ev_nt, h]
  rfl
theorem st_skip {cf : CF} {wf : Nat} {c : PE} {b : PB} {s : S} (h : evalE cf c s = .ok (.bl false) s) : evalS cf wf (.ife c b .nil) s = .ok .nx s := by
  rw [st_if, h]
  simp
def tell (d : D) : D := .tup [.str "told", d]
end K78
end
section
set_option Elab.async false
set_option linter.all false
set_option maxRecDepth 100000
set_option maxHeartbeats 4000000
set_option exponentiation.threshold 5000
namespace K78
open PySem MP
/-- a comprehension that leaves the store -/
theorem comp_gen {β : Type} {cf : CF} {elt : PE} {t : Tgt} {it : Iter} {cs : PL} {vs : List Nat} {s s1 : S} {ys : List β} {h : β → D} (e : β → List D) (hI : evalI cf it s = .ok (ys.map h) s1)
    (hf : ∀ y ∈ ys, ∃ loc', turnF cf elt t cs (h y) { loc := MP.wipe s1.loc vs, sto := s1.sto } = .ok (e y) { loc := loc', sto := s1.sto } ∧ MP.wipe loc' vs = MP.wipe s1.loc vs) (hl : (ys.flatMap e).length ≤ 1000000) :
    evalE cf (.comp elt t it cs vs) s = .ok (.lst (ys.flatMap e)) { loc := unwipe s1.loc s1.loc vs, sto := s1.sto } := by
  obtain ⟨a, t', e1, e2, e3⟩ := comp_run (cf := cf) (elt := elt) (t := t) (it := it) (cs := cs) (vs := vs) (s := s) (s1 := s1) (ys := ys) (h := h) (fun p a t' => (a = p.flatMap e ∧ t' = s1.sto)) hI ⟨rfl, rfl⟩
    (fun p y a t' hy hp ⟨ea, et⟩ => by
      subst et
      obtain ⟨loc', q1, q2⟩ := hf y hy
      exact ⟨e y, loc', s1.sto, q1, q2, by rw [ea, List.flatMap_append]; simp, rfl⟩) (fun a t' ⟨ea, _⟩ => by rw [ea]; exact hl)
  subst e2
  rw [e1, e3]
theorem flatMap_one {β : Type} (g : β → D) (ys : List β) : ys.flatMap (fun y => [g y]) = ys.map g := by
  induction ys with
  | nil => rfl
  | cons y ys ih => rw [List.flatMap_cons, ih]; rfl
theorem flatMap_if {β : Type} (p : β → Bool) (g : β → D) (ys : List β) : ys.flatMap (fun y => if p y = true then [g y] else []) = (ys.filter p).map g := by
  induction ys with
  | nil => rfl
  | cons y ys ih =>
    rw [List.flatMap_cons, ih, List.filter_cons]
    cases p y <;> simp
theorem p_any_bools (bs : List Bool) : prim .any [.lst (bs.map .bl)] = some (.bl (bs.any id)) := by
  have h : ∀ l : List Bool, boolsOf (l.map .bl) = some l := fun l => by
    induction l with
    | nil => rfl
    | cons b l ih => simp [boolsOf, ih]
  show p_any [.lst (bs.map .bl)] = _
  unfold p_any
  simp only [h, Option.map_some]
theorem p_any_map {α : Type} (l : List α) (g : α → Bool) : prim .any [.lst (l.map fun x => .bl (g x))] = some (.bl (l.any g)) := by
  have e : (l.map fun x => D.bl (g x)) = (l.map g).map .bl := by rw [List.map_map]; rfl
  rw [e, p_any_bools, List.any_map]
  rfl
/-- a loop that leaves with d at the first item that is not good -/
theorem forLoop_all {β : Type} {f : D → S → Out Fl} (h : β → D) (p : β → Bool) (d : D) (I : S → Prop) : ∀ (ys : List β) (s : S), I s → (∀ y ∈ ys, ∀ s, I s → ∃ s', f (h y) s = .ok (if p y = true then .nx else .ret d) s' ∧ I s') →
    ∃ s', forLoop f (ys.map h) s = .ok (if ys.all p = true then .nx else .ret d) s' ∧ I s'
  | [], s, i, _ => ⟨s, rfl, i⟩
  | y :: ys, s, i, k => by
    obtain ⟨s1, e1, i1⟩ := k y List.mem_cons_self s i
    obtain ⟨s2, e2, i2⟩ := forLoop_all h p d I ys s1 i1 fun z hz => k z (List.mem_cons_of_mem _ hz)
    rw [List.map_cons, forLoop, e1]
    cases hp : p y with
    | true =>
      refine ⟨s2, ?_, i2⟩
      simp only [List.all_cons, hp, Bool.true_and, if_true, bind_ok]
      exact e2
    | false => exact ⟨s1, by simp [List.all_cons, hp], i1⟩
end K78
end
section
set_option Elab.async false
set_option linter.all false
set_option maxRecDepth 100000
set_option maxHeartbeats 4000000
set_option exponentiation.threshold 5000
namespace K78
open PySem MP
/-- a slot that a comprehension may use -/
def Free (s : S) (i : Nat) : Prop := s.loc[i]? = some .unb ∨ ∃ d, s.loc[i]? = some (.val d)
theorem set_set {α : Type} : ∀ (l : List α) (i : Nat) (a b : α), (l.set i a).set i b = l.set i b
  | [], _, _, _ => rfl
  | _ :: _, 0, _, _ => rfl
  | x :: l, i + 1, a, b => by simp [set_set l i a b]
theorem set_get {α : Type} : ∀ (l : List α) (i : Nat) (a : α), l[i]? = some a → l.set i a = l
  | [], _, _, h => by simp at h
  | x :: l, 0, a, h => by simp at h; rw [h]; rfl
  | x :: l, i + 1, a, h => by simp at h; simp [set_get l i a h]
theorem free_lt {s : S} {i : Nat} (h : Free s i) : i < s.loc.length := by
  rcases h with h | ⟨d, h⟩ <;> exact (List.getElem?_eq_some_iff.mp h).1
theorem free_un {s : S} {i : Nat} (h : Free s i) : unwipe s.loc s.loc [i] = s.loc := by
  simp only [unwipe]
  rcases h with h | ⟨d, h⟩
  · rw [h]; exact set_get _ _ _ h
  · rw [h]; exact set_get _ _ _ h
/-- [e for x in it if test] -/
theorem comp_if {β : Type} {cf : CF} {elt : PE} {i : Nat} {it : Iter} {cs : PL} {s : S} {ys : List β} {h : β → D} (p : β → Bool) (g : β → D) (hi : Free s i) (hI : evalI cf it s = .ok (ys.map h) s)
    (hc : ∀ y ∈ ys, evalC cf cs { s with loc := s.loc.set i (.val (h y)) } = .ok (p y) { s with loc := s.loc.set i (.val (h y)) })
    (he : ∀ y ∈ ys, p y = true → evalE cf elt { s with loc := s.loc.set i (.val (h y)) } = .ok (g y) { s with loc := s.loc.set i (.val (h y)) }) (hl : ys.length ≤ 1000000) :
    evalE cf (.comp elt (.nm i) it cs [i]) s = .ok (.lst ((ys.filter p).map g)) s := by
  have lt := free_lt hi
  have := comp_gen (cf := cf) (elt := elt) (t := .nm i) (it := it) (cs := cs) (vs := [i]) (s := s) (s1 := s) (ys := ys) (h := h) (fun y => if p y = true then [g y] else []) hI (fun y hy => by
    refine ⟨s.loc.set i (.val (h y)), ?_, by simp only [MP.wipe, set_set]⟩
    have as : MP.assign (.nm i) (h y) { loc := MP.wipe s.loc [i], sto := s.sto } = some { loc := s.loc.set i (.val (h y)), sto := s.sto } := by
      simp only [MP.assign, MP.wipe, List.length_set]
      rw [if_pos lt, set_set]
    unfold turnF
    rw [as, ofOpt_some, hc y hy]
    simp only [bind_ok]
    by_cases hp : p y = true
    · rw [if_pos hp, if_pos hp, he y hy hp]; rfl
    · rw [if_neg hp, if_neg hp]) (by
    rw [flatMap_if, List.length_map]
    exact Nat.le_trans (List.length_filter_le _ _) hl)
  rw [this, free_un hi, flatMap_if]
/-- [e for x in it] -/
theorem comp_map {β : Type} {cf : CF} {elt : PE} {i : Nat} {it : Iter} {s : S} {ys : List β} {h : β → D} (g : β → D) (hi : Free s i) (hI : evalI cf it s = .ok (ys.map h) s)
    (he : ∀ y ∈ ys, evalE cf elt { s with loc := s.loc.set i (.val (h y)) } = .ok (g y) { s with loc := s.loc.set i (.val (h y)) }) (hl : ys.length ≤ 1000000) :
    evalE cf (.comp elt (.nm i) it .nil [i]) s = .ok (.lst (ys.map g)) s := by
  have := comp_if (cs := .nil) (fun _ => true) g hi hI (fun y hy => by rw [evC_nil]) (fun y hy _ => he y hy) hl
  rw [this, List.filter_eq_self.mpr (fun _ _ => rfl)]
theorem ev_p1 {cf : CF} {p : Prim} {a : PE} {s : S} {x d : D} (h : ev1 cf a s = .ok x s) (e : prim p [deref s.sto x] = some d) : evalE cf (.prim p (.cons a .nil)) s = .ok d s := by
  rw [ev_prim, evO_cons, h]
  simp only [bind_ok, evO_nil, List.map_cons, List.map_nil, e, toOut_some]
theorem ev_p2 {cf : CF} {p : Prim} {a b : PE} {s : S} {x y d : D} (h : ev1 cf a s = .ok x s) (h2 : ev1 cf b s = .ok y s) (e : prim p [deref s.sto x, deref s.sto y] = some d) : evalE cf (.prim p (.cons a (.cons b .nil))) s = .ok d s := by
  rw [ev_prim, evO_cons, h]
  simp only [bind_ok]
  rw [evO_cons, h2]
  simp only [bind_ok, evO_nil, List.map_cons, List.map_nil, e, toOut_some]
theorem o_var {cf : CF} {i : Nat} {s : S} {d : D} (h : s.loc[i]? = some (.val d)) : ev1 cf (.var i) s = .ok d s := by
  rw [op_var, ev_var, rdVar, h]
theorem v_var {cf : CF} {i : Nat} {s : S} {d : D} (h : s.loc[i]? = some (.val d)) : evalE cf (.var i) s = .ok d s := by
  rw [ev_var, rdVar, h]
theorem o_peek {cf : CF} {i : Nat} {s : S} {xs : List D} (h : s.loc[i]? = some (.own xs)) : ev1 cf (.peek i) s = .ok (.lst xs) s := by
  rw [op_peek, rdPeek, h]
theorem o_con {cf : CF} {d : D} {s : S} : ev1 cf (.con d) s = .ok d s := by rw [op_con, ev_con]
theorem o_prim {cf : CF} {p : Prim} {es : PL} {s : S} {d : D} (h : evalE cf (.prim p es) s = .ok d s) : ev1 cf (.prim p es) s = .ok d s := by rw [op_prim, h]
theorem o_call {cf : CF} {f : Nat} {es : PL} {s : S} {d : D} (h : evalE cf (.call f es) s = .ok d s) : ev1 cf (.call f es) s = .ok d s := by rw [op_call, h]
theorem o_lst {cf : CF} {es : PL} {s : S} {d : D} (h : evalE cf (.lst es) s = .ok d s) : ev1 cf (.lst es) s = .ok d s := by rw [op_lst, h]
theorem o_comp {cf : CF} {a : PE} {t : Tgt} {it : Iter} {cs : PL} {vs : List Nat} {s : S} {d : D} (h : evalE cf (.comp a t it cs vs) s = .ok d s) : ev1 cf (.comp a t it cs vs) s = .ok d s := by rw [op_comp, h]
/-- a call that leaves the store as it is -/
theorem v_call {cf : CF} {f : Nat} {es : PL} {ds : List D} {s : S} {d : D} (h1 : evalL cf es s = .ok ds s) (h2 : cf f ds s.sto = .ok d s.sto) : evalE cf (.call f es) s = .ok d s := evalE_call h1 h2
theorem v_l1 {cf : CF} {a : PE} {s : S} {x : D} (h : evalE cf a s = .ok x s) : evalL cf (.cons a .nil) s = .ok [x] s := evalL_cons_ok h (evL_nil _ _)
theorem v_l2 {cf : CF} {a b : PE} {s : S} {x y : D} (h : evalE cf a s = .ok x s) (h2 : evalE cf b s = .ok y s) : evalL cf (.cons a (.cons b .nil)) s = .ok [x, y] s := evalL_cons_ok h (v_l1 h2)
theorem v_l3 {cf : CF} {a b c : PE} {s : S} {x y z : D} (h : evalE cf a s = .ok x s) (h2 : evalE cf b s = .ok y s) (h3 : evalE cf c s = .ok z s) : evalL cf (.cons a (.cons b (.cons c .nil))) s = .ok [x, y, z] s := evalL_cons_ok h (v_l2 h2 h3)
theorem v_tup {cf : CF} {es : PL} {s : S} {ds : List D} (h : evalL cf es s = .ok ds s) (hl : ds.length ≤ 1000) : evalE cf (.tup es) s = .ok (.tup ds) s := by
  rw [ev_tup, h]
  simp only [bind_ok]
  rw [if_pos hl]
theorem v_lst {cf : CF} {es : PL} {s : S} {ds : List D} (h : evalL cf es s = .ok ds s) (hl : ds.length ≤ 1000) : evalE cf (.lst es) s = .ok (.lst ds) s := by
  rw [ev_lst, h]
  simp only [bind_ok]
  rw [if_pos hl]
theorem v_con {cf : CF} {d : D} {s : S} : evalE cf (.con d) s = .ok d s := ev_con _ _ _
theorem i_seq {cf : CF} {p : PE} {s : S} {d : D} {xs : List D} (h : ev1 cf p s = .ok d s) (e : itemsOf d = some xs) : evalI cf (.seq p) s = .ok xs s := by
  rw [evI_seq, h]
  simp only [bind_ok, e]
theorem i_rng {cf : CF} {p : PE} {s : S} {n : Nat} (h : evalE cf p s = .ok (.int (n : Nat)) s) (hn : n ≤ 1000000) : evalI cf (.rng1 p) s = .ok ((List.range n).map fun k => .int (k : Nat)) s := by
  have sm : smallI (n : Int) = true := by unfold smallI; simp; omega
  rw [evI_rng1, h]
  simp only [bind_ok, rng1R_int]
  rw [if_pos sm, rngL_nat]
theorem i_enum {cf : CF} {p : PE} {s : S} {d : D} {xs : List D} (h : ev1 cf p s = .ok d s) (e : seqOf d = some xs) : evalI cf (.enum p) s = .ok (enumL 0 xs) s := by
  rw [MP.evalI_enum, h]
  simp only [bind_ok, e]
theorem s_setv {cf : CF} {wf i : Nat} {e : PE} {s : S} {d : D} (h : evalE cf e s = .ok d s) (hi : i < s.loc.length) : evalS cf wf (.set (.nm i) e) s = .ok .nx { s with loc := s.loc.set i (.val d) } := by
  rw [st_set, h]
  simp only [bind_ok, MP.assign]
  rw [if_pos hi]
  rfl
theorem s_ifT {cf : CF} {wf : Nat} {c : PE} {a b : PB} {s : S} (h : evalE cf c s = .ok (.bl true) s) : evalS cf wf (.ife c a b) s = evalSs cf wf a s := by
  rw [st_if, h]; rfl
theorem s_ifF {cf : CF} {wf : Nat} {c : PE} {a b : PB} {s : S} (h : evalE cf c s = .ok (.bl false) s) : evalS cf wf (.ife c a b) s = evalSs cf wf b s := by
  rw [st_if, h]; rfl
theorem s_retv {cf : CF} {wf : Nat} {e : PE} {s : S} {d : D} (h : evalE cf e s = .ok d s) : evalS cf wf (.ret e) s = .ok (.ret d) s := by
  rw [MP.st_ret, h]; rfl
theorem s_ife {cf : CF} {wf : Nat} {c : PE} {a : PB} {s : S} {b : Bool} {s' : S} (h : evalE cf c s = .ok (.bl b) s) (h1 : b = true → evalSs cf wf a s = .ok .nx s') (h2 : b = false → s' = s) : evalS cf wf (.ife c a .nil) s = .ok .nx s' := by
  cases b with
  | true => rw [s_ifT h, h1 rfl]
  | false => rw [s_ifF h, ss_nil', h2 rfl]
theorem s_one {cf : CF} {wf : Nat} {a : PS} {s s' : S} {f : Fl} (h : evalS cf wf a s = .ok f s') : evalSs cf wf (.cons a .nil) s = .ok f s' := by
  rw [evalSs_one h]
  cases f <;> rfl
theorem p_len_lst (xs : List D) : prim .len [.lst xs] = some (.int (xs.length : Nat)) := rfl
theorem p_len_tup (xs : List D) : prim .len [.tup xs] = some (.int (xs.length : Nat)) := rfl
theorem p_item_l (xs : List D) (k : Nat) (d : D) (h : xs[k]? = some d) : prim .item [.lst xs, .int (k : Nat)] = some d := by
  have hk := (List.getElem?_eq_some_iff.mp h).1
  show L2.atI xs (k : Int) = _
  rw [atI_nat xs k hk, h]
theorem p_item_t (xs : List D) (k : Nat) (d : D) (h : xs[k]? = some d) : prim .item [.tup xs, .int (k : Nat)] = some d := by
  have hk := (List.getElem?_eq_some_iff.mp h).1
  show L2.atI xs (k : Int) = _
  rw [atI_nat xs k hk, h]
theorem fn_at {m f np nl : Nat} {body : PB} {ds : List D} {t : Sto} {r : Res} (hF : FF[f]? = some ⟨np, nl, body⟩) (hl : ds.length = np) (h : runRes (evalSs (callF FF 100000 m) 100000 body { loc := ds.map .val ++ List.replicate (nl - np) .unb, sto := t }) = r) : callF FF 100000 (m + 1) f ds t = r := by
  rw [callF_succ, hF]
  show (if ds.length = np then runRes (evalSs (callF FF 100000 m) 100000 body { loc := ds.map .val ++ List.replicate (nl - np) .unb, sto := t }) else .bad) = _
  rw [if_pos hl, h]
theorem run_ret {cf : CF} {wf : Nat} {b : PB} {s s' : S} {d : D} {t : Sto} (h : evalSs cf wf b s = .ok (.ret d) s') (ht : s'.sto = t) : runRes (evalSs cf wf b s) = .ok d t := by
  rw [h, ← ht]; rfl
theorem run_exc {cf : CF} {wf : Nat} {b : PB} {s : S} {c : Nat} {t : Sto} (h : evalSs cf wf b s = .exc c t) : runRes (evalSs cf wf b s) = .exc c t := by rw [h]; rfl
theorem b_cons {cf : CF} {wf : Nat} {a : PS} {r : PB} {s s1 : S} {o : Out Fl} (h : evalS cf wf a s = .ok .nx s1) (k : evalSs cf wf r s1 = o) : evalSs cf wf (.cons a r) s = o := by
  rw [evalSs_one h, seqR_nx, k]
theorem b_last {cf : CF} {wf : Nat} {a : PS} {r : PB} {s s1 : S} {d : D} (h : evalS cf wf a s = .ok (.ret d) s1) : evalSs cf wf (.cons a r) s = .ok (.ret d) s1 := by
  rw [evalSs_one h, seqR_ret]
theorem b_nil {cf : CF} {wf : Nat} {s : S} : evalSs cf wf .nil s = .ok .nx s := ss_nil' _ _ _
theorem s_to {cf : CF} {wf : Nat} {t : Tgt} {e : PE} {s s' : S} {d : D} (h : evalE cf e s = .ok d s) (as : MP.assign t d s = some s') : evalS cf wf (.set t e) s = .ok .nx s' := by
  rw [st_set, h]
  simp only [bind_ok, as, ofOpt_some]
theorem s_for {cf : CF} {wf : Nat} {t : Tgt} {it : Iter} {b : PB} {s : S} {xs : List D} {o : Out Fl} (hI : evalI cf it s = .ok xs s) (h : forLoop (fun d s2 => ofOpt (MP.assign t d s2) fun s3 => evalSs cf wf b s3) xs s = o) : evalS cf wf (.forr t it b) s = o := by
  rw [st_forr, hI]
  exact h
/-- a turn of a loop -/
theorem turn_at {cf : CF} {wf : Nat} {t : Tgt} {b : PB} {d : D} {s s1 : S} {o : Out Fl} (as : MP.assign t d s = some s1) (h : evalSs cf wf b s1 = o) : (ofOpt (MP.assign t d s) fun s3 => evalSs cf wf b s3) = o := by
  rw [as, ofOpt_some, h]
theorem s_seti {cf : CF} {wf i : Nat} {ix e : PE} {s : S} {d : D} {k : Int} {xs ys : List D} (h : evalE cf e s = .ok d s) (h0 : s.loc[i]? = some (.own xs)) (hx : evalE cf ix s = .ok (.int k) s) (hs : setAt xs k d = some ys) : evalS cf wf (.seti i ix e) s = .ok .nx { s with loc := s.loc.set i (.own ys) } := by
  simp only [evalS, h, bind_ok, h0, hx, hs]
theorem forLoop_rel {α β : Type} {f : D → S → Out Fl} (h : β → D) (I : α → S → Prop) (g : α → β → α) : ∀ (ys : List β) (a : α) (s : S), (∀ y ∈ ys, ∀ a s, I a s → ∃ s', f (h y) s = .ok .nx s' ∧ I (g a y) s') → I a s → ∃ s', forLoop f (ys.map h) s = .ok .nx s' ∧ I (ys.foldl g a) s'
  | [], a, s, _, i => ⟨s, rfl, i⟩
  | y :: ys, a, s, k, i => by
    obtain ⟨s1, e1, i1⟩ := k y List.mem_cons_self a s i
    obtain ⟨s2, e2, i2⟩ := forLoop_rel h I g ys (g a y) s1 (fun z hz => k z (List.mem_cons_of_mem _ hz)) i1
    refine ⟨s2, ?_, i2⟩
    rw [List.map_cons, forLoop, e1]
    exact e2
theorem forLoop_cnt {α β : Type} {f : D → S → Out Fl} (h : β → D) (I : Nat → α → S → Prop) (g : α → β → α) (N : Nat) : ∀ (ys : List β) (k : Nat) (a : α) (s : S), k + ys.length ≤ N → (∀ y ∈ ys, ∀ k a s, k < N → I k a s → ∃ s', f (h y) s = .ok .nx s' ∧ I (k + 1) (g a y) s') → I k a s → ∃ s', forLoop f (ys.map h) s = .ok .nx s' ∧ I (k + ys.length) (ys.foldl g a) s'
  | [], k, a, s, _, _, i => ⟨s, rfl, i⟩
  | y :: ys, n, a, s, hn, k, i => by
    rw [List.length_cons] at hn
    obtain ⟨s1, e1, i1⟩ := k y List.mem_cons_self n a s (by omega) i
    obtain ⟨s2, e2, i2⟩ := forLoop_cnt h I g N ys (n + 1) (g a y) s1 (by omega) (fun z hz => k z (List.mem_cons_of_mem _ hz)) i1
    refine ⟨s2, ?_, by rw [List.length_cons, show n + (ys.length + 1) = n + 1 + ys.length by omega]; exact i2⟩
    rw [List.map_cons, forLoop, e1]
    exact e2
/-- two targets -/
theorem comp_if2 {β : Type} {cf : CF} {elt : PE} {i j : Nat} {it : Iter} {cs : PL} {s : S} {ys : List β} {h1 h2 : β → D} (p : β → Bool) (g : β → D) (hi : Free s i) (hj : Free s j) (ne : i ≠ j) (hI : evalI cf it s = .ok (ys.map fun y => .tup [h1 y, h2 y]) s)
    (hc : ∀ y ∈ ys, evalC cf cs { s with loc := (s.loc.set i (.val (h1 y))).set j (.val (h2 y)) } = .ok (p y) { s with loc := (s.loc.set i (.val (h1 y))).set j (.val (h2 y)) })
    (he : ∀ y ∈ ys, p y = true → evalE cf elt { s with loc := (s.loc.set i (.val (h1 y))).set j (.val (h2 y)) } = .ok (g y) { s with loc := (s.loc.set i (.val (h1 y))).set j (.val (h2 y)) }) (hl : ys.length ≤ 1000000) :
    evalE cf (.comp elt (.tp [.nm i, .nm j]) it cs [i, j]) s = .ok (.lst ((ys.filter p).map g)) s := by
  have lt := free_lt hi
  have ltj := free_lt hj
  have w : MP.wipe s.loc [i, j] = (s.loc.set j .unb).set i .unb := rfl
  have key : ∀ (a b : MP.Slot), (((s.loc.set j .unb).set i .unb).set i a).set j b = (s.loc.set i a).set j b := fun a b => by
    rw [set_set, List.set_comm .unb a (Ne.symm ne), set_set]
  have un : unwipe s.loc s.loc [i, j] = s.loc := by
    have e1 : unwipe s.loc s.loc [j] = s.loc := free_un hj
    have : unwipe s.loc s.loc [i, j] = (unwipe s.loc s.loc [j]).set i (match s.loc[i]? with
      | some (.val d) => .val d
      | _ => .unb) := rfl
    rw [this, e1]
    exact free_un hi
  have := comp_gen (cf := cf) (elt := elt) (t := .tp [.nm i, .nm j]) (it := it) (cs := cs) (vs := [i, j]) (s := s) (s1 := s) (ys := ys) (h := fun y => .tup [h1 y, h2 y]) (fun y => if p y = true then [g y] else []) hI (fun y hy => by
    refine ⟨(s.loc.set i (.val (h1 y))).set j (.val (h2 y)), ?_, ?_⟩
    · have as : MP.assign (.tp [.nm i, .nm j]) (.tup [h1 y, h2 y]) { loc := MP.wipe s.loc [i, j], sto := s.sto } = some { loc := (s.loc.set i (.val (h1 y))).set j (.val (h2 y)), sto := s.sto } := by
        rw [w]
        simp only [MP.assign, assignL, List.length_set]
        rw [if_pos lt]
        simp only [Option.bind_some, List.length_set]
        rw [if_pos ltj]
        simp only [Option.bind_some, key]
      unfold turnF
      rw [as, ofOpt_some, hc y hy]
      simp only [bind_ok]
      by_cases hp : p y = true
      · rw [if_pos hp, if_pos hp, he y hy hp]; rfl
      · rw [if_neg hp, if_neg hp]
    · rw [w]
      show (((s.loc.set i (.val (h1 y))).set j (.val (h2 y))).set j .unb).set i .unb = _
      rw [set_set, List.set_comm (MP.Slot.val (h1 y)) MP.Slot.unb ne, set_set]) (by
    rw [flatMap_if, List.length_map]
    exact Nat.le_trans (List.length_filter_le _ _) hl)
  rw [this, flatMap_if]
  show Out.ok _ { loc := unwipe s.loc s.loc [i, j], sto := s.sto } = _
  rw [un]
theorem intsOf_map' : ∀ l : List Int, intsOf (l.map D.int) = some l
  | [] => rfl
  | i :: l => by simp [intsOf, intsOf_map' l]
theorem p_ne_nat (a b : Nat) : prim .ne [.int (a : Nat), .int (b : Nat)] = some (.bl (!decide (a = b))) := by
  have := p_eq_int (a : Nat) (b : Nat)
  have e : prim .ne [.int (a : Nat), .int (b : Nat)] = some (.bl (!eqD (.int (a : Nat)) (.int (b : Nat)))) := by
    show (if eqOk (.int (a : Nat)) (.int (b : Nat)) then some (D.bl (!eqD (.int (a : Nat)) (.int (b : Nat)))) else none) = _
    rw [if_pos (by simp [eqOk, D.flat, SeqAt.shaped, D.pd, PyData.canLay0, PyData.depth])]
  rw [e]
  congr 3
  unfold eqD
  simp only [D.pd, PyData.eqv]
  rw [Bool.eq_iff_iff]
  simp
  omega
theorem p_eq_nat (a b : Nat) : prim .eq [.int (a : Nat), .int (b : Nat)] = some (.bl (decide (a = b))) := by
  rw [p_eq_int]
  congr 2
  exact decide_eq_decide.mpr (by omega)
end K78
end
section
set_option Elab.async false
set_option linter.all false
set_option maxRecDepth 100000
set_option maxHeartbeats 4000000
set_option exponentiation.threshold 5000
/-! ways to choose -/
namespace K78
open PySem MP
def chT (a : Int) (told : Int) (k : Nat) : Int := told * (a - (k : Nat)) / ((k : Nat) + 1)
def chooseI (a : Int) (n : Nat) : Int := (List.range n).foldl (chT a) 1
theorem log_le {n e : Nat} (h : n ≤ 2 ^ e) : n.log2 ≤ e := by
  by_cases h0 : n = 0
  · subst h0; simp
  · have : n.log2 < e + 1 := (Nat.log2_lt h0).mpr (Nat.lt_of_le_of_lt h (Nat.pow_lt_pow_right (by omega) (by omega)))
    omega
theorem div_abs (x z : Int) (hz : 0 < z) : (x / z).natAbs ≤ x.natAbs := by
  obtain ⟨n, rfl⟩ : ∃ n : Nat, z = n := ⟨z.toNat, by omega⟩
  cases x with
  | ofNat m => 
    show ((m : Int) / (n : Int)).natAbs ≤ m
    rw [← Int.natCast_ediv, Int.natAbs_natCast]
    exact Nat.div_le_self _ _
  | negSucc m =>
    have h1 : (Int.negSucc m) / (n : Int) = -((m / n : Nat) + 1 : Int) := by
      rw [Int.negSucc_ediv _ hz]
      rfl
    rw [h1]
    have := Nat.div_le_self m n
    have e : ∀ q : Nat, (-((q : Nat) + 1 : Int)).natAbs = q + 1 := fun q => by omega
    rw [e]
    show m / n + 1 ≤ m + 1
    omega
theorem chT_abs {a told : Int} {k e b : Nat} (hb : 10 ≤ b) (ha : a.natAbs ≤ 2 ^ b) (hk : k ≤ 1000) (h : told.natAbs ≤ 2 ^ e) : (told * (a - (k : Nat))).natAbs ≤ 2 ^ (e + (b + 1)) ∧ (chT a told k).natAbs ≤ 2 ^ (e + (b + 1)) ∧ (a - (k : Nat)).natAbs ≤ 2 ^ (b + 1) := by
  have h1 : (a - (k : Nat)).natAbs ≤ 2 ^ (b + 1) := by
    have : (a - (k : Nat)).natAbs ≤ a.natAbs + k := by omega
    have : (2 : Nat) ^ (b + 1) = 2 ^ b + 2 ^ b := by rw [Nat.pow_succ, Nat.mul_two]
    have : 1000 ≤ 2 ^ b := Nat.le_trans (by decide : 1000 ≤ 2 ^ 10) (Nat.pow_le_pow_right (by omega) (by omega))
    omega
  have h2 : (told * (a - (k : Nat))).natAbs ≤ 2 ^ (e + (b + 1)) := by
    rw [Int.natAbs_mul, Nat.pow_add]
    exact Nat.mul_le_mul h h1
  exact ⟨h2, Nat.le_trans (div_abs _ _ (by omega)) h2, h1⟩
def eCh (a : Int) (n : Nat) (t : Sto) (told : Int) (s3 : MP.Slot) : S := { loc := [.val (.int a), .val (.int (n : Nat)), .val (.int told), s3], sto := t }
abbrev chB : PB := (.cons (.set (.nm 2) (.prim .fdiv (.cons (.prim .mul (.cons (.var 2) (.cons (.prim .sub (.cons (.var 0) (.cons (.var 3) .nil))) .nil))) (.cons (.prim .add (.cons (.var 3) (.cons (.con (.int 1)) .nil))) .nil)))) .nil)
theorem turn_ch (cf : CF) {a told : Int} {n k e b : Nat} (t : Sto) (s3 : MP.Slot) (hb : 10 ≤ b) (ha : a.natAbs ≤ 2 ^ b) (hk : k ≤ 1000) (h : told.natAbs ≤ 2 ^ e) (he : e + b ≤ 800000) :
    (ofOpt (MP.assign (.nm 3) (.int (k : Nat)) (eCh a n t told s3)) fun s => evalSs cf 100000 chB s) = .ok .nx (eCh a n t (chT a told k) (.val (.int (k : Nat)))) := by
  obtain ⟨h1, h2, h3⟩ := chT_abs hb ha hk h
  refine turn_at (s1 := eCh a n t told (.val (.int (k : Nat)))) rfl ?_
  refine b_cons (s_to (d := .int (chT a told k)) ?_ rfl) b_nil
  have m : prim .mul [.int told, .int (a - (k : Nat))] = some (.int (told * (a - (k : Nat)))) := by
    show p_mul [.int told, .int (a - (k : Nat))] = _
    unfold p_mul
    have := log_le h
    have := log_le h3
    have ok : mulOk told (a - (k : Nat)) = true := by unfold mulOk; simp; omega
    simp only [ok, if_true]
  have d : prim .fdiv [.int (told * (a - (k : Nat))), .int ((k : Nat) + 1)] = some (.int (chT a told k)) := by
    show p_fdiv [.int (told * (a - (k : Nat))), .int ((k : Nat) + 1)] = _
    unfold p_fdiv
    have l : ((k : Nat) + 1 : Int).natAbs.log2 ≤ 10 := log_le (by omega)
    have ok : divOk ((k : Nat) + 1 : Int) = true := by unfold divOk; simp; omega
    simp only [ok, if_true]
    rfl
  exact ev_p2 (o_prim (ev_p2 (o_var rfl) (o_prim (ev_p2 (o_var rfl) (o_var rfl) rfl)) m)) (o_prim (ev_p2 (o_var rfl) o_con rfl)) d
theorem sp_ch (m : Nat) {f : Nat} (hF : FF[f]? = some ⟨2, 4, (.cons (.set (.nm 2) (.con (.int 1))) (.cons (.forr (.nm 3) (.rng1 (.var 1)) chB) (.cons (.ret (.var 2)) .nil)))⟩) {a : Int} {n b : Nat} (t : Sto) (hb : 10 ≤ b) (ha : a.natAbs ≤ 2 ^ b) (hn : n ≤ 100) (he : (b + 1) * n ≤ 400000) (hb2 : b ≤ 300000) :
    callF FF 100000 (m + 1) f [.int a, .int (n : Nat)] t = .ok (.int (chooseI a n)) t := by
  refine fn_at hF rfl ?_
  have key := forLoop_cnt (f := fun d s2 => ofOpt (MP.assign (.nm 3) d s2) fun s => evalSs (callF FF 100000 m) 100000 chB s) (fun k : Nat => D.int (k : Nat)) (fun k told s => told.natAbs ≤ 2 ^ ((b + 1) * k) ∧ ∃ s3, s = eCh a n t told s3) (chT a) n (List.range n) 0 1
    (eCh a n t 1 .unb) (by simp) (fun y hy k told s hk ⟨i1, s3, i2⟩ => by
      have hy := List.mem_range.mp hy
      refine ⟨_, by rw [i2]; exact turn_ch _ t s3 hb ha (by omega) i1 (by have := Nat.mul_le_mul_left (b + 1) (Nat.le_of_lt hk); omega), ?_, _, rfl⟩
      have := (chT_abs hb ha (k := y) (by omega) i1).2.1
      rw [show (b + 1) * k + (b + 1) = (b + 1) * (k + 1) from (Nat.mul_succ _ _).symm] at this
      exact this) ⟨by rw [Nat.mul_zero]; decide, .unb, rfl⟩
  obtain ⟨s', e1, _, s3, e2⟩ := key
  refine run_ret (s' := s') ?_ (by rw [e2]; rfl)
  refine b_cons (s1 := eCh a n t 1 .unb) (s_to v_con rfl) ?_
  refine b_cons (s_for (i_rng (n := n) (v_var rfl) (by omega)) e1) ?_
  refine b_last (s_retv ?_)
  rw [e2]
  exact v_var rfl
theorem sp_choose (m : Nat) {a : Int} {n b : Nat} (t : Sto) (hb : 10 ≤ b) (ha : a.natAbs ≤ 2 ^ b) (hn : n ≤ 100) (he : (b + 1) * n ≤ 400000) (hb2 : b ≤ 300000) : callF FF 100000 (m + 1) 4 [.int a, .int (n : Nat)] t = .ok (.int (chooseI a n)) t := sp_ch m (by rfl) t hb ha hn he hb2
theorem sp_law_choose (m : Nat) {a : Int} {n b : Nat} (t : Sto) (hb : 10 ≤ b) (ha : a.natAbs ≤ 2 ^ b) (hn : n ≤ 100) (he : (b + 1) * n ≤ 400000) (hb2 : b ≤ 300000) : callF FF 100000 (m + 1) 17 [.int a, .int (n : Nat)] t = .ok (.int (chooseI a n)) t := sp_ch m (by rfl) t hb ha hn he hb2
end K78
end
section
set_option Elab.async false
set_option linter.all false
set_option maxRecDepth 100000
set_option maxHeartbeats 4000000
/-! how many there are, in plain numbers -/
namespace K78
open PySem MP
mutual
/-- sets of links of a weight w, none heavier than m, by the numbers of concepts by size -/
def lkI (R : Int) (f : Nat → Int) : Nat → Nat → Int
  | 0, w => if w = 0 then 1 else 0
  | m + 1, w => if w = 0 then 1 else ((List.range (w / (m + 1) + 1)).map fun c => if c = 0 then lkI R f m w else chooseI (R * f m) c * lkI R f m (w - c * (m + 1))).sum
end
theorem lkI_congr {R : Int} {f g : Nat → Int} : ∀ {m : Nat}, (∀ i, i < m → f i = g i) → ∀ w, lkI R f m w = lkI R g m w
  | 0, _, w => by simp only [lkI]
  | m + 1, h, w => by
    have ih := lkI_congr (R := R) (m := m) fun i hi => h i (by omega)
    have hm := h m (by omega)
    simp only [lkI, hm]
    have : (fun c => if c = 0 then lkI R f m w else chooseI (R * g m) c * lkI R f m (w - c * (m + 1))) = fun c => if c = 0 then lkI R g m w else chooseI (R * g m) c * lkI R g m (w - c * (m + 1)) := by
      funext c
      rw [ih, ih]
    rw [this]
def size1 (N : Nat) (R : Int) (f : Nat → Int) (n : Nat) : Int := ((List.range (min n N + 1)).map fun k => chooseI N k * lkI R f (n - k) (n - k)).sum
def szL (N : Nat) (R : Int) : Nat → List Int
  | 0 => []
  | n + 1 => szL N R n ++ [size1 N R (fun i => (szL N R n).getD i 0) n]
def sz (N : Nat) (R : Int) (s : Nat) : Int := (szL N R (s + 1)).getD s 0
def lk (N : Nat) (R : Int) (m w : Nat) : Int := lkI R (sz N R) m w
theorem szL_len (N : Nat) (R : Int) : ∀ n, (szL N R n).length = n
  | 0 => rfl
  | n + 1 => by rw [szL, List.length_append, szL_len N R n]; rfl
theorem szL_at (N : Nat) (R : Int) {i : Nat} : ∀ {n : Nat}, i < n → (szL N R n).getD i 0 = sz N R i
  | 0, h => by omega
  | n + 1, h => by
    by_cases e : i = n
    · rw [e]; rfl
    · have hi : i < n := by omega
      rw [← szL_at N R hi, szL, List.getD, List.getD, List.getElem?_append_left (by rw [szL_len]; exact hi)]
theorem size1_congr {N : Nat} {R : Int} {f g : Nat → Int} {n : Nat} (h : ∀ i, i < n → f i = g i) : size1 N R f n = size1 N R g n := by
  unfold size1
  have : (fun k => chooseI N k * lkI R f (n - k) (n - k)) = fun k => chooseI N k * lkI R g (n - k) (n - k) := by
    funext k
    rw [lkI_congr fun i hi => h i (by omega)]
  rw [this]
theorem sz_eq (N : Nat) (R : Int) (s : Nat) : sz N R s = ((List.range (min s N + 1)).map fun k => chooseI N k * lk N R (s - k) (s - k)).sum := by
  have e : sz N R s = size1 N R (fun i => (szL N R s).getD i 0) s := by
    unfold sz
    rw [szL, List.getD, List.getElem?_append_right (by rw [szL_len]; exact Nat.le_refl _), szL_len, Nat.sub_self]
    rfl
  rw [e, size1_congr fun i hi => szL_at N R hi]
  rfl
theorem lk_zero (N : Nat) (R : Int) (m : Nat) : lk N R m 0 = 1 := by cases m <;> simp [lk, lkI]
theorem lk_no (N : Nat) (R : Int) {w : Nat} (h : 0 < w) : lk N R 0 w = 0 := by
  simp only [lk, lkI]
  rw [if_neg (by omega)]
/-- the summands -/
def wl (N : Nat) (R : Int) (m w c : Nat) : Int := if c = 0 then lk N R m w else chooseI (R * sz N R m) c * lk N R m (w - c * (m + 1))
theorem lk_succ (N : Nat) (R : Int) (m : Nat) {w : Nat} (h : 0 < w) : lk N R (m + 1) w = ((List.range (w / (m + 1) + 1)).map (wl N R m w)).sum := by
  unfold lk
  rw [lkI, if_neg (by omega)]
  rfl
/-! the tables, reckoned fast -/
def rowN (W : Nat) (R z : Int) (m : Nat) (row : List Int) : List Int := (List.range W).map fun w => if w = 0 then 1 else ((List.range (w / (m + 1) + 1)).map fun c => if c = 0 then row.getD w 0 else chooseI (R * z) c * row.getD (w - c * (m + 1)) 0).sum
/-- behind m steps: the row for m, the numbers by size below m, the numbers of sets of links of weight j for j up to m -/
def fast (W N : Nat) (R : Int) : Nat → List Int × List Int × List Int
  | 0 => ((List.range W).map fun w => if w = 0 then 1 else 0, [], [1])
  | m + 1 =>
    let s := fast W N R m
    let z := ((List.range (min m N + 1)).map fun k => chooseI N k * s.2.2.getD (m - k) 0).sum
    let row := rowN W R z m s.1
    (row, s.2.1 ++ [z], s.2.2 ++ [row.getD (m + 1) 0])
theorem getD_map {α : Type} (g : Nat → α) (d : α) {n i : Nat} (h : i < n) : ((List.range n).map g).getD i d = g i := by
  rw [List.getD, List.getElem?_map, List.getElem?_range h]
  rfl
theorem getD_left {α : Type} {l r : List α} {d : α} {i : Nat} (h : i < l.length) : (l ++ r).getD i d = l.getD i d := by
  rw [List.getD, List.getD, List.getElem?_append_left h]
theorem getD_last {α : Type} {l : List α} {x d : α} {i : Nat} (h : i = l.length) : (l ++ [x]).getD i d = x := by
  rw [List.getD, h, List.getElem?_append_right (Nat.le_refl _), Nat.sub_self]
  rfl
theorem map_congr_mem {α β : Type} {f g : α → β} {l : List α} (h : ∀ x ∈ l, f x = g x) : l.map f = l.map g := List.map_congr_left h
theorem fast_ok (W N : Nat) (R : Int) : ∀ m, m < W → (fast W N R m).1 = (List.range W).map (lk N R m) ∧ (fast W N R m).2.1 = (List.range m).map (sz N R) ∧ (fast W N R m).2.2 = (List.range (m + 1)).map fun j => lk N R j j
  | 0, _ => by
    refine ⟨?_, rfl, ?_⟩
    · show ((List.range W).map fun w => if w = 0 then (1 : Int) else 0) = _
      refine map_congr_mem fun w _ => ?_
      simp only [lk, lkI]
    · show [(1 : Int)] = [lk N R 0 0]
      rw [lk_zero]
  | m + 1, h => by
    obtain ⟨h1, h2, h3⟩ := fast_ok W N R m (by omega)
    have hz : ((List.range (min m N + 1)).map fun k => chooseI N k * (fast W N R m).2.2.getD (m - k) 0).sum = sz N R m := by
      rw [sz_eq]
      congr 1
      refine map_congr_mem fun k hk => ?_
      rw [h3, getD_map _ _ (by omega)]
    have hr : rowN W R (sz N R m) m (fast W N R m).1 = (List.range W).map (lk N R (m + 1)) := by
      unfold rowN
      refine map_congr_mem fun w hw => ?_
      have hw := List.mem_range.mp hw
      by_cases h0 : w = 0
      · rw [if_pos h0, h0, lk_zero]
      · rw [if_neg h0, lk_succ N R m (by omega)]
        congr 1
        refine map_congr_mem fun c hc => ?_
        unfold wl
        by_cases c0 : c = 0
        · rw [if_pos c0, if_pos c0, h1, getD_map _ _ hw]
        · rw [if_neg c0, if_neg c0, h1, getD_map _ _ (by omega)]
    have e : fast W N R (m + 1) = (rowN W R (sz N R m) m (fast W N R m).1, (fast W N R m).2.1 ++ [sz N R m], (fast W N R m).2.2 ++ [(rowN W R (sz N R m) m (fast W N R m).1).getD (m + 1) 0]) := by
      rw [← hz]
      rfl
    rw [e]
    refine ⟨hr, ?_, ?_⟩
    · show (fast W N R m).2.1 ++ [sz N R m] = _
      rw [h2, List.range_succ, List.map_append]
      rfl
    · show (fast W N R m).2.2 ++ [(rowN W R (sz N R m) m (fast W N R m).1).getD (m + 1) 0] = _
      rw [hr, getD_map _ _ (by omega), h3, List.range_succ (n := m + 1), List.map_append]
      rfl
/-! ### all numbers that are met are small -/
theorem fold_abs {a : Int} {b : Nat} (hb : 10 ≤ b) (ha : a.natAbs ≤ 2 ^ b) : ∀ (l : List Nat) (told : Int) (e : Nat), (∀ k ∈ l, k ≤ 1000) → told.natAbs ≤ 2 ^ e → (l.foldl (chT a) told).natAbs ≤ 2 ^ (e + (b + 1) * l.length)
  | [], told, e, _, h => h
  | k :: l, told, e, hk, h => by
    have h1 := (chT_abs hb ha (hk k List.mem_cons_self) h).2.1
    have h2 := fold_abs hb ha l (chT a told k) (e + (b + 1)) (fun j hj => hk j (List.mem_cons_of_mem _ hj)) h1
    rw [List.length_cons, Nat.mul_succ, Nat.add_comm ((b + 1) * l.length), ← Nat.add_assoc]
    exact h2
theorem choose_abs {a : Int} {n b : Nat} (hb : 10 ≤ b) (ha : a.natAbs ≤ 2 ^ b) (hn : n ≤ 100) : (chooseI a n).natAbs ≤ 2 ^ ((b + 1) * n) := by
  have := fold_abs hb ha (List.range n) 1 0 (fun k hk => by have := List.mem_range.mp hk; omega) (by decide)
  rwa [List.length_range, Nat.zero_add] at this
theorem sum_abs {α : Type} {g : α → Int} {b : Nat} : ∀ {l : List α}, (∀ x ∈ l, (g x).natAbs ≤ b) → ((l.map g).sum).natAbs ≤ l.length * b
  | [], _ => by simp
  | x :: l, h => by
    have h1 := h x List.mem_cons_self
    have h2 := sum_abs (l := l) fun y hy => h y (List.mem_cons_of_mem _ hy)
    rw [List.map_cons, List.sum_cons, List.length_cons, Nat.succ_mul]
    have := Int.natAbs_add_le (g x) (l.map g).sum
    omega
theorem sum_pow {α : Type} {g : α → Int} {e : Nat} {l : List α} (hl : l.length ≤ 64) (h : ∀ x ∈ l, (g x).natAbs ≤ 2 ^ e) : ((l.map g).sum).natAbs ≤ 2 ^ (e + 6) := by
  refine Nat.le_trans (sum_abs h) ?_
  rw [Nat.pow_add, Nat.mul_comm]
  exact Nat.mul_le_mul_left _ hl
theorem pow_up {x a b : Nat} (h : x ≤ 2 ^ a) (k : a ≤ b) : x ≤ 2 ^ b := Nat.le_trans h (Nat.pow_le_pow_right (by omega) k)
theorem mul_pow {x y : Int} {a b : Nat} (hx : x.natAbs ≤ 2 ^ a) (hy : y.natAbs ≤ 2 ^ b) : (x * y).natAbs ≤ 2 ^ (a + b) := by
  rw [Int.natAbs_mul, Nat.pow_add]
  exact Nat.mul_le_mul hx hy
section
variable {N : Nat} {R : Int} (hN : N ≤ 24) (hR : R.natAbs ≤ 24)
include hR
theorem lk_abs : ∀ (m : Nat), (∀ i, i < m → (sz N R i).natAbs ≤ 2 ^ (20 * ((i + 1) * (i + 2)))) → ∀ w, w ≤ 40 → (lk N R m w).natAbs ≤ 2 ^ (20 * (w * (m + 2)))
  | 0, _, w, _ => by
    by_cases h : w = 0
    · rw [h, lk_zero]; exact Nat.one_le_two_pow
    · rw [lk_no N R (by omega)]; exact Nat.zero_le _
  | m + 1, hs, w, hw => by
    by_cases h : w = 0
    · rw [h, lk_zero]; exact Nat.one_le_two_pow
    · have ih := lk_abs m fun i hi => hs i (by omega)
      rw [lk_succ N R m (by omega)]
      have hA : w * (m + 3) = w * (m + 2) + w := Nat.mul_succ _ _
      refine pow_up (sum_pow (e := 20 * (w * (m + 2)) + 6 * w) (by rw [List.length_range]; have := Nat.div_le_self w (m + 1); omega) fun c hc => ?_) (by show _ ≤ 20 * (w * (m + 3)); omega)
      have hc := List.mem_range.mp hc
      have hcw : c * (m + 1) ≤ w := (Nat.le_div_iff_mul_le (by omega)).mp (by omega)
      unfold wl
      by_cases c0 : c = 0
      · rw [if_pos c0]
        exact pow_up (ih w hw) (by omega)
      · rw [if_neg c0]
        have hcl : c ≤ w := Nat.le_trans (Nat.le_mul_of_pos_right c (by omega)) hcw
        have h1 : (R * sz N R m).natAbs ≤ 2 ^ (5 + 20 * ((m + 1) * (m + 2))) := mul_pow (Nat.le_trans hR (by decide)) (hs m (by omega))
        have h2 := choose_abs (n := c) (by have : 1 ≤ (m + 1) * (m + 2) := Nat.mul_pos (by omega) (by omega); omega) h1 (by omega)
        refine pow_up (mul_pow h2 (ih (w - c * (m + 1)) (by omega))) ?_
        have e1 : (m + 1) * (m + 2) * c = c * (m + 1) * (m + 2) := by rw [Nat.mul_comm, ← Nat.mul_assoc]
        have e2 : (w - c * (m + 1)) * (m + 2) = w * (m + 2) - c * (m + 1) * (m + 2) := Nat.sub_mul _ _ _
        have e3 : c * (m + 1) * (m + 2) ≤ w * (m + 2) := Nat.mul_le_mul_right _ hcw
        have e4 : (5 + 20 * ((m + 1) * (m + 2)) + 1) * c = 6 * c + 20 * ((m + 1) * (m + 2) * c) := by
          rw [show 5 + 20 * ((m + 1) * (m + 2)) + 1 = 6 + 20 * ((m + 1) * (m + 2)) by omega, Nat.add_mul, Nat.mul_assoc 20]
        rw [e4, e1, e2]
        omega
include hN
theorem sz_abs : ∀ (s : Nat), s ≤ 40 → (sz N R s).natAbs ≤ 2 ^ (20 * ((s + 1) * (s + 2))) := by
  intro s
  induction s using Nat.strongRecOn with
  | _ s ih =>
  intro h
  rw [sz_eq]
  have hA : (s + 1) * (s + 2) = s * (s + 2) + (s + 2) := Nat.succ_mul _ _
  refine pow_up (sum_pow (e := 20 * (s * (s + 2))) (by rw [List.length_range]; omega) fun k hk => ?_) (by omega)
  have hk := List.mem_range.mp hk
  have h1 := choose_abs (a := (N : Int)) (n := k) (b := 10) (Nat.le_refl _) (by rw [Int.natAbs_natCast]; exact Nat.le_trans hN (by decide)) (by omega)
  have h2 := lk_abs hR (N := N) (s - k) (fun i hi => ih i (by omega) (by omega)) (s - k) (by omega)
  refine pow_up (mul_pow h1 h2) ?_
  obtain ⟨j, rfl⟩ : ∃ j, s = j + k := ⟨s - k, by omega⟩
  rw [Nat.add_sub_cancel]
  have e1 : j * (j + 2) + k * 2 ≤ (j + k) * (j + k + 2) := by
    rw [Nat.add_mul j k]
    have := Nat.mul_le_mul_left j (show j + 2 ≤ j + k + 2 by omega)
    have := Nat.mul_le_mul_left k (show 2 ≤ j + k + 2 by omega)
    omega
  omega
end
/-- what is met, in short -/
structure Bd (N : Nat) (R : Int) : Prop where
  r : R.natAbs ≤ 24
  n : N ≤ 24
  s : ∀ s, s ≤ 40 → (sz N R s).natAbs ≤ 2 ^ (20 * ((s + 1) * (s + 2)))
  l : ∀ m w, m ≤ 40 → w ≤ 40 → (lk N R m w).natAbs ≤ 2 ^ 33600
theorem bd_all {N : Nat} {R : Int} (hN : N ≤ 24) (hR : R.natAbs ≤ 24) : Bd N R := by
  refine ⟨hR, hN, sz_abs hN hR, fun m w hm hw => pow_up (lk_abs hR (N := N) m (fun i hi => sz_abs hN hR i (by omega)) w hw) ?_⟩
  have := Nat.mul_le_mul hw (show m + 2 ≤ 42 by omega)
  omega
end K78
end
section
set_option Elab.async false
set_option linter.all false
set_option maxRecDepth 100000
set_option maxHeartbeats 4000000
/-! the counter in the store -/
namespace K78
open PySem MP
def kS (i : Nat) : L2.Key := .inl (i : Int)
def kL (p : Nat × Nat) : List L2.Key := [.inl (p.1 : Int), .inl (p.2 : Int)]
theorem kS_inj {a b : Nat} (h : kS a = kS b) : a = b := by
  unfold kS at h
  have h : (a : Int) = (b : Int) := by injection h
  omega
theorem kL_inj {a b : Nat × Nat} (h : kL a = kL b) : a = b := by
  unfold kL at h
  have h : (a.1 : Int) = (b.1 : Int) ∧ (a.2 : Int) = (b.2 : Int) := by simpa using h
  exact Prod.ext (by omega) (by omega)
def flds : List Str := ["names", "roles", "by_size", "by_links"]
/-- what stands before the counter, its words -/
structure Cn where
  pre : Sto
  nm : List D
  rl : List D
abbrev Cn.n (q : Cn) : Nat := q.pre.length
abbrev Cn.sz (q : Cn) (s : Nat) : Int := K78.sz q.nm.length (q.rl.length : Nat) s
abbrev Cn.lk (q : Cn) (m w : Nat) : Int := K78.lk q.nm.length (q.rl.length : Nat) m w
def cells (q : Cn) (si : List Nat) (li : List (Nat × Nat)) : Sto :=
  [.ins 0 flds [.tup q.nm, .tup q.rl, .ref (q.n + 1), .ref (q.n + 2)], .dK (si.map kS) (si.map fun i => .int (q.sz i)), .dT (li.map kL) (li.map fun p => .int (q.lk p.2 p.1))]
def Mo (q : Cn) (si : List Nat) (li : List (Nat × Nat)) (post : Sto) : Sto := q.pre ++ (cells q si li ++ post)
theorem Mo_len (q : Cn) (si : List Nat) (li : List (Nat × Nat)) (post : Sto) : (Mo q si li post).length = q.n + (3 + post.length) := by
  unfold Mo
  rw [List.length_append, List.length_append]
  rfl
theorem at_app {α : Type} (l r : List α) (i : Nat) : (l ++ r)[l.length + i]? = r[i]? := by
  rw [List.getElem?_append_right (Nat.le_add_right _ _), Nat.add_sub_cancel_left]
theorem set_app {α : Type} (x : α) (i : Nat) : ∀ (l r : List α), (l ++ r).set (l.length + i) x = l ++ r.set i x
  | [], r => by simp
  | y :: l, r => by
    rw [List.cons_append, List.length_cons, show l.length + 1 + i = l.length + i + 1 by omega, List.set_cons_succ, set_app x i l r]
    rfl
section
variable {q : Cn} {si : List Nat} {li : List (Nat × Nat)} {post : Sto}
theorem Mo_0 : (Mo q si li post)[q.n]? = some (.ins 0 flds [.tup q.nm, .tup q.rl, .ref (q.n + 1), .ref (q.n + 2)]) := at_app q.pre _ 0
theorem Mo_1 : (Mo q si li post)[q.n + 1]? = some (.dK (si.map kS) (si.map fun i => .int (q.sz i))) := at_app q.pre _ 1
theorem Mo_2 : (Mo q si li post)[q.n + 2]? = some (.dT (li.map kL) (li.map fun p => .int (q.lk p.2 p.1))) := at_app q.pre _ 2
theorem Mo_key {c : Cell} : (Mo q si li (post ++ [c]))[q.n + (3 + post.length)]? = some c := by
  show (q.pre ++ (cells q si li ++ (post ++ [c])))[_]? = _
  rw [at_app, show 3 + post.length = (cells q si li).length + post.length from rfl, at_app]
  exact at_app post [c] 0
theorem Mo_app {c : Cell} : Mo q si li post ++ [c] = Mo q si li (post ++ [c]) := by
  unfold Mo
  simp only [List.append_assoc]
theorem Mo_set1 {si' : List Nat} : (Mo q si li post).set (q.n + 1) (.dK (si'.map kS) (si'.map fun i => .int (q.sz i))) = Mo q si' li post := set_app _ 1 q.pre _
theorem Mo_set2 {li' : List (Nat × Nat)} : (Mo q si li post).set (q.n + 2) (.dT (li'.map kL) (li'.map fun p => .int (q.lk p.2 p.1))) = Mo q si li' post := set_app _ 2 q.pre _
end
/-! ### nothing leads to what a call made -/
def Fl (c : Cell) : Prop := ∀ n, c.under n = true
structure CnOk (q : Cn) : Prop where
  pre : ∀ c ∈ q.pre, Fl c
  nm : ∀ n, underL n q.nm = true
  rl : ∀ n, underL n q.rl = true
  nl : q.nm.length ≤ 24
  rll : q.rl.length ≤ 24
theorem under_ints {α : Type} (n : Nat) (g : α → Int) : ∀ l : List α, underL n (l.map fun x => .int (g x)) = true
  | [] => rfl
  | x :: l => by
    rw [List.map_cons, underL, under_ints n g l]
    rfl
theorem Mo_under {q : Cn} (h : CnOk q) {si : List Nat} {li : List (Nat × Nat)} {post : Sto} (hp : ∀ c ∈ post, Fl c) : (Mo q si li post).all (Cell.under (Mo q si li post).length) = true := by
  rw [Mo_len, List.all_eq_true]
  intro c hc
  unfold Mo at hc
  rcases List.mem_append.mp hc with hc | hc
  · exact h.pre c hc _
  · rcases List.mem_append.mp hc with hc | hc
    · unfold cells at hc
      simp only [List.mem_cons, List.not_mem_nil, or_false] at hc
      rcases hc with rfl | rfl | rfl
      · show underL _ [.tup q.nm, .tup q.rl, .ref (q.n + 1), .ref (q.n + 2)] = true
        simp only [underL, D.under, h.nm, h.rl, Bool.true_and, Bool.and_true, Bool.and_eq_true, decide_eq_true_eq]
        omega
      · exact under_ints _ _ _
      · exact under_ints _ _ _
    · exact hp c hc _
theorem callO_trim {cf : CF} {f : Nat} {ds : List D} {s : S} {v : Int} {t e : Sto} (h : cf f ds s.sto = .ok (.int v) (t ++ e)) (hl : t.length = s.sto.length) (hu : t.all (Cell.under t.length) = true) : callO cf f ds s = .ok (.int v) { s with sto := t } := by
  unfold callO
  rw [h]
  show Out.ok (D.int v) { s with sto := trim s.sto.length (.int v) (t ++ e) } = _
  congr 2
  by_cases he : e = []
  · rw [he, List.append_nil]
    exact trim_le (by omega)
  · have : 0 < e.length := by cases e with
      | nil => exact absurd rfl he
      | cons _ _ => simp
    unfold trim
    rw [← hl, List.take_left, if_pos ⟨rfl, by rw [List.length_append]; omega, hu⟩]
/-! ### what is kept -/
theorem valD_map {κ α : Type} [DecidableEq κ] [DecidableEq α] {key : α → κ} (inj : ∀ {a b}, key a = key b → a = b) (v : α → D) (a : α) : ∀ l : List α, valD (l.map key) (l.map v) (key a) = if a ∈ l then some (v a) else none
  | [] => rfl
  | x :: l => by
    rw [List.map_cons, List.map_cons, valD]
    by_cases h : x = a
    · rw [if_pos (by rw [h]), h, if_pos List.mem_cons_self]
    · rw [if_neg (fun z => h (inj z)), valD_map inj v a l]
      by_cases h2 : a ∈ l
      · rw [if_pos h2, if_pos (List.mem_cons_of_mem _ h2)]
      · rw [if_neg h2, if_neg (fun z => (List.mem_cons.mp z).elim (fun y => h y.symm) h2)]
def insA {α : Type} [DecidableEq α] (a : α) (l : List α) : List α := if a ∈ l then l else l ++ [a]
theorem setV_map {κ α : Type} [DecidableEq κ] {key : α → κ} (inj : ∀ {a b}, key a = key b → a = b) (v : α → D) (a : α) : ∀ l : List α, setV (l.map key) (l.map v) (key a) (v a) = l.map v
  | [] => rfl
  | x :: l => by
    rw [List.map_cons, List.map_cons, setV]
    by_cases h : key x = key a
    · rw [if_pos h, setV_map inj v a l, inj h]
    · rw [if_neg h, setV_map inj v a l]
theorem putC_map {κ α : Type} [DecidableEq κ] [DecidableEq α] {key : α → κ} (inj : ∀ {a b}, key a = key b → a = b) (v : α → D) (a : α) (l : List α) : putC (l.map key) (l.map v) (key a) (v a) = ((insA a l).map key, (insA a l).map v) := by
  have e : ((l.map key).any fun y => decide (y = key a)) = decide (a ∈ l) := by
    rw [List.any_map]
    induction l with
    | nil => rfl
    | cons x l ih =>
      rw [List.any_cons, ih]
      by_cases h : x = a
      · simp [h]
      · have h2 : ¬ key x = key a := fun z => h (inj z)
        have h3 : ¬ a = x := fun z => h z.symm
        simp [h, h2, h3]
  unfold putC insA
  rw [e]
  by_cases h : a ∈ l
  · rw [if_pos (decide_eq_true h), if_pos h, setV_map inj]
  · rw [if_neg (by simpa using h), if_neg h, List.map_append, List.map_append]
    rfl
theorem nodup_len {α : Type} [BEq α] [LawfulBEq α] : ∀ {l r : List α}, l.Nodup → (∀ x ∈ l, x ∈ r) → l.length ≤ r.length
  | [], _, _, _ => Nat.zero_le _
  | x :: l, r, h, k => by
    rw [List.nodup_cons] at h
    have hx := k x List.mem_cons_self
    have := nodup_len (r := r.erase x) h.2 fun y hy => (List.mem_erase_of_ne (fun (z : y = x) => h.1 (z ▸ hy))).mpr (k y (List.mem_cons_of_mem _ hy))
    rw [List.length_erase_of_mem hx] at this
    have : 0 < r.length := List.length_pos_of_mem hx
    rw [List.length_cons]
    omega
theorem insA_mem {α : Type} [DecidableEq α] {a x : α} {l : List α} : x ∈ insA a l ↔ x = a ∨ x ∈ l := by
  unfold insA
  by_cases h : a ∈ l
  · rw [if_pos h]
    exact ⟨.inr, fun z => z.elim (fun y => by rw [y]; exact h) id⟩
  · rw [if_neg h, List.mem_append, List.mem_singleton]
    exact Or.comm
theorem insA_nd {α : Type} [DecidableEq α] {a : α} {l : List α} (h : l.Nodup) : (insA a l).Nodup := by
  unfold insA
  by_cases k : a ∈ l
  · rw [if_pos k]; exact h
  · rw [if_neg k, List.nodup_append]
    exact ⟨h, by simp, fun x hx y hy z => k (by simp at hy; rw [← hy, ← z]; exact hx)⟩
structure Ok (si : List Nat) (li : List (Nat × Nat)) : Prop where
  nd : si.Nodup
  ndl : li.Nodup
  bs : ∀ i ∈ si, i ≤ 40
  bl : ∀ p ∈ li, p.1 ≤ 40 ∧ p.2 ≤ 40
  cl : ∀ p ∈ li, ∀ k, k < min p.1 p.2 → k ∈ si
theorem Ok.ls {si : List Nat} {li : List (Nat × Nat)} (h : Ok si li) : si.length ≤ 41 := by
  have := nodup_len (r := List.range 41) h.nd fun x hx => List.mem_range.mpr (by have := h.bs x hx; omega)
  simpa using this
theorem Ok.ll {si : List Nat} {li : List (Nat × Nat)} (h : Ok si li) : li.length ≤ 1681 := by
  have := nodup_len (r := (List.range 41).flatMap fun a => (List.range 41).map fun b => (a, b)) h.ndl fun x hx => by
    obtain ⟨h1, h2⟩ := h.bl x hx
    exact List.mem_flatMap.mpr ⟨x.1, List.mem_range.mpr (by omega), List.mem_map.mpr ⟨x.2, List.mem_range.mpr (by omega), rfl⟩⟩
  exact Nat.le_trans this (by decide +kernel)
theorem Ok.putS {si : List Nat} {li : List (Nat × Nat)} (h : Ok si li) {i : Nat} (hi : i ≤ 40) : Ok (insA i si) li :=
  ⟨insA_nd h.nd, h.ndl, fun x hx => (insA_mem.mp hx).elim (fun z => by omega) (h.bs x), h.bl, fun p hp k hk => insA_mem.mpr (.inr (h.cl p hp k hk))⟩
theorem Ok.putL {si : List Nat} {li : List (Nat × Nat)} (h : Ok si li) {w m : Nat} (hw : w ≤ 40) (hm : m ≤ 40) (k : ∀ i, i < min w m → i ∈ si) : Ok si (insA (w, m) li) :=
  ⟨h.nd, insA_nd h.ndl, h.bs, fun p hp => (insA_mem.mp hp).elim (fun z => by rw [z]; exact ⟨hw, hm⟩) (h.bl p), fun p hp i hi => (insA_mem.mp hp).elim (fun z => k i (by rw [z] at hi; exact hi)) fun z => h.cl p z i hi⟩
theorem ok_nil : Ok [] [] := ⟨List.nodup_nil, List.nodup_nil, fun x hx => absurd hx (by simp), fun p hp => absurd hp (by simp), fun p hp => absurd hp (by simp)⟩
end K78
end
section
set_option Elab.async false
set_option linter.all false
set_option maxRecDepth 100000
set_option maxHeartbeats 4000000
set_option exponentiation.threshold 5000
/-! the methods of the counter -/
namespace K78
open PySem MP
theorem p_mul_ok {x y : Int} {e f : Nat} (hx : x.natAbs ≤ 2 ^ e) (hy : y.natAbs ≤ 2 ^ f) (h : e + f < 1000000) : prim .mul [.int x, .int y] = some (.int (x * y)) := by
  show p_mul [.int x, .int y] = _
  unfold p_mul
  have := log_le hx
  have := log_le hy
  have ok : mulOk x y = true := by unfold mulOk; simp; omega
  simp only [ok, if_true]
theorem ev_p2s {cf : CF} {p : Prim} {a b : PE} {s s1 s2 : S} {x y d : D} (h : ev1 cf a s = .ok x s1) (h2 : ev1 cf b s1 = .ok y s2) (e : prim p [deref s2.sto x, deref s2.sto y] = some d) : evalE cf (.prim p (.cons a (.cons b .nil))) s = .ok d s2 := by
  rw [ev_prim, evO_cons, h]
  simp only [bind_ok]
  rw [evO_cons, h2]
  simp only [bind_ok, evO_nil, List.map_cons, List.map_nil, e, toOut_some]
theorem o_mcal {cf : CF} {c f : Nat} {m : Str} {o : PE} {es : PL} {s s' : S} {d : D} (h : evalE cf (.mcal c f m o es) s = .ok d s') : ev1 cf (.mcal c f m o es) s = .ok d s' := by rw [op_mcal, h]
theorem o_call' {cf : CF} {f : Nat} {es : PL} {s s' : S} {d : D} (h : evalE cf (.call f es) s = .ok d s') : ev1 cf (.call f es) s = .ok d s' := by rw [op_call, h]
theorem o_fld {cf : CF} {c : Nat} {o : PE} {x : Str} {s s' : S} {d : D} (h : evalE cf (.fld c o x) s = .ok d s') : ev1 cf (.fld c o x) s = .ok d s' := by rw [op_fld, h]
theorem turn_elt {cf : CF} {elt : PE} {t : Tgt} {d e : D} {s s3 s5 : S} (as : MP.assign t d s = some s3) (h : evalE cf elt s3 = .ok e s5) : turnF cf elt t .nil d s = .ok [e] s5 := by
  unfold turnF
  rw [as, ofOpt_some, evC_nil]
  simp only [bind_ok, if_true]
  rw [h]
  rfl
theorem s_toc {cf : CF} {wf : Nat} {t : Tgt} {e : PE} {s s1 s' : S} {d : D} (h : evalE cf e s = .ok d s1) (as : MP.assign t d s1 = some s') : evalS cf wf (.set t e) s = .ok .nx s' := by
  rw [st_set, h]
  simp only [bind_ok, as, ofOpt_some]
theorem s_retc {cf : CF} {wf : Nat} {e : PE} {s s' : S} {d : D} (h : evalE cf e s = .ok d s') : evalS cf wf (.ret e) s = .ok (.ret d) s' := by
  rw [MP.st_ret, h]; rfl
section
variable {q : Cn} {si : List Nat} {li : List (Nat × Nat)} {post : Sto} {cf : CF} {s : S}
theorem f_names (h0 : s.loc[0]? = some (.val (.ref q.n))) (hs : s.sto = Mo q si li post) : evalE cf (.fld 0 (.var 0) "names") s = .ok (.tup q.nm) s := fld_ok (v_var h0) (by rw [hs]; exact Mo_0) rfl
theorem f_roles (h0 : s.loc[0]? = some (.val (.ref q.n))) (hs : s.sto = Mo q si li post) : evalE cf (.fld 0 (.var 0) "roles") s = .ok (.tup q.rl) s := fld_ok (v_var h0) (by rw [hs]; exact Mo_0) rfl
theorem f_size (h0 : s.loc[0]? = some (.val (.ref q.n))) (hs : s.sto = Mo q si li post) : evalE cf (.fld 0 (.var 0) "by_size") s = .ok (.ref (q.n + 1)) s := fld_ok (v_var h0) (by rw [hs]; exact Mo_0) rfl
theorem f_links (h0 : s.loc[0]? = some (.val (.ref q.n))) (hs : s.sto = Mo q si li post) : evalE cf (.fld 0 (.var 0) "by_links") s = .ok (.ref (q.n + 2)) s := fld_ok (v_var h0) (by rw [hs]; exact Mo_0) rfl
theorem m_self {f : Nat} {m : Str} {es : PL} {ds : List D} {s2 : S} (h0 : s.loc[0]? = some (.val (.ref q.n))) (hs : s.sto = Mo q si li post) (hm : m ∉ flds) (l : evalL cf es s = .ok ds s2) : evalE cf (.mcal 0 f m (.var 0) es) s = callO cf f (.ref q.n :: ds) s2 :=
  mcal_ok (v_var h0) (by rw [hs]; exact Mo_0) hm l
theorem get_size {t : Sto} (k : Nat) : cellGet t (.dK (si.map kS) (si.map fun i => .int (q.sz i))) (.int (k : Nat)) = some (if k ∈ si then some (.int (q.sz k)) else none) := by
  show some (valD (si.map kS) (si.map fun i => .int (q.sz i)) (kS k)) = _
  rw [valD_map kS_inj]
theorem get_links {t : Sto} {j w m : Nat} (h : t[j]? = some (.tup [.int (w : Nat), .int (m : Nat)])) : cellGet t (.dT (li.map kL) (li.map fun p => .int (q.lk p.2 p.1))) (.ref j) = some (if (w, m) ∈ li then some (.int (q.lk m w)) else none) := by
  unfold MP.cellGet
  simp only [h]
  show some (valD (li.map kL) (li.map fun p => .int (q.lk p.2 p.1)) (kL (w, m))) = _
  rw [valD_map kL_inj]
  by_cases h2 : (w, m) ∈ li
  · rw [if_pos h2, if_pos h2]
  · rw [if_neg h2, if_neg h2]
theorem put_size {t : Sto} (k : Nat) (h : si.length ≤ 41) : cellPut t (.dK (si.map kS) (si.map fun i => .int (q.sz i))) (.int (k : Nat)) (.int (q.sz k)) = some (.dK ((insA k si).map kS) ((insA k si).map fun i => .int (q.sz i))) := by
  show (if (si.map kS).length < 1000000 then some (Cell.dK (putC (si.map kS) (si.map fun i => D.int (q.sz i)) (kS k) (.int (q.sz k))).1 (putC (si.map kS) (si.map fun i => D.int (q.sz i)) (kS k) (.int (q.sz k))).2) else none) = _
  rw [if_pos (by rw [List.length_map]; omega), putC_map kS_inj (fun i => D.int (q.sz i))]
theorem put_links {t : Sto} {j w m : Nat} (h : t[j]? = some (.tup [.int (w : Nat), .int (m : Nat)])) (hl : li.length ≤ 1681) : cellPut t (.dT (li.map kL) (li.map fun p => .int (q.lk p.2 p.1))) (.ref j) (.int (q.lk m w)) = some (.dT ((insA (w, m) li).map kL) ((insA (w, m) li).map fun p => .int (q.lk p.2 p.1))) := by
  unfold MP.cellPut
  simp only [h]
  show (if (li.map kL).length < 1000000 then some (Cell.dT (putC (li.map kL) (li.map fun p => D.int (q.lk p.2 p.1)) (kL (w, m)) (.int (q.lk m w))).1 (putC (li.map kL) (li.map fun p => D.int (q.lk p.2 p.1)) (kL (w, m)) (.int (q.lk m w))).2) else none) = _
  rw [if_pos (by rw [List.length_map]; omega), putC_map kL_inj (fun p => D.int (q.lk p.2 p.1)) (w, m)]
end
theorem new_size {q : Cn} {si : List Nat} {li : List (Nat × Nat)} {post : Sto} {cf : CF} {s : S} {k : Nat} (h0 : s.loc[0]? = some (.val (.ref q.n))) (h1 : s.loc[1]? = some (.val (.int (k : Nat)))) (hs : s.sto = Mo q si li post) :
    evalE cf (.din true (.var 1) (.fld 0 (.var 0) "by_size")) s = .ok (.bl (!decide (k ∈ si))) s := by
  rw [din_ok (r := if k ∈ si then some (.int (q.sz k)) else none) (v_var h1) (f_size h0 hs) (by rw [hs]; exact Mo_1) (get_size k)]
  by_cases h : k ∈ si
  · rw [if_pos h, decide_eq_true h]; rfl
  · rw [if_neg h, decide_eq_false h]; rfl
theorem new_links {q : Cn} {si : List Nat} {li : List (Nat × Nat)} {post : Sto} {cf : CF} {s : S} {j w m : Nat} (h0 : s.loc[0]? = some (.val (.ref q.n))) (h1 : s.loc[3]? = some (.val (.ref j))) (hs : s.sto = Mo q si li post) (hj : s.sto[j]? = some (.tup [.int (w : Nat), .int (m : Nat)])) :
    evalE cf (.din true (.var 3) (.fld 0 (.var 0) "by_links")) s = .ok (.bl (!decide ((w, m) ∈ li))) s := by
  rw [din_ok (r := if (w, m) ∈ li then some (.int (q.lk m w)) else none) (v_var h1) (f_links h0 hs) (by rw [hs]; exact Mo_2) (get_links hj)]
  by_cases h : (w, m) ∈ li
  · rw [if_pos h, decide_eq_true h]; rfl
  · rw [if_neg h, decide_eq_false h]; rfl
/-- of_links(w, m) runs and keeps the tables right -/
def Links (q : Cn) (h w m : Nat) (si : List Nat) (li : List (Nat × Nat)) : Prop := ∀ post : Sto, (∀ c ∈ post, Fl c) → ∃ si' li' e, Ok si' li' ∧ (∀ i ∈ si, i ∈ si') ∧ (∀ k, k < min w m → k ∈ si') ∧
  callF FF 100000 h 9 [.ref q.n, .int (w : Nat), .int (m : Nat)] (Mo q si li post) = .ok (.int (q.lk m w)) (Mo q si' li' post ++ e)
def Size (q : Cn) (h k : Nat) (si : List Nat) (li : List (Nat × Nat)) : Prop := ∀ post : Sto, (∀ c ∈ post, Fl c) → ∃ si' li' e, Ok si' li' ∧ (∀ i ∈ si, i ∈ si') ∧ k ∈ si' ∧
  callF FF 100000 h 6 [.ref q.n, .int (k : Nat)] (Mo q si li post) = .ok (.int (q.sz k)) (Mo q si' li' post ++ e)
theorem callO_at {q : Cn} (hq : CnOk q) {cf : CF} {f : Nat} {ds : List D} {s : S} {v : Int} {si si' : List Nat} {li li' : List (Nat × Nat)} {post e : Sto} (hp : ∀ c ∈ post, Fl c) (hs : s.sto = Mo q si li post) (h : cf f ds (Mo q si li post) = .ok (.int v) (Mo q si' li' post ++ e)) :
    callO cf f ds s = .ok (.int v) { s with sto := Mo q si' li' post } :=
  callO_trim (by rw [hs]; exact h) (by rw [hs, Mo_len, Mo_len]) (Mo_under hq hp)
theorem Links.call {q : Cn} (hq : CnOk q) {h w m : Nat} {si : List Nat} {li : List (Nat × Nat)} (L : Links q h w m si li) {post : Sto} (hp : ∀ c ∈ post, Fl c) {s : S} (hs : s.sto = Mo q si li post) :
    ∃ si' li', Ok si' li' ∧ (∀ i ∈ si, i ∈ si') ∧ (∀ k, k < min w m → k ∈ si') ∧ callO (callF FF 100000 h) 9 [.ref q.n, .int (w : Nat), .int (m : Nat)] s = .ok (.int (q.lk m w)) { s with sto := Mo q si' li' post } := by
  obtain ⟨si', li', e, o, k1, k2, k3⟩ := L post hp
  exact ⟨si', li', o, k1, k2, callO_at hq hp hs k3⟩
theorem Size.call {q : Cn} (hq : CnOk q) {h k : Nat} {si : List Nat} {li : List (Nat × Nat)} (L : Size q h k si li) {post : Sto} (hp : ∀ c ∈ post, Fl c) {s : S} (hs : s.sto = Mo q si li post) :
    ∃ si' li', Ok si' li' ∧ (∀ i ∈ si, i ∈ si') ∧ k ∈ si' ∧ callO (callF FF 100000 h) 6 [.ref q.n, .int (k : Nat)] s = .ok (.int (q.sz k)) { s with sto := Mo q si' li' post } := by
  obtain ⟨si', li', e, o, k1, k2, k3⟩ := L post hp
  exact ⟨si', li', o, k1, k2, callO_at hq hp hs k3⟩
/-- of_size: reckoned before -/
def eS (q : Cn) (k : Nat) (s2 s3 : MP.Slot) (t : Sto) : S := { loc := [.val (.ref q.n), .val (.int (k : Nat)), s2, s3], sto := t }
theorem size_ret {q : Cn} {k : Nat} {si : List Nat} {li : List (Nat × Nat)} {post : Sto} (cf : CF) (h : k ∈ si) (s2 s3 : MP.Slot) : evalSs cf 100000 (.cons (.ret (.dget (.fld 0 (.var 0) "by_size") (.var 1))) .nil) (eS q k s2 s3 (Mo q si li post)) = .ok (.ret (.int (q.sz k))) (eS q k s2 s3 (Mo q si li post)) :=
  b_last (s_retc (dget_ok (f_size rfl rfl) (v_var rfl) Mo_1 (by rw [get_size, if_pos h])))
theorem size_hit {q : Cn} {h k : Nat} {si : List Nat} {li : List (Nat × Nat)} (o : Ok si li) (hk : k ∈ si) : Size q (h + 1) k si li := fun post hp => by
  refine ⟨si, li, [], o, fun _ h => h, hk, ?_⟩
  rw [List.append_nil]
  refine fn_at (by rfl) rfl ?_
  refine run_ret (s' := eS q k .unb .unb (Mo q si li post)) ?_ rfl
  refine b_cons (s1 := eS q k .unb .unb (Mo q si li post)) (st_skip ?_) (size_ret _ hk _ _)
  have z := new_size (cf := callF FF 100000 h) (s := eS q k .unb .unb (Mo q si li post)) (k := k) rfl rfl rfl
  rw [decide_eq_true hk] at z
  exact z
end K78
end
section
set_option Elab.async false
set_option linter.all false
set_option maxRecDepth 100000
set_option maxHeartbeats 4000000
set_option exponentiation.threshold 5000
/-! of_size -/
namespace K78
open PySem MP
/-- a comprehension that writes, item by item in order -/
theorem comp_run2 {β : Type} {cf : CF} {elt : PE} {t : Tgt} {it : Iter} {cs : PL} {vs : List Nat} {s s1 : S} {ys : List β} {h : β → D} (K : List β → List D → Sto → Prop) (hI : evalI cf it s = .ok (ys.map h) s1) (h0 : K [] [] s1.sto)
    (hf : ∀ p y r a t', p ++ y :: r = ys → K p a t' → ∃ es loc' t'', turnF cf elt t cs (h y) { loc := MP.wipe s1.loc vs, sto := t' } = .ok es { loc := loc', sto := t'' } ∧ MP.wipe loc' vs = MP.wipe s1.loc vs ∧ K (p ++ [y]) (a ++ es) t'') (hl : ∀ a t', K ys a t' → a.length ≤ 1000000) :
    ∃ a t', evalE cf (.comp elt t it cs vs) s = .ok (.lst a) { loc := unwipe s1.loc s1.loc vs, sto := t' } ∧ K ys a t' := by
  rw [evalE_comp, hI]
  simp only [bind_ok]
  have key : ∀ (r p : List β) (a : List D) (s' : S), p ++ r = ys → K p a s'.sto → MP.wipe s'.loc vs = MP.wipe s1.loc vs → ∃ es s'', compLoop vs (turnF cf elt t cs) (r.map h) s' = .ok es s'' ∧ K ys (a ++ es) s''.sto ∧ MP.wipe s''.loc vs = MP.wipe s1.loc vs := by
    intro r
    induction r with
    | nil => exact fun p a s' e k w => ⟨[], s', rfl, by rw [List.append_nil] at e ⊢; rw [← e]; exact k, w⟩
    | cons y r ih =>
      intro p a s' e k w
      obtain ⟨es, loc', t'', e1, e2, e3⟩ := hf p y r a s'.sto e k
      have ess : ({ s' with loc := MP.wipe s'.loc vs } : S) = { loc := MP.wipe s1.loc vs, sto := s'.sto } := by rw [w]
      obtain ⟨fs, s'', e4, e5, e6⟩ := ih (p ++ [y]) (a ++ es) { loc := loc', sto := t'' } (by rw [← e]; simp) e3 e2
      refine ⟨es ++ fs, s'', ?_, by rw [← List.append_assoc]; exact e5, e6⟩
      rw [List.map_cons, compLoop, ess, e1]
      simp only [bind_ok]
      rw [e4]
      rfl
  obtain ⟨es, s'', e1, e2, e3⟩ := key ys [] [] s1 rfl h0 rfl
  rw [List.nil_append] at e2
  refine ⟨es, s''.sto, ?_, e2⟩
  rw [e1]
  simp only [calm_ok, bind_ok]
  rw [if_pos (hl _ _ e2), unwipe_same e3]
theorem range_item {n y : Nat} {p r : List Nat} (h : p ++ y :: r = List.range n) : y = p.length ∧ y < n := by
  have e : (List.range n)[p.length]? = some y := by
    rw [← h, List.getElem?_append_right (Nat.le_refl _), Nat.sub_self]
    rfl
  have l := (List.getElem?_eq_some_iff.mp e).1
  rw [List.length_range] at l
  rw [List.getElem?_range l] at e
  cases e
  exact ⟨rfl, l⟩
theorem p_sub_nat {a b : Nat} (h : b ≤ a) : prim .sub [.int (a : Nat), .int (b : Nat)] = some (.int ((a - b : Nat) : Int)) := by
  show some (D.int ((a : Int) - (b : Int))) = _
  rw [Int.ofNat_sub h]
theorem p_add_nat (a b : Nat) : prim .add [.int (a : Nat), .int (b : Nat)] = some (.int ((a + b : Nat) : Int)) := rfl
theorem p_min_nat (a b : Nat) : prim .min2 [.int (a : Nat), .int (b : Nat)] = some (.int ((min a b : Nat) : Int)) := by
  show some (D.int (if (b : Int) < (a : Int) then (b : Int) else (a : Int))) = _
  congr 2
  split <;> omega
theorem p_sum_map {α : Type} (g : α → Int) (l : List α) : prim .sum [.lst (l.map fun x => .int (g x))] = some (.int (l.map g).sum) := by
  show (intsOf (l.map fun x => .int (g x))).map (fun ns => D.int ns.sum) = _
  have : (l.map fun x => D.int (g x)) = (l.map g).map .int := by rw [List.map_map]; rfl
  rw [this, intsOf_map']
  rfl
theorem nat_abs {n e : Nat} (h : n ≤ 2 ^ e) : (n : Int).natAbs ≤ 2 ^ e := by rw [Int.natAbs_natCast]; exact h
theorem small_nat {n : Nat} (h : n ≤ 1000) : (n : Int).natAbs ≤ 2 ^ 10 := nat_abs (Nat.le_trans h (by decide))
section
variable {q : Cn} (hq : CnOk q) (bd : Bd q.nm.length (q.rl.length : Nat))
include hq bd
/-- with_names(s, k) -/
theorem names_at {h s k : Nat} {si : List Nat} {li : List (Nat × Nat)} (hk : k ≤ s) (hs : s ≤ 40) (hn : k ≤ q.nm.length) (L : Links q (h + 1) (s - k) (s - k) si li) {post : Sto} (hp : ∀ c ∈ post, Fl c) {st : S} (hst : st.sto = Mo q si li post) :
    ∃ si' li', Ok si' li' ∧ (∀ i ∈ si, i ∈ si') ∧ callO (callF FF 100000 (h + 2)) 7 [.ref q.n, .int (s : Nat), .int (k : Nat)] st = .ok (.int (chooseI q.nm.length k * q.lk (s - k) (s - k))) { st with sto := Mo q si' li' post } := by
  have hN := hq.nl
  obtain ⟨si', li', o, k1, k2, k3⟩ := L.call hq hp (s := { loc := [.val (.ref q.n), .val (.int (s : Nat)), .val (.int (k : Nat))], sto := Mo q si li post }) rfl
  refine ⟨si', li', o, k1, callO_at hq (e := []) hp hst ?_⟩
  rw [List.append_nil]
  refine fn_at (by rfl) rfl ?_
  refine run_ret (s' := { loc := [.val (.ref q.n), .val (.int (s : Nat)), .val (.int (k : Nat))], sto := Mo q si' li' post }) ?_ rfl
  refine b_last (s_retc ?_)
  have c1 : evalE (callF FF 100000 (h + 1)) (.call 4 (.cons (.prim .len (.cons (.fld 0 (.var 0) "names") .nil)) (.cons (.var 2) .nil))) { loc := [.val (.ref q.n), .val (.int (s : Nat)), .val (.int (k : Nat))], sto := Mo q si li post } = .ok (.int (chooseI q.nm.length k)) { loc := [.val (.ref q.n), .val (.int (s : Nat)), .val (.int (k : Nat))], sto := Mo q si li post } :=
    v_call (v_l2 (ev_p1 (o_fld (f_names rfl rfl)) (p_len_tup _)) (v_var rfl)) (sp_choose h _ (Nat.le_refl 10) (small_nat (by omega)) (by omega) (by omega) (by omega))
  have c2 : evalE (callF FF 100000 (h + 1)) (.mcal 0 9 "of_links" (.var 0) (.cons (.prim .sub (.cons (.var 1) (.cons (.var 2) .nil))) (.cons (.prim .sub (.cons (.var 1) (.cons (.var 2) .nil))) .nil))) { loc := [.val (.ref q.n), .val (.int (s : Nat)), .val (.int (k : Nat))], sto := Mo q si li post } = .ok (.int (q.lk (s - k) (s - k))) { loc := [.val (.ref q.n), .val (.int (s : Nat)), .val (.int (k : Nat))], sto := Mo q si' li' post } :=
    (m_self rfl rfl (by decide +kernel) (v_l2 (ev_p2 (o_var rfl) (o_var rfl) (p_sub_nat hk)) (ev_p2 (o_var rfl) (o_var rfl) (p_sub_nat hk)))).trans k3
  exact ev_p2s (o_call' c1) (o_mcal c2) (p_mul_ok (choose_abs (Nat.le_refl 10) (small_nat (by omega)) (by omega)) (bd.l _ _ (by omega) (by omega)) (by omega))
/-- of_size(s) -/
theorem size_at {h s : Nat} {si : List Nat} {li : List (Nat × Nat)} (hs : s ≤ 40) (o : Ok si li) (L : ∀ k, k ≤ s → k ≤ q.nm.length → ∀ si' li', Ok si' li' → (∀ i ∈ si, i ∈ si') → Links q (h + 1) (s - k) (s - k) si' li') : Size q (h + 3) s si li := by
  by_cases hm : s ∈ si
  · exact size_hit o hm
  intro post hp
  have hN := hq.nl
  let g : Nat → Int := fun k => chooseI q.nm.length k * q.lk (s - k) (s - k)
  have C := comp_run2 (cf := callF FF 100000 (h + 2)) (elt := (.mcal 0 7 "with_names" (.var 0) (.cons (.var 1) (.cons (.var 3) .nil)))) (t := .nm 3) (it := (.rng1 (.prim .add (.cons (.prim .min2 (.cons (.var 1) (.cons (.prim .len (.cons (.fld 0 (.var 0) "names") .nil)) .nil))) (.cons (.con (.int 1)) .nil))))) (cs := .nil) (vs := [3]) (s := eS q s .unb .unb (Mo q si li post)) (s1 := eS q s .unb .unb (Mo q si li post)) (ys := List.range (min s q.nm.length + 1)) (h := fun k : Nat => D.int (k : Nat))
    (fun p a t' => ∃ si' li', t' = Mo q si' li' post ∧ Ok si' li' ∧ (∀ i ∈ si, i ∈ si') ∧ a = p.map fun k => D.int (g k))
    (i_rng (n := min s q.nm.length + 1) (ev_p2 (o_prim (ev_p2 (o_var rfl) (o_prim (ev_p1 (o_fld (f_names rfl rfl)) (p_len_tup _))) (p_min_nat _ _))) o_con (p_add_nat _ 1)) (by omega)) ⟨si, li, rfl, o, fun _ h => h, rfl⟩
    (fun p y r a t' hy ⟨si', li', e1, o', k1, e2⟩ => by
      obtain ⟨_, yl⟩ := range_item hy
      obtain ⟨s2, l2, o2, k2, k3⟩ := names_at hq bd (h := h) (s := s) (k := y) (by omega) hs (by omega) (L y (by omega) (by omega) si' li' o' k1) hp (st := eS q s .unb (.val (.int (y : Nat))) (Mo q si' li' post)) rfl
      refine ⟨[.int (g y)], _, _, turn_elt (s3 := eS q s .unb (.val (.int (y : Nat))) (Mo q si' li' post)) (by rw [e1]; rfl) ((m_self rfl rfl (by decide +kernel) (v_l2 (v_var rfl) (v_var rfl))).trans k3), rfl, s2, l2, rfl, o2, fun i hi => k2 i (k1 i hi), ?_⟩
      rw [e2, List.map_append]
      rfl) (fun a t' ⟨_, _, _, _, _, e⟩ => by rw [e, List.length_map, List.length_range]; omega)
  obtain ⟨a, t', e1, si', li', rfl, o', k1, rfl⟩ := C
  refine ⟨insA s si', li', [], o'.putS hs, fun i hi => insA_mem.mpr (.inr (k1 i hi)), insA_mem.mpr (.inl rfl), ?_⟩
  rw [List.append_nil]
  refine fn_at (by rfl) rfl ?_
  have z := new_size (cf := callF FF 100000 (h + 2)) (s := eS q s .unb .unb (Mo q si li post)) (k := s) rfl rfl rfl
  rw [decide_eq_false hm] at z
  refine run_ret (s' := eS q s (.val (.lst ((List.range (min s q.nm.length + 1)).map fun k => .int (g k)))) .unb (Mo q (insA s si') li' post)) ?_ rfl
  refine b_cons (s1 := eS q s (.val (.lst ((List.range (min s q.nm.length + 1)).map fun k => .int (g k)))) .unb (Mo q (insA s si') li' post)) ?_ (size_ret _ (insA_mem.mpr (.inl rfl)) _ _)
  refine (s_ifT z).trans ?_
  refine b_cons (s_toc e1 (s' := eS q s (.val (.lst ((List.range (min s q.nm.length + 1)).map fun k => .int (g k)))) .unb (Mo q si' li' post)) rfl) ?_
  refine b_cons ?_ b_nil
  have sm : evalE (callF FF 100000 (h + 2)) (.prim .sum (.cons (.var 2) .nil)) (eS q s (.val (.lst ((List.range (min s q.nm.length + 1)).map fun k => .int (g k)))) .unb (Mo q si' li' post)) = .ok (.int (q.sz s)) (eS q s (.val (.lst ((List.range (min s q.nm.length + 1)).map fun k => .int (g k)))) .unb (Mo q si' li' post)) := by
    refine ev_p1 (o_var rfl) ?_
    show prim .sum [.lst ((List.range (min s q.nm.length + 1)).map fun k => .int (g k))] = _
    rw [p_sum_map]
    show _ = some (D.int (K78.sz _ _ s))
    rw [sz_eq]
  have dp := dput_ok (wf := 100000) sm (f_size (q := q) (si := si') (li := li') (post := post) rfl rfl) (v_var (i := 1) rfl) Mo_1 (put_size s o'.ls)
  rw [dp]
  show Out.ok Fl.nx _ = _
  congr 1
  show S.mk _ ((Mo q si' li' post).set (q.n + 1) _) = _
  rw [Mo_set1]
  rfl
end
end K78
end
section
set_option Elab.async false
set_option linter.all false
set_option maxRecDepth 100000
set_option maxHeartbeats 4000000
set_option exponentiation.threshold 5000
/-! of_links -/
namespace K78
open PySem MP
theorem m_small {m : Nat} (h : m ≤ 40) : (m + 1) * (m + 2) ≤ 1722 := Nat.mul_le_mul (show m + 1 ≤ 41 by omega) (show m + 2 ≤ 42 by omega)
theorem e_small {m c w : Nat} (hm : m + 1 ≤ 40) (hw : w ≤ 40) (hcw : c * (m + 1) ≤ w) : (5 + 20 * ((m + 1) * (m + 2)) + 1) * c ≤ 40000 := by
  have hcl : c ≤ w := Nat.le_trans (Nat.le_mul_of_pos_right c (by omega)) hcw
  have e1 : (m + 1) * (m + 2) * c = c * (m + 1) * (m + 2) := by rw [Nat.mul_comm, ← Nat.mul_assoc]
  have e3 : c * (m + 1) * (m + 2) ≤ 40 * 41 := Nat.mul_le_mul (by omega) (by omega)
  have e4 : (5 + 20 * ((m + 1) * (m + 2)) + 1) * c = 6 * c + 20 * ((m + 1) * (m + 2) * c) := by
    rw [show 5 + 20 * ((m + 1) * (m + 2)) + 1 = 6 + 20 * ((m + 1) * (m + 2)) by omega, Nat.add_mul, Nat.mul_assoc 20]
  rw [e4, e1]
  omega
theorem p_mul_nat {a b : Nat} (ha : a ≤ 1000) (hb : b ≤ 1000) : prim .mul [.int (a : Nat), .int (b : Nat)] = some (.int ((a * b : Nat) : Int)) := by
  have h10 : ∀ {n : Nat}, n ≤ 1000 → (n : Int).natAbs ≤ 2 ^ 10 := fun {n} h => nat_abs (Nat.le_trans h (by decide))
  rw [p_mul_ok (h10 ha) (h10 hb) (by decide)]
  rw [Int.natCast_mul]
section
variable {q : Cn} (hq : CnOk q) (bd : Bd q.nm.length (q.rl.length : Nat))
include hq bd
/-- links_of(m + 1) -/
theorem linksof_at {h m : Nat} {si : List Nat} {li : List (Nat × Nat)} (hm : m ≤ 40) (Z : Size q h m si li) {post : Sto} (hp : ∀ c ∈ post, Fl c) {st : S} (hst : st.sto = Mo q si li post) :
    ∃ si' li', Ok si' li' ∧ (∀ i ∈ si, i ∈ si') ∧ m ∈ si' ∧ callO (callF FF 100000 (h + 1)) 8 [.ref q.n, .int ((m + 1 : Nat) : Int)] st = .ok (.int ((q.rl.length : Nat) * q.sz m)) { st with sto := Mo q si' li' post } := by
  have hR := hq.rll
  obtain ⟨si', li', o, k1, k2, k3⟩ := Z.call hq hp (s := { loc := [.val (.ref q.n), .val (.int ((m + 1 : Nat) : Int))], sto := Mo q si li post }) rfl
  refine ⟨si', li', o, k1, k2, callO_at hq (e := []) hp hst ?_⟩
  rw [List.append_nil]
  refine fn_at (by rfl) rfl ?_
  refine run_ret (s' := { loc := [.val (.ref q.n), .val (.int ((m + 1 : Nat) : Int))], sto := Mo q si' li' post }) ?_ rfl
  refine b_last (s_retc ?_)
  have c2 : evalE (callF FF 100000 h) (.mcal 0 6 "of_size" (.var 0) (.cons (.prim .sub (.cons (.var 1) (.cons (.con (.int 1)) .nil))) .nil)) { loc := [.val (.ref q.n), .val (.int ((m + 1 : Nat) : Int))], sto := Mo q si li post } = .ok (.int (q.sz m)) { loc := [.val (.ref q.n), .val (.int ((m + 1 : Nat) : Int))], sto := Mo q si' li' post } :=
    (m_self rfl rfl (by decide +kernel) (v_l1 (ev_p2 (o_var rfl) o_con (p_sub_nat (a := m + 1) (b := 1) (by omega))))).trans k3
  exact ev_p2s (o_prim (ev_p1 (o_fld (f_roles rfl rfl)) (p_len_tup _))) (o_mcal c2) (p_mul_ok (small_nat (by omega)) (bd.s _ hm) (by have := m_small hm; omega))
/-- with_links(w, m + 1, 0) -/
theorem turn_0 {h w m : Nat} {si : List Nat} {li : List (Nat × Nat)} (L : Links q h w m si li) {post : Sto} (hp : ∀ c ∈ post, Fl c) {st : S} (hst : st.sto = Mo q si li post) :
    ∃ si' li', Ok si' li' ∧ (∀ i ∈ si, i ∈ si') ∧ (∀ k, k < min w m → k ∈ si') ∧ callO (callF FF 100000 (h + 1)) 10 [.ref q.n, .int (w : Nat), .int ((m + 1 : Nat) : Int), .int ((0 : Nat) : Int)] st = .ok (.int (q.lk m w)) { st with sto := Mo q si' li' post } := by
  obtain ⟨si', li', o, k1, k2, k3⟩ := L.call hq hp (s := { loc := [.val (.ref q.n), .val (.int (w : Nat)), .val (.int ((m + 1 : Nat) : Int)), .val (.int ((0 : Nat) : Int))], sto := Mo q si li post }) rfl
  refine ⟨si', li', o, k1, k2, callO_at hq (e := []) hp hst ?_⟩
  rw [List.append_nil]
  refine fn_at (by rfl) rfl ?_
  refine run_ret (s' := { loc := [.val (.ref q.n), .val (.int (w : Nat)), .val (.int ((m + 1 : Nat) : Int)), .val (.int ((0 : Nat) : Int))], sto := Mo q si' li' post }) ?_ rfl
  refine b_last ((s_ifT (ev_p2 (o_var rfl) o_con (p_eq_nat 0 0))).trans (b_last (s_retc ?_)))
  exact (m_self rfl rfl (by decide +kernel) (v_l2 (v_var rfl) (ev_p2 (o_var rfl) o_con (p_sub_nat (a := m + 1) (b := 1) (by omega))))).trans k3
/-- with_links(w, m + 1, c), c > 0 -/
theorem turn_c {h w m c : Nat} {si : List Nat} {li : List (Nat × Nat)} (hw : w ≤ 40) (hm : m + 1 ≤ 40) (hc : 0 < c) (hcw : c * (m + 1) ≤ w) (Z : Size q h m si li) (L : ∀ si' li', Ok si' li' → (∀ i ∈ si, i ∈ si') → Links q (h + 1) (w - c * (m + 1)) m si' li') {post : Sto} (hp : ∀ c ∈ post, Fl c) {st : S} (hst : st.sto = Mo q si li post) :
    ∃ si' li', Ok si' li' ∧ (∀ i ∈ si, i ∈ si') ∧ m ∈ si' ∧ callO (callF FF 100000 (h + 2)) 10 [.ref q.n, .int (w : Nat), .int ((m + 1 : Nat) : Int), .int (c : Nat)] st = .ok (.int (wl q.nm.length (q.rl.length : Nat) m w c)) { st with sto := Mo q si' li' post } := by
  have hR := hq.rll
  have hc40 : c ≤ 40 := Nat.le_trans (Nat.le_mul_of_pos_right c (by omega)) (Nat.le_trans hcw hw)
  obtain ⟨s1, l1, o1, k1, k2, k3⟩ := linksof_at hq bd (h := h) (m := m) (by omega) Z hp (st := { loc := [.val (.ref q.n), .val (.int (w : Nat)), .val (.int ((m + 1 : Nat) : Int)), .val (.int (c : Nat))], sto := Mo q si li post }) rfl
  obtain ⟨s2, l2, o2, j1, j2, j3⟩ := (L s1 l1 o1 k1).call hq hp (s := { loc := [.val (.ref q.n), .val (.int (w : Nat)), .val (.int ((m + 1 : Nat) : Int)), .val (.int (c : Nat))], sto := Mo q s1 l1 post }) rfl
  refine ⟨s2, l2, o2, fun i hi => j1 i (k1 i hi), j1 m k2, callO_at hq (e := []) hp hst ?_⟩
  rw [List.append_nil]
  refine fn_at (by rfl) rfl ?_
  refine run_ret (s' := { loc := [.val (.ref q.n), .val (.int (w : Nat)), .val (.int ((m + 1 : Nat) : Int)), .val (.int (c : Nat))], sto := Mo q s2 l2 post }) ?_ rfl
  have z : evalE (callF FF 100000 (h + 1)) (.prim .eq (.cons (.var 3) (.cons (.con (.int 0)) .nil))) { loc := [.val (.ref q.n), .val (.int (w : Nat)), .val (.int ((m + 1 : Nat) : Int)), .val (.int (c : Nat))], sto := Mo q si li post } = .ok (.bl false) { loc := [.val (.ref q.n), .val (.int (w : Nat)), .val (.int ((m + 1 : Nat) : Int)), .val (.int (c : Nat))], sto := Mo q si li post } := by
    have := ev_p2 (cf := callF FF 100000 (h + 1)) (s := { loc := [.val (.ref q.n), .val (.int (w : Nat)), .val (.int ((m + 1 : Nat) : Int)), .val (.int (c : Nat))], sto := Mo q si li post }) (o_var (i := 3) rfl) (o_con (d := .int ((0 : Nat) : Int))) (p_eq_nat c 0)
    rw [decide_eq_false (by omega)] at this
    exact this
  refine b_cons (st_skip z) (b_last (s_retc ?_))
  have ms := m_small (m := m) (by omega)
  have es := e_small hm hw hcw
  have b10 : 10 ≤ 5 + 20 * ((m + 1) * (m + 2)) := by have : 1 ≤ (m + 1) * (m + 2) := Nat.mul_pos (by omega) (by omega); omega
  have za : ((q.rl.length : Nat) * q.sz m : Int).natAbs ≤ 2 ^ (5 + 20 * ((m + 1) * (m + 2))) := mul_pow (Nat.le_trans bd.r (by decide)) (bd.s _ (by omega))
  have c1 : evalE (callF FF 100000 (h + 1)) (.call 4 (.cons (.mcal 0 8 "links_of" (.var 0) (.cons (.var 2) .nil)) (.cons (.var 3) .nil))) { loc := [.val (.ref q.n), .val (.int (w : Nat)), .val (.int ((m + 1 : Nat) : Int)), .val (.int (c : Nat))], sto := Mo q si li post } = .ok (.int (chooseI ((q.rl.length : Nat) * q.sz m) c)) { loc := [.val (.ref q.n), .val (.int (w : Nat)), .val (.int ((m + 1 : Nat) : Int)), .val (.int (c : Nat))], sto := Mo q s1 l1 post } :=
    evalE_call (evalL_cons_ok ((m_self rfl rfl (by decide +kernel) (v_l1 (v_var rfl))).trans k3) (v_l1 (v_var rfl))) (sp_choose h _ b10 za (by omega) (by omega) (by omega))
  have c2 : evalE (callF FF 100000 (h + 1)) (.mcal 0 9 "of_links" (.var 0) (.cons (.prim .sub (.cons (.var 1) (.cons (.prim .mul (.cons (.var 3) (.cons (.var 2) .nil))) .nil))) (.cons (.prim .sub (.cons (.var 2) (.cons (.con (.int 1)) .nil))) .nil))) { loc := [.val (.ref q.n), .val (.int (w : Nat)), .val (.int ((m + 1 : Nat) : Int)), .val (.int (c : Nat))], sto := Mo q s1 l1 post } = .ok (.int (q.lk m (w - c * (m + 1)))) { loc := [.val (.ref q.n), .val (.int (w : Nat)), .val (.int ((m + 1 : Nat) : Int)), .val (.int (c : Nat))], sto := Mo q s2 l2 post } :=
    (m_self rfl rfl (by decide +kernel) (v_l2 (ev_p2 (o_var rfl) (o_prim (ev_p2 (o_var rfl) (o_var rfl) (p_mul_nat (by omega) (by omega)))) (p_sub_nat hcw)) (ev_p2 (o_var rfl) o_con (p_sub_nat (a := m + 1) (b := 1) (by omega))))).trans j3
  have e : wl q.nm.length (q.rl.length : Nat) m w c = chooseI ((q.rl.length : Nat) * q.sz m) c * q.lk m (w - c * (m + 1)) := by
    unfold wl
    rw [if_neg (by omega)]
  rw [e]
  exact ev_p2s (o_call' c1) (o_mcal c2) (p_mul_ok (choose_abs b10 za (by omega)) (bd.l _ _ (by omega) (by omega)) (by omega))
end
end K78
end
section
set_option Elab.async false
set_option linter.all false
set_option maxRecDepth 100000
set_option maxHeartbeats 4000000
set_option exponentiation.threshold 5000
/-! of_links, all in all -/
namespace K78
open PySem MP
def eL (q : Cn) (w m : Nat) (s3 s4 s5 : MP.Slot) (t : Sto) : S := { loc := [.val (.ref q.n), .val (.int (w : Nat)), .val (.int (m : Nat)), s3, s4, s5], sto := t }
theorem z_w {q : Cn} {w m : Nat} {cf : CF} {s3 s4 s5 : MP.Slot} {t : Sto} : evalE cf (.prim .eq (.cons (.var 1) (.cons (.con (.int 0)) .nil))) (eL q w m s3 s4 s5 t) = .ok (.bl (decide (w = 0))) (eL q w m s3 s4 s5 t) :=
  ev_p2 (o_var rfl) (o_con (d := .int ((0 : Nat) : Int))) (p_eq_nat w 0)
theorem z_m {q : Cn} {w m : Nat} {cf : CF} {s3 s4 s5 : MP.Slot} {t : Sto} : evalE cf (.prim .eq (.cons (.var 2) (.cons (.con (.int 0)) .nil))) (eL q w m s3 s4 s5 t) = .ok (.bl (decide (m = 0))) (eL q w m s3 s4 s5 t) :=
  ev_p2 (o_var rfl) (o_con (d := .int ((0 : Nat) : Int))) (p_eq_nat m 0)
theorem links_0 {q : Cn} {h m : Nat} {si : List Nat} {li : List (Nat × Nat)} (o : Ok si li) : Links q (h + 1) 0 m si li := fun post hp => by
  refine ⟨si, li, [], o, fun _ h => h, fun k hk => by omega, ?_⟩
  rw [List.append_nil]
  refine fn_at (by rfl) rfl ?_
  refine run_ret (s' := eL q 0 m .unb .unb .unb (Mo q si li post)) ?_ rfl
  have z := z_w (q := q) (w := 0) (m := m) (cf := callF FF 100000 h) (s3 := .unb) (s4 := .unb) (s5 := .unb) (t := Mo q si li post)
  rw [decide_eq_true rfl] at z
  have e : q.lk m 0 = 1 := lk_zero _ _ _
  rw [e]
  exact b_last ((s_ifT z).trans (b_last (s_retc v_con)))
theorem links_m0 {q : Cn} {h w : Nat} {si : List Nat} {li : List (Nat × Nat)} (hw : 0 < w) (o : Ok si li) : Links q (h + 1) w 0 si li := fun post hp => by
  refine ⟨si, li, [], o, fun _ h => h, fun k hk => by omega, ?_⟩
  rw [List.append_nil]
  refine fn_at (by rfl) rfl ?_
  refine run_ret (s' := eL q w 0 .unb .unb .unb (Mo q si li post)) ?_ rfl
  have z := z_w (q := q) (w := w) (m := 0) (cf := callF FF 100000 h) (s3 := .unb) (s4 := .unb) (s5 := .unb) (t := Mo q si li post)
  rw [decide_eq_false (by omega)] at z
  have y := z_m (q := q) (w := w) (m := 0) (cf := callF FF 100000 h) (s3 := .unb) (s4 := .unb) (s5 := .unb) (t := Mo q si li post)
  rw [decide_eq_true rfl] at y
  have e : q.lk 0 w = 0 := lk_no _ _ hw
  rw [e]
  refine b_cons (s1 := eL q w 0 .unb .unb .unb (Mo q si li post)) (st_skip z) ?_
  exact b_last ((s_ifT y).trans (b_last (s_retc v_con)))
def Turns (q : Cn) (h w m : Nat) (si : List Nat) : Prop := ∀ c, c ≤ w / (m + 1) → ∀ si' li', Ok si' li' → (∀ i ∈ si, i ∈ si') → (0 < c → ∀ k, k < min w m → k ∈ si') → ∀ post : Sto, (∀ c ∈ post, Fl c) → ∀ st : S, st.sto = Mo q si' li' post →
  ∃ s2 l2, Ok s2 l2 ∧ (∀ i ∈ si', i ∈ s2) ∧ (c = 0 → ∀ k, k < min w m → k ∈ s2) ∧ (0 < c → m ∈ s2) ∧ callO (callF FF 100000 h) 10 [.ref q.n, .int (w : Nat), .int ((m + 1 : Nat) : Int), .int (c : Nat)] st = .ok (.int (wl q.nm.length (q.rl.length : Nat) m w c)) { st with sto := Mo q s2 l2 post }
theorem p_div_nat {a b : Nat} (h : 0 < b) (hb : b ≤ 1000) : prim .fdiv [.int (a : Nat), .int (b : Nat)] = some (.int ((a / b : Nat) : Int)) := by
  show p_fdiv [.int (a : Nat), .int (b : Nat)] = _
  unfold p_fdiv
  have l : ((b : Nat) : Int).natAbs.log2 ≤ 10 := log_le (by rw [Int.natAbs_natCast]; omega)
  rw [Int.natAbs_natCast] at l
  have ok : divOk ((b : Nat) : Int) = true := by unfold divOk; simp; omega
  simp only [ok, if_true]
  rw [Int.natCast_ediv]
theorem fl_key (w m : Nat) : Fl (.tup [.int (w : Nat), .int (m : Nat)]) := fun n => rfl
theorem links_new {q : Cn} {h w m : Nat} {si : List Nat} {li : List (Nat × Nat)} (hw0 : 0 < w) (hw : w ≤ 40) (hm : m + 1 ≤ 40) (o : Ok si li) (tu : Turns q h w m si) : Links q (h + 1) w (m + 1) si li := fun post hp => by
  have hp' : ∀ c ∈ post ++ [Cell.tup [D.int (w : Nat), D.int ((m + 1 : Nat) : Int)]], Fl c := fun c hc => (List.mem_append.mp hc).elim (hp c) fun z => by rw [List.mem_singleton.mp z]; exact fl_key w (m + 1)
  generalize hj : (Mo q si li post).length = j
  have hk : ∀ si' li', (Mo q si' li' (post ++ [Cell.tup [D.int (w : Nat), D.int ((m + 1 : Nat) : Int)]]))[j]? = some (.tup [.int (w : Nat), .int ((m + 1 : Nat) : Int)]) := fun si' li' => by
    rw [← hj, Mo_len]
    exact Mo_key
  have z := z_w (q := q) (w := w) (m := m + 1) (cf := callF FF 100000 h) (s3 := .unb) (s4 := .unb) (s5 := .unb) (t := Mo q si li post)
  rw [decide_eq_false (by omega)] at z
  have y := z_m (q := q) (w := w) (m := m + 1) (cf := callF FF 100000 h) (s3 := .unb) (s4 := .unb) (s5 := .unb) (t := Mo q si li post)
  rw [decide_eq_false (by omega)] at y
  -- the key
  have kx : evalS (callF FF 100000 h) 100000 (.set (.nm 3) (.tcell (.cons (.var 1) (.cons (.var 2) .nil)))) (eL q w (m + 1) .unb .unb .unb (Mo q si li post)) = .ok .nx (eL q w (m + 1) (.val (.ref j)) .unb .unb (Mo q si li (post ++ [Cell.tup [D.int (w : Nat), D.int ((m + 1 : Nat) : Int)]]))) := by
    refine s_toc (tcell_ok (v_l2 (v_var rfl) (v_var rfl)) (by simp)) ?_
    show some (S.mk _ (Mo q si li post ++ [_])) = _
    rw [Mo_app]
    show some (S.mk [.val (.ref q.n), .val (.int (w : Nat)), .val (.int ((m + 1 : Nat) : Int)), .val (.ref (Mo q si li post).length), .unb, .unb] _) = _
    rw [hj]
    rfl
  -- the end
  have fin : ∀ si' li' s4, (w, m + 1) ∈ li' → evalSs (callF FF 100000 h) 100000 (.cons (.ret (.dget (.fld 0 (.var 0) "by_links") (.var 3))) .nil) (eL q w (m + 1) (.val (.ref j)) s4 .unb (Mo q si' li' (post ++ [Cell.tup [D.int (w : Nat), D.int ((m + 1 : Nat) : Int)]]))) =
      .ok (.ret (.int (q.lk (m + 1) w))) (eL q w (m + 1) (.val (.ref j)) s4 .unb (Mo q si' li' (post ++ [Cell.tup [D.int (w : Nat), D.int ((m + 1 : Nat) : Int)]]))) := fun si' li' s4 hi =>
    b_last (s_retc (dget_ok (f_links rfl rfl) (v_var rfl) Mo_2 ((get_links (hk si' li')).trans (by rw [if_pos hi]))))
  have nw := fun (si' : List Nat) (li' : List (Nat × Nat)) => new_links (q := q) (si := si') (li := li') (post := post ++ [Cell.tup [D.int (w : Nat), D.int ((m + 1 : Nat) : Int)]]) (cf := callF FF 100000 h) (s := eL q w (m + 1) (.val (.ref j)) .unb .unb (Mo q si' li' (post ++ [Cell.tup [D.int (w : Nat), D.int ((m + 1 : Nat) : Int)]]))) (j := j) (w := w) (m := m + 1) rfl rfl rfl (hk si' li')
  by_cases hin : (w, m + 1) ∈ li
  · refine ⟨si, li, [Cell.tup [D.int (w : Nat), D.int ((m + 1 : Nat) : Int)]], o, fun _ h => h, o.cl (w, m + 1) hin, ?_⟩
    rw [Mo_app]
    refine fn_at (by rfl) rfl ?_
    refine run_ret (s' := eL q w (m + 1) (.val (.ref j)) .unb .unb (Mo q si li (post ++ [Cell.tup [D.int (w : Nat), D.int ((m + 1 : Nat) : Int)]]))) ?_ rfl
    refine b_cons (s1 := eL q w (m + 1) .unb .unb .unb (Mo q si li post)) (st_skip z) (b_cons (st_skip y) (b_cons kx (b_cons (st_skip ?_) (fin si li .unb hin))))
    have n2 := nw si li
    rw [decide_eq_true hin] at n2
    exact n2
  · let P : Sto := post ++ [Cell.tup [D.int (w : Nat), D.int ((m + 1 : Nat) : Int)]]
    let g : Nat → Int := wl q.nm.length (q.rl.length : Nat) m w
    have C := comp_run2 (cf := callF FF 100000 h) (elt := (.mcal 0 10 "with_links" (.var 0) (.cons (.var 1) (.cons (.var 2) (.cons (.var 5) .nil))))) (t := .nm 5) (it := (.rng1 (.prim .add (.cons (.prim .fdiv (.cons (.var 1) (.cons (.var 2) .nil))) (.cons (.con (.int 1)) .nil))))) (cs := .nil) (vs := [5]) (s := eL q w (m + 1) (.val (.ref j)) .unb .unb (Mo q si li P)) (s1 := eL q w (m + 1) (.val (.ref j)) .unb .unb (Mo q si li P)) (ys := List.range (w / (m + 1) + 1)) (h := fun k : Nat => D.int (k : Nat))
      (fun p a t' => ∃ si' li', t' = Mo q si' li' P ∧ Ok si' li' ∧ (∀ i ∈ si, i ∈ si') ∧ (0 < p.length → ∀ k, k < min w m → k ∈ si') ∧ (1 < p.length → m ∈ si') ∧ a = p.map fun k => D.int (g k))
      (i_rng (n := w / (m + 1) + 1) (ev_p2 (o_prim (ev_p2 (o_var rfl) (o_var rfl) (p_div_nat (by omega) (by omega)))) o_con (p_add_nat _ 1)) (by have := Nat.div_le_self w (m + 1); omega)) ⟨si, li, rfl, o, fun _ h => h, fun h => absurd h (by simp), fun h => absurd h (by simp), rfl⟩
      (fun p y r a t' hy ⟨si', li', e1, o', k1, k2, k3, e2⟩ => by
        obtain ⟨yp, yl⟩ := range_item hy
        obtain ⟨s2, l2, o2, j1, j2, j3, j4⟩ := tu y (by omega) si' li' o' k1 (fun hy0 => k2 (by omega)) P hp' (eL q w (m + 1) (.val (.ref j)) .unb (.val (.int (y : Nat))) (Mo q si' li' P)) rfl
        refine ⟨[.int (g y)], _, _, turn_elt (s3 := eL q w (m + 1) (.val (.ref j)) .unb (.val (.int (y : Nat))) (Mo q si' li' P)) (by rw [e1]; rfl) ((m_self rfl rfl (by decide +kernel) (v_l3 (v_var rfl) (v_var rfl) (v_var rfl))).trans j4), rfl, s2, l2, rfl, o2, fun i hi => j1 i (k1 i hi), fun _ k hk => ?_, fun h1 => ?_, ?_⟩
        · by_cases y0 : y = 0
          · exact j2 y0 k hk
          · exact j1 k (k2 (by omega) k hk)
        · rw [List.length_append] at h1
          have h1 : 1 < p.length + 1 := h1
          exact j3 (by omega)
        · rw [e2, List.map_append]
          rfl) (fun a t' ⟨_, _, _, _, _, _, _, e⟩ => by rw [e, List.length_map, List.length_range]; have := Nat.div_le_self w (m + 1); omega)
    obtain ⟨a, t', e1, si', li', rfl, o', k1, k2, k3, rfl⟩ := C
    rw [List.length_range] at k2 k3
    have known : ∀ k, k < min w (m + 1) → k ∈ si' := fun k hk => by
      by_cases hk2 : k < min w m
      · exact k2 (Nat.succ_pos _) k hk2
      · have : k = m := by omega
        have hwm : m + 1 ≤ w := by omega
        have : 1 ≤ w / (m + 1) := (Nat.le_div_iff_mul_le (by omega)).mpr (by omega)
        subst k
        exact k3 (Nat.succ_lt_succ this)
    refine ⟨si', insA (w, m + 1) li', [Cell.tup [D.int (w : Nat), D.int ((m + 1 : Nat) : Int)]], o'.putL hw hm known, k1, known, ?_⟩
    rw [Mo_app]
    refine fn_at (by rfl) rfl ?_
    let R4 : MP.Slot := .val (.lst ((List.range (w / (m + 1) + 1)).map fun k => .int (g k)))
    refine run_ret (s' := eL q w (m + 1) (.val (.ref j)) R4 .unb (Mo q si' (insA (w, m + 1) li') P)) ?_ rfl
    refine b_cons (s1 := eL q w (m + 1) .unb .unb .unb (Mo q si li post)) (st_skip z) (b_cons (st_skip y) (b_cons kx (b_cons (s1 := eL q w (m + 1) (.val (.ref j)) R4 .unb (Mo q si' (insA (w, m + 1) li') P)) ?_ (fin si' _ R4 (insA_mem.mpr (.inl rfl))))))
    have n2 := nw si li
    rw [decide_eq_false hin] at n2
    refine (s_ifT n2).trans ?_
    refine b_cons (s_toc e1 (s' := eL q w (m + 1) (.val (.ref j)) R4 .unb (Mo q si' li' P)) rfl) ?_
    refine b_cons ?_ b_nil
    have sm : evalE (callF FF 100000 h) (.prim .sum (.cons (.var 4) .nil)) (eL q w (m + 1) (.val (.ref j)) R4 .unb (Mo q si' li' P)) = .ok (.int (q.lk (m + 1) w)) (eL q w (m + 1) (.val (.ref j)) R4 .unb (Mo q si' li' P)) := by
      refine ev_p1 (o_var rfl) ?_
      show prim .sum [.lst ((List.range (w / (m + 1) + 1)).map fun k => .int (g k))] = _
      rw [p_sum_map]
      show _ = some (D.int (K78.lk _ _ (m + 1) w))
      rw [lk_succ _ _ _ hw0]
    have dp := dput_ok (wf := 100000) sm (f_links (q := q) (si := si') (li := li') (post := P) rfl rfl) (v_var (i := 3) rfl) Mo_2 (put_links (hk si' li') o'.ll)
    rw [dp]
    show Out.ok Fl.nx _ = _
    congr 1
    show S.mk _ ((Mo q si' li' P).set (q.n + 2) _) = _
    rw [Mo_set2]
    rfl
end K78
end
section
set_option Elab.async false
set_option linter.all false
set_option maxRecDepth 100000
set_option maxHeartbeats 4000000
/-! the counter runs -/
namespace K78
open PySem MP
section
variable {q : Cn} (hq : CnOk q) (bd : Bd q.nm.length (q.rl.length : Nat))
include hq bd
theorem links_all : ∀ (m h w : Nat) (si : List Nat) (li : List (Nat × Nat)), Ok si li → w ≤ 40 → m ≤ 40 → (2 * m + 5 ≤ h ∨ (2 * m + 2 ≤ h ∧ ∀ k, k < min w m → k ∈ si)) → Links q h w m si li := by
  intro m
  induction m using Nat.strongRecOn with
  | _ m ih =>
  intro h w si li o hw hm hh
  obtain ⟨h, rfl⟩ : ∃ d, h = d + 1 := ⟨h - 1, by omega⟩
  by_cases hw0 : w = 0
  · subst hw0; exact links_0 o
  cases m with
  | zero => exact links_m0 (by omega) o
  | succ n =>
    refine links_new (by omega) hw hm o fun c hc si' li' o' sub kn post hp st hst => ?_
    have L : ∀ (d : Nat), h = d + 1 → ∀ s2 l2 u, u ≤ w → Ok s2 l2 → (∀ i ∈ si', i ∈ s2) → Links q d u n s2 l2 := fun d hd s2 l2 u hu o2 sub2 => ih n (by omega) d u s2 l2 o2 (by omega) (by omega) (by
      rcases hh with hh | ⟨hh, kk⟩
      · exact .inl (by omega)
      · exact .inr ⟨by omega, fun k hk => sub2 k (sub k (kk k (by omega)))⟩)
    by_cases c0 : c = 0
    · subst c0
      obtain ⟨d, rfl⟩ : ∃ d, h = d + 1 := ⟨h - 1, by omega⟩
      obtain ⟨s2, l2, o2, j1, j2, j3⟩ := turn_0 hq bd (L d rfl si' li' w (Nat.le_refl _) o' fun _ h => h) hp hst
      refine ⟨s2, l2, o2, j1, fun _ => j2, fun h => absurd h (by omega), ?_⟩
      have e : wl q.nm.length (q.rl.length : Nat) n w 0 = q.lk n w := if_pos rfl
      rw [e]
      exact j3
    · have hcw : c * (n + 1) ≤ w := (Nat.le_div_iff_mul_le (by omega)).mp hc
      have hnw : n + 1 ≤ w := Nat.le_trans (Nat.le_mul_of_pos_left (n + 1) (by omega)) hcw
      obtain ⟨d, rfl⟩ : ∃ d, h = d + 2 := ⟨h - 2, by omega⟩
      have Z : Size q d n si' li' := by
        rcases hh with hh | ⟨hh, kk⟩
        · obtain ⟨x, rfl⟩ : ∃ x, d = x + 3 := ⟨d - 3, by omega⟩
          refine size_at hq bd (by omega) o' fun k hk hkN s2 l2 o2 sub2 => ?_
          exact ih (n - k) (by omega) (x + 1) (n - k) s2 l2 o2 (by omega) (by omega) (.inr ⟨by omega, fun i hi => sub2 i (kn (by omega) i (by omega))⟩)
        · obtain ⟨x, rfl⟩ : ∃ x, d = x + 1 := ⟨d - 1, by omega⟩
          exact size_hit o' (sub n (kk n (by omega)))
      obtain ⟨s2, l2, o2, j1, j2, j3⟩ := turn_c hq bd hw hm (by omega) hcw Z (fun s3 l3 o3 sub3 => L (d + 1) rfl s3 l3 _ (Nat.sub_le _ _) o3 sub3) hp hst
      exact ⟨s2, l2, o2, j1, fun h => absurd h c0, fun _ => j2, j3⟩
theorem size_all {h s : Nat} {si : List Nat} {li : List (Nat × Nat)} (o : Ok si li) (hs : s ≤ 40) (hh : 2 * s + 7 ≤ h) : Size q h s si li := by
  obtain ⟨x, rfl⟩ : ∃ x, h = x + 3 := ⟨h - 3, by omega⟩
  exact size_at hq bd hs o fun k hk hkN s2 l2 o2 sub2 => links_all hq bd (s - k) (x + 1) (s - k) s2 l2 o2 (by omega) (by omega) (.inl (by omega))
end
theorem set_end {α : Type} (l : List α) (x y : α) (r : List α) : (l ++ x :: r).set l.length y = l ++ y :: r := set_app y 0 l (x :: r)
theorem at_end {α : Type} (l : List α) (x : α) (r : List α) : (l ++ x :: r)[l.length]? = some x := at_app l (x :: r) 0
/-- Counter(words) -/
theorem sp_init (h : Nat) (t : Sto) (nm rl : List D) : callF FF 100000 (h + 1) 5 [.ref t.length, .tup [.tup nm, .tup rl]] (t ++ [.ins 0 [] []]) = .ok .non (Mo ⟨t, nm, rl⟩ [] [] []) := by
  refine fn_at (by rfl) rfl ?_
  have st : ∀ (x : Str) (e : PE) (d : D) (ks : List Str) (xs : List D) (r r' : Sto), ks.length < 900 →
      evalE (callF FF 100000 h) e { loc := [.val (.ref t.length), .val (.tup [.tup nm, .tup rl])], sto := t ++ .ins 0 ks xs :: r } = .ok d { loc := [.val (.ref t.length), .val (.tup [.tup nm, .tup rl])], sto := t ++ .ins 0 ks xs :: r' } →
      evalS (callF FF 100000 h) 100000 (.fset 0 (.var 0) x e) { loc := [.val (.ref t.length), .val (.tup [.tup nm, .tup rl])], sto := t ++ .ins 0 ks xs :: r } = .ok .nx { loc := [.val (.ref t.length), .val (.tup [.tup nm, .tup rl])], sto := t ++ .ins 0 (putS ks xs x d).1 (putS ks xs x d).2 :: r' } := fun x e d ks xs r r' hk he => by
    rw [fset_ok (c := 0) (j := t.length) (ks := ks) (xs := xs) he (v_var rfl) (at_end t _ _) hk]
    show Out.ok Fl.nx (S.mk _ _) = _
    rw [set_end]
  have r : evalSs (callF FF 100000 h) 100000 b_Counter___init__ { loc := [.val (.ref t.length), .val (.tup [.tup nm, .tup rl])], sto := t ++ [.ins 0 [] []] } = .ok .nx { loc := [.val (.ref t.length), .val (.tup [.tup nm, .tup rl])], sto := Mo ⟨t, nm, rl⟩ [] [] [] } := by
    refine b_cons (st "names" _ (.tup nm) [] [] [] [] (by decide) (ev_p2 (o_var rfl) o_con rfl)) ?_
    refine b_cons (st "roles" _ (.tup rl) ["names"] [.tup nm] [] [] (by decide) (ev_p2 (o_var rfl) o_con rfl)) ?_
    refine b_cons (st "by_size" _ (.ref (t.length + 1)) ["names", "roles"] [.tup nm, .tup rl] [] [.dK [] []] (by decide) ?_) ?_
    · rw [dnew_ok]
      show Out.ok (D.ref (t ++ [_]).length) (S.mk _ ((t ++ [_]) ++ [_])) = _
      rw [List.length_append, List.append_assoc]
      rfl
    refine b_cons (st "by_links" _ (.ref (t.length + 2)) ["names", "roles", "by_size"] [.tup nm, .tup rl, .ref (t.length + 1)] [.dK [] []] [.dK [] [], .dT [] []] (by decide) ?_) ?_
    · rw [dnew_ok]
      show Out.ok (D.ref (t ++ [_, _]).length) (S.mk _ ((t ++ [_, _]) ++ [_])) = _
      rw [List.length_append, List.append_assoc]
      rfl
    exact b_nil
  show runRes (evalSs (callF FF 100000 h) 100000 b_Counter___init__ { loc := [.val (.ref t.length), .val (.tup [.tup nm, .tup rl])], sto := t ++ [.ins 0 [] []] }) = _
  rw [r]
  rfl
/-- count_of_size(words, s) behind its checks -/
theorem sp_count {h s : Nat} {t : Sto} {nm rl : List D} (hq : CnOk ⟨t, nm, rl⟩) (bd : Bd nm.length (rl.length : Nat)) (hs : s ≤ 40) (hh : 2 * s + 7 ≤ h) (chk : callF FF 100000 h 3 [.tup [.tup nm, .tup rl], .int (s : Nat)] t = .ok .non t) :
    ∃ e, callF FF 100000 (h + 1) 11 [.tup [.tup nm, .tup rl], .int (s : Nat)] t = .ok (.int (sz nm.length (rl.length : Nat) s)) (t ++ e) := by
  obtain ⟨x, rfl⟩ : ∃ x, h = x + 1 := ⟨h - 1, by omega⟩
  obtain ⟨si, li, o, _, _, k3⟩ := (size_all hq bd (si := []) (li := []) ok_nil hs hh).call hq (post := []) (by simp) (s := { loc := [.val (.tup [.tup nm, .tup rl]), .val (.int (s : Nat))], sto := Mo ⟨t, nm, rl⟩ [] [] [] }) rfl
  refine ⟨cells ⟨t, nm, rl⟩ si li ++ [], ?_⟩
  refine fn_at (by rfl) rfl ?_
  refine run_ret (s' := { loc := [.val (.tup [.tup nm, .tup rl]), .val (.int (s : Nat))], sto := Mo ⟨t, nm, rl⟩ si li [] }) ?_ rfl
  refine b_cons (s1 := { loc := [.val (.tup [.tup nm, .tup rl]), .val (.int (s : Nat))], sto := t }) ?_ (b_last (s_retc ?_))
  · rw [st_expr, v_call (v_l2 (v_var rfl) (v_var rfl)) chk]
    rfl
  · refine (mcal_ok (j := t.length) (s1 := { loc := [.val (.tup [.tup nm, .tup rl]), .val (.int (s : Nat))], sto := Mo ⟨t, nm, rl⟩ [] [] [] }) (mk_ok (s1 := { loc := [.val (.tup [.tup nm, .tup rl]), .val (.int (s : Nat))], sto := t }) (v_l1 (v_var rfl)) (sp_init x t nm rl)) Mo_0 (by decide +kernel) (v_l1 (v_var rfl))).trans k3
end K78
end
section
set_option Elab.async false
set_option linter.all false
set_option maxRecDepth 100000
set_option maxHeartbeats 4000000
/-! the law's own numbers -/
namespace K78
open PySem MP
def sgn (x : Nat) : Int := if x % 2 = 0 then -1 else 1
def partT (R : Int) (S : List Int) (k : Nat) (part : Int) (i : Nat) : Int := if k % (i + 1) = 0 then part + sgn (k / (i + 1)) * ((i + 1 : Nat) : Int) * R * S.getD i 0 else part
def partF (R : Int) (S : List Int) (k : Nat) : Int := (List.range k).foldl (partT R S k) 0
def wholeT (R : Int) (S L : List Int) (n : Nat) (whole : Int) (j : Nat) : Int := whole + partF R S (j + 1) * L.getD (n - (j + 1)) 0
def wholeF (R : Int) (S L : List Int) (n : Nat) : Int := (List.range n).foldl (wholeT R S L n) 0
def links' (R : Int) (SL : List Int × List Int) (n : Nat) : List Int := if n = 0 then SL.2 else SL.2 ++ [wholeF R SL.1 SL.2 n / (n : Nat)]
def stepL (N : Nat) (R : Int) (SL : List Int × List Int) (n : Nat) : List Int × List Int := (SL.1 ++ [((List.range (min n N + 1)).map fun k => chooseI N k * (links' R SL n).getD (n - k) 0).sum], links' R SL n)
def lawTab (N : Nat) (R : Int) (n : Nat) : List Int × List Int := (List.range n).foldl (stepL N R) ([], [1])
def eC (N r M : Nat) (S L : List Int) (s5 s6 s7 s8 s9 s10 : MP.Slot) (t : Sto) : MP.S := { loc := [.val (.int (N : Nat)), .val (.int (r : Nat)), .val (.int (M : Nat)), .own (S.map .int), .own (L.map .int), s5, s6, s7, s8, s9, s10], sto := t }
theorem p_int1 (x : Int) : prim .int1 [.int x] = some (.int x) := rfl
theorem p_mod_nat {a b : Nat} (h : 0 < b) : prim .mod [.int (a : Nat), .int (b : Nat)] = some (.int ((a % b : Nat) : Int)) := by
  rw [p_mod_pos _ _ (by omega), Int.natCast_emod]
theorem p_item_ints {S : List Int} {i : Nat} (h : i < S.length) : prim .item [.lst (S.map .int), .int (i : Nat)] = some (.int (S.getD i 0)) := by
  refine p_item_l _ _ _ ?_
  rw [List.getElem?_map, List.getElem?_eq_getElem h, List.getD, List.getElem?_eq_getElem h]
  rfl
theorem p_sgn (x : Nat) : prim .item [.lst [.int (-1), .int 1], .int ((x % 2 : Nat) : Int)] = some (.int (sgn x)) := by
  unfold sgn
  have : x % 2 = 0 ∨ x % 2 = 1 := by omega
  rcases this with h | h
  · rw [h]; rfl
  · rw [h]; rfl
theorem sgn_abs (x : Nat) : (sgn x).natAbs ≤ 2 ^ 0 := by unfold sgn; split <;> decide
def Sm (e : Nat) (l : List Int) : Prop := ∀ x ∈ l, x.natAbs ≤ 2 ^ e
theorem Sm.at {e : Nat} {l : List Int} (h : Sm e l) (i : Nat) : (l.getD i 0).natAbs ≤ 2 ^ e := by
  rw [List.getD]
  cases q : l[i]? with
  | none => exact Nat.zero_le _
  | some x => exact h x (List.mem_of_getElem? q)
abbrev cA : PS := (.set (.nm 10) (.prim .item (.cons (.lst (.cons (.prim .neg (.cons (.con (.int 1)) .nil)) (.cons (.con (.int 1)) .nil))) (.cons (.prim .mod (.cons (.prim .int1 (.cons (.prim .fdiv (.cons (.var 7) (.cons (.var 9) .nil))) .nil)) (.cons (.con (.int 2)) .nil))) .nil))))
abbrev cB : PS := (.set (.nm 8) (.prim .add (.cons (.var 8) (.cons (.prim .mul (.cons (.prim .mul (.cons (.prim .mul (.cons (.var 10) (.cons (.var 9) .nil))) (.cons (.var 1) .nil))) (.cons (.prim .item (.cons (.peek 3) (.cons (.prim .sub (.cons (.var 9) (.cons (.con (.int 1)) .nil))) .nil))) .nil))) .nil))))
abbrev cIn : PB := (.cons (.ife (.prim .eq (.cons (.prim .mod (.cons (.prim .int1 (.cons (.var 7) .nil)) (.cons (.var 9) .nil))) (.cons (.con (.int 0)) .nil))) (.cons cA (.cons cB .nil)) .nil) .nil)
section
variable {cf : CF} {N r M n e : Nat} {S L : List Int} {t : Sto}
/-- a weight -/
theorem turn_part {k i : Nat} {part : Int} {s5 s6 s9 s10 : MP.Slot} (hr : r ≤ 24) (hS : Sm e S) (he : e ≤ 40000) (hi : i < k) (hk : k ≤ 40) (hl : i < S.length) : (sgn (k / (i + 1)) * ((i + 1 : Nat) : Int) * (r : Nat) * S.getD i 0).natAbs ≤ 2 ^ (e + 11) ∧
    ∃ s10', (ofOpt (MP.assign (.nm 9) (.int ((1 + i : Nat) : Int)) (eC N r M S L s5 s6 (.val (.int (k : Nat))) (.val (.int part)) s9 s10 t)) fun s => evalSs cf 100000 cIn s) = .ok .nx (eC N r M S L s5 s6 (.val (.int (k : Nat))) (.val (.int (partT (r : Nat) S k part i))) (.val (.int ((1 + i : Nat) : Int))) s10' t) := by
  rw [Nat.add_comm 1 i]
  have a1 : (((i + 1 : Nat) : Int)).natAbs ≤ 2 ^ 6 := nat_abs (by have : (2:Nat) ^ 6 = 64 := by decide
                                                                  omega)
  have a2 : ((r : Nat) : Int).natAbs ≤ 2 ^ 5 := nat_abs (Nat.le_trans hr (by decide))
  have b1 := mul_pow (sgn_abs (k / (i + 1))) a1
  have b2 := mul_pow b1 a2
  have b3 := mul_pow b2 (hS.at i)
  refine ⟨pow_up b3 (by omega), ?_⟩
  have z : evalE cf (.prim .eq (.cons (.prim .mod (.cons (.prim .int1 (.cons (.var 7) .nil)) (.cons (.var 9) .nil))) (.cons (.con (.int 0)) .nil))) (eC N r M S L s5 s6 (.val (.int (k : Nat))) (.val (.int part)) (.val (.int ((i + 1 : Nat) : Int))) s10 t) = .ok (.bl (decide (k % (i + 1) = 0))) (eC N r M S L s5 s6 (.val (.int (k : Nat))) (.val (.int part)) (.val (.int ((i + 1 : Nat) : Int))) s10 t) :=
    ev_p2 (o_prim (ev_p2 (o_prim (ev_p1 (o_var rfl) (p_int1 _))) (o_var rfl) (p_mod_nat (by omega)))) (o_con (d := .int ((0 : Nat) : Int))) (p_eq_nat _ 0)
  by_cases h0 : k % (i + 1) = 0
  · rw [decide_eq_true h0] at z
    refine ⟨.val (.int (sgn (k / (i + 1)))), turn_at (s1 := eC N r M S L s5 s6 (.val (.int (k : Nat))) (.val (.int part)) (.val (.int ((i + 1 : Nat) : Int))) s10 t) rfl ?_⟩
    refine b_cons ((s_ifT z).trans ?_) b_nil
    refine b_cons (s1 := eC N r M S L s5 s6 (.val (.int (k : Nat))) (.val (.int part)) (.val (.int ((i + 1 : Nat) : Int))) (.val (.int (sgn (k / (i + 1))))) t) (s_to (ev_p2 (o_lst (v_lst (v_l2 (ev_p1 o_con rfl) v_con) (by simp))) (o_prim (ev_p2 (o_prim (ev_p1 (o_prim (ev_p2 (o_var rfl) (o_var rfl) (p_div_nat (by omega) (by omega)))) (p_int1 _))) (o_con (d := .int ((2 : Nat) : Int))) (p_mod_nat (by omega)))) (p_sgn _)) rfl) ?_
    have pt : partT (r : Nat) S k part i = part + sgn (k / (i + 1)) * ((i + 1 : Nat) : Int) * (r : Nat) * S.getD i 0 := if_pos h0
    rw [pt]
    refine b_cons (s_to (ev_p2 (o_var rfl) (o_prim (ev_p2 (o_prim (ev_p2 (o_prim (ev_p2 (o_var rfl) (o_var rfl) (p_mul_ok (sgn_abs _) a1 (by omega)))) (o_var rfl) (p_mul_ok b1 a2 (by omega)))) (o_prim (ev_p2 (o_peek rfl) (o_prim (ev_p2 (o_var rfl) o_con (p_sub_nat (a := i + 1) (b := 1) (by omega)))) (p_item_ints hl))) (p_mul_ok b2 (hS.at i) (by omega)))) rfl) rfl) b_nil
  · rw [decide_eq_false h0] at z
    have pt : partT (r : Nat) S k part i = part := if_neg h0
    rw [pt]
    exact ⟨s10, turn_at (s1 := eC N r M S L s5 s6 (.val (.int (k : Nat))) (.val (.int part)) (.val (.int ((i + 1 : Nat) : Int))) s10 t) rfl (b_cons (st_skip z) b_nil)⟩
end
end K78
end
section
set_option Elab.async false
set_option linter.all false
set_option maxRecDepth 100000
set_option maxHeartbeats 4000000
/-! the law's own numbers, all in all -/
namespace K78
open PySem MP
theorem i_rng2 {cf : CF} {a b : PE} {s : S} {i n : Nat} (h : evalE cf a s = .ok (.int (i : Nat)) s) (h2 : evalE cf b s = .ok (.int (n : Nat)) s) (hi : i ≤ 1000000) (hn : n ≤ 1000000) : evalI cf (.rng2 a b) s = .ok ((List.range (n - i)).map fun k => .int ((i + k : Nat) : Int)) s := by
  have s1 : smallI (i : Int) = true := by unfold smallI; simp; omega
  have s2 : smallI (n : Int) = true := by unfold smallI; simp; omega
  simp only [evalI, h, h2, bind_ok, s1, s2, Bool.and_self, if_true]
  unfold rngL
  rw [show ((n : Int) - (i : Int)).toNat = n - i by omega]
  congr 1
/-- two statements, then the rest -/
theorem ss_append {cf : CF} {wf : Nat} {a b : PS} {r : PB} {s s1 : S} {o : Out MP.Fl} (h : evalSs cf wf (.cons a (.cons b .nil)) s = .ok .nx s1) (k : evalSs cf wf r s1 = o) : evalSs cf wf (.cons a (.cons b r)) s = o := by
  rw [ss_cons'] at h ⊢
  cases e1 : evalS cf wf a s with
  | bad => rw [e1] at h; cases h
  | exc c t => rw [e1] at h; cases h
  | ok f s2 =>
    rw [e1] at h
    simp only [bind_ok] at h ⊢
    cases f with
    | nx =>
      rw [seqR_nx, ss_cons'] at h
      rw [seqR_nx, ss_cons']
      cases e2 : evalS cf wf b s2 with
      | bad => rw [e2] at h; cases h
      | exc c t => rw [e2] at h; cases h
      | ok f s3 =>
        rw [e2] at h
        simp only [bind_ok] at h ⊢
        cases f with
        | nx =>
          rw [seqR_nx, ss_nil'] at h
          cases h
          rw [seqR_nx, k]
        | brk => cases h
        | cnt => cases h
        | ret d => cases h
    | brk => cases h
    | cnt => cases h
    | ret d => cases h
theorem add_abs {x y : Int} {c a : Nat} (hx : x.natAbs ≤ c * 2 ^ a) (hy : y.natAbs ≤ 2 ^ a) : (x + y).natAbs ≤ (c + 1) * 2 ^ a := by
  have := Int.natAbs_add_le x y
  rw [Nat.succ_mul]
  omega
theorem cnt_pow {x c a : Nat} (h : x ≤ c * 2 ^ a) (hc : c ≤ 64) : x ≤ 2 ^ (a + 6) := by
  refine Nat.le_trans h ?_
  rw [Nat.pow_add, Nat.mul_comm]
  exact Nat.mul_le_mul_left _ hc
section
variable {N r M n e : Nat} {S L : List Int} {t : Sto}
/-- part -/
theorem loop_part (cf : CF) {k : Nat} {s5 s6 s8 s9 s10 : MP.Slot} (hr : r ≤ 24) (hS : Sm e S) (he : e ≤ 40000) (hk : k ≤ 40) (hl : k ≤ S.length) : (partF (r : Nat) S k).natAbs ≤ 2 ^ (e + 17) ∧
    ∃ s9' s10', evalSs cf 100000 (.cons (.set (.nm 8) (.con (.int 0))) (.cons (.forr (.nm 9) (.rng2 (.con (.int 1)) (.prim .add (.cons (.var 7) (.cons (.con (.int 1)) .nil)))) cIn) .nil)) (eC N r M S L s5 s6 (.val (.int (k : Nat))) s8 s9 s10 t) = .ok .nx (eC N r M S L s5 s6 (.val (.int (k : Nat))) (.val (.int (partF (r : Nat) S k))) s9' s10' t) := by
  have key := forLoop_cnt (f := fun d s2 => ofOpt (MP.assign (.nm 9) d s2) fun s => evalSs cf 100000 cIn s) (fun i : Nat => D.int ((1 + i : Nat) : Int)) (fun c part s => part.natAbs ≤ c * 2 ^ (e + 11) ∧ ∃ s9 s10, s = eC N r M S L s5 s6 (.val (.int (k : Nat))) (.val (.int part)) s9 s10 t) (partT (r : Nat) S k) k (List.range k) 0 0
    (eC N r M S L s5 s6 (.val (.int (k : Nat))) (.val (.int 0)) s9 s10 t) (by simp) (fun i hi c part s hc ⟨i1, u9, u10, i2⟩ => by
      have hi := List.mem_range.mp hi
      obtain ⟨b, s10', q⟩ := turn_part (cf := cf) (N := N) (M := M) (L := L) (t := t) (k := k) (i := i) (part := part) (s5 := s5) (s6 := s6) (s9 := u9) (s10 := u10) hr hS he hi hk (by omega)
      refine ⟨_, by rw [i2]; exact q, ?_, _, _, rfl⟩
      unfold partT
      split
      · exact add_abs i1 b
      · exact Nat.le_trans i1 (Nat.mul_le_mul_right _ (Nat.le_succ _))) ⟨Nat.zero_le _, s9, s10, rfl⟩
  obtain ⟨s', e1, i1, u9, u10, i2⟩ := key
  rw [List.length_range, Nat.zero_add] at i1
  refine ⟨cnt_pow i1 (by omega), u9, u10, ?_⟩
  refine b_cons (s_to v_con rfl) (b_cons ?_ b_nil)
  refine s_for (i_rng2 (i := 1) (n := k + 1) v_con (ev_p2 (o_var rfl) o_con (p_add_nat k 1)) (by omega) (by omega)) ?_
  rw [show k + 1 - 1 = k by omega]
  rw [i2] at e1
  exact e1
abbrev cMid : PB := (.cons (.set (.nm 8) (.con (.int 0))) (.cons (.forr (.nm 9) (.rng2 (.con (.int 1)) (.prim .add (.cons (.var 7) (.cons (.con (.int 1)) .nil)))) cIn) (.cons (.set (.nm 6) (.prim .add (.cons (.var 6) (.cons (.prim .mul (.cons (.var 8) (.cons (.prim .item (.cons (.peek 4) (.cons (.prim .sub (.cons (.var 5) (.cons (.var 7) .nil))) .nil))) .nil))) .nil)))) .nil)))
theorem loop_whole (cf : CF) {s6 s7 s8 s9 s10 : MP.Slot} (h7 : s7 = .unb ∨ ∃ d, s7 = .val d) (hr : r ≤ 24) (hS : Sm e S) (hL : Sm e L) (he : e ≤ 40000) (hn : n ≤ 40) (hl : S.length = n) (hl2 : L.length = n) : (wholeF (r : Nat) S L n).natAbs ≤ 2 ^ (e + 17 + e + 6) ∧
    ∃ s7' s8' s9' s10', (s7' = .unb ∨ ∃ d, s7' = .val d) ∧ evalSs cf 100000 (.cons (.set (.nm 6) (.con (.int 0))) (.cons (.forr (.nm 7) (.rng2 (.con (.int 1)) (.prim .add (.cons (.var 5) (.cons (.con (.int 1)) .nil)))) cMid) .nil)) (eC N r M S L (.val (.int (n : Nat))) s6 s7 s8 s9 s10 t) = .ok .nx (eC N r M S L (.val (.int (n : Nat))) (.val (.int (wholeF (r : Nat) S L n))) s7' s8' s9' s10' t) := by
  have key := forLoop_cnt (f := fun d s2 => ofOpt (MP.assign (.nm 7) d s2) fun s => evalSs cf 100000 cMid s) (fun i : Nat => D.int ((1 + i : Nat) : Int)) (fun c whole s => whole.natAbs ≤ c * 2 ^ (e + 17 + e) ∧ ∃ s7 s8 s9 s10, (s7 = .unb ∨ ∃ d, s7 = .val d) ∧ s = eC N r M S L (.val (.int (n : Nat))) (.val (.int whole)) s7 s8 s9 s10 t) (wholeT (r : Nat) S L n) n (List.range n) 0 0
    (eC N r M S L (.val (.int (n : Nat))) (.val (.int 0)) s7 s8 s9 s10 t) (by simp) (fun j hj c whole s hc ⟨i1, u7, u8, u9, u10, _, i2⟩ => by
      have hj := List.mem_range.mp hj
      rw [Nat.add_comm 1 j]
      obtain ⟨b, s9', s10', q⟩ := loop_part (N := N) (M := M) (L := L) (t := t) cf (k := j + 1) (s5 := .val (.int (n : Nat))) (s6 := .val (.int whole)) (s8 := u8) (s9 := u9) (s10 := u10) hr hS he (by omega) (by omega)
      have b2 := mul_pow b (hL.at (n - (j + 1)))
      refine ⟨eC N r M S L (.val (.int (n : Nat))) (.val (.int (wholeT (r : Nat) S L n whole j))) (.val (.int ((j + 1 : Nat) : Int))) (.val (.int (partF (r : Nat) S (j + 1)))) s9' s10' t, ?_, add_abs i1 b2, _, _, _, _, .inr ⟨_, rfl⟩, rfl⟩
      rw [i2]
      refine turn_at (s1 := eC N r M S L (.val (.int (n : Nat))) (.val (.int whole)) (.val (.int ((j + 1 : Nat) : Int))) u8 u9 u10 t) rfl ?_
      have tail : evalSs cf 100000 (.cons (.set (.nm 6) (.prim .add (.cons (.var 6) (.cons (.prim .mul (.cons (.var 8) (.cons (.prim .item (.cons (.peek 4) (.cons (.prim .sub (.cons (.var 5) (.cons (.var 7) .nil))) .nil))) .nil))) .nil)))) .nil) (eC N r M S L (.val (.int (n : Nat))) (.val (.int whole)) (.val (.int ((j + 1 : Nat) : Int))) (.val (.int (partF (r : Nat) S (j + 1)))) s9' s10' t) = .ok .nx (eC N r M S L (.val (.int (n : Nat))) (.val (.int (wholeT (r : Nat) S L n whole j))) (.val (.int ((j + 1 : Nat) : Int))) (.val (.int (partF (r : Nat) S (j + 1)))) s9' s10' t) :=
        b_cons (s_to (ev_p2 (o_var rfl) (o_prim (ev_p2 (o_var rfl) (o_prim (ev_p2 (o_peek rfl) (o_prim (ev_p2 (o_var rfl) (o_var rfl) (p_sub_nat (by omega)))) (p_item_ints (by omega)))) (p_mul_ok b (hL.at _) (by omega)))) rfl) rfl) b_nil
      exact ss_append q tail) ⟨Nat.zero_le _, s7, s8, s9, s10, h7, rfl⟩
  obtain ⟨s', e1, i1, u7, u8, u9, u10, i7, i2⟩ := key
  rw [List.length_range, Nat.zero_add] at i1
  refine ⟨cnt_pow i1 (by omega), u7, u8, u9, u10, i7, ?_⟩
  refine b_cons (s_to v_con rfl) (b_cons ?_ b_nil)
  refine s_for (i_rng2 (i := 1) (n := n + 1) v_con (ev_p2 (o_var rfl) o_con (p_add_nat n 1)) (by omega) (by omega)) ?_
  rw [show n + 1 - 1 = n by omega]
  rw [i2] at e1
  exact e1
end
end K78
end
section
set_option Elab.async false
set_option linter.all false
set_option maxRecDepth 100000
set_option maxHeartbeats 4000000
/-! _law_counts -/
namespace K78
open PySem MP
theorem forLoop_ord {β : Type} {f : D → S → Out MP.Fl} (h : β → D) (I : List β → S → Prop) (ys : List β) (s : S) (h0 : I [] s) (k : ∀ p y r s, p ++ y :: r = ys → I p s → ∃ s', f (h y) s = .ok .nx s' ∧ I (p ++ [y]) s') : ∃ s', forLoop f (ys.map h) s = .ok .nx s' ∧ I ys s' := by
  have key : ∀ (r p : List β) (s : S), p ++ r = ys → I p s → ∃ s', forLoop f (r.map h) s = .ok .nx s' ∧ I ys s' := by
    intro r
    induction r with
    | nil => exact fun p s e i => ⟨s, rfl, by rw [List.append_nil] at e; rw [← e]; exact i⟩
    | cons y r ih =>
      intro p s e i
      obtain ⟨s1, e1, i1⟩ := k p y r s e i
      obtain ⟨s2, e2, i2⟩ := ih (p ++ [y]) s1 (by rw [← e]; simp) i1
      refine ⟨s2, ?_, i2⟩
      rw [List.map_cons, forLoop, e1]
      exact e2
  exact key ys [] s rfl h0
theorem lawTab_succ (N : Nat) (R : Int) (n : Nat) : lawTab N R (n + 1) = stepL N R (lawTab N R n) n := by
  unfold lawTab
  rw [List.range_succ, List.foldl_append]
  rfl
theorem lawTab_len (N : Nat) (R : Int) : ∀ n, (lawTab N R n).1.length = n ∧ (lawTab N R n).2.length = if n = 0 then 1 else n
  | 0 => ⟨rfl, rfl⟩
  | n + 1 => by
    obtain ⟨h1, h2⟩ := lawTab_len N R n
    rw [lawTab_succ]
    refine ⟨by rw [stepL, List.length_append, h1]; rfl, ?_⟩
    show (links' R (lawTab N R n) n).length = _
    rw [if_neg (by omega)]
    unfold links'
    by_cases h : n = 0
    · rw [if_pos h, h2, if_pos h, h]
    · rw [if_neg h, List.length_append, h2, if_neg h]
      rfl
theorem lawTab_up (N : Nat) (R : Int) {n : Nat} : ∀ {k : Nat}, n ≤ k → (∀ x ∈ (lawTab N R n).1, x ∈ (lawTab N R k).1) ∧ ∀ x ∈ (lawTab N R n).2, x ∈ (lawTab N R k).2
  | 0, h => by obtain rfl : n = 0 := by omega
               exact ⟨fun _ h => h, fun _ h => h⟩
  | k + 1, h => by
    by_cases e : n = k + 1
    · subst e; exact ⟨fun _ h => h, fun _ h => h⟩
    · obtain ⟨h1, h2⟩ := lawTab_up N R (k := k) (n := n) (by omega)
      rw [lawTab_succ]
      refine ⟨fun x hx => List.mem_append_left _ (h1 x hx), fun x hx => ?_⟩
      show x ∈ links' R (lawTab N R k) k
      unfold links'
      split
      · exact h2 x hx
      · exact List.mem_append_left _ (h2 x hx)
theorem lawTab_take (N : Nat) (R : Int) {n : Nat} : ∀ {k : Nat}, n ≤ k → (lawTab N R n).1 = (lawTab N R k).1.take n
  | 0, h => by obtain rfl : n = 0 := by omega
               rfl
  | k + 1, h => by
    by_cases e : n = k + 1
    · subst e; rw [List.take_of_length_le (by rw [(lawTab_len N R _).1]; exact Nat.le_refl _)]
    · rw [lawTab_take N R (k := k) (by omega), lawTab_succ]
      show _ = ((lawTab N R k).1 ++ _).take n
      rw [List.take_append_of_le_length (by rw [(lawTab_len N R k).1]; omega)]
structure TabOk (N r M e : Nat) : Prop where
  hN : N ≤ 24
  hr : r ≤ 24
  hM : M ≤ 40
  he : e ≤ 40000
  hs : Sm e (lawTab N (r : Nat) (M + 1)).1
  hl : Sm e (lawTab N (r : Nat) (M + 1)).2
abbrev cSum : PE := (.prim .sum (.cons (.comp (.prim .mul (.cons (.call 17 (.cons (.var 0) (.cons (.var 7) .nil))) (.cons (.prim .item (.cons (.peek 4) (.cons (.prim .sub (.cons (.var 5) (.cons (.var 7) .nil))) .nil))) .nil))) (.nm 7) (.rng1 (.prim .add (.cons (.prim .min2 (.cons (.var 5) (.cons (.var 0) .nil))) (.cons (.con (.int 1)) .nil)))) .nil [7]) .nil))
abbrev cOut : PB := (.cons (.ife (.prim .gt (.cons (.var 5) (.cons (.con (.int 0)) .nil))) (.cons (.set (.nm 6) (.con (.int 0))) (.cons (.forr (.nm 7) (.rng2 (.con (.int 1)) (.prim .add (.cons (.var 5) (.cons (.con (.int 1)) .nil)))) cMid) (.cons (.app 4 (.prim .fdiv (.cons (.var 6) (.cons (.var 5) .nil)))) .nil))) .nil) (.cons (.app 3 cSum) .nil))
theorem turn_size (m : Nat) {N r M e n : Nat} {t : Sto} (h : TabOk N r M e) (hn : n ≤ M) (s5 s6 s7 s8 s9 s10 : MP.Slot) (h7 : s7 = .unb ∨ ∃ d, s7 = .val d) :
    ∃ s6' s7' s8' s9' s10', (s7' = .unb ∨ ∃ d, s7' = .val d) ∧ (ofOpt (MP.assign (.nm 5) (.int (n : Nat)) (eC N r M (lawTab N (r : Nat) n).1 (lawTab N (r : Nat) n).2 s5 s6 s7 s8 s9 s10 t)) fun s => evalSs (callF FF 100000 (m + 1)) 100000 cOut s) = .ok .nx (eC N r M (lawTab N (r : Nat) (n + 1)).1 (lawTab N (r : Nat) (n + 1)).2 (.val (.int (n : Nat))) s6' s7' s8' s9' s10' t) := by
  have hN := h.hN
  have hr := h.hr
  have hM := h.hM
  have he := h.he
  obtain ⟨l1, l2⟩ := lawTab_len N (r : Nat) n
  obtain ⟨_, l2'⟩ := lawTab_len N (r : Nat) (n + 1)
  have hS : Sm e (lawTab N (r : Nat) n).1 := fun x hx => h.hs x ((lawTab_up N (r : Nat) (k := M + 1) (by omega)).1 x hx)
  have hL : Sm e (lawTab N (r : Nat) n).2 := fun x hx => h.hl x ((lawTab_up N (r : Nat) (k := M + 1) (by omega)).2 x hx)
  have hL' : Sm e (lawTab N (r : Nat) (n + 1)).2 := fun x hx => h.hl x ((lawTab_up N (r : Nat) (k := M + 1) (by omega)).2 x hx)
  have eL' : (lawTab N (r : Nat) (n + 1)).2 = links' (r : Nat) (lawTab N (r : Nat) n) n := by rw [lawTab_succ]; rfl
  -- the links
  have first : ∃ s6' s7' s8' s9' s10', (s7' = .unb ∨ ∃ d, s7' = .val d) ∧ evalS (callF FF 100000 (m + 1)) 100000 (.ife (.prim .gt (.cons (.var 5) (.cons (.con (.int 0)) .nil))) (.cons (.set (.nm 6) (.con (.int 0))) (.cons (.forr (.nm 7) (.rng2 (.con (.int 1)) (.prim .add (.cons (.var 5) (.cons (.con (.int 1)) .nil)))) cMid) (.cons (.app 4 (.prim .fdiv (.cons (.var 6) (.cons (.var 5) .nil)))) .nil))) .nil) (eC N r M (lawTab N (r : Nat) n).1 (lawTab N (r : Nat) n).2 (.val (.int (n : Nat))) s6 s7 s8 s9 s10 t) = .ok .nx (eC N r M (lawTab N (r : Nat) n).1 (lawTab N (r : Nat) (n + 1)).2 (.val (.int (n : Nat))) s6' s7' s8' s9' s10' t) := by
    have z : evalE (callF FF 100000 (m + 1)) (.prim .gt (.cons (.var 5) (.cons (.con (.int 0)) .nil))) (eC N r M (lawTab N (r : Nat) n).1 (lawTab N (r : Nat) n).2 (.val (.int (n : Nat))) s6 s7 s8 s9 s10 t) = .ok (.bl (decide ((n : Int) > 0))) (eC N r M (lawTab N (r : Nat) n).1 (lawTab N (r : Nat) n).2 (.val (.int (n : Nat))) s6 s7 s8 s9 s10 t) := ev_p2 (o_var rfl) o_con (p_gt_int _ _)
    by_cases h0 : n = 0
    · rw [decide_eq_false (by omega)] at z
      refine ⟨s6, s7, s8, s9, s10, h7, ?_⟩
      rw [st_skip z, eL', links', if_pos h0]
    · rw [decide_eq_true (by omega)] at z
      rw [if_neg h0] at l2
      obtain ⟨_, u7, u8, u9, u10, w7, w⟩ := loop_whole (N := N) (M := M) (t := t) (callF FF 100000 (m + 1)) (n := n) (s6 := s6) (s7 := s7) (s8 := s8) (s9 := s9) (s10 := s10) h7 hr hS hL he (by omega) l1 l2
      refine ⟨.val (.int (wholeF (r : Nat) (lawTab N (r : Nat) n).1 (lawTab N (r : Nat) n).2 n)), u7, u8, u9, u10, ?_, ?_⟩
      · exact w7
      · refine (s_ifT z).trans (ss_append w ?_)
        refine b_cons ?_ b_nil
        have d : prim .fdiv [.int (wholeF (r : Nat) (lawTab N (r : Nat) n).1 (lawTab N (r : Nat) n).2 n), .int (n : Nat)] = some (.int (wholeF (r : Nat) (lawTab N (r : Nat) n).1 (lawTab N (r : Nat) n).2 n / (n : Nat))) := by
          show p_fdiv [.int _, .int (n : Nat)] = _
          unfold p_fdiv
          have l : ((n : Nat) : Int).natAbs.log2 ≤ 10 := log_le (by rw [Int.natAbs_natCast]; omega)
          rw [Int.natAbs_natCast] at l
          have ok : divOk ((n : Nat) : Int) = true := by unfold divOk; simp; omega
          simp only [ok, if_true]
        have ap := st_app_ok (cf := callF FF 100000 (m + 1)) (wf := 100000) (i := 4) (s := eC N r M (lawTab N (r : Nat) n).1 (lawTab N (r : Nat) n).2 (.val (.int (n : Nat))) (.val (.int (wholeF (r : Nat) (lawTab N (r : Nat) n).1 (lawTab N (r : Nat) n).2 n))) u7 u8 u9 u10 t) rfl (ev_p2 (o_var (i := 6) rfl) (o_var (i := 5) rfl) d) rfl (by rw [List.length_map, l2]; omega)
        rw [ap, eL', links', if_neg h0]
        show Out.ok MP.Fl.nx (S.mk [_, _, _, _, .own (_ ++ [_]), _, _, _, _, _, _] _) = _
        unfold eC
        rw [List.map_append]
        rfl
  obtain ⟨s6', s7', s8', s9', s10', f7, fe⟩ := first
  refine ⟨s6', s7', s8', s9', s10', f7, ?_⟩
  refine turn_at (s1 := eC N r M (lawTab N (r : Nat) n).1 (lawTab N (r : Nat) n).2 (.val (.int (n : Nat))) s6 s7 s8 s9 s10 t) rfl ?_
  refine b_cons fe (b_cons ?_ b_nil)
  have l4 : (lawTab N (r : Nat) (n + 1)).2.length = n + 1 := by rw [l2', if_neg (by omega)]
  have C := comp_map (cf := callF FF 100000 (m + 1)) (elt := (.prim .mul (.cons (.call 17 (.cons (.var 0) (.cons (.var 7) .nil))) (.cons (.prim .item (.cons (.peek 4) (.cons (.prim .sub (.cons (.var 5) (.cons (.var 7) .nil))) .nil))) .nil)))) (i := 7) (it := (.rng1 (.prim .add (.cons (.prim .min2 (.cons (.var 5) (.cons (.var 0) .nil))) (.cons (.con (.int 1)) .nil))))) (s := eC N r M (lawTab N (r : Nat) n).1 (lawTab N (r : Nat) (n + 1)).2 (.val (.int (n : Nat))) s6' s7' s8' s9' s10' t) (ys := List.range (min n N + 1)) (h := fun k : Nat => D.int (k : Nat))
    (fun k => .int (chooseI N k * (lawTab N (r : Nat) (n + 1)).2.getD (n - k) 0)) (by rcases f7 with f | ⟨d, f⟩ <;> rw [f] <;> first | exact .inl rfl | exact .inr ⟨d, rfl⟩) (i_rng (n := min n N + 1) (ev_p2 (o_prim (ev_p2 (o_var rfl) (o_var rfl) (p_min_nat _ _))) o_con (p_add_nat _ 1)) (by omega))
    (fun k hk => by
      have hk := List.mem_range.mp hk
      exact ev_p2 (o_call (v_call (v_l2 (v_var rfl) (v_var rfl)) (sp_law_choose m _ (Nat.le_refl 10) (small_nat (by omega)) (by omega) (by omega) (by omega)))) (o_prim (ev_p2 (o_peek rfl) (o_prim (ev_p2 (o_var rfl) (o_var rfl) (p_sub_nat (by omega)))) (p_item_ints (by omega)))) (p_mul_ok (choose_abs (Nat.le_refl 10) (small_nat (by omega)) (by omega)) (hL'.at _) (by omega)))
    (by rw [List.length_range]; omega)
  have sm := ev_p1 (o_comp C) (p_sum_map (fun k => chooseI N k * (lawTab N (r : Nat) (n + 1)).2.getD (n - k) 0) (List.range (min n N + 1)))
  have ap := st_app_ok (wf := 100000) (i := 3) rfl sm rfl (by rw [List.length_map, l1]; omega)
  rw [ap]
  have eS' : (lawTab N (r : Nat) (n + 1)).1 = (lawTab N (r : Nat) n).1 ++ [((List.range (min n N + 1)).map fun k => chooseI N k * (lawTab N (r : Nat) (n + 1)).2.getD (n - k) 0).sum] := by
    rw [eL', lawTab_succ]
    rfl
  rw [eS']
  show Out.ok MP.Fl.nx (S.mk [_, _, _, .own (_ ++ [_]), _, _, _, _, _, _, _] _) = _
  unfold eC
  rw [List.map_append]
  rfl
end K78
end
section
set_option Elab.async false
set_option linter.all false
set_option maxRecDepth 100000
set_option maxHeartbeats 4000000
/-! _law_counts, all in all; told -/
namespace K78
open PySem MP
theorem v_ownf {cf : CF} {i : Nat} {s : S} {xs : List D} (h : s.loc[i]? = some (.own xs)) : evalE cf (.var i) s = .ok (.lst xs) { s with loc := s.loc.set i (.val (.lst xs)) } := by
  rw [ev_var, rdVar, h]
theorem sp_counts (m : Nat) {N r M e : Nat} (t : Sto) (h : TabOk N r M e) : callF FF 100000 (m + 2) 18 [.int (N : Nat), .int (r : Nat), .int (M : Nat)] t = .ok (.lst ((lawTab N (r : Nat) (M + 1)).1.map .int)) t := by
  have hM := h.hM
  refine fn_at (by rfl) rfl ?_
  have key := forLoop_ord (f := fun d s2 => ofOpt (MP.assign (.nm 5) d s2) fun s => evalSs (callF FF 100000 (m + 1)) 100000 cOut s) (fun k : Nat => D.int (k : Nat)) (fun p s => ∃ s5 s6 s7 s8 s9 s10, (s7 = .unb ∨ ∃ d, s7 = .val d) ∧ s = eC N r M (lawTab N (r : Nat) p.length).1 (lawTab N (r : Nat) p.length).2 s5 s6 s7 s8 s9 s10 t) (List.range (M + 1)) (eC N r M [] [1] .unb .unb .unb .unb .unb .unb t) ⟨.unb, .unb, .unb, .unb, .unb, .unb, .inl rfl, rfl⟩
    (fun p y q s hy ⟨s5, s6, s7, s8, s9, s10, h7, e1⟩ => by
      obtain ⟨rfl, yl⟩ := range_item hy
      obtain ⟨u6, u7, u8, u9, u10, f7, fe⟩ := turn_size m (t := t) h (n := p.length) (by omega) s5 s6 s7 s8 s9 s10 h7
      refine ⟨_, by rw [e1]; exact fe, .val (.int (p.length : Nat)), u6, u7, u8, u9, u10, f7, ?_⟩
      rw [List.length_append]
      rfl)
  obtain ⟨s', e1, s5, s6, s7, s8, s9, s10, _, e2⟩ := key
  rw [List.length_range] at e2
  refine run_ret (s' := { s' with loc := s'.loc.set 3 (.val (.lst ((lawTab N (r : Nat) (M + 1)).1.map .int))) }) ?_ (by rw [e2]; rfl)
  have o3 : evalS (callF FF 100000 (m + 1)) 100000 (.own 3 (.lst .nil)) { loc := [.val (.int (N : Nat)), .val (.int (r : Nat)), .val (.int (M : Nat)), .unb, .unb, .unb, .unb, .unb, .unb, .unb, .unb], sto := t } = .ok .nx { loc := [.val (.int (N : Nat)), .val (.int (r : Nat)), .val (.int (M : Nat)), .own [], .unb, .unb, .unb, .unb, .unb, .unb, .unb], sto := t } := st_own_ok (v_lst (evL_nil _ _) (by simp)) (by simp)
  have o4 : evalS (callF FF 100000 (m + 1)) 100000 (.own 4 (.lst (.cons (.con (.int 1)) .nil))) { loc := [.val (.int (N : Nat)), .val (.int (r : Nat)), .val (.int (M : Nat)), .own [], .unb, .unb, .unb, .unb, .unb, .unb, .unb], sto := t } = .ok .nx (eC N r M [] [1] .unb .unb .unb .unb .unb .unb t) := st_own_ok (v_lst (v_l1 v_con) (by simp)) (by simp)
  refine b_cons o3 (b_cons o4 (b_cons (s_for (i_rng (n := M + 1) (ev_p2 (o_var rfl) o_con (p_add_nat M 1)) (by omega)) e1) (b_last (s_retc ?_))))
  rw [e2]
  exact v_ownf rfl
end K78
end
section
set_option Elab.async false
set_option linter.all false
set_option maxRecDepth 1000000
set_option maxHeartbeats 0
/-! both ways to reckon tell the same -/
namespace K78
open PySem MP
def chk (N r M : Nat) : Bool := decide ((lawTab N (r : Nat) (M + 1)).1 = (fast (M + 2) N (r : Nat) (M + 1)).2.1) && ((lawTab N (r : Nat) (M + 1)).1.all fun x => decide (0 ≤ x) && decide (x < 2 ^ 1919)) && (lawTab N (r : Nat) (M + 1)).2.all fun x => decide (x.natAbs ≤ 2 ^ 1990)
structure Same (N r M : Nat) : Prop where
  ok : TabOk N r M 40000
  eq : (lawTab N (r : Nat) (M + 1)).1 = (List.range (M + 1)).map (sz N (r : Nat))
  rg : ∀ s, s ≤ M → ∃ k : Nat, sz N (r : Nat) s = k ∧ k < 2 ^ 1919
theorem tab_of {N r M : Nat} (hN : N ≤ 24) (hr : r ≤ 24) (hM : M ≤ 40) (h : chk N r M = true) : Same N r M := by
  unfold chk at h
  rw [Bool.and_eq_true, Bool.and_eq_true, decide_eq_true_eq, List.all_eq_true, List.all_eq_true] at h
  obtain ⟨⟨h1, h3⟩, h2⟩ := h
  have e := h1.trans (fast_ok (M + 2) N (r : Nat) (M + 1) (by omega)).2.1
  have hr' : ((r : Nat) : Int).natAbs ≤ 24 := by rw [Int.natAbs_natCast]; exact hr
  refine ⟨⟨hN, hr, hM, Nat.le_refl _, fun x hx => ?_, fun x hx => pow_up (of_decide_eq_true (h2 x hx)) (by omega)⟩, e, fun s hs => ?_⟩
  · rw [e] at hx
    obtain ⟨s, hs, rfl⟩ := List.mem_map.mp hx
    have hs := List.mem_range.mp hs
    refine pow_up (sz_abs hN hr' s (by omega)) ?_
    have := Nat.mul_le_mul (show s + 1 ≤ 41 by omega) (show s + 2 ≤ 42 by omega)
    omega
  · have z := h3 (sz N (r : Nat) s) (by rw [e]; exact List.mem_map.mpr ⟨s, List.mem_range.mpr (by omega), rfl⟩)
    rw [Bool.and_eq_true, decide_eq_true_eq, decide_eq_true_eq] at z
    generalize sz N (r : Nat) s = x at z
    obtain ⟨k, rfl⟩ : ∃ k : Nat, x = k := ⟨x.toNat, by omega⟩
    refine ⟨k, rfl, ?_⟩
    have z2 := z.2
    have c : ((2 : Int) ^ 1919) = ((2 ^ 1919 : Nat) : Int) := (Int.natCast_pow 2 1919).symm
    rw [c] at z2
    exact Int.ofNat_lt.mp z2
theorem tab_down {N r M k : Nat} (hk : k ≤ M) (h : Same N r M) : Same N r k := by
  obtain ⟨t, e, g⟩ := h
  obtain ⟨u1, u2⟩ := lawTab_up N (r : Nat) (n := k + 1) (k := M + 1) (by omega)
  have := t.hM
  refine ⟨⟨t.hN, t.hr, by omega, Nat.le_refl _, fun x hx => t.hs x (u1 x hx), fun x hx => t.hl x (u2 x hx)⟩, ?_, fun s hs => g s (by omega)⟩
  rw [lawTab_take N (r : Nat) (n := k + 1) (k := M + 1) (by omega), e, ← List.map_take, List.take_range, Nat.min_eq_left (by omega)]
theorem chk_small : ∀ N : Fin 6, ∀ r : Fin 4, chk N.val r.val 14 = true := by decide +kernel
theorem chk_1 : chk 24 24 40 = true := by decide +kernel
theorem chk_2 : chk 1 1 40 = true := by decide +kernel
theorem chk_3 : chk 0 3 40 = true := by decide +kernel
theorem chk_4 : chk 24 1 40 = true := by decide +kernel
end K78
end
section
set_option Elab.async false
set_option linter.all false
set_option maxRecDepth 100000
set_option maxHeartbeats 4000000
/-! good words, told -/
namespace K78
open PySem MP
structure Wds (a : Row) : Prop where
  nm : ∀ x ∈ a, NameOk x
  srt : a.Pairwise sLt
  len : a.length ≤ 24
theorem o_glob {cf : CF} {x : Str} {d : D} {s : S} : ev1 cf (.glob x d) s = .ok d s := by rw [op_glob, ev_glob]
theorem ev_not2 {cf : CF} {a : PE} {s : S} {b : Bool} (h : evalE cf a s = .ok (.bl b) s) : evalE cf (.nt a) s = .ok (.bl !b) s := ev_not h
theorem sp_check_words (m : Nat) {a b : Row} (ha : Wds a) (hb : Wds b) (t : Sto) : callF FF 100000 (m + 2) 2 [.tup [setD a, setD b]] t = .ok .non t := by
  have la := ha.len
  have lb := hb.len
  let s : S := { loc := [.val (.tup [setD a, setD b]), .val (setD a), .val (setD b), .unb], sto := t }
  refine fn_at (by rfl) rfl ?_
  refine run_ret (s' := s) ?_ rfl
  have g1 : evalE (callF FF 100000 (m + 1)) (.prim .gt (.cons (.prim .len (.cons (.var 1) .nil)) (.cons (.glob "MAX_WORDS" (.int (24))) .nil))) s = .ok (.bl false) s := by
    have z := ev_p2 (cf := callF FF 100000 (m + 1)) (s := s) (o_prim (ev_p1 (o_var (i := 1) rfl) (p_len_tup (a.map .str)))) (o_glob (x := "MAX_WORDS") (d := .int 24)) (p_gt_int _ _)
    rw [decide_eq_false (by rw [List.length_map]; omega)] at z
    exact z
  have g2 : evalE (callF FF 100000 (m + 1)) (.prim .gt (.cons (.prim .len (.cons (.var 2) .nil)) (.cons (.glob "MAX_WORDS" (.int (24))) .nil))) s = .ok (.bl false) s := by
    have z := ev_p2 (cf := callF FF 100000 (m + 1)) (s := s) (o_prim (ev_p1 (o_var (i := 2) rfl) (p_len_tup (b.map .str)))) (o_glob (x := "MAX_WORDS") (d := .int 24)) (p_gt_int _ _)
    rw [decide_eq_false (by rw [List.length_map]; omega)] at z
    exact z
  have ad : prim .add [setD a, setD b] = some (.tup ((a ++ b).map .str)) := by
    show (if (a.map D.str).length + (b.map D.str).length ≤ 16777216 then some (D.tup (a.map .str ++ b.map .str)) else none) = _
    rw [if_pos (by rw [List.length_map, List.length_map]; omega), List.map_append]
  have C := comp_map (cf := callF FF 100000 (m + 1)) (elt := (.call 0 (.cons (.var 3) .nil))) (i := 3) (it := (.seq (.prim .add (.cons (.var 1) (.cons (.var 2) .nil))))) (s := s) (ys := a ++ b) (h := D.str) (fun _ => .bl true) (.inl rfl) (i_seq (o_prim (ev_p2 (o_var rfl) (o_var rfl) ad)) rfl)
    (fun x hx => v_call (v_l1 (v_var rfl)) (sp_is_name m _ ((List.mem_append.mp hx).elim (ha.nm x) (hb.nm x)))) (by rw [List.length_append]; omega)
  have al : prim .all [.lst ((a ++ b).map fun _ => D.bl true)] = some (.bl true) := by
    rw [p_all_map (a ++ b) fun _ => true, all_true]
  have n1 := ev_not2 (ev_p1 (o_comp C) al)
  have r1 : evalE (callF FF 100000 (m + 1)) (.call 1 (.cons (.var 1) .nil)) s = .ok (.bl true) s := v_call (v_l1 (v_var rfl)) (sp_rising m _ ha.srt (by omega))
  have r2 : evalE (callF FF 100000 (m + 1)) (.call 1 (.cons (.var 2) .nil)) s = .ok (.bl true) s := v_call (v_l1 (v_var rfl)) (sp_rising m _ hb.srt (by omega))
  refine b_cons (s1 := s) (s_to (v_var rfl) rfl) ?_
  refine b_cons (st_skip (ev_or2 g1 g2)) ?_
  refine b_cons (st_skip n1) ?_
  refine b_cons (st_skip (ev_or2 (ev_not2 r1) (ev_not2 r2))) ?_
  exact b_last (s_retc v_con)
theorem sp_check_counted (m : Nat) {a b : Row} (ha : Wds a) (hb : Wds b) {k : Nat} (hk : k ≤ 40) (t : Sto) : callF FF 100000 (m + 3) 3 [.tup [setD a, setD b], .int (k : Nat)] t = .ok .non t := by
  let s : S := { loc := [.val (.tup [setD a, setD b]), .val (.int (k : Nat))], sto := t }
  refine fn_at (by rfl) rfl ?_
  refine run_ret (s' := s) ?_ rfl
  have g1 : evalE (callF FF 100000 (m + 2)) (.prim .gt (.cons (.var 1) (.cons (.glob "MAX_COUNTED" (.int (40))) .nil))) s = .ok (.bl false) s := by
    have z := ev_p2 (cf := callF FF 100000 (m + 2)) (s := s) (o_var (i := 1) rfl) (o_glob (x := "MAX_COUNTED") (d := .int 40)) (p_gt_int _ _)
    rw [decide_eq_false (by omega)] at z
    exact z
  have g2 : evalE (callF FF 100000 (m + 2)) (.prim .lt (.cons (.var 1) (.cons (.con (.int 0)) .nil))) s = .ok (.bl false) s := by
    have z := ev_p2 (cf := callF FF 100000 (m + 2)) (s := s) (o_var (i := 1) rfl) (o_con (d := .int 0)) (p_lt_int _ _)
    rw [decide_eq_false (by omega)] at z
    exact z
  refine b_cons (s1 := s) ?_ (b_cons (st_skip g1) (b_cons (st_skip g2) (b_last (s_retc v_con))))
  rw [st_expr, v_call (v_l1 (v_var rfl)) (sp_check_words m ha hb t)]
  rfl
theorem under_strs (n : Nat) : ∀ a : Row, underL n (a.map D.str) = true
  | [] => rfl
  | x :: a => by
    rw [List.map_cons, underL, under_strs n a]
    rfl
/-- _law_told(words, k) -/
theorem sp_told (m : Nat) {a b : Row} (ha : Wds a) (hb : Wds b) {k : Nat} (hk : k ≤ 40) {t : Sto} (ht : ∀ c ∈ t, Fl c) (hm : 2 * k + 7 ≤ m + 3) : callF FF 100000 (m + 5) 19 [.tup [setD a, setD b], .int (k : Nat)] t = .ok (.tup [.str "told", .int (sz a.length (b.length : Nat) k)]) t := by
  have hq : CnOk ⟨t, a.map .str, b.map .str⟩ := ⟨ht, fun n => under_strs n a, fun n => under_strs n b, by rw [List.length_map]; exact ha.len, by rw [List.length_map]; exact hb.len⟩
  have bd : Bd (a.map D.str).length (((b.map D.str).length : Nat) : Int) := bd_all hq.nl (by rw [Int.natAbs_natCast]; exact hq.rll)
  obtain ⟨e, h⟩ := sp_count (h := m + 3) hq bd hk hm (sp_check_counted m ha hb hk t)
  rw [List.length_map, List.length_map] at h
  let s : S := { loc := [.val (.tup [setD a, setD b]), .val (.int (k : Nat)), .unb], sto := t }
  have c : evalE (callF FF 100000 (m + 4)) (.call 11 (.cons (.var 0) (.cons (.var 1) .nil))) s = .ok (.int (sz a.length (b.length : Nat) k)) s := by
    rw [ev_call, v_l2 (s := s) (v_var (i := 0) rfl) (v_var (i := 1) rfl)]
    exact callO_trim (s := s) (t := t) (e := e) h rfl (List.all_eq_true.mpr fun c hc => ht c hc _)
  refine fn_at (by rfl) rfl ?_
  refine run_ret (s' := s) ?_ rfl
  refine b_last ?_
  rw [st_try]
  have w : evalSs (callF FF 100000 (m + 4)) 100000 (.cons (.ret (.tup (.cons (.con (.str "told")) (.cons (.call 11 (.cons (.var 0) (.cons (.var 1) .nil))) .nil)))) .nil) s = .ok (.ret (.tup [.str "told", .int (sz a.length (b.length : Nat) k)])) s :=
    b_last (s_retc (v_tup (v_l2 v_con c) (by simp)))
  exact (congrArg (tryR _) w).trans rfl
end K78
end
section
set_option Elab.async false
set_option linter.all false
set_option maxRecDepth 100000
set_option maxHeartbeats 4000000
set_option exponentiation.threshold 5000
namespace K78
open PySem MP
structure Wd (n b : Nat) (d : D) : Prop where
  fl : d.flat = true
  sh : d.pd.showable = true
  lv : d.pd.leavesShort 600 = true
  tx : ok1 d.pd.shown
  dp : d.pd.depth ≤ n
  bk : d.pd.bulk ≤ b
structure WdL (n b : Nat) (l : List D) : Prop where
  fl : flatL l = true
  sh : PyData.showableAll (pdL l) = true
  lv : PyData.leavesShortAll 600 (pdL l) = true
  tx : ∀ t ∈ PyData.shownAll (pdL l), ok1 t
  dp : PyData.depthAll (pdL l) ≤ n
  bk : PyData.bulkAll (pdL l) ≤ b
theorem Wd.mono {n b n' b' : Nat} {d : D} (h : Wd n b d) (h1 : n ≤ n') (h2 : b ≤ b') : Wd n' b' d := ⟨h.fl, h.sh, h.lv, h.tx, Nat.le_trans h.dp h1, Nat.le_trans h.bk h2⟩
theorem WdL.mono {n b n' b' : Nat} {l : List D} (h : WdL n b l) (h1 : n ≤ n') (h2 : b ≤ b') : WdL n' b' l := ⟨h.fl, h.sh, h.lv, h.tx, Nat.le_trans h.dp h1, Nat.le_trans h.bk h2⟩
theorem wd_str {x : Str} (h : PyData.strOk x = true) : Wd 0 x.cps.size (.str x) := by
  have h' := ok1_iff.mp h
  refine ⟨rfl, rfl, ?_, ?_, Nat.zero_le _, Nat.le_refl _⟩
  · show (x.cps.toList.all fun c => decide (c < 16 ^ 8)) = true
    rw [List.all_eq_true]
    intro c hc
    have := h' c hc
    rw [decide_eq_true_eq]
    omega
  · show ok1 (PyData.str x).shown
    rw [PyData.shown_str]
    exact ok1_repr h'
theorem pow_small : (2 : Nat) ^ 1919 < 10 ^ 599 := by decide +kernel
theorem wd_nat {k : Nat} (h : k < 2 ^ 1919) : Wd 0 0 (.int (k : Nat)) := by
  refine ⟨rfl, ?_, ?_, ?_, Nat.zero_le _, Nat.le_refl _⟩
  · show decide (((k : Nat) : Int).natAbs.log2 < 1920) = true
    rw [decide_eq_true_eq, Int.natAbs_natCast]
    by_cases z : k = 0
    · rw [z]; decide
    · exact (Nat.log2_lt z).mpr (Nat.lt_trans h (Nat.pow_lt_pow_right (by omega) (by omega)))
  · show decide ((PyData.shown (.int (k : Nat))).length ≤ 600) = true
    have e := int_text_length_le10 (a := ((k : Nat) : Int)) (k := 599) (by omega) (by rw [Int.natAbs_natCast]; exact Nat.lt_trans h pow_small)
    rw [decide_eq_true_eq]
    show (Str.ofString (toString ((k : Nat) : Int))).length ≤ 600
    rw [ofString_length]
    exact e
  · show ok1 (PyData.int (k : Nat)).shown
    rw [PyData.shown_int]
    exact ok1_string _
theorem wdl_nil (n : Nat) : WdL n 0 [] := ⟨rfl, rfl, rfl, by simp [pdL, PyData.shownAll], Nat.zero_le _, Nat.le_refl _⟩
theorem wdl_cons {n b c : Nat} {d : D} {l : List D} (h : Wd n b d) (h2 : WdL n c l) : WdL n (b + 1 + c) (d :: l) := by
  refine ⟨by simp [flatL, h.fl, h2.fl], by simp [pdL, PyData.showableAll, h.sh, h2.sh], by simp [pdL, PyData.leavesShortAll, h.lv, h2.lv], ?_, ?_, ?_⟩
  · intro u hu
    rw [pdL, PyData.shownAll_cons] at hu
    rcases List.mem_cons.mp hu with rfl | hu
    · exact h.tx
    · exact h2.tx u hu
  · simp only [pdL, PyData.depthAll]
    have := h.dp
    have := h2.dp
    omega
  · simp only [pdL, PyData.bulkAll]
    have := h.bk
    have := h2.bk
    omega
theorem wd_tup {n b : Nat} {l : List D} (h : WdL n b l) : Wd (n + 1) b (.tup l) := by
  refine ⟨h.fl, h.sh, h.lv, ?_, ?_, h.bk⟩
  · show ok1 (PyData.tuple (pdL l)).shown
    simp only [PyData.shown]
    exact ok1_tuple _ h.tx
  · show PyData.depthAll (pdL l) + 1 ≤ n + 1
    have := h.dp
    omega
theorem wd_lst {n b : Nat} {l : List D} (h : WdL n b l) : Wd (n + 1) b (.lst l) := by
  refine ⟨h.fl, h.sh, h.lv, ?_, ?_, h.bk⟩
  · show ok1 (PyData.list (pdL l)).shown
    simp only [PyData.shown]
    exact ok1_list _ h.tx
  · show PyData.depthAll (pdL l) + 1 ≤ n + 1
    have := h.dp
    omega
theorem Wd.ok {n b : Nat} {d : D} (h : Wd n b d) (hn : n ≤ 60) (hb : b ≤ 27000) : reprOk d = true := by
  have := PyData.shown_le_bulk 600 (by omega) d.pd h.lv
  have h1 := h.bk
  have h2 := h.dp
  unfold reprOk
  simp only [h.fl, h.sh, Bool.true_and, Bool.and_eq_true, decide_eq_true_eq]
  omega
theorem Wd.repr {n b : Nat} {d : D} (h : Wd n b d) (hn : n ≤ 60) (hb : b ≤ 27000) : prim .repr [d] = some (.str d.pd.shown) := by
  show (if reprOk d then some (D.str d.pd.shown) else none) = _
  rw [if_pos (h.ok hn hb)]
theorem Wd.same (m : Nat) {n b : Nat} {d : D} (h : Wd n b d) (t : Sto) (hn : n ≤ 59) (hb : b ≤ 26000) : callF FF 100000 (m + 1) 12 [d, d] t = .ok (.bl true) t := by
  have hF : FF[12]? = some ⟨2, 2, b_law_same⟩ := rfl
  have hL : Wd (n + 1) (b + 1 + 0) (.lst [d]) := wd_lst (wdl_cons h (wdl_nil n))
  have p1 := hL.repr (by omega) (by omega)
  have p2 := p_eq_str (ok1_iff.mpr hL.tx) (ok1_iff.mpr hL.tx)
  rw [decide_eq_true rfl] at p2
  rw [callF_succ, hF]
  show (if [d, d].length = 2 then runRes (evalSs (callF FF 100000 m) 100000 b_law_same { loc := [d, d].map .val ++ List.replicate (2 - 2) .unb, sto := t }) else .bad) = _
  rw [if_pos (show [d, d].length = 2 from rfl)]
  unfold b_law_same
  simp [rdVar, p1, p2]
theorem wd_names : ∀ {l : Row}, (∀ x ∈ l, NameOk x) → WdL 0 (13 * l.length) (l.map D.str)
  | [], _ => wdl_nil 0
  | x :: l, h => by
    have hx := h x List.mem_cons_self
    have a := wd_str hx.ok
    have := hx.l2
    refine (wdl_cons a (wd_names fun y hy => h y (List.mem_cons_of_mem _ hy))).mono (Nat.le_refl _) ?_
    rw [List.length_cons]
    omega
theorem wd_set {l : Row} (h : ∀ x ∈ l, NameOk x) : Wd 1 (13 * l.length) (setD l) := wd_tup (wd_names h)
end K78
end
section
set_option Elab.async false
set_option linter.all false
set_option maxRecDepth 100000
set_option maxHeartbeats 4000000
/-! the last lines of the law: wide words -/
namespace K78
open PySem MP
def wideR : Row := (List.range 24).map fun k => Str.ofString ("n" ++ toString (k + 100))
theorem wide_names : ∀ x ∈ wideR, NameOk x := by
  have h : wideR.all (fun x => decide (1 ≤ x.cps.size) && decide (x.cps.size ≤ 12) && decide (x ≠ ("any" : Str)) && decide (x.cps.getD 0 0 ∈ firs.cps.toList) && x.cps.toList.all fun c => decide (c ∈ sigs.cps.toList)) = true := by decide +kernel
  intro x hx
  have z := List.all_eq_true.mp h x hx
  simp only [Bool.and_eq_true, decide_eq_true_eq, List.all_eq_true] at z
  obtain ⟨⟨⟨⟨h1, h2⟩, h3⟩, h4⟩, h5⟩ := z
  constructor <;> assumption
theorem wide_rising : wideR.Pairwise sLt := by
  have : ∀ (l : List Str), (l.all fun x => true) = true → True := fun _ _ => trivial
  unfold sLt
  decide +kernel
theorem wide_len : wideR.length = 24 := by decide +kernel
theorem wide_take (k : Nat) : Wds (wideR.take k) := ⟨fun x hx => wide_names x (List.mem_of_mem_take hx), wide_rising.sublist (List.take_sublist _ _), by rw [List.length_take, wide_len]; exact Nat.min_le_right _ _⟩
theorem wd_sz {N r M : Nat} (h : Same N r M) {s : Nat} (hs : s ≤ M) : Wd 0 0 (.int (sz N (r : Nat) s)) := by
  obtain ⟨k, e, hk⟩ := h.rg s hs
  rw [e]
  exact wd_nat hk
theorem wd_told {N r M : Nat} (h : Same N r M) {s : Nat} (hs : s ≤ M) : Wd 1 6 (tell (.int (sz N (r : Nat) s))) :=
  wd_tup (wdl_cons ((wd_str told_ok).mono (Nat.le_refl _) (by decide +kernel : _ ≤ 4)) (wdl_cons (wd_sz h hs) (wdl_nil _)))
theorem w1 (nums : List Int) (c : Int) : callF FF 100000 99 19 [.tup [setD wideR, setD wideR], .int 41] (St nums c) = .ok (.str "large") (St nums c) := by kernel_rfl
theorem w2 (nums : List Int) (c : Int) : callF FF 100000 99 19 [.tup [setD (wideR ++ [("o" : Str)]), .tup []], .int (-1)] (St nums c) = .ok (.str "large") (St nums c) := by kernel_rfl
theorem w3 (nums : List Int) (c : Int) : callF FF 100000 99 19 [.tup [setD wideR, setD wideR], .int (-1)] (St nums c) = .ok (.str "refused") (St nums c) := by kernel_rfl
theorem w4 (nums : List Int) (c : Int) : callF FF 100000 99 19 [.tup [.tup [.str "b", .str "a"], .tup []], .int 41] (St nums c) = .ok (.str "refused") (St nums c) := by kernel_rfl
theorem sz_none : sz 24 ((0 : Nat) : Int) 25 = 0 := by
  have h := (fast_ok 27 24 ((0 : Nat) : Int) 26 (by omega)).2.1
  have e : ((fast 27 24 ((0 : Nat) : Int) 26).2.1).getD 25 0 = sz 24 ((0 : Nat) : Int) 25 := by rw [h, getD_map _ _ (by omega)]
  rw [← e]
  decide +kernel
theorem fl_St (nums : List Int) (c : Int) : ∀ x ∈ St nums c, Fl x := fun x hx n => by
  unfold St at hx
  rw [List.mem_singleton] at hx
  subst hx
  show underL n [.lst (nums.map .int), .int c] = true
  have : underL n (nums.map D.int) = true := under_ints n (fun i => i) nums
  simp only [underL, D.under, this, Bool.and_self]
theorem w5 (nums : List Int) (c : Int) : callF FF 100000 99 19 [.tup [setD wideR, .tup []], .int 25] (St nums c) = .ok (tell (.int 0)) (St nums c) := by
  have h0 : Wds [] := ⟨fun x hx => absurd hx (by simp), List.Pairwise.nil, Nat.zero_le _⟩
  have hw : Wds wideR := ⟨wide_names, wide_rising, by rw [wide_len]; exact Nat.le_refl _⟩
  have := sp_told 94 hw h0 (k := 25) (by omega) (fl_St nums c) (by omega)
  rw [wide_len] at this
  have e : sz 24 (([] : Row).length : Nat) 25 = 0 := sz_none
  rw [e] at this
  exact this
end K78
end
section
set_option Elab.async false
set_option linter.all false
set_option maxRecDepth 100000
set_option maxHeartbeats 4000000
set_option exponentiation.threshold 5000
namespace K78
open PySem MP
def LinkT : Nat → Type
  | 0 => Empty
  | n + 1 => Str × (Row × List (LinkT n))
abbrev Con (n : Nat) : Type := Row × List (LinkT n)
def linkD : (n : Nat) → LinkT n → D
  | 0, l => nomatch l
  | n + 1, l => .tup [.str l.1, .tup [setD l.2.1, .tup (l.2.2.map (linkD n))]]
def conD (n : Nat) (c : Con n) : D := .tup [setD c.1, .tup (c.2.map (linkD n))]
def role : (n : Nat) → LinkT n → Str
  | 0, l => nomatch l
  | _ + 1, l => l.1
def subD : (n : Nat) → LinkT n → D
  | 0, l => nomatch l
  | n + 1, l => conD n l.2
theorem linkD_eq : ∀ (n : Nat) (l : LinkT n), linkD n l = .tup [.str (role n l), subD n l]
  | 0, l => nomatch l
  | _ + 1, _ => rfl
theorem p_item_con0 (n : Nat) (c : Con n) : prim .item [conD n c, .int 0] = some (setD c.1) := rfl
theorem p_item_con1 (n : Nat) (c : Con n) : prim .item [conD n c, .int 1] = some (.tup (c.2.map (linkD n))) := rfl
theorem deref_con (t : Sto) (n : Nat) (c : Con n) : deref t (conD n c) = conD n c := rfl
theorem deref_link (t : Sto) (n : Nat) (l : LinkT n) : deref t (linkD n l) = linkD n l := by rw [linkD_eq]; rfl
theorem deref_sub (t : Sto) : ∀ (n : Nat) (l : LinkT n), deref t (subD n l) = subD n l
  | 0, l => nomatch l
  | _ + 1, _ => rfl
/-- all texts in it can be laid -/
def okL : (n : Nat) → LinkT n → Prop
  | 0, l => nomatch l
  | n + 1, l => PyData.strOk l.1 = true ∧ okStrs l.2.1 ∧ l.2.2.length ≤ 100 ∧ ∀ k ∈ l.2.2, okL n k
def okC (n : Nat) (c : Con n) : Prop := okStrs c.1 ∧ c.2.length ≤ 100 ∧ ∀ l ∈ c.2, okL n l
theorem okL_role : ∀ {n : Nat} {l : LinkT n}, okL n l → PyData.strOk (role n l) = true
  | 0, l, _ => nomatch l
  | _ + 1, _, h => h.1
mutual
theorem flat_links : ∀ (n : Nat) (ls : List (LinkT n)), flatL (ls.map (linkD n)) = true
  | n, [] => rfl
  | n, l :: ls => by
    rw [List.map_cons, flatL, flat_links n ls, flat_link n l]
    rfl
theorem flat_link : ∀ (n : Nat) (l : LinkT n), (linkD n l).flat = true
  | 0, l => nomatch l
  | n + 1, l => by
    have h := flat_links n l.2.2
    have h2 := setD_flat l.2.1
    simp only [linkD, D.flat, flatL, h, h2, Bool.and_true, Bool.true_and]
end
theorem flat_con (n : Nat) (c : Con n) : (conD n c).flat = true := by
  have h := flat_links n c.2
  have h2 := setD_flat c.1
  simp only [conD, D.flat, flatL, h, h2, Bool.and_true]
def decL : (n : Nat) → DecidableEq (LinkT n)
  | 0 => fun a _ => nomatch a
  | n + 1 => have := decL n; inferInstanceAs (DecidableEq (Str × (Row × List (LinkT n))))
instance (n : Nat) : DecidableEq (LinkT n) := decL n
theorem depth_all {n b : Nat} : ∀ {ls : List (LinkT n)}, (∀ l : LinkT n, (linkD n l).pd.depth ≤ b) → PyData.depthAll (pdL (ls.map (linkD n))) ≤ b
  | [], _ => by simp [pdL, PyData.depthAll]
  | l :: ls, h => by
    have h1 := h l
    have h2 := depth_all (ls := ls) h
    simp only [List.map_cons, pdL, PyData.depthAll]
    omega
theorem depth_link : ∀ (n : Nat) (l : LinkT n), (linkD n l).pd.depth ≤ 3 * n
  | 0, l => nomatch l
  | n + 1, (r, ns, ls) => by
    have e1 := strs_depth ns
    have e2 := depth_all (ls := ls) (depth_link n)
    show (D.tup [.str r, .tup [.tup (ns.map .str), .tup (ls.map (linkD n))]]).pd.depth ≤ _
    simp only [D.pd, pdL, PyData.depth, PyData.depthAll, e1]
    omega
theorem alike_all' {n : Nat} (k : ∀ l m : LinkT n, W.alike (linkD n l).pd (linkD n m).pd = true) : ∀ a b : List (LinkT n), W.alikeAll (pdL (a.map (linkD n))) (pdL (b.map (linkD n))) = true
  | [], [] => by simp [pdL, W.alikeAll]
  | [], _ :: _ => by simp [pdL, W.alikeAll]
  | _ :: _, [] => by simp [pdL, W.alikeAll]
  | x :: a, y :: b => by
    simp only [List.map_cons, pdL, W.alikeAll, alike_all' k a b, k x y, Bool.and_self]
theorem alike_link : ∀ (n : Nat) (l m : LinkT n), W.alike (linkD n l).pd (linkD n m).pd = true
  | 0, l, _ => nomatch l
  | n + 1, (r, ns, ls), (r', ns', ls') => by
    have h2 := alike_strs ns ns'
    have h3 := alike_all' (alike_link n) ls ls'
    show W.alike (D.tup [.str r, .tup [.tup (ns.map .str), .tup (ls.map (linkD n))]]).pd (D.tup [.str r', .tup [.tup (ns'.map .str), .tup (ls'.map (linkD n))]]).pd = true
    simp only [D.pd, pdL, W.alike, W.alikeAll, h2, h3, Bool.and_true]
theorem notNone_link (n : Nat) (l : LinkT n) : notNone (linkD n l) = true := by rw [linkD_eq]; rfl
theorem sortOk_links {n : Nat} (hn : n ≤ 20) (ls : List (LinkT n)) (h : ls.length ≤ 1000000) : sortOk (ls.map (linkD n)) = true := by
  unfold sortOk allAlike
  simp only [Bool.and_eq_true, List.all_eq_true, decide_eq_true_eq, List.length_map]
  refine ⟨⟨fun d hd => ?_, fun d hd e he => ?_⟩, by omega⟩
  · obtain ⟨l, -, rfl⟩ := List.mem_map.mp hd
    exact ⟨⟨flat_link n l, notNone_link n l⟩, by have := depth_link n l; omega⟩
  · obtain ⟨l, -, rfl⟩ := List.mem_map.mp hd
    obtain ⟨l', -, rfl⟩ := List.mem_map.mp he
    exact alike_link n l l'
def sortK (n : Nat) (ls : List (LinkT n)) : List (LinkT n) := ls.mergeSort (W.dataLe false fun l => (linkD n l).pd)
theorem sortD_links (n : Nat) (ls : List (LinkT n)) : sortD false (ls.map (linkD n)) = (sortK n ls).map (linkD n) := (W.sort_maps (linkD n) fun _ _ _ _ => rfl).symm
theorem sortK_perm (n : Nat) (ls : List (LinkT n)) : (sortK n ls).Perm ls := List.mergeSort_perm ls _
theorem p_sorted_links {n : Nat} (hn : n ≤ 20) (ls : List (LinkT n)) (h : ls.length ≤ 1000000) : prim .sorted [.lst (ls.map (linkD n))] = some (.lst ((sortK n ls).map (linkD n))) := by
  show (if sortOk (ls.map (linkD n)) then some (D.lst (sortD false (ls.map (linkD n)))) else none) = _
  rw [if_pos (sortOk_links hn ls h), sortD_links]
end K78
end
section
set_option Elab.async false
set_option linter.all false
set_option maxRecDepth 100000
set_option maxHeartbeats 4000000
/-! sizes of concepts, all concepts -/
namespace K78
open PySem MP
def szK : (n : Nat) → LinkT n → Nat
  | 0, l => nomatch l
  | n + 1, l => l.2.1.length + (l.2.2.map fun k => 1 + szK n k).sum
def szC (n : Nat) (c : Con n) : Nat := c.1.length + (c.2.map fun k => 1 + szK n k).sum
/-- rows are short -/
def shL : (n : Nat) → LinkT n → Prop
  | 0, l => nomatch l
  | n + 1, l => l.2.2.length ≤ 100000 ∧ ∀ k ∈ l.2.2, shL n k
def shC (n : Nat) (c : Con n) : Prop := c.2.length ≤ 100000 ∧ ∀ k ∈ c.2, shL n k
theorem sum_nat {α : Type} (g : α → Nat) (l : List α) : (l.map fun x => ((g x : Nat) : Int)).sum = ((l.map g).sum : Nat) := by
  induction l with
  | nil => rfl
  | cons x l ih => rw [List.map_cons, List.map_cons, List.sum_cons, List.sum_cons, ih, Int.natCast_add]
theorem sp_size_step (M n : Nat) {c : Con n} (t : Sto) (hl : c.2.length ≤ 100000) (ih : ∀ l ∈ c.2, callF FF 100000 M 21 [subD n l] t = .ok (.int (szK n l : Nat)) t) : callF FF 100000 (M + 1) 21 [conD n c] t = .ok (.int (szC n c : Nat)) t := by
  let s : S := { loc := [.val (conD n c), .unb, .unb], sto := t }
  refine fn_at (by rfl) rfl ?_
  refine run_ret (s' := s) ?_ rfl
  have C := comp_if2 (cf := callF FF 100000 M) (elt := (.prim .add (.cons (.con (.int 1)) (.cons (.call 21 (.cons (.var 2) .nil)) .nil)))) (i := 1) (j := 2) (it := (.seq (.prim .item (.cons (.var 0) (.cons (.con (.int 1)) .nil))))) (cs := .nil) (s := s) (ys := c.2) (h1 := fun l => .str (role n l)) (h2 := subD n) (fun _ => true) (fun l => .int ((1 + szK n l : Nat) : Int)) (.inl rfl) (.inl rfl) (by decide)
    (i_seq (o_prim (ev_p2 (o_var rfl) o_con (p_item_con1 n c))) (by
      show some (c.2.map (linkD n)) = _
      congr 1
      exact List.map_congr_left fun l _ => linkD_eq n l)) (fun y hy => evC_nil _ _)
    (fun y hy _ => by
      refine ev_p2 o_con (o_call (v_call (v_l1 (v_var rfl)) (ih y hy))) ?_
      show some (D.int (1 + (szK n y : Nat))) = _
      rw [Int.natCast_add]
      rfl) (by omega)
  rw [List.filter_eq_self.mpr (fun _ _ => rfl)] at C
  have sm := ev_p1 (o_comp C) (p_sum_map (fun l => ((1 + szK n l : Nat) : Int)) c.2)
  rw [sum_nat] at sm
  refine b_last (s_retc (ev_p2 (o_prim (ev_p1 (o_prim (ev_p2 (o_var rfl) o_con (p_item_con0 n c))) (p_len_tup (c.1.map .str)))) (o_prim sm) ?_))
  rw [List.length_map]
  exact p_add_nat _ _
theorem sp_sub : ∀ (n m : Nat) (l : LinkT n) (t : Sto), shL n l → callF FF 100000 (m + n) 21 [subD n l] t = .ok (.int (szK n l : Nat)) t
  | 0, _, l, _, _ => nomatch l
  | n + 1, m, l, t, h => sp_size_step (m + n) n (c := l.2) t h.1 fun k hk => sp_sub n m k t (h.2 k hk)
theorem sp_size (n m : Nat) {c : Con n} (t : Sto) (h : shC n c) : callF FF 100000 (m + n + 1) 21 [conD n c] t = .ok (.int (szC n c : Nat)) t := sp_size_step (m + n) n t h.1 fun l hl => sp_sub n m l t (h.2 l hl)
end K78
end
section
set_option Elab.async false
set_option linter.all false
set_option maxRecDepth 100000
set_option maxHeartbeats 4000000
/-! all subsets of a row -/
namespace K78
open PySem MP
def subT (f : List Row) (x : Str) : List Row := f ++ f.map (· ++ [x])
def subs (a : Row) : List Row := a.foldl subT [[]]
def eQ (a : Row) (f : List Row) (s2 s3 : MP.Slot) (t : Sto) : S := { loc := [.val (setD a), .val (.lst (f.map setD)), s2, s3], sto := t }
theorem p_snoc (a : Row) (x : Str) (h : a.length ≤ 1000) : prim .add [setD a, .tup [.str x]] = some (setD (a ++ [x])) := by
  show (if (a.map D.str).length + [D.str x].length ≤ 16777216 then some (D.tup (a.map .str ++ [.str x])) else none) = _
  rw [if_pos (by rw [List.length_map]; show a.length + 1 ≤ _; omega)]
  show _ = some (D.tup ((a ++ [x]).map .str))
  rw [List.map_append]
  rfl
theorem turn_sub (cf : CF) {a : Row} {f : List Row} {x : Str} {k : Nat} (t : Sto) (s2 s3 : MP.Slot) (h3 : s3 = .unb ∨ ∃ d, s3 = .val d) (hf : ∀ y ∈ f, y.length ≤ k) (hk : k ≤ 10) (hl : f.length ≤ 2 ^ k) :
    ∃ s3', (s3' = .unb ∨ ∃ d, s3' = .val d) ∧ (ofOpt (MP.assign (.nm 2) (.str x) (eQ a f s2 s3 t)) fun s => evalSs cf 100000 (.cons (.set (.nm 1) (.prim .add (.cons (.var 1) (.cons (.comp (.prim .add (.cons (.var 3) (.cons (.tup (.cons (.var 2) .nil)) .nil))) (.nm 3) (.seq (.var 1)) .nil [3]) .nil)))) .nil) s) = .ok .nx (eQ a (subT f x) (.val (.str x)) s3' t) := by
  have h10 : f.length ≤ 1024 := Nat.le_trans hl (Nat.le_trans (Nat.pow_le_pow_right (by omega) hk) (by decide))
  refine ⟨s3, h3, turn_at (s1 := eQ a f (.val (.str x)) s3 t) rfl ?_⟩
  have C := comp_map (cf := cf) (elt := (.prim .add (.cons (.var 3) (.cons (.tup (.cons (.var 2) .nil)) .nil)))) (i := 3) (it := (.seq (.var 1))) (s := eQ a f (.val (.str x)) s3 t) (ys := f) (h := setD) (fun y => setD (y ++ [x])) (by rcases h3 with h | ⟨d, h⟩ <;> rw [h] <;> first | exact .inl rfl | exact .inr ⟨d, rfl⟩) (i_seq (o_var rfl) rfl)
    (fun y hy => ev_p2 (y := D.tup [.str x]) (o_var rfl) (by rw [op_tup]; exact v_tup (v_l1 (v_var rfl)) (by simp)) (p_snoc y x (by have := hf y hy; omega))) (by omega)
  refine b_cons (s_to (ev_p2 (o_var rfl) (o_comp C) (p_add_lsts _ _ (by rw [List.length_map, List.length_map]; omega))) ?_) b_nil
  show some (S.mk _ _) = some (S.mk _ _)
  unfold subT
  rw [List.map_append, List.map_map]
  rfl
theorem sub_len (f : List Row) (x : Str) : (subT f x).length = 2 * f.length := by
  unfold subT
  rw [List.length_append, List.length_map]
  omega
theorem sp_subsets (m : Nat) {a : Row} (t : Sto) (ha : a.length ≤ 10) : callF FF 100000 (m + 1) 20 [setD a] t = .ok (.lst ((subs a).map setD)) t := by
  refine fn_at (by rfl) rfl ?_
  have key := forLoop_cnt (f := fun d s2 => ofOpt (MP.assign (.nm 2) d s2) fun s => evalSs (callF FF 100000 m) 100000 (.cons (.set (.nm 1) (.prim .add (.cons (.var 1) (.cons (.comp (.prim .add (.cons (.var 3) (.cons (.tup (.cons (.var 2) .nil)) .nil))) (.nm 3) (.seq (.var 1)) .nil [3]) .nil)))) .nil) s) D.str (fun k f s => (∀ y ∈ f, y.length ≤ k) ∧ f.length ≤ 2 ^ k ∧ ∃ s2 s3, (s3 = .unb ∨ ∃ d, s3 = .val d) ∧ s = eQ a f s2 s3 t) subT a.length a 0 [[]]
    (eQ a [[]] .unb .unb t) (by omega) (fun x hx k f s hk ⟨i1, i2, u2, u3, i3, i4⟩ => by
      obtain ⟨s3', j1, j2⟩ := turn_sub (callF FF 100000 m) (a := a) (x := x) t u2 u3 i3 i1 (by omega) i2
      refine ⟨_, by rw [i4]; exact j2, fun y hy => ?_, by rw [sub_len, Nat.pow_succ]; omega, _, s3', j1, rfl⟩
      unfold subT at hy
      rcases List.mem_append.mp hy with h | h
      · have := i1 y h; omega
      · obtain ⟨z, hz, rfl⟩ := List.mem_map.mp h
        have := i1 z hz
        rw [List.length_append]
        show z.length + 1 ≤ k + 1
        omega) ⟨fun y hy => by rw [List.mem_singleton.mp hy]; exact Nat.le_refl _, Nat.le_refl _, .unb, .unb, .inl rfl, rfl⟩
  obtain ⟨s', e1, _, _, u2, u3, _, e2⟩ := key
  refine run_ret (s' := s') ?_ (by rw [e2]; rfl)
  refine b_cons (s1 := eQ a [[]] .unb .unb t) (s_to (v_lst (v_l1 (v_tup (evL_nil _ _) (by simp))) (by simp)) rfl) ?_
  refine b_cons (s_for (i_seq (o_var rfl) rfl) e1) (b_last (s_retc ?_))
  rw [e2]
  exact v_var rfl
end K78
end
section
set_option Elab.async false
set_option linter.all false
set_option maxRecDepth 100000
set_option maxHeartbeats 4000000
/-! all concepts of a size: the links -/
namespace K78
open PySem MP
structure GA where
  s3 : MP.Slot := .unb
  s4 : MP.Slot := .unb
  s5 : MP.Slot := .unb
  s6 : MP.Slot := .unb
  s7 : MP.Slot := .unb
  s8 : MP.Slot := .unb
  s9 : MP.Slot := .unb
  s10 : MP.Slot := .unb
  s11 : MP.Slot := .unb
def eA (w fd : D) (g : GA) (t : Sto) : S := { loc := [.val w, .val (.int 4), .val fd, g.s3, g.s4, g.s5, g.s6, g.s7, g.s8, g.s9, g.s10, g.s11], sto := t }
def FreeS (s : MP.Slot) : Prop := s = .unb ∨ ∃ d, s = .val d
theorem evC_t {cf : CF} {e : PE} {s : S} {b : Bool} (h : evalE cf e s = .ok (.bl b) s) : evalC cf (.cons e .nil) s = .ok b s := by
  rw [evC_cons, h]
  cases b <;> simp
def csD (n : Nat) (f : List (Con n)) : D := .lst (f.map (conD n))
def lnk (n : Nat) (r : Str) (c : Con n) : LinkT (n + 1) := (r, c)
theorem lnk_D (n : Nat) (r : Str) (c : Con n) : linkD (n + 1) (lnk n r c) = .tup [.str r, conD n c] := rfl
def lnksT (n : Nat) (f : List (Con n)) (acc : List (LinkT (n + 1))) (r : Str) : List (LinkT (n + 1)) := acc ++ (f.filter fun c => decide (1 + szC n c ≤ 4)).map (lnk n r)
abbrev aLn : PS := (.ext 4 (.comp (.tup (.cons (.var 5) (.cons (.var 11) .nil))) (.nm 11) (.seq (.var 2)) (.cons (.prim .le (.cons (.prim .add (.cons (.con (.int 1)) (.cons (.call 21 (.cons (.var 11) .nil)) .nil))) (.cons (.var 1) .nil))) .nil) [11]))
theorem turn_lnk (m n : Nat) {w : D} {f : List (Con n)} (hf : ∀ c ∈ f, shC n c) (hl : f.length ≤ 10000) {acc : List (LinkT (n + 1))} (ha : acc.length ≤ 100000) (r : Str) (t : Sto) (g : GA) (h4 : g.s4 = .own (acc.map (linkD (n + 1)))) (h11 : FreeS g.s11) :
    (ofOpt (MP.assign (.nm 5) (.str r) (eA w (csD n f) g t)) fun s => evalSs (callF FF 100000 (m + n + 1)) 100000 (.cons aLn .nil) s) = .ok .nx (eA w (csD n f) { g with s4 := .own ((lnksT n f acc r).map (linkD (n + 1))), s5 := .val (.str r) } t) := by
  refine turn_at (s1 := eA w (csD n f) { g with s5 := .val (.str r) } t) rfl ?_
  have C := comp_if (cf := callF FF 100000 (m + n + 1)) (elt := (.tup (.cons (.var 5) (.cons (.var 11) .nil)))) (i := 11) (it := (.seq (.var 2))) (cs := (.cons (.prim .le (.cons (.prim .add (.cons (.con (.int 1)) (.cons (.call 21 (.cons (.var 11) .nil)) .nil))) (.cons (.var 1) .nil))) .nil)) (s := eA w (csD n f) { g with s5 := .val (.str r) } t) (ys := f) (h := conD n) (fun c => decide (1 + szC n c ≤ 4)) (fun c => linkD (n + 1) (lnk n r c))
    (by
      rcases h11 with h | ⟨d, h⟩
      · exact .inl (congrArg some h)
      · exact .inr ⟨d, congrArg some h⟩)
    (i_seq (o_var rfl) rfl)
    (fun c hc => by
      have z := ev_p2 (cf := callF FF 100000 (m + n + 1)) (p := .le) (b := .var 1) (s := { (eA w (csD n f) { g with s5 := .val (.str r) } t) with loc := (eA w (csD n f) { g with s5 := .val (.str r) } t).loc.set 11 (.val (conD n c)) }) (o_prim (ev_p2 (o_con (d := .int ((1 : Nat) : Int))) (o_call (v_call (v_l1 (v_var (i := 11) rfl)) (sp_size n m t (hf c hc)))) (p_add_nat 1 (szC n c)))) (o_var (d := .int 4) rfl) (p_le_int _ _)
      have e : decide (((1 + szC n c : Nat) : Int) ≤ 4) = decide (1 + szC n c ≤ 4) := decide_eq_decide.mpr (by omega)
      rw [e] at z
      exact evC_t z)
    (fun c hc _ => v_tup (v_l2 (v_var rfl) (v_var rfl)) (by simp)) (by omega)
  refine b_cons ?_ b_nil
  have l2 : ((f.filter fun c => decide (1 + szC n c ≤ 4)).map fun c => linkD (n + 1) (lnk n r c)).length ≤ 10000 := by rw [List.length_map]; exact Nat.le_trans (List.length_filter_le _ _) hl
  rw [ext_ok (xs0 := acc.map (linkD (n + 1))) (xs := acc.map (linkD (n + 1))) (by show some g.s4 = _; rw [h4]) C (by show some g.s4 = _; rw [h4]) (by rw [List.length_map]; omega)]
  show Out.ok MP.Fl.nx (S.mk _ _) = Out.ok MP.Fl.nx (S.mk _ _)
  unfold lnksT
  rw [List.map_append, List.map_map]
  rfl
end K78
end
section
set_option Elab.async false
set_option linter.all false
set_option maxRecDepth 100000
set_option maxHeartbeats 4000000
/-! all concepts of a size: the sets of links -/
namespace K78
open PySem MP
theorem free_at {s : S} {i : Nat} {x : MP.Slot} (e : s.loc[i]? = some x) (h : FreeS x) : Free s i := by
  rcases h with h | ⟨d, h⟩
  · exact .inl (by rw [e, h])
  · exact .inr ⟨d, by rw [e, h]⟩
def oneD (n : Nat) (one : List (LinkT n)) : D := .tup (one.map (linkD n))
def wt (n : Nat) (one : List (LinkT n)) : Nat := (one.map fun l => 1 + szK n l).sum
def setsT (n : Nat) (sets : List (List (LinkT n))) (l : LinkT n) : List (List (LinkT n)) := sets ++ (sets.filter fun one => decide (wt n (one ++ [l]) ≤ 4)).map (· ++ [l])
theorem p_one (n : Nat) (one : List (LinkT n)) (l : LinkT n) (h : one.length ≤ 1000) : prim .add [oneD n one, .tup [linkD n l]] = some (oneD n (one ++ [l])) := by
  show (if (one.map (linkD n)).length + [linkD n l].length ≤ 16777216 then some (D.tup (one.map (linkD n) ++ [linkD n l])) else none) = _
  rw [if_pos (by rw [List.length_map]; show one.length + 1 ≤ _; omega)]
  show _ = some (D.tup ((one ++ [l]).map (linkD n)))
  rw [List.map_append]
  rfl
abbrev aWt : PE := (.prim .sum (.cons (.comp (.prim .add (.cons (.con (.int 1)) (.cons (.call 21 (.cons (.var 11) .nil)) .nil))) (.tp [(.nm 5), (.nm 11)]) (.seq (.prim .add (.cons (.var 10) (.cons (.tup (.cons (.var 7) .nil)) .nil)))) .nil [5, 11]) .nil))
abbrev aSt : PS := (.set (.nm 6) (.prim .add (.cons (.var 6) (.cons (.comp (.prim .add (.cons (.var 10) (.cons (.tup (.cons (.var 7) .nil)) .nil))) (.nm 10) (.seq (.var 6)) (.cons (.prim .le (.cons aWt (.cons (.var 1) .nil))) .nil) [10]) .nil))))
theorem wt_ok (m n : Nat) {w fd : D} {one : List (LinkT n)} {l : LinkT n} (hone : ∀ k ∈ one, shL n k) (hl : shL n l) (ho : one.length ≤ 1000) (t : Sto) (g : GA) (h5 : FreeS g.s5) (h7 : g.s7 = .val (linkD n l)) (h10 : g.s10 = .val (oneD n one)) (h11 : FreeS g.s11) :
    evalE (callF FF 100000 (m + n + 1)) aWt (eA w fd g t) = .ok (.int (wt n (one ++ [l]) : Nat)) (eA w fd g t) := by
  have a : evalE (callF FF 100000 (m + n + 1)) (.prim .add (.cons (.var 10) (.cons (.tup (.cons (.var 7) .nil)) .nil))) (eA w fd g t) = .ok (oneD n (one ++ [l])) (eA w fd g t) :=
    ev_p2 (x := oneD n one) (y := D.tup [linkD n l]) (o_var (congrArg some h10)) (by rw [op_tup]; exact v_tup (v_l1 (v_var (congrArg some h7))) (by simp)) (p_one n one l ho)
  have C := comp_if2 (cf := callF FF 100000 (m + n + 1)) (elt := (.prim .add (.cons (.con (.int 1)) (.cons (.call 21 (.cons (.var 11) .nil)) .nil)))) (i := 5) (j := 11) (it := (.seq (.prim .add (.cons (.var 10) (.cons (.tup (.cons (.var 7) .nil)) .nil))))) (cs := .nil) (s := eA w fd g t) (ys := one ++ [l]) (h1 := fun l => .str (role n l)) (h2 := subD n) (fun _ => true) (fun l => .int ((1 + szK n l : Nat) : Int)) (free_at rfl h5) (free_at rfl h11) (by decide)
    (i_seq (o_prim a) (by
      show some ((one ++ [l]).map (linkD n)) = _
      congr 1
      exact List.map_congr_left fun l _ => linkD_eq n l)) (fun y hy => evC_nil _ _)
    (fun y hy _ => by
      have hy : shL n y := (List.mem_append.mp hy).elim (hone y) fun z => by rw [List.mem_singleton.mp z]; exact hl
      have sb : callF FF 100000 (m + n + 1) 21 [subD n y] t = .ok (.int (szK n y : Nat)) t := by
        have := sp_sub n (m + 1) y t hy
        rw [show m + 1 + n = m + n + 1 by omega] at this
        exact this
      refine ev_p2 o_con (o_call (v_call (v_l1 (v_var rfl)) sb)) ?_
      show some (D.int (1 + (szK n y : Nat))) = _
      rw [Int.natCast_add]
      rfl) (by rw [List.length_append]; show one.length + 1 ≤ _; omega)
  rw [List.filter_eq_self.mpr (fun _ _ => rfl)] at C
  have sm := ev_p1 (o_comp C) (p_sum_map (fun l => ((1 + szK n l : Nat) : Int)) (one ++ [l]))
  rw [sum_nat] at sm
  exact sm
theorem turn_set (m n : Nat) {w fd : D} {sets : List (List (LinkT n))} {l : LinkT n} (hs : ∀ one ∈ sets, one.length ≤ 1000 ∧ ∀ k ∈ one, shL n k) (hl : shL n l) (hn : sets.length ≤ 100000) (t : Sto) (g : GA) (h5 : FreeS g.s5) (h6 : g.s6 = .val (.lst (sets.map (oneD n)))) (h10 : FreeS g.s10) (h11 : FreeS g.s11) :
    (ofOpt (MP.assign (.nm 7) (linkD n l) (eA w fd g t)) fun s => evalSs (callF FF 100000 (m + n + 1)) 100000 (.cons aSt .nil) s) = .ok .nx (eA w fd { g with s6 := .val (.lst ((setsT n sets l).map (oneD n))), s7 := .val (linkD n l) } t) := by
  refine turn_at (s1 := eA w fd { g with s7 := .val (linkD n l) } t) rfl ?_
  have C := comp_if (cf := callF FF 100000 (m + n + 1)) (elt := (.prim .add (.cons (.var 10) (.cons (.tup (.cons (.var 7) .nil)) .nil)))) (i := 10) (it := (.seq (.var 6))) (cs := (.cons (.prim .le (.cons aWt (.cons (.var 1) .nil))) .nil)) (s := eA w fd { g with s7 := .val (linkD n l) } t) (ys := sets) (h := oneD n) (fun one => decide (wt n (one ++ [l]) ≤ 4)) (fun one => oneD n (one ++ [l])) (free_at rfl h10) (i_seq (o_var (congrArg some h6)) rfl)
    (fun one ho => by
      have z := ev_p2 (p := .le) (b := .var 1) (o_prim (wt_ok m n (w := w) (fd := fd) (hs one ho).2 hl (hs one ho).1 t { g with s7 := .val (linkD n l), s10 := .val (oneD n one) } h5 rfl rfl h11)) (o_var (d := .int 4) rfl) (p_le_int _ _)
      have e : decide (((wt n (one ++ [l]) : Nat) : Int) ≤ 4) = decide (wt n (one ++ [l]) ≤ 4) := decide_eq_decide.mpr (by omega)
      rw [e] at z
      exact evC_t z)
    (fun one ho _ => ev_p2 (x := oneD n one) (y := D.tup [linkD n l]) (o_var rfl) (by rw [op_tup]; exact v_tup (v_l1 (v_var rfl)) (by simp)) (p_one n one l (hs one ho).1)) (by omega)
  refine b_cons (s_to (ev_p2 (o_var (congrArg some h6)) (o_comp C) (p_add_lsts _ _ ?_)) ?_) b_nil
  · rw [List.length_map, List.length_map]
    have := List.length_filter_le (fun one => decide (wt n (one ++ [l]) ≤ 4)) sets
    omega
  · show some (S.mk _ _) = some (S.mk _ _)
    unfold setsT
    rw [List.map_append, List.map_map]
    rfl
end K78
end
section
set_option Elab.async false
set_option linter.all false
set_option maxRecDepth 100000
set_option maxHeartbeats 4000000
/-! all concepts of a size: names and sets of links together -/
namespace K78
open PySem MP
def mk1 (n : Nat) (ns : Row) (one : List (LinkT n)) : Con n := (ns, sortK n one)
def moreT (n : Nat) (sets : List (List (LinkT n))) (acc : List (Con n)) (ns : Row) : List (Con n) := acc ++ sets.map (mk1 n ns)
theorem p_sorted_one {n : Nat} (hn : n ≤ 20) (one : List (LinkT n)) (h : one.length ≤ 1000000) : prim .sorted [oneD n one] = some (.lst ((sortK n one).map (linkD n))) := by
  show (if sortOk (one.map (linkD n)) then some (D.lst (sortD false (one.map (linkD n)))) else none) = _
  rw [if_pos (sortOk_links hn one h), sortD_links]
abbrev aMo : PS := (.ext 8 (.comp (.tup (.cons (.var 9) (.cons (.prim .tuple (.cons (.prim .sorted (.cons (.var 10) .nil)) .nil)) .nil))) (.nm 10) (.seq (.var 6)) .nil [10]))
theorem turn_more (cf : CF) {n : Nat} (hn20 : n ≤ 20) {w fd : D} {sets : List (List (LinkT n))} (hs : ∀ one ∈ sets, one.length ≤ 1000) (hn : sets.length ≤ 10000) {acc : List (Con n)} (ha : acc.length ≤ 100000) (ns : Row) (t : Sto) (g : GA) (h6 : g.s6 = .val (.lst (sets.map (oneD n)))) (h8 : g.s8 = .own (acc.map (conD n))) (h10 : FreeS g.s10) :
    (ofOpt (MP.assign (.nm 9) (setD ns) (eA w fd g t)) fun s => evalSs cf 100000 (.cons aMo .nil) s) = .ok .nx (eA w fd { g with s8 := .own ((moreT n sets acc ns).map (conD n)), s9 := .val (setD ns) } t) := by
  refine turn_at (s1 := eA w fd { g with s9 := .val (setD ns) } t) rfl ?_
  have C := comp_map (cf := cf) (elt := (.tup (.cons (.var 9) (.cons (.prim .tuple (.cons (.prim .sorted (.cons (.var 10) .nil)) .nil)) .nil)))) (i := 10) (it := (.seq (.var 6))) (s := eA w fd { g with s9 := .val (setD ns) } t) (ys := sets) (h := oneD n) (fun one => conD n (mk1 n ns one)) (free_at rfl h10) (i_seq (o_var (congrArg some h6)) rfl)
    (fun one ho => v_tup (v_l2 (v_var rfl) (ev_p1 (o_prim (ev_p1 (x := oneD n one) (o_var rfl) (p_sorted_one hn20 one (by have := hs one ho; omega)))) (p_tuple_lst _))) (by simp)) (by omega)
  refine b_cons ?_ b_nil
  rw [ext_ok (xs0 := acc.map (conD n)) (xs := acc.map (conD n)) (by show some g.s8 = _; rw [h8]) C (by show some g.s8 = _; rw [h8]) (by rw [List.length_map, List.length_map]; omega)]
  show Out.ok MP.Fl.nx (S.mk _ _) = Out.ok MP.Fl.nx (S.mk _ _)
  unfold moreT
  rw [List.map_append, List.map_map]
  rfl
abbrev aEnd : PS := (.set (.nm 2) (.comp (.var 10) (.nm 10) (.seq (.peek 8)) (.cons (.prim .le (.cons (.call 21 (.cons (.var 10) .nil)) (.cons (.var 1) .nil))) .nil) [10]))
theorem end_all (m n : Nat) {w fd : D} {more : List (Con n)} (hm : ∀ c ∈ more, shC n c) (hl : more.length ≤ 1000000) (t : Sto) (g : GA) (h8 : g.s8 = .own (more.map (conD n))) (h10 : FreeS g.s10) :
    evalS (callF FF 100000 (m + n + 1)) 100000 aEnd (eA w fd g t) = .ok .nx (eA w (csD n (more.filter fun c => decide (szC n c ≤ 4))) g t) := by
  have C := comp_if (cf := callF FF 100000 (m + n + 1)) (elt := (.var 10)) (i := 10) (it := (.seq (.peek 8))) (cs := (.cons (.prim .le (.cons (.call 21 (.cons (.var 10) .nil)) (.cons (.var 1) .nil))) .nil)) (s := eA w fd g t) (ys := more) (h := conD n) (fun c => decide (szC n c ≤ 4)) (conD n) (free_at rfl h10) (i_seq (o_peek (congrArg some h8)) rfl)
    (fun c hc => by
      have z := ev_p2 (cf := callF FF 100000 (m + n + 1)) (p := .le) (b := .var 1) (s := { (eA w fd g t) with loc := (eA w fd g t).loc.set 10 (.val (conD n c)) }) (o_call (v_call (v_l1 (v_var (i := 10) rfl)) (sp_size n m t (hm c hc)))) (o_var (d := .int 4) rfl) (p_le_int _ _)
      have e : decide (((szC n c : Nat) : Int) ≤ 4) = decide (szC n c ≤ 4) := decide_eq_decide.mpr (by omega)
      rw [e] at z
      exact evC_t z)
    (fun c hc _ => v_var rfl) hl
  exact s_to C rfl
end K78
end
section
set_option Elab.async false
set_option linter.all false
set_option maxRecDepth 100000
set_option maxHeartbeats 4000000
/-! all concepts of a size: the loops -/
namespace K78
open PySem MP
def lnks (n : Nat) (f : List (Con n)) (roles : Row) : List (LinkT (n + 1)) := roles.foldl (lnksT n f) []
def sets (n : Nat) (links : List (LinkT n)) : List (List (LinkT n)) := links.foldl (setsT n) [[]]
def more (n : Nat) (ss : List (List (LinkT n))) (names : List Row) : List (Con n) := names.foldl (moreT n ss) []
theorem foldl_len {α β : Type} (g : List α → β → List α) (h : ∀ a b, a.length ≤ (g a b).length) : ∀ (l : List β) (a : List α), a.length ≤ (l.foldl g a).length
  | [], _ => Nat.le_refl _
  | b :: l, a => Nat.le_trans (h a b) (foldl_len g h l (g a b))
theorem fold_pre {α β : Type} {g : List α → β → List α} (h : ∀ a b, a.length ≤ (g a b).length) {p r : List β} {y : β} {l : List β} {a : List α} (e : p ++ y :: r = l) : (p.foldl g a).length ≤ (l.foldl g a).length := by
  rw [← e, List.foldl_append]
  exact foldl_len g h _ _
theorem loop_lnk (m n : Nat) {a b : Row} {f : List (Con n)} (hf : ∀ c ∈ f, shC n c) (hl : f.length ≤ 10000) (hn : (lnks n f b).length ≤ 100000) (t : Sto) (g : GA) (h4 : g.s4 = .own []) (h5 : FreeS g.s5) (h11 : FreeS g.s11) :
    ∃ s5', FreeS s5' ∧ evalS (callF FF 100000 (m + n + 1)) 100000 (.forr (.nm 5) (.seq (.prim .item (.cons (.var 0) (.cons (.con (.int 1)) .nil)))) (.cons aLn .nil)) (eA (.tup [setD a, setD b]) (csD n f) g t) = .ok .nx (eA (.tup [setD a, setD b]) (csD n f) { g with s4 := .own ((lnks n f b).map (linkD (n + 1))), s5 := s5' } t) := by
  have up : ∀ (x : List (LinkT (n + 1))) (r : Str), x.length ≤ (lnksT n f x r).length := fun x r => by unfold lnksT; rw [List.length_append]; omega
  have key := forLoop_ord (f := fun d s2 => ofOpt (MP.assign (.nm 5) d s2) fun s => evalSs (callF FF 100000 (m + n + 1)) 100000 (.cons aLn .nil) s) D.str (fun p s => ∃ s5', FreeS s5' ∧ s = eA (.tup [setD a, setD b]) (csD n f) { g with s4 := .own ((lnks n f p).map (linkD (n + 1))), s5 := s5' } t) b (eA (.tup [setD a, setD b]) (csD n f) g t) ⟨g.s5, h5, by
      show eA _ _ g t = eA _ _ { g with s4 := .own [], s5 := g.s5 } t
      rw [← h4]⟩
    (fun p y r s hy ⟨s5', f5, e1⟩ => by
      have len := fold_pre (g := lnksT n f) (a := []) up hy
      have q := turn_lnk m n (w := .tup [setD a, setD b]) hf hl (acc := lnks n f p) (Nat.le_trans len hn) y t { g with s4 := .own ((lnks n f p).map (linkD (n + 1))), s5 := s5' } rfl h11
      refine ⟨_, by rw [e1]; exact q, .val (.str y), .inr ⟨_, rfl⟩, ?_⟩
      unfold lnks
      rw [List.foldl_append]
      rfl)
  obtain ⟨s', e1, s5', f5, e2⟩ := key
  refine ⟨s5', f5, s_for (i_seq (o_prim (ev_p2 (y := .int 1) (o_var rfl) o_con rfl)) (xs := b.map .str) rfl) ?_⟩
  rw [← e2]
  exact e1
theorem setsT_up (n : Nat) (x : List (List (LinkT n))) (l : LinkT n) : x.length ≤ (setsT n x l).length := by unfold setsT; rw [List.length_append]; omega
theorem loop_set (m n : Nat) {w fd : D} {links : List (LinkT n)} (hl : ∀ l ∈ links, shL n l) (hk : links.length ≤ 1000) (hn : (sets n links).length ≤ 100000) (t : Sto) (g : GA) (h4 : g.s4 = .own (links.map (linkD n))) (h5 : FreeS g.s5) (h6 : g.s6 = .val (.lst [.tup []])) (h7 : FreeS g.s7) (h10 : FreeS g.s10) (h11 : FreeS g.s11) :
    ∃ s7', FreeS s7' ∧ evalS (callF FF 100000 (m + n + 1)) 100000 (.forr (.nm 7) (.seq (.var 4)) (.cons aSt .nil)) (eA w fd g t) = .ok .nx (eA w fd { g with s4 := .val (.lst (links.map (linkD n))), s6 := .val (.lst ((sets n links).map (oneD n))), s7 := s7' } t) := by
  have inv : ∀ p : List (LinkT n), (∀ l ∈ p, shL n l) → ∀ one ∈ sets n p, one.length ≤ p.length ∧ ∀ k ∈ one, shL n k := by
    intro p
    have go : ∀ (p : List (LinkT n)) (x : List (List (LinkT n))) (c : Nat), (∀ l ∈ p, shL n l) → (∀ one ∈ x, one.length ≤ c ∧ ∀ k ∈ one, shL n k) → ∀ one ∈ p.foldl (setsT n) x, one.length ≤ c + p.length ∧ ∀ k ∈ one, shL n k := by
      intro p
      induction p with
      | nil => exact fun x c _ h => h
      | cons l p ih =>
        intro x c hp h one ho
        have := ih (setsT n x l) (c + 1) (fun k hk => hp k (List.mem_cons_of_mem _ hk)) (fun one h1 => by
          unfold setsT at h1
          rcases List.mem_append.mp h1 with z | z
          · exact ⟨by have := (h one z).1; omega, (h one z).2⟩
          · obtain ⟨o', ho', rfl⟩ := List.mem_map.mp z
            have hm := (List.mem_filter.mp ho').1
            refine ⟨by rw [List.length_append]; have := (h o' hm).1; show o'.length + 1 ≤ _; omega, fun k hk => (List.mem_append.mp hk).elim ((h o' hm).2 k) fun z => by rw [List.mem_singleton.mp z]; exact hp l List.mem_cons_self⟩) one ho
        exact ⟨by rw [List.length_cons]; omega, this.2⟩
    intro hp one ho
    have := go p [[]] 0 hp (fun one h => by rw [List.mem_singleton.mp h]; exact ⟨Nat.le_refl _, fun k hk => absurd hk (by simp)⟩) one ho
    exact ⟨by omega, this.2⟩
  have key := forLoop_ord (f := fun d s2 => ofOpt (MP.assign (.nm 7) d s2) fun s => evalSs (callF FF 100000 (m + n + 1)) 100000 (.cons aSt .nil) s) (linkD n) (fun p s => ∃ s7', FreeS s7' ∧ s = eA w fd { g with s4 := .val (.lst (links.map (linkD n))), s6 := .val (.lst ((sets n p).map (oneD n))), s7 := s7' } t) links (eA w fd { g with s4 := .val (.lst (links.map (linkD n))) } t) ⟨g.s7, h7, by
      show eA _ _ { g with s4 := _ } t = eA _ _ { g with s4 := _, s6 := .val (.lst [.tup []]), s7 := g.s7 } t
      rw [← h6]⟩
    (fun p y r s hy ⟨s7', f7, e1⟩ => by
      have len := fold_pre (g := setsT n) (a := [[]]) (setsT_up n) hy
      have hp : ∀ l ∈ p, shL n l := fun l hl' => hl l (by rw [← hy]; exact List.mem_append_left _ hl')
      have lp : p.length ≤ links.length := by rw [← hy, List.length_append]; omega
      have q := turn_set m n (w := w) (fd := fd) (sets := sets n p) (l := y) (fun one ho => ⟨by have := (inv p hp one ho).1; omega, (inv p hp one ho).2⟩) (hl y (by rw [← hy]; simp)) (Nat.le_trans len hn) t { g with s4 := .val (.lst (links.map (linkD n))), s6 := .val (.lst ((sets n p).map (oneD n))), s7 := s7' } h5 rfl h10 h11
      refine ⟨_, by rw [e1]; exact q, .val (linkD n y), .inr ⟨_, rfl⟩, ?_⟩
      unfold sets
      rw [List.foldl_append]
      rfl)
  obtain ⟨s', e1, s7', f7, e2⟩ := key
  refine ⟨s7', f7, ?_⟩
  rw [st_forr]
  have it : evalI (callF FF 100000 (m + n + 1)) (.seq (.var 4)) (eA w fd g t) = .ok (links.map (linkD n)) (eA w fd { g with s4 := .val (.lst (links.map (linkD n))) } t) := by
    rw [evI_seq, op_var, v_ownf (s := eA w fd g t) (i := 4) (xs := links.map (linkD n)) (congrArg some h4)]
    rfl
  rw [it]
  simp only [bind_ok]
  rw [← e2]
  exact e1
end K78
end
section
set_option Elab.async false
set_option linter.all false
set_option maxRecDepth 100000
set_option maxHeartbeats 4000000
/-! all concepts of a size: one turn -/
namespace K78
open PySem MP
theorem moreT_up (n : Nat) (ss : List (List (LinkT n))) (x : List (Con n)) (y : Row) : x.length ≤ (moreT n ss x y).length := by unfold moreT; rw [List.length_append]; omega
theorem loop_more (m n : Nat) (hn20 : n ≤ 20) {a b : Row} {fd : D} {ss : List (List (LinkT n))} (ha : a.length ≤ 10) (hs : ∀ one ∈ ss, one.length ≤ 1000) (hl : ss.length ≤ 10000) (hn : (more n ss (subs a)).length ≤ 100000) (t : Sto) (g : GA) (h6 : g.s6 = .val (.lst (ss.map (oneD n)))) (h8 : g.s8 = .own []) (h9 : FreeS g.s9) (h10 : FreeS g.s10) :
    ∃ s9', FreeS s9' ∧ evalS (callF FF 100000 (m + 1)) 100000 (.forr (.nm 9) (.seq (.call 20 (.cons (.prim .item (.cons (.var 0) (.cons (.con (.int 0)) .nil))) .nil))) (.cons aMo .nil)) (eA (.tup [setD a, setD b]) fd g t) = .ok .nx (eA (.tup [setD a, setD b]) fd { g with s8 := .own ((more n ss (subs a)).map (conD n)), s9 := s9' } t) := by
  have key := forLoop_ord (f := fun d s2 => ofOpt (MP.assign (.nm 9) d s2) fun s => evalSs (callF FF 100000 (m + 1)) 100000 (.cons aMo .nil) s) setD (fun p s => ∃ s9', FreeS s9' ∧ s = eA (.tup [setD a, setD b]) fd { g with s8 := .own ((more n ss p).map (conD n)), s9 := s9' } t) (subs a) (eA (.tup [setD a, setD b]) fd g t) ⟨g.s9, h9, by
      show eA _ _ g t = eA _ _ { g with s8 := .own [], s9 := g.s9 } t
      rw [← h8]⟩
    (fun p y r s hy ⟨s9', f9, e1⟩ => by
      have len := fold_pre (g := moreT n ss) (a := []) (moreT_up n ss) hy
      have q := turn_more (callF FF 100000 (m + 1)) hn20 (w := .tup [setD a, setD b]) (fd := fd) hs hl (acc := more n ss p) (Nat.le_trans len hn) y t { g with s8 := .own ((more n ss p).map (conD n)), s9 := s9' } h6 rfl h10
      refine ⟨_, by rw [e1]; exact q, .val (setD y), .inr ⟨_, rfl⟩, ?_⟩
      unfold more
      rw [List.foldl_append]
      rfl)
  obtain ⟨s', e1, s9', f9, e2⟩ := key
  refine ⟨s9', f9, s_for (i_seq (xs := (subs a).map setD) (o_call (v_call (v_l1 (ev_p2 (y := .int 0) (o_var rfl) o_con rfl)) (sp_subsets m t ha))) rfl) ?_⟩
  rw [← e2]
  exact e1
/-- what a turn makes of what was found -/
def nextF (n : Nat) (a b : Row) (f : List (Con n)) : List (Con (n + 1)) := (more (n + 1) (sets (n + 1) (lnks n f b)) (subs a)).filter fun c => decide (szC (n + 1) c ≤ 4)
structure TurnA (n : Nat) (a b : Row) (f : List (Con n)) : Prop where
  hn : n ≤ 10
  ha : a.length ≤ 10
  sh : ∀ c ∈ f, shC n c
  fl : f.length ≤ 10000
  ll : (lnks n f b).length ≤ 1000
  sl : (sets (n + 1) (lnks n f b)).length ≤ 10000
  ml : (more (n + 1) (sets (n + 1) (lnks n f b)) (subs a)).length ≤ 100000
  ls : ∀ l ∈ lnks n f b, shL (n + 1) l
  os : ∀ one ∈ sets (n + 1) (lnks n f b), one.length ≤ 1000
  ms : ∀ c ∈ more (n + 1) (sets (n + 1) (lnks n f b)) (subs a), shC (n + 1) c
abbrev aTurn : PB := (.cons (.own 4 (.lst .nil)) (.cons (.forr (.nm 5) (.seq (.prim .item (.cons (.var 0) (.cons (.con (.int 1)) .nil)))) (.cons aLn .nil)) (.cons (.set (.nm 6) (.lst (.cons (.tup .nil) .nil))) (.cons (.forr (.nm 7) (.seq (.var 4)) (.cons aSt .nil)) (.cons (.own 8 (.lst .nil)) (.cons (.forr (.nm 9) (.seq (.call 20 (.cons (.prim .item (.cons (.var 0) (.cons (.con (.int 0)) .nil))) .nil))) (.cons aMo .nil)) (.cons aEnd .nil)))))))
structure GF (g : GA) : Prop where
  f5 : FreeS g.s5
  f7 : FreeS g.s7
  f9 : FreeS g.s9
  f10 : FreeS g.s10
  f11 : FreeS g.s11
theorem turn_all (m n : Nat) {a b : Row} {f : List (Con n)} (h : TurnA n a b f) (k : D) (t : Sto) (g : GA) (gf : GF g) :
    ∃ g', GF g' ∧ (ofOpt (MP.assign (.nm 3) k (eA (.tup [setD a, setD b]) (csD n f) g t)) fun s => evalSs (callF FF 100000 (m + (n + 1) + 1)) 100000 aTurn s) = .ok .nx (eA (.tup [setD a, setD b]) (csD (n + 1) (nextF n a b f)) g' t) := by
  have e0 : m + 1 + n + 1 = m + (n + 1) + 1 := by omega
  obtain ⟨s5', f5, p1⟩ := loop_lnk (m + 1) n (a := a) (b := b) h.sh h.fl (by have := h.ll; omega) t { g with s3 := .val k, s4 := .own [] } rfl gf.f5 gf.f11
  rw [e0] at p1
  obtain ⟨s7', f7, p2⟩ := loop_set m (n + 1) (w := .tup [setD a, setD b]) (fd := csD n f) h.ls h.ll (by have := h.sl; omega) t { g with s3 := .val k, s4 := .own ((lnks n f b).map (linkD (n + 1))), s5 := s5', s6 := .val (.lst [.tup []]) } rfl f5 rfl gf.f7 gf.f10 gf.f11
  obtain ⟨s9', f9, p3⟩ := loop_more (m + (n + 1)) (n + 1) (by have := h.hn; omega) (a := a) (b := b) (fd := csD n f) h.ha h.os h.sl h.ml t { g with s3 := .val k, s4 := .val (.lst ((lnks n f b).map (linkD (n + 1)))), s5 := s5', s6 := .val (.lst ((sets (n + 1) (lnks n f b)).map (oneD (n + 1)))), s7 := s7', s8 := .own [] } rfl rfl gf.f9 gf.f10
  have p4 := end_all m (n + 1) (w := .tup [setD a, setD b]) (fd := csD n f) h.ms (by have := h.ml; omega) t { g with s3 := .val k, s4 := .val (.lst ((lnks n f b).map (linkD (n + 1)))), s5 := s5', s6 := .val (.lst ((sets (n + 1) (lnks n f b)).map (oneD (n + 1)))), s7 := s7', s8 := .own ((more (n + 1) (sets (n + 1) (lnks n f b)) (subs a)).map (conD (n + 1))), s9 := s9' } rfl gf.f10
  refine ⟨{ g with s3 := .val k, s4 := .val (.lst ((lnks n f b).map (linkD (n + 1)))), s5 := s5', s6 := .val (.lst ((sets (n + 1) (lnks n f b)).map (oneD (n + 1)))), s7 := s7', s8 := .own ((more (n + 1) (sets (n + 1) (lnks n f b)) (subs a)).map (conD (n + 1))), s9 := s9' }, ⟨f5, f7, f9, gf.f10, gf.f11⟩, ?_⟩
  refine turn_at (s1 := eA (.tup [setD a, setD b]) (csD n f) { g with s3 := .val k } t) rfl ?_
  refine b_cons (s1 := eA (.tup [setD a, setD b]) (csD n f) { g with s3 := .val k, s4 := .own [] } t) (st_own_ok (v_lst (evL_nil _ _) (by simp)) (by simp [eA])) ?_
  refine b_cons p1 ?_
  refine b_cons (s1 := eA (.tup [setD a, setD b]) (csD n f) { g with s3 := .val k, s4 := .own ((lnks n f b).map (linkD (n + 1))), s5 := s5', s6 := .val (.lst [.tup []]) } t) (s_to (v_lst (v_l1 (v_tup (evL_nil _ _) (by simp))) (by simp)) rfl) ?_
  refine b_cons p2 ?_
  refine b_cons (s1 := eA (.tup [setD a, setD b]) (csD n f) { g with s3 := .val k, s4 := .val (.lst ((lnks n f b).map (linkD (n + 1)))), s5 := s5', s6 := .val (.lst ((sets (n + 1) (lnks n f b)).map (oneD (n + 1)))), s7 := s7', s8 := .own [] } t) (st_own_ok (v_lst (evL_nil _ _) (by simp)) (by simp [eA])) ?_
  exact b_cons p3 (b_cons p4 b_nil)
end K78
end
section
set_option Elab.async false
set_option linter.all false
set_option maxRecDepth 100000
set_option maxHeartbeats 4000000
/-! _law_all -/
namespace K78
open PySem MP
def F0 : List (Con 0) := [([], [])]
def F1 (a b : Row) : List (Con 1) := nextF 0 a b F0
def F2 (a b : Row) : List (Con 2) := nextF 1 a b (F1 a b)
def F3 (a b : Row) : List (Con 3) := nextF 2 a b (F2 a b)
def F4 (a b : Row) : List (Con 4) := nextF 3 a b (F3 a b)
theorem loop_one {f : D → S → Out MP.Fl} {d : D} {r : List D} {s s1 : S} {o : Out MP.Fl} (h : f d s = .ok .nx s1) (k : forLoop f r s1 = o) : forLoop f (d :: r) s = o := by
  rw [forLoop, h]
  exact k
theorem sp_all (m : Nat) {a b : Row} (t : Sto) (h0 : TurnA 0 a b F0) (h1 : TurnA 1 a b (F1 a b)) (h2 : TurnA 2 a b (F2 a b)) (h3 : TurnA 3 a b (F3 a b)) : callF FF 100000 (m + 6) 22 [.tup [setD a, setD b], .int 4] t = .ok (csD 4 (F4 a b)) t := by
  have gf0 : GF {} := ⟨.inl rfl, .inl rfl, .inl rfl, .inl rfl, .inl rfl⟩
  obtain ⟨g1, gf1, p1⟩ := turn_all (m + 3) 0 h0 (.int ((0 : Nat) : Int)) t {} gf0
  obtain ⟨g2, gf2, p2⟩ := turn_all (m + 2) 1 h1 (.int ((1 : Nat) : Int)) t g1 gf1
  obtain ⟨g3, gf3, p3⟩ := turn_all (m + 1) 2 h2 (.int ((2 : Nat) : Int)) t g2 gf2
  obtain ⟨g4, gf4, p4⟩ := turn_all m 3 h3 (.int ((3 : Nat) : Int)) t g3 gf3
  refine fn_at (by rfl) rfl ?_
  refine run_ret (s' := eA (.tup [setD a, setD b]) (csD 4 (F4 a b)) g4 t) ?_ rfl
  refine b_cons (s1 := eA (.tup [setD a, setD b]) (csD 0 F0) {} t) (s_to (v_lst (v_l1 (v_tup (v_l2 (v_tup (evL_nil _ _) (by simp)) (v_tup (evL_nil _ _) (by simp))) (by simp))) (by simp)) rfl) ?_
  refine b_cons (s_for (i_rng (n := 4) (v_var rfl) (by omega)) ?_) (b_last (s_retc (v_var rfl)))
  exact loop_one p1 (loop_one p2 (loop_one p3 (loop_one p4 rfl)))
end K78
end
section
set_option Elab.async false
set_option linter.all false
set_option maxRecDepth 100000
set_option maxHeartbeats 4000000
/-! only the sizes -/
namespace K78
open PySem MP
def lnkS (fs : List Nat) (acc : List Nat) (_ : Nat) : List Nat := acc ++ (fs.filter fun s => decide (1 + s ≤ 4)).map (1 + ·)
def setS (ws : List Nat) (w : Nat) : List Nat := ws ++ (ws.filter fun v => decide (v + w ≤ 4)).map (· + w)
def subS (f : List Nat) (_ : Nat) : List Nat := f ++ f.map (· + 1)
def moreS (ws : List Nat) (acc : List Nat) (k : Nat) : List Nat := acc ++ ws.map (k + ·)
def lnksS (b : Nat) (fs : List Nat) : List Nat := (List.range b).foldl (lnkS fs) []
def setsS (ls : List Nat) : List Nat := ls.foldl setS [0]
def subsS (a : Nat) : List Nat := (List.range a).foldl subS [0]
def moreS' (ws ks : List Nat) : List Nat := ks.foldl (moreS ws) []
def nextS (a b : Nat) (fs : List Nat) : List Nat := (moreS' (setsS (lnksS b fs)) (subsS a)).filter fun s => decide (s ≤ 4)
theorem filter_map_eq {α : Type} (l : List α) (g : α → Nat) (p : Nat → Bool) (q : α → Bool) (h : ∀ x, q x = p (g x)) : (l.filter q).map g = (l.map g).filter p := by
  rw [List.filter_map]
  congr 1
  exact List.filter_congr fun x _ => h x
theorem szK_lnk (n : Nat) (r : Str) (c : Con n) : szK (n + 1) (lnk n r c) = szC n c := rfl
theorem lnks_S (n : Nat) (f : List (Con n)) (b : Row) : (lnks n f b).map (fun l => 1 + szK (n + 1) l) = lnksS b.length (f.map (szC n)) := by
  have go : ∀ (b : Row) (x : List (LinkT (n + 1))) (k : List Nat), k.length = b.length → (b.foldl (lnksT n f) x).map (fun l => 1 + szK (n + 1) l) = k.foldl (lnkS (f.map (szC n))) (x.map fun l => 1 + szK (n + 1) l) := by
    intro b
    induction b with
    | nil => intro x k hk; cases k with
      | nil => rfl
      | cons _ _ => simp at hk
    | cons r b ih =>
      intro x k hk
      cases k with
      | nil => simp at hk
      | cons i k =>
        rw [List.foldl_cons, List.foldl_cons, ih _ k (by simpa using hk)]
        congr 1
        unfold lnksT lnkS
        rw [List.map_append, List.map_map, ← filter_map_eq f (szC n) (fun s => decide (1 + s ≤ 4)) (fun c => decide (1 + szC n c ≤ 4)) fun _ => rfl, List.map_map]
        rfl
  exact go b [] (List.range b.length) (by simp)
theorem wt_snoc (n : Nat) (one : List (LinkT n)) (l : LinkT n) : wt n (one ++ [l]) = wt n one + (1 + szK n l) := by
  unfold wt
  rw [List.map_append, List.sum_append]
  simp
theorem sets_S (n : Nat) (links : List (LinkT n)) : (sets n links).map (wt n) = setsS (links.map fun l => 1 + szK n l) := by
  have go : ∀ (ls : List (LinkT n)) (x : List (List (LinkT n))), (ls.foldl (setsT n) x).map (wt n) = (ls.map fun l => 1 + szK n l).foldl setS (x.map (wt n)) := by
    intro ls
    induction ls with
    | nil => intro x; rfl
    | cons l ls ih =>
      intro x
      rw [List.foldl_cons, List.map_cons, List.foldl_cons, ih]
      congr 1
      unfold setsT setS
      rw [List.map_append, List.map_map, ← filter_map_eq x (wt n) (fun v => decide (v + (1 + szK n l) ≤ 4)) (fun one => decide (wt n (one ++ [l]) ≤ 4)) fun one => by rw [wt_snoc], List.map_map]
      congr 1
      exact List.map_congr_left fun one _ => wt_snoc n one l
  exact go links [[]]
theorem sz_mk1 (n : Nat) (ns : Row) (one : List (LinkT n)) : szC n (mk1 n ns one) = ns.length + wt n one := by
  unfold szC mk1 wt
  congr 1
  exact ((sortK_perm n one).map _).sum_nat
theorem more_S (n : Nat) (ss : List (List (LinkT n))) (names : List Row) : (more n ss names).map (szC n) = moreS' (ss.map (wt n)) (names.map List.length) := by
  have go : ∀ (ns : List Row) (x : List (Con n)), (ns.foldl (moreT n ss) x).map (szC n) = (ns.map List.length).foldl (moreS (ss.map (wt n))) (x.map (szC n)) := by
    intro ns
    induction ns with
    | nil => intro x; rfl
    | cons y ns ih =>
      intro x
      rw [List.foldl_cons, List.map_cons, List.foldl_cons, ih]
      congr 1
      unfold moreT moreS
      rw [List.map_append, List.map_map, List.map_map]
      congr 1
      exact List.map_congr_left fun one _ => sz_mk1 n y one
  exact go names []
theorem subs_S (a : Row) : (subs a).map List.length = subsS a.length := by
  have go : ∀ (a : Row) (x : List Row) (k : List Nat), k.length = a.length → (a.foldl subT x).map List.length = k.foldl subS (x.map List.length) := by
    intro a
    induction a with
    | nil => intro x k hk; cases k with
      | nil => rfl
      | cons _ _ => simp at hk
    | cons r a ih =>
      intro x k hk
      cases k with
      | nil => simp at hk
      | cons i k =>
        rw [List.foldl_cons, List.foldl_cons, ih _ k (by simpa using hk)]
        congr 1
        unfold subT subS
        rw [List.map_append, List.map_map, List.map_map]
        congr 1
        exact List.map_congr_left fun y _ => by simp
  exact go a [[]] (List.range a.length) (by simp)
theorem next_S (n : Nat) (a b : Row) (f : List (Con n)) : (nextF n a b f).map (szC (n + 1)) = nextS a.length b.length (f.map (szC n)) := by
  unfold nextF nextS
  rw [filter_map_eq _ (szC (n + 1)) (fun s => decide (s ≤ 4)) _ fun _ => rfl, more_S, sets_S, lnks_S, subs_S]
end K78
end
section
set_option Elab.async false
set_option linter.all false
set_option maxRecDepth 100000
set_option maxHeartbeats 4000000
/-! _law_all of few words runs -/
namespace K78
open PySem MP
def chkA (a b : Nat) (fs : List Nat) : Bool := decide (fs.length ≤ 10000) && decide ((lnksS b fs).length ≤ 1000) && decide ((setsS (lnksS b fs)).length ≤ 10000) && decide ((moreS' (setsS (lnksS b fs)) (subsS a)).length ≤ 100000)
theorem mem_lnks (n : Nat) (f : List (Con n)) : ∀ (b : Row) (x : List (LinkT (n + 1))) (l : LinkT (n + 1)), l ∈ b.foldl (lnksT n f) x → l ∈ x ∨ ∃ r c, c ∈ f ∧ l = lnk n r c
  | [], _, _, h => .inl h
  | r :: b, x, l, h => by
    rcases mem_lnks n f b (lnksT n f x r) l h with h | h
    · unfold lnksT at h
      rcases List.mem_append.mp h with h | h
      · exact .inl h
      · obtain ⟨c, hc, rfl⟩ := List.mem_map.mp h
        exact .inr ⟨r, c, (List.mem_filter.mp hc).1, rfl⟩
    · exact .inr h
theorem mem_sets (n : Nat) : ∀ (p : List (LinkT n)) (x : List (List (LinkT n))) (c : Nat) (P : LinkT n → Prop), (∀ l ∈ p, P l) → (∀ one ∈ x, one.length ≤ c ∧ ∀ k ∈ one, P k) → ∀ one ∈ p.foldl (setsT n) x, one.length ≤ c + p.length ∧ ∀ k ∈ one, P k
  | [], x, c, P, _, h => h
  | l :: p, x, c, P, hp, h => fun one ho => by
    have := mem_sets n p (setsT n x l) (c + 1) P (fun k hk => hp k (List.mem_cons_of_mem _ hk)) (fun one h1 => by
      unfold setsT at h1
      rcases List.mem_append.mp h1 with z | z
      · exact ⟨by have := (h one z).1; omega, (h one z).2⟩
      · obtain ⟨o', ho', rfl⟩ := List.mem_map.mp z
        have hm := (List.mem_filter.mp ho').1
        refine ⟨by rw [List.length_append]; have := (h o' hm).1; show o'.length + 1 ≤ _; omega, fun k hk => (List.mem_append.mp hk).elim ((h o' hm).2 k) fun z => by rw [List.mem_singleton.mp z]; exact hp l List.mem_cons_self⟩) one ho
    exact ⟨by rw [List.length_cons]; omega, this.2⟩
theorem mem_more (n : Nat) (ss : List (List (LinkT n))) : ∀ (ns : List Row) (x : List (Con n)) (c : Con n), c ∈ ns.foldl (moreT n ss) x → c ∈ x ∨ ∃ y one, one ∈ ss ∧ c = mk1 n y one
  | [], _, _, h => .inl h
  | y :: ns, x, c, h => by
    rcases mem_more n ss ns (moreT n ss x y) c h with h | h
    · unfold moreT at h
      rcases List.mem_append.mp h with h | h
      · exact .inl h
      · obtain ⟨one, ho, rfl⟩ := List.mem_map.mp h
        exact .inr ⟨y, one, ho, rfl⟩
    · exact .inr h
theorem turnA {n : Nat} {a b : Row} {f : List (Con n)} (hn : n ≤ 10) (ha : a.length ≤ 10) (sh : ∀ c ∈ f, shC n c) (h : chkA a.length b.length (f.map (szC n)) = true) : TurnA n a b f ∧ ∀ c ∈ nextF n a b f, shC (n + 1) c := by
  unfold chkA at h
  simp only [Bool.and_eq_true, decide_eq_true_eq] at h
  obtain ⟨⟨⟨c1, c2⟩, c3⟩, c4⟩ := h
  rw [List.length_map] at c1
  have ll : (lnks n f b).length ≤ 1000 := by rw [← lnks_S, List.length_map] at c2; exact c2
  have sl : (sets (n + 1) (lnks n f b)).length ≤ 10000 := by rw [← lnks_S, ← sets_S, List.length_map] at c3; exact c3
  have ml : (more (n + 1) (sets (n + 1) (lnks n f b)) (subs a)).length ≤ 100000 := by rw [← lnks_S, ← sets_S, ← subs_S, ← more_S, List.length_map] at c4; exact c4
  have ls : ∀ l ∈ lnks n f b, shL (n + 1) l := fun l hl => by
    rcases mem_lnks n f b [] l hl with h | ⟨r, c, hc, rfl⟩
    · exact absurd h (by simp)
    · exact sh c hc
  have os := mem_sets (n + 1) (lnks n f b) [[]] 0 (shL (n + 1)) ls (fun one h => by rw [List.mem_singleton.mp h]; exact ⟨Nat.le_refl _, fun k hk => absurd hk (by simp)⟩)
  have ms : ∀ c ∈ more (n + 1) (sets (n + 1) (lnks n f b)) (subs a), shC (n + 1) c := fun c hc => by
    rcases mem_more (n + 1) _ _ [] c hc with h | ⟨y, one, ho, rfl⟩
    · exact absurd h (by simp)
    · obtain ⟨o1, o2⟩ := os one ho
      have pm := sortK_perm (n + 1) one
      exact ⟨by show (sortK (n + 1) one).length ≤ _; rw [pm.length_eq]; omega, fun k hk => o2 k (pm.mem_iff.mp hk)⟩
  exact ⟨⟨hn, ha, sh, c1, ll, sl, ml, ls, fun one ho => by have := (os one ho).1; omega, ms⟩, fun c hc => ms c (List.mem_filter.mp hc).1⟩
end K78
end
section
set_option Elab.async false
set_option linter.all false
set_option maxRecDepth 100000
set_option maxHeartbeats 4000000
/-! _law_all of few words, and how many of each size -/
namespace K78
open PySem MP
def foundS (a b : Nat) : Nat → List Nat
  | 0 => [0]
  | k + 1 => nextS a b (foundS a b k)
theorem chk_all : ∀ a : Fin 3, ∀ b : Fin 2, (chkA a.val b.val (foundS a.val b.val 0) && chkA a.val b.val (foundS a.val b.val 1) && chkA a.val b.val (foundS a.val b.val 2) && chkA a.val b.val (foundS a.val b.val 3)) = true := by decide +kernel
theorem cnt_all : ∀ a : Fin 3, ∀ b : Fin 2, ∀ s : Fin 5, ((((foundS a.val b.val 4).filter fun x => decide (x = s.val)).length : Nat) : Int) = (fast 6 a.val ((b.val : Nat) : Int) 5).2.1.getD s.val 0 := by decide +kernel
theorem few_all (m : Nat) {a b : Row} (ha : a.length ≤ 2) (hb : b.length ≤ 1) (t : Sto) : callF FF 100000 (m + 6) 22 [.tup [setD a, setD b], .int 4] t = .ok (csD 4 (F4 a b)) t ∧ (∀ c ∈ F4 a b, shC 4 c) ∧ (F4 a b).length ≤ 10000 ∧
    ∀ s, s < 5 → ((((F4 a b).filter fun c => decide (szC 4 c = s)).length : Nat) : Int) = sz a.length ((b.length : Nat) : Int) s := by
  have ck := chk_all ⟨a.length, by omega⟩ ⟨b.length, by omega⟩
  simp only [Bool.and_eq_true] at ck
  obtain ⟨⟨⟨k0, k1⟩, k2⟩, k3⟩ := ck
  have s0 : (F0.map (szC 0)) = foundS a.length b.length 0 := rfl
  have s1 : ((F1 a b).map (szC 1)) = foundS a.length b.length 1 := by rw [F1, next_S, s0]; rfl
  have s2 : ((F2 a b).map (szC 2)) = foundS a.length b.length 2 := by rw [F2, next_S, s1]; rfl
  have s3 : ((F3 a b).map (szC 3)) = foundS a.length b.length 3 := by rw [F3, next_S, s2]; rfl
  have s4 : ((F4 a b).map (szC 4)) = foundS a.length b.length 4 := by rw [F4, next_S, s3]; rfl
  obtain ⟨t0, h1⟩ := turnA (n := 0) (a := a) (b := b) (f := F0) (by omega) (by omega) (fun c hc => by
    rw [List.mem_singleton.mp hc]
    exact ⟨Nat.zero_le _, fun k hk => absurd hk (by simp)⟩) (by rw [s0]; exact k0)
  obtain ⟨t1, h2⟩ := turnA (n := 1) (a := a) (b := b) (f := F1 a b) (by omega) (by omega) h1 (by rw [s1]; exact k1)
  obtain ⟨t2, h3⟩ := turnA (n := 2) (a := a) (b := b) (f := F2 a b) (by omega) (by omega) h2 (by rw [s2]; exact k2)
  obtain ⟨t3, h4⟩ := turnA (n := 3) (a := a) (b := b) (f := F3 a b) (by omega) (by omega) h3 (by rw [s3]; exact k3)
  refine ⟨sp_all m t t0 t1 t2 t3, h4, ?_, fun s hs => ?_⟩
  · have l : (F4 a b).length = (foundS a.length b.length 4).length := by rw [← s4, List.length_map]
    rw [l]
    have := (by decide +kernel : ∀ a : Fin 3, ∀ b : Fin 2, (foundS a.val b.val 4).length ≤ 10000) ⟨a.length, by omega⟩ ⟨b.length, by omega⟩
    exact this
  · have c := cnt_all ⟨a.length, by omega⟩ ⟨b.length, by omega⟩ ⟨s, hs⟩
    have f := (fast_ok 6 a.length ((b.length : Nat) : Int) 5 (by omega)).2.1
    have e : ((F4 a b).filter fun c => decide (szC 4 c = s)).length = ((foundS a.length b.length 4).filter fun x => decide (x = s)).length := by
      rw [← s4, ← filter_map_eq (F4 a b) (szC 4) (fun x => decide (x = s)) (fun c => decide (szC 4 c = s)) fun _ => rfl, List.length_map]
    rw [e]
    refine c.trans ?_
    show (fast 6 a.length ((b.length : Nat) : Int) 5).2.1.getD s 0 = _
    rw [f, getD_map _ _ hs]
end K78
end
section
set_option Elab.async false
set_option linter.all false
set_option maxRecDepth 100000
set_option maxHeartbeats 4000000
/-! a turn of the law: the words -/
namespace K78
open PySem MP
structure GW where
  s2 : MP.Slot := .unb
  s3 : MP.Slot := .unb
  s4 : MP.Slot := .unb
  s5 : MP.Slot := .unb
  s6 : MP.Slot := .unb
  s7 : MP.Slot := .unb
  s8 : MP.Slot := .unb
  s9 : MP.Slot := .unb
  s10 : MP.Slot := .unb
  s11 : MP.Slot := .unb
  s12 : MP.Slot := .unb
  s13 : MP.Slot := .unb
def eW (ns : List Int) (t : Sto) (g : GW) : S := { loc := [.val (.scr ns), .val (.ref 0), g.s2, g.s3, g.s4, g.s5, g.s6, g.s7, g.s8, g.s9, g.s10, g.s11, g.s12, g.s13], sto := t }
theorem v_next (m : Nat) {nums : List Int} {c k : Int} {ns : List Int} {g : GW} (h : NumsOk nums) (hc : 0 ≤ c ∧ c ≤ 500000000) (hk : 0 < k) : ∃ j : Nat, (j : Int) < k ∧ ∀ e : PE, (∀ s : S, s = eW ns (St nums c) g → evalE (callF FF 100000 (m + 1)) e s = .ok (.int k) s) → evalE (callF FF 100000 (m + 1)) (.call 14 (.cons (.var 1) (.cons e .nil))) (eW ns (St nums c) g) = .ok (.int (j : Nat)) (eW ns (St nums (c + 1)) g) := by
  obtain ⟨v, v0, v1, ev⟩ := sp_next m (c := c) (many := k) h (by omega) (by omega)
  obtain ⟨j, rfl⟩ : ∃ j : Nat, v = j := ⟨v.toNat, by omega⟩
  exact ⟨j, v1, fun e he => evalE_call (evalL_cons_ok (v_var (d := .ref 0) rfl) (evalL_cons_ok (he _ rfl) (evL_nil _ _))) ev⟩
theorem s_to2 {cf : CF} {wf : Nat} {t : Tgt} {e : PE} {s s1 s' : S} {d : D} (h : evalE cf e s = .ok d s1) (as : MP.assign t d s1 = some s') : evalS cf wf (.set t e) s = .ok .nx s' := s_toc h as
def wD (a b : Row) : D := .tup [setD a, setD b]
abbrev wT1 : PS := (.set (.nm 6) (.tup (.cons (.call 16 (.cons (.var 1) (.cons (.call 14 (.cons (.var 1) (.cons (.con (.int 6)) .nil))) .nil))) (.cons (.call 16 (.cons (.var 1) (.cons (.call 14 (.cons (.var 1) (.cons (.con (.int 4)) .nil))) .nil))) .nil))))
theorem st_t1 {ns nums : List Int} {c : Int} (h : NumsOk nums) (hc : 0 ≤ c ∧ c ≤ 400000000) (g : GW) :
    ∃ (a b : Row) (c' : Int), Names a ∧ a.length ≤ 5 ∧ Names b ∧ b.length ≤ 3 ∧ (c ≤ c' ∧ c' ≤ c + 500) ∧ evalS (callF FF 100000 99) 100000 wT1 (eW ns (St nums c) g) = .ok .nx (eW ns (St nums c') { g with s6 := .val (wD a b) }) := by
  obtain ⟨k, hk, ek⟩ := v_next 98 (k := 6) (ns := ns) (g := g) h (c := c) (by omega) (by omega)
  have ek := ek (.con (.int 6)) fun s _ => v_con
  obtain ⟨a, c1, gn, hn, hc1, et⟩ := sp_texts 96 (c := c + 1) k h (by omega) (by omega)
  obtain ⟨j, hj, ej⟩ := v_next 98 (k := 4) (ns := ns) (g := g) h (c := c1) (by omega) (by omega)
  have ej := ej (.con (.int 4)) fun s _ => v_con
  obtain ⟨b, c2, gr, hr, hc2, er⟩ := sp_texts 96 (c := c1 + 1) j h (by omega) (by omega)
  refine ⟨a, b, c2, gn, by omega, gr, by omega, by omega, ?_⟩
  have w1 := evalE_call (cf := callF FF 100000 99) (f := 16) (evalL_cons_ok (v_var (i := 1) (s := eW ns (St nums c) g) (d := .ref 0) rfl) (evalL_cons_ok ek (evL_nil _ _))) et
  have w2 := evalE_call (cf := callF FF 100000 99) (f := 16) (evalL_cons_ok (v_var (i := 1) (s := eW ns (St nums c1) g) (d := .ref 0) rfl) (evalL_cons_ok ej (evL_nil _ _))) er
  have w3 := evalL_cons_ok w1 (evalL_cons_ok w2 (evL_nil _ _))
  refine s_to2 (d := wD a b) (s1 := eW ns (St nums c2) g) ?_ rfl
  rw [ev_tup, w3]
  rfl
end K78
end
section
set_option Elab.async false
set_option linter.all false
set_option maxRecDepth 100000
set_option maxHeartbeats 4000000
/-! a turn of the law: all numbers up to 14 -/
namespace K78
open PySem MP
theorem Names.wds {a : Row} (h : Names a) (hl : a.length ≤ 24) : Wds a := ⟨h.nm, h.srt, hl⟩
theorem wdl_map {α : Type} {n b : Nat} (g : α → D) : ∀ {l : List α}, (∀ x ∈ l, Wd n b (g x)) → WdL n ((b + 1) * l.length) (l.map g)
  | [], _ => by rw [List.length_nil, Nat.mul_zero]; exact wdl_nil n
  | x :: l, h => by
    have h1 := wdl_cons (h x List.mem_cons_self) (wdl_map g (l := l) fun y hy => h y (List.mem_cons_of_mem _ hy))
    rw [List.map_cons, List.length_cons, Nat.mul_succ, Nat.add_comm]
    exact h1
def toldL (N r M : Nat) : List D := (List.range M).map fun s => tell (.int (sz N (r : Nat) s))
theorem told_same (m : Nat) {N r M : Nat} (h : Same N r M) {k : Nat} (hk : k ≤ M + 1) (t : Sto) : callF FF 100000 (m + 1) 12 [.lst (toldL N r k), .lst (toldL N r k)] t = .ok (.bl true) t := by
  have hM := h.ok.hM
  refine Wd.same m (wd_lst (wdl_map _ fun s hs => wd_told h (by have := List.mem_range.mp hs; omega))) t (by omega) ?_
  rw [List.length_range]
  omega
theorem same15 {a b : Row} (ha : a.length ≤ 5) (hb : b.length ≤ 3) : Same a.length b.length 14 := tab_of (by omega) (by omega) (by omega) (chk_small ⟨a.length, by omega⟩ ⟨b.length, by omega⟩)
abbrev wT2 : PS := (.set (.nm 7) (.call 18 (.cons (.prim .len (.cons (.prim .item (.cons (.var 6) (.cons (.con (.int 0)) .nil))) .nil)) (.cons (.prim .len (.cons (.prim .item (.cons (.var 6) (.cons (.con (.int 1)) .nil))) .nil)) (.cons (.con (.int 14)) .nil)))))
theorem st_t2 {ns nums : List Int} {c : Int} {a b : Row} (ha : a.length ≤ 5) (hb : b.length ≤ 3) (g : GW) (h6 : g.s6 = .val (wD a b)) :
    evalS (callF FF 100000 99) 100000 wT2 (eW ns (St nums c) g) = .ok .nx (eW ns (St nums c) { g with s7 := .val (.lst ((List.range 15).map fun s => .int (sz a.length (b.length : Nat) s))) }) := by
  have sm := same15 ha hb
  have cc := sp_counts 97 (St nums c) sm.ok
  rw [sm.eq, List.map_map] at cc
  have l0 : evalE (callF FF 100000 99) (.prim .len (.cons (.prim .item (.cons (.var 6) (.cons (.con (.int 0)) .nil))) .nil)) (eW ns (St nums c) g) = .ok (.int (a.length : Nat)) (eW ns (St nums c) g) := by
    have := ev_p1 (cf := callF FF 100000 99) (o_prim (ev_p2 (p := .item) (x := wD a b) (o_var (s := eW ns (St nums c) g) (i := 6) (congrArg some h6)) (o_con (d := .int 0)) (d := setD a) rfl)) (p_len_tup (a.map .str))
    rw [List.length_map] at this
    exact this
  have l1 : evalE (callF FF 100000 99) (.prim .len (.cons (.prim .item (.cons (.var 6) (.cons (.con (.int 1)) .nil))) .nil)) (eW ns (St nums c) g) = .ok (.int (b.length : Nat)) (eW ns (St nums c) g) := by
    have := ev_p1 (cf := callF FF 100000 99) (o_prim (ev_p2 (p := .item) (x := wD a b) (o_var (s := eW ns (St nums c) g) (i := 6) (congrArg some h6)) (o_con (d := .int 1)) (d := setD b) rfl)) (p_len_tup (b.map .str))
    rw [List.length_map] at this
    exact this
  exact s_to (v_call (v_l3 l0 l1 v_con) cc) rfl
abbrev wT3 : PS := (.set (.nm 5) (.comp (.call 19 (.cons (.var 6) (.cons (.var 4) .nil))) (.nm 4) (.rng1 (.con (.int 15))) .nil [4]))
theorem st_t3 {ns nums : List Int} {c : Int} {a b : Row} (ha : Wds a) (hb : Wds b) (g : GW) (h6 : g.s6 = .val (wD a b)) (h4 : FreeS g.s4) :
    evalS (callF FF 100000 99) 100000 wT3 (eW ns (St nums c) g) = .ok .nx (eW ns (St nums c) { g with s5 := .val (.lst (toldL a.length b.length 15)) }) := by
  have C := comp_map (cf := callF FF 100000 99) (elt := (.call 19 (.cons (.var 6) (.cons (.var 4) .nil)))) (i := 4) (it := (.rng1 (.con (.int 15)))) (s := eW ns (St nums c) g) (ys := List.range 15) (h := fun k : Nat => D.int (k : Nat)) (fun s => tell (.int (sz a.length (b.length : Nat) s))) (free_at rfl h4) (i_rng (n := 15) v_con (by omega))
    (fun k hk => by
      have hk := List.mem_range.mp hk
      exact v_call (v_l2 (v_var (congrArg some h6)) (v_var rfl)) (sp_told 94 ha hb (k := k) (by omega) (fl_St nums c) (by omega))) (by rw [List.length_range]; omega)
  exact s_to C rfl
end K78
end
section
set_option Elab.async false
set_option linter.all false
set_option maxRecDepth 100000
set_option maxHeartbeats 4000000
/-! a turn of the law: the first comparison, few words -/
namespace K78
open PySem MP
abbrev wT4 : PS := (.ife (.nt (.call 12 (.cons (.var 5) (.cons (.comp (.tup (.cons (.con (.str "told")) (.cons (.var 13) .nil))) (.nm 13) (.seq (.var 7)) .nil [13]) .nil)))) (.cons (.ret (.con (.bl false))) .nil) .nil)
theorem st_t4 {ns nums : List Int} {c : Int} {a b : Row} (ha : a.length ≤ 5) (hb : b.length ≤ 3) (g : GW) (h5 : g.s5 = .val (.lst (toldL a.length b.length 15))) (h7 : g.s7 = .val (.lst ((List.range 15).map fun s => .int (sz a.length (b.length : Nat) s)))) (h13 : FreeS g.s13) :
    evalS (callF FF 100000 99) 100000 wT4 (eW ns (St nums c) g) = .ok .nx (eW ns (St nums c) g) := by
  have C := comp_map (cf := callF FF 100000 99) (elt := (.tup (.cons (.con (.str "told")) (.cons (.var 13) .nil)))) (i := 13) (it := (.seq (.var 7))) (s := eW ns (St nums c) g) (ys := List.range 15) (h := fun s : Nat => D.int (sz a.length (b.length : Nat) s)) (fun s => tell (.int (sz a.length (b.length : Nat) s))) (free_at rfl h13) (i_seq (o_var (congrArg some h7)) rfl)
    (fun k hk => v_tup (v_l2 v_con (v_var rfl)) (by simp)) (by rw [List.length_range]; omega)
  exact st_skip (ev_not2 (v_call (v_l2 (v_var (congrArg some h5)) C) (told_same 98 (same15 ha hb) (k := 15) (by omega) _)))
end K78
end
section
set_option Elab.async false
set_option linter.all false
set_option maxRecDepth 100000
set_option maxHeartbeats 4000000
/-! a turn of the law: few words -/
namespace K78
open PySem MP
theorem cut_all {α : Type} (x : List α) (k : Nat) : MP.cut x none (some (k : Int)) = x.take k := by
  by_cases h : k ≤ x.length
  · exact cut_to x k h
  · unfold MP.cut
    have e : HT.sIx x.length x.length (some (k : Int)) = x.length := by
      show (if (k : Int) < 0 then ((k : Int) + (x.length : Int)).toNat else min (k : Int).toNat x.length) = x.length
      rw [if_neg (by omega)]
      omega
    rw [e, HT.sIx_none, Nat.sub_zero, List.drop_zero, List.take_length, List.take_of_length_le (by omega)]
theorem p_take (a : Row) (k : Nat) : prim .sl01 [setD a, .int (k : Nat)] = some (setD (a.take k)) := by
  show some (D.tup (MP.cut (a.map D.str) none (some (k : Int)))) = _
  rw [cut_all, ← List.map_take]
  rfl
theorem Wds.take {a : Row} (h : Wds a) (k : Nat) : Wds (a.take k) := ⟨fun x hx => h.nm x (List.mem_of_mem_take hx), h.srt.sublist (List.take_sublist _ _), Nat.le_trans (by rw [List.length_take]; exact Nat.min_le_right _ _) h.len⟩
abbrev wT5 : PS := (.set (.nm 8) (.tup (.cons (.prim .sl01 (.cons (.prim .item (.cons (.var 6) (.cons (.con (.int 0)) .nil))) (.cons (.con (.int 2)) .nil))) (.cons (.prim .sl01 (.cons (.prim .item (.cons (.var 6) (.cons (.con (.int 1)) .nil))) (.cons (.con (.int 1)) .nil))) .nil))))
theorem st_t5 {cf : CF} {ns : List Int} {t : Sto} {a b : Row} (g : GW) (h6 : g.s6 = .val (wD a b)) : evalS cf 100000 wT5 (eW ns t g) = .ok .nx (eW ns t { g with s8 := .val (wD (a.take 2) (b.take 1)) }) := by
  have i0 : ev1 cf (.prim .item (.cons (.var 6) (.cons (.con (.int 0)) .nil))) (eW ns t g) = .ok (setD a) (eW ns t g) := o_prim (ev_p2 (p := .item) (x := wD a b) (o_var (congrArg some h6)) (o_con (d := .int 0)) rfl)
  have i1 : ev1 cf (.prim .item (.cons (.var 6) (.cons (.con (.int 1)) .nil))) (eW ns t g) = .ok (setD b) (eW ns t g) := o_prim (ev_p2 (p := .item) (x := wD a b) (o_var (congrArg some h6)) (o_con (d := .int 1)) rfl)
  exact s_to (v_tup (v_l2 (ev_p2 (x := setD a) i0 (o_con (d := .int 2)) (p_take a 2)) (ev_p2 (x := setD b) i1 (o_con (d := .int 1)) (p_take b 1))) (by simp)) rfl
end K78
end
section
set_option Elab.async false
set_option linter.all false
set_option maxRecDepth 100000
set_option maxHeartbeats 4000000
/-! a turn of the law: all concepts of few words, the second comparison -/
namespace K78
open PySem MP
theorem few_len {a b : Row} : (a.take 2).length ≤ 2 ∧ (b.take 1).length ≤ 1 := by
  rw [List.length_take, List.length_take]
  exact ⟨Nat.min_le_left _ _, Nat.min_le_left _ _⟩
abbrev wT6 : PS := (.set (.nm 9) (.call 22 (.cons (.var 8) (.cons (.con (.int 4)) .nil))))
theorem st_t6 {ns : List Int} {t : Sto} {a b : Row} (ha : a.length ≤ 2) (hb : b.length ≤ 1) (g : GW) (h8 : g.s8 = .val (wD a b)) : evalS (callF FF 100000 99) 100000 wT6 (eW ns t g) = .ok .nx (eW ns t { g with s9 := .val (csD 4 (F4 a b)) }) :=
  s_to (v_call (v_l2 (v_var (congrArg some h8)) v_con) (few_all 93 ha hb t).1) rfl
abbrev wT7 : PS := (.ife (.nt (.call 12 (.cons (.comp (.call 19 (.cons (.var 8) (.cons (.var 4) .nil))) (.nm 4) (.rng1 (.con (.int 5))) .nil [4]) (.cons (.comp (.tup (.cons (.con (.str "told")) (.cons (.prim .len (.cons (.comp (.var 13) (.nm 13) (.seq (.var 9)) (.cons (.prim .eq (.cons (.call 21 (.cons (.var 13) .nil)) (.cons (.var 4) .nil))) .nil) [13]) .nil)) .nil))) (.nm 4) (.rng1 (.con (.int 5))) .nil [4]) .nil)))) (.cons (.ret (.con (.bl false))) .nil) .nil)
theorem st_t7 {ns nums : List Int} {c : Int} {a b : Row} (wa : Wds a) (wb : Wds b) (ha : a.length ≤ 2) (hb : b.length ≤ 1) (g : GW) (h4 : FreeS g.s4) (h8 : g.s8 = .val (wD a b)) (h9 : g.s9 = .val (csD 4 (F4 a b))) (h13 : FreeS g.s13) :
    evalS (callF FF 100000 99) 100000 wT7 (eW ns (St nums c) g) = .ok .nx (eW ns (St nums c) g) := by
  obtain ⟨_, sh, fl, cnt⟩ := few_all 93 ha hb (St nums c)
  have C1 := comp_map (cf := callF FF 100000 99) (elt := (.call 19 (.cons (.var 8) (.cons (.var 4) .nil)))) (i := 4) (it := (.rng1 (.con (.int 5)))) (s := eW ns (St nums c) g) (ys := List.range 5) (h := fun k : Nat => D.int (k : Nat)) (fun s => tell (.int (sz a.length (b.length : Nat) s))) (free_at rfl h4) (i_rng (n := 5) v_con (by omega))
    (fun k hk => by
      have hk := List.mem_range.mp hk
      exact v_call (v_l2 (v_var (congrArg some h8)) (v_var rfl)) (sp_told 94 wa wb (k := k) (by omega) (fl_St nums c) (by omega))) (by rw [List.length_range]; omega)
  have C2 := comp_map (cf := callF FF 100000 99) (elt := (.tup (.cons (.con (.str "told")) (.cons (.prim .len (.cons (.comp (.var 13) (.nm 13) (.seq (.var 9)) (.cons (.prim .eq (.cons (.call 21 (.cons (.var 13) .nil)) (.cons (.var 4) .nil))) .nil) [13]) .nil)) .nil)))) (i := 4) (it := (.rng1 (.con (.int 5)))) (s := eW ns (St nums c) g) (ys := List.range 5) (h := fun k : Nat => D.int (k : Nat)) (fun s => tell (.int (sz a.length (b.length : Nat) s))) (free_at rfl h4) (i_rng (n := 5) v_con (by omega))
    (fun k hk => by
      have hk := List.mem_range.mp hk
      have I := comp_if (cf := callF FF 100000 99) (elt := (.var 13)) (i := 13) (it := (.seq (.var 9))) (cs := (.cons (.prim .eq (.cons (.call 21 (.cons (.var 13) .nil)) (.cons (.var 4) .nil))) .nil)) (s := { (eW ns (St nums c) g) with loc := (eW ns (St nums c) g).loc.set 4 (.val (.int (k : Nat))) }) (ys := F4 a b) (h := conD 4) (fun x => decide (szC 4 x = k)) (conD 4) (free_at (x := g.s13) rfl h13) (i_seq (o_var (congrArg some h9)) rfl)
        (fun x hx => evC_t (ev_p2 (o_call (v_call (v_l1 (v_var rfl)) (sp_size 4 94 _ (sh x hx)))) (o_var (d := .int (k : Nat)) rfl) (p_eq_nat _ k)))
        (fun x hx _ => v_var rfl) (by omega)
      have L := ev_p1 (o_comp I) (p_len_lst _)
      rw [List.length_map, cnt k hk] at L
      exact v_tup (v_l2 v_con L) (by simp)) (by rw [List.length_range]; omega)
  exact st_skip (ev_not2 (v_call (v_l2 C1 C2) (told_same 98 (same15 (a := a) (b := b) (by omega) (by omega)) (k := 5) (by omega) _)))
end K78
end
section
set_option Elab.async false
set_option linter.all false
set_option maxRecDepth 100000
set_option maxHeartbeats 4000000
/-! the three turns of the law -/
namespace K78
open PySem MP
abbrev wB : PB := (.cons wT1 (.cons wT2 (.cons wT3 (.cons wT4 (.cons wT5 (.cons wT6 (.cons wT7 .nil)))))))
theorem turn_law {ns nums : List Int} {c : Int} (h : NumsOk nums) (hc : 0 ≤ c ∧ c ≤ 400000000) (d : D) (g : GW) (h4 : FreeS g.s4) (h13 : FreeS g.s13) :
    ∃ (g' : GW) (c' : Int), FreeS g'.s4 ∧ (FreeS g'.s13 ∧ g'.s10 = g.s10 ∧ g'.s11 = g.s11 ∧ g'.s12 = g.s12) ∧ (c ≤ c' ∧ c' ≤ c + 500) ∧ (ofOpt (MP.assign (.nm 2) d (eW ns (St nums c) g)) fun s => evalSs (callF FF 100000 99) 100000 wB s) = .ok .nx (eW ns (St nums c') g') := by
  obtain ⟨a, b, c', na, la, nb, lb, hc', p1⟩ := st_t1 (ns := ns) h hc { g with s2 := .val d }
  have wa := Names.wds na (by omega)
  have wb := Names.wds nb (by omega)
  have p2 := st_t2 (ns := ns) (nums := nums) (c := c') la lb { g with s2 := .val d, s6 := .val (wD a b) } rfl
  have p3 := st_t3 (ns := ns) (nums := nums) (c := c') wa wb { g with s2 := .val d, s6 := .val (wD a b), s7 := .val (.lst ((List.range 15).map fun s => .int (sz a.length (b.length : Nat) s))) } rfl h4
  have p4 := st_t4 (ns := ns) (nums := nums) (c := c') la lb { g with s2 := .val d, s6 := .val (wD a b), s7 := .val (.lst ((List.range 15).map fun s => .int (sz a.length (b.length : Nat) s))), s5 := .val (.lst (toldL a.length b.length 15)) } rfl rfl h13
  have p5 := st_t5 (cf := callF FF 100000 99) (ns := ns) (t := St nums c') (a := a) (b := b) { g with s2 := .val d, s6 := .val (wD a b), s7 := .val (.lst ((List.range 15).map fun s => .int (sz a.length (b.length : Nat) s))), s5 := .val (.lst (toldL a.length b.length 15)) } rfl
  have fl := few_len (a := a) (b := b)
  have p6 := st_t6 (ns := ns) (t := St nums c') fl.1 fl.2 { g with s2 := .val d, s6 := .val (wD a b), s7 := .val (.lst ((List.range 15).map fun s => .int (sz a.length (b.length : Nat) s))), s5 := .val (.lst (toldL a.length b.length 15)), s8 := .val (wD (a.take 2) (b.take 1)) } rfl
  have p7 := st_t7 (ns := ns) (nums := nums) (c := c') (wa.take 2) (wb.take 1) fl.1 fl.2 { g with s2 := .val d, s6 := .val (wD a b), s7 := .val (.lst ((List.range 15).map fun s => .int (sz a.length (b.length : Nat) s))), s5 := .val (.lst (toldL a.length b.length 15)), s8 := .val (wD (a.take 2) (b.take 1)), s9 := .val (csD 4 (F4 (a.take 2) (b.take 1))) } h4 rfl rfl h13
  exact ⟨{ g with s2 := .val d, s6 := .val (wD a b), s7 := .val (.lst ((List.range 15).map fun s => .int (sz a.length (b.length : Nat) s))), s5 := .val (.lst (toldL a.length b.length 15)), s8 := .val (wD (a.take 2) (b.take 1)), s9 := .val (csD 4 (F4 (a.take 2) (b.take 1))) }, c', h4, ⟨h13, rfl, rfl, rfl⟩, hc', turn_at (s1 := eW ns (St nums c) { g with s2 := .val d }) rfl (b_cons p1 (b_cons p2 (b_cons p3 (b_cons p4 (b_cons p5 (b_cons p6 (b_cons p7 b_nil)))))))⟩
theorem loop_law {ns nums : List Int} (h : NumsOk nums) : ∃ (g' : GW) (c' : Int), (FreeS g'.s4 ∧ FreeS g'.s13 ∧ g'.s10 = .unb ∧ g'.s11 = .unb ∧ g'.s12 = .unb) ∧ (0 ≤ c' ∧ c' ≤ 1500) ∧ evalS (callF FF 100000 99) 100000 (.forr (.nm 2) (.rng1 (.con (.int 3))) wB) (eW ns (St nums 0) {}) = .ok .nx (eW ns (St nums c') g') := by
  obtain ⟨g1, c1, f1, ⟨e1, x1, y1, z1⟩, b1, p1⟩ := turn_law (ns := ns) (c := 0) h (by omega) (.int ((0 : Nat) : Int)) {} (.inl rfl) (.inl rfl)
  obtain ⟨g2, c2, f2, ⟨e2, x2, y2, z2⟩, b2, p2⟩ := turn_law (ns := ns) (c := c1) h (by omega) (.int ((1 : Nat) : Int)) g1 f1 e1
  obtain ⟨g3, c3, f3, ⟨e3, x3, y3, z3⟩, b3, p3⟩ := turn_law (ns := ns) (c := c2) h (by omega) (.int ((2 : Nat) : Int)) g2 f2 e2
  refine ⟨g3, c3, ⟨f3, e3, by rw [x3, x2, x1], by rw [y3, y2, y1], by rw [z3, z2, z1]⟩, by omega, s_for (i_rng (n := 3) v_con (by omega)) ?_⟩
  exact loop_one p1 (loop_one p2 (loop_one p3 rfl))
end K78
end
section
set_option Elab.async false
set_option linter.all false
set_option maxRecDepth 100000
set_option maxHeartbeats 4000000
/-! the last lines of the law -/
namespace K78
open PySem MP
abbrev wL1 : PS := (.set (.nm 3) (.prim .tuple (.cons (.comp (.fstr (.cons (.con (.str "n")) (.cons (.prim .add (.cons (.var 12) (.cons (.con (.int 100)) .nil))) .nil))) (.nm 12) (.rng1 (.con (.int 24))) .nil [12]) .nil)))
theorem st_l1 (cf : CF) (ns : List Int) (t : Sto) (g : GW) (h : g.s12 = .unb) : evalS cf 100000 wL1 (eW ns t g) = .ok .nx (eW ns t { g with s3 := .val (setD wideR) }) := by
  obtain ⟨a2, a3, a4, a5, a6, a7, a8, a9, a10, a11, a12, a13⟩ := g
  have h : a12 = .unb := h
  subst h
  kernel_rfl
abbrev wL2 : PS := (.set (.nm 4) (.prim .add (.cons (.con (.int 30)) (.cons (.call 14 (.cons (.var 1) (.cons (.con (.int 11)) .nil))) .nil))))
theorem st_l2 {ns nums : List Int} {c : Int} (h : NumsOk nums) (hc : 0 ≤ c ∧ c ≤ 400000000) (g : GW) : ∃ j : Nat, j < 11 ∧ evalS (callF FF 100000 99) 100000 wL2 (eW ns (St nums c) g) = .ok .nx (eW ns (St nums (c + 1)) { g with s4 := .val (.int ((30 + j : Nat) : Int)) }) := by
  obtain ⟨j, hj, ej⟩ := v_next 98 (k := 11) (ns := ns) (g := g) h (c := c) (by omega) (by omega)
  have ej := ej (.con (.int 11)) fun s _ => v_con
  exact ⟨j, by omega, s_toc (ev_p2s (x := .int ((30 : Nat) : Int)) (y := .int (j : Nat)) o_con (o_call' ej) (p_add_nat 30 j)) rfl⟩
end K78
end
section
set_option Elab.async false
set_option linter.all false
set_option maxRecDepth 100000
set_option maxHeartbeats 4000000
/-! the last lines of the law: the wide pair, what is told, what is due -/
namespace K78
open PySem MP
theorem s_cellv {cf : CF} {wf i : Nat} {e : PE} {s : S} {xs : List D} (h : evalE cf e s = .ok (.lst xs) s) (hi : i < s.loc.length) : evalS cf wf (.cell i e) s = .ok .nx { loc := s.loc.set i (.val (.ref s.sto.length)), sto := s.sto ++ [.lst xs] } := by
  simp only [evalS, h, bind_ok]
  rw [if_pos hi]
theorem p_add_tups (a b : List D) (h : a.length + b.length ≤ 16777216) : prim .add [.tup a, .tup b] = some (.tup (a ++ b)) := by
  show (if a.length + b.length ≤ 16777216 then some (D.tup (a ++ b)) else none) = _
  rw [if_pos h]
def pN (j : Nat) : Nat := [24, 1, 0, 24].getD j 0
def pR (j : Nat) : Nat := [24, 1, 3, 1].getD j 0
def pairsL : List D := [.tup [.int 24, .int 24], .tup [.int 1, .int 1], .tup [.int 0, .int 3], .tup [.int 24, .int 1]]
theorem pair_item : ∀ {j : Nat}, j < 4 → prim .item [.lst pairsL, .int (j : Nat)] = some (.tup [.int (pN j : Nat), .int (pR j : Nat)])
  | 0, _ => rfl
  | 1, _ => rfl
  | 2, _ => rfl
  | 3, _ => rfl
  | j + 4, h => absurd h (by omega)
theorem pair_same : ∀ {j : Nat}, j < 4 → Same (pN j) (pR j) 40
  | 0, _ => tab_of (by decide) (by decide) (by decide) chk_1
  | 1, _ => tab_of (by decide) (by decide) (by decide) chk_2
  | 2, _ => tab_of (by decide) (by decide) (by decide) chk_3
  | 3, _ => tab_of (by decide) (by decide) (by decide) chk_4
  | j + 4, h => absurd h (by omega)
abbrev wL3 : PS := (.set (.tp [(.nm 10), (.nm 11)]) (.prim .item (.cons (.lst (.cons (.tup (.cons (.con (.int 24)) (.cons (.con (.int 24)) .nil))) (.cons (.tup (.cons (.con (.int 1)) (.cons (.con (.int 1)) .nil))) (.cons (.tup (.cons (.con (.int 0)) (.cons (.con (.int 3)) .nil))) (.cons (.tup (.cons (.con (.int 24)) (.cons (.con (.int 1)) .nil))) .nil))))) (.cons (.call 14 (.cons (.var 1) (.cons (.con (.int 4)) .nil))) .nil))))
theorem st_l3 {ns nums : List Int} {c : Int} (h : NumsOk nums) (hc : 0 ≤ c ∧ c ≤ 400000000) (g : GW) : ∃ j : Nat, j < 4 ∧ evalS (callF FF 100000 99) 100000 wL3 (eW ns (St nums c) g) = .ok .nx (eW ns (St nums (c + 1)) { g with s10 := .val (.int (pN j : Nat)), s11 := .val (.int (pR j : Nat)) }) := by
  obtain ⟨j, hj, ej⟩ := v_next 98 (k := 4) (ns := ns) (g := g) h (c := c) (by omega) (by omega)
  have ej := ej (.con (.int 4)) fun s _ => v_con
  have hj' : j < 4 := by omega
  have prs : ∀ a b : Int, evalE (callF FF 100000 99) (.tup (.cons (.con (.int a)) (.cons (.con (.int b)) .nil))) (eW ns (St nums c) g) = .ok (.tup [.int a, .int b]) (eW ns (St nums c) g) := fun a b => v_tup (v_l2 v_con v_con) (by simp)
  have vl := v_lst (evalL_cons_ok (prs 24 24) (evalL_cons_ok (prs 1 1) (evalL_cons_ok (prs 0 3) (v_l1 (prs 24 1))))) (by simp)
  exact ⟨j, hj', s_toc (ev_p2s (x := .lst pairsL) (y := .int (j : Nat)) (o_lst vl) (o_call' ej) (pair_item hj')) rfl⟩
def toldW (N r s : Nat) : List D := [tell (.int (sz N (r : Nat) s)), .str "large", .str "large", .str "refused", .str "refused", tell (.int 0)]
abbrev wL4 : PS := (.set (.nm 5) (.lst (.cons (.call 19 (.cons (.tup (.cons (.prim .sl01 (.cons (.var 3) (.cons (.var 10) .nil))) (.cons (.prim .sl01 (.cons (.var 3) (.cons (.var 11) .nil))) .nil))) (.cons (.var 4) .nil))) (.cons (.call 19 (.cons (.tup (.cons (.var 3) (.cons (.var 3) .nil))) (.cons (.con (.int 41)) .nil))) (.cons (.call 19 (.cons (.tup (.cons (.prim .add (.cons (.var 3) (.cons (.tup (.cons (.con (.str "o")) .nil)) .nil))) (.cons (.tup .nil) .nil))) (.cons (.prim .neg (.cons (.con (.int 1)) .nil)) .nil))) (.cons (.call 19 (.cons (.tup (.cons (.var 3) (.cons (.var 3) .nil))) (.cons (.prim .neg (.cons (.con (.int 1)) .nil)) .nil))) (.cons (.call 19 (.cons (.tup (.cons (.tup (.cons (.con (.str "b")) (.cons (.con (.str "a")) .nil))) (.cons (.tup .nil) .nil))) (.cons (.con (.int 41)) .nil))) (.cons (.call 19 (.cons (.tup (.cons (.var 3) (.cons (.tup .nil) .nil))) (.cons (.con (.int 25)) .nil))) .nil))))))))
theorem pN_le : ∀ {j : Nat}, j < 4 → pN j ≤ 24 ∧ pR j ≤ 24 := fun h => ⟨(pair_same h).ok.hN, (pair_same h).ok.hr⟩
theorem st_l4 {ns nums : List Int} {c : Int} {j s : Nat} (hj : j < 4) (hs : s ≤ 40) (g : GW) (h3 : g.s3 = .val (setD wideR)) (h4 : g.s4 = .val (.int (s : Nat))) (h10 : g.s10 = .val (.int (pN j : Nat))) (h11 : g.s11 = .val (.int (pR j : Nat))) :
    evalS (callF FF 100000 99) 100000 wL4 (eW ns (St nums c) g) = .ok .nx (eW ns (St nums c) { g with s5 := .val (.lst (toldW (pN j) (pR j) s)) }) := by
  have v3 : evalE (callF FF 100000 99) (.var 3) (eW ns (St nums c) g) = .ok (setD wideR) (eW ns (St nums c) g) := v_var (congrArg some h3)
  have v4 : evalE (callF FF 100000 99) (.var 4) (eW ns (St nums c) g) = .ok (.int (s : Nat)) (eW ns (St nums c) g) := v_var (congrArg some h4)
  have sN : evalE (callF FF 100000 99) (.prim .sl01 (.cons (.var 3) (.cons (.var 10) .nil))) (eW ns (St nums c) g) = .ok (setD (wideR.take (pN j))) (eW ns (St nums c) g) := ev_p2 (x := setD wideR) (y := .int (pN j : Nat)) (o_var (congrArg some h3)) (o_var (congrArg some h10)) (p_take wideR (pN j))
  have sR : evalE (callF FF 100000 99) (.prim .sl01 (.cons (.var 3) (.cons (.var 11) .nil))) (eW ns (St nums c) g) = .ok (setD (wideR.take (pR j))) (eW ns (St nums c) g) := ev_p2 (x := setD wideR) (y := .int (pR j : Nat)) (o_var (congrArg some h3)) (o_var (congrArg some h11)) (p_take wideR (pR j))
  have q1 := sp_told 94 (wide_take (pN j)) (wide_take (pR j)) (k := s) hs (fl_St nums c) (by omega)
  have ln : (wideR.take (pN j)).length = pN j := by rw [List.length_take, wide_len]; exact Nat.min_eq_left (pN_le hj).1
  have lr : (wideR.take (pR j)).length = pR j := by rw [List.length_take, wide_len]; exact Nat.min_eq_left (pN_le hj).2
  rw [ln, lr] at q1
  have t0 : evalE (callF FF 100000 99) (.tup .nil) (eW ns (St nums c) g) = .ok (.tup []) (eW ns (St nums c) g) := v_tup (evL_nil _ _) (by simp)
  have t33 : evalE (callF FF 100000 99) (.tup (.cons (.var 3) (.cons (.var 3) .nil))) (eW ns (St nums c) g) = .ok (.tup [setD wideR, setD wideR]) (eW ns (St nums c) g) := v_tup (v_l2 v3 v3) (by simp)
  have o_tup : ∀ {es : PL} {d : D}, evalE (callF FF 100000 99) (.tup es) (eW ns (St nums c) g) = .ok d (eW ns (St nums c) g) → ev1 (callF FF 100000 99) (.tup es) (eW ns (St nums c) g) = .ok d (eW ns (St nums c) g) := fun h => by rw [op_tup, h]
  have pw : prim .add [setD wideR, .tup [.str "o"]] = some (setD (wideR ++ [("o" : Str)])) := by
    unfold setD
    rw [p_add_tups _ _ (by rw [List.length_map, wide_len]; decide), List.map_append]
    rfl
  have wo : evalE (callF FF 100000 99) (.prim .add (.cons (.var 3) (.cons (.tup (.cons (.con (.str "o")) .nil)) .nil))) (eW ns (St nums c) g) = .ok (setD (wideR ++ [("o" : Str)])) (eW ns (St nums c) g) := ev_p2 (x := setD wideR) (o_var (congrArg some h3)) (o_tup (v_tup (v_l1 v_con) (by simp))) pw
  have neg : evalE (callF FF 100000 99) (.prim .neg (.cons (.con (.int 1)) .nil)) (eW ns (St nums c) g) = .ok (.int (-1)) (eW ns (St nums c) g) := ev_p1 (x := .int 1) o_con rfl
  have ba : evalE (callF FF 100000 99) (.tup (.cons (.con (.str "b")) (.cons (.con (.str "a")) .nil))) (eW ns (St nums c) g) = .ok (.tup [.str "b", .str "a"]) (eW ns (St nums c) g) := v_tup (v_l2 v_con v_con) (by simp)
  have e1 := v_call (v_l2 (v_tup (v_l2 sN sR) (by simp)) v4) q1
  have e2 := v_call (v_l2 t33 (v_con (d := .int 41))) (w1 nums c)
  have e3 := v_call (v_l2 (v_tup (v_l2 wo t0) (by simp)) neg) (w2 nums c)
  have e4 := v_call (v_l2 t33 neg) (w3 nums c)
  have e5 := v_call (v_l2 (v_tup (v_l2 ba t0) (by simp)) (v_con (d := .int 41))) (w4 nums c)
  have e6 := v_call (v_l2 (v_tup (v_l2 v3 t0) (by simp)) (v_con (d := .int 25))) (w5 nums c)
  exact s_to (v_lst (evalL_cons_ok e1 (evalL_cons_ok e2 (evalL_cons_ok e3 (evalL_cons_ok e4 (evalL_cons_ok e5 (v_l1 e6)))))) (by simp)) rfl
def dueW (N r s : Nat) : List D := [tell (.int (sz N (r : Nat) s)), .str "large", .str "large", .str "refused", .str "refused", tell (.int 0), .int 40]
theorem dueW_same {N r M s : Nat} (h : Same N r M) (hs : s ≤ M) (t : Sto) : callF FF 100000 99 12 [.lst (dueW N r s), .lst (dueW N r s)] t = .ok (.bl true) t := by
  have a := (wd_told h hs).mono (n' := 1) (b' := 10) (by omega) (by omega)
  have L : Wd 1 10 (.str "large") := (wd_str (by decide +kernel)).mono (by omega) (by decide +kernel)
  have F : Wd 1 10 (.str "refused") := (wd_str (by decide +kernel)).mono (by omega) (by decide +kernel)
  have z : Wd 1 10 (tell (.int 0)) := (wd_tup (wdl_cons ((wd_str told_ok).mono (n' := 0) (b' := 4) (by omega) (by decide +kernel)) (wdl_cons (wd_nat (k := 0) (Nat.two_pow_pos _)) (wdl_nil _)))).mono (by omega) (by omega)
  have k40 : (40 : Nat) < 2 ^ 1919 := Nat.lt_of_lt_of_le (by decide : 40 < 2 ^ 6) (Nat.pow_le_pow_right (by decide) (by decide))
  have f : Wd 1 10 (.int (40 : Nat)) := (wd_nat k40).mono (by omega) (by omega)
  exact Wd.same 98 (wd_lst (wdl_cons a (wdl_cons L (wdl_cons L (wdl_cons F (wdl_cons F (wdl_cons z (wdl_cons f (wdl_nil _))))))))) t (by omega) (by omega)
abbrev wL5 : PS := (.ret (.call 12 (.cons (.prim .add (.cons (.var 5) (.cons (.lst (.cons (.glob "MAX_COUNTED" (.int (40))) .nil)) .nil))) (.cons (.lst (.cons (.tup (.cons (.con (.str "told")) (.cons (.prim .item (.cons (.call 18 (.cons (.var 10) (.cons (.var 11) (.cons (.var 4) .nil)))) (.cons (.var 4) .nil))) .nil))) (.cons (.con (.str "large")) (.cons (.con (.str "large")) (.cons (.con (.str "refused")) (.cons (.con (.str "refused")) (.cons (.tup (.cons (.con (.str "told")) (.cons (.con (.int 0)) .nil))) (.cons (.con (.int 40)) .nil)))))))) .nil))))
theorem st_l5 {ns nums : List Int} {c : Int} {j s : Nat} (hj : j < 4) (hs : s ≤ 40) (g : GW) (h4 : g.s4 = .val (.int (s : Nat))) (h5 : g.s5 = .val (.lst (toldW (pN j) (pR j) s))) (h10 : g.s10 = .val (.int (pN j : Nat))) (h11 : g.s11 = .val (.int (pR j : Nat))) :
    evalS (callF FF 100000 99) 100000 wL5 (eW ns (St nums c) g) = .ok (.ret (.bl true)) (eW ns (St nums c) g) := by
  have sm := tab_down hs (pair_same hj)
  have cc := sp_counts 97 (St nums c) sm.ok
  rw [sm.eq, List.map_map] at cc
  have vc : evalE (callF FF 100000 99) (.call 18 (.cons (.var 10) (.cons (.var 11) (.cons (.var 4) .nil)))) (eW ns (St nums c) g) = _ := v_call (v_l3 (v_var (congrArg some h10)) (v_var (congrArg some h11)) (v_var (congrArg some h4))) cc
  have vi : evalE (callF FF 100000 99) (.prim .item (.cons (.call 18 (.cons (.var 10) (.cons (.var 11) (.cons (.var 4) .nil)))) (.cons (.var 4) .nil))) (eW ns (St nums c) g) = .ok (.int (sz (pN j) (pR j : Nat) s)) (eW ns (St nums c) g) :=
    ev_p2 (y := .int (s : Nat)) (o_call vc) (o_var (congrArg some h4)) (p_item_l _ s _ (by rw [List.getElem?_map, List.getElem?_range (by omega)]; rfl))
  have vt : evalE (callF FF 100000 99) (.tup (.cons (.con (.str "told")) (.cons (.con (.int 0)) .nil))) (eW ns (St nums c) g) = .ok (tell (.int 0)) (eW ns (St nums c) g) := v_tup (v_l2 v_con v_con) (by simp)
  have vg : evalE (callF FF 100000 99) (.lst (.cons (.glob "MAX_COUNTED" (.int (40))) .nil)) (eW ns (St nums c) g) = .ok (.lst [.int 40]) (eW ns (St nums c) g) := v_lst (v_l1 (ev_glob _ _ _ _)) (by simp)
  have r := v_lst (evalL_cons_ok (v_tup (v_l2 (v_con (d := .str "told")) vi) (by simp)) (evalL_cons_ok (v_con (d := .str "large")) (evalL_cons_ok (v_con (d := .str "large")) (evalL_cons_ok (v_con (d := .str "refused")) (evalL_cons_ok (v_con (d := .str "refused")) (evalL_cons_ok vt (v_l1 (v_con (d := .int 40))))))))) (by simp)
  have l := ev_p2 (s := eW ns (St nums c) g) (x := .lst (toldW (pN j) (pR j) s)) (d := .lst (dueW (pN j) (pR j) s)) (cf := callF FF 100000 99) (a := .var 5) (y := .lst [.int 40]) (o_var (i := 5) (congrArg some h5)) (o_lst vg) (p_add_lsts (toldW (pN j) (pR j) s) [.int 40] (by show 6 + 1 ≤ 16777216; omega))
  exact s_retv (v_call (v_l2 l r) (dueW_same (pair_same hj) hs _))
theorem plain (ns : List Int) (hl : ns.length ≤ 63) : ∃ t, callF FF 100000 100 23 [.scr ns] [] = .ok (.bl true) t := by
  obtain ⟨nums, h, ew⟩ := sp_stream 98 ns [] hl
  obtain ⟨g', c', ⟨f4, f13, f10, f11, f12⟩, hc', st0⟩ := loop_law (ns := ns) h
  have s1 := st_l1 (callF FF 100000 99) ns (St nums c') g' f12
  obtain ⟨k, hk, s2⟩ := st_l2 (ns := ns) h (c := c') (by omega) { g' with s3 := .val (setD wideR) }
  obtain ⟨j, hj, s3⟩ := st_l3 (ns := ns) h (c := c' + 1) (by omega) { g' with s3 := .val (setD wideR), s4 := .val (.int ((30 + k : Nat) : Int)) }
  have s4 := st_l4 (ns := ns) (nums := nums) (c := c' + 1 + 1) hj (s := 30 + k) (by omega) { g' with s3 := .val (setD wideR), s4 := .val (.int ((30 + k : Nat) : Int)), s10 := .val (.int (pN j : Nat)), s11 := .val (.int (pR j : Nat)) } rfl rfl rfl rfl
  have s5 := st_l5 (ns := ns) (nums := nums) (c := c' + 1 + 1) hj (s := 30 + k) (by omega) { g' with s3 := .val (setD wideR), s4 := .val (.int ((30 + k : Nat) : Int)), s10 := .val (.int (pN j : Nat)), s11 := .val (.int (pR j : Nat)), s5 := .val (.lst (toldW (pN j) (pR j) (30 + k))) } rfl rfl rfl rfl
  refine ⟨St nums (c' + 1 + 1), fn_at (np := 1) (nl := 14) rfl rfl (run_ret (s' := eW ns (St nums (c' + 1 + 1)) { g' with s3 := .val (setD wideR), s4 := .val (.int ((30 + k : Nat) : Int)), s10 := .val (.int (pN j : Nat)), s11 := .val (.int (pR j : Nat)), s5 := .val (.lst (toldW (pN j) (pR j) (30 + k))) }) ?_ rfl)⟩
  have v0 : evalE (callF FF 100000 99) (.lst (.cons (.call 13 (.cons (.var 0) .nil)) (.cons (.con (.int 0)) .nil))) { loc := [.val (.scr ns), .unb, .unb, .unb, .unb, .unb, .unb, .unb, .unb, .unb, .unb, .unb, .unb, .unb], sto := [] } = .ok (.lst [.lst (nums.map .int), .int 0]) { loc := [.val (.scr ns), .unb, .unb, .unb, .unb, .unb, .unb, .unb, .unb, .unb, .unb, .unb, .unb, .unb], sto := [] } :=
    v_lst (v_l2 (v_call (v_l1 (v_var rfl)) ew) v_con) (by simp)
  exact b_cons (s1 := eW ns (St nums 0) {}) (s_cellv v0 (by simp)) (b_cons st0 (b_cons s1 (b_cons s2 (b_cons s3 (b_cons s4 (b_last s5))))))
theorem holds : PySem.Challenge.rw_menagerie_k78_how_many_concepts.Holds := holds_of plain
end K78
end
open PySem PySem.W PyProof.Rows
set_option Elab.async false
theorem PySem.Challenge.cw_menagerie_k78_how_many_concepts_holds : PySem.Challenge.rw_menagerie_k78_how_many_concepts.Holds := by
  exact K78.holds
