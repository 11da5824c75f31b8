import PyProof.Rows.All
import Wide.All
import OpenK.AllK
import Wide.FinOn
import HandS.ForMost
import HandS.Exc
import HandS.ExcOwn
import HandS.WordsExc
import HandS.TryOnly
import HandS.Defaults
import HandS.HotCalls
import HandS.ExcIs
import HandS.IsInst
import HandS.Conv
import HandS.FStr
import HandS.TupMul
import HandS.TupAny
import HandS.Wide
import HandS.Zip
import HandS.Deep
import HandS.Flow
import KE.SortData
import KE.DatumIndex
import KE.DataMinMax
import HandS.Style
import HandS.Gcd
import HandS.Text
import HandS.ExcCtx
import HandS.Set
import HandS.SetTxt0
import PyProof.Rows.SetFrom
import PyProof.WalksMore
import HandS.Walk
import KE.GoesEnum
import HandS.ExcValue
import KE.KStateDown
import Lean
import HandS.Head0
import HandS.Head1
import HandS.Head2
import HandS.HeadEnd
import HandS.HeadHook1
import HandS.HeadHook2
import HandS.Head3
import PySem.Challenge.RW_menagerie_k74_whole_shares_and_likeness
section
set_option Elab.async false
set_option linter.all false
set_option maxRecDepth 100000
set_option maxHeartbeats 1000000
/-! MP: a small part of Python as plain Lean: data, terms, what they do. -/
namespace MP
open PySem

/-- data: immutable values; lists that nobody changes any more; defs; cells of the store -/
inductive D where
  | non | bl (b : Bool) | int (i : Int) | str (x : Str) | tup (xs : List D) | lst (xs : List D) | fn (i : Nat) | ref (i : Nat) | scr (ns : List Int)
  deriving Inhabited

mutual
def D.pd : D → PyData
  | .non => .none
  | .bl b => .bool b
  | .int i => .int i
  | .str x => .str x
  | .tup xs => .tuple (pdL xs)
  | .lst xs => .list (pdL xs)
  | .fn _ => .none
  | .ref _ => .none
  | .scr _ => .none
def pdL : List D → List PyData
  | [] => []
  | x :: xs => x.pd :: pdL xs
end
theorem pdL_map : ∀ xs : List D, pdL xs = xs.map D.pd
  | [] => rfl
  | x :: xs => by rw [pdL, pdL_map xs]; rfl
mutual
/-- no def, no cell in it -/
def D.flat : D → Bool
  | .tup xs => flatL xs
  | .lst xs => flatL xs
  | .fn _ => false
  | .ref _ => false
  | .scr _ => false
  | .non => true
  | .bl _ => true
  | .int _ => true
  | .str _ => true
def flatL : List D → Bool
  | [] => true
  | x :: xs => x.flat && flatL xs
end

/-- what a slot of a frame holds: nothing; a datum; a list that this slot alone holds -/
inductive Slot where
  | unb | val (d : D) | own (xs : List D)
  deriving Inhabited
/-- a cell of the store -/
inductive Cell where
  | lst (xs : List D)
  | ins (c : Nat) (fs : List (Nat × D))
  | dct (kvs : List (D × D))
  deriving Inhabited
abbrev Sto := List Cell
structure S where
  loc : List Slot
  sto : Sto
/-- an end: a value, an error of the c-th class, or nothing that is said -/
inductive Out (α : Type) where
  | ok (a : α) (s : S)
  | exc (c : Nat) (t : Sto)
  | bad
inductive Res where
  | ok (d : D) (t : Sto)
  | exc (c : Nat) (t : Sto)
  | bad
inductive Fl where
  | nx | brk | cnt | ret (d : D)
def Out.bind {α β : Type} : Out α → (α → S → Out β) → Out β
  | .ok a s, f => f a s
  | .exc c t, _ => .exc c t
  | .bad, _ => .bad
/-- an error within is not followed -/
def Out.calm {α : Type} : Out α → Out α
  | .ok a s => .ok a s
  | _ => .bad
@[simp] theorem calm_ok {α : Type} (a : α) (s : S) : (Out.ok a s).calm = .ok a s := rfl
@[simp] theorem calm_bad {α : Type} : (Out.bad : Out α).calm = .bad := rfl
@[simp] theorem bind_ok {α β : Type} (a : α) (s : S) (f : α → S → Out β) : (Out.ok a s).bind f = f a s := rfl
@[simp] theorem bind_exc {α β : Type} (c : Nat) (t : Sto) (f : α → S → Out β) : (Out.exc c t : Out α).bind f = .exc c t := rfl
@[simp] theorem bind_bad {α β : Type} (f : α → S → Out β) : (Out.bad : Out α).bind f = .bad := rfl

/-! ### what the primitives do -/
inductive Prim where
  | add | sub | mul | fdiv | mod | pow | shl | neg
  | eq | ne | lt | le | gt | ge | isIn | notIn | isNone | notNone
  | item | sl11 | sl10 | sl01 | sl00 | rev
  | tup | lst
  | len | abs | int1 | str1 | repr | sum | all | any | max2 | min2 | tuple | list | sorted | sortedRev | sortedSet | lenSet | tupRng | lstRng | isTup | gcd
  | index | join
  deriving DecidableEq, Inhabited

/-- data of one kind can be compared by == -/
def eqOk (d e : D) : Bool := d.flat && e.flat && SeqAt.shaped d.pd && SeqAt.shaped e.pd
def eqD (d e : D) : Bool := PyData.eqv d.pd e.pd
def notNone : D → Bool
  | .non => false
  | _ => true
def ltOk (d e : D) : Bool := d.flat && e.flat && PySem.W.alike d.pd e.pd && notNone d && decide (d.pd.depth ≤ 64)
def ltD (d e : D) : Bool := PySem.W.dataLt d.pd e.pd
def intsOf : List D → Option (List Int)
  | [] => some []
  | .int i :: r => (intsOf r).map (i :: ·)
  | _ :: _ => none
def boolsOf : List D → Option (List Bool)
  | [] => some []
  | .bl b :: r => (boolsOf r).map (b :: ·)
  | _ :: _ => none
def strsOf : List D → Option (List Str)
  | [] => some []
  | .str b :: r => (strsOf r).map (b :: ·)
  | _ :: _ => none
/-- a slice -/
def cut {α : Type} (xs : List α) (lo hi : Option Int) : List α := (xs.drop (HT.sIx xs.length 0 lo)).take (HT.sIx xs.length xs.length hi - HT.sIx xs.length 0 lo)
def mulOk (i j : Int) : Bool := decide (i.natAbs.log2 + j.natAbs.log2 < 1000000)
def divOk (j : Int) : Bool := decide (0 < j) && decide (j.natAbs.log2 < 9000)
def seqOf : D → Option (List D)
  | .tup xs => some xs
  | .lst xs => some xs
  | _ => none
def inOk (x : D) (xs : List D) : Bool := eqOk x (.lst xs)
def inD (x : D) (xs : List D) : Bool := xs.any fun y => eqD y x
def allAlike (xs : List D) : Bool := xs.all fun x => xs.all fun y => PySem.W.alike x.pd y.pd
/-- the items can be sorted -/
def sortOk (xs : List D) : Bool := xs.all (fun d => d.flat && notNone d && decide (d.pd.depth ≤ 64)) && allAlike xs && decide (xs.length ≤ 16777216)
def sortD (b : Bool) (xs : List D) : List D := xs.mergeSort (PySem.W.dataLe b D.pd)
def joinOk (a : Str) (ys : List Str) : Bool := decide ((ys.map fun y => y.length).sum + ys.length * a.length ≤ 16777216)
def strD (i : Int) : D := .str (Str.ofString (toString i))
def oneSign (x : Str) (i : Int) : Option D := if x.length ≤ 16777216 then (L2.atI x.cps.toList i).map fun c => .str ⟨#[c]⟩ else none
def cutStr (x : Str) (lo hi : Option Int) : Option D := if x.length ≤ 16777216 then some (.str (L2.cutS x lo hi)) else none
def reprOk (d : D) : Bool := d.flat && d.pd.showable && decide (d.pd.depth ≤ 60) && decide (d.pd.shown.length ≤ 16777216)

def p_add : List D → Option D
  | [.int i, .int j] => some (.int (i + j))
  | [.str x, .str y] => if x.length + y.length ≤ 16777216 then some (.str (x ++ y)) else none
  | [.tup x, .tup y] => if x.length + y.length ≤ 16777216 then some (.tup (x ++ y)) else none
  | [.lst x, .lst y] => if x.length + y.length ≤ 16777216 then some (.lst (x ++ y)) else none
  | _ => none
def p_sub : List D → Option D
  | [.int i, .int j] => some (.int (i - j))
  | _ => none
def p_mul : List D → Option D
  | [.int i, .int j] => if mulOk i j then some (.int (i * j)) else none
  | [.tup x, .int k] => if x.length = 1 ∧ 2 ≤ k ∧ k ≤ 1000 then some (.tup (List.replicate k.toNat x).flatten) else none
  | [.lst x, .int k] => if 0 ≤ k ∧ k ≤ 1000 ∧ x.length ≤ 1000 then some (.lst (List.replicate k.toNat x).flatten) else none
  | _ => none
def p_fdiv : List D → Option D
  | [.int i, .int j] => if divOk j then some (.int (i / j)) else none
  | _ => none
def p_mod : List D → Option D
  | [.int i, .int j] => if 0 < j then some (.int (i % j)) else none
  | _ => none
def p_pow : List D → Option D
  | [.int i, .int j] => if 0 ≤ j ∧ j ≤ 1000 ∧ i.natAbs < 2 ^ 64 then some (.int (i ^ j.toNat)) else none
  | _ => none
def p_shl : List D → Option D
  | [.int i, .int j] => if 0 ≤ j ∧ j ≤ 1000 ∧ i.natAbs < 2 ^ 64 then some (.int (i * 2 ^ j.toNat)) else none
  | _ => none
def p_neg : List D → Option D
  | [.int i] => some (.int (-i))
  | _ => none
def p_eq : List D → Option D
  | [x, y] => if eqOk x y then some (.bl (eqD x y)) else none
  | _ => none
def p_ne : List D → Option D
  | [x, y] => if eqOk x y then some (.bl (!eqD x y)) else none
  | _ => none
def p_lt : List D → Option D
  | [.int i, .int j] => some (.bl (decide (i < j)))
  | [.str x, .str y] => some (.bl (decide (x.cps.toList < y.cps.toList)))
  | [.tup x, .tup y] => if ltOk (.tup x) (.tup y) then some (.bl (ltD (.tup x) (.tup y))) else none
  | _ => none
def p_le : List D → Option D
  | [.int i, .int j] => some (.bl (decide (i ≤ j)))
  | _ => none
def p_gt : List D → Option D
  | [.int i, .int j] => some (.bl (decide (j < i)))
  | _ => none
def p_ge : List D → Option D
  | [.int i, .int j] => some (.bl (decide (j ≤ i)))
  | _ => none
def p_isIn : List D → Option D
  | [.str x, .str y] => if x.cps.size = 1 then some (.bl (decide (x.cps.getD 0 0 ∈ y.cps.toList))) else none
  | [x, .tup y] => if inOk x y then some (.bl (inD x y)) else none
  | [x, .lst y] => if inOk x y then some (.bl (inD x y)) else none
  | _ => none
def p_notIn : List D → Option D
  | [.str x, .str y] => if x.cps.size = 1 then some (.bl (!decide (x.cps.getD 0 0 ∈ y.cps.toList))) else none
  | [x, .tup y] => if inOk x y then some (.bl (!inD x y)) else none
  | [x, .lst y] => if inOk x y then some (.bl (!inD x y)) else none
  | _ => none
def p_isNone : List D → Option D
  | [x] => some (.bl (!notNone x))
  | _ => none
def p_notNone : List D → Option D
  | [x] => some (.bl (notNone x))
  | _ => none
def p_item : List D → Option D
  | [.tup x, .int i] => L2.atI x i
  | [.lst x, .int i] => L2.atI x i
  | [.str x, .int i] => oneSign x i
  | _ => none
def p_sl11 : List D → Option D
  | [.tup x, .int i, .int j] => some (.tup (cut x (some i) (some j)))
  | [.lst x, .int i, .int j] => some (.lst (cut x (some i) (some j)))
  | [.str x, .int i, .int j] => cutStr x (some i) (some j)
  | _ => none
def p_sl10 : List D → Option D
  | [.tup x, .int i] => some (.tup (cut x (some i) none))
  | [.lst x, .int i] => some (.lst (cut x (some i) none))
  | [.str x, .int i] => cutStr x (some i) none
  | _ => none
def p_sl01 : List D → Option D
  | [.tup x, .int j] => some (.tup (cut x none (some j)))
  | [.lst x, .int j] => some (.lst (cut x none (some j)))
  | [.scr x, .int j] => some (.lst (cut (x.map .int) none (some j)))
  | [.str x, .int j] => cutStr x none (some j)
  | _ => none
def p_sl00 : List D → Option D
  | [.lst x] => some (.lst x)
  | _ => none
def p_rev : List D → Option D
  | [.tup x] => some (.tup x.reverse)
  | [.lst x] => some (.lst x.reverse)
  | _ => none
def p_tup : List D → Option D
  | xs => if xs.length ≤ 1000 then some (.tup xs) else none
def p_lst : List D → Option D
  | xs => if xs.length ≤ 1000 then some (.lst xs) else none
def p_len : List D → Option D
  | [.tup x] => some (.int x.length)
  | [.lst x] => some (.int x.length)
  | [.str x] => if x.length ≤ 16777216 then some (.int x.length) else none
  | _ => none
def p_abs : List D → Option D
  | [.int i] => some (.int (if i < 0 then -i else i))
  | _ => none
def p_int1 : List D → Option D
  | [.int i] => some (.int i)
  | [.bl b] => some (.int (if b then 1 else 0))
  | _ => none
def p_str1 : List D → Option D
  | [.int i] => if i.natAbs.log2 < 1920 then some (strD i) else none
  | _ => none
def p_repr : List D → Option D
  | [d] => if reprOk d then some (.str d.pd.shown) else none
  | _ => none
def p_sum : List D → Option D
  | [.lst x] => (intsOf x).map fun ns => .int ns.sum
  | _ => none
def p_all : List D → Option D
  | [.lst x] => (boolsOf x).map fun bs => .bl (bs.all id)
  | _ => none
def p_any : List D → Option D
  | [.lst x] => (boolsOf x).map fun bs => .bl (bs.any id)
  | _ => none
def p_max2 : List D → Option D
  | [.int i, .int j] => some (.int (if j > i then j else i))
  | _ => none
def p_min2 : List D → Option D
  | [.int i, .int j] => some (.int (if j < i then j else i))
  | [.tup x, .tup y] => if sortOk [.tup x, .tup y] then some (if ltD (.tup y) (.tup x) then .tup y else .tup x) else none
  | _ => none
def p_tuple : List D → Option D
  | [.tup x] => some (.tup x)
  | [.lst x] => some (.tup x)
  | _ => none
def p_list : List D → Option D
  | [.tup x] => some (.lst x)
  | [.lst x] => some (.lst x)
  | _ => none
def p_sorted : List D → Option D
  | [.lst x] => if sortOk x then some (.lst (sortD false x)) else none
  | [.tup x] => if sortOk x then some (.lst (sortD false x)) else none
  | _ => none
/-- the members of ys, each once, in the order of texts -/
def sortT (ys : List Str) : List Str := ys.eraseDups.mergeSort (PySem.W.dataLe false PyData.str)
def p_sortedSet : List D → Option D
  | [.tup x] => match strsOf x with
    | some ys => if ys.length ≤ 1000 then some (.lst ((sortT ys).map .str)) else none
    | none => none
  | _ => none
def p_sortedRev : List D → Option D
  | [.lst x] => if sortOk x then some (.lst (sortD true x)) else none
  | _ => none
def p_tupRng : List D → Option D
  | [.int i] => if 0 ≤ i ∧ i ≤ 100000 then some (.tup ((List.range i.toNat).map fun k => .int (k : Nat))) else none
  | _ => none
def p_lstRng : List D → Option D
  | [.int i] => if 0 ≤ i ∧ i ≤ 100000 then some (.lst ((List.range i.toNat).map fun k => .int (k : Nat))) else none
  | _ => none
def p_isTup : List D → Option D
  | [.tup _] => some (.bl true)
  | [.str _] => some (.bl false)
  | [.non] => some (.bl false)
  | [.bl _] => some (.bl false)
  | [.int _] => some (.bl false)
  | [.lst _] => some (.bl false)
  | _ => none
def p_gcd : List D → Option D
  | [.int a, .int b] => some (.int ((Nat.gcd a.natAbs b.natAbs : Nat) : Int))
  | _ => none
def p_index : List D → Option D
  | [.tup x, y] => if inOk y x && inD y x then some (.int ((x.map fun z => eqD z y).idxOf true : Nat)) else none
  | [.lst x, y] => if inOk y x && inD y x then some (.int ((x.map fun z => eqD z y).idxOf true : Nat)) else none
  | _ => none
def p_join : List D → Option D
  | [.str a, .lst x] => match strsOf x with
    | some ys => if joinOk a ys then some (.str (Txt.join a ys)) else none
    | none => none
  | _ => none
def prim : Prim → List D → Option D
  | .add => p_add
  | .sub => p_sub
  | .mul => p_mul
  | .fdiv => p_fdiv
  | .mod => p_mod
  | .pow => p_pow
  | .shl => p_shl
  | .neg => p_neg
  | .eq => p_eq
  | .ne => p_ne
  | .lt => p_lt
  | .le => p_le
  | .gt => p_gt
  | .ge => p_ge
  | .isIn => p_isIn
  | .notIn => p_notIn
  | .isNone => p_isNone
  | .notNone => p_notNone
  | .item => p_item
  | .sl11 => p_sl11
  | .sl10 => p_sl10
  | .sl01 => p_sl01
  | .sl00 => p_sl00
  | .rev => p_rev
  | .tup => p_tup
  | .lst => p_lst
  | .len => p_len
  | .abs => p_abs
  | .int1 => p_int1
  | .str1 => p_str1
  | .repr => p_repr
  | .sum => p_sum
  | .all => p_all
  | .any => p_any
  | .max2 => p_max2
  | .min2 => p_min2
  | .tuple => p_tuple
  | .list => p_list
  | .sorted => p_sorted
  | .sortedRev => p_sortedRev
  | .sortedSet => p_sortedSet
  | .tupRng => p_tupRng
  | .lstRng => p_lstRng
  | .isTup => p_isTup
  | .gcd => p_gcd
  | .index => p_index
  | .join => p_join
  | _ => fun _ => none

/-! ### terms -/
inductive Tgt where
  | nm (i : Nat)
  | tp (ts : List Tgt)
mutual
inductive PE where
  | var (i : Nat) | peek (i : Nat) | con (d : D) | glob (x : Str) (d : D) | fnv (f : Nat)
  | prim (p : Prim) (es : PL)
  | tup (es : PL) | lst (es : PL) | sl2 (a b c : PE) | meth (p : Prim) (a b : PE) | tupRng (a : PE) | lstRng (a : PE)
  | fstr (es : PL)
  | nt (a : PE) | bop (isAnd : Bool) (es : PL) | ite (c a b : PE)
  | chain (o1 o2 : Prim) (a b c : PE)
  | call (f : Nat) (es : PL) | callv (e : PE) (es : PL)
  | comp (elt : PE) (t : Tgt) (it : Iter) (cs : PL) (vs : List Nat)
inductive PL where
  | nil | cons (e : PE) (r : PL)
inductive Iter where
  | seq (e : PE) | rng1 (a : PE) | rng2 (a b : PE) | rng3 (a b c : PE) | enum (e : PE) | zip (a b : PE)
end
mutual
inductive PS where
  | set (t : Tgt) (e : PE)
  | own (i : Nat) (e : PE)
  | cell (i : Nat) (e : PE)
  | seti (i : Nat) (ix e : PE)
  | setc (o ix e : PE)
  | aug (i : Nat) (o : Prim) (e : PE)
  | app (i : Nat) (e : PE)
  | ext (i : Nat) (e : PE)
  | ife (c : PE) (a b : PB)
  | whl (c : PE) (b : PB)
  | forr (t : Tgt) (it : Iter) (b : PB)
  | ret (e : PE) | retn | rais (c : Nat) | expr (e : PE) | brk | cnt | pas
  | tryT (b : PB) (i : Nat)
inductive PB where
  | nil | cons (s : PS) (r : PB)
end

/-! ### what they do -/
abbrev CF := Nat → List D → Sto → Res
def rdVar (i : Nat) (s : S) : Out D :=
  match s.loc[i]? with
  | some (.val d) => .ok d s
  | some (.own ds) => .ok (.lst ds) { s with loc := s.loc.set i (.val (.lst ds)) }
  | _ => .bad
def rdPeek (i : Nat) (s : S) : Out D :=
  match s.loc[i]? with
  | some (.val d) => .ok d s
  | some (.own ds) => .ok (.lst ds) s
  | _ => .bad
/-- a list cell is read as its items -/
def deref (t : Sto) : D → D
  | .ref i => match t[i]? with
    | some (.lst xs) => .lst xs
    | _ => .ref i
  | d => d
def toOut (o : Option D) (s : S) : Out D :=
  match o with
  | some d => .ok d s
  | none => .bad
def callO (cf : CF) (f : Nat) (ds : List D) (s : S) : Out D :=
  match cf f ds s.sto with
  | .ok d t => .ok d { s with sto := t }
  | .exc c t => .exc c t
  | .bad => .bad
mutual
def assign : Tgt → D → S → Option S
  | .nm i, d, s => if i < s.loc.length then some { s with loc := s.loc.set i (.val d) } else none
  | .tp ts, .tup ds, s => assignL ts ds s
  | .tp _, _, _ => none
def assignL : List Tgt → List D → S → Option S
  | [], [], s => some s
  | t :: ts, d :: ds, s => (assign t d s).bind fun s' => assignL ts ds s'
  | _, _, _ => none
end
def ofOpt {α : Type} (o : Option S) (f : S → Out α) : Out α :=
  match o with
  | some s => f s
  | none => .bad
def wipe (loc : List Slot) : List Nat → List Slot
  | [] => loc
  | i :: r => (wipe loc r).set i .unb
/-- the slots vs as they were in old, the others as in new -/
def unwipe (old new : List Slot) : List Nat → List Slot
  | [] => new
  | i :: r => (unwipe old new r).set i (match old[i]? with
    | some (.val d) => .val d
    | _ => .unb)
def compLoop (vs : List Nat) (f : D → S → Out (List D)) : List D → S → Out (List D)
  | [], s => .ok [] s
  | x :: r, s => (f x { s with loc := wipe s.loc vs }).bind fun ds s' => (compLoop vs f r s').bind fun es s'' => .ok (ds ++ es) s''
def strOf : D → Option Str
  | .str x => some x
  | .int i => if i.natAbs.log2 < 1920 then some (Str.ofString (toString i)) else none
  | _ => none
def rngL (a b : Int) : List D := (List.range (b - a).toNat).map fun k => .int (a + (k : Nat))
def rngD (a b : Int) : List D := (List.range (a - b).toNat).map fun k => .int (a + (k : Nat) * (-1))
def smallI (i : Int) : Bool := decide (-1000000 ≤ i) && decide (i ≤ 1000000)
def enumL : Nat → List D → List D
  | _, [] => []
  | n, x :: r => .tup [.int (n : Nat), x] :: enumL (n + 1) r
def zipL : List D → List D → List D
  | x :: r, y :: q => .tup [x, y] :: zipL r q
  | _, _ => []
def itemsOf : D → Option (List D)
  | .tup xs => some xs
  | .lst xs => some xs
  | .str x => some (x.cps.toList.map fun c => .str ⟨#[c]⟩)
  | _ => none
/-- x[b:c] behind x -/
def slRest (eb ec : S → Out D) (x : D) (s1 : S) : Out D := (eb s1).bind fun y s2 => match y with
  | .int i => (ec s2).bind fun z s3 => toOut (prim .sl11 [deref s3.sto x, .int i, z]) s3
  | _ => .bad
/-- the object of a method is of the right type -/
def recvOk : Prim → D → Bool
  | .index, .lst _ => true
  | .join, .str _ => true
  | _, _ => false
/-- x.m(b) behind x -/
def methRest (p : Prim) (eb : S → Out D) (x : D) (s1 : S) : Out D := if recvOk p x then (eb s1).bind fun y s2 => toOut (prim p [x, deref s2.sto y]) s2 else .bad
mutual
def evalE (cf : CF) : PE → S → Out D
  | .var i, s => rdVar i s
  | .peek _, _ => .bad
  | .con d, s => .ok d s
  | .glob _ d, s => .ok d s
  | .fnv f, s => .ok (.fn f) s
  | .prim p es, s => (evalO cf es s).bind fun ds s' => toOut (prim p (ds.map (deref s'.sto))) s'
  | .sl2 (.peek i) b c, s => (rdPeek i s).bind (slRest (evalE cf b) (evalE cf c))
  | .sl2 a b c, s => (evalE cf a s).bind (slRest (evalE cf b) (evalE cf c))
  | .meth p (.peek i) b, s => (rdPeek i s).bind (methRest p (evalE cf b))
  | .meth p a b, s => (evalE cf a s).bind (methRest p (evalE cf b))
  | .tupRng a, s => (evalE cf a s).bind fun d s' => match d with
    | .int i => if 0 ≤ i ∧ i ≤ 100000 then .ok (.tup (rngL 0 i)) s' else .bad
    | _ => .bad
  | .lstRng a, s => (evalE cf a s).bind fun d s' => match d with
    | .int i => if 0 ≤ i ∧ i ≤ 100000 then .ok (.lst (rngL 0 i)) s' else .bad
    | _ => .bad
  | .tup es, s => (evalL cf es s).bind fun ds s' => if ds.length ≤ 1000 then .ok (.tup ds) s' else .bad
  | .lst es, s => (evalL cf es s).bind fun ds s' => if ds.length ≤ 1000 then .ok (.lst ds) s' else .bad
  | .fstr es, s => evalF cf es Str.empty s
  | .nt a, s => (evalE cf a s).bind fun d s' => match d with
    | .bl b => .ok (.bl !b) s'
    | _ => .bad
  | .bop k es, s => evalB cf k es s
  | .ite c a b, s => (evalE cf c s).bind fun d s' => match d with
    | .bl true => evalE cf a s'
    | .bl false => evalE cf b s'
    | _ => .bad
  | .chain o1 o2 a b c, s => (evalE cf a s).bind fun x s1 => (evalE cf b s1).bind fun y s2 => match prim o1 [x, y] with
    | some (.bl true) => (evalE cf c s2).bind fun z s3 => toOut (prim o2 [y, z]) s3
    | some (.bl false) => .ok (.bl false) s2
    | _ => .bad
  | .call f es, s => (evalL cf es s).bind fun ds s' => callO cf f ds s'
  | .callv e es, s => (evalE cf e s).bind fun d s1 => match d with
    | .fn f => (evalL cf es s1).bind fun ds s' => callO cf f ds s'
    | _ => .bad
  | .comp elt t it cs vs, s => (evalI cf it s).bind fun xs s1 =>
      (compLoop vs (fun d s2 => ofOpt (assign t d s2) fun s3 => (evalC cf cs s3).bind fun b s4 => if b then (evalE cf elt s4).bind fun e s5 => .ok [e] s5 else .ok [] s4) xs s1).calm.bind
        fun ds s6 => if ds.length ≤ 1000000 then .ok (.lst ds) { s6 with loc := unwipe s1.loc s6.loc vs } else .bad
def evalF (cf : CF) : PL → Str → S → Out D
  | .nil, acc, s => .ok (.str acc) s
  | .cons e r, acc, s => (evalE cf e s).bind fun d s' => match strOf d with
    | some y => if (acc ++ y).length ≤ 16777216 then evalF cf r (acc ++ y) s' else .bad
    | none => .bad
def evalL (cf : CF) : PL → S → Out (List D)
  | .nil, s => .ok [] s
  | .cons e r, s => (evalE cf e s).bind fun d s' => (evalL cf r s').bind fun ds s'' => .ok (d :: ds) s''
def evalO (cf : CF) : PL → S → Out (List D)
  | .nil, s => .ok [] s
  | .cons (.peek i) r, s => (rdPeek i s).bind fun d s' => (evalO cf r s').bind fun ds s'' => .ok (d :: ds) s''
  | .cons e r, s => (evalE cf e s).bind fun d s' => (evalO cf r s').bind fun ds s'' => .ok (d :: ds) s''
def evalB (cf : CF) (k : Bool) : PL → S → Out D
  | .nil, _ => .bad
  | .cons e .nil, s => evalE cf e s
  | .cons e r, s => (evalE cf e s).bind fun d s' => match d with
    | .bl b => if b = k then evalB cf k r s' else .ok (.bl b) s'
    | _ => .bad
def evalC (cf : CF) : PL → S → Out Bool
  | .nil, s => .ok true s
  | .cons e r, s => (evalE cf e s).bind fun d s' => match d with
    | .bl true => evalC cf r s'
    | .bl false => .ok false s'
    | _ => .bad
def evalI (cf : CF) : Iter → S → Out (List D)
  | .seq (.peek i), s => (rdPeek i s).bind fun d s' => match itemsOf d with
    | some xs => .ok xs s'
    | none => .bad
  | .seq e, s => (evalE cf e s).bind fun d s' => match itemsOf d with
    | some xs => .ok xs s'
    | none => .bad
  | .rng1 a, s => (evalE cf a s).bind fun d s' => match d with
    | .int i => if smallI i then .ok (rngL 0 i) s' else .bad
    | _ => .bad
  | .rng2 a b, s => (evalE cf a s).bind fun d s1 => (evalE cf b s1).bind fun e s' => match d, e with
    | .int i, .int j => if smallI i && smallI j then .ok (rngL i j) s' else .bad
    | _, _ => .bad
  | .rng3 a b c, s => (evalE cf a s).bind fun d s1 => (evalE cf b s1).bind fun e s2 => (evalE cf c s2).bind fun f s' => match d, e, f with
    | .int i, .int j, .int k => if smallI i && smallI j && decide (k = -1) then .ok (rngD i j) s' else .bad
    | _, _, _ => .bad
  | .enum (.peek i), s => (rdPeek i s).bind fun d s' => match seqOf d with
    | some xs => .ok (enumL 0 xs) s'
    | none => .bad
  | .enum e, s => (evalE cf e s).bind fun d s' => match seqOf d with
    | some xs => .ok (enumL 0 xs) s'
    | none => .bad
  | .zip a b, s => (evalE cf a s).bind fun d s1 => (evalE cf b s1).bind fun e s' => match seqOf d, seqOf e with
    | some xs, some ys => .ok (zipL xs ys) s'
    | _, _ => .bad
end

def setAt (xs : List D) (i : Int) (d : D) : Option (List D) :=
  if 0 ≤ i ∧ i.toNat < xs.length then some (xs.set i.toNat d) else if i < 0 ∧ 0 ≤ i + xs.length then some (xs.set (i + xs.length).toNat d) else none
def whileN (c : S → Out D) (b : S → Out Fl) : Nat → S → Out Fl
  | 0, _ => .bad
  | n + 1, s => (c s).bind fun d s1 => match d with
    | .bl true => (b s1).bind fun f s2 => match f with
      | .nx => whileN c b n s2
      | .cnt => whileN c b n s2
      | .brk => .ok .nx s2
      | .ret d => .ok (.ret d) s2
    | .bl false => .ok .nx s1
    | _ => .bad
def forLoop (f : D → S → Out Fl) : List D → S → Out Fl
  | [], s => .ok .nx s
  | x :: r, s => (f x s).bind fun g s' => match g with
    | .nx => forLoop f r s'
    | .cnt => forLoop f r s'
    | .brk => .ok .nx s'
    | .ret d => .ok (.ret d) s'
/-- the word of the law for an error of the c-th class -/
def errWord (c : Nat) : D := .str (match c with
  | 0 => "refused" | 1 => "large" | 2 => "missing" | 3 => "paper" | 4 => "form" | _ => "odd")
def smallW (i : Int) : Bool := decide (-(2 ^ 64) < i) && decide (i < 2 ^ 64)
/-- x op= y of ints -/
def augI : Prim → Int → D → Option D
  | .add, x, .int y => some (.int (x + y))
  | .sub, x, .int y => some (.int (x - y))
  | .mul, x, .int y => if smallW x || smallW y then some (.int (x * y)) else none
  | _, _, _ => none
mutual
def evalS (cf : CF) (wf : Nat) : PS → S → Out Fl
  | .set t e, s => (evalE cf e s).bind fun d s' => ofOpt (assign t d s') fun s'' => .ok .nx s''
  | .own i e, s => (evalE cf e s).bind fun d s' => match d with
    | .lst xs => if i < s'.loc.length then .ok .nx { s' with loc := s'.loc.set i (.own xs) } else .bad
    | _ => .bad
  | .cell i e, s => (evalE cf e s).bind fun d s' => match d with
    | .lst xs => if i < s'.loc.length then .ok .nx { loc := s'.loc.set i (.val (.ref s'.sto.length)), sto := s'.sto ++ [.lst xs] } else .bad
    | _ => .bad
  | .seti i ix e, s => (evalE cf e s).bind fun d s1 => match s1.loc[i]? with
    | some (.own _) => (evalE cf ix s1).bind fun k s2 => match s2.loc[i]?, k with
      | some (.own xs), .int k => match setAt xs k d with
        | some ys => .ok .nx { s2 with loc := s2.loc.set i (.own ys) }
        | none => .bad
      | _, _ => .bad
    | _ => .bad
  | .setc o ix e, s => (evalE cf e s).bind fun d s1 => (evalE cf o s1).bind fun o s2 => (evalE cf ix s2).bind fun k s3 => match o, k with
    | .ref j, .int k => match s3.sto[j]? with
      | some (.lst xs) => match setAt xs k d with
        | some ys => .ok .nx { s3 with sto := s3.sto.set j (.lst ys) }
        | none => .bad
      | _ => .bad
    | _, _ => .bad
  | .aug i o e, s => match s.loc[i]? with
    | some (.val (.int x)) => (evalE cf e s).bind fun y s1 => match augI o x y with
      | some z => .ok .nx { s1 with loc := s1.loc.set i (.val z) }
      | none => .bad
    | _ => .bad
  | .app i e, s => match s.loc[i]? with
    | some (.own _) => (evalE cf e s).bind fun d s1 => match s1.loc[i]? with
      | some (.own xs) => if xs.length < 1000000 then .ok .nx { s1 with loc := s1.loc.set i (.own (xs ++ [d])) } else .bad
      | _ => .bad
    | _ => .bad
  | .ext i e, s => match s.loc[i]? with
    | some (.own _) => (evalE cf e s).bind fun d s1 => match s1.loc[i]?, d with
      | some (.own xs), .lst ys => if xs.length + ys.length < 1000000 then .ok .nx { s1 with loc := s1.loc.set i (.own (xs ++ ys)) } else .bad
      | _, _ => .bad
    | _ => .bad
  | .ife c a b, s => (evalE cf c s).bind fun d s' => match d with
    | .bl true => evalSs cf wf a s'
    | .bl false => evalSs cf wf b s'
    | _ => .bad
  | .whl c b, s => whileN (evalE cf c) (evalSs cf wf b) wf s
  | .forr t it b, s => (evalI cf it s).bind fun xs s1 => forLoop (fun d s2 => ofOpt (assign t d s2) fun s3 => evalSs cf wf b s3) xs s1
  | .ret e, s => (evalE cf e s).bind fun d s' => .ok (.ret d) s'
  | .retn, s => .ok (.ret .non) s
  | .rais c, s => .exc c s.sto
  | .expr e, s => (evalE cf e s).bind fun _ s' => .ok .nx s'
  | .brk, s => .ok .brk s
  | .cnt, s => .ok .cnt s
  | .pas, s => .ok .nx s
  | .tryT b i, s => match evalSs cf wf b s with
    | .exc c t => if c < 5 then .ok (.ret (errWord c)) { s with sto := t } else .bad
    | .ok f s' => .ok f s'
    | .bad => .bad
def evalSs (cf : CF) (wf : Nat) : PB → S → Out Fl
  | .nil, s => .ok .nx s
  | .cons a r, s => (evalS cf wf a s).bind fun f s' => match f with
    | .nx => evalSs cf wf r s'
    | f => .ok f s'
end
structure FDef where
  np : Nat
  nl : Nat
  body : PB
def runRes : Out Fl → Res
  | .ok .nx s => .ok .non s.sto
  | .ok (.ret d) s => .ok d s.sto
  | .exc c t => .exc c t
  | _ => .bad
/-- a call of the f-th def, at most n calls deep -/
def callF (F : List FDef) (wf : Nat) : Nat → CF
  | 0 => fun _ _ _ => .bad
  | n + 1 => fun f ds t => match F[f]? with
    | some d => if ds.length = d.np then runRes (evalSs (callF F wf n) wf d.body { loc := ds.map .val ++ List.replicate (d.nl - d.np) .unb, sto := t }) else .bad
    | none => .bad
end MP
end
section
set_option Elab.async false
set_option linter.all false
set_option maxRecDepth 100000
set_option maxHeartbeats 1000000
/-! MP: how data stand in the heap of the hand layer -/
namespace MP
open PySem PySem.Spec PyProof.Rows L2

/-- what is fixed: the written part, where the defs and the error classes stand -/
structure Gd where
  K : PySem.W.Frag
  fa : Nat → Addr
  ca : Nat → Addr
  mg : Str → Option Value

/-- the script -/
def ScrAt (K : PySem.W.Frag) (H : Hp) (a : Addr) (vs : List V) : Prop := (∃ o, H a = some (.frz o (.lst vs))) ∨ SqL K (fun _ => none) a vs
theorem ScrAt.sq {K : PySem.W.Frag} {H : Hp} {a : Addr} {vs : List V} (h : ScrAt K H a vs) : SqL K H a vs := by
  rcases h with ⟨o, h⟩ | h
  · exact .inl (.inr ⟨o, h⟩)
  · rcases h with (h | ⟨o, h⟩) | h
    · cases h
    · cases h
    · exact .inr h
mutual
inductive RepD (G : Gd) (as : List Addr) (fz : Addr → Prop) (H : Hp) : V → D → Prop
  | non : RepD G as fz H .non .non
  | bl (b : Bool) : RepD G as fz H (.bl b) (.bl b)
  | int (i : Int) : RepD G as fz H (.int i) (.int i)
  | str (x : Str) : RepD G as fz H (.str x) (.str x)
  | tup {a : Addr} {vs : List V} {ds : List D} : SqT G.K H a vs → RepL G as fz H vs ds → RepD G as fz H (.ref a) (.tup ds)
  | lst {a : Addr} {vs : List V} {ds : List D} : fz a → H a = some (.lst vs) → RepL G as fz H vs ds → RepD G as fz H (.ref a) (.lst ds)
  | fn (i : Nat) : RepD G as fz H (.ref (G.fa i)) (.fn i)
  | ref {i : Nat} {a : Addr} : as[i]? = some a → RepD G as fz H (.ref a) (.ref i)
  | scr {a : Addr} {ns : List Int} : ScrAt G.K H a (ns.map V.int) → ns.length ≤ 16777216 → RepD G as fz H (.ref a) (.scr ns)
inductive RepL (G : Gd) (as : List Addr) (fz : Addr → Prop) (H : Hp) : List V → List D → Prop
  | nil : RepL G as fz H [] []
  | cons {v : V} {d : D} {vs : List V} {ds : List D} : RepD G as fz H v d → RepL G as fz H vs ds → RepL G as fz H (v :: vs) (d :: ds)
end

/-- what an expression may do to the heap -/
structure Step (as : List Addr) (fz : Addr → Prop) (H : Hp) (as' : List Addr) (fz' : Addr → Prop) (H' : Hp) : Prop where
  fr : ∀ b o, H b = some o → b ∉ as → H' b = some o
  tups : ∀ b xs, H b = some (.tup xs) → H' b = some (.tup xs)
  frzs : ∀ b o u, H b = some (.frz o u) → H' b = some (.frz o u)
  fzs : ∀ b o, fz b → H b = some o → H' b = some o
  there : ∀ b, H b ≠ none → H' b ≠ none
  pre : ∃ r, as' = as ++ r
  newa : ∀ a, a ∈ as' → a ∈ as ∨ H a = none
  fzm : ∀ a, fz a → fz' a
section
variable {G : Gd} {as as' as'' : List Addr} {fz fz' fz'' : Addr → Prop} {H H' H'' : Hp}
theorem Step.refl : Step as fz H as fz H := ⟨fun _ _ e _ => e, fun _ _ e => e, fun _ _ _ e => e, fun _ _ _ e => e, fun _ e => e, ⟨[], by simp⟩, fun _ h => .inl h, fun _ h => h⟩
theorem Step.trans (x : Step as fz H as' fz' H') (y : Step as' fz' H' as'' fz'' H'') : Step as fz H as'' fz'' H'' where
  fr := fun b o e n => y.fr b o (x.fr b o e n) fun hb => (x.newa b hb).elim n fun z => by rw [z] at e; cases e
  tups := fun b xs e => y.tups b xs (x.tups b xs e)
  frzs := fun b o u e => y.frzs b o u (x.frzs b o u e)
  fzs := fun b o f e => y.fzs b o (x.fzm b f) (x.fzs b o f e)
  there := fun b e => y.there b (x.there b e)
  pre := by
    obtain ⟨r, e⟩ := x.pre
    obtain ⟨q, e'⟩ := y.pre
    exact ⟨r ++ q, by rw [e', e, List.append_assoc]⟩
  newa := fun a h => (y.newa a h).elim (x.newa a) fun z => .inr (by
    cases q : H a with
    | none => rfl
    | some o => exact absurd z (x.there a (by rw [q]; simp)))
  fzm := fun a h => y.fzm a (x.fzm a h)
theorem ScrAt.step {K : PySem.W.Frag} {a : Addr} {vs : List V} (h : ScrAt K H a vs) (x : Step as fz H as' fz' H') : ScrAt K H' a vs := by
  rcases h with ⟨o, h⟩ | h
  · exact .inl ⟨o, x.frzs _ _ _ h⟩
  · exact .inr h
theorem sqT_step {K : PySem.W.Frag} {a : Addr} {vs : List V} (h : SqT K H a vs) (x : Step as fz H as' fz' H') : SqT K H' a vs := by
  rcases h with (r | ⟨o, r⟩) | h
  · exact .inl (.inl (x.tups a _ r))
  · exact .inl (.inr ⟨o, x.frzs a _ _ r⟩)
  · exact .inr h
mutual
theorem RepD.step (x : Step as fz H as' fz' H') : ∀ (d : D) (v : V), RepD G as fz H v d → RepD G as' fz' H' v d
  | .non, _, h => by cases h; exact .non
  | .bl _, _, h => by cases h; exact .bl _
  | .int _, _, h => by cases h; exact .int _
  | .str _, _, h => by cases h; exact .str _
  | .tup ds, _, h => by
    cases h with
    | tup s r => exact .tup (sqT_step s x) (RepL.step x ds _ r)
  | .lst ds, _, h => by
    cases h with
    | lst f e r => exact .lst (x.fzm _ f) (x.fzs _ _ f e) (RepL.step x ds _ r)
  | .fn _, _, h => by cases h; exact .fn _
  | .ref i, _, h => by
    cases h with
    | ref e =>
      obtain ⟨r, q⟩ := x.pre
      refine .ref ?_
      rw [q, List.getElem?_append_left (List.getElem?_eq_some_iff.mp e).1]
      exact e
  | .scr ns, _, h => by
    cases h with
    | scr e l => exact .scr (e.step x) l
theorem RepL.step (x : Step as fz H as' fz' H') : ∀ (ds : List D) (vs : List V), RepL G as fz H vs ds → RepL G as' fz' H' vs ds
  | [], _, h => by cases h; exact .nil
  | d :: ds, _, h => by
    cases h with
    | cons a r => exact .cons (RepD.step x d _ a) (RepL.step x ds _ r)
end
theorem RepL.length : ∀ {ds : List D} {vs : List V}, RepL G as fz H vs ds → vs.length = ds.length
  | [], _, h => by cases h; rfl
  | d :: ds, _, h => by
    cases h with
    | cons a r => simp [RepL.length r]
theorem RepL.get : ∀ {ds : List D} {vs : List V} {i : Nat} {d : D}, RepL G as fz H vs ds → ds[i]? = some d → ∃ v, vs[i]? = some v ∧ RepD G as fz H v d
  | [], _, _, _, _, e => by simp at e
  | _ :: _, _, 0, _, h, e => by
    cases h with
    | cons a r =>
      simp at e
      subst e
      exact ⟨_, rfl, a⟩
  | _ :: _, _, i + 1, _, h, e => by
    cases h with
    | cons a r =>
      obtain ⟨v, e1, e2⟩ := RepL.get (i := i) r (by simpa using e)
      exact ⟨v, by simpa using e1, e2⟩
theorem RepL.append : ∀ {ds es : List D} {vs us : List V}, RepL G as fz H vs ds → RepL G as fz H us es → RepL G as fz H (vs ++ us) (ds ++ es)
  | [], _, _, _, h, k => by cases h; exact k
  | _ :: _, _, _, _, h, k => by
    cases h with
    | cons a r => exact .cons a (RepL.append r k)
theorem RepL.take (n : Nat) : ∀ {ds : List D} {vs : List V} {n : Nat}, RepL G as fz H vs ds → RepL G as fz H (vs.take n) (ds.take n)
  | _, _, 0, _ => .nil
  | [], _, n + 1, h => by cases h; exact .nil
  | _ :: _, _, n + 1, h => by
    cases h with
    | cons a r => exact .cons a (RepL.take n r)
theorem RepL.drop : ∀ {ds : List D} {vs : List V} {n : Nat}, RepL G as fz H vs ds → RepL G as fz H (vs.drop n) (ds.drop n)
  | _, _, 0, h => h
  | [], _, n + 1, h => by cases h; exact .nil
  | _ :: _, _, n + 1, h => by
    cases h with
    | cons a r => exact RepL.drop (n := n) r
theorem RepL.rev : ∀ {ds : List D} {vs : List V}, RepL G as fz H vs ds → RepL G as fz H vs.reverse ds.reverse
  | [], _, h => by cases h; exact .nil
  | _ :: _, _, h => by
    cases h with
    | cons a r =>
      rw [List.reverse_cons, List.reverse_cons]
      exact (RepL.rev r).append (.cons a .nil)
theorem RepL.set : ∀ {ds : List D} {vs : List V} {i : Nat} {v : V} {d : D}, RepL G as fz H vs ds → RepD G as fz H v d → RepL G as fz H (vs.set i v) (ds.set i d)
  | [], _, _, _, _, h, _ => by cases h; exact .nil
  | _ :: _, _, 0, _, _, h, k => by
    cases h with
    | cons a r => exact .cons k r
  | _ :: _, _, i + 1, _, _, h, k => by
    cases h with
    | cons a r => exact .cons a (RepL.set r k)
mutual
theorem RepD.dp : ∀ (d : D) (v : V), RepD G as fz H v d → d.flat = true → Dp G.K H v d.pd
  | .non, _, h, _ => by cases h; exact .non
  | .bl _, _, h, _ => by cases h; exact .bl _
  | .int _, _, h, _ => by cases h; exact .int _
  | .str _, _, h, _ => by cases h; exact .str _
  | .tup ds, _, h, f => by
    cases h with
    | tup s r =>
      rw [D.pd]
      exact .tup s (RepL.dp ds _ r (by simpa [D.flat] using f))
  | .lst ds, _, h, f => by
    cases h with
    | lst _ e r =>
      rw [D.pd]
      exact .lst (SqL.of e) (RepL.dp ds _ r (by simpa [D.flat] using f))
  | .fn _, _, _, f => by simp [D.flat] at f
  | .ref _, _, _, f => by simp [D.flat] at f
  | .scr _, _, _, f => by simp [D.flat] at f
theorem RepL.dp : ∀ (ds : List D) (vs : List V), RepL G as fz H vs ds → flatL ds = true → DpAll G.K H vs (pdL ds)
  | [], _, h, _ => by cases h; exact .nil
  | d :: ds, _, h, f => by
    cases h with
    | cons a r =>
      rw [flatL, Bool.and_eq_true] at f
      exact .cons (RepD.dp d _ a f.1) (RepL.dp ds _ r f.2)
end

/-- readable at this moment: a datum, or a list whoever holds it -/
inductive RepR (G : Gd) (as : List Addr) (fz : Addr → Prop) (H : Hp) : V → D → Prop
  | dat {v : V} {d : D} : RepD G as fz H v d → RepR G as fz H v d
  | lst {a : Addr} {vs : List V} {ds : List D} : H a = some (.lst vs) → RepL G as fz H vs ds → RepR G as fz H (.ref a) (.lst ds)
inductive RepRs (G : Gd) (as : List Addr) (fz : Addr → Prop) (H : Hp) : List V → List D → Prop
  | nil : RepRs G as fz H [] []
  | cons {v : V} {d : D} {vs : List V} {ds : List D} : RepR G as fz H v d → RepRs G as fz H vs ds → RepRs G as fz H (v :: vs) (d :: ds)
/-- an operand: a datum, or a list of this frame's own -/
inductive RepO (G : Gd) (as : List Addr) (fz : Addr → Prop) (H : Hp) : V → D → Prop
  | dat {v : V} {d : D} : RepD G as fz H v d → RepO G as fz H v d
  | lst {a : Addr} {vs : List V} {ds : List D} : a ∉ as → H a = some (.lst vs) → RepL G as fz H vs ds → RepO G as fz H (.ref a) (.lst ds)
inductive RepOs (G : Gd) (as : List Addr) (fz : Addr → Prop) (H : Hp) : List V → List D → Prop
  | nil : RepOs G as fz H [] []
  | cons {v : V} {d : D} {vs : List V} {ds : List D} : RepO G as fz H v d → RepOs G as fz H vs ds → RepOs G as fz H (v :: vs) (d :: ds)
theorem RepO.step {v : V} {d : D} (h : RepO G as fz H v d) (x : Step as fz H as' fz' H') : RepO G as' fz' H' v d := by
  cases h with
  | dat r => exact .dat (RepD.step x _ _ r)
  | lst n e r => exact .lst (fun z => (x.newa _ z).elim n fun q => by rw [q] at e; cases e) (x.fr _ _ e n) (RepL.step x _ _ r)
theorem RepOs.step {vs : List V} {ds : List D} (h : RepOs G as fz H vs ds) (x : Step as fz H as' fz' H') : RepOs G as' fz' H' vs ds := by
  induction h with
  | nil => exact .nil
  | cons a _ ih => exact .cons (a.step x) ih
theorem RepR.dp {v : V} {d : D} (h : RepR G as fz H v d) (f : d.flat = true) : Dp G.K H v d.pd := by
  cases h with
  | dat r => exact RepD.dp _ _ r f
  | lst s r =>
    rw [D.pd]
    exact .lst (SqL.of s) (RepL.dp _ _ r (by simpa [D.flat] using f))
theorem RepR.tup {v : V} {ds : List D} (h : RepR G as fz H v (.tup ds)) : ∃ a vs, v = .ref a ∧ SqT G.K H a vs ∧ RepL G as fz H vs ds := by
  cases h with
  | dat r =>
    cases r with
    | tup s r => exact ⟨_, _, rfl, s, r⟩
theorem RepR.lsts {v : V} {ds : List D} (h : RepR G as fz H v (.lst ds)) : ∃ a vs, v = .ref a ∧ H a = some (.lst vs) ∧ RepL G as fz H vs ds := by
  cases h with
  | dat r =>
    cases r with
    | lst _ s r => exact ⟨_, _, rfl, s, r⟩
  | lst s r => exact ⟨_, _, rfl, s, r⟩
theorem RepR.int {v : V} {i : Int} (h : RepR G as fz H v (.int i)) : v = .int i := by
  cases h with
  | dat r => cases r; rfl
theorem RepR.str {v : V} {i : Str} (h : RepR G as fz H v (.str i)) : v = .str i := by
  cases h with
  | dat r => cases r; rfl
theorem RepR.bl {v : V} {i : Bool} (h : RepR G as fz H v (.bl i)) : v = .bl i := by
  cases h with
  | dat r => cases r; rfl
end

section
variable {G : Gd} {as : List Addr} {fz : Addr → Prop} {H : Hp}
theorem RepR.scr {v : V} {ns : List Int} (h : RepR G as fz H v (.scr ns)) : ∃ a, v = .ref a ∧ SqL G.K H a (ns.map V.int) ∧ ns.length ≤ 16777216 := by
  cases h with
  | dat r =>
    cases r with
    | scr s l => exact ⟨_, rfl, s.sq, l⟩
theorem RepL.ints : ∀ {ns : List Int} {vs : List V}, RepL G as fz H vs (ns.map .int) → vs = ns.map V.int
  | [], _, h => by cases h; rfl
  | n :: ns, _, h => by
    cases h with
    | cons a r =>
      cases a
      rw [RepL.ints r]
      rfl
theorem RepL.of_ints : ∀ (ns : List Int), RepL G as fz H (ns.map V.int) (ns.map .int)
  | [] => .nil
  | n :: ns => .cons (.int n) (RepL.of_ints ns)
theorem RepL.bools : ∀ {ns : List Bool} {vs : List V}, RepL G as fz H vs (ns.map .bl) → vs = ns.map V.bl
  | [], _, h => by cases h; rfl
  | n :: ns, _, h => by
    cases h with
    | cons a r =>
      cases a
      rw [RepL.bools r]
      rfl
theorem RepL.strs : ∀ {ns : List Str} {vs : List V}, RepL G as fz H vs (ns.map .str) → vs = ns.map V.str
  | [], _, h => by cases h; rfl
  | n :: ns, _, h => by
    cases h with
    | cons a r =>
      cases a
      rw [RepL.strs r]
      rfl
theorem intsOf_some : ∀ {xs : List D} {ns : List Int}, intsOf xs = some ns → xs = ns.map .int
  | [], _, h => by cases h; rfl
  | .int i :: r, _, h => by
    cases e : intsOf r with
    | none => simp [intsOf, e] at h
    | some ms =>
      simp only [intsOf, e, Option.map_some, Option.some.injEq] at h
      subst h
      rw [intsOf_some e]
      rfl
  | .non :: _, _, h => by simp [intsOf] at h
  | .bl _ :: _, _, h => by simp [intsOf] at h
  | .str _ :: _, _, h => by simp [intsOf] at h
  | .tup _ :: _, _, h => by simp [intsOf] at h
  | .lst _ :: _, _, h => by simp [intsOf] at h
  | .fn _ :: _, _, h => by simp [intsOf] at h
  | .ref _ :: _, _, h => by simp [intsOf] at h
  | .scr _ :: _, _, h => by simp [intsOf] at h
theorem boolsOf_some : ∀ {xs : List D} {ns : List Bool}, boolsOf xs = some ns → xs = ns.map .bl
  | [], _, h => by cases h; rfl
  | .bl i :: r, _, h => by
    cases e : boolsOf r with
    | none => simp [boolsOf, e] at h
    | some ms =>
      simp only [boolsOf, e, Option.map_some, Option.some.injEq] at h
      subst h
      rw [boolsOf_some e]
      rfl
  | .non :: _, _, h => by simp [boolsOf] at h
  | .int _ :: _, _, h => by simp [boolsOf] at h
  | .str _ :: _, _, h => by simp [boolsOf] at h
  | .tup _ :: _, _, h => by simp [boolsOf] at h
  | .lst _ :: _, _, h => by simp [boolsOf] at h
  | .fn _ :: _, _, h => by simp [boolsOf] at h
  | .ref _ :: _, _, h => by simp [boolsOf] at h
  | .scr _ :: _, _, h => by simp [boolsOf] at h
theorem strsOf_some : ∀ {xs : List D} {ns : List Str}, strsOf xs = some ns → xs = ns.map .str
  | [], _, h => by cases h; rfl
  | .str i :: r, _, h => by
    cases e : strsOf r with
    | none => simp [strsOf, e] at h
    | some ms =>
      simp only [strsOf, e, Option.map_some, Option.some.injEq] at h
      subst h
      rw [strsOf_some e]
      rfl
  | .non :: _, _, h => by simp [strsOf] at h
  | .int _ :: _, _, h => by simp [strsOf] at h
  | .bl _ :: _, _, h => by simp [strsOf] at h
  | .tup _ :: _, _, h => by simp [strsOf] at h
  | .lst _ :: _, _, h => by simp [strsOf] at h
  | .fn _ :: _, _, h => by simp [strsOf] at h
  | .ref _ :: _, _, h => by simp [strsOf] at h
  | .scr _ :: _, _, h => by simp [strsOf] at h
end
/-! ### the store, the frame -/
def CellAt (G : Gd) (as : List Addr) (fz : Addr → Prop) (H : Hp) (a : Addr) : Cell → Prop
  | .lst xs => ∃ vs, H a = some (.lst vs) ∧ RepL G as fz H vs xs
  | _ => False
structure SimC (G : Gd) (t : Sto) (as : List Addr) (fz : Addr → Prop) (H : Hp) : Prop where
  nd : as.Nodup
  len : as.length = t.length
  at_ : ∀ (i : Nat) (c : Cell) (a : Addr), t[i]? = some c → as[i]? = some a → CellAt G as fz H a c
  frz : ∀ a, fz a → a ∉ as ∧ H a ≠ none
/-- how it was at the def's entry -/
structure Base where
  H0 : Hp
  as0 : List Addr
  fz0 : Addr → Prop
structure SimB (B : Base) (as : List Addr) (fz : Addr → Prop) (H : Hp) : Prop where
  fr : ∀ b o, B.H0 b = some o → b ∉ B.as0 → H b = some o
  tups : ∀ b xs, B.H0 b = some (.tup xs) → H b = some (.tup xs)
  frzs : ∀ b o u, B.H0 b = some (.frz o u) → H b = some (.frz o u)
  fzs : ∀ b o, B.fz0 b → B.H0 b = some o → H b = some o
  there : ∀ b, B.H0 b ≠ none → H b ≠ none
  pre : ∃ r, as = B.as0 ++ r
  newa : ∀ a, a ∈ as → a ∈ B.as0 ∨ B.H0 a = none
  fzm : ∀ a, B.fz0 a → fz a
  newf : ∀ a, fz a → B.fz0 a ∨ B.H0 a = none
structure SimL (G : Gd) (B : Base) (loc : List Slot) (as : List Addr) (fz : Addr → Prop) (σ : L2.St) (H : Hp) : Prop where
  len : σ.length = loc.length
  val : ∀ (i : Nat) (d : D), loc[i]? = some (.val d) → ∃ v, σ[i]? = some (some v) ∧ RepD G as fz H v d
  own : ∀ (i : Nat) (ds : List D), loc[i]? = some (.own ds) → ∃ a vs, σ[i]? = some (some (.ref a)) ∧ H a = some (.lst vs) ∧ RepL G as fz H vs ds ∧ ¬ fz a ∧ a ∉ as ∧ B.H0 a = none
  dist : ∀ (i j : Nat) (ds es : List D) (a : Addr), i ≠ j → loc[i]? = some (.own ds) → loc[j]? = some (.own es) → σ[i]? = some (some (.ref a)) → σ[j]? ≠ some (some (.ref a))
structure Sim (G : Gd) (B : Base) (st : S) (as : List Addr) (fz : Addr → Prop) (σ : L2.St) (H : Hp) : Prop where
  c : SimC G st.sto as fz H
  b : SimB B as fz H
  l : SimL G B st.loc as fz σ H
end MP
end
section
set_option Elab.async false
set_option linter.all false
set_option maxRecDepth 100000
set_option maxHeartbeats 2000000
/-! MP: the primitives are what the machine does -/
namespace MP
open PySem PySem.Spec PyProof.Rows L2

/-- what a primitive hands back: something that stands; a new tuple; a new list -/
def ResR (G : Gd) (as : List Addr) (fz : Addr → Prop) (H : Hp) (v : V) (r : D) (H' : Hp) : Prop :=
  (H' = H ∧ RepD G as fz H v r) ∨ (∃ p vs ds, H p = none ∧ v = .ref p ∧ H' = upd H p (.tup vs) ∧ r = .tup ds ∧ RepL G as fz H vs ds) ∨
    ∃ p vs ds, H p = none ∧ v = .ref p ∧ H' = upd H p (.lst vs) ∧ r = .lst ds ∧ RepL G as fz H vs ds
def rP1 (G : Gd) (p : Prim) : V → Hp → VK → Prop := fun x H Q => ∃ as fz d r, RepR G as fz H x d ∧ prim p [d] = some r ∧ ∀ v H', ResR G as fz H v r H' → Q v H'
def rP2 (G : Gd) (p : Prim) : R2 := fun x y H Q => ∃ as fz d e r, RepR G as fz H x d ∧ RepR G as fz H y e ∧ prim p [d, e] = some r ∧ ∀ v H', ResR G as fz H v r H' → Q v H'
def rPL (G : Gd) (p : Prim) : List V → Hp → VK → Prop := fun xs H Q => ∃ as fz ds r, RepRs G as fz H xs ds ∧ prim p ds = some r ∧ ∀ v H', ResR G as fz H v r H' → Q v H'

section
variable {X : Cx} {G : Gd} {as : List Addr} {fz : Addr → Prop} {H : Hp} {Q : VK}
theorem ResR.here {v : V} {r : D} (h : RepD G as fz H v r) : ResR G as fz H v r H := .inl ⟨rfl, h⟩
theorem ResR.ntup {p : Addr} {vs : List V} {ds : List D} (n : H p = none) (h : RepL G as fz H vs ds) : ResR G as fz H (.ref p) (.tup ds) (upd H p (.tup vs)) := .inr (.inl ⟨p, vs, ds, n, rfl, rfl, rfl, h⟩)
theorem ResR.nlst {p : Addr} {vs : List V} {ds : List D} (n : H p = none) (h : RepL G as fz H vs ds) : ResR G as fz H (.ref p) (.lst ds) (upd H p (.lst vs)) := .inr (.inr ⟨p, vs, ds, n, rfl, rfl, rfl, h⟩)
theorem sl_line : sizeLine = 16777216 := by decide

/-! ### arithmetic -/
theorem o_add (hK : G.K = X.K) : OpR X (binaryOp .Add) (rP2 G .add) := by
  intro pins s σ H x y v u Q I rx ry ⟨as, fz, d, e, r, hd, he, hp, q⟩
  simp only [prim] at hp
  unfold p_add at hp
  split at hp
  · rename_i i j h; cases h; cases hp
    obtain rfl := hd.int; obtain rfl := he.int
    exact op_add pins s σ H _ _ v u Q I rx ry ⟨_, _, rfl, rfl, q _ _ (.here (.int _))⟩
  · rename_i i j h; cases h
    obtain rfl := hd.str; obtain rfl := he.str
    split at hp
    · rename_i hl; cases hp
      exact op_add_str pins s σ H _ _ v u Q I rx ry ⟨_, _, rfl, rfl, hl, q _ _ (.here (.str _))⟩
    · cases hp
  · rename_i i j h; cases h
    obtain ⟨a, vs, rfl, ha, r1⟩ := hd.tup; obtain ⟨b, us, rfl, hb, r2⟩ := he.tup
    split at hp
    · rename_i hl; cases hp
      have l1 := r1.length; have l2 := r2.length
      refine op_catA pins s σ H _ _ v u Q I rx ry ⟨a, b, vs, us, rfl, rfl, hK ▸ ha, hK ▸ hb, by rw [sl_line]; omega, fun e => ?_, fun e1 e => ?_, fun e1 e2 p hn => ?_⟩
      · subst e
        cases r1
        exact q _ _ (.here (.tup hb r2))
      · subst e
        cases r2
        rw [List.append_nil] at q
        exact q _ _ (.here (.tup ha r1))
      · exact q _ _ (.ntup hn (r1.append r2))
    · cases hp
  · rename_i i j h; cases h
    obtain ⟨a, vs, rfl, ha, r1⟩ := hd.lsts; obtain ⟨b, us, rfl, hb, r2⟩ := he.lsts
    split at hp
    · rename_i hl; cases hp
      have l1 := r1.length; have l2 := r2.length
      exact op_cat pins s σ H _ _ v u Q I rx ry ⟨a, b, vs, us, rfl, rfl, ha, hb, by rw [sl_line]; omega, fun p hn => q _ _ (.nlst hn (r1.append r2))⟩
    · cases hp
  · cases hp
theorem o_sub (hK : G.K = X.K) : OpR X (binaryOp .Sub) (rP2 G .sub) := by
  intro pins s σ H x y v u Q I rx ry ⟨as, fz, d, e, r, hd, he, hp, q⟩
  simp only [prim] at hp
  unfold p_sub at hp
  split at hp
  · rename_i i j h; cases h; cases hp
    obtain rfl := hd.int; obtain rfl := he.int
    exact op_sub pins s σ H _ _ v u Q I rx ry ⟨_, _, rfl, rfl, q _ _ (.here (.int _))⟩
  · cases hp
theorem RepL.rep {ds : List D} {vs : List V} (h : RepL G as fz H vs ds) : ∀ k : Nat, RepL G as fz H (List.replicate k vs).flatten (List.replicate k ds).flatten
  | 0 => .nil
  | k + 1 => by
    rw [List.replicate_succ, List.replicate_succ, List.flatten_cons, List.flatten_cons]
    exact h.append (RepL.rep h k)
theorem mulOk_ok {i j : Int} (h : mulOk i j = true) : CMulW i j := by
  have h' : i.natAbs.log2 + j.natAbs.log2 < 1000000 := of_decide_eq_true h
  exact h'
theorem o_mul (hK : G.K = X.K) : OpR X (binaryOp .Mult) (rP2 G .mul) := by
  intro pins s σ H x y v u Q I rx ry ⟨as, fz, d, e, r, hd, he, hp, q⟩
  simp only [prim] at hp
  unfold p_mul at hp
  split at hp
  · rename_i i j h; cases h
    obtain rfl := hd.int; obtain rfl := he.int
    split at hp
    · rename_i hm; cases hp
      exact op_mulW pins s σ H _ _ v u Q I rx ry ⟨_, _, rfl, rfl, mulOk_ok hm, q _ _ (.here (.int _))⟩
    · cases hp
  · rename_i i j h; cases h
    obtain ⟨a, vs, rfl, ha, r1⟩ := hd.tup; obtain rfl := he.int
    split at hp
    · rename_i hm; cases hp
      have l1 := r1.length
      exact op_repT pins s σ H _ _ v u Q I rx ry ⟨a, _, vs, rfl, rfl, hK ▸ ha, by intro z; rw [z] at l1; simp at l1; omega, hm.2.1, hm.2.2, by omega, fun p hn => q _ _ (.ntup hn (r1.rep _))⟩
    · cases hp
  · rename_i i j h; cases h
    obtain ⟨a, vs, rfl, ha, r1⟩ := hd.lsts; obtain rfl := he.int
    split at hp
    · rename_i hm; cases hp
      have l1 := r1.length
      refine op_rep pins s σ H _ _ v u Q I rx ry ⟨a, _, vs, rfl, rfl, ha, by omega, by omega, ?_, fun p hn => q _ _ (.nlst hn (r1.rep _))⟩
      rw [sl_line]
      exact Nat.le_trans (Nat.mul_le_mul (show vs.length ≤ 1000 by omega) (show Int.toNat _ ≤ 1000 by omega)) (by decide)
    · cases hp
  · cases hp
theorem o_fdiv (hK : G.K = X.K) : OpR X (binaryOp .FloorDiv) (rP2 G .fdiv) := by
  intro pins s σ H x y v u Q I rx ry ⟨as, fz, d, e, r, hd, he, hp, q⟩
  simp only [prim] at hp
  unfold p_fdiv at hp
  split at hp
  · rename_i i j h; cases h
    obtain rfl := hd.int; obtain rfl := he.int
    split at hp
    · rename_i hm; cases hp
      rw [divOk, Bool.and_eq_true] at hm
      exact op_fdivW pins s σ H _ _ v u Q I rx ry ⟨_, _, rfl, rfl, ⟨of_decide_eq_true hm.1, of_decide_eq_true hm.2⟩, q _ _ (.here (.int _))⟩
    · cases hp
  · cases hp
theorem o_mod (hK : G.K = X.K) : OpR X (binaryOp .Mod) (rP2 G .mod) := by
  intro pins s σ H x y v u Q I rx ry ⟨as, fz, d, e, r, hd, he, hp, q⟩
  simp only [prim] at hp
  unfold p_mod at hp
  split at hp
  · rename_i i j h; cases h
    obtain rfl := hd.int; obtain rfl := he.int
    split at hp
    · rename_i hm; cases hp
      exact op_mod pins s σ H _ _ v u Q I rx ry ⟨_, _, rfl, rfl, hm, q _ _ (.here (.int _))⟩
    · cases hp
  · cases hp
theorem o_pow (hK : G.K = X.K) : OpR X (binaryOp .Pow) (rP2 G .pow) := by
  intro pins s σ H x y v u Q I rx ry ⟨as, fz, d, e, r, hd, he, hp, q⟩
  simp only [prim] at hp
  unfold p_pow at hp
  split at hp
  · rename_i i j h; cases h
    obtain rfl := hd.int; obtain rfl := he.int
    split at hp
    · rename_i hm; cases hp
      exact op_pow pins s σ H _ _ v u Q I rx ry ⟨_, _, rfl, rfl, ⟨hm.1, by omega, hm.2.2⟩, q _ _ (.here (.int _))⟩
    · cases hp
  · cases hp
theorem o_shl (hK : G.K = X.K) : OpR X (binaryOp .LShift) (rP2 G .shl) := by
  intro pins s σ H x y v u Q I rx ry ⟨as, fz, d, e, r, hd, he, hp, q⟩
  simp only [prim] at hp
  unfold p_shl at hp
  split at hp
  · rename_i i j h; cases h
    obtain rfl := hd.int; obtain rfl := he.int
    split at hp
    · rename_i hm; cases hp
      exact op_shl pins s σ H _ _ v u Q I rx ry ⟨_, _, rfl, rfl, ⟨hm.1, by omega, hm.2.2⟩, q _ _ (.here (.int _))⟩
    · cases hp
  · cases hp
theorem o_neg (hK : G.K = X.K) : UnR X (unaryOp .USub) (rP1 G .neg) := by
  intro pins s σ H x v Q I rx ⟨as, fz, d, r, hd, hp, q⟩
  simp only [prim] at hp
  unfold p_neg at hp
  split at hp
  · rename_i i h; cases h; cases hp
    obtain rfl := hd.int
    exact un_neg pins s σ H _ v Q I rx ⟨_, rfl, q _ _ (.here (.int _))⟩
  · cases hp
/-! ### comparisons -/
theorem Dp.of2 (hK : G.K = X.K) {x : V} {d : D} (h : RepR G as fz H x d) (f : d.flat = true) : Dp X.K H x d.pd := hK ▸ h.dp f
theorem o_eq (hK : G.K = X.K) (hu : X.A.units + 65 < cLine) : OpR X (compareOp .Eq) (rP2 G .eq) := by
  intro pins s σ H x y v u Q I rx ry ⟨as, fz, d, e, r, hd, he, hp, q⟩
  simp only [prim, p_eq] at hp
  split at hp
  · rename_i hm; cases hp
    simp only [eqOk, Bool.and_eq_true] at hm
    exact op_eqD (by omega) pins s σ H _ _ v u Q I rx ry ⟨d.pd, e.pd, Dp.of2 hK hd hm.1.1.1, Dp.of2 hK he hm.1.1.2, hm.1.2, hm.2, q _ _ (.here (.bl _))⟩
  · cases hp
theorem o_ne (hK : G.K = X.K) (hu : X.A.units + 65 < cLine) : OpR X (compareOp .NotEq) (rP2 G .ne) := by
  intro pins s σ H x y v u Q I rx ry ⟨as, fz, d, e, r, hd, he, hp, q⟩
  simp only [prim, p_ne] at hp
  split at hp
  · rename_i hm; cases hp
    simp only [eqOk, Bool.and_eq_true] at hm
    exact op_neD (by omega) pins s σ H _ _ v u Q I rx ry ⟨d.pd, e.pd, Dp.of2 hK hd hm.1.1.1, Dp.of2 hK he hm.1.1.2, hm.1.2, hm.2, q _ _ (.here (.bl _))⟩
  · cases hp
theorem o_le (hK : G.K = X.K) : OpR X (compareOp .LtE) (rP2 G .le) := by
  intro pins s σ H x y v u Q I rx ry ⟨as, fz, d, e, r, hd, he, hp, q⟩
  simp only [prim] at hp
  unfold p_le at hp
  split at hp
  · rename_i i j h; cases h; cases hp
    obtain rfl := hd.int; obtain rfl := he.int
    exact op_le pins s σ H _ _ v u Q I rx ry ⟨_, _, rfl, rfl, q _ _ (.here (.bl _))⟩
  · cases hp
theorem o_gt (hK : G.K = X.K) : OpR X (compareOp .Gt) (rP2 G .gt) := by
  intro pins s σ H x y v u Q I rx ry ⟨as, fz, d, e, r, hd, he, hp, q⟩
  simp only [prim] at hp
  unfold p_gt at hp
  split at hp
  · rename_i i j h; cases h; cases hp
    obtain rfl := hd.int; obtain rfl := he.int
    exact op_gt pins s σ H _ _ v u Q I rx ry ⟨_, _, rfl, rfl, q _ _ (.here (.bl _))⟩
  · cases hp
theorem o_ge (hK : G.K = X.K) : OpR X (compareOp .GtE) (rP2 G .ge) := by
  intro pins s σ H x y v u Q I rx ry ⟨as, fz, d, e, r, hd, he, hp, q⟩
  simp only [prim] at hp
  unfold p_ge at hp
  split at hp
  · rename_i i j h; cases h; cases hp
    obtain rfl := hd.int; obtain rfl := he.int
    exact op_ge pins s σ H _ _ v u Q I rx ry ⟨_, _, rfl, rfl, q _ _ (.here (.bl _))⟩
  · cases hp
theorem o_lt (hK : G.K = X.K) (hu : X.A.units + 65 < cLine) : OpR X (compareOp .Lt) (rP2 G .lt) := by
  intro pins s σ H x y v u Q I rx ry ⟨as, fz, d, e, r, hd, he, hp, q⟩
  simp only [prim] at hp
  unfold p_lt at hp
  split at hp
  · rename_i i j h; cases h; cases hp
    obtain rfl := hd.int; obtain rfl := he.int
    exact op_lt pins s σ H _ _ v u Q I rx ry ⟨_, _, rfl, rfl, q _ _ (.here (.bl _))⟩
  · rename_i i j h; cases h; cases hp
    obtain rfl := hd.str; obtain rfl := he.str
    exact op_lt_str pins s σ H _ _ v u Q I rx ry ⟨_, _, rfl, rfl, q _ _ (.here (.bl _))⟩
  · rename_i i j h; cases h
    split at hp
    · rename_i hm; cases hp
      simp only [ltOk, Bool.and_eq_true, decide_eq_true_eq] at hm
      obtain ⟨as1, r1⟩ := Dp.reads I _ x v (Dp.of2 hK hd hm.1.1.1.1) rx
      obtain ⟨as2, r2⟩ := Dp.reads I _ y u (Dp.of2 hK he hm.1.1.1.2) ry
      have lt := PySem.W.rcLt_alike _ _ X.A s v u _ _ r1 r2 hm.1.1.2 (by rw [D.pd]; intro z; cases z) (by
        have h2 : min (D.tup i).pd.depth (D.tup j).pd.depth ≤ (D.tup i).pd.depth := Nat.min_le_left _ _
        omega)
      exact lt X.prog X.w X.xe (EP X pins σ Q) ⟨.bl _, H, I, rfl, q _ _ (.here (.bl _))⟩
    · cases hp
  · cases hp
end
end MP
end
section
set_option Elab.async false
set_option linter.all false
set_option maxRecDepth 100000
set_option maxHeartbeats 2000000
/-! MP: the primitives, further -/
namespace MP
open PySem PySem.Spec PyProof.Rows L2
section
variable {X : Cx} {G : Gd} {as : List Addr} {fz : Addr → Prop} {H : Hp} {Q : VK}
theorem pd_lst (xs : List D) : (D.lst xs).pd = .list (pdL xs) := by rw [D.pd]
theorem pd_tup (xs : List D) : (D.tup xs).pd = .tuple (pdL xs) := by rw [D.pd]
theorem any_pd (x : D) : ∀ xs : List D, ((pdL xs).any fun z => PyData.eqv z x.pd) = inD x xs
  | [] => by simp [pdL, inD]
  | y :: ys => by
    have h := any_pd x ys
    simp only [pdL, inD, List.any_cons, eqD] at h ⊢
    rw [h]
theorem shaped_lst_tup {ds : List PyData} (h : SeqAt.shaped (.list ds) = true) : SeqAt.shaped (.tuple ds) = true := h
theorem in_seq {x : V} {d : D} {y : V} {xs : List D} (hd : RepR G as fz H x d) (hK : G.K = X.K) (hu : X.A.units + 65 < cLine) (hok : inOk d xs = true) {pins s σ v u} (I : Inv X pins σ H s) (rx : RelV x v) (ry : RelV y u)
    (he : (∃ a vs, y = .ref a ∧ SqT G.K H a vs ∧ RepL G as fz H vs xs) ∨ (∃ a vs, y = .ref a ∧ H a = some (.lst vs) ∧ RepL G as fz H vs xs)) {R : Value → Shared → Prop} :
    (R (.bool (inD d xs)) s → wpAny (model X.prog X.w) X.A (compareOp .In v u) R X.xe s) ∧ (R (.bool (!inD d xs)) s → wpAny (model X.prog X.w) X.A (compareOp .NotIn v u) R X.xe s) := by
  simp only [inOk, eqOk, Bool.and_eq_true] at hok
  obtain ⟨⟨⟨f1, f2⟩, s1⟩, s2⟩ := hok
  rw [pd_lst] at s2
  have f2' : flatL xs = true := by simpa [D.flat] using f2
  obtain ⟨bs, r1⟩ := Dp.reads I _ x v (Dp.of2 hK hd f1) rx
  have room := room_in_shaped (xs := pdL xs) s1 hu
  rw [← any_pd]
  rcases he with ⟨a, vs, rfl, ha, r⟩ | ⟨a, vs, rfl, ha, r⟩
  · obtain ⟨cs, r2⟩ := Dp.reads I (.tuple (pdL xs)) _ u (.tup (hK ▸ ha) (hK ▸ RepL.dp _ _ r f2')) ry
    exact ⟨fun q => SeqAt.in_tuple_reads r2 r1 (SeqAt.canLay_of_shaped (d := .tuple (pdL xs)) s2) (SeqAt.canLay_of_shaped s1) room q, fun q => SeqAt.notIn_tuple_reads r2 r1 (SeqAt.canLay_of_shaped (d := .tuple (pdL xs)) s2) (SeqAt.canLay_of_shaped s1) room q⟩
  · obtain ⟨cs, r2⟩ := Dp.reads I (.list (pdL xs)) _ u (.lst (SqL.of ha) (hK ▸ RepL.dp _ _ r f2')) ry
    exact ⟨fun q => SeqAt.in_list_reads r2 r1 (SeqAt.canLay_of_shaped s2) (SeqAt.canLay_of_shaped s1) room q, fun q => SeqAt.notIn_list_reads r2 r1 (SeqAt.canLay_of_shaped s2) (SeqAt.canLay_of_shaped s1) room q⟩
theorem one_sign {x : Str} (h : x.cps.size = 1) : x = ⟨#[x.cps.getD 0 0]⟩ := by
  obtain ⟨⟨l⟩⟩ := x
  match l, h with
  | [c], _ => rfl
theorem o_in (hK : G.K = X.K) (hu : X.A.units + 65 < cLine) : OpR X (compareOp .In) (rP2 G .isIn) := by
  intro pins s σ H x y v u Q I rx ry ⟨as, fz, d, e, r, hd, he, hp, q⟩
  simp only [prim] at hp
  unfold p_isIn at hp
  split at hp
  · rename_i i j h; cases h
    obtain rfl := hd.str; obtain rfl := he.str
    split at hp
    · rename_i hm; cases hp
      exact op_in_sign pins s σ H _ _ v u Q I rx ry ⟨_, _, by rw [← one_sign hm], rfl, q _ _ (.here (.bl _))⟩
    · cases hp
  · rename_i i j h; cases h
    split at hp
    · rename_i hm; cases hp
      exact (in_seq hd hK hu hm I rx ry (.inl he.tup)).1 ⟨.bl _, H, I, rfl, q _ _ (.here (.bl _))⟩
    · cases hp
  · rename_i i j h; cases h
    split at hp
    · rename_i hm; cases hp
      exact (in_seq hd hK hu hm I rx ry (.inr he.lsts)).1 ⟨.bl _, H, I, rfl, q _ _ (.here (.bl _))⟩
    · cases hp
  · cases hp
theorem o_notIn (hK : G.K = X.K) (hu : X.A.units + 65 < cLine) : OpR X (compareOp .NotIn) (rP2 G .notIn) := by
  intro pins s σ H x y v u Q I rx ry ⟨as, fz, d, e, r, hd, he, hp, q⟩
  simp only [prim] at hp
  unfold p_notIn at hp
  split at hp
  · rename_i i j h; cases h
    obtain rfl := hd.str; obtain rfl := he.str
    split at hp
    · rename_i hm; cases hp
      exact op_notIn_sign pins s σ H _ _ v u Q I rx ry ⟨_, _, by rw [← one_sign hm], rfl, q _ _ (.here (.bl _))⟩
    · cases hp
  · rename_i i j h; cases h
    split at hp
    · rename_i hm; cases hp
      exact (in_seq hd hK hu hm I rx ry (.inl he.tup)).2 ⟨.bl _, H, I, rfl, q _ _ (.here (.bl _))⟩
    · cases hp
  · rename_i i j h; cases h
    split at hp
    · rename_i hm; cases hp
      exact (in_seq hd hK hu hm I rx ry (.inr he.lsts)).2 ⟨.bl _, H, I, rfl, q _ _ (.here (.bl _))⟩
    · cases hp
  · cases hp
theorem RepR.isNon {v : V} {d : D} (h : RepR G as fz H v d) : decide (v = .non) = !notNone d := by
  cases h with
  | dat r => cases r <;> rfl
  | lst e r => rfl
theorem o_isN : OpR X (compareOp .Is) (fun x y H Q => ∃ as fz d, RepR G as fz H x d ∧ y = .non ∧ ∀ v, RepD G as fz H v (.bl (!notNone d)) → Q v H) := by
  intro pins s σ H x y v u Q I rx ry ⟨as, fz, d, hd, hy, q⟩
  refine op_isN pins s σ H x y v u Q I rx ry ⟨hy, q _ ?_⟩
  rw [hd.isNon]
  exact .bl _
theorem o_notN : OpR X (compareOp .IsNot) (fun x y H Q => ∃ as fz d, RepR G as fz H x d ∧ y = .non ∧ ∀ v, RepD G as fz H v (.bl (notNone d)) → Q v H) := by
  intro pins s σ H x y v u Q I rx ry ⟨as, fz, d, hd, hy, q⟩
  refine op_notN pins s σ H x y v u Q I rx ry ⟨hy, q _ ?_⟩
  rw [hd.isNon, Bool.not_not]
  exact .bl _

/-! ### subscripts -/
theorem atI_rep {ds : List D} {vs : List V} {i : Int} {d : D} (h : RepL G as fz H vs ds) (e : L2.atI ds i = some d) : ∃ v, L2.atI vs i = some v ∧ RepD G as fz H v d := by
  unfold L2.atI at e ⊢
  rw [h.length]
  cases k : ixN ds.length i with
  | none => rw [k] at e; cases e
  | some j =>
    rw [k] at e
    exact h.get e
theorem o_item (hK : G.K = X.K) : IxR X (rP2 G .item) := by
  intro value slice pins s σ H x y v u Q I rx ry ⟨as, fz, d, e, r, hd, he, hp, q⟩ hs
  simp only [prim] at hp
  unfold p_item at hp
  split at hp
  · rename_i i j h; cases h
    obtain ⟨a, vs, rfl, ha, r1⟩ := hd.tup; obtain rfl := he.int
    obtain ⟨w, hw, rw'⟩ := atI_rep r1 hp
    exact ix_tup value slice pins s σ H _ _ v u Q I rx ry ⟨a, vs, _, w, rfl, rfl, hK ▸ ha, hw, q _ _ (.here rw')⟩ hs
  · rename_i i j h; cases h
    obtain ⟨a, vs, rfl, ha, r1⟩ := hd.lsts; obtain rfl := he.int
    obtain ⟨w, hw, rw'⟩ := atI_rep r1 hp
    exact ix_list value slice pins s σ H _ _ v u Q I rx ry ⟨a, vs, _, w, rfl, rfl, SqL.of ha, hw, q _ _ (.here rw')⟩ hs
  · rename_i i j h; cases h
    obtain rfl := hd.str; obtain rfl := he.int
    unfold oneSign at hp
    split at hp
    · rename_i hl
      cases e : L2.atI i.cps.toList j with
      | none => rw [e] at hp; cases hp
      | some c =>
        rw [e] at hp
        cases hp
        exact ix_str value slice pins s σ H _ _ v u Q I rx ry ⟨i, j, c, rfl, rfl, hl, e, q _ _ (.here (.str _))⟩ hs
    · cases hp
  · cases hp
theorem RepL.cut {ds : List D} {vs : List V} (h : RepL G as fz H vs ds) (lo hi : Option Int) : RepL G as fz H (cutV vs lo hi) (MP.cut ds lo hi) := by
  unfold cutV MP.cut
  rw [h.length]
  exact RepL.take 0 h.drop
/-- a slice by its bounds -/
def slD (d : D) (lo hi : Option Int) : Option D :=
  match d with
  | .tup x => some (.tup (cut x lo hi))
  | .lst x => some (.lst (cut x lo hi))
  | .scr x => some (.lst (cut (x.map .int) lo hi))
  | .str x => cutStr x lo hi
  | _ => none
theorem cut_whole {α : Type} {xs : List α} {lo hi : Option Int} (h : HT.sIx xs.length 0 lo = 0 ∧ HT.sIx xs.length xs.length hi = xs.length) : cut xs lo hi = xs := by
  unfold cut
  rw [h.1, h.2]
  simp
theorem o_slice (hK : G.K = X.K) : SlR X (fun x lo hi H Q => ∃ as fz d r, RepR G as fz H x d ∧ slD d lo hi = some r ∧ ∀ v H', ResR G as fz H v r H' → Q v H') := by
  intro pins s σ H x v vl vu lo hi sl Q I rx hs pl pu ⟨as, fz, d, r, hd, hp, q⟩
  unfold slD at hp
  split at hp
  · cases hp
    obtain ⟨a, vs, rfl, ha, r1⟩ := hd.tup
    refine sl_tupA pins s σ H _ v vl vu lo hi sl Q I rx hs pl pu ⟨a, vs, rfl, hK ▸ ha, fun e => ?_, fun e p hn => q _ _ (.ntup hn (r1.cut lo hi))⟩
    rw [r1.length] at e
    rw [cut_whole e] at q
    exact q _ _ (.here (.tup ha r1))
  · cases hp
    obtain ⟨a, vs, rfl, ha, r1⟩ := hd.lsts
    exact sl_list pins s σ H _ v vl vu lo hi sl Q I rx hs pl pu ⟨a, vs, rfl, SqL.of ha, fun p hn => q _ _ (.nlst hn (r1.cut lo hi))⟩
  · cases hp
    obtain ⟨a, rfl, ha, r1⟩ := hd.scr
    exact sl_list pins s σ H _ v vl vu lo hi sl Q I rx hs pl pu ⟨a, _, rfl, hK ▸ ha, fun p hn => q _ _ (.nlst hn ((RepL.of_ints _).cut lo hi))⟩
  · obtain rfl := hd.str
    unfold cutStr at hp
    split at hp
    · rename_i hl; cases hp
      exact sl_str pins s σ H _ v vl vu lo hi sl Q I rx hs pl pu ⟨_, rfl, hl, q _ _ (.here (.str _))⟩
    · cases hp
  · cases hp

/-! ### built-in functions -/
theorem RepRs.one {xs : List V} {d : D} (h : RepRs G as fz H xs [d]) : ∃ x, xs = [x] ∧ RepR G as fz H x d := by
  cases h with
  | cons a r =>
    cases r
    exact ⟨_, rfl, a⟩
theorem RepRs.two {xs : List V} {d e : D} (h : RepRs G as fz H xs [d, e]) : ∃ x y, xs = [x, y] ∧ RepR G as fz H x d ∧ RepR G as fz H y e := by
  cases h with
  | cons a r =>
    obtain ⟨y, rfl, b⟩ := r.one
    exact ⟨_, _, rfl, a, b⟩
theorem c_len (hK : G.K = X.K) : CallR X (.builtin "len") (rPL G .len) := by
  intro pins s σ H xs us Q I rx ⟨as, fz, ds, r, hd, hp, q⟩
  simp only [prim] at hp
  unfold p_len at hp
  split at hp
  · cases hp
    obtain ⟨x, rfl, h⟩ := hd.one
    obtain ⟨a, vs, rfl, ha, r1⟩ := h.tup
    exact call_len_seq pins s σ H _ us Q I rx ⟨a, vs, rfl, .inr (hK ▸ ha), by rw [r1.length]; exact q _ _ (.here (.int _))⟩
  · cases hp
    obtain ⟨x, rfl, h⟩ := hd.one
    obtain ⟨a, vs, rfl, ha, r1⟩ := h.lsts
    exact call_len_seq pins s σ H _ us Q I rx ⟨a, vs, rfl, .inl (SqL.of ha), by rw [r1.length]; exact q _ _ (.here (.int _))⟩
  · split at hp
    · rename_i hl; cases hp
      obtain ⟨x, rfl, h⟩ := hd.one
      obtain rfl := h.str
      exact L2.call_len pins s σ H _ us Q I rx ⟨_, _, rfl, ⟨hl, rfl⟩, q _ _ (.here (.int _))⟩
    · cases hp
  · cases hp
theorem c_abs : CallR X (.builtin "abs") (rPL G .abs) := by
  intro pins s σ H xs us Q I rx ⟨as, fz, ds, r, hd, hp, q⟩
  simp only [prim] at hp
  unfold p_abs at hp
  split at hp
  · cases hp
    obtain ⟨x, rfl, h⟩ := hd.one
    obtain rfl := h.int
    exact L2.call_abs pins s σ H _ us Q I rx ⟨_, rfl, q _ _ (.here (.int _))⟩
  · cases hp
theorem c_int : CallR X (.type "int") (rPL G .int1) := by
  intro pins s σ H xs us Q I rx ⟨as, fz, ds, r, hd, hp, q⟩
  simp only [prim] at hp
  unfold p_int1 at hp
  split at hp
  · cases hp
    obtain ⟨x, rfl, h⟩ := hd.one
    obtain rfl := h.int
    exact L2.call_int1 pins s σ H _ us Q I rx (.inl ⟨_, rfl, q _ _ (.here (.int _))⟩)
  · cases hp
    obtain ⟨x, rfl, h⟩ := hd.one
    obtain rfl := h.bl
    exact L2.call_int1 pins s σ H _ us Q I rx (.inr ⟨_, rfl, q _ _ (.here (.int _))⟩)
  · cases hp
theorem c_str : CallR X (.type "str") (rPL G .str1) := by
  intro pins s σ H xs us Q I rx ⟨as, fz, ds, r, hd, hp, q⟩
  simp only [prim] at hp
  unfold p_str1 at hp
  split at hp
  · split at hp
    · rename_i hl; cases hp
      obtain ⟨x, rfl, h⟩ := hd.one
      obtain rfl := h.int
      exact L2.call_str_int pins s σ H _ us Q I rx ⟨_, rfl, hl, q _ _ (.here (.str _))⟩
    · cases hp
  · cases hp
theorem c_max (hc : X.calm = true) : CallR X (.builtin "max") (rPL G .max2) := by
  intro pins s σ H xs us Q I rx ⟨as, fz, ds, r, hd, hp, q⟩
  simp only [prim] at hp
  unfold p_max2 at hp
  split at hp
  · cases hp
    obtain ⟨x, y, rfl, h, k⟩ := hd.two
    obtain rfl := h.int; obtain rfl := k.int
    exact L2.call_max2 hc pins s σ H _ us Q I rx ⟨_, _, rfl, q _ _ (.here (.int _))⟩
  · cases hp
theorem c_gcd : CallR X (.builtin "math.gcd") (rPL G .gcd) := by
  intro pins s σ H xs us Q I rx ⟨as, fz, ds, r, hd, hp, q⟩
  simp only [prim] at hp
  unfold p_gcd at hp
  split at hp
  · cases hp
    obtain ⟨x, y, rfl, h, k⟩ := hd.two
    obtain rfl := h.int; obtain rfl := k.int
    exact cr_gcd pins s σ H _ us Q I rx ⟨_, _, rfl, q _ _ (.here (.int _))⟩
  · cases hp
theorem c_sum (hc : X.calm = true) : CallR X (.builtin "sum") (rPL G .sum) := by
  intro pins s σ H xs us Q I rx ⟨as, fz, ds, r, hd, hp, q⟩
  simp only [prim] at hp
  unfold p_sum at hp
  split at hp
  · rename_i l
    cases e : intsOf l with
    | none => rw [e] at hp; cases hp
    | some ns =>
      rw [e] at hp; cases hp
      obtain ⟨x, rfl, h⟩ := hd.one
      obtain ⟨a, vs, rfl, ha, r1⟩ := h.lsts
      rw [intsOf_some e] at r1
      obtain rfl := r1.ints
      exact cr_sum hc pins s σ H _ us Q I rx ⟨a, ns, rfl, SqL.of ha, q _ _ (.here (.int _))⟩
  · cases hp
theorem c_all (hc : X.calm = true) : CallR X (.builtin "all") (rPL G .all) := by
  intro pins s σ H xs us Q I rx ⟨as, fz, ds, r, hd, hp, q⟩
  simp only [prim] at hp
  unfold p_all at hp
  split at hp
  · rename_i l
    cases e : boolsOf l with
    | none => rw [e] at hp; cases hp
    | some ns =>
      rw [e] at hp; cases hp
      obtain ⟨x, rfl, h⟩ := hd.one
      obtain ⟨a, vs, rfl, ha, r1⟩ := h.lsts
      rw [boolsOf_some e] at r1
      obtain rfl := r1.bools
      exact cr_all hc pins s σ H _ us Q I rx ⟨a, ns, rfl, SqL.of ha, q _ _ (.here (.bl _))⟩
  · cases hp
theorem c_any (hc : X.calm = true) : CallR X (.builtin "any") (rPL G .any) := by
  intro pins s σ H xs us Q I rx ⟨as, fz, ds, r, hd, hp, q⟩
  simp only [prim] at hp
  unfold p_any at hp
  split at hp
  · rename_i l
    cases e : boolsOf l with
    | none => rw [e] at hp; cases hp
    | some ns =>
      rw [e] at hp; cases hp
      obtain ⟨x, rfl, h⟩ := hd.one
      obtain ⟨a, vs, rfl, ha, r1⟩ := h.lsts
      rw [boolsOf_some e] at r1
      obtain rfl := r1.bools
      exact cr_any hc pins s σ H _ us Q I rx ⟨a, ns, rfl, SqL.of ha, q _ _ (.here (.bl _))⟩
  · cases hp
theorem c_tuple (hK : G.K = X.K) : CallR X (.type "tuple") (rPL G .tuple) := by
  intro pins s σ H xs us Q I rx ⟨as, fz, ds, r, hd, hp, q⟩
  simp only [prim] at hp
  unfold p_tuple at hp
  split at hp
  · cases hp
    obtain ⟨x, rfl, h⟩ := hd.one
    obtain ⟨a, vs, rfl, ha, r1⟩ := h.tup
    exact call_tuple_of pins s σ H _ us Q I rx ⟨a, vs, rfl, .inr ⟨hK ▸ ha, q _ _ (.here (.tup ha r1))⟩⟩
  · cases hp
    obtain ⟨x, rfl, h⟩ := hd.one
    obtain ⟨a, vs, rfl, ha, r1⟩ := h.lsts
    exact call_tuple_of pins s σ H _ us Q I rx ⟨a, vs, rfl, .inl ⟨SqL.of ha, fun l hn => q _ _ (.ntup hn r1)⟩⟩
  · cases hp
theorem c_list (hK : G.K = X.K) : CallR X (.type "list") (rPL G .list) := by
  intro pins s σ H xs us Q I rx ⟨as, fz, ds, r, hd, hp, q⟩
  simp only [prim] at hp
  unfold p_list at hp
  split at hp
  · cases hp
    obtain ⟨x, rfl, h⟩ := hd.one
    obtain ⟨a, vs, rfl, ha, r1⟩ := h.tup
    exact call_list_of pins s σ H _ us Q I rx ⟨a, vs, rfl, .inr (hK ▸ ha), fun l hn => q _ _ (.nlst hn r1)⟩
  · cases hp
    obtain ⟨x, rfl, h⟩ := hd.one
    obtain ⟨a, vs, rfl, ha, r1⟩ := h.lsts
    exact call_list_of pins s σ H _ us Q I rx ⟨a, vs, rfl, .inl (SqL.of ha), fun l hn => q _ _ (.nlst hn r1)⟩
  · cases hp
theorem vals_one {x : V} {us : List Value} (h : Vals [x] us) : ∃ u, us = [u] ∧ RelV x u := by
  cases h with
  | cons a r =>
    cases r
    exact ⟨_, rfl, a⟩
mutual
theorem nodict : ∀ d : D, d.pd.hasDict = false
  | .non => by simp [D.pd, PyData.hasDict]
  | .bl _ => by simp [D.pd, PyData.hasDict]
  | .int _ => by simp [D.pd, PyData.hasDict]
  | .str _ => by simp [D.pd, PyData.hasDict]
  | .tup xs => by rw [D.pd, PyData.hasDict]; exact nodictL xs
  | .lst xs => by rw [D.pd, PyData.hasDict]; exact nodictL xs
  | .fn _ => by simp [D.pd, PyData.hasDict]
  | .ref _ => by simp [D.pd, PyData.hasDict]
  | .scr _ => by simp [D.pd, PyData.hasDict]
theorem nodictL : ∀ ds : List D, PyData.hasDictAll (pdL ds) = false
  | [] => by simp [pdL, PyData.hasDictAll]
  | d :: ds => by rw [pdL, PyData.hasDictAll, nodict d, nodictL ds]; rfl
end
theorem c_repr (hK : G.K = X.K) (hg : X.A.guards = some []) (hu : X.A.units + 65 < cLine) : CallR X (.builtin "repr") (rPL G .repr) := by
  intro pins s σ H xs us Q I rx ⟨as, fz, ds, r, hd, hp, q⟩
  simp only [prim] at hp
  unfold p_repr at hp
  split at hp
  · split at hp
    · rename_i hl; cases hp
      obtain ⟨x, rfl, h⟩ := hd.one
      obtain ⟨u, rfl, ru⟩ := vals_one rx
      simp only [reprOk, Bool.and_eq_true, decide_eq_true_eq] at hl
      obtain ⟨⟨⟨f, sh⟩, dp⟩, ln⟩ := hl
      obtain ⟨bs, rd⟩ := Dp.reads I _ x u (Dp.of2 hK h f) ru
      have nod := nodict
      cases h with
      | dat h =>
        cases h with
        | non =>
          cases ru
          refine PySem.P.repr_of_none ⟨.str _, H, I.tok _, ⟨_, rfl⟩, ?_⟩
          have z := q _ _ (.here (.str _))
          simpa only [D.pd, PyData.shown] using z
        | bl b =>
          cases ru
          refine PySem.P.repr_of_bool ⟨.str _, H, I.tok _, ⟨_, rfl⟩, ?_⟩
          have z := q _ _ (.here (.str _))
          simpa only [D.pd, PyData.shown] using z
        | int i =>
          obtain ⟨t, rfl⟩ := ru
          refine PySem.P.repr_of_int (by simpa [D.pd, PyData.showable] using sh) ⟨.str _, H, I.tok _, ⟨_, rfl⟩, ?_⟩
          have z := q _ _ (.here (.str _))
          simpa only [D.pd, PyData.shown] using z
        | str x =>
          obtain ⟨t, rfl⟩ := ru
          refine PySem.P.repr_of_str ⟨.str _, H, I.tok _, ⟨_, rfl⟩, ?_⟩ (by rw [sl_line]; simpa only [D.pd, PyData.shown] using ln)
          have z := q _ _ (.here (.str _))
          simpa only [D.pd, PyData.shown] using z
        | tup a r =>
          cases ru
          exact repr_of_reads' rd sh (PyData.noDict_hsm (nod _)) hg (by omega) (fun _ _ e => e) (fun h' u tk hk => ⟨.str _, H, I.kept hk, ⟨_, rfl⟩, q _ _ (.here (.str _))⟩) ln
        | lst a b r =>
          cases ru
          exact repr_of_reads' rd sh (PyData.noDict_hsm (nod _)) hg (by omega) (fun _ _ e => e) (fun h' u tk hk => ⟨.str _, H, I.kept hk, ⟨_, rfl⟩, q _ _ (.here (.str _))⟩) ln
        | fn i => simp [D.flat] at f
        | ref e => simp [D.flat] at f
        | scr e => simp [D.flat] at f
      | lst a r =>
        cases ru
        exact repr_of_reads' rd sh (PyData.noDict_hsm (nod _)) hg (by omega) (fun _ _ e => e) (fun h' u tk hk => ⟨.str _, H, I.kept hk, ⟨_, rfl⟩, q _ _ (.here (.str _))⟩) ln
    · cases hp
  · cases hp
end
end MP
end
section
set_option Elab.async false
set_option linter.all false
set_option maxRecDepth 100000
set_option maxHeartbeats 2000000
/-! MP: sorting data of one kind, empty tuples too, of lists and of tuples -/
namespace MP
open PySem PySem.Spec PySem.Calls PyProof.Rows PySem.W PySem.SeqAt

theorem keyLt_gen (x y : Value) : keyLt' general' x y = oneLt' false x y := rfl
section
variable {prog : Program} {w : World} {A : Around} {E : Value → Shared → Prop} {s : Shared}
/-- tuple's own less-than, called as a sort calls it -/
theorem tuple_lt_call {Q : Value → Shared → Prop} {p q : Addr} {xs ys : Array Value} {e r : Nat → Bool} (hp : s.heap.IsTuple p xs) (hq : s.heap.IsTuple q ys)
    (he : ∀ j (h1 : j < xs.size) (h2 : j < ys.size), EqAt A.in1 s xs[j] ys[j] (e j)) (hr : ∀ j (h1 : j < xs.size) (h2 : j < ys.size), e j = false → RcLt A.in1 s xs[j] ys[j] (r j))
    (k : Q (.bool (firstLt e r (decide (xs.size < ys.size)) (List.range (min xs.size ys.size)))) s) : wpAny (model prog w) A (call (.builtin "tuple.__lt__") [.ref p, .ref q]) Q E s := by
  rcases hp with ⟨⟨c1, d1, dt1, s1⟩, g1, rfl, n1, rfl⟩
  rcases hq with ⟨⟨c2, d2, dt2, s2⟩, g2, rfl, n2, rfl⟩
  have m := tuple_ltAt p q xs ys n1 n2 d1 d2 s1 s2 e r
  exact call_meets PySem.F.slot_tuple_lt ⟨_, g1, rfl⟩ PySem.F.entry_tuple_lt (PySem.F.args_tuple_lt_2 _ _) m ⟨g1, g2, he, hr, k⟩
/-- one tuple against another, where all keys are of one type -/
theorem oneLt_tuples {xs ys : List PyData} {a b : Value} {as bs : List Addr} {Q : Bool → Shared → Prop} (ra : Reads s.heap a (.tuple xs) as) (rb : Reads s.heap b (.tuple ys) bs) (h : alike (.tuple xs) (.tuple ys) = true)
    (hu : A.units + min (PyData.tuple xs).depth (PyData.tuple ys).depth < cLine) (hq : Q (dataLt (.tuple xs) (.tuple ys)) s) : wpAny (model prog w) A (oneLt' true a b) Q E s := by
  have hal : alikeAll xs ys = true := by simpa [alike] using h
  rcases ra with _ | _ | _ | _ | _ | ⟨g1, c1, d1, r1⟩
  rcases rb with _ | _ | _ | _ | _ | ⟨g2, c2, d2, r2⟩
  have z1 := SeqAt.ReadsAll.length _ _ _ r1
  have z2 := SeqAt.ReadsAll.length _ _ _ r2
  simp only [Array.length_toList] at z1 z2
  rw [dataLt_tuple, ← firstLt_toks xs ys hal, ← z1, ← z2] at hq
  rw [oneLt'_eq]
  simp only [if_true]
  refine wpAny_bind (wpAny_cRoomFor (room_here hu) ?_)
  refine wpAny_bind (wpAny_callSpecialIfBound?_slot (T := "tuple") ⟨_, g1, c1⟩ PySem.F.slot_tuple_lt (tuple_lt_call (e := pairEq xs ys) (r := fun j => dataLt (xs.getD j .none) (ys.getD j .none)) ⟨_, g1, c1, _, d1⟩ ⟨_, g2, c2, _, d2⟩ ?_ ?_ (wpAny_truthy_bool hq)))
  · intro j j1 j2
    have t := eqAt_alikeAll xs ys A.in1 s _ _ _ _ r1 r2 hal (room_in hu) j (by simpa using j1) (by simpa using j2)
    simpa using t
  · intro j j1 j2 hj
    have t := rcLt_alikeAll xs ys A.in1 s _ _ _ _ r1 r2 hal (room_in hu) j (by simpa using j1) (by simpa using j2) hj
    simpa using t
def fullT : PyData → Bool
  | .tuple (_ :: _) => true
  | _ => false
/-- the first items of tuples, where they have some -/
theorem firsts_mix {M : Model} : ∀ (vs : List Value) (ds : List PyData) {Q : List (Option Value) → Shared → Prop}, EachIs (fun v d => ∃ as, Reads s.heap v d as) vs ds → (∀ d ∈ ds, ∃ xs, d = .tuple xs) →
    (∀ fs : List (Option Value), fs.map Option.isSome = ds.map fullT → Q fs s) → wpAny M A (vs.mapM firstOfTuple') Q E s
  | [], _, Q, e, _, h => by
    cases e
    rw [List.mapM_nil]
    exact wpAny_pure (h [] rfl)
  | v :: vs, _, Q, e, ht, h => by
    cases e with
    | @cons _ d _ ds e1 e2 =>
      obtain ⟨as, r⟩ := e1
      obtain ⟨xs, rfl⟩ := ht d (List.mem_cons_self ..)
      rcases r with _ | _ | _ | _ | _ | ⟨g1, c1, d1, r1⟩
      rw [List.mapM_cons, kas_first_eq]
      refine wpAny_bind (wpAny_bind (Looks.here (show Looks M s.heap (typeOf _) _ from (Looks.ld g1).andThen .now) ?_))
      rw [c1, if_neg (by decide)]
      refine wpAny_bind (listItems_at g1 d1 (wpAny_pure ?_))
      refine wpAny_bind (firsts_mix vs ds e2 (fun d hd => ht d (List.mem_cons_of_mem _ hd)) fun fs hf => wpAny_pure (h _ ?_))
      rw [List.map_cons, List.map_cons, hf]
      congr 1
      have z1 := SeqAt.ReadsAll.length _ _ _ r1
      simp only [Array.length_toList] at z1
      cases xs with
      | nil =>
        rw [Array.getElem?_eq_none (by rw [z1]; exact Nat.le_refl _)]
        rfl
      | cons x r =>
        rw [Array.getElem?_eq_getElem (by rw [z1]; exact Nat.succ_pos _)]
        rfl
theorem all_isSome {fs : List (Option Value)} {ds : List PyData} (h : fs.map Option.isSome = ds.map fullT) : (fs.toArray.all fun x => x.isSome) = ds.all fullT := by
  have e : (fs.toArray.all fun x => x.isSome) = (fs.map Option.isSome).all id := by simp [List.all_map]
  have e2 : (ds.map fullT).all id = ds.all fullT := by simp [List.all_map]
  rw [e, h, e2]
/-- data of one kind, no None: they can be sorted -/
theorem SortsAt.mix {vs : List Value} {ds : List PyData} (e : EachIs (fun v d => ∃ as, Reads s.heap v d as) vs ds) (hal : AllAlike ds) (hk : ∀ d ∈ ds, d ≠ .none) (hu : ∀ d, d ∈ ds → A.units + d.depth < cLine) : SortsAt prog w A s (dataKind s.heap ds) vs := by
  by_cases h0 : ∃ xs, PyData.tuple xs ∈ ds
  · have ht : ∀ d ∈ ds, ∃ xs, d = .tuple xs := fun d hd => by
      obtain ⟨xs, hx⟩ := h0
      have q := hal _ hx d hd
      cases d with
      | tuple ys => exact ⟨ys, rfl⟩
      | _ => simp [alike] at q
    by_cases hf : ds.all fullT = true
    · refine SortsAt.data e hal (.inl fun d hd => ?_) hu
      have q := List.all_eq_true.mp hf d hd
      obtain ⟨xs, rfl⟩ := ht d hd
      cases xs with
      | nil => simp [fullT] at q
      | cons x r => exact ⟨x, r, rfl⟩
    · refine ⟨fun v hv => ?_, ?_⟩
      · obtain ⟨d, hd, as, r⟩ := e.left v hv
        exact ⟨_, dataKind_some hal hd r⟩
      · have room : ∀ {d d' : PyData}, d ∈ ds → A.units + min d.depth d'.depth < cLine := fun {d d'} hd => Nat.lt_of_le_of_lt (Nat.add_le_add_left (Nat.min_le_left _ _) _) (hu d hd)
        by_cases hfst : (ds[0]?.map fullT) = some true
        · refine ⟨general', ?_, fun h2 E Q hq => ?_⟩
          · intro E x y a b Q ha hb hq
            obtain ⟨d, as, hd, ra, rfl⟩ := dataKind_inv ha
            obtain ⟨d', as', hd', rb, rfl⟩ := dataKind_inv hb
            rw [keyLt_gen]
            exact oneLt_alike (fun z => absurd z (by decide)) ra rb (hal d hd d' hd') (hk d hd) (room hd) hq
          · rw [kat_kind_eq, List.mapM_toArray, map_eq_pure_bind]
            refine wpAny_bind (wpAny_bind (firsts_mix vs ds e ht fun fs hfs => wpAny_pure ?_))
            rw [all_isSome hfs, if_neg hf]
            have e0 : (fs.toArray[0]?.bind id).isSome = true := by
              cases fs with
              | nil => cases ds with
                | nil => simp at hfst
                | cons _ _ => simp at hfs
              | cons f fr => cases ds with
                | nil => simp at hfs
                | cons d dr =>
                  simp only [List.map_cons, List.cons.injEq] at hfs
                  simp only [List.getElem?_cons_zero, Option.map_some, Option.some.injEq] at hfst
                  simp [hfs.1, hfst]
            rw [if_pos e0]
            exact wpAny_pure hq
        · refine ⟨oneType', ?_, fun h2 E Q hq => ?_⟩
          · intro E x y a b Q ha hb hq
            obtain ⟨d, as, hd, ra, rfl⟩ := dataKind_inv ha
            obtain ⟨d', as', hd', rb, rfl⟩ := dataKind_inv hb
            obtain ⟨xs, rfl⟩ := ht d hd
            obtain ⟨ys, rfl⟩ := ht d' hd'
            rw [keyLt'_oneType]
            exact oneLt_tuples ra rb (hal _ hd _ hd') (room hd) hq
          · rw [kat_kind_eq, List.mapM_toArray, map_eq_pure_bind]
            refine wpAny_bind (wpAny_bind (firsts_mix vs ds e ht fun fs hfs => wpAny_pure ?_))
            rw [all_isSome hfs, if_neg hf]
            have e0 : ¬ (fs.toArray[0]?.bind id).isSome = true := by
              cases fs with
              | nil => simp
              | cons f fr => cases ds with
                | nil => simp at hfs
                | cons d dr =>
                  simp only [List.map_cons, List.cons.injEq] at hfs
                  simp only [List.getElem?_cons_zero, Option.map_some, Option.some.injEq] at hfst
                  simp [hfs.1, hfst]
            rw [if_neg e0]
            rw [oneTypeOnly'_eq, List.mapM_toArray, map_eq_pure_bind]
            have looks : ∀ v ∈ vs, Looks (model prog w) s.heap (typeOf v) (.type "tuple") := fun v hv => by
              obtain ⟨d, hd, as, r⟩ := e.left v hv
              obtain ⟨xs, rfl⟩ := ht d hd
              rcases r with _ | _ | _ | _ | _ | ⟨g1, c1, d1, r1⟩
              rw [← c1]
              exact (Looks.ld g1).andThen .now
            refine wpAny_bind (wpAny_bind (wpAny_bind (kas_mapM (r := .type "tuple") _ (fun v hv Q' hq => (looks v hv).here hq) (wpAny_pure ?_))))
            obtain ⟨v1, vr, rfl⟩ : ∃ v1 vr, vs = v1 :: vr := by
              cases vs with
              | nil => simp at h2
              | cons v1 vr => exact ⟨v1, vr, rfl⟩
            have hall : ((List.map (fun _ => Value.type "tuple") (v1 :: vr)).toArray.all fun x => x == Value.type "tuple") = true := by
              simp only [List.all_toArray, List.all_map, List.all_eq_true]
              intro _ _
              rfl
            have h0' : (List.map (fun _ => Value.type "tuple") (v1 :: vr)).toArray[0]? = some (Value.type "tuple") := by simp
            rw [h0']
            simp only [hall, if_true]
            exact wpAny_pure (wpAny_pure hq)
  · exact SortsAt.data e hal (.inr fun d hd => ⟨hk d hd, fun xs z => h0 ⟨xs, z ▸ hd⟩⟩) hu

/-- what sorted makes of a tuple's items first -/
theorem collect_tup {t : Addr} {vs : List Value} {Q : List Value → Shared → Prop} (ht : s.heap.IsTuple t vs.toArray) (hz : vs.length ≤ sizeLine)
    (h : Q vs { s with heap := (s.heap.push (seqObj "list" #[] 0)).update s.heap.objs.size (Obj.mapSeq (· ++ vs.toArray)) }) : wpAny (model prog w) A (collect (.ref t)) Q E s := by
  rcases ht with ⟨o, g, c, n, d⟩
  have g' : (s.heap.push (seqObj "list" #[] 0)).get? t = some o := Heap.get?_push_of_some _ g
  unfold collect
  refine wpAny_bind (wpAny_runValue (codeAny_builtin entry_proto_collect' ?_))
  show wpAny (model prog w) A.in1 (newList [] >>= fun l => again (.builtin "list.__iadd__" ⟨[l, .ref t], []⟩)) _ _ s
  refine wpAny_bind (wpAny_newList ?_ (Nat.zero_le _))
  refine wpAny_pure ⟨Code.quiet_builtin _ (by decide +kernel), codeAny_builtin entry_list_iadd' ?_⟩
  show wpAny _ _ (Builtin.List.listExtendWith (.ref s.heap.objs.size) (.ref t) (.ref s.heap.objs.size)) _ _ { s with heap := s.heap.push (seqObj "list" #[] 0) }
  unfold Builtin.List.listExtendWith
  refine wpAny_bind (wpAny_typeOf (T := "tuple") ⟨o, g', c⟩ ?_)
  have q2 : (Value.type "tuple" == Value.type "tuple") = true := by rfl
  rw [if_pos (by rw [q2]; simp)]
  refine wpAny_bind (listItems_at g' d (wpAny_bind (listItems_at (xs := #[]) (n := 0) (Heap.get?_push_size _ rfl) rfl ?_)))
  rw [if_neg (by simp)]
  refine wpAny_bind (listUpdate_at (xs := #[]) (n := 0) (Heap.get?_push_size _ rfl) rfl ?_ (Nat.zero_le _) (by simp only [Array.size_append, List.size_toArray, List.length_nil]; omega))
  refine wpAny_pure ?_
  have l2 := get?_update_seq (Heap.get?_push_size (h := s.heap) (o := seqObj "list" #[] 0) rfl) (· ++ vs.toArray)
  have em : ((#[] : Array Value) ++ vs.toArray).toList = vs := by simp
  show wpAny (model prog w) A (load s.heap.objs.size >>= _) Q E _
  refine wpAny_bind (wpAny_load l2 ?_)
  show wpAny _ _ (pure ((#[] : Array Value) ++ vs.toArray).toList) Q E _
  rw [em]
  exact wpAny_pure h
theorem sorted_tup_sort {t : Addr} {vs : List Value} {kw : List (Str × Value)} {Q : Value → Shared → Prop} (ht : s.heap.IsTuple t vs.toArray) (hL : vs.length ≤ sizeLine) (ha1 : argsOk "sorted" ⟨[.ref t], kw⟩) (ha2 : ∀ x, argsOk "list.sort" ⟨[.ref x], kw⟩)
    (body : ∀ E' : Value → Shared → Prop, wpAny (model prog w) A.in1.in1 (Builtin.«list.sort» ⟨[.ref (s.heap.objs.size + 1)], kw⟩) (fun f s' => f = .done (.ret .none) ∧ Q (.ref (s.heap.objs.size + 1)) s') E' { s with heap := copyHeap s.heap vs }) :
    wpAny (model prog w) A (call (.builtin "sorted") [.ref t] kw) Q E s := by
  have hsz : ((s.heap.push (seqObj "list" #[] 0)).update s.heap.objs.size (Obj.mapSeq (· ++ vs.toArray))).objs.size = s.heap.objs.size + 1 := by
    rw [Heap.size_update, size_push']
  refine call_function_entry_kw kind_sorted plain_sorted entry_sorted ha1 ?_
  unfold Builtin.«sorted»
  refine wpAny_bind (m := checkCount "sorted" 1 1 _) (wpAny_pure (wpAny_bind (collect_tup ht hL (wpAny_bind (wpAny_newList ?_ hL)))))
  show wpAny _ _ _ _ _ { s with heap := copyHeap s.heap vs }
  rw [hsz]
  refine wpAny_bind (wpAny_holding (wpAny_call_entry_kw slot_list_sort ⟨_, copyHeap_at s.heap vs, rfl⟩ entry_list_sort ?_ (ha2 _)))
  show wpAny (model prog w) A.in1.in1 (Builtin.«list.sort» ⟨[.ref (s.heap.objs.size + 1)], kw⟩) _ _ _
  exact wpAny_mono (body _) (fun f s' ⟨e, q⟩ => by
    subst e
    exact ⟨_, rfl, wpAny_pure ⟨_, rfl, q⟩⟩) fun _ _ z => z
end
end MP
namespace MP
open PySem PySem.Spec PySem.Calls PyProof.Rows PySem.W PySem.SeqAt L2
section
variable {X : Cx} {G : Gd} {as : List Addr} {fz : Addr → Prop} {H : Hp}
theorem each_rep : ∀ {ds : List D} {xs : List V} {us : List Value}, RepL G as fz H xs ds → Vals xs us → EachIs (fun u d => ∃ x, RelV x u ∧ RepD G as fz H x d) us ds
  | [], _, _, h, r => by
    cases h
    cases r
    exact .nil
  | _ :: _, _, _, h, r => by
    cases h with
    | cons a t =>
      cases r with
      | cons b q => exact .cons ⟨_, b, a⟩ (each_rep t q)
theorem rep_each : ∀ {ds : List D} {us : List Value}, EachIs (fun u d => ∃ x, RelV x u ∧ RepD G as fz H x d) us ds → ∃ xs, Vals xs us ∧ RepL G as fz H xs ds
  | [], _, e => by
    cases e
    exact ⟨[], .nil, .nil⟩
  | _ :: _, _, e => by
    cases e with
    | cons a t =>
      obtain ⟨x, b, c⟩ := a
      obtain ⟨xs, q, k⟩ := rep_each t
      exact ⟨x :: xs, .cons b q, .cons c k⟩
theorem alikeD {xs : List D} (h : allAlike xs = true) : AllAlike (xs.map D.pd) := by
  intro d hd d' hd'
  obtain ⟨x, hx, rfl⟩ := List.mem_map.mp hd
  obtain ⟨y, hy, rfl⟩ := List.mem_map.mp hd'
  exact List.all_eq_true.mp (List.all_eq_true.mp h x hx) y hy
theorem flat_of_all {xs : List D} (h : ∀ x ∈ xs, x.flat = true) : flatL xs = true := by
  induction xs with
  | nil => rfl
  | cons x r ih =>
    rw [flatL, h x (List.mem_cons_self ..), ih fun y hy => h y (List.mem_cons_of_mem _ hy)]
    rfl
/-- the sorted list, laid -/
theorem sort_end {pins s σ} {ds : List D} {vs : List V} {us : List Value} {Q : VK} {b : Bool} (hK : G.K = X.K) (I : Inv X pins σ H s) (r : RepL G as fz H vs ds) (rv : Vals vs us) (hok : sortOk ds = true) (hu : X.A.units + 70 < cLine)
    (q : ∀ v H', ResR G as fz H v (.lst (sortD b ds)) H' → Q v H') :
    us.length ≤ sizeLine ∧ SortsAt X.prog X.w X.A.in1.in1 { s with heap := sortingHeap (copyHeap s.heap us) (s.heap.objs.size + 1) us } (dataKind (sortingHeap (copyHeap s.heap us) (s.heap.objs.size + 1) us) (ds.map D.pd)) us ∧
      EP X pins σ Q (.ref (s.heap.objs.size + 1)) { s with heap := sortedAll s.heap us (sortVals (dataKind (sortingHeap (copyHeap s.heap us) (s.heap.objs.size + 1) us) (ds.map D.pd)) b us us).toArray } := by
  simp only [sortOk, Bool.and_eq_true, decide_eq_true_eq, List.all_eq_true] at hok
  obtain ⟨⟨each, hal⟩, hlen⟩ := hok
  have l1 := r.length
  have l2 := rv.length
  have hal' := alikeD hal
  obtain ⟨bs, rd⟩ := Dp.readsAll I _ _ us (hK ▸ RepL.dp ds vs r (flat_of_all fun x hx => (each x hx).1.1)) rv
  have rd1 : EachIs (fun u d => ∃ as, Reads (sortingHeap (copyHeap s.heap us) (s.heap.objs.size + 1) us) u d as) us (ds.map D.pd) := by
    have rd' : ReadsAll s.heap us (ds.map D.pd) bs := by rw [← pdL_map]; exact rd
    have e1 := readsAll_each (h := s.heap) D.pd rd'
    exact each_map (R := fun v d => ∃ as, Reads _ v d as) D.pd (e1.mono fun v d ⟨as, q⟩ => ⟨as, PyProof.Rows.Reads.keeps (fun _ _ => sorting_copy_old) q⟩)
  refine ⟨by rw [sl_line]; omega, SortsAt.mix (s := { s with heap := sortingHeap (copyHeap s.heap us) (s.heap.objs.size + 1) us }) rd1 hal' ?_ ?_, ?_⟩
  · intro d hd
    obtain ⟨x, hx, rfl⟩ := List.mem_map.mp hd
    have := (each x hx).1.2
    cases x <;> simp [D.pd, notNone] at this ⊢
    all_goals
      have f := (each _ hx).1.1
      simp [D.flat] at f
  · intro d hd
    obtain ⟨x, hx, rfl⟩ := List.mem_map.mp hd
    have := (each x hx).2
    show X.A.units + 1 + 1 + _ < _
    omega
  · have er : EachIs (fun v (d : D) => ∃ as, Reads (sortingHeap (copyHeap s.heap us) (s.heap.objs.size + 1) us) v d.pd as) us ds := by
      have rd' : ReadsAll s.heap us (ds.map D.pd) bs := by rw [← pdL_map]; exact rd
      exact (readsAll_each (h := s.heap) D.pd rd').mono fun v d ⟨as, q⟩ => ⟨as, PyProof.Rows.Reads.keeps (fun _ _ => sorting_copy_old) q⟩
    have out := sortVals_data (enc := D.pd) b (each_rep r rv) er hal'
    obtain ⟨ws, rw', rl⟩ := rep_each out
    obtain ⟨c, hc⟩ := sortedAll_at s.heap us (sortVals (dataKind (sortingHeap (copyHeap s.heap us) (s.heap.objs.size + 1) us) (ds.map D.pd)) b us us).toArray
    have lw : ws.length ≤ sizeLine := by
      rw [rl.length, List.length_mergeSort, sl_line]
      omega
    have hn : H (s.heap.objs.size + 1) = none := I.hok.fresh (Nat.le_succ _)
    exact ⟨.ref _, _, I.laid (t' := s.toks) (o := .lst ws) (fun b u e => sortedAll_old e) (Nat.le_succ _) ⟨lw, _, c, rw', hc⟩, rfl, q _ _ (.nlst hn rl)⟩
theorem c_sorted (hK : G.K = X.K) (hu : X.A.units + 70 < cLine) : CallR X (.builtin "sorted") (rPL G .sorted) := by
  intro pins s σ H xs us Q I rx ⟨as, fz, ds, r, hd, hp, q⟩
  simp only [prim] at hp
  unfold p_sorted at hp
  split at hp
  · rename_i l
    split at hp
    · rename_i hok; cases hp
      obtain ⟨x, rfl, h⟩ := hd.one
      obtain ⟨a, vs, rfl, ha, r1⟩ := h.lsts
      obtain ⟨u, rfl, ru⟩ := vals_one rx
      cases ru
      obtain ⟨its, rv, pl, hz⟩ := I.list (SqL.of ha)
      obtain ⟨h1, h2, h3⟩ := sort_end (b := false) hK I r1 rv hok hu q
      exact sorted_vals pl.isList h2 h1 h3
    · cases hp
  · rename_i l
    split at hp
    · rename_i hok; cases hp
      obtain ⟨x, rfl, h⟩ := hd.one
      obtain ⟨a, vs, rfl, ha, r1⟩ := h.tup
      obtain ⟨u, rfl, ru⟩ := vals_one rx
      cases ru
      obtain ⟨its, rv, pl, hz⟩ := I.tuple (hK ▸ ha)
      obtain ⟨h1, h2, h3⟩ := sort_end (b := false) hK I r1 rv hok hu q
      exact sorted_tup_sort pl h1 (args_sorted1 _) (fun _ => args_list_sort _) fun _ => list_sort_vals (s := { s with heap := copyHeap s.heap its }) (copyHeap_at s.heap its) h2 h1 ⟨rfl, h3⟩
    · cases hp
  · cases hp
end
end MP
end
section
set_option Elab.async false
set_option linter.all false
set_option maxRecDepth 100000
set_option maxHeartbeats 2000000
/-! MP: the primitives, the rest -/
namespace MP
open PySem PySem.Spec PySem.Calls PyProof.Rows PySem.W PySem.SeqAt L2
section
variable {X : Cx} {G : Gd} {as : List Addr} {fz : Addr → Prop} {H : Hp} {Q : VK}
theorem canLay_all {xs : List PyData} (h : PyData.canLayAll0 xs = true) : ∀ x ∈ xs, x.canLay0 = true := by
  induction xs with
  | nil => intro x hx; cases hx
  | cons y r ih =>
    rw [PyData.canLayAll0, Bool.and_eq_true] at h
    intro x hx
    rcases List.mem_cons.mp hx with rfl | hx
    · exact h.1
    · exact ih h.2 x hx
theorem depth_all {xs : List PyData} : ∀ x ∈ xs, x.depth ≤ PyData.depthAll xs := by
  induction xs with
  | nil => intro x hx; cases hx
  | cons y r ih =>
    intro x hx
    rw [PyData.depthAll]
    rcases List.mem_cons.mp hx with rfl | hx
    · exact Nat.le_max_left _ _
    · exact Nat.le_trans (ih x hx) (Nat.le_max_right _ _)
theorem each_get {α β : Type} {R : α → β → Prop} : ∀ {us : List α} {ds : List β}, EachIs R us ds → ∀ (j : Nat) (h1 : j < us.length) (h2 : j < ds.length), R us[j] ds[j]
  | _, _, .nil, j, h1, _ => absurd h1 (Nat.not_lt_zero _)
  | _, _, .cons a t, 0, _, _ => a
  | _, _, .cons a t, j + 1, h1, h2 => each_get t j (Nat.lt_of_succ_lt_succ h1) (Nat.lt_of_succ_lt_succ h2)
/-- the items against a datum, place by place -/
theorem items_eq {s : Shared} {A : Around} {ds : List D} {us : List Value} {d : D} {u : Value} {bs cs : List Addr} (rs : ReadsAll s.heap us (pdL ds) bs) (ru : Reads s.heap u d.pd cs) (hok : inOk d ds = true) (hu : A.units + 65 < cLine) :
    ItemsEq A.in1 s us (ds.map fun z => eqD z d) u true := by
  simp only [inOk, eqOk, Bool.and_eq_true] at hok
  obtain ⟨⟨_, s1⟩, s2⟩ := hok
  rw [pd_lst] at s2
  have hc : PyData.canLayAll0 (pdL ds) = true := canLay_of_shaped (d := .list (pdL ds)) s2
  have ln := SeqAt.ReadsAll.length _ _ _ rs
  refine ⟨by rw [ln, pdL_map]; simp, fun j h1 h2 => ?_⟩
  have hj : j < ds.length := by simpa using h2
  have e1 : decide ((ds.map fun z => eqD z d)[j] = true) = PyData.eqv (ds[j]).pd d.pd := by
    simp [eqD]
  rw [e1]
  obtain ⟨es, r1⟩ : ∃ es, Reads s.heap us[j] (ds[j]).pd es := by
    have rs' : ReadsAll s.heap us (ds.map D.pd) bs := by rw [← pdL_map]; exact rs
    exact each_get (readsAll_each (h := s.heap) D.pd rs') j h1 hj
  have hm : (ds[j]).pd ∈ pdL ds := by
    rw [pdL_map]
    exact List.mem_map.mpr ⟨_, List.getElem_mem _, rfl⟩
  have room := depth_of_shaped s1
  refine eqAt_reads _ _ A.in1 s _ _ _ _ r1 ru (canLay_all hc _ hm) (canLay_of_shaped s1) ?_
  have h3 : min (ds[j]).pd.depth d.pd.depth ≤ d.pd.depth := Nat.min_le_right _ _
  show A.units + 1 + _ < _
  omega
theorem inD_mem {d : D} {ds : List D} (h : inD d ds = true) : true ∈ ds.map fun z => eqD z d := by
  obtain ⟨z, hz, e⟩ := List.any_eq_true.mp h
  exact List.mem_map.mpr ⟨z, hz, e⟩
theorem sz_of_shaped {ds : List D} : (ds.map fun z => eqD z (.non)).length = ds.length := by simp
theorem m_index_list (hK : G.K = X.K) (hu : X.A.units + 70 < cLine) : MtR X "list.index" (fun x xs H Q => ∃ as fz ds d r, RepR G as fz H x (.lst ds) ∧ RepRs G as fz H xs [d] ∧ prim .index [.lst ds, d] = some r ∧ ds.length ≤ 16777216 ∧ ∀ v, RepD G as fz H v r → Q v H) := by
  intro pins s σ H x xs v us Q I rx rxs ⟨as, fz, ds, d, r, h1, h2, hp, hz, q⟩
  simp only [prim, p_index] at hp
  split at hp
  · rename_i hm; cases hp
    rw [Bool.and_eq_true] at hm
    obtain ⟨a, vs, rfl, ha, rl⟩ := h1.lsts
    obtain ⟨y, rfl, ry⟩ := h2.one
    obtain ⟨u, rfl, ru⟩ := vals_one rxs
    cases rx
    have hok := hm.1
    simp only [inOk, eqOk, Bool.and_eq_true] at hok
    obtain ⟨its, rv, pl, _⟩ := I.list (SqL.of ha)
    obtain ⟨bs, rs⟩ := Dp.readsAll I _ _ its (hK ▸ RepL.dp ds vs rl (by simpa [D.flat] using hok.1.1.2)) rv
    obtain ⟨cs, rd⟩ := Dp.reads I _ y u (Dp.of2 hK ry hok.1.1.1) ru
    exact call_list_index pl.isList (items_eq rs rd hm.1 (A := X.A) (by omega)) (by rw [sl_line]; simpa using hz) (inD_mem hm.2) ⟨.int _, H, I.tok _, ⟨_, rfl⟩, q _ (.int _)⟩
  · cases hp
theorem m_index_tup (hK : G.K = X.K) (hu : X.A.units + 70 < cLine) : MtR X "tuple.index" (fun x xs H Q => ∃ as fz ds d r, RepR G as fz H x (.tup ds) ∧ RepRs G as fz H xs [d] ∧ prim .index [.tup ds, d] = some r ∧ ∀ v, RepD G as fz H v r → Q v H) := by
  intro pins s σ H x xs v us Q I rx rxs ⟨as, fz, ds, d, r, h1, h2, hp, q⟩
  simp only [prim, p_index] at hp
  split at hp
  · rename_i hm; cases hp
    rw [Bool.and_eq_true] at hm
    obtain ⟨a, vs, rfl, ha, rl⟩ := h1.tup
    obtain ⟨y, rfl, ry⟩ := h2.one
    obtain ⟨u, rfl, ru⟩ := vals_one rxs
    cases rx
    have hok := hm.1
    simp only [inOk, eqOk, Bool.and_eq_true] at hok
    obtain ⟨its, rv, pl, _⟩ := I.tuple (hK ▸ ha)
    obtain ⟨bs, rs⟩ := Dp.readsAll I _ _ its (hK ▸ RepL.dp ds vs rl (by simpa [D.flat] using hok.1.1.2)) rv
    obtain ⟨cs, rd⟩ := Dp.reads I _ y u (Dp.of2 hK ry hok.1.1.1) ru
    exact call_tuple_index pl (items_eq rs rd hm.1 (A := X.A) (by omega)) (inD_mem hm.2) ⟨.int _, H, I.tok _, ⟨_, rfl⟩, q _ (.int _)⟩
  · cases hp
theorem m_join (hK : G.K = X.K) : MtR X "str.join" (fun x xs H Q => ∃ as fz a ds r, RepR G as fz H x (.str a) ∧ RepRs G as fz H xs [.lst ds] ∧ prim .join [.str a, .lst ds] = some r ∧ ∀ v, RepD G as fz H v r → Q v H) := by
  intro pins s σ H x xs v us Q I rx rxs ⟨as, fz, a, ds, r, h1, h2, hp, q⟩
  simp only [prim, p_join] at hp
  split at hp
  · rename_i ys e
    split at hp
    · rename_i hj; cases hp
      obtain rfl := h1.str
      obtain ⟨y, rfl, ry⟩ := h2.one
      obtain ⟨b, vs, rfl, hb, rl⟩ := ry.lsts
      rw [strsOf_some e] at rl
      obtain rfl := rl.strs
      exact mt_join pins s σ H _ _ v us Q I rx rxs ⟨a, b, ys, rfl, rfl, .inl (SqL.of hb), of_decide_eq_true hj, q _ (.str _)⟩
    · cases hp
  · cases hp
theorem c_isTup (hK : G.K = X.K) : CallR X (.builtin "isinstance") (fun xs H Q => ∃ as fz d r x, xs = [x, .ty "tuple"] ∧ RepR G as fz H x d ∧ prim .isTup [d] = some r ∧ ∀ v, RepD G as fz H v r → Q v H) := by
  intro pins s σ H xs us Q I rx ⟨as, fz, d, r, x, e, hd, hp, q⟩
  simp only [prim] at hp
  unfold p_isTup at hp
  have go : ∀ (t : String) (b : Bool), TyX X.K H x (.type t) → kitB t "tuple" = some b → Q (.bl b) H → wpAny (model X.prog X.w) X.A (call (.builtin "isinstance") us) (EP X pins σ Q) X.xe s := fun t b ty k q =>
    call_isi pins s σ H xs us Q I rx ⟨x, .ty "tuple", .type t, .type "tuple", b, e, .ty _, ty, kit_ty k, q⟩
  split at hp
  · rename_i z; cases z; cases hp
    obtain ⟨a, vs, rfl, ha, rl⟩ := hd.tup
    rw [hK] at ha
    refine go "tuple" true ?_ (by decide +kernel) (q _ (.bl _))
    rcases ha with (h | ⟨o, h⟩) | ⟨o, its, n, k1, k2, _⟩
    · exact .base (.tup h)
    · exact .fTuple h
    · exact .kTuple k1 k2
  · rename_i z; cases z; cases hp
    obtain rfl := hd.str
    exact go "str" false (.base (.str _)) (by decide +kernel) (q _ (.bl _))
  · rename_i z; cases z; cases hp
    have : x = .non := by
      cases hd with
      | dat h => cases h; rfl
    subst this
    exact go "NoneType" false (.base .non) (by decide +kernel) (q _ (.bl _))
  · rename_i z; cases z; cases hp
    obtain rfl := hd.bl
    exact go "bool" false (.base (.bl _)) (by decide +kernel) (q _ (.bl _))
  · rename_i z; cases z; cases hp
    obtain rfl := hd.int
    exact go "int" false (.base (.int _)) (by decide +kernel) (q _ (.bl _))
  · rename_i z; cases z; cases hp
    obtain ⟨a, vs, rfl, ha, rl⟩ := hd.lsts
    exact go "list" false (.base (.lst ha)) (by decide +kernel) (q _ (.bl _))
  · cases hp
/-- min of two alike tuples -/
theorem min_two_data {prog : Program} {w : World} {A : Around} {E : Value → Shared → Prop} {s : Shared} {a b : Value} {x y : PyData} {as bs : List Addr} {Q : Value → Shared → Prop} (hh : A.handled = none) (ra : Reads s.heap a x as) (rb : Reads s.heap b y bs)
    (hal : alike y x = true) (hal2 : AlikeAll [x, y]) (hu : A.units + 1 + PyData.depthAll [x, y] < cLine) (h : ∀ h' tk, (∀ c o, s.heap.get? c = some o → h'.get? c = some o) → Q (if dataLt y x = true then b else a) { s with heap := h', toks := tk }) :
    wpAny (model prog w) A (call (.builtin "min") [a, b]) Q E s := by
  have hname : (toString "min" ++ toString ".loop" : String) = "min.loop" := by decide
  refine call_function_tree F.kind_min F.plain_min F.entry_min (F.args_min2 _ _) ?_
  show wpAny _ A.in1 (Builtin.Builtins.bindParams "min" ["key", "default"] 0 ⟨[], []⟩ >>= _) _ _ s
  refine wpAny_bind (wpAny_of_eq (show Builtin.Builtins.bindParams "min" ["key", "default"] 0 ⟨[], []⟩ = pure [none, none] from rfl) ?_)
  show wpAny _ A.in1 (newTuple [a, b] >>= _) _ _ s
  refine wpAny_bind (wpAny_newObj_type ?_ (by show 2 ≤ sizeLine; decide))
  have old : ∀ c o, s.heap.get? c = some o → (s.heap.push { cls := .type "tuple", data := .seq [a, b].toArray }).get? c = some o := fun c o e => Heap.get?_push_of_some _ e
  have hT : (s.heap.push { cls := .type "tuple", data := .seq [a, b].toArray }).IsTuple s.heap.objs.size [a, b].toArray := ⟨_, Heap.get?_push_size _ rfl, rfl, _, rfl⟩
  have rs : ReadsAll (s.heap.push { cls := .type "tuple", data := .seq [a, b].toArray }) [a, b] [x, y] _ := .cons (reads_keeps old ra) (.cons (reads_keeps old rb) .nil)
  refine wpAny_bind (iter_tupleW (s := { s with heap := s.heap.push { cls := .type "tuple", data := .seq [a, b].toArray } }) (A := A.in1) hh hT fun s₂ e W st hfp hw hk => ?_)
  refine wpAny_bind (wpAny_newObj_type ?_ (by first | exact Nat.zero_le _ | decide | skip))
  have hSf : s₂.heap.objs.size ∉ [(s.heap.push { cls := .type "tuple", data := .seq [a, b].toArray }).objs.size, s.heap.objs.size] := fun hm => Nat.lt_irrefl _ (hfp _ hm)
  rw [hname]
  refine wpAny_pure ⟨plainId_quiet F.plain_min_loop _, codeAny_min_loop_firstH W _ hw (fun i j => dataLt ([x, y].getD i .none) ([x, y].getD j .none)) (cmpIn_lt (s := { s with heap := s.heap.push { cls := .type "tuple", data := .seq [a, b].toArray } }) (A := A.in1) rs hal2 (by show A.units + 1 + _ < _; exact hu)) s₂.heap.objs.size hSf (fresh_in hk) _ (by show 0 < 2; decide) (fun b o e => Heap.get?_push_of_some _ (hk b o e)) (W.frame 0 s₂ _ s₂.toks st (Nat.le_refl _) fun b _ o e => Heap.get?_push_of_some _ e) (Heap.get?_push_size _ rfl) fun v s' hP hm => ?_⟩
  have hm' := Moved.drop_new (tk := s₂.toks) hm (Nat.le_refl _)
  obtain ⟨h', tk, rfl, hk'⟩ := moved_old (s := { s with heap := s.heap.push { cls := .type "tuple", data := .seq [a, b].toArray } }) e rfl hm'
  have hv : v = if dataLt y x = true then b else a := by
    have hP' : [a, b][argBest (fun i j => dataLt ([x, y].getD i .none) ([x, y].getD j .none)) 1]? = some v := by simpa using hP
    unfold argBest at hP'
    by_cases c : dataLt y x = true
    · rw [if_pos c]
      have c' : dataLt ([x, y].getD (0 + 1) .none) ([x, y].getD (argBest (fun i j => dataLt ([x, y].getD i .none) ([x, y].getD j .none)) 0) .none) = true := c
      rw [if_pos c'] at hP'
      simpa using hP'.symm
    · rw [if_neg c]
      have c' : ¬ dataLt ([x, y].getD (0 + 1) .none) ([x, y].getD (argBest (fun i j => dataLt ([x, y].getD i .none) ([x, y].getD j .none)) 0) .none) = true := c
      rw [if_neg c'] at hP'
      simpa [argBest] using hP'.symm
  rw [hv]
  exact h h' tk fun c o e => hk' c o (old c o e)
end
end MP
end
section
set_option Elab.async false
set_option linter.all false
set_option maxRecDepth 100000
set_option maxHeartbeats 2000000
/-! MP: x[::-1]; min; range as an argument -/
namespace MP
open PySem PySem.Spec PySem.Calls PyProof.Rows PySem.W PySem.SeqAt L2 HT
section
variable {prog : Program} {w : World} {A : Around} {E : Value → Shared → Prop} {s : Shared}
theorem back_adjust (n : Nat) : Builtin.Slice.sliceAdjust none none (-1) (n : Int) = ((n : Int) - 1, -1) := by
  unfold Builtin.Slice.sliceAdjust
  rfl
theorem back_places (n : Nat) : Builtin.Slice.slicePlaces ((n : Int) - 1) (-1) (-1) = n := by
  unfold Builtin.Slice.slicePlaces
  rw [if_neg (by decide)]
  by_cases h : n = 0
  · subst h
    rfl
  · rw [if_pos (by omega)]
    have e : ((n : Int) - 1 - -1 - 1) / (- -1) = (n : Int) - 1 := by
      rw [show ((n : Int) - 1 - -1 - 1) = (n : Int) - 1 by omega]
      exact Int.ediv_one _
    rw [e]
    omega
theorem slice_back {sl : Addr} {vs : Value} {n : Nat} {Q : Int × Int × Nat → Shared → Prop} (hs : s.heap.IsSliceOf sl .none .none vs) (ps : IsPart vs (some (-1))) (h : Q ((n : Int) - 1, -1, n) s) :
    wpAny (model prog w) A (Builtin.Slice.sliceApplied (.ref sl) (pure (n : Int))) Q E s := by
  rcases hs with ⟨o, g, c, d⟩
  unfold Builtin.Slice.sliceApplied Builtin.Slice.sliceFields
  refine wpAny_bind (wpAny_bind (wpAny_field g d (x := .none) rfl (wpAny_bind (wpAny_field g d (x := .none) rfl (wpAny_bind (wpAny_field g d (x := vs) rfl (wpAny_pure ?_)))))))
  refine wpAny_bind (slicePart_ ps ?_)
  show wpAny _ _ (if ((-1 : Int) == 0) = true then _ else _) _ _ s
  rw [if_neg (by decide)]
  refine wpAny_bind (slicePart_none (wpAny_bind (slicePart_none (wpAny_bind (wpAny_pure ?_)))))
  show wpAny _ _ (match Builtin.Slice.sliceAdjust none none (-1) (n : Int) with | (lo, hi) => pure (lo, (-1 : Int), Builtin.Slice.slicePlaces lo hi (-1))) _ _ s
  rw [back_adjust]
  show wpAny _ _ (pure ((n : Int) - 1, (-1 : Int), Builtin.Slice.slicePlaces ((n : Int) - 1) (-1) (-1))) _ _ s
  rw [back_places]
  exact wpAny_pure h
theorem fm_congr {α β : Type} {f g : α → Option β} : ∀ {l : List α}, (∀ x ∈ l, f x = g x) → l.filterMap f = l.filterMap g
  | [], _ => rfl
  | x :: r, h => by
    rw [List.filterMap_cons, List.filterMap_cons, h x (List.mem_cons_self ..), fm_congr fun y hy => h y (List.mem_cons_of_mem _ hy)]
theorem back_pick (xs : Array Value) : ((List.range xs.size).filterMap fun (k : Nat) => xs[(((xs.size : Int) - 1) + (k : Int) * (-1)).toNat]?) = xs.toList.reverse := by
  have e : ((List.range xs.size).filterMap fun (k : Nat) => xs[(((xs.size : Int) - 1) + (k : Int) * (-1)).toNat]?) = (List.range xs.size).filterMap fun k => xs[xs.size - 1 - k]? := by
    refine fm_congr fun k hk => ?_
    have hk' := List.mem_range.mp hk
    congr 1
    omega
  rw [e]
  have e2 : ((List.range xs.size).filterMap fun k => xs[xs.size - 1 - k]?) = (((List.range xs.size).map fun k => xs.size - 1 - k).filterMap fun j => xs[j]?) := by
    rw [List.filterMap_map]
    rfl
  rw [e2, krv_range, List.filterMap_reverse, krv_all]
theorem tup_back {t sl : Addr} {xs : Array Value} {vs : Value} {Q : Value → Shared → Prop} (ht : IsTup s.heap t xs) (hs : s.heap.IsSliceOf sl .none .none vs) (ps : IsPart vs (some (-1))) (hz : xs.size ≤ sizeLine)
    (h : Q (.ref s.heap.objs.size) { s with heap := s.heap.push { cls := .type "tuple", data := .seq xs.toList.reverse.toArray } }) : wpAny (model prog w) A (getItem (.ref t) (.ref sl)) Q E s := by
  have tS : s.TypeIs (.ref sl) "slice" := by
    rcases hs with ⟨o, g, c, d⟩
    exact ⟨o, g, c⟩
  unfold getItem
  try with_reducible refine wpAny_holding ?_
  first | refine wpAny_bind (wpAny_pure ?_) | skip
  refine wpAny_bind (wpAny_sequenceKey ht.typeIs (by decide) ?_)
  refine wpAny_bind (wpAny_callSpecial?_slot (name := Str.ofString "__getitem__") ht.typeIs PyProof.Rows.slot_tuple_getitem (wpAny_call_entry PyProof.Rows.slot_tuple_getitem ht.typeIs entry_tuple_getitem ?_ (args_tuple_getitem _ _)))
  show wpAny _ _ (Builtin.Tuple.tupleItemsOf (.ref t) >>= _) _ _ s
  refine wpAny_bind (tupleItemsOf_ ht (wpAny_bind (wpAny_typeOf tS ?_)))
  rw [if_pos (by decide)]
  refine wpAny_bind (slice_back hs ps ?_)
  have no : ¬ ((((xs.size : Int) - 1) == 0 && (-1 : Int) == 1 && xs.size == xs.size) = true) := by simp
  show wpAny _ _ (if ((((xs.size : Int) - 1) == 0 && (-1 : Int) == 1 && xs.size == xs.size) = true) then _ else _) _ _ s
  rw [if_neg no, back_pick]
  refine wpAny_bind (m := Builtin.Tuple.tupleExact _) (wpAny_newObj_type (wpAny_pure ⟨_, rfl, wpAny_pure h⟩) ?_)
  show xs.toList.reverse.toArray.size ≤ sizeLine
  rw [List.size_toArray, List.length_reverse, Array.length_toList]
  exact hz
end
section
variable {X : Cx} {G : Gd} {as : List Addr} {fz : Addr → Prop} {H : Hp} {Q : VK}
/-- e[::-1] -/
def tRevD (G : Gd) (te : TE) : TE := fun σ H Q => te σ H fun x H1 => ∃ as fz d r, RepR G as fz H1 x d ∧ prim .rev [d] = some r ∧ ∀ v H', ResR G as fz H1 v r H' → Q v H'
theorem e_rev (hK : G.K = X.K) {e : Expr} {te : TE} {k : Nat} {p1 p2 p3 pos : Pos} (he : L2.PE X e te) : L2.PE X (.Subscript e (.Slice none none (some (.UnaryOp .USub (.Constant (.int 1) k p1) p2)) p3) pos) (tRevD G te) := by
  refine ⟨fun pins s σ H Q I h => ?_⟩
  refine Subscript_ (thn (he.run pins s σ H _ I h) fun v s1 ⟨x, H1, I1, r1, q1⟩ => ?_)
  obtain ⟨as, fz, d, r, hd, hp, q⟩ := q1
  have hst : PO X (some (.UnaryOp .USub (.Constant (.int 1) k p1) p2)) (tPart (tUn (rU fun i => .int (-i)) (tC (.int 1)))) := po_some (pe_un un_neg pe_int)
  refine wpAny_Slice (thn (po_none.run pins s1 σ H1 (fun o H2 => o = none ∧ H2 = H1) I1 ⟨rfl, rfl⟩) fun vl s2 ⟨l, H2, I2, pl, el, e2⟩ => ?_)
  subst el e2
  refine thn (po_none.run pins s2 σ H2 (fun o H3 => o = none ∧ H3 = H2) I2 ⟨rfl, rfl⟩) fun vu s3 ⟨u, H3, I3, pu, eu, e3⟩ => ?_
  subst eu e3
  refine thn (hst.run pins s3 σ H3 (fun o H4 => o = some (-1) ∧ H4 = H3) I3 ⟨1, rfl, -1, rfl, rfl, rfl⟩) fun vs s4 ⟨o, H4, I4, ps, eo, e4⟩ => ?_
  subst eo e4
  have I5 : Inv X pins σ H4 { s4 with heap := s4.heap.push { cls := .type "slice", data := .fields #[vl, vu, vs] } } := I4.kept (t' := s4.toks) fun b ob q => Heap.get?_push_of_some _ q
  simp only [prim] at hp
  unfold p_rev at hp
  split at hp
  · rename_i ds z; cases z; cases hp
    obtain ⟨a, xs, rfl, ha, rl⟩ := hd.tup
    cases r1
    obtain ⟨its, rv, ht, hz⟩ := I5.tuple (hK ▸ ha)
    have hlen := rv.length
    obtain rfl : vl = .none := by cases pl; rfl
    obtain rfl : vu = .none := by cases pu; rfl
    show wpAny (model X.prog X.w) X.A (subscriptTail e (.Slice none none (some (.UnaryOp .USub (.Constant (.int 1) k p1) p2)) p3) (.ref a) (.ref s4.heap.objs.size)) (EP X pins σ Q) X.xe { s4 with heap := s4.heap.push { cls := .type "slice", data := .fields #[.none, .none, vs] } }
    refine tail_any (ops := [.ref a, .ref s4.heap.objs.size]) ht.typeIs (PyProof.Rows.slot_tuple_getitem.lookup) ?_ (by with_unfolding_all rfl)
    refine tup_back ht (Heap.IsSliceOf.new _ _ _ vs) ps (by rw [List.size_toArray]; omega) ?_
    refine ⟨.ref _, _, I5.laid (t' := s4.toks) (o := .tup xs.reverse) (fun b ob q => Heap.get?_push_of_some _ q) (Nat.le_refl _) ?_, rfl, q _ _ (.ntup (I5.hok.fresh (Nat.le_refl _)) rl.rev)⟩
    exact ⟨by rw [List.length_reverse]; exact hz, _, by simpa using rv.reverse, IsTup.new _ _⟩
  · rename_i ds z; cases z; cases hp
    obtain ⟨a, xs, rfl, ha, rl⟩ := hd.lsts
    cases r1
    obtain ⟨its, rv, ht, hz⟩ := I5.list (SqL.of ha)
    have hlen := rv.length
    show wpAny (model X.prog X.w) X.A (subscriptTail e (.Slice none none (some (.UnaryOp .USub (.Constant (.int 1) k p1) p2)) p3) (.ref a) (.ref s4.heap.objs.size)) (EP X pins σ Q) X.xe { s4 with heap := s4.heap.push { cls := .type "slice", data := .fields #[vl, vu, vs] } }
    refine tail_any (ops := [.ref a, .ref s4.heap.objs.size]) ht.isList.typeIs (PySem.slot_list_getitem.lookup) ?_ (by with_unfolding_all rfl)
    refine wpAny_getItem_list_slice ht.isList (Heap.IsSliceOf.new _ vl vu vs) pl pu ps (by decide) ?_ (by rw [List.size_toArray]; omega)
    rw [PySem.W.krv_pick]
    refine ⟨.ref _, _, I5.laid (t' := s4.toks) (o := .lst xs.reverse) (fun b ob q => Heap.get?_push_of_some _ q) (Nat.le_refl _) ?_, rfl, q _ _ (.nlst (I5.hok.fresh (Nat.le_refl _)) rl.rev)⟩
    exact ⟨by rw [List.length_reverse]; exact hz, _, 0, rv.reverse, Heap.get?_push_size _ rfl⟩
  · cases hp
theorem c_min (hK : G.K = X.K) (hc : X.calm = true) (hu : X.A.units + 70 < cLine) : CallR X (.builtin "min") (rPL G .min2) := by
  intro pins s σ H xs us Q I rx ⟨as, fz, ds, r, hd, hp, q⟩
  simp only [prim] at hp
  unfold p_min2 at hp
  split at hp
  · cases hp
    obtain ⟨x, y, rfl, h, k⟩ := hd.two
    obtain rfl := h.int; obtain rfl := k.int
    exact L2.call_min2 hc pins s σ H _ us Q I rx ⟨_, _, rfl, q _ _ (.here (.int _))⟩
  · rename_i x y
    split at hp
    · rename_i hm; cases hp
      simp only [sortOk, allAlike, List.all_cons, List.all_nil, Bool.and_true, Bool.and_eq_true, decide_eq_true_eq] at hm
      obtain ⟨⟨⟨⟨⟨f2, n2⟩, d2⟩, ⟨⟨f1, n1⟩, d1⟩⟩, ⟨⟨a11, a12⟩, ⟨a21, a22⟩⟩⟩, _⟩ := hm
      obtain ⟨u, w, rfl, h, k⟩ := hd.two
      obtain ⟨ux, uw, rfl, ru, rw'⟩ : ∃ ux uw, us = [ux, uw] ∧ RelV u ux ∧ RelV w uw := by
        cases rx with
        | cons a t =>
          obtain ⟨b, rfl, c⟩ := vals_one t
          exact ⟨_, _, rfl, a, c⟩
      obtain ⟨a1, r1⟩ := Dp.reads I _ u ux (Dp.of2 hK h f2) ru
      obtain ⟨a2, r2⟩ := Dp.reads I _ w uw (Dp.of2 hK k f1) rw'
      refine min_two_data (I.ok.hd hc) r1 r2 a21 ⟨fun p hp p' hp' => ?_, fun p hp => ?_⟩ ?_ fun h' tk kp => ?_
      · simp only [List.mem_cons, List.not_mem_nil, or_false] at hp hp'
        rcases hp with rfl | rfl <;> rcases hp' with rfl | rfl <;> assumption
      · simp only [List.mem_cons, List.not_mem_nil, or_false] at hp
        rcases hp with rfl | rfl <;> rw [D.pd] <;> intro z <;> cases z
      · simp only [PyData.depthAll]
        have e1 : max (D.tup x).pd.depth (max (D.tup y).pd.depth 0) ≤ 64 := Nat.max_le.mpr ⟨d2, Nat.max_le.mpr ⟨d1, Nat.zero_le _⟩⟩
        omega
      · by_cases c : dataLt (D.tup y).pd (D.tup x).pd = true
        · rw [if_pos c]
          refine ⟨w, H, I.kept kp, rw', q _ _ (.here ?_)⟩
          rw [if_pos (show ltD (.tup y) (.tup x) = true from c)]
          obtain ⟨a, vs, rfl, ha, rl⟩ := k.tup
          exact .tup ha rl
        · rw [if_neg c]
          refine ⟨u, H, I.kept kp, ru, q _ _ (.here ?_)⟩
          rw [if_neg (show ¬ ltD (.tup y) (.tup x) = true from c)]
          obtain ⟨a, vs, rfl, ha, rl⟩ := h.tup
          exact .tup ha rl
    · cases hp
  · cases hp
end
end MP
end
section
set_option Elab.async false
set_option linter.all false
set_option maxRecDepth 100000
set_option maxHeartbeats 2000000
/-! MP: how the simulation goes on -/
namespace MP
open PySem PySem.Spec PyProof.Rows L2
section
variable {G : Gd} {B : Base} {as as' : List Addr} {fz fz' : Addr → Prop} {H H' : Hp} {σ : L2.St} {st : S} {t t' : Sto}

theorem SimB.refl {H : Hp} {as : List Addr} {fz : Addr → Prop} : SimB ⟨H, as, fz⟩ as fz H :=
  ⟨fun _ _ e _ => e, fun _ _ e => e, fun _ _ _ e => e, fun _ _ _ e => e, fun _ e => e, ⟨[], by simp⟩, fun _ h => .inl h, fun _ h => h, fun _ h => .inl h⟩
theorem SimB.step (x : SimB ⟨H, as, fz⟩ as' fz' H') : Step as fz H as' fz' H' := ⟨x.fr, x.tups, x.frzs, x.fzs, x.there, x.pre, x.newa, x.fzm⟩
theorem SimB.fresh (x : SimB B as fz H) {a : Addr} (h : H a = none) : B.H0 a = none := by
  cases q : B.H0 a with
  | none => rfl
  | some o => exact absurd h (x.there a (by rw [q]; simp))
theorem SimB.trans (x : SimB B as fz H) (y : SimB ⟨H, as, fz⟩ as' fz' H') (c : ∀ a, a ∈ as → H a ≠ none) : SimB B as' fz' H' where
  fr := fun b o e n => by
    have e1 := x.fr b o e n
    refine y.fr b o e1 fun hb => ?_
    rcases x.newa b hb with z | z
    · exact n z
    · rw [z] at e; cases e
  tups := fun b xs e => y.tups b xs (x.tups b xs e)
  frzs := fun b o u e => y.frzs b o u (x.frzs b o u e)
  fzs := fun b o f e => y.fzs b o (x.fzm b f) (x.fzs b o f e)
  there := fun b e => y.there b (x.there b e)
  pre := by
    obtain ⟨r, e⟩ := x.pre
    obtain ⟨q, e'⟩ := y.pre
    have e2 : as' = as ++ q := e'
    exact ⟨r ++ q, by rw [e2, e, List.append_assoc]⟩
  newa := fun a h => by
    rcases y.newa a h with z | z
    · exact x.newa a z
    · exact .inr (x.fresh z)
  fzm := fun a h => y.fzm a (x.fzm a h)
  newf := fun a h => by
    rcases y.newf a h with z | z
    · exact x.newf a z
    · exact .inr (x.fresh z)
theorem SimC.live (x : SimC G t as fz H) {a : Addr} (h : a ∈ as) : H a ≠ none := by
  obtain ⟨i, hi, e⟩ := List.mem_iff_getElem.mp h
  have hi2 : i < t.length := by rw [← x.len]; exact hi
  have z := x.at_ i t[i] a (List.getElem?_eq_getElem hi2) (by rw [List.getElem?_eq_getElem hi, e])
  cases q : t[i] with
  | lst xs =>
    rw [q] at z
    obtain ⟨vs, e, _⟩ := z
    rw [e]
    simp
  | ins c fs => rw [q] at z; exact z.elim
  | dct k => rw [q] at z; exact z.elim
/-- all that stood, stands: things may be made, and frozen as they are made -/
structure Grow (fz : Addr → Prop) (H : Hp) (fz' : Addr → Prop) (H' : Hp) : Prop where
  keep : ∀ b o, H b = some o → H' b = some o
  fzm : ∀ a, fz a → fz' a
  newf : ∀ a, fz' a → fz a ∨ (H a = none ∧ H' a ≠ none)
theorem Grow.refl : Grow fz H fz H := ⟨fun _ _ e => e, fun _ e => e, fun _ e => .inl e⟩
theorem Grow.simB (x : Grow fz H fz' H') : SimB ⟨H, as, fz⟩ as fz' H' where
  fr := fun b o e _ => x.keep b o e
  tups := fun b xs e => x.keep b _ e
  frzs := fun b o u e => x.keep b _ e
  fzs := fun b o _ e => x.keep b _ e
  there := fun b h => by
    cases q : H b with
    | none => exact absurd q h
    | some o => rw [x.keep b o q]; simp
  pre := ⟨[], by simp⟩
  newa := fun a h => .inl h
  fzm := x.fzm
  newf := fun a h => (x.newf a h).imp id fun z => z.1
theorem Grow.simC (x : Grow fz H fz' H') (c : SimC G t as fz H) : SimC G t as fz' H' where
  nd := c.nd
  len := c.len
  at_ := fun i cl a e1 e2 => by
    have z := c.at_ i cl a e1 e2
    cases cl with
    | lst xs =>
      obtain ⟨vs, e, r⟩ := z
      exact ⟨vs, x.keep _ _ e, RepL.step (x.simB (as := as)).step _ _ r⟩
    | ins _ _ => exact z
    | dct _ => exact z
  frz := fun a h => by
    rcases x.newf a h with z | ⟨z, y⟩
    · refine ⟨(c.frz a z).1, ?_⟩
      cases q : H a with
      | none => exact absurd q (c.frz a z).2
      | some o => rw [x.keep a o q]; simp
    · exact ⟨fun hm => c.live hm z, y⟩
/-- the frame's slots behind a step that froze nothing of them -/
theorem SimL.step {loc : List Slot} (l : SimL G B loc as fz σ H) (x : SimB ⟨H, as, fz⟩ as' fz' H') : SimL G B loc as' fz' σ H' where
  len := l.len
  val := fun i d e => by
    obtain ⟨v, e1, r⟩ := l.val i d e
    exact ⟨v, e1, RepD.step x.step _ _ r⟩
  own := fun i ds e => by
    obtain ⟨a, vs, e1, e2, r, n, na, n0⟩ := l.own i ds e
    refine ⟨a, vs, e1, x.fr a _ e2 na, RepL.step x.step _ _ r, fun f => ?_, fun h => ?_, n0⟩
    · rcases x.newf a f with z | z
      · exact n z
      · have z' : H a = none := z
        rw [e2] at z'
        cases z'
    · rcases x.newa a h with z | z
      · exact na z
      · have z' : H a = none := z
        rw [e2] at z'
        cases z'
  dist := l.dist
theorem Sim.call (x : Sim G B st as fz σ H) (y : SimB ⟨H, as, fz⟩ as' fz' H') (c : SimC G t' as' fz' H') : Sim G B { st with sto := t' } as' fz' σ H' :=
  ⟨c, x.b.trans y fun _ h => x.c.live h, x.l.step y⟩
theorem Sim.grow (x : Sim G B st as fz σ H) (y : Grow fz H fz' H') : Sim G B st as fz' σ H' :=
  ⟨y.simC x.c, x.b.trans y.simB fun _ h => x.c.live h, x.l.step y.simB⟩
/-- a slot's own list is frozen -/
theorem Sim.freeze (x : Sim G B st as fz σ H) {i : Nat} {ds : List D} (e : st.loc[i]? = some (.own ds)) :
    ∃ (a : Addr) (fz' : Addr → Prop), σ[i]? = some (some (.ref a)) ∧ Step as fz H as fz' H ∧ RepD G as fz' H (.ref a) (.lst ds) ∧ Sim G B { st with loc := st.loc.set i (.val (.lst ds)) } as fz' σ H := by
  obtain ⟨a, vs, e1, e2, r, n, na, n0⟩ := x.l.own i ds e
  have hi : i < st.loc.length := (List.getElem?_eq_some_iff.mp e).1
  have stp : Step as fz H as (fun b => fz b ∨ b = a) H := ⟨fun _ _ e _ => e, fun _ _ e => e, fun _ _ _ e => e, fun _ _ _ e => e, fun _ e => e, ⟨[], by simp⟩, fun _ h => .inl h, fun _ h => .inl h⟩
  have rd : RepD G as (fun b => fz b ∨ b = a) H (.ref a) (.lst ds) := .lst (.inr rfl) e2 (RepL.step stp _ _ r)
  refine ⟨a, fun b => fz b ∨ b = a, e1, stp, rd, ⟨?_, ?_, ?_⟩⟩
  · refine ⟨x.c.nd, x.c.len, fun j c b h1 h2 => ?_, fun b h => ?_⟩
    · have z := x.c.at_ j c b h1 h2
      cases c with
      | lst xs =>
        obtain ⟨vs, e, r⟩ := z
        exact ⟨vs, e, RepL.step stp _ _ r⟩
      | ins _ _ => exact z
      | dct _ => exact z
    · rcases h with h | rfl
      · exact x.c.frz b h
      · exact ⟨na, by rw [e2]; simp⟩
  · exact ⟨x.b.fr, x.b.tups, x.b.frzs, x.b.fzs, x.b.there, x.b.pre, x.b.newa, fun b h => .inl (x.b.fzm b h), fun b h => by
      rcases h with h | rfl
      · exact x.b.newf b h
      · exact .inr n0⟩
  · refine ⟨by rw [List.length_set]; exact x.l.len, fun j d h => ?_, fun j es h => ?_, fun j k es fs b hjk h1 h2 h3 => ?_⟩
    · by_cases hj : i = j
      · subst hj
        rw [List.getElem?_set_self hi] at h
        cases h
        exact ⟨_, e1, rd⟩
      · rw [List.getElem?_set_ne hj] at h
        obtain ⟨v, e3, r3⟩ := x.l.val j d h
        exact ⟨v, e3, RepD.step stp _ _ r3⟩
    · by_cases hj : i = j
      · subst hj
        rw [List.getElem?_set_self hi] at h
        cases h
      · rw [List.getElem?_set_ne hj] at h
        obtain ⟨b, us, e3, e4, r3, m, mb, m0⟩ := x.l.own j es h
        refine ⟨b, us, e3, e4, RepL.step stp _ _ r3, fun f => ?_, mb, m0⟩
        rcases f with f | rfl
        · exact m f
        · exact x.l.dist i j ds es _ hj e h e1 e3
    · have d1 : i ≠ j := fun q => by subst q; rw [List.getElem?_set_self hi] at h1; cases h1
      have d2 : i ≠ k := fun q => by subst q; rw [List.getElem?_set_self hi] at h2; cases h2
      rw [List.getElem?_set_ne d1] at h1
      rw [List.getElem?_set_ne d2] at h2
      exact x.l.dist j k es fs b hjk h1 h2 h3
/-- a new thing that is not frozen -/
theorem grow_new {p : Addr} {o : HO} (n : H p = none) : Grow fz H fz (upd H p o) :=
  ⟨fun b u e => by rw [upd_ne (ne_of_none e n)]; exact e, fun _ e => e, fun _ e => .inl e⟩
/-- a new list that is frozen at once -/
theorem grow_frz {p : Addr} {o : HO} (n : H p = none) : Grow fz H (fun b => fz b ∨ b = p) (upd H p o) :=
  ⟨fun b u e => by rw [upd_ne (ne_of_none e n)]; exact e, fun _ e => .inl e, fun a e => by
    rcases e with e | rfl
    · exact .inl e
    · exact .inr ⟨n, by rw [upd_same]; simp⟩⟩
/-- what a primitive hands back is a datum, behind a growth -/
theorem ResR.grow {v : V} {r : D} (h : ResR G as fz H v r H') : ∃ fz', Grow fz H fz' H' ∧ RepD G as fz' H' v r := by
  rcases h with ⟨rfl, h⟩ | ⟨p, vs, ds, n, rfl, rfl, rfl, h⟩ | ⟨p, vs, ds, n, rfl, rfl, rfl, h⟩
  · exact ⟨fz, .refl, h⟩
  · exact ⟨fz, grow_new n, .tup (.of upd_same) (RepL.step (grow_new (fz := fz) n).simB.step _ _ h)⟩
  · exact ⟨_, grow_frz n, .lst (.inr rfl) upd_same (RepL.step (grow_frz (fz := fz) n).simB.step _ _ h)⟩
/-- an operand is readable -/
theorem RepO.repR {v : V} {d : D} (h : RepO G as fz H v d) : RepR G as fz H v d := by
  cases h with
  | dat r => exact .dat r
  | lst n e r => exact .lst e r
/-- a list cell is readable -/
theorem RepR.deref {v : V} {d : D} (h : RepR G as fz H v d) (c : SimC G t as fz H) : RepR G as fz H v (deref t d) := by
  unfold MP.deref
  split
  · rename_i i
    cases h with
    | dat r =>
      cases r with
      | ref e =>
        split
        · rename_i xs e2
          obtain ⟨vs, e3, r⟩ := c.at_ i _ _ e2 e
          exact .lst e3 r
        · exact .dat (.ref e)
  · exact h
theorem RepOs.repRs {vs : List V} {ds : List D} (h : RepOs G as fz H vs ds) (c : SimC G t as fz H) : RepRs G as fz H vs (ds.map (deref t)) := by
  induction h with
  | nil => exact .nil
  | cons a _ ih => exact .cons (a.repR.deref c) ih
theorem RepL.get2 {ds : List D} {vs : List V} (h : RepL G as fz H vs ds) {i : Nat} {v : V} (e : vs[i]? = some v) : ∃ d, ds[i]? = some d ∧ RepD G as fz H v d := by
  have hi := (List.getElem?_eq_some_iff.mp e).1
  rw [h.length] at hi
  obtain ⟨w, e2, r⟩ := h.get (List.getElem?_eq_getElem hi)
  rw [e] at e2
  cases e2
  exact ⟨_, List.getElem?_eq_getElem hi, r⟩
end
end MP
end
section
set_option Elab.async false
set_option linter.all false
set_option maxRecDepth 100000
set_option maxHeartbeats 2000000
/-! MP: a def's promise where no repr is under way, and calls of such defs -/
namespace MP
open PySem PySem.Spec PyProof.Rows L2

structure FnG (P : Program) (w : World) (K : PySem.W.Frag) (mg : Str → Option Value) (base : Heap) (k : Nat) (f : Addr) (fd : FuncData) (ps : List Str) (sp : Sp) : Prop where
  len : ∀ vs H Q E, sp vs H Q E → vs.length = ps.length
  run : ∀ (A : Around) (outer : List Env) (s : Shared) (H : Hp) (args : Args) (us : List Value) (vs : List V) (Q : VK) (E : XK), A.guards = some [] → Room k A → Env0 P w K mg base A outer s H → BindsTo s fd args (ps.zip us) → Vals vs us → sp vs H Q E →
    codeAny (model P w) A (.call (.ref f) args) (CR (L2N.CX P w) outer P w H s Q E) s
theorem deeper_guards {A : Around} (h : A.guards = some []) (env : Env) : (A.deeper env).guards = some [] := by
  show A.guards = some []
  exact h
/-- a def of the text, by its body -/
theorem fnG_of {P : Program} {w : World} {K : PySem.W.Frag} {mg : Str → Option Value} {base : Heap} {k : Nat} {f : Addr} {name qual : Str} {params : Arguments} {body : List Stmt} {scope : Scope} {dV kV doc pm cdv ct oc : Value} {an od : Option Addr}
    {osl : Array (Option Value)} {N ps : List Str} {sp : Sp} (lk : K.lookup f = some ⟨oc, od, .func (PySem.W.fnOf name qual params body scope dV kV doc pm an cdv ct), osl⟩) (hcd : PySem.W.codeIn K cdv qual = true) (Sc : FnScope N ps scope)
    (len : ∀ vs H Q E, sp vs H Q E → vs.length = ps.length)
    (hbody : ∀ (A : Around) (outer : List Env) (s : Shared) (H : Hp) (vs : List V) (Q : VK) (E : XK), A.guards = some [] → Room k (A.deeper (envOfC qual scope s.heap.objs.size f cdv)) → sp vs H Q E →
      ∃ t, L2.PSs (cxOf (L2N.CX P w) P w K mg base N qual scope f cdv A outer s H E) body t ∧ t { nx := fun _ H' => Q .non H', rt := Q } (start N vs) H) :
    FnG P w K mg base (k + 1) f (PySem.W.fnOf name qual params body scope dV kV doc pm an cdv ct) ps sp := by
  constructor
  · exact len
  intro A outer s H args us vs Q E hg hr e0 hb rv hsp
  have lv := len _ _ _ _ hsp
  have kin : K.In s.heap := e0.mod.kin.keeps fun b o e => (e0.bs b o e).1
  have nolim : s.heap.NoLimit := e0.mod.nolimit.keeps fun b o e => (e0.bs b o e).1
  have kinds : ∀ y ∈ ps.zip us, scope.names.lookup y.1 = some .local ∨ (scope.names.lookup y.1 = some .cell ∧ ((cellsFrom (s.heap.objs.size + 1) scope.names []).lookup y.1).isSome = true) := by
    rintro ⟨n, v⟩ hy
    exact (Sc.par n (List.of_mem_zip hy).1).imp id fun q => ⟨q, PySem.W.cellsFrom_some _ _ _ (.inl q)⟩
  refine codeAny_call_function hr.depth (kin _ _ lk) rfl Sc.co Sc.gen rfl (PySem.W.codeRec_of kin hcd) (hb _ _ _ _ (wpAny_newFunctionEnv_cells Sc.kind kinds fun env he s1 x => ?_))
  cases he
  refine ⟨nolim.keeps x.toInCall.keep, codeAny_func ?_⟩
  obtain ⟨t, ht, hq⟩ := hbody A outer s H vs Q E hg (hr.deeper _) hsp
  have J := inv_start (CX := L2N.CX P w) (E := E) (qual := qual) (f := f) (cd := cdv) Sc hr.hd e0 lv rv x
  refine wpAny_mono (ht.run [] s1 (start N vs) H _ J hq) ?_ fun _ _ z => z
  intro fl s' hs
  cases fl with
  | next =>
    obtain ⟨σ', H', I', q⟩ := hs
    exact ⟨V.non, H', I'.os, I'.bare, I'.base, I'.hok, rfl, q⟩
  | ret u =>
    obtain ⟨v, σ', H', I', r', q⟩ := hs
    exact ⟨v, H', I'.os, I'.bare, I'.base, I'.hok, r', q⟩
  | brk => exact hs.elim fun _ h => h.elim fun _ h => h.2.elim
  | cont => exact hs.elim fun _ h => h.elim fun _ h => h.2.elim
section
variable {X : Cx} {k : Nat} {f : Addr} {fd : FuncData} {ps : List Str} {sp : Sp} {E : L2.St → XK}
/-- such a def is called with values -/
theorem runG {pins : List (Addr × Obj)} {σ : L2.St} {H : Hp} {s : Shared} {Q : VK} {us : List Value} {vs : List V} (F : FnG X.prog X.w X.K X.mg X.base k f fd ps sp) (hg : X.A.guards = some []) (hr : Room k X.A) (hb : Binds X.K fd ps [])
    (hx : PassesAt (L2N.CX X.prog X.w) X σ (E σ)) (I : Inv X pins σ H s) (r : Vals vs us) (h : sp vs H Q (E σ)) : wpAny (model X.prog X.w) X.A (call (.ref f) us) (EP X pins σ Q) X.xe s := by
  have hl : us.length = ps.length := by
    rw [← r.length]
    exact F.len _ _ _ _ h
  have bt := hb s us I.kIn (by rw [List.append_nil]; exact hl)
  rw [List.append_nil] at bt
  refine wpAny_call (codeAny_mono (F.run X.A X.stack s H ⟨us, []⟩ us vs Q (E σ) hg hr I.env0 bt r h) ?_)
  intro res s' hq
  cases res with
  | error e => exact hx pins H s e s' I hq
  | ok fl =>
    cases fl with
    | ret u => exact I.after hq
    | next => exact hq.elim
    | brk => exact hq.elim
    | cont => exact hq.elim
end
end MP
end
section
set_option Elab.async false
set_option linter.all false
set_option maxRecDepth 100000
set_option maxHeartbeats 2000000
/-! MP: readings of expressions by the interpreter -/
namespace MP
open PySem PySem.Spec PyProof.Rows L2

/-- what an evaluation leaves behind -/
def Post (G : Gd) (B : Base) (W : WX) (σ : L2.St) {α : Type} (o : Out α) (R : α → S → List Addr → (Addr → Prop) → Hp → Prop) (as : List Addr) (fz : Addr → Prop) (H : Hp) : Prop :=
  match o with
  | .ok d st' => ∀ as' fz' H', Step as fz H as' fz' H' → Sim G B st' as' fz' σ H' → R d st' as' fz' H'
  | .exc c t => ∀ as' fz' H', SimB B as' fz' H' → SimC G t as' fz' H' → W (.ref (G.ca c)) none σ H'
  | .bad => False
section
variable {G : Gd} {B : Base} {W : WX} {σ : L2.St} {α β : Type} {as : List Addr} {fz : Addr → Prop} {H : Hp}
theorem Post.mono {o : Out α} {R R' : α → S → List Addr → (Addr → Prop) → Hp → Prop} (h : Post G B W σ o R as fz H) (k : ∀ d st' as' fz' H', Step as fz H as' fz' H' → Sim G B st' as' fz' σ H' → R d st' as' fz' H' → R' d st' as' fz' H') : Post G B W σ o R' as fz H := by
  cases o with
  | ok d st' => exact fun as' fz' H' s m => k _ _ _ _ _ s m (h as' fz' H' s m)
  | exc c t => exact h
  | bad => exact h
theorem Post.bind {o : Out α} {f : α → S → Out β} {R : β → S → List Addr → (Addr → Prop) → Hp → Prop} (h : Post G B W σ (o.bind f) R as fz H) :
    Post G B W σ o (fun d st' as' fz' H' => Post G B W σ (f d st') (fun e st2 as2 fz2 H2 => R e st2 as2 fz2 H2) as' fz' H') as fz H := by
  cases o with
  | ok d st' =>
    intro as' fz' H' s m
    have h : Post G B W σ (f d st') R as fz H := h
    revert h
    cases f d st' with
    | ok e st2 => exact fun h as2 fz2 H2 s2 m2 => h as2 fz2 H2 (s.trans s2) m2
    | exc c t => exact fun h => h
    | bad => exact fun h => h
  | exc c t => exact h
  | bad => exact h
/-- the reading of an evaluation, the things read through Rp -/
def tX {ρ : Type} (Rp : List Addr → (Addr → Prop) → Hp → ρ → α → Prop) (G : Gd) (W : WX) (m : S → Out α) : L2.St → Hp → (ρ → Hp → Prop) → Prop :=
  fun σ H Q => ∃ B as fz st, Sim G B st as fz σ H ∧ Post G B W σ (m st) (fun d _ as' fz' H' => ∀ v, Rp as' fz' H' v d → Q v H') as fz H
abbrev tI (G : Gd) (W : WX) (m : S → Out D) : TE := tX (RepD G) G W m
abbrev tO (G : Gd) (W : WX) (m : S → Out D) : TE := tX (RepO G) G W m
abbrev tL (G : Gd) (W : WX) (m : S → Out (List D)) : TA := tX (RepL G) G W m
abbrev tOs (G : Gd) (W : WX) (m : S → Out (List D)) : TA := tX (RepOs G) G W m
/-- one operand -/
def ev1 (cf : CF) : PE → S → Out D
  | .peek i, s => rdPeek i s
  | p, s => evalE cf p s
theorem evalO_cons (cf : CF) (e : PE) (r : PL) (s : S) : evalO cf (.cons e r) s = (ev1 cf e s).bind fun d s' => (evalO cf r s').bind fun ds s'' => .ok (d :: ds) s'' := by
  cases e <;> simp only [evalO, ev1]
theorem evalO_nil (cf : CF) (s : S) : evalO cf .nil s = .ok [] s := by simp only [evalO]
theorem evalL_cons (cf : CF) (e : PE) (r : PL) (s : S) : evalL cf (.cons e r) s = (evalE cf e s).bind fun d s' => (evalL cf r s').bind fun ds s'' => .ok (d :: ds) s'' := by simp only [evalL]
theorem evalL_nil (cf : CF) (s : S) : evalL cf .nil s = .ok [] s := by simp only [evalL]

section
variable {cf : CF} {Q : List V → Hp → Prop}
theorem os_nil (h : tOs G W (evalO cf .nil) σ H Q) : Q [] H := by
  obtain ⟨B, as, fz, st, sim, p⟩ := h
  rw [evalO_nil] at p
  exact p as fz H .refl sim _ .nil
theorem ls_nil (h : tL G W (evalL cf .nil) σ H Q) : Q [] H := by
  obtain ⟨B, as, fz, st, sim, p⟩ := h
  rw [evalL_nil] at p
  exact p as fz H .refl sim _ .nil
theorem os_cons {e : PE} {r : PL} (h : tOs G W (evalO cf (.cons e r)) σ H Q) : tO G W (ev1 cf e) σ H fun x H1 => tOs G W (evalO cf r) σ H1 fun xs H2 => Q (x :: xs) H2 := by
  obtain ⟨B, as, fz, st, sim, p⟩ := h
  rw [evalO_cons] at p
  refine ⟨B, as, fz, st, sim, p.bind.mono fun d st1 as1 fz1 H1 s1 m1 p1 v rv => ⟨B, as1, fz1, st1, m1, p1.bind.mono fun ds st2 as2 fz2 H2 s2 m2 p2 vs rvs => ?_⟩⟩
  exact p2 as2 fz2 H2 .refl m2 _ (.cons (rv.step s2) rvs)
theorem ls_cons {e : PE} {r : PL} (h : tL G W (evalL cf (.cons e r)) σ H Q) : tI G W (evalE cf e) σ H fun x H1 => tL G W (evalL cf r) σ H1 fun xs H2 => Q (x :: xs) H2 := by
  obtain ⟨B, as, fz, st, sim, p⟩ := h
  rw [evalL_cons] at p
  refine ⟨B, as, fz, st, sim, p.bind.mono fun d st1 as1 fz1 H1 s1 m1 p1 v rv => ⟨B, as1, fz1, st1, m1, p1.bind.mono fun ds st2 as2 fz2 H2 s2 m2 p2 vs rvs => ?_⟩⟩
  exact p2 as2 fz2 H2 .refl m2 _ (.cons (RepD.step s2 _ _ rv) rvs)
end
/-- a primitive behind its operands -/
theorem prim_post {p : Prim} {m : S → Out (List D)} {Q : VK} (h : tI G W (fun s => (m s).bind fun ds s' => toOut (prim p (ds.map (deref s'.sto))) s') σ H Q) : tOs G W m σ H fun xs H1 => rPL G p xs H1 Q := by
  obtain ⟨B, as, fz, st, sim, h⟩ := h
  refine ⟨B, as, fz, st, sim, h.bind.mono fun ds st1 as1 fz1 H1 s1 m1 p1 vs rvs => ?_⟩
  cases e : prim p (ds.map (deref st1.sto)) with
  | none => rw [e] at p1; exact p1.elim
  | some r =>
    rw [e] at p1
    refine ⟨as1, fz1, _, r, rvs.repRs m1.c, e, fun v H' rr => ?_⟩
    obtain ⟨fz2, g, rd⟩ := rr.grow
    exact p1 as1 fz2 H' g.simB.step (m1.grow g) v rd
theorem rPL_1 {p : Prim} {x : V} {Q : VK} (h : rPL G p [x] H Q) : rP1 G p x H Q := by
  obtain ⟨as, fz, ds, r, rs, e, q⟩ := h
  cases rs with
  | cons a rs =>
    cases rs
    exact ⟨as, fz, _, r, a, e, q⟩
theorem rPL_2 {p : Prim} {x y : V} {Q : VK} (h : rPL G p [x, y] H Q) : rP2 G p x y H Q := by
  obtain ⟨as, fz, ds, r, rs, e, q⟩ := h
  cases rs with
  | cons a rs =>
    cases rs with
    | cons b rs =>
      cases rs
      exact ⟨as, fz, _, _, r, a, b, e, q⟩
end
section
variable {X : Cx} {e : Expr}
theorem PEimp {t T : TE} (h : L2.PE X e T) (k : ∀ σ H Q, t σ H Q → T σ H Q) : L2.PE X e t := ⟨fun pins s σ H Q I q => h.run pins s σ H Q I (k _ _ _ q)⟩
theorem PTimp {t T : TT} (h : L2.PT X e T) (k : ∀ σ H Q, t σ H Q → T σ H Q) : L2.PT X e t := ⟨fun pins s σ H Q I q => h.run pins s σ H Q I (k _ _ _ q)⟩
theorem PAimp {es : List Expr} {t T : TA} (h : L2.PA X es T) (k : ∀ σ H Q, t σ H Q → T σ H Q) : L2.PA X es t := ⟨fun pos pins s σ H Q I q => h.run pos pins s σ H Q I (k _ _ _ q)⟩
end
def starred : Expr → Bool
  | .Starred _ _ => true
  | _ => false
theorem star_cons {e : Expr} {es : List Expr} {env : Env} (h : starred e = false) : starEach (e :: es) env = (false, eval e env) :: starEach es env := by
  cases e <;> first | rfl | exact absurd h (by simp [starred])
def noStar (es : List Expr) : Bool := es.all fun e => !starred e
theorem noStar_any : ∀ {es : List Expr} {env : Env} {pos : Pos}, noStar es = true → (backTo pos (starEach es env)).any (·.1) = false
  | [], _, _, _ => rfl
  | e :: es, env, pos, h => by
    have h' : (!starred e && noStar es) = true := h
    rw [Bool.and_eq_true] at h'
    rw [star_cons (by simpa using h'.1)]
    have := noStar_any (env := env) (pos := pos) h'.2
    show (false || (backTo pos (starEach es env)).any (·.1)) = false
    rw [this]; rfl
/-- the operands, one by one -/
inductive PEs (X : Cx) (G : Gd) (W : WX) (cf : CF) : List Expr → PL → Prop where
  | nil : PEs X G W cf [] .nil
  | cons {e : Expr} {p : PE} {es : List Expr} {ps : PL} (n : starred e = false) (h : L2.PE X e (tO G W (ev1 cf p))) (r : PEs X G W cf es ps) : PEs X G W cf (e :: es) (.cons p ps)
inductive PVs (X : Cx) (G : Gd) (W : WX) (cf : CF) : List Expr → PL → Prop where
  | nil : PVs X G W cf [] .nil
  | cons {e : Expr} {p : PE} {es : List Expr} {ps : PL} (n : starred e = false) (h : L2.PE X e (tI G W (evalE cf p))) (r : PVs X G W cf es ps) : PVs X G W cf (e :: es) (.cons p ps)
section
variable {X : Cx} {G : Gd} {W : WX} {cf : CF} {es : List Expr} {ps : PL}
theorem PEs.pa (h : PEs X G W cf es ps) : L2.PA X es (tOs G W (evalO cf ps)) := by
  induction h with
  | nil => exact PAimp pa_nil fun σ H Q q => os_nil q
  | cons n h _ ih => exact PAimp (pa_cons h ih (star_cons n)) fun σ H Q q => os_cons q
theorem PVs.pa (h : PVs X G W cf es ps) : L2.PA X es (tL G W (evalL cf ps)) := by
  induction h with
  | nil => exact PAimp pa_nil fun σ H Q q => ls_nil q
  | cons n h _ ih => exact PAimp (pa_cons h ih (star_cons n)) fun σ H Q q => ls_cons q
theorem PEs.noStar (h : PEs X G W cf es ps) : noStar es = true := by
  induction h with
  | nil => rfl
  | cons n h _ ih =>
    show (!starred _ && MP.noStar _) = true
    rw [n, ih]
    rfl
theorem PVs.noStar (h : PVs X G W cf es ps) : MP.noStar es = true := by
  induction h with
  | nil => rfl
  | cons n h _ ih =>
    show (!starred _ && MP.noStar _) = true
    rw [n, ih]
    rfl
end
end MP
end
section
set_option Elab.async false
set_option linter.all false
set_option maxRecDepth 100000
set_option maxHeartbeats 2000000
/-! MP: the text of a primitive's application, and the rules -/
namespace MP
open PySem PySem.Spec PyProof.Rows L2

/-- the promise of the f-th def, as the interpreter tells it -/
def spI (G : Gd) (cf : CF) (f : Nat) : Sp := fun vs H Q E => ∃ ds as fz t, RepL G as fz H vs ds ∧ SimC G t as fz H ∧ match cf f ds t with
  | .ok d t' => ∀ as' fz' H' v, SimB ⟨H, as, fz⟩ as' fz' H' → SimC G t' as' fz' H' → RepD G as' fz' H' v d → Q v H'
  | .exc c t' => ∀ as' fz' H', SimB ⟨H, as, fz⟩ as' fz' H' → SimC G t' as' fz' H' → E (.ref (G.ca c)) none H'
  | .bad => False
/-- what the text says of names -/
structure SE where
  N : List Str
  sc : Scope
  fn : Str → Bool
structure Tab where
  fns : List Str
  globs : List (Str × D)
  blts : List Str
  excs : List Str
  /-- names that stand for math.gcd -/
  mods : List Str
structure Cok (T : Tab) (G : Gd) (cf : CF) (n : Nat) (se : SE) (X : Cx) : Prop where
  K : G.K = X.K
  N : X.N = se.N
  nd : se.N.Nodup
  sc : X.env.scope = se.sc
  fn : ∀ x, se.fn x = true → X.fn x = true
  calm : X.calm = true
  room : Room n X.A
  gd : X.A.guards = some []
  fns : ∀ i x, T.fns[i]? = some x → ∃ fd ps, X.mg x = some (.ref (G.fa i)) ∧ PySem.W.keepIn X.K (.ref (G.fa i)) = true ∧ Binds X.K fd ps [] ∧ FnG X.prog X.w X.K X.mg X.base n (G.fa i) fd ps (spI G cf i)
  fnk : ∀ i, PySem.W.keepIn X.K (.ref (G.fa i)) = true
  globs : ∀ x d, (x, d) ∈ T.globs → ∃ u v, X.mg x = some u ∧ RelV v u ∧ ∀ as fz H, RepD G as fz H v d
  blts : ∀ x, x ∈ T.blts → X.mg x = none
  mods : ∀ x, x ∈ T.mods → X.mg x = some (.builtin "math.gcd")
def visN (se : SE) (x : Str) : Bool := match se.sc.names.lookup x with
  | some .local => true
  | some .cell => true
  | some .free => true
  | _ => false
def gloN (se : SE) (x : Str) : Bool := match se.sc.names.lookup x with
  | some .globalImplicit => true
  | _ => false
def locN (se : SE) (x : Str) : Bool := match se.sc.names.lookup x with
  | some .local => true
  | some .cell => se.fn x
  | _ => false
def okName (x : Str) : Bool := decide ((x == ("__debug__" : Str)) = false) && decide ((x == ("__classdict__" : Str)) = false) && decide (x ≠ "__name__")
section
variable {T : Tab} {G : Gd} {cf : CF} {n : Nat} {se : SE} {X : Cx}
theorem Cok.vis (c : Cok T G cf n se X) {x : Str} (h : visN se x = true) : Vis X.env.scope x := by
  rw [c.sc]
  unfold visN at h
  unfold Vis
  split at h <;> simp_all
theorem Cok.glo (c : Cok T G cf n se X) {x : Str} (h : gloN se x = true) : Gl X x := by
  unfold Gl Env.kindOf
  rw [c.sc]
  unfold gloN at h
  split at h <;> simp_all
theorem Cok.loc (c : Cok T G cf n se X) {x : Str} (h : locN se x = true) : L2.Loc X.env.scope x ∧ (X.fn x = true ∨ X.env.scope.names.lookup x = some .local) := by
  rw [c.sc]
  unfold locN at h
  unfold L2.Loc
  split at h
  · rename_i e; exact ⟨.inl e, .inr e⟩
  · rename_i e; exact ⟨.inr e, .inl (c.fn _ h)⟩
  · cases h
theorem Cok.u65 (c : Cok T G cf n se X) : X.A.units + 65 < cLine := by have := c.room.un; omega
theorem Cok.u70 (c : Cok T G cf n se X) : X.A.units + 70 < cLine := by have := c.room.un; omega
theorem okName_d {x : Str} (h : okName x = true) : (x == ("__debug__" : Str)) = false ∧ (x == ("__classdict__" : Str)) = false ∧ x ≠ "__name__" := by
  unfold okName at h
  simp only [Bool.and_eq_true, decide_eq_true_eq] at h
  exact ⟨h.1.1, h.1.2, h.2⟩
end
def opOf : Prim → Option Operator
  | .add => some .Add
  | .sub => some .Sub
  | .mul => some .Mult
  | .fdiv => some .FloorDiv
  | .mod => some .Mod
  | .pow => some .Pow
  | .shl => some .LShift
  | _ => none
def cmpOf : Prim → Option CmpOp
  | .eq => some .Eq
  | .ne => some .NotEq
  | .lt => some .Lt
  | .le => some .LtE
  | .gt => some .Gt
  | .ge => some .GtE
  | .isIn => some .In
  | .notIn => some .NotIn
  | _ => none
def bltOf : Prim → Option Str
  | .len => some "len"
  | .abs => some "abs"
  | .int1 => some "int"
  | .str1 => some "str"
  | .repr => some "repr"
  | .sum => some "sum"
  | .all => some "all"
  | .any => some "any"
  | .max2 => some "max"
  | .min2 => some "min"
  | .tuple => some "tuple"
  | .list => some "list"
  | .sorted => some "sorted"
  | _ => none
def isNoneC : Expr → Bool
  | .Constant .none _ _ => true
  | _ => false
def plainBase : Expr → Bool
  | .Call _ [] _ _ => false
  | _ => true
def plainIx : Expr → Bool
  | .Slice _ _ _ _ => false
  | _ => true
def isTupleName (T : Tab) (se : SE) : Expr → Bool
  | .Name y _ => decide (y = "tuple") && gloN se "tuple" && decide (("tuple" : Str) ∈ T.blts)
  | _ => false
/-- the operands of an application of p -/
def shape (T : Tab) (se : SE) (p : Prim) : Expr → Option (List Expr)
  | .BinOp a op b _ => if opOf p = some op then some [a, b] else none
  | .UnaryOp .USub a _ => if p = .neg then some [a] else none
  | .Compare a [op] [b] _ => match p with
    | .isNone => if op = .Is ∧ isNoneC b = true then some [a] else none
    | .notNone => if op = .IsNot ∧ isNoneC b = true then some [a] else none
    | _ => if cmpOf p = some op ∧ behindInMarks op b = false then some [a, b] else none
  | .Subscript a (.Slice lo hi st _) _ => match p, lo, hi, st with
    | .sl10, some l, none, none => some [a, l]
    | .sl01, none, some h, none => some [a, h]
    | .sl00, none, none, none => some [a]
    | .rev, none, none, some (.UnaryOp .USub (.Constant (.int 1) _ _) _) => some [a]
    | _, _, _, _ => none
  | .Subscript a b _ => if p = .item ∧ plainIx b = true then some [a, b] else none
  | .Call (.Name f _) args [] _ => match p, args with
    | .gcd, [a, b] => if f ∈ T.mods ∧ gloN se f = true ∧ (f == ("__debug__" : Str)) = false then some [a, b] else none
    | .sortedSet, [.Call (.Name g _) [x] [] _] => if (f = "sorted" ∧ g = "set") ∧ (gloN se "sorted" = true ∧ ("sorted" : Str) ∈ T.blts) ∧ (gloN se "set" = true ∧ ("set" : Str) ∈ T.blts) ∧ starred x = false then some [x] else none
    | .isTup, [a, t] => if f = "isinstance" ∧ gloN se "isinstance" = true ∧ ("isinstance" : Str) ∈ T.blts ∧ isTupleName T se t = true then some [a] else none
    | p, a :: r => if bltOf p = some f ∧ gloN se f = true ∧ f ∈ T.blts then some (a :: r) else none
    | _, _ => none
  | _ => none
theorem plainIx_ok {b : Expr} (h : plainIx b = true) : PlainIx b := by
  intro o i
  cases b <;> first | rfl | exact absurd h (by simp [plainIx])
theorem plainBase_ok {o : Expr} {m : Str} {env : Env} {w : Sem Value} (h : plainBase o = true) : attributeBase o m env w = w := by
  cases o with
  | Call f args kws pos =>
    cases args with
    | nil => exact absurd h (by simp [plainBase])
    | cons a r => cases f <;> rfl
  | _ => rfl
/-- the reading of p behind its operands -/
abbrev evP (cf : CF) (p : Prim) (ps : PL) : S → Out D := fun s => (evalO cf ps s).bind fun ds s' => toOut (prim p (ds.map (deref s'.sto))) s'
theorem evalE_prim (cf : CF) (p : Prim) (ps : PL) : evalE cf (.prim p ps) = evP cf p ps := by
  funext s
  simp only [evalE, evP]
section
variable {T : Tab} {G : Gd} {cf : CF} {n : Nat} {se : SE} {X : Cx} {W : WX} {σ : L2.St} {H : Hp} {Q : VK} {p : Prim} {ps : PL}
theorem t_P1 {a : PE} (h : tI G W (evP cf p (.cons a .nil)) σ H Q) : tO G W (ev1 cf a) σ H fun x H1 => rP1 G p x H1 Q := by
  have h := os_cons (prim_post h)
  obtain ⟨B, as, fz, st, sim, q⟩ := h
  exact ⟨B, as, fz, st, sim, q.mono fun d st1 as1 fz1 H1 s1 m1 p1 v rv => rPL_1 (os_nil (p1 v rv))⟩
theorem t_P2 {a b : PE} (h : tI G W (evP cf p (.cons a (.cons b .nil))) σ H Q) : tO G W (ev1 cf a) σ H fun x H1 => tO G W (ev1 cf b) σ H1 fun y H2 => rP2 G p x y H2 Q := by
  have h := os_cons (prim_post h)
  obtain ⟨B, as, fz, st, sim, q⟩ := h
  refine ⟨B, as, fz, st, sim, q.mono fun d st1 as1 fz1 H1 s1 m1 p1 v rv => ?_⟩
  obtain ⟨B', as', fz', st', sim', q'⟩ := os_cons (p1 v rv)
  exact ⟨B', as', fz', st', sim', q'.mono fun d st1 as1 fz1 H1 s1 m1 p1 v rv => rPL_2 (os_nil (p1 v rv))⟩
theorem t_P3 {a b c : PE} (h : tI G W (evP cf p (.cons a (.cons b (.cons c .nil)))) σ H Q) : tO G W (ev1 cf a) σ H fun x H1 => tO G W (ev1 cf b) σ H1 fun y H2 => tO G W (ev1 cf c) σ H2 fun z H3 => rPL G p [x, y, z] H3 Q := by
  have h := os_cons (prim_post h)
  obtain ⟨B, as, fz, st, sim, q⟩ := h
  refine ⟨B, as, fz, st, sim, q.mono fun d st1 as1 fz1 H1 s1 m1 p1 v rv => ?_⟩
  obtain ⟨B', as', fz', st', sim', q'⟩ := os_cons (p1 v rv)
  refine ⟨B', as', fz', st', sim', q'.mono fun d st1 as1 fz1 H1 s1 m1 p1 v rv => ?_⟩
  obtain ⟨B', as', fz', st', sim', q'⟩ := os_cons (p1 v rv)
  exact ⟨B', as', fz', st', sim', q'.mono fun d st1 as1 fz1 H1 s1 m1 p1 v rv => os_nil (p1 v rv)⟩
theorem o_bin (hK : G.K = X.K) {op : Operator} (h : opOf p = some op) : OpR X (binaryOp op) (rP2 G p) := by
  cases p <;> simp only [opOf, Option.some.injEq, reduceCtorEq] at h
  all_goals subst h
  · exact o_add hK
  · exact o_sub hK
  · exact o_mul hK
  · exact o_fdiv hK
  · exact o_mod hK
  · exact o_pow hK
  · exact o_shl hK
theorem o_cmp (c : Cok T G cf n se X) {op : CmpOp} (h : cmpOf p = some op) : OpR X (compareOp op) (rP2 G p) := by
  cases p <;> simp only [cmpOf, Option.some.injEq, reduceCtorEq] at h
  all_goals subst h
  · exact o_eq c.K c.u65
  · exact o_ne c.K c.u65
  · exact o_lt c.K c.u65
  · exact o_le c.K
  · exact o_gt c.K
  · exact o_ge c.K
  · exact o_in c.K c.u65
  · exact o_notIn c.K c.u65
/-- both judgements -/
def Both (X : Cx) (e : Expr) (t : TE) : Prop := L2.PE X e t ∧ L2.PT X e (tB t)
theorem both_bin (c : Cok T G cf n se X) {a b : Expr} {op : Operator} {pos : Pos} (h : opOf p = some op) (q : PEs X G W cf [a, b] ps) : Both X (.BinOp a op b pos) (tI G W (evP cf p ps)) := by
  cases q with
  | cons n1 h1 q =>
    cases q with
    | cons n2 h2 q =>
      cases q
      have z : L2.PE X (.BinOp a op b pos) (tI G W (evP cf p _)) := PEimp (pe_op (o_bin c.K h) h1 h2) fun σ H Q hh => t_P2 hh
      exact ⟨z, pt_val z⟩
theorem both_cmp (c : Cok T G cf n se X) {a b : Expr} {op : CmpOp} {pos : Pos} (h : cmpOf p = some op) (hb : behindInMarks op b = false) (q : PEs X G W cf [a, b] ps) : Both X (.Compare a [op] [b] pos) (tI G W (evP cf p ps)) := by
  cases q with
  | cons n1 h1 q =>
    cases q with
    | cons n2 h2 q =>
      cases q
      refine ⟨PEimp (pe_cmpR (o_cmp c h) h1 h2 hb) fun σ H Q hh => t_P2 hh, PTimp (pt_cmpR (o_cmp c h) h1 h2 hb) fun σ H Q hh => ?_⟩
      exact t_P2 hh
theorem tO_mono {m : S → Out D} {Q Q' : VK} (h : tO G W m σ H Q) (k : ∀ x H', Q x H' → Q' x H') : tO G W m σ H Q' := by
  obtain ⟨B, as, fz, st, sim, q⟩ := h
  exact ⟨B, as, fz, st, sim, q.mono fun d st1 as1 fz1 H1 s1 m1 p1 v rv => k _ _ (p1 v rv)⟩
theorem tI_mono {m : S → Out D} {Q Q' : VK} (h : tI G W m σ H Q) (k : ∀ x H', Q x H' → Q' x H') : tI G W m σ H Q' := by
  obtain ⟨B, as, fz, st, sim, q⟩ := h
  exact ⟨B, as, fz, st, sim, q.mono fun d st1 as1 fz1 H1 s1 m1 p1 v rv => k _ _ (p1 v rv)⟩
theorem noneC_pe {b : Expr} (h : isNoneC b = true) : L2.PE X b (tC .non) := by
  unfold isNoneC at h
  split at h
  · exact pe_non
  · cases h
theorem noneC_mark {b : Expr} {op : CmpOp} (h : isNoneC b = true) : behindInMarks op b = false := by
  unfold isNoneC at h
  split at h
  · rfl
  · cases h
theorem both_isN {a b : Expr} {pos : Pos} (hb : isNoneC b = true) (q : PEs X G W cf [a] ps) : Both X (.Compare a [.Is] [b] pos) (tI G W (evP cf .isNone ps)) := by
  cases q with
  | @cons _ pa _ _ n1 h1 q =>
    cases q
    have k : ∀ σ H Q, tI G W (evP cf .isNone (.cons pa .nil)) σ H Q → tOp (fun x y H Q => ∃ as fz d, RepR G as fz H x d ∧ y = .non ∧ ∀ v, RepD G as fz H v (.bl (!notNone d)) → Q v H) (tO G W (ev1 cf pa)) (tC .non) σ H Q := fun σ H Q hh => by
      refine tO_mono (t_P1 hh) fun x H1 hx => ?_
      obtain ⟨as, fz, d, r, rr, e, q⟩ := hx
      cases e
      exact ⟨as, fz, d, rr, rfl, fun v rv => q v H1 (.here rv)⟩
    exact ⟨PEimp (pe_cmpR (r := _) o_isN h1 (noneC_pe hb) (noneC_mark hb)) k, PTimp (pt_cmpR (r := _) o_isN h1 (noneC_pe hb) (noneC_mark hb)) fun σ H Q hh => k _ _ _ hh⟩
theorem both_notN {a b : Expr} {pos : Pos} (hb : isNoneC b = true) (q : PEs X G W cf [a] ps) : Both X (.Compare a [.IsNot] [b] pos) (tI G W (evP cf .notNone ps)) := by
  cases q with
  | @cons _ pa _ _ n1 h1 q =>
    cases q
    have k : ∀ σ H Q, tI G W (evP cf .notNone (.cons pa .nil)) σ H Q → tOp (fun x y H Q => ∃ as fz d, RepR G as fz H x d ∧ y = .non ∧ ∀ v, RepD G as fz H v (.bl (notNone d)) → Q v H) (tO G W (ev1 cf pa)) (tC .non) σ H Q := fun σ H Q hh => by
      refine tO_mono (t_P1 hh) fun x H1 hx => ?_
      obtain ⟨as, fz, d, r, rr, e, q⟩ := hx
      cases e
      exact ⟨as, fz, d, rr, rfl, fun v rv => q v H1 (.here rv)⟩
    exact ⟨PEimp (pe_cmpR (r := _) o_notN h1 (noneC_pe hb) (noneC_mark hb)) k, PTimp (pt_cmpR (r := _) o_notN h1 (noneC_pe hb) (noneC_mark hb)) fun σ H Q hh => k _ _ _ hh⟩
theorem both_neg (c : Cok T G cf n se X) {a : Expr} {pos : Pos} (q : PEs X G W cf [a] ps) : Both X (.UnaryOp .USub a pos) (tI G W (evP cf .neg ps)) := by
  cases q with
  | cons n1 h1 q =>
    cases q
    have z : L2.PE X (.UnaryOp .USub a pos) (tI G W (evP cf .neg _)) := PEimp (pe_un (o_neg c.K) h1) fun σ H Q hh => t_P1 hh
    exact ⟨z, pt_val z⟩
theorem both_item (c : Cok T G cf n se X) {a b : Expr} {pos : Pos} (hb : plainIx b = true) (q : PEs X G W cf [a, b] ps) : Both X (.Subscript a b pos) (tI G W (evP cf .item ps)) := by
  cases q with
  | cons n1 h1 q =>
    cases q with
    | cons n2 h2 q =>
      cases q
      have z : L2.PE X (.Subscript a b pos) (tI G W (evP cf .item _)) := PEimp (pe_ix (o_item c.K) h1 h2 (plainIx_ok hb)) fun σ H Q hh => t_P2 hh
      exact ⟨z, pt_val z⟩
theorem both_tup (c : Cok T G cf n se X) {es : List Expr} {k : Nat} {pos : Pos} (q : PVs X G W cf es ps) : Both X (.Tuple es k pos) (tI G W (evalE cf (.tup ps))) := by
  have z : L2.PE X (.Tuple es k pos) (tI G W (evalE cf (.tup ps))) := PEimp (pe_tup q.pa) fun σ H Q hh => by
    obtain ⟨B, as, fz, st, sim, q⟩ := hh
    simp only [evalE] at q
    refine ⟨B, as, fz, st, sim, q.bind.mono fun ds st1 as1 fz1 H1 s1 m1 p1 vs rvs => ?_⟩
    split at p1
    · rename_i hl
      refine ⟨by rw [rvs.length, sl_line]; omega, fun p hn => ?_⟩
      have g : Grow fz1 H1 fz1 (upd H1 p (.tup vs)) := grow_new hn
      exact p1 as1 fz1 _ g.simB.step (m1.grow g) _ (.tup (.of upd_same) (RepL.step g.simB.step _ _ rvs))
    · exact p1.elim
  exact ⟨z, pt_val z⟩
theorem both_lst (c : Cok T G cf n se X) {es : List Expr} {pos : Pos} (q : PVs X G W cf es ps) : Both X (.List es pos) (tI G W (evalE cf (.lst ps))) := by
  have z : L2.PE X (.List es pos) (tI G W (evalE cf (.lst ps))) := PEimp (pe_lst q.pa) fun σ H Q hh => by
    obtain ⟨B, as, fz, st, sim, q⟩ := hh
    simp only [evalE] at q
    refine ⟨B, as, fz, st, sim, q.bind.mono fun ds st1 as1 fz1 H1 s1 m1 p1 vs rvs => ?_⟩
    split at p1
    · rename_i hl
      refine ⟨by rw [rvs.length, sl_line]; omega, fun p hn => ?_⟩
      have g : Grow fz1 H1 (fun b => fz1 b ∨ b = p) (upd H1 p (.lst vs)) := grow_frz hn
      exact p1 as1 _ _ g.simB.step (m1.grow g) _ (.lst (.inr rfl) upd_same (RepL.step g.simB.step _ _ rvs))
    · exact p1.elim
  exact ⟨z, pt_val z⟩
/-- slices -/
theorem po_of {e : Expr} {p : PE} (h : L2.PE X e (tO G W (ev1 cf p))) : PO X (some e) (tPart (tO G W (ev1 cf p))) := po_some h
theorem int_of {as : List Addr} {fz : Addr → Prop} {d : D} {v : V} (h : RepR G as fz H v d) (hi : ∃ i, d = .int i) : ∃ i, v = .int i ∧ d = .int i := by
  obtain ⟨i, rfl⟩ := hi
  exact ⟨i, h.int, rfl⟩
theorem slD_10 {d : D} {i : Int} {r : D} (h : prim .sl10 [d, .int i] = some r) : slD d (some i) none = some r := by
  simp only [prim] at h
  unfold p_sl10 at h
  split at h <;> first | (rename_i e; cases e; exact h) | cases h
theorem slD_01 {d : D} {i : Int} {r : D} (h : prim .sl01 [d, .int i] = some r) : slD d none (some i) = some r := by
  simp only [prim] at h
  unfold p_sl01 at h
  split at h <;> first | (rename_i e; cases e; exact h) | cases h
theorem slD_11 {d : D} {i j : Int} {r : D} (h : prim .sl11 [d, .int i, .int j] = some r) : slD d (some i) (some j) = some r := by
  simp only [prim] at h
  unfold p_sl11 at h
  split at h <;> first | (rename_i e; cases e; exact h) | cases h
theorem cut_none {α : Type} (xs : List α) : cut xs none none = xs := by
  unfold cut
  rw [HT.sIx_none, HT.sIx_none]
  simp
theorem slD_00 {d : D} {r : D} (h : prim .sl00 [d] = some r) : slD d none none = some r := by
  simp only [prim] at h
  unfold p_sl00 at h
  split at h
  · rename_i e; cases e; cases h
    show some (D.lst (cut _ none none)) = _
    rw [cut_none]
  · cases h
theorem sl10_int {d e r : D} (h : prim .sl10 [d, e] = some r) : ∃ i, e = .int i := by
  simp only [prim] at h
  unfold p_sl10 at h
  split at h <;> first | (rename_i e; cases e; exact ⟨_, rfl⟩) | cases h
theorem sl01_int {d e r : D} (h : prim .sl01 [d, e] = some r) : ∃ i, e = .int i := by
  simp only [prim] at h
  unfold p_sl01 at h
  split at h <;> first | (rename_i e; cases e; exact ⟨_, rfl⟩) | cases h
theorem sl11_int {d e f r : D} (h : prim .sl11 [d, e, f] = some r) : ∃ i, f = .int i := by
  simp only [prim] at h
  unfold p_sl11 at h
  split at h <;> first | (rename_i e; cases e; exact ⟨_, rfl⟩) | cases h
theorem both_sl (c : Cok T G cf n se X) {a : Expr} {lo hi st : Option Expr} {p2 pos : Pos} {xs : List Expr} (hs : shape T se p (.Subscript a (.Slice lo hi st p2) pos) = some xs) (q : PEs X G W cf xs ps) : Both X (.Subscript a (.Slice lo hi st p2) pos) (tI G W (evP cf p ps)) := by
  suffices z : L2.PE X (.Subscript a (.Slice lo hi st p2) pos) (tI G W (evP cf p ps)) from ⟨z, pt_val z⟩
  simp only [shape] at hs
  split at hs
  · cases hs
    cases q with
    | cons n1 h1 q =>
      cases q with
      | cons n2 h2 q =>
        cases q
        refine PEimp (pe_slice (o_slice (G := G) c.K) h1 (po_some h2) po_none) fun σ H Q hh => ?_
        refine tO_mono (t_P2 hh) fun x H1 hx => tO_mono hx fun y H2 hy => ?_
        obtain ⟨as, fz, d, e, r, rd, re, hp, q⟩ := hy
        obtain ⟨i, rfl⟩ := sl10_int hp
        exact ⟨i, re.int, as, fz, d, r, rd, slD_10 hp, q⟩
  · cases hs
    cases q with
    | cons n1 h1 q =>
      cases q with
      | cons n2 h2 q =>
        cases q
        refine PEimp (pe_slice (o_slice (G := G) c.K) h1 po_none (po_some h2)) fun σ H Q hh => ?_
        refine tO_mono (t_P2 hh) fun x H1 hx => tO_mono hx fun y H2 hy => ?_
        obtain ⟨as, fz, d, e, r, rd, re, hp, q⟩ := hy
        obtain ⟨i, rfl⟩ := sl01_int hp
        exact ⟨i, re.int, as, fz, d, r, rd, slD_01 hp, q⟩
  · cases hs
    cases q with
    | cons n1 h1 q =>
      cases q
      refine PEimp (pe_slice (o_slice (G := G) c.K) h1 po_none po_none) fun σ H Q hh => ?_
      refine tO_mono (t_P1 hh) fun x H1 hx => ?_
      obtain ⟨as, fz, d, r, rd, hp, q⟩ := hx
      exact ⟨as, fz, d, r, rd, slD_00 hp, q⟩
  · cases hs
    cases q with
    | cons n1 h1 q =>
      cases q
      exact PEimp (e_rev c.K h1) fun σ H Q hh => tO_mono (t_P1 hh) fun x H1 hx => hx
  · cases hs
theorem evalE_sl2 (cf : CF) (a b c : PE) (s : S) : evalE cf (.sl2 a b c) s = (ev1 cf a s).bind (slRest (evalE cf b) (evalE cf c)) := by
  cases a <;> simp only [evalE, ev1]
theorem both_sl2 (c : Cok T G cf n se X) {a lo hi : Expr} {p2 pos : Pos} {pa pb pc : PE} (ha : L2.PE X a (tO G W (ev1 cf pa))) (hb : L2.PE X lo (tI G W (evalE cf pb))) (hc : L2.PE X hi (tI G W (evalE cf pc))) :
    Both X (.Subscript a (.Slice (some lo) (some hi) none p2) pos) (tI G W (evalE cf (.sl2 pa pb pc))) := by
  have z : L2.PE X (.Subscript a (.Slice (some lo) (some hi) none p2) pos) (tI G W (evalE cf (.sl2 pa pb pc))) := by
    refine PEimp (pe_slice (o_slice (G := G) c.K) ha (po_some hb) (po_some hc)) fun σ H Q hh => ?_
    obtain ⟨B, as, fz, st, sim, q⟩ := hh
    rw [evalE_sl2] at q
    refine ⟨B, as, fz, st, sim, q.bind.mono fun d st1 as1 fz1 H1 s1 m1 p1 v rv => ?_⟩
    unfold slRest at p1
    refine ⟨B, as1, fz1, st1, m1, p1.bind.mono fun e st2 as2 fz2 H2 s2 m2 p2 y ry => ?_⟩
    split at p2
    · rename_i i
      cases ry
      refine ⟨i, rfl, B, as2, fz2, st2, m2, p2.bind.mono fun f st3 as3 fz3 H3 s3 m3 p3 w rw' => ?_⟩
      cases e : prim .sl11 [deref st3.sto d, .int i, f] with
      | none => rw [e] at p3; exact p3.elim
      | some r =>
        rw [e] at p3
        obtain ⟨j, rfl⟩ := sl11_int e
        cases rw'
        refine ⟨j, rfl, as3, fz3, _, r, ((rv.step (s2.trans s3)).repR.deref m3.c), slD_11 e, fun v H' rr => ?_⟩
        obtain ⟨fz4, g, rd⟩ := rr.grow
        exact p3 as3 fz4 H' g.simB.step (m3.grow g) v rd
    · exact p2.elim
  exact ⟨z, pt_val z⟩
end
end MP
end
section
set_option Elab.async false
set_option linter.all false
set_option maxRecDepth 100000
set_option maxHeartbeats 2000000
/-! MP: calls, names, tests -/
namespace MP
open PySem PySem.Spec PyProof.Rows L2
section
variable {T : Tab} {G : Gd} {cf : CF} {n : Nat} {se : SE} {X : Cx} {W : WX} {σ : L2.St} {H : Hp} {Q : VK} {p : Prim} {ps : PL}
theorem bt_len : bootBuiltins "len" = some (.builtin "len") := by decide +kernel
theorem bt_abs : bootBuiltins "abs" = some (.builtin "abs") := by decide +kernel
theorem bt_int : bootBuiltins "int" = some (.type "int") := by decide +kernel
theorem bt_str : bootBuiltins "str" = some (.type "str") := by decide +kernel
theorem bt_repr : bootBuiltins "repr" = some (.builtin "repr") := by decide +kernel
theorem bt_sum : bootBuiltins "sum" = some (.builtin "sum") := by decide +kernel
theorem bt_all : bootBuiltins "all" = some (.builtin "all") := by decide +kernel
theorem bt_any : bootBuiltins "any" = some (.builtin "any") := by decide +kernel
theorem bt_max : bootBuiltins "max" = some (.builtin "max") := by decide +kernel
theorem bt_min : bootBuiltins "min" = some (.builtin "min") := by decide +kernel
theorem bt_tuple : bootBuiltins "tuple" = some (.type "tuple") := by decide +kernel
theorem bt_list : bootBuiltins "list" = some (.type "list") := by decide +kernel
theorem bt_sorted : bootBuiltins "sorted" = some (.builtin "sorted") := by decide +kernel
theorem bt_isinst : bootBuiltins "isinstance" = some (.builtin "isinstance") := by decide +kernel
theorem both_blt (c : Cok T G cf n se X) {f : Str} {a : Expr} {r : List Expr} {p1 pos : Pos} (h : bltOf p = some f) (g : gloN se f = true) (m : f ∈ T.blts) (q : PEs X G W cf (a :: r) ps) : Both X (.Call (.Name f p1) (a :: r) [] pos) (tI G W (evP cf p ps)) := by
  suffices z : L2.PE X (.Call (.Name f p1) (a :: r) [] pos) (tI G W (evP cf p ps)) from ⟨z, pt_val z⟩
  have sa : starEach (a :: r) X.env = (false, eval a X.env) :: starEach r X.env := by
    cases q with
    | cons n1 h1 q => exact star_cons n1
  have sb : (backTo pos (starEach r X.env)).any (·.1) = false := by
    cases q with
    | cons n1 h1 q => exact noStar_any q.noStar
  have hm := c.blts _ m
  have hg := c.glo g
  cases p <;> simp only [bltOf, Option.some.injEq, reduceCtorEq] at h
  all_goals subst h
  · exact PEimp (pe_callB (c_len c.K) hg hm bt_len q.pa (he := sa) (hpl := sb)) fun σ H Q hh => prim_post hh
  · exact PEimp (pe_callB c_abs hg hm bt_abs q.pa (he := sa) (hpl := sb)) fun σ H Q hh => prim_post hh
  · exact PEimp (pe_callTy c_int hg hm bt_int q.pa (he := sa) (hpl := sb)) fun σ H Q hh => prim_post hh
  · exact PEimp (pe_callTy c_str hg hm bt_str q.pa (he := sa) (hpl := sb)) fun σ H Q hh => prim_post hh
  · exact PEimp (pe_callB (c_repr c.K c.gd c.u65) hg hm bt_repr q.pa (he := sa) (hpl := sb)) fun σ H Q hh => prim_post hh
  · exact PEimp (pe_callB (c_sum c.calm) hg hm bt_sum q.pa (he := sa) (hpl := sb)) fun σ H Q hh => prim_post hh
  · exact PEimp (pe_callB (c_all c.calm) hg hm bt_all q.pa (he := sa) (hpl := sb)) fun σ H Q hh => prim_post hh
  · exact PEimp (pe_callB (c_any c.calm) hg hm bt_any q.pa (he := sa) (hpl := sb)) fun σ H Q hh => prim_post hh
  · exact PEimp (pe_callB (c_max c.calm) hg hm bt_max q.pa (he := sa) (hpl := sb)) fun σ H Q hh => prim_post hh
  · exact PEimp (pe_callB (c_min c.K c.calm c.u70) hg hm bt_min q.pa (he := sa) (hpl := sb)) fun σ H Q hh => prim_post hh
  · exact PEimp (pe_callTy (c_tuple c.K) hg hm bt_tuple q.pa (he := sa) (hpl := sb)) fun σ H Q hh => prim_post hh
  · exact PEimp (pe_callTy (c_list c.K) hg hm bt_list q.pa (he := sa) (hpl := sb)) fun σ H Q hh => prim_post hh
  · exact PEimp (pe_callB (c_sorted c.K c.u70) hg hm bt_sorted q.pa (he := sa) (hpl := sb)) fun σ H Q hh => prim_post hh
theorem both_gcd (c : Cok T G cf n se X) {f : Str} {a b : Expr} {p1 pos : Pos} (m : f ∈ T.mods) (g : gloN se f = true) (hd : (f == ("__debug__" : Str)) = false) (q : PEs X G W cf [a, b] ps) : Both X (.Call (.Name f p1) [a, b] [] pos) (tI G W (evP cf .gcd ps)) := by
  suffices z : L2.PE X (.Call (.Name f p1) [a, b] [] pos) (tI G W (evP cf .gcd ps)) from ⟨z, pt_val z⟩
  have sa : starEach [a, b] X.env = (false, eval a X.env) :: starEach [b] X.env := by
    cases q with
    | cons n1 h1 q => exact star_cons n1
  have sb : (backTo pos (starEach [b] X.env)).any (·.1) = false := by
    cases q with
    | cons n1 h1 q => exact noStar_any q.noStar
  exact PEimp (pe_callBfun (c_gcd (G := G)) (c.glo g) (c.mods _ m) q.pa (hdb := hd) (he := sa) (hpl := sb)) fun σ H Q hh => prim_post hh
theorem both_isTup (c : Cok T G cf n se X) {a t : Expr} {p1 pos : Pos} (g : gloN se "isinstance" = true) (m : ("isinstance" : Str) ∈ T.blts) (ht : isTupleName T se t = true) (q : PEs X G W cf [a] ps) :
    Both X (.Call (.Name "isinstance" p1) [a, t] [] pos) (tI G W (evP cf .isTup ps)) := by
  suffices z : L2.PE X (.Call (.Name "isinstance" p1) [a, t] [] pos) (tI G W (evP cf .isTup ps)) from ⟨z, pt_val z⟩
  unfold isTupleName at ht
  split at ht
  · rename_i y py
    simp only [Bool.and_eq_true, decide_eq_true_eq] at ht
    obtain ⟨⟨rfl, g2⟩, m2⟩ := ht
    cases q with
    | @cons _ pa _ _ n1 h1 q =>
      cases q
      have h2 : L2.PE X (.Name "tuple" py) (tC (.ty "tuple")) := pe_bltn (c.glo g2) (c.blts _ m2) bt_tuple rfl
      refine PEimp (pe_callB (c_isTup (G := G) c.K) (c.glo g) (c.blts _ m) bt_isinst (pa_cons h1 (pa_cons h2 pa_nil) (star_cons n1)) (he := star_cons n1)) fun σ H Q hh => ?_
      refine tO_mono (t_P1 hh) fun x H1 hx => ?_
      obtain ⟨as, fz, d, r, rd, e, q⟩ := hx
      exact ⟨as, fz, d, r, x, rfl, rd, e, fun v rv => q v H1 (.here rv)⟩
  · cases ht
/-! ### methods -/
theorem len_of (I : Inv X pins σ H s) {a : Addr} {vs : List V} (h : H a = some (.lst vs)) : vs.length ≤ 16777216 := by
  have z : vs.length ≤ sizeLine ∧ _ := I.hok a _ h
  rw [← sl_line]
  exact z.1
theorem few_ok {y : Expr} {env : Env} {pos : Pos} (n : starred y = false) : ((backTo pos (starEach [y] env)).all (fun x => !x.1) && (backToKw pos (keywordEach [] env)).all (fun x => x.1.isSome)
      && decide (([y] : List Expr).length + ([] : List Keyword).length + (if ([] : List Keyword).isEmpty then 0 else 1) < 30)) = true := by
  rw [star_cons n]
  rfl
theorem evalE_meth (cf : CF) (p : Prim) (a b : PE) (s : S) : evalE cf (.meth p a b) s = (ev1 cf a s).bind (methRest p (evalE cf b)) := by
  cases a <;> simp only [evalE, ev1]
theorem meth_post {pa pb : PE} (h : tI G W (evalE cf (.meth p pa pb)) σ H Q) : tO G W (ev1 cf pa) σ H fun x H1 => ∃ as fz d, RepO G as fz H1 x d ∧ recvOk p d = true ∧ (tI G W (evalE cf pb)) σ H1 fun y H2 => ∃ as fz e r, RepR G as fz H2 x d ∧ RepR G as fz H2 y e ∧ prim p [d, e] = some r ∧ ∀ v H', ResR G as fz H2 v r H' → Q v H' := by
  obtain ⟨B, as, fz, st, sim, q⟩ := h
  rw [evalE_meth] at q
  refine ⟨B, as, fz, st, sim, q.bind.mono fun d st1 as1 fz1 H1 s1 m1 p1 v rv => ?_⟩
  unfold methRest at p1
  split at p1
  · rename_i hr
    refine ⟨as1, fz1, d, rv, hr, B, as1, fz1, st1, m1, p1.bind.mono fun e st2 as2 fz2 H2 s2 m2 p2 y ry => ?_⟩
    cases eq : prim p [d, deref st2.sto e] with
    | none => rw [eq] at p2; exact p2.elim
    | some r =>
      rw [eq] at p2
      refine ⟨as2, fz2, _, r, (rv.step s2).repR, (RepR.dat ry).deref m2.c, eq, fun v H' rr => ?_⟩
      obtain ⟨fz4, g, rd⟩ := rr.grow
      exact p2 as2 fz4 H' g.simB.step (m2.grow g) v rd
  · exact p1.elim
theorem join_lst {a e r : D} (h : prim .join [a, e] = some r) : ∃ x ds, a = .str x ∧ e = .lst ds := by
  simp only [prim] at h
  unfold p_join at h
  split at h
  · rename_i z; cases z; exact ⟨_, _, rfl, rfl⟩
  · cases h
theorem both_index (c : Cok T G cf n se X) {o y : Expr} {pa pb : PE} {apos cpos : Pos} (hb : plainBase o = true) (hl : (apos.endLine == cpos.line) = true) (n2 : starred y = false) (h1 : L2.PE X o (tO G W (ev1 cf pa))) (h2 : L2.PE X y (tI G W (evalE cf pb))) :
    Both X (.Call (.Attribute o "index" apos) [y] [] cpos) (tI G W (evalE cf (.meth .index pa pb))) := by
  suffices z : L2.PE X (.Call (.Attribute o "index" apos) [y] [] cpos) (tI G W (evalE cf (.meth .index pa pb))) from ⟨z, pt_val z⟩
  have pav : L2.PA X [y] (tCons (tI G W (evalE cf pb)) tNil) := pa_cons h2 pa_nil (star_cons n2)
  refine ⟨fun pins s σ H Q I h => ?_⟩
  refine wpAny_Call_method_late (plainBase_ok hb) (few_ok n2) hl rfl (thn (h1.run pins s σ H _ I (meth_post h)) fun v s1 ⟨x, H1, I1, r1, as, fz, d, rd, hr, q1⟩ => ?_)
  cases d with
  | lst ds =>
    obtain ⟨a, vs, rfl, ha, _⟩ := rd.repR.lsts
    obtain ⟨h1, h2⟩ := tyV_is (T := "list") I1 r1 (.inl ⟨rfl, vs, SqL.of ha⟩)
    refine ⟨"list", "list.index", F.plainAttrs_list, F.slot_list_index, F.type_list_index, h1, h2, ?_⟩
    have hA := pav.run cpos pins s1 σ H1 (fun xs H2 => ∃ y, xs = [y] ∧ ∃ as fz e r, RepR G as fz H2 (V.ref a) (D.lst ds) ∧ RepR G as fz H2 y e ∧ prim Prim.index [D.lst ds, e] = some r ∧ ∀ (v : V) (H' : Hp), ResR G as fz H2 v r H' → Q v H') I1 (tI_mono q1 fun y H2 hy => ⟨y, rfl, hy⟩)
    rw [star_cons n2] at hA ⊢
    refine Calls.callWith_builtin rfl (Calls.evalArgs_plain ?_)
    refine thn hA fun us s2 ⟨ys, H2, I2, r2, y, ey, as, fz, e, r, b1, b2, hp, q⟩ => ?_
    subst ey
    obtain ⟨a', vs', e1, ha', _⟩ := b1.lsts
    cases e1
    refine m_index_list (G := G) c.K c.u70 pins s2 σ H2 _ [y] _ us Q I2 r1 r2 ⟨as, fz, ds, e, r, b1, .cons b2 .nil, hp, ?_, fun v rv => q v H2 (.here rv)⟩
    have := len_of I2 ha'
    obtain ⟨_, _, e2, _, rl⟩ := b1.lsts
    rename_i e3
    cases e2
    rw [ha'] at e3
    cases e3
    rw [← rl.length]
    exact this
  | _ => cases hr
theorem both_join (c : Cok T G cf n se X) {o y : Expr} {pa pb : PE} {apos cpos : Pos} (hb : plainBase o = true) (hl : (apos.endLine == cpos.line) = true) (n2 : starred y = false) (h1 : L2.PE X o (tO G W (ev1 cf pa))) (h2 : L2.PE X y (tI G W (evalE cf pb))) :
    Both X (.Call (.Attribute o "join" apos) [y] [] cpos) (tI G W (evalE cf (.meth .join pa pb))) := by
  suffices z : L2.PE X (.Call (.Attribute o "join" apos) [y] [] cpos) (tI G W (evalE cf (.meth .join pa pb))) from ⟨z, pt_val z⟩
  have pav : L2.PA X [y] (tCons (tI G W (evalE cf pb)) tNil) := pa_cons h2 pa_nil (star_cons n2)
  refine ⟨fun pins s σ H Q I h => ?_⟩
  refine wpAny_Call_method_late (plainBase_ok hb) (few_ok n2) hl rfl (thn (h1.run pins s σ H _ I (meth_post h)) fun v s1 ⟨x, H1, I1, r1, as, fz, d, rd, hr, q1⟩ => ?_)
  cases d with
  | str a =>
    obtain rfl := rd.repR.str
    obtain ⟨h1, h2⟩ := tyV_is (T := "str") I1 r1 rfl
    refine ⟨"str", "str.join", F.plainAttrs_str, F.slot_str_join, F.type_str_join, h1, h2, ?_⟩
    have hA := pav.run cpos pins s1 σ H1 (fun xs H2 => ∃ y, xs = [y] ∧ ∃ as fz e r, RepR G as fz H2 (V.str a) (D.str a) ∧ RepR G as fz H2 y e ∧ prim Prim.join [D.str a, e] = some r ∧ ∀ (v : V) (H' : Hp), ResR G as fz H2 v r H' → Q v H') I1 (tI_mono q1 fun y H2 hy => ⟨y, rfl, hy⟩)
    rw [star_cons n2] at hA ⊢
    refine Calls.callWith_builtin rfl (Calls.evalArgs_plain ?_)
    refine thn hA fun us s2 ⟨ys, H2, I2, r2, y, ey, as, fz, e, r, b1, b2, hp, q⟩ => ?_
    subst ey
    obtain ⟨_, ds, _, rfl⟩ := join_lst hp
    exact m_join (G := G) c.K pins s2 σ H2 _ [y] _ us Q I2 r1 r2 ⟨as, fz, a, ds, r, b1, .cons b2 .nil, hp, fun v rv => q v H2 (.here rv)⟩
  | _ => cases hr
/-! ### calls of the table's defs -/
theorem call_post {f : Nat} (h : tI G W (evalE cf (.call f ps)) σ H Q) : tL G W (evalL cf ps) σ H fun vs H1 => spI G cf f vs H1 Q (WE W σ) := by
  obtain ⟨B, as, fz, st, sim, q⟩ := h
  simp only [evalE] at q
  refine ⟨B, as, fz, st, sim, q.bind.mono fun ds st1 as1 fz1 H1 s1 m1 p1 vs rvs => ⟨ds, as1, fz1, st1.sto, rvs, m1.c, ?_⟩⟩
  unfold callO at p1
  cases e : cf f ds st1.sto with
  | ok d t' =>
    rw [e] at p1
    exact fun as' fz' H' v sb sc rd => p1 as' fz' H' sb.step (m1.call sb sc) v rd
  | exc k t' =>
    rw [e] at p1
    exact fun as' fz' H' sb sc => p1 as' fz' H' (m1.b.trans sb fun _ h => m1.c.live h) sc
  | bad =>
    rw [e] at p1
    exact p1
theorem callW_run (c : Cok T G cf n se X) (tk : L2N.Takes X W) {f : Nat} {x : Str} (hf : T.fns[f]? = some x) {es : List Expr} {pins : List (Addr × Obj)} {s : Shared} {pos : Pos} (I : Inv X pins σ H s) (q : PVs X G W cf es ps)
    (h : tL G W (evalL cf ps) σ H fun vs H1 => spI G cf f vs H1 Q (WE W σ)) : wpAny (model X.prog X.w) X.A (callWith pos (.ref (G.fa f)) [] (backTo pos (starEach es X.env)) []) (EP X pins σ Q) X.xe s := by
  obtain ⟨fd, pp, hm, hk, hb, F⟩ := c.fns f x hf
  have hx : PassesAt (L2N.CX X.prog X.w) X σ (WE W σ) := L2N.passAt tk σ
  cases q with
  | nil => exact PySem.W.callWith_K0 I.kIn hk (runG (E := WE W) (us := []) F c.gd c.room hb hx I .nil (ls_nil h))
  | cons n1 h1 r =>
    have pa := (PVs.cons n1 h1 r).pa
    exact PySem.W.callWith_K (h₀ := X.base) I.ok.mod.kin hk (thn (pa.run pos pins s σ H _ I h) fun us s1 ⟨vs, H1, I1, r1, q1⟩ => ⟨I1.kIn, runG (E := WE W) F c.gd c.room hb hx I1 r1 q1⟩) (star_cons n1) (noStar_any r.noStar)
theorem both_call (c : Cok T G cf n se X) (tk : L2N.Takes X W) {f : Nat} {x : Str} (hf : T.fns[f]? = some x) (hg : gloN se x = true) (hn : okName x = true) {es : List Expr} {p1 pos : Pos} (q : PVs X G W cf es ps) : Both X (.Call (.Name x p1) es [] pos) (tI G W (evalE cf (.call f ps))) := by
  suffices z : L2.PE X (.Call (.Name x p1) es [] pos) (tI G W (evalE cf (.call f ps))) from ⟨z, pt_val z⟩
  refine ⟨fun pins s σ H Q I h => ?_⟩
  obtain ⟨fd, pp, hm, _⟩ := c.fns f x hf
  refine wpAny_Call_Name_kw (ld_glob I (c.glo hg) hm ?_ (okName_d hn).1)
  exact callW_run c tk hf I q (call_post h)
/-- a def that an expression yields -/
def plainFn : Expr → Bool
  | .Attribute _ _ _ => false
  | _ => true
theorem callV_post {e : PE} (h : tI G W (evalE cf (.callv e ps)) σ H Q) : tI G W (evalE cf e) σ H fun x H1 => ∃ f, x = .ref (G.fa f) ∧ tL G W (evalL cf ps) σ H1 fun vs H2 => spI G cf f vs H2 Q (WE W σ) := by
  obtain ⟨B, as, fz, st, sim, q⟩ := h
  simp only [evalE] at q
  refine ⟨B, as, fz, st, sim, q.bind.mono fun d st1 as1 fz1 H1 s1 m1 p1 v rv => ?_⟩
  split at p1
  · rename_i f
    cases rv
    refine ⟨f, rfl, call_post (f := f) ⟨B, as1, fz1, st1, m1, ?_⟩⟩
    simp only [evalE]
    exact p1
  · exact p1.elim
theorem call_expr {fe : Expr} {args : List Expr} {pos : Pos} {env : Env} (h : plainFn fe = true) : eval (.Call fe args [] pos) env = (do callWith pos (← eval fe env) [] (backTo pos (starEach args env)) (backToKw pos (keywordEach [] env))) := by
  cases fe <;> first | rfl | exact absurd h (by simp [plainFn])
theorem both_callv (c : Cok T G cf n se X) (tk : L2N.Takes X W) (big : ∀ f ds t, T.fns.length ≤ f → cf f ds t = .bad) {fe : Expr} {pf : PE} (hp : plainFn fe = true) (h1 : L2.PE X fe (tI G W (evalE cf pf))) {es : List Expr} {pos : Pos} (q : PVs X G W cf es ps) :
    Both X (.Call fe es [] pos) (tI G W (evalE cf (.callv pf ps))) := by
  suffices z : L2.PE X (.Call fe es [] pos) (tI G W (evalE cf (.callv pf ps))) from ⟨z, pt_val z⟩
  refine ⟨fun pins s σ H Q I h => ?_⟩
  rw [call_expr hp]
  refine wpAny_bind (thn (h1.run pins s σ H _ I (callV_post h)) fun u s1 ⟨x, H1, I1, rx, f, ex, q1⟩ => ?_)
  subst ex
  cases rx
  by_cases hf : f < T.fns.length
  · exact callW_run c tk (List.getElem?_eq_getElem hf) I1 q q1
  · have no : ∀ vs H2, ¬ spI G cf f vs H2 Q (WE W σ) := fun vs H2 ⟨ds, as, fz, t, _, _, m⟩ => by
      rw [big f ds t (by omega)] at m
      exact m
    cases q with
    | nil => exact (no _ _ (ls_nil q1)).elim
    | cons n1 h1 r =>
      have pa := (PVs.cons n1 h1 r).pa
      exact PySem.W.callWith_K (h₀ := X.base) I1.ok.mod.kin (c.fnk f) (thn (pa.run pos pins s1 σ H1 _ I1 q1) fun us s1 ⟨vs, H1, I1, r1, q1⟩ => (no _ _ q1).elim) (star_cons n1) (noStar_any r.noStar)
/-! ### names, constants -/
def varOk (se : SE) (i : Nat) : Expr → Bool
  | .Name x _ => decide (se.N[i]? = some x) && visN se x && okName x
  | _ => false
theorem var_post {i : Nat} (h : tI G W (evalE cf (.var i)) σ H Q) : tVar i σ H Q := by
  obtain ⟨B, as, fz, st, sim, q⟩ := h
  simp only [evalE, rdVar] at q
  split at q
  · rename_i d e
    obtain ⟨v, e1, r⟩ := sim.l.val i d e
    exact ⟨v, e1, q as fz H .refl sim v r⟩
  · rename_i ds e
    obtain ⟨a, fz', e1, stp, r, m⟩ := sim.freeze e
    exact ⟨.ref a, e1, q as fz' H stp m _ r⟩
  · exact q.elim
theorem peek_post {i : Nat} (h : tO G W (rdPeek i) σ H Q) : tVar i σ H Q := by
  obtain ⟨B, as, fz, st, sim, q⟩ := h
  simp only [rdPeek] at q
  split at q
  · rename_i d e
    obtain ⟨v, e1, r⟩ := sim.l.val i d e
    exact ⟨v, e1, q as fz H .refl sim v (.dat r)⟩
  · rename_i ds e
    obtain ⟨a, vs, e1, e2, r, n, na, _⟩ := sim.l.own i ds e
    exact ⟨.ref a, e1, q as fz H .refl sim _ (.lst na e2 r)⟩
  · exact q.elim
theorem pe_varOk (c : Cok T G cf n se X) {i : Nat} {e : Expr} (h : varOk se i e = true) : L2.PE X e (tVar i) ∧ L2.PT X e (tB (tVar i)) := by
  unfold varOk at h
  split at h
  · rename_i x pos
    simp only [Bool.and_eq_true, decide_eq_true_eq] at h
    have z : L2.PE X (.Name x pos) (tVar i) := pe_var (by rw [c.N]; exact h.1.1) (c.vis h.1.2) (okName_d h.2).1 (okName_d h.2).2.1
    exact ⟨z, pt_val z⟩
  · cases h
theorem both_var (c : Cok T G cf n se X) {i : Nat} {e : Expr} (h : varOk se i e = true) : Both X e (tI G W (evalE cf (.var i))) :=
  ⟨PEimp (pe_varOk c h).1 fun σ H Q q => var_post q, PTimp (pe_varOk c h).2 fun σ H Q q => var_post q⟩
theorem pe_peek (c : Cok T G cf n se X) {i : Nat} {e : Expr} (h : varOk se i e = true) : L2.PE X e (tO G W (ev1 cf (.peek i))) := PEimp (pe_varOk c h).1 fun σ H Q q => peek_post q
theorem con_post {m : S → Out D} {d : D} {v : V} (hm : ∀ s, m s = .ok d s) (r : ∀ as fz H, RepD G as fz H v d) (h : tI G W m σ H Q) : tC v σ H Q := by
  obtain ⟨B, as, fz, st, sim, q⟩ := h
  rw [hm] at q
  exact q as fz H .refl sim v (r _ _ _)
def conOk (d : D) : Expr → Bool
  | .Constant k _ _ => match d, k with
    | .int i, .int j => decide (i = j)
    | .bl i, .bool j => decide (i = j)
    | .str i, .str j => decide (i = j)
    | .non, .none => true
    | _, _ => false
  | _ => false
theorem both_con {d : D} {e : Expr} (h : conOk d e = true) : Both X e (tI G W (evalE cf (.con d))) := by
  have go : ∀ {v : V} {k : Const} {j : Nat} {pos : Pos}, L2.PE X (.Constant k j pos) (tC v) → (∀ as fz H, RepD G as fz H v d) → Both X (.Constant k j pos) (tI G W (evalE cf (.con d))) := fun z r => by
    have z' := PEimp z fun σ H Q q => con_post (G := G) (W := W) (m := evalE cf (.con d)) (fun s => by simp only [evalE]) r q
    exact ⟨z', pt_val z'⟩
  unfold conOk at h
  split at h
  · split at h
    · rw [decide_eq_true_eq] at h; subst h; exact go pe_int fun _ _ _ => .int _
    · rw [decide_eq_true_eq] at h; subst h; exact go pe_bl fun _ _ _ => .bl _
    · rw [decide_eq_true_eq] at h; subst h; exact go pe_str fun _ _ _ => .str _
    · exact go pe_non fun _ _ _ => .non
    · cases h
  · cases h
def fnvOk (T : Tab) (se : SE) (f : Nat) : Expr → Bool
  | .Name x _ => decide (T.fns[f]? = some x) && gloN se x && okName x
  | _ => false
theorem both_fnv (c : Cok T G cf n se X) {f : Nat} {e : Expr} (h : fnvOk T se f e = true) : Both X e (tI G W (evalE cf (.fnv f))) := by
  unfold fnvOk at h
  split at h
  · rename_i x pos
    simp only [Bool.and_eq_true, decide_eq_true_eq] at h
    obtain ⟨fd, pp, hm, _⟩ := c.fns f _ h.1.1
    have z := PEimp (pe_glob (pos := pos) (c.glo h.1.2) hm (v := .ref (G.fa f)) rfl (okName_d h.2).1) fun σ H Q q => con_post (G := G) (W := W) (m := evalE cf (.fnv f)) (fun s => by simp only [evalE]) (fun _ _ _ => .fn f) q
    exact ⟨z, pt_val z⟩
  · cases h
mutual
def D.same : D → D → Bool
  | .non, .non => true
  | .bl a, .bl b => decide (a = b)
  | .int a, .int b => decide (a = b)
  | .str a, .str b => decide (a = b)
  | .tup a, .tup b => sameL a b
  | .lst a, .lst b => sameL a b
  | _, _ => false
def sameL : List D → List D → Bool
  | [], [] => true
  | a :: r, b :: q => D.same a b && sameL r q
  | _, _ => false
end
mutual
theorem D.same_eq : ∀ (a b : D), D.same a b = true → a = b
  | .non, .non, _ => rfl
  | .bl a, .bl b, h => by simp only [D.same, decide_eq_true_eq] at h; rw [h]
  | .int a, .int b, h => by simp only [D.same, decide_eq_true_eq] at h; rw [h]
  | .str a, .str b, h => by simp only [D.same, decide_eq_true_eq] at h; rw [h]
  | .tup a, .tup b, h => by simp only [D.same] at h; rw [sameL_eq a b h]
  | .lst a, .lst b, h => by simp only [D.same] at h; rw [sameL_eq a b h]
  | .non, .bl _, h | .non, .int _, h | .non, .str _, h | .non, .tup _, h | .non, .lst _, h | .non, .fn _, h | .non, .ref _, h | .non, .scr _, h => by simp [D.same] at h
  | .bl _, .non, h | .bl _, .int _, h | .bl _, .str _, h | .bl _, .tup _, h | .bl _, .lst _, h | .bl _, .fn _, h | .bl _, .ref _, h | .bl _, .scr _, h => by simp [D.same] at h
  | .int _, .non, h | .int _, .bl _, h | .int _, .str _, h | .int _, .tup _, h | .int _, .lst _, h | .int _, .fn _, h | .int _, .ref _, h | .int _, .scr _, h => by simp [D.same] at h
  | .str _, .non, h | .str _, .bl _, h | .str _, .int _, h | .str _, .tup _, h | .str _, .lst _, h | .str _, .fn _, h | .str _, .ref _, h | .str _, .scr _, h => by simp [D.same] at h
  | .tup _, .non, h | .tup _, .bl _, h | .tup _, .int _, h | .tup _, .str _, h | .tup _, .lst _, h | .tup _, .fn _, h | .tup _, .ref _, h | .tup _, .scr _, h => by simp [D.same] at h
  | .lst _, .non, h | .lst _, .bl _, h | .lst _, .int _, h | .lst _, .str _, h | .lst _, .tup _, h | .lst _, .fn _, h | .lst _, .ref _, h | .lst _, .scr _, h => by simp [D.same] at h
  | .fn _, _, h => by simp [D.same] at h
  | .ref _, _, h => by simp [D.same] at h
  | .scr _, _, h => by simp [D.same] at h
theorem sameL_eq : ∀ (a b : List D), sameL a b = true → a = b
  | [], [], _ => rfl
  | a :: r, b :: q, h => by
    simp only [sameL, Bool.and_eq_true] at h
    rw [D.same_eq a b h.1, sameL_eq r q h.2]
  | [], _ :: _, h => by simp [sameL] at h
  | _ :: _, [], h => by simp [sameL] at h
end
def globOk (T : Tab) (se : SE) (y : Str) (d : D) : Expr → Bool
  | .Name x _ => decide (y = x) && gloN se x && okName x && T.globs.any fun q => decide (q.1 = x) && D.same q.2 d
  | _ => false
theorem both_glob (c : Cok T G cf n se X) {y : Str} {d : D} {e : Expr} (h : globOk T se y d e = true) : Both X e (tI G W (evalE cf (.glob y d))) := by
  unfold globOk at h
  split at h
  · rename_i x pos
    simp only [Bool.and_eq_true, decide_eq_true_eq, List.any_eq_true] at h
    obtain ⟨⟨⟨e0, g⟩, o⟩, ⟨x', d'⟩, hq, e1, e2⟩ := h
    have e1 : x' = x := e1
    subst e1
    have e2 : d' = d := D.same_eq _ _ e2
    subst e2
    obtain ⟨u, v, hm, rv, rd⟩ := c.globs _ _ hq
    have z := PEimp (pe_glob (pos := pos) (c.glo g) hm rv (okName_d o).1) fun σ H Q q => con_post (G := G) (W := W) (m := evalE cf (.glob y d')) (fun s => by simp only [evalE]) rd q
    exact ⟨z, pt_val z⟩
  · cases h
end
end MP
end
section
set_option Elab.async false
set_option linter.all false
set_option maxRecDepth 100000
set_option maxHeartbeats 4000000
/-! MP: sets of texts -/
namespace MPSetT
open PySem PySem.Spec PyProof.Rows L2 MP
def keyS (e : Int × Value) : Str := match e.2 with | .str k _ => k | _ => Str.empty
def GoodS (w : World) (e : Int × Value) : Prop := ∃ k tk, e.2 = Value.str k tk ∧ e.1 = hashStr w k
/-- the set of texts at a: l its members; its table rises and can be walked -/
def SetS (w : World) (h : Heap) (a : Addr) (l : List Str) : Prop :=
  ∃ o es ep t, h.get? a = some o ∧ o.ExactSet ∧ o.data = .set es ep t ∧ (∀ e ∈ es.toList, GoodS w e) ∧ (es.toList.map keyS).Nodup ∧ (∀ k, k ∈ l ↔ k ∈ es.toList.map keyS) ∧
    es.size < scanBound ∧ t.fits es.size = true ∧ es.size ≤ l.length ∧ Ris t.place.toList ∧ (w.params.followText "set-order" = true ∨ t.led = true)
section
variable {P : Program} {w : World} {A : Around} {E : Value → Shared → Prop} {s : Shared} {a : Addr}
theorem SetS.at {h h' : Heap} {l : List Str} (R : SetS w h a l) (k : ∀ o, h.get? a = some o → h'.get? a = some o) : SetS w h' a l := by
  obtain ⟨o, es, ep, t, ho, r⟩ := R
  exact ⟨o, es, ep, t, k o ho, r⟩
theorem isS (k : Str) (u : Tok) : (strKind P w).is k (.str k u) = true := by
  show Value.isStrOf k (.str k u) = true
  simp [Value.isStrOf]
theorem goodS_elems {l : List (Int × Value)} (g : ∀ e ∈ l, GoodS w e) : ElemsOf (strKind P w) l := fun e he => by
  obtain ⟨k, tk, h1, h2⟩ := g e he
  refine ⟨⟨k, ?_, h2⟩, ?_⟩
  · rw [h1]; exact isS k tk
  · rw [h1]; rfl
theorem goodS_mem {l : List (Int × Value)} (g : ∀ e ∈ l, GoodS w e) (k : Str) : k ∈ l.map keyS ↔ ∃ e ∈ l, (strKind P w).is k e.2 = true := by
  rw [List.mem_map]
  constructor
  · rintro ⟨e, he, rfl⟩
    obtain ⟨k', tk, h1, h2⟩ := g e he
    refine ⟨e, he, ?_⟩
    unfold keyS
    rw [h1]
    exact isS k' tk
  · rintro ⟨e, he, q⟩
    obtain ⟨k', tk, h1, h2⟩ := g e he
    refine ⟨e, he, ?_⟩
    rw [h1] at q
    have q : Value.isStrOf k (.str k' tk) = true := q
    obtain ⟨u, hu⟩ := Value.isStrOf_shape q
    injection hu with hx
    unfold keyS
    rw [h1]
    exact hx
theorem setS_tail {g : Bool → Sem Unit} (hg : ∀ (b : Bool) (s₁ : Shared) (Q' : Unit → Shared → Prop), Q' () s₁ → wpAny (model P w) A (g b) Q' E s₁)
    {o : Obj} {es : Array (Int × Value)} {ep : Nat} {t : SetTable} (ho : s.heap.get? a = some o) (hex : o.ExactSet) (hd : o.data = .set es ep t)
    {es1 : Array (Int × Value)} {t2 : SetTable} {l : List Str} (g1 : ∀ e ∈ es1.toList, GoodS w e) (nd1 : (es1.toList.map keyS).Nodup) (m1 : ∀ k, k ∈ l ↔ k ∈ es1.toList.map keyS)
    (hb1 : es1.size < scanBound) (hf2 : t2.fits es1.size = true) (hz : es1.size ≤ l.length) (hr : Ris t2.place.toList) (hl : w.params.followText "set-order" = true ∨ t2.led = true) {wasDummy : Bool} {R : Option Bool → Shared → Prop}
    (hR : ∀ h', Heap.SameBut a s.heap h' → SetS w h' a l → R (some true) { s with heap := h' }) :
    wpAny (model P w) A (do
        storeSet a es1 t2
        if (!wasDummy && t2.tooFull) = true then do
            g (relayAll t2 es1 (SetTable.grown es1.size)).2.2
            storeSet a (relayAll t2 es1 (SetTable.grown es1.size)).1 (relayAll t2 es1 (SetTable.grown es1.size)).2.1
            pure (some true)
          else pure (some true)) R E s := by
  refine wpAny_bind (wpAny_storeSet_of ho hd ?_ (fits_of_scanBound hb1))
  have ho1 := store_at (es' := es1) (t' := t2) ho hd
  have sb1 := Heap.SameBut.update s.heap a (Obj.putSet es1 t2)
  split
  · have pm := relayAll_perm t2 es1 (SetTable.grown es1.size)
    have hf3 := relayAll_fits t2 es1 (SetTable.grown es1.size)
    have hr3 := relayAll_ris t2 es1 (SetTable.grown es1.size)
    have hl3 := relayAll_led t2 es1 (SetTable.grown es1.size)
    generalize relayAll t2 es1 (SetTable.grown es1.size) = Z at pm hf3 hr3 hl3 ⊢
    obtain ⟨es2, t3, gave⟩ := Z
    dsimp only at pm hf3 hr3 hl3 ⊢
    have hsz : es2.size = es1.size := by rw [← Array.length_toList, pm.length_eq, Array.length_toList]
    have hb2 : es2.size < scanBound := by rw [hsz]; exact hb1
    refine wpAny_bind (hg _ _ _ ?_)
    refine wpAny_bind (wpAny_storeSet_of ho1 rfl ?_ (fits_of_scanBound hb2))
    have ho2 := store_at (es' := es2) (t' := t3) ho1 rfl
    refine wpAny_pure (hR _ (sb1.trans (Heap.SameBut.update _ a _)) ?_)
    exact ⟨_, es2, _, t3, ho2, hex, rfl, fun e he => g1 e (pm.mem_iff.mp he), (pm.map keyS).nodup_iff.mpr nd1, fun k => (m1 k).trans (pm.map keyS).mem_iff.symm, hb2, hf3, by rw [hsz]; exact hz, hr3,
      hl.imp id fun z => by rw [hl3]; exact z⟩
  · exact wpAny_pure (hR _ sb1 ⟨_, es1, _, t2, ho1, hex, rfl, g1, nd1, m1, hb1, hf2, hz, hr, hl⟩)
theorem setS_add {l : List Str} {k : Str} {tk : Tok} {Q : Bool → Shared → Prop} (R : SetS w s.heap a l) (room : l.length + 1 < scanBound)
    (hQ : ∀ b h', Heap.SameBut a s.heap h' → SetS w h' a (l ++ [k]) → Q b { s with heap := h' }) :
    wpAny (model P w) A (setAddHashed a (.str k tk) ((strKind P w).hash k)) Q E s := by
  obtain ⟨o, es, ep, t, ho, hex, hd, g, nd, hm, hb, hf, hn, hr, hl⟩ := R
  have hkey : (strKind P w).is k (.str k tk) = true := isS k tk
  have hsc : (Value.str k tk).scannable = true := rfl
  have hel : ElemsOf (strKind P w) es.toList := goodS_elems g
  unfold setAddHashed setAddHashedIn
  refine wpAny_holding (wpAny_bind (wpAny_setState_of ho hd hf ?_))
  dsimp only
  rw [byScan_of hsc hb hel]
  simp only [↓reduceIte]
  unfold setAddByScan
  refine wpAny_bind ?_
  refine wpAny_bind (wpAny_rule ?_)
  refine wpAny_bind (wpAny_setScan_of hkey ho hd hf hel ?_)
  cases hfi : List.findIdx? (fun e => (strKind P w).is k e.2) es.toList with
  | some j =>
    dsimp only
    obtain ⟨hj, pj, _⟩ := List.findIdx?_eq_some_iff_getElem.mp hfi
    have hk : k ∈ l := (hm k).2 ((goodS_mem (P := P) (w := w) g k).2 ⟨es.toList[j], List.getElem_mem hj, pj⟩)
    refine wpAny_pure (wpAny_pure ?_)
    exact hQ _ s.heap (Heap.SameBut.refl a s.heap) ⟨o, es, ep, t, ho, hex, hd, g, nd, fun i => by
      rw [List.mem_append, List.mem_singleton, ← hm i]
      exact ⟨fun z => z.elim id (fun e => e ▸ hk), .inl⟩, hb, hf, by rw [List.length_append]; omega, hr, hl⟩
  | none =>
    dsimp only
    have hnk : k ∉ es.toList.map keyS := fun z => by
      obtain ⟨e, he, q⟩ := (goodS_mem (P := P) (w := w) g k).1 z
      have c := List.findIdx?_eq_none_iff.mp hfi e he
      rw [q] at c
      cases c
    have hgw : ∀ (b : Bool) {s₁ : Shared} {Q' : Unit → Shared → Prop}, Q' () s₁ → wpAny (model P w) A (match b with | true => rule "set.scan.the-table-gave-way" | false => pure ()) Q' E s₁ :=
      fun b s₁ Q' q => by cases b <;> first | exact wpAny_pure q | exact wpAny_rule q
    have pm := layNew_perm t es ((strKind P w).hash k) (.str k tk)
    have hf1 := layNew_fits t es ((strKind P w).hash k) (.str k tk)
    have hr1 := layNew_ris t es ((strKind P w).hash k) (.str k tk) hr
    have hl1 := layNew_led t es ((strKind P w).hash k) (.str k tk)
    generalize layNew t es ((strKind P w).hash k) (.str k tk) = Z at pm hf1 hr1 hl1 ⊢
    obtain ⟨es1, t1, wasDummy, gave⟩ := Z
    dsimp only at pm hf1 hr1 hl1 ⊢
    rw [Array.toList_push] at pm
    have pc : es1.toList.Perm (((strKind P w).hash k, Value.str k tk) :: es.toList) := pm.trans (List.perm_append_singleton _ _)
    have pk : (es1.toList.map keyS).Perm (k :: es.toList.map keyS) := pc.map keyS
    have g1 : ∀ e ∈ es1.toList, GoodS w e := fun e he => by
      rcases List.mem_cons.mp (pc.mem_iff.mp he) with z | z
      · rw [z]; exact ⟨k, tk, rfl, rfl⟩
      · exact g e z
    have nd1 : (es1.toList.map keyS).Nodup := pk.nodup_iff.mpr (List.nodup_cons.mpr ⟨hnk, nd⟩)
    have m1 : ∀ i, i ∈ l ++ [k] ↔ i ∈ es1.toList.map keyS := fun i => by
      rw [List.mem_append, List.mem_singleton, hm i, pk.mem_iff, List.mem_cons]
      exact Or.comm
    have hsz : es1.size = es.size + 1 := by rw [← Array.length_toList, pc.length_eq, List.length_cons, Array.length_toList]
    have hz1 : es1.size ≤ (l ++ [k]).length := by rw [hsz, List.length_append, List.length_singleton]; omega
    have hb1 : es1.size < scanBound := by rw [hsz]; omega
    have hled : w.params.followText "set-order" = true ∨ t1.led = true := hl.imp id fun z => by rw [hl1]; exact z
    refine wpAny_bind (hgw _ ?_)
    split
    · refine wpAny_bind ?_
      rw [hashByValue_scannable 8 hsc]
      refine wpAny_pure ?_
      refine setS_tail ?_ ho hex hd g1 nd1 m1 hb1 ?_ hz1 ?_ ?_ ?_
      · intro b s₁ Q' q; cases b <;> first | exact wpAny_pure q | exact wpAny_rule q
      · first | (split <;> first | exact hf1 | exact SetTable.fits_plain_off hf1) | exact hf1
      · first | (split <;> exact hr1) | exact hr1
      · first | (split <;> exact hled) | exact hled
      · intro h' sb r; dsimp only; exact wpAny_pure (hQ _ h' sb r)
    · refine wpAny_bind (wpAny_pure ?_)
      simp only [↓reduceIte]
      refine setS_tail ?_ ho hex hd g1 nd1 m1 hb1 hf1 hz1 hr1 hled ?_
      · intro b s₁ Q' q; cases b <;> first | exact wpAny_pure q | exact wpAny_rule q
      · intro h' sb r; dsimp only; exact wpAny_pure (hQ _ h' sb r)
end
end MPSetT
end
section
set_option Elab.async false
set_option linter.all false
set_option maxRecDepth 100000
set_option maxHeartbeats 4000000
/-! MP: set(t) of a tuple of texts -/
namespace MPSetT
open PySem PySem.Spec PyProof.Rows L2 MP
section
variable {P : Program} {w : World} {A : Around} {E : Value → Shared → Prop} {s : Shared} {a : Addr}
theorem code_set_led1 (x : Value) {Q₁ : Value → Shared → Prop}
    (h : Q₁ (.ref s.heap.objs.size) { s with heap := s.heap.push { cls := .type "set", dict := none, data := .set #[] 0 (.fresh 0 0 (!w.params.followText "set-order")) } }) :
    codeAny (model P w) A (.call (.builtin "set.__new__") ⟨[.type "set", x], []⟩) (wants Q₁ E) s := by
  refine codeAny_of_tree ?_
  show wpAny _ A.in1 (do checkBuiltinCall "set.__new__" ⟨[.type "set", x], []⟩; again (.builtin "set.__new__" ⟨[.type "set", x], []⟩)) _ _ s
  refine wpAny_bind (wpAny_of_eq (F.newCall_set_1 x) (wpAny_pure ⟨plainId_quiet F.plain_set_new _, codeAny_builtin F.entry_set_new ?_⟩))
  rw [Around.under_plainId F.plain_set_new _]
  unfold Builtin.«set.__new__» Builtin.Frozenset.newClass
  have hsub := sub_set_self
  obtain ⟨hp, g, d, tk, os⟩ := s
  dsimp only
  wp_walk
  refine wpAny_askSetting (wpAny_pure ?_)
  dsimp only
  simp only [newObj]
  refine wpAny_bind (wpAny_alloc (wpAny_pure ?_))
  exact wpAny_pure h
theorem setS_fresh {h h' : Heap} (w : World) (k : h'.get? h.objs.size = some { cls := .type "set", dict := none, data := .set #[] 0 (.fresh 0 0 (!w.params.followText "set-order")) }) : SetS w h' h.objs.size [] :=
  ⟨_, #[], 0, _, k, ⟨rfl, rfl, rfl⟩, rfl, (fun e he => by simp at he), (by simp), (fun k => by simp), (by decide), (by rfl), (by simp), List.Pairwise.nil, by
    show _ ∨ (!w.params.followText "set-order") = true
    cases w.params.followText "set-order"
    · exact .inr rfl
    · exact .inl rfl⟩
end
section
variable {P : Program} {w : World} {A : Around} {R : Result → Shared → Prop} {I : Addr} {fp wr : List Addr} {G : Array GenState → Array GenState → Prop} {n : Nat} {PP : Nat → Value → Prop} {St : Nat → Shared → Prop}
theorem loop_texts (W : WalksS P w A.in1 I fp wr G n PP St) (S : Addr) (hSf : S ∉ fp) (xs : List Str) (hn : n = xs.length) (hval : ∀ i v, PP i v → ∃ t, v = .str (xs.getD i Str.empty) t) (hb : n + 1 < scanBound) :
    ∀ (k i : Nat) (s : Shared), n - i = k → i ≤ n → St i s → SetS w s.heap S (xs.take i) →
      (∀ s', Moved (S :: wr) G s s' → SetS w s'.heap S xs → R (.ok (.ret .none)) s') →
      codeAny (model P w) A (.builtin "set.update.loop" ⟨[.ref S, .ref I], []⟩) R s := by
  have hSw : S ∉ wr := fun h => hSf (W.sub _ h)
  have hsub : ∀ b ∈ wr, b ∈ S :: wr := fun b hb => List.mem_cons_of_mem _ hb
  intro k
  induction k with
  | zero =>
    intro i s hk hi hst hS hR
    have hin : i = n := by omega
    subst hin
    refine codeAny_builtin F.entry_set_update_loop ?_
    rw [Around.under_plainId F.plain_set_update_loop _]
    show wpAny _ A.in1 (pyNext (.ref I) >>= _) _ _ s
    refine wpAny_bind (W.done s _ _ hst fun s' hm => ?_)
    show wpAny _ A.in1 (ret Value.none) _ _ s'
    rw [hn, List.take_length] at hS
    exact wpAny_pure (hR s' (hm.mono hsub) (hS.at fun o ho => hm.heap S _ hSw ho))
  | succ k ih =>
    intro i s hk hi hst hS hR
    have hlt : i < n := by omega
    refine codeAny_builtin F.entry_set_update_loop ?_
    rw [Around.under_plainId F.plain_set_update_loop _]
    show wpAny _ A.in1 (pyNext (.ref I) >>= _) _ _ s
    refine wpAny_bind (W.item i s _ _ hlt hst fun v s' hP hst' hm => ?_)
    obtain ⟨t, rfl⟩ := hval i v hP
    have hS' : SetS w s'.heap S (xs.take i) := hS.at fun o ho => hm.heap S _ hSw ho
    show wpAny _ A.in1 (holding [Value.str (xs.getD i Str.empty) t] (setAdd S (.str (xs.getD i Str.empty) t)) >>= _) _ _ s'
    refine wpAny_bind (wpAny_holding ?_)
    unfold setAdd
    refine wpAny_holding ?_
    refine wpAny_bind ((strKind P w).pyHash (k := xs.getD i Str.empty) (isS _ _) ?_)
    refine setS_add (P := P) (s := { s' with toks := s'.toks + 1 }) hS' (by rw [List.length_take]; omega) fun b h' hsb hS2 => ?_
    have e1 : xs.take i ++ [xs.getD i Str.empty] = xs.take (i + 1) := by
      have hi' : i < xs.length := by omega
      rw [List.take_succ, List.getD_eq_getElem?_getD, List.getElem?_eq_getElem hi']
      rfl
    rw [e1] at hS2
    refine wpAny_pure ⟨plainId_quiet F.plain_set_update_loop _, ih (i + 1) _ (by omega) hlt (W.frame _ s' _ _ hst' (Nat.le_succ _) fun b hb o e => ?_) hS2 fun s'' hm'' hS'' => ?_⟩
    · rw [hsb.2 b (fun h : b = S => hSf (by rw [← h]; exact hb))]; exact e
    · refine hR s'' (Moved.trans W.gtrans ((hm.mono hsub).then_heap (Nat.le_succ _) fun b o hb e => ?_) hm'') hS''
      rw [hsb.2 b (fun h : b = S => hb (by rw [h]; exact List.mem_cons_self))]; exact e
end
section
variable {P : Program} {w : World} {A : Around} {E : Value → Shared → Prop} {s : Shared} {a : Addr}
theorem sub_tup_set : isSubtype (.type "tuple") (.type "set") = pure false := by rw [isSubtype_type]; kernel_rfl
theorem sub_tup_frozenset : isSubtype (.type "tuple") (.type "frozenset") = pure false := by rw [isSubtype_type]; kernel_rfl
theorem call_set_texts {l : Addr} {items : Array Value} {xs : List Str} {Q : Value → Shared → Prop}
    (hh : A.handled = none) (hl : s.heap.IsTuple l items) (hi : ∀ (i : Nat) (v : Value), items[i]? = some v → ∃ t, v = .str (xs.getD i Str.empty) t) (hsz : items.size = xs.length) (hb : items.size + 1 < scanBound)
    (h : ∀ (h' : Heap) (tk : Nat), SetS w h' s.heap.objs.size xs →
      (∀ b o, b < s.heap.objs.size → s.heap.get? b = some o → h'.get? b = some o) → s.toks ≤ tk → Q (.ref s.heap.objs.size) { s with heap := h', toks := tk }) :
    wpAny (model P w) A (call (.type "set") [.ref l]) Q E s := by
  obtain ⟨c, tl, hmro⟩ := F.called_set.mro
  have hmade := F.called_set.made
  have hsub := F.called_set.sub
  refine wpAny_call (codeAny_of_tree ?_)
  show wpAny _ _ (callAny (.type "set") _) _ _ _
  refine wpAny_pure ⟨Code.quiet_builtin _ (by decide +kernel), codeAny_builtin F.entry_type_call ?_⟩
  rw [Around.under_plain (weight_type_call_type "set" [.ref l] []) rfl]
  have h1 := F.called_set.notType
  have h2 := F.called_set.canCreate
  have hct := F.typeCall_set_1 (.ref l)
  repeat (any_goals (first | assumption | wp_step))
  refine codeAny_mono (code_set_led1 (P := P) (w := w) (.ref l) (E := E) (Q₁ := fun obj s₁ => obj = .ref s.heap.objs.size ∧ s₁ = { s with heap := s.heap.push { cls := .type "set", dict := none, data := .set #[] 0 (.fresh 0 0 (!w.params.followText "set-order")) } }) ⟨rfl, rfl⟩) fun r s₁ hr => ?_
  generalize hled : (!w.params.followText "set-order") = led at hr
  cases r with
  | error e => exact hr
  | ok fl =>
    cases fl with
    | ret obj =>
      obtain ⟨rfl, rfl⟩ := hr
      have hS : (s.heap.push { cls := .type "set", dict := none, data := .set #[] 0 (.fresh 0 0 led) }).get? s.heap.objs.size = some { cls := .type "set", dict := none, data := .set #[] 0 (.fresh 0 0 led) } := Heap.get?_push_size _ rfl
      have hT : Shared.TypeIs { s with heap := s.heap.push { cls := .type "set", dict := none, data := .set #[] 0 (.fresh 0 0 led) } } (.ref s.heap.objs.size) "set" := ⟨_, hS, rfl⟩
      have hli := F.called_set.init.lookup
      have hbi := F.called_set.init.bind (.ref s.heap.objs.size)
      repeat (any_goals (first | assumption | wp_step))
      refine codeAny_mono (codeAny_call_builtin (R := wants (fun r s₂ => r = .none ∧ ∃ h' tk, s₂ = { s with heap := h', toks := tk } ∧ SetS w h' s.heap.objs.size xs ∧
          (∀ b o, b < s.heap.objs.size → s.heap.get? b = some o → h'.get? b = some o) ∧ s.toks ≤ tk) E) F.called_set.init.plain F.entry_set_init (check_set_init_1 hT ?_)) fun r₂ s₂ hr₂ => ?_
      · obtain ⟨ol, hol, hcl, nl, hdl⟩ := hl
        obtain ⟨ocls, odict, odata, oslots⟩ := ol
        simp only at hcl hdl
        subst hcl; subst hdl
        have hol' : (s.heap.push { cls := .type "set", dict := none, data := .set #[] 0 (.fresh 0 0 led) }).get? l = some { cls := .type "tuple", dict := odict, data := .seq items nl, slots := oslots } := Heap.get?_push_of_some _ hol
        have hsls := sub_tup_set
        have hslf := sub_tup_frozenset
        have hne : (Value.type "tuple" == Value.type "dict") = false := by decide
        have hl1 : (s.heap.push { cls := .type "set", dict := none, data := .set #[] 0 (.fresh 0 0 led) }).IsTuple l items := ⟨_, hol', rfl, nl, rfl⟩
        unfold Builtin.«set.__init__» noKeywords Builtin.Frozenset.updateFrom
        generalize hPI : pyIter = PI
        wp_walk
        subst hPI
        refine wpAny_pyIter_tuple hl1 ?_
        refine wpAny_bind (wpAny_runValue ?_)
        have hlS : l < s.heap.objs.size := Heap.lt_size hol
        have hh3 : A.in1.in1.in1.handled = none := by simp [hh]
        have hneI : l ≠ (s.heap.push { cls := .type "set", dict := none, data := .set #[] 0 (.fresh 0 0 led) }).objs.size := by
          rw [Heap.size_push]; exact Nat.ne_of_lt (Nat.lt_succ_of_lt hlS)
        have hSf : s.heap.objs.size ∉ [(s.heap.push { cls := .type "set", dict := none, data := .set #[] 0 (.fresh 0 0 led) }).objs.size, l] := by
          rw [Heap.size_push]; simp only [List.mem_cons, List.mem_singleton, List.not_mem_nil, or_false, not_or]
          exact ⟨Nat.ne_of_lt (Nat.lt_succ_self _), Nat.ne_of_gt hlS⟩
        refine loop_texts (P := P) ((Walks.tuple hh3 _ l hneI items).toS) s.heap.objs.size hSf xs hsz hi hb (items.size - 0) 0 _ (by omega) (Nat.zero_le _)
          ⟨⟨_, Heap.get?_push_size _ rfl, rfl, rfl⟩, ⟨_, Heap.get?_push_of_some _ hol', rfl, nl, rfl⟩⟩ ?hS0 ?hR
        case hS0 =>
          have hget : ((s.heap.push { cls := .type "set", dict := none, data := .set #[] 0 (.fresh 0 0 led) }).push { cls := .type "tuple_iterator", data := .fields #[.ref l, .int 0 0] }).get? s.heap.objs.size
              = some { cls := .type "set", dict := none, data := .set #[] 0 (.fresh 0 0 led) } := Heap.get?_push_of_some _ hS
          rw [← hled] at hget ⊢
          exact setS_fresh w hget
        case hR =>
          intro s' hm hS'
          obtain ⟨h', g', d', tk', os'⟩ := s'
          have eg : g' = s.gens := hm.gens
          have ed : d' = s.drawn := hm.drawn
          have eo : os' = s.os := hm.os
          have et := hm.toks
          subst eg; subst ed; subst eo
          show wpAny _ _ _ _ _ _
          refine wpAny_pure ?_
          show wpAny _ _ (ret Value.none) _ _ _
          refine wpAny_pure ⟨rfl, h', tk', rfl, hS', fun b o hb e => ?_, et⟩
          have hb1 : b ≠ s.heap.objs.size := Nat.ne_of_lt hb
          have hb2 : b ≠ (s.heap.push { cls := .type "set", dict := none, data := .set #[] 0 (.fresh 0 0 led) }).objs.size := by
            rw [Heap.size_push]; exact Nat.ne_of_lt (Nat.lt_succ_of_lt hb)
          exact hm.heap b o (by simp only [List.mem_cons, List.mem_singleton, List.not_mem_nil, or_false, not_or]; exact ⟨hb1, hb2⟩) (Heap.get?_push_of_some _ (Heap.get?_push_of_some _ e))
      · cases r₂ with
        | error e => exact hr₂
        | ok fl₂ =>
          cases fl₂ with
          | ret r =>
            obtain ⟨rfl, h', tk, rfl, hS', hk', ht'⟩ := hr₂
            repeat (any_goals (first | assumption | wp_step))
            exact h _ _ hS' hk' ht'
          | _ => exact hr₂.elim
    | _ => exact hr.elim
end
end MPSetT
end
section
set_option Elab.async false
set_option linter.all false
set_option maxRecDepth 100000
set_option maxHeartbeats 4000000
/-! MP: sorted(s) of a set of texts -/
namespace MPSetT
open PySem PySem.Spec PySem.Calls PyProof.Rows PySem.W PySem.SeqAt L2 MP
section
variable {P : Program} {w : World} {A : Around} {E : Value → Shared → Prop} {s : Shared} {a : Addr}
def keyV (v : Value) : Str := match v with | .str k _ => k | _ => Str.empty
def isT (v : Value) (x : Str) : Prop := ∃ t, v = .str x t
theorem each_keys' : ∀ {vs : List Value}, (∀ v ∈ vs, ∃ k t, v = .str k t) → EachIs isT vs (vs.map keyV)
  | [], _ => .nil
  | v :: vs, h => by
    obtain ⟨k, t, rfl⟩ := h v List.mem_cons_self
    exact .cons ⟨t, rfl⟩ (each_keys' fun u hu => h u (List.mem_cons_of_mem _ hu))
theorem sorted_texts {l : List Str} {Q : Value → Shared → Prop} (R : SetS w s.heap a l) (hh : A.handled = none) (hn : l.length ≤ 1000) (hu : A.units + 3 < cLine)
    (hQ : ∀ s' p (out : Array Value) (c : Nat) (bs : List Str), (∀ b o, s.heap.get? b = some o → s'.heap.get? b = some o) → s'.gens = s.gens → s'.os = s.os → s.heap.objs.size ≤ p →
      s'.heap.get? p = some (seqObj "list" out c) → bs.Nodup → (∀ k, k ∈ bs ↔ k ∈ l) → EachIs isT out.toList (bs.mergeSort (PySem.W.dataLe false PyData.str)) → Q (.ref p) s') :
    wpAny (model P w) A (call (.builtin "sorted") [.ref a]) Q E s := by
  obtain ⟨o, es, ep, t, ho, hex, hd, g, nd, hm, hb, hf, hn', hr, hl⟩ := R
  refine Calls.call_function_entry kind_sorted plain_sorted entry_sorted (args_sorted1 _) ?_
  unfold Builtin.«sorted»
  refine wpAny_bind (m := checkCount "sorted" 1 1 _) (wpAny_pure ?_)
  refine wpAny_bind (collect_set (A := A.in1) hh ⟨o, ho, hex.1, hd⟩ hf hb hr hl fun s1 vs k1 hz g1 o1 pm => ?_)
  have hvl : vs.length = es.size := by rw [pm.length_eq, List.length_map, Array.length_toList]
  have hall : ∀ v ∈ vs, ∃ k t, v = Value.str k t := fun v hv => by
    obtain ⟨e, he, q⟩ := List.mem_map.mp (pm.mem_iff.mp hv)
    obtain ⟨k, tk, h1, _⟩ := g e he
    exact ⟨k, tk, by rw [← q]; exact h1⟩
  have er := each_keys' hall
  have pk : (vs.map keyV).Perm (es.toList.map keyS) := by
    have q := pm.map keyV
    rw [List.map_map] at q
    exact q
  refine wpAny_bind (wpAny_newList ?_ (by rw [hvl, sizeLine_eq]; omega))
  have hoL : (s1.heap.push (seqObj "list" vs.toArray 0)).get? s1.heap.objs.size = some (seqObj "list" vs.toArray 0) := Heap.get?_push_size _ rfl
  have rd : EachIs (fun v d => ∃ as, Reads (sortingHeap (s1.heap.push (seqObj "list" vs.toArray 0)) s1.heap.objs.size vs) v d as) vs ((vs.map keyV).map PyData.str) :=
    each_map (R := fun v d => ∃ as, Reads (sortingHeap (s1.heap.push (seqObj "list" vs.toArray 0)) s1.heap.objs.size vs) v d as) PyData.str (er.mono fun v x ⟨t, e⟩ => ⟨[], by rw [e]; exact .str x t⟩)
  have hal : AllAlike ((vs.map keyV).map PyData.str) := by
    intro d hd d' hd'
    obtain ⟨x, _, rfl⟩ := List.mem_map.mp hd
    obtain ⟨y, _, rfl⟩ := List.mem_map.mp hd'
    simp [alike]
  have S : SortsAt P w A.in1.in1 { s1 with heap := sortingHeap (s1.heap.push (seqObj "list" vs.toArray 0)) s1.heap.objs.size vs } (dataKind (sortingHeap (s1.heap.push (seqObj "list" vs.toArray 0)) s1.heap.objs.size vs) ((vs.map keyV).map PyData.str)) vs :=
    SortsAt.mix (s := { s1 with heap := sortingHeap (s1.heap.push (seqObj "list" vs.toArray 0)) s1.heap.objs.size vs }) rd hal (fun d hd => by
      obtain ⟨x, _, rfl⟩ := List.mem_map.mp hd
      simp) (fun d hd => by
      obtain ⟨x, _, rfl⟩ := List.mem_map.mp hd
      show A.units + 1 + 1 + 0 < _
      omega)
  have hL : vs.length ≤ sizeLine := by rw [hvl, sizeLine_eq]; omega
  have rd0 : EachIs (fun v x => ∃ as, Reads (sortingHeap (s1.heap.push (seqObj "list" vs.toArray 0)) s1.heap.objs.size vs) v (PyData.str x) as) vs (vs.map keyV) := er.mono fun v x ⟨t, e⟩ => ⟨[], by rw [e]; exact .str x t⟩
  have out := sortVals_data (enc := PyData.str) false er rd0 hal
  refine wpAny_bind (wpAny_holding (wpAny_call_entry slot_list_sort ⟨_, hoL, rfl⟩ entry_list_sort (list_sort_vals (s := { s1 with heap := s1.heap.push (seqObj "list" vs.toArray 0) }) hoL S hL ⟨_, rfl, ?_⟩) (args_list_sort _)))
  obtain ⟨c, hc⟩ := sortedHeap_at (vs := vs) (out := (sortVals (dataKind (sortingHeap (s1.heap.push (seqObj "list" vs.toArray 0)) s1.heap.objs.size vs) ((vs.map keyV).map PyData.str)) false vs vs).toArray) hoL
  refine wpAny_pure ⟨_, rfl, hQ _ s1.heap.objs.size _ c (vs.map keyV) (fun b u e => ?_) g1 o1 hz hc (pk.nodup_iff.mpr nd) (fun k => by rw [pk.mem_iff, ← hm k]) out⟩
  have q := k1 b u e
  have hlt := Heap.lt_size q
  show (sortedHeap (s1.heap.push (seqObj "list" vs.toArray 0)) s1.heap.objs.size vs _).get? b = some u
  rw [sortedHeap_old (Nat.ne_of_lt hlt) (by rw [size_push']; exact Nat.lt_succ_of_lt hlt)]
  exact Heap.get?_push_of_some _ q
end
end MPSetT
end
section
set_option Elab.async false
set_option linter.all false
set_option maxRecDepth 100000
set_option maxHeartbeats 4000000
/-! MP: sorted(set(t)), t a tuple of texts -/
namespace MP
open PySem PySem.Spec PySem.Calls PyProof.Rows L2 MPSetT
theorem strsOf_eq : ∀ {xs : List D} {ys : List Str}, strsOf xs = some ys → xs = ys.map .str
  | [], ys, h => by cases h; rfl
  | x :: xs, ys, h => by
    cases x <;> simp only [strsOf] at h <;> try (cases h; done)
    rename_i b
    cases e : strsOf xs with
    | none => rw [e] at h; cases h
    | some zs =>
      rw [e] at h
      cases h
      rw [strsOf_eq e]
      rfl
theorem strs_inj (a b : Str) (h : PySem.W.keyToks (PyData.str a) = PySem.W.keyToks (PyData.str b)) : a = b := by
  simp only [PySem.W.keyToks, List.cons.injEq, Sum.inr.injEq, and_true] at h
  exact PySem.W.str_of_cps h
theorem ed_ok : ∀ (n : Nat) (l : List Str), l.length ≤ n → l.eraseDups.Nodup ∧ l.eraseDups.length ≤ l.length
  | _, [], _ => by simp
  | 0, x :: l, h => by simp at h
  | n + 1, x :: l, h => by
    rw [List.length_cons] at h
    have fl := List.length_filter_le (fun b => !b == x) l
    obtain ⟨h1, h2⟩ := ed_ok n (l.filter fun b => !b == x) (by omega)
    rw [List.eraseDups_cons, List.nodup_cons]
    refine ⟨⟨fun hx => ?_, h1⟩, by simp only [List.length_cons]; omega⟩
    rw [List.mem_eraseDups, List.mem_filter] at hx
    simp at hx
theorem sortT_of {bs ys : List Str} (nd : bs.Nodup) (h : ∀ k, k ∈ bs ↔ k ∈ ys) : bs.mergeSort (PySem.W.dataLe false PyData.str) = sortT ys := by
  have p : bs.Perm ys.eraseDups := (List.perm_ext_iff_of_nodup nd (ed_ok _ ys (Nat.le_refl _)).1).mpr fun k => by rw [h k, List.mem_eraseDups]
  have t : PySem.W.TotalLe (PySem.W.dataLe false PyData.str) := PySem.W.sortLe_total (listOrd itemOrd) false fun b => PySem.W.keyToks (PyData.str b)
  refine List.Perm.eq_of_pairwise (le := fun a b => PySem.W.dataLe false PyData.str a b = true) (fun a b _ _ h1 h2 => ?_) ?_ ?_ ?_
  · have h1' : (!PyProof.Rows.lexLt itemOrd (PySem.W.keyToks (.str b)) (PySem.W.keyToks (.str a))) = true := h1
    have h2' : (!PyProof.Rows.lexLt itemOrd (PySem.W.keyToks (.str a)) (PySem.W.keyToks (.str b))) = true := h2
    rw [Bool.not_eq_true'] at h1' h2'
    exact strs_inj a b (lex_total (O := itemOrd) _ _ h2' h1')
  · exact PySem.W.sort_pairwise t bs
  · exact PySem.W.sort_pairwise t _
  · exact (List.mergeSort_perm bs _).trans (p.trans (List.mergeSort_perm _ _).symm)
theorem repl_strs {G : Gd} {as : List Addr} {fz : Addr → Prop} {H : Hp} : ∀ {ys : List Str} {vs : List V}, RepL G as fz H vs (ys.map .str) → vs = ys.map V.str
  | [], _, h => by cases h; rfl
  | y :: ys, _, h => by
    cases h with
    | cons a t =>
      cases a
      rw [repl_strs t]
      rfl
theorem vals_strs : ∀ {ys : List Str} {us : List Value}, Vals (ys.map V.str) us → us.length = ys.length ∧ ∀ (i : Nat) (v : Value), us[i]? = some v → ∃ t, v = .str (ys.getD i Str.empty) t
  | [], _, h => by cases h; exact ⟨rfl, fun i v e => by simp at e⟩
  | y :: ys, _, h => by
    cases h with
    | cons a t =>
      obtain ⟨tk, rfl⟩ := a
      obtain ⟨l, k⟩ := vals_strs t
      refine ⟨by simp [l], fun i v e => ?_⟩
      cases i with
      | zero => simp at e; exact ⟨tk, by rw [← e]; simp⟩
      | succ i => simpa using k i v (by simpa using e)
theorem strs_rep {G : Gd} {as : List Addr} {fz : Addr → Prop} {H : Hp} : ∀ ys : List Str, RepL G as fz H (ys.map V.str) (ys.map D.str)
  | [] => .nil
  | y :: ys => .cons (.str y) (strs_rep ys)
theorem vals_isT : ∀ {us : List Value} {ys : List Str}, PySem.W.EachIs isT us ys → Vals (ys.map V.str) us
  | _, _, .nil => .nil
  | _, _, .cons a t => .cons a (vals_isT t)
/-- the set of texts at a -/
def SetT (w : World) (a : Addr) (l : List Str) : HO := .ext fun h => SetS w h a l
section
variable {X : Cx} {G : Gd}
theorem setT_new {w : World} {P : Program} {H : Hp} {h : Heap} {a : Addr} {l : List Str} (R : SetS w h a l) : ObjOk P w H h a (SetT w a l) := by
  have ⟨o, _, _, _, ho, _⟩ := R
  exact ⟨R, ⟨o, ho⟩, fun h1 h2 p k => SetS.at p k⟩
def rSetT (G : Gd) (w : World) : List V → Hp → VK → Prop := fun xs H Q => ∃ as fz ys, RepRs G as fz H xs [.tup (ys.map .str)] ∧ ys.length ≤ 1000 ∧ ∀ p, H p = none → Q (.ref p) (upd H p (SetT w p ys))
theorem c_setT (hK : G.K = X.K) (hc : X.calm = true) : CallR X (.type "set") (rSetT G X.w) := by
  intro pins s σ H xs us Q I rx ⟨as, fz, ys, hd, hl, q⟩
  obtain ⟨x, rfl, h⟩ := hd.one
  obtain ⟨a, vs, rfl, ha, r1⟩ := h.tup
  obtain ⟨u, rfl, ru⟩ := vals_one rx
  cases ru
  obtain ⟨its, rv, pl, hz⟩ := I.tuple (hK ▸ ha)
  have e := repl_strs r1
  subst e
  obtain ⟨l1, k1⟩ := vals_strs rv
  have sb : 2000 < scanBound := by decide
  refine call_set_texts (P := X.prog) (w := X.w) (xs := ys) (I.ok.hd hc) pl (fun i v e => k1 i v (by simpa using e)) (by simpa using l1) (by simp only [List.size_toArray]; omega) fun h' tk R old ht => ?_
  exact ⟨.ref _, upd H s.heap.objs.size (SetT X.w s.heap.objs.size ys), I.laid (t' := tk) (fun b u e => old b u (Heap.lt_size e) e) (Nat.le_refl _) (setT_new R), rfl, q _ (I.hok.fresh (Nat.le_refl _))⟩
def rSortT (w : World) : List V → Hp → VK → Prop := fun vs H Q => ∃ (a : Addr) (ys : List Str), vs = [V.ref a] ∧ H a = some (SetT w a ys) ∧ ys.length ≤ 1000 ∧ ∀ p, H p = none → Q (.ref p) (upd H p (.lst ((sortT ys).map V.str)))
theorem c_sortT (hc : X.calm = true) (hu : X.A.units + 70 < cLine) : CallR X (.builtin "sorted") (rSortT X.w) := by
  intro pins s σ H vs us Q I r h
  obtain ⟨a, ys, rfl, ha, hl, q⟩ := h
  have R : SetS X.w s.heap a ys := (I.hok a _ ha).1
  rw [Vals.ref1 r]
  refine sorted_texts R (I.ok.hd hc) hl (by omega) fun s' p out c bs k g o hp hg nd hm he => ?_
  rw [sortT_of nd hm] at he
  have hv := vals_isT he
  have hlen : ((sortT ys).map V.str).length ≤ sizeLine := by
    have : (sortT ys).length ≤ ys.length := by
      unfold sortT
      rw [List.length_mergeSort]
      exact (ed_ok _ ys (Nat.le_refl _)).2
    rw [List.length_map, sizeLine_eq]
    omega
  have hn : H p = none := I.hok.fresh hp
  have J : Inv X pins σ (upd H p (.lst ((sortT ys).map V.str))) { s with heap := s'.heap, gens := s'.gens, drawn := s'.drawn, toks := s'.toks } :=
    I.call (ch := []) (Un.laid k hp hn) (I.hok.laid k hp ⟨hlen, out.toList, c, hv, hg⟩) (by rw [g]; exact I.bare) (fun _ z => nomatch z)
  have e : s' = { s with heap := s'.heap, gens := s'.gens, drawn := s'.drawn, toks := s'.toks } := by
    cases s'
    cases s
    cases o
    rfl
  rw [e]
  exact ⟨.ref p, _, J, rfl, q p hn⟩
end
section
variable {T : Tab} {G : Gd} {cf : CF} {n : Nat} {se : SE} {X : Cx} {W : WX} {σ : L2.St} {H : Hp} {Q : VK} {ps : PL}
theorem set_post {m : S → Out (List D)} (w : World) (h : tI G W (fun s => (m s).bind fun ds s' => toOut (prim .sortedSet (ds.map (deref s'.sto))) s') σ H Q) : tOs G W m σ H fun xs H1 =>
    rSetT G w xs H1 fun v H2 => rSortT w [v] H2 Q := by
  obtain ⟨B, as, fz, st, sim, h⟩ := h
  refine ⟨B, as, fz, st, sim, h.bind.mono fun ds st1 as1 fz1 H1 s1 m1 p1 vs rvs => ?_⟩
  cases e : prim .sortedSet (ds.map (deref st1.sto)) with
  | none => rw [e] at p1; exact p1.elim
  | some r =>
    rw [e] at p1
    simp only [prim] at e
    unfold p_sortedSet at e
    split at e
    · rename_i x hx
      split at e
      · rename_i ys hy
        split at e
        · rename_i hl
          cases e
          have e1 := strsOf_eq hy
          subst e1
          have rr := rvs.repRs m1.c
          rw [hx] at rr
          refine ⟨as1, fz1, ys, rr, hl, fun p0 h0 => ⟨p0, ys, rfl, upd_same, hl, fun p hp => ?_⟩⟩
          have g1 : Grow fz1 H1 fz1 (upd H1 p0 (SetT w p0 ys)) := grow_new h0
          have g2 : Grow fz1 (upd H1 p0 (SetT w p0 ys)) (fun b => fz1 b ∨ b = p) (upd (upd H1 p0 (SetT w p0 ys)) p (.lst ((sortT ys).map V.str))) := grow_frz hp
          refine p1 as1 _ _ (g1.simB.step.trans g2.simB.step) ((m1.grow g1).grow g2) _ (.lst (.inr rfl) upd_same ?_)
          exact strs_rep _
        · cases e
      · cases e
    · cases e
theorem bt_set : bootBuiltins "set" = some (.type "set") := by decide +kernel
theorem both_sortedSet (c : Cok T G cf n se X) {x : Expr} {p1 p2 pos pos2 : Pos} (g1 : gloN se "sorted" = true) (m1 : ("sorted" : Str) ∈ T.blts) (g2 : gloN se "set" = true) (m2 : ("set" : Str) ∈ T.blts) (hs : starred x = false) (q : PEs X G W cf [x] ps) :
    Both X (.Call (.Name "sorted" p1) [.Call (.Name "set" p2) [x] [] pos2] [] pos) (tI G W (evP cf .sortedSet ps)) := by
  suffices z : L2.PE X (.Call (.Name "sorted" p1) [.Call (.Name "set" p2) [x] [] pos2] [] pos) (tI G W (evP cf .sortedSet ps)) from ⟨z, pt_val z⟩
  have inner : L2.PE X (.Call (.Name "set" p2) [x] [] pos2) _ := pe_callTy (c_setT (G := G) c.K c.calm) (c.glo g2) (c.blts _ m2) bt_set q.pa (he := star_cons hs)
  exact PEimp (pe_callB (c_sortT c.calm c.u70) (c.glo g1) (c.blts _ m1) bt_sorted (pa_cons inner pa_nil (star_cons rfl)) (he := star_cons rfl)) fun σ H Q hh => set_post X.w hh
end
end MP
end
section
set_option Elab.async false
set_option linter.all false
set_option maxRecDepth 100000
set_option maxHeartbeats 2000000
/-! MP: not, and, or, if else, a < b < c, f'..' -/
namespace MP
open PySem PySem.Spec PyProof.Rows L2
section
variable {T : Tab} {G : Gd} {cf : CF} {n : Nat} {se : SE} {X : Cx} {W : WX} {σ : L2.St} {H : Hp} {Q : VK} {p : Prim} {ps : PL}
theorem both_nt {a : Expr} {pa : PE} {pos : Pos} (h : Both X a (tI G W (evalE cf pa))) : Both X (.UnaryOp .Not a pos) (tI G W (evalE cf (.nt pa))) := by
  have k : ∀ σ H (Q : VK), tI G W (evalE cf (.nt pa)) σ H Q → tI G W (evalE cf pa) σ H fun x H1 => ∃ c, x = .bl c ∧ Q (.bl (!c)) H1 := fun σ H Q ⟨B, as, fz, st, sim, q⟩ => by
    simp only [evalE] at q
    refine ⟨B, as, fz, st, sim, q.bind.mono fun d st1 as1 fz1 H1 s1 m1 p1 v rv => ?_⟩
    split at p1
    · cases rv
      exact ⟨_, rfl, p1 as1 fz1 H1 .refl m1 _ (.bl _)⟩
    · exact p1.elim
  refine ⟨PEimp (pe_not h.1) k, PTimp (pt_not h.2) fun σ H Q q => ?_⟩
  refine tI_mono (k _ _ _ q) fun x H1 ⟨c, e, c', e', q⟩ => ⟨c, e, ?_⟩
  cases e'
  exact q
/-- the list of the parts of and, or -/
inductive PBs (X : Cx) (G : Gd) (W : WX) (cf : CF) : List Expr → PL → Prop where
  | nil : PBs X G W cf [] .nil
  | cons {e : Expr} {p : PE} {es : List Expr} {ps : PL} (n : starred e = false) (h : Both X e (tI G W (evalE cf p))) (r : PBs X G W cf es ps) : PBs X G W cf (e :: es) (.cons p ps)
theorem PBs.pvs {es : List Expr} (h : PBs X G W cf es ps) : PVs X G W cf es ps := by
  induction h with
  | nil => exact .nil
  | cons n h _ ih => exact .cons n h.1 ih
def bopOf (k : Bool) : PySem.BoolOp := if k then .And else .Or
theorem bop_post {k : Bool} {e f : PE} {r : PL} (h : tI G W (evalB cf k (.cons e (.cons f r))) σ H Q) : tI G W (evalE cf e) σ H fun x H1 => ∃ c, x = .bl c ∧ if c = k then tI G W (evalB cf k (.cons f r)) σ H1 Q else Q (.bl c) H1 := by
  obtain ⟨B, as, fz, st, sim, q⟩ := h
  simp only [evalB] at q
  refine ⟨B, as, fz, st, sim, q.bind.mono fun d st1 as1 fz1 H1 s1 m1 p1 v rv => ?_⟩
  split at p1
  · rename_i b
    cases rv
    refine ⟨b, rfl, ?_⟩
    split
    · rename_i hb
      rw [if_pos hb] at p1
      exact ⟨B, as1, fz1, st1, m1, p1⟩
    · rename_i hb
      rw [if_neg hb] at p1
      exact p1 as1 fz1 H1 .refl m1 _ (.bl _)
  · exact p1.elim
theorem bop_one {k : Bool} {e : PE} : evalB cf k (.cons e .nil) = evalE cf e := by
  funext s
  simp only [evalB]
theorem both_bopL {k : Bool} {pos : Pos} : ∀ {es : List Expr} {ps : PL}, PBs X G W cf es ps → es ≠ [] → L2.PE X (.BoolOp (bopOf k) es pos) (tI G W (evalB cf k ps)) ∧ L2.PW X (.BoolOp (bopOf k) es pos) (tB (tI G W (evalB cf k ps)))
  | _, _, .nil, h => (h rfl).elim
  | _, _, .cons n1 h1 .nil, _ => by
    rw [bop_one]
    refine ⟨pe_one h1.1, ?_⟩
    cases k with
    | true => exact pw_and1 h1.2
    | false => exact pw_or1 h1.2
  | _, _, .cons n1 h1 (.cons n2 h2 r), _ => by
    obtain ⟨i1, i2⟩ := both_bopL (k := k) (pos := pos) (PBs.cons n2 h2 r) (by simp)
    cases k with
    | true =>
      refine ⟨PEimp (pe_and h1.1 i1) fun σ H Q q => tI_mono (bop_post q) fun x H1 ⟨c, e, q⟩ => ⟨c, e, ?_⟩, ⟨fun w pins s σ H Q I q => (pw_and h1.2 i2).run w pins s σ H Q I (tI_mono (bop_post q) fun x H1 ⟨c, e, q⟩ => ⟨c, e, ?_⟩)⟩⟩
      · cases c with
        | true => exact q
        | false => exact q
      · cases c with
        | true => exact q
        | false => obtain ⟨c', e', q⟩ := q; cases e'; exact q
    | false =>
      refine ⟨PEimp (pe_or h1.1 i1) fun σ H Q q => tI_mono (bop_post q) fun x H1 ⟨c, e, q⟩ => ⟨c, e, ?_⟩, ⟨fun w pins s σ H Q I q => (pw_or h1.2 i2).run w pins s σ H Q I (tI_mono (bop_post q) fun x H1 ⟨c, e, q⟩ => ⟨c, e, ?_⟩)⟩⟩
      · cases c with
        | true => exact q
        | false => exact q
      · cases c with
        | true => obtain ⟨c', e', q⟩ := q; cases e'; exact q
        | false => exact q
theorem both_bop {k : Bool} {pos : Pos} {es : List Expr} (h : PBs X G W cf es ps) (hn : es ≠ []) : Both X (.BoolOp (bopOf k) es pos) (tI G W (evalE cf (.bop k ps))) := by
  have e : evalE cf (.bop k ps) = evalB cf k ps := by funext s; simp only [evalE]
  rw [e]
  obtain ⟨a, b⟩ := both_bopL (k := k) (pos := pos) h hn
  exact ⟨a, b.pt⟩
theorem pt_ifExp {c a b : Expr} {tc ta tb : TT} {pos : Pos} (hc : L2.PT X c tc) (ha : L2.PT X a ta) (hb : L2.PT X b tb) : L2.PT X (.IfExp c a b pos) (fun σ H Q => tc σ H fun k H1 => if k = true then ta σ H1 Q else tb σ H1 Q) := by
  refine ⟨fun pins s σ H Q I h => ?_⟩
  have e : isTrue (.IfExp c a b pos) X.env (eval (.IfExp c a b pos) X.env) = (do
    if ← isTrue c X.env (eval c X.env) then isTrue a X.env (eval a X.env) else isTrue b X.env (eval b X.env)) := rfl
  rw [e]
  refine wpAny_bind (thn (hc.run pins s σ H _ I h) fun k s1 ⟨H1, I1, q1⟩ => ?_)
  cases k with
  | true => exact ha.run pins s1 σ H1 Q I1 q1
  | false => exact hb.run pins s1 σ H1 Q I1 q1
theorem ite_post {c a b : PE} (h : tI G W (evalE cf (.ite c a b)) σ H Q) : tI G W (evalE cf c) σ H fun x H1 => ∃ k, x = .bl k ∧ if k = true then tI G W (evalE cf a) σ H1 Q else tI G W (evalE cf b) σ H1 Q := by
  obtain ⟨B, as, fz, st, sim, q⟩ := h
  simp only [evalE] at q
  refine ⟨B, as, fz, st, sim, q.bind.mono fun d st1 as1 fz1 H1 s1 m1 p1 v rv => ?_⟩
  split at p1
  · cases rv
    exact ⟨true, rfl, B, as1, fz1, st1, m1, p1⟩
  · cases rv
    exact ⟨false, rfl, B, as1, fz1, st1, m1, p1⟩
  · exact p1.elim
theorem both_ite {c a b : Expr} {pc pa pb : PE} {pos : Pos} (hc : Both X c (tI G W (evalE cf pc))) (ha : Both X a (tI G W (evalE cf pa))) (hb : Both X b (tI G W (evalE cf pb))) : Both X (.IfExp c a b pos) (tI G W (evalE cf (.ite pc pa pb))) := by
  refine ⟨PEimp (pe_ifExp hc.2 ha.1 hb.1) fun σ H Q q => ite_post q, PTimp (pt_ifExp hc.2 ha.2 hb.2) fun σ H Q q => ?_⟩
  refine tI_mono (ite_post q) fun x H1 ⟨k, e, q⟩ => ⟨k, e, ?_⟩
  cases k with
  | true => exact q
  | false => exact q
theorem deref_id {t : Sto} {d : D} (h : ∀ i, d ≠ .ref i) : deref t d = d := by
  cases d <;> first | rfl | exact absurd rfl (h _)
theorem chain_post {o1 o2 : Prim} {a b c : PE} (h : tI G W (evalE cf (.chain o1 o2 a b c)) σ H Q) : tI G W (evalE cf a) σ H fun x H1 => tI G W (evalE cf b) σ H1 fun y H2 => rP2 G o1 x y H2 fun z H3 => ∃ k, z = .bl k ∧ if k = true then tI G W (evalE cf c) σ H3 fun w H4 => rP2 G o2 y w H4 Q else Q (.bl false) H3 := by
  obtain ⟨B, as, fz, st, sim, q⟩ := h
  simp only [evalE] at q
  refine ⟨B, as, fz, st, sim, q.bind.mono fun d st1 as1 fz1 H1 s1 m1 p1 v rv => ⟨B, as1, fz1, st1, m1, p1.bind.mono fun e st2 as2 fz2 H2 s2 m2 p2 w rw' => ?_⟩⟩
  have rr : ∀ {r : D}, prim o1 [d, e] = some r → (∀ z H3, ResR G as2 fz2 H2 z r H3 → ∃ k, z = V.bl k ∧ if k = true then tI G W (evalE cf c) σ H3 fun w' H4 => rP2 G o2 w w' H4 Q else Q (.bl false) H3) → rP2 G o1 v w H2 fun z H3 => ∃ k, z = .bl k ∧ if k = true then tI G W (evalE cf c) σ H3 fun w' H4 => rP2 G o2 w w' H4 Q else Q (.bl false) H3 := fun e1 q => ⟨as2, fz2, d, e, _, .dat (RepD.step s2 _ _ rv), .dat rw', e1, q⟩
  split at p2
  · rename_i e1
    refine rr e1 fun z H3 hz => ?_
    obtain ⟨fz3, g, rd⟩ := hz.grow
    cases rd
    refine ⟨true, rfl, B, as2, fz3, st2, m2.grow g, ?_⟩
    have g2 : Step as2 fz2 H2 as2 fz3 H3 := g.simB.step
    have p2 := p2.bind
    refine (show Post G B W σ (evalE cf c st2) _ as2 fz3 H3 from ?_)
    have p3 : Post G B W σ (evalE cf c st2) (fun f st3 as3 fz4 H4 => Post G B W σ (toOut (prim o2 [e, f]) st3) (fun d x as' fz' H' => ∀ v, RepD G as' fz' H' v d → Q v H') as3 fz4 H4) as2 fz3 H3 := by
      revert p2
      cases evalE cf c st2 with
      | ok f st3 => exact fun p2 as' fz' H' s m => p2 as' fz' H' (g2.trans s) m
      | exc k t => exact fun p2 => p2
      | bad => exact fun p2 => p2
    refine p3.mono fun f st3 as3 fz4 H4 s3 m3 p3 u ru => ?_
    cases e3 : prim o2 [e, f] with
    | none => rw [e3] at p3; exact p3.elim
    | some r =>
      rw [e3] at p3
      refine ⟨as3, fz4, e, f, r, .dat (RepD.step (g2.trans s3) _ _ rw'), .dat ru, e3, fun v H' rr => ?_⟩
      obtain ⟨fz5, g5, rd⟩ := rr.grow
      exact p3 as3 fz5 H' g5.simB.step (m3.grow g5) v rd
  · rename_i e1
    refine rr e1 fun z H3 hz => ?_
    obtain ⟨fz3, g, rd⟩ := hz.grow
    cases rd
    exact ⟨false, rfl, p2 as2 fz3 H3 g.simB.step (m2.grow g) _ (.bl _)⟩
  · exact p2.elim
theorem both_chain (c : Cok T G cf n se X) {o1 o2 : Prim} {k1 k2 : CmpOp} {a b d : Expr} {pa pb pd : PE} {pos : Pos} (e1 : cmpOf o1 = some k1) (e2 : cmpOf o2 = some k2) (hm : lastMarks [k1, k2] [b, d] = false)
    (ha : L2.PE X a (tI G W (evalE cf pa))) (hb : L2.PE X b (tI G W (evalE cf pb))) (hd : L2.PE X d (tI G W (evalE cf pd))) : Both X (.Compare a [k1, k2] [b, d] pos) (tI G W (evalE cf (.chain o1 o2 pa pb pd))) :=
  ⟨PEimp (pe_chain (o_cmp (p := o1) c e1) (o_cmp (p := o2) c e2) ha hb hd hm) fun σ H Q q => chain_post q, PTimp (pt_chain (o_cmp (p := o1) c e1) (o_cmp (p := o2) c e2) ha hb hd hm) fun σ H Q q => chain_post q⟩
/-! ### f'..' -/
theorem str_len_append (a b : Str) : (a ++ b).length = a.length + b.length := by
  show (a.cps ++ b.cps).size = _
  rw [Array.size_append]
  rfl
theorem str_empty_append (a : Str) : Str.empty ++ a = a := by
  show (⟨#[] ++ a.cps⟩ : Str) = a
  rw [Array.empty_append]
inductive PFs (X : Cx) (G : Gd) (W : WX) (cf : CF) : List Expr → PL → Prop where
  | nil : PFs X G W cf [] .nil
  | cons {e : Expr} {p : PE} {es : List Expr} {ps : PL} (h : L2.PE X e (tFmt (tI G W (evalE cf p)))) (r : PFs X G W cf es ps) : PFs X G W cf (e :: es) (.cons p ps)
theorem f_step {p : PE} {ps : PL} {acc : Str} (h : tI G W (evalF cf (.cons p ps) acc) σ H Q) : tFmt (tI G W (evalE cf p)) σ H fun x H1 => ∃ y : Str, x = .str y ∧ (acc ++ y).length ≤ sizeLine ∧ tI G W (evalF cf ps (acc ++ y)) σ H1 Q := by
  obtain ⟨B, as, fz, st, sim, q⟩ := h
  simp only [evalF] at q
  refine ⟨B, as, fz, st, sim, q.bind.mono fun d st1 as1 fz1 H1 s1 m1 p1 v rv => ?_⟩
  split at p1
  · rename_i y e
    split at p1
    · rename_i hl
      have hy : y.length ≤ sizeLine := by
        rw [str_len_append] at hl
        rw [sl_line]
        omega
      have q' : tI G W (evalF cf ps (acc ++ y)) σ H1 Q := ⟨B, as1, fz1, st1, m1, p1⟩
      unfold strOf at e
      split at e
      · cases e
        cases rv
        exact .inl ⟨_, rfl, hy, _, rfl, by rw [sl_line]; exact hl, q'⟩
      · split at e
        · rename_i i hi
          cases e
          cases rv
          exact .inr ⟨_, rfl, hi, _, rfl, by rw [sl_line]; exact hl, q'⟩
        · cases e
      · cases e
    · exact p1.elim
  · exact p1.elim
theorem f_nil {acc : Str} (h : tI G W (evalF cf .nil acc) σ H Q) : Q (.str acc) H := by
  obtain ⟨B, as, fz, st, sim, q⟩ := h
  simp only [evalF] at q
  exact q as fz H .refl sim _ (.str _)
theorem tFmt_mono {te : TE} {Q Q' : VK} (hm : ∀ σ H (Q Q' : VK), (∀ x H1, Q x H1 → Q' x H1) → te σ H Q → te σ H Q') (k : ∀ x H1, Q x H1 → Q' x H1) (h : tFmt te σ H Q) : tFmt te σ H Q' := by
  refine hm _ _ _ _ (fun x H1 q => ?_) h
  rcases q with ⟨y, e, hy, q⟩ | ⟨i, e, hi, q⟩
  · exact .inl ⟨y, e, hy, k _ _ q⟩
  · exact .inr ⟨i, e, hi, k _ _ q⟩
theorem PFs.pj {es : List Expr} (h : PFs X G W cf es ps) : ∃ ts, PJ X es ts ∧ ∀ (acc : Str) (σ : L2.St) (H : Hp) (Q : VK), tI G W (evalF cf ps acc) σ H Q → tJs ts acc σ H fun out H1 => Q (.str out) H1 := by
  induction h with
  | nil => exact ⟨[], .nil, fun acc σ H Q q => f_nil q⟩
  | cons h r ih =>
    obtain ⟨ts, pj, k⟩ := ih
    refine ⟨_, .cons h pj, fun acc σ H Q q => ?_⟩
    refine tFmt_mono (fun σ H Q Q' k h => tI_mono h k) (fun x H1 hx => ?_) (f_step q)
    obtain ⟨y, e, hy, q⟩ := hx
    exact ⟨y, e, hy, k _ _ _ _ q⟩
theorem both_fstr {es : List Expr} {pos : Pos} (h : PFs X G W cf es ps) (hn : es ≠ []) : Both X (.JoinedStr es pos) (tI G W (evalE cf (.fstr ps))) := by
  have e : evalE cf (.fstr ps) = evalF cf ps Str.empty := by funext s; simp only [evalE]
  rw [e]
  suffices z : L2.PE X (.JoinedStr es pos) (tI G W (evalF cf ps Str.empty)) from ⟨z, pt_val z⟩
  cases h with
  | nil => exact (hn rfl).elim
  | cons h r =>
    cases r with
    | nil =>
      refine PEimp (pe_joined1 h) fun σ H Q q => ?_
      refine tFmt_mono (fun σ H Q Q' k h => tI_mono h k) (fun x H1 hx => ?_) (f_step q)
      obtain ⟨y, e, hy, q⟩ := hx
      rw [str_empty_append] at q
      rw [e]
      exact f_nil q
    | cons h2 r2 =>
      obtain ⟨ts, pj, k⟩ := (PFs.cons h (PFs.cons h2 r2)).pj
      exact PEimp (pe_joined pj) fun σ H Q q => k _ _ _ _ q
theorem pf_fmt {e : Expr} {p : PE} {pos : Pos} (h : L2.PE X e (tI G W (evalE cf p))) : L2.PE X (.FormattedValue e (-1) none pos) (tFmt (tI G W (evalE cf p))) := pe_fmt h
def fconOk (x : Str) : Expr → Bool
  | .Constant (.str y) _ _ => decide (x = y)
  | _ => false
theorem pf_con {x : Str} {e : Expr} (h : fconOk x e = true) : L2.PE X e (tFmt (tI G W (evalE cf (.con (.str x))))) := by
  unfold fconOk at h
  split at h
  · rw [decide_eq_true_eq] at h
    subst h
    refine PEimp pe_str fun σ H Q q => ?_
    have z := con_post (G := G) (W := W) (v := .str x) (fun s => by simp only [evalE]) (fun _ _ _ => .str _) q
    rcases z with ⟨y, e, _, q⟩ | ⟨i, e, _⟩
    · cases e; exact q
    · cases e
  · cases h
end
end MP
end
section
set_option Elab.async false
set_option linter.all false
set_option maxRecDepth 100000
set_option maxHeartbeats 2000000
/-! MP: targets, iterators -/
namespace MP
open PySem PySem.Spec PyProof.Rows L2

/-- what a statement may do to the heap: lists that are no data may change -/
structure StepS (as : List Addr) (fz : Addr → Prop) (H : Hp) (as' : List Addr) (fz' : Addr → Prop) (H' : Hp) : Prop where
  tups : ∀ b xs, H b = some (.tup xs) → H' b = some (.tup xs)
  frzs : ∀ b o u, H b = some (.frz o u) → H' b = some (.frz o u)
  fzs : ∀ b o, fz b → H b = some o → H' b = some o
  there : ∀ b, H b ≠ none → H' b ≠ none
  pre : ∃ r, as' = as ++ r
  newa : ∀ a, a ∈ as' → a ∈ as ∨ H a = none
  fzm : ∀ a, fz a → fz' a
section
variable {G : Gd} {as as' as'' : List Addr} {fz fz' fz'' : Addr → Prop} {H H' H'' : Hp} {B : Base} {W : WX} {σ : L2.St}
theorem Step.s (x : Step as fz H as' fz' H') : StepS as fz H as' fz' H' := ⟨x.tups, x.frzs, x.fzs, x.there, x.pre, x.newa, x.fzm⟩
theorem StepS.refl : StepS as fz H as fz H := Step.refl.s
theorem StepS.trans (x : StepS as fz H as' fz' H') (y : StepS as' fz' H' as'' fz'' H'') : StepS as fz H as'' fz'' H'' where
  tups := fun b xs e => y.tups b xs (x.tups b xs e)
  frzs := fun b o u e => y.frzs b o u (x.frzs b o u e)
  fzs := fun b o f e => y.fzs b o (x.fzm b f) (x.fzs b o f e)
  there := fun b e => y.there b (x.there b e)
  pre := by
    obtain ⟨r, e⟩ := x.pre
    obtain ⟨q, e'⟩ := y.pre
    exact ⟨r ++ q, by rw [e', e, List.append_assoc]⟩
  newa := fun a h => (y.newa a h).elim (x.newa a) fun z => .inr (by
    cases q : H a with
    | none => rfl
    | some o => exact absurd z (x.there a (by rw [q]; simp)))
  fzm := fun a h => y.fzm a (x.fzm a h)
theorem sqT_stepS {K : PySem.W.Frag} {a : Addr} {vs : List V} (h : SqT K H a vs) (x : StepS as fz H as' fz' H') : SqT K H' a vs := by
  rcases h with (r | ⟨o, r⟩) | h
  · exact .inl (.inl (x.tups a _ r))
  · exact .inl (.inr ⟨o, x.frzs a _ _ r⟩)
  · exact .inr h
mutual
theorem RepD.stepS (x : StepS as fz H as' fz' H') : ∀ (d : D) (v : V), RepD G as fz H v d → RepD G as' fz' H' v d
  | .non, _, h => by cases h; exact .non
  | .bl _, _, h => by cases h; exact .bl _
  | .int _, _, h => by cases h; exact .int _
  | .str _, _, h => by cases h; exact .str _
  | .tup ds, _, h => by
    cases h with
    | tup s r => exact .tup (sqT_stepS s x) (RepL.stepS x ds _ r)
  | .lst ds, _, h => by
    cases h with
    | lst f e r => exact .lst (x.fzm _ f) (x.fzs _ _ f e) (RepL.stepS x ds _ r)
  | .fn _, _, h => by cases h; exact .fn _
  | .ref i, _, h => by
    cases h with
    | ref e =>
      obtain ⟨r, q⟩ := x.pre
      refine .ref ?_
      rw [q, List.getElem?_append_left (List.getElem?_eq_some_iff.mp e).1]
      exact e
  | .scr ns, _, h => by
    cases h with
    | scr e l =>
      refine .scr ?_ l
      rcases e with ⟨o, h⟩ | h
      · exact .inl ⟨o, x.frzs _ _ _ h⟩
      · exact .inr h
theorem RepL.stepS (x : StepS as fz H as' fz' H') : ∀ (ds : List D) (vs : List V), RepL G as fz H vs ds → RepL G as' fz' H' vs ds
  | [], _, h => by cases h; exact .nil
  | d :: ds, _, h => by
    cases h with
    | cons a r => exact .cons (RepD.stepS x d _ a) (RepL.stepS x ds _ r)
end
/-! ### targets -/
mutual
def tvars : Tgt → List Nat
  | .nm i => [i]
  | .tp ts => tvarsL ts
def tvarsL : List Tgt → List Nat
  | [] => []
  | t :: ts => tvars t ++ tvarsL ts
end
theorem Sim.setVal {st : S} (x : Sim G B st as fz σ H) {i : Nat} {v : V} {d : D} (hi : i < st.loc.length) (r : RepD G as fz H v d) : Sim G B { st with loc := st.loc.set i (.val d) } as fz (σ.set i (some v)) H := by
  have hs : i < σ.length := by rw [x.l.len]; exact hi
  refine ⟨x.c, x.b, by rw [List.length_set, List.length_set]; exact x.l.len, fun j e h => ?_, fun j es h => ?_, fun j k es fs b hjk h1 h2 h3 => ?_⟩
  · by_cases hj : i = j
    · subst hj
      rw [List.getElem?_set_self hi] at h
      cases h
      exact ⟨v, by rw [List.getElem?_set_self hs], r⟩
    · rw [List.getElem?_set_ne hj] at h ⊢
      exact x.l.val j e h
  · by_cases hj : i = j
    · subst hj
      rw [List.getElem?_set_self hi] at h
      cases h
    · rw [List.getElem?_set_ne hj] at h ⊢
      exact x.l.own j es h
  · have d1 : i ≠ j := fun q => by subst q; rw [List.getElem?_set_self hi] at h1; cases h1
    have d2 : i ≠ k := fun q => by subst q; rw [List.getElem?_set_self hi] at h2; cases h2
    rw [List.getElem?_set_ne d1] at h1 h3
    rw [List.getElem?_set_ne d2] at h2 ⊢
    exact x.l.dist j k es fs b hjk h1 h2 h3
def Agree (vs : List Nat) (σ σ' : L2.St) : Prop := σ'.length = σ.length ∧ ∀ j, j ∉ vs → σ'[j]? = σ[j]?
def gI (G : Gd) (t : Tgt) : TG := fun v σ H Q => ∃ B as fz st d st', Sim G B st as fz σ H ∧ RepD G as fz H v d ∧ assign t d st = some st' ∧ ∀ σ', Sim G B st' as fz σ' H → Agree (tvars t) σ σ' → Q σ' H
def gIs (G : Gd) (ts : List Tgt) : TGs := fun vs σ H Q => ∃ B as fz st ds st', Sim G B st as fz σ H ∧ RepL G as fz H vs ds ∧ assignL ts ds st = some st' ∧ ∀ σ', Sim G B st' as fz σ' H → Agree (tvarsL ts) σ σ' → Q σ' H
end
mutual
def ckT (se : SE) : Tgt → Expr → Bool
  | .nm i, .Name x _ => decide (se.N[i]? = some x) && locN se x
  | .tp ts, .Tuple es _ _ => ckTs se ts es
  | _, _ => false
def ckTs (se : SE) : List Tgt → List Expr → Bool
  | [], [] => true
  | t :: ts, e :: es => ckT se t e && ckTs se ts es
  | _, _ => false
end
section
variable {T : Tab} {G : Gd} {cf : CF} {n : Nat} {se : SE} {X : Cx} {W : WX} {σ : L2.St} {H : Hp} {Q : VK} {p : Prim} {ps : PL}
theorem ckT_star {t : Tgt} {e : Expr} (h : ckT se t e = true) : starred e = false := by
  cases e <;> first | rfl | (cases t <;> simp [ckT] at h)
theorem asg_cons {e : Expr} {es : List Expr} {env : Env} (h : starred e = false) : assignEach (e :: es) env = (false, PySem.assign e env) :: assignEach es env := by
  cases e <;> first | rfl | exact absurd h (by simp [starred])
theorem ckTs_len : ∀ {ts : List Tgt} {es : List Expr} {env : Env}, ckTs se ts es = true → (assignEach es env).length = ts.length ∧ (assignEach es env).findIdx? (·.1) = none
  | [], [], _, _ => ⟨rfl, rfl⟩
  | t :: ts, e :: es, env, h => by
    simp only [ckTs, Bool.and_eq_true] at h
    obtain ⟨i1, i2⟩ := ckTs_len (env := env) h.2
    rw [asg_cons (ckT_star h.1)]
    refine ⟨by rw [List.length_cons, i1, List.length_cons], ?_⟩
    rw [List.findIdx?_cons]
    simp [i2]
  | [], _ :: _, _, h => by simp [ckTs] at h
  | _ :: _, [], _, h => by simp [ckTs] at h
theorem RepL.len_eq {G : Gd} {as : List Addr} {fz : Addr → Prop} {H : Hp} {vs : List V} {ds : List D} (h : RepL G as fz H vs ds) : vs.length = ds.length := h.length
theorem assignL_len : ∀ {ts : List Tgt} {ds : List D} {s s' : S}, assignL ts ds s = some s' → ds.length = ts.length
  | [], [], _, _, _ => rfl
  | t :: ts, d :: ds, s, s', h => by
    rw [assignL] at h
    cases e : MP.assign t d s with
    | none => rw [e] at h; cases h
    | some s1 =>
      rw [e] at h
      rw [List.length_cons, List.length_cons, assignL_len (show assignL ts ds s1 = some s' from h)]
  | [], _ :: _, _, _, h => by simp [assignL] at h
  | _ :: _, [], _, _, h => by simp [assignL] at h
mutual
theorem pg_ckT (c : Cok T G cf n se X) : ∀ (t : Tgt) (e : Expr), ckT se t e = true → L2.PG X e (gI G t)
  | .nm i, e, h => by
    cases e <;> try (simp [ckT] at h; done)
    rename_i x pos
    simp only [ckT, Bool.and_eq_true, decide_eq_true_eq] at h
    obtain ⟨l1, l2⟩ := c.loc h.2
    have g : L2.PG X (.Name x pos) (gName i) := pg_name (by rw [c.N]; exact c.nd) (by rw [c.N]; exact h.1) l1 l2
    refine ⟨fun pins s σ H v u Q I r hw => g.run pins s σ H v u Q I r ?_⟩
    obtain ⟨B, as, fz, st, d, st', sim, rd, ha, k⟩ := hw
    rw [MP.assign] at ha
    split at ha
    · rename_i hi
      cases ha
      refine k _ (sim.setVal hi rd) ⟨by rw [List.length_set], fun j hj => ?_⟩
      have hj : j ∉ [i] := hj
      rw [List.getElem?_set_ne (fun e => hj (by simp [e]))]
    · cases ha
  | .tp ts, e, h => by
    cases e <;> try (simp [ckT] at h; done)
    rename_i es k pos
    simp only [ckT] at h
    obtain ⟨i1, i2⟩ := ckTs_len (env := X.env) h
    have g : L2.PG X (.Tuple es k pos) (gTup X.K ts.length (gIs G ts)) := pg_tup c.calm (pg_ckTs c ts es h) i1 i2
    refine ⟨fun pins s σ H v u Q I r hw => g.run pins s σ H v u Q I r ?_⟩
    obtain ⟨B, as, fz, st, d, st', sim, rd, ha, k⟩ := hw
    cases d with
    | tup ds =>
      cases rd with
      | tup sq rl =>
        rw [MP.assign] at ha
        exact ⟨_, _, rfl, c.K ▸ sq, by rw [rl.length]; exact assignL_len ha, B, as, fz, st, ds, st', sim, rl, ha, k⟩
    | _ => simp [MP.assign] at ha
theorem pg_ckTs (c : Cok T G cf n se X) : ∀ (ts : List Tgt) (es : List Expr), ckTs se ts es = true → PGs X es (gIs G ts)
  | [], es, h => by
    cases es with
    | nil =>
      refine ⟨fun pins s σ H vs us Q I r hw => pgs_nil.run pins s σ H vs us Q I r ?_⟩
      obtain ⟨B, as, fz, st, ds, st', sim, rl, ha, k⟩ := hw
      have l := assignL_len ha
      cases ds with
      | nil =>
        cases rl
        rw [assignL] at ha
        cases ha
        exact ⟨rfl, k σ sim ⟨rfl, fun _ _ => rfl⟩⟩
      | cons d ds => simp at l
    | cons e es => simp [ckTs] at h
  | t :: ts, es, h => by
    cases es with
    | nil => simp [ckTs] at h
    | cons e es =>
      simp only [ckTs, Bool.and_eq_true] at h
      have g := pgs_cons (pg_ckT c t e h.1) (pg_ckTs c ts es h.2) (by rw [asg_cons (ckT_star h.1)]; rfl)
      refine ⟨fun pins s σ H vs us Q I r hw => g.run pins s σ H vs us Q I r ?_⟩
      obtain ⟨B, as, fz, st, ds, st', sim, rl, ha, k⟩ := hw
      have l := assignL_len ha
      cases ds with
      | nil => simp at l
      | cons d ds =>
        cases rl with
        | cons rd rl =>
          rw [assignL] at ha
          cases e1 : MP.assign t d st with
          | none => rw [e1] at ha; cases ha
          | some st1 =>
            rw [e1] at ha
            refine ⟨_, _, rfl, B, as, fz, st, d, st1, sim, rd, e1, fun σ1 sim1 a1 => ⟨B, as, fz, st1, ds, st', sim1, rl, ha, fun σ2 sim2 a2 => k σ2 sim2 ⟨by rw [a2.1, a1.1], fun j hj => ?_⟩⟩⟩
            have hj : j ∉ tvars t ++ tvarsL ts := hj
            rw [List.mem_append, not_or] at hj
            rw [a2.2 j hj.2, a1.2 j hj.1]
end
end
end MP
end
section
set_option Elab.async false
set_option linter.all false
set_option maxRecDepth 100000
/-! MP: enumerate of a tuple -/
namespace MPE
open PySem
open Sem (wp)
set_option maxHeartbeats 1000000 in
theorem enum_newB1 {v : Value} {o : Obj} {H : Heap → Prop} (B : Begins v o H) :
    Meets (Builtin.«enumerate.__new__» ⟨[.type "enumerate", v], []⟩) (fun _ R s => H s.heap ∧
      R (.ok (.ret (.ref (s.heap.push o).objs.size))) { s with heap := (s.heap.push o).push { cls := .type "enumerate", data := .fields #[.none, .bool false, .ref s.heap.objs.size, rawInt 0, .none, .none] } }) :=
  .of_wp fun prog w A R s h => by
    obtain ⟨hp, g, d, tk, os⟩ := s; obtain ⟨h1, h⟩ := h
    have hsub := sub_enumerate
    have q1 : ∀ {A' : Around} {E : Value → Shared → Prop} {Q : Value → Shared → Prop}, Q (.ref hp.objs.size) ⟨hp.push o, g, d, tk, os⟩ → wpAny (model prog w) A' (pyIter v) Q E ⟨hp, g, d, tk, os⟩ :=
      fun q => B.iter prog w _ _ ⟨hp, g, d, tk, os⟩ _ h1 q
    wp_walk using q1
    refine wpAny_stack_any fun st => wpAny_pure ?_
    split
    · rename_i c _ _ _ _ _
      cases (c == Value.type "enumerate")
      · wp_walk using q1
        exact ⟨_, rfl, h⟩
      · wp_walk using q1
        exact ⟨_, rfl, h⟩
    · wp_walk using q1
      exact ⟨_, rfl, h⟩
section
variable {prog : Program} {w : World} {A : Around} {E : Value → Shared → Prop} {s : Shared}
theorem enum_start1 {v : Value} {o : Obj} {H : Heap → Prop} {Q : Value → Shared → Prop} (B : Begins v o H) (h1 : H s.heap)
    (h : ∀ h', IsEnum h' (s.heap.objs.size + 1) s.heap.objs.size 0 .none → h'.get? s.heap.objs.size = some o → h'.objs.size = s.heap.objs.size + 2 →
      (∀ b o, s.heap.get? b = some o → h'.get? b = some o) → Q (.ref (s.heap.objs.size + 1)) { s with heap := h' }) :
    wpAny (model prog w) A (call (.type "enumerate") [v]) Q E s := by
  refine callType_new F.called_enumerate (by decide) (F.typeCall_enumerate_1 _) (F.newCall_enumerate_1 _) (fun obj => F.args_object_init_2 obj _) F.entry_enumerate_new
    (enum_newB1 B) ⟨h1, ?_⟩
  have hz : (s.heap.push o).objs.size = s.heap.objs.size + 1 := Heap.size_push ..
  show _ ∧ _
  rw [hz]
  have he : IsEnum ((s.heap.push o).push { cls := .type "enumerate", data := .fields #[.none, .bool false, .ref s.heap.objs.size, rawInt 0, .none, .none] }) (s.heap.objs.size + 1) s.heap.objs.size 0 .none := by
    have := Heap.get?_push_size (s.heap.push o) (o := { cls := .type "enumerate", data := .fields #[.none, .bool false, .ref s.heap.objs.size, rawInt 0, .none, .none] }) rfl
    rw [hz] at this; exact this
  refine ⟨⟨_, he, rfl⟩, h _ he (Heap.get?_push_of_some _ (Heap.get?_push_size _ B.free)) (by rw [Heap.size_push, hz]) fun b o x => Heap.get?_push_of_some _ (Heap.get?_push_of_some _ x)⟩
end
end MPE
namespace MP
open PySem PySem.Spec PyProof.Rows L2
/-- the tuple at a, each item in a new pair -/
def IteT (K : PySem.W.Frag) (a : Addr) : It :=
  ⟨fun i H => ∃ (xs : List V) (x : V), SqT K H a xs ∧ xs[i]? = some x, fun i H v H' => ∃ T x, v = .ref T ∧ H T = none ∧ H' = upd H T (.tup [.int (i : Nat), x]) ∧ ∀ xs, SqT K H a xs → xs[i]? = some x, fun i H => ∃ xs : List V, SqT K H a xs ∧ xs.length = i⟩
theorem tup_ne_enum {h : Heap} {a e it : Addr} {its : Array Value} {i : Int} {old : Value} (ht : IsTup h a its) (he : IsEnum h e it i old) : a ≠ e := fun z => by
  subst z
  obtain ⟨o, e1, c, _⟩ := ht
  rw [show h.get? a = _ from he] at e1
  cases e1
  exact absurd (show Value.type "enumerate" = Value.type "tuple" from c) (by decide)
theorem tup_ne_iter {h : Heap} {a t it : Addr} {its : Array Value} {i : Nat} (ht : IsTup h a its) (hi : h.IsTupleIter it t i) : a ≠ it := fun z => by
  subst z
  obtain ⟨o, e1, c, _⟩ := ht
  obtain ⟨o', e2, c', _⟩ := hi
  rw [e1] at e2
  cases e2
  rw [c] at c'
  exact absurd c' (by decide)
theorem turn_enumT {P : Program} {w : World} {K : PySem.W.Frag} {elts : List Expr} {kk : Nat} {tpos : Pos} (a e it : Addr) :
    Turn P w K (.Tuple elts kk tpos) (IteT K a) [e, it] e (fun i h => (∃ old, IsEnum h e it ((i : Nat) : Int) old) ∧ h.IsTupleIter it a i ∧ e ≠ it) where
  mem := by simp
  obj := fun i h st b hb => by
    obtain ⟨⟨old, he⟩, ⟨o, ho, hc, hd⟩, _⟩ := st
    have e' : b = e ∨ b = it := by simpa using hb
    rcases e' with z | z
    · rw [z]; exact ⟨_, he, fun v q => nomatch q⟩
    · rw [z]; exact ⟨o, ho, fun v q => by rw [hd] at q; cases q⟩
  keep := fun i h h' st k => let ⟨⟨old, he⟩, hi, hne⟩ := st; ⟨⟨old, k e (by simp) _ he⟩, hi.at fun o q => k it (by simp) o q, hne⟩
  item := by
    intro X hP hw hK hc i pins s σ H E I hf st hg
    subst hP hw hK
    obtain ⟨⟨old, he⟩, hit, hne⟩ := st
    obtain ⟨xs, x, hq, hx⟩ := hg
    obtain ⟨its, rv, p, hz⟩ := I.tuple hq
    obtain ⟨u, hu, ru⟩ := rv.get hx
    have hel : e < s.heap.objs.size := Heap.lt_size he
    have hil : it < s.heap.objs.size := by obtain ⟨_, q, _⟩ := hit; exact Heap.lt_size q
    have nae := tup_ne_enum p he
    have nai := tup_ne_iter p hit
    have pt : s.heap.IsTuple a its.toArray := p
    refine wpAny_pyNext_enum_itemD (Draws.tuple (show X.A.in1.handled = none from I.ok.hd hc) it a nai its.toArray) he ⟨hit, pt⟩ (by
      have := (List.getElem?_eq_some_iff.mp hu).1
      simpa using this) hne (by simp [hne, Ne.symm nae]) fun y h' tk hP ho st' hT hsz hk => ?_
    have hy : u = y := by
      have h1 : its.toArray[i]? = some y := hP
      rw [show its.toArray[i]? = some u by simpa using hu] at h1
      exact Option.some.inj h1
    subst hy
    obtain ⟨hit', _⟩ := st'
    refine ⟨_, rfl, wpAny_letOwnedTupleGo_enum (s := { s with heap := h', toks := tk + 1 }) ho fun h'' he' sb => ?_⟩
    have hT2 : h''.get? s.heap.objs.size = some { cls := .type "tuple", data := .seq #[.int i tk, u] } := (sb.2 _ (Nat.ne_of_gt hel)).trans hT
    have new : ObjOk X.prog X.w (upd H s.heap.objs.size (.tup [.int (i : Nat), x])) h'' s.heap.objs.size (.tup [.int (i : Nat), x]) :=
      ⟨by show 2 ≤ sizeLine; decide, [.int i tk, u], .cons ⟨_, rfl⟩ (.cons ru .nil), ⟨_, hT2, rfl, _, rfl⟩⟩
    have I1 : Inv X pins σ (upd H s.heap.objs.size (.tup [.int (i : Nat), x])) { s with heap := h'', toks := tk + 1 } :=
      I.turnedNew (ch := [e, it]) (fun b ob hb q => (sb.2 b (fun z => hb (by simp [z]))).trans (hk b ob (fun z => hb (by simp [z])) (fun z => hb (by simp [z])) q)) hf (Nat.le_refl _) new
    refine ⟨.ref s.heap.objs.size, _, I1, rfl, ⟨_, x, rfl, I.hok.fresh (Nat.le_refl _), rfl, fun ys hy => by rw [I.tuple_inj hy hq]; exact hx⟩, ⟨⟨u, ?_⟩, hit'.at fun o q => (sb.2 it (Ne.symm hne)).trans q, hne⟩, fun b hb => ?_⟩
    · have e1 : ((i + 1 : Nat) : Int) = (i : Int) + 1 := by omega
      rw [e1]; exact he'
    · have hb' : b < s.heap.objs.size := by
        have e' : b = e ∨ b = it := by simpa using hb
        rcases e' with z | z
        · rw [z]; exact hel
        · rw [z]; exact hil
      rw [upd_ne (Nat.ne_of_lt hb')]
      exact (hf b hb).1
  done := by
    intro X hP hw hK hc i pins s σ H E I hf st hg
    subst hP hw hK
    obtain ⟨⟨old, he⟩, hit, hne⟩ := st
    obtain ⟨xs, hq, hx⟩ := hg
    obtain ⟨its, rv, p, hz⟩ := I.tuple hq
    obtain ⟨f0, f1, f2, f3, f4, f5⟩ := hf it (by simp)
    have hl := rv.length
    have nai := tup_ne_iter p hit
    have e1 : i = its.toArray.size := by rw [List.size_toArray, ← hl, hx]
    subst e1
    exact wpAny_pyNext_enum_endD (Draws.tuple (show X.A.in1.handled = none from I.ok.hd hc) it a nai its.toArray) he ⟨hit, p⟩ fun h' eb => ⟨rfl, I.turned (t' := s.toks) (fun b o hb q => eb b o hb q) f0 f1 f3 f4 f5⟩
  self := fun A i s Q E st h => let ⟨⟨_, he⟩, _⟩ := st; wpAny_pyIter_enum he h
theorem walk_enumT {K : PySem.W.Frag} {a : Addr} {xs : List V} : Walk (IteT K a) xs.length (fun H => SqT K H a xs) (YPair (fun i => some (.int (i : Nat))) (fun i => xs[i]?)) := by
  refine ⟨fun i _ hi q => ⟨xs, xs[i], q, by simp [hi]⟩, fun _ q => ⟨xs, q, rfl⟩, fun i H v H' _ q y => ?_⟩
  obtain ⟨T, x, h1, h2, h3, h4⟩ := y
  exact ⟨T, .int (i : Nat), x, h1, h2, h3, rfl, h4 xs q⟩
def iEnumT (K : PySem.W.Frag) (ta : TA) : TI := fun σ H R => ta σ H fun vs H1 => ∃ a xs, vs = [.ref a] ∧ SqT K H1 a xs ∧ R (IteT K a) H1
theorem bt_enum : bootBuiltins "enumerate" = some (.type "enumerate") := by decide +kernel
theorem pi_enumT {X : Cx} {e : Expr} {ta : TA} {p pos tpos : Pos} {elts : List Expr} {kk : Nat} (hg : Gl X "enumerate") (hm : X.mg "enumerate" = none) (ha : L2.PA X [e] ta) (hs : starEach [e] X.env = [(false, eval e X.env)]) :
    L2.PI X (.Tuple elts kk tpos) (.Call (.Name "enumerate" p) [e] [] pos) (iEnumT X.K ta) := by
  refine ⟨fun pins s σ H R I h => ?_⟩
  refine Call_ (ld_blt I hg hm bt_enum (PyProof.Rows.callWith_type1 (thn (ha.run pos pins s σ H _ I h) fun us s1 ⟨vs, H1, I1, r1, q1⟩ => ?_) hs rfl))
  obtain ⟨a, xs, ex, hq, q⟩ := q1
  subst ex
  cases r1 with
  | cons r rr =>
    cases rr
    cases r
    obtain ⟨its, rv, p', hz⟩ := I1.tuple hq
    refine MPE.enum_start1 (begins_tuple a its.toArray) p' fun h' he hit hsz hk => wpAny_pyIter_enum he ?_
    have I2 : Inv X pins σ H1 { s1 with heap := h' } := I1.kept (t' := s1.toks) hk
    refine ⟨s1.heap.objs.size + 1, [s1.heap.objs.size + 1, s1.heap.objs.size], _, _, H1, rfl, I2, turn_enumT a (s1.heap.objs.size + 1) s1.heap.objs.size, ⟨⟨.none, he⟩, ⟨_, hit, rfl, rfl⟩, Nat.succ_ne_self _⟩, fun b hb => ?_, q⟩
    have e' : b = s1.heap.objs.size + 1 ∨ b = s1.heap.objs.size := by simpa using hb
    have hle : s1.heap.objs.size ≤ b := by
      rcases e' with z | z
      · rw [z]; exact Nat.le_add_right _ _
      · rw [z]; exact Nat.le_refl _
    exact I1.fpOk hle (I1.hok.fresh hle)
end MP
end
section
set_option Elab.async false
set_option linter.all false
set_option maxRecDepth 100000
set_option maxHeartbeats 2000000
/-! MP: iterators -/
namespace MP
open PySem PySem.Spec PyProof.Rows L2
section
variable {T : Tab} {G : Gd} {cf : CF} {n : Nat} {se : SE} {X : Cx} {W : WX} {σ : L2.St} {H : Hp} {as : List Addr} {fz : Addr → Prop} {lp : Bool}
def Later (lp : Bool) (as : List Addr) (fz : Addr → Prop) (H : Hp) (as2 : List Addr) (fz2 : Addr → Prop) (H2 : Hp) : Prop := StepS as fz H as2 fz2 H2 ∧ (lp = false → Step as fz H as2 fz2 H2)
/-- what walks along the data xs, as long as the heap goes on so -/
def ItOk (G : Gd) (lp : Bool) (J : It) (xs : List D) (as : List Addr) (fz : Addr → Prop) (H : Hp) : Prop :=
  ∃ (Gs : Hp → Prop) (Y : Nat → Hp → V → Hp → Prop), Walk J xs.length Gs Y ∧ (∀ as2 fz2 H2, Later lp as fz H as2 fz2 H2 → Gs H2) ∧
    ∀ as2 fz2 H2 i x H3 d, Later lp as fz H as2 fz2 H2 → xs[i]? = some d → Y i H2 x H3 → ∃ fz3, Grow fz2 H2 fz3 H3 ∧ RepD G as2 fz3 H3 x d
def wI (G : Gd) (W : WX) (lp : Bool) (m : S → Out (List D)) : TI :=
  fun σ H R => ∃ B as fz st, Sim G B st as fz σ H ∧ Post G B W σ (m st) (fun xs _ as1 fz1 H1 => ∀ J, ItOk G lp J xs as1 fz1 H1 → R J H1) as fz H
theorem itok_tup {K : PySem.W.Frag} {a : Addr} {vs : List V} {ds : List D} (sq : SqT K H a vs) (rl : RepL G as fz H vs ds) : ItOk G lp (Itt K a) ds as fz H := by
  refine ⟨fun H => SqT K H a vs, YAt vs, by rw [← rl.length]; exact walk_tup, fun as2 fz2 H2 l => sqT_stepS sq l.1, fun as2 fz2 H2 i x H3 d l e y => ?_⟩
  obtain ⟨v, e1, r⟩ := rl.get e
  obtain ⟨e2, e3⟩ := y
  subst e2
  rw [e1] at e3
  cases e3
  exact ⟨fz2, .refl, RepD.stepS l.1 _ _ r⟩
theorem itok_lst {K : PySem.W.Frag} {a : Addr} {vs : List V} {ds : List D} (he : H a = some (.lst vs)) (hz : fz a ∨ (lp = false ∧ a ∉ as)) (rl : RepL G as fz H vs ds) : ItOk G lp (Itl K a) ds as fz H := by
  refine ⟨fun H => SqL K H a vs, YAt vs, by rw [← rl.length]; exact walk_list, fun as2 fz2 H2 l => ?_, fun as2 fz2 H2 i x H3 d l e y => ?_⟩
  · rcases hz with hz | ⟨h1, h2⟩
    · exact SqL.of (l.1.fzs _ _ hz he)
    · exact SqL.of ((l.2 h1).fr _ _ he h2)
  · obtain ⟨v, e1, r⟩ := rl.get e
    obtain ⟨e2, e3⟩ := y
    subst e2
    rw [e1] at e3
    cases e3
    exact ⟨fz2, .refl, RepD.stepS l.1 _ _ r⟩
theorem itok_str {x : Str} : ItOk G lp (Its x) (x.cps.toList.map fun c => .str ⟨#[c]⟩) as fz H := by
  refine ⟨fun _ => True, _, by rw [List.length_map, Array.length_toList]; exact walk_str, fun _ _ _ _ => trivial, fun as2 fz2 H2 i v H3 d l e y => ?_⟩
  obtain ⟨e2, c, e3, e4⟩ := y
  subst e2 e4
  rw [List.getElem?_map, Array.getElem?_toList, e3] at e
  cases e
  exact ⟨fz2, .refl, .str _⟩
theorem itok_rng {lo : Int} {k : Nat} : ItOk G lp (Itr lo k) ((List.range k).map fun j => .int (lo + (j : Nat))) as fz H := by
  refine ⟨fun _ => True, _, by rw [List.length_map, List.length_range]; exact walk_range, fun _ _ _ _ => trivial, fun as2 fz2 H2 i v H3 d l e y => ?_⟩
  obtain ⟨e2, e3⟩ := y
  subst e2 e3
  rw [List.getElem?_map] at e
  cases e1 : (List.range k)[i]? with
  | none => rw [e1] at e; cases e
  | some j =>
    rw [e1] at e
    cases e
    have := List.getElem?_eq_some_iff.mp e1
    obtain ⟨h1, h2⟩ := this
    rw [List.getElem_range] at h2
    subst h2
    exact ⟨fz2, .refl, .int _⟩
theorem itok_rngC {lo c : Int} {k : Nat} : ItOk G lp (Itc lo c k) ((List.range k).map fun j => .int (lo + (j : Nat) * c)) as fz H := by
  refine ⟨fun _ => True, _, by rw [List.length_map, List.length_range]; exact walk_rangeC, fun _ _ _ _ => trivial, fun as2 fz2 H2 i v H3 d l e y => ?_⟩
  obtain ⟨e2, e3⟩ := y
  subst e2 e3
  rw [List.getElem?_map] at e
  cases e1 : (List.range k)[i]? with
  | none => rw [e1] at e; cases e
  | some j =>
    rw [e1] at e
    cases e
    obtain ⟨h1, h2⟩ := List.getElem?_eq_some_iff.mp e1
    rw [List.getElem_range] at h2
    subst h2
    exact ⟨fz2, .refl, .int _⟩
theorem enumL_length : ∀ (k : Nat) (ds : List D), (enumL k ds).length = ds.length
  | _, [] => rfl
  | k, d :: ds => by rw [enumL, List.length_cons, enumL_length (k + 1) ds, List.length_cons]
theorem enumL_get : ∀ {k i : Nat} {ds : List D} {d : D}, (enumL k ds)[i]? = some d → ∃ e, ds[i]? = some e ∧ d = .tup [.int ((k + i : Nat) : Int), e]
  | k, i, [], d, h => by simp [enumL] at h
  | k, 0, e :: ds, d, h => by
    simp [enumL] at h
    exact ⟨e, rfl, h.symm⟩
  | k, i + 1, e :: ds, d, h => by
    rw [enumL, List.getElem?_cons_succ] at h
    obtain ⟨e', h1, h2⟩ := enumL_get h
    refine ⟨e', by rw [List.getElem?_cons_succ]; exact h1, ?_⟩
    rw [h2]
    congr 3
    omega
theorem enum_rep {vs : List V} {ds : List D} {as2 : List Addr} {fz2 : Addr → Prop} {H2 H3 : Hp} {i : Nat} {x : V} {d : D} (rl : RepL G as2 fz2 H2 vs ds) (e : (enumL 0 ds)[i]? = some d) (y : YPair (fun i => some (.int (i : Nat))) (fun i => vs[i]?) i H2 x H3) : ∃ fz3, Grow fz2 H2 fz3 H3 ∧ RepD G as2 fz3 H3 x d := by
  obtain ⟨e', h1, h2⟩ := enumL_get e
  obtain ⟨v, e1, r⟩ := rl.get h1
  obtain ⟨p, a, b, rfl, hn, rfl, h3, h4⟩ := y
  have h4 : vs[i]? = some b := h4
  rw [e1] at h4
  cases h4
  have h3 : some (V.int (i : Nat)) = some a := h3
  cases h3
  subst h2
  have g : Grow fz2 H2 fz2 (upd H2 p (.tup [.int (i : Nat), v])) := grow_new hn
  refine ⟨fz2, g, .tup (.of upd_same) (.cons ?_ (.cons (RepD.step (g.simB (as := as2)).step _ _ r) .nil))⟩
  rw [Nat.zero_add]
  exact .int _
theorem itok_enumT {K : PySem.W.Frag} {a : Addr} {vs : List V} {ds : List D} (sq : SqT K H a vs) (rl : RepL G as fz H vs ds) : ItOk G lp (IteT K a) (enumL 0 ds) as fz H :=
  ⟨fun H => SqT K H a vs, _, by rw [enumL_length, ← rl.length]; exact walk_enumT, fun as2 fz2 H2 l => sqT_stepS sq l.1, fun as2 fz2 H2 i x H3 d l e y => enum_rep (RepL.stepS l.1 _ _ rl) e y⟩
theorem itok_enumL {K : PySem.W.Frag} {a : Addr} {vs : List V} {ds : List D} (he : H a = some (.lst vs)) (hz : fz a ∨ (lp = false ∧ a ∉ as)) (rl : RepL G as fz H vs ds) : ItOk G lp (Ite K a) (enumL 0 ds) as fz H := by
  refine ⟨fun H => SqL K H a vs, _, by rw [enumL_length, ← rl.length]; exact walk_enum, fun as2 fz2 H2 l => ?_, fun as2 fz2 H2 i x H3 d l e y => enum_rep (RepL.stepS l.1 _ _ rl) e y⟩
  rcases hz with hz | ⟨h1, h2⟩
  · exact SqL.of (l.1.fzs _ _ hz he)
  · exact SqL.of ((l.2 h1).fr _ _ he h2)
/-! ### the rules -/
theorem evalI_seq (cf : CF) (p : PE) (s : S) : evalI cf (.seq p) s = (ev1 cf p s).bind fun d s' => match itemsOf d with
    | some xs => .ok xs s'
    | none => .bad := by
  cases p <;> (simp only [evalI, ev1] <;> rfl)
theorem evalI_enum (cf : CF) (p : PE) (s : S) : evalI cf (.enum p) s = (ev1 cf p s).bind fun d s' => match seqOf d with
    | some xs => .ok (enumL 0 xs) s'
    | none => .bad := by
  cases p <;> (simp only [evalI, ev1] <;> rfl)
def notPeek : PE → Bool
  | .peek _ => false
  | _ => true
theorem ev1_np {p : PE} (h : notPeek p = true) : ev1 cf p = evalE cf p := by
  funext s
  cases p <;> first | rfl | exact absurd h (by simp [notPeek]) | simp only [ev1]
theorem tO_of {p : PE} {e : Expr} (h : notPeek p = true) (z : L2.PE X e (tI G W (evalE cf p))) : L2.PE X e (tO G W (ev1 cf p)) := by
  rw [ev1_np h]
  refine PEimp z fun σ H Q ⟨B, as, fz, st, sim, q⟩ => ⟨B, as, fz, st, sim, q.mono fun d st1 as1 fz1 H1 s1 m1 p1 v rv => p1 v (.dat rv)⟩
/-- the operand of a walk: what an operand may be where the heap goes on as lp says -/
def RepW (G : Gd) (lp : Bool) (as : List Addr) (fz : Addr → Prop) (H : Hp) (v : V) (d : D) : Prop := RepD G as fz H v d ∨ (lp = false ∧ RepO G as fz H v d)
def opW (lp : Bool) (p : PE) : Bool := !lp || notPeek p
theorem RepW.tup {v : V} {ds : List D} (h : RepW G lp as fz H v (.tup ds)) : ∃ a vs, v = .ref a ∧ SqT G.K H a vs ∧ RepL G as fz H vs ds := by
  rcases h with h | ⟨_, h⟩
  · cases h with
    | tup s r => exact ⟨_, _, rfl, s, r⟩
  · cases h with
    | dat h =>
      cases h with
      | tup s r => exact ⟨_, _, rfl, s, r⟩
theorem RepW.lst {v : V} {ds : List D} (h : RepW G lp as fz H v (.lst ds)) : ∃ a vs, v = .ref a ∧ H a = some (.lst vs) ∧ (fz a ∨ (lp = false ∧ a ∉ as)) ∧ RepL G as fz H vs ds := by
  rcases h with h | ⟨hl, h⟩
  · cases h with
    | lst f e r => exact ⟨_, _, rfl, e, .inl f, r⟩
  · cases h with
    | dat h =>
      cases h with
      | lst f e r => exact ⟨_, _, rfl, e, .inl f, r⟩
    | lst na e r => exact ⟨_, _, rfl, e, .inr ⟨hl, na⟩, r⟩
theorem RepW.str {v : V} {x : Str} (h : RepW G lp as fz H v (.str x)) : v = .str x := by
  rcases h with h | ⟨_, h⟩
  · cases h; rfl
  · cases h with
    | dat h => cases h; rfl
/-- an operand in a walk -/
def tW (G : Gd) (lp : Bool) (W : WX) (m : S → Out D) : TE := tX (RepW G lp) G W m
theorem tW_of {p : PE} {e : Expr} (h : opW lp p = true) (z : L2.PE X e (tO G W (ev1 cf p))) (z2 : notPeek p = true → L2.PE X e (tI G W (evalE cf p))) : L2.PE X e (tW G lp W (ev1 cf p)) := by
  cases lp with
  | false => exact PEimp z fun σ H Q ⟨B, as, fz, st, sim, q⟩ => ⟨B, as, fz, st, sim, q.mono fun d st1 as1 fz1 H1 s1 m1 p1 v rv => p1 v (.inr ⟨rfl, rv⟩)⟩
  | true =>
    have hp : notPeek p = true := by simpa [opW] using h
    rw [ev1_np hp]
    exact PEimp (z2 hp) fun σ H Q ⟨B, as, fz, st, sim, q⟩ => ⟨B, as, fz, st, sim, q.mono fun d st1 as1 fz1 H1 s1 m1 p1 v rv => p1 v (.inl rv)⟩
theorem pi_seqI (c : Cok T G cf n se X) {tg e : Expr} {p : PE} (h : L2.PE X e (tW G lp W (ev1 cf p))) : L2.PI X tg e (wI G W lp (evalI cf (.seq p))) := by
  refine ⟨fun pins s σ H R I ⟨B, as, fz, st, sim, q⟩ => ?_⟩
  rw [evalI_seq] at q
  have q := q.bind
  cases ev : ev1 cf p st with
  | bad => rw [ev] at q; exact q.elim
  | exc k t =>
    rw [ev] at q
    refine (pi_list (tg := tg) h).run pins s σ H R I ⟨B, as, fz, st, sim, ?_⟩
    rw [ev]
    exact q
  | ok d st1 =>
    rw [ev] at q
    have key : ∀ {Q' : VK}, (∀ as1 fz1 H1 v xs, itemsOf d = some xs → (∀ J, ItOk G lp J xs as1 fz1 H1 → R J H1) → RepW G lp as1 fz1 H1 v d → Q' v H1) → tW G lp W (ev1 cf p) σ H Q' := fun k => by
      refine ⟨B, as, fz, st, sim, ?_⟩
      rw [ev]
      intro as1 fz1 H1 s1 m1 v rv
      have z := q as1 fz1 H1 s1 m1
      dsimp only at z
      cases ei : itemsOf d with
      | none => rw [ei] at z; exact z.elim
      | some xs =>
        rw [ei] at z
        exact k as1 fz1 H1 v xs ei (z as1 fz1 H1 .refl m1) rv
    cases d with
    | tup ds =>
      refine (pi_tup (tg := tg) h).run pins s σ H R I (key fun as1 fz1 H1 v xs e1 k rv => ?_)
      cases e1
      obtain ⟨a, vs, rfl, sq, rl⟩ := rv.tup
      exact ⟨a, rfl, ⟨vs, c.K ▸ sq⟩, k _ (itok_tup (c.K ▸ sq) rl)⟩
    | lst ds =>
      refine (pi_list (tg := tg) h).run pins s σ H R I (key fun as1 fz1 H1 v xs e1 k rv => ?_)
      cases e1
      obtain ⟨a, vs, rfl, he, hz, rl⟩ := rv.lst
      exact ⟨a, rfl, ⟨vs, SqL.of he⟩, k _ (itok_lst he hz rl)⟩
    | str x =>
      refine (pi_str (tg := tg) h).run pins s σ H R I (key fun as1 fz1 H1 v xs e1 k rv => ?_)
      cases e1
      exact ⟨x, rv.str, k _ itok_str⟩
    | _ => exact (pi_list (tg := tg) h).run pins s σ H R I (key fun as1 fz1 H1 v xs e1 k rv => by cases e1)
theorem pi_enumI (c : Cok T G cf n se X) {elts : List Expr} {kk : Nat} {tpos p1 pos : Pos} {e : Expr} {p : PE} (hg : gloN se "enumerate" = true) (hm : ("enumerate" : Str) ∈ T.blts) (hs : starred e = false) (h : L2.PE X e (tW G lp W (ev1 cf p))) :
    L2.PI X (.Tuple elts kk tpos) (.Call (.Name "enumerate" p1) [e] [] pos) (wI G W lp (evalI cf (.enum p))) := by
  refine ⟨fun pins s σ H R I ⟨B, as, fz, st, sim, q⟩ => ?_⟩
  have hst : starEach [e] X.env = [(false, eval e X.env)] := star_cons hs
  have pa : L2.PA X [e] (tCons (tW G lp W (ev1 cf p)) tNil) := pa_cons h pa_nil hst
  rw [evalI_enum] at q
  have q := q.bind
  cases ev : ev1 cf p st with
  | bad => rw [ev] at q; exact q.elim
  | exc k t =>
    rw [ev] at q
    refine (pi_enum (kk := kk) (tpos := tpos) (elts := elts) (p := p1) (pos := pos) (c.glo hg) (c.blts _ hm) pa hst).run pins s σ H R I ⟨B, as, fz, st, sim, ?_⟩
    rw [ev]
    exact q
  | ok d st1 =>
    rw [ev] at q
    have key : ∀ {Q' : VK}, (∀ as1 fz1 H1 v xs, seqOf d = some xs → (∀ J, ItOk G lp J (enumL 0 xs) as1 fz1 H1 → R J H1) → RepW G lp as1 fz1 H1 v d → Q' v H1) → tW G lp W (ev1 cf p) σ H Q' := fun k => by
      refine ⟨B, as, fz, st, sim, ?_⟩
      rw [ev]
      intro as1 fz1 H1 s1 m1 v rv
      have z := q as1 fz1 H1 s1 m1
      dsimp only at z
      cases ei : seqOf d with
      | none => rw [ei] at z; exact z.elim
      | some xs =>
        rw [ei] at z
        exact k as1 fz1 H1 v xs ei (z as1 fz1 H1 .refl m1) rv
    cases d with
    | tup ds =>
      refine (pi_enumT (kk := kk) (tpos := tpos) (elts := elts) (p := p1) (pos := pos) (c.glo hg) (c.blts _ hm) pa hst).run pins s σ H R I (key fun as1 fz1 H1 v xs e1 k rv => ?_)
      cases e1
      obtain ⟨a, vs, rfl, sq, rl⟩ := rv.tup
      exact ⟨a, vs, rfl, c.K ▸ sq, k _ (itok_enumT (c.K ▸ sq) rl)⟩
    | lst ds =>
      refine (pi_enum (kk := kk) (tpos := tpos) (elts := elts) (p := p1) (pos := pos) (c.glo hg) (c.blts _ hm) pa hst).run pins s σ H R I (key fun as1 fz1 H1 v xs e1 k rv => ?_)
      cases e1
      obtain ⟨a, vs, rfl, he, hz, rl⟩ := rv.lst
      exact ⟨a, vs, rfl, SqL.of he, k _ (itok_enumL he hz rl)⟩
    | _ => exact (pi_enum (kk := kk) (tpos := tpos) (elts := elts) (p := p1) (pos := pos) (c.glo hg) (c.blts _ hm) pa hst).run pins s σ H R I (key fun as1 fz1 H1 v xs e1 k rv => by cases e1)
end
end MP
end
section
set_option Elab.async false
set_option linter.all false
set_option maxRecDepth 100000
set_option maxHeartbeats 2000000
/-! MP: ranges, list comprehensions -/
namespace MP
open PySem PySem.Spec PyProof.Rows L2
section
variable {T : Tab} {G : Gd} {cf : CF} {n : Nat} {se : SE} {X : Cx} {W : WX} {σ : L2.St} {H : Hp} {as : List Addr} {fz : Addr → Prop} {lp : Bool}
theorem smallI_ok {i : Int} (h : smallI i = true) : -(2 ^ 62) ≤ i ∧ i < 2 ^ 62 := by
  simp only [smallI, Bool.and_eq_true, decide_eq_true_eq] at h
  have : (2 : Int) ^ 62 = 4611686018427387904 := by decide
  rw [this]
  omega
theorem pi_rng1 (c : Cok T G cf n se X) {tg a : Expr} {pa : PE} {p1 pos : Pos} (hg : gloN se "range" = true) (hm : ("range" : Str) ∈ T.blts) (hs : starred a = false) (h : L2.PE X a (tI G W (evalE cf pa))) :
    L2.PI X tg (.Call (.Name "range" p1) [a] [] pos) (wI G W lp (evalI cf (.rng1 pa))) := by
  have hst : starEach [a] X.env = [(false, eval a X.env)] := star_cons hs
  have pav : L2.PA X [a] (tCons (tI G W (evalE cf pa)) tNil) := pa_cons h pa_nil hst
  refine ⟨fun pins s σ H R I ⟨B, as, fz, st, sim, q⟩ => (pi_range1 (c.glo hg) (c.blts _ hm) pav hst).run pins s σ H R I ⟨B, as, fz, st, sim, ?_⟩⟩
  simp only [evalI] at q
  refine q.bind.mono fun d st1 as1 fz1 H1 s1 m1 p1 v rv => ?_
  split at p1
  · rename_i i
    split at p1
    · rename_i hi
      cases rv
      have z := p1 as1 fz1 H1 .refl m1
      refine ⟨i, rfl, (smallI_ok hi).1, (smallI_ok hi).2, z _ ?_⟩
      have e : rngL 0 i = (List.range i.toNat).map fun j => .int (0 + (j : Nat)) := by
        unfold rngL
        rw [Int.sub_zero]
      rw [e]
      exact itok_rng
    · exact p1.elim
  · exact p1.elim
theorem pi_rng2 (c : Cok T G cf n se X) {tg a b : Expr} {pa pb : PE} {p1 pos : Pos} (hg : gloN se "range" = true) (hm : ("range" : Str) ∈ T.blts) (hs : starred a = false) (hs2 : starred b = false) (h : L2.PE X a (tI G W (evalE cf pa))) (h2 : L2.PE X b (tI G W (evalE cf pb))) :
    L2.PI X tg (.Call (.Name "range" p1) [a, b] [] pos) (wI G W lp (evalI cf (.rng2 pa pb))) := by
  have hst : starEach [a, b] X.env = [(false, eval a X.env), (false, eval b X.env)] := by rw [star_cons hs, star_cons hs2]; rfl
  have pav : L2.PA X [a, b] (tCons (tI G W (evalE cf pa)) (tCons (tI G W (evalE cf pb)) tNil)) := pa_cons h (pa_cons h2 pa_nil (star_cons hs2)) (star_cons hs)
  refine ⟨fun pins s σ H R I ⟨B, as, fz, st, sim, q⟩ => (pi_range2 (c.glo hg) (c.blts _ hm) pav hst (star_cons hs2)).run pins s σ H R I ⟨B, as, fz, st, sim, ?_⟩⟩
  simp only [evalI] at q
  refine q.bind.mono fun d st1 as1 fz1 H1 s1 m1 p1 v rv => ⟨B, as1, fz1, st1, m1, p1.bind.mono fun e st2 as2 fz2 H2 s2 m2 p2 w rw' => ?_⟩
  split at p2
  · rename_i i j
    split at p2
    · rename_i hi
      rw [Bool.and_eq_true] at hi
      cases rv
      cases rw'
      exact ⟨i, j, rfl, ⟨(smallI_ok hi.1).1, (smallI_ok hi.1).2, (smallI_ok hi.2).1, (smallI_ok hi.2).2⟩, p2 as2 fz2 H2 .refl m2 _ itok_rng⟩
    · exact p2.elim
  · exact p2.elim
theorem pi_rng3 (c : Cok T G cf n se X) {tg a b d : Expr} {pa pb pd : PE} {p1 pos : Pos} (hg : gloN se "range" = true) (hm : ("range" : Str) ∈ T.blts) (hs : starred a = false) (hs2 : starred b = false) (hs3 : starred d = false) (h : L2.PE X a (tI G W (evalE cf pa))) (h2 : L2.PE X b (tI G W (evalE cf pb)))
    (h3 : L2.PE X d (tI G W (evalE cf pd))) : L2.PI X tg (.Call (.Name "range" p1) [a, b, d] [] pos) (wI G W lp (evalI cf (.rng3 pa pb pd))) := by
  have pav : L2.PA X [a, b, d] (tCons (tI G W (evalE cf pa)) (tCons (tI G W (evalE cf pb)) (tCons (tI G W (evalE cf pd)) tNil))) := pa_cons h (pa_cons h2 (pa_cons h3 pa_nil (star_cons hs3)) (star_cons hs2)) (star_cons hs)
  have hp : (backTo pos (starEach [b, d] X.env)).any (·.1) = false := noStar_any (by simp [noStar, hs2, hs3])
  refine ⟨fun pins s σ H R I ⟨B, as, fz, st, sim, q⟩ => (pi_range3 (c.glo hg) (c.blts _ hm) pav (star_cons hs) hp).run pins s σ H R I ⟨B, as, fz, st, sim, ?_⟩⟩
  simp only [evalI] at q
  refine q.bind.mono fun d st1 as1 fz1 H1 s1 m1 p1 v rv => ⟨B, as1, fz1, st1, m1, p1.bind.mono fun e st2 as2 fz2 H2 s2 m2 p2 w rw' => ⟨B, as2, fz2, st2, m2, p2.bind.mono fun f st3 as3 fz3 H3 s3 m3 p3 u ru => ?_⟩⟩
  split at p3
  · rename_i i j k
    split at p3
    · rename_i hi
      simp only [Bool.and_eq_true, decide_eq_true_eq] at hi
      obtain ⟨⟨h1, h2⟩, rfl⟩ := hi
      cases rv
      cases rw'
      cases ru
      exact ⟨i, j, -1, _, rfl, RgC.neg (smallI_ok h1).1 (smallI_ok h1).2 (smallI_ok h2).1 (smallI_ok h2).2, p3 as3 fz3 H3 .refl m3 _ itok_rngC⟩
    · exact p3.elim
  · exact p3.elim

theorem rng_rep {as : List Addr} {fz : Addr → Prop} {H : Hp} (a b : Int) : RepL G as fz H (rgV a b) (rngL a b) := by
  unfold rgV rngL
  induction List.range (b - a).toNat with
  | nil => exact .nil
  | cons x r ih => exact .cons (.int _) ih
theorem both_tupRng (c : Cok T G cf n se X) {a : Expr} {pa : PE} {p1 p2 pos p3 : Pos} (hg : gloN se "range" = true) (hm : ("range" : Str) ∈ T.blts) (hg2 : gloN se "tuple" = true) (hm2 : ("tuple" : Str) ∈ T.blts) (hs : starred a = false) (h : L2.PE X a (tI G W (evalE cf pa))) :
    Both X (.Call (.Name "tuple" p1) [.Call (.Name "range" p2) [a] [] p3] [] pos) (tI G W (evalE cf (.tupRng pa))) := by
  have z : L2.PE X (.Call (.Name "tuple" p1) [.Call (.Name "range" p2) [a] [] p3] [] pos) (tI G W (evalE cf (.tupRng pa))) := by
    refine PEimp (pe_tupRg c.calm (c.glo hg2) (c.blts _ hm2) (prg_1 (c.glo hg) (c.blts _ hm) h (star_cons hs))) fun σ H Q ⟨B, as, fz, st, sim, q⟩ => ?_
    simp only [evalE] at q
    refine ⟨B, as, fz, st, sim, q.bind.mono fun d st1 as1 fz1 H1 s1 m1 p1 v rv => ?_⟩
    split at p1
    · rename_i i
      split at p1
      · rename_i hi
        cases rv
        refine ⟨i, rfl, RgOk.of_le (Int.le_refl _) (by omega) (by decide) hi.1, fun q hn => ?_⟩
        have g : Grow fz1 H1 fz1 (upd H1 q (.tup (rgV 0 i))) := grow_new hn
        exact p1 as1 fz1 _ g.simB.step (m1.grow g) _ (.tup (.of upd_same) (rng_rep 0 i))
      · exact p1.elim
    · exact p1.elim
  exact ⟨z, pt_val z⟩
theorem both_lstRng (c : Cok T G cf n se X) {a : Expr} {pa : PE} {p1 p2 pos p3 : Pos} (hg : gloN se "range" = true) (hm : ("range" : Str) ∈ T.blts) (hg2 : gloN se "list" = true) (hm2 : ("list" : Str) ∈ T.blts) (hs : starred a = false) (h : L2.PE X a (tI G W (evalE cf pa))) :
    Both X (.Call (.Name "list" p1) [.Call (.Name "range" p2) [a] [] p3] [] pos) (tI G W (evalE cf (.lstRng pa))) := by
  have z : L2.PE X (.Call (.Name "list" p1) [.Call (.Name "range" p2) [a] [] p3] [] pos) (tI G W (evalE cf (.lstRng pa))) := by
    refine PEimp (pe_listRg c.calm (c.glo hg2) (c.blts _ hm2) (prg_1 (c.glo hg) (c.blts _ hm) h (star_cons hs))) fun σ H Q ⟨B, as, fz, st, sim, q⟩ => ?_
    simp only [evalE] at q
    refine ⟨B, as, fz, st, sim, q.bind.mono fun d st1 as1 fz1 H1 s1 m1 p1 v rv => ?_⟩
    split at p1
    · rename_i i
      split at p1
      · rename_i hi
        cases rv
        refine ⟨i, rfl, RgOk.of_le (Int.le_refl _) (by omega) (by decide) hi.1, fun q hn => ?_⟩
        have g : Grow fz1 H1 (fun b => fz1 b ∨ b = q) (upd H1 q (.lst (rgV 0 i))) := grow_frz hn
        exact p1 as1 _ _ g.simB.step (m1.grow g) _ (.lst (.inr rfl) upd_same (rng_rep 0 i))
      · exact p1.elim
    · exact p1.elim
  exact ⟨z, pt_val z⟩

/-! ### the state of a comprehension: the new list stands at Dn, with acc in it -/
def Base.plus (B : Base) (a : Addr) (o : HO) : Base := ⟨upd B.H0 a o, B.as0, B.fz0⟩
structure Out1 (B : Base) (as : List Addr) (fz : Addr → Prop) (Dn : Addr) : Prop where
  n0 : B.H0 Dn = none
  nas : Dn ∉ as
  nfz : ¬ fz Dn
  nas0 : Dn ∉ B.as0
  nfz0 : ¬ B.fz0 Dn
theorem rep_swap {as : List Addr} {fz : Addr → Prop} {Dn : Addr} {xs ys : List V} (hD : H Dn = some (.lst xs)) (nfz : ¬ fz Dn) : (∀ (d : D) (v : V), RepD G as fz H v d → RepD G as fz (upd H Dn (.lst ys)) v d) ∧ (∀ (ds : List D) (vs : List V), RepL G as fz H vs ds → RepL G as fz (upd H Dn (.lst ys)) vs ds) := by
  have keep : ∀ b v, b ≠ Dn → H b = some v → upd H Dn (.lst ys) b = some v := fun b v hb e => by rw [upd_ne hb]; exact e
  have sqt : ∀ {a : Addr} {vs : List V}, SqT G.K H a vs → SqT G.K (upd H Dn (.lst ys)) a vs := fun {a vs} h => by
    have ne : ∀ w, H a = some w → (∀ zs, w ≠ .lst zs) → a ≠ Dn := fun w e hw z => by
      subst z
      rw [hD] at e
      cases e
      exact hw xs rfl
    rcases h with (r | ⟨q, r⟩) | r
    · exact .inl (.inl (keep a _ (ne _ r (fun _ z => nomatch z)) r))
    · exact .inl (.inr ⟨q, keep a _ (ne _ r (fun _ z => nomatch z)) r⟩)
    · exact .inr r
  have scr : ∀ {a : Addr} {vs : List V}, ScrAt G.K H a vs → ScrAt G.K (upd H Dn (.lst ys)) a vs := fun {a vs} h => by
    rcases h with ⟨q, r⟩ | r
    · refine .inl ⟨q, keep a _ (fun z => ?_) r⟩
      subst z
      rw [hD] at r
      cases r
    · exact .inr r
  have rec2 : ∀ k : Nat, (∀ (d : D) (v : V), sizeOf d ≤ k → RepD G as fz H v d → RepD G as fz (upd H Dn (.lst ys)) v d) ∧ (∀ (ds : List D) (vs : List V), sizeOf ds ≤ k → RepL G as fz H vs ds → RepL G as fz (upd H Dn (.lst ys)) vs ds) := by
    intro k
    induction k with
    | zero =>
      refine ⟨fun d v hk => ?_, fun ds vs hk => ?_⟩
      · exfalso; cases d <;> simp at hk
      · exfalso; cases ds <;> simp at hk
    | succ k ih =>
      refine ⟨fun d v hk h => ?_, fun ds vs hk h => ?_⟩
      · cases h with
        | non => exact .non
        | bl b => exact .bl b
        | int i => exact .int i
        | str s => exact .str s
        | tup s r => exact .tup (sqt s) (ih.2 _ _ (by simp at hk; omega) r)
        | lst f e r =>
          refine .lst f (keep _ _ (fun z => ?_) e) (ih.2 _ _ (by simp at hk; omega) r)
          subst z
          exact nfz f
        | fn i => exact .fn i
        | ref e => exact .ref e
        | scr e l => exact .scr (scr e) l
      · cases h with
        | nil => exact .nil
        | cons a r => exact .cons (ih.1 _ _ (by simp at hk; omega) a) (ih.2 _ _ (by simp at hk; omega) r)
  exact ⟨fun d v => (rec2 _).1 d v (Nat.le_refl _), fun ds vs => (rec2 _).2 ds vs (Nat.le_refl _)⟩
theorem Sim.swap {st : S} {B : Base} {Dn : Addr} {o o' : HO} {xs ys : List V} (ho : o = .lst xs) (ho' : o' = .lst ys) (x : Sim G (B.plus Dn o) st as fz σ H) (u : Out1 B as fz Dn) : Sim G (B.plus Dn o') st as fz σ (upd H Dn o') := by
  have hD : H Dn = some o := x.b.fr Dn o upd_same u.nas0
  have keep : ∀ b v, b ≠ Dn → H b = some v → upd H Dn o' b = some v := fun b v hb e => by rw [upd_ne hb]; exact e
  have b0 : ∀ b, b ≠ Dn → (B.plus Dn o').H0 b = (B.plus Dn o).H0 b := fun b hb => by
    show upd B.H0 Dn o' b = upd B.H0 Dn o b
    rw [upd_ne hb, upd_ne hb]
  have bD : (B.plus Dn o').H0 Dn = some o' := upd_same
  have bD1 : (B.plus Dn o).H0 Dn = some o := upd_same
  have tr := rep_swap (G := G) (as := as) (ys := ys) (hD.trans (congrArg some ho)) u.nfz
  rw [← ho'] at tr
  refine ⟨⟨x.c.nd, x.c.len, fun i cl a e1 e2 => ?_, fun a f => ⟨(x.c.frz a f).1, ?_⟩⟩, ⟨fun b v e n => ?_, fun b v e => ?_, fun b v w e => ?_, fun b v f e => ?_, fun b e => ?_, x.b.pre, fun a h => ?_, x.b.fzm, fun a h => ?_⟩, ⟨x.l.len, fun i d e => ?_, fun i ds e => ?_, x.l.dist⟩⟩
  · have z := x.c.at_ i cl a e1 e2
    have ha : a ≠ Dn := fun z => u.nas (z ▸ List.mem_of_getElem? e2)
    cases cl with
    | lst cs =>
      obtain ⟨vs, e, r⟩ := z
      exact ⟨vs, keep a _ ha e, tr.2 _ _ r⟩
    | ins _ _ => exact z
    | dct _ => exact z
  · have ha : a ≠ Dn := fun z => u.nfz (z ▸ f)
    rw [upd_ne ha]
    exact (x.c.frz a f).2
  · by_cases hb : b = Dn
    · subst hb
      rw [bD] at e
      rw [upd_same]
      exact e
    · rw [b0 b hb] at e
      exact keep b _ hb (x.b.fr b v e n)
  · by_cases hb : b = Dn
    · subst hb
      rw [bD, ho'] at e
      cases e
    · rw [b0 b hb] at e
      exact keep b _ hb (x.b.tups b v e)
  · by_cases hb : b = Dn
    · subst hb
      rw [bD, ho'] at e
      cases e
    · rw [b0 b hb] at e
      exact keep b _ hb (x.b.frzs b v w e)
  · have hb : b ≠ Dn := fun z => u.nfz0 (z ▸ f)
    rw [b0 b hb] at e
    exact keep b _ hb (x.b.fzs b v f e)
  · by_cases hb : b = Dn
    · subst hb
      rw [upd_same]
      simp
    · rw [b0 b hb] at e
      rw [upd_ne hb]
      exact x.b.there b e
  · rcases x.b.newa a h with z | z
    · exact .inl z
    · have ha : a ≠ Dn := fun w => u.nas (w ▸ h)
      rw [b0 a ha]
      exact .inr z
  · rcases x.b.newf a h with z | z
    · exact .inl z
    · have ha : a ≠ Dn := fun w => u.nfz (w ▸ h)
      rw [b0 a ha]
      exact .inr z
  · obtain ⟨v, e1, r⟩ := x.l.val i d e
    exact ⟨v, e1, tr.1 _ _ r⟩
  · obtain ⟨a, vs, e1, e2, r, nf, na, n0⟩ := x.l.own i ds e
    have ha : a ≠ Dn := fun w => by
      rw [w, bD1] at n0
      cases n0
    exact ⟨a, vs, e1, keep a _ ha e2, tr.2 _ _ r, nf, na, by rw [b0 a ha]; exact n0⟩
theorem Sim.plus {st : S} {B : Base} {Dn : Addr} {o : HO} (x : Sim G B st as fz σ H) (hD : H Dn = none) : Sim G (B.plus Dn o) st as fz σ (upd H Dn o) ∧ Out1 B as fz Dn := by
  have y := x.grow (grow_new (o := o) hD)
  have nas : Dn ∉ as := fun h => x.c.live h hD
  have nfz : ¬ fz Dn := fun f => (x.c.frz Dn f).2 hD
  have n0 : B.H0 Dn = none := x.b.fresh hD
  have nas0 : Dn ∉ B.as0 := fun h => nas (by obtain ⟨r, e⟩ := x.b.pre; rw [e]; exact List.mem_append_left _ h)
  have nfz0 : ¬ B.fz0 Dn := fun f => nfz (x.b.fzm _ f)
  have b0 : ∀ b, b ≠ Dn → (B.plus Dn o).H0 b = B.H0 b := fun b hb => by
    show upd B.H0 Dn o b = B.H0 b
    rw [upd_ne hb]
  refine ⟨⟨y.c, ⟨fun b v e n => ?_, fun b v e => ?_, fun b v w e => ?_, fun b v f e => ?_, fun b e => ?_, x.b.pre, fun a h => ?_, x.b.fzm, fun a h => ?_⟩, ⟨y.l.len, y.l.val, fun i ds e => ?_, y.l.dist⟩⟩, ⟨n0, nas, nfz, nas0, nfz0⟩⟩
  · by_cases hb : b = Dn
    · subst hb
      rw [show (B.plus b o).H0 b = some o from upd_same] at e
      rw [upd_same]
      exact e
    · rw [b0 b hb] at e
      exact y.b.fr b v e n
  · by_cases hb : b = Dn
    · subst hb
      rw [show (B.plus b o).H0 b = some o from upd_same] at e
      rw [upd_same]
      exact e
    · rw [b0 b hb] at e
      exact y.b.tups b v e
  · by_cases hb : b = Dn
    · subst hb
      rw [show (B.plus b o).H0 b = some o from upd_same] at e
      rw [upd_same]
      exact e
    · rw [b0 b hb] at e
      exact y.b.frzs b v w e
  · by_cases hb : b = Dn
    · subst hb
      rw [show (B.plus b o).H0 b = some o from upd_same] at e
      rw [upd_same]
      exact e
    · rw [b0 b hb] at e
      exact y.b.fzs b v f e
  · by_cases hb : b = Dn
    · subst hb
      rw [upd_same]
      simp
    · rw [b0 b hb] at e
      exact y.b.there b e
  · rcases y.b.newa a h with z | z
    · exact .inl z
    · exact .inr (by rw [b0 a fun w => nas (w ▸ h)]; exact z)
  · rcases y.b.newf a h with z | z
    · exact .inl z
    · exact .inr (by rw [b0 a fun w => nfz (w ▸ h)]; exact z)
  · obtain ⟨a, vs, e1, e2, r, nf, na, n1⟩ := x.l.own i ds e
    obtain ⟨a', vs', e1', e2', r', nf', na', n1'⟩ := y.l.own i ds e
    rw [e1] at e1'
    cases e1'
    have ha : a ≠ Dn := fun w => by rw [w, hD] at e2; cases e2
    exact ⟨a, vs', e1, e2', r', nf', na', by rw [b0 a ha]; exact n1⟩
theorem Sim.out1 {st : S} {B : Base} {Dn : Addr} {o : HO} (x : Sim G (B.plus Dn o) st as fz σ H) (n0 : B.H0 Dn = none) (nas0 : Dn ∉ B.as0) (nfz0 : ¬ B.fz0 Dn) : Out1 B as fz Dn := by
  have e : (B.plus Dn o).H0 Dn = some o := upd_same
  refine ⟨n0, fun h => ?_, fun h => ?_, nas0, nfz0⟩
  · rcases x.b.newa _ h with z | z
    · exact nas0 z
    · rw [e] at z; cases z
  · rcases x.b.newf _ h with z | z
    · exact nfz0 z
    · rw [e] at z; cases z
/-- the new list becomes a datum -/
theorem Sim.unplus {st : S} {B : Base} {Dn : Addr} {acc : List V} (x : Sim G (B.plus Dn (.lst acc)) st as fz σ H) (u : Out1 B as fz Dn) : H Dn = some (.lst acc) ∧ Sim G B st as (fun b => fz b ∨ b = Dn) σ H ∧ Step as fz H as (fun b => fz b ∨ b = Dn) H := by
  have hD : H Dn = some (.lst acc) := x.b.fr Dn _ upd_same u.nas0
  have b0 : ∀ b v, B.H0 b = some v → (B.plus Dn (.lst acc)).H0 b = some v := fun b v e => by
    have hb : b ≠ Dn := fun z => by rw [z, u.n0] at e; cases e
    show upd B.H0 Dn _ b = some v
    rw [upd_ne hb]
    exact e
  have b1 : ∀ b, (B.plus Dn (.lst acc)).H0 b = none → B.H0 b = none := fun b e => by
    cases q : B.H0 b with
    | none => rfl
    | some v => rw [b0 b v q] at e; cases e
  have stp : Step as fz H as (fun b => fz b ∨ b = Dn) H := ⟨fun _ _ e _ => e, fun _ _ e => e, fun _ _ _ e => e, fun _ _ _ e => e, fun _ e => e, ⟨[], by simp⟩, fun _ h => .inl h, fun _ h => .inl h⟩
  refine ⟨hD, ⟨⟨x.c.nd, x.c.len, fun i cl a e1 e2 => ?_, fun a f => ?_⟩, ⟨fun b v e n => x.b.fr b v (b0 b v e) n, fun b v e => x.b.tups b v (b0 b _ e), fun b v w e => x.b.frzs b v w (b0 b _ e), fun b v f e => x.b.fzs b v f (b0 b _ e), fun b e => x.b.there b fun z => e (b1 b z), x.b.pre, fun a h => (x.b.newa a h).imp id (b1 a), fun a f => .inl (x.b.fzm a f), fun a f => ?_⟩,
    ⟨x.l.len, fun i d e => ?_, fun i ds e => ?_, x.l.dist⟩⟩, stp⟩
  · have z := x.c.at_ i cl a e1 e2
    cases cl with
    | lst cs =>
      obtain ⟨vs, e, r⟩ := z
      exact ⟨vs, e, RepL.step stp _ _ r⟩
    | ins _ _ => exact z
    | dct _ => exact z
  · rcases f with f | rfl
    · exact x.c.frz a f
    · exact ⟨u.nas, by rw [hD]; simp⟩
  · rcases f with f | rfl
    · exact (x.b.newf a f).imp id (b1 a)
    · exact .inr u.n0
  · obtain ⟨v, e1, r⟩ := x.l.val i d e
    exact ⟨v, e1, RepD.step stp _ _ r⟩
  · obtain ⟨a, vs, e1, e2, r, nf, na, n1⟩ := x.l.own i ds e
    refine ⟨a, vs, e1, e2, RepL.step stp _ _ r, fun f => ?_, na, b1 a n1⟩
    rcases f with f | rfl
    · exact nf f
    · rw [show (B.plus a (.lst acc)).H0 a = some (.lst acc) from upd_same] at n1
      cases n1
/-! ### slots forgotten -/
theorem wipe_len : ∀ (loc : List Slot) (vs : List Nat), (MP.wipe loc vs).length = loc.length
  | _, [] => rfl
  | loc, i :: r => by rw [MP.wipe, List.length_set, wipe_len loc r]
theorem wipe_get {loc : List Slot} {j : Nat} : ∀ {vs : List Nat}, j ∉ vs → (MP.wipe loc vs)[j]? = loc[j]?
  | [], _ => rfl
  | i :: r, h => by
    rw [List.mem_cons, not_or] at h
    rw [MP.wipe, List.getElem?_set_ne (Ne.symm h.1), wipe_get h.2]
theorem wipe_in {loc : List Slot} {j : Nat} : ∀ {vs : List Nat}, j ∈ vs → ∀ s, (MP.wipe loc vs)[j]? = some s → s = .unb
  | i :: r, h, s, e => by
    rw [MP.wipe] at e
    by_cases hj : i = j
    · subst hj
      by_cases hl : i < (MP.wipe loc r).length
      · rw [List.getElem?_set_self hl] at e
        exact (Option.some.inj e).symm
      · rw [List.getElem?_eq_none (by rw [List.length_set]; omega)] at e
        cases e
    · rw [List.getElem?_set_ne hj] at e
      rcases List.mem_cons.mp h with z | z
      · exact absurd z.symm hj
      · exact wipe_in z s e
theorem Sim.wipe {st : S} {B : Base} (x : Sim G B st as fz σ H) (vs : List Nat) : Sim G B { st with loc := MP.wipe st.loc vs } as fz (L2.wipe σ vs) H := by
  have nin : ∀ {j : Nat} {s : Slot}, (MP.wipe st.loc vs)[j]? = some s → s ≠ .unb → j ∉ vs := fun e h hj => h (wipe_in hj _ e)
  refine ⟨x.c, x.b, ⟨by rw [wipe_length, wipe_len]; exact x.l.len, fun i d e => ?_, fun i ds e => ?_, fun i j ds es a hij e1 e2 e3 => ?_⟩⟩
  · have hi := nin e (by simp)
    rw [wipe_get hi] at e
    rw [wipe_out hi]
    exact x.l.val i d e
  · have hi := nin e (by simp)
    rw [wipe_get hi] at e
    rw [wipe_out hi]
    exact x.l.own i ds e
  · have hi := nin e1 (by simp)
    have hj := nin e2 (by simp)
    rw [wipe_get hi] at e1
    rw [wipe_get hj] at e2
    rw [wipe_out hi] at e3
    rw [wipe_out hj]
    exact x.l.dist i j ds es a hij e1 e2 e3
theorem unwipe_len : ∀ (old new : List Slot) (vs : List Nat), (unwipe old new vs).length = new.length
  | _, _, [] => rfl
  | old, new, i :: r => by rw [unwipe, List.length_set, unwipe_len old new r]
theorem unwipe_get {old new : List Slot} {j : Nat} : ∀ {vs : List Nat}, j ∉ vs → (unwipe old new vs)[j]? = new[j]?
  | [], _ => rfl
  | i :: r, h => by
    rw [List.mem_cons, not_or] at h
    rw [unwipe, List.getElem?_set_ne (Ne.symm h.1), unwipe_get h.2]
theorem unwipe_in {old new : List Slot} {j : Nat} : ∀ {vs : List Nat}, j ∈ vs → ∀ s, (unwipe old new vs)[j]? = some s → (∃ d, s = .val d ∧ old[j]? = some (.val d)) ∨ s = .unb
  | i :: r, h, s, e => by
    rw [unwipe] at e
    by_cases hj : i = j
    · subst hj
      by_cases hl : i < (unwipe old new r).length
      · rw [List.getElem?_set_self hl] at e
        have e := (Option.some.inj e).symm
        split at e
        · rename_i d ho
          exact .inl ⟨d, e, ho⟩
        · exact .inr e
      · rw [List.getElem?_eq_none (by rw [List.length_set]; omega)] at e
        cases e
    · rw [List.getElem?_set_ne hj] at e
      rcases List.mem_cons.mp h with z | z
      · exact absurd z.symm hj
      · exact unwipe_in z s e
theorem Sim.unwipe {st st1 : S} {B : Base} {as1 : List Addr} {fz1 : Addr → Prop} {H1 : Hp} {vs : List Nat} (x1 : Sim G B st1 as1 fz1 σ H1) (s : Step as1 fz1 H1 as fz H) (x : Sim G B { st with loc := MP.wipe st.loc vs } as fz (L2.wipe σ vs) H) :
    Sim G B { st with loc := MP.unwipe st1.loc st.loc vs } as fz σ H := by
  refine ⟨x.c, x.b, ⟨?_, fun i d e => ?_, fun i ds e => ?_, fun i j ds es a hij e1 e2 e3 => ?_⟩⟩
  · have := x.l.len
    rw [wipe_length, wipe_len] at this
    rw [unwipe_len]
    exact this
  · by_cases hi : i ∈ vs
    · rcases unwipe_in hi _ e with ⟨d', e1, e2⟩ | e1
      · cases e1
        obtain ⟨v, e3, r⟩ := x1.l.val i d e2
        exact ⟨v, e3, RepD.step s _ _ r⟩
      · cases e1
    · rw [unwipe_get hi] at e
      obtain ⟨v, e1, r⟩ := x.l.val i d (by rw [wipe_get hi]; exact e)
      rw [wipe_out hi] at e1
      exact ⟨v, e1, r⟩
  · by_cases hi : i ∈ vs
    · rcases unwipe_in hi _ e with ⟨d', e1, e2⟩ | e1 <;> cases e1
    · rw [unwipe_get hi] at e
      obtain ⟨a, us, e1, r⟩ := x.l.own i ds (by rw [wipe_get hi]; exact e)
      rw [wipe_out hi] at e1
      exact ⟨a, us, e1, r⟩
  · by_cases hi : i ∈ vs
    · rcases unwipe_in hi _ e1 with ⟨d', e, _⟩ | e <;> cases e
    · by_cases hj : j ∈ vs
      · rcases unwipe_in hj _ e2 with ⟨d', e, _⟩ | e <;> cases e
      · rw [unwipe_get hi] at e1
        rw [unwipe_get hj] at e2
        have z := x.l.dist i j ds es a hij (by rw [wipe_get hi]; exact e1) (by rw [wipe_get hj]; exact e2) (by rw [wipe_out hi]; exact e3)
        rw [wipe_out hj] at z
        exact z
theorem wipe_agree {σ σ2 : L2.St} {vs ts : List Nat} (h : Agree ts (L2.wipe σ vs) σ2) (hs : ∀ t ∈ ts, t ∈ vs) : L2.wipe σ2 vs = L2.wipe σ vs := by
  apply List.ext_getElem?
  intro j
  by_cases hj : j ∈ vs
  · have g : ∀ τ : L2.St, j < τ.length → (L2.wipe τ vs)[j]? = some none := fun τ hl => by
      have hl2 : j < (L2.wipe τ vs).length := by rw [wipe_length]; exact hl
      rw [List.getElem?_eq_getElem hl2]
      cases e : (L2.wipe τ vs)[j] with
      | none => rfl
      | some v =>
        have z : (L2.wipe τ vs)[j]? = some (some v) := by rw [List.getElem?_eq_getElem hl2, e]
        exact absurd hj (wipe_some z).2
    have hlen : σ2.length = σ.length := by rw [h.1, wipe_length]
    by_cases hl : j < σ.length
    · rw [g σ hl, g σ2 (by rw [hlen]; exact hl)]
    · rw [List.getElem?_eq_none (by rw [wipe_length]; omega), List.getElem?_eq_none (by rw [wipe_length]; omega)]
  · rw [wipe_out hj, h.2 j fun z => hj (hs j z)]
theorem Step.touch {as' : List Addr} {fz' : Addr → Prop} {H' : Hp} {Dn : Addr} {o : HO} (x : Step as fz H as' fz' H') (hD : H Dn = none) : Step as fz H as' fz' (upd H' Dn o) := by
  have ne : ∀ b v, H b = some v → b ≠ Dn := fun b v e z => by rw [z, hD] at e; cases e
  exact ⟨fun b v e n => by rw [upd_ne (ne b _ e)]; exact x.fr b v e n, fun b v e => by rw [upd_ne (ne b _ e)]; exact x.tups b v e, fun b v w e => by rw [upd_ne (ne b _ e)]; exact x.frzs b v w e, fun b v f e => by rw [upd_ne (ne b _ e)]; exact x.fzs b v f e,
    fun b e => by
      by_cases hb : b = Dn
      · subst hb; rw [upd_same]; simp
      · rw [upd_ne hb]; exact x.there b e, x.pre, x.newa, x.fzm⟩
end
end MP
end
section
set_option Elab.async false
set_option linter.all false
set_option maxRecDepth 100000
set_option maxHeartbeats 2000000
/-! MP: list comprehensions -/
namespace MP
open PySem PySem.Spec PyProof.Rows L2
section
variable {T : Tab} {G : Gd} {cf : CF} {n : Nat} {se : SE} {X : Cx} {W : WX} {σ : L2.St} {H : Hp} {as : List Addr} {fz : Addr → Prop} {lp : Bool}
theorem takesNo {X : Cx} : L2N.Takes X (fun _ _ _ _ => False) := fun _ _ ⟨_, _, _, _, _, _, _, _, x⟩ => by
  have w := x.2.2.2.2.2.2.2.2
  exact w.elim
/-- the block's names -/
def SE.blk (se : SE) (scope : Scope) : SE := ⟨se.N, relS scope se.sc, fun x => scope.names.lookup x == some .cell⟩
theorem Cok.blk (c : Cok T G cf n se X) {s : Shared} {H : Hp} {scope : Scope} {C : Addr} {cl : List (Str × Addr)} {fp : List Addr} : Cok T G cf n (se.blk scope) (X.blk s H scope (compEnvC scope cl C X.env) fp) where
  K := c.K
  N := c.N
  nd := c.nd
  sc := by
    show relabel scope X.env = relS scope se.sc
    rw [← c.sc]
    rfl
  fn := fun x h => h
  calm := c.calm
  room := c.room
  gd := c.gd
  fns := c.fns
  fnk := c.fnk
  globs := c.globs
  blts := c.blts
  mods := c.mods
/-- the tests of a clause -/
inductive PTs1 (X : Cx) (G : Gd) (W : WX) (cf : CF) : List Expr → PL → Prop where
  | nil : PTs1 X G W cf [] .nil
  | one {e : Expr} {p : PE} (h : Both X e (tI G W (evalE cf p))) : PTs1 X G W cf [e] (.cons p .nil)
def ttOf (G : Gd) (W : WX) (cf : CF) : PL → TT
  | .nil => tYes
  | .cons p _ => tB (tI G W (evalE cf p))
theorem PTs1.pts {es : List Expr} {ps : PL} (h : PTs1 X G W cf es ps) : L2.PTs X es (ttOf G W cf ps) := by
  cases h with
  | nil => exact pts_nil
  | one h => exact pts_one h.2
theorem tt_run {es : List Expr} {cs : PL} (h : PTs1 X G W cf es cs) {B : Base} {st st' : S} {b : Bool} {Q : Bool → Hp → Prop} (e : evalC cf cs st = .ok b st') (sim : Sim G B st as fz σ H) (k : ∀ as' fz' H', Step as fz H as' fz' H' → Sim G B st' as' fz' σ H' → Q b H') : ttOf G W cf cs σ H Q := by
  cases h with
  | nil =>
    simp only [evalC] at e
    cases e
    exact k as fz H .refl sim
  | one h =>
    simp only [evalC] at e
    refine ⟨B, as, fz, st, sim, ?_⟩
    cases ev : evalE cf _ st with
    | ok d st1 =>
      rw [ev] at e
      simp only [bind_ok] at e
      intro as' fz' H' s m v rv
      split at e
      · cases e
        cases rv
        exact ⟨_, rfl, k as' fz' H' s m⟩
      · cases e
        cases rv
        exact ⟨_, rfl, k as' fz' H' s m⟩
      · cases e
    | exc c t => rw [ev] at e; cases e
    | bad => rw [ev] at e; cases e
/-- one turn -/
def turnF (cf : CF) (elt : PE) (t : Tgt) (cs : PL) : D → S → Out (List D) :=
  fun d s2 => ofOpt (MP.assign t d s2) fun s3 => (evalC cf cs s3).bind fun b s4 => if b then (evalE cf elt s4).bind fun e s5 => .ok [e] s5 else .ok [] s4
theorem evalE_comp (cf : CF) (elt : PE) (t : Tgt) (it : Iter) (cs : PL) (vs : List Nat) (s : S) : evalE cf (.comp elt t it cs vs) s = (evalI cf it s).bind fun xs s1 =>
    (compLoop vs (turnF cf elt t cs) xs s1).calm.bind fun ds s6 => if ds.length ≤ 1000000 then .ok (.lst ds) { s6 with loc := unwipe s1.loc s6.loc vs } else .bad := by
  simp only [evalE]
  rfl
theorem bind_inv {α β : Type} {o : Out α} {f : α → S → Out β} {b : β} {s : S} (h : o.bind f = .ok b s) : ∃ a s1, o = .ok a s1 ∧ f a s1 = .ok b s := by
  cases o with
  | ok a s1 => exact ⟨a, s1, rfl, h⟩
  | exc c t => cases h
  | bad => cases h
theorem comp_core (c : Cok T G cf n se X) {elt : PE} {t : Tgt} {it : Iter} {cs : PL} {vs : List Nat} {es : List Expr} {X' : Cx} {W' : WX} (hts : PTs1 X' G W' cf es cs) (hv : ∀ i ∈ tvars t, i ∈ vs) {Q : VK}
    {B : Base} {st : S} {R : D → S → List Addr → (Addr → Prop) → Hp → Prop} (sim : Sim G B st as fz σ H) (q : Post G B W σ (evalE cf (.comp elt t it cs vs) st) R as fz H)
    (fin : ∀ (total : List D) (st6 st1 : S) (as1 : List Addr) (fz1 : Addr → Prop) (H1 : Hp) (as2 : List Addr) (fz2 : Addr → Prop) (H2 : Hp) (Dn : Addr) (acc : List V), Step as fz H as1 fz1 H1 → Sim G B st1 as1 fz1 σ H1 → H1 Dn = none → Step as1 fz1 H1 as2 fz2 H2 → Sim G (B.plus Dn (.lst acc)) { st6 with loc := MP.wipe st6.loc vs } as2 fz2 (L2.wipe σ vs) H2 → Out1 B as2 fz2 Dn → RepL G as2 fz2 H2 acc total →
      Post G B W σ (.ok (.lst total) { st6 with loc := MP.unwipe st1.loc st6.loc vs }) R as1 fz1 H1 → Q (.ref Dn) H2) :
    tLc (wI G W false (evalI cf it)) (gI G t) (ttOf G W' cf cs) (tI G W' (evalE cf elt)) vs σ H Q := by
  rw [evalE_comp] at q
  refine ⟨B, as, fz, st, sim, q.bind.mono fun xs st1 as1 fz1 H1 s1 m1 p1 J iok Dn hD => ?_⟩
  cases e : compLoop vs (turnF cf elt t cs) xs st1 with
  | exc k t => rw [e] at p1; exact p1.elim
  | bad => rw [e] at p1; exact p1.elim
  | ok total s6 =>
    rw [e, calm_ok, bind_ok] at p1
    split at p1
    · rename_i hlen
      obtain ⟨Gs, Y, wk, hGs, hY⟩ := iok
      have n0 : B.H0 Dn = none := m1.b.fresh hD
      obtain ⟨simP, out⟩ := m1.plus (o := .lst []) hD
      refine lc_it wk (fun i H => ∃ as2 fz2 st2 acc ds es, Sim G (B.plus Dn (.lst acc)) { st2 with loc := MP.wipe st2.loc vs } as2 fz2 (L2.wipe σ vs) H ∧ Step as1 fz1 H1 as2 fz2 H ∧ RepL G as2 fz2 H acc ds ∧
        compLoop vs (turnF cf elt t cs) (xs.drop i) st2 = .ok es s6 ∧ ds ++ es = total) ?_ ?_ ?_ ?_
      · exact ⟨as1, fz1, st1, [], [], total, simP.wipe vs, (grow_new (fz := fz1) hD).simB.step, .nil, by rw [List.drop_zero]; exact e, rfl⟩
      · rintro i H2 hi ⟨as2, fz2, st2, acc, ds, es', sm, stp, rl, ec, et⟩
        exact hGs as2 fz2 H2 ⟨stp.s, fun _ => stp⟩
      · rintro i x H2 H3 hi ⟨as2, fz2, st2, acc, ds, es', sm, stp, rl, ec, et⟩ y
        obtain ⟨fz3, g3, rd⟩ := hY as2 fz2 H2 i x H3 xs[i] ⟨stp.s, fun _ => stp⟩ (List.getElem?_eq_getElem hi) y
        rw [List.drop_eq_getElem_cons hi, compLoop] at ec
        obtain ⟨ds1, st3, e1, e2⟩ := bind_inv ec
        obtain ⟨es1, st4, e3, e4⟩ := bind_inv e2
        cases e4
        have sm3 := sm.grow g3
        unfold turnF at e1
        cases ea : MP.assign t xs[i] { st2 with loc := MP.wipe st2.loc vs } with
        | none => rw [ea] at e1; cases e1
        | some st5 =>
          rw [ea] at e1
          obtain ⟨b, st6, e5, e6⟩ := bind_inv e1
          refine ⟨_, as2, fz3, _, xs[i], st5, sm3, rd, ea, fun σ2 sm5 ag => ?_⟩
          have hw := wipe_agree ag hv
          refine ⟨hw, tt_run hts e5 sm5 fun as6 fz6 H6 s6' m6 => ?_⟩
          have stp6 : Step as1 fz1 H1 as6 fz6 H6 := (stp.trans g3.simB.step).trans s6'
          have rl6 : RepL G as6 fz6 H6 acc ds := RepL.step ((g3.simB (as := as2)).step.trans s6') _ _ rl
          cases b with
          | true =>
            obtain ⟨r, st7, e7, e8⟩ := bind_inv e6
            cases e8
            refine ⟨_, as6, fz6, st6, m6, ?_⟩
            rw [e7]
            intro as8 fz8 H8 s8 m8 yv ry
            have o8 := m8.out1 n0 out.nas0 out.nfz0
            have hDn : H8 Dn = some (.lst acc) := m8.b.fr Dn _ upd_same out.nas0
            have rl8 := RepL.step s8 _ _ rl6
            refine ⟨acc, hDn, ?_, as8, fz8, st3, acc ++ [yv], ds ++ [r], es1, ?_, (stp6.trans s8).touch hD, ?_, e3, ?_⟩
            · rw [sl_line, rl8.length]
              have : (ds ++ ([r] ++ es1)).length ≤ 1000000 := by rw [et]; exact hlen
              simp at this
              omega
            · have z := (m8.swap (o' := .lst (acc ++ [yv])) rfl rfl o8).wipe vs
              rw [hw] at z
              exact z
            · have tr := rep_swap (G := G) (as := as8) (fz := fz8) (ys := acc ++ [yv]) hDn o8.nfz
              exact (tr.2 _ _ rl8).append (.cons (tr.1 _ _ ry) .nil)
            · rw [← et, List.append_assoc]
          | false =>
            cases e6
            refine ⟨as6, fz6, st3, acc, ds, es1, ?_, stp6, rl6, e3, et⟩
            have z := m6.wipe vs
            rw [hw] at z
            exact z
      · rintro H2 ⟨as2, fz2, st2, acc, ds, es', sm, stp, rl, ec, et⟩
        rw [List.drop_length, compLoop] at ec
        cases ec
        rw [List.append_nil] at et
        subst et
        have o2 := sm.out1 n0 out.nas0 out.nfz0
        exact fin ds _ st1 as1 fz1 H1 as2 fz2 H2 Dn acc s1 m1 hD stp sm o2 rl p1
    · exact p1.elim
theorem comp_post (c : Cok T G cf n se X) {elt : PE} {t : Tgt} {it : Iter} {cs : PL} {vs : List Nat} {es : List Expr} {X' : Cx} {W' : WX} (hts : PTs1 X' G W' cf es cs) (hv : ∀ i ∈ tvars t, i ∈ vs) {Q : VK} (h : tI G W (evalE cf (.comp elt t it cs vs)) σ H Q) :
    tLc (wI G W false (evalI cf it)) (gI G t) (ttOf G W' cf cs) (tI G W' (evalE cf elt)) vs σ H Q := by
  obtain ⟨B, as, fz, st, sim, q⟩ := h
  refine comp_core c hts hv sim q fun total st6 st1 as1 fz1 H1 as2 fz2 H2 Dn acc s1 m1 hD stp sm o2 rl p1 => ?_
  obtain ⟨hDn, sm2, stp2⟩ := sm.unplus o2
  have st3 : Step as1 fz1 H1 as2 (fun b => fz2 b ∨ b = Dn) H2 := stp.trans stp2
  exact p1 as2 _ H2 st3 (m1.unwipe st3 sm2) (.ref Dn) (.lst (.inr rfl) hDn (RepL.step stp2 _ _ rl))
/-- a new list, of nobody yet -/
def NewL (G : Gd) (B : Base) (st' : S) (σ : L2.St) (H0 : Hp) (as' : List Addr) (fz' : Addr → Prop) (H' : Hp) (v : V) (d : D) : Prop := ∃ a vs ds, v = .ref a ∧ d = .lst ds ∧ H0 a = none ∧ H' a = some (.lst vs) ∧ RepL G as' fz' H' vs ds ∧ ¬ fz' a ∧ a ∉ as' ∧ B.H0 a = none ∧
  ∀ (i : Nat) (es : List D) (b : Addr), st'.loc[i]? = some (.own es) → σ[i]? = some (some (.ref b)) → b ≠ a
def tN (G : Gd) (W : WX) (m : S → Out D) : TE := fun σ H Q => ∃ B as fz st, Sim G B st as fz σ H ∧ Post G B W σ (m st) (fun d st' as' fz' H' => ∀ v, NewL G B st' σ H as' fz' H' v d → Q v H') as fz H
theorem Sim.unplus0 {st : S} {B : Base} {Dn : Addr} {acc : List V} (x : Sim G (B.plus Dn (.lst acc)) st as fz σ H) (u : Out1 B as fz Dn) : H Dn = some (.lst acc) ∧ Sim G B st as fz σ H ∧ ∀ (i : Nat) (es : List D) (b : Addr), st.loc[i]? = some (.own es) → σ[i]? = some (some (.ref b)) → b ≠ Dn := by
  have hD : H Dn = some (.lst acc) := x.b.fr Dn _ upd_same u.nas0
  have b0 : ∀ b v, B.H0 b = some v → (B.plus Dn (.lst acc)).H0 b = some v := fun b v e => by
    have hb : b ≠ Dn := fun z => by rw [z, u.n0] at e; cases e
    show upd B.H0 Dn _ b = some v
    rw [upd_ne hb]
    exact e
  have b1 : ∀ b, (B.plus Dn (.lst acc)).H0 b = none → B.H0 b = none := fun b e => by
    cases q : B.H0 b with
    | none => rfl
    | some v => rw [b0 b v q] at e; cases e
  refine ⟨hD, ⟨x.c, ⟨fun b v e n => x.b.fr b v (b0 b v e) n, fun b v e => x.b.tups b v (b0 b _ e), fun b v w e => x.b.frzs b v w (b0 b _ e), fun b v f e => x.b.fzs b v f (b0 b _ e), fun b e => x.b.there b fun z => e (b1 b z), x.b.pre, fun a h => (x.b.newa a h).imp id (b1 a), x.b.fzm, fun a f => (x.b.newf a f).imp id (b1 a)⟩,
    ⟨x.l.len, x.l.val, fun i ds e => ?_, x.l.dist⟩⟩, fun i es b e1 e2 => ?_⟩
  · obtain ⟨a, vs, e1, e2, r, nf, na, n1⟩ := x.l.own i ds e
    exact ⟨a, vs, e1, e2, r, nf, na, b1 a n1⟩
  · obtain ⟨a, vs, e1', e2', r, nf, na, n1⟩ := x.l.own i es e1
    rw [e2] at e1'
    cases e1'
    intro z
    subst z
    rw [show (B.plus b (.lst acc)).H0 b = some (.lst acc) from upd_same] at n1
    cases n1
theorem unwipe_own {old new : List Slot} {vs : List Nat} {i : Nat} {es : List D} (h : (MP.unwipe old new vs)[i]? = some (.own es)) : i ∉ vs ∧ new[i]? = some (.own es) := by
  by_cases hi : i ∈ vs
  · rcases unwipe_in hi _ h with ⟨d', e, _⟩ | e <;> cases e
  · exact ⟨hi, by rw [← unwipe_get hi]; exact h⟩
theorem comp_new (c : Cok T G cf n se X) {elt : PE} {t : Tgt} {it : Iter} {cs : PL} {vs : List Nat} {es : List Expr} {X' : Cx} {W' : WX} (hts : PTs1 X' G W' cf es cs) (hv : ∀ i ∈ tvars t, i ∈ vs) {Q : VK} (h : tN G W (evalE cf (.comp elt t it cs vs)) σ H Q) :
    tLc (wI G W false (evalI cf it)) (gI G t) (ttOf G W' cf cs) (tI G W' (evalE cf elt)) vs σ H Q := by
  obtain ⟨B, as, fz, st, sim, q⟩ := h
  refine comp_core c hts hv sim q fun total st6 st1 as1 fz1 H1 as2 fz2 H2 Dn acc s1 m1 hD stp sm o2 rl p1 => ?_
  obtain ⟨hDn, sm2, ow⟩ := sm.unplus0 o2
  have n0 : H Dn = none := by
    cases q : H Dn with
    | none => rfl
    | some o => exact absurd hD (s1.there Dn (by rw [q]; simp))
  refine p1 as2 _ H2 stp (m1.unwipe stp sm2) (.ref Dn) ⟨Dn, acc, total, rfl, rfl, n0, hDn, rl, o2.nfz, o2.nas, o2.n0, fun i es b e1 e2 => ?_⟩
  obtain ⟨hi, e3⟩ := unwipe_own e1
  exact ow i es b (by rw [MP.wipe_get hi]; exact e3) (by rw [wipe_out hi]; exact e2)
theorem both_comp (c : Cok T G cf n se X) {elt tg iter : Expr} {ifs : List Expr} {scope : Scope} {own : List (Str × Nat)} {pos : Pos} {pe : PE} {t : Tgt} {it : Iter} {cs : PL}
    (hI : L2.PI X tg iter (wI G W false (evalI cf it))) (hb : blkC se.N se.sc scope own = true) (ht : ckT (se.blk scope) t tg = true) (hv : ∀ i ∈ tvars t, i ∈ own.map (·.2))
    (hc : ∀ X', Cok T G cf n (se.blk scope) X' → PTs1 X' G (fun _ _ _ _ => False) cf ifs cs) (he : ∀ X', Cok T G cf n (se.blk scope) X' → L2.PE X' elt (tI G (fun _ _ _ _ => False) (evalE cf pe)))
    (hs : ∀ x, foldedSetIterable iter X.env x = pure x) : Both X (.ListComp elt [⟨tg, iter, ifs, 0⟩] scope pos) (tI G W (evalE cf (.comp pe t it cs (own.map (·.2))))) := by
  have ok : BlkOk X.N X.env.scope scope own := by rw [c.N, c.sc]; exact blkOk_by hb
  have z : L2.PE X (.ListComp elt [⟨tg, iter, ifs, 0⟩] scope pos) (tI G W (evalE cf (.comp pe t it cs (own.map (·.2))))) :=
    PEimp (pe_lc (pos := pos) c.calm (by rw [c.N]; exact c.nd) hI ok (fun s H C cl fp => pg_ckT c.blk t tg ht) (fun s H C cl fp => (hc _ c.blk).pts) (fun s H C cl fp => he _ c.blk) hs)
      fun σ H Q q => comp_post c (hc _ (c.blk (s := X.s_0) (H := X.H_0) (scope := scope) (C := 0) (cl := []) (fp := []))) hv q
  exact ⟨z, pt_val z⟩
theorem new_comp (c : Cok T G cf n se X) {elt tg iter : Expr} {ifs : List Expr} {scope : Scope} {own : List (Str × Nat)} {pos : Pos} {pe : PE} {t : Tgt} {it : Iter} {cs : PL}
    (hI : L2.PI X tg iter (wI G W false (evalI cf it))) (hb : blkC se.N se.sc scope own = true) (ht : ckT (se.blk scope) t tg = true) (hv : ∀ i ∈ tvars t, i ∈ own.map (·.2))
    (hc : ∀ X', Cok T G cf n (se.blk scope) X' → PTs1 X' G (fun _ _ _ _ => False) cf ifs cs) (he : ∀ X', Cok T G cf n (se.blk scope) X' → L2.PE X' elt (tI G (fun _ _ _ _ => False) (evalE cf pe)))
    (hs : ∀ x, foldedSetIterable iter X.env x = pure x) : L2.PE X (.ListComp elt [⟨tg, iter, ifs, 0⟩] scope pos) (tN G W (evalE cf (.comp pe t it cs (own.map (·.2))))) := by
  have ok : BlkOk X.N X.env.scope scope own := by rw [c.N, c.sc]; exact blkOk_by hb
  exact PEimp (pe_lc (pos := pos) c.calm (by rw [c.N]; exact c.nd) hI ok (fun s H C cl fp => pg_ckT c.blk t tg ht) (fun s H C cl fp => (hc _ c.blk).pts) (fun s H C cl fp => he _ c.blk) hs)
      fun σ H Q q => comp_new c (hc _ (c.blk (s := X.s_0) (H := X.H_0) (scope := scope) (C := 0) (cl := []) (fp := []))) hv q
/-- name = [..] on one line -/
theorem ps_lcI (c : Cok T G cf n se X) {i : Nat} {y : Str} {py : Pos} {elt tg iter : Expr} {ifs : List Expr} {scope : Scope} {own : List (Str × Nat)} {pos spos : Pos} {pe : PE} {t : Tgt} {it : Iter} {cs : PL}
    (hy : se.N[i]? = some y) (hyl : se.sc.names.lookup y = some .local) (hk : se.sc.kind = .function) (hl : (py.line == pos.line) = true) (hsc : (scope.names.any fun (n, k) => n == y && (k == .local || k == .cell)) = false)
    (hI : L2.PI X tg iter (wI G W false (evalI cf it))) (hb : blkC se.N se.sc scope own = true) (ht : ckT (se.blk scope) t tg = true) (hv : ∀ i ∈ tvars t, i ∈ own.map (·.2))
    (hc : ∀ X', Cok T G cf n (se.blk scope) X' → PTs1 X' G (fun _ _ _ _ => False) cf ifs cs) (he : ∀ X', Cok T G cf n (se.blk scope) X' → L2.PE X' elt (tI G (fun _ _ _ _ => False) (evalE cf pe)))
    (hs : ∀ x, foldedSetIterable iter X.env x = pure x) : L2.PS X (.Assign [.Name y py] (.ListComp elt [⟨tg, iter, ifs, 0⟩] scope pos) spos) (tAsg (tI G W (evalE cf (.comp pe t it cs (own.map (·.2))))) (gName i)) := by
  have ok : BlkOk X.N X.env.scope scope own := by rw [c.N, c.sc]; exact blkOk_by hb
  have z := ps_setLc (i := i) (y := y) (py := py) (pos := pos) (spos := spos) c.calm (by rw [c.N]; exact c.nd) (by rw [c.N]; exact hy) (by rw [c.sc]; exact hyl) (sw_true (by rw [c.sc]; exact hk) (by rw [c.sc]; exact hyl) hl hsc) hI ok
    (fun s H C cl fp => pg_ckT c.blk t tg ht) (fun s H C cl fp => (hc _ c.blk).pts) (fun s H C cl fp => he _ c.blk) hs
  refine ⟨fun pins s σ H D I h => z.run pins s σ H D I ?_⟩
  exact comp_post c (hc _ (c.blk (s := X.s_0) (H := X.H_0) (scope := scope) (C := 0) (cl := []) (fp := []))) hv h
theorem ps_lcN (c : Cok T G cf n se X) {i : Nat} {y : Str} {py : Pos} {elt tg iter : Expr} {ifs : List Expr} {scope : Scope} {own : List (Str × Nat)} {pos spos : Pos} {pe : PE} {t : Tgt} {it : Iter} {cs : PL}
    (hy : se.N[i]? = some y) (hyl : se.sc.names.lookup y = some .local) (hk : se.sc.kind = .function) (hl : (py.line == pos.line) = true) (hsc : (scope.names.any fun (n, k) => n == y && (k == .local || k == .cell)) = false)
    (hI : L2.PI X tg iter (wI G W false (evalI cf it))) (hb : blkC se.N se.sc scope own = true) (ht : ckT (se.blk scope) t tg = true) (hv : ∀ i ∈ tvars t, i ∈ own.map (·.2))
    (hc : ∀ X', Cok T G cf n (se.blk scope) X' → PTs1 X' G (fun _ _ _ _ => False) cf ifs cs) (he : ∀ X', Cok T G cf n (se.blk scope) X' → L2.PE X' elt (tI G (fun _ _ _ _ => False) (evalE cf pe)))
    (hs : ∀ x, foldedSetIterable iter X.env x = pure x) : L2.PS X (.Assign [.Name y py] (.ListComp elt [⟨tg, iter, ifs, 0⟩] scope pos) spos) (tAsg (tN G W (evalE cf (.comp pe t it cs (own.map (·.2))))) (gName i)) := by
  have ok : BlkOk X.N X.env.scope scope own := by rw [c.N, c.sc]; exact blkOk_by hb
  have z := ps_setLc (i := i) (y := y) (py := py) (pos := pos) (spos := spos) c.calm (by rw [c.N]; exact c.nd) (by rw [c.N]; exact hy) (by rw [c.sc]; exact hyl) (sw_true (by rw [c.sc]; exact hk) (by rw [c.sc]; exact hyl) hl hsc) hI ok
    (fun s H C cl fp => pg_ckT c.blk t tg ht) (fun s H C cl fp => (hc _ c.blk).pts) (fun s H C cl fp => he _ c.blk) hs
  refine ⟨fun pins s σ H D I h => z.run pins s σ H D I ?_⟩
  exact comp_new c (hc _ (c.blk (s := X.s_0) (H := X.H_0) (scope := scope) (C := 0) (cl := []) (fp := []))) hv h
end
end MP
end
section
set_option Elab.async false
set_option linter.all false
set_option maxRecDepth 100000
set_option maxHeartbeats 4000000
/-! MP: which text a term of expression stands for, checked -/
namespace MP
open PySem PySem.Spec PyProof.Rows L2
def notSet : Expr → Bool
  | .Set _ _ _ => false
  | _ => true
theorem notSet_ok {e : Expr} {env : Env} (h : notSet e = true) : ∀ x, foldedSetIterable e env x = pure x := by
  intro x
  cases e <;> first | rfl | exact absurd h (by simp [notSet])
def ownOf (se : SE) (vs : List Nat) : List (Str × Nat) := vs.map fun i => (se.N[i]?.getD "", i)
theorem ownOf_snd (se : SE) (vs : List Nat) : (ownOf se vs).map (·.2) = vs := by
  unfold ownOf
  rw [List.map_map]
  exact List.map_id' vs
mutual
def ckE (T : Tab) : PE → SE → Expr → Bool
  | .var i, se, e => varOk se i e
  | .peek i, se, e => varOk se i e
  | .con d, _, e => conOk d e
  | .glob x d, se, e => globOk T se x d e
  | .fnv f, se, e => fnvOk T se f e
  | .prim p ps, se, e => match shape T se p e with
    | some xs => ckL T ps se xs
    | none => false
  | .tupRng a, se, e => match e with
    | .Call (.Name f _) [.Call (.Name g _) [x] [] _] [] _ => decide (f = "tuple") && decide (g = "range") && gloN se "range" && decide (("range" : Str) ∈ T.blts) && gloN se "tuple" && decide (("tuple" : Str) ∈ T.blts) && !starred x && ckE T a se x
    | _ => false
  | .lstRng a, se, e => match e with
    | .Call (.Name f _) [.Call (.Name g _) [x] [] _] [] _ => decide (f = "list") && decide (g = "range") && gloN se "range" && decide (("range" : Str) ∈ T.blts) && gloN se "list" && decide (("list" : Str) ∈ T.blts) && !starred x && ckE T a se x
    | _ => false
  | .tup ps, se, e => match e with
    | .Tuple es _ _ => ckL T ps se es
    | _ => false
  | .lst ps, se, e => match e with
    | .List es _ => ckL T ps se es
    | _ => false
  | .sl2 a b c, se, e => match e with
    | .Subscript x (.Slice (some l) (some h) none _) _ => ckE T a se x && ckE T b se l && ckE T c se h
    | _ => false
  | .meth p a b, se, e => match e with
    | .Call (.Attribute o m apos) [y] [] cpos => plainBase o && (apos.endLine == cpos.line) && !starred y && (decide (p = .index ∧ m = "index") || decide (p = .join ∧ m = "join")) && ckE T a se o && ckE T b se y
    | _ => false
  | .fstr ps, se, e => match e with
    | .JoinedStr (x :: r) _ => ckF T ps se (x :: r)
    | _ => false
  | .nt a, se, e => match e with
    | .UnaryOp .Not x _ => ckE T a se x
    | _ => false
  | .bop k ps, se, e => match e with
    | .BoolOp op (x :: r) _ => decide (op = bopOf k) && ckL T ps se (x :: r)
    | _ => false
  | .ite c a b, se, e => match e with
    | .IfExp x y z _ => ckE T c se x && ckE T a se y && ckE T b se z
    | _ => false
  | .chain o1 o2 a b c, se, e => match e with
    | .Compare x [k1, k2] [y, z] _ => decide (cmpOf o1 = some k1) && decide (cmpOf o2 = some k2) && !lastMarks [k1, k2] [y, z] && ckE T a se x && ckE T b se y && ckE T c se z && notPeek a && notPeek b && notPeek c
    | _ => false
  | .call f ps, se, e => match e with
    | .Call (.Name x _) es [] _ => decide (T.fns[f]? = some x) && gloN se x && okName x && ckL T ps se es
    | _ => false
  | .callv p ps, se, e => match e with
    | .Call fe es [] _ => plainFn fe && ckE T p se fe && ckL T ps se es
    | _ => false
  | .comp pe t it cs vs, se, e => match e with
    | .ListComp elt [⟨tg, iter, ifs, 0⟩] scope _ => blkC se.N se.sc scope (ownOf se vs) && ckT (se.blk scope) t tg && (tvars t).all (fun i => decide (i ∈ vs)) && notSet iter && ckI T false it se tg iter && ckC T cs (se.blk scope) ifs && ckE T pe (se.blk scope) elt
    | _ => false
def ckL (T : Tab) : PL → SE → List Expr → Bool
  | .nil, _, es => match es with
    | [] => true
    | _ => false
  | .cons p ps, se, es => match es with
    | e :: r => !starred e && ckE T p se e && ckL T ps se r
    | [] => false
def ckF (T : Tab) : PL → SE → List Expr → Bool
  | .nil, _, es => match es with
    | [] => true
    | _ => false
  | .cons p ps, se, es => match es with
    | e :: r => (match p, e with
      | .con (.str x), .Constant _ _ _ => fconOk x e
      | _, .FormattedValue v (-1) none _ => ckE T p se v
      | _, _ => false) && ckF T ps se r
    | [] => false
def ckC (T : Tab) : PL → SE → List Expr → Bool
  | .nil, _, es => match es with
    | [] => true
    | _ => false
  | .cons p ps, se, es => match ps, es with
    | .nil, [e] => ckE T p se e
    | _, _ => false
def ckI (T : Tab) (lp : Bool) : Iter → SE → Expr → Expr → Bool
  | .seq p, se, _, e => ckE T p se e && opW lp p
  | .rng1 a, se, _, e => match e with
    | .Call (.Name f _) [x] [] _ => decide (f = "range") && gloN se "range" && decide (("range" : Str) ∈ T.blts) && !starred x && ckE T a se x
    | _ => false
  | .rng2 a b, se, _, e => match e with
    | .Call (.Name f _) [x, y] [] _ => decide (f = "range") && gloN se "range" && decide (("range" : Str) ∈ T.blts) && !starred x && !starred y && ckE T a se x && ckE T b se y
    | _ => false
  | .rng3 a b c, se, _, e => match e with
    | .Call (.Name f _) [x, y, z] [] _ => decide (f = "range") && gloN se "range" && decide (("range" : Str) ∈ T.blts) && !starred x && !starred y && !starred z && ckE T a se x && ckE T b se y && ckE T c se z
    | _ => false
  | .enum p, se, tg, e => match tg, e with
    | .Tuple _ _ _, .Call (.Name f _) [x] [] _ => decide (f = "enumerate") && gloN se "enumerate" && decide (("enumerate" : Str) ∈ T.blts) && !starred x && ckE T p se x && opW lp p
    | _, _ => false
  | .zip _ _, _, _, _ => false
end
section
variable {T : Tab} {G : Gd} {cf : CF} {n : Nat} {se : SE} {X : Cx} {W : WX} {σ : L2.St} {H : Hp} {ps : PL} {p : Prim}
theorem both_shape (c : Cok T G cf n se X) {e : Expr} {xs : List Expr} (h : shape T se p e = some xs) (q : PEs X G W cf xs ps) : Both X e (tI G W (evalE cf (.prim p ps))) := by
  rw [evalE_prim]
  cases e with
  | BinOp a op b pos =>
    simp only [shape] at h
    split at h
    · cases h; exact both_bin c (by assumption) q
    · cases h
  | UnaryOp op a pos =>
    cases op <;> simp only [shape] at h <;> try (cases h; done)
    split at h
    · rename_i hp; subst hp; cases h; exact both_neg c q
    · cases h
  | Compare a ops bs pos =>
    unfold shape at h
    split at h <;> try (cases h; done)
    all_goals try (rename_i z; cases z; done)
    · rename_i a' op b _ z
      cases z
      split at h
      · split at h
        · rename_i hc; cases h; obtain ⟨rfl, hb⟩ := hc; exact both_isN hb q
        · cases h
      · split at h
        · rename_i hc; cases h; obtain ⟨rfl, hb⟩ := hc; exact both_notN hb q
        · cases h
      · split at h
        · rename_i hc; cases h; exact both_cmp c hc.1 hc.2 q
        · cases h
  | Subscript a b pos =>
    by_cases hb : plainIx b = true
    · have h' : (if p = .item ∧ plainIx b = true then some [a, b] else none) = some xs := by
        cases b <;> first | exact h | exact absurd hb (by simp [plainIx])
      split at h'
      · rename_i hc; cases h'; obtain ⟨rfl, _⟩ := hc; exact both_item c hb q
      · cases h'
    · cases b <;> first | exact absurd rfl hb | skip
      exact both_sl c h q
  | Call f args kws pos =>
    unfold shape at h
    split at h <;> try (cases h; done)
    all_goals try (rename_i z; cases z; done)
    · rename_i fn _ args' _ z
      cases z
      split at h
      · split at h
        · rename_i hc; cases h; exact both_gcd c hc.1 hc.2.1 hc.2.2 q
        · cases h
      · split at h
        · rename_i hc; cases h; obtain ⟨⟨rfl, rfl⟩, ⟨g1, m1⟩, ⟨g2, m2⟩, hs⟩ := hc; exact both_sortedSet c g1 m1 g2 m2 hs q
        · cases h
      · split at h
        · rename_i hc; cases h; obtain ⟨rfl, g, m, ht⟩ := hc; exact both_isTup c g m ht q
        · cases h
      · split at h
        · rename_i hc; cases h; exact both_blt c hc.1 hc.2.1 hc.2.2 q
        · cases h
      · cases h
  | _ => simp [shape] at h
theorem opnd (c : Cok T G cf n se X) {p : PE} {e : Expr} (h : ckE T p se e = true) (b : Both X e (tI G W (evalE cf p))) : L2.PE X e (tO G W (ev1 cf p)) := by
  cases p with
  | peek i => exact pe_peek c (by simpa only [ckE] using h)
  | _ => exact tO_of rfl b.1
theorem both_peek {i : Nat} {e : Expr} (c : Cok T G cf n se X) (h : varOk se i e = true) : Both X e (tI G W (evalE cf (.peek i))) := by
  have k : ∀ σ H Q, tI G W (evalE cf (.peek i)) σ H Q → tVar i σ H Q := fun σ H Q ⟨B, as, fz, st, sim, q⟩ => by
    simp only [evalE] at q
    exact q.elim
  exact ⟨PEimp (pe_varOk c h).1 k, PTimp (pe_varOk c h).2 fun σ H Q q => k _ _ _ q⟩
theorem star_ck {e : Expr} (h : starred e = false) : starred e = false := h
variable (big : ∀ f ds t, T.fns.length ≤ f → cf f ds t = .bad)
include big
mutual
theorem sE : ∀ (p : PE) (se : SE) (e : Expr) (X : Cx) (W : WX), Cok T G cf n se X → L2N.Takes X W → ckE T p se e = true → Both X e (tI G W (evalE cf p))
  | .var i, se, e, X, W, c, tk, h => both_var c (by simpa only [ckE] using h)
  | .peek i, se, e, X, W, c, tk, h => both_peek c (by simpa only [ckE] using h)
  | .con d, se, e, X, W, c, tk, h => both_con (by simpa only [ckE] using h)
  | .glob x d, se, e, X, W, c, tk, h => both_glob c (by simpa only [ckE] using h)
  | .fnv f, se, e, X, W, c, tk, h => both_fnv c (by simpa only [ckE] using h)
  | .prim p ps, se, e, X, W, c, tk, h => by
    simp only [ckE] at h
    split at h
    · rename_i xs hs
      exact both_shape c hs (sL ps se xs X W c tk h).2
    · cases h
  | .tupRng a, se, e, X, W, c, tk, h => by
    simp only [ckE] at h
    split at h
    · simp only [Bool.and_eq_true, decide_eq_true_eq, Bool.not_eq_true'] at h
      obtain ⟨⟨⟨⟨⟨⟨⟨rfl, rfl⟩, g1⟩, m1⟩, g2⟩, m2⟩, s⟩, h1⟩ := h
      exact both_tupRng c g1 m1 g2 m2 s (sE a se _ X W c tk h1).1
    · cases h
  | .lstRng a, se, e, X, W, c, tk, h => by
    simp only [ckE] at h
    split at h
    · simp only [Bool.and_eq_true, decide_eq_true_eq, Bool.not_eq_true'] at h
      obtain ⟨⟨⟨⟨⟨⟨⟨rfl, rfl⟩, g1⟩, m1⟩, g2⟩, m2⟩, s⟩, h1⟩ := h
      exact both_lstRng c g1 m1 g2 m2 s (sE a se _ X W c tk h1).1
    · cases h
  | .tup ps, se, e, X, W, c, tk, h => by
    simp only [ckE] at h
    split at h
    · exact both_tup c (sL ps se _ X W c tk h).1.pvs
    · cases h
  | .lst ps, se, e, X, W, c, tk, h => by
    simp only [ckE] at h
    split at h
    · exact both_lst c (sL ps se _ X W c tk h).1.pvs
    · cases h
  | .sl2 a b d, se, e, X, W, c, tk, h => by
    simp only [ckE] at h
    split at h
    · simp only [Bool.and_eq_true] at h
      exact both_sl2 c (opnd c h.1.1 (sE a se _ X W c tk h.1.1)) (sE b se _ X W c tk h.1.2).1 (sE d se _ X W c tk h.2).1
    · cases h
  | .meth p a b, se, e, X, W, c, tk, h => by
    simp only [ckE] at h
    split at h
    · simp only [Bool.and_eq_true, Bool.or_eq_true, decide_eq_true_eq, Bool.not_eq_true'] at h
      obtain ⟨⟨⟨⟨⟨hb, hl⟩, hs⟩, hm⟩, h1⟩, h2⟩ := h
      rcases hm with ⟨rfl, rfl⟩ | ⟨rfl, rfl⟩
      · exact both_index c hb hl hs (opnd c h1 (sE a se _ X W c tk h1)) (sE b se _ X W c tk h2).1
      · exact both_join c hb hl hs (opnd c h1 (sE a se _ X W c tk h1)) (sE b se _ X W c tk h2).1
    · cases h
  | .fstr ps, se, e, X, W, c, tk, h => by
    simp only [ckE] at h
    split at h
    · exact both_fstr (sF ps se _ X W c tk h) (by simp)
    · cases h
  | .nt a, se, e, X, W, c, tk, h => by
    simp only [ckE] at h
    split at h
    · exact both_nt (sE a se _ X W c tk h)
    · cases h
  | .bop k ps, se, e, X, W, c, tk, h => by
    simp only [ckE] at h
    split at h
    · simp only [Bool.and_eq_true, decide_eq_true_eq] at h
      obtain ⟨rfl, h⟩ := h
      exact both_bop (sL ps se _ X W c tk h).1 (by simp)
    · cases h
  | .ite a b d, se, e, X, W, c, tk, h => by
    simp only [ckE] at h
    split at h
    · simp only [Bool.and_eq_true] at h
      exact both_ite (sE a se _ X W c tk h.1.1) (sE b se _ X W c tk h.1.2) (sE d se _ X W c tk h.2)
    · cases h
  | .chain o1 o2 a b d, se, e, X, W, c, tk, h => by
    simp only [ckE] at h
    split at h
    · simp only [Bool.and_eq_true, decide_eq_true_eq, Bool.not_eq_true'] at h
      obtain ⟨⟨⟨⟨⟨⟨⟨⟨e1, e2⟩, hm⟩, h1⟩, h2⟩, h3⟩, n1⟩, n2⟩, n3⟩ := h
      exact both_chain c e1 e2 hm (sE a se _ X W c tk h1).1 (sE b se _ X W c tk h2).1 (sE d se _ X W c tk h3).1
    · cases h
  | .call f ps, se, e, X, W, c, tk, h => by
    simp only [ckE] at h
    split at h
    · simp only [Bool.and_eq_true, decide_eq_true_eq] at h
      exact both_call c tk h.1.1.1 h.1.1.2 h.1.2 (sL ps se _ X W c tk h.2).1.pvs
    · cases h
  | .callv p ps, se, e, X, W, c, tk, h => by
    simp only [ckE] at h
    split at h
    · simp only [Bool.and_eq_true] at h
      exact both_callv c tk big h.1.1 (sE p se _ X W c tk h.1.2).1 (sL ps se _ X W c tk h.2).1.pvs
    · cases h
  | .comp pe t it cs vs, se, e, X, W, c, tk, h => by
    simp only [ckE] at h
    split at h
    · rename_i elt tg iter ifs scope pos
      simp only [Bool.and_eq_true, List.all_eq_true, decide_eq_true_eq] at h
      obtain ⟨⟨⟨⟨⟨⟨hb, ht⟩, hv⟩, hs⟩, hi⟩, hc⟩, he⟩ := h
      have z := both_comp (W := W) (pos := pos) c (sI false it se tg iter X W c tk hi) hb ht (by rw [ownOf_snd]; exact hv) (fun X' c' => sC cs _ ifs X' _ c' takesNo hc) (fun X' c' => (sE pe _ elt X' _ c' takesNo he).1) (notSet_ok hs)
      rw [ownOf_snd] at z
      exact z
    · cases h
theorem sL : ∀ (ps : PL) (se : SE) (es : List Expr) (X : Cx) (W : WX), Cok T G cf n se X → L2N.Takes X W → ckL T ps se es = true → PBs X G W cf es ps ∧ PEs X G W cf es ps
  | .nil, se, es, X, W, c, tk, h => by
    simp only [ckL] at h
    split at h
    · exact ⟨.nil, .nil⟩
    · cases h
  | .cons p ps, se, es, X, W, c, tk, h => by
    simp only [ckL] at h
    split at h
    · simp only [Bool.and_eq_true, Bool.not_eq_true'] at h
      have z := sE p se _ X W c tk h.1.2
      have y := sL ps se _ X W c tk h.2
      exact ⟨.cons h.1.1 z y.1, .cons h.1.1 (opnd c h.1.2 z) y.2⟩
    · cases h
theorem sF : ∀ (ps : PL) (se : SE) (es : List Expr) (X : Cx) (W : WX), Cok T G cf n se X → L2N.Takes X W → ckF T ps se es = true → PFs X G W cf es ps
  | .nil, se, es, X, W, c, tk, h => by
    simp only [ckF] at h
    split at h
    · exact .nil
    · cases h
  | .cons p ps, se, es, X, W, c, tk, h => by
    simp only [ckF] at h
    split at h
    · simp only [Bool.and_eq_true] at h
      obtain ⟨h1, h2⟩ := h
      refine .cons ?_ (sF ps se _ X W c tk h2)
      split at h1
      · exact pf_con h1
      · exact pf_fmt (sE p se _ X W c tk h1).1
      · cases h1
    · cases h
theorem sC : ∀ (ps : PL) (se : SE) (es : List Expr) (X : Cx) (W : WX), Cok T G cf n se X → L2N.Takes X W → ckC T ps se es = true → PTs1 X G W cf es ps
  | .nil, se, es, X, W, c, tk, h => by
    simp only [ckC] at h
    split at h
    · exact .nil
    · cases h
  | .cons p ps, se, es, X, W, c, tk, h => by
    simp only [ckC] at h
    split at h
    · exact .one (sE p se _ X W c tk h)
    · cases h
theorem sI (lp : Bool) : ∀ (it : Iter) (se : SE) (tg e : Expr) (X : Cx) (W : WX), Cok T G cf n se X → L2N.Takes X W → ckI T lp it se tg e = true → L2.PI X tg e (wI G W lp (evalI cf it))
  | .seq p, se, tg, e, X, W, c, tk, h => by
    simp only [ckI, Bool.and_eq_true] at h
    have z := sE p se _ X W c tk h.1
    exact pi_seqI c (tW_of h.2 (opnd c h.1 z) fun _ => z.1)
  | .rng1 a, se, tg, e, X, W, c, tk, h => by
    simp only [ckI] at h
    split at h
    · simp only [Bool.and_eq_true, decide_eq_true_eq, Bool.not_eq_true'] at h
      obtain ⟨⟨⟨⟨rfl, g⟩, m⟩, s⟩, h1⟩ := h
      exact pi_rng1 c g m s (sE a se _ X W c tk h1).1
    · cases h
  | .rng2 a b, se, tg, e, X, W, c, tk, h => by
    simp only [ckI] at h
    split at h
    · simp only [Bool.and_eq_true, decide_eq_true_eq, Bool.not_eq_true'] at h
      obtain ⟨⟨⟨⟨⟨⟨rfl, g⟩, m⟩, s⟩, s2⟩, h1⟩, h2⟩ := h
      exact pi_rng2 c g m s s2 (sE a se _ X W c tk h1).1 (sE b se _ X W c tk h2).1
    · cases h
  | .rng3 a b d, se, tg, e, X, W, c, tk, h => by
    simp only [ckI] at h
    split at h
    · simp only [Bool.and_eq_true, decide_eq_true_eq, Bool.not_eq_true'] at h
      obtain ⟨⟨⟨⟨⟨⟨⟨⟨rfl, g⟩, m⟩, s⟩, s2⟩, s3⟩, h1⟩, h2⟩, h3⟩ := h
      exact pi_rng3 c g m s s2 s3 (sE a se _ X W c tk h1).1 (sE b se _ X W c tk h2).1 (sE d se _ X W c tk h3).1
    · cases h
  | .enum p, se, tg, e, X, W, c, tk, h => by
    simp only [ckI] at h
    split at h
    · simp only [Bool.and_eq_true, decide_eq_true_eq, Bool.not_eq_true'] at h
      obtain ⟨⟨⟨⟨⟨rfl, g⟩, m⟩, s⟩, h1⟩, h2⟩ := h
      have z := sE p se _ X W c tk h1
      exact pi_enumI c g m s (tW_of h2 (opnd c h1 z) fun _ => z.1)
    · cases h
  | .zip a b, se, tg, e, X, W, c, tk, h => by simp [ckI] at h
end
end
end MP
end
section
set_option Elab.async false
set_option linter.all false
set_option maxRecDepth 100000
set_option maxHeartbeats 2000000
/-! MP: statements -/
namespace MP
open PySem PySem.Spec PyProof.Rows L2

theorem nodup_idx {α : Type} {l : List α} (h : l.Nodup) {i j : Nat} (hi : i < l.length) (hj : j < l.length) (e : l[i] = l[j]) : i = j := by
  have p := List.pairwise_iff_getElem.mp h
  rcases Nat.lt_trichotomy i j with z | z | z
  · exact absurd e (p i j hi hj z)
  · exact z
  · exact absurd e.symm (p j i hj hi z)
def Ends1 (G : Gd) (D : Ends) (f : Fl) (σ' : L2.St) (H' : Hp) : Prop :=
  match f with
  | .nx => D.nx σ' H'
  | .brk => D.bk σ' H'
  | .cnt => D.ct σ' H'
  | .ret _ => True
def PostS (G : Gd) (B : Base) (W : WX) (o : Out Fl) (D : Ends) (as : List Addr) (fz : Addr → Prop) (H : Hp) : Prop :=
  match o with
  | .ok (.ret d) st' => ∀ as' fz' H' v, SimB B as' fz' H' → SimC G st'.sto as' fz' H' → RepD G as' fz' H' v d → D.rt v H'
  | .ok f st' => ∀ σ' as' fz' H', StepS as fz H as' fz' H' → Sim G B st' as' fz' σ' H' → Ends1 G D f σ' H'
  | .exc c t => ∀ σ' as' fz' H', SimB B as' fz' H' → SimC G t as' fz' H' → W (.ref (G.ca c)) none σ' H'
  | .bad => False
def tS (G : Gd) (W : WX) (m : S → Out Fl) : TS := fun D σ H => ∃ B as fz st, Sim G B st as fz σ H ∧ PostS G B W (m st) D as fz H
section
variable {T : Tab} {G : Gd} {cf : CF} {n : Nat} {se : SE} {X : Cx} {B : Base} {W : WX} {σ : L2.St} {H H' : Hp} {as as' : List Addr} {fz fz' : Addr → Prop} {Z : Ends}
theorem PostS.trans {o : Out Fl} (h : PostS G B W o Z as fz H) (s : StepS as fz H as' fz' H') : PostS G B W o Z as' fz' H' := by
  cases o with
  | ok f st' =>
    cases f with
    | ret d => exact h
    | nx => exact fun σ2 as2 fz2 H2 s2 m => h σ2 as2 fz2 H2 (s.trans s2) m
    | brk => exact fun σ2 as2 fz2 H2 s2 m => h σ2 as2 fz2 H2 (s.trans s2) m
    | cnt => exact fun σ2 as2 fz2 H2 s2 m => h σ2 as2 fz2 H2 (s.trans s2) m
  | exc c t => exact h
  | bad => exact h
/-- an expression ahead of a statement -/
theorem PostS.expr {α : Type} {o : Out α} {f : α → S → Out Fl} (h : PostS G B W (o.bind f) Z as fz H) : Post G B W σ o (fun d st1 as1 fz1 H1 => PostS G B W (f d st1) Z as1 fz1 H1) as fz H := by
  cases o with
  | ok d st1 => exact fun as1 fz1 H1 s m => PostS.trans h s.s
  | exc c t => exact h σ
  | bad => exact h
/-- a statement ahead of statements -/
theorem PostS.stmt {o : Out Fl} {f : Fl → S → Out Fl} {D' : Ends} (h : PostS G B W (o.bind f) Z as fz H) (hr : ∀ d st', f (.ret d) st' = .ok (.ret d) st') (hd : D'.rt = Z.rt)
    (k : ∀ g st' σ' as' fz' H', (∀ d, g ≠ .ret d) → StepS as fz H as' fz' H' → Sim G B st' as' fz' σ' H' → PostS G B W (f g st') Z as' fz' H' → Ends1 G D' g σ' H') : PostS G B W o D' as fz H := by
  cases o with
  | ok g st1 =>
    cases g with
    | ret d =>
      have h : PostS G B W (f (.ret d) st1) Z as fz H := h
      rw [hr] at h
      intro as' fz' H' v sb sc rd
      rw [hd]
      exact h as' fz' H' v sb sc rd
    | nx => exact fun σ1 as1 fz1 H1 s m => k .nx st1 σ1 as1 fz1 H1 (fun _ e => nomatch e) s m (PostS.trans h s)
    | brk => exact fun σ1 as1 fz1 H1 s m => k .brk st1 σ1 as1 fz1 H1 (fun _ e => nomatch e) s m (PostS.trans h s)
    | cnt => exact fun σ1 as1 fz1 H1 s m => k .cnt st1 σ1 as1 fz1 H1 (fun _ e => nomatch e) s m (PostS.trans h s)
  | exc c t => exact h
  | bad => exact h
/-! ### lists written -/
theorem stepS_lst {a : Addr} {xs ys : List V} (h : H a = some (.lst xs)) (n : ¬ fz a) : StepS as fz H as fz (upd H a (.lst ys)) := by
  have ne : ∀ b v, H b = some v → (∀ zs, v ≠ .lst zs) → b ≠ a := fun b v e hv z => by rw [z, h] at e; cases e; exact hv _ rfl
  refine ⟨fun b v e => ?_, fun b v w e => ?_, fun b v f e => ?_, fun b e => ?_, ⟨[], by simp⟩, fun _ h => .inl h, fun _ h => h⟩
  · rw [upd_ne (ne b _ e fun _ z => nomatch z)]; exact e
  · rw [upd_ne (ne b _ e fun _ z => nomatch z)]; exact e
  · rw [upd_ne (fun z : b = a => n (z ▸ f))]; exact e
  · by_cases hb : b = a
    · subst hb; rw [upd_same]; simp
    · rw [upd_ne hb]; exact e
/-- the frame's own list is written -/
theorem Sim.setOwn {st : S} (x : Sim G B st as fz σ H) {i : Nat} {ds es : List D} (e : st.loc[i]? = some (.own ds)) : ∃ a vs, σ[i]? = some (some (.ref a)) ∧ H a = some (.lst vs) ∧ RepL G as fz H vs ds ∧ ¬ fz a ∧
    ∀ ys, RepL G as fz H ys es → Sim G B { st with loc := st.loc.set i (.own es) } as fz σ (upd H a (.lst ys)) ∧ StepS as fz H as fz (upd H a (.lst ys)) := by
  obtain ⟨a, vs, e1, e2, r, nf, na, n0⟩ := x.l.own i ds e
  have hi : i < st.loc.length := (List.getElem?_eq_some_iff.mp e).1
  refine ⟨a, vs, e1, e2, r, nf, fun ys ry => ⟨?_, stepS_lst e2 nf⟩⟩
  have tr := rep_swap (G := G) (as := as) (fz := fz) (ys := ys) e2 nf
  have ne0 : ∀ b v, B.H0 b = some v → b ≠ a := fun b v q z => by rw [z, n0] at q; cases q
  have nea : ∀ b, b ∈ as → b ≠ a := fun b hb z => na (z ▸ hb)
  refine ⟨⟨x.c.nd, x.c.len, fun j cl b e3 e4 => ?_, fun b f => ⟨(x.c.frz b f).1, by rw [upd_ne fun z : b = a => nf (z ▸ f)]; exact (x.c.frz b f).2⟩⟩,
    ⟨fun b v q n => by rw [upd_ne (ne0 b v q)]; exact x.b.fr b v q n, fun b v q => by rw [upd_ne (ne0 b _ q)]; exact x.b.tups b v q, fun b v w q => by rw [upd_ne (ne0 b _ q)]; exact x.b.frzs b v w q, fun b v f q => by rw [upd_ne (ne0 b _ q)]; exact x.b.fzs b v f q,
      fun b q => by
        by_cases hb : b = a
        · subst hb; rw [upd_same]; simp
        · rw [upd_ne hb]; exact x.b.there b q, x.b.pre, x.b.newa, x.b.fzm, x.b.newf⟩,
    ⟨by rw [List.length_set]; exact x.l.len, fun j d q => ?_, fun j cs q => ?_, fun j k cs fs b hjk h1 h2 h3 => ?_⟩⟩
  · have z := x.c.at_ j cl b e3 e4
    cases cl with
    | lst cs =>
      obtain ⟨us, q, r'⟩ := z
      exact ⟨us, by rw [upd_ne (nea b (List.mem_of_getElem? e4))]; exact q, tr.2 _ _ r'⟩
    | ins _ _ => exact z
    | dct _ => exact z
  · by_cases hj : i = j
    · subst hj
      rw [List.getElem?_set_self hi] at q
      cases q
    · rw [List.getElem?_set_ne hj] at q
      obtain ⟨v, q1, r'⟩ := x.l.val j d q
      exact ⟨v, q1, tr.1 _ _ r'⟩
  · by_cases hj : i = j
    · subst hj
      rw [List.getElem?_set_self hi] at q
      cases q
      exact ⟨a, ys, e1, upd_same, tr.2 _ _ ry, nf, na, n0⟩
    · rw [List.getElem?_set_ne hj] at q
      obtain ⟨b, us, q1, q2, r', m1, m2, m3⟩ := x.l.own j cs q
      have hb : b ≠ a := fun z => x.l.dist i j ds cs a hj e q e1 (z ▸ q1)
      exact ⟨b, us, q1, by rw [upd_ne hb]; exact q2, tr.2 _ _ r', m1, m2, m3⟩
  · have own : ∀ {j : Nat} {cs : List D}, (st.loc.set i (.own es))[j]? = some (.own cs) → ∃ cs', st.loc[j]? = some (.own cs') := fun {j cs} q => by
      by_cases hj : i = j
      · subst hj; exact ⟨ds, e⟩
      · rw [List.getElem?_set_ne hj] at q; exact ⟨cs, q⟩
    obtain ⟨c1, k1⟩ := own h1
    obtain ⟨c2, k2⟩ := own h2
    exact x.l.dist j k c1 c2 b hjk k1 k2 h3
/-- a list cell is written -/
theorem Sim.setCell {st : S} (x : Sim G B st as fz σ H) {j : Nat} {a : Addr} {ds es : List D} (e : st.sto[j]? = some (.lst ds)) (ea : as[j]? = some a) : ∃ vs, H a = some (.lst vs) ∧ RepL G as fz H vs ds ∧
    ∀ ys, RepL G as fz H ys es → Sim G B { st with sto := st.sto.set j (.lst es) } as fz σ (upd H a (.lst ys)) ∧ StepS as fz H as fz (upd H a (.lst ys)) := by
  obtain ⟨vs, e2, r⟩ := x.c.at_ j _ a e ea
  have hm : a ∈ as := List.mem_of_getElem? ea
  have nf : ¬ fz a := fun f => (x.c.frz a f).1 hm
  have hj : j < st.sto.length := (List.getElem?_eq_some_iff.mp e).1
  refine ⟨vs, e2, r, fun ys ry => ⟨?_, stepS_lst e2 nf⟩⟩
  have tr := rep_swap (G := G) (as := as) (fz := fz) (ys := ys) e2 nf
  have n0 : ∀ b, B.H0 b ≠ none → b ∉ B.as0 → b ≠ a := fun b q n z => by
    subst z
    rcases x.b.newa b hm with w | w
    · exact n w
    · exact q w
  have nl : ∀ b v, B.H0 b = some v → (∀ zs, v ≠ .lst zs) → (H b = some v) → b ≠ a := fun b v q hv q2 z => by rw [z, e2] at q2; cases q2; exact hv _ rfl
  refine ⟨⟨x.c.nd, by rw [List.length_set]; exact x.c.len, fun k cl b e3 e4 => ?_, fun b f => ⟨(x.c.frz b f).1, by rw [upd_ne fun z : b = a => nf (z ▸ f)]; exact (x.c.frz b f).2⟩⟩,
    ⟨fun b v q n => by rw [upd_ne (n0 b (by rw [q]; simp) n)]; exact x.b.fr b v q n, fun b v q => by
        have z := x.b.tups b v q
        rw [upd_ne (nl b _ q (fun _ z => nomatch z) z)]; exact z, fun b v w q => by
        have z := x.b.frzs b v w q
        rw [upd_ne (nl b _ q (fun _ z => nomatch z) z)]; exact z, fun b v f q => by
        rw [upd_ne (fun z : b = a => nf (z ▸ x.b.fzm b f))]; exact x.b.fzs b v f q,
      fun b q => by
        by_cases hb : b = a
        · subst hb; rw [upd_same]; simp
        · rw [upd_ne hb]; exact x.b.there b q, x.b.pre, x.b.newa, x.b.fzm, x.b.newf⟩,
    ⟨x.l.len, fun k d q => ?_, fun k cs q => ?_, x.l.dist⟩⟩
  · by_cases hk : j = k
    · subst hk
      rw [List.getElem?_set_self hj] at e3
      cases e3
      rw [ea] at e4
      cases e4
      exact ⟨ys, upd_same, tr.2 _ _ ry⟩
    · rw [List.getElem?_set_ne hk] at e3
      have z := x.c.at_ k cl b e3 e4
      have hb : b ≠ a := fun w => by
        subst w
        have h1 := (List.getElem?_eq_some_iff.mp ea)
        have h2 := (List.getElem?_eq_some_iff.mp e4)
        obtain ⟨l1, q1⟩ := h1
        obtain ⟨l2, q2⟩ := h2
        exact hk ((nodup_idx x.c.nd) l1 l2 (q1.trans q2.symm))
      cases cl with
      | lst cs =>
        obtain ⟨us, q, r'⟩ := z
        exact ⟨us, by rw [upd_ne hb]; exact q, tr.2 _ _ r'⟩
      | ins _ _ => exact z
      | dct _ => exact z
  · obtain ⟨v, q1, r'⟩ := x.l.val k d q
    exact ⟨v, q1, tr.1 _ _ r'⟩
  · obtain ⟨b, us, q1, q2, r', m1, m2, m3⟩ := x.l.own k cs q
    exact ⟨b, us, q1, by rw [upd_ne fun z : b = a => m2 (z ▸ hm)]; exact q2, tr.2 _ _ r', m1, m2, m3⟩
end
end MP
end
section
set_option Elab.async false
set_option linter.all false
set_option maxRecDepth 100000
set_option maxHeartbeats 4000000
/-! MP: the rules of statements -/
namespace MP
open PySem PySem.Spec PyProof.Rows L2
section
variable {T : Tab} {G : Gd} {cf : CF} {wf n : Nat} {se : SE} {X : Cx} {B : Base} {W : WX} {σ : L2.St} {H H' : Hp} {as as' : List Addr} {fz fz' : Addr → Prop} {Z : Ends}
theorem PSimp {st : Stmt} {t T : TS} (h : L2.PS X st T) (k : ∀ Z σ H, t Z σ H → T Z σ H) : L2.PS X st t := ⟨fun pins s σ H Z I q => h.run pins s σ H Z I (k _ _ _ q)⟩
theorem PSsimp {st : List Stmt} {t T : TS} (h : L2.PSs X st T) (k : ∀ Z σ H, t Z σ H → T Z σ H) : L2.PSs X st t := ⟨fun pins s σ H Z I q => h.run pins s σ H Z I (k _ _ _ q)⟩
/-! ### more cells -/
theorem rep_more {r : List Addr} : (∀ (d : D) (v : V), RepD G as fz H v d → RepD G (as ++ r) fz H v d) ∧ (∀ (ds : List D) (vs : List V), RepL G as fz H vs ds → RepL G (as ++ r) fz H vs ds) := by
  have rec2 : ∀ k : Nat, (∀ (d : D) (v : V), sizeOf d ≤ k → RepD G as fz H v d → RepD G (as ++ r) fz H v d) ∧ (∀ (ds : List D) (vs : List V), sizeOf ds ≤ k → RepL G as fz H vs ds → RepL G (as ++ r) fz H vs ds) := by
    intro k
    induction k with
    | zero =>
      refine ⟨fun d v hk => ?_, fun ds vs hk => ?_⟩
      · exfalso; cases d <;> simp at hk
      · exfalso; cases ds <;> simp at hk
    | succ k ih =>
      refine ⟨fun d v hk h => ?_, fun ds vs hk h => ?_⟩
      · cases h with
        | non => exact .non
        | bl b => exact .bl b
        | int i => exact .int i
        | str s => exact .str s
        | tup s r => exact .tup s (ih.2 _ _ (by simp at hk; omega) r)
        | lst f e r => exact .lst f e (ih.2 _ _ (by simp at hk; omega) r)
        | fn i => exact .fn i
        | ref e => exact .ref (by rw [List.getElem?_append_left (List.getElem?_eq_some_iff.mp e).1]; exact e)
        | scr e l => exact .scr e l
      · cases h with
        | nil => exact .nil
        | cons a r => exact .cons (ih.1 _ _ (by simp at hk; omega) a) (ih.2 _ _ (by simp at hk; omega) r)
  exact ⟨fun d v => (rec2 _).1 d v (Nat.le_refl _), fun ds vs => (rec2 _).2 ds vs (Nat.le_refl _)⟩
theorem Sim.newOwn {st : S} (x : Sim G B st as fz σ H) {i : Nat} {H0 : Hp} {v : V} {ds : List D} (hi : i < st.loc.length) (h : NewL G B st σ H0 as fz H v (.lst ds)) : Sim G B { st with loc := st.loc.set i (.own ds) } as fz (σ.set i (some v)) H := by
  obtain ⟨a, vs, ds', rfl, e, h0, hH, r, nf, na, n0, ow⟩ := h
  cases e
  have hs : i < σ.length := by rw [x.l.len]; exact hi
  refine ⟨x.c, x.b, by rw [List.length_set, List.length_set]; exact x.l.len, fun j d q => ?_, fun j es q => ?_, fun j k es fs b hjk h1 h2 h3 => ?_⟩
  · by_cases hj : i = j
    · subst hj
      rw [List.getElem?_set_self hi] at q
      cases q
    · rw [List.getElem?_set_ne hj] at q ⊢
      exact x.l.val j d q
  · by_cases hj : i = j
    · subst hj
      rw [List.getElem?_set_self hi] at q
      cases q
      exact ⟨a, vs, by rw [List.getElem?_set_self hs], hH, r, nf, na, n0⟩
    · rw [List.getElem?_set_ne hj] at q ⊢
      exact x.l.own j es q
  · by_cases hj : i = j
    · subst hj
      rw [List.getElem?_set_self hs] at h3
      cases h3
      rw [List.getElem?_set_ne hjk] at h2 ⊢
      intro z
      exact ow k fs a h2 z rfl
    · rw [List.getElem?_set_ne hj] at h1 h3
      by_cases hk : i = k
      · subst hk
        rw [List.getElem?_set_self hs]
        intro z
        cases z
        exact ow j es a h1 h3 rfl
      · rw [List.getElem?_set_ne hk] at h2 ⊢
        exact x.l.dist j k es fs b hjk h1 h2 h3
theorem Sim.newCell {st : S} (x : Sim G B st as fz σ H) {i : Nat} {H0 : Hp} {v : V} {ds : List D} (hi : i < st.loc.length) (h : NewL G B st σ H0 as fz H v (.lst ds)) : ∃ a, v = .ref a ∧ H0 a = none ∧ Sim G B { loc := st.loc.set i (.val (.ref st.sto.length)), sto := st.sto ++ [.lst ds] } (as ++ [a]) fz (σ.set i (some v)) H := by
  obtain ⟨a, vs, ds', rfl, e, h0, hH, r, nf, na, n0, ow⟩ := h
  cases e
  have hs : i < σ.length := by rw [x.l.len]; exact hi
  refine ⟨a, rfl, h0, ⟨⟨?_, by rw [List.length_append, List.length_append, x.c.len]; rfl, fun j cl b e1 e2 => ?_, fun b f => ⟨fun hm => ?_, (x.c.frz b f).2⟩⟩,
    ⟨fun b o e n => x.b.fr b o e n, x.b.tups, x.b.frzs, x.b.fzs, x.b.there, ?_, fun b hm => ?_, x.b.fzm, x.b.newf⟩, by rw [List.length_set, List.length_set]; exact x.l.len, fun j d q => ?_, fun j es q => ?_, fun j k es fs b hjk h1 h2 h3 => ?_⟩⟩
  · rw [List.nodup_append]
    exact ⟨x.c.nd, by simp, fun b hb c hc z => na (by simp at hc; rw [← hc, ← z]; exact hb)⟩
  · by_cases hj : j < st.sto.length
    · rw [List.getElem?_append_left hj] at e1
      rw [List.getElem?_append_left (by rw [x.c.len]; exact hj)] at e2
      have z := x.c.at_ j cl b e1 e2
      cases cl with
      | lst cs =>
        obtain ⟨us, q, r'⟩ := z
        exact ⟨us, q, rep_more.2 _ _ r'⟩
      | ins _ _ => exact z
      | dct _ => exact z
    · have hj2 : st.sto.length ≤ j := by omega
      rw [List.getElem?_append_right hj2] at e1
      rw [List.getElem?_append_right (by rw [x.c.len]; exact hj2), x.c.len] at e2
      cases k : j - st.sto.length with
      | zero =>
        rw [k] at e1 e2
        cases e1
        cases e2
        exact ⟨vs, hH, rep_more.2 _ _ r⟩
      | succ k' => rw [k] at e1; simp at e1
  · rcases List.mem_append.mp hm with z | z
    · exact (x.c.frz b f).1 z
    · simp at z
      exact nf (z ▸ f)
  · obtain ⟨q, e⟩ := x.b.pre
    exact ⟨q ++ [a], by rw [e, List.append_assoc]⟩
  · rcases List.mem_append.mp hm with z | z
    · exact x.b.newa b z
    · simp at z
      exact .inr (z ▸ n0)
  · by_cases hj : i = j
    · subst hj
      rw [List.getElem?_set_self hi] at q
      cases q
      refine ⟨.ref a, by rw [List.getElem?_set_self hs], .ref ?_⟩
      rw [← x.c.len, List.getElem?_append_right (Nat.le_refl _), Nat.sub_self]
      rfl
    · rw [List.getElem?_set_ne hj] at q ⊢
      obtain ⟨v, q1, r'⟩ := x.l.val j d q
      exact ⟨v, q1, rep_more.1 _ _ r'⟩
  · by_cases hj : i = j
    · subst hj
      rw [List.getElem?_set_self hi] at q
      cases q
    · rw [List.getElem?_set_ne hj] at q ⊢
      obtain ⟨b, us, q1, q2, r', m1, m2, m3⟩ := x.l.own j es q
      refine ⟨b, us, q1, q2, rep_more.2 _ _ r', m1, fun hm => ?_, m3⟩
      rcases List.mem_append.mp hm with z | z
      · exact m2 z
      · simp at z
        exact ow j es b q q1 z
  · have d1 : i ≠ j := fun q => by subst q; rw [List.getElem?_set_self hi] at h1; cases h1
    have d2 : i ≠ k := fun q => by subst q; rw [List.getElem?_set_self hi] at h2; cases h2
    rw [List.getElem?_set_ne d1] at h1 h3
    rw [List.getElem?_set_ne d2] at h2 ⊢
    exact x.l.dist j k es fs b hjk h1 h2 h3
/-! ### assignments -/
theorem s_set {st : Stmt} {t : Tgt} {p : PE} (h : L2.PS X st (tAsg (tI G W (evalE cf p)) (gI G t))) : L2.PS X st (tS G W (evalS cf wf (.set t p))) := by
  refine PSimp h fun Z σ H ⟨B, as, fz, st, sim, q⟩ => ?_
  simp only [evalS] at q
  refine ⟨B, as, fz, st, sim, (q.expr (σ := σ)).mono fun d st1 as1 fz1 H1 s1 m1 p1 v rv => ?_⟩
  cases ea : MP.assign t d st1 with
  | none => rw [ea] at p1; exact p1.elim
  | some st2 =>
    rw [ea] at p1
    exact ⟨B, as1, fz1, st1, d, st2, m1, rv, ea, fun σ' sim' _ => p1 σ' as1 fz1 H1 .refl sim'⟩
theorem s_setN {st : Stmt} {i : Nat} {p : PE} (h : L2.PS X st (tAsg (tI G W (evalE cf p)) (gName i))) : L2.PS X st (tS G W (evalS cf wf (.set (.nm i) p))) := by
  refine PSimp h fun Z σ H ⟨B, as, fz, st, sim, q⟩ => ?_
  simp only [evalS] at q
  refine ⟨B, as, fz, st, sim, (q.expr (σ := σ)).mono fun d st1 as1 fz1 H1 s1 m1 p1 v rv => ?_⟩
  rw [MP.assign] at p1
  split at p1
  · rename_i hi
    exact p1 _ as1 fz1 H1 .refl (m1.setVal hi rv)
  · exact p1.elim
theorem s_own {st : Stmt} {i : Nat} {p : PE} (h : L2.PS X st (tAsg (tN G W (evalE cf p)) (gName i))) : L2.PS X st (tS G W (evalS cf wf (.own i p))) := by
  refine PSimp h fun Z σ H ⟨B, as, fz, st, sim, q⟩ => ?_
  simp only [evalS] at q
  refine ⟨B, as, fz, st, sim, (q.expr (σ := σ)).mono fun d st1 as1 fz1 H1 s1 m1 p1 v rv => ?_⟩
  split at p1
  · split at p1
    · rename_i hi
      exact p1 _ as1 fz1 H1 .refl (m1.newOwn hi rv)
    · exact p1.elim
  · exact p1.elim
theorem s_cell {st : Stmt} {i : Nat} {p : PE} (h : L2.PS X st (tAsg (tN G W (evalE cf p)) (gName i))) : L2.PS X st (tS G W (evalS cf wf (.cell i p))) := by
  refine PSimp h fun Z σ H ⟨B, as, fz, st, sim, q⟩ => ?_
  simp only [evalS] at q
  refine ⟨B, as, fz, st, sim, ?_⟩
  cases ev : evalE cf p st with
  | bad => rw [ev] at q; exact q
  | exc c t => rw [ev] at q; exact q σ
  | ok d st1 =>
    rw [ev] at q
    intro as1 fz1 H1 s1 m1 v rv
    simp only [bind_ok] at q
    split at q
    · split at q
      · rename_i hi
        obtain ⟨a, rfl, h0, sim'⟩ := m1.newCell hi rv
        refine q _ (as1 ++ [a]) fz1 H1 ?_ sim'
        have s := s1.s
        refine ⟨s.tups, s.frzs, s.fzs, s.there, ?_, fun b hb => ?_, s.fzm⟩
        · obtain ⟨r, e⟩ := s.pre
          exact ⟨r ++ [a], by rw [e, List.append_assoc]⟩
        · rcases List.mem_append.mp hb with z | z
          · exact s.newa b z
          · simp at z
            exact .inr (z ▸ h0)
      · exact q.elim
    · exact q.elim
theorem new_lst {es : List Expr} {ps : PL} {pos : Pos} (q : PVs X G W cf es ps) : L2.PE X (.List es pos) (tN G W (evalE cf (.lst ps))) := by
  refine PEimp (pe_lst q.pa) fun σ H Q ⟨B, as, fz, st, sim, q⟩ => ?_
  simp only [evalE] at q
  refine ⟨B, as, fz, st, sim, q.bind.mono fun ds st1 as1 fz1 H1 s1 m1 p1 vs rvs => ?_⟩
  split at p1
  · rename_i hl
    refine ⟨by rw [rvs.length, sl_line]; omega, fun p hn => ?_⟩
    have g : Grow fz1 H1 fz1 (upd H1 p (.lst vs)) := grow_new hn
    have n0 : H p = none := by
      cases q : H p with
      | none => rfl
      | some o => exact absurd hn (s1.there p (by rw [q]; simp))
    refine p1 as1 fz1 _ g.simB.step (m1.grow g) _ ⟨p, vs, ds, rfl, rfl, n0, upd_same, RepL.step g.simB.step _ _ rvs, fun f => (m1.c.frz p f).2 hn, fun h => m1.c.live h hn, m1.b.fresh hn, fun i es b e1 e2 => ?_⟩
    obtain ⟨a, us, q1, q2, _⟩ := m1.l.own i es e1
    rw [e2] at q1
    cases q1
    intro z
    rw [z, hn] at q2
    cases q2
  · exact p1.elim
/-! ### swaps -/
def isComp : Expr → Bool
  | .ListComp _ _ _ _ => true
  | .SetComp _ _ _ _ => true
  | .DictComp _ _ _ _ _ => true
  | _ => false
/-- a comprehension that is stored without the swap -/
def noSwap (se : SE) (tg e : Expr) : Bool := !isComp e || (match tg, e with
  | .Name y py, .ListComp _ _ _ pos => !(decide (se.sc.names.lookup y = some .local) && (py.line == pos.line))
  | .Tuple _ _ _, .ListComp _ _ _ _ => true
  | _, _ => false)
theorem swaps_not {e : Expr} {tg : Option Expr} {l : Nat} {env : Env} (h : isComp e = false) : swapsWith e tg l env = pure false := by
  cases e <;> first | rfl | exact absurd h (by simp [isComp])
theorem swaps_ok (c : Cok T G cf n se X) {tg e : Expr} {l : Nat} (h : noSwap se tg e = true) : swapsWith e (some tg) l X.env = pure false := by
  by_cases hc : isComp e = false
  · exact swaps_not hc
  · unfold noSwap at h
    rw [Bool.or_eq_true] at h
    rcases h with h | h
    · rw [Bool.not_eq_true'] at h; exact absurd h hc
    · split at h
      · rename_i y py elt gs scope pos
        have hk : (X.env.kindOf y == some .local && py.line == pos.line) = false := by
          rw [Bool.not_eq_true', Bool.and_eq_false_iff] at h
          rw [Bool.and_eq_false_iff]
          rcases h with h | h
          · left
            have h : ¬ se.sc.names.lookup y = some .local := by simpa using h
            show (X.env.scope.names.lookup y == some .local) = false
            rw [c.sc]
            cases q : se.sc.names.lookup y with
            | none => rfl
            | some k =>
              rw [q] at h
              cases k <;> first | exact absurd rfl h | rfl
          · right; exact h
        unfold swapsWith
        simp only [Expr.pos]
        have e1 : (X.env.blockKind == .function && X.env.kindOf y == some .local && py.line == pos.line && !(scope.names.any fun x => x.1 == y && (x.2 == .local || x.2 == .cell))) = false := by
          rw [Bool.and_assoc (X.env.blockKind == .function), hk, Bool.and_false, Bool.false_and]
        simp only [e1]
      · rfl
      · cases h
def noPar : Expr → Expr → Bool
  | .Tuple _ _ _, .Tuple _ _ _ => false
  | .Tuple _ _ _, _ => true
  | .Name _ _, _ => true
  | .Subscript _ _ _, _ => true
  | _, _ => false
theorem noPar_ok {tg e : Expr} {env : Env} (h : noPar tg e = true) : swappedStores [tg] e env = pure none := by
  cases tg <;> first | rfl | (simp [noPar] at h; done) | skip
  cases e <;> first | rfl | exact absurd h (by simp [noPar])
theorem asg_one {tg : Expr} {env : Env} (h : starred tg = false) : (assignEach [tg] env).map (·.2) = [PySem.assign tg env] := by
  rw [asg_cons h]; rfl
theorem ps_gen (c : Cok T G cf n se X) {tg e : Expr} {te : TE} {g : TG} {pos : Pos} (he : L2.PE X e te) (hg : L2.PG X tg g) (h1 : noSwap se tg e = true) (h2 : noPar tg e = true) (h3 : starred tg = false) : L2.PS X (.Assign [tg] e pos) (tAsg te g) :=
  ps_asg he hg (swaps_ok c h1) (noPar_ok h2) (asg_one h3)
theorem pg_nameOk (c : Cok T G cf n se X) {i : Nat} {x : Str} {pos : Pos} (h1 : se.N[i]? = some x) (h2 : locN se x = true) : L2.PG X (.Name x pos) (gName i) := by
  obtain ⟨l1, l2⟩ := c.loc h2
  exact pg_name (by rw [c.N]; exact c.nd) (by rw [c.N]; exact h1) l1 l2
end
end MP
end
section
set_option Elab.async false
set_option linter.all false
set_option maxRecDepth 100000
set_option maxHeartbeats 4000000
/-! MP: more rules of statements -/
namespace MP
open PySem PySem.Spec PyProof.Rows L2
section
variable {T : Tab} {G : Gd} {cf : CF} {wf n : Nat} {se : SE} {X : Cx} {B : Base} {W : WX} {σ : L2.St} {H H' : Hp} {as as' : List Addr} {fz fz' : Addr → Prop} {Z : Ends}
theorem setAt_some {xs ys : List D} {k : Int} {d : D} (h : setAt xs k d = some ys) : ∃ j, ixN xs.length k = some j ∧ ys = xs.set j d := by
  unfold setAt at h
  unfold ixN
  split at h
  · rename_i hc
    cases h
    refine ⟨k.toNat, ?_, rfl⟩
    rw [if_pos hc.1, if_pos (by omega)]
  · rename_i h1
    split at h
    · rename_i hc
      cases h
      refine ⟨(k + xs.length).toNat, ?_, rfl⟩
      rw [if_neg (by omega), if_pos (by omega)]
    · cases h
theorem asg_sub {o k : Expr} {p1 : Pos} {env : Env} (h : plainIx k = true) : ∀ v, PySem.assign (.Subscript o k p1) env v = (do
      let ov ← holding [v] (eval o env)
      let iv ← holding [v, ov] (eval k env)
      standAt p1
      holding [v, ov, iv] (setItem ov iv v)
      release [v, ov, iv] []) := by
  intro v
  cases k <;> first | rfl | exact absurd h (by simp [plainIx])
theorem s_seti (c : Cok T G cf n se X) {i : Nat} {o k e : Expr} {pk pe : PE} {pos p1 : Pos} (ho : varOk se i o = true) (hx : plainIx k = true) (hk : L2.PE X k (tI G W (evalE cf pk))) (he : L2.PE X e (tI G W (evalE cf pe))) :
    L2.PS X (.Assign [.Subscript o k p1] e pos) (tS G W (evalS cf wf (.seti i pk pe))) := by
  have hs : swapsWithSole [.Subscript o k p1] e pos.line X.env = pure false := by cases e <;> rfl
  have hw : swappedStores [.Subscript o k p1] e X.env = pure none := by cases e <;> rfl
  refine PSimp (ps_asg he (pg_sub (pe_varOk c ho).1 hk set_list (asg_sub hx)) hs hw) fun Z σ H ⟨B, as, fz, st, sim, q⟩ => ?_
  simp only [evalS] at q
  refine ⟨B, as, fz, st, sim, (q.expr (σ := σ)).mono fun d st1 as1 fz1 H1 s1 m1 p1 v rv => ?_⟩
  split at p1
  · rename_i xs0 e0
    obtain ⟨a0, vs0, e1, _⟩ := m1.l.own i xs0 e0
    refine ⟨_, e1, B, as1, fz1, st1, m1, (p1.expr (σ := σ)).mono fun kd st2 as2 fz2 H2 s2 m2 p2 kv rk => ?_⟩
    split at p2
    · rename_i xs kk e2
      cases rk
      split at p2
      · rename_i ys e3
        obtain ⟨j, e4, rfl⟩ := setAt_some e3
        obtain ⟨a, vs, e5, e6, r, nf, upd'⟩ := m2.setOwn (es := xs.set j d) e2
        rw [e1] at e5
        cases e5
        refine ⟨a0, vs, kk, j, rfl, rfl, e6, by rw [r.length]; exact e4, ?_⟩
        obtain ⟨sm, stp⟩ := upd' (vs.set j v) (r.set (RepD.step s2 _ _ rv))
        exact p2 σ as2 fz2 _ stp sm
      · exact p2.elim
    · exact p2.elim
  · exact p1.elim
theorem s_setc (c : Cok T G cf n se X) {o k e : Expr} {po pk pe : PE} {pos p1 : Pos} (hx : plainIx k = true) (ho : L2.PE X o (tI G W (evalE cf po))) (hk : L2.PE X k (tI G W (evalE cf pk))) (he : L2.PE X e (tI G W (evalE cf pe))) :
    L2.PS X (.Assign [.Subscript o k p1] e pos) (tS G W (evalS cf wf (.setc po pk pe))) := by
  have hs : swapsWithSole [.Subscript o k p1] e pos.line X.env = pure false := by cases e <;> rfl
  have hw : swappedStores [.Subscript o k p1] e X.env = pure none := by cases e <;> rfl
  refine PSimp (ps_asg he (pg_sub ho hk set_list (asg_sub hx)) hs hw) fun Z σ H ⟨B, as, fz, st, sim, q⟩ => ?_
  simp only [evalS] at q
  refine ⟨B, as, fz, st, sim, (q.expr (σ := σ)).mono fun d st1 as1 fz1 H1 s1 m1 p1 v rv => ⟨B, as1, fz1, st1, m1, (p1.expr (σ := σ)).mono fun od st2 as2 fz2 H2 s2 m2 p2 ov ro => ⟨B, as2, fz2, st2, m2, (p2.expr (σ := σ)).mono fun kd st3 as3 fz3 H3 s3 m3 p3 kv rk => ?_⟩⟩⟩
  split at p3
  · rename_i j kk
    cases rk
    split at p3
    · rename_i xs e2
      split at p3
      · rename_i ys e3
        obtain ⟨i, e4, rfl⟩ := setAt_some e3
        have ro3 := RepD.step s3 _ _ ro
        cases ro3 with
        | ref ea =>
          obtain ⟨vs, e6, r, upd'⟩ := m3.setCell (es := xs.set i d) e2 ea
          refine ⟨_, vs, kk, i, rfl, rfl, e6, by rw [r.length]; exact e4, ?_⟩
          obtain ⟨sm, stp⟩ := upd' (vs.set i v) (r.set (RepD.step (s2.trans s3) _ _ rv))
          exact p3 σ as3 fz3 _ stp sm
      · exact p3.elim
    · exact p3.elim
  · exact p3.elim
def augOf : Prim → Option Operator
  | .add => some .Add
  | .sub => some .Sub
  | .mul => some .Mult
  | _ => none
theorem ip_aug {p : Prim} {op : Operator} (h : augOf p = some op) : PIp X op (fun x y H Q => ∃ i j r, x = .int i ∧ y = .int j ∧ augI p i (.int j) = some (.int r) ∧ Q (.int r) H) := by
  intro pins s σ H x y v u Q I rx ry ⟨i, j, r, ex, ey, er, q⟩
  cases p <;> simp only [augOf, Option.some.injEq, reduceCtorEq] at h
  all_goals subst h
  · simp only [augI, Option.some.injEq, D.int.injEq] at er
    subst er
    exact iop_add pins s σ H x y v u Q I rx ry ⟨i, j, ex, ey, q⟩
  · simp only [augI, Option.some.injEq, D.int.injEq] at er
    subst er
    exact iop_sub pins s σ H x y v u Q I rx ry ⟨i, j, ex, ey, q⟩
  · simp only [augI] at er
    split at er
    · rename_i hc
      simp only [Option.some.injEq, D.int.injEq] at er
      subst er
      refine iop_mul pins s σ H x y v u Q I rx ry ⟨i, j, ex, ey, ?_, q⟩
      simp only [smallW, Bool.or_eq_true, Bool.and_eq_true, decide_eq_true_eq] at hc
      exact hc
    · cases er
theorem augI_int {p : Prim} {x : Int} {d z : D} (h : augI p x d = some z) : ∃ y r, d = .int y ∧ z = .int r := by
  unfold augI at h
  split at h
  · cases h; exact ⟨_, _, rfl, rfl⟩
  · cases h; exact ⟨_, _, rfl, rfl⟩
  · split at h
    · cases h; exact ⟨_, _, rfl, rfl⟩
    · cases h
  · cases h
theorem s_aug (c : Cok T G cf n se X) {i : Nat} {x : Str} {e : Expr} {p : Prim} {op : Operator} {pe : PE} {p1 pos : Pos} (h : augOf p = some op) (h1 : se.N[i]? = some x) (h2 : locN se x = true) (he : L2.PE X e (tI G W (evalE cf pe))) :
    L2.PS X (.AugAssign (.Name x p1) op e pos) (tS G W (evalS cf wf (.aug i p pe))) := by
  obtain ⟨l1, l2⟩ := c.loc h2
  refine PSimp (ps_aug (by rw [c.N]; exact c.nd) (by rw [c.N]; exact h1) l1 he (ip_aug h) l2) fun Z σ H ⟨B, as, fz, st, sim, q⟩ => ?_
  simp only [evalS] at q
  split at q
  · rename_i xv e0
    obtain ⟨v, e1, r⟩ := sim.l.val i _ e0
    cases r
    refine ⟨_, e1, B, as, fz, st, sim, (q.expr (σ := σ)).mono fun d st1 as1 fz1 H1 s1 m1 p1 w rw' => ?_⟩
    split at p1
    · rename_i z ez
      obtain ⟨y, r, rfl, rfl⟩ := augI_int ez
      cases rw'
      have hi : i < st1.loc.length := by
        rw [← m1.l.len, sim.l.len]
        exact (List.getElem?_eq_some_iff.mp e0).1
      exact ⟨xv, y, r, rfl, rfl, ez, p1 _ as1 fz1 H1 .refl (m1.setVal hi (.int r))⟩
    · exact p1.elim
  · exact q.elim
theorem s_app (c : Cok T G cf n se X) {i : Nat} {o y : Expr} {pe : PE} {apos cpos pos : Pos} (ho : varOk se i o = true) (hb : plainBase o = true) (hl : (apos.endLine == cpos.line) = true) (hy : starred y = false) (he : L2.PE X y (tI G W (evalE cf pe))) :
    L2.PS X (.Expr (.Call (.Attribute o "append" apos) [y] [] cpos) pos) (tS G W (evalS cf wf (.app i pe))) := by
  have z : L2.PE X (.Call (.Attribute o "append" apos) [y] [] cpos) (tBM X.K "list" rAppend (tVar i) (tCons (tI G W (evalE cf pe)) tNil)) :=
    pe_bm F.plainAttrs_list F.slot_list_append F.type_list_append mt_append (pe_varOk c ho).1 (pa_cons he pa_nil (star_cons hy)) (plainBase_ok hb) (few_ok hy) hl (star_cons hy) rfl
  refine PSimp (ps_expr z) fun Z σ H ⟨B, as, fz, st, sim, q⟩ => ?_
  simp only [evalS] at q
  split at q
  · rename_i xs0 e0
    obtain ⟨a, vs, e1, e2, _⟩ := sim.l.own i xs0 e0
    refine ⟨_, e1, .inl ⟨rfl, vs, SqL.of e2⟩, B, as, fz, st, sim, (q.expr (σ := σ)).mono fun d st1 as1 fz1 H1 s1 m1 p1 w rw' => ?_⟩
    split at p1
    · rename_i xs e3
      split at p1
      · rename_i hlen
        obtain ⟨a', vs', e5, e6, r, nf, upd'⟩ := m1.setOwn (es := xs ++ [d]) e3
        rw [e1] at e5
        cases e5
        obtain ⟨sm, stp⟩ := upd' (vs' ++ [w]) (r.append (.cons rw' .nil))
        exact ⟨a, vs', w, rfl, rfl, e6, by rw [sl_line, r.length]; omega, p1 σ as1 fz1 _ stp sm⟩
      · exact p1.elim
    · exact p1.elim
  · exact q.elim
/-! ### flow -/
theorem s_if {e : Expr} {p : PE} {a b : List Stmt} {pa pb : PB} {pos : Pos} (hc : Both X e (tI G W (evalE cf p))) (ha : L2.PSs X a (tS G W (evalSs cf wf pa))) (hb : L2.PSs X b (tS G W (evalSs cf wf pb))) :
    L2.PS X (.If e a b pos) (tS G W (evalS cf wf (.ife p pa pb))) := by
  refine PSimp (ps_if hc.2 ha hb) fun Z σ H ⟨B, as, fz, st, sim, q⟩ => ?_
  simp only [evalS] at q
  refine ⟨B, as, fz, st, sim, (q.expr (σ := σ)).mono fun d st1 as1 fz1 H1 s1 m1 p1 v rv => ?_⟩
  split at p1
  · cases rv
    exact ⟨true, rfl, B, as1, fz1, st1, m1, p1⟩
  · cases rv
    exact ⟨false, rfl, B, as1, fz1, st1, m1, p1⟩
  · exact p1.elim
theorem s_ret {e : Expr} {p : PE} {pos : Pos} (he : L2.PE X e (tI G W (evalE cf p))) : L2.PS X (.Return (some e) pos) (tS G W (evalS cf wf (.ret p))) := by
  refine PSimp (ps_ret he) fun Z σ H ⟨B, as, fz, st, sim, q⟩ => ?_
  simp only [evalS] at q
  exact ⟨B, as, fz, st, sim, (q.expr (σ := σ)).mono fun d st1 as1 fz1 H1 s1 m1 p1 v rv => p1 as1 fz1 H1 v m1.b m1.c rv⟩
theorem s_retn {pos : Pos} : L2.PS X (.Return none pos) (tS G W (evalS cf wf .retn)) := by
  refine PSimp ps_retN fun Z σ H ⟨B, as, fz, st, sim, q⟩ => ?_
  simp only [evalS] at q
  exact q as fz H _ sim.b sim.c .non
theorem s_expr {e : Expr} {p : PE} {pos : Pos} (hc : isComp e = false) (he : L2.PE X e (tI G W (evalE cf p))) : L2.PS X (.Expr e pos) (tS G W (evalS cf wf (.expr p))) := by
  refine PSimp (ps_expr he (swaps_not hc)) fun Z σ H ⟨B, as, fz, st, sim, q⟩ => ?_
  simp only [evalS] at q
  exact ⟨B, as, fz, st, sim, (q.expr (σ := σ)).mono fun d st1 as1 fz1 H1 s1 m1 p1 v rv => p1 σ as1 fz1 H1 .refl m1⟩
theorem s_brk {pos : Pos} : L2.PS X (.Break pos) (tS G W (evalS cf wf .brk)) := PSimp ps_break fun Z σ H ⟨B, as, fz, st, sim, q⟩ => by
  simp only [evalS] at q
  exact q σ as fz H .refl sim
theorem s_cnt {pos : Pos} : L2.PS X (.Continue pos) (tS G W (evalS cf wf .cnt)) := PSimp ps_continue fun Z σ H ⟨B, as, fz, st, sim, q⟩ => by
  simp only [evalS] at q
  exact q σ as fz H .refl sim
theorem s_pas {pos : Pos} : L2.PS X (.Pass pos) (tS G W (evalS cf wf .pas)) := PSimp ps_pass fun Z σ H ⟨B, as, fz, st, sim, q⟩ => by
  simp only [evalS] at q
  exact q σ as fz H .refl sim
theorem s_doc {x : Str} {j : Nat} {p1 pos : Pos} : L2.PS X (.Expr (.Constant (.str x) j p1) pos) (tS G W (evalS cf wf .pas)) := PSimp ps_doc fun Z σ H ⟨B, as, fz, st, sim, q⟩ => by
  simp only [evalS] at q
  exact q σ as fz H .refl sim
theorem ss_nil : L2.PSs X [] (tS G W (evalSs cf wf .nil)) := PSsimp pss_nil fun Z σ H ⟨B, as, fz, st, sim, q⟩ => by
  simp only [evalSs] at q
  exact q σ as fz H .refl sim
theorem ss_cons {s : Stmt} {r : List Stmt} {p : PS} {q : PB} (h : L2.PS X s (tS G W (evalS cf wf p))) (h2 : L2.PSs X r (tS G W (evalSs cf wf q))) : L2.PSs X (s :: r) (tS G W (evalSs cf wf (.cons p q))) := by
  refine PSsimp (pss_cons h h2) fun Z σ H ⟨B, as, fz, st, sim, q⟩ => ?_
  simp only [evalSs] at q
  refine ⟨B, as, fz, st, sim, q.stmt (fun _ _ => rfl) rfl fun g st1 σ1 as1 fz1 H1 ng s1 m1 p1 => ?_⟩
  cases g with
  | nx => exact ⟨B, as1, fz1, st1, m1, p1⟩
  | brk => exact p1 σ1 as1 fz1 H1 .refl m1
  | cnt => exact p1 σ1 as1 fz1 H1 .refl m1
  | ret d => exact (ng d rfl).elim
theorem s_whl (hp : PassesOwn (model X.prog X.w) X.A X.env X.xe) {e : Expr} {p : PE} {b : List Stmt} {pb : PB} {pos : Pos} (hc : Both X e (tI G W (evalE cf p))) (hb : L2.PSs X b (tS G W (evalSs cf wf pb))) :
    L2.PS X (.While e b [] pos) (tS G W (evalS cf wf (.whl p pb))) := by
  refine PSimp (ps_while hp hc.2 hb) fun Z σ H ⟨B, as, fz, st, sim, q⟩ => ?_
  simp only [evalS] at q
  refine ⟨fun m σ' H' => ∃ as' fz' st', Sim G B st' as' fz' σ' H' ∧ PostS G B W (whileN (evalE cf p) (evalSs cf wf pb) m st') Z as' fz' H', ⟨wf, as, fz, st, sim, q⟩, ?_⟩
  rintro m σ1 H1 ⟨as1, fz1, st1, sim1, q1⟩
  cases m with
  | zero => rw [whileN] at q1; exact q1.elim
  | succ m =>
    rw [whileN] at q1
    refine ⟨B, as1, fz1, st1, sim1, (q1.expr (σ := σ1)).mono fun d st2 as2 fz2 H2 s2 m2 p2 v rv => ?_⟩
    split at p2
    · cases rv
      refine ⟨true, rfl, fun σ' H' => ∃ as' fz' st', Sim G B st' as' fz' σ' H' ∧ PostS G B W (whileN (evalE cf p) (evalSs cf wf pb) m st') Z as' fz' H', fun σ' H' h => ⟨m, Nat.lt_succ_self m, h⟩, B, as2, fz2, st2, m2, p2.stmt (fun _ _ => rfl) rfl fun g st3 σ3 as3 fz3 H3 ng s3 m3 p3 => ?_⟩
      cases g with
      | nx => exact ⟨as3, fz3, st3, m3, p3⟩
      | cnt => exact ⟨as3, fz3, st3, m3, p3⟩
      | brk => exact p3 σ3 as3 fz3 H3 .refl m3
      | ret d => exact (ng d rfl).elim
    · cases rv
      exact ⟨false, rfl, p2 σ1 as2 fz2 H2 .refl m2⟩
    · exact p2.elim
theorem s_for (c : Cok T G cf n se X) (hp : PassesOwn (model X.prog X.w) X.A X.env X.xe) {tg iter : Expr} {t : Tgt} {it : Iter} {b : List Stmt} {pb : PB} {pos : Pos} (hI : L2.PI X tg iter (wI G W true (evalI cf it))) (ht : ckT se t tg = true)
    (hb : L2.PSs X b (tS G W (evalSs cf wf pb))) (hs : notSet iter = true) : L2.PS X (.For tg iter b [] pos) (tS G W (evalS cf wf (.forr t it pb))) := by
  refine PSimp (ps_for hp c.calm hI (pg_ckT c t tg ht) hb (notSet_ok hs)) fun Z σ H ⟨B, as, fz, st, sim, q⟩ => ?_
  simp only [evalS] at q
  refine ⟨B, as, fz, st, sim, (q.expr (σ := σ)).mono fun xs st1 as1 fz1 H1 s1 m1 p1 J iok => ?_⟩
  obtain ⟨Gs, Y, wk, hGs, hY⟩ := iok
  refine for_it wk (fun i σ' H' => ∃ as' fz' st', Sim G B st' as' fz' σ' H' ∧ StepS as1 fz1 H1 as' fz' H' ∧ PostS G B W (forLoop (fun d s2 => ofOpt (MP.assign t d s2) fun s3 => evalSs cf wf pb s3) (xs.drop i) st') Z as' fz' H') ?_ ?_ ?_ ?_
  · exact ⟨as1, fz1, st1, m1, .refl, p1⟩
  · rintro i σ2 H2 hi ⟨as2, fz2, st2, sm, stp, q2⟩
    exact hGs as2 fz2 H2 ⟨stp, fun z => nomatch z⟩
  · rintro i x σ2 H2 H3 hi ⟨as2, fz2, st2, sm, stp, q2⟩ y
    obtain ⟨fz3, g3, rd⟩ := hY as2 fz2 H2 i x H3 xs[i] ⟨stp, fun z => nomatch z⟩ (List.getElem?_eq_getElem hi) y
    rw [List.drop_eq_getElem_cons hi, forLoop] at q2
    have sm3 := sm.grow g3
    have stp3 : StepS as1 fz1 H1 as2 fz3 H3 := stp.trans (g3.simB (as := as2)).step.s
    have q3 := PostS.trans q2 (g3.simB (as := as2)).step.s
    cases ea : MP.assign t xs[i] st2 with
    | none => simp only [ea, ofOpt] at q3; exact q3.elim
    | some st4 =>
      simp only [ea, ofOpt] at q3
      refine ⟨B, as2, fz3, st2, xs[i], st4, sm3, rd, ea, fun σ4 sm4 _ => ⟨B, as2, fz3, st4, sm4, q3.stmt (fun _ _ => rfl) rfl fun g st5 σ5 as5 fz5 H5 ng s5 m5 p5 => ?_⟩⟩
      cases g with
      | nx => exact ⟨as5, fz5, st5, m5, stp3.trans s5, p5⟩
      | cnt => exact ⟨as5, fz5, st5, m5, stp3.trans s5, p5⟩
      | brk => exact p5 σ5 as5 fz5 H5 .refl m5
      | ret d => exact (ng d rfl).elim
  · rintro σ2 H2 ⟨as2, fz2, st2, sm, stp, q2⟩
    rw [List.drop_length, forLoop] at q2
    exact q2 σ2 as2 fz2 H2 .refl sm
end
end MP
end
section
set_option Elab.async false
set_option linter.all false
set_option maxRecDepth 100000
set_option maxHeartbeats 4000000
/-! MP: a, b = x, y -/
namespace MP
open PySem PySem.Spec PyProof.Rows L2
def parC (se : SE) (i j : Nat) (x y : Str) (px py : Pos) (a b : Expr) : Bool := decide (se.N[i]? = some x) && decide (se.N[j]? = some y) && decide (i ≠ j) && decide (x ≠ y) && decide (se.sc.names.lookup x = some .local) && decide (se.sc.names.lookup y = some .local) &&
  decide (se.sc.kind = .function) && (px.line == py.line) && !starred a && !starred b && !([a, b].all (foldedForSure 8)) && !([a, b].all (constantsAlone 8))
section
variable {T : Tab} {G : Gd} {cf : CF} {n wf : Nat} {se : SE} {X : Cx} {W : WX}
theorem star_eq (a : Expr) : (match a with | .Starred _ _ => true | _ => false) = starred a := by
  cases a <;> rfl
theorem par_swaps (c : Cok T G cf n se X) {i j : Nat} {x y : Str} {px py pt : Pos} {kt k2 : Nat} {pt2 : Pos} {a b : Expr} (h : parC se i j x y px py a b = true) :
    swappedStores [.Tuple [.Name x px, .Name y py] kt pt] (.Tuple [a, b] k2 pt2) X.env = pure (some [x, y]) := by
  simp only [parC, Bool.and_eq_true, decide_eq_true_eq, Bool.not_eq_true', beq_iff_eq] at h
  obtain ⟨⟨⟨⟨⟨⟨⟨⟨⟨⟨⟨h1, h2⟩, h3⟩, h4⟩, h5⟩, h6⟩, h7⟩, h8⟩, h9⟩, h10⟩, h11⟩, h12⟩ := h
  rw [← c.sc] at h5 h6 h7
  have hk : X.env.blockKind = .function := by
    unfold Env.blockKind
    rw [h7]
    rfl
  have k1 : X.env.kindOf x = some .local := h5
  have k2 : X.env.kindOf y = some .local := h6
  unfold swappedStores
  have hyx : (y == x) = false := by
    rw [beq_eq_false_iff_ne]
    exact fun z => h4 z.symm
  have hpl : (Expr.Name x px).pos.line = px.line := rfl
  have s1 : ([a, b].any fun x => match x with | .Starred _ _ => true | _ => false) = false := by
    simp only [List.any_cons, List.any_nil, star_eq, h9, h10, Bool.or_false]
  simp only [s1, h11, h12, hk]
  simp [k1, k2, h8, hpl, List.eraseDups_cons, hyx]
  intro hh
  rcases hh with hh | hh
  · cases a <;> first | (cases hh; done) | (simp [starred] at h9; done)
  · cases b <;> first | (cases hh; done) | (simp [starred] at h10; done)
theorem par_assoc {α β γ : Type} (o : Out α) (f : α → S → Out β) (g : β → S → Out γ) : (o.bind f).bind g = o.bind fun a s => (f a s).bind g := by
  cases o <;> rfl
theorem s_par (c : Cok T G cf n se X) {i j : Nat} {x y : Str} {px py pt pos : Pos} {kt k2 : Nat} {pt2 : Pos} {a b : Expr} {p1 p2 : PE} (h : parC se i j x y px py a b = true) (q : PVs X G W cf [a, b] (.cons p1 (.cons p2 .nil))) :
    L2.PS X (.Assign [.Tuple [.Name x px, .Name y py] kt pt] (.Tuple [a, b] k2 pt2) pos) (tS G W (evalS cf wf (.set (.tp [.nm i, .nm j]) (.tup (.cons p1 (.cons p2 .nil)))))) := by
  have hw := par_swaps (pt := pt) (kt := kt) (k2 := k2) (pt2 := pt2) c h
  simp only [parC, Bool.and_eq_true, decide_eq_true_eq, Bool.not_eq_true', beq_iff_eq] at h
  obtain ⟨⟨⟨⟨⟨⟨⟨⟨⟨⟨⟨h1, h2⟩, h3⟩, h4⟩, h5⟩, h6⟩, h7⟩, h8⟩, h9⟩, h10⟩, h11⟩, h12⟩ := h
  rw [← c.sc] at h5 h6
  refine PSimp (ps_par c.calm (by rw [c.N]; exact c.nd) (by rw [c.N]; exact h1) (by rw [c.N]; exact h2) h3 h5 h6 q.pa hw) fun Z σ H ⟨B, as, fz, st, sim, q⟩ => ?_
  simp only [evalS, evalE, par_assoc] at q
  refine ⟨B, as, fz, st, sim, (q.expr (σ := σ)).mono fun ds st1 as1 fz1 H1 s1 m1 p1 vs rv => ?_⟩
  split at p1
  · simp only [bind_ok] at p1
    cases rv with
    | nil => exact p1.elim
    | cons r1 rv =>
      cases rv with
      | nil =>
        simp only [MP.assign, assignL] at p1
        by_cases hi : i < st1.loc.length
        · rw [if_pos hi] at p1
          exact p1.elim
        · rw [if_neg hi] at p1
          exact p1.elim
      | cons r2 rv =>
        simp only [MP.assign, assignL] at p1
        by_cases hi : i < st1.loc.length
        · rw [if_pos hi] at p1
          simp only [Option.bind_some, List.length_set] at p1
          by_cases hj : j < st1.loc.length
          · rw [if_pos hj] at p1
            cases rv with
            | nil => exact ⟨_, _, rfl, p1 _ as1 fz1 H1 .refl ((m1.setVal hi r1).setVal (by rw [List.length_set]; exact hj) r2)⟩
            | cons r3 rv => exact p1.elim
          · rw [if_neg hj] at p1
            exact p1.elim
        · rw [if_neg hi] at p1
          exact p1.elim
  · exact p1.elim
end
end MP
end
section
set_option Elab.async false
set_option linter.all false
set_option maxRecDepth 100000
set_option maxHeartbeats 4000000
/-! MP: which text a term of statement stands for, checked -/
namespace MP
open PySem PySem.Spec PyProof.Rows L2
/-- an error class of the package -/
def ExcOk (K : PySem.W.Frag) (mg : Str → Option Value) (x : Str) (C : Addr) : Prop := ∃ (B newId initId : String) (bmB : List Value), ExcBaseFacts B newId initId bmB ∧ PySem.W.excIn K C bmB newId = true ∧ mg x = some (.ref C) ∧ PySem.W.keepIn K (.ref C) = true ∧
  PySem.W.subIn K (.ref C) (.type "BaseException") = some true ∧ PySem.W.typeIn K (.ref C) = some (.type "type")
structure Sok (T : Tab) (G : Gd) (X : Cx) : Prop where
  own : PassesOwn (model X.prog X.w) X.A X.env X.xe
  excs : ∀ k x, T.excs[k]? = some x → x ≠ ("BadForm" : Str) → ExcOk X.K X.mg x (G.ca k)
  stk : X.stack = X.env :: X.outer
  frm : X.env.frame = some X.env.locals
  mg : X.mg = G.mg
theorem s_rais {T : Tab} {G : Gd} {cf : CF} {wf n : Nat} {se : SE} {X : Cx} {W : WX} (c : Cok T G cf n se X) (k : Sok T G X) (tk : L2N.Takes X W) {i : Nat} {x m : Str} {j : Nat} {p1 p2 p3 pos : Pos} (h : T.excs[i]? = some x) (hb : x ≠ ("BadForm" : Str)) (hg : gloN se x = true) (hn : okName x = true) :
    L2.PS X (.Raise (some (.Call (.Name x p1) [.Constant (.str m) j p2] [] p3)) none pos) (tS G W (evalS cf wf (.rais i))) := by
  obtain ⟨B, a, b, bm, F, e1, e2, e3, e4, e5⟩ := k.excs i x h hb
  refine PSimp (L2N.ps_raise c.calm tk (L2N.pmk_own F e1 e2 e3 (raises_own e4 e5) (c.glo hg) (okName_d hn).1)) fun Z σ H ⟨B, as, fz, st, sim, q⟩ => ?_
  simp only [evalS] at q
  exact q σ as fz H sim.b sim.c
/-- try .. except .. as e: return _law_error(e), for a body that is sound everywhere -/
def TryRule (T : Tab) (G : Gd) (cf : CF) (wf n : Nat) (se : SE) (i : Nat) (body : List Stmt) (hs : List ExceptHandler) (pb : PB) : Prop :=
  ∀ (X : Cx) (W : WX) (pos : Pos), Cok T G cf n se X → Sok T G X → L2N.Takes X W → (∀ (X' : Cx) (W' : WX), Cok T G cf n se X' → Sok T G X' → L2N.Takes X' W' → L2.PSs X' body (tS G W' (evalSs cf wf pb))) →
    L2.PS X (.Try body hs [] [] pos) (tS G W (evalS cf wf (.tryT pb i)))
/-- the handler of a law -/
def ckH (T : Tab) (se : SE) (i : Nat) : List ExceptHandler → Bool
  | [.ExceptHandler (some (.Name b _)) (some e) [.Return (some (.Call (.Name f _) [.Name e2 _] [] _)) _] _] => decide (b = "BeastError") && gloN se b && decide (se.N[i]? = some e) && decide (se.sc.names.lookup e = some .local) && decide (f = "_law_error") && gloN se f && decide (e2 = e) && okName e
  | _ => false
mutual
def ckS (T : Tab) (se : SE) : PS → Stmt → Bool
  | .set t p, st => match st with
    | .Assign [tg] e _ => (ckE T p se e && ckT se t tg && noSwap se tg e && noPar tg e) || (match t, p, tg, e with
      | .nm i, .comp pe t' it cs vs, .Name y py, .ListComp elt [⟨tg', iter, ifs, 0⟩] scope lpos => decide (se.N[i]? = some y) && decide (se.sc.names.lookup y = some .local) && decide (se.sc.kind = .function) && (py.line == lpos.line) && !(scope.names.any fun (n, k) => n == y && (k == .local || k == .cell)) &&
          ckE T (.comp pe t' it cs vs) se (.ListComp elt [⟨tg', iter, ifs, 0⟩] scope lpos)
      | .tp [.nm i, .nm j], .tup (.cons p1 (.cons p2 .nil)), .Tuple [.Name x px, .Name y py] _ _, .Tuple [a, b] _ _ => parC se i j x y px py a b && ckL T (.cons p1 (.cons p2 .nil)) se [a, b]
      | _, _, _, _ => false)
    | _ => false
  | .own i p, st => ckN T se i p st
  | .cell i p, st => ckN T se i p st
  | .seti i k p, st => match st with
    | .Assign [.Subscript o x _] e _ => varOk se i o && plainIx x && ckE T k se x && ckE T p se e
    | _ => false
  | .setc o k p, st => match st with
    | .Assign [.Subscript x y _] e _ => plainIx y && ckE T o se x && ckE T k se y && ckE T p se e
    | _ => false
  | .aug i o p, st => match st with
    | .AugAssign (.Name x _) op e _ => decide (augOf o = some op) && decide (se.N[i]? = some x) && locN se x && ckE T p se e
    | _ => false
  | .app i p, st => match st with
    | .Expr (.Call (.Attribute o m apos) [y] [] cpos) _ => decide (m = "append") && varOk se i o && plainBase o && (apos.endLine == cpos.line) && !starred y && ckE T p se y
    | _ => false
  | .ext _ _, _ => false
  | .ife p a b, st => match st with
    | .If e x y _ => ckE T p se e && ckB T se a x && ckB T se b y
    | _ => false
  | .whl p b, st => match st with
    | .While e x [] _ => ckE T p se e && ckB T se b x
    | _ => false
  | .forr t it b, st => match st with
    | .For tg iter x [] _ => ckI T true it se tg iter && ckT se t tg && notSet iter && ckB T se b x
    | _ => false
  | .ret p, st => match st with
    | .Return (some e) _ => ckE T p se e
    | _ => false
  | .retn, st => match st with
    | .Return none _ => true
    | _ => false
  | .rais i, st => match st with
    | .Raise (some (.Call (.Name x _) [.Constant (.str _) _ _] [] _)) none _ => decide (T.excs[i]? = some x) && decide (x ≠ ("BadForm" : Str)) && gloN se x && okName x
    | _ => false
  | .expr p, st => match st with
    | .Expr e _ => !isComp e && ckE T p se e
    | _ => false
  | .brk, st => match st with
    | .Break _ => true
    | _ => false
  | .cnt, st => match st with
    | .Continue _ => true
    | _ => false
  | .pas, st => match st with
    | .Pass _ => true
    | .Expr (.Constant (.str _) _ _) _ => true
    | _ => false
  | .tryT b i, st => match st with
    | .Try body hs [] [] _ => ckB T se b body && ckH T se i hs
    | _ => false
def ckN (T : Tab) (se : SE) (i : Nat) (p : PE) : Stmt → Bool
  | .Assign [.Name y py] e _ => decide (se.N[i]? = some y) && (match p, e with
    | .lst ps, .List es _ => locN se y && ckL T ps se es
    | .comp pe t it cs vs, .ListComp elt [⟨tg', iter, ifs, 0⟩] scope lpos => ckE T (.comp pe t it cs vs) se (.ListComp elt [⟨tg', iter, ifs, 0⟩] scope lpos) &&
        ((locN se y && noSwap se (.Name y py) (.ListComp elt [⟨tg', iter, ifs, 0⟩] scope lpos)) || (decide (se.sc.names.lookup y = some .local) && decide (se.sc.kind = .function) && (py.line == lpos.line) && !(scope.names.any fun (n, k) => n == y && (k == .local || k == .cell))))
    | _, _ => false)
  | _ => false
def ckB (T : Tab) (se : SE) : PB → List Stmt → Bool
  | .nil, st => match st with
    | [] => true
    | _ => false
  | .cons p q, st => match st with
    | s :: r => ckS T se p s && ckB T se q r
    | [] => false
end
section
variable {T : Tab} {G : Gd} {cf : CF} {wf n : Nat} {se : SE}
variable (big : ∀ f ds t, T.fns.length ≤ f → cf f ds t = .bad) (hTry : ∀ i body hs pb, ckH T se i hs = true → TryRule T G cf wf n se i body hs pb)
include big
theorem sN {X : Cx} {W : WX} (c : Cok T G cf n se X) (tk : L2N.Takes X W) {i : Nat} {p : PE} {st : Stmt} (h : ckN T se i p st = true) : L2.PS X st (tAsg (tN G W (evalE cf p)) (gName i)) := by
  unfold ckN at h
  split at h
  · rename_i y py e pos
    rw [Bool.and_eq_true, decide_eq_true_eq] at h
    obtain ⟨hN, h⟩ := h
    split at h
    · rename_i ps es lpos
      rw [Bool.and_eq_true] at h
      exact ps_gen c (new_lst (sL big ps se es X W c tk h.2).1.pvs) (pg_nameOk c hN h.1) rfl rfl rfl
    · rename_i pe t it cs vs elt tg' iter ifs scope lpos
      rw [Bool.and_eq_true] at h
      obtain ⟨h1, h2⟩ := h
      simp only [ckE, Bool.and_eq_true, List.all_eq_true, decide_eq_true_eq] at h1
      obtain ⟨⟨⟨⟨⟨⟨hb, ht⟩, hv⟩, hs⟩, hi⟩, hc⟩, he⟩ := h1
      rw [Bool.or_eq_true] at h2
      rcases h2 with h2 | h2
      · rw [Bool.and_eq_true] at h2
        have z := new_comp (W := W) (pos := lpos) c (sI big false it se tg' iter X W c tk hi) hb ht (by rw [ownOf_snd]; exact hv) (fun X' c' => sC big cs _ ifs X' _ c' takesNo hc) (fun X' c' => (sE big pe _ elt X' _ c' takesNo he).1) (notSet_ok hs)
        rw [ownOf_snd] at z
        exact ps_gen c z (pg_nameOk c hN h2.1) h2.2 rfl rfl
      · simp only [Bool.and_eq_true, decide_eq_true_eq, Bool.not_eq_true'] at h2
        obtain ⟨⟨⟨hyl, hk⟩, hl⟩, hsc⟩ := h2
        have z := ps_lcN (W := W) (py := py) (pos := lpos) (spos := pos) c hN hyl hk hl hsc (sI big false it se tg' iter X W c tk hi) hb ht (by rw [ownOf_snd]; exact hv) (fun X' c' => sC big cs _ ifs X' _ c' takesNo hc) (fun X' c' => (sE big pe _ elt X' _ c' takesNo he).1) (notSet_ok hs)
        rw [ownOf_snd] at z
        exact z
    · cases h
  · cases h
include hTry
mutual
theorem sS : ∀ (p : PS) (st : Stmt) (X : Cx) (W : WX), Cok T G cf n se X → Sok T G X → L2N.Takes X W → ckS T se p st = true → L2.PS X st (tS G W (evalS cf wf p))
  | .set t p, st, X, W, c, k, tk, h => by
    simp only [ckS] at h
    split at h
    · rename_i tg e pos
      rw [Bool.or_eq_true] at h
      rcases h with h | h
      · simp only [Bool.and_eq_true] at h
        obtain ⟨⟨⟨h1, h2⟩, h3⟩, h4⟩ := h
        exact s_set (ps_gen c (sE big p se e X W c tk h1).1 (pg_ckT c t tg h2) h3 h4 (ckT_star h2))
      · split at h
        · rename_i i pe t' it cs vs y py elt tg' iter ifs scope lpos
          simp only [ckE, Bool.and_eq_true, List.all_eq_true, decide_eq_true_eq, Bool.not_eq_true'] at h
          obtain ⟨⟨⟨⟨⟨hN, hyl⟩, hk⟩, hl⟩, hsc⟩, ⟨⟨⟨⟨⟨hb, ht⟩, hv⟩, hs⟩, hi⟩, hc⟩, he⟩ := h
          have z := ps_lcI (W := W) (py := py) (pos := lpos) (spos := pos) c hN hyl hk hl hsc (sI big false it se tg' iter X W c tk hi) hb ht (by rw [ownOf_snd]; exact hv) (fun X' c' => sC big cs _ ifs X' _ c' takesNo hc) (fun X' c' => (sE big pe _ elt X' _ c' takesNo he).1) (notSet_ok hs)
          rw [ownOf_snd] at z
          exact s_setN z
        · rw [Bool.and_eq_true] at h
          exact s_par c h.1 (sL big _ se _ X W c tk h.2).1.pvs
        · cases h
    · cases h
  | .own i p, st, X, W, c, k, tk, h => s_own (sN big c tk (by simpa only [ckS] using h))
  | .cell i p, st, X, W, c, k, tk, h => s_cell (sN big c tk (by simpa only [ckS] using h))
  | .seti i kx p, st, X, W, c, k, tk, h => by
    simp only [ckS] at h
    split at h
    · simp only [Bool.and_eq_true] at h
      obtain ⟨⟨⟨h1, h2⟩, h3⟩, h4⟩ := h
      exact s_seti c h1 h2 (sE big kx se _ X W c tk h3).1 (sE big p se _ X W c tk h4).1
    · cases h
  | .setc o kx p, st, X, W, c, k, tk, h => by
    simp only [ckS] at h
    split at h
    · simp only [Bool.and_eq_true] at h
      obtain ⟨⟨⟨h1, h2⟩, h3⟩, h4⟩ := h
      exact s_setc c h1 (sE big o se _ X W c tk h2).1 (sE big kx se _ X W c tk h3).1 (sE big p se _ X W c tk h4).1
    · cases h
  | .aug i o p, st, X, W, c, k, tk, h => by
    simp only [ckS] at h
    split at h
    · simp only [Bool.and_eq_true, decide_eq_true_eq] at h
      obtain ⟨⟨⟨h1, h2⟩, h3⟩, h4⟩ := h
      exact s_aug c h1 h2 h3 (sE big p se _ X W c tk h4).1
    · cases h
  | .app i p, st, X, W, c, k, tk, h => by
    simp only [ckS] at h
    split at h
    · simp only [Bool.and_eq_true, decide_eq_true_eq, Bool.not_eq_true'] at h
      obtain ⟨⟨⟨⟨⟨rfl, h1⟩, h2⟩, h3⟩, h4⟩, h5⟩ := h
      exact s_app c h1 h2 h3 h4 (sE big p se _ X W c tk h5).1
    · cases h
  | .ext _ _, st, X, W, c, k, tk, h => by simp [ckS] at h
  | .ife p a b, st, X, W, c, k, tk, h => by
    simp only [ckS] at h
    split at h
    · simp only [Bool.and_eq_true] at h
      obtain ⟨⟨h1, h2⟩, h3⟩ := h
      exact s_if (sE big p se _ X W c tk h1) (sB a _ X W c k tk h2) (sB b _ X W c k tk h3)
    · cases h
  | .whl p b, st, X, W, c, k, tk, h => by
    simp only [ckS] at h
    split at h
    · simp only [Bool.and_eq_true] at h
      exact s_whl k.own (sE big p se _ X W c tk h.1) (sB b _ X W c k tk h.2)
    · cases h
  | .forr t it b, st, X, W, c, k, tk, h => by
    simp only [ckS] at h
    split at h
    · simp only [Bool.and_eq_true] at h
      obtain ⟨⟨⟨h1, h2⟩, h3⟩, h4⟩ := h
      exact s_for c k.own (sI big true it se _ _ X W c tk h1) h2 (sB b _ X W c k tk h4) h3
    · cases h
  | .ret p, st, X, W, c, k, tk, h => by
    simp only [ckS] at h
    split at h
    · exact s_ret (sE big p se _ X W c tk h).1
    · cases h
  | .retn, st, X, W, c, k, tk, h => by
    simp only [ckS] at h
    split at h
    · exact s_retn
    · cases h
  | .rais i, st, X, W, c, k, tk, h => by
    simp only [ckS] at h
    split at h
    · simp only [Bool.and_eq_true, decide_eq_true_eq] at h
      exact s_rais c k tk h.1.1.1 h.1.1.2 h.1.2 h.2
    · cases h
  | .expr p, st, X, W, c, k, tk, h => by
    simp only [ckS] at h
    split at h
    · simp only [Bool.and_eq_true, Bool.not_eq_true'] at h
      exact s_expr h.1 (sE big p se _ X W c tk h.2).1
    · cases h
  | .brk, st, X, W, c, k, tk, h => by
    simp only [ckS] at h
    split at h
    · exact s_brk
    · cases h
  | .cnt, st, X, W, c, k, tk, h => by
    simp only [ckS] at h
    split at h
    · exact s_cnt
    · cases h
  | .pas, st, X, W, c, k, tk, h => by
    simp only [ckS] at h
    split at h
    · exact s_pas
    · exact s_doc
    · cases h
  | .tryT b i, st, X, W, c, k, tk, h => by
    simp only [ckS] at h
    split at h
    · rw [Bool.and_eq_true] at h
      exact hTry i _ _ b h.2 X W _ c k tk fun X' W' c' k' tk' => sB b _ X' W' c' k' tk' h.1
    · cases h
theorem sB : ∀ (p : PB) (st : List Stmt) (X : Cx) (W : WX), Cok T G cf n se X → Sok T G X → L2N.Takes X W → ckB T se p st = true → L2.PSs X st (tS G W (evalSs cf wf p))
  | .nil, st, X, W, c, k, tk, h => by
    simp only [ckB] at h
    split at h
    · exact ss_nil
    · cases h
  | .cons p q, st, X, W, c, k, tk, h => by
    simp only [ckB] at h
    split at h
    · rw [Bool.and_eq_true] at h
      exact ss_cons (sS p _ X W c k tk h.1) (sB q _ X W c k tk h.2)
    · cases h
end
end
end MP
end
section
set_option Elab.async false
set_option linter.all false
set_option maxRecDepth 100000
set_option maxHeartbeats 4000000
/-! MP: defs -/
namespace MP
open PySem PySem.Spec PyProof.Rows L2
/-- the i-th def stands in the text as its term says -/
def DefOk (K : PySem.W.Frag) (mg : Str → Option Value) (T : Tab) (G : Gd) (i : Nat) (x : Str) (FD : FDef) : Prop :=
  ∃ (name qual : Str) (params : Arguments) (body : List Stmt) (scope : Scope) (dV kV doc pm cdv ct oc : Value) (an od : Option Addr) (osl : Array (Option Value)) (N ps : List Str),
    K.lookup (G.fa i) = some ⟨oc, od, .func (PySem.W.fnOf name qual params body scope dV kV doc pm an cdv ct), osl⟩ ∧ PySem.W.codeIn K cdv qual = true ∧ FnScope N ps scope ∧
    Binds K (PySem.W.fnOf name qual params body scope dV kV doc pm an cdv ct) ps [] ∧ mg x = some (.ref (G.fa i)) ∧ ckB T ⟨N, scope, fun _ => true⟩ FD.body body = true ∧ FD.np = ps.length ∧ FD.nl = N.length
/-- the module, as far as the terms go -/
structure Glob (K : PySem.W.Frag) (mg : Str → Option Value) (T : Tab) (G : Gd) (F : List FDef) (wf : Nat) : Prop where
  kk : G.K = K
  mgE : mg = G.mg
  fnk : ∀ i, PySem.W.keepIn K (.ref (G.fa i)) = true
  globs : ∀ x d, (x, d) ∈ T.globs → ∃ u v, mg x = some u ∧ RelV v u ∧ ∀ as fz H, RepD G as fz H v d
  blts : ∀ x, x ∈ T.blts → mg x = none
  mods : ∀ x, x ∈ T.mods → mg x = some (.builtin "math.gcd")
  excs : ∀ k x, T.excs[k]? = some x → x ≠ ("BadForm" : Str) → ExcOk K mg x (G.ca k)
  len : T.fns.length = F.length
  defs : ∀ i x, T.fns[i]? = some x → ∃ FD, F[i]? = some FD ∧ DefOk K mg T G i x FD
  try_ : ∀ m se i body hs pb, ckH T se i hs = true → TryRule T G (callF F wf m) wf (m + 1) se i body hs pb
section
variable {P : Program} {w : World} {K : PySem.W.Frag} {mg : Str → Option Value} {base : Heap} {T : Tab} {G : Gd} {F : List FDef} {wf : Nat}
theorem callF_succ (m f : Nat) (ds : List D) (t : Sto) : callF F wf (m + 1) f ds t = match F[f]? with
    | some d => if ds.length = d.np then runRes (evalSs (callF F wf m) wf d.body { loc := ds.map .val ++ List.replicate (d.nl - d.np) .unb, sto := t }) else .bad
    | none => .bad := rfl
theorem callF_big (g : Glob K mg T G F wf) (m : Nat) : ∀ f ds t, T.fns.length ≤ f → callF F wf m f ds t = .bad := by
  intro f ds t h
  cases m with
  | zero => rfl
  | succ m =>
    rw [callF_succ, List.getElem?_eq_none (by rw [← g.len]; exact h)]
theorem start_sim {N : List Str} {vs : List V} {ds : List D} {as : List Addr} {fz : Addr → Prop} {H : Hp} {t : Sto} (r : RepL G as fz H vs ds) (c : SimC G t as fz H) (hl : ds.length ≤ N.length) :
    Sim G ⟨H, as, fz⟩ { loc := ds.map .val ++ List.replicate (N.length - ds.length) .unb, sto := t } as fz (L2.start N vs) H := by
  have lv := r.length
  refine ⟨c, SimB.refl, ⟨?_, fun i d e => ?_, fun i es e => ?_, fun i j es fs a hij e1 e2 e3 => ?_⟩⟩
  · unfold L2.start
    simp [lv]
  · by_cases hi : i < ds.length
    · rw [List.getElem?_append_left (by simpa using hi), List.getElem?_map] at e
      cases q : ds[i]? with
      | none => rw [q] at e; cases e
      | some d' =>
        rw [q] at e
        cases e
        obtain ⟨v, e1, rd⟩ := r.get q
        refine ⟨v, ?_, rd⟩
        unfold L2.start
        rw [List.getElem?_append_left (by simpa [lv] using hi), List.getElem?_map, e1]
        rfl
    · rw [List.getElem?_append_right (by simpa using hi), List.getElem?_replicate] at e
      split at e <;> cases e
  · by_cases hi : i < ds.length
    · rw [List.getElem?_append_left (by simpa using hi), List.getElem?_map] at e
      cases q : ds[i]? with
      | none => rw [q] at e; cases e
      | some d' => rw [q] at e; cases e
    · rw [List.getElem?_append_right (by simpa using hi), List.getElem?_replicate] at e
      split at e <;> cases e
  · by_cases hi : i < ds.length
    · rw [List.getElem?_append_left (by simpa using hi), List.getElem?_map] at e1
      cases q : ds[i]? with
      | none => rw [q] at e1; cases e1
      | some d' => rw [q] at e1; cases e1
    · rw [List.getElem?_append_right (by simpa using hi), List.getElem?_replicate] at e1
      split at e1 <;> cases e1
/-- all defs keep their promises, by the depth of calls -/
theorem all_fns (g : Glob K mg T G F wf) : ∀ (m i : Nat) (x : Str), T.fns[i]? = some x → ∃ fd ps, mg x = some (.ref (G.fa i)) ∧ PySem.W.keepIn K (.ref (G.fa i)) = true ∧ Binds K fd ps [] ∧ FnG P w K mg base (m + 1) (G.fa i) fd ps (spI G (callF F wf m) i)
  | 0, i, x, h => by
    obtain ⟨FD, e, name, qual, params, body, scope, dV, kV, doc, pm, cdv, ct, oc, an, od, osl, N, ps, lk, hcd, Sc, hb, hm, ck, e1, e2⟩ := g.defs i x h
    have no : ∀ {vs H Q E}, ¬ spI G (callF F wf 0) i vs H Q E := fun ⟨ds, as, fz, t, _, _, z⟩ => z
    exact ⟨_, ps, hm, g.fnk i, hb, ⟨fun vs H Q E z => (no z).elim, fun A outer s H args us vs Q E _ _ _ _ _ z => (no z).elim⟩⟩
  | m + 1, i, x, h => by
    obtain ⟨FD, e, name, qual, params, body, scope, dV, kV, doc, pm, cdv, ct, oc, an, od, osl, N, ps, lk, hcd, Sc, hb, hm, ck, e1, e2⟩ := g.defs i x h
    have hpl : ps.length ≤ N.length := by have := congrArg List.length Sc.pre; rw [List.length_take] at this; omega
    have hlen : ∀ vs H Q E, spI G (callF F wf (m + 1)) i vs H Q E → vs.length = ps.length := fun vs H Q E ⟨ds, as, fz, t, r, c, z⟩ => by
      rw [callF_succ, e] at z
      dsimp only at z
      by_cases hd : ds.length = FD.np
      · rw [r.length, hd, e1]
      · simp only [hd, if_false] at z
    refine ⟨_, ps, hm, g.fnk i, hb, fnG_of lk hcd Sc hlen fun A outer s H vs Q E hg hr hsp => ⟨tS G (fun cls d _ H => E cls d H) (evalSs (callF F wf m) wf FD.body), ?_, ?_⟩⟩
    · refine sB (callF_big g m) (fun i body hs pb hh => g.try_ m _ i body hs pb hh) FD.body body _ _ ?_ ?_ ?_ ck
      · exact ⟨g.kk, rfl, Sc.nd, rfl, fun _ _ => rfl, rfl, hr, deeper_guards hg _, fun j y hj => all_fns g m j y hj, g.fnk, g.globs, g.blts, g.mods⟩
      · exact ⟨passes_of rfl, g.excs, rfl, rfl, g.mgE⟩
      · exact L2N.takes_of rfl rfl rfl rfl
    · obtain ⟨ds, as, fz, t, r, c, z⟩ := hsp
      rw [callF_succ, e] at z
      dsimp only at z
      by_cases hd : ds.length = FD.np
      · simp only [hd, if_true] at z
        have hdn : ds.length ≤ N.length := by rw [hd, e1]; exact hpl
        have sim := start_sim (N := N) r c hdn
        refine ⟨⟨H, as, fz⟩, as, fz, _, sim, ?_⟩
        rw [e2, ← hd] at z
        revert z
        cases evalSs (callF F wf m) wf FD.body { loc := ds.map Slot.val ++ List.replicate (N.length - ds.length) Slot.unb, sto := t } with
        | bad => exact fun z => z
        | exc k t' => exact fun z σ' as' fz' H' sb sc => z as' fz' H' sb sc
        | ok f st' =>
          cases f with
          | nx => exact fun z σ' as' fz' H' _ sm => z as' fz' H' _ sm.b sm.c .non
          | brk => exact fun z => z.elim
          | cnt => exact fun z => z.elim
          | ret d => exact fun z as' fz' H' v sb sc rv => z as' fz' H' v sb sc rv
      · simp only [hd, if_false] at z
end
end MP
end
section
set_option Elab.async false
set_option linter.all false
set_option maxRecDepth 100000
set_option maxHeartbeats 4000000
/-! MP: a list walked to its end while an exception is handled -/
namespace MPH
open PySem PySem.Spec PyProof.Rows L2 HotX
theorem bt_int : bootBuiltins "int" = some (.type "int") := by decide +kernel
section
variable {prog : Program} {w : World} {A : Around} {E : Value → Shared → Prop} {s : Shared}
theorem list_end_hot {it l x1 : Addr} {i : Nat} {items : Array Value} {Q : Option Value → Shared → Prop} (hot : HotAt A x1 s.heap) (hne : x1 ≠ it) (hit : s.heap.IsListIter it l i) (hl : s.heap.IsList l items) (hx : items[i]? = none)
    (hQ : ∀ h', (∀ b o, b ≠ it → s.heap.get? b = some o → h'.get? b = some o) → Q none { s with heap := h' }) : wpAny (model prog w) A (pyNext (.ref it)) Q E s := by
  obtain ⟨hh, o1, vs1, h1, d1, c1⟩ := hot
  obtain ⟨o, ho, hc, hd⟩ := id hit
  obtain ⟨ol, hol, _, nl, hdl⟩ := hl
  unfold pyNext
  refine wpAny_bind (wpAny_attempt (wpAny_callSpecial?_slot (name := Str.ofString "__next__") hit.typeIs slot_listiter_next (wpAny_call_entry slot_listiter_next hit.typeIs entry_listiter_next ?_ (args_listiter_next _))))
  show wpAny _ _ (field (.ref it) 0 >>= _) _ _ s
  refine wpAny_bind (wpAny_field ho hd (x := .ref l) rfl ?_)
  show wpAny _ _ (if (Value.ref l == Value.none) = true then _ else _) _ _ s
  rw [if_neg (show ¬ ((Value.ref l == Value.none) = true) from Bool.false_ne_true)]
  show wpAny _ _ (field (.ref it) 1 >>= _) _ _ s
  refine wpAny_bind (wpAny_field ho hd (x := .int i 0) rfl ?_)
  show wpAny _ _ (seqItems? (.ref l) >>= _) _ _ s
  refine wpAny_bind (wpAny_seqItems hol hdl ?_)
  simp only [Int.toNat_natCast, hx]
  refine wpAny_bind (wpAny_rule (wpAny_bind (wpAny_setField ho hd (by simp) ?_)))
  show wpAny _ _ (newExc (.type "StopIteration") [] >>= _) _ _ _
  refine wpAny_bind ?_
  simp only [newExc, newTuple]
  refine wpAny_bind (wpAny_newObj_type ?_ (by size_fits))
  refine wpAny_bind (m := firstArgMember _ _) (wpAny_of_eq (a := Value.none) (by first | rfl | (simp only [firstArgMember]; rfl)) ?_)
  refine wpAny_newObj_type ?_ (by size_fits)
  generalize hg : s.heap.update it _ = hp1
  have h1' : hp1.get? x1 = some o1 := by
    rw [← hg, Heap.get?_update_other _ _ (Ne.symm hne)]
    exact h1
  have old : ∀ b o, b ≠ it → s.heap.get? b = some o → hp1.get? b = some o := fun b o hb e => by
    rw [← hg, Heap.get?_update_other _ _ (Ne.symm hb)]
    exact e
  refine raiseNew_hot ⟨hh, o1, vs1, Heap.get?_push_of_some _ (Heap.get?_push_of_some _ h1'), d1, c1⟩ (Nat.ne_of_lt (Heap.lt_size (Heap.get?_push_of_some _ h1'))) (Heap.get?_push_size _ rfl) rfl (by first | (simp; done) | (simp; omega) | (simp only [Array.size_append]; simp; omega)) ?_
  refine wpAny_bind (wpAny_isInstance (T := "StopIteration") (b := true) ⟨_, Heap.get?_update_self _ (Heap.get?_push_size _ rfl) rfl, rfl⟩ isSubtype_stop ?_)
  refine wpAny_pure (hQ _ fun b o hb e => ?_)
  have e1 := old b o hb e
  rw [Heap.get?_update_other _ _ (Nat.ne_of_gt (Heap.lt_size (Heap.get?_push_of_some _ e1)))]
  exact Heap.get?_push_of_some _ (Heap.get?_push_of_some _ e1)
end
theorem walks_hot {prog : Program} {w : World} {A : Around} {x1 : Addr} {o1 : Obj} {vs1 : Array Value} (hh : A.handled = some (.ref x1)) (d1 : o1.data = .fields vs1) (c1 : vs1[2]? = some .none) (I ax : Addr) (hne : ax ≠ I) (hx : x1 ≠ I) (items : Array Value) :
    Walks prog w A I [I, ax, x1] [I] items.size (fun i v => items[i]? = some v) (fun i h => h.IsListIter I ax i ∧ h.IsList ax items ∧ h.get? x1 = some o1) where
  sub := fun b hb => by simp at hb; simp [hb]
  frame := fun _ _ _ st hk => ⟨st.1.at fun o e => hk I (by simp) o e, st.2.1.at fun o e => hk ax (by simp) o e, hk x1 (by simp) _ st.2.2⟩
  item := fun i s Q E hi st hQ => by
    refine wpAny_pyNext_list_item st.1 st.2.1 (x := items[i]) (by simp [hi]) fun h' hit' hs' => ?_
    exact hQ _ h' s.toks (by simp [hi]) ⟨hit', st.2.1.extBut hs'.extBut hne, hs'.extBut x1 _ hx st.2.2⟩ fun b o hb e => hs'.extBut b o (fun h => hb (by simp [h])) e
  done := fun s Q E st hQ => list_end_hot ⟨hh, o1, vs1, st.2.2, d1, c1⟩ hx st.1 st.2.1 (by simp) fun h' he' => hQ h' s.toks fun b o hb e => he' b o (fun h => hb (by simp [h])) e
  self := fun _ _ _ _ st hQ => wpAny_pyIter_listiter st.1 hQ
section
variable {X : Cx}
/-- the ints of bools -/
def b01 (b : Bool) : Int := if b then 1 else 0
theorem preSum_b01 : ∀ (bs : List Bool) (n : Nat), n ≤ bs.length → preSum (fun i => b01 (bs.getD i false)) n = ((bs.take n).map b01).sum
  | bs, 0, _ => by simp [preSum]
  | bs, n + 1, h => by
    rw [preSum, preSum_b01 bs n (by omega)]
    rw [List.take_add_one, List.getElem?_eq_getElem (by omega), List.map_append, List.sum_append]
    simp [List.getD, List.getElem?_eq_getElem (show n < bs.length by omega)]
theorem sum_hot (hc : L2H.HotC X) : CallR X (.builtin "sum") (fun xs H Q => ∃ (a : Addr) (bs : List Bool), xs = [.ref a] ∧ H a = some (.lst ((bs.map b01).map V.int)) ∧ bs.length ≤ 1000 ∧ Q (.int (bs.map b01).sum) H) := by
  intro pins s σ H xs us Q I r ⟨a, bs, ex, hH, hz, q⟩
  subst ex
  obtain ⟨u, rfl, ru⟩ := vals1 r
  cases ru
  obtain ⟨p, ⟨hh, vs1, d1, c1⟩, hp⟩ := hc
  obtain ⟨its, rv, pl, _⟩ := I.list (SqL.of hH)
  have hget := (I.pin p (List.mem_append_left _ hp)).1
  have hl := pl.isList
  have hlen := rv.length
  rw [List.length_map, List.length_map] at hlen
  refine call_sum_walk (wpAny_pyIter_list hl ?_)
  have na : a < s.heap.objs.size := by obtain ⟨o, e, _⟩ := hl; exact Heap.lt_size e
  have nx : p.1 < s.heap.objs.size := Heap.lt_size hget
  refine ⟨s.heap.objs.size, _, _, its.toArray.size, _, _, fun i => b01 (bs.getD i false), rfl, walks_hot (o1 := p.2) (show X.A.in1.handled = some (.ref p.1) from hh) d1 c1 s.heap.objs.size a (Nat.ne_of_lt na) (Nat.ne_of_lt nx) its.toArray, ?_, ?_, ?_, ?_, ?_⟩
  · exact ⟨⟨_, Heap.get?_push_size _ rfl, rfl, rfl⟩, hl.at fun o e => Heap.get?_push_of_some _ e, Heap.get?_push_of_some _ hget⟩
  · intro b hb
    rw [Heap.size_push]
    simp at hb
    rcases hb with z | z | z
    · rw [z]; exact Nat.lt_succ_self _
    · rw [z]; exact Nat.lt_succ_of_lt na
    · rw [z]; exact Nat.lt_succ_of_lt nx
  · intro i v hv
    have hv2 : its[i]? = some v := by simpa using hv
    have hi : i < bs.length := by
      have := (List.getElem?_eq_some_iff.mp hv2).1
      omega
    have hb : ((bs.map b01).map V.int)[i]? = some (V.int (b01 bs[i])) := by simp [hi]
    obtain ⟨u, e1, e2⟩ := rv.get hb
    rw [hv2] at e1
    cases e1
    obtain ⟨t, rfl⟩ := e2
    refine ⟨t, ?_⟩
    simp [List.getD, List.getElem?_eq_getElem hi]
  · intro j hj
    have small : ∀ k, k ≤ bs.length → 0 ≤ ((bs.take k).map b01).sum ∧ ((bs.take k).map b01).sum ≤ 1000 := fun k hk => by
      have gen : ∀ l : List Bool, 0 ≤ (l.map b01).sum ∧ (l.map b01).sum ≤ l.length := fun l => by
        induction l with
        | nil => simp
        | cons b l ih =>
          rw [List.map_cons, List.sum_cons, List.length_cons]
          have : b01 b = 0 ∨ b01 b = 1 := by cases b <;> simp [b01]
          omega
      have := gen (bs.take k)
      rw [List.length_take] at this
      omega
    have hj2 : j < bs.length := by simp at hj; omega
    have s1 := small (j + 1) (by omega)
    dsimp only
    rw [preSum_b01 bs (j + 1) (by omega)]
    have : b01 (bs.getD j false) = 0 ∨ b01 (bs.getD j false) = 1 := by cases bs.getD j false <;> simp [b01]
    unfold InLong
    omega
  · intro h' tk t' hk
    have e1 : its.toArray.size = bs.length := by rw [List.size_toArray]; omega
    rw [e1, preSum_b01 bs bs.length (Nat.le_refl _), List.take_length]
    refine ⟨.int (bs.map b01).sum, H, I.kept (t' := tk) fun b o e => hk b o (fun z => ?_) (Heap.get?_push_of_some _ e), ⟨_, rfl⟩, q⟩
    have z : b = s.heap.objs.size := by simpa using z
    subst z
    exact absurd (Heap.lt_size e) (Nat.lt_irrefl _)
/-- [int(one) for one in names] -/
def tInts (i : Nat) : TE := fun σ H Q => ∃ (a : Addr) (bs : List Bool), σ[i]? = some (some (.ref a)) ∧ H a = some (.lst (bs.map V.bl)) ∧ bs.length ≤ 1000 ∧ ∀ p, H p = none → Q (.ref p) (upd H p (.lst ((bs.map b01).map V.int)))
theorem vals_bl : ∀ {bs : List Bool} {us : List Value}, Vals (bs.map V.bl) us → us = bs.map Value.bool
  | [], _, h => by cases h; rfl
  | b :: bs, _, h => by
    cases h with
    | cons a r =>
      cases a
      rw [vals_bl r]
      rfl
theorem b01_vals : ∀ {bs : List Bool} {zs : List Value}, Paired (fun v y => ∃ b t, v = Value.bool b ∧ y = Value.int (b01 b) t) (bs.map Value.bool) zs → Vals ((bs.map b01).map V.int) zs
  | [], _, h => by cases h; exact .nil
  | b :: bs, _, h => by
    cases h with
    | cons a r =>
      obtain ⟨b', t, e1, e2⟩ := a
      cases e1
      exact .cons ⟨t, e2⟩ (b01_vals r)
theorem ints_hot (hc : L2H.HotC X) {i : Nat} {nm one : Str} {scope : Scope} {p1 p2 p3 p4 p5 pos : Pos} (hN : X.N[i]? = some nm) (hv : Vis X.env.scope nm) (hd : (nm == ("__debug__" : Str)) = false) (hcd : (nm == ("__classdict__" : Str)) = false)
    (hfree : ∀ y ∈ scope.names, y.2 ≠ .free) (hcell : ∀ y ∈ scope.names, y.2 ≠ .cell) (hkind : scope.kind = .function) (hnames : ∀ y ∈ scope.names, y.2 = .local → scope.names.lookup y.1 = some .local) (hx : scope.names.lookup one = some .local)
    (hi : scope.names.lookup ("int" : Str) = some .globalImplicit) (hm : X.mg "int" = none) (hd1 : (one == ("__debug__" : Str)) = false) (hcd1 : (one == ("__classdict__" : Str)) = false) :
    L2.PE X (.ListComp (.Call (.Name "int" p1) [.Name one p2] [] p3) [⟨.Name one p4, .Name nm p5, [], 0⟩] scope pos) (tInts i) := by
  refine ⟨fun pins s σ H Q I ⟨a, bs, hs, hH, hz, q⟩ => ?_⟩
  refine wpAny_ListComp_walk (fun _ => true) (fun v y => ∃ b t, v = .bool b ∧ y = .int (b01 b) t) hfree hcell hkind hnames hx (thn ((pe_var (pos := p5) hN hv hd hcd).run pins s σ H (fun v H1 => v = .ref a ∧ H1 = H) I ⟨.ref a, hs, rfl, rfl⟩) fun u s1 ⟨v, H1, I1, r1, e1, e2⟩ => ?_) (fun _ => rfl)
  subst e1 e2
  cases r1
  obtain ⟨p, ⟨hh, vs1, d1, c1⟩, hp⟩ := hc
  obtain ⟨its, rv, pl, _⟩ := I1.list (SqL.of hH)
  obtain rfl := vals_bl rv
  have hget := (I1.pin p (List.mem_append_left _ hp)).1
  have hl := pl.isList
  have na : a < s1.heap.objs.size := by obtain ⟨o, e, _⟩ := hl; exact Heap.lt_size e
  have nx : p.1 < s1.heap.objs.size := Heap.lt_size hget
  refine wpAny_pyIter_list hl ?_
  refine ⟨s1.heap.objs.size, _, _, (bs.map Value.bool).toArray.size, _, _, rfl, walks_hot (o1 := p.2) hh d1 c1 s1.heap.objs.size a (Nat.ne_of_lt na) (Nat.ne_of_lt nx) (bs.map Value.bool).toArray, ?_, ?_, ?_, ?_, ?_⟩
  · rw [List.size_toArray, List.length_map, sizeLine_eq]; omega
  · exact ⟨⟨_, Heap.get?_push_size _ rfl, rfl, rfl⟩, hl.at fun o e => Heap.get?_push_of_some _ e, Heap.get?_push_of_some _ hget⟩
  · intro b hb
    rw [Heap.size_push]
    simp at hb
    rcases hb with z | z | z
    · rw [z]; exact Nat.lt_succ_self _
    · rw [z]; exact Nat.lt_succ_of_lt na
    · rw [z]; exact Nat.lt_succ_of_lt nx
  · refine ⟨fun C j v s₃ m₃ E' hP hn hmx hk ht => wpAny_tests_nil ⟨rfl, s₃.heap, s₃.toks, rfl, fun _ _ e => e⟩, fun C j v s₃ m₃ E' hP _ hn hmx hk ht => ?_⟩
    have hb : ∃ b, v = Value.bool b := by
      have h1 : (bs.map Value.bool)[j]? = some v := by simpa using hP
      rw [List.getElem?_map] at h1
      cases e : bs[j]? with
      | none => rw [e] at h1; cases h1
      | some b => rw [e] at h1; cases h1; exact ⟨b, rfl⟩
    obtain ⟨b, rfl⟩ := hb
    have kp : ∀ b o, X.base.get? b = some o → s₃.heap.get? b = some o := fun b o e => by
      have e1 := I1.bk b o e
      exact hk b o (fun z => by
        have z : b = s1.heap.objs.size := by simpa using z
        subst z
        exact absurd (Heap.lt_size e1) (Nat.lt_irrefl _)) (Heap.get?_push_of_some _ e1)
    obtain ⟨mb, b1, b2⟩ := I1.mod.blt
    have ke : (compEnv scope C X.env).scope.kind = .function := hkind
    refine Call_ (Calls.Name_function_global ke hi (Calls.loadGlobal_builtin (mg := X.mg) (mb := mb) ?_ hm ?_ ((b2 "int" (by decide)).trans bt_int) ?_))
    · show s₃.heap.Ns X.env.globals X.mg
      rw [I1.ok.glob]
      exact I1.mod.glob.keeps kp
    · show s₃.heap.Ns X.env.builtins mb
      rw [I1.ok.blt]
      exact b1.keeps kp
    · refine PyProof.Rows.callWith_type1 (args_cons (wpAny_Name (wpAny_loadName_local ke hx hn hmx (args_nil ?_)) hd1)) rfl rfl
      exact call_int_bool ⟨⟨b, _, rfl, rfl⟩, s₃.heap, _, rfl, fun _ _ e => e⟩
  · intro D h' tk ys vs hD hl' hpl hlen hP hF hk
    have k : ∀ b o, s1.heap.get? b = some o → h'.get? b = some o := fun b o e => hk b o (fun z => by
      have z : b = s1.heap.objs.size := by simpa using z
      subst z
      exact absurd (Heap.lt_size e) (Nat.lt_irrefl _)) (Heap.get?_push_of_some _ e)
    have hD1 : s1.heap.get? D = none := by
      cases e : s1.heap.get? D with
      | none => rfl
      | some o => rw [Heap.get?_push_of_some _ e] at hD; cases hD
    have hn := I1.hok.gone hD1
    have hvs : vs = bs.map Value.bool := by
      apply List.ext_getElem?
      intro j
      by_cases hj : j < vs.length
      · have h1 := hP j vs[j] (List.getElem?_eq_getElem hj)
        rw [List.getElem?_eq_getElem hj]
        simpa using h1.symm
      · rw [List.getElem?_eq_none (by omega), List.getElem?_eq_none (by simp at hlen ⊢; omega)]
    subst hvs
    have hv2 : Vals ((bs.map b01).map V.int) ys.toList := by
      rw [List.filter_eq_self.mpr (fun _ _ => rfl)] at hF
      exact b01_vals hF
    obtain ⟨n', hget'⟩ := hpl
    refine ⟨.ref D, _, I1.laidN (t' := tk) (o := .lst ((bs.map b01).map V.int)) k hD1 hn ⟨?_, ys.toList, n', hv2, ?_⟩, rfl, q D hn⟩
    · rw [List.length_map, List.length_map, sizeLine_eq]; omega
    · rw [Array.toArray_toList]; exact hget'
end
end MPH
end
section
set_option Elab.async false
set_option linter.all false
set_option maxRecDepth 100000
set_option maxHeartbeats 4000000
/-! MP: the law's own word for an error, within an except suite -/
namespace MPH
open PySem PySem.Spec PyProof.Rows L2 MP
/-- what is known of the error classes -/
structure ErrK (K : PySem.W.Frag) (mg : Str → Option Value) (T : Tab) (G : Gd) : Prop where
  names : T.excs = ((["NotAllowed", "TooLarge", "Missing", "BadPaper", "BadForm"] : List String).map Str.ofString)
  mgs : ∀ k x, T.excs[k]? = some x → mg x = some (.ref (G.ca k))
  exc : ∀ k, k < 5 → ExcC K (G.ca k)
  kit : ∀ k j, k < 5 → j < 5 → PySem.W.kitOne K (.ref (G.ca k)) (.ref (G.ca j)) = some (decide (k = j))
  fr1 : mg "isinstance" = none
  fr2 : mg "sum" = none
  fr3 : mg "int" = none
theorem isE {X : Cx} {p : Addr × Obj} {D : Addr} (C : ExcC X.K D) (hp : p ∈ X.pn) (h1 : p.2.cls = .ref D) (h2 : p.2.dict = none) (hf : ∃ vs, p.2.data = .fields vs) : CallR X (.builtin "isinstance") (rIsE X.K D p.1) := by
  intro pins s σ H xs us Q I r ⟨c, cv, b, ex, hcv, e, q⟩
  subst ex
  obtain ⟨u, v, rfl, ru, rv⟩ := vals2 r
  cases ru
  have ec := hcv _ rv
  subst ec
  obtain ⟨hget, _⟩ := I.pin p (List.mem_append_left _ hp)
  have J : PySem.W.InstAt s.heap p.1 p.2 D none := by
    obtain ⟨a, oc, od, oda, osl⟩ := p
    obtain ⟨vs, hv⟩ := hf
    dsimp only at h1 h2 hv
    subst h1 h2 hv
    exact ⟨hget, rfl, rfl, trivial⟩
  exact PySem.W.kia_one (PySem.W.handS_kitx_exc C.hg C.hk C.hs C.hd C.ha C.hn C.ht C.hm) I.kIn J e (fun z => nomatch z) fun tk => ⟨.bl b, H, I.kept (t' := tk) fun _ _ z => z, rfl, q⟩
def isCall (sc : Scope) (c : String) : Expr → Bool
  | .Call (.Name f _) [.Name e _, .Name x _] [] _ => decide (f = "isinstance") && decide (e = "e") && decide (x = Str.ofString c) && decide (sc.names.lookup (Str.ofString c) = some .globalImplicit) && decide (sc.names.lookup ("isinstance" : Str) = some .globalImplicit) && decide (sc.names.lookup ("e" : Str) = some .local)
  | _ => false
def isWord (w : String) : Expr → Bool
  | .Constant (.str x) _ _ => decide (x = Str.ofString w)
  | _ => false
section
variable {X : Cx} {K : PySem.W.Frag} {mg : Str → Option Value} {T : Tab} {G : Gd} {sc : Scope} {p : Addr × Obj} {k : Nat}
theorem call_is (h : ErrK X.K X.mg T G) (hsc : X.env.scope = sc) (hN : X.N[0]? = some ("e" : Str)) (hp : p ∈ X.pn) (hk : k < 5) (h1 : p.2.cls = .ref (G.ca k)) (h2 : p.2.dict = none) (hf : ∃ vs, p.2.data = .fields vs) {j : Nat} (hj : j < 5) {c : String} (hc : T.excs[j]? = some (Str.ofString c)) (hd : (Str.ofString c == ("__debug__" : Str)) = false) {e : Expr} (ck : isCall sc c e = true) :
    starred e = false ∧ L2.PE X e (fun σ H Q => σ[0]? = some (some (.ref p.1)) ∧ Q (.bl (decide (k = j))) H) := by
  unfold isCall at ck
  split at ck
  · rename_i f pf e' pe' x px pos
    simp only [Bool.and_eq_true, decide_eq_true_eq] at ck
    obtain ⟨⟨⟨⟨⟨rfl, rfl⟩, rfl⟩, g1⟩, g2⟩, g3⟩ := ck
    subst hsc
    refine ⟨rfl, ?_⟩
    have a1 : L2.PE X (.Name "e" pe') (tVar 0) := pe_var hN (.inl g3)
    have a2 : L2.PE X (.Name (Str.ofString c) px) (tC (.ref (G.ca j))) := pe_glob g1 (h.mgs j _ hc) rfl hd
    refine PEimp (pe_callB (isE (h.exc k hk) hp h1 h2 hf) g2 h.fr1 bt_isinst (pa_cons a1 (pa_cons a2 pa_nil))) fun σ H Q ⟨hs, q⟩ => ?_
    exact ⟨_, hs, .ref (G.ca j), .ref (G.ca j), _, rfl, fun u r => r, h.kit k j hk hj, q⟩
  · cases ck
theorem word_pe {w : String} {e : Expr} (ck : isWord w e = true) : starred e = false ∧ L2.PE X e (tC (.str (Str.ofString w))) := by
  unfold isWord at ck
  split at ck
  · rw [decide_eq_true_eq] at ck
    subst ck
    exact ⟨rfl, pe_str⟩
  · cases ck
end
/-- the text of _law_error -/
def ckErr (sc : Scope) : List Stmt → Bool
  | [.Assign [.Name n1 _] (.List [i0, i1, i2, i3, i4] _) _,
     .If (.Compare (.Call (.Name s _) [.ListComp (.Call (.Name it _) [.Name o1 _] [] _) [⟨.Name o2 _, .Name n2 _, [], 0⟩] scp _] [] _) [.NotEq] [.Constant (.int 1) _ _] _) [.Return (some (.Constant (.str _) _ _)) _] [] _,
     .Return (some (.Subscript (.List [w0, w1, w2, w3, w4] _) (.Call (.Attribute (.Name n3 _) ix apos) [.Constant (.bool true) _ _] [] cpos) _)) _] =>
    isCall sc "NotAllowed" i0 && isCall sc "TooLarge" i1 && isCall sc "Missing" i2 && isCall sc "BadPaper" i3 && isCall sc "BadForm" i4 &&
    isWord "refused" w0 && isWord "large" w1 && isWord "missing" w2 && isWord "paper" w3 && isWord "form" w4 &&
    decide (n1 = "names") && decide (n2 = "names") && decide (n3 = "names") && decide (sc.names.lookup ("names" : Str) = some .local) &&
    decide (s = "sum") && decide (sc.names.lookup ("sum" : Str) = some .globalImplicit) && decide (it = "int") && decide (o1 = "one") && decide (o2 = "one") &&
    decide (ix = "index") && (apos.endLine == cpos.line) &&
    (scp.names.all fun y => decide (y.2 ≠ .free) && decide (y.2 ≠ .cell) && (decide (y.2 ≠ .local) || decide (scp.names.lookup y.1 = some .local))) && decide (scp.kind = .function) &&
    decide (scp.names.lookup ("one" : Str) = some .local) && decide (scp.names.lookup ("int" : Str) = some .globalImplicit)
  | _ => false
/-- what it promises -/
def spErr (G : Gd) : (Addr × Obj) → Sp := fun p vs H Q _ => ∃ k, k < 5 ∧ p.2.cls = .ref (G.ca k) ∧ p.2.dict = none ∧ vs = [.ref p.1] ∧ ∀ H' v x, errWord k = .str x → v = .str x → (∀ b o, H b = some o → H' b = some o) → Q v H'
def bsOf (k : Nat) : List Bool := [decide (k = 0), decide (k = 1), decide (k = 2), decide (k = 3), decide (k = 4)]
theorem idx_of (k : Nat) (hk : k < 5) : prim .index [.lst ((bsOf k).map .bl), .bl true] = some (.int k) := by
  have : k = 0 ∨ k = 1 ∨ k = 2 ∨ k = 3 ∨ k = 4 := by omega
  rcases this with rfl | rfl | rfl | rfl | rfl <;> rfl
theorem sum_of (k : Nat) (hk : k < 5) : ((bsOf k).map b01).sum = 1 := by
  have : k = 0 ∨ k = 1 ∨ k = 2 ∨ k = 3 ∨ k = 4 := by omega
  rcases this with rfl | rfl | rfl | rfl | rfl <;> decide
def wordsV : List V := (["refused", "large", "missing", "paper", "form"] : List String).map fun x => V.str (Str.ofString x)
theorem word_of (k : Nat) (hk : k < 5) : ∃ x, errWord k = .str x ∧ L2.atI wordsV (k : Int) = some (.str x) := by
  have : k = 0 ∨ k = 1 ∨ k = 2 ∨ k = 3 ∨ k = 4 := by omega
  rcases this with rfl | rfl | rfl | rfl | rfl <;> exact ⟨_, rfl, rfl⟩
theorem body_err {X : Cx} {T : Tab} {G : Gd} {p : Addr × Obj} {body : List Stmt} {k : Nat} (hG : G.K = X.K) (hu : X.A.units + 70 < cLine) (hot : L2H.HotC X) (h : ErrK X.K X.mg T G) (hN : X.N = ((["e", "names"] : List String).map Str.ofString)) (hp : p ∈ X.pn) (hf : ∃ vs, p.2.data = .fields vs) (ck : ckErr X.env.scope body = true)
    (hk : k < 5) (h1 : p.2.cls = .ref (G.ca k)) (h2 : p.2.dict = none) :
    ∃ t, L2.PSs X body t ∧ ∀ (H : Hp) (Q : VK), (∀ H' v x, errWord k = .str x → v = .str x → (∀ b o, H b = some o → H' b = some o) → Q v H') → t { nx := fun _ H' => Q .non H', rt := Q } (L2.start X.N [.ref p.1]) H := by
  unfold ckErr at ck
  split at ck
  · rename_i n1 pn1 i0 i1 i2 i3 i4 pl pa s ps it pit o1 po1 pc o2 po2 n2 pn2 scp plc pcs k1 pk1 pcm wd pwd pwk prt pif w0 w1 w2 w3 w4 pwl n3 pn3 ix apos kb pb cpos psub pret
    simp only [Bool.and_eq_true, decide_eq_true_eq] at ck
    obtain ⟨⟨⟨⟨⟨⟨⟨⟨⟨⟨⟨⟨⟨⟨⟨⟨⟨⟨⟨⟨⟨⟨⟨⟨c0, c1⟩, c2⟩, c3⟩, c4⟩, d0⟩, d1⟩, d2⟩, d3⟩, d4⟩, rfl⟩, rfl⟩, rfl⟩, gn⟩, rfl⟩, gs⟩, rfl⟩, rfl⟩, rfl⟩, rfl⟩, hl⟩, hs⟩, hk1⟩, hone⟩, hint⟩ := ck
    simp only [List.all_eq_true, Bool.and_eq_true, Bool.or_eq_true, decide_eq_true_eq] at hs
    have N0 : X.N[0]? = some ("e" : Str) := by rw [hN]; rfl
    have N1 : X.N[1]? = some ("names" : Str) := by rw [hN]; rfl
    have nd : X.N.Nodup := by rw [hN]; decide +kernel
    obtain ⟨z0, y0⟩ := call_is h rfl N0 hp hk h1 h2 hf (j := 0) (by decide) (by rw [h.names]; rfl) (by decide) c0
    obtain ⟨z1, y1⟩ := call_is h rfl N0 hp hk h1 h2 hf (j := 1) (by decide) (by rw [h.names]; rfl) (by decide) c1
    obtain ⟨z2, y2⟩ := call_is h rfl N0 hp hk h1 h2 hf (j := 2) (by decide) (by rw [h.names]; rfl) (by decide) c2
    obtain ⟨z3, y3⟩ := call_is h rfl N0 hp hk h1 h2 hf (j := 3) (by decide) (by rw [h.names]; rfl) (by decide) c3
    obtain ⟨z4, y4⟩ := call_is h rfl N0 hp hk h1 h2 hf (j := 4) (by decide) (by rw [h.names]; rfl) (by decide) c4
    obtain ⟨u0, v0⟩ := word_pe (X := X) d0
    obtain ⟨u1, v1⟩ := word_pe (X := X) d1
    obtain ⟨u2, v2⟩ := word_pe (X := X) d2
    obtain ⟨u3, v3⟩ := word_pe (X := X) d3
    obtain ⟨u4, v4⟩ := word_pe (X := X) d4
    have S1 := ps_set (X := X) (i := 1) (pos := pa) (pos' := pn1) nd N1 (.inl gn) (pe_lst (pos := pl) (pa_cons y0 (pa_cons y1 (pa_cons y2 (pa_cons y3 (pa_cons y4 pa_nil (star_cons z4)) (star_cons z3)) (star_cons z2)) (star_cons z1)) (star_cons z0))) rfl (.inr gn)
    have L := ints_hot (X := X) hot (i := 1) (nm := "names") (one := "one") (scope := scp) (p1 := pit) (p2 := po1) (p3 := pc) (p4 := po2) (p5 := pn2) (pos := plc) N1 (.inl gn) (by decide) (by decide) (fun y hy => (hs y hy).1.1) (fun y hy => (hs y hy).1.2) hk1 (fun y hy e => (hs y hy).2.elim (fun z => absurd e z) id) hone hint h.fr3 (by decide) (by decide)
    have Sm := pe_callB (X := X) (p := ps) (pos := pcs) (sum_hot hot) gs h.fr2 bt_sum (pa_cons L pa_nil)
    have S2 := ps_if (X := X) (pos := pif) (pt_cmpR (pos := pcm) op_ne Sm (pe_int (i := 1) (j := k1) (pos := pk1)) rfl) (pss_one (ps_ret (pos := prt) (pe_str (x := wd) (j := pwd) (pos := pwk)))) pss_nil
    have Lw := pe_lst (X := X) (pos := pwl) (pa_cons v0 (pa_cons v1 (pa_cons v2 (pa_cons v3 (pa_cons v4 pa_nil (star_cons u4)) (star_cons u3)) (star_cons u2)) (star_cons u1)) (star_cons u0))
    have Mi := pe_bm (X := X) (cpos := cpos) (apos := apos) F.plainAttrs_list F.slot_list_index F.type_list_index (m_index_list (G := G) hG hu) (pe_var (pos := pn3) N1 (.inl gn)) (pa_cons (pe_bl (b := true) (j := kb) (pos := pb)) pa_nil) rfl (few_ok rfl) hl rfl rfl
    have S3 := ps_ret (X := X) (pos := pret) (pe_ix (pos := psub) ix_list Lw Mi (fun _ _ => rfl))
    refine ⟨_, pss_cons S1 (pss_cons S2 (pss_one S3)), fun H Q hQ => ?_⟩
    have hst : L2.start X.N [.ref p.1] = [some (.ref p.1), none] := by rw [hN]; rfl
    rw [hst]
    refine ⟨rfl, rfl, rfl, rfl, rfl, by rw [sizeLine_eq]; show 5 ≤ 16777216; decide, fun q hq => ?_⟩
    have g1 : ∀ b o, H b = some o → upd H q (.lst ((bsOf k).map V.bl)) b = some o := fun b o e => by rw [upd_ne (ne_of_none e hq)]; exact e
    have eb : (.lst [V.bl (decide (k = 0)), V.bl (decide (k = 1)), V.bl (decide (k = 2)), V.bl (decide (k = 3)), V.bl (decide (k = 4))] : HO) = .lst ((bsOf k).map V.bl) := rfl
    rw [eb]
    refine ⟨q, bsOf k, rfl, upd_same, by show 5 ≤ 1000; decide, fun r hr => ⟨r, bsOf k, rfl, upd_same, by show 5 ≤ 1000; decide, ?_⟩⟩
    have nqr : q ≠ r := fun z => by rw [← z, upd_same] at hr; cases hr
    have g2 : ∀ b o, H b = some o → upd (upd H q (.lst ((bsOf k).map V.bl))) r (.lst (((bsOf k).map b01).map V.int)) b = some o := fun b o e => by rw [upd_ne (ne_of_none (g1 b o e) hr)]; exact g1 b o e
    have hq2 : upd (upd H q (.lst ((bsOf k).map V.bl))) r (.lst (((bsOf k).map b01).map V.int)) q = some (.lst ((bsOf k).map V.bl)) := by rw [upd_ne nqr, upd_same]
    generalize upd (upd H q (.lst ((bsOf k).map V.bl))) r (.lst (((bsOf k).map b01).map V.int)) = H2 at g2 hq2
    rw [sum_of k hk]
    refine ⟨rfl, false, rfl, ?_⟩
    refine ⟨by rw [sizeLine_eq]; show 5 ≤ 16777216; decide, fun w' hw => ?_⟩
    have ew : (.lst [V.str (Str.ofString "refused"), V.str (Str.ofString "large"), V.str (Str.ofString "missing"), V.str (Str.ofString "paper"), V.str (Str.ofString "form")] : HO) = .lst wordsV := rfl
    rw [ew]
    have nqw : q ≠ w' := fun z => by rw [← z, hq2] at hw; cases hw
    have hq3 : upd H2 w' (.lst wordsV) q = some (.lst ((bsOf k).map V.bl)) := by rw [upd_ne nqw]; exact hq2
    have g3 : ∀ b o, H b = some o → upd H2 w' (.lst wordsV) b = some o := fun b o e => by rw [upd_ne (ne_of_none (g2 b o e) hw)]; exact g2 b o e
    have hw3 : upd H2 w' (.lst wordsV) w' = some (.lst wordsV) := upd_same
    generalize upd H2 w' (.lst wordsV) = H3 at hq3 g3 hw3
    have rb : ∀ bs : List Bool, RepL G [] (fun _ => False) H3 (bs.map V.bl) (bs.map .bl) := fun bs => by
      induction bs with
      | nil => exact .nil
      | cons b r ih => exact .cons (.bl b) ih
    refine ⟨_, rfl, .inl ⟨rfl, _, SqL.of hq3⟩, [], fun _ => False, (bsOf k).map .bl, .bl true, .int k, .lst hq3 (rb _), .cons (.dat (.bl true)) .nil, idx_of k hk, by show 5 ≤ 16777216; decide, fun v rv => ?_⟩
    cases rv
    obtain ⟨x, ex, ea⟩ := word_of k hk
    exact ⟨w', wordsV, k, .str x, rfl, rfl, SqL.of hw3, ea, hQ H3 _ x ex rfl g3⟩
  · cases ck
end MPH
end
section
set_option Elab.async false
set_option linter.all false
set_option maxRecDepth 100000
set_option maxHeartbeats 4000000
/-! MP: try .. except BeastError as e: return _law_error(e) -/
namespace MPH
open PySem PySem.Spec PyProof.Rows L2 MP
/-- a def that is called with the handled error -/
def FnE (P : Program) (w : World) (K : PySem.W.Frag) (mg : Str → Option Value) (base : Heap) (f : Addr) (fd : FuncData) (sp : (Addr × Obj) → Sp) : Prop :=
  ∀ (A : Around) (outer : List Env) (s : Shared) (H : Hp) (args : Args) (us : List Value) (vs : List V) (Q : VK) (E : XK) (p : Addr × Obj), L2H.RoomH 1 A → L2H.Hot1 A p → L2H.PinOk outer H s p → Env0 P w K mg base A outer s H → BindsTo s fd args ((["e"] : List Str).zip us) → Vals vs us → vs.length = 1 → sp p vs H Q E →
    codeAny (model P w) A (.call (.ref f) args) (CR (L2N.CX P w) outer P w H s Q E) s
/-- the law's _law_error -/
def LErr (K : PySem.W.Frag) (mg : Str → Option Value) (f : Addr) (fd : FuncData) : Prop :=
  ∃ (name qual : Str) (params : Arguments) (body : List Stmt) (scope : Scope) (dV kV doc pm cdv ct oc : Value) (an od : Option Addr) (osl : Array (Option Value)),
    fd = PySem.W.fnOf name qual params body scope dV kV doc pm an cdv ct ∧ K.lookup f = some ⟨oc, od, .func (PySem.W.fnOf name qual params body scope dV kV doc pm an cdv ct), osl⟩ ∧ PySem.W.codeIn K cdv qual = true ∧
    FnScope ((["e", "names"] : List String).map Str.ofString) ["e"] scope ∧ Binds K fd ["e"] [] ∧ mg "_law_error" = some (.ref f) ∧ PySem.W.keepIn K (.ref f) = true ∧ ckErr scope body = true
section
variable {P : Program} {w : World} {K : PySem.W.Frag} {mg : Str → Option Value} {base : Heap} {T : Tab} {G : Gd} {f : Addr} {fd : FuncData}
theorem fnE_ok (hG : G.K = K) (h : ErrK K mg T G) (l : LErr K mg f fd) : FnE P w K mg base f fd (spErr G) := by
  intro A outer s H args us vs Q E p hr hot hpin e0 hb r hl hsp
  obtain ⟨name, qual, params, body, scope, dV, kV, doc, pm, cdv, ct, oc, an, od, osl, rfl, lk, hcd, Sc, _, _, _, ck⟩ := l
  have kin : K.In s.heap := e0.mod.kin.keeps fun b o e => (e0.bs b o e).1
  have lim : s.heap.NoLimit := e0.mod.nolimit.keeps fun b o e => (e0.bs b o e).1
  have kinds : ∀ y ∈ (["e"] : List Str).zip us, scope.names.lookup y.1 = some .local ∨ (scope.names.lookup y.1 = some .cell ∧ ((cellsFrom (s.heap.objs.size + 1) scope.names []).lookup y.1).isSome = true) := by
    rintro ⟨n, v⟩ hy
    exact (Sc.par n (List.of_mem_zip hy).1).imp id fun q => ⟨q, PySem.W.cellsFrom_some _ _ _ (.inl q)⟩
  refine codeAny_call_function hr.depth (kin _ _ lk) rfl Sc.co Sc.gen rfl (PySem.W.codeRec_of kin hcd) (hb _ _ _ _ (wpAny_newFunctionEnv_cells Sc.kind kinds fun env he s1 x => ?_))
  subst he
  refine ⟨lim.keeps x.toInCall.keep, codeAny_func ?_⟩
  have I : Inv (L2H.cxH (L2N.CX P w) P w K mg base ((["e", "names"] : List String).map Str.ofString) qual scope f cdv A outer s H E p) [] (L2.start ((["e", "names"] : List String).map Str.ofString) vs) H s1 := L2H.inv_startH Sc hpin e0 hl r x
  obtain ⟨k, hk, h1, h2, hvs, hQ⟩ := hsp
  subst hvs
  obtain ⟨hh, vs1, d1, c1⟩ := hot
  have hu := hr.un
  obtain ⟨t, ht, hq⟩ := body_err (X := L2H.cxH (L2N.CX P w) P w K mg base ((["e", "names"] : List String).map Str.ofString) qual scope f cdv A outer s H E p) (T := T) (G := G) (p := p) (body := body) (k := k) hG
    (by show A.units + 3 + 70 < cLine; omega) ⟨p, ⟨hh, vs1, d1, c1⟩, by show p ∈ [p]; simp⟩ h rfl (by show p ∈ [p]; simp) ⟨vs1, d1⟩ ck hk h1 h2
  refine wpAny_mono (ht.run [] s1 _ H _ I (hq H Q hQ)) ?_ fun _ _ z => z
  intro fl s' hs
  cases fl with
  | next =>
    obtain ⟨σ', H', J, q⟩ := hs
    exact ⟨V.non, H', J.os, J.bare, J.base, J.hok, rfl, q⟩
  | ret u =>
    obtain ⟨v, σ', H', J, rv, q⟩ := hs
    exact ⟨v, H', J.os, J.bare, J.base, J.hok, rv, q⟩
  | brk => exact hs.elim fun _ h => h.elim fun _ h => h.2.elim
  | cont => exact hs.elim fun _ h => h.elim fun _ h => h.2.elim
end
/-- what the suite reads -/
def tSu (G : Gd) (i : Nat) (a : Addr) (cls : Value) (d : Option Addr) : TS := fun Z σ H => (∃ τ : L2.St, σ = τ.set i (some (.ref a))) ∧ ∃ k, k < 5 ∧ cls = .ref (G.ca k) ∧ d = none ∧ ∀ H' v x, errWord k = .str x → v = .str x → (∀ b o, H b = some o → H' b = some o) → Z.rt v H'
theorem suite_ok {X : Cx} {T : Tab} {G : Gd} {f : Addr} {fd : FuncData} {i : Nat} {e : Str} {p1 p2 p3 p4 : Pos} (hG : G.K = X.K) (h : ErrK X.K X.mg T G) (l : LErr X.K X.mg f fd) (hr : L2H.RoomH 1 X.A) (hN : X.N[i]? = some e) (hv : Vis X.env.scope e) (ho : okName e = true) (hg : Gl X "_law_error")
    {a : Addr} {oe : Obj} {cls : Value} {d : Option Addr} {pn : List (Addr × Obj)} (hz : L2N.Zn cls d oe) (hf : ∃ vs, oe.data = .fields vs) :
    L2.PSs (X.suite a ((a, oe) :: pn)) [.Return (some (.Call (.Name "_law_error" p1) [.Name e p2] [] p3)) p4] (tSu G i a cls d) := by
  refine pss_one (PSimp (ps_ret (te := fun σ H Q => tSu G i a cls d ⟨fun _ _ => True, Q, fun _ _ => True, fun _ _ => True⟩ σ H) ⟨fun pins s σ H Q I hh => ?_⟩) fun Z σ H hh => hh)
  obtain ⟨⟨τ, hτ⟩, k, hk, rfl, rfl, hQ⟩ := hh
  have F : FnE X.prog X.w X.K X.mg X.base f fd (spErr G) := fnE_ok hG h l
  obtain ⟨_, _, _, _, _, _, _, _, _, _, _, _, _, _, _, _, _, _, _, hb, hm, hkp, _⟩ := l
  have hi : i < τ.length := by
    have l1 : σ.length = X.N.length := I.len
    rw [hτ, List.length_set] at l1
    rw [l1]
    exact (List.getElem?_eq_some_iff.mp hN).1
  have hs : σ[i]? = some (some (.ref a)) := by rw [hτ, List.getElem?_set_self hi]
  refine wpAny_Call_Name_kw (ld_glob I hg hm ?_)
  have pa : L2.PA (X.suite a ((a, oe) :: pn)) [.Name e p2] (tCons (tVar i) tNil) := pa_cons (pe_var hN hv (okName_d ho).1 (okName_d ho).2.1) pa_nil
  refine PySem.W.callWith_K (h₀ := X.base) I.ok.mod.kin hkp (thn (pa.run p3 pins s σ H (fun vs H1 => vs = [.ref a] ∧ H1 = H) I ⟨.ref a, hs, rfl, rfl⟩) fun us s1 ⟨vs, H1, I1, r1, e1, e2⟩ => ⟨I1.kIn, ?_⟩)
  subst e1 e2
  have bt := hb s1 us I1.kIn (by rw [List.append_nil, ← r1.length]; rfl)
  rw [List.append_nil] at bt
  obtain ⟨vs1, d1⟩ := hf
  have P1 := I1.pin (a, oe) (List.mem_append_left _ List.mem_cons_self)
  have hpin : L2H.PinOk X.stack H1 s1 (a, oe) := ⟨P1.1, P1.2.1, fun hm => (List.mem_cons.mp (I1.stkSub a hm)).elim P1.2.2.1 P1.2.2.2.1, P1.2.2.2.2⟩
  refine wpAny_call (codeAny_mono (F (X.suite a ((a, oe) :: pn)).A X.stack s1 H1 ⟨us, []⟩ us [.ref a] Q (fun _ _ _ => False) (a, oe) ⟨hr.dp, hr.un⟩ ⟨rfl, vs1, d1, hz.2.2 vs1 d1⟩ hpin I1.env0 bt r1 rfl ⟨k, hk, hz.1, hz.2.1, rfl, hQ⟩) fun r s' hq => ?_)
  cases r with
  | error e' => exact (L2N.passAt (X := X.suite a ((a, oe) :: pn)) (W := fun _ _ _ _ => False) takesNo σ) pins H1 s1 e' s' I1 hq
  | ok fl =>
    cases fl with
    | ret u => exact I1.after hq
    | next => exact hq.elim
    | brk => exact hq.elim
    | cont => exact hq.elim
/-- the try of a law -/
theorem try_rule {T : Tab} {G : Gd} {cf : CF} {wf n : Nat} {se : SE} {i : Nat} {body : List Stmt} {hs : List ExceptHandler} {pb : PB} (hck : ckH T se i hs = true)
    (facts : ∀ X : Cx, Cok T G cf (n + 1) se X → Sok T G X → ErrK X.K X.mg T G ∧ (∃ f fd, LErr X.K X.mg f fd) ∧ ∃ Bb, X.mg "BeastError" = some (.ref Bb) ∧ ∀ k, k < 5 → PySem.W.exmOne X.K (.ref (G.ca k)) (.ref Bb) = some true) :
    TryRule T G cf wf (n + 1) se i body hs pb := by
  intro X W pos c k tk hbody
  obtain ⟨eK, ⟨f, fd, lE⟩, Bb, hB, hex⟩ := facts X c k
  unfold ckH at hck
  split at hck
  · rename_i b pb' e fn pf e2 pe pc pr ph
    simp only [Bool.and_eq_true, decide_eq_true_eq] at hck
    obtain ⟨⟨⟨⟨⟨⟨⟨rfl, gB⟩, hN⟩, hl⟩, rfl⟩, gf⟩, rfl⟩, ho⟩ := hck
    have hN' : X.N[i]? = some e2 := by rw [c.N]; exact hN
    have hln : X.env.kindOf e2 = some .local := by
      unfold Env.kindOf
      rw [c.sc]
      exact hl
    have rm : L2H.RoomH 1 X.A := L2H.RoomH.mono (L2H.roomH_of c.room) (by omega)
    refine PSimp (L2N.ps_try_as (ts := tSu G i) (Wout := W) (tb := fun W' => tS G W' (evalSs cf wf pb)) k.stk k.frm (by rw [c.N]; exact c.nd) hN' hln ⟨c.glo gB, by decide, .inl hB⟩ tk (fun W' pn xe tk' ow => ?_) (fun a oe cls d pn hz hf => ?_)) fun Z σ H ⟨B, as, fz, st, sim, q⟩ => ?_
    · exact hbody _ W' ⟨c.K, c.N, c.nd, c.sc, c.fn, c.calm, c.room, c.gd, c.fns, c.fnk, c.globs, c.blts, c.mods⟩ ⟨ow, k.excs, k.stk, k.frm, k.mg⟩ tk'
    · exact suite_ok c.K eK lE rm hN' (.inl hln) ho (c.glo gf) hz hf
    · refine ⟨B, as, fz, st, sim, ?_⟩
      simp only [evalS] at q
      cases ev : evalSs cf wf pb st with
      | bad => rw [ev] at q; exact q.elim
      | ok fl st' =>
        rw [ev] at q
        dsimp only at q
        cases fl <;> exact q
      | exc kk t =>
        rw [ev] at q
        dsimp only at q
        split at q
        · rename_i h5
          intro σ' as' fz' H' sb sc
          refine ⟨true, hex kk h5, fun _ a ha => ⟨⟨σ', rfl⟩, kk, h5, rfl, rfl, fun H2 v x ex ev' g => ?_⟩, fun z => nomatch z⟩
          have gr : Grow fz' H' fz' H2 := ⟨g, fun _ h => h, fun _ h => .inl h⟩
          refine q as' fz' H2 v (sb.trans gr.simB fun _ h => sc.live h) (gr.simC sc) ?_
          rw [ex, ev']
          exact .str x
        · exact q.elim
  · cases hck
end MPH
end
section
set_option Elab.async false
set_option linter.all false
set_option maxRecDepth 100000
set_option maxHeartbeats 4000000
/-! MP: the end: from the defs' promises to the row -/
namespace MPH
open PySem PySem.Spec PyProof.Rows L2 MP
/-- the law's def is called -/
theorem law_callG {P : Program} {w : World} {K : PySem.W.Frag} {mg mb : Str → Option Value} {k : Nat} {fa a : Addr} {sp : Sp} {s1 : Shared} {vs : List Value} {ns : List Int} (kin : K.In s1.heap) (n1 : s1.heap.Ns mainGlobals mg) (n2 : s1.heap.Ns builtinsNs mb)
    (n3 : ∀ x : Str, x ≠ "__name__" → mb x = bootBuiltins x) (lim : s1.heap.NoLimit) (gens : s1.gens = #[]) (obj : s1.heap.get? a = some { cls := .type "list", data := .seq vs.toArray }) (hi : IntsAre vs ns) (hl : ns.length ≤ sizeLine) (hr : Room k callerA)
    (F : ∀ base : Heap, K.In base → base.Ns mainGlobals mg → ∃ fd ps, Binds K fd ps [] ∧ FnG P w K mg base k fa fd ps sp) (hsp : ∀ H : Hp, ScrAt K H a (ns.map V.int) → sp [.ref a] H (fun v _ => v = .bl true) fun _ _ _ => False) :
    codeAny (model P w) callerA (.call (.ref fa) ⟨[.ref a], []⟩) (fun r s' => r = .ok (.ret (.bool true)) ∧ OldK s1.heap s'.heap ∧ s'.os = s1.os ∧ AllBare s'.gens) s1 := by
  have rv := vals_ints hi
  generalize ho : ({ cls := .type "list", data := .seq vs.toArray } : Obj) = scr at obj
  generalize hH : (fun b => if b = a ∧ K.lookup a = none then some (HO.frz scr (.lst (ns.map V.int))) else none : Hp) = H
  have out : ∀ b, (b ≠ a ∨ K.lookup a ≠ none) → H b = none := fun b h => by
    rw [← hH]
    exact if_neg fun z => h.elim (fun y => y z.1) fun y => y z.2
  have inn : ∀ b u, H b = some u → b = a ∧ K.lookup a = none ∧ u = .frz scr (.lst (ns.map V.int)) := fun b u e => by
    rw [← hH] at e
    dsimp only at e
    split at e
    · rename_i z
      cases e
      exact ⟨z.1, z.2, rfl⟩
    · cases e
  have kept : ∀ {b : Addr} {m : Str → Option Value}, s1.heap.Ns b m → (hidT s1.heap H).Ns b m := fun {b m} ⟨o, es, ep, e, d, r⟩ => by
    refine ⟨o, es, ep, hidT_get e (out b (.inl fun z => ?_)), d, r⟩
    rw [z, obj, ← ho] at e
    cases e
    cases (show Data.seq vs.toArray _ = Data.dict es ep from d)
  have kb : K.In (hidT s1.heap H) := fun b o e => hidT_get (kin b o e) (out b (by
    by_cases hba : b = a
    · exact .inr (by rw [← hba, e]; simp)
    · exact .inl hba))
  have okH : HOk P w H s1.heap := fun b u e => by
    obtain ⟨rfl, _, rfl⟩ := inn b u e
    exact ⟨obj, by rw [List.length_map]; exact hl, vs, _, rv, by rw [obj, ← ho]⟩
  have e0 : Env0 P w K mg (hidT s1.heap H) callerA [] s1 H := ⟨rfl, ⟨kb, kept n1, ⟨mb, kept n2, n3⟩, let ⟨mc, h1, h2⟩ := lim; ⟨mc, kept h1, h2⟩⟩, fun b o e => of_hidT e, Nat.le_of_eq (hidT_size _ _), trivial, fun b hb => (by cases (show b ∈ ([] : List Addr) from hb)), okH, .of_eq gens⟩
  have sc : ScrAt K H a (ns.map V.int) := by
    cases hk : K.lookup a with
    | none =>
      refine .inl ⟨scr, ?_⟩
      rw [← hH]
      exact if_pos ⟨rfl, hk⟩
    | some o =>
      have e := kin a o hk
      rw [obj] at e
      cases e
      refine .inr (.inr ⟨_, vs.toArray, 0, hk, ?_, ?_, ?_, by rw [List.size_toArray, ← rv.length, List.length_map]; exact hl, by simpa using rv⟩)
      · rw [← ho]
      · rw [← ho]
      · rw [← ho]
  obtain ⟨fd, ps, hb, Fg⟩ := F _ kb (kept n1)
  have one : ([.ref a] : List V).length = ps.length := Fg.len _ _ _ _ (hsp H sc)
  have bt := hb s1 [.ref a] kin (by rw [List.append_nil, ← one]; rfl)
  rw [List.append_nil] at bt
  refine codeAny_mono (Fg.run callerA [] s1 H ⟨[.ref a], []⟩ [.ref a] [.ref a] _ _ rfl hr e0 bt (.cons rfl .nil) (hsp H sc)) fun r s' h => ?_
  cases r with
  | error e =>
    have h : L2N.CX P w [] H s1 (fun _ _ _ => False) e s' := h
    unfold L2N.CX at h
    obtain ⟨_, _, _, _, _, _, _, _, _, _, _, h⟩ := h
    simp at h
  | ok fl =>
    cases fl with
    | next => exact h.elim
    | brk => exact h.elim
    | cont => exact h.elim
    | ret u =>
      obtain ⟨v, H', os, bare, un, ok', r', q⟩ := h
      have q' : v = .bl true := q
      subst q'
      obtain rfl : u = Value.bool true := r'
      refine ⟨rfl, OldK.of_keep fun b o e => ?_, os, bare⟩
      cases q : H b with
      | none => exact un.keep b o e q (by intro z; cases (show b ∈ ([] : List Addr) from z)) (by simp)
      | some u =>
        obtain ⟨rfl, _, rfl⟩ := inn b u q
        obtain ⟨e2, _⟩ := ok' b _ (un.frzs b _ _ q)
        rw [obj] at e
        cases e
        exact e2
end MPH
end
section
set_option Elab.async false
set_option linter.all false
set_option maxRecDepth 100000
set_option maxHeartbeats 4000000
/-! MP: the facts of a law's module -/
namespace MPH
open PySem PySem.Spec PyProof.Rows L2 MP He
/-- what isinstance asks of an error class -/
def exB (K : PySem.W.Frag) (x : Str) : Bool := decide (PySem.W.findIn K (.ref (ga K x)) "__getattribute__" = some (some (.builtin "BaseException.__getattribute__"))) && decide (PySem.W.findIn K (.ref (ga K x)) "__getattr__" = some none) &&
  decide (PySem.W.subIn K (.ref (ga K x)) (.type "BaseException") = some true) && PySem.W.hasDictIn K (ga K x) && decide (PySem.W.findIn K (.ref (ga K x)) "__class__" = some (some (.builtin "object.__class__"))) &&
  decide (PySem.W.specialIn K (.builtin "object.__class__") "__get__" = some (some (.builtin "getset_descriptor.__get__"))) && decide (PySem.W.takesIn K (.builtin "object.__class__") = some true) && decide (PySem.W.mroIn K (ga K x) (.type "object") = some true)
theorem exB_ok {K : PySem.W.Frag} {x : Str} (h : exB K x = true) : ExcC K (ga K x) := by
  simp only [exB, Bool.and_eq_true, decide_eq_true_eq] at h
  obtain ⟨⟨⟨⟨⟨⟨⟨h1, h2⟩, h3⟩, h4⟩, h5⟩, h6⟩, h7⟩, h8⟩ := h
  exact ⟨h1, h2, h3, h4, h5, h6, h7, h8⟩
abbrev AlP : Type := Bool × AlD
def gcB (K : PySem.W.Frag) (x : Str) : Bool := eqO (PySem.W.nsIn K mainGlobals x) (some (some (.builtin "math.gcd")))
def obsP (es ms : List Str) (fa : List Fa) (fn : List DefD) (K : PySem.W.Frag) : AlP := (es.all (exB K) && ms.all (gcB K), obsD fa fn K)
def valP (fn : List DefD) : AlP := (true, valD fn)
def obsPG (n : Nat) (es ms : List Str) (fa : List Fa) (fn : List DefD) (g : Addr → Option Obj) : AlP := obsP es ms fa fn (frG g (asD g n))
def hookP (n : Nat) (es ms : List Str) (fa : List Fa) (fn : List DefD) : PySem.W.Hook where
  α := AlP
  obs := fun s => obsPG n es ms fa fn s.heap.get?
  val := fun _ => valP fn
  says := fun _ h => ∃ K : PySem.W.Frag, K.In h ∧ obsP es ms fa fn K = valP fn
  of := fun _ _ e => ⟨_, frG_in, e⟩
  keeps := fun _ _ _ ⟨K, hK, c⟩ k => ⟨K, PySem.W.Frag.In.keeps hK k, c⟩
theorem obsPG_eq {n : Nat} {es ms : List Str} {fa : List Fa} {fn : List DefD} {g : Addr → Option Obj} {s : Shared} (h : ∀ a, g a = s.heap.get? a) : obsPG n es ms fa fn g = (hookP n es ms fa fn).obs s := by
  have e : g = s.heap.get? := funext h
  rw [e] <;> rfl
/-! ### the defs -/
structure DRec where
  x : Str
  params : Arguments
  body : List Stmt
  scope : Scope
  N : List Str
  np : Nat
  pb : PB
def DRec.dd (r : DRec) : DefD := ⟨(r.x, none), r.x, r.x, r.params, r.body, r.scope, [], []⟩
def DRec.fd (r : DRec) : FDef := ⟨r.np, r.N.length, r.pb⟩
def scC (N : List Str) (np : Nat) (sc : Scope) : Bool := decide (sc.kind = .function) && !sc.isCoroutine && !sc.isGenerator && decide N.Nodup && decide (np ≤ N.length) && ((N.take np).all fun x => decide (sc.names.lookup x = some .local) || decide (sc.names.lookup x = some .cell)) && sc.names.all fun y => decide (y.2 ≠ .free)
theorem scC_ok {N : List Str} {np : Nat} {sc : Scope} (h : scC N np sc = true) : FnScope N (N.take np) sc ∧ (N.take np).length = np := by
  simp only [scC, Bool.and_eq_true, Bool.not_eq_true', decide_eq_true_eq, List.all_eq_true, Bool.or_eq_true] at h
  obtain ⟨⟨⟨⟨⟨⟨h1, h2⟩, h3⟩, h4⟩, h5⟩, h6⟩, h7⟩ := h
  have hl : (N.take np).length = np := by rw [List.length_take]; omega
  exact ⟨⟨h1, h2, h3, h4, by rw [hl], h6, h7⟩, hl⟩
def DRec.ok (T : Tab) (r : DRec) : Bool := scC r.N r.np r.scope && ckB T ⟨r.N, r.scope, fun _ => true⟩ r.pb r.body
def BindP (x : Str) (params : Arguments) (body : List Stmt) (scope : Scope) (ps : List Str) : Prop := ∀ (kV doc pm : Value) (an : Option Addr) (cdv ct : Value) (us : List Value), us.length = ps.length → bindArgs (PySem.W.fnOf x x params body scope .none kV doc pm an cdv ct) ⟨us, []⟩ = pure (ps.zip us)
def GG (K : PySem.W.Frag) (mg : Str → Option Value) (T : Tab) : Gd := ⟨K, fun i => ga K (T.fns.getD i "law"), fun k => ga K (T.excs.getD k "NotAllowed"), mg⟩
/-- the facts that are asked of the head -/
def globFa : List (Str × D) → List Fa
  | [] => []
  | (x, .int i) :: r => .int x i :: globFa r
  | (x, .str z) :: r => .str x z :: globFa r
  | _ :: r => globFa r
def isLit : Str × D → Bool
  | (_, .int _) => true
  | (_, .str _) => true
  | _ => false
def faOf (T : Tab) : List Fa := (T.fns.map Fa.glo ++ T.blts.map Fa.free) ++ ((T.excs.map Fa.glo ++ (T.excs.filter (fun x => decide (x ≠ ("BadForm" : Str)))).map Fa.exc) ++ (T.excs.map (fun x => Fa.exm x "BeastError" true) ++ ((T.excs.flatMap fun x => T.excs.map fun y => Fa.exm x y (decide (x = y))) ++ ([.glo "BeastError", .glo "_law_error", .free "isinstance", .free "sum", .free "int"] ++ globFa T.globs))))
theorem globFa_mem : ∀ {gs : List (Str × D)} {x : Str} {d : D}, (x, d) ∈ gs → isLit (x, d) = true → (∃ i, d = .int i ∧ Fa.int x i ∈ globFa gs) ∨ (∃ z, d = .str z ∧ Fa.str x z ∈ globFa gs)
  | (y, e) :: r, x, d, h, hl => by
    rcases List.mem_cons.mp h with z | z
    · cases z
      cases e <;> first | (simp [isLit] at hl; done) | skip
      · exact .inl ⟨_, rfl, List.mem_cons_self⟩
      · exact .inr ⟨_, rfl, List.mem_cons_self⟩
    · have sub : ∀ f, f ∈ globFa r → f ∈ globFa ((y, e) :: r) := fun f hf => by
        cases e <;> first | exact hf | exact List.mem_cons_of_mem _ hf
      rcases globFa_mem z hl with ⟨i, e1, e2⟩ | ⟨i, e1, e2⟩
      · exact .inl ⟨i, e1, sub _ e2⟩
      · exact .inr ⟨i, e1, sub _ e2⟩
section
variable {K : PySem.W.Frag} {mg : Str → Option Value} {h : Heap} {T : Tab} {recs : List DRec} {er : DRec}
theorem fact_mem {fa : List Fa} {fn : List DefD} (c : SaysD fa fn K) {f : Fa} (hf : f ∈ fa) : f.ok K = true := by
  obtain ⟨i, hi⟩ := List.getElem?_of_mem hf
  exact c.fact i hi
theorem kit_of_exm {t c : Value} {b : Bool} (h : PySem.W.exmOne K t c = some b) (hb : t = c → b = true) : PySem.W.kitOne K t c = some b := by
  unfold PySem.W.exmOne at h
  split at h
  · unfold PySem.W.kitOne
    by_cases e : t = c
    · rw [if_pos (by rw [e]; exact beq_self_eq_true c), hb e]
    · rw [if_neg (by simpa using e)]
      exact h
  · cases h
/-- the whole of what the terms lean on -/
theorem glob_of (X : K.In h) (Gn : h.Ns mainGlobals mg) (c : obsP T.excs T.mods (faOf T) (er.dd :: recs.map DRec.dd) K = valP (er.dd :: recs.map DRec.dd)) (hT : T.fns = recs.map DRec.x) (hlaw : ("law" : Str) ∈ T.fns) (hlit : T.globs.all isLit = true)
    (hexc : T.excs = ((["NotAllowed", "TooLarge", "Missing", "BadPaper", "BadForm"] : List String).map Str.ofString)) (hok : recs.all (DRec.ok T) = true) (hbind : ∀ r ∈ recs, BindP r.x r.params r.body r.scope (r.N.take r.np))
    (her : er.x = "_law_error") (herN : FnScope ((["e", "names"] : List String).map Str.ofString) ["e"] er.scope) (herB : BindP er.x er.params er.body er.scope ["e"]) (herC : ckErr er.scope er.body = true) (wf : Nat) :
    Glob K mg T (GG K mg T) (recs.map DRec.fd) wf := by
  have cD : SaysD (faOf T) (er.dd :: recs.map DRec.dd) K := congrArg (fun z : AlP => z.2) c
  have cEM : (T.excs.all (exB K) && T.mods.all (gcB K)) = true := congrArg (fun z : AlP => z.1) c
  have cE : T.excs.all (exB K) = true := ((Bool.and_eq_true _ _).mp cEM).1
  have cM : T.mods.all (gcB K) = true := ((Bool.and_eq_true _ _).mp cEM).2
  have fM : ∀ x ∈ T.mods, mg x = some (.builtin "math.gcd") := fun x hx => PySem.W.mg_of X Gn (eqO_ok (List.all_eq_true.mp cM x hx))
  have fact : ∀ {f : Fa}, f ∈ faOf T → f.ok K = true := fun hf => fact_mem cD hf
  have fFn : ∀ x ∈ T.fns, mg x = some (.ref (ga K x)) := fun x hx => glo_ok X Gn (fact (List.mem_append_left _ (List.mem_append_left _ (List.mem_map_of_mem hx))))
  have fBl : ∀ x ∈ T.blts, mg x = none := fun x hx => free_ok X Gn (fact (List.mem_append_left _ (List.mem_append_right _ (List.mem_map_of_mem hx))))
  have fEx : ∀ x ∈ T.excs, mg x = some (.ref (ga K x)) := fun x hx => glo_ok X Gn (fact (List.mem_append_right _ (List.mem_append_left _ (List.mem_append_left _ (List.mem_map_of_mem hx)))))
  have fEc : ∀ x ∈ T.excs, x ≠ ("BadForm" : Str) → _ := fun x hx hb => exc_ok (fact (List.mem_append_right _ (List.mem_append_left _ (List.mem_append_right _ (List.mem_map_of_mem (List.mem_filter.mpr ⟨hx, decide_eq_true hb⟩))))))
  have fEm : ∀ x ∈ T.excs, PySem.W.exmOne K (.ref (ga K x)) (.ref (ga K "BeastError")) = some true := fun x hx => exm_ok (fact (List.mem_append_right _ (List.mem_append_right _ (List.mem_append_left _ (List.mem_map.mpr ⟨x, hx, rfl⟩)))))
  have fEp : ∀ x ∈ T.excs, ∀ y ∈ T.excs, PySem.W.exmOne K (.ref (ga K x)) (.ref (ga K y)) = some (decide (x = y)) := fun x hx y hy => exm_ok (fact (List.mem_append_right _ (List.mem_append_right _ (List.mem_append_right _ (List.mem_append_left _ (List.mem_flatMap.mpr ⟨x, hx, List.mem_map.mpr ⟨y, hy, rfl⟩⟩))))))
  have fR : ∀ f ∈ ([.glo "BeastError", .glo "_law_error", .free "isinstance", .free "sum", .free "int"] : List Fa) ++ globFa T.globs, f.ok K = true := fun f hf => fact (List.mem_append_right _ (List.mem_append_right _ (List.mem_append_right _ (List.mem_append_right _ hf))))
  have fB : mg "BeastError" = some (.ref (ga K "BeastError")) := glo_ok X Gn (fR _ (by simp))
  have fL : mg "_law_error" = some (.ref (ga K "_law_error")) := glo_ok X Gn (fR _ (by simp))
  have f1 : mg "isinstance" = none := free_ok X Gn (fR _ (by simp))
  have f2 : mg "sum" = none := free_ok X Gn (fR _ (by simp))
  have f3 : mg "int" = none := free_ok X Gn (fR _ (by simp))
  have kp : ∀ x ∈ T.fns, PySem.W.keepIn K (.ref (ga K x)) = true := fun x hx => by
    rw [hT] at hx
    obtain ⟨r, hr, rfl⟩ := List.mem_map.mp hx
    obtain ⟨i, hi⟩ := List.getElem?_of_mem hr
    obtain ⟨fd, F⟩ := cD.def_ (i + 1) (d := r.dd) (by rw [List.getElem?_cons_succ, List.getElem?_map, hi]; rfl)
    exact F.kp
  have exAt : ∀ k, k < 5 → T.excs.getD k "NotAllowed" ∈ T.excs := fun k hk => by
    rw [hexc]
    have : k = 0 ∨ k = 1 ∨ k = 2 ∨ k = 3 ∨ k = 4 := by omega
    rcases this with rfl | rfl | rfl | rfl | rfl <;> decide +kernel
  have exNe : ∀ k j, k < 5 → j < 5 → (T.excs.getD k "NotAllowed" = T.excs.getD j "NotAllowed" ↔ k = j) := fun k j hk hj => by
    rw [hexc]
    have : k = 0 ∨ k = 1 ∨ k = 2 ∨ k = 3 ∨ k = 4 := by omega
    have : j = 0 ∨ j = 1 ∨ j = 2 ∨ j = 3 ∨ j = 4 := by omega
    rcases ‹k = 0 ∨ _› with rfl | rfl | rfl | rfl | rfl <;> rcases ‹j = 0 ∨ _› with rfl | rfl | rfl | rfl | rfl <;> decide +kernel
  have errK : ErrK K mg T (GG K mg T) := by
    refine ⟨hexc, fun k x hx => ?_, fun k hk => exB_ok (List.all_eq_true.mp cE _ (exAt k hk)), fun k j hk hj => ?_, f1, f2, f3⟩
    · have : T.excs.getD k "NotAllowed" = x := by rw [List.getD, hx]; rfl
      show mg x = some (.ref (ga K (T.excs.getD k "NotAllowed")))
      rw [this]
      exact fEx x (List.mem_of_getElem? hx)
    · have z := fEp _ (exAt k hk) _ (exAt j hj)
      have e : decide (T.excs.getD k "NotAllowed" = T.excs.getD j "NotAllowed") = decide (k = j) := decide_eq_decide.mpr (exNe k j hk hj)
      rw [e] at z
      refine kit_of_exm z fun q => ?_
      have q' : (Value.ref (ga K (T.excs.getD k "NotAllowed"))) = .ref (ga K (T.excs.getD j "NotAllowed")) := q
      have z2 := fEp _ (exAt k hk) _ (exAt k hk)
      rw [← q', z2] at z
      simpa using z.symm
  refine ⟨rfl, rfl, fun i => ?_, fun x d hd => ?_, fBl, fM, fun k x hx hb => ?_, by rw [hT, List.length_map, List.length_map], fun i x hx => ?_, fun m se i body hs pb hck => try_rule hck fun X' c' k' => ?_⟩
  · show PySem.W.keepIn K (.ref (ga K (T.fns.getD i "law"))) = true
    cases e : T.fns[i]? with
    | none => rw [List.getD, e]; exact kp _ hlaw
    | some x => rw [List.getD, e]; exact kp _ (List.mem_of_getElem? e)
  · have hl := List.all_eq_true.mp hlit _ hd
    rcases globFa_mem hd hl with ⟨i, rfl, e2⟩ | ⟨z, rfl, e2⟩
    · obtain ⟨t, e⟩ := int_ok X Gn (fR _ (List.mem_append_right _ e2))
      exact ⟨_, .int i, e, ⟨t, rfl⟩, fun _ _ _ => .int i⟩
    · obtain ⟨t, e⟩ := str_ok X Gn (fR _ (List.mem_append_right _ e2))
      exact ⟨_, .str z, e, ⟨t, rfl⟩, fun _ _ _ => .str z⟩
  · have e0 : T.excs.getD k "NotAllowed" = x := by rw [List.getD, hx]; rfl
    obtain ⟨e1, e2, e3, e4⟩ := fEc x (List.mem_of_getElem? hx) hb
    show ExcOk K mg x (ga K (T.excs.getD k "NotAllowed"))
    rw [e0]
    exact ⟨_, _, _, _, PySem.F.excBase_ValueError, e1, fEx x (List.mem_of_getElem? hx), e2, e3, e4⟩
  · have hx2 := hx
    rw [hT, List.getElem?_map] at hx2
    cases e : recs[i]? with
    | none => rw [e] at hx2; cases hx2
    | some r =>
      rw [e] at hx2
      cases hx2
      have hr := List.mem_of_getElem? e
      obtain ⟨fd, Fd⟩ := cD.def_ (i + 1) (d := r.dd) (by rw [List.getElem?_cons_succ, List.getElem?_map, e]; rfl)
      have bn := Fd.bindsN (ps := r.N.take r.np) (hbind r hr)
      obtain ⟨oc, od, dV, kV, doc, pm, an, cdv, ct, osl, rfl, lk, hcd, _, _⟩ := Fd.ex
      have ro := List.all_eq_true.mp hok r hr
      rw [DRec.ok, Bool.and_eq_true] at ro
      obtain ⟨s1, s2⟩ := scC_ok ro.1
      have ad : (GG K mg T).fa i = ga K r.x := by
        show ga K (T.fns.getD i "law") = _
        rw [List.getD, hx]
        rfl
      refine ⟨r.fd, by rw [List.getElem?_map, e]; rfl, r.x, r.x, r.params, r.body, r.scope, dV, kV, doc, pm, cdv, ct, oc, an, od, osl, r.N, r.N.take r.np, ?_, hcd, s1, bn, ?_, ro.2, s2.symm, rfl⟩
      · rw [ad]; exact lk
      · rw [ad]; exact fFn _ (List.mem_of_getElem? hx)
  · have eK : X'.K = K := c'.K.symm
    have eM : X'.mg = mg := k'.mg
    rw [eK, eM]
    refine ⟨errK, ?_, ga K "BeastError", fB, fun k hk => fEm _ (exAt k hk)⟩
    obtain ⟨fd, Fd⟩ := cD.def_ 0 (d := er.dd) rfl
    have bn := Fd.bindsN (ps := ["e"]) herB
    have kp' := Fd.kp
    obtain ⟨oc, od, dV, kV, doc, pm, an, cdv, ct, osl, rfl, lk, hcd, _, _⟩ := Fd.ex
    have ad : fAd K er.dd.at_ = ga K "_law_error" := by
      show ga K er.x = _
      rw [her]
    rw [ad] at lk kp'
    exact ⟨ga K "_law_error", _, er.x, er.x, er.params, er.body, er.scope, dV, kV, doc, pm, cdv, ct, oc, an, od, osl, rfl, lk, hcd, herN, bn, fL, kp', herC⟩
end
/-- the law's def, called with a script, from what the terms say -/
theorem walk_law {l : PySem.W.OpenLaw} {q : Program} {loose : List Str} {XP : (Str → Option Value) → Heap → Prop} {d : DefRec} {T : Tab} {recs : List DRec} {er : DRec} {wf m i : Nat} (hn : l.most = some 63) (hdf : d.params.defaults = []) (hname : d.name = ("law" : Str)) (hi : T.fns[i]? = some ("law" : Str))
    (hT : T.fns = recs.map DRec.x) (hlit : T.globs.all isLit = true) (hexc : T.excs = ((["NotAllowed", "TooLarge", "Missing", "BadPaper", "BadForm"] : List String).map Str.ofString)) (hok : recs.all (DRec.ok T) = true) (hbind : ∀ r ∈ recs, BindP r.x r.params r.body r.scope (r.N.take r.np))
    (her : er.x = "_law_error") (herN : FnScope ((["e", "names"] : List String).map Str.ofString) ["e"] er.scope) (herB : BindP er.x er.params er.body er.scope ["e"]) (herC : ckErr er.scope er.body = true) (hm : m ≤ 200)
    (plain : ∀ ns : List Int, ns.length ≤ 63 → ∃ t, callF (recs.map DRec.fd) wf m i [.scr ns] [] = .ok (.bl true) t) :
    PySem.W.WalkO q loose XP (hookP 4 T.excs T.mods (faOf T) (er.dd :: recs.map DRec.dd)).says l.row.toRowW d [] (fun f vs => PySem.call f vs) := by
  refine Att.attach_call hn hdf fun w s₀ s₁ mg mb fa o pm cd doc a vs ns Gr Y ho hd hcd hmg hobj hints hlen hg => ?_
  obtain ⟨K, KX, c⟩ := Y
  have g := glob_of KX Gr.T.g c hT (List.mem_of_getElem? hi) hlit hexc hok hbind her herN herB herC wf
  have hr : Room (m + 1) callerA := ⟨rfl, by
    have : callerA.depth + 3 * 201 + 5 < recursionLimit := by decide
    omega, by
    have : callerA.units + 16 * 201 + 200 < cLine := by decide
    omega⟩
  have adr : fa = (GG K mg T).fa i := by
    obtain ⟨fd, ps, e, _⟩ := all_fns (P := l.prog) (w := w) (base := s₁.heap) g m i _ hi
    rw [hname, e] at hmg
    cases hmg
    rfl
  subst adr
  refine law_callG KX Gr.T.g Gr.T.b Gr.T.builtins Gr.T.nolimit hg hobj hints (Nat.le_trans hlen (by rw [sizeLine_eq]; decide)) hr (fun base _ _ => ?_) (sp := spI (GG K mg T) (callF (recs.map DRec.fd) wf m) i) fun H sc => ?_
  · obtain ⟨fd, ps, _, _, hb, F⟩ := all_fns (P := l.prog) (w := w) (base := base) g m i _ hi
    exact ⟨fd, ps, hb, F⟩
  · obtain ⟨t, e⟩ := plain ns hlen
    refine ⟨[.scr ns], [], fun _ => False, [], .cons (.scr sc (by omega)) .nil, ⟨List.nodup_nil, rfl, fun j c a h => by simp at h, fun a h => h.elim⟩, ?_⟩
    rw [e]
    intro as' fz' H' v _ _ rd
    cases rd
    rfl
end MPH
end
section
set_option Elab.async false
set_option linter.all false
set_option maxRecDepth 100000
set_option maxHeartbeats 4000000
/-! MP: how the interpreter is reckoned with -/
namespace MP
open PySem
theorem wipe_in_eq {loc : List Slot} {j : Nat} : ∀ {vs : List Nat}, j ∈ vs → j < loc.length → (MP.wipe loc vs)[j]? = some .unb := fun {vs} h hl => by
  have hl2 : j < (MP.wipe loc vs).length := by rw [wipe_len]; exact hl
  rw [List.getElem?_eq_getElem hl2]
  rw [wipe_in h _ (List.getElem?_eq_getElem hl2)]
theorem unwipe_in_eq {old new : List Slot} {j : Nat} : ∀ {vs : List Nat}, j ∈ vs → j < new.length → (unwipe old new vs)[j]? = some (match old[j]? with
    | some (.val d) => .val d
    | _ => .unb)
  | i :: r, h, hl => by
    rw [unwipe]
    by_cases hj : i = j
    · subst hj
      rw [List.getElem?_set_self (by rw [unwipe_len]; exact hl)] <;> rfl
    · rw [List.getElem?_set_ne hj]
      rcases List.mem_cons.mp h with z | z
      · exact absurd z.symm hj
      · exact unwipe_in_eq z hl
theorem unwipe_same {old a b : List Slot} {vs : List Nat} (h : MP.wipe a vs = MP.wipe b vs) : unwipe old a vs = unwipe old b vs := by
  have hl : a.length = b.length := by rw [← wipe_len a vs, h, wipe_len]
  apply List.ext_getElem?
  intro j
  by_cases hj : j ∈ vs
  · by_cases hb : j < b.length
    · rw [unwipe_in_eq hj (by omega), unwipe_in_eq hj hb]
    · rw [List.getElem?_eq_none (by rw [unwipe_len]; omega), List.getElem?_eq_none (by rw [unwipe_len]; omega)]
  · rw [unwipe_get hj, unwipe_get hj, ← wipe_get (loc := a) hj, h, wipe_get hj]
theorem wipe_idem (loc : List Slot) (vs : List Nat) : MP.wipe (MP.wipe loc vs) vs = MP.wipe loc vs := by
  apply List.ext_getElem?
  intro j
  by_cases hj : j ∈ vs
  · by_cases hb : j < loc.length
    · rw [wipe_in_eq hj (by rw [wipe_len]; exact hb), wipe_in_eq hj hb]
    · rw [List.getElem?_eq_none (by rw [wipe_len, wipe_len]; omega), List.getElem?_eq_none (by rw [wipe_len]; omega)]
  · rw [wipe_get hj]
/-- a loop of a comprehension, by an invariant -/
theorem compLoop_inv {vs : List Nat} {f : D → S → Out (List D)} (I : List D → List D → S → Prop) (hI : ∀ p a s, I p a s → I p a s) : ∀ (xs p a : List D) (s : S), I p a s →
    (∀ p x r a s, p ++ x :: r = p ++ x :: r → I p a s → x ∈ xs → ∃ es s', f x { s with loc := MP.wipe s.loc vs } = .ok es s' ∧ I (p ++ [x]) (a ++ es) s') → ∃ es s', compLoop vs f xs s = .ok es s' ∧ I (p ++ xs) (a ++ es) s'
  | [], p, a, s, h, _ => ⟨[], s, rfl, by rw [List.append_nil, List.append_nil]; exact h⟩
  | x :: r, p, a, s, h, k => by
    obtain ⟨es, s1, e1, h1⟩ := k p x r a s rfl h List.mem_cons_self
    obtain ⟨fs, s2, e2, h2⟩ := compLoop_inv I hI r (p ++ [x]) (a ++ es) s1 h1 fun p y q b s e i hm => k p y q b s e i (List.mem_cons_of_mem _ hm)
    refine ⟨es ++ fs, s2, ?_, ?_⟩
    · rw [compLoop, e1]
      simp only [bind_ok]
      rw [e2]
      rfl
    · rw [List.append_assoc] at h2
      rw [← List.append_assoc]
      exact h2
/-- a comprehension that leaves the store as it is -/
theorem comp_pure {cf : CF} {elt : PE} {t : Tgt} {it : Iter} {cs : PL} {vs : List Nat} {s s1 : S} {xs : List D} (g : D → Option D) (hI : evalI cf it s = .ok xs s1)
    (hf : ∀ x ∈ xs, ∃ loc', turnF cf elt t cs x { s1 with loc := MP.wipe s1.loc vs } = .ok (g x).toList { s1 with loc := loc' } ∧ MP.wipe loc' vs = MP.wipe s1.loc vs) (hl : xs.length ≤ 1000000) :
    evalE cf (.comp elt t it cs vs) s = .ok (.lst (xs.filterMap g)) { s1 with loc := unwipe s1.loc s1.loc vs } := by
  rw [evalE_comp, hI]
  simp only [bind_ok]
  have key : ∀ (ys : List D) (s' : S), (∀ y ∈ ys, y ∈ xs) → s'.sto = s1.sto → MP.wipe s'.loc vs = MP.wipe s1.loc vs → ∃ s'', compLoop vs (turnF cf elt t cs) ys s' = .ok (ys.filterMap g) s'' ∧ s''.sto = s1.sto ∧ MP.wipe s''.loc vs = MP.wipe s1.loc vs := by
    intro ys
    induction ys with
    | nil => exact fun s' _ h1 h2 => ⟨s', rfl, h1, h2⟩
    | cons y r ih =>
      intro s' hm h1 h2
      obtain ⟨loc', e1, e2⟩ := hf y (hm y List.mem_cons_self)
      have es : ({ s' with loc := MP.wipe s'.loc vs } : S) = { s1 with loc := MP.wipe s1.loc vs } := by rw [h2, h1]
      obtain ⟨s'', e3, e4, e5⟩ := ih { s1 with loc := loc' } (fun z hz => hm z (List.mem_cons_of_mem _ hz)) rfl e2
      refine ⟨s'', ?_, e4, e5⟩
      rw [compLoop, es, e1]
      simp only [bind_ok]
      rw [e3]
      simp only [bind_ok]
      rw [List.filterMap_cons]
      cases g y <;> rfl
  obtain ⟨s'', e1, e2, e3⟩ := key xs s1 (fun _ h => h) rfl rfl
  rw [e1]
  simp only [calm_ok, bind_ok]
  rw [if_pos (Nat.le_trans (List.length_filterMap_le _ _) hl), e2, unwipe_same e3]
/-! ### texts and sets of texts -/
def setD (xs : List Str) : D := .tup (xs.map .str)
/-- texts that can be laid -/
def okStrs (xs : List Str) : Prop := ∀ x ∈ xs, PyData.strOk x = true
theorem strs_canLay : ∀ {xs : List Str}, okStrs xs → PyData.canLayAll0 (pdL (xs.map .str)) = true
  | [], _ => by simp [pdL, PyData.canLayAll0]
  | x :: xs, h => by
    have h1 := strs_canLay (xs := xs) fun y hy => h y (List.mem_cons_of_mem _ hy)
    have h2 := h x List.mem_cons_self
    simp [pdL, PyData.canLayAll0, D.pd, PyData.canLay0, h1, h2]
theorem strs_depth : ∀ xs : List Str, PyData.depthAll (pdL (xs.map .str)) = 0
  | [] => by simp [pdL, PyData.depthAll]
  | x :: xs => by simp [pdL, PyData.depthAll, D.pd, PyData.depth, strs_depth xs]
theorem strs_flat : ∀ xs : List Str, flatL (xs.map .str) = true
  | [] => rfl
  | x :: xs => by simp [flatL, D.flat, strs_flat xs]
theorem eqD_str (x y : Str) : eqD (.str x) (.str y) = decide (x = y) := by
  unfold eqD
  simp only [D.pd, PyData.eqv]
  rfl
theorem inD_strs (x : Str) (ys : List Str) : inD (.str x) (ys.map .str) = decide (x ∈ ys) := by
  unfold inD
  rw [List.any_map]
  induction ys with
  | nil => simp
  | cons y ys ih =>
    rw [List.any_cons, ih]
    simp only [Function.comp, eqD_str]
    by_cases h : y = x
    · simp [h]
    · have h' : ¬ x = y := fun z => h z.symm
      simp [h, h']
theorem inOk_strs {x : Str} {ys : List Str} (hx : PyData.strOk x = true) (h : okStrs ys) : inOk (.str x) (ys.map .str) = true := by
  simp only [inOk, eqOk, SeqAt.shaped, D.flat, D.pd, PyData.canLay0, PyData.depth, strs_flat, strs_canLay h, strs_depth, hx]
  decide
theorem p_in_set {x : Str} {ys : List Str} (hx : PyData.strOk x = true) (h : okStrs ys) : prim .isIn [.str x, setD ys] = some (.bl (decide (x ∈ ys))) := by
  show p_isIn [.str x, .tup (ys.map .str)] = _
  unfold p_isIn
  simp only [inOk_strs hx h, inD_strs, if_true]
theorem p_notIn_set {x : Str} {ys : List Str} (hx : PyData.strOk x = true) (h : okStrs ys) : prim .notIn [.str x, setD ys] = some (.bl (!decide (x ∈ ys))) := by
  show p_notIn [.str x, .tup (ys.map .str)] = _
  unfold p_notIn
  simp only [inOk_strs hx h, inD_strs, if_true]
theorem p_all_bools (bs : List Bool) : prim .all [.lst (bs.map .bl)] = some (.bl (bs.all id)) := by
  have h : ∀ l : List Bool, boolsOf (l.map .bl) = some l := fun l => by
    induction l with
    | nil => rfl
    | cons b l ih => simp [boolsOf, ih]
  show p_all [.lst (bs.map .bl)] = _
  unfold p_all
  simp only [h, Option.map_some]
/-! ### what the interpreter does, as rewriting -/
@[simp] theorem op_var (cf : CF) (i : Nat) (s : S) : ev1 cf (.var i) s = evalE cf (.var i) s := by simp only [ev1]
@[simp] theorem op_con (cf : CF) (d : D) (s : S) : ev1 cf (.con d) s = evalE cf (.con d) s := by simp only [ev1]
@[simp] theorem op_glob (cf : CF) (x : Str) (d : D) (s : S) : ev1 cf (.glob x d) s = evalE cf (.glob x d) s := by simp only [ev1]
@[simp] theorem op_fnv (cf : CF) (f : Nat) (s : S) : ev1 cf (.fnv f) s = evalE cf (.fnv f) s := by simp only [ev1]
@[simp] theorem op_prim (cf : CF) (p : Prim) (es : PL) (s : S) : ev1 cf (.prim p es) s = evalE cf (.prim p es) s := by simp only [ev1]
@[simp] theorem op_tup (cf : CF) (es : PL) (s : S) : ev1 cf (.tup es) s = evalE cf (.tup es) s := by simp only [ev1]
@[simp] theorem op_lst (cf : CF) (es : PL) (s : S) : ev1 cf (.lst es) s = evalE cf (.lst es) s := by simp only [ev1]
@[simp] theorem op_sl2 (cf : CF) (a b c : PE) (s : S) : ev1 cf (.sl2 a b c) s = evalE cf (.sl2 a b c) s := by simp only [ev1]
@[simp] theorem op_meth (cf : CF) (p : Prim) (a b : PE) (s : S) : ev1 cf (.meth p a b) s = evalE cf (.meth p a b) s := by simp only [ev1]
@[simp] theorem op_tupRng (cf : CF) (a : PE) (s : S) : ev1 cf (.tupRng a) s = evalE cf (.tupRng a) s := by simp only [ev1]
@[simp] theorem op_lstRng (cf : CF) (a : PE) (s : S) : ev1 cf (.lstRng a) s = evalE cf (.lstRng a) s := by simp only [ev1]
@[simp] theorem op_fstr (cf : CF) (es : PL) (s : S) : ev1 cf (.fstr es) s = evalE cf (.fstr es) s := by simp only [ev1]
@[simp] theorem op_nt (cf : CF) (a : PE) (s : S) : ev1 cf (.nt a) s = evalE cf (.nt a) s := by simp only [ev1]
@[simp] theorem op_bop (cf : CF) (k : Bool) (es : PL) (s : S) : ev1 cf (.bop k es) s = evalE cf (.bop k es) s := by simp only [ev1]
@[simp] theorem op_ite (cf : CF) (c a b : PE) (s : S) : ev1 cf (.ite c a b) s = evalE cf (.ite c a b) s := by simp only [ev1]
@[simp] theorem op_chain (cf : CF) (o1 o2 : Prim) (a b c : PE) (s : S) : ev1 cf (.chain o1 o2 a b c) s = evalE cf (.chain o1 o2 a b c) s := by simp only [ev1]
@[simp] theorem op_call (cf : CF) (f : Nat) (es : PL) (s : S) : ev1 cf (.call f es) s = evalE cf (.call f es) s := by simp only [ev1]
@[simp] theorem op_callv (cf : CF) (e : PE) (es : PL) (s : S) : ev1 cf (.callv e es) s = evalE cf (.callv e es) s := by simp only [ev1]
@[simp] theorem op_comp (cf : CF) (elt : PE) (t : Tgt) (it : Iter) (cs : PL) (vs : List Nat) (s : S) : ev1 cf (.comp elt t it cs vs) s = evalE cf (.comp elt t it cs vs) s := by simp only [ev1]
@[simp] theorem op_peek (cf : CF) (i : Nat) (s : S) : ev1 cf (.peek i) s = rdPeek i s := by simp only [ev1]
@[simp] theorem ev_var (cf : CF) (i : Nat) (s : S) : evalE cf (.var i) s = rdVar i s := by simp only [evalE]
@[simp] theorem ev_con (cf : CF) (d : D) (s : S) : evalE cf (.con d) s = .ok d s := by simp only [evalE]
@[simp] theorem ev_glob (cf : CF) (x : Str) (d : D) (s : S) : evalE cf (.glob x d) s = .ok d s := by simp only [evalE]
@[simp] theorem ev_fnv (cf : CF) (f : Nat) (s : S) : evalE cf (.fnv f) s = .ok (.fn f) s := by simp only [evalE]
@[simp] theorem ev_prim (cf : CF) (p : Prim) (es : PL) (s : S) : evalE cf (.prim p es) s = (evalO cf es s).bind fun ds s' => toOut (prim p (ds.map (deref s'.sto))) s' := by simp only [evalE]
@[simp] theorem ev_tup (cf : CF) (es : PL) (s : S) : evalE cf (.tup es) s = (evalL cf es s).bind fun ds s' => if ds.length ≤ 1000 then .ok (.tup ds) s' else .bad := by simp only [evalE]
@[simp] theorem ev_lst (cf : CF) (es : PL) (s : S) : evalE cf (.lst es) s = (evalL cf es s).bind fun ds s' => if ds.length ≤ 1000 then .ok (.lst ds) s' else .bad := by simp only [evalE]
@[simp] theorem ev_fstr (cf : CF) (es : PL) (s : S) : evalE cf (.fstr es) s = evalF cf es Str.empty s := by simp only [evalE]
@[simp] theorem ev_bop (cf : CF) (k : Bool) (es : PL) (s : S) : evalE cf (.bop k es) s = evalB cf k es s := by simp only [evalE]
@[simp] theorem ev_call (cf : CF) (f : Nat) (es : PL) (s : S) : evalE cf (.call f es) s = (evalL cf es s).bind fun ds s' => callO cf f ds s' := by simp only [evalE]
def notR : D → S → Out D
  | .bl b, s => .ok (.bl !b) s
  | _, _ => .bad
def iteR (cf : CF) (a b : PE) : D → S → Out D
  | .bl true, s => evalE cf a s
  | .bl false, s => evalE cf b s
  | _, _ => .bad
def rngR (k : List D → D) : D → S → Out D
  | .int i, s => if 0 ≤ i ∧ i ≤ 100000 then .ok (k (rngL 0 i)) s else .bad
  | _, _ => .bad
def callR (cf : CF) (es : PL) : D → S → Out D
  | .fn f, s => (evalL cf es s).bind fun ds s' => callO cf f ds s'
  | _, _ => .bad
@[simp] theorem notR_bl (b : Bool) (s : S) : notR (.bl b) s = .ok (.bl !b) s := rfl
@[simp] theorem iteR_t (cf : CF) (a b : PE) (s : S) : iteR cf a b (.bl true) s = evalE cf a s := rfl
@[simp] theorem iteR_f (cf : CF) (a b : PE) (s : S) : iteR cf a b (.bl false) s = evalE cf b s := rfl
@[simp] theorem rngR_int (k : List D → D) (i : Int) (s : S) : rngR k (.int i) s = if 0 ≤ i ∧ i ≤ 100000 then .ok (k (rngL 0 i)) s else .bad := rfl
@[simp] theorem callR_fn (cf : CF) (es : PL) (f : Nat) (s : S) : callR cf es (.fn f) s = (evalL cf es s).bind fun ds s' => callO cf f ds s' := rfl
@[simp] theorem ev_nt (cf : CF) (a : PE) (s : S) : evalE cf (.nt a) s = (evalE cf a s).bind notR := by
  simp only [evalE]
  congr
  funext d s'
  cases d <;> rfl
@[simp] theorem ev_ite (cf : CF) (c a b : PE) (s : S) : evalE cf (.ite c a b) s = (evalE cf c s).bind (iteR cf a b) := by
  simp only [evalE]
  congr
  funext d s'
  cases d <;> first | rfl | (rename_i x; cases x <;> rfl)
@[simp] theorem ev_tupRng (cf : CF) (a : PE) (s : S) : evalE cf (.tupRng a) s = (evalE cf a s).bind (rngR .tup) := by
  simp only [evalE]
  congr
  funext d s'
  cases d <;> rfl
@[simp] theorem ev_lstRng (cf : CF) (a : PE) (s : S) : evalE cf (.lstRng a) s = (evalE cf a s).bind (rngR .lst) := by
  simp only [evalE]
  congr
  funext d s'
  cases d <;> rfl
@[simp] theorem ev_callv (cf : CF) (e : PE) (es : PL) (s : S) : evalE cf (.callv e es) s = (evalE cf e s).bind (callR cf es) := by
  simp only [evalE]
  congr
  funext d s'
  cases d <;> rfl
/-- a, b, .. of and, or -/
def bopR (cf : CF) (k : Bool) (r : PL) : D → S → Out D
  | .bl b, s => if b = k then evalB cf k r s else .ok (.bl b) s
  | _, _ => .bad
@[simp] theorem bopR_bl (cf : CF) (k : Bool) (r : PL) (b : Bool) (s : S) : bopR cf k r (.bl b) s = if b = k then evalB cf k r s else .ok (.bl b) s := rfl
@[simp] theorem evB_one (cf : CF) (k : Bool) (e : PE) (s : S) : evalB cf k (.cons e .nil) s = evalE cf e s := by simp only [evalB]
@[simp] theorem evB_cons (cf : CF) (k : Bool) (e f : PE) (r : PL) (s : S) : evalB cf k (.cons e (.cons f r)) s = (evalE cf e s).bind (bopR cf k (.cons f r)) := by
  simp only [evalB]
  congr
  funext d s'
  cases d <;> rfl
/-- a test of a clause -/
def tesR (cf : CF) (r : PL) : D → S → Out Bool
  | .bl true, s => evalC cf r s
  | .bl false, s => .ok false s
  | _, _ => .bad
@[simp] theorem tesR_t (cf : CF) (r : PL) (s : S) : tesR cf r (.bl true) s = evalC cf r s := rfl
@[simp] theorem tesR_f (cf : CF) (r : PL) (s : S) : tesR cf r (.bl false) s = .ok false s := rfl
@[simp] theorem evC_nil (cf : CF) (s : S) : evalC cf .nil s = .ok true s := by simp only [evalC]
@[simp] theorem evC_cons (cf : CF) (e : PE) (r : PL) (s : S) : evalC cf (.cons e r) s = (evalE cf e s).bind (tesR cf r) := by
  simp only [evalC]
  congr
  funext d s'
  cases d <;> first | rfl | (rename_i x; cases x <;> rfl)
@[simp] theorem evL_nil (cf : CF) (s : S) : evalL cf .nil s = .ok [] s := evalL_nil cf s
@[simp] theorem evL_cons (cf : CF) (e : PE) (r : PL) (s : S) : evalL cf (.cons e r) s = (evalE cf e s).bind fun d s' => (evalL cf r s').bind fun ds s'' => .ok (d :: ds) s'' := evalL_cons cf e r s
@[simp] theorem evO_nil (cf : CF) (s : S) : evalO cf .nil s = .ok [] s := evalO_nil cf s
@[simp] theorem evO_cons (cf : CF) (e : PE) (r : PL) (s : S) : evalO cf (.cons e r) s = (ev1 cf e s).bind fun d s' => (evalO cf r s').bind fun ds s'' => .ok (d :: ds) s'' := evalO_cons cf e r s
@[simp] theorem toOut_some (d : D) (s : S) : toOut (some d) s = .ok d s := rfl
@[simp] theorem toOut_none (s : S) : toOut none s = .bad := rfl
@[simp] theorem ofOpt_some {α : Type} (s : S) (f : S → Out α) : ofOpt (some s) f = f s := rfl
@[simp] theorem ofOpt_none {α : Type} (f : S → Out α) : ofOpt none f = .bad := rfl
/-! ### statements -/
def ifR (cf : CF) (wf : Nat) (a b : PB) : D → S → Out Fl
  | .bl true, s => evalSs cf wf a s
  | .bl false, s => evalSs cf wf b s
  | _, _ => .bad
@[simp] theorem ifR_t (cf : CF) (wf : Nat) (a b : PB) (s : S) : ifR cf wf a b (.bl true) s = evalSs cf wf a s := rfl
@[simp] theorem ifR_f (cf : CF) (wf : Nat) (a b : PB) (s : S) : ifR cf wf a b (.bl false) s = evalSs cf wf b s := rfl
def seqR (cf : CF) (wf : Nat) (r : PB) : Fl → S → Out Fl
  | .nx, s => evalSs cf wf r s
  | f, s => .ok f s
@[simp] theorem seqR_nx (cf : CF) (wf : Nat) (r : PB) (s : S) : seqR cf wf r .nx s = evalSs cf wf r s := rfl
@[simp] theorem seqR_ret (cf : CF) (wf : Nat) (r : PB) (d : D) (s : S) : seqR cf wf r (.ret d) s = .ok (.ret d) s := rfl
@[simp] theorem seqR_brk (cf : CF) (wf : Nat) (r : PB) (s : S) : seqR cf wf r .brk s = .ok .brk s := rfl
@[simp] theorem seqR_cnt (cf : CF) (wf : Nat) (r : PB) (s : S) : seqR cf wf r .cnt s = .ok .cnt s := rfl
@[simp] theorem ss_nil' (cf : CF) (wf : Nat) (s : S) : evalSs cf wf .nil s = .ok .nx s := by simp only [evalSs]
@[simp] theorem ss_cons' (cf : CF) (wf : Nat) (a : PS) (r : PB) (s : S) : evalSs cf wf (.cons a r) s = (evalS cf wf a s).bind (seqR cf wf r) := by
  simp only [evalSs]
  congr
  funext f s'
  cases f <;> rfl
@[simp] theorem st_set (cf : CF) (wf : Nat) (t : Tgt) (e : PE) (s : S) : evalS cf wf (.set t e) s = (evalE cf e s).bind fun d s' => ofOpt (assign t d s') fun s'' => .ok .nx s'' := by simp only [evalS]
@[simp] theorem st_if (cf : CF) (wf : Nat) (c : PE) (a b : PB) (s : S) : evalS cf wf (.ife c a b) s = (evalE cf c s).bind (ifR cf wf a b) := by
  simp only [evalS]
  congr
  funext d s'
  cases d <;> first | rfl | (rename_i x; cases x <;> rfl)
@[simp] theorem st_ret (cf : CF) (wf : Nat) (e : PE) (s : S) : evalS cf wf (.ret e) s = (evalE cf e s).bind fun d s' => .ok (.ret d) s' := by simp only [evalS]
@[simp] theorem st_retn (cf : CF) (wf : Nat) (s : S) : evalS cf wf .retn s = .ok (.ret .non) s := by simp only [evalS]
@[simp] theorem st_rais (cf : CF) (wf : Nat) (c : Nat) (s : S) : evalS cf wf (.rais c) s = .exc c s.sto := by simp only [evalS]
@[simp] theorem st_expr (cf : CF) (wf : Nat) (e : PE) (s : S) : evalS cf wf (.expr e) s = (evalE cf e s).bind fun _ s' => .ok .nx s' := by simp only [evalS]
@[simp] theorem st_brk (cf : CF) (wf : Nat) (s : S) : evalS cf wf .brk s = .ok .brk s := by simp only [evalS]
@[simp] theorem st_cnt (cf : CF) (wf : Nat) (s : S) : evalS cf wf .cnt s = .ok .cnt s := by simp only [evalS]
@[simp] theorem st_pas (cf : CF) (wf : Nat) (s : S) : evalS cf wf .pas s = .ok .nx s := by simp only [evalS]
@[simp] theorem runRes_ret (d : D) (s : S) : runRes (.ok (.ret d) s) = .ok d s.sto := rfl
@[simp] theorem runRes_nx (s : S) : runRes (.ok .nx s) = .ok .non s.sto := rfl
@[simp] theorem runRes_exc (c : Nat) (t : Sto) : runRes (.exc c t) = .exc c t := rfl
@[simp] theorem deref_str (t : Sto) (x : Str) : deref t (.str x) = .str x := rfl
@[simp] theorem deref_int (t : Sto) (x : Int) : deref t (.int x) = .int x := rfl
@[simp] theorem deref_bl (t : Sto) (x : Bool) : deref t (.bl x) = .bl x := rfl
@[simp] theorem deref_non (t : Sto) : deref t .non = .non := rfl
@[simp] theorem deref_tup (t : Sto) (x : List D) : deref t (.tup x) = .tup x := rfl
@[simp] theorem deref_lst (t : Sto) (x : List D) : deref t (.lst x) = .lst x := rfl
@[simp] theorem deref_fn (t : Sto) (x : Nat) : deref t (.fn x) = .fn x := rfl
@[simp] theorem deref_scr (t : Sto) (x : List Int) : deref t (.scr x) = .scr x := rfl
@[simp] theorem deref_set (t : Sto) (x : List Str) : deref t (setD x) = setD x := rfl
theorem p_all_map {α : Type} (l : List α) (g : α → Bool) : prim .all [.lst (l.map fun x => .bl (g x))] = some (.bl (l.all g)) := by
  have e : (l.map fun x => D.bl (g x)) = (l.map g).map .bl := by rw [List.map_map]; rfl
  rw [e, p_all_bools, List.all_map]
  rfl
theorem filterMap_some {α : Type} (f : α → D) (g : D → Option D) (h : α → D) (hg : ∀ x, g (f x) = some (h x)) (l : List α) : (l.map f).filterMap g = l.map h := by
  rw [List.filterMap_map]
  induction l with
  | nil => rfl
  | cons x l ih => rw [List.filterMap_cons, Function.comp, hg x, List.map_cons, ih]
/-! ### loops -/
@[simp] theorem st_whl (cf : CF) (wf : Nat) (c : PE) (b : PB) (s : S) : evalS cf wf (.whl c b) s = whileN (evalE cf c) (evalSs cf wf b) wf s := by simp only [evalS]
@[simp] theorem st_forr (cf : CF) (wf : Nat) (t : Tgt) (it : Iter) (b : PB) (s : S) : evalS cf wf (.forr t it b) s = (evalI cf it s).bind fun xs s1 => forLoop (fun d s2 => ofOpt (assign t d s2) fun s3 => evalSs cf wf b s3) xs s1 := by simp only [evalS]
/-- a loop that runs through, by what it makes of a -/
theorem forLoop_fold {α : Type} {f : D → S → Out Fl} (emb : α → S) (g : α → D → α) (P : α → Prop) : ∀ (xs : List D) (a : α), P a → (∀ x ∈ xs, ∀ a, P a → f x (emb a) = .ok .nx (emb (g a x)) ∧ P (g a x)) → forLoop f xs (emb a) = .ok .nx (emb (xs.foldl g a)) ∧ P (xs.foldl g a)
  | [], a, h, _ => ⟨rfl, h⟩
  | x :: r, a, h, k => by
    obtain ⟨e1, h1⟩ := k x List.mem_cons_self a h
    obtain ⟨e2, h2⟩ := forLoop_fold emb g P r (g a x) h1 fun y hy => k y (List.mem_cons_of_mem _ hy)
    refine ⟨?_, h2⟩
    rw [forLoop, e1]
    simp only [bind_ok]
    rw [e2]
    rfl
theorem whileN_step {c : S → Out D} {b : S → Out Fl} {n : Nat} {s s1 s2 : S} (h1 : c s = .ok (.bl true) s1) (h2 : b s1 = .ok .nx s2) : whileN c b (n + 1) s = whileN c b n s2 := by
  rw [whileN, h1]
  simp only [bind_ok]
  rw [h2]
  rfl
theorem whileN_done {c : S → Out D} {b : S → Out Fl} {n : Nat} {s s1 : S} (h1 : c s = .ok (.bl false) s1) : whileN c b (n + 1) s = .ok .nx s1 := by
  rw [whileN, h1]
  rfl
@[simp] theorem evI_seq (cf : CF) (p : PE) (s : S) : evalI cf (.seq p) s = (ev1 cf p s).bind fun d s' => match itemsOf d with
    | some xs => .ok xs s'
    | none => .bad := evalI_seq cf p s
@[simp] theorem items_set (xs : List Str) : itemsOf (setD xs) = some (xs.map .str) := rfl
end MP
end
section
set_option Elab.async false
set_option linter.all false
set_option maxRecDepth 100000
set_option maxHeartbeats 0
namespace K74
open PySem PySem.Spec PyProof.Rows L2 MP MPH
def top (i : Nat) : Stmt := PySem.Challenge.pw_menagerie_k74_whole_shares_and_likeness.main.body.getD i (.Pass ⟨0, 0, 0, 0⟩)
def b_is_name : PB := (.cons (.ife (.bop false (.cons (.prim .lt (.cons (.prim .len (.cons (.var 0) .nil)) (.cons (.con (.int 1)) .nil))) (.cons (.prim .gt (.cons (.prim .len (.cons (.var 0) .nil)) (.cons (.con (.int 12)) .nil))) (.cons (.prim .eq (.cons (.var 0) (.cons (.con (.str "any")) .nil))) (.cons (.prim .notIn (.cons (.prim .item (.cons (.var 0) (.cons (.con (.int 0)) .nil))) (.cons (.glob "FIRST" (.str "abcdefghijklmnopqrstuvwxyz")) .nil))) .nil))))) (.cons (.ret (.con (.bl false))) .nil) .nil) (.cons (.ret (.prim .all (.cons (.comp (.prim .isIn (.cons (.var 1) (.cons (.glob "SIGNS" (.str "abcdefghijklmnopqrstuvwxyz0123456789")) .nil))) (.nm 1) (.seq (.var 0)) .nil [1]) .nil))) .nil))
def b_measured : PB := (.cons (.set (.nm 1) (.prim .len (.cons (.prim .item (.cons (.var 0) (.cons (.con (.int 0)) .nil))) .nil))) (.cons (.set (.nm 2) (.con (.int 0))) (.cons (.forr (.tp [(.nm 3), (.nm 4)]) (.seq (.prim .item (.cons (.var 0) (.cons (.con (.int 1)) .nil)))) (.cons (.set (.tp [(.nm 5), (.nm 6)]) (.call 1 (.cons (.var 4) .nil))) (.cons (.aug 1 .add (.prim .add (.cons (.con (.int 1)) (.cons (.var 5) .nil)))) (.cons (.set (.nm 2) (.prim .max2 (.cons (.var 2) (.cons (.prim .add (.cons (.con (.int 1)) (.cons (.var 6) .nil))) .nil)))) .nil)))) (.cons (.ret (.tup (.cons (.var 1) (.cons (.var 2) .nil)))) .nil))))
def b_rising : PB := (.cons (.ret (.prim .all (.cons (.comp (.prim .lt (.cons (.prim .item (.cons (.var 0) (.cons (.var 1) .nil))) (.cons (.prim .item (.cons (.var 0) (.cons (.prim .add (.cons (.var 1) (.cons (.con (.int 1)) .nil))) .nil))) .nil))) (.nm 1) (.rng1 (.prim .sub (.cons (.prim .len (.cons (.var 0) .nil)) (.cons (.con (.int 1)) .nil)))) .nil [1]) .nil))) .nil)
def b_well_formed : PB := (.cons (.set (.tp [(.nm 1), (.nm 2)]) (.var 0)) (.cons (.ife (.bop false (.cons (.nt (.prim .all (.cons (.comp (.call 0 (.cons (.var 5) .nil)) (.nm 5) (.seq (.var 1)) .nil [5]) .nil))) (.cons (.nt (.call 2 (.cons (.var 1) .nil))) .nil))) (.cons (.ret (.con (.bl false))) .nil) .nil) (.cons (.forr (.tp [(.nm 3), (.nm 4)]) (.seq (.var 2)) (.cons (.ife (.bop false (.cons (.nt (.call 0 (.cons (.var 3) .nil))) (.cons (.nt (.call 3 (.cons (.var 4) .nil))) .nil))) (.cons (.ret (.con (.bl false))) .nil) .nil) .nil)) (.cons (.ret (.call 2 (.cons (.var 2) .nil))) .nil))))
def b_check_concept : PB := (.cons (.set (.tp [(.nm 1), (.nm 2)]) (.call 1 (.cons (.var 0) .nil))) (.cons (.ife (.bop false (.cons (.prim .gt (.cons (.var 1) (.cons (.glob "MAX_SIZE" (.int (200))) .nil))) (.cons (.prim .gt (.cons (.var 2) (.cons (.glob "MAX_DEPTH" (.int (12))) .nil))) .nil))) (.cons (.rais 1) .nil) .nil) (.cons (.ife (.nt (.call 3 (.cons (.var 0) .nil))) (.cons (.rais 0) .nil) .nil) (.cons (.ret (.con .non)) .nil))))
def b_lies : PB := (.cons (.forr (.nm 2) (.seq (.prim .item (.cons (.var 1) (.cons (.con (.int 0)) .nil)))) (.cons (.ife (.prim .notIn (.cons (.var 2) (.cons (.prim .item (.cons (.var 0) (.cons (.con (.int 0)) .nil))) .nil))) (.cons (.ret (.con (.bl false))) .nil) .nil) .nil)) (.cons (.forr (.tp [(.nm 3), (.nm 4)]) (.seq (.prim .item (.cons (.var 1) (.cons (.con (.int 1)) .nil)))) (.cons (.ife (.nt (.prim .any (.cons (.comp (.bop true (.cons (.prim .eq (.cons (.var 5) (.cons (.var 3) .nil))) (.cons (.call 5 (.cons (.var 6) (.cons (.var 4) .nil))) .nil))) (.tp [(.nm 5), (.nm 6)]) (.seq (.prim .item (.cons (.var 0) (.cons (.con (.int 1)) .nil)))) .nil [5, 6]) .nil))) (.cons (.ret (.con (.bl false))) .nil) .nil) .nil)) (.cons (.ret (.con (.bl true))) .nil)))
def b_leaned : PB := (.cons (.own 1 (.lst .nil)) (.cons (.forr (.tp [(.nm 3), (.nm 4)]) (.seq (.prim .item (.cons (.var 0) (.cons (.con (.int 1)) .nil)))) (.cons (.set (.nm 5) (.tup (.cons (.var 3) (.cons (.call 6 (.cons (.var 4) .nil)) .nil)))) (.cons (.ife (.prim .notIn (.cons (.var 5) (.cons (.peek 1) .nil))) (.cons (.app 1 (.var 5)) .nil) .nil) .nil))) (.cons (.own 2 (.lst .nil)) (.cons (.forr (.tp [(.nm 6), (.tp [(.nm 3), (.nm 4)])]) (.enum (.var 1)) (.cons (.set (.nm 7) (.con (.bl false))) (.cons (.forr (.tp [(.nm 8), (.tp [(.nm 9), (.nm 10)])]) (.enum (.var 1)) (.cons (.ife (.bop true (.cons (.prim .ne (.cons (.var 8) (.cons (.var 6) .nil))) (.cons (.prim .eq (.cons (.var 9) (.cons (.var 3) .nil))) (.cons (.call 5 (.cons (.var 10) (.cons (.var 4) .nil))) .nil)))) (.cons (.set (.nm 7) (.con (.bl true))) (.cons .brk .nil)) .nil) .nil)) (.cons (.ife (.nt (.var 7)) (.cons (.app 2 (.tup (.cons (.var 3) (.cons (.var 4) .nil)))) .nil) .nil) .nil)))) (.cons (.ret (.tup (.cons (.prim .item (.cons (.var 0) (.cons (.con (.int 0)) .nil))) (.cons (.prim .tuple (.cons (.prim .sorted (.cons (.peek 2) .nil)) .nil)) .nil)))) .nil)))))
def b_lowest : PB := (.cons (.set (.nm 2) (.prim .gcd (.cons (.var 0) (.cons (.var 1) .nil)))) (.cons (.ret (.tup (.cons (.prim .fdiv (.cons (.var 0) (.cons (.var 2) .nil))) (.cons (.prim .fdiv (.cons (.var 1) (.cons (.var 2) .nil))) .nil)))) .nil))
def b_is_more : PB := (.cons (.ret (.prim .gt (.cons (.prim .mul (.cons (.prim .item (.cons (.var 0) (.cons (.con (.int 0)) .nil))) (.cons (.prim .item (.cons (.var 1) (.cons (.con (.int 1)) .nil))) .nil))) (.cons (.prim .mul (.cons (.prim .item (.cons (.var 1) (.cons (.con (.int 0)) .nil))) (.cons (.prim .item (.cons (.var 0) (.cons (.con (.int 1)) .nil))) .nil))) .nil)))) .nil)
def b_met_by : PB := (.cons (.set (.nm 2) (.prim .add (.cons (.prim .len (.cons (.prim .item (.cons (.var 1) (.cons (.con (.int 0)) .nil))) .nil)) (.cons (.prim .len (.cons (.prim .item (.cons (.var 1) (.cons (.con (.int 1)) .nil))) .nil)) .nil)))) (.cons (.ife (.prim .eq (.cons (.var 2) (.cons (.con (.int 0)) .nil))) (.cons (.ret (.tup (.cons (.con (.int 1)) (.cons (.con (.int 1)) .nil)))) .nil) .nil) (.cons (.set (.nm 3) (.tup (.cons (.prim .len (.cons (.comp (.var 11) (.nm 11) (.seq (.prim .item (.cons (.var 1) (.cons (.con (.int 0)) .nil)))) (.cons (.prim .isIn (.cons (.var 11) (.cons (.prim .item (.cons (.var 0) (.cons (.con (.int 0)) .nil))) .nil))) .nil) [11]) .nil)) (.cons (.con (.int 1)) .nil)))) (.cons (.forr (.tp [(.nm 4), (.nm 5)]) (.seq (.prim .item (.cons (.var 1) (.cons (.con (.int 1)) .nil)))) (.cons (.set (.nm 6) (.tup (.cons (.con (.int 0)) (.cons (.con (.int 1)) .nil)))) (.cons (.forr (.tp [(.nm 7), (.nm 8)]) (.seq (.prim .item (.cons (.var 0) (.cons (.con (.int 1)) .nil)))) (.cons (.ife (.prim .eq (.cons (.var 7) (.cons (.var 4) .nil))) (.cons (.set (.nm 9) (.call 9 (.cons (.var 8) (.cons (.var 5) .nil)))) (.cons (.set (.nm 10) (.call 7 (.cons (.prim .add (.cons (.prim .item (.cons (.var 9) (.cons (.con (.int 0)) .nil))) (.cons (.prim .item (.cons (.var 9) (.cons (.con (.int 1)) .nil))) .nil))) (.cons (.prim .mul (.cons (.con (.int 2)) (.cons (.prim .item (.cons (.var 9) (.cons (.con (.int 1)) .nil))) .nil))) .nil)))) (.cons (.ife (.call 8 (.cons (.var 10) (.cons (.var 6) .nil))) (.cons (.set (.nm 6) (.var 10)) .nil) .nil) .nil))) .nil) .nil)) (.cons (.set (.nm 3) (.call 7 (.cons (.prim .add (.cons (.prim .mul (.cons (.prim .item (.cons (.var 3) (.cons (.con (.int 0)) .nil))) (.cons (.prim .item (.cons (.var 6) (.cons (.con (.int 1)) .nil))) .nil))) (.cons (.prim .mul (.cons (.prim .item (.cons (.var 6) (.cons (.con (.int 0)) .nil))) (.cons (.prim .item (.cons (.var 3) (.cons (.con (.int 1)) .nil))) .nil))) .nil))) (.cons (.prim .mul (.cons (.prim .item (.cons (.var 3) (.cons (.con (.int 1)) .nil))) (.cons (.prim .item (.cons (.var 6) (.cons (.con (.int 1)) .nil))) .nil))) .nil)))) .nil)))) (.cons (.ret (.call 7 (.cons (.prim .item (.cons (.var 3) (.cons (.con (.int 0)) .nil))) (.cons (.prim .mul (.cons (.prim .item (.cons (.var 3) (.cons (.con (.int 1)) .nil))) (.cons (.var 2) .nil))) .nil)))) .nil)))))
def b_met_share : PB := (.cons (.expr (.call 4 (.cons (.var 0) .nil))) (.cons (.expr (.call 4 (.cons (.var 1) .nil))) (.cons (.ret (.call 9 (.cons (.call 6 (.cons (.var 0) .nil)) (.cons (.call 6 (.cons (.var 1) .nil)) .nil)))) .nil)))
def b_like_by : PB := (.cons (.set (.nm 2) (.call 9 (.cons (.var 0) (.cons (.var 1) .nil)))) (.cons (.set (.nm 3) (.call 9 (.cons (.var 1) (.cons (.var 0) .nil)))) (.cons (.ret (.call 7 (.cons (.prim .add (.cons (.prim .mul (.cons (.prim .item (.cons (.var 2) (.cons (.con (.int 0)) .nil))) (.cons (.prim .item (.cons (.var 3) (.cons (.con (.int 1)) .nil))) .nil))) (.cons (.prim .mul (.cons (.prim .item (.cons (.var 3) (.cons (.con (.int 0)) .nil))) (.cons (.prim .item (.cons (.var 2) (.cons (.con (.int 1)) .nil))) .nil))) .nil))) (.cons (.prim .mul (.cons (.prim .mul (.cons (.con (.int 2)) (.cons (.prim .item (.cons (.var 2) (.cons (.con (.int 1)) .nil))) .nil))) (.cons (.prim .item (.cons (.var 3) (.cons (.con (.int 1)) .nil))) .nil))) .nil)))) .nil)))
def b_likeness : PB := (.cons (.expr (.call 4 (.cons (.var 0) .nil))) (.cons (.expr (.call 4 (.cons (.var 1) .nil))) (.cons (.ret (.call 11 (.cons (.call 6 (.cons (.var 0) .nil)) (.cons (.call 6 (.cons (.var 1) .nil)) .nil)))) .nil)))
def b_law_same : PB := (.cons (.ret (.prim .eq (.cons (.prim .repr (.cons (.lst (.cons (.var 0) .nil)) .nil)) (.cons (.prim .repr (.cons (.lst (.cons (.var 1) .nil)) .nil)) .nil)))) .nil)
def b_law_stream : PB := (.cons (.own 1 (.lst .nil)) (.cons (.forr (.nm 2) (.seq (.prim .sl01 (.cons (.var 0) (.cons (.con (.int 63)) .nil)))) (.cons (.set (.nm 3) (.prim .abs (.cons (.prim .int1 (.cons (.var 2) .nil)) .nil))) (.cons (.ife (.prim .ge (.cons (.var 3) (.cons (.prim .pow (.cons (.con (.int 10)) (.cons (.con (.int 18)) .nil))) .nil))) (.cons (.forr (.nm 4) (.rng1 (.con (.int 60))) (.cons (.app 1 (.prim .mod (.cons (.prim .int1 (.cons (.var 3) .nil)) (.cons (.con (.int 1009)) .nil)))) (.cons (.set (.nm 3) (.prim .fdiv (.cons (.var 3) (.cons (.con (.int 1009)) .nil)))) (.cons (.ife (.prim .eq (.cons (.var 3) (.cons (.con (.int 0)) .nil))) (.cons .brk .nil) .nil) .nil)))) .nil) (.cons (.set (.nm 5) (.prim .mod (.cons (.prim .int1 (.cons (.var 3) .nil)) (.cons (.con (.int 2147483647)) .nil)))) (.cons (.forr (.nm 4) (.rng1 (.con (.int 10))) (.cons (.set (.nm 5) (.prim .mod (.cons (.prim .int1 (.cons (.prim .add (.cons (.prim .add (.cons (.prim .mul (.cons (.var 5) (.cons (.con (.int 48271)) .nil))) (.cons (.prim .mul (.cons (.con (.int 7)) (.cons (.var 4) .nil))) .nil))) (.cons (.con (.int 11)) .nil))) .nil)) (.cons (.con (.int 2147483647)) .nil)))) (.cons (.app 1 (.prim .mod (.cons (.prim .mod (.cons (.prim .int1 (.cons (.prim .add (.cons (.prim .mul (.cons (.var 5) (.cons (.con (.int 69621)) .nil))) (.cons (.var 4) .nil))) .nil)) (.cons (.con (.int 2147483629)) .nil))) (.cons (.con (.int 1009)) .nil)))) .nil))) .nil))) .nil))) (.cons (.ife (.prim .eq (.cons (.prim .len (.cons (.peek 1) .nil)) (.cons (.con (.int 0)) .nil))) (.cons (.app 1 (.con (.int 0))) .nil) .nil) (.cons (.ret (.var 1)) .nil))))
def b_law_next : PB := (.cons (.setc (.var 0) (.con (.int 1)) (.prim .add (.cons (.prim .item (.cons (.var 0) (.cons (.con (.int 1)) .nil))) (.cons (.con (.int 1)) .nil)))) (.cons (.set (.nm 2) (.prim .fdiv (.cons (.prim .item (.cons (.var 0) (.cons (.con (.int 1)) .nil))) (.cons (.prim .len (.cons (.prim .item (.cons (.var 0) (.cons (.con (.int 0)) .nil))) .nil)) .nil)))) (.cons (.ret (.prim .mod (.cons (.prim .int1 (.cons (.prim .add (.cons (.prim .add (.cons (.prim .item (.cons (.prim .item (.cons (.var 0) (.cons (.con (.int 0)) .nil))) (.cons (.prim .mod (.cons (.prim .item (.cons (.var 0) (.cons (.con (.int 1)) .nil))) (.cons (.prim .len (.cons (.prim .item (.cons (.var 0) (.cons (.con (.int 0)) .nil))) .nil)) .nil))) .nil))) (.cons (.prim .mul (.cons (.var 2) (.cons (.con (.int 389)) .nil))) .nil))) (.cons (.prim .mul (.cons (.prim .mul (.cons (.prim .item (.cons (.var 0) (.cons (.con (.int 1)) .nil))) (.cons (.var 2) .nil))) (.cons (.con (.int 17)) .nil))) .nil))) .nil)) (.cons (.var 1) .nil)))) .nil)))
def b_law_word : PB := (.cons (.set (.nm 1) (.con (.str "abcdefghijklmnopqrstuvwxyz"))) (.cons (.set (.nm 2) (.prim .item (.cons (.var 1) (.cons (.call 15 (.cons (.var 0) (.cons (.con (.int 26)) .nil))) .nil)))) (.cons (.forr (.nm 3) (.rng1 (.prim .item (.cons (.lst (.cons (.con (.int 0)) (.cons (.con (.int 1)) (.cons (.con (.int 3)) (.cons (.con (.int 11)) .nil))))) (.cons (.call 15 (.cons (.var 0) (.cons (.con (.int 4)) .nil))) .nil)))) (.cons (.set (.nm 2) (.prim .add (.cons (.var 2) (.cons (.prim .item (.cons (.prim .add (.cons (.var 1) (.cons (.con (.str "0123456789")) .nil))) (.cons (.call 15 (.cons (.var 0) (.cons (.con (.int 36)) .nil))) .nil))) .nil)))) .nil)) (.cons (.ret (.var 2)) .nil))))
def b_law_texts : PB := (.cons (.own 2 (.lst .nil)) (.cons (.forr (.nm 3) (.rng1 (.var 1)) (.cons (.set (.nm 4) (.call 16 (.cons (.var 0) .nil))) (.cons (.ife (.bop false (.cons (.prim .isIn (.cons (.var 4) (.cons (.peek 2) .nil))) (.cons (.prim .eq (.cons (.var 4) (.cons (.con (.str "any")) .nil))) .nil))) (.cons (.set (.nm 4) (.prim .add (.cons (.prim .add (.cons (.prim .sl01 (.cons (.var 4) (.cons (.con (.int 8)) .nil))) (.cons (.con (.str "q")) .nil))) (.cons (.prim .str1 (.cons (.var 3) .nil)) .nil)))) .nil) .nil) (.cons (.ife (.prim .notIn (.cons (.var 4) (.cons (.peek 2) .nil))) (.cons (.app 2 (.var 4)) .nil) .nil) .nil)))) (.cons (.ret (.prim .tuple (.cons (.prim .sorted (.cons (.peek 2) .nil)) .nil))) .nil)))
def b_law_concept : PB := (.cons (.set (.nm 4) (.comp (.var 7) (.nm 7) (.seq (.prim .item (.cons (.var 1) (.cons (.con (.int 0)) .nil)))) (.cons (.prim .eq (.cons (.call 15 (.cons (.var 0) (.cons (.con (.int 3)) .nil))) (.cons (.con (.int 0)) .nil))) .nil) [7])) (.cons (.own 5 (.lst .nil)) (.cons (.ife (.bop true (.cons (.prim .gt (.cons (.var 2) (.cons (.con (.int 0)) .nil))) (.cons (.prim .gt (.cons (.prim .len (.cons (.prim .item (.cons (.var 1) (.cons (.con (.int 1)) .nil))) .nil)) (.cons (.con (.int 0)) .nil))) .nil))) (.cons (.forr (.nm 6) (.rng1 (.call 15 (.cons (.var 0) (.cons (.prim .add (.cons (.var 3) (.cons (.con (.int 1)) .nil))) .nil)))) (.cons (.set (.nm 8) (.prim .item (.cons (.prim .item (.cons (.var 1) (.cons (.con (.int 1)) .nil))) (.cons (.call 15 (.cons (.var 0) (.cons (.prim .len (.cons (.prim .item (.cons (.var 1) (.cons (.con (.int 1)) .nil))) .nil)) .nil))) .nil)))) (.cons (.set (.nm 9) (.tup (.cons (.var 8) (.cons (.call 18 (.cons (.var 0) (.cons (.var 1) (.cons (.prim .sub (.cons (.var 2) (.cons (.con (.int 1)) .nil))) (.cons (.var 3) .nil))))) .nil)))) (.cons (.ife (.prim .notIn (.cons (.var 9) (.cons (.peek 5) .nil))) (.cons (.app 5 (.var 9)) .nil) .nil) .nil)))) .nil) .nil) (.cons (.ret (.tup (.cons (.prim .tuple (.cons (.var 4) .nil)) (.cons (.prim .tuple (.cons (.prim .sorted (.cons (.peek 5) .nil)) .nil)) .nil)))) .nil))))
def b_law_lies : PB := (.cons (.ife (.nt (.prim .all (.cons (.comp (.prim .isIn (.cons (.var 4) (.cons (.prim .item (.cons (.var 0) (.cons (.con (.int 0)) .nil))) .nil))) (.nm 4) (.seq (.prim .item (.cons (.var 1) (.cons (.con (.int 0)) .nil)))) .nil [4]) .nil))) (.cons (.ret (.con (.bl false))) .nil) .nil) (.cons (.forr (.tp [(.nm 2), (.nm 3)]) (.seq (.prim .item (.cons (.var 1) (.cons (.con (.int 1)) .nil)))) (.cons (.ife (.nt (.prim .any (.cons (.comp (.bop true (.cons (.prim .eq (.cons (.var 5) (.cons (.var 2) .nil))) (.cons (.call 19 (.cons (.var 6) (.cons (.var 3) .nil))) .nil))) (.tp [(.nm 5), (.nm 6)]) (.seq (.prim .item (.cons (.var 0) (.cons (.con (.int 1)) .nil)))) .nil [5, 6]) .nil))) (.cons (.ret (.con (.bl false))) .nil) .nil) .nil)) (.cons (.ret (.con (.bl true))) .nil)))
def b_law_lean : PB := (.cons (.own 1 (.lst .nil)) (.cons (.forr (.tp [(.nm 4), (.nm 5)]) (.seq (.prim .item (.cons (.var 0) (.cons (.con (.int 1)) .nil)))) (.cons (.set (.nm 6) (.tup (.cons (.var 4) (.cons (.call 20 (.cons (.var 5) .nil)) .nil)))) (.cons (.ife (.prim .notIn (.cons (.var 6) (.cons (.peek 1) .nil))) (.cons (.app 1 (.var 6)) .nil) .nil) .nil))) (.cons (.own 2 (.lst .nil)) (.cons (.forr (.nm 3) (.rng1 (.prim .len (.cons (.peek 1) .nil))) (.cons (.set (.tp [(.nm 4), (.nm 5)]) (.prim .item (.cons (.peek 1) (.cons (.var 3) .nil)))) (.cons (.ife (.nt (.prim .any (.cons (.comp (.bop true (.cons (.prim .ne (.cons (.var 7) (.cons (.tup (.cons (.var 4) (.cons (.var 5) .nil))) .nil))) (.cons (.prim .eq (.cons (.prim .item (.cons (.var 7) (.cons (.con (.int 0)) .nil))) (.cons (.var 4) .nil))) (.cons (.call 19 (.cons (.prim .item (.cons (.var 7) (.cons (.con (.int 1)) .nil))) (.cons (.var 5) .nil))) .nil)))) (.nm 7) (.seq (.peek 1)) .nil [7]) .nil))) (.cons (.app 2 (.prim .item (.cons (.peek 1) (.cons (.var 3) .nil)))) .nil) .nil) .nil))) (.cons (.ret (.tup (.cons (.prim .item (.cons (.var 0) (.cons (.con (.int 0)) .nil))) (.cons (.prim .tuple (.cons (.prim .sorted (.cons (.peek 2) .nil)) .nil)) .nil)))) .nil)))))
def b_law_measure : PB := (.cons (.set (.nm 1) (.prim .len (.cons (.prim .item (.cons (.var 0) (.cons (.con (.int 0)) .nil))) .nil))) (.cons (.set (.nm 2) (.con (.int 0))) (.cons (.forr (.tp [(.nm 3), (.nm 4)]) (.seq (.prim .item (.cons (.var 0) (.cons (.con (.int 1)) .nil)))) (.cons (.set (.nm 5) (.call 21 (.cons (.var 4) .nil))) (.cons (.set (.nm 1) (.prim .add (.cons (.prim .add (.cons (.var 1) (.cons (.con (.int 1)) .nil))) (.cons (.prim .item (.cons (.var 5) (.cons (.con (.int 0)) .nil))) .nil)))) (.cons (.set (.nm 2) (.prim .max2 (.cons (.var 2) (.cons (.prim .add (.cons (.con (.int 1)) (.cons (.prim .item (.cons (.var 5) (.cons (.con (.int 1)) .nil))) .nil))) .nil)))) .nil)))) (.cons (.ret (.tup (.cons (.var 1) (.cons (.var 2) .nil)))) .nil))))
def b_law_together : PB := (.cons (.own 2 (.lst .nil)) (.cons (.forr (.nm 3) (.seq (.prim .add (.cons (.prim .item (.cons (.var 0) (.cons (.con (.int 1)) .nil))) (.cons (.prim .item (.cons (.var 1) (.cons (.con (.int 1)) .nil))) .nil)))) (.cons (.ife (.prim .notIn (.cons (.var 3) (.cons (.peek 2) .nil))) (.cons (.app 2 (.var 3)) .nil) .nil) .nil)) (.cons (.ret (.tup (.cons (.prim .tuple (.cons (.prim .sortedSet (.cons (.prim .add (.cons (.prim .item (.cons (.var 0) (.cons (.con (.int 0)) .nil))) (.cons (.prim .item (.cons (.var 1) (.cons (.con (.int 0)) .nil))) .nil))) .nil)) .nil)) (.cons (.prim .tuple (.cons (.prim .sorted (.cons (.peek 2) .nil)) .nil)) .nil)))) .nil)))
def b_law_gcd : PB := (.cons (.forr (.nm 2) (.rng1 (.con (.int 4000))) (.cons (.ife (.prim .eq (.cons (.var 1) (.cons (.con (.int 0)) .nil))) (.cons .brk .nil) .nil) (.cons (.set (.tp [(.nm 0), (.nm 1)]) (.tup (.cons (.var 1) (.cons (.prim .mod (.cons (.prim .int1 (.cons (.var 0) .nil)) (.cons (.var 1) .nil))) .nil)))) .nil))) (.cons (.ret (.var 0)) .nil))
def b_law_low : PB := (.cons (.set (.nm 2) (.call 23 (.cons (.prim .abs (.cons (.var 0) .nil)) (.cons (.prim .abs (.cons (.var 1) .nil)) .nil)))) (.cons (.ret (.tup (.cons (.prim .fdiv (.cons (.var 0) (.cons (.var 2) .nil))) (.cons (.prim .fdiv (.cons (.var 1) (.cons (.var 2) .nil))) .nil)))) .nil))
def b_law_met : PB := (.cons (.set (.nm 2) (.prim .add (.cons (.prim .len (.cons (.prim .item (.cons (.var 1) (.cons (.con (.int 0)) .nil))) .nil)) (.cons (.prim .len (.cons (.prim .item (.cons (.var 1) (.cons (.con (.int 1)) .nil))) .nil)) .nil)))) (.cons (.ife (.prim .eq (.cons (.var 2) (.cons (.con (.int 0)) .nil))) (.cons (.ret (.tup (.cons (.con (.int 1)) (.cons (.con (.int 1)) .nil)))) .nil) .nil) (.cons (.set (.nm 3) (.tup (.cons (.prim .sum (.cons (.comp (.prim .int1 (.cons (.prim .isIn (.cons (.var 10) (.cons (.prim .item (.cons (.var 0) (.cons (.con (.int 0)) .nil))) .nil))) .nil)) (.nm 10) (.seq (.prim .item (.cons (.var 1) (.cons (.con (.int 0)) .nil)))) .nil [10]) .nil)) (.cons (.con (.int 1)) .nil)))) (.cons (.forr (.tp [(.nm 4), (.nm 5)]) (.seq (.prim .item (.cons (.var 1) (.cons (.con (.int 1)) .nil)))) (.cons (.set (.nm 6) (.prim .add (.cons (.lst (.cons (.tup (.cons (.con (.int 0)) (.cons (.con (.int 1)) .nil))) .nil)) (.cons (.comp (.call 25 (.cons (.var 12) (.cons (.var 5) .nil))) (.tp [(.nm 11), (.nm 12)]) (.seq (.prim .item (.cons (.var 0) (.cons (.con (.int 1)) .nil)))) (.cons (.prim .eq (.cons (.var 11) (.cons (.var 4) .nil))) .nil) [11, 12]) .nil)))) (.cons (.set (.nm 7) (.prim .add (.cons (.lst (.cons (.tup (.cons (.con (.int 0)) (.cons (.con (.int 1)) .nil))) .nil)) (.cons (.comp (.tup (.cons (.prim .add (.cons (.prim .item (.cons (.var 9) (.cons (.con (.int 0)) .nil))) (.cons (.prim .item (.cons (.var 9) (.cons (.con (.int 1)) .nil))) .nil))) (.cons (.prim .mul (.cons (.con (.int 2)) (.cons (.prim .item (.cons (.var 9) (.cons (.con (.int 1)) .nil))) .nil))) .nil))) (.nm 9) (.seq (.prim .sl10 (.cons (.var 6) (.cons (.con (.int 1)) .nil)))) .nil [9]) .nil)))) (.cons (.set (.nm 8) (.prim .item (.cons (.var 7) (.cons (.con (.int 0)) .nil)))) (.cons (.forr (.nm 9) (.seq (.var 7)) (.cons (.ife (.prim .gt (.cons (.prim .mul (.cons (.prim .item (.cons (.var 9) (.cons (.con (.int 0)) .nil))) (.cons (.prim .item (.cons (.var 8) (.cons (.con (.int 1)) .nil))) .nil))) (.cons (.prim .mul (.cons (.prim .item (.cons (.var 8) (.cons (.con (.int 0)) .nil))) (.cons (.prim .item (.cons (.var 9) (.cons (.con (.int 1)) .nil))) .nil))) .nil))) (.cons (.set (.nm 8) (.var 9)) .nil) .nil) .nil)) (.cons (.set (.nm 3) (.call 24 (.cons (.prim .add (.cons (.prim .mul (.cons (.prim .item (.cons (.var 3) (.cons (.con (.int 0)) .nil))) (.cons (.prim .item (.cons (.var 8) (.cons (.con (.int 1)) .nil))) .nil))) (.cons (.prim .mul (.cons (.prim .item (.cons (.var 8) (.cons (.con (.int 0)) .nil))) (.cons (.prim .item (.cons (.var 3) (.cons (.con (.int 1)) .nil))) .nil))) .nil))) (.cons (.prim .mul (.cons (.prim .item (.cons (.var 3) (.cons (.con (.int 1)) .nil))) (.cons (.prim .item (.cons (.var 8) (.cons (.con (.int 1)) .nil))) .nil))) .nil)))) .nil)))))) (.cons (.ret (.call 24 (.cons (.prim .item (.cons (.var 3) (.cons (.con (.int 0)) .nil))) (.cons (.prim .mul (.cons (.prim .item (.cons (.var 3) (.cons (.con (.int 1)) .nil))) (.cons (.var 2) .nil))) .nil)))) .nil)))))
def b_law_like : PB := (.cons (.set (.nm 2) (.call 25 (.cons (.call 20 (.cons (.var 0) .nil)) (.cons (.call 20 (.cons (.var 1) .nil)) .nil)))) (.cons (.set (.nm 3) (.call 25 (.cons (.call 20 (.cons (.var 1) .nil)) (.cons (.call 20 (.cons (.var 0) .nil)) .nil)))) (.cons (.ret (.call 24 (.cons (.prim .add (.cons (.prim .mul (.cons (.prim .item (.cons (.var 2) (.cons (.con (.int 0)) .nil))) (.cons (.prim .item (.cons (.var 3) (.cons (.con (.int 1)) .nil))) .nil))) (.cons (.prim .mul (.cons (.prim .item (.cons (.var 3) (.cons (.con (.int 0)) .nil))) (.cons (.prim .item (.cons (.var 2) (.cons (.con (.int 1)) .nil))) .nil))) .nil))) (.cons (.prim .mul (.cons (.prim .mul (.cons (.con (.int 2)) (.cons (.prim .item (.cons (.var 2) (.cons (.con (.int 1)) .nil))) .nil))) (.cons (.prim .item (.cons (.var 3) (.cons (.con (.int 1)) .nil))) .nil))) .nil)))) .nil)))
def b_law_told : PB := (.cons (.tryT (.cons (.ret (.tup (.cons (.con (.str "told")) (.cons (.callv (.prim .item (.cons (.lst (.cons (.fnv 10) (.cons (.fnv 12) .nil))) (.cons (.var 0) .nil))) (.cons (.var 1) (.cons (.var 2) .nil))) .nil)))) .nil) 3) .nil)
def b_law_near : PB := (.cons (.set (.nm 3) (.call 15 (.cons (.var 0) (.cons (.con (.int 4)) .nil)))) (.cons (.ife (.prim .eq (.cons (.var 3) (.cons (.con (.int 0)) .nil))) (.cons (.ret (.call 22 (.cons (.var 1) (.cons (.call 18 (.cons (.var 0) (.cons (.var 2) (.cons (.con (.int 1)) (.cons (.con (.int 2)) .nil))))) .nil)))) .nil) .nil) (.cons (.ife (.prim .eq (.cons (.var 3) (.cons (.con (.int 1)) .nil))) (.cons (.ret (.tup (.cons (.prim .sl10 (.cons (.prim .item (.cons (.var 1) (.cons (.con (.int 0)) .nil))) (.cons (.con (.int 1)) .nil))) (.cons (.prim .item (.cons (.var 1) (.cons (.con (.int 1)) .nil))) .nil)))) .nil) .nil) (.cons (.ife (.prim .eq (.cons (.var 3) (.cons (.con (.int 2)) .nil))) (.cons (.ret (.tup (.cons (.prim .item (.cons (.var 1) (.cons (.con (.int 0)) .nil))) (.cons (.prim .sl10 (.cons (.prim .item (.cons (.var 1) (.cons (.con (.int 1)) .nil))) (.cons (.con (.int 1)) .nil))) .nil)))) .nil) .nil) (.cons (.ret (.call 18 (.cons (.var 0) (.cons (.var 2) (.cons (.con (.int 2)) (.cons (.con (.int 2)) .nil)))))) .nil)))))
def b_law : PB := (.cons (.cell 1 (.lst (.cons (.call 14 (.cons (.var 0) .nil)) (.cons (.con (.int 0)) .nil)))) (.cons (.forr (.nm 2) (.rng1 (.con (.int 6))) (.cons (.set (.nm 8) (.tup (.cons (.call 17 (.cons (.var 1) (.cons (.prim .add (.cons (.con (.int 1)) (.cons (.call 15 (.cons (.var 1) (.cons (.con (.int 4)) .nil))) .nil))) .nil))) (.cons (.call 17 (.cons (.var 1) (.cons (.prim .add (.cons (.con (.int 1)) (.cons (.call 15 (.cons (.var 1) (.cons (.con (.int 2)) .nil))) .nil))) .nil))) .nil)))) (.cons (.set (.nm 9) (.call 18 (.cons (.var 1) (.cons (.var 8) (.cons (.prim .add (.cons (.con (.int 1)) (.cons (.call 15 (.cons (.var 1) (.cons (.con (.int 3)) .nil))) .nil))) (.cons (.con (.int 2)) .nil)))))) (.cons (.set (.nm 10) (.call 28 (.cons (.var 1) (.cons (.var 9) (.cons (.var 8) .nil))))) (.cons (.set (.nm 11) (.prim .repr (.cons (.tup (.cons (.var 9) (.cons (.var 10) .nil))) .nil))) (.cons (.set (.nm 12) (.lst (.cons (.call 25 (.cons (.call 20 (.cons (.var 9) .nil)) (.cons (.call 20 (.cons (.var 10) .nil)) .nil))) (.cons (.call 26 (.cons (.var 9) (.cons (.var 10) .nil))) .nil)))) (.cons (.ife (.nt (.call 13 (.cons (.lst (.cons (.call 27 (.cons (.con (.int 0)) (.cons (.var 9) (.cons (.var 10) .nil)))) (.cons (.call 27 (.cons (.con (.int 1)) (.cons (.var 9) (.cons (.var 10) .nil)))) (.cons (.call 27 (.cons (.con (.int 1)) (.cons (.var 10) (.cons (.var 9) .nil)))) .nil)))) (.cons (.lst (.cons (.tup (.cons (.con (.str "told")) (.cons (.prim .item (.cons (.var 12) (.cons (.con (.int 0)) .nil))) .nil))) (.cons (.tup (.cons (.con (.str "told")) (.cons (.prim .item (.cons (.var 12) (.cons (.con (.int 1)) .nil))) .nil))) (.cons (.tup (.cons (.con (.str "told")) (.cons (.prim .item (.cons (.var 12) (.cons (.con (.int 1)) .nil))) .nil))) .nil)))) .nil)))) (.cons (.ret (.con (.bl false))) .nil) .nil) (.cons (.ife (.bop false (.cons (.prim .ne (.cons (.prim .eq (.cons (.prim .item (.cons (.var 12) (.cons (.con (.int 0)) .nil))) (.cons (.tup (.cons (.con (.int 1)) (.cons (.con (.int 1)) .nil))) .nil))) (.cons (.call 19 (.cons (.var 9) (.cons (.var 10) .nil))) .nil))) (.cons (.prim .ne (.cons (.prim .eq (.cons (.prim .item (.cons (.var 12) (.cons (.con (.int 1)) .nil))) (.cons (.tup (.cons (.con (.int 1)) (.cons (.con (.int 1)) .nil))) .nil))) (.cons (.bop true (.cons (.call 19 (.cons (.var 9) (.cons (.var 10) .nil))) (.cons (.call 19 (.cons (.var 10) (.cons (.var 9) .nil))) .nil))) .nil))) .nil))) (.cons (.ret (.con (.bl false))) .nil) .nil) (.cons (.set (.nm 13) (.call 18 (.cons (.var 1) (.cons (.var 8) (.cons (.con (.int 2)) (.cons (.con (.int 2)) .nil)))))) (.cons (.set (.nm 14) (.call 10 (.cons (.var 10) (.cons (.var 13) .nil)))) (.cons (.set (.nm 15) (.call 10 (.cons (.call 22 (.cons (.var 9) (.cons (.var 10) .nil))) (.cons (.var 13) .nil)))) (.cons (.ife (.bop false (.cons (.prim .gt (.cons (.prim .mul (.cons (.prim .item (.cons (.var 14) (.cons (.con (.int 0)) .nil))) (.cons (.prim .item (.cons (.var 15) (.cons (.con (.int 1)) .nil))) .nil))) (.cons (.prim .mul (.cons (.prim .item (.cons (.var 15) (.cons (.con (.int 0)) .nil))) (.cons (.prim .item (.cons (.var 14) (.cons (.con (.int 1)) .nil))) .nil))) .nil))) (.cons (.prim .ne (.cons (.prim .repr (.cons (.tup (.cons (.var 9) (.cons (.var 10) .nil))) .nil)) (.cons (.var 11) .nil))) .nil))) (.cons (.ret (.con (.bl false))) .nil) .nil) .nil)))))))))))) (.cons (.set (.nm 3) (.tup (.cons (.tup .nil) (.cons (.tup .nil) .nil)))) (.cons (.set (.nm 4) (.tup (.cons (.tup (.cons (.con (.str "a")) .nil)) (.cons (.tup .nil) .nil)))) (.cons (.forr (.nm 5) (.rng1 (.con (.int 12))) (.cons (.set (.nm 3) (.tup (.cons (.tup .nil) (.cons (.tup (.cons (.tup (.cons (.con (.str "r")) (.cons (.var 3) .nil))) .nil)) .nil)))) (.cons (.set (.nm 4) (.tup (.cons (.tup .nil) (.cons (.tup (.cons (.tup (.cons (.con (.str "r")) (.cons (.var 4) .nil))) .nil)) .nil)))) .nil))) (.cons (.set (.nm 6) (.prim .shl (.cons (.con (.int 1)) (.cons (.con (.int 12)) .nil)))) (.cons (.set (.nm 7) (.lst (.cons (.call 27 (.cons (.con (.int 0)) (.cons (.tup (.cons (.tup (.cons (.con (.str "b")) (.cons (.con (.str "a")) .nil))) (.cons (.tup .nil) .nil))) (.cons (.var 3) .nil)))) (.cons (.call 27 (.cons (.con (.int 1)) (.cons (.var 3) (.cons (.tup (.cons (.tup (.cons (.con (.str "any")) .nil)) (.cons (.tup .nil) .nil))) .nil)))) (.cons (.call 27 (.cons (.con (.int 0)) (.cons (.tup (.cons (.tup .nil) (.cons (.tup (.cons (.tup (.cons (.con (.str "r")) (.cons (.var 3) .nil))) .nil)) .nil))) (.cons (.tup (.cons (.tup (.cons (.con (.str "b")) (.cons (.con (.str "a")) .nil))) (.cons (.tup .nil) .nil))) .nil)))) .nil))))) (.cons (.ret (.call 13 (.cons (.prim .add (.cons (.lst (.cons (.call 27 (.cons (.con (.int 0)) (.cons (.var 3) (.cons (.var 4) .nil)))) (.cons (.call 27 (.cons (.con (.int 0)) (.cons (.var 4) (.cons (.var 3) .nil)))) .nil))) (.cons (.var 7) .nil))) (.cons (.lst (.cons (.tup (.cons (.con (.str "told")) (.cons (.tup (.cons (.prim .sub (.cons (.var 6) (.cons (.con (.int 1)) .nil))) (.cons (.var 6) .nil))) .nil))) (.cons (.tup (.cons (.con (.str "told")) (.cons (.tup (.cons (.con (.int 1)) (.cons (.con (.int 1)) .nil))) .nil))) (.cons (.con (.str "refused")) (.cons (.con (.str "refused")) (.cons (.con (.str "large")) .nil)))))) .nil)))) .nil))))))))
def r_is_name : DRec := ⟨"is_name", defArgs (top 13), defBody (top 13), defScope (top 13), ((["text", "sign"] : List String).map PySem.Str.ofString), 1, b_is_name⟩
def r_measured : DRec := ⟨"measured", defArgs (top 14), defBody (top 14), defScope (top 14), ((["concept", "many", "deep", "_", "inner", "size_of", "depth_of"] : List String).map PySem.Str.ofString), 1, b_measured⟩
def r_rising : DRec := ⟨"rising", defArgs (top 15), defBody (top 15), defScope (top 15), ((["row", "k"] : List String).map PySem.Str.ofString), 1, b_rising⟩
def r_well_formed : DRec := ⟨"well_formed", defArgs (top 16), defBody (top 16), defScope (top 16), ((["concept", "names", "links", "role", "inner", "name"] : List String).map PySem.Str.ofString), 1, b_well_formed⟩
def r_check_concept : DRec := ⟨"check_concept", defArgs (top 17), defBody (top 17), defScope (top 17), ((["concept", "many", "deep"] : List String).map PySem.Str.ofString), 1, b_check_concept⟩
def r_lies : DRec := ⟨"lies", defArgs (top 18), defBody (top 18), defScope (top 18), ((["inner", "outer", "name", "role", "wished", "other", "had"] : List String).map PySem.Str.ofString), 2, b_lies⟩
def r_leaned : DRec := ⟨"leaned", defArgs (top 19), defBody (top 19), defScope (top 19), ((["concept", "links", "kept", "role", "inner", "link", "at", "needless", "other_at", "other", "had"] : List String).map PySem.Str.ofString), 1, b_leaned⟩
def r_lowest : DRec := ⟨"lowest", defArgs (top 21), defBody (top 21), defScope (top 21), ((["number", "part", "common"] : List String).map PySem.Str.ofString), 2, b_lowest⟩
def r_is_more : DRec := ⟨"is_more", defArgs (top 22), defBody (top 22), defScope (top 22), ((["one", "other"] : List String).map PySem.Str.ofString), 2, b_is_more⟩
def r_met_by : DRec := ⟨"met_by", defArgs (top 23), defBody (top 23), defScope (top 23), ((["inner", "outer", "parts", "told", "role", "wished", "best", "other", "had", "share", "half", "name"] : List String).map PySem.Str.ofString), 2, b_met_by⟩
def r_met_share : DRec := ⟨"met_share", defArgs (top 24), defBody (top 24), defScope (top 24), ((["inner", "outer"] : List String).map PySem.Str.ofString), 2, b_met_share⟩
def r_like_by : DRec := ⟨"like_by", defArgs (top 25), defBody (top 25), defScope (top 25), ((["first", "second", "one", "other"] : List String).map PySem.Str.ofString), 2, b_like_by⟩
def r_likeness : DRec := ⟨"likeness", defArgs (top 26), defBody (top 26), defScope (top 26), ((["first", "second"] : List String).map PySem.Str.ofString), 2, b_likeness⟩
def r_law_same : DRec := ⟨"_law_same", defArgs (top 28), defBody (top 28), defScope (top 28), ((["told", "due"] : List String).map PySem.Str.ofString), 2, b_law_same⟩
def r_law_stream : DRec := ⟨"_law_stream", defArgs (top 29), defBody (top 29), defScope (top 29), ((["script", "numbers", "cell", "rest", "k", "stirred"] : List String).map PySem.Str.ofString), 1, b_law_stream⟩
def r_law_next : DRec := ⟨"_law_next", defArgs (top 30), defBody (top 30), defScope (top 30), ((["state", "many", "turn"] : List String).map PySem.Str.ofString), 2, b_law_next⟩
def r_law_word : DRec := ⟨"_law_word", defArgs (top 32), defBody (top 32), defScope (top 32), ((["state", "letters", "word", "k"] : List String).map PySem.Str.ofString), 1, b_law_word⟩
def r_law_texts : DRec := ⟨"_law_texts", defArgs (top 33), defBody (top 33), defScope (top 33), ((["state", "many", "found", "k", "word"] : List String).map PySem.Str.ofString), 2, b_law_texts⟩
def r_law_concept : DRec := ⟨"_law_concept", defArgs (top 34), defBody (top 34), defScope (top 34), ((["state", "words", "deep", "wide", "names", "links", "k", "name", "role", "link"] : List String).map PySem.Str.ofString), 4, b_law_concept⟩
def r_law_lies : DRec := ⟨"_law_lies", defArgs (top 35), defBody (top 35), defScope (top 35), ((["inner", "outer", "role", "wished", "name", "other", "had"] : List String).map PySem.Str.ofString), 2, b_law_lies⟩
def r_law_lean : DRec := ⟨"_law_lean", defArgs (top 36), defBody (top 36), defScope (top 36), ((["concept", "links", "kept", "k", "role", "inner", "link", "other"] : List String).map PySem.Str.ofString), 1, b_law_lean⟩
def r_law_measure : DRec := ⟨"_law_measure", defArgs (top 37), defBody (top 37), defScope (top 37), ((["concept", "many", "deep", "role", "inner", "told"] : List String).map PySem.Str.ofString), 1, b_law_measure⟩
def r_law_together : DRec := ⟨"_law_together", defArgs (top 38), defBody (top 38), defScope (top 38), ((["first", "second", "links", "link"] : List String).map PySem.Str.ofString), 2, b_law_together⟩
def r_law_gcd : DRec := ⟨"_law_gcd", defArgs (top 39), defBody (top 39), defScope (top 39), ((["one", "other", "k"] : List String).map PySem.Str.ofString), 2, b_law_gcd⟩
def r_law_low : DRec := ⟨"_law_low", defArgs (top 40), defBody (top 40), defScope (top 40), ((["number", "part", "common"] : List String).map PySem.Str.ofString), 2, b_law_low⟩
def r_law_met : DRec := ⟨"_law_met", defArgs (top 41), defBody (top 41), defScope (top 41), ((["inner", "outer", "many", "told", "role", "wished", "rows", "halves", "best", "one", "name", "other", "had"] : List String).map PySem.Str.ofString), 2, b_law_met⟩
def r_law_like : DRec := ⟨"_law_like", defArgs (top 42), defBody (top 42), defScope (top 42), ((["first", "second", "one", "two"] : List String).map PySem.Str.ofString), 2, b_law_like⟩
def r_law_told : DRec := ⟨"_law_told", defArgs (top 43), defBody (top 43), defScope (top 43), ((["kind", "first", "second", "e"] : List String).map PySem.Str.ofString), 3, b_law_told⟩
def r_law_near : DRec := ⟨"_law_near", defArgs (top 44), defBody (top 44), defScope (top 44), ((["state", "concept", "words", "kind"] : List String).map PySem.Str.ofString), 3, b_law_near⟩
def r_law : DRec := ⟨"law", defArgs (top 45), defBody (top 45), defScope (top 45), ((["script", "state", "turn", "chain", "other", "k", "many", "bad", "words", "first", "second", "kept", "due", "third", "less", "more"] : List String).map PySem.Str.ofString), 1, b_law⟩
def recs : List DRec := [r_is_name, r_measured, r_rising, r_well_formed, r_check_concept, r_lies, r_leaned, r_lowest, r_is_more, r_met_by, r_met_share, r_like_by, r_likeness, r_law_same, r_law_stream, r_law_next, r_law_word, r_law_texts, r_law_concept, r_law_lies, r_law_lean, r_law_measure, r_law_together, r_law_gcd, r_law_low, r_law_met, r_law_like, r_law_told, r_law_near, r_law]
def er : DRec := ⟨"_law_error", defArgs (top 31), defBody (top 31), defScope (top 31), [], 0, .nil⟩
def TT : Tab := ⟨recs.map DRec.x, [("FIRST", (.str "abcdefghijklmnopqrstuvwxyz")), ("MAX_DEPTH", (.int (12))), ("MAX_SIZE", (.int (200))), ("SIGNS", (.str "abcdefghijklmnopqrstuvwxyz0123456789"))], ((["abs", "all", "any", "enumerate", "int", "len", "max", "range", "repr", "set", "sorted", "str", "sum", "tuple"] : List String).map PySem.Str.ofString), ((["NotAllowed", "TooLarge", "Missing", "BadPaper", "BadForm"] : List String).map PySem.Str.ofString), ((["gcd"] : List String).map PySem.Str.ofString)⟩
abbrev FF : List FDef := recs.map DRec.fd
theorem ok_all : recs.all (DRec.ok TT) = true := by decide +kernel
theorem bind_is_name : BindP r_is_name.x r_is_name.params r_is_name.body r_is_name.scope (r_is_name.N.take r_is_name.np) := fun _ _ _ _ _ _ us hl => match us, hl with | [_], _ => rfl
theorem bind_measured : BindP r_measured.x r_measured.params r_measured.body r_measured.scope (r_measured.N.take r_measured.np) := fun _ _ _ _ _ _ us hl => match us, hl with | [_], _ => rfl
theorem bind_rising : BindP r_rising.x r_rising.params r_rising.body r_rising.scope (r_rising.N.take r_rising.np) := fun _ _ _ _ _ _ us hl => match us, hl with | [_], _ => rfl
theorem bind_well_formed : BindP r_well_formed.x r_well_formed.params r_well_formed.body r_well_formed.scope (r_well_formed.N.take r_well_formed.np) := fun _ _ _ _ _ _ us hl => match us, hl with | [_], _ => rfl
theorem bind_check_concept : BindP r_check_concept.x r_check_concept.params r_check_concept.body r_check_concept.scope (r_check_concept.N.take r_check_concept.np) := fun _ _ _ _ _ _ us hl => match us, hl with | [_], _ => rfl
theorem bind_lies : BindP r_lies.x r_lies.params r_lies.body r_lies.scope (r_lies.N.take r_lies.np) := fun _ _ _ _ _ _ us hl => match us, hl with | [_, _], _ => rfl
theorem bind_leaned : BindP r_leaned.x r_leaned.params r_leaned.body r_leaned.scope (r_leaned.N.take r_leaned.np) := fun _ _ _ _ _ _ us hl => match us, hl with | [_], _ => rfl
theorem bind_lowest : BindP r_lowest.x r_lowest.params r_lowest.body r_lowest.scope (r_lowest.N.take r_lowest.np) := fun _ _ _ _ _ _ us hl => match us, hl with | [_, _], _ => rfl
theorem bind_is_more : BindP r_is_more.x r_is_more.params r_is_more.body r_is_more.scope (r_is_more.N.take r_is_more.np) := fun _ _ _ _ _ _ us hl => match us, hl with | [_, _], _ => rfl
theorem bind_met_by : BindP r_met_by.x r_met_by.params r_met_by.body r_met_by.scope (r_met_by.N.take r_met_by.np) := fun _ _ _ _ _ _ us hl => match us, hl with | [_, _], _ => rfl
theorem bind_met_share : BindP r_met_share.x r_met_share.params r_met_share.body r_met_share.scope (r_met_share.N.take r_met_share.np) := fun _ _ _ _ _ _ us hl => match us, hl with | [_, _], _ => rfl
theorem bind_like_by : BindP r_like_by.x r_like_by.params r_like_by.body r_like_by.scope (r_like_by.N.take r_like_by.np) := fun _ _ _ _ _ _ us hl => match us, hl with | [_, _], _ => rfl
theorem bind_likeness : BindP r_likeness.x r_likeness.params r_likeness.body r_likeness.scope (r_likeness.N.take r_likeness.np) := fun _ _ _ _ _ _ us hl => match us, hl with | [_, _], _ => rfl
theorem bind_law_same : BindP r_law_same.x r_law_same.params r_law_same.body r_law_same.scope (r_law_same.N.take r_law_same.np) := fun _ _ _ _ _ _ us hl => match us, hl with | [_, _], _ => rfl
theorem bind_law_stream : BindP r_law_stream.x r_law_stream.params r_law_stream.body r_law_stream.scope (r_law_stream.N.take r_law_stream.np) := fun _ _ _ _ _ _ us hl => match us, hl with | [_], _ => rfl
theorem bind_law_next : BindP r_law_next.x r_law_next.params r_law_next.body r_law_next.scope (r_law_next.N.take r_law_next.np) := fun _ _ _ _ _ _ us hl => match us, hl with | [_, _], _ => rfl
theorem bind_law_word : BindP r_law_word.x r_law_word.params r_law_word.body r_law_word.scope (r_law_word.N.take r_law_word.np) := fun _ _ _ _ _ _ us hl => match us, hl with | [_], _ => rfl
theorem bind_law_texts : BindP r_law_texts.x r_law_texts.params r_law_texts.body r_law_texts.scope (r_law_texts.N.take r_law_texts.np) := fun _ _ _ _ _ _ us hl => match us, hl with | [_, _], _ => rfl
theorem bind_law_concept : BindP r_law_concept.x r_law_concept.params r_law_concept.body r_law_concept.scope (r_law_concept.N.take r_law_concept.np) := fun _ _ _ _ _ _ us hl => match us, hl with | [_, _, _, _], _ => rfl
theorem bind_law_lies : BindP r_law_lies.x r_law_lies.params r_law_lies.body r_law_lies.scope (r_law_lies.N.take r_law_lies.np) := fun _ _ _ _ _ _ us hl => match us, hl with | [_, _], _ => rfl
theorem bind_law_lean : BindP r_law_lean.x r_law_lean.params r_law_lean.body r_law_lean.scope (r_law_lean.N.take r_law_lean.np) := fun _ _ _ _ _ _ us hl => match us, hl with | [_], _ => rfl
theorem bind_law_measure : BindP r_law_measure.x r_law_measure.params r_law_measure.body r_law_measure.scope (r_law_measure.N.take r_law_measure.np) := fun _ _ _ _ _ _ us hl => match us, hl with | [_], _ => rfl
theorem bind_law_together : BindP r_law_together.x r_law_together.params r_law_together.body r_law_together.scope (r_law_together.N.take r_law_together.np) := fun _ _ _ _ _ _ us hl => match us, hl with | [_, _], _ => rfl
theorem bind_law_gcd : BindP r_law_gcd.x r_law_gcd.params r_law_gcd.body r_law_gcd.scope (r_law_gcd.N.take r_law_gcd.np) := fun _ _ _ _ _ _ us hl => match us, hl with | [_, _], _ => rfl
theorem bind_law_low : BindP r_law_low.x r_law_low.params r_law_low.body r_law_low.scope (r_law_low.N.take r_law_low.np) := fun _ _ _ _ _ _ us hl => match us, hl with | [_, _], _ => rfl
theorem bind_law_met : BindP r_law_met.x r_law_met.params r_law_met.body r_law_met.scope (r_law_met.N.take r_law_met.np) := fun _ _ _ _ _ _ us hl => match us, hl with | [_, _], _ => rfl
theorem bind_law_like : BindP r_law_like.x r_law_like.params r_law_like.body r_law_like.scope (r_law_like.N.take r_law_like.np) := fun _ _ _ _ _ _ us hl => match us, hl with | [_, _], _ => rfl
theorem bind_law_told : BindP r_law_told.x r_law_told.params r_law_told.body r_law_told.scope (r_law_told.N.take r_law_told.np) := fun _ _ _ _ _ _ us hl => match us, hl with | [_, _, _], _ => rfl
theorem bind_law_near : BindP r_law_near.x r_law_near.params r_law_near.body r_law_near.scope (r_law_near.N.take r_law_near.np) := fun _ _ _ _ _ _ us hl => match us, hl with | [_, _, _], _ => rfl
theorem bind_law : BindP r_law.x r_law.params r_law.body r_law.scope (r_law.N.take r_law.np) := fun _ _ _ _ _ _ us hl => match us, hl with | [_], _ => rfl
theorem binds : ∀ r ∈ recs, BindP r.x r.params r.body r.scope (r.N.take r.np) := by
  intro r hr
  rcases List.mem_cons.mp hr with rfl | hr; · exact bind_is_name
  rcases List.mem_cons.mp hr with rfl | hr; · exact bind_measured
  rcases List.mem_cons.mp hr with rfl | hr; · exact bind_rising
  rcases List.mem_cons.mp hr with rfl | hr; · exact bind_well_formed
  rcases List.mem_cons.mp hr with rfl | hr; · exact bind_check_concept
  rcases List.mem_cons.mp hr with rfl | hr; · exact bind_lies
  rcases List.mem_cons.mp hr with rfl | hr; · exact bind_leaned
  rcases List.mem_cons.mp hr with rfl | hr; · exact bind_lowest
  rcases List.mem_cons.mp hr with rfl | hr; · exact bind_is_more
  rcases List.mem_cons.mp hr with rfl | hr; · exact bind_met_by
  rcases List.mem_cons.mp hr with rfl | hr; · exact bind_met_share
  rcases List.mem_cons.mp hr with rfl | hr; · exact bind_like_by
  rcases List.mem_cons.mp hr with rfl | hr; · exact bind_likeness
  rcases List.mem_cons.mp hr with rfl | hr; · exact bind_law_same
  rcases List.mem_cons.mp hr with rfl | hr; · exact bind_law_stream
  rcases List.mem_cons.mp hr with rfl | hr; · exact bind_law_next
  rcases List.mem_cons.mp hr with rfl | hr; · exact bind_law_word
  rcases List.mem_cons.mp hr with rfl | hr; · exact bind_law_texts
  rcases List.mem_cons.mp hr with rfl | hr; · exact bind_law_concept
  rcases List.mem_cons.mp hr with rfl | hr; · exact bind_law_lies
  rcases List.mem_cons.mp hr with rfl | hr; · exact bind_law_lean
  rcases List.mem_cons.mp hr with rfl | hr; · exact bind_law_measure
  rcases List.mem_cons.mp hr with rfl | hr; · exact bind_law_together
  rcases List.mem_cons.mp hr with rfl | hr; · exact bind_law_gcd
  rcases List.mem_cons.mp hr with rfl | hr; · exact bind_law_low
  rcases List.mem_cons.mp hr with rfl | hr; · exact bind_law_met
  rcases List.mem_cons.mp hr with rfl | hr; · exact bind_law_like
  rcases List.mem_cons.mp hr with rfl | hr; · exact bind_law_told
  rcases List.mem_cons.mp hr with rfl | hr; · exact bind_law_near
  rcases List.mem_cons.mp hr with rfl | hr; · exact bind_law
  cases hr
theorem bind_err : BindP er.x er.params er.body er.scope ["e"] := fun _ _ _ _ _ _ us hl => match us, hl with | [_], _ => rfl
theorem sc_err : FnScope ((["e", "names"] : List String).map Str.ofString) ["e"] er.scope := (scC_ok (N := ((["e", "names"] : List String).map Str.ofString)) (np := 1) (by decide +kernel)).1
theorem ck_err : ckErr er.scope er.body = true := by decide +kernel
def loose : List PySem.Str := (["gcd", "__name__", "BeastError", "NotAllowed", "TooLarge", "Missing", "BadPaper", "BadForm", "MAX_SIZE", "MAX_DEPTH", "FIRST", "SIGNS", "is_name", "measured", "rising", "well_formed", "check_concept", "lies", "leaned", "lowest", "is_more", "met_by", "met_share", "like_by", "likeness", "_law_same", "_law_stream", "_law_next", "_law_error", "_law_word"] : List PySem.Str) ++ (["_law_texts", "_law_concept", "_law_lies", "_law_lean", "_law_measure", "_law_together", "_law_gcd", "_law_low", "_law_met", "_law_like", "_law_told", "_law_near"] : List PySem.Str)
abbrev R : PySem.W.OpenRow := PySem.W.OpenLaw.row PySem.Challenge.rw_menagerie_k74_whole_shares_and_likeness
def dds : List He.DefD := er.dd :: recs.map DRec.dd
abbrev hk : PySem.W.Hook := hookP 4 TT.excs TT.mods (faOf TT) dds
def ob (s : PySem.W.SharedT) : AlP := obsPG 4 TT.excs TT.mods (faOf TT) dds (HandSHeadRun.getT s)
theorem ob_eq (s : PySem.W.SharedT) : ob s = hk.obs s.abs := obsPG_eq (HandSHeadRun.getT_eq s)
theorem run (w : World) : HandSHeadRun.RunEqI R (PySem.W.view R.prog [45]) hk ob 6000 loose w := by
  unfold HandSHeadRun.RunEqI
  kernel_rfl
theorem holds_of (plain : ∀ ns : List Int, ns.length ≤ 63 → ∃ t, callF FF 100000 100 29 [.scr ns] [] = .ok (.bl true) t) : PySem.Challenge.rw_menagerie_k74_whole_shares_and_likeness.Holds := by
  w_on; o_law
  refine HandSHeadRun.head_imp (r := PySem.W.OpenLaw.row PySem.Challenge.rw_menagerie_k74_whole_shares_and_likeness) (q := PySem.W.view (PySem.W.OpenLaw.row PySem.Challenge.rw_menagerie_k74_whole_shares_and_likeness).prog [45]) (H := hk) (ob := ob) (M := 6000) (loose := loose) (d := HandSHeadRun.topDef (PySem.W.OpenLaw.row PySem.Challenge.rw_menagerie_k74_whole_shares_and_likeness).prog 45) (kwd := []) ob_eq
    run (by kernel_rfl) (by kernel_rfl) (by kernel_rfl) (by rfl) (by first | assumption | decide +kernel) (by decide +kernel) ⟨rfl, rfl, rfl, rfl, rfl, by decide +kernel⟩ ?hw ?hc
  case hw => w_witness2
  case hc => exact walk_law (l := PySem.Challenge.rw_menagerie_k74_whole_shares_and_likeness) (T := TT) (recs := recs) (er := er) (wf := 100000) (m := 100) (i := 29) rfl (by kernel_rfl) (by kernel_rfl) (by rfl) rfl (by decide +kernel) rfl ok_all binds rfl sc_err bind_err ck_err (by decide) plain
end K74
end
section
set_option Elab.async false
set_option linter.all false
set_option maxRecDepth 100000
set_option maxHeartbeats 4000000
namespace K74
open PySem MP
abbrev Row := List Str
theorem forLoop_map {α β : Type} {f : D → S → Out Fl} (h : β → D) (emb : α → S) (g : α → β → α) (P : α → Prop) : ∀ (ys : List β) (a : α), P a → (∀ y ∈ ys, ∀ a, P a → f (h y) (emb a) = .ok .nx (emb (g a y)) ∧ P (g a y)) → forLoop f (ys.map h) (emb a) = .ok .nx (emb (ys.foldl g a)) ∧ P (ys.foldl g a)
  | [], a, h, _ => ⟨rfl, h⟩
  | y :: r, a, h0, k => by
    obtain ⟨e1, h1⟩ := k y List.mem_cons_self a h0
    obtain ⟨e2, h2⟩ := forLoop_map h emb g P r (g a y) h1 fun y hy => k y (List.mem_cons_of_mem _ hy)
    refine ⟨?_, h2⟩
    rw [List.map_cons, forLoop, e1]
    simp only [bind_ok]
    rw [e2]
    rfl
theorem p_tuple_lst (xs : List D) : prim .tuple [.lst xs] = some (.tup xs) := rfl
theorem filterMap_ite {α : Type} (f : α → D) (g : D → Option D) (p : α → Bool) (hg : ∀ x, g (f x) = if p x = true then some (f x) else none) (l : List α) : (l.map f).filterMap g = (l.filter p).map f := by
  rw [List.filterMap_map]
  induction l with
  | nil => rfl
  | cons x l ih =>
    rw [List.filterMap_cons, Function.comp, hg x, List.filter_cons]
    by_cases h : p x = true
    · simp [h, ih]
    · simp [h, ih]
theorem call_ok {cf : CF} {f : Nat} {ds : List D} {s : S} {d : D} {t : Sto} (h : cf f ds s.sto = .ok d t) : callO cf f ds s = .ok d { s with sto := t } := by
  unfold callO
  rw [h]
theorem evalSs_one {cf : CF} {wf : Nat} {a : PS} {s : S} {f : Fl} {s' : S} (h : evalS cf wf a s = .ok f s') (r : PB) : evalSs cf wf (.cons a r) s = seqR cf wf r f s' := by
  rw [ss_cons', h]
  rfl
theorem p_add_lsts (a b : List D) (h : a.length + b.length ≤ 16777216) : prim .add [.lst a, .lst b] = some (.lst (a ++ b)) := by
  show p_add [.lst a, .lst b] = _
  unfold p_add
  simp only
  rw [if_pos h]
theorem filterMap_ite2 {α : Type} (f : α → D) (g : D → Option D) (p : α → Bool) (h : α → D) (hg : ∀ x, g (f x) = if p x = true then some (h x) else none) (l : List α) : (l.map f).filterMap g = (l.filter p).map h := by
  rw [List.filterMap_map]
  induction l with
  | nil => rfl
  | cons x l ih =>
    rw [List.filterMap_cons, Function.comp, hg x, List.filter_cons]
    by_cases h : p x = true
    · simp [h, ih]
    · simp [h, ih]
theorem p_len_set (r : Row) (h : r.length ≤ 1000000) : prim .len [setD r] = some (.int r.length) := by
  first
  | (simp [prim, setD]; done)
  | (show p_len [.tup (r.map .str)] = _; simp [p_len])
theorem p_lt_int (a b : Int) : prim .lt [.int a, .int b] = some (.bl (decide (a < b))) := by
  rfl
theorem atI_nat {α : Type} (xs : List α) (k : Nat) (h : k < xs.length) : L2.atI xs (k : Int) = xs[k]? := by
  unfold L2.atI L2.ixN
  simp
  have : (if 0 ≤ (k : Int) then (k : Int) else (k : Int) + xs.length) = k := by omega
  simp_all
theorem p_item_set (r : Row) (k : Nat) (h : k < r.length) : prim .item [setD r, .int k] = some (.str r[k]) := by
  show L2.atI (r.map D.str) (k : Int) = _
  rw [atI_nat _ _ (by simpa using h)]
  simp [h]
def sLt (x y : Str) : Prop := x.cps.toList < y.cps.toList
instance : DecidableRel sLt := fun x y => inferInstanceAs (Decidable (x.cps.toList < y.cps.toList))
theorem p_lt_str (x y : Str) : prim .lt [.str x, .str y] = some (.bl (decide (sLt x y))) := rfl
def rng1R : D → S → Out (List D)
  | .int i, s => if smallI i then .ok (rngL 0 i) s else .bad
  | _, _ => .bad
@[simp] theorem rng1R_int (i : Int) (s : S) : rng1R (.int i) s = if smallI i then .ok (rngL 0 i) s else .bad := rfl
@[simp] theorem evI_rng1 (cf : CF) (a : PE) (s : S) : evalI cf (.rng1 a) s = (evalE cf a s).bind rng1R := by
  simp only [evalI]
  congr
  funext d s'
  cases d <;> rfl
theorem rngL_nat (n : Nat) : rngL 0 (n : Int) = (List.range n).map fun k => .int (k : Nat) := by
  simp [rngL]
theorem filterMap_const {α : Type} (d : D) (l : List α) : l.filterMap (fun _ => some d) = l.map fun _ => d := by
  induction l with
  | nil => rfl
  | cons x l ih => simp [ih]
theorem sp_rising (m : Nat) {row : Row} (t : Sto) (hp : row.Pairwise sLt) (hl : row.length ≤ 1000) : callF FF 100000 (m + 1) 2 [setD row] t = .ok (.bl true) t := by
  have hF : FF[2]? = some ⟨1, 2, b_rising⟩ := rfl
  rw [callF_succ, hF]
  have e0 : prim .len [setD row] = some (.int row.length) := p_len_set row (by omega)
  have e1 : prim .sub [.int row.length, .int 1] = some (.int ((row.length : Int) - 1)) := rfl
  have hI : evalI (callF FF 100000 m) (.rng1 (.prim .sub (.cons (.prim .len (.cons (.var 0) .nil)) (.cons (.con (.int 1)) .nil)))) { loc := [.val (setD row), .unb], sto := t } = .ok ((List.range (row.length - 1)).map fun k => .int (k : Nat)) { loc := [.val (setD row), .unb], sto := t } := by
    have sm : smallI ((row.length : Int) - 1) = true := by unfold smallI; simp; omega
    have er : rngL 0 ((row.length : Int) - 1) = (List.range (row.length - 1)).map fun k => D.int (k : Nat) := by
      unfold rngL
      have : ((row.length : Int) - 1 - 0).toNat = row.length - 1 := by omega
      rw [this]
      simp
    simp [rdVar, e0, e1, sm, er]
  have C := comp_pure (cf := callF FF 100000 m) (elt := .prim .lt (.cons (.prim .item (.cons (.var 0) (.cons (.var 1) .nil))) (.cons (.prim .item (.cons (.var 0) (.cons (.prim .add (.cons (.var 1) (.cons (.con (.int 1)) .nil))) .nil))) .nil))) (t := .nm 1) (it := .rng1 (.prim .sub (.cons (.prim .len (.cons (.var 0) .nil)) (.cons (.con (.int 1)) .nil)))) (cs := .nil) (vs := [1]) (s := { loc := [.val (setD row), .unb], sto := t }) (s1 := { loc := [.val (setD row), .unb], sto := t })
    (xs := (List.range (row.length - 1)).map fun k => .int (k : Nat)) (fun _ => some (.bl true)) hI (fun d hd => ?_) (by simp; omega)
  · rw [filterMap_const] at C
    have al := p_all_map ((List.range (row.length - 1)).map fun k => D.int (k : Nat)) (fun _ => true)
    simp only [b_rising]
    simp [C]
    simp at al
    rw [al]
    simp
  · obtain ⟨k, hk, rfl⟩ := List.mem_map.mp hd
    rw [List.mem_range] at hk
    refine ⟨[.val (setD row), .val (.int k)], ?_, rfl⟩
    have a1 := p_item_set row k (by omega)
    have a2 := p_item_set row (k + 1) (by omega)
    have a3 : prim .add [.int (k : Nat), .int 1] = some (.int ((k + 1 : Nat) : Int)) := rfl
    have a4 : sLt row[k] row[k + 1] := List.pairwise_iff_getElem.mp hp k (k + 1) (by omega) (by omega) (by omega)
    simp only [turnF]
    simp [MP.assign, rdVar, MP.wipe, a1]
    simp at a3 a2
    simp [a3, a2, p_lt_str, a4]
theorem p_eq_str {x y : Str} (hx : PyData.strOk x = true) (hy : PyData.strOk y = true) : prim .eq [.str x, .str y] = some (D.bl (decide (x = y))) := by
  show (if eqOk (D.str x) (D.str y) then some (D.bl (eqD (D.str x) (D.str y))) else none) = _
  have e : eqOk (D.str x) (D.str y) = true := by
    simp [eqOk, D.flat, D.pd, SeqAt.shaped, PyData.canLay0, PyData.depth, hx, hy]
  rw [if_pos e, eqD_str]
def sigs : Str := "abcdefghijklmnopqrstuvwxyz0123456789"
def firs : Str := "abcdefghijklmnopqrstuvwxyz"
structure NameOk (x : Str) : Prop where
  l1 : 1 ≤ x.cps.size
  l2 : x.cps.size ≤ 12
  ny : x ≠ ("any" : Str)
  hf : x.cps.getD 0 0 ∈ firs.cps.toList
  hs : ∀ c ∈ x.cps.toList, c ∈ sigs.cps.toList
theorem sig_small : ∀ c ∈ sigs.cps.toList, c < 1114112 := by decide +kernel
theorem NameOk.ok {x : Str} (h : NameOk x) : PyData.strOk x = true := by
  unfold PyData.strOk
  rw [Array.all_eq_true']
  intro c hc
  simpa using sig_small c (h.hs c (by simpa using hc))
theorem any_ok : PyData.strOk ("any" : Str) = true := by decide +kernel
theorem p_len_str (x : Str) (h : x.cps.size ≤ 12) : prim .len [.str x] = some (D.int (x.cps.size : Nat)) := by
  show (if x.length ≤ 16777216 then some (D.int (x.length : Nat)) else none) = _
  have : x.length = x.cps.size := rfl
  rw [if_pos (by omega), this]
theorem p_item0 (x : Str) (h : 1 ≤ x.cps.size) (h2 : x.cps.size ≤ 12) : prim .item [.str x, .int 0] = some (D.str ⟨#[x.cps.getD 0 0]⟩) := by
  show oneSign x 0 = _
  unfold oneSign
  have : x.length = x.cps.size := rfl
  rw [if_pos (by omega)]
  have e := atI_nat x.cps.toList 0 (by simp; omega)
  have e' : L2.atI x.cps.toList (0 : Int) = x.cps.toList[0]? := e
  rw [e']
  have : x.cps.toList[0]? = some (x.cps.getD 0 0) := by
    rw [List.getElem?_eq_getElem (by simp; omega)]
    have z : 0 < x.cps.size := by omega
    simp [Array.getD, z]
  rw [this]
  rfl
theorem p_sig_in (c : Nat) (y : Str) : prim .isIn [.str ⟨#[c]⟩, .str y] = some (D.bl (decide (c ∈ y.cps.toList))) := rfl
theorem p_sig_notIn (c : Nat) (y : Str) : prim .notIn [.str ⟨#[c]⟩, .str y] = some (D.bl (!decide (c ∈ y.cps.toList))) := rfl
theorem sp_is_name (m : Nat) {x : Str} (t : Sto) (h : NameOk x) : callF FF 100000 (m + 1) 0 [.str x] t = .ok (.bl true) t := by
  have hF : FF[0]? = some ⟨1, 2, b_is_name⟩ := rfl
  rw [callF_succ, hF]
  have C := comp_pure (cf := callF FF 100000 m) (elt := .prim .isIn (.cons (.var 1) (.cons (.glob "SIGNS" (.str "abcdefghijklmnopqrstuvwxyz0123456789")) .nil))) (t := .nm 1) (it := .seq (.var 0)) (cs := .nil) (vs := [1]) (s := { loc := [.val (.str x), .unb], sto := t }) (s1 := { loc := [.val (.str x), .unb], sto := t })
    (xs := x.cps.toList.map fun c => .str ⟨#[c]⟩) (fun _ => some (.bl true)) rfl (fun d hd => ?_) (by have := h.l2; simp; omega)
  · rw [filterMap_const] at C
    have al := p_all_map (x.cps.toList.map fun c => D.str ⟨#[c]⟩) (fun _ => true)
    have e1 := p_len_str x h.l2
    have e2 := p_eq_str h.ok any_ok
    have e3 := p_item0 x h.l1 h.l2
    have e4 := p_sig_notIn (x.cps.getD 0 0) firs
    have e5 : decide (x.cps.getD 0 0 ∈ firs.cps.toList) = true := decide_eq_true h.hf
    have e6 : decide (x = ("any" : Str)) = false := decide_eq_false h.ny
    have e7 : prim .lt [.int (x.cps.size : Nat), .int 1] = some (D.bl false) := by
      show some (D.bl (decide ((x.cps.size : Int) < 1))) = _
      have := h.l1
      rw [decide_eq_false (by omega)]
    have e8 : prim .gt [.int (x.cps.size : Nat), .int 12] = some (D.bl false) := by
      show some (D.bl (decide ((x.cps.size : Int) > 12))) = _
      have := h.l2
      rw [decide_eq_false (by omega)]
    rw [e5] at e4
    rw [e6] at e2
    have e4 : prim .notIn [D.str ⟨#[x.cps.getD 0 0]⟩, D.str "abcdefghijklmnopqrstuvwxyz"] = some (D.bl false) := e4
    clear e5 e6
    generalize x.cps.getD 0 0 = c0 at *
    simp only [b_is_name]
    simp [C, rdVar, e1, e2, e3, e4, e7, e8]
    simp at al
    rw [al]
    simp
  · obtain ⟨c, hc, rfl⟩ := List.mem_map.mp hd
    refine ⟨[.val (.str x), .val (.str ⟨#[c]⟩)], ?_, rfl⟩
    have e := p_sig_in c sigs
    rw [decide_eq_true (h.hs c hc)] at e
    have e : prim .isIn [D.str ⟨#[c]⟩, D.str "abcdefghijklmnopqrstuvwxyz0123456789"] = some (D.bl true) := e
    simp [turnF, MP.assign, rdVar, MP.wipe, e]
structure Names (names : Row) : Prop where
  nm : ∀ x ∈ names, NameOk x
  srt : names.Pairwise sLt
  nl : names.length ≤ 12
theorem sLt_irrefl (x : Str) : ¬ sLt x x := List.lt_irrefl _
theorem Names.nd {names : Row} (h : Names names) : names.Nodup := h.srt.imp fun {a b} hab e => by subst e; exact sLt_irrefl _ hab
theorem Names.ok {names : Row} (h : Names names) : okStrs names := fun x hx => (h.nm x hx).ok
theorem callv_at {m f : Nat} {ds : List D} {d : D} (h : ∀ t, callF FF 100000 m f ds t = .ok d t) (s : S) : callO (callF FF 100000 m) f ds s = .ok d s := by rw [call_ok (h s.sto)]
theorem all_true {α : Type} (l : List α) : (l.all fun _ => true) = true := by
  induction l with
  | nil => rfl
  | cons x l ih => simp
theorem p_gt_int (a b : Int) : prim .gt [.int a, .int b] = some (D.bl (decide (a > b))) := rfl
def backS (l : List D) : Row := l.filterMap fun | .str x => some x | _ => none
theorem backS_set (l : Row) : backS (l.map D.str) = l := by
  induction l with
  | nil => rfl
  | cons x l ih => show x :: backS (l.map D.str) = _; rw [ih]
theorem sIx_nat (n d k : Nat) (h : k ≤ n) : HT.sIx n d (some (k : Int)) = k := by
  show (if (k : Int) < 0 then ((k : Int) + (n : Int)).toNat else min (k : Int).toNat n) = k
  rw [if_neg (by omega)]
  omega
theorem cut_to {α : Type} (x : List α) (k : Nat) (h : k ≤ x.length) : MP.cut x none (some (k : Int)) = x.take k := by
  unfold MP.cut
  have a : HT.sIx x.length 0 none = 0 := rfl
  have b : HT.sIx x.length x.length (some (k : Int)) = k := sIx_nat _ _ _ h
  rw [a, b]
  simp
theorem cut_from {α : Type} (x : List α) (k : Nat) (h : k ≤ x.length) : MP.cut x (some (k : Int)) none = x.drop k := by
  unfold MP.cut
  have a : HT.sIx x.length x.length none = x.length := rfl
  have b : HT.sIx x.length 0 (some (k : Int)) = k := sIx_nat _ _ _ h
  rw [a, b]
  apply List.take_of_length_le
  simp
theorem st_own_ok {cf : CF} {wf i : Nat} {e : PE} {s s' : S} {xs : List D} (h : evalE cf e s = .ok (.lst xs) s') (hi : i < s'.loc.length) : evalS cf wf (.own i e) s = .ok .nx { s' with loc := s'.loc.set i (.own xs) } := by
  simp only [evalS, h, bind_ok, if_pos hi]
theorem st_app_ok {cf : CF} {wf i : Nat} {e : PE} {s s' : S} {ys xs : List D} {d : D} (h0 : s.loc[i]? = some (.own ys)) (h : evalE cf e s = .ok d s') (h1 : s'.loc[i]? = some (.own xs)) (hl : xs.length < 1000000) : evalS cf wf (.app i e) s = .ok .nx { s' with loc := s'.loc.set i (.own (xs ++ [d])) } := by
  simp only [evalS, h0, h, bind_ok, h1, if_pos hl]
theorem forLoop_rem {α β : Type} {f : D → S → Out Fl} (h : β → D) (emb : α → S) (g : α → β → α) (P : List β → α → Prop) (k : ∀ y r a, P (y :: r) a → f (h y) (emb a) = .ok .nx (emb (g a y)) ∧ P r (g a y)) : ∀ (ys : List β) (a : α), P ys a → forLoop f (ys.map h) (emb a) = .ok .nx (emb (ys.foldl g a)) ∧ P [] (ys.foldl g a)
  | [], a, h => ⟨rfl, h⟩
  | y :: r, a, h0 => by
    obtain ⟨e1, h1⟩ := k y r a h0
    obtain ⟨e2, h2⟩ := forLoop_rem h emb g P k r (g a y) h1
    refine ⟨?_, h2⟩
    rw [List.map_cons, forLoop, e1]
    simp only [bind_ok]
    rw [e2]
    rfl
theorem alike_strs : ∀ xs ys : Row, W.alikeAll (pdL (xs.map D.str)) (pdL (ys.map D.str)) = true
  | [], [] => by simp [pdL, W.alikeAll]
  | [], _ :: _ => by simp [pdL, W.alikeAll]
  | _ :: _, [] => by simp [pdL, W.alikeAll]
  | x :: xs, y :: ys => by
    simp [pdL, W.alikeAll, W.alike, D.pd, alike_strs xs ys]
theorem alike_sets (x y : Row) : W.alike (setD x).pd (setD y).pd = true := by
  show W.alike (D.tup (x.map D.str)).pd (D.tup (y.map D.str)).pd = true
  simp [D.pd, W.alike, alike_strs x y]
theorem alike_str (x y : Str) : W.alike (D.str x).pd (D.str y).pd = true := by
  simp [D.pd, W.alike]
theorem setD_flat (x : Row) : (setD x).flat = true := by
  show (D.tup (x.map D.str)).flat = true
  simp [D.flat, strs_flat]
theorem setD_depth (x : Row) : (setD x).pd.depth ≤ 64 := by
  show (D.tup (x.map D.str)).pd.depth ≤ 64
  simp [D.pd, PyData.depth, strs_depth]
theorem sortOk_sets (rs : List Row) (h : rs.length ≤ 1000000) : sortOk (rs.map setD) = true := by
  unfold sortOk allAlike
  simp only [Bool.and_eq_true, List.all_eq_true, decide_eq_true_eq, List.length_map]
  refine ⟨⟨fun d hd => ?_, fun d hd e he => ?_⟩, by omega⟩
  · obtain ⟨r, -, rfl⟩ := List.mem_map.mp hd
    exact ⟨⟨setD_flat r, rfl⟩, setD_depth r⟩
  · obtain ⟨r, -, rfl⟩ := List.mem_map.mp hd
    obtain ⟨r', -, rfl⟩ := List.mem_map.mp he
    exact alike_sets r r'
theorem sortOk_strs (rs : Row) (h : rs.length ≤ 1000000) : sortOk (rs.map D.str) = true := by
  unfold sortOk allAlike
  simp only [Bool.and_eq_true, List.all_eq_true, decide_eq_true_eq, List.length_map]
  refine ⟨⟨fun d hd => ?_, fun d hd e he => ?_⟩, by omega⟩
  · obtain ⟨r, -, rfl⟩ := List.mem_map.mp hd
    exact ⟨⟨rfl, rfl⟩, by simp [D.pd, PyData.depth]⟩
  · obtain ⟨r, -, rfl⟩ := List.mem_map.mp hd
    obtain ⟨r', -, rfl⟩ := List.mem_map.mp he
    exact alike_str r r'
theorem p_sorted_strs (rs : Row) (h : rs.length ≤ 1000000) : prim .sorted [setD rs] = some (.lst (sortD false (rs.map D.str))) := by
  show (if sortOk (rs.map D.str) then some (D.lst (sortD false (rs.map D.str))) else none) = _
  rw [if_pos (sortOk_strs rs h)]
theorem p_ge_int (a b : Int) : prim .ge [.int a, .int b] = some (D.bl (decide (a ≥ b))) := rfl
theorem p_le_int (a b : Int) : prim .le [.int a, .int b] = some (D.bl (decide (a ≤ b))) := rfl
theorem ev_chain_ok {cf : CF} {o1 o2 : Prim} {a b c : PE} {s : S} {x y z : D} {p q : Bool} (h1 : evalE cf a s = .ok x s) (h2 : evalE cf b s = .ok y s) (h3 : evalE cf c s = .ok z s) (h4 : prim o1 [x, y] = some (.bl p)) (h5 : prim o2 [y, z] = some (.bl q)) : evalE cf (.chain o1 o2 a b c) s = .ok (.bl (p && q)) s := by
  simp only [evalE, h1, h2, bind_ok, h4]
  cases p with
  | true => simp only [h3, bind_ok, h5, toOut_some, Bool.true_and]
  | false => rfl
theorem evB_two {cf : CF} {a b : PE} {s : S} {p q : Bool} (h1 : evalE cf a s = .ok (.bl p) s) (h2 : p = true → evalE cf b s = .ok (.bl q) s) : evalE cf (.bop true (.cons a (.cons b .nil))) s = .ok (.bl (p && q)) s := by
  simp [h1]
  cases p with
  | true => simpa using h2 rfl
  | false => simp
/-- the store of the law: the drawn numbers, and how many were used -/
def St (nums : List Int) (c : Int) : Sto := [.lst [.lst (nums.map .int), .int c]]
structure NumsOk (nums : List Int) : Prop where
  ne : nums ≠ []
  len : nums.length ≤ 1000000
  rng : ∀ n ∈ nums, 0 ≤ n ∧ n ≤ 1008
theorem mulOk_of {i j : Int} (h1 : i.natAbs < 2 ^ 200) (h2 : j.natAbs < 2 ^ 200) : mulOk i j = true := by
  have a : ∀ n : Nat, n < 2 ^ 200 → n.log2 < 200 := fun n h => by
    by_cases z : n = 0
    · subst z; decide
    · exact (Nat.log2_lt z).mpr h
  unfold mulOk
  have := a _ h1
  have := a _ h2
  simp
  omega
theorem deref_St (nums : List Int) (c : Int) : deref (St nums c) (.ref 0) = .lst [.lst (nums.map .int), .int c] := rfl
theorem st_setc_ok {cf : CF} {wf : Nat} {o ix e : PE} {s : S} {d : D} {j : Nat} {k : Int} {xs ys : List D} (h1 : evalE cf e s = .ok d s) (h2 : evalE cf o s = .ok (.ref j) s) (h3 : evalE cf ix s = .ok (.int k) s) (h4 : s.sto[j]? = some (.lst xs)) (h5 : setAt xs k d = some ys) : evalS cf wf (.setc o ix e) s = .ok .nx { s with sto := s.sto.set j (.lst ys) } := by
  simp only [evalS, h1, h2, h3, bind_ok, h4, h5]
theorem sp_next (m : Nat) {nums : List Int} {c many : Int} (h : NumsOk nums) (hc : 0 ≤ c ∧ c ≤ 1000000000) (hm : 0 < many) : ∃ v : Int, 0 ≤ v ∧ v < many ∧ callF FF 100000 (m + 1) 15 [.ref 0, .int many] (St nums c) = .ok (.int v) (St nums (c + 1)) := by
  have hF : FF[15]? = some ⟨2, 3, b_law_next⟩ := rfl
  have ln : 0 < nums.length := List.length_pos_iff.mpr h.ne
  have hl := h.len
  obtain ⟨j, hj⟩ : ∃ j : Nat, (c + 1) % (nums.length : Int) = j := ⟨((c + 1) % (nums.length : Int)).toNat, by have := Int.emod_nonneg (c + 1) (b := (nums.length : Int)) (by omega); omega⟩
  have jl : j < nums.length := by have := Int.emod_lt_of_pos (c + 1) (b := (nums.length : Int)) (by omega); omega
  have q1 : prim .item [.lst [.lst (nums.map .int), .int c], .int 1] = some (.int c) := rfl
  have q2 : prim .add [.int c, .int 1] = some (.int (c + 1)) := rfl
  have q3 : prim .item [.lst [.lst (nums.map .int), .int (c + 1)], .int 1] = some (.int (c + 1)) := rfl
  have q4 : prim .item [.lst [.lst (nums.map .int), .int (c + 1)], .int 0] = some (.lst (nums.map .int)) := rfl
  have q5 : prim .len [.lst (nums.map .int)] = some (.int nums.length) := by
    show some (D.int ((nums.map D.int).length : Nat)) = _
    rw [List.length_map]
  have dv : divOk (nums.length : Int) = true := by
    unfold divOk
    have z : nums.length ≠ 0 := by omega
    have : (nums.length : Nat).log2 < 200 := (Nat.log2_lt z).mpr (by omega)
    simp
    omega
  have q6 : prim .fdiv [.int (c + 1), .int nums.length] = some (.int ((c + 1) / nums.length)) := by
    show (if divOk (nums.length : Int) then some (D.int ((c + 1) / nums.length)) else none) = _
    rw [if_pos dv]
  have q7 : prim .mod [.int (c + 1), .int nums.length] = some (.int j) := by
    show (if 0 < (nums.length : Int) then some (D.int ((c + 1) % nums.length)) else none) = _
    rw [if_pos (by omega), hj]
  have q8 : prim .item [.lst (nums.map .int), .int j] = some (.int nums[j]) := by
    show L2.atI (nums.map D.int) (j : Int) = _
    rw [atI_nat _ _ (by simpa using jl)]
    simp [jl]
  have t0 : 0 ≤ (c + 1) / (nums.length : Int) := Int.ediv_nonneg (by omega) (by omega)
  have t1 : (c + 1) / (nums.length : Int) ≤ c + 1 := Int.ediv_le_self _ (by omega)
  generalize (c + 1) / (nums.length : Int) = u at *
  have q9 : prim .mul [.int u, .int 389] = some (.int (u * 389)) := by
    show (if mulOk u 389 then some (D.int (u * 389)) else none) = _
    rw [if_pos (mulOk_of (by omega) (by decide))]
  have q10 : prim .mul [.int (c + 1), .int u] = some (.int ((c + 1) * u)) := by
    show (if mulOk (c + 1) u then some (D.int ((c + 1) * u)) else none) = _
    rw [if_pos (mulOk_of (by omega) (by omega))]
  have q11 : prim .mul [.int ((c + 1) * u), .int 17] = some (.int ((c + 1) * u * 17)) := by
    show (if mulOk ((c + 1) * u) 17 then some (D.int ((c + 1) * u * 17)) else none) = _
    have b : ((c + 1) * u).natAbs < 2 ^ 200 := by
      rw [Int.natAbs_mul]
      calc (c + 1).natAbs * u.natAbs ≤ 1000000001 * 1000000001 := Nat.mul_le_mul (by omega) (by omega)
        _ < 2 ^ 200 := by decide
    rw [if_pos (mulOk_of b (by decide))]
  have q12 : prim .add [.int nums[j], .int (u * 389)] = some (.int (nums[j] + u * 389)) := rfl
  have q13 : prim .add [.int (nums[j] + u * 389), .int ((c + 1) * u * 17)] = some (.int (nums[j] + u * 389 + (c + 1) * u * 17)) := rfl
  generalize nums[j] + u * 389 + (c + 1) * u * 17 = tot at *
  have q14 : prim .int1 [.int tot] = some (.int tot) := rfl
  have q15 : prim .mod [.int tot, .int many] = some (.int (tot % many)) := by
    show (if 0 < many then some (D.int (tot % many)) else none) = _
    rw [if_pos hm]
  refine ⟨tot % many, Int.emod_nonneg _ (by omega), Int.emod_lt_of_pos _ hm, ?_⟩
  rw [callF_succ, hF]
  show (if [D.ref 0, .int many].length = 2 then runRes (evalSs (callF FF 100000 m) 100000 b_law_next { loc := [D.ref 0, .int many].map .val ++ List.replicate (3 - 2) .unb, sto := St nums c }) else .bad) = _
  rw [if_pos (show [D.ref 0, .int many].length = 2 from rfl)]
  unfold b_law_next
  have s1 : evalS (callF FF 100000 m) 100000 (.setc (.var 0) (.con (.int 1)) (.prim .add (.cons (.prim .item (.cons (.var 0) (.cons (.con (.int 1)) .nil))) (.cons (.con (.int 1)) .nil)))) { loc := [D.ref 0, .int many].map .val ++ List.replicate (3 - 2) .unb, sto := St nums c } = .ok .nx { loc := [.val (.ref 0), .val (.int many), .unb], sto := St nums (c + 1) } :=
    st_setc_ok (d := .int (c + 1)) (j := 0) (k := 1) (by simp [rdVar, deref_St, q1, q2]) (by simp [rdVar]) (by simp) rfl rfl
  rw [evalSs_one s1, seqR_nx]
  simp [rdVar, deref_St, MP.assign, q3, q4, q5, q6, q7, q8, q9, q10, q11, q12, q13, q14, q15]
/-- a comprehension whose turns write to the store -/
theorem comp_run {β : Type} {cf : CF} {elt : PE} {t : Tgt} {it : Iter} {cs : PL} {vs : List Nat} {s s1 : S} {ys : List β} {h : β → D} (K : List β → List D → Sto → Prop) (hI : evalI cf it s = .ok (ys.map h) s1) (h0 : K [] [] s1.sto)
    (hf : ∀ p y a t', y ∈ ys → p.length < ys.length → K p a t' → ∃ es loc' t'', turnF cf elt t cs (h y) { loc := MP.wipe s1.loc vs, sto := t' } = .ok es { loc := loc', sto := t'' } ∧ MP.wipe loc' vs = MP.wipe s1.loc vs ∧ K (p ++ [y]) (a ++ es) t'') (hl : ∀ a t', K ys a t' → a.length ≤ 1000000) :
    ∃ a t', evalE cf (.comp elt t it cs vs) s = .ok (.lst a) { loc := unwipe s1.loc s1.loc vs, sto := t' } ∧ K ys a t' := by
  rw [evalE_comp, hI]
  simp only [bind_ok]
  have key : ∀ (r p : List β) (a : List D) (s' : S), p ++ r = ys → K p a s'.sto → MP.wipe s'.loc vs = MP.wipe s1.loc vs → ∃ es s'', compLoop vs (turnF cf elt t cs) (r.map h) s' = .ok es s'' ∧ K ys (a ++ es) s''.sto ∧ MP.wipe s''.loc vs = MP.wipe s1.loc vs := by
    intro r
    induction r with
    | nil => exact fun p a s' e k w => ⟨[], s', rfl, by rw [List.append_nil] at e ⊢; rw [← e]; exact k, w⟩
    | cons y r ih =>
      intro p a s' e k w
      obtain ⟨es, loc', t'', e1, e2, e3⟩ := hf p y a s'.sto (by rw [← e]; simp) (by rw [← e]; simp) k
      have ess : ({ s' with loc := MP.wipe s'.loc vs } : S) = { loc := MP.wipe s1.loc vs, sto := s'.sto } := by rw [w]
      obtain ⟨fs, s'', e4, e5, e6⟩ := ih (p ++ [y]) (a ++ es) { loc := loc', sto := t'' } (by rw [← e]; simp) e3 e2
      refine ⟨es ++ fs, s'', ?_, by rw [← List.append_assoc]; exact e5, e6⟩
      rw [List.map_cons, compLoop, ess, e1]
      simp only [bind_ok]
      rw [e4]
      rfl
  obtain ⟨es, s'', e1, e2, e3⟩ := key ys [] [] s1 rfl h0 rfl
  rw [List.nil_append] at e2
  refine ⟨es, s''.sto, ?_, e2⟩
  rw [e1]
  simp only [calm_ok, bind_ok]
  rw [if_pos (hl _ _ e2), unwipe_same e3]
theorem toks_strs_inj : ∀ (xs ys : List Str), W.keyToksAll (xs.map PyData.str) = W.keyToksAll (ys.map PyData.str) → xs = ys
  | [], [], _ => rfl
  | [], y :: ys, h => by simp [W.keyToksAll, W.keyToks] at h
  | x :: xs, [], h => by simp [W.keyToksAll, W.keyToks] at h
  | x :: xs, y :: ys, h => by
    simp only [List.map_cons, W.keyToksAll, W.keyToks, List.cons_append, List.nil_append, List.cons.injEq, Sum.inr.injEq, true_and] at h
    rw [W.str_of_cps h.1, toks_strs_inj xs ys h.2]
open PyProof.Rows PySem.W in
theorem dataLe_anti {α : Type} (k : α → PyData) (inj : ∀ a b, W.keyToks (k a) = W.keyToks (k b) → a = b) (a b : α) (h1 : W.dataLe false k a b = true) (h2 : W.dataLe false k b a = true) : a = b := by
  have h1' : (!PyProof.Rows.lexLt itemOrd (W.keyToks (k b)) (W.keyToks (k a))) = true := h1
  have h2' : (!PyProof.Rows.lexLt itemOrd (W.keyToks (k a)) (W.keyToks (k b))) = true := h2
  rw [Bool.not_eq_true'] at h1' h2'
  exact inj a b (lex_total (O := itemOrd) _ _ h2' h1')
open PyProof.Rows PySem.W in
theorem sort_perm {α : Type} (k : α → PyData) (inj : ∀ a b, W.keyToks (k a) = W.keyToks (k b) → a = b) {l m : List α} (h : l.Perm m) : l.mergeSort (W.dataLe false k) = m.mergeSort (W.dataLe false k) := by
  have t : TotalLe (W.dataLe false k) := sortLe_total (listOrd itemOrd) false fun b => W.keyToks (k b)
  refine List.Perm.eq_of_pairwise (le := fun a b => W.dataLe false k a b = true) (fun a b _ _ h1 h2 => dataLe_anti k inj a b h1 h2) ?_ ?_ ?_
  · exact sort_pairwise t l
  · exact sort_pairwise t m
  · exact (List.mergeSort_perm l _).trans (h.trans (List.mergeSort_perm m _).symm)
theorem str_inj (a b : Str) (h : W.keyToks (PyData.str a) = W.keyToks (PyData.str b)) : a = b := by
  simp only [W.keyToks, List.cons.injEq, Sum.inr.injEq, and_true] at h
  exact W.str_of_cps h
theorem le_str (a b : Str) : W.dataLe false (fun x : Str => PyData.str x) a b = decide (a.cps.toList ≤ b.cps.toList) := by
  rw [W.dataLe_str]
theorem sLt_le {a b : Str} (h : sLt a b) : W.dataLe false (fun x : Str => PyData.str x) a b = true := by
  rw [le_str, decide_eq_true_eq]
  exact List.le_of_lt h
theorem sLt_of_le {a b : Str} (h : W.dataLe false (fun x : Str => PyData.str x) a b = true) (ne : a ≠ b) : sLt a b := by
  rw [le_str, decide_eq_true_eq] at h
  have : a.cps.toList ≠ b.cps.toList := fun e => ne (W.str_of_cps e)
  refine Decidable.byContradiction fun hn => this ?_
  exact List.le_antisymm h (List.not_lt.mp hn)
theorem sort_same {l : List Str} (h : l.Pairwise sLt) : l.mergeSort (W.dataLe false fun x : Str => PyData.str x) = l :=
  List.Perm.eq_of_pairwise (le := fun a b => W.dataLe false (fun x : Str => PyData.str x) a b = true) (fun a b _ _ h1 h2 => dataLe_anti _ str_inj a b h1 h2)
    (W.sort_pairwise (PySem.W.sortLe_total (PyProof.Rows.listOrd PyProof.Rows.itemOrd) false fun b => W.keyToks (PyData.str b)) l) (h.imp fun h => sLt_le h) (List.mergeSort_perm l _)
theorem sort_rising {l : List Str} (nd : l.Nodup) : (l.mergeSort (W.dataLe false fun x : Str => PyData.str x)).Pairwise sLt := by
  have h1 := W.sort_pairwise (PySem.W.sortLe_total (PyProof.Rows.listOrd PyProof.Rows.itemOrd) false fun b => W.keyToks (PyData.str b)) l
  have h2 : (l.mergeSort (W.dataLe false fun x : Str => PyData.str x)).Nodup := (List.mergeSort_perm l _).nodup_iff.mpr nd
  exact (h1.and (List.nodup_iff_pairwise_ne.mp h2)).imp fun h => sLt_of_le h.1 h.2
theorem row_inj (a b : Row) (h : W.keyToks (setD a).pd = W.keyToks (setD b).pd) : a = b := by
  have e : ∀ r : Row, W.keyToks (setD r).pd = W.keyToksAll (r.map PyData.str) := fun r => by
    show W.keyToks (D.tup (r.map D.str)).pd = _
    rw [D.pd, W.keyToks, pdL_map, List.map_map]
    rfl
  rw [e, e] at h
  exact toks_strs_inj a b h
theorem sortD_strs (l : Row) : sortD false (l.map D.str) = (l.mergeSort (W.dataLe false fun x : Str => PyData.str x)).map D.str := (W.sort_maps D.str fun _ _ _ _ => rfl).symm
theorem sLt_trans {a b c : Str} (h1 : sLt a b) (h2 : sLt b c) : sLt a c := List.lt_trans h1 h2
theorem eqD_strs : ∀ a b : Row, PyData.eqvAll (pdL (a.map .str)) (pdL (b.map .str)) = decide (a = b)
  | [], [] => by simp [pdL, PyData.eqvAll]
  | [], _ :: _ => by simp [pdL, PyData.eqvAll]
  | _ :: _, [] => by simp [pdL, PyData.eqvAll]
  | x :: a, y :: b => by
    have h := eqD_str x y
    unfold eqD at h
    simp only [List.map_cons, pdL, PyData.eqvAll, eqD_strs a b, h]
    by_cases h1 : x = y <;> by_cases h2 : a = b <;> simp [h1, h2]
theorem p_eq_strs {a b : Row} (ha : okStrs a) (hb : okStrs b) : prim .eq [.lst (a.map .str), .lst (b.map .str)] = some (.bl (decide (a = b))) := by
  show (if eqOk (D.lst (a.map .str)) (D.lst (b.map .str)) then some (D.bl (eqD (D.lst (a.map .str)) (D.lst (b.map .str)))) else none) = _
  have e : eqOk (D.lst (a.map .str)) (D.lst (b.map .str)) = true := by
    simp [eqOk, SeqAt.shaped, D.flat, D.pd, PyData.canLay0, PyData.depth, strs_flat, strs_canLay ha, strs_canLay hb, strs_depth]
  rw [if_pos e]
  have : eqD (D.lst (a.map .str)) (D.lst (b.map .str)) = decide (a = b) := by
    unfold eqD
    simp only [D.pd, PyData.eqv, eqD_strs]
  rw [this]
theorem p_sort_same {l : Row} (h : l.Pairwise sLt) (hl : l.length ≤ 1000000) : prim .sorted [setD l] = some (.lst (l.map D.str)) := by
  rw [p_sorted_strs l hl, sortD_strs, sort_same h]
theorem call_to {cf : CF} {f : Nat} {ds : List D} {s : S} {d : D} {t t' : Sto} (hs : s.sto = t) (h : cf f ds t = .ok d t') : callO cf f ds s = .ok d { s with sto := t' } := by
  subst hs
  exact call_ok h
theorem evalE_call {cf : CF} {f : Nat} {es : PL} {ds : List D} {s s1 : S} {d : D} {t : Sto} (h1 : evalL cf es s = .ok ds s1) (h2 : cf f ds s1.sto = .ok d t) : evalE cf (.call f es) s = .ok d { s1 with sto := t } := by
  rw [ev_call, h1]
  simp only [bind_ok]
  exact call_ok h2
theorem evalL_cons_ok {cf : CF} {e : PE} {r : PL} {s s1 s2 : S} {d : D} {ds : List D} (h1 : evalE cf e s = .ok d s1) (h2 : evalL cf r s1 = .ok ds s2) : evalL cf (.cons e r) s = .ok (d :: ds) s2 := by
  rw [evL_cons, h1]
  simp only [bind_ok]
  rw [h2]
  rfl
theorem p_eq_int (a b : Int) : prim .eq [.int a, .int b] = some (D.bl (decide (a = b))) := by
  show (if eqOk (D.int a) (D.int b) then some (D.bl (eqD (D.int a) (D.int b))) else none) = _
  have e : eqOk (D.int a) (D.int b) = true := by
    simp [eqOk, D.flat, D.pd, SeqAt.shaped, PyData.canLay0, PyData.depth]
  rw [if_pos e]
  unfold eqD
  simp only [D.pd, PyData.eqv]
  rfl
def ok1 (x : Str) : Prop := ∀ c ∈ x.cps.toList, c < 1114112
theorem ok1_iff {x : Str} : PyData.strOk x = true ↔ ok1 x := by
  unfold PyData.strOk ok1
  rw [← Array.all_toList, List.all_eq_true]
  simp
theorem ok1_append {x y : Str} (h1 : ok1 x) (h2 : ok1 y) : ok1 (x ++ y) := by
  intro c hc
  have e : (x ++ y).cps.toList = x.cps.toList ++ y.cps.toList := by
    show (x.cps ++ y.cps).toList = _
    simp
  rw [e] at hc
  rcases List.mem_append.mp hc with hc | hc
  · exact h1 c hc
  · exact h2 c hc
theorem ok1_string (s : String) : ok1 (Str.ofString s) := by
  rw [Str.ofString_eq_toList]
  intro c hc
  obtain ⟨a, _, rfl⟩ := List.mem_map.mp hc
  have := a.valid
  have e : a.toNat = a.val.toNat := rfl
  rw [e]
  rcases this with h | h
  · omega
  · have := h.2; omega
theorem ok1_from : ∀ (ts : List Str) (k : Nat) (acc : Str), ok1 acc → (∀ t ∈ ts, ok1 t) → ok1 (textFrom k acc ts)
  | [], _, _, h, _ => h
  | t :: ts, k, acc, h, ht => ok1_from ts (k + 1) _ (ok1_append (ok1_append h (ok1_string _)) (ht t List.mem_cons_self)) fun u hu => ht u (List.mem_cons_of_mem _ hu)
theorem ok1_list (ts : List Str) (ht : ∀ t ∈ ts, ok1 t) : ok1 (listText ts) := ok1_append (ok1_from ts 0 _ (ok1_string _) ht) (ok1_string _)
theorem ok1_left {x y : Str} (h : ok1 (x ++ y)) : ok1 x := fun c hc => h c (by
  show c ∈ (x.cps ++ y.cps).toList
  simp [hc])
theorem ok1_right {x y : Str} (h : ok1 (x ++ y)) : ok1 y := fun c hc => h c (by
  show c ∈ (x.cps ++ y.cps).toList
  simp [hc])
theorem ok1_join (ts : List Str) (ht : ∀ t ∈ ts, ok1 t) : ok1 (Str.join ", " ts) := by
  have h := ok1_list ts ht
  rw [listText_eq_join] at h
  exact ok1_right (ok1_left h)
theorem ok1_tuple (ts : List Str) (ht : ∀ t ∈ ts, ok1 t) : ok1 (tupleText ts) := ok1_append (ok1_append (ok1_string _) (ok1_join ts ht)) (ok1_string _)
theorem repr_char_ok {q c : Nat} (h : c < 1114112) (hq : q < 1114112) : ∀ d ∈ Builtin.Str.reprChar q c, d < 1114112 := by
  have dig : ∀ d ∈ (Nat.toDigits 16 c).map Char.toNat, d < 1114112 := fun d hd => by
    obtain ⟨a, _, rfl⟩ := List.mem_map.mp hd
    have := a.valid
    have e : a.toNat = a.val.toNat := rfl
    rw [e]
    rcases this with h | h
    · omega
    · have := h.2; omega
  have rep : ∀ n : Nat, ∀ d ∈ List.replicate n 48, d < 1114112 := fun n d hd => by rw [(List.mem_replicate.mp hd).2]; omega
  intro d hd
  unfold Builtin.Str.reprChar at hd
  simp only at hd
  split at hd
  · simp at hd; omega
  split at hd
  · simp at hd; omega
  split at hd
  · simp at hd; omega
  split at hd
  · simp at hd; omega
  split at hd
  · simp at hd; omega
  split at hd
  · rcases List.mem_append.mp hd with hd | hd
    · simp at hd; omega
    · rcases List.mem_append.mp hd with hd | hd
      · exact rep _ d hd
      · exact dig d hd
  split at hd
  · rcases List.mem_append.mp hd with hd | hd
    · simp at hd; omega
    · rcases List.mem_append.mp hd with hd | hd
      · exact rep _ d hd
      · exact dig d hd
  · rcases List.mem_append.mp hd with hd | hd
    · simp at hd; omega
    · rcases List.mem_append.mp hd with hd | hd
      · exact rep _ d hd
      · exact dig d hd
theorem repr_fold_ok {q : Nat} (hq : q < 1114112) : ∀ (l : List Nat) (acc : Array Nat), (∀ c ∈ l, c < 1114112) → (∀ c ∈ acc.toList, c < 1114112) → ∀ c ∈ (l.foldl (fun out c => out ++ (Builtin.Str.reprChar q c).toArray) acc).toList, c < 1114112
  | [], acc, _, h => h
  | c :: l, acc, hl, h => repr_fold_ok hq l _ (fun d hd => hl d (List.mem_cons_of_mem _ hd)) fun d hd => by
    rw [Array.toList_append] at hd
    rcases List.mem_append.mp hd with hd | hd
    · exact h d hd
    · exact repr_char_ok (hl c List.mem_cons_self) hq d (by simpa using hd)
theorem quote_small (x : Str) : reprQuote x < 1114112 := by
  unfold reprQuote
  split <;> omega
theorem ok1_repr {x : Str} (h : ok1 x) : ok1 (reprText x) := by
  intro c hc
  unfold reprText at hc
  have hc : c ∈ ((x.cps.foldl (fun out c => out ++ (Builtin.Str.reprChar (reprQuote x) c).toArray) #[reprQuote x]).push (reprQuote x)).toList := hc
  rw [Array.toList_push, ← Array.foldl_toList] at hc
  rcases List.mem_append.mp hc with hc | hc
  · refine repr_fold_ok (quote_small x) x.cps.toList _ h ?_ c hc
    intro d hd
    simp at hd
    rw [hd]
    exact quote_small x
  · rw [List.mem_singleton.mp hc]
    exact quote_small x
mutual
/-- data of texts that can be laid and of small ints, at most n deep -/
def fine : Nat → D → Bool
  | _, .non => true
  | _, .bl _ => true
  | _, .int i => decide (i.natAbs < 999999999999)
  | _, .str x => PyData.strOk x
  | n, .tup xs => decide (0 < n) && fineL (n - 1) xs
  | n, .lst xs => decide (0 < n) && fineL (n - 1) xs
  | _, .fn _ => false
  | _, .ref _ => false
  | _, .scr _ => false
def fineL : Nat → List D → Bool
  | _, [] => true
  | n, x :: xs => fine n x && fineL n xs
end
structure FineR (n : Nat) (d : D) : Prop where
  fl : d.flat = true
  sh : d.pd.showable = true
  lv : d.pd.leavesShort 16 = true
  tx : ok1 d.pd.shown
  dp : d.pd.depth ≤ n
structure FineRL (n : Nat) (l : List D) : Prop where
  fl : flatL l = true
  sh : PyData.showableAll (pdL l) = true
  lv : PyData.leavesShortAll 16 (pdL l) = true
  tx : ∀ t ∈ PyData.shownAll (pdL l), ok1 t
  dp : PyData.depthAll (pdL l) ≤ n
mutual
theorem fine_r : ∀ (n : Nat) (d : D), fine n d = true → FineR n d
  | n, .non, _ => ⟨rfl, rfl, rfl, ok1_string _, Nat.zero_le _⟩
  | n, .bl b, _ => ⟨rfl, rfl, rfl, by
      show ok1 (PyData.bool b).shown
      rw [PyData.shown_bool]
      cases b <;> exact ok1_string _, Nat.zero_le _⟩
  | n, .int i, h => by
    simp only [fine, decide_eq_true_eq] at h
    refine ⟨rfl, ?_, ?_, ?_, Nat.zero_le _⟩
    · show decide (i.natAbs.log2 < 1920) = true
      rw [decide_eq_true_eq]
      by_cases z : i.natAbs = 0
      · rw [z]; decide
      · have : i.natAbs.log2 < 40 := (Nat.log2_lt z).mpr (Nat.lt_trans h (by decide))
        omega
    · show decide ((PyData.shown (.int i)).length ≤ 16) = true
      have := PyData.shown_int_le2 (i := i) (by omega) (by omega)
      rw [decide_eq_true_eq]
      omega
    · show ok1 (PyData.int i).shown
      rw [PyData.shown_int]
      exact ok1_string _
  | n, .str x, h => by
    simp only [fine] at h
    have h' := ok1_iff.mp h
    refine ⟨rfl, rfl, ?_, ?_, Nat.zero_le _⟩
    · show (x.cps.toList.all fun c => decide (c < 16 ^ 8)) = true
      rw [List.all_eq_true]
      intro c hc
      have := h' c hc
      rw [decide_eq_true_eq]
      omega
    · show ok1 (PyData.str x).shown
      rw [PyData.shown_str]
      exact ok1_repr h'
  | n, .tup xs, h => by
    simp only [fine, Bool.and_eq_true, decide_eq_true_eq] at h
    obtain ⟨f, s, l, t, d⟩ := fine_rl (n - 1) xs h.2
    refine ⟨f, s, l, ?_, ?_⟩
    · show ok1 (PyData.tuple (pdL xs)).shown
      simp only [PyData.shown]
      exact ok1_tuple _ t
    · show PyData.depthAll (pdL xs) + 1 ≤ n
      omega
  | n, .lst xs, h => by
    simp only [fine, Bool.and_eq_true, decide_eq_true_eq] at h
    obtain ⟨f, s, l, t, d⟩ := fine_rl (n - 1) xs h.2
    refine ⟨f, s, l, ?_, ?_⟩
    · show ok1 (PyData.list (pdL xs)).shown
      simp only [PyData.shown]
      exact ok1_list _ t
    · show PyData.depthAll (pdL xs) + 1 ≤ n
      omega
  | n, .fn _, h => by simp [fine] at h
  | n, .ref _, h => by simp [fine] at h
  | n, .scr _, h => by simp [fine] at h
theorem fine_rl : ∀ (n : Nat) (l : List D), fineL n l = true → FineRL n l
  | n, [], _ => ⟨rfl, rfl, rfl, by simp [pdL, PyData.shownAll], Nat.zero_le _⟩
  | n, x :: xs, h => by
    simp only [fineL, Bool.and_eq_true] at h
    obtain ⟨f, s, l, t, d⟩ := fine_r n x h.1
    obtain ⟨f2, s2, l2, t2, d2⟩ := fine_rl n xs h.2
    refine ⟨by simp [flatL, f, f2], by simp [pdL, PyData.showableAll, s, s2], by simp [pdL, PyData.leavesShortAll, l, l2], ?_, by simp only [pdL, PyData.depthAll]; omega⟩
    intro u hu
    rw [pdL, PyData.shownAll_cons] at hu
    rcases List.mem_cons.mp hu with rfl | hu
    · exact t
    · exact t2 u hu
end
theorem fineL_all {n : Nat} : ∀ {l : List D}, (∀ d ∈ l, fine n d = true) → fineL n l = true
  | [], _ => rfl
  | x :: xs, h => by
    rw [fineL, h x List.mem_cons_self, fineL_all fun d hd => h d (List.mem_cons_of_mem _ hd)]
    rfl
theorem reprOk_of {n : Nat} {d : D} (h : fine n d = true) (hn : n ≤ 60) (hb : d.pd.bulk ≤ 900000) : reprOk d = true := by
  obtain ⟨f, s, l, t, dp⟩ := fine_r n d h
  have := PyData.shown_le_bulk 16 (by omega) d.pd l
  unfold reprOk
  simp only [f, s, Bool.true_and, Bool.and_eq_true, decide_eq_true_eq]
  omega
theorem p_repr_of {n : Nat} {d : D} (h : fine n d = true) (hn : n ≤ 60) (hb : d.pd.bulk ≤ 900000) : prim .repr [d] = some (.str d.pd.shown) := by
  show (if reprOk d then some (D.str d.pd.shown) else none) = _
  rw [if_pos (reprOk_of h hn hb)]
theorem shown_ok {n : Nat} {d : D} (h : fine n d = true) : PyData.strOk d.pd.shown = true := ok1_iff.mpr (fine_r n d h).tx
theorem sp_same (m : Nat) {n : Nat} {d : D} (t : Sto) (h : fine n d = true) (hn : n ≤ 59) (hb : d.pd.bulk ≤ 800000) : callF FF 100000 (m + 1) 13 [d, d] t = .ok (.bl true) t := by
  have hF : FF[13]? = some ⟨2, 2, b_law_same⟩ := rfl
  have hL : fine (n + 1) (.lst [d]) = true := by simp [fine, fineL, h]
  have p1 := p_repr_of hL (by omega) (by
    show d.pd.bulk + 1 + 0 ≤ _
    omega)
  have p2 := p_eq_str (shown_ok hL) (shown_ok hL)
  rw [decide_eq_true rfl] at p2
  rw [callF_succ, hF]
  show (if [d, d].length = 2 then runRes (evalSs (callF FF 100000 m) 100000 b_law_same { loc := [d, d].map .val ++ List.replicate (2 - 2) .unb, sto := t }) else .bad) = _
  rw [if_pos (show [d, d].length = 2 from rfl)]
  unfold b_law_same
  simp [rdVar, p1, p2]
def tryR (l : List MP.Slot) : Out Fl → Out Fl
  | .exc c t => if c < 5 then .ok (.ret (errWord c)) { loc := l, sto := t } else .bad
  | .ok f s' => .ok f s'
  | .bad => .bad
theorem st_try (cf : CF) (wf : Nat) (b : PB) (i : Nat) (s : S) : evalS cf wf (.tryT b i) s = tryR s.loc (evalSs cf wf b s) := by
  simp only [evalS]
  cases evalSs cf wf b s <;> rfl
def toldR : Res → Res
  | .ok d t => .ok (.tup [.str "told", d]) t
  | .exc c t => if c < 5 then .ok (errWord c) t else .bad
  | .bad => .bad
theorem forLoop_inv {f : D → S → Out Fl} (I : Nat → S → Prop) (N : Nat) : ∀ (xs : List D) (n : Nat) (s : S), n + xs.length ≤ N → I n s → (∀ x ∈ xs, ∀ n s, n < N → I n s → ∃ g s', f x s = .ok g s' ∧ (g = .nx ∨ g = .brk) ∧ I (n + 1) s') → ∃ s' n', forLoop f xs s = .ok .nx s' ∧ n' ≤ N ∧ I n' s'
  | [], n, s, hN, h, _ => ⟨s, n, rfl, by simpa using hN, h⟩
  | x :: r, n, s, hN, h, k => by
    rw [List.length_cons] at hN
    obtain ⟨g, s', e, hg, h'⟩ := k x List.mem_cons_self n s (by omega) h
    rcases hg with rfl | rfl
    · obtain ⟨s2, n2, e2, l2, h2⟩ := forLoop_inv I N r (n + 1) s' (by omega) h' fun y hy => k y (List.mem_cons_of_mem _ hy)
      refine ⟨s2, n2, ?_, l2, h2⟩
      rw [forLoop, e]
      exact e2
    · refine ⟨s', n + 1, ?_, by omega, h'⟩
      rw [forLoop, e]
      rfl
def goodN (nums : List Int) : Prop := ∀ n ∈ nums, 0 ≤ n ∧ n ≤ 1008
theorem goodN.snoc {nums : List Int} (h : goodN nums) {i : Int} (h1 : 0 ≤ i) (h2 : i ≤ 1008) : goodN (nums ++ [i]) := fun n hn => by
  rcases List.mem_append.mp hn with hn | hn
  · exact h n hn
  · rw [List.mem_singleton.mp hn]; exact ⟨h1, h2⟩
def eZ (ns nums : List Int) (t : Sto) (s2 s3 s4 s5 : MP.Slot) : S := { loc := [.val (.scr ns), .own (nums.map .int), s2, s3, s4, s5], sto := t }
abbrev big1 : PS := (.app 1 (.prim .mod (.cons (.prim .int1 (.cons (.var 3) .nil)) (.cons (.con (.int 1009)) .nil))))
abbrev big2 : PS := (.set (.nm 3) (.prim .fdiv (.cons (.var 3) (.cons (.con (.int 1009)) .nil))))
abbrev big3 : PS := (.ife (.prim .eq (.cons (.var 3) (.cons (.con (.int 0)) .nil))) (.cons .brk .nil) .nil)
abbrev bigB : PB := (.cons big1 (.cons big2 (.cons big3 .nil)))
abbrev sma1 : PS := (.set (.nm 5) (.prim .mod (.cons (.prim .int1 (.cons (.prim .add (.cons (.prim .add (.cons (.prim .mul (.cons (.var 5) (.cons (.con (.int 48271)) .nil))) (.cons (.prim .mul (.cons (.con (.int 7)) (.cons (.var 4) .nil))) .nil))) (.cons (.con (.int 11)) .nil))) .nil)) (.cons (.con (.int 2147483647)) .nil))))
abbrev sma2 : PS := (.app 1 (.prim .mod (.cons (.prim .mod (.cons (.prim .int1 (.cons (.prim .add (.cons (.prim .mul (.cons (.var 5) (.cons (.con (.int 69621)) .nil))) (.cons (.var 4) .nil))) .nil)) (.cons (.con (.int 2147483629)) .nil))) (.cons (.con (.int 1009)) .nil))))
abbrev smaB : PB := (.cons sma1 (.cons sma2 .nil))
theorem p_mod_pos (a b : Int) (h : 0 < b) : prim .mod [.int a, .int b] = some (.int (a % b)) := by
  show (if 0 < b then some (D.int (a % b)) else none) = _
  rw [if_pos h]
theorem turn_big (cf : CF) {ns nums : List Int} {t : Sto} (s2 s4 s5 : MP.Slot) (r k : Int) (hr : 0 ≤ r) (hl : nums.length < 1000000) :
    ∃ g, ofOpt (MP.assign (.nm 4) (.int k) (eZ ns nums t s2 (.val (.int r)) s4 s5)) (fun s3 => evalSs cf 100000 bigB s3) = .ok g (eZ ns (nums ++ [r % 1009]) t s2 (.val (.int (r / 1009))) (.val (.int k)) s5) ∧ (g = .nx ∨ g = .brk) := by
  have q1 : prim .int1 [.int r] = some (.int r) := rfl
  have q2 := p_mod_pos r 1009 (by omega)
  have q3 : prim .fdiv [.int r, .int 1009] = some (.int (r / 1009)) := by
    show (if divOk 1009 then some (D.int (r / 1009)) else none) = _
    rw [if_pos (by decide)]
  have q4 := p_eq_int (r / 1009) 0
  have as : MP.assign (.nm 4) (.int k) (eZ ns nums t s2 (.val (.int r)) s4 s5) = some (eZ ns nums t s2 (.val (.int r)) (.val (.int k)) s5) := by simp [MP.assign, eZ]
  have st1 : evalS cf 100000 big1 (eZ ns nums t s2 (.val (.int r)) (.val (.int k)) s5) = .ok .nx (eZ ns (nums ++ [r % 1009]) t s2 (.val (.int r)) (.val (.int k)) s5) := by
    have := st_app_ok (cf := cf) (wf := 100000) (i := 1) (e := .prim .mod (.cons (.prim .int1 (.cons (.var 3) .nil)) (.cons (.con (.int 1009)) .nil))) (s := eZ ns nums t s2 (.val (.int r)) (.val (.int k)) s5) (s' := eZ ns nums t s2 (.val (.int r)) (.val (.int k)) s5) (ys := nums.map .int) (xs := nums.map .int) (d := .int (r % 1009)) rfl (by simp [eZ, rdVar, q1, q2]) rfl (by simpa using hl)
    rw [this]
    simp [eZ]
  have st2 : evalS cf 100000 big2 (eZ ns (nums ++ [r % 1009]) t s2 (.val (.int r)) (.val (.int k)) s5) = .ok .nx (eZ ns (nums ++ [r % 1009]) t s2 (.val (.int (r / 1009))) (.val (.int k)) s5) := by
    simp [eZ, rdVar, q3, MP.assign]
  rw [as, ofOpt_some, evalSs_one st1, seqR_nx, evalSs_one st2, seqR_nx]
  by_cases z : r / 1009 = 0
  · refine ⟨.brk, ?_, .inr rfl⟩
    rw [decide_eq_true z] at q4
    simp [eZ, rdVar, q4]
  · refine ⟨.nx, ?_, .inl rfl⟩
    rw [decide_eq_false z] at q4
    simp [eZ, rdVar, q4]
theorem loop_big (cf : CF) {ns nums : List Int} {t : Sto} (s2 s4 s5 : MP.Slot) (r : Int) (hr : 0 ≤ r) (hg : goodN nums) (hl : nums.length ≤ 10000) :
    ∃ nums' r' s4', goodN nums' ∧ nums'.length ≤ nums.length + 60 ∧ forLoop (fun d s => ofOpt (MP.assign (.nm 4) d s) fun s3 => evalSs cf 100000 bigB s3) ((List.range 60).map fun k => .int (k : Nat)) (eZ ns nums t s2 (.val (.int r)) s4 s5) = .ok .nx (eZ ns nums' t s2 (.val (.int r')) s4' s5) := by
  obtain ⟨s', n', e, l1, nums', r', s4', h1, h2, h3, rfl⟩ := forLoop_inv (f := fun d s => ofOpt (MP.assign (.nm 4) d s) fun s3 => evalSs cf 100000 bigB s3) (fun n s => ∃ nums' r' s4', 0 ≤ r' ∧ goodN nums' ∧ nums'.length ≤ nums.length + n ∧ s = eZ ns nums' t s2 (.val (.int r')) s4' s5) 60 ((List.range 60).map fun k => .int (k : Nat)) 0 (eZ ns nums t s2 (.val (.int r)) s4 s5)
    (by simp) ⟨nums, r, s4, hr, hg, by omega, rfl⟩ (fun x hx n s hn ⟨nums', r', s4', h1, h2, h3, h4⟩ => by
      subst h4
      obtain ⟨k, -, rfl⟩ := List.mem_map.mp hx
      obtain ⟨g, e, hg'⟩ := turn_big cf (ns := ns) (nums := nums') (t := t) s2 s4' s5 r' (k : Nat) h1 (by omega)
      have := Int.emod_nonneg r' (b := 1009) (by omega)
      have := Int.emod_lt_of_pos r' (b := 1009) (by omega)
      exact ⟨g, _, e, hg', nums' ++ [r' % 1009], r' / 1009, .val (.int (k : Nat)), Int.ediv_nonneg h1 (by omega), h2.snoc (by omega) (by omega), by rw [List.length_append, List.length_singleton]; omega, rfl⟩)
  exact ⟨nums', r', s4', h2, by omega, e⟩
theorem turn_sma (cf : CF) {ns nums : List Int} {t : Sto} (s2 s3 s4 : MP.Slot) (r k : Int) (hr : 0 ≤ r ∧ r < 2147483647) (hk : 0 ≤ k ∧ k ≤ 100) (hl : nums.length < 1000000) :
    ∃ r' i : Int, (0 ≤ r' ∧ r' < 2147483647) ∧ (0 ≤ i ∧ i ≤ 1008) ∧ ofOpt (MP.assign (.nm 4) (.int k) (eZ ns nums t s2 s3 s4 (.val (.int r)))) (fun s3 => evalSs cf 100000 smaB s3) = .ok .nx (eZ ns (nums ++ [i]) t s2 s3 (.val (.int k)) (.val (.int r'))) := by
  have q1 : prim .mul [.int r, .int 48271] = some (.int (r * 48271)) := by
    show (if mulOk r 48271 then some (D.int (r * 48271)) else none) = _
    rw [if_pos (mulOk_of (by omega) (by decide))]
  have q2 : prim .mul [.int 7, .int k] = some (.int (7 * k)) := by
    show (if mulOk 7 k then some (D.int (7 * k)) else none) = _
    rw [if_pos (mulOk_of (by decide) (by omega))]
  have q3 : prim .add [.int (r * 48271), .int (7 * k)] = some (.int (r * 48271 + 7 * k)) := rfl
  have q4 : prim .add [.int (r * 48271 + 7 * k), .int 11] = some (.int (r * 48271 + 7 * k + 11)) := rfl
  have q5 : prim .int1 [.int (r * 48271 + 7 * k + 11)] = some (.int (r * 48271 + 7 * k + 11)) := rfl
  have q6 := p_mod_pos (r * 48271 + 7 * k + 11) 2147483647 (by omega)
  have b1 := Int.emod_nonneg (r * 48271 + 7 * k + 11) (b := 2147483647) (by omega)
  have b2 := Int.emod_lt_of_pos (r * 48271 + 7 * k + 11) (b := 2147483647) (by omega)
  generalize (r * 48271 + 7 * k + 11) % 2147483647 = u at *
  have q7 : prim .mul [.int u, .int 69621] = some (.int (u * 69621)) := by
    show (if mulOk u 69621 then some (D.int (u * 69621)) else none) = _
    rw [if_pos (mulOk_of (by omega) (by decide))]
  have q8 : prim .add [.int (u * 69621), .int k] = some (.int (u * 69621 + k)) := rfl
  have q9 : prim .int1 [.int (u * 69621 + k)] = some (.int (u * 69621 + k)) := rfl
  have q10 := p_mod_pos (u * 69621 + k) 2147483629 (by omega)
  generalize (u * 69621 + k) % 2147483629 = v at *
  have q11 := p_mod_pos v 1009 (by omega)
  have b3 := Int.emod_nonneg v (b := 1009) (by omega)
  have b4 := Int.emod_lt_of_pos v (b := 1009) (by omega)
  refine ⟨u, v % 1009, ⟨b1, b2⟩, ⟨b3, by omega⟩, ?_⟩
  have as : MP.assign (.nm 4) (.int k) (eZ ns nums t s2 s3 s4 (.val (.int r))) = some (eZ ns nums t s2 s3 (.val (.int k)) (.val (.int r))) := by simp [MP.assign, eZ]
  have st1 : evalS cf 100000 sma1 (eZ ns nums t s2 s3 (.val (.int k)) (.val (.int r))) = .ok .nx (eZ ns nums t s2 s3 (.val (.int k)) (.val (.int u))) := by
    simp [eZ, rdVar, q1, q2, q3, q4, q5, q6, MP.assign]
  have st2 : evalS cf 100000 sma2 (eZ ns nums t s2 s3 (.val (.int k)) (.val (.int u))) = .ok .nx (eZ ns (nums ++ [v % 1009]) t s2 s3 (.val (.int k)) (.val (.int u))) := by
    have := st_app_ok (cf := cf) (wf := 100000) (i := 1) (e := (.prim .mod (.cons (.prim .mod (.cons (.prim .int1 (.cons (.prim .add (.cons (.prim .mul (.cons (.var 5) (.cons (.con (.int 69621)) .nil))) (.cons (.var 4) .nil))) .nil)) (.cons (.con (.int 2147483629)) .nil))) (.cons (.con (.int 1009)) .nil)))) (s := eZ ns nums t s2 s3 (.val (.int k)) (.val (.int u))) (s' := eZ ns nums t s2 s3 (.val (.int k)) (.val (.int u))) (ys := nums.map .int) (xs := nums.map .int) (d := .int (v % 1009)) rfl (by simp [eZ, rdVar, q7, q8, q9, q10, q11]) rfl (by simpa using hl)
    rw [this]
    simp [eZ]
  rw [as, ofOpt_some, evalSs_one st1, seqR_nx, evalSs_one st2, seqR_nx, ss_nil']
theorem loop_sma (cf : CF) {ns nums : List Int} {t : Sto} (s2 s3 s4 : MP.Slot) (r : Int) (hr : 0 ≤ r ∧ r < 2147483647) (hg : goodN nums) (hl : nums.length ≤ 10000) :
    ∃ nums' r' s4', goodN nums' ∧ nums'.length ≤ nums.length + 60 ∧ forLoop (fun d s => ofOpt (MP.assign (.nm 4) d s) fun s3 => evalSs cf 100000 smaB s3) ((List.range 10).map fun k => .int (k : Nat)) (eZ ns nums t s2 s3 s4 (.val (.int r))) = .ok .nx (eZ ns nums' t s2 s3 s4' (.val (.int r'))) := by
  obtain ⟨s', n', e, l1, nums', r', s4', h1, h2, h3, rfl⟩ := forLoop_inv (f := fun d s => ofOpt (MP.assign (.nm 4) d s) fun s3 => evalSs cf 100000 smaB s3) (fun n s => ∃ nums' r' s4', (0 ≤ r' ∧ r' < 2147483647) ∧ goodN nums' ∧ nums'.length ≤ nums.length + n ∧ s = eZ ns nums' t s2 s3 s4' (.val (.int r'))) 10 ((List.range 10).map fun k => .int (k : Nat)) 0 (eZ ns nums t s2 s3 s4 (.val (.int r)))
    (by simp) ⟨nums, r, s4, hr, hg, by omega, rfl⟩ (fun x hx n s hn ⟨nums', r', s4', h1, h2, h3, h4⟩ => by
      subst h4
      obtain ⟨k, hk, rfl⟩ := List.mem_map.mp hx
      have hk := List.mem_range.mp hk
      obtain ⟨u, i, b1, b2, e⟩ := turn_sma cf (ns := ns) (nums := nums') (t := t) s2 s3 s4' r' (k : Nat) h1 (by omega) (by omega)
      exact ⟨.nx, _, e, .inl rfl, nums' ++ [i], u, .val (.int (k : Nat)), b1, h2.snoc b2.1 b2.2, by rw [List.length_append, List.length_singleton]; omega, rfl⟩)
  exact ⟨nums', r', s4', h2, by omega, e⟩
abbrev outB : PB := (.cons (.set (.nm 3) (.prim .abs (.cons (.prim .int1 (.cons (.var 2) .nil)) .nil))) (.cons (.ife (.prim .ge (.cons (.var 3) (.cons (.prim .pow (.cons (.con (.int 10)) (.cons (.con (.int 18)) .nil))) .nil))) (.cons (.forr (.nm 4) (.rng1 (.con (.int 60))) bigB) .nil) (.cons (.set (.nm 5) (.prim .mod (.cons (.prim .int1 (.cons (.var 3) .nil)) (.cons (.con (.int 2147483647)) .nil)))) (.cons (.forr (.nm 4) (.rng1 (.con (.int 10))) smaB) .nil))) .nil))
theorem turn_out (cf : CF) {ns nums : List Int} {t : Sto} (s2 s3 s4 s5 : MP.Slot) (i : Int) (hg : goodN nums) (hl : nums.length ≤ 10000) :
    ∃ nums' r2 r3 r4 r5, goodN nums' ∧ nums'.length ≤ nums.length + 60 ∧ ofOpt (MP.assign (.nm 2) (.int i) (eZ ns nums t s2 s3 s4 s5)) (fun s3 => evalSs cf 100000 outB s3) = .ok .nx (eZ ns nums' t r2 r3 r4 r5) := by
  have q1 : prim .int1 [.int i] = some (.int i) := rfl
  have q2 : prim .abs [.int i] = some (.int (if i < 0 then -i else i)) := rfl
  have r0 : 0 ≤ (if i < 0 then -i else i) := by split <;> omega
  generalize (if i < 0 then -i else i) = r at *
  have q3 : prim .pow [.int 10, .int 18] = some (.int 1000000000000000000) := by
    show (if 0 ≤ (18 : Int) ∧ (18 : Int) ≤ 1000 ∧ (10 : Int).natAbs < 2 ^ 64 then some (D.int ((10 : Int) ^ (18 : Int).toNat)) else none) = _
    rw [if_pos (by decide)]
    rfl
  have q4 := p_ge_int r 1000000000000000000
  have as : MP.assign (.nm 2) (.int i) (eZ ns nums t s2 s3 s4 s5) = some (eZ ns nums t (.val (.int i)) s3 s4 s5) := by simp [MP.assign, eZ]
  have st1 : evalS cf 100000 (.set (.nm 3) (.prim .abs (.cons (.prim .int1 (.cons (.var 2) .nil)) .nil))) (eZ ns nums t (.val (.int i)) s3 s4 s5) = .ok .nx (eZ ns nums t (.val (.int i)) (.val (.int r)) s4 s5) := by simp [eZ, rdVar, q1, q2, MP.assign]
  have cd : evalE cf (.prim .ge (.cons (.var 3) (.cons (.prim .pow (.cons (.con (.int 10)) (.cons (.con (.int 18)) .nil))) .nil))) (eZ ns nums t (.val (.int i)) (.val (.int r)) s4 s5) = .ok (.bl (decide (r ≥ 1000000000000000000))) (eZ ns nums t (.val (.int i)) (.val (.int r)) s4 s5) := by simp [eZ, rdVar, q3, q4]
  rw [as, ofOpt_some, evalSs_one st1, seqR_nx, ss_cons', st_if, cd]
  simp only [bind_ok]
  by_cases z : r ≥ 1000000000000000000
  · obtain ⟨nums', r', s4', g1, g2, e⟩ := loop_big cf (ns := ns) (t := t) (.val (.int i)) s4 s5 r r0 hg hl
    refine ⟨nums', .val (.int i), .val (.int r'), s4', s5, g1, g2, ?_⟩
    have it : evalI cf (.rng1 (.con (.int 60))) (eZ ns nums t (.val (.int i)) (.val (.int r)) s4 s5) = .ok ((List.range 60).map fun k => .int (k : Nat)) (eZ ns nums t (.val (.int i)) (.val (.int r)) s4 s5) := by
      have := rngL_nat 60
      simp only [evI_rng1, ev_con, bind_ok, rng1R_int]
      rw [if_pos (by decide)]
      exact congrArg (fun l => Out.ok l _) this
    rw [decide_eq_true z, ifR_t, ss_cons', st_forr, it]
    simp only [bind_ok]
    rw [e]
    simp
  · have q5 : prim .int1 [.int r] = some (.int r) := rfl
    have q6 := p_mod_pos r 2147483647 (by omega)
    have b1 := Int.emod_nonneg r (b := 2147483647) (by omega)
    have b2 := Int.emod_lt_of_pos r (b := 2147483647) (by omega)
    have st2 : evalS cf 100000 (.set (.nm 5) (.prim .mod (.cons (.prim .int1 (.cons (.var 3) .nil)) (.cons (.con (.int 2147483647)) .nil)))) (eZ ns nums t (.val (.int i)) (.val (.int r)) s4 s5) = .ok .nx (eZ ns nums t (.val (.int i)) (.val (.int r)) s4 (.val (.int (r % 2147483647)))) := by simp [eZ, rdVar, q5, q6, MP.assign]
    obtain ⟨nums', r', s4', g1, g2, e⟩ := loop_sma cf (ns := ns) (t := t) (.val (.int i)) (.val (.int r)) s4 (r % 2147483647) ⟨b1, b2⟩ hg hl
    refine ⟨nums', .val (.int i), .val (.int r), s4', .val (.int r'), g1, g2, ?_⟩
    have it : evalI cf (.rng1 (.con (.int 10))) (eZ ns nums t (.val (.int i)) (.val (.int r)) s4 (.val (.int (r % 2147483647)))) = .ok ((List.range 10).map fun k => .int (k : Nat)) (eZ ns nums t (.val (.int i)) (.val (.int r)) s4 (.val (.int (r % 2147483647)))) := by
      have := rngL_nat 10
      simp only [evI_rng1, ev_con, bind_ok, rng1R_int]
      rw [if_pos (by decide)]
      exact congrArg (fun l => Out.ok l _) this
    rw [decide_eq_false z, ifR_f, evalSs_one st2, seqR_nx, ss_cons', st_forr, it]
    simp only [bind_ok]
    rw [e]
    simp
theorem sp_stream (m : Nat) (ns : List Int) (t : Sto) (hl : ns.length ≤ 63) : ∃ nums : List Int, NumsOk nums ∧ callF FF 100000 (m + 1) 14 [.scr ns] t = .ok (.lst (nums.map .int)) t := by
  have hF : FF[14]? = some ⟨1, 6, b_law_stream⟩ := rfl
  obtain ⟨s', n', e, l1, nums', r2, r3, r4, r5, h2, h3, rfl⟩ := forLoop_inv (f := fun d s => ofOpt (MP.assign (.nm 2) d s) fun s3 => evalSs (callF FF 100000 m) 100000 outB s3) (fun n s => ∃ nums' r2 r3 r4 r5, goodN nums' ∧ nums'.length ≤ 60 * n ∧ s = eZ ns nums' t r2 r3 r4 r5) 63 (ns.map .int) 0 (eZ ns [] t .unb .unb .unb .unb)
    (by simp; omega) ⟨[], .unb, .unb, .unb, .unb, (by intro n hn; cases hn), by simp, rfl⟩ (fun x hx n s hn ⟨nums', r2, r3, r4, r5, h2, h3, h4⟩ => by
      subst h4
      obtain ⟨i, -, rfl⟩ := List.mem_map.mp hx
      obtain ⟨nums2, u2, u3, u4, u5, g1, g2, e⟩ := turn_out (callF FF 100000 m) (ns := ns) (nums := nums') (t := t) r2 r3 r4 r5 i h2 (by omega)
      exact ⟨.nx, _, e, .inl rfl, nums2, u2, u3, u4, u5, g1, by omega, rfl⟩)
  have st1 : evalS (callF FF 100000 m) 100000 (.own 1 (.lst .nil)) { loc := [D.scr ns].map .val ++ List.replicate (6 - 1) .unb, sto := t } = .ok .nx (eZ ns [] t .unb .unb .unb .unb) := st_own_ok (xs := []) (s' := { loc := [.val (.scr ns), .unb, .unb, .unb, .unb, .unb], sto := t }) (by simp) (by simp)
  have q1 : prim .sl01 [.scr ns, .int 63] = some (.lst (ns.map .int)) := by
    show some (D.lst (MP.cut (ns.map D.int) none (some (63 : Int)))) = _
    have a : HT.sIx (ns.map D.int).length 0 none = 0 := rfl
    have b : HT.sIx (ns.map D.int).length (ns.map D.int).length (some (63 : Int)) = min 63 ns.length := by
      show (if (63 : Int) < 0 then ((63 : Int) + (((ns.map D.int).length : Nat) : Int)).toNat else min (63 : Int).toNat (ns.map D.int).length) = _
      rw [if_neg (by omega), List.length_map]
      rfl
    unfold MP.cut
    rw [a, b, List.drop_zero, List.take_of_length_le (by rw [List.length_map]; omega)]
  have it : evalI (callF FF 100000 m) (.seq (.prim .sl01 (.cons (.var 0) (.cons (.con (.int 63)) .nil)))) (eZ ns [] t .unb .unb .unb .unb) = .ok (ns.map .int) (eZ ns [] t .unb .unb .unb .unb) := by
    simp [eZ, rdVar, q1, itemsOf]
  have start : callF FF 100000 (m + 1) 14 [.scr ns] t = runRes (evalSs (callF FF 100000 m) 100000 (.cons (.ife (.prim .eq (.cons (.prim .len (.cons (.peek 1) .nil)) (.cons (.con (.int 0)) .nil))) (.cons (.app 1 (.con (.int 0))) .nil) .nil) (.cons (.ret (.var 1)) .nil)) (eZ ns nums' t r2 r3 r4 r5)) := by
    rw [callF_succ, hF]
    show (if [D.scr ns].length = 1 then runRes (evalSs (callF FF 100000 m) 100000 b_law_stream { loc := [D.scr ns].map .val ++ List.replicate (6 - 1) .unb, sto := t }) else .bad) = _
    rw [if_pos (show [D.scr ns].length = 1 from rfl)]
    unfold b_law_stream
    rw [evalSs_one st1, seqR_nx, ss_cons', st_forr, it]
    simp only [bind_ok]
    rw [e]
    simp only [bind_ok, seqR_nx]
  have q2 : prim .len [.lst (nums'.map .int)] = some (.int nums'.length) := by
    show some (D.int ((nums'.map D.int).length : Nat)) = _
    rw [List.length_map]
  have q3 := p_eq_int nums'.length 0
  by_cases z : (nums'.length : Int) = 0
  · have z' : nums' = [] := List.length_eq_zero_iff.mp (by omega)
    subst z'
    refine ⟨[0], ⟨by simp, by simp, by simp⟩, ?_⟩
    have ap : evalS (callF FF 100000 m) 100000 (.app 1 (.con (.int 0))) (eZ ns [] t r2 r3 r4 r5) = .ok .nx (eZ ns [0] t r2 r3 r4 r5) := st_app_ok (ys := []) (xs := []) (s' := eZ ns [] t r2 r3 r4 r5) (d := .int 0) rfl (by simp) rfl (by simp)
    have cd : evalE (callF FF 100000 m) (.prim .eq (.cons (.prim .len (.cons (.peek 1) .nil)) (.cons (.con (.int 0)) .nil))) (eZ ns [] t r2 r3 r4 r5) = .ok (.bl true) (eZ ns [] t r2 r3 r4 r5) := by
      have q2' : prim .len [.lst []] = some (.int 0) := rfl
      have q3' : prim .eq [.int 0, .int 0] = some (.bl true) := p_eq_int 0 0
      simp [eZ, rdPeek, q2', q3']
    rw [start, ss_cons', st_if, cd]
    simp only [bind_ok, ifR_t]
    rw [evalSs_one ap, seqR_nx, ss_nil']
    simp [eZ, rdVar]
  · refine ⟨nums', ⟨fun e => z (by rw [e]; rfl), by omega, h2⟩, ?_⟩
    rw [decide_eq_false z] at q3
    have cd : evalE (callF FF 100000 m) (.prim .eq (.cons (.prim .len (.cons (.peek 1) .nil)) (.cons (.con (.int 0)) .nil))) (eZ ns nums' t r2 r3 r4 r5) = .ok (.bl false) (eZ ns nums' t r2 r3 r4 r5) := by
      simp [eZ, rdPeek, q2, q3]
    rw [start, ss_cons', st_if, cd]
    simp only [bind_ok, ifR_f, ss_nil', seqR_nx]
    simp [eZ, rdVar]
def WordP (n : Nat) (w : Str) : Prop := ∃ a l, w = ⟨(a :: l).toArray⟩ ∧ a ∈ firs.cps.toList ∧ (∀ c ∈ l, c ∈ sigs.cps.toList) ∧ l.length ≤ n
theorem firs_sig : ∀ c ∈ firs.cps.toList, c ∈ sigs.cps.toList := by decide +kernel
theorem firs_len : firs.cps.toList.length = 26 := by decide +kernel
theorem sigs_len : sigs.cps.toList.length = 36 := by decide +kernel
theorem WordP.nameOk {n : Nat} {w : Str} (h : WordP n w) (hn : n ≤ 11) (ny : w ≠ ("any" : Str)) : NameOk w := by
  obtain ⟨a, l, rfl, h1, h2, h3⟩ := h
  refine ⟨by simp, by simp; omega, ny, by simpa using h1, ?_⟩
  intro c hc
  have hc : c ∈ a :: l := by simpa using hc
  rcases List.mem_cons.mp hc with rfl | hc
  · exact firs_sig _ h1
  · exact h2 c hc
theorem WordP.ok {n : Nat} {w : Str} (h : WordP n w) : PyData.strOk w = true := by
  obtain ⟨a, l, rfl, h1, h2, h3⟩ := h
  rw [ok1_iff]
  intro c hc
  have hc : c ∈ a :: l := by simpa using hc
  rcases List.mem_cons.mp hc with rfl | hc
  · exact sig_small _ (firs_sig _ h1)
  · exact sig_small _ (h2 c hc)
theorem WordP.snoc {n : Nat} {w : Str} (h : WordP n w) {ch : Nat} (hc : ch ∈ sigs.cps.toList) : WordP (n + 1) (w ++ (⟨#[ch]⟩ : Str)) := by
  obtain ⟨a, l, rfl, h1, h2, h3⟩ := h
  refine ⟨a, l ++ [ch], ?_, h1, ?_, by simp; omega⟩
  · show Str.mk ((a :: l).toArray ++ #[ch]) = _
    simp
  · intro c hx
    rcases List.mem_append.mp hx with hx | hx
    · exact h2 c hx
    · rw [List.mem_singleton.mp hx]; exact hc
theorem WordP.len {n : Nat} {w : Str} (h : WordP n w) : w.length ≤ n + 1 := by
  obtain ⟨a, l, rfl, h1, h2, h3⟩ := h
  show (a :: l).toArray.size ≤ _
  simp; omega
theorem WordP.mono {n k : Nat} {w : Str} (h : WordP n w) (hk : n ≤ k) : WordP k w := by
  obtain ⟨a, l, e, h1, h2, h3⟩ := h
  exact ⟨a, l, e, h1, h2, by omega⟩
theorem p_item_str (x : Str) (v : Int) (h0 : 0 ≤ v) (h1 : v < x.cps.toList.length) (hx : x.cps.toList.length ≤ 1000) : ∃ ch ∈ x.cps.toList, prim .item [.str x, .int v] = some (.str ⟨#[ch]⟩) := by
  obtain ⟨k, rfl⟩ : ∃ k : Nat, v = k := ⟨v.toNat, by omega⟩
  have hk : k < x.cps.toList.length := by omega
  refine ⟨x.cps.toList[k], List.getElem_mem hk, ?_⟩
  show (if x.length ≤ 16777216 then (L2.atI x.cps.toList (k : Int)).map fun c => D.str ⟨#[c]⟩ else none) = _
  have e : x.length = x.cps.toList.length := by show x.cps.size = _; simp
  rw [if_pos (by omega), atI_nat _ _ hk, List.getElem?_eq_getElem hk]
  rfl
theorem p_add_str (x y : Str) (h : x.length + y.length ≤ 16777216) : prim .add [.str x, .str y] = some (.str (x ++ y)) := by
  show (if x.length + y.length ≤ 16777216 then some (D.str (x ++ y)) else none) = _
  rw [if_pos h]
theorem both_sigs : prim .add [.str firs, .str ("0123456789" : Str)] = some (.str sigs) := by
  rw [p_add_str _ _ (by decide +kernel)]
  have : firs ++ ("0123456789" : Str) = sigs := by decide +kernel
  rw [this]
def eU (nums : List Int) (c : Int) (w : Str) (s3 : MP.Slot) : S := { loc := [.val (.ref 0), .val (.str firs), .val (.str w), s3], sto := St nums c }
abbrev wordB : PB := (.cons (.set (.nm 2) (.prim .add (.cons (.var 2) (.cons (.prim .item (.cons (.prim .add (.cons (.var 1) (.cons (.con (.str "0123456789")) .nil))) (.cons (.call 15 (.cons (.var 0) (.cons (.con (.int 36)) .nil))) .nil))) .nil)))) .nil)
theorem turn_word (m : Nat) {nums : List Int} {c : Int} (h : NumsOk nums) (hc : 0 ≤ c ∧ c ≤ 900000000) {n : Nat} {w : Str} (hw : WordP n w) (hn : n ≤ 100) (s3 : MP.Slot) (k : Int) :
    ∃ w', WordP (n + 1) w' ∧ ofOpt (MP.assign (.nm 3) (.int k) (eU nums c w s3)) (fun s3 => evalSs (callF FF 100000 (m + 1)) 100000 wordB s3) = .ok .nx (eU nums (c + 1) w' (.val (.int k))) := by
  obtain ⟨v, v0, v1, ev⟩ := sp_next m (c := c) (many := 36) h (by omega) (by omega)
  obtain ⟨ch, hch, it⟩ := p_item_str sigs v v0 (by rw [sigs_len]; exact v1) (by rw [sigs_len]; omega)
  have e0 : ∀ s : S, s.sto = St nums c → callO (callF FF 100000 (m + 1)) 15 [.ref 0, .int 36] s = .ok (.int v) { s with sto := St nums (c + 1) } := fun s hs => call_to hs ev
  have ad := p_add_str w ⟨#[ch]⟩ (by have := hw.len; show w.length + 1 ≤ _; omega)
  refine ⟨w ++ (⟨#[ch]⟩ : Str), hw.snoc hch, ?_⟩
  simp [MP.assign, eU, rdVar, both_sigs, e0, it, ad]
theorem sp_word (m : Nat) {nums : List Int} {c : Int} (h : NumsOk nums) (hc : 0 ≤ c ∧ c ≤ 800000000) : ∃ (w : Str) (c' : Int), WordP 11 w ∧ (c ≤ c' ∧ c' ≤ c + 20) ∧ callF FF 100000 (m + 2) 16 [.ref 0] (St nums c) = .ok (.str w) (St nums c') := by
  have hF : FF[16]? = some ⟨1, 4, b_law_word⟩ := rfl
  obtain ⟨v, v0, v1, ev⟩ := sp_next m (c := c) (many := 26) h (by omega) (by omega)
  obtain ⟨u, u0, u1, ev2⟩ := sp_next m (c := c + 1) (many := 4) h (by omega) (by omega)
  obtain ⟨ch, hch, it⟩ := p_item_str firs v v0 (by rw [firs_len]; exact v1) (by rw [firs_len]; omega)
  have e0 : ∀ s : S, s.sto = St nums c → callO (callF FF 100000 (m + 1)) 15 [.ref 0, .int 26] s = .ok (.int v) { s with sto := St nums (c + 1) } := fun s hs => call_to hs ev
  have e1 : ∀ s : S, s.sto = St nums (c + 1) → callO (callF FF 100000 (m + 1)) 15 [.ref 0, .int 4] s = .ok (.int u) { s with sto := St nums (c + 1 + 1) } := fun s hs => call_to hs ev2
  have it2 : ∃ k : Nat, k ≤ 11 ∧ prim .item [.lst [.int 0, .int 1, .int 3, .int 11], .int u] = some (.int (k : Nat)) := by
    have : u = 0 ∨ u = 1 ∨ u = 2 ∨ u = 3 := by omega
    rcases this with rfl | rfl | rfl | rfl
    · exact ⟨0, by omega, rfl⟩
    · exact ⟨1, by omega, rfl⟩
    · exact ⟨3, by omega, rfl⟩
    · exact ⟨11, by omega, rfl⟩
  obtain ⟨k, hk, it2⟩ := it2
  obtain ⟨s', n', e, l1, w, c', s3, g1, g2, rfl⟩ := forLoop_inv (f := fun d s => ofOpt (MP.assign (.nm 3) d s) fun s3 => evalSs (callF FF 100000 (m + 1)) 100000 wordB s3) (fun n s => ∃ w c' s3, WordP n w ∧ (c + 2 ≤ c' ∧ c' ≤ c + 2 + n) ∧ s = eU nums c' w s3) 11 ((List.range k).map fun k => .int (k : Nat)) 0 (eU nums (c + 1 + 1) ⟨#[ch]⟩ .unb)
    (by simpa using hk) ⟨⟨#[ch]⟩, c + 1 + 1, .unb, ⟨ch, [], rfl, hch, by simp, by simp⟩, by omega, rfl⟩ (fun x hx n s hn ⟨w, c', s3, g1, g2, g3⟩ => by
      subst g3
      obtain ⟨k', -, rfl⟩ := List.mem_map.mp hx
      obtain ⟨w', g1', e'⟩ := turn_word m h (c := c') (by omega) g1 (by omega) s3 (k' : Nat)
      exact ⟨.nx, _, e', .inl rfl, w', c' + 1, .val (.int (k' : Nat)), g1', by omega, rfl⟩)
  refine ⟨w, c', g1.mono (by omega), by omega, ?_⟩
  rw [callF_succ, hF]
  show (if [D.ref 0].length = 1 then runRes (evalSs (callF FF 100000 (m + 1)) 100000 b_law_word { loc := [.val (.ref 0), .unb, .unb, .unb], sto := St nums c }) else .bad) = _
  rw [if_pos (show [D.ref 0].length = 1 from rfl)]
  unfold b_law_word
  have st1 : evalS (callF FF 100000 (m + 1)) 100000 (.set (.nm 1) (.con (.str "abcdefghijklmnopqrstuvwxyz"))) { loc := [.val (.ref 0), .unb, .unb, .unb], sto := St nums c } = .ok .nx { loc := [.val (.ref 0), .val (.str firs), .unb, .unb], sto := St nums c } := by
    simp [MP.assign]
    rfl
  have st2 : evalS (callF FF 100000 (m + 1)) 100000 (.set (.nm 2) (.prim .item (.cons (.var 1) (.cons (.call 15 (.cons (.var 0) (.cons (.con (.int 26)) .nil))) .nil)))) { loc := [.val (.ref 0), .val (.str firs), .unb, .unb], sto := St nums c } = .ok .nx (eU nums (c + 1) ⟨#[ch]⟩ .unb) := by
    simp [MP.assign, rdVar, e0, it, eU]
  have itv : evalI (callF FF 100000 (m + 1)) (.rng1 (.prim .item (.cons (.lst (.cons (.con (.int 0)) (.cons (.con (.int 1)) (.cons (.con (.int 3)) (.cons (.con (.int 11)) .nil))))) (.cons (.call 15 (.cons (.var 0) (.cons (.con (.int 4)) .nil))) .nil)))) (eU nums (c + 1) ⟨#[ch]⟩ .unb) = .ok ((List.range k).map fun k => .int (k : Nat)) (eU nums (c + 1 + 1) ⟨#[ch]⟩ .unb) := by
    have sm : smallI (k : Int) = true := by unfold smallI; simp; omega
    simp [eU, rdVar, e1, it2, sm, rngL_nat]
  rw [evalSs_one st1, seqR_nx, evalSs_one st2, seqR_nx, ss_cons', st_forr, itv]
  simp only [bind_ok]
  rw [e]
  simp [eU, rdVar]
theorem p_in_lst {x : Str} {ys : List Str} (hx : PyData.strOk x = true) (h : okStrs ys) : prim .isIn [.str x, .lst (ys.map .str)] = some (.bl (decide (x ∈ ys))) := by
  show p_isIn [.str x, .lst (ys.map .str)] = _
  unfold p_isIn
  simp only [inOk_strs hx h, inD_strs, if_true]
theorem p_notIn_lst {x : Str} {ys : List Str} (hx : PyData.strOk x = true) (h : okStrs ys) : prim .notIn [.str x, .lst (ys.map .str)] = some (.bl (!decide (x ∈ ys))) := by
  show p_notIn [.str x, .lst (ys.map .str)] = _
  unfold p_notIn
  simp only [inOk_strs hx h, inD_strs, if_true]
theorem digit_str (k : Nat) (h : k ≤ 9) : prim .str1 [.int (k : Nat)] = some (.str ⟨#[48 + k]⟩) := by
  have : ∀ j : Fin 10, (if ((j.val : Nat) : Int).natAbs.log2 < 1920 then some (Str.ofString (toString ((j.val : Nat) : Int))) else none) = some (⟨#[48 + j.val]⟩ : Str) := by decide +kernel
  have e := this ⟨k, by omega⟩
  show (if ((k : Nat) : Int).natAbs.log2 < 1920 then some (strD (k : Nat)) else none) = _
  split at e
  · rename_i hh
    rw [if_pos hh]
    have e := Option.some.inj e
    unfold strD
    rw [e]
  · cases e
theorem sig_digit : ∀ k : Fin 10, 48 + k.val ∈ sigs.cps.toList := by decide +kernel
theorem q_str : ("q" : Str) = ⟨#[113]⟩ := by decide +kernel
theorem any_list : ("any" : Str).cps.toList = [97, 110, 121] := by decide +kernel
theorem sig_q : 113 ∈ sigs.cps.toList := by decide +kernel
theorem bend_word {w : Str} (h : WordP 11 w) (k : Nat) (hk : k ≤ 9) : ∃ y : Str, prim .sl01 [.str w, .int 8] = some (.str y) ∧ prim .add [.str y, .str ("q" : Str)] = some (.str (y ++ ("q" : Str))) ∧ prim .add [.str (y ++ ("q" : Str)), .str ⟨#[48 + k]⟩] = some (.str (y ++ ("q" : Str) ++ ⟨#[48 + k]⟩)) ∧ NameOk (y ++ ("q" : Str) ++ (⟨#[48 + k]⟩ : Str)) := by
  have hl := h.len
  obtain ⟨a, l, e, h1, h2, h3⟩ := h
  refine ⟨⟨(a :: l.take 7).toArray⟩, ?_, ?_, ?_, ?_⟩
  · show (if w.length ≤ 16777216 then some (D.str (L2.cutS w none (some 8))) else none) = _
    rw [if_pos (by omega)]
    congr 2
    unfold L2.cutS
    have z1 : HT.sIx w.length 0 none = 0 := rfl
    have z2 : HT.sIx w.length w.length (some 8) = min 8 w.length := by
      show (if (8 : Int) < 0 then ((8 : Int) + (w.length : Int)).toNat else min (8 : Int).toNat w.length) = _
      rw [if_neg (by omega)]
      rfl
    have z3 : w.length = l.length + 1 := by rw [e]; show (a :: l).toArray.size = _; simp
    have z4 : w.cps.toList = a :: l := by rw [e]
    rw [z1, z2, z4, z3, List.drop_zero, Nat.sub_zero]
    congr 2
    by_cases hh : l.length + 1 ≤ 8
    · rw [show min 8 (l.length + 1) = l.length + 1 by omega, List.take_succ_cons, List.take_length, List.take_of_length_le (show l.length ≤ 7 by omega)]
    · rw [show min 8 (l.length + 1) = 8 by omega, List.take_succ_cons]
  · exact p_add_str _ _ (by
      rw [q_str]
      show (a :: l.take 7).toArray.size + 1 ≤ _
      simp; omega)
  · refine p_add_str _ _ ?_
    rw [q_str]
    show ((a :: l.take 7).toArray ++ #[113]).size + 1 ≤ _
    simp; omega
  · rw [q_str]
    have e2 : ((⟨(a :: l.take 7).toArray⟩ : Str) ++ (⟨#[113]⟩ : Str) ++ (⟨#[48 + k]⟩ : Str)) = ⟨(a :: (l.take 7 ++ [113, 48 + k])).toArray⟩ := by
      show Str.mk ((a :: l.take 7).toArray ++ #[113] ++ #[48 + k]) = _
      simp
    have W : WordP 9 ⟨(a :: (l.take 7 ++ [113, 48 + k])).toArray⟩ := by
      refine ⟨a, _, rfl, h1, ?_, by simp; omega⟩
      intro c hc
      rcases List.mem_append.mp hc with hc | hc
      · exact h2 c (List.mem_of_mem_take hc)
      · rcases List.mem_cons.mp hc with rfl | hc
        · exact sig_q
        · rw [List.mem_singleton.mp hc]
          exact sig_digit ⟨k, by omega⟩
    rw [e2]
    refine W.nameOk (by omega) fun z => ?_
    have z := congrArg (fun s : Str => s.cps.toList) z
    simp only [any_list] at z
    injection z with z1 z2
    have zl := congrArg List.length z2
    simp at zl
    have : l = [] := by
      rcases l with _ | ⟨b, l⟩
      · rfl
      · simp at zl
    subst this
    simp at z2
def eV (nums : List Int) (c : Int) (found : Row) (many : Int) (s3 s4 : MP.Slot) : S := { loc := [.val (.ref 0), .val (.int many), .own (found.map .str), s3, s4], sto := St nums c }
structure FoundOk (found : Row) : Prop where
  nm : ∀ x ∈ found, NameOk x
  nd : found.Nodup
theorem FoundOk.ok {found : Row} (h : FoundOk found) : okStrs found := fun x hx => (h.nm x hx).ok
abbrev tex1 : PS := (.set (.nm 4) (.call 16 (.cons (.var 0) .nil)))
abbrev tex2 : PS := (.ife (.bop false (.cons (.prim .isIn (.cons (.var 4) (.cons (.peek 2) .nil))) (.cons (.prim .eq (.cons (.var 4) (.cons (.con (.str "any")) .nil))) .nil))) (.cons (.set (.nm 4) (.prim .add (.cons (.prim .add (.cons (.prim .sl01 (.cons (.var 4) (.cons (.con (.int 8)) .nil))) (.cons (.con (.str "q")) .nil))) (.cons (.prim .str1 (.cons (.var 3) .nil)) .nil)))) .nil) .nil)
abbrev tex3 : PS := (.ife (.prim .notIn (.cons (.var 4) (.cons (.peek 2) .nil))) (.cons (.app 2 (.var 4)) .nil) .nil)
theorem turn_texts (m : Nat) {nums : List Int} {c many : Int} (h : NumsOk nums) (hc : 0 ≤ c ∧ c ≤ 700000000) {found : Row} (hf : FoundOk found) (hl : found.length ≤ 1000) (s3 s4 : MP.Slot) (k : Nat) (hk : k ≤ 9) :
    ∃ found' c' r4, FoundOk found' ∧ found'.length ≤ found.length + 1 ∧ (c ≤ c' ∧ c' ≤ c + 20) ∧ ofOpt (MP.assign (.nm 3) (.int (k : Nat)) (eV nums c found many s3 s4)) (fun s3 => evalSs (callF FF 100000 (m + 2)) 100000 (.cons tex1 (.cons tex2 (.cons tex3 .nil))) s3) = .ok .nx (eV nums c' found' many (.val (.int (k : Nat))) r4) := by
  obtain ⟨w, c', hw, hc', ew⟩ := sp_word m h (c := c) (by omega)
  have e0 : ∀ s : S, s.sto = St nums c → callO (callF FF 100000 (m + 2)) 16 [.ref 0] s = .ok (.str w) { s with sto := St nums c' } := fun s hs => call_to hs ew
  have as : MP.assign (.nm 3) (.int (k : Nat)) (eV nums c found many s3 s4) = some (eV nums c found many (.val (.int (k : Nat))) s4) := by simp [MP.assign, eV]
  have st1 : evalS (callF FF 100000 (m + 2)) 100000 tex1 (eV nums c found many (.val (.int (k : Nat))) s4) = .ok .nx (eV nums c' found many (.val (.int (k : Nat))) (.val (.str w))) := by
    simp [MP.assign, eV, rdVar, e0]
  have p1 := p_in_lst hw.ok hf.ok
  have p2 := p_eq_str hw.ok any_ok
  have st2 : ∃ v, NameOk v ∧ evalS (callF FF 100000 (m + 2)) 100000 tex2 (eV nums c' found many (.val (.int (k : Nat))) (.val (.str w))) = .ok .nx (eV nums c' found many (.val (.int (k : Nat))) (.val (.str v))) := by
    by_cases z : w ∈ found ∨ w = ("any" : Str)
    · obtain ⟨y, y1, y2, y3, y4⟩ := bend_word hw k hk
      have y5 := digit_str k hk
      refine ⟨_, y4, ?_⟩
      have cd : evalE (callF FF 100000 (m + 2)) (.bop false (.cons (.prim .isIn (.cons (.var 4) (.cons (.peek 2) .nil))) (.cons (.prim .eq (.cons (.var 4) (.cons (.con (.str "any")) .nil))) .nil))) (eV nums c' found many (.val (.int (k : Nat))) (.val (.str w))) = .ok (.bl true) (eV nums c' found many (.val (.int (k : Nat))) (.val (.str w))) := by
        by_cases z1 : w ∈ found
        · simp [eV, rdVar, rdPeek, p1, z1]
        · have z2 := z.resolve_left z1
          rw [decide_eq_true z2] at p2
          simp [eV, rdVar, rdPeek, p1, z1, p2]
      rw [st_if, cd]
      simp only [bind_ok, ifR_t]
      simp [eV, rdVar, y1, y2, y3, y5, MP.assign]
    · have z1 : w ∉ found := fun q => z (.inl q)
      have z2 : w ≠ ("any" : Str) := fun q => z (.inr q)
      refine ⟨w, hw.nameOk (by omega) z2, ?_⟩
      rw [decide_eq_false z2] at p2
      simp [eV, rdVar, rdPeek, p1, z1, p2]
  obtain ⟨v, hv, st2⟩ := st2
  have p3 := p_notIn_lst hv.ok hf.ok
  rw [as, ofOpt_some, evalSs_one st1, seqR_nx, evalSs_one st2, seqR_nx]
  by_cases z : v ∈ found
  · refine ⟨found, c', .val (.str v), hf, by omega, hc', ?_⟩
    simp [eV, rdVar, rdPeek, p3, z]
  · refine ⟨found ++ [v], c', .val (.str v), ⟨?_, ?_⟩, by simp, hc', ?_⟩
    · intro x hx
      rcases List.mem_append.mp hx with hx | hx
      · exact hf.nm x hx
      · rw [List.mem_singleton.mp hx]; exact hv
    · rw [List.nodup_append]
      refine ⟨hf.nd, by simp, fun x hx y hy e => ?_⟩
      rw [List.mem_singleton.mp hy] at e
      exact z (e ▸ hx)
    · have cd : evalE (callF FF 100000 (m + 2)) (.prim .notIn (.cons (.var 4) (.cons (.peek 2) .nil))) (eV nums c' found many (.val (.int (k : Nat))) (.val (.str v))) = .ok (.bl true) (eV nums c' found many (.val (.int (k : Nat))) (.val (.str v))) := by
        simp [eV, rdVar, rdPeek, p3, z]
      have ap : evalS (callF FF 100000 (m + 2)) 100000 (.app 2 (.var 4)) (eV nums c' found many (.val (.int (k : Nat))) (.val (.str v))) = .ok .nx (eV nums c' (found ++ [v]) many (.val (.int (k : Nat))) (.val (.str v))) := by
        have := st_app_ok (cf := callF FF 100000 (m + 2)) (wf := 100000) (i := 2) (e := .var 4) (s := eV nums c' found many (.val (.int (k : Nat))) (.val (.str v))) (s' := eV nums c' found many (.val (.int (k : Nat))) (.val (.str v))) (ys := found.map .str) (xs := found.map .str) (d := .str v) rfl (by simp [eV, rdVar]) rfl (by simp; omega)
        rw [this]
        simp [eV]
      rw [ss_cons', st_if, cd]
      simp only [bind_ok, ifR_t]
      rw [evalSs_one ap, seqR_nx, ss_nil']
      simp
theorem sp_texts (m : Nat) {nums : List Int} {c : Int} (many : Nat) (h : NumsOk nums) (hm : many ≤ 9) (hc : 0 ≤ c ∧ c ≤ 600000000) :
    ∃ (names : Row) (c' : Int), Names names ∧ names.length ≤ many ∧ (c ≤ c' ∧ c' ≤ c + 200) ∧ callF FF 100000 (m + 3) 17 [.ref 0, .int many] (St nums c) = .ok (setD names) (St nums c') := by
  have hF : FF[17]? = some ⟨2, 5, b_law_texts⟩ := rfl
  obtain ⟨s', n', e, l1, found, c', s3, s4, g1, g2, g3, rfl⟩ := forLoop_inv (f := fun d s => ofOpt (MP.assign (.nm 3) d s) fun s3 => evalSs (callF FF 100000 (m + 2)) 100000 (.cons tex1 (.cons tex2 (.cons tex3 .nil))) s3) (fun n s => ∃ found c' s3 s4, FoundOk found ∧ found.length ≤ n ∧ (c ≤ c' ∧ c' ≤ c + 20 * n) ∧ s = eV nums c' found many s3 s4) many ((List.range many).map fun k => .int (k : Nat)) 0 (eV nums c [] many .unb .unb)
    (by simp) ⟨[], c, .unb, .unb, ⟨by simp, by simp⟩, by simp, by omega, rfl⟩ (fun x hx n s hn ⟨found, c', s3, s4, g1, g2, g3, g4⟩ => by
      subst g4
      obtain ⟨k, hk, rfl⟩ := List.mem_map.mp hx
      have hk := List.mem_range.mp hk
      obtain ⟨f2, c2, r4, i1, i2, i3, i4⟩ := turn_texts m h (c := c') (many := many) (by omega) g1 (by omega) s3 s4 k (by omega)
      exact ⟨.nx, _, i4, .inl rfl, f2, c2, .val (.int (k : Nat)), r4, i1, by omega, by omega, rfl⟩)
  have perm := List.mergeSort_perm found (W.dataLe false fun x : Str => PyData.str x)
  refine ⟨found.mergeSort (W.dataLe false fun x : Str => PyData.str x), c', ⟨fun x hx => g1.nm x (perm.mem_iff.mp hx), sort_rising g1.nd, by rw [perm.length_eq]; omega⟩, by rw [perm.length_eq]; omega, by omega, ?_⟩
  rw [callF_succ, hF]
  show (if [D.ref 0, D.int many].length = 2 then runRes (evalSs (callF FF 100000 (m + 2)) 100000 b_law_texts { loc := [.val (.ref 0), .val (.int many), .unb, .unb, .unb], sto := St nums c }) else .bad) = _
  rw [if_pos (show [D.ref 0, D.int many].length = 2 from rfl)]
  unfold b_law_texts
  have st1 : evalS (callF FF 100000 (m + 2)) 100000 (.own 2 (.lst .nil)) { loc := [.val (.ref 0), .val (.int many), .unb, .unb, .unb], sto := St nums c } = .ok .nx (eV nums c [] many .unb .unb) := st_own_ok (xs := []) (s' := { loc := [.val (.ref 0), .val (.int many), .unb, .unb, .unb], sto := St nums c }) (by simp) (by simp)
  have it : evalI (callF FF 100000 (m + 2)) (.rng1 (.var 1)) (eV nums c [] many .unb .unb) = .ok ((List.range many).map fun k => .int (k : Nat)) (eV nums c [] many .unb .unb) := by
    have sm : smallI (many : Int) = true := by unfold smallI; simp; omega
    simp [eV, rdVar, sm, rngL_nat]
  have so : prim .sorted [.lst (found.map .str)] = some (.lst ((found.mergeSort (W.dataLe false fun x : Str => PyData.str x)).map .str)) := by
    rw [← sortD_strs]
    show (if sortOk (found.map D.str) then some (D.lst (sortD false (found.map D.str))) else none) = _
    rw [if_pos (sortOk_strs found (by omega))]
  rw [evalSs_one st1, seqR_nx, ss_cons', st_forr, it]
  simp only [bind_ok]
  rw [e]
  simp [eV, rdPeek, so, p_tuple_lst]
  rfl
theorem bulk_all {b : Nat} : ∀ {l : List D}, (∀ d ∈ l, d.pd.bulk ≤ b) → PyData.bulkAll (pdL l) ≤ (b + 1) * l.length
  | [], _ => by simp [pdL, PyData.bulkAll]
  | x :: xs, h => by
    have h1 := h x List.mem_cons_self
    have h2 := bulk_all (b := b) (l := xs) fun d hd => h d (List.mem_cons_of_mem _ hd)
    simp only [pdL, PyData.bulkAll, List.length_cons, Nat.mul_add, Nat.mul_one]
    omega
theorem bulk_tup (l : List D) : (D.tup l).pd.bulk = PyData.bulkAll (pdL l) := rfl
theorem bulk_lst (l : List D) : (D.lst l).pd.bulk = PyData.bulkAll (pdL l) := rfl
structure FineB (n b : Nat) (d : D) : Prop where
  f : fine n d = true
  b : d.pd.bulk ≤ b
theorem fineB_tup {n b k : Nat} {l : List D} (h : ∀ d ∈ l, FineB n b d) (hk : l.length ≤ k) : FineB (n + 1) ((b + 1) * k) (.tup l) := by
  refine ⟨?_, ?_⟩
  · simp only [fine, Nat.add_sub_cancel, fineL_all fun d hd => (h d hd).f]
    simp
  · rw [bulk_tup]
    exact Nat.le_trans (bulk_all fun d hd => (h d hd).b) (Nat.mul_le_mul_left _ hk)
theorem fineB_lst {n b k : Nat} {l : List D} (h : ∀ d ∈ l, FineB n b d) (hk : l.length ≤ k) : FineB (n + 1) ((b + 1) * k) (.lst l) := by
  refine ⟨?_, ?_⟩
  · simp only [fine, Nat.add_sub_cancel, fineL_all fun d hd => (h d hd).f]
    simp
  · rw [bulk_lst]
    exact Nat.le_trans (bulk_all fun d hd => (h d hd).b) (Nat.mul_le_mul_left _ hk)
theorem fine_mono : ∀ (n k : Nat) (d : D), n ≤ k → fine n d = true → fine k d = true := by
  have key : ∀ (n k : Nat), n ≤ k → (∀ d, fine n d = true → fine k d = true) := by
    intro n
    induction n with
    | zero =>
      intro k hk d h
      cases d <;> simp [fine] at h ⊢ <;> exact h
    | succ n ih =>
      intro k hk d h
      have step : ∀ l : List D, fineL n l = true → fineL (k - 1) l = true := fun l => by
        induction l with
        | nil => exact fun _ => rfl
        | cons x l ihl =>
          intro h
          simp only [fineL, Bool.and_eq_true] at h ⊢
          exact ⟨ih (k - 1) (by omega) x h.1, ihl h.2⟩
      cases d with
      | tup l =>
        simp only [fine, Nat.add_sub_cancel, Bool.and_eq_true, decide_eq_true_eq] at h ⊢
        exact ⟨by omega, step l h.2⟩
      | lst l =>
        simp only [fine, Nat.add_sub_cancel, Bool.and_eq_true, decide_eq_true_eq] at h ⊢
        exact ⟨by omega, step l h.2⟩
      | _ => simp [fine] at h ⊢ <;> exact h
  exact fun n k d hk => key n k hk d
theorem FineB.mono {n b n' b' : Nat} {d : D} (h : FineB n b d) (h1 : n ≤ n') (h2 : b ≤ b') : FineB n' b' d := ⟨fine_mono n n' d h1 h.f, Nat.le_trans h.b h2⟩
theorem fineB_name {x : Str} (h : NameOk x) : FineB 0 12 (.str x) := ⟨by simp only [fine]; exact h.ok, h.l2⟩
theorem fineB_bl (b : Bool) : FineB 0 0 (.bl b) := ⟨by simp [fine], Nat.le_refl _⟩
theorem fineB_non : FineB 0 0 .non := ⟨by simp [fine], Nat.le_refl _⟩
theorem fineB_int {i : Int} (h : i.natAbs < 999999999999) : FineB 0 0 (.int i) := ⟨by simp only [fine, decide_eq_true_eq]; exact h, Nat.le_refl _⟩
theorem fineB_told : FineB 0 4 (.str "told") := ⟨by simp only [fine]; decide +kernel, by decide +kernel⟩
theorem fineB_set {names l : Row} (g : Names names) (h : l.Sublist names) : FineB 1 156 (setD l) := by
  have := fineB_tup (n := 0) (b := 12) (k := 12) (l := l.map .str) (fun d hd => by
    obtain ⟨x, hx, rfl⟩ := List.mem_map.mp hd
    exact fineB_name (g.nm x (h.subset hx))) (by have := h.length_le; have := g.nl; simp; omega)
  exact this
theorem fineB_pair {n b : Nat} {d : D} (h : FineB n b d) (hn : 1 ≤ n + 1) : FineB (n + 1) ((max 4 b + 1) * 2) (.tup [.str "told", d]) :=
  fineB_tup (n := n) (b := max 4 b) (k := 2) (fun e he => by
    rcases List.mem_cons.mp he with rfl | he
    · exact fineB_told.mono (by omega) (by omega)
    · rw [List.mem_singleton.mp he]
      exact h.mono (by omega) (by omega)) (by simp)
theorem FineB.same (m : Nat) {n b : Nat} {d : D} (h : FineB n b d) (t : Sto) (hn : n ≤ 59) (hb : b ≤ 800000) : callF FF 100000 (m + 1) 13 [d, d] t = .ok (.bl true) t := sp_same m t h.f hn (Nat.le_trans h.b hb)
theorem eqD_set (a b : Row) : eqD (setD a) (setD b) = decide (a = b) := by
  unfold eqD
  show PyData.eqv (D.tup (a.map .str)).pd (D.tup (b.map .str)).pd = _
  simp only [D.pd, PyData.eqv, eqD_strs]
theorem p_ne_bl (a b : Bool) : prim .ne [.bl a, .bl b] = some (D.bl (a != b)) := by
  cases a <;> cases b <;> rfl
theorem p_ne_str {x y : Str} (hx : PyData.strOk x = true) (hy : PyData.strOk y = true) : prim .ne [.str x, .str y] = some (D.bl (!decide (x = y))) := by
  show (if eqOk (D.str x) (D.str y) then some (D.bl (!eqD (D.str x) (D.str y))) else none) = _
  have e : eqOk (D.str x) (D.str y) = true := by
    simp [eqOk, D.flat, D.pd, SeqAt.shaped, PyData.canLay0, PyData.depth, hx, hy]
  rw [if_pos e, eqD_str]
theorem told_ok : PyData.strOk ("told" : Str) = true := by decide +kernel
theorem ev_or2 {cf : CF} {a b : PE} {s : S} (ha : evalE cf a s = .ok (.bl false) s) (hb : evalE cf b s = .ok (.bl false) s) : evalE cf (.bop false (.cons a (.cons b .nil))) s = .ok (.bl false) s := by
  simp only [ev_bop, evB_cons, ha, bind_ok, bopR_bl, evB_one, hb, if_true]
theorem ev_or3 {cf : CF} {a b c : PE} {s : S} (ha : evalE cf a s = .ok (.bl false) s) (hb : evalE cf b s = .ok (.bl false) s) (hc : evalE cf c s = .ok (.bl false) s) : evalE cf (.bop false (.cons a (.cons b (.cons c .nil)))) s = .ok (.bl false) s := by
  simp only [ev_bop, evB_cons, ha, bind_ok, bopR_bl, evB_one, hb, hc, if_true]
theorem ev_not {cf : CF} {a : PE} {s : S} {b : Bool} (h : evalE cf a s = .ok (.bl b) s) : evalE cf (.nt a) s = .ok (.bl !b) s := by
  rw [ev_nt, h]
  rfl
theorem st_skip {cf : CF} {wf : Nat} {c : PE} {b : PB} {s : S} (h : evalE cf c s = .ok (.bl false) s) : evalS cf wf (.ife c b .nil) s = .ok .nx s := by
  rw [st_if, h]
  simp
def tell (d : D) : D := .tup [.str "told", d]
end K74
end
section
set_option Elab.async false
set_option linter.all false
set_option maxRecDepth 100000
set_option maxHeartbeats 4000000
/-! k74: concepts: names and links, at most n links deep -/
namespace K74
open PySem MP
def LinkT : Nat → Type
  | 0 => Empty
  | n + 1 => Str × (Row × List (LinkT n))
abbrev Con (n : Nat) : Type := Row × List (LinkT n)
def linkD : (n : Nat) → LinkT n → D
  | 0, l => nomatch l
  | n + 1, l => .tup [.str l.1, .tup [setD l.2.1, .tup (l.2.2.map (linkD n))]]
def conD (n : Nat) (c : Con n) : D := .tup [setD c.1, .tup (c.2.map (linkD n))]
def role : (n : Nat) → LinkT n → Str
  | 0, l => nomatch l
  | _ + 1, l => l.1
def subD : (n : Nat) → LinkT n → D
  | 0, l => nomatch l
  | n + 1, l => conD n l.2
theorem linkD_eq : ∀ (n : Nat) (l : LinkT n), linkD n l = .tup [.str (role n l), subD n l]
  | 0, l => nomatch l
  | _ + 1, _ => rfl
theorem p_item_con0 (n : Nat) (c : Con n) : prim .item [conD n c, .int 0] = some (setD c.1) := rfl
theorem p_item_con1 (n : Nat) (c : Con n) : prim .item [conD n c, .int 1] = some (.tup (c.2.map (linkD n))) := rfl
theorem deref_con (t : Sto) (n : Nat) (c : Con n) : deref t (conD n c) = conD n c := rfl
theorem deref_link (t : Sto) (n : Nat) (l : LinkT n) : deref t (linkD n l) = linkD n l := by rw [linkD_eq]; rfl
theorem deref_sub (t : Sto) : ∀ (n : Nat) (l : LinkT n), deref t (subD n l) = subD n l
  | 0, l => nomatch l
  | _ + 1, _ => rfl
/-! ### texts that can be laid, roles and names -/
/-- all texts in it can be laid -/
def okL : (n : Nat) → LinkT n → Prop
  | 0, l => nomatch l
  | n + 1, l => PyData.strOk l.1 = true ∧ okStrs l.2.1 ∧ l.2.2.length ≤ 100 ∧ ∀ k ∈ l.2.2, okL n k
def okC (n : Nat) (c : Con n) : Prop := okStrs c.1 ∧ c.2.length ≤ 100 ∧ ∀ l ∈ c.2, okL n l
theorem okL_role : ∀ {n : Nat} {l : LinkT n}, okL n l → PyData.strOk (role n l) = true
  | 0, l, _ => nomatch l
  | _ + 1, _, h => h.1
mutual
theorem flat_links : ∀ (n : Nat) (ls : List (LinkT n)), flatL (ls.map (linkD n)) = true
  | n, [] => rfl
  | n, l :: ls => by
    rw [List.map_cons, flatL, flat_links n ls, flat_link n l]
    rfl
theorem flat_link : ∀ (n : Nat) (l : LinkT n), (linkD n l).flat = true
  | 0, l => nomatch l
  | n + 1, l => by
    have h := flat_links n l.2.2
    have h2 := setD_flat l.2.1
    simp only [linkD, D.flat, flatL, h, h2, Bool.and_true, Bool.true_and]
end
theorem flat_con (n : Nat) (c : Con n) : (conD n c).flat = true := by
  have h := flat_links n c.2
  have h2 := setD_flat c.1
  simp only [conD, D.flat, flatL, h, h2, Bool.and_true]
end K74
end
section
set_option Elab.async false
set_option linter.all false
set_option maxRecDepth 100000
set_option maxHeartbeats 4000000
namespace K74
open PySem MP
/-- a comprehension that leaves the store -/
theorem comp_gen {β : Type} {cf : CF} {elt : PE} {t : Tgt} {it : Iter} {cs : PL} {vs : List Nat} {s s1 : S} {ys : List β} {h : β → D} (e : β → List D) (hI : evalI cf it s = .ok (ys.map h) s1)
    (hf : ∀ y ∈ ys, ∃ loc', turnF cf elt t cs (h y) { loc := MP.wipe s1.loc vs, sto := s1.sto } = .ok (e y) { loc := loc', sto := s1.sto } ∧ MP.wipe loc' vs = MP.wipe s1.loc vs) (hl : (ys.flatMap e).length ≤ 1000000) :
    evalE cf (.comp elt t it cs vs) s = .ok (.lst (ys.flatMap e)) { loc := unwipe s1.loc s1.loc vs, sto := s1.sto } := by
  obtain ⟨a, t', e1, e2, e3⟩ := comp_run (cf := cf) (elt := elt) (t := t) (it := it) (cs := cs) (vs := vs) (s := s) (s1 := s1) (ys := ys) (h := h) (fun p a t' => (a = p.flatMap e ∧ t' = s1.sto)) hI ⟨rfl, rfl⟩
    (fun p y a t' hy hp ⟨ea, et⟩ => by
      subst et
      obtain ⟨loc', q1, q2⟩ := hf y hy
      exact ⟨e y, loc', s1.sto, q1, q2, by rw [ea, List.flatMap_append]; simp, rfl⟩) (fun a t' ⟨ea, _⟩ => by rw [ea]; exact hl)
  subst e2
  rw [e1, e3]
theorem flatMap_one {β : Type} (g : β → D) (ys : List β) : ys.flatMap (fun y => [g y]) = ys.map g := by
  induction ys with
  | nil => rfl
  | cons y ys ih => rw [List.flatMap_cons, ih]; rfl
theorem flatMap_if {β : Type} (p : β → Bool) (g : β → D) (ys : List β) : ys.flatMap (fun y => if p y = true then [g y] else []) = (ys.filter p).map g := by
  induction ys with
  | nil => rfl
  | cons y ys ih =>
    rw [List.flatMap_cons, ih, List.filter_cons]
    cases p y <;> simp
theorem p_any_bools (bs : List Bool) : prim .any [.lst (bs.map .bl)] = some (.bl (bs.any id)) := by
  have h : ∀ l : List Bool, boolsOf (l.map .bl) = some l := fun l => by
    induction l with
    | nil => rfl
    | cons b l ih => simp [boolsOf, ih]
  show p_any [.lst (bs.map .bl)] = _
  unfold p_any
  simp only [h, Option.map_some]
theorem p_any_map {α : Type} (l : List α) (g : α → Bool) : prim .any [.lst (l.map fun x => .bl (g x))] = some (.bl (l.any g)) := by
  have e : (l.map fun x => D.bl (g x)) = (l.map g).map .bl := by rw [List.map_map]; rfl
  rw [e, p_any_bools, List.any_map]
  rfl
/-- a loop that leaves with d at the first item that is not good -/
theorem forLoop_all {β : Type} {f : D → S → Out Fl} (h : β → D) (p : β → Bool) (d : D) (I : S → Prop) : ∀ (ys : List β) (s : S), I s → (∀ y ∈ ys, ∀ s, I s → ∃ s', f (h y) s = .ok (if p y = true then .nx else .ret d) s' ∧ I s') →
    ∃ s', forLoop f (ys.map h) s = .ok (if ys.all p = true then .nx else .ret d) s' ∧ I s'
  | [], s, i, _ => ⟨s, rfl, i⟩
  | y :: ys, s, i, k => by
    obtain ⟨s1, e1, i1⟩ := k y List.mem_cons_self s i
    obtain ⟨s2, e2, i2⟩ := forLoop_all h p d I ys s1 i1 fun z hz => k z (List.mem_cons_of_mem _ hz)
    rw [List.map_cons, forLoop, e1]
    cases hp : p y with
    | true =>
      refine ⟨s2, ?_, i2⟩
      simp only [List.all_cons, hp, Bool.true_and, if_true, bind_ok]
      exact e2
    | false => exact ⟨s1, by simp [List.all_cons, hp], i1⟩
def liesL : (n : Nat) → LinkT n → LinkT n → Bool
  | 0, h, _ => nomatch h
  | n + 1, h, w => (w.2.1.all fun x => decide (x ∈ h.2.1)) && w.2.2.all fun w' => h.2.2.any fun h' => decide (role n h' = role n w') && liesL n h' w'
def liesN (n : Nat) (a b : Con n) : Bool := (b.1.all fun x => decide (x ∈ a.1)) && b.2.all fun w => a.2.any fun h => decide (role n h = role n w) && liesL n h w
abbrev lieB1 : PB := (.cons (.ife (.prim .notIn (.cons (.var 2) (.cons (.prim .item (.cons (.var 0) (.cons (.con (.int 0)) .nil))) .nil))) (.cons (.ret (.con (.bl false))) .nil) .nil) .nil)
abbrev lieC : PE := (.comp (.bop true (.cons (.prim .eq (.cons (.var 5) (.cons (.var 3) .nil))) (.cons (.call 5 (.cons (.var 6) (.cons (.var 4) .nil))) .nil))) (.tp [(.nm 5), (.nm 6)]) (.seq (.prim .item (.cons (.var 0) (.cons (.con (.int 1)) .nil)))) .nil [5, 6])
abbrev lieB2 : PB := (.cons (.ife (.nt (.prim .any (.cons lieC .nil))) (.cons (.ret (.con (.bl false))) .nil) .nil) .nil)
def eA (n : Nat) (a b : Con n) (t : Sto) (s2 s3 s4 : MP.Slot) : S := { loc := [.val (conD n a), .val (conD n b), s2, s3, s4, .unb, .unb], sto := t }
theorem items_links (n : Nat) (ls : List (LinkT n)) : itemsOf (.tup (ls.map (linkD n))) = some (ls.map (linkD n)) := rfl
theorem sp_lies_step (m n : Nat) {a b : Con n} (t : Sto) (ha : okC n a) (hb : okC n b)  (ih : ∀ (h w : LinkT n), h ∈ a.2 → w ∈ b.2 → ∀ t, callF FF 100000 m 5 [subD n h, subD n w] t = .ok (.bl (liesL n h w)) t) :
    callF FF 100000 (m + 1) 5 [conD n a, conD n b] t = .ok (.bl (liesN n a b)) t := by
  have hF : FF[5]? = some ⟨2, 7, b_lies⟩ := rfl
  have i0a := p_item_con0 n a
  have i1a := p_item_con1 n a
  have i0b := p_item_con0 n b
  have i1b := p_item_con1 n b
  obtain ⟨s1, e1, s2, rfl⟩ := forLoop_all (f := fun d s => ofOpt (MP.assign (.nm 2) d s) fun s3 => evalSs (callF FF 100000 m) 100000 lieB1 s3) D.str (fun x => decide (x ∈ a.1)) (.bl false) (fun s => ∃ s2, s = eA n a b t s2 .unb .unb) b.1 (eA n a b t .unb .unb .unb) ⟨_, rfl⟩ (fun x hx s ⟨s2, hs⟩ => by
    subst hs
    refine ⟨eA n a b t (.val (.str x)) .unb .unb, ?_, _, rfl⟩
    have pn := p_notIn_set (hb.1 x hx) ha.1
    by_cases hh : x ∈ a.1 <;> simp [MP.assign, eA, rdVar, i0a, deref_con, pn, hh])
  have st1 : evalS (callF FF 100000 m) 100000 (.forr (.nm 2) (.seq (.prim .item (.cons (.var 1) (.cons (.con (.int 0)) .nil)))) lieB1) { loc := [conD n a, conD n b].map .val ++ List.replicate (7 - 2) .unb, sto := t } = .ok (if (b.1.all fun x => decide (x ∈ a.1)) = true then .nx else .ret (.bl false)) (eA n a b t s2 .unb .unb) := by
    have it : evalI (callF FF 100000 m) (.seq (.prim .item (.cons (.var 1) (.cons (.con (.int 0)) .nil)))) { loc := [conD n a, conD n b].map .val ++ List.replicate (7 - 2) .unb, sto := t } = .ok (b.1.map .str) (eA n a b t .unb .unb .unb) := by
      simp [eA, rdVar, i0b, deref_con]
    rw [st_forr, it]
    simp only [bind_ok]
    exact e1
  obtain ⟨s1, e2, s2', s3, s4, rfl⟩ := forLoop_all (f := fun d s => ofOpt (MP.assign (.tp [(.nm 3), (.nm 4)]) d s) fun s3 => evalSs (callF FF 100000 m) 100000 lieB2 s3) (linkD n) (fun w => a.2.any fun h => decide (role n h = role n w) && liesL n h w) (.bl false) (fun s => ∃ s2 s3 s4, s = eA n a b t s2 s3 s4) b.2 (eA n a b t s2 .unb .unb) ⟨_, _, _, rfl⟩ (fun w hw s ⟨s2, s3, s4, hs⟩ => by
    subst hs
    refine ⟨eA n a b t s2 (.val (.str (role n w))) (.val (subD n w)), ?_, _, _, _, rfl⟩
    have as : MP.assign (.tp [(.nm 3), (.nm 4)]) (linkD n w) (eA n a b t s2 s3 s4) = some (eA n a b t s2 (.val (.str (role n w))) (.val (subD n w))) := by
      rw [linkD_eq]
      simp [MP.assign, assignL, eA]
    have C := comp_gen (cf := callF FF 100000 m) (elt := (.bop true (.cons (.prim .eq (.cons (.var 5) (.cons (.var 3) .nil))) (.cons (.call 5 (.cons (.var 6) (.cons (.var 4) .nil))) .nil)))) (t := .tp [(.nm 5), (.nm 6)]) (it := (.seq (.prim .item (.cons (.var 0) (.cons (.con (.int 1)) .nil))))) (cs := .nil) (vs := [5, 6]) (s := eA n a b t s2 (.val (.str (role n w))) (.val (subD n w))) (s1 := eA n a b t s2 (.val (.str (role n w))) (.val (subD n w))) (ys := a.2) (h := linkD n)
      (fun h => [.bl (decide (role n h = role n w) && liesL n h w)]) (by simp [eA, rdVar, i1a, deref_con, items_links]) (fun h hh => by
        have ec : ∀ s : S, s.sto = t → callO (callF FF 100000 m) 5 [subD n h, subD n w] s = .ok (.bl (liesL n h w)) { s with sto := t } := fun s hs => call_to hs (ih h w hh hw t)
        have pe := p_eq_str (okL_role (ha.2.2 h hh)) (okL_role (hb.2.2 w hw))
        refine ⟨[.val (conD n a), .val (conD n b), s2, .val (.str (role n w)), .val (subD n w), .val (.str (role n h)), .val (subD n h)], ?_, rfl⟩
        rw [linkD_eq]
        by_cases hr : role n h = role n w
        · rw [decide_eq_true hr] at pe ⊢
          simp [turnF, MP.assign, assignL, eA, MP.wipe, rdVar, pe, ec]
        · rw [decide_eq_false hr] at pe ⊢
          simp [turnF, MP.assign, assignL, eA, MP.wipe, rdVar, pe]) (by rw [flatMap_one]; have := ha.2.1; simp; omega)
    rw [flatMap_one] at C
    have C := C.trans (show _ = Out.ok (.lst (a.2.map fun h => .bl (decide (role n h = role n w) && liesL n h w))) (eA n a b t s2 (.val (.str (role n w))) (.val (subD n w))) by simp [unwipe, eA])
    have pa := p_any_map a.2 fun h => decide (role n h = role n w) && liesL n h w
    have cd : evalE (callF FF 100000 m) (.nt (.prim .any (.cons lieC .nil))) (eA n a b t s2 (.val (.str (role n w))) (.val (subD n w))) = .ok (.bl !(a.2.any fun h => decide (role n h = role n w) && liesL n h w)) (eA n a b t s2 (.val (.str (role n w))) (.val (subD n w))) := by
      rw [ev_nt, ev_prim, evO_cons, op_comp, C]
      simp only [bind_ok, evO_nil, List.map_cons, List.map_nil, deref_lst, pa, toOut_some, notR_bl]
    show ofOpt (MP.assign (.tp [(.nm 3), (.nm 4)]) (linkD n w) (eA n a b t s2 s3 s4)) _ = _
    rw [as, ofOpt_some, ss_cons', st_if, cd]
    simp only [bind_ok]
    cases (a.2.any fun h => decide (role n h = role n w) && liesL n h w) <;> simp)
  have st2 : evalS (callF FF 100000 m) 100000 (.forr (.tp [(.nm 3), (.nm 4)]) (.seq (.prim .item (.cons (.var 1) (.cons (.con (.int 1)) .nil)))) lieB2) (eA n a b t s2 .unb .unb) = .ok (if (b.2.all fun w => a.2.any fun h => decide (role n h = role n w) && liesL n h w) = true then .nx else .ret (.bl false)) (eA n a b t s2' s3 s4) := by
    have it : evalI (callF FF 100000 m) (.seq (.prim .item (.cons (.var 1) (.cons (.con (.int 1)) .nil)))) (eA n a b t s2 .unb .unb) = .ok (b.2.map (linkD n)) (eA n a b t s2 .unb .unb) := by
      simp [eA, rdVar, i1b, deref_con, items_links]
    rw [st_forr, it]
    simp only [bind_ok]
    exact e2
  rw [callF_succ, hF]
  show (if [conD n a, conD n b].length = 2 then runRes (evalSs (callF FF 100000 m) 100000 b_lies { loc := [conD n a, conD n b].map .val ++ List.replicate (7 - 2) .unb, sto := t }) else .bad) = _
  rw [if_pos (show [conD n a, conD n b].length = 2 from rfl)]
  unfold b_lies
  rw [evalSs_one st1]
  unfold liesN
  cases h1 : (b.1.all fun x => decide (x ∈ a.1)) with
  | false => simp [eA]
  | true =>
    simp only [if_true, seqR_nx, Bool.true_and]
    rw [evalSs_one st2]
    cases h2 : (b.2.all fun w => a.2.any fun h => decide (role n h = role n w) && liesL n h w) with
    | false => simp [eA]
    | true => simp [eA]
theorem sp_lies : ∀ (n m : Nat) {a b : Con n} (t : Sto), okC n a → okC n b → callF FF 100000 (m + n + 1) 5 [conD n a, conD n b] t = .ok (.bl (liesN n a b)) t
  | 0, m, a, b, t, ha, hb => sp_lies_step m 0 t ha hb fun h => nomatch h
  | n + 1, m, a, b, t, ha, hb => sp_lies_step (m + (n + 1)) (n + 1) t ha hb fun h w hh hw t => sp_lies n m t (ha.2.2 h hh).2 (hb.2.2 w hw).2
end K74
end
section
set_option Elab.async false
set_option linter.all false
set_option maxRecDepth 100000
set_option maxHeartbeats 4000000
namespace K74
open PySem MP
abbrev llC : PE := (.comp (.bop true (.cons (.prim .eq (.cons (.var 5) (.cons (.var 2) .nil))) (.cons (.call 19 (.cons (.var 6) (.cons (.var 3) .nil))) .nil))) (.tp [(.nm 5), (.nm 6)]) (.seq (.prim .item (.cons (.var 0) (.cons (.con (.int 1)) .nil)))) .nil [5, 6])
abbrev llB2 : PB := (.cons (.ife (.nt (.prim .any (.cons llC .nil))) (.cons (.ret (.con (.bl false))) .nil) .nil) .nil)
abbrev llA : PE := (.comp (.prim .isIn (.cons (.var 4) (.cons (.prim .item (.cons (.var 0) (.cons (.con (.int 0)) .nil))) .nil))) (.nm 4) (.seq (.prim .item (.cons (.var 1) (.cons (.con (.int 0)) .nil)))) .nil [4])
def eB (n : Nat) (a b : Con n) (t : Sto) (s2 s3 : MP.Slot) : S := { loc := [.val (conD n a), .val (conD n b), s2, s3, .unb, .unb, .unb], sto := t }
theorem sp_law_lies_step (m n : Nat) {a b : Con n} (t : Sto) (ha : okC n a) (hb : okC n b) (hn : b.1.length ≤ 1000) (ih : ∀ (h w : LinkT n), h ∈ a.2 → w ∈ b.2 → ∀ t, callF FF 100000 m 19 [subD n h, subD n w] t = .ok (.bl (liesL n h w)) t) :
    callF FF 100000 (m + 1) 19 [conD n a, conD n b] t = .ok (.bl (liesN n a b)) t := by
  have hF : FF[19]? = some ⟨2, 7, b_law_lies⟩ := rfl
  have i0a := p_item_con0 n a
  have i1a := p_item_con1 n a
  have i0b := p_item_con0 n b
  have i1b := p_item_con1 n b
  have C0 := comp_gen (cf := callF FF 100000 m) (elt := (.prim .isIn (.cons (.var 4) (.cons (.prim .item (.cons (.var 0) (.cons (.con (.int 0)) .nil))) .nil)))) (t := .nm 4) (it := (.seq (.prim .item (.cons (.var 1) (.cons (.con (.int 0)) .nil))))) (cs := .nil) (vs := [4]) (s := eB n a b t .unb .unb) (s1 := eB n a b t .unb .unb) (ys := b.1) (h := D.str)
    (fun x => [.bl (decide (x ∈ a.1))]) (by simp [eB, rdVar, i0b, deref_con]) (fun x hx => by
      have pn := p_in_set (hb.1 x hx) ha.1
      refine ⟨[.val (conD n a), .val (conD n b), .unb, .unb, .val (.str x), .unb, .unb], ?_, rfl⟩
      simp [turnF, MP.assign, eB, MP.wipe, rdVar, i0a, deref_con, pn]) (by rw [flatMap_one]; simp; omega)
  rw [flatMap_one] at C0
  have C0 := C0.trans (show _ = Out.ok (.lst (b.1.map fun x => .bl (decide (x ∈ a.1)))) (eB n a b t .unb .unb) by simp [unwipe, eB])
  have pal := p_all_map b.1 fun x => decide (x ∈ a.1)
  have cd0 : evalE (callF FF 100000 m) (.nt (.prim .all (.cons llA .nil))) (eB n a b t .unb .unb) = .ok (.bl !(b.1.all fun x => decide (x ∈ a.1))) (eB n a b t .unb .unb) := by
    rw [ev_nt, ev_prim, evO_cons, op_comp, C0]
    simp only [bind_ok, evO_nil, List.map_cons, List.map_nil, deref_lst, pal, toOut_some, notR_bl]
  obtain ⟨s1, e2, s2', s3, rfl⟩ := forLoop_all (f := fun d s => ofOpt (MP.assign (.tp [(.nm 2), (.nm 3)]) d s) fun s3 => evalSs (callF FF 100000 m) 100000 llB2 s3) (linkD n) (fun w => a.2.any fun h => decide (role n h = role n w) && liesL n h w) (.bl false) (fun s => ∃ s2 s3, s = eB n a b t s2 s3) b.2 (eB n a b t .unb .unb) ⟨_, _, rfl⟩ (fun w hw s ⟨s2, s3, hs⟩ => by
    subst hs
    refine ⟨eB n a b t (.val (.str (role n w))) (.val (subD n w)), ?_, _, _, rfl⟩
    have as : MP.assign (.tp [(.nm 2), (.nm 3)]) (linkD n w) (eB n a b t s2 s3) = some (eB n a b t (.val (.str (role n w))) (.val (subD n w))) := by
      rw [linkD_eq]
      simp [MP.assign, assignL, eB]
    have C := comp_gen (cf := callF FF 100000 m) (elt := (.bop true (.cons (.prim .eq (.cons (.var 5) (.cons (.var 2) .nil))) (.cons (.call 19 (.cons (.var 6) (.cons (.var 3) .nil))) .nil)))) (t := .tp [(.nm 5), (.nm 6)]) (it := (.seq (.prim .item (.cons (.var 0) (.cons (.con (.int 1)) .nil))))) (cs := .nil) (vs := [5, 6]) (s := eB n a b t (.val (.str (role n w))) (.val (subD n w))) (s1 := eB n a b t (.val (.str (role n w))) (.val (subD n w))) (ys := a.2) (h := linkD n)
      (fun h => [.bl (decide (role n h = role n w) && liesL n h w)]) (by simp [eB, rdVar, i1a, deref_con, items_links]) (fun h hh => by
        have ec : ∀ s : S, s.sto = t → callO (callF FF 100000 m) 19 [subD n h, subD n w] s = .ok (.bl (liesL n h w)) { s with sto := t } := fun s hs => call_to hs (ih h w hh hw t)
        have pe := p_eq_str (okL_role (ha.2.2 h hh)) (okL_role (hb.2.2 w hw))
        refine ⟨[.val (conD n a), .val (conD n b), .val (.str (role n w)), .val (subD n w), .unb, .val (.str (role n h)), .val (subD n h)], ?_, rfl⟩
        rw [linkD_eq]
        by_cases hr : role n h = role n w
        · rw [decide_eq_true hr] at pe ⊢
          simp [turnF, MP.assign, assignL, eB, MP.wipe, rdVar, pe, ec]
        · rw [decide_eq_false hr] at pe ⊢
          simp [turnF, MP.assign, assignL, eB, MP.wipe, rdVar, pe]) (by rw [flatMap_one]; have := ha.2.1; simp; omega)
    rw [flatMap_one] at C
    have C := C.trans (show _ = Out.ok (.lst (a.2.map fun h => .bl (decide (role n h = role n w) && liesL n h w))) (eB n a b t (.val (.str (role n w))) (.val (subD n w))) by simp [unwipe, eB])
    have pa := p_any_map a.2 fun h => decide (role n h = role n w) && liesL n h w
    have cd : evalE (callF FF 100000 m) (.nt (.prim .any (.cons llC .nil))) (eB n a b t (.val (.str (role n w))) (.val (subD n w))) = .ok (.bl !(a.2.any fun h => decide (role n h = role n w) && liesL n h w)) (eB n a b t (.val (.str (role n w))) (.val (subD n w))) := by
      rw [ev_nt, ev_prim, evO_cons, op_comp, C]
      simp only [bind_ok, evO_nil, List.map_cons, List.map_nil, deref_lst, pa, toOut_some, notR_bl]
    show ofOpt (MP.assign (.tp [(.nm 2), (.nm 3)]) (linkD n w) (eB n a b t s2 s3)) _ = _
    rw [as, ofOpt_some, ss_cons', st_if, cd]
    simp only [bind_ok]
    cases (a.2.any fun h => decide (role n h = role n w) && liesL n h w) <;> simp)
  have st2 : evalS (callF FF 100000 m) 100000 (.forr (.tp [(.nm 2), (.nm 3)]) (.seq (.prim .item (.cons (.var 1) (.cons (.con (.int 1)) .nil)))) llB2) (eB n a b t .unb .unb) = .ok (if (b.2.all fun w => a.2.any fun h => decide (role n h = role n w) && liesL n h w) = true then .nx else .ret (.bl false)) (eB n a b t s2' s3) := by
    have it : evalI (callF FF 100000 m) (.seq (.prim .item (.cons (.var 1) (.cons (.con (.int 1)) .nil)))) (eB n a b t .unb .unb) = .ok (b.2.map (linkD n)) (eB n a b t .unb .unb) := by
      simp [eB, rdVar, i1b, deref_con, items_links]
    rw [st_forr, it]
    simp only [bind_ok]
    exact e2
  rw [callF_succ, hF]
  show (if [conD n a, conD n b].length = 2 then runRes (evalSs (callF FF 100000 m) 100000 b_law_lies (eB n a b t .unb .unb)) else .bad) = _
  rw [if_pos (show [conD n a, conD n b].length = 2 from rfl)]
  unfold b_law_lies
  rw [ss_cons', st_if, cd0]
  simp only [bind_ok]
  unfold liesN
  cases h1 : (b.1.all fun x => decide (x ∈ a.1)) with
  | false => simp [eB]
  | true =>
    simp only [Bool.not_true, ifR_f, ss_nil', bind_ok, seqR_nx, Bool.true_and]
    rw [evalSs_one st2]
    cases h2 : (b.2.all fun w => a.2.any fun h => decide (role n h = role n w) && liesL n h w) with
    | false => simp [eB]
    | true => simp [eB]
/-- the numbers of names -/
def fewL : (n : Nat) → LinkT n → Prop
  | 0, l => nomatch l
  | n + 1, l => l.2.1.length ≤ 1000 ∧ ∀ k ∈ l.2.2, fewL n k
def fewC (n : Nat) (c : Con n) : Prop := c.1.length ≤ 1000 ∧ ∀ l ∈ c.2, fewL n l
theorem sp_law_lies : ∀ (n m : Nat) {a b : Con n} (t : Sto), okC n a → okC n b → fewC n b → callF FF 100000 (m + n + 1) 19 [conD n a, conD n b] t = .ok (.bl (liesN n a b)) t
  | 0, m, a, b, t, ha, hb, hf => sp_law_lies_step m 0 t ha hb hf.1 fun h => nomatch h
  | n + 1, m, a, b, t, ha, hb, hf => sp_law_lies_step (m + (n + 1)) (n + 1) t ha hb hf.1 fun h w hh hw t => sp_law_lies n m t (ha.2.2 h hh).2 (hb.2.2 w hw).2 (hf.2 w hw)
end K74
end
section
set_option Elab.async false
set_option linter.all false
set_option maxRecDepth 100000
set_option maxHeartbeats 4000000
/-! links compared -/
namespace K74
open PySem MP
def decL : (n : Nat) → DecidableEq (LinkT n)
  | 0 => fun a _ => nomatch a
  | n + 1 => have := decL n; inferInstanceAs (DecidableEq (Str × (Row × List (LinkT n))))
instance (n : Nat) : DecidableEq (LinkT n) := decL n
theorem eqv_all {n : Nat} (k : ∀ l m : LinkT n, PyData.eqv (linkD n l).pd (linkD n m).pd = decide (l = m)) : ∀ a b : List (LinkT n), PyData.eqvAll (pdL (a.map (linkD n))) (pdL (b.map (linkD n))) = decide (a = b)
  | [], [] => by simp [pdL, PyData.eqvAll]
  | [], _ :: _ => by simp [pdL, PyData.eqvAll]
  | _ :: _, [] => by simp [pdL, PyData.eqvAll]
  | x :: a, y :: b => by
    simp only [List.map_cons, pdL, PyData.eqvAll, eqv_all k a b, k x y]
    by_cases h1 : x = y <;> by_cases h2 : a = b <;> simp [h1, h2]
theorem eqv_link : ∀ (n : Nat) (l m : LinkT n), PyData.eqv (linkD n l).pd (linkD n m).pd = decide (l = m)
  | 0, l, _ => nomatch l
  | n + 1, (r, ns, ls), (r', ns', ls') => by
    have h1 := eqD_str r r'
    unfold eqD at h1
    simp only [D.pd] at h1
    have h2 := eqD_strs ns ns'
    have h3 := eqv_all (eqv_link n) ls ls'
    show PyData.eqv (D.tup [.str r, .tup [.tup (ns.map .str), .tup (ls.map (linkD n))]]).pd (D.tup [.str r', .tup [.tup (ns'.map .str), .tup (ls'.map (linkD n))]]).pd = _
    simp only [D.pd, pdL, PyData.eqv, PyData.eqvAll, h1, h2, h3]
    by_cases q1 : r = r'
    · by_cases q2 : ns = ns'
      · by_cases q3 : ls = ls'
        · have : ((r, ns, ls) : LinkT (n + 1)) = (r', ns', ls') := by rw [q1, q2, q3]
          simp [q1, q2, q3]
          rfl
        · have : ¬ ((r, ns, ls) : LinkT (n + 1)) = (r', ns', ls') := fun z => q3 (congrArg (fun x : Str × (Row × List (LinkT n)) => x.2.2) z)
          simp [q3]
          exact this
      · have : ¬ ((r, ns, ls) : LinkT (n + 1)) = (r', ns', ls') := fun z => q2 (congrArg (fun x : Str × (Row × List (LinkT n)) => x.2.1) z)
        simp [q2]
        exact this
    · have : ¬ ((r, ns, ls) : LinkT (n + 1)) = (r', ns', ls') := fun z => q1 (congrArg (fun x : Str × (Row × List (LinkT n)) => x.1) z)
      have hb : (r == r') = false := beq_eq_false_iff_ne.mpr q1
      rw [hb, Bool.false_and]
      exact (decide_eq_false this).symm
theorem eqD_link (n : Nat) (l m : LinkT n) : eqD (linkD n l) (linkD n m) = decide (l = m) := eqv_link n l m
theorem inD_links (n : Nat) (l : LinkT n) (ls : List (LinkT n)) : inD (linkD n l) (ls.map (linkD n)) = decide (l ∈ ls) := by
  unfold inD
  rw [List.any_map]
  induction ls with
  | nil => simp
  | cons y ys ih =>
    rw [List.any_cons, ih]
    simp only [Function.comp, eqD_link]
    by_cases h : y = l
    · simp [h]
    · have h' : ¬ l = y := fun z => h z.symm
      simp [h, h']
theorem lay_all {n : Nat} : ∀ {ls : List (LinkT n)}, (∀ l ∈ ls, (linkD n l).pd.canLay0 = true) → PyData.canLayAll0 (pdL (ls.map (linkD n))) = true
  | [], _ => by simp [pdL, PyData.canLayAll0]
  | l :: ls, h => by
    have h1 := h l List.mem_cons_self
    have h2 := lay_all (ls := ls) fun y hy => h y (List.mem_cons_of_mem _ hy)
    simp [pdL, PyData.canLayAll0, h1, h2]
theorem lay_link : ∀ {n : Nat} {l : LinkT n}, okL n l → (linkD n l).pd.canLay0 = true
  | 0, l, _ => nomatch l
  | n + 1, (r, ns, ls), ⟨h1, h2, _, h3⟩ => by
    have e1 := strs_canLay h2
    have e2 := lay_all (ls := ls) fun l hl => lay_link (h3 l hl)
    show (D.tup [.str r, .tup [.tup (ns.map .str), .tup (ls.map (linkD n))]]).pd.canLay0 = true
    have h1' : PyData.strOk r = true := h1
    simp [D.pd, pdL, PyData.canLay0, PyData.canLayAll0, e1, e2, h1']
theorem depth_all {n b : Nat} : ∀ {ls : List (LinkT n)}, (∀ l : LinkT n, (linkD n l).pd.depth ≤ b) → PyData.depthAll (pdL (ls.map (linkD n))) ≤ b
  | [], _ => by simp [pdL, PyData.depthAll]
  | l :: ls, h => by
    have h1 := h l
    have h2 := depth_all (ls := ls) h
    simp only [List.map_cons, pdL, PyData.depthAll]
    omega
theorem depth_link : ∀ (n : Nat) (l : LinkT n), (linkD n l).pd.depth ≤ 3 * n
  | 0, l => nomatch l
  | n + 1, (r, ns, ls) => by
    have e1 := strs_depth ns
    have e2 := depth_all (ls := ls) (depth_link n)
    show (D.tup [.str r, .tup [.tup (ns.map .str), .tup (ls.map (linkD n))]]).pd.depth ≤ _
    simp only [D.pd, pdL, PyData.depth, PyData.depthAll, e1]
    omega
theorem p_ne_link {n : Nat} {l m : LinkT n} (hl : okL n l) (hm : okL n m) (hn : n ≤ 20) : prim .ne [linkD n l, linkD n m] = some (.bl (!decide (l = m))) := by
  show (if eqOk (linkD n l) (linkD n m) then some (D.bl (!eqD (linkD n l) (linkD n m))) else none) = _
  have d1 := depth_link n l
  have d2 := depth_link n m
  have e : eqOk (linkD n l) (linkD n m) = true := by
    simp only [eqOk, SeqAt.shaped, flat_link, lay_link hl, lay_link hm, Bool.true_and, Bool.and_eq_true, decide_eq_true_eq]
    omega
  rw [if_pos e, eqD_link]
theorem p_notIn_links {n : Nat} {l : LinkT n} {ls : List (LinkT n)} (hl : okL n l) (hs : ∀ m ∈ ls, okL n m) (hn : n ≤ 20) : prim .notIn [linkD n l, .lst (ls.map (linkD n))] = some (.bl (!decide (l ∈ ls))) := by
  show p_notIn [linkD n l, .lst (ls.map (linkD n))] = _
  have e : inOk (linkD n l) (ls.map (linkD n)) = true := by
    have d1 := depth_link n l
    have d2 := depth_all (ls := ls) (depth_link n)
    simp only [inOk, eqOk, SeqAt.shaped, flat_link, D.flat, D.pd, PyData.canLay0, PyData.depth, flat_links, lay_link hl, lay_all fun m hm => lay_link (hs m hm), Bool.true_and, Bool.and_eq_true, decide_eq_true_eq]
    omega
  have pe : p_notIn [linkD n l, .lst (ls.map (linkD n))] = if inOk (linkD n l) (ls.map (linkD n)) then some (.bl (!inD (linkD n l) (ls.map (linkD n)))) else none := by
    rw [linkD_eq]
    rfl
  rw [pe, if_pos e, inD_links]
end K74
end
section
set_option Elab.async false
set_option linter.all false
set_option maxRecDepth 100000
set_option maxHeartbeats 4000000
/-! lean concepts; links sorted -/
namespace K74
open PySem MP
theorem alike_all' {n : Nat} (k : ∀ l m : LinkT n, W.alike (linkD n l).pd (linkD n m).pd = true) : ∀ a b : List (LinkT n), W.alikeAll (pdL (a.map (linkD n))) (pdL (b.map (linkD n))) = true
  | [], [] => by simp [pdL, W.alikeAll]
  | [], _ :: _ => by simp [pdL, W.alikeAll]
  | _ :: _, [] => by simp [pdL, W.alikeAll]
  | x :: a, y :: b => by
    simp only [List.map_cons, pdL, W.alikeAll, alike_all' k a b, k x y, Bool.and_self]
theorem alike_link : ∀ (n : Nat) (l m : LinkT n), W.alike (linkD n l).pd (linkD n m).pd = true
  | 0, l, _ => nomatch l
  | n + 1, (r, ns, ls), (r', ns', ls') => by
    have h2 := alike_strs ns ns'
    have h3 := alike_all' (alike_link n) ls ls'
    show W.alike (D.tup [.str r, .tup [.tup (ns.map .str), .tup (ls.map (linkD n))]]).pd (D.tup [.str r', .tup [.tup (ns'.map .str), .tup (ls'.map (linkD n))]]).pd = true
    simp only [D.pd, pdL, W.alike, W.alikeAll, h2, h3, Bool.and_true]
theorem notNone_link (n : Nat) (l : LinkT n) : notNone (linkD n l) = true := by rw [linkD_eq]; rfl
theorem sortOk_links {n : Nat} (hn : n ≤ 20) (ls : List (LinkT n)) (h : ls.length ≤ 1000000) : sortOk (ls.map (linkD n)) = true := by
  unfold sortOk allAlike
  simp only [Bool.and_eq_true, List.all_eq_true, decide_eq_true_eq, List.length_map]
  refine ⟨⟨fun d hd => ?_, fun d hd e he => ?_⟩, by omega⟩
  · obtain ⟨l, -, rfl⟩ := List.mem_map.mp hd
    exact ⟨⟨flat_link n l, notNone_link n l⟩, by have := depth_link n l; omega⟩
  · obtain ⟨l, -, rfl⟩ := List.mem_map.mp hd
    obtain ⟨l', -, rfl⟩ := List.mem_map.mp he
    exact alike_link n l l'
def sortK (n : Nat) (ls : List (LinkT n)) : List (LinkT n) := ls.mergeSort (W.dataLe false fun l => (linkD n l).pd)
theorem sortD_links (n : Nat) (ls : List (LinkT n)) : sortD false (ls.map (linkD n)) = (sortK n ls).map (linkD n) := (W.sort_maps (linkD n) fun _ _ _ _ => rfl).symm
theorem sortK_perm (n : Nat) (ls : List (LinkT n)) : (sortK n ls).Perm ls := List.mergeSort_perm ls _
theorem p_sorted_links {n : Nat} (hn : n ≤ 20) (ls : List (LinkT n)) (h : ls.length ≤ 1000000) : prim .sorted [.lst (ls.map (linkD n))] = some (.lst ((sortK n ls).map (linkD n))) := by
  show (if sortOk (ls.map (linkD n)) then some (D.lst (sortD false (ls.map (linkD n)))) else none) = _
  rw [if_pos (sortOk_links hn ls h), sortD_links]
/-- each once, as first met -/
def stepD (n : Nat) (acc : List (LinkT n)) (l : LinkT n) : List (LinkT n) := if l ∈ acc then acc else acc ++ [l]
def firsts (n : Nat) (ls : List (LinkT n)) : List (LinkT n) := ls.foldl (stepD n) []
/-- no other says more under the same role -/
def lone (n : Nat) (ls : List (LinkT n)) (l : LinkT n) : Bool := !(ls.any fun k => !decide (k = l) && (decide (role n k = role n l) && liesL n k l))
def leanL : (n : Nat) → LinkT n → LinkT n
  | 0, l => nomatch l
  | n + 1, l => (l.1, (l.2.1, sortK n ((firsts n (l.2.2.map (leanL n))).filter (lone n (firsts n (l.2.2.map (leanL n)))))))
def leanN (n : Nat) (c : Con n) : Con n := (c.1, sortK n ((firsts n (c.2.map (leanL n))).filter (lone n (firsts n (c.2.map (leanL n))))))
theorem role_lean : ∀ (n : Nat) (l : LinkT n), role n (leanL n l) = role n l
  | 0, l => nomatch l
  | _ + 1, _ => rfl
theorem firsts_inv {n : Nat} : ∀ (ls acc : List (LinkT n)), acc.Nodup → (ls.foldl (stepD n) acc).Nodup ∧ (∀ l, l ∈ ls.foldl (stepD n) acc ↔ l ∈ acc ∨ l ∈ ls) ∧ (ls.foldl (stepD n) acc).length ≤ acc.length + ls.length
  | [], acc, h => ⟨h, fun l => by simp, by simp⟩
  | x :: ls, acc, h => by
    have h1 : (stepD n acc x).Nodup := by
      unfold stepD
      split
      · exact h
      · rename_i hx
        rw [List.nodup_append]
        refine ⟨h, by simp, fun a ha b hb e => ?_⟩
        rw [List.mem_singleton.mp hb] at e
        rw [e] at ha
        exact hx ha
    obtain ⟨a1, a2, a3⟩ := firsts_inv ls (stepD n acc x) h1
    refine ⟨a1, fun l => ?_, ?_⟩
    · rw [List.foldl_cons, a2]
      unfold stepD
      split
      · rename_i hx
        rw [List.mem_cons]
        exact ⟨fun z => z.elim .inl fun z => .inr (.inr z), fun z => z.elim .inl fun z => z.elim (fun e => .inl (e ▸ hx)) .inr⟩
      · rw [List.mem_append, List.mem_singleton, List.mem_cons]
        exact or_assoc
    · rw [List.foldl_cons]
      have : (stepD n acc x).length ≤ acc.length + 1 := by
        unfold stepD
        split
        · omega
        · simp
      rw [List.length_cons]
      omega
theorem firsts_nodup {n : Nat} (ls : List (LinkT n)) : (firsts n ls).Nodup := (firsts_inv ls [] (by simp)).1
theorem mem_firsts {n : Nat} {ls : List (LinkT n)} {l : LinkT n} : l ∈ firsts n ls ↔ l ∈ ls := by
  have := (firsts_inv ls [] (by simp)).2.1 l
  simpa [firsts] using this
theorem firsts_len {n : Nat} (ls : List (LinkT n)) : (firsts n ls).length ≤ ls.length := by
  have := (firsts_inv ls [] (by simp)).2.2
  simpa [firsts] using this
theorem okL_lean : ∀ {n : Nat} {l : LinkT n}, okL n l → okL n (leanL n l)
  | 0, l, _ => nomatch l
  | n + 1, l, ⟨h1, h2, h3, h4⟩ => by
    have p := sortK_perm n ((firsts n (l.2.2.map (leanL n))).filter (lone n (firsts n (l.2.2.map (leanL n)))))
    refine ⟨h1, h2, ?_, fun k hk => ?_⟩
    · show (sortK n _).length ≤ 100
      rw [p.length_eq]
      have e1 := List.length_filter_le (lone n (firsts n (l.2.2.map (leanL n)))) (firsts n (l.2.2.map (leanL n)))
      have e2 := firsts_len (l.2.2.map (leanL n))
      rw [List.length_map] at e2
      omega
    · have hk : k ∈ sortK n ((firsts n (l.2.2.map (leanL n))).filter (lone n (firsts n (l.2.2.map (leanL n))))) := hk
      rw [p.mem_iff, List.mem_filter, mem_firsts, List.mem_map] at hk
      obtain ⟨⟨m, hm, rfl⟩, _⟩ := hk
      exact okL_lean (h4 m hm)
theorem sub_lies (n m : Nat) {h w : LinkT n} (hh : okL n h) (hw : okL n w) (t : Sto) : callF FF 100000 (m + n) 5 [subD n h, subD n w] t = .ok (.bl (liesL n h w)) t := by
  cases n with
  | zero => exact nomatch h
  | succ n => exact sp_lies n m t hh.2 hw.2
theorem sub_law_lies (n m : Nat) {h w : LinkT n} (hh : okL n h) (hw : okL n w) (hf : fewL n w) (t : Sto) : callF FF 100000 (m + n) 19 [subD n h, subD n w] t = .ok (.bl (liesL n h w)) t := by
  cases n with
  | zero => exact nomatch h
  | succ n => exact sp_law_lies n m t hh.2 hw.2 hf
end K74
end
section
set_option Elab.async false
set_option linter.all false
set_option maxRecDepth 100000
set_option maxHeartbeats 4000000
namespace K74
open PySem MP
theorem forLoop_any {β : Type} {f : D → S → Out Fl} (h : β → D) (p : β → Bool) (I : Bool → S → Prop) : ∀ (ys : List β) (s : S), I false s → (∀ y ∈ ys, ∀ s, I false s → ∃ s', f (h y) s = .ok (if p y = true then .brk else .nx) s' ∧ I (p y) s') →
    ∃ s', forLoop f (ys.map h) s = .ok .nx s' ∧ I (ys.any p) s'
  | [], s, i, _ => ⟨s, rfl, i⟩
  | y :: ys, s, i, k => by
    obtain ⟨s1, e1, i1⟩ := k y List.mem_cons_self s i
    rw [List.map_cons, forLoop, e1]
    cases hp : p y with
    | true => exact ⟨s1, rfl, by rw [List.any_cons, hp]; rw [hp] at i1; exact i1⟩
    | false =>
      rw [hp] at i1
      obtain ⟨s2, e2, i2⟩ := forLoop_any h p I ys s1 i1 fun z hz => k z (List.mem_cons_of_mem _ hz)
      exact ⟨s2, e2, by rw [List.any_cons, hp]; exact i2⟩
theorem enumL_gen {β : Type} (f : β → D) : ∀ (n : Nat) (xs : List β), enumL n (xs.map f) = (xs.zipIdx n).map fun y => .tup [.int (y.2 : Nat), f y.1]
  | _, [] => rfl
  | n, x :: xs => by
    rw [List.map_cons, List.zipIdx_cons, List.map_cons, enumL, enumL_gen f (n + 1) xs]
theorem any_zip {n : Nat} {ls : List (LinkT n)} (nd : ls.Nodup) {l : LinkT n} {i : Nat} (hi : ls[i]? = some l) (q : LinkT n → Bool) : (ls.zipIdx.any fun z => !decide (z.2 = i) && q z.1) = ls.any fun k => !decide (k = l) && q k := by
  rw [Bool.eq_iff_iff, List.any_eq_true, List.any_eq_true]
  obtain ⟨hi1, hi2⟩ := List.getElem?_eq_some_iff.mp hi
  constructor
  · rintro ⟨⟨k, j⟩, hz, hp⟩
    have hz' := List.mem_zipIdx_iff_getElem?.mp hz
    obtain ⟨hj1, hj2⟩ := List.getElem?_eq_some_iff.mp hz'
    simp only [Bool.and_eq_true, Bool.not_eq_true', decide_eq_false_iff_not] at hp ⊢
    refine ⟨k, List.mem_of_getElem? hz', fun e => hp.1 ?_, hp.2⟩
    have : ls[j] = ls[i] := by rw [hj2, hi2]; exact e
    have pw := List.pairwise_iff_getElem.mp (List.nodup_iff_pairwise_ne.mp nd)
    rcases Nat.lt_trichotomy j i with q | q | q
    · exact absurd this (pw j i hj1 hi1 q)
    · exact q
    · exact absurd this.symm (pw i j hi1 hj1 q)
  · rintro ⟨k, hk, hp⟩
    obtain ⟨j, hj⟩ := List.getElem?_of_mem hk
    simp only [Bool.and_eq_true, Bool.not_eq_true', decide_eq_false_iff_not] at hp ⊢
    refine ⟨(k, j), List.mem_zipIdx_iff_getElem?.mpr hj, fun e => hp.1 ?_, hp.2⟩
    have e : j = i := e
    subst e
    rw [hj] at hi
    exact Option.some.inj hi
structure GL where
  s1 : MP.Slot := .unb
  s2 : MP.Slot := .unb
  s3 : MP.Slot := .unb
  s4 : MP.Slot := .unb
  s5 : MP.Slot := .unb
  s6 : MP.Slot := .unb
  s7 : MP.Slot := .unb
  s8 : MP.Slot := .unb
  s9 : MP.Slot := .unb
  s10 : MP.Slot := .unb
def eLe (n : Nat) (c : Con n) (t : Sto) (g : GL) : S := { loc := [.val (conD n c), g.s1, g.s2, g.s3, g.s4, g.s5, g.s6, g.s7, g.s8, g.s9, g.s10], sto := t }
abbrev leS1 : PS := (.set (.nm 5) (.tup (.cons (.var 3) (.cons (.call 6 (.cons (.var 4) .nil)) .nil))))
abbrev leS2 : PS := (.ife (.prim .notIn (.cons (.var 5) (.cons (.peek 1) .nil))) (.cons (.app 1 (.var 5)) .nil) .nil)
theorem turn_le1 (M n : Nat) {c : Con n} {t : Sto} (hn : n ≤ 20) (acc : List (LinkT n)) (hacc : ∀ k ∈ acc, okL n k) (hl : acc.length < 1000000) (l : LinkT n) (ol : okL n l) (ih : ∀ t, callF FF 100000 M 6 [subD n l] t = .ok (subD n (leanL n l)) t) (g : GL) (h1 : g.s1 = .own (acc.map (linkD n))) :
    ofOpt (MP.assign (.tp [(.nm 3), (.nm 4)]) (linkD n l) (eLe n c t g)) (fun s3 => evalSs (callF FF 100000 M) 100000 (.cons leS1 (.cons leS2 .nil)) s3) = .ok .nx (eLe n c t { g with s1 := .own ((stepD n acc (leanL n l)).map (linkD n)), s3 := .val (.str (role n l)), s4 := .val (subD n l), s5 := .val (linkD n (leanL n l)) }) := by
  have as : MP.assign (.tp [(.nm 3), (.nm 4)]) (linkD n l) (eLe n c t g) = some (eLe n c t { g with s3 := .val (.str (role n l)), s4 := .val (subD n l) }) := by
    rw [linkD_eq]
    simp [MP.assign, assignL, eLe]
  have ec : ∀ s : S, callO (callF FF 100000 M) 6 [subD n l] s = .ok (subD n (leanL n l)) s := callv_at ih
  have st1 : evalS (callF FF 100000 M) 100000 leS1 (eLe n c t { g with s3 := .val (.str (role n l)), s4 := .val (subD n l) }) = .ok .nx (eLe n c t { g with s3 := .val (.str (role n l)), s4 := .val (subD n l), s5 := .val (linkD n (leanL n l)) }) := by
    rw [linkD_eq n (leanL n l), role_lean]
    simp [eLe, rdVar, ec, MP.assign]
  have pn := p_notIn_links (okL_lean ol) hacc hn
  have cd : evalE (callF FF 100000 M) (.prim .notIn (.cons (.var 5) (.cons (.peek 1) .nil))) (eLe n c t { g with s3 := .val (.str (role n l)), s4 := .val (subD n l), s5 := .val (linkD n (leanL n l)) }) = .ok (.bl (!decide (leanL n l ∈ acc))) (eLe n c t { g with s3 := .val (.str (role n l)), s4 := .val (subD n l), s5 := .val (linkD n (leanL n l)) }) := by
    simp [eLe, rdVar, rdPeek, h1, deref_link, pn]
  rw [as, ofOpt_some, evalSs_one st1, seqR_nx, ss_cons', st_if, cd]
  simp only [bind_ok]
  by_cases hh : leanL n l ∈ acc
  · rw [decide_eq_true hh]
    simp [eLe, stepD, hh, h1]
  · rw [decide_eq_false hh]
    have ap := st_app_ok (cf := callF FF 100000 M) (wf := 100000) (i := 1) (e := .var 5) (s := eLe n c t { g with s3 := .val (.str (role n l)), s4 := .val (subD n l), s5 := .val (linkD n (leanL n l)) }) (s' := eLe n c t { g with s3 := .val (.str (role n l)), s4 := .val (subD n l), s5 := .val (linkD n (leanL n l)) }) (ys := acc.map (linkD n)) (xs := acc.map (linkD n)) (d := linkD n (leanL n l)) (by simp [eLe, h1]) (by simp [eLe, rdVar]) (by simp [eLe, h1]) (by simpa using hl)
    simp only [Bool.not_false, ifR_t]
    rw [evalSs_one ap, seqR_nx, ss_nil']
    simp [eLe, stepD, hh]
theorem loop_le1 (M n : Nat) {c : Con n} {t : Sto} (hn : n ≤ 20) (hc : okC n c) (ih : ∀ l ∈ c.2, ∀ t, callF FF 100000 M 6 [subD n l] t = .ok (subD n (leanL n l)) t) (g : GL) (h1 : g.s1 = .own []) :
    ∃ g' : GL, g'.s1 = .own ((firsts n (c.2.map (leanL n))).map (linkD n)) ∧ g'.s2 = g.s2 ∧ forLoop (fun d s => ofOpt (MP.assign (.tp [(.nm 3), (.nm 4)]) d s) fun s3 => evalSs (callF FF 100000 M) 100000 (.cons leS1 (.cons leS2 .nil)) s3) (c.2.map (linkD n)) (eLe n c t g) = .ok .nx (eLe n c t g') := by
  have key : ∀ (ls : List (LinkT n)) (acc : List (LinkT n)) (g : GL), (∀ l ∈ ls, l ∈ c.2) → (∀ k ∈ acc, okL n k) → acc.length + ls.length ≤ 1000 → g.s1 = .own (acc.map (linkD n)) →
      ∃ g' : GL, g'.s1 = .own (((ls.map (leanL n)).foldl (stepD n) acc).map (linkD n)) ∧ g'.s2 = g.s2 ∧ forLoop (fun d s => ofOpt (MP.assign (.tp [(.nm 3), (.nm 4)]) d s) fun s3 => evalSs (callF FF 100000 M) 100000 (.cons leS1 (.cons leS2 .nil)) s3) (ls.map (linkD n)) (eLe n c t g) = .ok .nx (eLe n c t g') := by
    intro ls
    induction ls with
    | nil => exact fun acc g _ _ _ h => ⟨g, h, rfl, rfl⟩
    | cons l ls ihl =>
      intro acc g hm ha hl h
      rw [List.length_cons] at hl
      have ol := hc.2.2 l (hm l List.mem_cons_self)
      have T := turn_le1 M n (c := c) (t := t) hn acc ha (by omega) l ol (ih l (hm l List.mem_cons_self)) g h
      obtain ⟨g', q1, q2, q3⟩ := ihl (stepD n acc (leanL n l)) { g with s1 := .own ((stepD n acc (leanL n l)).map (linkD n)), s3 := .val (.str (role n l)), s4 := .val (subD n l), s5 := .val (linkD n (leanL n l)) } (fun z hz => hm z (List.mem_cons_of_mem _ hz)) (fun k hk => by
        unfold stepD at hk
        split at hk
        · exact ha k hk
        · rcases List.mem_append.mp hk with hk | hk
          · exact ha k hk
          · rw [List.mem_singleton.mp hk]; exact okL_lean ol) (by
        have : (stepD n acc (leanL n l)).length ≤ acc.length + 1 := by
          unfold stepD
          split
          · omega
          · simp
        omega) rfl
      refine ⟨g', q1, q2, ?_⟩
      rw [List.map_cons, forLoop]
      show (ofOpt (MP.assign (.tp [(.nm 3), (.nm 4)]) (linkD n l) (eLe n c t g)) (fun s3 => evalSs (callF FF 100000 M) 100000 (.cons leS1 (.cons leS2 .nil)) s3)).bind _ = _
      rw [T]
      exact q3
  exact key c.2 [] g (fun _ h => h) (by simp) (by have := hc.2.1; simp; omega) h1
end K74
end
section
set_option Elab.async false
set_option linter.all false
set_option maxRecDepth 100000
set_option maxHeartbeats 4000000
namespace K74
open PySem MP
theorem ev_and3 {cf : CF} {a b c : PE} {s : S} {p q r : Bool} (ha : evalE cf a s = .ok (.bl p) s) (hb : p = true → evalE cf b s = .ok (.bl q) s) (hc : p = true → q = true → evalE cf c s = .ok (.bl r) s) : evalE cf (.bop true (.cons a (.cons b (.cons c .nil)))) s = .ok (.bl (p && (q && r))) s := by
  simp only [ev_bop, evB_cons, ha, bind_ok, bopR_bl]
  cases p with
  | false => simp
  | true =>
    simp only [if_true, hb rfl, bind_ok, bopR_bl]
    cases q with
    | false => simp
    | true => simp [hc rfl rfl]
theorem p_ne_int (a b : Int) : prim .ne [.int a, .int b] = some (D.bl (!decide (a = b))) := by
  show (if eqOk (D.int a) (D.int b) then some (D.bl (!eqD (D.int a) (D.int b))) else none) = _
  have e : eqOk (D.int a) (D.int b) = true := by
    simp [eqOk, D.flat, D.pd, SeqAt.shaped, PyData.canLay0, PyData.depth]
  rw [if_pos e]
  unfold eqD
  simp only [D.pd, PyData.eqv]
  rfl
abbrev leCond : PE := (.bop true (.cons (.prim .ne (.cons (.var 8) (.cons (.var 6) .nil))) (.cons (.prim .eq (.cons (.var 9) (.cons (.var 3) .nil))) (.cons (.call 5 (.cons (.var 10) (.cons (.var 4) .nil))) .nil))))
abbrev leIn : PB := (.cons (.ife leCond (.cons (.set (.nm 7) (.con (.bl true))) (.cons .brk .nil)) .nil) .nil)
theorem turn_in (M n : Nat) {c : Con n} {t : Sto} (l k : LinkT n) (ol : okL n l) (ok : okL n k) (i j : Nat) (ih : ∀ t, callF FF 100000 M 5 [subD n k, subD n l] t = .ok (.bl (liesL n k l)) t) (g : GL) (h3 : g.s3 = .val (.str (role n l))) (h4 : g.s4 = .val (subD n l)) (h6 : g.s6 = .val (.int (i : Nat))) (h7 : g.s7 = .val (.bl false)) :
    ∃ g' : GL, (g'.s1 = g.s1 ∧ g'.s2 = g.s2 ∧ g'.s3 = g.s3 ∧ g'.s4 = g.s4 ∧ g'.s6 = g.s6) ∧ g'.s7 = .val (.bl (!decide (j = i) && (decide (role n k = role n l) && liesL n k l))) ∧
      ofOpt (MP.assign (.tp [(.nm 8), (.tp [(.nm 9), (.nm 10)])]) (.tup [.int (j : Nat), linkD n k]) (eLe n c t g)) (fun s3 => evalSs (callF FF 100000 M) 100000 leIn s3) = .ok (if (!decide (j = i) && (decide (role n k = role n l) && liesL n k l)) = true then .brk else .nx) (eLe n c t g') := by
  have as : MP.assign (.tp [(.nm 8), (.tp [(.nm 9), (.nm 10)])]) (.tup [.int (j : Nat), linkD n k]) (eLe n c t g) = some (eLe n c t { g with s8 := .val (.int (j : Nat)), s9 := .val (.str (role n k)), s10 := .val (subD n k) }) := by
    rw [linkD_eq]
    simp [MP.assign, assignL, eLe]
  have ec : ∀ s : S, callO (callF FF 100000 M) 5 [subD n k, subD n l] s = .ok (.bl (liesL n k l)) s := callv_at ih
  have pi := p_ne_int (j : Nat) (i : Nat)
  have pe := p_eq_str (okL_role ok) (okL_role ol)
  have ji : decide (((j : Nat) : Int) = ((i : Nat) : Int)) = decide (j = i) := decide_eq_decide.mpr (by omega)
  rw [ji] at pi
  have cd : evalE (callF FF 100000 M) leCond (eLe n c t { g with s8 := .val (.int (j : Nat)), s9 := .val (.str (role n k)), s10 := .val (subD n k) }) = .ok (.bl (!decide (j = i) && (decide (role n k = role n l) && liesL n k l))) (eLe n c t { g with s8 := .val (.int (j : Nat)), s9 := .val (.str (role n k)), s10 := .val (subD n k) }) := by
    refine ev_and3 (by simp [eLe, rdVar, h6, pi]) (fun _ => by simp [eLe, rdVar, h3, pe]) (fun _ _ => by simp [eLe, rdVar, h4, ec])
  rw [as, ofOpt_some, ss_cons', st_if, cd]
  simp only [bind_ok]
  cases hb : (!decide (j = i) && (decide (role n k = role n l) && liesL n k l)) with
  | true => exact ⟨{ g with s8 := .val (.int (j : Nat)), s9 := .val (.str (role n k)), s10 := .val (subD n k), s7 := .val (.bl true) }, ⟨rfl, rfl, rfl, rfl, rfl⟩, rfl, by simp [eLe, MP.assign]⟩
  | false => exact ⟨{ g with s8 := .val (.int (j : Nat)), s9 := .val (.str (role n k)), s10 := .val (subD n k) }, ⟨rfl, rfl, rfl, rfl, rfl⟩, h7, by simp⟩
abbrev leOut : PB := (.cons (.set (.nm 7) (.con (.bl false))) (.cons (.forr (.tp [(.nm 8), (.tp [(.nm 9), (.nm 10)])]) (.enum (.var 1)) leIn) (.cons (.ife (.nt (.var 7)) (.cons (.app 2 (.tup (.cons (.var 3) (.cons (.var 4) .nil)))) .nil) .nil) .nil)))
theorem enum_var {cf : CF} {i : Nat} {s : S} {xs : List D} (h : rdVar i s = .ok (.lst xs) s) : evalI cf (.enum (.var i)) s = .ok (enumL 0 xs) s := by
  simp only [evalI, evalE, h, bind_ok, seqOf]
theorem turn_out1 (M n : Nat) {c : Con n} {t : Sto} {ls : List (LinkT n)} (hls : ∀ k ∈ ls, okL n k) (nd : ls.Nodup) (ih : ∀ h w : LinkT n, h ∈ ls → w ∈ ls → ∀ t, callF FF 100000 M 5 [subD n h, subD n w] t = .ok (.bl (liesL n h w)) t)
    (acc : List (LinkT n)) (hl : acc.length < 1000000) (l : LinkT n) (i : Nat) (hi : ls[i]? = some l) (g : GL) (h1 : g.s1 = .val (.lst (ls.map (linkD n)))) (h2 : g.s2 = .own (acc.map (linkD n))) :
    ∃ g' : GL, g'.s1 = g.s1 ∧ g'.s2 = .own ((acc ++ if lone n ls l = true then [l] else []).map (linkD n)) ∧
      ofOpt (MP.assign (.tp [(.nm 6), (.tp [(.nm 3), (.nm 4)])]) (.tup [.int (i : Nat), linkD n l]) (eLe n c t g)) (fun s3 => evalSs (callF FF 100000 M) 100000 leOut s3) = .ok .nx (eLe n c t g') := by
  have hm := List.mem_of_getElem? hi
  have as : MP.assign (.tp [(.nm 6), (.tp [(.nm 3), (.nm 4)])]) (.tup [.int (i : Nat), linkD n l]) (eLe n c t g) = some (eLe n c t { g with s6 := .val (.int (i : Nat)), s3 := .val (.str (role n l)), s4 := .val (subD n l) }) := by
    rw [linkD_eq]
    simp [MP.assign, assignL, eLe]
  have st1 : evalS (callF FF 100000 M) 100000 (.set (.nm 7) (.con (.bl false))) (eLe n c t { g with s6 := .val (.int (i : Nat)), s3 := .val (.str (role n l)), s4 := .val (subD n l) }) = .ok .nx (eLe n c t { g with s6 := .val (.int (i : Nat)), s3 := .val (.str (role n l)), s4 := .val (subD n l), s7 := .val (.bl false) }) := by
    simp [eLe, MP.assign]
  obtain ⟨s', e1, g1, ⟨k1, k2, k3, k4, k6⟩, k7, rfl⟩ := forLoop_any (f := fun d s => ofOpt (MP.assign (.tp [(.nm 8), (.tp [(.nm 9), (.nm 10)])]) d s) fun s3 => evalSs (callF FF 100000 M) 100000 leIn s3) (fun z : LinkT n × Nat => D.tup [.int (z.2 : Nat), linkD n z.1]) (fun z => !decide (z.2 = i) && (decide (role n z.1 = role n l) && liesL n z.1 l))
    (fun b s => ∃ g1 : GL, (g1.s1 = g.s1 ∧ g1.s2 = g.s2 ∧ g1.s3 = .val (.str (role n l)) ∧ g1.s4 = .val (subD n l) ∧ g1.s6 = .val (.int (i : Nat))) ∧ g1.s7 = .val (.bl b) ∧ s = eLe n c t g1) ls.zipIdx (eLe n c t { g with s6 := .val (.int (i : Nat)), s3 := .val (.str (role n l)), s4 := .val (subD n l), s7 := .val (.bl false) })
    ⟨{ g with s6 := .val (.int (i : Nat)), s3 := .val (.str (role n l)), s4 := .val (subD n l), s7 := .val (.bl false) }, ⟨rfl, rfl, rfl, rfl, rfl⟩, rfl, rfl⟩ (fun z hz s ⟨g1, ⟨q1, q2, q3, q4, q6⟩, q7, hs⟩ => by
      subst hs
      have hzm := List.mem_of_getElem? (List.mem_zipIdx_iff_getElem?.mp hz)
      obtain ⟨g', ⟨r1, r2, r3, r4, r6⟩, r7, r8⟩ := turn_in M n (c := c) (t := t) l z.1 (hls l hm) (hls z.1 hzm) i z.2 (ih z.1 l hzm hm) g1 q3 q4 q6 q7
      exact ⟨_, r8, g', ⟨r1.trans q1, r2.trans q2, r3.trans q3, r4.trans q4, r6.trans q6⟩, r7, rfl⟩)
  have az := any_zip nd hi fun k => decide (role n k = role n l) && liesL n k l
  rw [az] at k7
  have st2 : evalS (callF FF 100000 M) 100000 (.forr (.tp [(.nm 8), (.tp [(.nm 9), (.nm 10)])]) (.enum (.var 1)) leIn) (eLe n c t { g with s6 := .val (.int (i : Nat)), s3 := .val (.str (role n l)), s4 := .val (subD n l), s7 := .val (.bl false) }) = .ok .nx (eLe n c t g1) := by
    have it := enum_var (cf := callF FF 100000 M) (i := 1) (s := eLe n c t { g with s6 := .val (.int (i : Nat)), s3 := .val (.str (role n l)), s4 := .val (subD n l), s7 := .val (.bl false) }) (xs := ls.map (linkD n)) (by simp [eLe, rdVar, h1])
    rw [st_forr, it, enumL_gen]
    simp only [bind_ok]
    exact e1
  rw [as, ofOpt_some, evalSs_one st1, seqR_nx, evalSs_one st2, seqR_nx]
  cases hb : (ls.any fun k => !decide (k = l) && (decide (role n k = role n l) && liesL n k l)) with
  | true =>
    rw [hb] at k7
    exact ⟨g1, k1, by rw [k2, h2]; simp [lone, hb], by simp [eLe, rdVar, k7]⟩
  | false =>
    rw [hb] at k7
    refine ⟨{ g1 with s2 := .own ((acc ++ [l]).map (linkD n)) }, k1, by simp [lone, hb], ?_⟩
    have cd : evalE (callF FF 100000 M) (.nt (.var 7)) (eLe n c t g1) = .ok (.bl true) (eLe n c t g1) := by simp [eLe, rdVar, k7]
    have hg2 : g1.s2 = .own (acc.map (linkD n)) := k2.trans h2
    have ap := st_app_ok (cf := callF FF 100000 M) (wf := 100000) (i := 2) (e := .tup (.cons (.var 3) (.cons (.var 4) .nil))) (s := eLe n c t g1) (s' := eLe n c t g1) (ys := acc.map (linkD n)) (xs := acc.map (linkD n)) (d := linkD n l) (by simp [eLe, hg2]) (by rw [linkD_eq]; simp [eLe, rdVar, k3, k4]) (by simp [eLe, hg2]) (by simpa using hl)
    rw [ss_cons', st_if, cd]
    simp only [bind_ok, ifR_t]
    rw [evalSs_one ap, seqR_nx, ss_nil']
    simp [eLe]
end K74
end
section
set_option Elab.async false
set_option linter.all false
set_option maxRecDepth 100000
set_option maxHeartbeats 4000000
namespace K74
open PySem MP
theorem loop_le2 (M n : Nat) {c : Con n} {t : Sto} {ls : List (LinkT n)} (hls : ∀ k ∈ ls, okL n k) (nd : ls.Nodup) (ih : ∀ h w : LinkT n, h ∈ ls → w ∈ ls → ∀ t, callF FF 100000 M 5 [subD n h, subD n w] t = .ok (.bl (liesL n h w)) t) :
    ∀ (zs : List (LinkT n × Nat)) (acc : List (LinkT n)) (g : GL), (∀ z ∈ zs, ls[z.2]? = some z.1) → acc.length + zs.length ≤ 1000 → g.s1 = .val (.lst (ls.map (linkD n))) → g.s2 = .own (acc.map (linkD n)) →
    ∃ g' : GL, g'.s2 = .own ((acc ++ (zs.map (·.1)).filter (lone n ls)).map (linkD n)) ∧
      forLoop (fun d s => ofOpt (MP.assign (.tp [(.nm 6), (.tp [(.nm 3), (.nm 4)])]) d s) fun s3 => evalSs (callF FF 100000 M) 100000 leOut s3) (zs.map fun z : LinkT n × Nat => D.tup [.int (z.2 : Nat), linkD n z.1]) (eLe n c t g) = .ok .nx (eLe n c t g')
  | [], acc, g, _, _, _, h2 => ⟨g, by simpa using h2, rfl⟩
  | z :: zs, acc, g, hz, hl, h1, h2 => by
    rw [List.length_cons] at hl
    obtain ⟨g1, q1, q2, q3⟩ := turn_out1 M n (c := c) (t := t) hls nd ih acc (by omega) z.1 z.2 (hz z List.mem_cons_self) g h1 h2
    obtain ⟨g2, r2, r3⟩ := loop_le2 M n hls nd ih zs (acc ++ if lone n ls z.1 = true then [z.1] else []) g1 (fun y hy => hz y (List.mem_cons_of_mem _ hy)) (by
      rw [List.length_append]
      have : (if lone n ls z.1 = true then [z.1] else []).length ≤ 1 := by split <;> simp
      omega) (q1.trans h1) q2
    refine ⟨g2, ?_, ?_⟩
    · rw [r2, List.map_cons, List.filter_cons]
      cases lone n ls z.1 <;> simp
    · rw [List.map_cons, forLoop]
      show (ofOpt (MP.assign (.tp [(.nm 6), (.tp [(.nm 3), (.nm 4)])]) (.tup [.int (z.2 : Nat), linkD n z.1]) (eLe n c t g)) (fun s3 => evalSs (callF FF 100000 M) 100000 leOut s3)).bind _ = _
      rw [q3]
      exact r3
theorem sp_leaned_step (M n : Nat) {c : Con n} (t : Sto) (hn : n ≤ 20) (hc : okC n c) (ih : ∀ l ∈ c.2, ∀ t, callF FF 100000 M 6 [subD n l] t = .ok (subD n (leanL n l)) t)
    (il : ∀ h w : LinkT n, okL n h → okL n w → ∀ t, callF FF 100000 M 5 [subD n h, subD n w] t = .ok (.bl (liesL n h w)) t) :
    callF FF 100000 (M + 1) 6 [conD n c] t = .ok (conD n (leanN n c)) t := by
  have hF : FF[6]? = some ⟨1, 11, b_leaned⟩ := rfl
  have i0 := p_item_con0 n c
  have i1 := p_item_con1 n c
  have hfs : ∀ k ∈ firsts n (c.2.map (leanL n)), okL n k := fun k hk => by
    rw [mem_firsts, List.mem_map] at hk
    obtain ⟨l, hl, rfl⟩ := hk
    exact okL_lean (hc.2.2 l hl)
  have hfl : (firsts n (c.2.map (leanL n))).length ≤ 100 := by
    have e2 := firsts_len (c.2.map (leanL n))
    rw [List.length_map] at e2
    have := hc.2.1
    omega
  have st0 : evalS (callF FF 100000 M) 100000 (.own 1 (.lst .nil)) { loc := [conD n c].map .val ++ List.replicate (11 - 1) .unb, sto := t } = .ok .nx (eLe n c t { s1 := .own [] }) := by
    have := st_own_ok (cf := callF FF 100000 M) (wf := 100000) (i := 1) (e := .lst .nil) (s := { loc := [conD n c].map .val ++ List.replicate (11 - 1) .unb, sto := t }) (s' := { loc := [conD n c].map .val ++ List.replicate (11 - 1) .unb, sto := t }) (xs := []) (by simp) (by simp)
    rw [this]
    simp [eLe]
  obtain ⟨g1, a1, a2, e1⟩ := loop_le1 M n (c := c) (t := t) hn hc ih { s1 := .own [] } rfl
  have st1 : evalS (callF FF 100000 M) 100000 (.forr (.tp [(.nm 3), (.nm 4)]) (.seq (.prim .item (.cons (.var 0) (.cons (.con (.int 1)) .nil)))) (.cons leS1 (.cons leS2 .nil))) (eLe n c t { s1 := .own [] }) = .ok .nx (eLe n c t g1) := by
    have it : evalI (callF FF 100000 M) (.seq (.prim .item (.cons (.var 0) (.cons (.con (.int 1)) .nil)))) (eLe n c t { s1 := .own [] }) = .ok (c.2.map (linkD n)) (eLe n c t { s1 := .own [] }) := by
      simp [eLe, rdVar, i1, deref_con, items_links]
    rw [st_forr, it]
    simp only [bind_ok]
    exact e1
  generalize hfst : firsts n (c.2.map (leanL n)) = fs at *
  have nd : fs.Nodup := hfst ▸ firsts_nodup _
  have st2 : evalS (callF FF 100000 M) 100000 (.own 2 (.lst .nil)) (eLe n c t g1) = .ok .nx (eLe n c t { g1 with s2 := .own [] }) := by
    have := st_own_ok (cf := callF FF 100000 M) (wf := 100000) (i := 2) (e := .lst .nil) (s := eLe n c t g1) (s' := eLe n c t g1) (xs := []) (by simp) (by simp [eLe])
    rw [this]
    simp [eLe]
  obtain ⟨g2, b2, e2⟩ := loop_le2 M n (c := c) (t := t) hfs nd (fun h w hh hw => il h w (hfs h hh) (hfs w hw)) fs.zipIdx [] { g1 with s2 := .own [], s1 := .val (.lst (fs.map (linkD n))) } (fun z hz => List.mem_zipIdx_iff_getElem?.mp hz) (by simp; omega) rfl rfl
  have zf : fs.zipIdx.map (·.1) = fs := by
    have := List.zipIdx_map_fst 0 fs
    exact this
  rw [zf, List.nil_append] at b2
  have st3 : evalS (callF FF 100000 M) 100000 (.forr (.tp [(.nm 6), (.tp [(.nm 3), (.nm 4)])]) (.enum (.var 1)) leOut) (eLe n c t { g1 with s2 := .own [] }) = .ok .nx (eLe n c t g2) := by
    have it : evalI (callF FF 100000 M) (.enum (.var 1)) (eLe n c t { g1 with s2 := .own [] }) = .ok (enumL 0 (fs.map (linkD n))) (eLe n c t { g1 with s2 := .own [], s1 := .val (.lst (fs.map (linkD n))) }) := by
      have rd : rdVar 1 (eLe n c t { g1 with s2 := .own [] }) = .ok (.lst (fs.map (linkD n))) (eLe n c t { g1 with s2 := .own [], s1 := .val (.lst (fs.map (linkD n))) }) := by
        simp [eLe, rdVar, a1]
      simp only [evalI, evalE, rd, bind_ok, seqOf]
    rw [st_forr, it, enumL_gen]
    simp only [bind_ok]
    exact e2
  have so := p_sorted_links hn (fs.filter (lone n fs)) (by have := List.length_filter_le (lone n fs) fs; omega)
  rw [callF_succ, hF]
  show (if [conD n c].length = 1 then runRes (evalSs (callF FF 100000 M) 100000 b_leaned { loc := [conD n c].map .val ++ List.replicate (11 - 1) .unb, sto := t }) else .bad) = _
  rw [if_pos (show [conD n c].length = 1 from rfl)]
  unfold b_leaned
  rw [evalSs_one st0, seqR_nx, evalSs_one st1, seqR_nx, evalSs_one st2, seqR_nx, evalSs_one st3, seqR_nx]
  have ln : leanN n c = (c.1, sortK n (fs.filter (lone n fs))) := by
    unfold leanN
    rw [hfst]
  rw [ln]
  simp [eLe, rdVar, rdPeek, i0, deref_con, b2, so, p_tuple_lst]
  rfl
theorem sp_leaned : ∀ (n m : Nat) {c : Con n} (t : Sto), n ≤ 20 → okC n c → callF FF 100000 (m + n + 1) 6 [conD n c] t = .ok (conD n (leanN n c)) t
  | 0, m, c, t, hn, hc => sp_leaned_step m 0 t hn hc (fun l => nomatch l) (fun h => nomatch h)
  | n + 1, m, c, t, hn, hc => sp_leaned_step (m + (n + 1)) (n + 1) t hn hc (fun l hl t => sp_leaned n m t (by omega) (hc.2.2 l hl).2) (fun h w hh hw t => sub_lies (n + 1) m hh hw t)
end K74
end
section
set_option Elab.async false
set_option linter.all false
set_option maxRecDepth 100000
set_option maxHeartbeats 4000000
/-! _law_lean -/
namespace K74
open PySem MP
structure GM where
  s1 : MP.Slot := .unb
  s2 : MP.Slot := .unb
  s3 : MP.Slot := .unb
  s4 : MP.Slot := .unb
  s5 : MP.Slot := .unb
  s6 : MP.Slot := .unb
def eM (n : Nat) (c : Con n) (t : Sto) (g : GM) : S := { loc := [.val (conD n c), g.s1, g.s2, g.s3, g.s4, g.s5, g.s6, .unb], sto := t }
theorem p_item_link0 (n : Nat) (l : LinkT n) : prim .item [linkD n l, .int 0] = some (.str (role n l)) := by rw [linkD_eq]; rfl
theorem p_item_link1 (n : Nat) (l : LinkT n) : prim .item [linkD n l, .int 1] = some (subD n l) := by rw [linkD_eq]; rfl
theorem p_item_lst {n : Nat} {ls : List (LinkT n)} {l : LinkT n} {i : Nat} (hi : ls[i]? = some l) : prim .item [.lst (ls.map (linkD n)), .int (i : Nat)] = some (linkD n l) := by
  obtain ⟨h1, h2⟩ := List.getElem?_eq_some_iff.mp hi
  show L2.atI (ls.map (linkD n)) (i : Int) = _
  rw [atI_nat _ _ (by simpa using h1)]
  simp [h1, h2]
abbrev lmS1 : PS := (.set (.nm 6) (.tup (.cons (.var 4) (.cons (.call 20 (.cons (.var 5) .nil)) .nil))))
abbrev lmS2 : PS := (.ife (.prim .notIn (.cons (.var 6) (.cons (.peek 1) .nil))) (.cons (.app 1 (.var 6)) .nil) .nil)
theorem turn_lm1 (M n : Nat) {c : Con n} {t : Sto} (hn : n ≤ 20) (acc : List (LinkT n)) (hacc : ∀ k ∈ acc, okL n k) (hl : acc.length < 1000000) (l : LinkT n) (ol : okL n l) (ih : ∀ t, callF FF 100000 M 20 [subD n l] t = .ok (subD n (leanL n l)) t) (g : GM) (h1 : g.s1 = .own (acc.map (linkD n))) :
    ofOpt (MP.assign (.tp [(.nm 4), (.nm 5)]) (linkD n l) (eM n c t g)) (fun s3 => evalSs (callF FF 100000 M) 100000 (.cons lmS1 (.cons lmS2 .nil)) s3) = .ok .nx (eM n c t { g with s1 := .own ((stepD n acc (leanL n l)).map (linkD n)), s4 := .val (.str (role n l)), s5 := .val (subD n l), s6 := .val (linkD n (leanL n l)) }) := by
  have as : MP.assign (.tp [(.nm 4), (.nm 5)]) (linkD n l) (eM n c t g) = some (eM n c t { g with s4 := .val (.str (role n l)), s5 := .val (subD n l) }) := by
    rw [linkD_eq]
    simp [MP.assign, assignL, eM]
  have ec : ∀ s : S, callO (callF FF 100000 M) 20 [subD n l] s = .ok (subD n (leanL n l)) s := callv_at ih
  have st1 : evalS (callF FF 100000 M) 100000 lmS1 (eM n c t { g with s4 := .val (.str (role n l)), s5 := .val (subD n l) }) = .ok .nx (eM n c t { g with s4 := .val (.str (role n l)), s5 := .val (subD n l), s6 := .val (linkD n (leanL n l)) }) := by
    rw [linkD_eq n (leanL n l), role_lean]
    simp [eM, rdVar, ec, MP.assign]
  have pn := p_notIn_links (okL_lean ol) hacc hn
  have cd : evalE (callF FF 100000 M) (.prim .notIn (.cons (.var 6) (.cons (.peek 1) .nil))) (eM n c t { g with s4 := .val (.str (role n l)), s5 := .val (subD n l), s6 := .val (linkD n (leanL n l)) }) = .ok (.bl (!decide (leanL n l ∈ acc))) (eM n c t { g with s4 := .val (.str (role n l)), s5 := .val (subD n l), s6 := .val (linkD n (leanL n l)) }) := by
    simp [eM, rdVar, rdPeek, h1, deref_link, pn]
  rw [as, ofOpt_some, evalSs_one st1, seqR_nx, ss_cons', st_if, cd]
  simp only [bind_ok]
  by_cases hh : leanL n l ∈ acc
  · rw [decide_eq_true hh]
    simp [eM, stepD, hh, h1]
  · rw [decide_eq_false hh]
    have ap := st_app_ok (cf := callF FF 100000 M) (wf := 100000) (i := 1) (e := .var 6) (s := eM n c t { g with s4 := .val (.str (role n l)), s5 := .val (subD n l), s6 := .val (linkD n (leanL n l)) }) (s' := eM n c t { g with s4 := .val (.str (role n l)), s5 := .val (subD n l), s6 := .val (linkD n (leanL n l)) }) (ys := acc.map (linkD n)) (xs := acc.map (linkD n)) (d := linkD n (leanL n l)) (by simp [eM, h1]) (by simp [eM, rdVar]) (by simp [eM, h1]) (by simpa using hl)
    simp only [Bool.not_false, ifR_t]
    rw [evalSs_one ap, seqR_nx, ss_nil']
    simp [eM, stepD, hh]
theorem loop_lm1 (M n : Nat) {c : Con n} {t : Sto} (hn : n ≤ 20) (hc : okC n c) (ih : ∀ l ∈ c.2, ∀ t, callF FF 100000 M 20 [subD n l] t = .ok (subD n (leanL n l)) t) (g : GM) (h1 : g.s1 = .own []) :
    ∃ g' : GM, g'.s1 = .own ((firsts n (c.2.map (leanL n))).map (linkD n)) ∧ g'.s2 = g.s2 ∧ forLoop (fun d s => ofOpt (MP.assign (.tp [(.nm 4), (.nm 5)]) d s) fun s3 => evalSs (callF FF 100000 M) 100000 (.cons lmS1 (.cons lmS2 .nil)) s3) (c.2.map (linkD n)) (eM n c t g) = .ok .nx (eM n c t g') := by
  have key : ∀ (ls : List (LinkT n)) (acc : List (LinkT n)) (g : GM), (∀ l ∈ ls, l ∈ c.2) → (∀ k ∈ acc, okL n k) → acc.length + ls.length ≤ 1000 → g.s1 = .own (acc.map (linkD n)) →
      ∃ g' : GM, g'.s1 = .own (((ls.map (leanL n)).foldl (stepD n) acc).map (linkD n)) ∧ g'.s2 = g.s2 ∧ forLoop (fun d s => ofOpt (MP.assign (.tp [(.nm 4), (.nm 5)]) d s) fun s3 => evalSs (callF FF 100000 M) 100000 (.cons lmS1 (.cons lmS2 .nil)) s3) (ls.map (linkD n)) (eM n c t g) = .ok .nx (eM n c t g') := by
    intro ls
    induction ls with
    | nil => exact fun acc g _ _ _ h => ⟨g, h, rfl, rfl⟩
    | cons l ls ihl =>
      intro acc g hm ha hl h
      rw [List.length_cons] at hl
      have ol := hc.2.2 l (hm l List.mem_cons_self)
      have T := turn_lm1 M n (c := c) (t := t) hn acc ha (by omega) l ol (ih l (hm l List.mem_cons_self)) g h
      obtain ⟨g', q1, q2, q3⟩ := ihl (stepD n acc (leanL n l)) { g with s1 := .own ((stepD n acc (leanL n l)).map (linkD n)), s4 := .val (.str (role n l)), s5 := .val (subD n l), s6 := .val (linkD n (leanL n l)) } (fun z hz => hm z (List.mem_cons_of_mem _ hz)) (fun k hk => by
        unfold stepD at hk
        split at hk
        · exact ha k hk
        · rcases List.mem_append.mp hk with hk | hk
          · exact ha k hk
          · rw [List.mem_singleton.mp hk]; exact okL_lean ol) (by
        have : (stepD n acc (leanL n l)).length ≤ acc.length + 1 := by
          unfold stepD
          split
          · omega
          · simp
        omega) rfl
      refine ⟨g', q1, q2, ?_⟩
      rw [List.map_cons, forLoop]
      show (ofOpt (MP.assign (.tp [(.nm 4), (.nm 5)]) (linkD n l) (eM n c t g)) (fun s3 => evalSs (callF FF 100000 M) 100000 (.cons lmS1 (.cons lmS2 .nil)) s3)).bind _ = _
      rw [T]
      exact q3
  exact key c.2 [] g (fun _ h => h) (by simp) (by have := hc.2.1; simp; omega) h1
abbrev lmC : PE := (.comp (.bop true (.cons (.prim .ne (.cons (.var 7) (.cons (.tup (.cons (.var 4) (.cons (.var 5) .nil))) .nil))) (.cons (.prim .eq (.cons (.prim .item (.cons (.var 7) (.cons (.con (.int 0)) .nil))) (.cons (.var 4) .nil))) (.cons (.call 19 (.cons (.prim .item (.cons (.var 7) (.cons (.con (.int 1)) .nil))) (.cons (.var 5) .nil))) .nil)))) (.nm 7) (.seq (.peek 1)) .nil [7])
abbrev lmOut : PB := (.cons (.set (.tp [(.nm 4), (.nm 5)]) (.prim .item (.cons (.peek 1) (.cons (.var 3) .nil)))) (.cons (.ife (.nt (.prim .any (.cons lmC .nil))) (.cons (.app 2 (.prim .item (.cons (.peek 1) (.cons (.var 3) .nil)))) .nil) .nil) .nil))
theorem turn_lm2 (M n : Nat) {c : Con n} {t : Sto} (hn : n ≤ 20) {ls : List (LinkT n)} (hls : ∀ k ∈ ls, okL n k) (hlen : ls.length ≤ 1000) (ih : ∀ h w : LinkT n, h ∈ ls → w ∈ ls → ∀ t, callF FF 100000 M 19 [subD n h, subD n w] t = .ok (.bl (liesL n h w)) t)
    (acc : List (LinkT n)) (hl : acc.length < 1000000) (l : LinkT n) (i : Nat) (hi : ls[i]? = some l) (g : GM) (h1 : g.s1 = .own (ls.map (linkD n))) (h2 : g.s2 = .own (acc.map (linkD n))) :
    ∃ g' : GM, g'.s1 = g.s1 ∧ g'.s2 = .own ((acc ++ if lone n ls l = true then [l] else []).map (linkD n)) ∧
      ofOpt (MP.assign (.nm 3) (.int (i : Nat)) (eM n c t g)) (fun s3 => evalSs (callF FF 100000 M) 100000 lmOut s3) = .ok .nx (eM n c t g') := by
  obtain ⟨g1, g2, g3, g4, g5, g6⟩ := g
  dsimp only at h1 h2
  subst h1 h2
  have hm := List.mem_of_getElem? hi
  have pil := p_item_lst hi
  have as : MP.assign (.nm 3) (.int (i : Nat)) (eM n c t { s1 := .own (ls.map (linkD n)), s2 := .own (acc.map (linkD n)), s3 := g3, s4 := g4, s5 := g5, s6 := g6 }) = some (eM n c t { s1 := .own (ls.map (linkD n)), s2 := .own (acc.map (linkD n)), s3 := .val (.int (i : Nat)), s4 := g4, s5 := g5, s6 := g6 }) := by simp [MP.assign, eM]
  have ve : evalE (callF FF 100000 M) (.prim .item (.cons (.peek 1) (.cons (.var 3) .nil))) (eM n c t { s1 := .own (ls.map (linkD n)), s2 := .own (acc.map (linkD n)), s3 := .val (.int (i : Nat)), s4 := g4, s5 := g5, s6 := g6 }) = .ok (linkD n l) (eM n c t { s1 := .own (ls.map (linkD n)), s2 := .own (acc.map (linkD n)), s3 := .val (.int (i : Nat)), s4 := g4, s5 := g5, s6 := g6 }) := by
    have p1 : ev1 (callF FF 100000 M) (.peek 1) (eM n c t { s1 := .own (ls.map (linkD n)), s2 := .own (acc.map (linkD n)), s3 := .val (.int (i : Nat)), s4 := g4, s5 := g5, s6 := g6 }) = .ok (.lst (ls.map (linkD n))) (eM n c t { s1 := .own (ls.map (linkD n)), s2 := .own (acc.map (linkD n)), s3 := .val (.int (i : Nat)), s4 := g4, s5 := g5, s6 := g6 }) := by rw [op_peek]; rfl
    have p2 : ev1 (callF FF 100000 M) (.var 3) (eM n c t { s1 := .own (ls.map (linkD n)), s2 := .own (acc.map (linkD n)), s3 := .val (.int (i : Nat)), s4 := g4, s5 := g5, s6 := g6 }) = .ok (.int (i : Nat)) (eM n c t { s1 := .own (ls.map (linkD n)), s2 := .own (acc.map (linkD n)), s3 := .val (.int (i : Nat)), s4 := g4, s5 := g5, s6 := g6 }) := by rw [op_var, ev_var]; rfl
    rw [ev_prim, evO_cons, p1]
    simp only [bind_ok]
    rw [evO_cons, p2]
    simp only [bind_ok, evO_nil, List.map_cons, List.map_nil, deref_lst, deref_int]
    rw [pil]
    rfl
  have st1 : evalS (callF FF 100000 M) 100000 (.set (.tp [(.nm 4), (.nm 5)]) (.prim .item (.cons (.peek 1) (.cons (.var 3) .nil)))) (eM n c t { s1 := .own (ls.map (linkD n)), s2 := .own (acc.map (linkD n)), s3 := .val (.int (i : Nat)), s4 := g4, s5 := g5, s6 := g6 }) = .ok .nx (eM n c t { s1 := .own (ls.map (linkD n)), s2 := .own (acc.map (linkD n)), s3 := .val (.int (i : Nat)), s4 := .val (.str (role n l)), s5 := .val (subD n l), s6 := g6 }) := by
    rw [st_set, ve]
    simp only [bind_ok]
    rw [linkD_eq n l]
    simp [eM, MP.assign, assignL]
  have C := comp_gen (cf := callF FF 100000 M) (elt := (.bop true (.cons (.prim .ne (.cons (.var 7) (.cons (.tup (.cons (.var 4) (.cons (.var 5) .nil))) .nil))) (.cons (.prim .eq (.cons (.prim .item (.cons (.var 7) (.cons (.con (.int 0)) .nil))) (.cons (.var 4) .nil))) (.cons (.call 19 (.cons (.prim .item (.cons (.var 7) (.cons (.con (.int 1)) .nil))) (.cons (.var 5) .nil))) .nil))))) (t := .nm 7) (it := .seq (.peek 1)) (cs := .nil) (vs := [7]) (s := eM n c t { s1 := .own (ls.map (linkD n)), s2 := .own (acc.map (linkD n)), s3 := .val (.int (i : Nat)), s4 := .val (.str (role n l)), s5 := .val (subD n l), s6 := g6 }) (s1 := eM n c t { s1 := .own (ls.map (linkD n)), s2 := .own (acc.map (linkD n)), s3 := .val (.int (i : Nat)), s4 := .val (.str (role n l)), s5 := .val (subD n l), s6 := g6 }) (ys := ls) (h := linkD n)
    (fun k => [.bl (!decide (k = l) && (decide (role n k = role n l) && liesL n k l))]) (by simp [eM, rdPeek, itemsOf]) (fun k hk => by
      have pne := p_ne_link (hls k hk) (hls l hm) hn
      have pe := p_eq_str (okL_role (hls k hk)) (okL_role (hls l hm))
      have ec : ∀ s : S, callO (callF FF 100000 M) 19 [subD n k, subD n l] s = .ok (.bl (liesL n k l)) s := callv_at (ih k l hk hm)
      have q0 := p_item_link0 n k
      have q1 := p_item_link1 n k
      rw [linkD_eq n l] at pne
      refine ⟨[.val (conD n c), (.own (ls.map (linkD n))), (.own (acc.map (linkD n))), .val (.int (i : Nat)), .val (.str (role n l)), .val (subD n l), g6, .val (linkD n k)], ?_, rfl⟩
      have as2 : MP.assign (.nm 7) (linkD n k) { loc := MP.wipe (eM n c t { s1 := .own (ls.map (linkD n)), s2 := .own (acc.map (linkD n)), s3 := .val (.int (i : Nat)), s4 := .val (.str (role n l)), s5 := .val (subD n l), s6 := g6 }).loc [7], sto := t } = some { loc := [.val (conD n c), (.own (ls.map (linkD n))), (.own (acc.map (linkD n))), .val (.int (i : Nat)), .val (.str (role n l)), .val (subD n l), g6, .val (linkD n k)], sto := t } := by simp [MP.assign, eM, MP.wipe]
      have v := ev_and3 (cf := callF FF 100000 M) (a := (.prim .ne (.cons (.var 7) (.cons (.tup (.cons (.var 4) (.cons (.var 5) .nil))) .nil)))) (b := (.prim .eq (.cons (.prim .item (.cons (.var 7) (.cons (.con (.int 0)) .nil))) (.cons (.var 4) .nil)))) (c := (.call 19 (.cons (.prim .item (.cons (.var 7) (.cons (.con (.int 1)) .nil))) (.cons (.var 5) .nil)))) (s := { loc := [.val (conD n c), (.own (ls.map (linkD n))), (.own (acc.map (linkD n))), .val (.int (i : Nat)), .val (.str (role n l)), .val (subD n l), g6, .val (linkD n k)], sto := t }) (p := !decide (k = l)) (q := decide (role n k = role n l)) (r := liesL n k l)
        (by simp [rdVar, deref_link, pne]) (fun _ => by simp [rdVar, deref_link, q0, pe]) (fun _ _ => by simp [rdVar, deref_link, q1, ec])
      show turnF _ _ _ _ (linkD n k) { loc := MP.wipe (eM n c t { s1 := .own (ls.map (linkD n)), s2 := .own (acc.map (linkD n)), s3 := .val (.int (i : Nat)), s4 := .val (.str (role n l)), s5 := .val (subD n l), s6 := g6 }).loc [7], sto := t } = _
      unfold turnF
      rw [as2, ofOpt_some]
      simp only [evC_nil, bind_ok, if_true]
      rw [v]
      rfl) (by rw [flatMap_one]; simp; omega)
  rw [flatMap_one] at C
  have C := C.trans (show _ = Out.ok (.lst (ls.map fun k => .bl (!decide (k = l) && (decide (role n k = role n l) && liesL n k l)))) (eM n c t { s1 := .own (ls.map (linkD n)), s2 := .own (acc.map (linkD n)), s3 := .val (.int (i : Nat)), s4 := .val (.str (role n l)), s5 := .val (subD n l), s6 := g6 }) by simp [unwipe, eM])
  have pa := p_any_map ls fun k => !decide (k = l) && (decide (role n k = role n l) && liesL n k l)
  have cd : evalE (callF FF 100000 M) (.nt (.prim .any (.cons lmC .nil))) (eM n c t { s1 := .own (ls.map (linkD n)), s2 := .own (acc.map (linkD n)), s3 := .val (.int (i : Nat)), s4 := .val (.str (role n l)), s5 := .val (subD n l), s6 := g6 }) = .ok (.bl (lone n ls l)) (eM n c t { s1 := .own (ls.map (linkD n)), s2 := .own (acc.map (linkD n)), s3 := .val (.int (i : Nat)), s4 := .val (.str (role n l)), s5 := .val (subD n l), s6 := g6 }) := by
    rw [ev_nt, ev_prim, evO_cons, op_comp, C]
    simp only [bind_ok, evO_nil, List.map_cons, List.map_nil, deref_lst, pa, toOut_some, notR_bl]
    rfl
  rw [as, ofOpt_some, evalSs_one st1, seqR_nx, ss_cons', st_if, cd]
  simp only [bind_ok]
  cases hb : lone n ls l with
  | false => exact ⟨{ s1 := .own (ls.map (linkD n)), s2 := .own (acc.map (linkD n)), s3 := .val (.int (i : Nat)), s4 := .val (.str (role n l)), s5 := .val (subD n l), s6 := g6 }, rfl, by simp, by simp⟩
  | true =>
    refine ⟨{ s1 := .own (ls.map (linkD n)), s2 := .own ((acc ++ [l]).map (linkD n)), s3 := .val (.int (i : Nat)), s4 := .val (.str (role n l)), s5 := .val (subD n l), s6 := g6 }, rfl, by simp, ?_⟩
    have ve2 : evalE (callF FF 100000 M) (.prim .item (.cons (.peek 1) (.cons (.var 3) .nil))) (eM n c t { s1 := .own (ls.map (linkD n)), s2 := .own (acc.map (linkD n)), s3 := .val (.int (i : Nat)), s4 := .val (.str (role n l)), s5 := .val (subD n l), s6 := g6 }) = .ok (linkD n l) (eM n c t { s1 := .own (ls.map (linkD n)), s2 := .own (acc.map (linkD n)), s3 := .val (.int (i : Nat)), s4 := .val (.str (role n l)), s5 := .val (subD n l), s6 := g6 }) := by
      have p1 : ev1 (callF FF 100000 M) (.peek 1) (eM n c t { s1 := .own (ls.map (linkD n)), s2 := .own (acc.map (linkD n)), s3 := .val (.int (i : Nat)), s4 := .val (.str (role n l)), s5 := .val (subD n l), s6 := g6 }) = .ok (.lst (ls.map (linkD n))) (eM n c t { s1 := .own (ls.map (linkD n)), s2 := .own (acc.map (linkD n)), s3 := .val (.int (i : Nat)), s4 := .val (.str (role n l)), s5 := .val (subD n l), s6 := g6 }) := by rw [op_peek]; rfl
      have p2 : ev1 (callF FF 100000 M) (.var 3) (eM n c t { s1 := .own (ls.map (linkD n)), s2 := .own (acc.map (linkD n)), s3 := .val (.int (i : Nat)), s4 := .val (.str (role n l)), s5 := .val (subD n l), s6 := g6 }) = .ok (.int (i : Nat)) (eM n c t { s1 := .own (ls.map (linkD n)), s2 := .own (acc.map (linkD n)), s3 := .val (.int (i : Nat)), s4 := .val (.str (role n l)), s5 := .val (subD n l), s6 := g6 }) := by rw [op_var, ev_var]; rfl
      rw [ev_prim, evO_cons, p1]
      simp only [bind_ok]
      rw [evO_cons, p2]
      simp only [bind_ok, evO_nil, List.map_cons, List.map_nil, deref_lst, deref_int]
      rw [pil]
      rfl
    have ap := st_app_ok (cf := callF FF 100000 M) (wf := 100000) (i := 2) (e := (.prim .item (.cons (.peek 1) (.cons (.var 3) .nil)))) (s := eM n c t { s1 := .own (ls.map (linkD n)), s2 := .own (acc.map (linkD n)), s3 := .val (.int (i : Nat)), s4 := .val (.str (role n l)), s5 := .val (subD n l), s6 := g6 }) (s' := eM n c t { s1 := .own (ls.map (linkD n)), s2 := .own (acc.map (linkD n)), s3 := .val (.int (i : Nat)), s4 := .val (.str (role n l)), s5 := .val (subD n l), s6 := g6 }) (ys := acc.map (linkD n)) (xs := acc.map (linkD n)) (d := linkD n l) (by simp [eM]) ve2 (by simp [eM]) (by simpa using hl)
    simp only [ifR_t]
    rw [evalSs_one ap, seqR_nx, ss_nil']
    simp [eM]
end K74
end
section
set_option Elab.async false
set_option linter.all false
set_option maxRecDepth 100000
set_option maxHeartbeats 4000000
namespace K74
open PySem MP
theorem zip_ints {β : Type} (ls : List β) : (List.range ls.length).map (fun k => D.int (k : Nat)) = ls.zipIdx.map fun y => D.int (y.2 : Nat) := by
  have : ls.zipIdx.map Prod.snd = List.range ls.length := by
    rw [List.zipIdx_map_snd, List.range_eq_range']
  rw [← this, List.map_map]
  rfl
theorem fewL_lean : ∀ {n : Nat} {l : LinkT n}, fewL n l → fewL n (leanL n l)
  | 0, l, _ => nomatch l
  | n + 1, l, ⟨h1, h2⟩ => by
    refine ⟨h1, fun k hk => ?_⟩
    have p := sortK_perm n ((firsts n (l.2.2.map (leanL n))).filter (lone n (firsts n (l.2.2.map (leanL n)))))
    have hk : k ∈ sortK n ((firsts n (l.2.2.map (leanL n))).filter (lone n (firsts n (l.2.2.map (leanL n))))) := hk
    rw [p.mem_iff, List.mem_filter, mem_firsts, List.mem_map] at hk
    obtain ⟨⟨m, hm, rfl⟩, _⟩ := hk
    exact fewL_lean (h2 m hm)
theorem loop_lm2 (M n : Nat) {c : Con n} {t : Sto} (hn : n ≤ 20) {ls : List (LinkT n)} (hls : ∀ k ∈ ls, okL n k) (hlen : ls.length ≤ 1000) (ih : ∀ h w : LinkT n, h ∈ ls → w ∈ ls → ∀ t, callF FF 100000 M 19 [subD n h, subD n w] t = .ok (.bl (liesL n h w)) t) :
    ∀ (zs : List (LinkT n × Nat)) (acc : List (LinkT n)) (g : GM), (∀ z ∈ zs, ls[z.2]? = some z.1) → acc.length + zs.length ≤ 1000 → g.s1 = .own (ls.map (linkD n)) → g.s2 = .own (acc.map (linkD n)) →
    ∃ g' : GM, g'.s2 = .own ((acc ++ (zs.map (·.1)).filter (lone n ls)).map (linkD n)) ∧
      forLoop (fun d s => ofOpt (MP.assign (.nm 3) d s) fun s3 => evalSs (callF FF 100000 M) 100000 lmOut s3) (zs.map fun z : LinkT n × Nat => D.int (z.2 : Nat)) (eM n c t g) = .ok .nx (eM n c t g')
  | [], acc, g, _, _, _, h2 => ⟨g, by simpa using h2, rfl⟩
  | z :: zs, acc, g, hz, hl, h1, h2 => by
    rw [List.length_cons] at hl
    obtain ⟨g1, q1, q2, q3⟩ := turn_lm2 M n (c := c) (t := t) hn hls hlen ih acc (by omega) z.1 z.2 (hz z List.mem_cons_self) g h1 h2
    obtain ⟨g2, r2, r3⟩ := loop_lm2 M n hn hls hlen ih zs (acc ++ if lone n ls z.1 = true then [z.1] else []) g1 (fun y hy => hz y (List.mem_cons_of_mem _ hy)) (by
      rw [List.length_append]
      have : (if lone n ls z.1 = true then [z.1] else []).length ≤ 1 := by split <;> simp
      omega) (q1.trans h1) q2
    refine ⟨g2, ?_, ?_⟩
    · rw [r2, List.map_cons, List.filter_cons]
      cases lone n ls z.1 <;> simp
    · rw [List.map_cons, forLoop]
      show (ofOpt (MP.assign (.nm 3) (.int (z.2 : Nat)) (eM n c t g)) (fun s3 => evalSs (callF FF 100000 M) 100000 lmOut s3)).bind _ = _
      rw [q3]
      exact r3
theorem sp_law_lean_step (M n : Nat) {c : Con n} (t : Sto) (hn : n ≤ 20) (hc : okC n c) (hfc : fewC n c) (ih : ∀ l ∈ c.2, ∀ t, callF FF 100000 M 20 [subD n l] t = .ok (subD n (leanL n l)) t)
    (il : ∀ h w : LinkT n, okL n h → okL n w → fewL n w → ∀ t, callF FF 100000 M 19 [subD n h, subD n w] t = .ok (.bl (liesL n h w)) t) :
    callF FF 100000 (M + 1) 20 [conD n c] t = .ok (conD n (leanN n c)) t := by
  have hF : FF[20]? = some ⟨1, 8, b_law_lean⟩ := rfl
  have i0 := p_item_con0 n c
  have i1 := p_item_con1 n c
  have hfs : ∀ k ∈ firsts n (c.2.map (leanL n)), okL n k ∧ fewL n k := fun k hk => by
    rw [mem_firsts, List.mem_map] at hk
    obtain ⟨l, hl, rfl⟩ := hk
    exact ⟨okL_lean (hc.2.2 l hl), fewL_lean (hfc.2 l hl)⟩
  have hfl : (firsts n (c.2.map (leanL n))).length ≤ 100 := by
    have e2 := firsts_len (c.2.map (leanL n))
    rw [List.length_map] at e2
    have := hc.2.1
    omega
  have st0 : evalS (callF FF 100000 M) 100000 (.own 1 (.lst .nil)) { loc := [conD n c].map .val ++ List.replicate (8 - 1) .unb, sto := t } = .ok .nx (eM n c t { s1 := .own [] }) := by
    have := st_own_ok (cf := callF FF 100000 M) (wf := 100000) (i := 1) (e := .lst .nil) (s := { loc := [conD n c].map .val ++ List.replicate (8 - 1) .unb, sto := t }) (s' := { loc := [conD n c].map .val ++ List.replicate (8 - 1) .unb, sto := t }) (xs := []) (by simp) (by simp)
    rw [this]
    simp [eM]
  obtain ⟨g1, a1, a2, e1⟩ := loop_lm1 M n (c := c) (t := t) hn hc ih { s1 := .own [] } rfl
  have st1 : evalS (callF FF 100000 M) 100000 (.forr (.tp [(.nm 4), (.nm 5)]) (.seq (.prim .item (.cons (.var 0) (.cons (.con (.int 1)) .nil)))) (.cons lmS1 (.cons lmS2 .nil))) (eM n c t { s1 := .own [] }) = .ok .nx (eM n c t g1) := by
    have it : evalI (callF FF 100000 M) (.seq (.prim .item (.cons (.var 0) (.cons (.con (.int 1)) .nil)))) (eM n c t { s1 := .own [] }) = .ok (c.2.map (linkD n)) (eM n c t { s1 := .own [] }) := by
      simp [eM, rdVar, i1, deref_con, items_links]
    rw [st_forr, it]
    simp only [bind_ok]
    exact e1
  generalize hfst : firsts n (c.2.map (leanL n)) = fs at *
  have st2 : evalS (callF FF 100000 M) 100000 (.own 2 (.lst .nil)) (eM n c t g1) = .ok .nx (eM n c t { g1 with s2 := .own [] }) := by
    have := st_own_ok (cf := callF FF 100000 M) (wf := 100000) (i := 2) (e := .lst .nil) (s := eM n c t g1) (s' := eM n c t g1) (xs := []) (by simp) (by simp [eM])
    rw [this]
    simp [eM]
  obtain ⟨g2, b2, e2⟩ := loop_lm2 M n (c := c) (t := t) hn (fun k hk => (hfs k hk).1) (by omega) (fun h w hh hw => il h w (hfs h hh).1 (hfs w hw).1 (hfs w hw).2) fs.zipIdx [] { g1 with s2 := .own [] } (fun z hz => List.mem_zipIdx_iff_getElem?.mp hz) (by simp; omega) a1 rfl
  have zf : fs.zipIdx.map (·.1) = fs := List.zipIdx_map_fst 0 fs
  rw [zf, List.nil_append] at b2
  have ln : prim .len [.lst (fs.map (linkD n))] = some (.int fs.length) := by
    show some (D.int ((fs.map (linkD n)).length : Nat)) = _
    rw [List.length_map]
  have sm : smallI (fs.length : Int) = true := by unfold smallI; simp; omega
  have st3 : evalS (callF FF 100000 M) 100000 (.forr (.nm 3) (.rng1 (.prim .len (.cons (.peek 1) .nil))) lmOut) (eM n c t { g1 with s2 := .own [] }) = .ok .nx (eM n c t g2) := by
    have it : evalI (callF FF 100000 M) (.rng1 (.prim .len (.cons (.peek 1) .nil))) (eM n c t { g1 with s2 := .own [] }) = .ok (fs.zipIdx.map fun y => D.int (y.2 : Nat)) (eM n c t { g1 with s2 := .own [] }) := by
      rw [← zip_ints]
      simp [eM, rdPeek, a1, ln, sm, rngL_nat]
    rw [st_forr, it]
    simp only [bind_ok]
    exact e2
  have so := p_sorted_links hn (fs.filter (lone n fs)) (by have := List.length_filter_le (lone n fs) fs; omega)
  rw [callF_succ, hF]
  show (if [conD n c].length = 1 then runRes (evalSs (callF FF 100000 M) 100000 b_law_lean { loc := [conD n c].map .val ++ List.replicate (8 - 1) .unb, sto := t }) else .bad) = _
  rw [if_pos (show [conD n c].length = 1 from rfl)]
  unfold b_law_lean
  rw [evalSs_one st0, seqR_nx, evalSs_one st1, seqR_nx, evalSs_one st2, seqR_nx, evalSs_one st3, seqR_nx]
  have lnn : leanN n c = (c.1, sortK n (fs.filter (lone n fs))) := by
    unfold leanN
    rw [hfst]
  rw [lnn]
  simp [eM, rdVar, rdPeek, i0, deref_con, b2, so, p_tuple_lst]
  rfl
theorem sp_law_lean : ∀ (n m : Nat) {c : Con n} (t : Sto), n ≤ 20 → okC n c → fewC n c → callF FF 100000 (m + n + 1) 20 [conD n c] t = .ok (conD n (leanN n c)) t
  | 0, m, c, t, hn, hc, hf => sp_law_lean_step m 0 t hn hc hf (fun l => nomatch l) (fun h => nomatch h)
  | n + 1, m, c, t, hn, hc, hf => sp_law_lean_step (m + (n + 1)) (n + 1) t hn hc hf (fun l hl t => sp_law_lean n m t (by omega) (hc.2.2 l hl).2 (hf.2 l hl)) (fun h w hh hw fw t => sub_law_lies (n + 1) m hh hw fw t)
end K74
end
section
set_option Elab.async false
set_option linter.all false
set_option maxRecDepth 100000
set_option maxHeartbeats 4000000
/-! fractions -/
namespace K74
open PySem MP
abbrev Fr := Nat × Nat
def frD (x : Fr) : D := .tup [.int (x.1 : Nat), .int (x.2 : Nat)]
def low (p q : Nat) : Fr := (p / Nat.gcd p q, q / Nat.gcd p q)
def more (x y : Fr) : Bool := decide (x.1 * y.2 > y.1 * x.2)
theorem log_lt {n k : Nat} (h : n < 2 ^ k) (hk : 0 < k) : n.log2 < k := by
  by_cases z : n = 0
  · subst z; exact hk
  · exact (Nat.log2_lt z).mpr h
theorem divOk_nat {g k : Nat} (h0 : 0 < g) (h : g < 2 ^ k) (hk : k < 9000) (hk0 : 0 < k) : divOk (g : Int) = true := by
  unfold divOk
  have := log_lt h hk0
  simp
  omega
theorem mulOk_nat {i j k : Nat} (h1 : i < 2 ^ k) (h2 : j < 2 ^ k) (hk0 : 0 < k) (hk : k < 400000) : mulOk (i : Int) (j : Int) = true := by
  unfold mulOk
  have := log_lt h1 hk0
  have := log_lt h2 hk0
  simp
  omega
theorem p_fdiv_nat {a g k : Nat} (h0 : 0 < g) (h : g < 2 ^ k) (hk : k < 9000) (hk0 : 0 < k) : prim .fdiv [.int (a : Nat), .int (g : Nat)] = some (.int ((a / g : Nat) : Nat)) := by
  show (if divOk (g : Int) then some (D.int ((a : Int) / (g : Int))) else none) = _
  rw [if_pos (divOk_nat h0 h hk hk0)]
  rfl
theorem p_mul_nat {i j k : Nat} (h1 : i < 2 ^ k) (h2 : j < 2 ^ k) (hk0 : 0 < k) (hk : k < 400000) : prim .mul [.int (i : Nat), .int (j : Nat)] = some (.int ((i * j : Nat) : Nat)) := by
  show (if mulOk (i : Int) (j : Int) then some (D.int ((i : Int) * (j : Int))) else none) = _
  rw [if_pos (mulOk_nat h1 h2 hk0 hk)]
  rfl
theorem p_add_nat (i j : Nat) : prim .add [.int (i : Nat), .int (j : Nat)] = some (.int ((i + j : Nat) : Nat)) := rfl
theorem p_fr0 (x : Fr) : prim .item [frD x, .int 0] = some (.int (x.1 : Nat)) := rfl
theorem p_fr1 (x : Fr) : prim .item [frD x, .int 1] = some (.int (x.2 : Nat)) := rfl
theorem deref_fr (t : Sto) (x : Fr) : deref t (frD x) = frD x := rfl
theorem gcd_lt {p q k : Nat} (h0 : 0 < q) (h : q < 2 ^ k) : Nat.gcd p q < 2 ^ k := Nat.lt_of_le_of_lt (Nat.gcd_le_right p h0) h
theorem sp_lowest (m : Nat) {p q k : Nat} (t : Sto) (h0 : 0 < q) (h : q < 2 ^ k) (hk : k < 9000) (hk0 : 0 < k) : callF FF 100000 (m + 1) 7 [.int (p : Nat), .int (q : Nat)] t = .ok (frD (low p q)) t := by
  have hF : FF[7]? = some ⟨2, 3, b_lowest⟩ := rfl
  have g0 : 0 < Nat.gcd p q := Nat.gcd_pos_of_pos_right p h0
  have e1 : prim .gcd [.int (p : Nat), .int (q : Nat)] = some (.int ((Nat.gcd p q : Nat) : Nat)) := rfl
  have e2 := p_fdiv_nat (a := p) g0 (gcd_lt (p := p) h0 h) hk hk0
  have e3 := p_fdiv_nat (a := q) g0 (gcd_lt (p := p) h0 h) hk hk0
  rw [callF_succ, hF]
  show (if [D.int (p : Nat), .int (q : Nat)].length = 2 then runRes (evalSs (callF FF 100000 m) 100000 b_lowest { loc := [D.int (p : Nat), .int (q : Nat)].map .val ++ List.replicate (3 - 2) .unb, sto := t }) else .bad) = _
  rw [if_pos (show [D.int (p : Nat), .int (q : Nat)].length = 2 from rfl)]
  unfold b_lowest
  simp [rdVar, e1, e2, e3, MP.assign]
  rfl
theorem sp_is_more (m : Nat) {x y : Fr} {k : Nat} (t : Sto) (h1 : x.1 < 2 ^ k) (h2 : x.2 < 2 ^ k) (h3 : y.1 < 2 ^ k) (h4 : y.2 < 2 ^ k) (hk0 : 0 < k) (hk : k < 400000) : callF FF 100000 (m + 1) 8 [frD x, frD y] t = .ok (.bl (more x y)) t := by
  have hF : FF[8]? = some ⟨2, 2, b_is_more⟩ := rfl
  have e1 := p_mul_nat h1 h4 hk0 hk
  have e2 := p_mul_nat h3 h2 hk0 hk
  have e3 : prim .gt [.int ((x.1 * y.2 : Nat) : Int), .int ((y.1 * x.2 : Nat) : Int)] = some (.bl (more x y)) := by
    rw [p_gt_int]
    unfold more
    congr 2
    exact decide_eq_decide.mpr ⟨fun z => by omega, fun z => by omega⟩
  have a0 := p_fr0 x
  have a1 := p_fr1 x
  have b0 := p_fr0 y
  have b1 := p_fr1 y
  rw [callF_succ, hF]
  show (if [frD x, frD y].length = 2 then runRes (evalSs (callF FF 100000 m) 100000 b_is_more { loc := [frD x, frD y].map .val ++ List.replicate (2 - 2) .unb, sto := t }) else .bad) = _
  rw [if_pos (show [frD x, frD y].length = 2 from rfl)]
  unfold b_is_more
  simp only [Int.natCast_mul] at e1 e2 e3
  simp [rdVar, deref_fr, a0, a1, b0, b1, e1, e2, e3]
/-! Euclid -/
/-- a good pair of numbers after j turns is small -/
theorem gcd_loop (M : Nat) {t : Sto} : ∀ (k : Nat) (xs : List D) (a b : Nat) (s2 : MP.Slot), b < 2 ^ k → 2 * k < xs.length → (∀ x ∈ xs, ∃ i : Nat, x = .int (i : Nat)) →
    ∃ r2 r1, forLoop (fun d s => ofOpt (MP.assign (.nm 2) d s) fun s3 => evalSs (callF FF 100000 M) 100000 (.cons (.ife (.prim .eq (.cons (.var 1) (.cons (.con (.int 0)) .nil))) (.cons .brk .nil) .nil) (.cons (.set (.tp [(.nm 0), (.nm 1)]) (.tup (.cons (.var 1) (.cons (.prim .mod (.cons (.prim .int1 (.cons (.var 0) .nil)) (.cons (.var 1) .nil))) .nil)))) .nil)) s3) xs { loc := [.val (.int (a : Nat)), .val (.int (b : Nat)), s2], sto := t } = .ok .nx { loc := [.val (.int ((Nat.gcd a b : Nat) : Int)), r1, r2], sto := t } := by
  have one : ∀ (x : D) (a b : Nat) (s2 : MP.Slot), 0 < b → (ofOpt (MP.assign (.nm 2) x { loc := [.val (.int (a : Nat)), .val (.int (b : Nat)), s2], sto := t }) fun s3 => evalSs (callF FF 100000 M) 100000 (.cons (.ife (.prim .eq (.cons (.var 1) (.cons (.con (.int 0)) .nil))) (.cons .brk .nil) .nil) (.cons (.set (.tp [(.nm 0), (.nm 1)]) (.tup (.cons (.var 1) (.cons (.prim .mod (.cons (.prim .int1 (.cons (.var 0) .nil)) (.cons (.var 1) .nil))) .nil)))) .nil)) s3) = .ok .nx { loc := [.val (.int (b : Nat)), .val (.int ((a % b : Nat) : Int)), .val x], sto := t } := fun x a b s2 hb => by
    have e1 := p_eq_int (b : Nat) 0
    rw [decide_eq_false (show ¬ ((b : Nat) : Int) = 0 by omega)] at e1
    have e2 : prim .int1 [.int (a : Nat)] = some (.int (a : Nat)) := rfl
    have e3 : prim .mod [.int (a : Nat), .int (b : Nat)] = some (.int ((a % b : Nat) : Int)) := p_mod_pos (a : Nat) (b : Nat) (by omega)
    have as : MP.assign (.nm 2) x { loc := [.val (.int (a : Nat)), .val (.int (b : Nat)), s2], sto := t } = some { loc := [.val (.int (a : Nat)), .val (.int (b : Nat)), .val x], sto := t } := by simp [MP.assign]
    have cd : evalE (callF FF 100000 M) (.prim .eq (.cons (.var 1) (.cons (.con (.int 0)) .nil))) { loc := [.val (.int (a : Nat)), .val (.int (b : Nat)), .val x], sto := t } = .ok (.bl false) { loc := [.val (.int (a : Nat)), .val (.int (b : Nat)), .val x], sto := t } := by simp [rdVar, e1]
    have st1 := st_skip (wf := 100000) (b := (.cons .brk .nil)) cd
    have vm : evalE (callF FF 100000 M) (.prim .mod (.cons (.prim .int1 (.cons (.var 0) .nil)) (.cons (.var 1) .nil))) { loc := [.val (.int (a : Nat)), .val (.int (b : Nat)), .val x], sto := t } = .ok (.int ((a % b : Nat) : Int)) { loc := [.val (.int (a : Nat)), .val (.int (b : Nat)), .val x], sto := t } := by
      simp only [Int.natCast_emod] at e3 ⊢
      simp [rdVar, e2, e3]
    have vt : evalE (callF FF 100000 M) (.tup (.cons (.var 1) (.cons (.prim .mod (.cons (.prim .int1 (.cons (.var 0) .nil)) (.cons (.var 1) .nil))) .nil))) { loc := [.val (.int (a : Nat)), .val (.int (b : Nat)), .val x], sto := t } = .ok (.tup [.int (b : Nat), .int ((a % b : Nat) : Int)]) { loc := [.val (.int (a : Nat)), .val (.int (b : Nat)), .val x], sto := t } := by
      have v1 : evalE (callF FF 100000 M) (.var 1) { loc := [.val (.int (a : Nat)), .val (.int (b : Nat)), .val x], sto := t } = .ok (.int (b : Nat)) { loc := [.val (.int (a : Nat)), .val (.int (b : Nat)), .val x], sto := t } := by simp [rdVar]
      rw [ev_tup, evalL_cons_ok v1 (evalL_cons_ok vm (evL_nil _ _))]
      rfl
    have st2 : evalS (callF FF 100000 M) 100000 (.set (.tp [(.nm 0), (.nm 1)]) (.tup (.cons (.var 1) (.cons (.prim .mod (.cons (.prim .int1 (.cons (.var 0) .nil)) (.cons (.var 1) .nil))) .nil)))) { loc := [.val (.int (a : Nat)), .val (.int (b : Nat)), .val x], sto := t } = .ok .nx { loc := [.val (.int (b : Nat)), .val (.int ((a % b : Nat) : Int)), .val x], sto := t } := by
      rw [st_set, vt]
      rfl
    rw [as, ofOpt_some, evalSs_one st1, seqR_nx, evalSs_one st2, seqR_nx, ss_nil']
  have stop : ∀ (x : D) (a : Nat) (s2 : MP.Slot), (ofOpt (MP.assign (.nm 2) x { loc := [.val (.int (a : Nat)), .val (.int ((0 : Nat) : Int)), s2], sto := t }) fun s3 => evalSs (callF FF 100000 M) 100000 (.cons (.ife (.prim .eq (.cons (.var 1) (.cons (.con (.int 0)) .nil))) (.cons .brk .nil) .nil) (.cons (.set (.tp [(.nm 0), (.nm 1)]) (.tup (.cons (.var 1) (.cons (.prim .mod (.cons (.prim .int1 (.cons (.var 0) .nil)) (.cons (.var 1) .nil))) .nil)))) .nil)) s3) = .ok .brk { loc := [.val (.int (a : Nat)), .val (.int ((0 : Nat) : Int)), .val x], sto := t } := fun x a s2 => by
    have e1 : prim .eq [.int 0, .int 0] = some (.bl true) := p_eq_int 0 0
    simp [MP.assign, rdVar, e1]
  intro k
  induction k with
  | zero =>
    intro xs a b s2 hb hl hx
    obtain rfl : b = 0 := by simpa using hb
    match xs, hl with
    | x :: xs, _ =>
      refine ⟨.val x, .val (.int ((0 : Nat) : Int)), ?_⟩
      rw [forLoop, stop x a s2, Nat.gcd_zero_right]
      rfl
  | succ k ih =>
    intro xs a b s2 hb hl hx
    match xs, hl with
    | x :: xs, hl =>
      by_cases hb0 : b = 0
      · subst hb0
        refine ⟨.val x, .val (.int ((0 : Nat) : Int)), ?_⟩
        rw [forLoop, stop x a s2, Nat.gcd_zero_right]
        rfl
      · match xs, hl with
        | y :: xs, hl =>
          simp only [List.length_cons] at hl
          by_cases hc : a % b = 0
          · refine ⟨.val y, .val (.int ((0 : Nat) : Int)), ?_⟩
            rw [forLoop, one x a b s2 (by omega), hc]
            simp only [bind_ok]
            rw [forLoop, stop y b _]
            have : Nat.gcd a b = b := by rw [Nat.gcd_comm, Nat.gcd_rec, hc, Nat.gcd_zero_left]
            rw [this]
            rfl
          · have hlt : a % b < b := Nat.mod_lt _ (by omega)
            have small : b % (a % b) < 2 ^ k := by
              have h1 : b % (a % b) < a % b := Nat.mod_lt _ (by omega)
              have h2 : b % (a % b) + (a % b) ≤ b := by
                have := Nat.div_add_mod b (a % b)
                have h3 : 1 ≤ b / (a % b) := Nat.div_pos (by omega) (by omega)
                have h4 : (a % b) * 1 ≤ (a % b) * (b / (a % b)) := Nat.mul_le_mul_left _ h3
                omega
              rw [Nat.pow_succ] at hb
              omega
            obtain ⟨r2, r1, e⟩ := ih xs (a % b) (b % (a % b)) (.val y) small (by omega) (fun z hz => hx z (List.mem_cons_of_mem _ (List.mem_cons_of_mem _ hz)))
            refine ⟨r2, r1, ?_⟩
            rw [forLoop, one x a b s2 (by omega)]
            simp only [bind_ok]
            rw [forLoop, one y b (a % b) _ (by omega)]
            simp only [bind_ok]
            have g1 : Nat.gcd (a % b) (b % (a % b)) = Nat.gcd a b := by
              rw [Nat.gcd_comm (a % b), ← Nat.gcd_rec (a % b) b, ← Nat.gcd_rec b a, Nat.gcd_comm]
            rw [e, g1]
end K74
end
section
set_option Elab.async false
set_option linter.all false
set_option maxRecDepth 100000
set_option maxHeartbeats 4000000
namespace K74
open PySem MP
theorem sp_law_gcd (m : Nat) {a b : Nat} (t : Sto) (hb : b < 2 ^ 1999) : callF FF 100000 (m + 1) 23 [.int (a : Nat), .int (b : Nat)] t = .ok (.int ((Nat.gcd a b : Nat) : Int)) t := by
  have hF : FF[23]? = some ⟨2, 3, b_law_gcd⟩ := rfl
  obtain ⟨r2, r1, e⟩ := gcd_loop m (t := t) 1999 ((List.range 4000).map fun k => .int (k : Nat)) a b .unb hb (by rw [List.length_map, List.length_range]; omega) (fun x hx => by
    obtain ⟨i, _, rfl⟩ := List.mem_map.mp hx
    exact ⟨i, rfl⟩)
  have it : evalI (callF FF 100000 m) (.rng1 (.con (.int 4000))) { loc := [D.int (a : Nat), .int (b : Nat)].map .val ++ List.replicate (3 - 2) .unb, sto := t } = .ok ((List.range 4000).map fun k => .int (k : Nat)) { loc := [.val (.int (a : Nat)), .val (.int (b : Nat)), .unb], sto := t } := by
    have := rngL_nat 4000
    simp only [evI_rng1, ev_con, bind_ok, rng1R_int]
    rw [if_pos (by decide)]
    exact congrArg (fun l => Out.ok l _) this
  rw [callF_succ, hF]
  show (if [D.int (a : Nat), .int (b : Nat)].length = 2 then runRes (evalSs (callF FF 100000 m) 100000 b_law_gcd { loc := [D.int (a : Nat), .int (b : Nat)].map .val ++ List.replicate (3 - 2) .unb, sto := t }) else .bad) = _
  rw [if_pos (show [D.int (a : Nat), .int (b : Nat)].length = 2 from rfl)]
  unfold b_law_gcd
  rw [ss_cons', st_forr, it]
  simp only [bind_ok]
  rw [e]
  simp [rdVar]
theorem sp_law_low (m : Nat) {p q : Nat} (t : Sto) (h0 : 0 < q) (h : q < 2 ^ 1999) : callF FF 100000 (m + 2) 24 [.int (p : Nat), .int (q : Nat)] t = .ok (frD (low p q)) t := by
  have hF : FF[24]? = some ⟨2, 3, b_law_low⟩ := rfl
  have g0 : 0 < Nat.gcd p q := Nat.gcd_pos_of_pos_right p h0
  have a1 : prim .abs [.int (p : Nat)] = some (.int (p : Nat)) := by
    show some (D.int (if (p : Int) < 0 then -(p : Int) else p)) = _
    rw [if_neg (by omega)]
  have a2 : prim .abs [.int (q : Nat)] = some (.int (q : Nat)) := by
    show some (D.int (if (q : Int) < 0 then -(q : Int) else q)) = _
    rw [if_neg (by omega)]
  have e1 : ∀ s : S, callO (callF FF 100000 (m + 1)) 23 [.int (p : Nat), .int (q : Nat)] s = .ok (.int ((Nat.gcd p q : Nat) : Int)) s := callv_at fun t => sp_law_gcd m t h
  have e2 := p_fdiv_nat (a := p) g0 (gcd_lt (p := p) h0 h) (by omega) (by omega)
  have e3 := p_fdiv_nat (a := q) g0 (gcd_lt (p := p) h0 h) (by omega) (by omega)
  rw [callF_succ, hF]
  show (if [D.int (p : Nat), .int (q : Nat)].length = 2 then runRes (evalSs (callF FF 100000 (m + 1)) 100000 b_law_low { loc := [D.int (p : Nat), .int (q : Nat)].map .val ++ List.replicate (3 - 2) .unb, sto := t }) else .bad) = _
  rw [if_pos (show [D.int (p : Nat), .int (q : Nat)].length = 2 from rfl)]
  unfold b_law_low
  simp [rdVar, a1, a2, e1, e2, e3, MP.assign]
  rfl
/-- low depends on the ratio alone -/
theorem low_ratio {p q p' q' : Nat} (hq : 0 < q) (hq' : 0 < q') (h : p * q' = p' * q) : low p q = low p' q' := by
  have g0 : 0 < Nat.gcd p q := Nat.gcd_pos_of_pos_right p hq
  have g0' : 0 < Nat.gcd p' q' := Nat.gcd_pos_of_pos_right p' hq'
  have e : Nat.gcd p q * q' = q * Nat.gcd p' q' := by
    rw [← Nat.gcd_mul_right, h, Nat.mul_comm p' q, Nat.gcd_mul_left]
  have hqd := Nat.div_mul_cancel (Nat.gcd_dvd_right p q)
  have hqd' := Nat.div_mul_cancel (Nat.gcd_dvd_right p' q')
  have hpd := Nat.div_mul_cancel (Nat.gcd_dvd_left p q)
  have hpd' := Nat.div_mul_cancel (Nat.gcd_dvd_left p' q')
  unfold low
  generalize Nat.gcd p q = g at *
  generalize Nat.gcd p' q' = g' at *
  have eq2 : q / g = q' / g' := by
    generalize q / g = a at *
    generalize q' / g' = b at *
    subst hqd hqd'
    have : (g * g') * b = (g * g') * a := by
      calc (g * g') * b = g * (b * g') := by rw [Nat.mul_comm b g', Nat.mul_assoc]
        _ = a * g * g' := e
        _ = (g * g') * a := by rw [Nat.mul_comm a g, Nat.mul_assoc, Nat.mul_comm a g', ← Nat.mul_assoc]
    exact (Nat.eq_of_mul_eq_mul_left (Nat.mul_pos g0 g0') this).symm
  have eq1 : p / g = p' / g' := by
    have hq2 : 0 < q / g := Nat.div_pos (Nat.le_of_dvd hq ⟨q / g, by rw [Nat.mul_comm]; exact hqd.symm⟩) g0
    generalize p / g = a at *
    generalize p' / g' = b at *
    generalize hx : q / g = x at *
    rw [← eq2] at hqd'
    subst hqd hqd' hpd hpd'
    have : (g * g' * x) * a = (g * g' * x) * b := by
      have h : a * g * (x * g') = b * g' * (x * g) := h
      calc (g * g' * x) * a = a * g * (x * g') := by simp only [Nat.mul_comm, Nat.mul_left_comm]
        _ = b * g' * (x * g) := h
        _ = (g * g' * x) * b := by simp only [Nat.mul_comm, Nat.mul_left_comm]
    exact Nat.eq_of_mul_eq_mul_left (Nat.mul_pos (Nat.mul_pos g0 g0') hq2) this
  rw [eq1, eq2]
end K74
end
section
set_option Elab.async false
set_option linter.all false
set_option maxRecDepth 100000
set_option maxHeartbeats 4000000
/-! the met share, as plain numbers -/
namespace K74
open PySem MP
def half (s : Fr) : Fr := low (s.1 + s.2) (2 * s.2)
def addF (t b : Fr) : Fr := low (t.1 * b.2 + b.1 * t.2) (t.2 * b.2)
def bestS (n : Nat) (f : LinkT n → LinkT n → Fr) (w : LinkT n) (best : Fr) (h : LinkT n) : Fr := if role n h = role n w then (if more (half (f h w)) best = true then half (f h w) else best) else best
def bestF (n : Nat) (f : LinkT n → LinkT n → Fr) (a : Con n) (w : LinkT n) : Fr := a.2.foldl (bestS n f w) (0, 1)
def metC (n : Nat) (f : LinkT n → LinkT n → Fr) (a b : Con n) : Fr :=
  if b.1.length + b.2.length = 0 then (1, 1) else
    low (b.2.foldl (fun t w => addF t (bestF n f a w)) ((b.1.filter fun x => decide (x ∈ a.1)).length, 1)).1 ((b.2.foldl (fun t w => addF t (bestF n f a w)) ((b.1.filter fun x => decide (x ∈ a.1)).length, 1)).2 * (b.1.length + b.2.length))
def metL : (n : Nat) → LinkT n → LinkT n → Fr
  | 0, h, _ => nomatch h
  | n + 1, h, w => metC n (metL n) h.2 w.2
def metN (n : Nat) (a b : Con n) : Fr := metC n (metL n) a b
/-- the bits of a share's parts -/
def wt : (n : Nat) → LinkT n → Nat
  | 0, l => nomatch l
  | n + 1, l => 8 + (l.2.2.map fun w => 2 + wt n w).sum
def wtC (n : Nat) (c : Con n) : Nat := 8 + (c.2.map fun w => 2 + wt n w).sum
/-- few parts everywhere -/
def smL : (n : Nat) → LinkT n → Prop
  | 0, l => nomatch l
  | n + 1, l => l.2.1.length + l.2.2.length ≤ 255 ∧ ∀ k ∈ l.2.2, smL n k
def smC (n : Nat) (c : Con n) : Prop := c.1.length + c.2.length ≤ 255 ∧ ∀ l ∈ c.2, smL n l
structure FrOk (k : Nat) (x : Fr) : Prop where
  pos : 0 < x.2
  le : x.1 ≤ x.2
  bd : x.2 ≤ 2 ^ k
theorem low_pos {p q : Nat} (h : 0 < q) : 0 < (low p q).2 := Nat.div_pos (Nat.gcd_le_right p h) (Nat.gcd_pos_of_pos_right p h)
theorem low_le2 {p q : Nat} : (low p q).2 ≤ q := Nat.div_le_self _ _
theorem low_le {p q c : Nat} (h0 : 0 < q) (h : p ≤ c * q) : (low p q).1 ≤ c * (low p q).2 := by
  have g0 : 0 < Nat.gcd p q := Nat.gcd_pos_of_pos_right p h0
  have hqd := Nat.div_mul_cancel (Nat.gcd_dvd_right p q)
  show p / Nat.gcd p q ≤ c * (q / Nat.gcd p q)
  have h1 : p ≤ c * (q / Nat.gcd p q) * Nat.gcd p q := by rw [Nat.mul_assoc, hqd]; exact h
  exact Nat.div_le_of_le_mul (by rw [Nat.mul_comm]; exact h1)
theorem half_ok {k : Nat} {s : Fr} (h : FrOk k s) : FrOk (k + 1) (half s) := by
  have := h.pos
  refine ⟨low_pos (by omega), ?_, Nat.le_trans low_le2 (by rw [Nat.pow_succ]; have := h.bd; omega)⟩
  have := low_le (p := s.1 + s.2) (q := 2 * s.2) (c := 1) (by omega) (by have := h.le; omega)
  simpa [half] using this
theorem FrOk.mono {k m : Nat} {x : Fr} (h : FrOk k x) (hm : k ≤ m) : FrOk m x := ⟨h.pos, h.le, Nat.le_trans h.bd (Nat.pow_le_pow_right (by omega) hm)⟩
theorem best_ok {n k : Nat} {f : LinkT n → LinkT n → Fr} {w : LinkT n} : ∀ (hs : List (LinkT n)) (b : Fr), (∀ h ∈ hs, FrOk k (f h w)) → FrOk (k + 1) b → FrOk (k + 1) (hs.foldl (bestS n f w) b)
  | [], b, _, hb => hb
  | h :: hs, b, hf, hb => by
    refine best_ok hs (bestS n f w b h) (fun x hx => hf x (List.mem_cons_of_mem _ hx)) ?_
    unfold bestS
    split
    · split
      · exact half_ok (hf h List.mem_cons_self)
      · exact hb
    · exact hb
theorem bestF_ok {n k : Nat} {f : LinkT n → LinkT n → Fr} {a : Con n} {w : LinkT n} (hf : ∀ h ∈ a.2, FrOk k (f h w)) : FrOk (k + 1) (bestF n f a w) := best_ok a.2 (0, 1) hf ⟨by simp, by simp, Nat.one_le_two_pow⟩
/-- a sum of at most c shares -/
structure SumOk (c k : Nat) (x : Fr) : Prop where
  pos : 0 < x.2
  le : x.1 ≤ c * x.2
  bd : x.2 ≤ 2 ^ k
theorem add_ok {c k j : Nat} {t b : Fr} (ht : SumOk c k t) (hb : FrOk j b) : SumOk (c + 1) (k + j) (addF t b) := by
  have p1 := ht.pos
  have p2 := hb.pos
  have hq : 0 < t.2 * b.2 := Nat.mul_pos p1 p2
  refine ⟨low_pos hq, low_le hq ?_, Nat.le_trans low_le2 (by rw [Nat.pow_add]; exact Nat.mul_le_mul ht.bd hb.bd)⟩
  have e1 : t.1 * b.2 ≤ c * (t.2 * b.2) := by rw [← Nat.mul_assoc]; exact Nat.mul_le_mul_right _ ht.le
  have e2 : b.1 * t.2 ≤ t.2 * b.2 := by rw [Nat.mul_comm]; exact Nat.mul_le_mul_left _ hb.le
  rw [Nat.add_mul, Nat.one_mul]
  omega
theorem sum_ok {n : Nat} {f : LinkT n → LinkT n → Fr} {a : Con n} : ∀ (ws : List (LinkT n)) (c k : Nat) (t : Fr), (∀ w ∈ ws, ∀ h ∈ a.2, FrOk (wt n w + 1) (f h w)) → SumOk c k t → SumOk (c + ws.length) (k + (ws.map fun w => 2 + wt n w).sum) (ws.foldl (fun t w => addF t (bestF n f a w)) t)
  | [], c, k, t, _, h => by simpa using h
  | w :: ws, c, k, t, hf, h => by
    have h1 := add_ok h (bestF_ok (hf w List.mem_cons_self))
    have := sum_ok ws (c + 1) (k + (wt n w + 1 + 1)) (addF t (bestF n f a w)) (fun x hx => hf x (List.mem_cons_of_mem _ hx)) h1
    rw [List.foldl_cons, List.length_cons, List.map_cons, List.sum_cons]
    have e1 : c + (ws.length + 1) = c + 1 + ws.length := by omega
    have e2 : k + (2 + wt n w + (ws.map fun w => 2 + wt n w).sum) = k + (wt n w + 1 + 1) + (ws.map fun w => 2 + wt n w).sum := by omega
    rw [e1, e2]
    exact this
theorem start_ok (c : Nat) : SumOk c 0 (c, 1) := ⟨by simp, by simp, by simp⟩
theorem metC_ok {n : Nat} {f : LinkT n → LinkT n → Fr} {a b : Con n} (hb : b.1.length + b.2.length ≤ 255) (hf : ∀ w ∈ b.2, ∀ h ∈ a.2, FrOk (wt n w + 1) (f h w)) : FrOk (wtC n b) (metC n f a b) := by
  unfold metC
  split
  · exact ⟨by simp, by simp, Nat.one_le_two_pow⟩
  · rename_i hz
    have S := sum_ok (a := a) b.2 _ 0 _ hf (start_ok (b.1.filter fun x => decide (x ∈ a.1)).length)
    rw [Nat.zero_add] at S
    have fl := List.length_filter_le (fun x => decide (x ∈ a.1)) b.1
    generalize (b.1.filter fun x => decide (x ∈ a.1)).length = cnt at *
    generalize b.2.foldl (fun t w => addF t (bestF n f a w)) (cnt, 1) = t at *
    have hq : 0 < t.2 * (b.1.length + b.2.length) := Nat.mul_pos S.pos (by omega)
    have l1 := low_le (p := t.1) (c := 1) hq (by
      rw [Nat.one_mul]
      refine Nat.le_trans S.le ?_
      rw [Nat.mul_comm]
      exact Nat.mul_le_mul_left _ (by omega))
    refine ⟨low_pos hq, by simpa using l1, Nat.le_trans low_le2 ?_⟩
    unfold wtC
    rw [Nat.add_comm 8, Nat.pow_add]
    exact Nat.mul_le_mul S.bd (by omega)
theorem metL_ok : ∀ (n : Nat) (h w : LinkT n), smL n w → FrOk (wt n w) (metL n h w)
  | 0, h, _, _ => nomatch h
  | n + 1, h, w, hs => metC_ok (b := w.2) hs.1 fun w' hw' h' _ => (metL_ok n h' w' (hs.2 w' hw')).mono (by omega)
theorem metN_ok {n : Nat} {a b : Con n} (hs : smC n b) : FrOk (wtC n b) (metN n a b) := metC_ok hs.1 fun w' hw' h' _ => (metL_ok n h' w' (hs.2 w' hw')).mono (by omega)
end K74
end
section
set_option Elab.async false
set_option linter.all false
set_option maxRecDepth 100000
set_option maxHeartbeats 4000000
/-! met_by -/
namespace K74
open PySem MP
structure GB where
  s2 : MP.Slot := .unb
  s3 : MP.Slot := .unb
  s4 : MP.Slot := .unb
  s5 : MP.Slot := .unb
  s6 : MP.Slot := .unb
  s7 : MP.Slot := .unb
  s8 : MP.Slot := .unb
  s9 : MP.Slot := .unb
  s10 : MP.Slot := .unb
def eY (n : Nat) (a b : Con n) (t : Sto) (g : GB) : S := { loc := [.val (conD n a), .val (conD n b), g.s2, g.s3, g.s4, g.s5, g.s6, g.s7, g.s8, g.s9, g.s10, .unb], sto := t }
abbrev mb1 : PS := (.set (.nm 9) (.call 9 (.cons (.var 8) (.cons (.var 5) .nil))))
abbrev mb2 : PS := (.set (.nm 10) (.call 7 (.cons (.prim .add (.cons (.prim .item (.cons (.var 9) (.cons (.con (.int 0)) .nil))) (.cons (.prim .item (.cons (.var 9) (.cons (.con (.int 1)) .nil))) .nil))) (.cons (.prim .mul (.cons (.con (.int 2)) (.cons (.prim .item (.cons (.var 9) (.cons (.con (.int 1)) .nil))) .nil))) .nil))))
abbrev mb3 : PS := (.ife (.call 8 (.cons (.var 10) (.cons (.var 6) .nil))) (.cons (.set (.nm 6) (.var 10)) .nil) .nil)
abbrev mbB : PB := (.cons (.ife (.prim .eq (.cons (.var 7) (.cons (.var 4) .nil))) (.cons mb1 (.cons mb2 (.cons mb3 .nil))) .nil) .nil)
theorem FrOk.lt {k m : Nat} {x : Fr} (h : FrOk k x) (hm : k < m) : x.1 < 2 ^ m ∧ x.2 < 2 ^ m := by
  have h1 := h.bd
  have h2 : 2 ^ k < 2 ^ m := Nat.pow_lt_pow_right (by omega) hm
  have h3 := h.le
  omega
theorem turn_mb (M n : Nat) {a b : Con n} {t : Sto} {K : Nat} (hK : K ≤ 1900) (h w : LinkT n) (oh : okL n h) (ow : okL n w) (s best : Fr) (hs : FrOk K s) (hb : FrOk (K + 1) best) (ih : ∀ t, callF FF 100000 (M + 1) 9 [subD n h, subD n w] t = .ok (frD s) t) (g : GB) (h4 : g.s4 = .val (.str (role n w))) (h5 : g.s5 = .val (subD n w)) (h6 : g.s6 = .val (frD best)) :
    ∃ g' : GB, (g'.s2 = g.s2 ∧ g'.s3 = g.s3 ∧ g'.s4 = g.s4 ∧ g'.s5 = g.s5) ∧ g'.s6 = .val (frD (if role n h = role n w then (if more (half s) best = true then half s else best) else best)) ∧
      ofOpt (MP.assign (.tp [(.nm 7), (.nm 8)]) (linkD n h) (eY n a b t g)) (fun s3 => evalSs (callF FF 100000 (M + 1)) 100000 mbB s3) = .ok .nx (eY n a b t g') := by
  have as : MP.assign (.tp [(.nm 7), (.nm 8)]) (linkD n h) (eY n a b t g) = some (eY n a b t { g with s7 := .val (.str (role n h)), s8 := .val (subD n h) }) := by
    rw [linkD_eq]
    simp [MP.assign, assignL, eY]
  have pe := p_eq_str (okL_role oh) (okL_role ow)
  have cd : evalE (callF FF 100000 (M + 1)) (.prim .eq (.cons (.var 7) (.cons (.var 4) .nil))) (eY n a b t { g with s7 := .val (.str (role n h)), s8 := .val (subD n h) }) = .ok (.bl (decide (role n h = role n w))) (eY n a b t { g with s7 := .val (.str (role n h)), s8 := .val (subD n h) }) := by
    simp [eY, rdVar, h4, pe]
  rw [as, ofOpt_some, ss_cons', st_if, cd]
  simp only [bind_ok]
  by_cases hr : role n h = role n w
  · rw [decide_eq_true hr, if_pos hr]
    have e1 : ∀ s' : S, callO (callF FF 100000 (M + 1)) 9 [subD n h, subD n w] s' = .ok (frD s) s' := callv_at ih
    have st1 : evalS (callF FF 100000 (M + 1)) 100000 mb1 (eY n a b t { g with s7 := .val (.str (role n h)), s8 := .val (subD n h) }) = .ok .nx (eY n a b t { g with s7 := .val (.str (role n h)), s8 := .val (subD n h), s9 := .val (frD s) }) := by
      simp [eY, rdVar, h5, e1, MP.assign]
    have i0 := p_fr0 s
    have i1 := p_fr1 s
    have ad := p_add_nat s.1 s.2
    have sl := hs.lt (m := 1999) (by omega)
    have mu : prim .mul [.int 2, .int (s.2 : Nat)] = some (.int ((2 * s.2 : Nat) : Nat)) := p_mul_nat (i := 2) (j := s.2) (k := 1999) (by omega) sl.2 (by omega) (by omega)
    have hp := hs.pos
    have hbd : 2 * s.2 < 2 ^ 1999 := by
      have h1 := hs.bd
      have h2 : 2 ^ K ≤ 2 ^ 1900 := Nat.pow_le_pow_right (by omega) hK
      have h3 : 2 * 2 ^ 1900 < 2 ^ 1999 := by rw [← Nat.pow_succ']; exact Nat.pow_lt_pow_right (by omega) (by omega)
      omega
    have e2 : ∀ s' : S, callO (callF FF 100000 (M + 1)) 7 [.int ((s.1 + s.2 : Nat) : Nat), .int ((2 * s.2 : Nat) : Nat)] s' = .ok (frD (half s)) s' := callv_at fun t => sp_lowest M t (by omega) hbd (by omega) (by omega)
    have st2 : evalS (callF FF 100000 (M + 1)) 100000 mb2 (eY n a b t { g with s7 := .val (.str (role n h)), s8 := .val (subD n h), s9 := .val (frD s) }) = .ok .nx (eY n a b t { g with s7 := .val (.str (role n h)), s8 := .val (subD n h), s9 := .val (frD s), s10 := .val (frD (half s)) }) := by
      generalize hn1 : s.1 + s.2 = n1 at ad e2
      generalize hn2 : 2 * s.2 = n2 at mu e2
      simp [eY, rdVar, deref_fr, i0, i1, ad, mu, e2, MP.assign]
    have hh := half_ok hs
    have hl := hh.lt (m := 1999) (by omega)
    have bl := hb.lt (m := 1999) (by omega)
    have e3 : ∀ s' : S, callO (callF FF 100000 (M + 1)) 8 [frD (half s), frD best] s' = .ok (.bl (more (half s) best)) s' := callv_at fun t => sp_is_more M t hl.1 hl.2 bl.1 bl.2 (by omega) (by omega)
    simp only [ifR_t]
    rw [evalSs_one st1, seqR_nx, evalSs_one st2, seqR_nx]
    cases hm : more (half s) best with
    | true =>
      rw [hm] at e3
      exact ⟨{ g with s7 := .val (.str (role n h)), s8 := .val (subD n h), s9 := .val (frD s), s10 := .val (frD (half s)), s6 := .val (frD (half s)) }, ⟨rfl, rfl, rfl, rfl⟩, rfl, by simp [eY, rdVar, h6, e3, MP.assign]⟩
    | false =>
      rw [hm] at e3
      exact ⟨{ g with s7 := .val (.str (role n h)), s8 := .val (subD n h), s9 := .val (frD s), s10 := .val (frD (half s)) }, ⟨rfl, rfl, rfl, rfl⟩, h6, by simp [eY, rdVar, h6, e3]⟩
  · rw [decide_eq_false hr, if_neg hr]
    exact ⟨{ g with s7 := .val (.str (role n h)), s8 := .val (subD n h) }, ⟨rfl, rfl, rfl, rfl⟩, h6, by simp⟩
theorem loop_mb (M n : Nat) {a b : Con n} {t : Sto} {K : Nat} (hK : K ≤ 1900) (f : LinkT n → LinkT n → Fr) (w : LinkT n) (ow : okL n w) : ∀ (hs : List (LinkT n)) (best : Fr) (g : GB), (∀ h ∈ hs, okL n h) → (∀ h ∈ hs, FrOk K (f h w)) → (∀ h ∈ hs, ∀ t, callF FF 100000 (M + 1) 9 [subD n h, subD n w] t = .ok (frD (f h w)) t) → FrOk (K + 1) best →
      g.s4 = .val (.str (role n w)) → g.s5 = .val (subD n w) → g.s6 = .val (frD best) →
    ∃ g' : GB, (g'.s2 = g.s2 ∧ g'.s3 = g.s3) ∧ g'.s6 = .val (frD (hs.foldl (bestS n f w) best)) ∧ forLoop (fun d s => ofOpt (MP.assign (.tp [(.nm 7), (.nm 8)]) d s) fun s3 => evalSs (callF FF 100000 (M + 1)) 100000 mbB s3) (hs.map (linkD n)) (eY n a b t g) = .ok .nx (eY n a b t g')
  | [], best, g, _, _, _, _, _, _, h6 => ⟨g, ⟨rfl, rfl⟩, h6, rfl⟩
  | h :: hs, best, g, ho, hf, ih, hb, h4, h5, h6 => by
    obtain ⟨g1, ⟨q2, q3, q4, q5⟩, q6, q7⟩ := turn_mb M n (a := a) (b := b) (t := t) hK h w (ho h List.mem_cons_self) ow (f h w) best (hf h List.mem_cons_self) hb (ih h List.mem_cons_self) g h4 h5 h6
    have hb1 : FrOk (K + 1) (bestS n f w best h) := best_ok [h] best (fun x hx => by rw [List.mem_singleton.mp hx]; exact hf h List.mem_cons_self) hb
    obtain ⟨g2, ⟨r2, r3⟩, r6, r7⟩ := loop_mb M n hK f w ow hs (bestS n f w best h) g1 (fun x hx => ho x (List.mem_cons_of_mem _ hx)) (fun x hx => hf x (List.mem_cons_of_mem _ hx)) (fun x hx => ih x (List.mem_cons_of_mem _ hx)) hb1 (q4.trans h4) (q5.trans h5) q6
    refine ⟨g2, ⟨r2.trans q2, r3.trans q3⟩, r6, ?_⟩
    rw [List.map_cons, forLoop]
    show (ofOpt (MP.assign (.tp [(.nm 7), (.nm 8)]) (linkD n h) (eY n a b t g)) (fun s3 => evalSs (callF FF 100000 (M + 1)) 100000 mbB s3)).bind _ = _
    rw [q7]
    exact r7
end K74
end
section
set_option Elab.async false
set_option linter.all false
set_option maxRecDepth 100000
set_option maxHeartbeats 4000000
set_option exponentiation.threshold 3000
namespace K74
open PySem MP
theorem SumOk.lt {c Z : Nat} {x : Fr} (h : SumOk c Z x) (hc : c ≤ 255) (hS : Z ≤ 1900) : x.1 < 2 ^ 1999 ∧ x.2 < 2 ^ 1999 := by
  have h1 := h.bd
  have h2 : 2 ^ Z ≤ 2 ^ 1900 := Nat.pow_le_pow_right (by omega) hS
  have h3 : 255 * 2 ^ 1900 < 2 ^ 1999 := by
    have : (2 : Nat) ^ 1999 = 2 ^ 99 * 2 ^ 1900 := by rw [← Nat.pow_add]
    rw [this]
    exact Nat.mul_lt_mul_of_pos_right (by decide) (Nat.pow_pos (by omega))
  have h4 : x.1 ≤ 255 * x.2 := Nat.le_trans h.le (Nat.mul_le_mul_right _ hc)
  have h5 : 255 * x.2 ≤ 255 * 2 ^ 1900 := Nat.mul_le_mul_left _ (Nat.le_trans h1 h2)
  omega
abbrev ob1 : PS := (.set (.nm 6) (.tup (.cons (.con (.int 0)) (.cons (.con (.int 1)) .nil))))
abbrev ob2 : PS := (.forr (.tp [(.nm 7), (.nm 8)]) (.seq (.prim .item (.cons (.var 0) (.cons (.con (.int 1)) .nil)))) mbB)
abbrev ob3 : PS := (.set (.nm 3) (.call 7 (.cons (.prim .add (.cons (.prim .mul (.cons (.prim .item (.cons (.var 3) (.cons (.con (.int 0)) .nil))) (.cons (.prim .item (.cons (.var 6) (.cons (.con (.int 1)) .nil))) .nil))) (.cons (.prim .mul (.cons (.prim .item (.cons (.var 6) (.cons (.con (.int 0)) .nil))) (.cons (.prim .item (.cons (.var 3) (.cons (.con (.int 1)) .nil))) .nil))) .nil))) (.cons (.prim .mul (.cons (.prim .item (.cons (.var 3) (.cons (.con (.int 1)) .nil))) (.cons (.prim .item (.cons (.var 6) (.cons (.con (.int 1)) .nil))) .nil))) .nil))))
abbrev obB : PB := (.cons ob1 (.cons ob2 (.cons ob3 .nil)))
theorem turn_ob (M n : Nat) {a b : Con n} {t : Sto} {c Z : Nat} (ha : okC n a) (f : LinkT n → LinkT n → Fr) (w : LinkT n) (ow : okL n w) (hc : c ≤ 255) (hS : Z + (2 + wt n w) ≤ 1900) (hf : ∀ h ∈ a.2, FrOk (wt n w + 1) (f h w)) (ih : ∀ h ∈ a.2, ∀ t, callF FF 100000 (M + 1) 9 [subD n h, subD n w] t = .ok (frD (f h w)) t)
    (x : Fr) (hx : SumOk c Z x) (g : GB) (h3 : g.s3 = .val (frD x)) :
    ∃ g' : GB, g'.s2 = g.s2 ∧ g'.s3 = .val (frD (addF x (bestF n f a w))) ∧
      ofOpt (MP.assign (.tp [(.nm 4), (.nm 5)]) (linkD n w) (eY n a b t g)) (fun s3 => evalSs (callF FF 100000 (M + 1)) 100000 obB s3) = .ok .nx (eY n a b t g') := by
  have as : MP.assign (.tp [(.nm 4), (.nm 5)]) (linkD n w) (eY n a b t g) = some (eY n a b t { g with s4 := .val (.str (role n w)), s5 := .val (subD n w) }) := by
    rw [linkD_eq]
    simp [MP.assign, assignL, eY]
  have st1 : evalS (callF FF 100000 (M + 1)) 100000 ob1 (eY n a b t { g with s4 := .val (.str (role n w)), s5 := .val (subD n w) }) = .ok .nx (eY n a b t { g with s4 := .val (.str (role n w)), s5 := .val (subD n w), s6 := .val (frD (0, 1)) }) := by
    simp [eY, MP.assign]
    rfl
  obtain ⟨g1, ⟨q2, q3⟩, q6, q7⟩ := loop_mb M n (a := a) (b := b) (t := t) (K := wt n w + 1) (by omega) f w ow a.2 (0, 1) { g with s4 := .val (.str (role n w)), s5 := .val (subD n w), s6 := .val (frD (0, 1)) } ha.2.2 hf ih ⟨by simp, by simp, Nat.one_le_two_pow⟩ rfl rfl rfl
  have i1 := p_item_con1 n a
  have st2 : evalS (callF FF 100000 (M + 1)) 100000 ob2 (eY n a b t { g with s4 := .val (.str (role n w)), s5 := .val (subD n w), s6 := .val (frD (0, 1)) }) = .ok .nx (eY n a b t g1) := by
    have it : evalI (callF FF 100000 (M + 1)) (.seq (.prim .item (.cons (.var 0) (.cons (.con (.int 1)) .nil)))) (eY n a b t { g with s4 := .val (.str (role n w)), s5 := .val (subD n w), s6 := .val (frD (0, 1)) }) = .ok (a.2.map (linkD n)) (eY n a b t { g with s4 := .val (.str (role n w)), s5 := .val (subD n w), s6 := .val (frD (0, 1)) }) := by
      simp [eY, rdVar, i1, deref_con, items_links]
    rw [st_forr, it]
    simp only [bind_ok]
    exact q7
  have hbest : FrOk (wt n w + 1 + 1) (bestF n f a w) := bestF_ok hf
  have q6 : g1.s6 = .val (frD (bestF n f a w)) := q6
  have q3 : g1.s3 = .val (frD x) := q3.trans h3
  have S2 := add_ok hx hbest
  have xl := hx.lt hc (by omega)
  have bl := hbest.lt (m := 1999) (by omega)
  have hqp : 0 < x.2 * (bestF n f a w).2 := Nat.mul_pos hx.pos hbest.pos
  have hqb : x.2 * (bestF n f a w).2 < 2 ^ 1999 := by
    have h1 : x.2 * (bestF n f a w).2 ≤ 2 ^ Z * 2 ^ (wt n w + 1 + 1) := Nat.mul_le_mul hx.bd hbest.bd
    rw [← Nat.pow_add] at h1
    have h2 : 2 ^ (Z + (wt n w + 1 + 1)) < 2 ^ 1999 := Nat.pow_lt_pow_right (by omega) (by omega)
    omega
  have e : ∀ s' : S, callO (callF FF 100000 (M + 1)) 7 [.int ((x.1 * (bestF n f a w).2 + (bestF n f a w).1 * x.2 : Nat) : Nat), .int ((x.2 * (bestF n f a w).2 : Nat) : Nat)] s' = .ok (frD (addF x (bestF n f a w))) s' := callv_at fun t => sp_lowest M t hqp hqb (by omega) (by omega)
  have m1 := p_mul_nat xl.1 bl.2 (by omega) (by omega)
  have m2 := p_mul_nat bl.1 xl.2 (by omega) (by omega)
  have m3 := p_mul_nat xl.2 bl.2 (by omega) (by omega)
  have ad := p_add_nat (x.1 * (bestF n f a w).2) ((bestF n f a w).1 * x.2)
  have x0 := p_fr0 x
  have x1 := p_fr1 x
  have b0 := p_fr0 (bestF n f a w)
  have b1 := p_fr1 (bestF n f a w)
  refine ⟨{ g1 with s3 := .val (frD (addF x (bestF n f a w))) }, q2, rfl, ?_⟩
  have st3 : evalS (callF FF 100000 (M + 1)) 100000 ob3 (eY n a b t g1) = .ok .nx (eY n a b t { g1 with s3 := .val (frD (addF x (bestF n f a w))) }) := by
    generalize addF x (bestF n f a w) = r at *
    generalize bestF n f a w = bb at *
    generalize hn1 : x.1 * bb.2 = n1 at m1 ad e
    generalize hn2 : bb.1 * x.2 = n2 at m2 ad e
    generalize hn3 : n1 + n2 = n3 at ad e
    generalize hn4 : x.2 * bb.2 = n4 at m3 e
    simp [eY, rdVar, deref_fr, q3, q6, x0, x1, b0, b1, m1, m2, m3, ad, e, MP.assign]
  rw [as, ofOpt_some, evalSs_one st1, seqR_nx, evalSs_one st2, seqR_nx, evalSs_one st3, seqR_nx, ss_nil']
theorem loop_ob (M n : Nat) {a b : Con n} {t : Sto} (ha : okC n a) (f : LinkT n → LinkT n → Fr) : ∀ (ws : List (LinkT n)) (c Z : Nat) (x : Fr) (g : GB), (∀ w ∈ ws, okL n w) → c + ws.length ≤ 255 → Z + (ws.map fun w => 2 + wt n w).sum ≤ 1900 → (∀ w ∈ ws, ∀ h ∈ a.2, FrOk (wt n w + 1) (f h w)) → (∀ w ∈ ws, ∀ h ∈ a.2, ∀ t, callF FF 100000 (M + 1) 9 [subD n h, subD n w] t = .ok (frD (f h w)) t) → SumOk c Z x → g.s3 = .val (frD x) →
    ∃ g' : GB, g'.s2 = g.s2 ∧ g'.s3 = .val (frD (ws.foldl (fun t w => addF t (bestF n f a w)) x)) ∧ forLoop (fun d s => ofOpt (MP.assign (.tp [(.nm 4), (.nm 5)]) d s) fun s3 => evalSs (callF FF 100000 (M + 1)) 100000 obB s3) (ws.map (linkD n)) (eY n a b t g) = .ok .nx (eY n a b t g')
  | [], c, Z, x, g, _, _, _, _, _, _, h3 => ⟨g, rfl, h3, rfl⟩
  | w :: ws, c, Z, x, g, ho, hc, hS, hf, ih, hx, h3 => by
    rw [List.length_cons] at hc
    rw [List.map_cons, List.sum_cons] at hS
    obtain ⟨g1, q2, q3, q7⟩ := turn_ob M n (a := a) (b := b) (t := t) (c := c) (Z := Z) ha f w (ho w List.mem_cons_self) (by omega) (by omega) (hf w List.mem_cons_self) (ih w List.mem_cons_self) x hx g h3
    have hx1 := add_ok hx (bestF_ok (hf w List.mem_cons_self))
    obtain ⟨g2, r2, r3, r7⟩ := loop_ob M n ha f ws (c + 1) (Z + (wt n w + 1 + 1)) (addF x (bestF n f a w)) g1 (fun y hy => ho y (List.mem_cons_of_mem _ hy)) (by omega) (by omega) (fun y hy => hf y (List.mem_cons_of_mem _ hy)) (fun y hy => ih y (List.mem_cons_of_mem _ hy)) hx1 q3
    refine ⟨g2, r2.trans q2, r3, ?_⟩
    rw [List.map_cons, forLoop]
    show (ofOpt (MP.assign (.tp [(.nm 4), (.nm 5)]) (linkD n w) (eY n a b t g)) (fun s3 => evalSs (callF FF 100000 (M + 1)) 100000 obB s3)).bind _ = _
    rw [q7]
    exact r7
end K74
end
section
set_option Elab.async false
set_option linter.all false
set_option maxRecDepth 100000
set_option maxHeartbeats 4000000
set_option exponentiation.threshold 3000
namespace K74
open PySem MP
theorem p_len_links (n : Nat) (ls : List (LinkT n)) : prim .len [.tup (ls.map (linkD n))] = some (.int (ls.length : Nat)) := by
  show some (D.int ((ls.map (linkD n)).length : Nat)) = _
  rw [List.length_map]
theorem deref_links (t : Sto) (n : Nat) (ls : List (LinkT n)) : deref t (.tup (ls.map (linkD n))) = .tup (ls.map (linkD n)) := rfl
abbrev mt0 : PS := (.set (.nm 2) (.prim .add (.cons (.prim .len (.cons (.prim .item (.cons (.var 1) (.cons (.con (.int 0)) .nil))) .nil)) (.cons (.prim .len (.cons (.prim .item (.cons (.var 1) (.cons (.con (.int 1)) .nil))) .nil)) .nil))))
abbrev mt1 : PS := (.ife (.prim .eq (.cons (.var 2) (.cons (.con (.int 0)) .nil))) (.cons (.ret (.tup (.cons (.con (.int 1)) (.cons (.con (.int 1)) .nil)))) .nil) .nil)
abbrev mtC : PE := (.comp (.var 11) (.nm 11) (.seq (.prim .item (.cons (.var 1) (.cons (.con (.int 0)) .nil)))) (.cons (.prim .isIn (.cons (.var 11) (.cons (.prim .item (.cons (.var 0) (.cons (.con (.int 0)) .nil))) .nil))) .nil) [11])
abbrev mt2 : PS := (.set (.nm 3) (.tup (.cons (.prim .len (.cons mtC .nil)) (.cons (.con (.int 1)) .nil))))
abbrev mt3 : PS := (.forr (.tp [(.nm 4), (.nm 5)]) (.seq (.prim .item (.cons (.var 1) (.cons (.con (.int 1)) .nil)))) obB)
abbrev mt4 : PS := (.ret (.call 7 (.cons (.prim .item (.cons (.var 3) (.cons (.con (.int 0)) .nil))) (.cons (.prim .mul (.cons (.prim .item (.cons (.var 3) (.cons (.con (.int 1)) .nil))) (.cons (.var 2) .nil))) .nil))))
theorem sp_met_step (M n : Nat) {a b : Con n} (t : Sto) (ha : okC n a) (hb : okC n b) (sb : b.1.length + b.2.length ≤ 255) (hw : wtC n b ≤ 1900) (f : LinkT n → LinkT n → Fr) (hf : ∀ w ∈ b.2, ∀ h ∈ a.2, FrOk (wt n w + 1) (f h w)) (ih : ∀ w ∈ b.2, ∀ h ∈ a.2, ∀ t, callF FF 100000 (M + 1) 9 [subD n h, subD n w] t = .ok (frD (f h w)) t) :
    callF FF 100000 (M + 2) 9 [conD n a, conD n b] t = .ok (frD (metC n f a b)) t := by
  have hF : FF[9]? = some ⟨2, 12, b_met_by⟩ := rfl
  have i0a := p_item_con0 n a
  have i0b := p_item_con0 n b
  have i1b := p_item_con1 n b
  have l0 : prim .len [setD b.1] = some (.int (b.1.length : Nat)) := p_len_set b.1 (by omega)
  have l1 := p_len_links n b.2
  have ad := p_add_nat b.1.length b.2.length
  have st0 : evalS (callF FF 100000 (M + 1)) 100000 mt0 (eY n a b t {}) = .ok .nx (eY n a b t { s2 := .val (.int ((b.1.length + b.2.length : Nat) : Int)) }) := by
    generalize hn1 : b.1.length + b.2.length = n1 at ad
    simp [eY, rdVar, deref_con, deref_links, i0b, i1b, l0, l1, ad, MP.assign]
  have start : callF FF 100000 (M + 2) 9 [conD n a, conD n b] t = runRes (evalSs (callF FF 100000 (M + 1)) 100000 (.cons mt1 (.cons mt2 (.cons mt3 (.cons mt4 .nil)))) (eY n a b t { s2 := .val (.int ((b.1.length + b.2.length : Nat) : Int)) })) := by
    rw [callF_succ, hF]
    show (if [conD n a, conD n b].length = 2 then runRes (evalSs (callF FF 100000 (M + 1)) 100000 b_met_by (eY n a b t {})) else .bad) = _
    rw [if_pos (show [conD n a, conD n b].length = 2 from rfl)]
    unfold b_met_by
    rw [evalSs_one st0, seqR_nx]
  rw [start]
  unfold metC
  have ez := p_eq_int ((b.1.length + b.2.length : Nat) : Int) 0
  by_cases hz : b.1.length + b.2.length = 0
  · rw [if_pos hz]
    rw [decide_eq_true (show ((b.1.length + b.2.length : Nat) : Int) = 0 by omega)] at ez
    generalize hn1 : b.1.length + b.2.length = n1 at ez
    simp [eY, rdVar, ez]
    rfl
  · rw [if_neg hz]
    rw [decide_eq_false (show ¬ ((b.1.length + b.2.length : Nat) : Int) = 0 by omega)] at ez
    have st1 : evalS (callF FF 100000 (M + 1)) 100000 mt1 (eY n a b t { s2 := .val (.int ((b.1.length + b.2.length : Nat) : Int)) }) = .ok .nx (eY n a b t { s2 := .val (.int ((b.1.length + b.2.length : Nat) : Int)) }) := by
      refine st_skip ?_
      generalize hn1 : b.1.length + b.2.length = n1 at ez
      simp [eY, rdVar, ez]
    have C := comp_gen (cf := callF FF 100000 (M + 1)) (elt := .var 11) (t := .nm 11) (it := (.seq (.prim .item (.cons (.var 1) (.cons (.con (.int 0)) .nil))))) (cs := (.cons (.prim .isIn (.cons (.var 11) (.cons (.prim .item (.cons (.var 0) (.cons (.con (.int 0)) .nil))) .nil))) .nil)) (vs := [11]) (s := eY n a b t { s2 := .val (.int ((b.1.length + b.2.length : Nat) : Int)) }) (s1 := eY n a b t { s2 := .val (.int ((b.1.length + b.2.length : Nat) : Int)) }) (ys := b.1) (h := D.str)
      (fun x => if decide (x ∈ a.1) = true then [.str x] else []) (by simp [eY, rdVar, i0b, deref_con]) (fun x hx => by
        have pn := p_in_set (hb.1 x hx) ha.1
        refine ⟨[.val (conD n a), .val (conD n b), .val (.int ((b.1.length + b.2.length : Nat) : Int)), .unb, .unb, .unb, .unb, .unb, .unb, .unb, .unb, .val (.str x)], ?_, rfl⟩
        by_cases hh : x ∈ a.1 <;> simp [turnF, MP.assign, eY, MP.wipe, rdVar, i0a, deref_con, pn, hh]) (by
        rw [flatMap_if (fun x => decide (x ∈ a.1)) D.str]
        have := List.length_filter_le (fun x => decide (x ∈ a.1)) b.1
        simp
        omega)
    rw [flatMap_if (fun x => decide (x ∈ a.1)) D.str] at C
    have C := C.trans (show _ = Out.ok (.lst ((b.1.filter fun x => decide (x ∈ a.1)).map D.str)) (eY n a b t { s2 := .val (.int ((b.1.length + b.2.length : Nat) : Int)) }) by simp [unwipe, eY])
    have fl := List.length_filter_le (fun x => decide (x ∈ a.1)) b.1
    have lc : prim .len [.lst ((b.1.filter fun x => decide (x ∈ a.1)).map D.str)] = some (.int ((b.1.filter fun x => decide (x ∈ a.1)).length : Nat)) := by
      show some (D.int ((((b.1.filter fun x => decide (x ∈ a.1)).map D.str).length : Nat) : Int)) = _
      rw [List.length_map]
    generalize hcnt : (b.1.filter fun x => decide (x ∈ a.1)) = cn at *
    have st2 : evalS (callF FF 100000 (M + 1)) 100000 mt2 (eY n a b t { s2 := .val (.int ((b.1.length + b.2.length : Nat) : Int)) }) = .ok .nx (eY n a b t { s2 := .val (.int ((b.1.length + b.2.length : Nat) : Int)), s3 := .val (frD (cn.length, 1)) }) := by
      have vl : evalE (callF FF 100000 (M + 1)) (.prim .len (.cons mtC .nil)) (eY n a b t { s2 := .val (.int ((b.1.length + b.2.length : Nat) : Int)) }) = .ok (.int (cn.length : Nat)) (eY n a b t { s2 := .val (.int ((b.1.length + b.2.length : Nat) : Int)) }) := by
        rw [ev_prim, evO_cons, op_comp, C]
        simp only [bind_ok, evO_nil, List.map_cons, List.map_nil, deref_lst, lc, toOut_some]
      have v1 : evalE (callF FF 100000 (M + 1)) (.con (.int 1)) (eY n a b t { s2 := .val (.int ((b.1.length + b.2.length : Nat) : Int)) }) = .ok (.int 1) (eY n a b t { s2 := .val (.int ((b.1.length + b.2.length : Nat) : Int)) }) := ev_con _ _ _
      have vt : evalE (callF FF 100000 (M + 1)) (.tup (.cons (.prim .len (.cons mtC .nil)) (.cons (.con (.int 1)) .nil))) (eY n a b t { s2 := .val (.int ((b.1.length + b.2.length : Nat) : Int)) }) = .ok (frD (cn.length, 1)) (eY n a b t { s2 := .val (.int ((b.1.length + b.2.length : Nat) : Int)) }) := by
        rw [ev_tup, evalL_cons_ok vl (evalL_cons_ok v1 (evL_nil _ _))]
        rfl
      rw [st_set, vt]
      rfl
    have hS : (b.2.map fun w => 2 + wt n w).sum ≤ 1892 := by unfold wtC at hw; omega
    obtain ⟨g', q2, q3, q7⟩ := loop_ob M n (a := a) (b := b) (t := t) ha f b.2 cn.length 0 (cn.length, 1) { s2 := .val (.int ((b.1.length + b.2.length : Nat) : Int)), s3 := .val (frD (cn.length, 1)) } hb.2.2 (by omega) (by omega) hf ih (start_ok cn.length) rfl
    have st3 : evalS (callF FF 100000 (M + 1)) 100000 mt3 (eY n a b t { s2 := .val (.int ((b.1.length + b.2.length : Nat) : Int)), s3 := .val (frD (cn.length, 1)) }) = .ok .nx (eY n a b t g') := by
      have it : evalI (callF FF 100000 (M + 1)) (.seq (.prim .item (.cons (.var 1) (.cons (.con (.int 1)) .nil)))) (eY n a b t { s2 := .val (.int ((b.1.length + b.2.length : Nat) : Int)), s3 := .val (frD (cn.length, 1)) }) = .ok (b.2.map (linkD n)) (eY n a b t { s2 := .val (.int ((b.1.length + b.2.length : Nat) : Int)), s3 := .val (frD (cn.length, 1)) }) := by
        simp [eY, rdVar, i1b, deref_con, items_links]
      rw [st_forr, it]
      simp only [bind_ok]
      exact q7
    have S := sum_ok (a := a) b.2 _ 0 _ hf (start_ok cn.length)
    rw [Nat.zero_add] at S
    generalize b.2.foldl (fun t w => addF t (bestF n f a w)) (cn.length, 1) = x at *
    have xl := S.lt (by omega) (by omega)
    have hp : 0 < x.2 * (b.1.length + b.2.length) := Nat.mul_pos S.pos (by omega)
    have hq : x.2 * (b.1.length + b.2.length) < 2 ^ 1999 := by
      have h1 : x.2 * (b.1.length + b.2.length) ≤ 2 ^ 1892 * 2 ^ 8 := Nat.mul_le_mul (Nat.le_trans S.bd (Nat.pow_le_pow_right (by omega) hS)) (by omega)
      rw [← Nat.pow_add] at h1
      have h2 : (2 : Nat) ^ (1892 + 8) < 2 ^ 1999 := Nat.pow_lt_pow_right (by omega) (by omega)
      omega
    have e : ∀ s' : MP.S, callO (callF FF 100000 (M + 1)) 7 [.int (x.1 : Nat), .int ((x.2 * (b.1.length + b.2.length) : Nat) : Nat)] s' = .ok (frD (low x.1 (x.2 * (b.1.length + b.2.length)))) s' := callv_at fun t => sp_lowest M t hp hq (by omega) (by omega)
    have mu := p_mul_nat (i := x.2) (j := b.1.length + b.2.length) (k := 1999) xl.2 (Nat.lt_of_le_of_lt (by omega : b.1.length + b.2.length ≤ 2 ^ 8) (Nat.pow_lt_pow_right (by omega) (by omega))) (by omega) (by omega)
    have x0 := p_fr0 x
    have x1 := p_fr1 x
    rw [evalSs_one st1, seqR_nx, evalSs_one st2, seqR_nx, evalSs_one st3, seqR_nx]
    generalize hn1 : b.1.length + b.2.length = n1 at *
    generalize hn2 : x.2 * n1 = n2 at mu e ⊢
    simp [eY, rdVar, deref_fr, q2, q3, x0, x1, mu, e]
theorem sp_met_by : ∀ (n m : Nat) {a b : Con n} (t : Sto), okC n a → okC n b → smC n b → wtC n b ≤ 1900 → callF FF 100000 (m + n + 2) 9 [conD n a, conD n b] t = .ok (frD (metN n a b)) t
  | 0, m, a, b, t, ha, hb, hs, hw => sp_met_step (m + 0) 0 t ha hb hs.1 hw (metL 0) (fun w => nomatch w) (fun w => nomatch w)
  | n + 1, m, a, b, t, ha, hb, hs, hw => sp_met_step (m + (n + 1)) (n + 1) t ha hb hs.1 hw (metL (n + 1)) (fun w hw' h _ => (metL_ok (n + 1) h w (hs.2 w hw')).mono (by omega)) fun w hw' h hh t => by
      have : wtC n w.2 ≤ 1900 := by
        have h1 : wtC n w.2 = wt (n + 1) w := rfl
        have h2 : 2 + wt (n + 1) w ≤ (b.2.map fun w => 2 + wt (n + 1) w).sum := by
          have : ∀ (l : List (LinkT (n + 1))), w ∈ l → 2 + wt (n + 1) w ≤ (l.map fun w => 2 + wt (n + 1) w).sum := fun l => by
            induction l with
            | nil => exact fun h => nomatch h
            | cons y l ih =>
              intro h
              rw [List.map_cons, List.sum_cons]
              rcases List.mem_cons.mp h with rfl | h
              · omega
              · have := ih h; omega
          exact this b.2 hw'
        unfold wtC at hw
        rw [h1]
        omega
      exact sp_met_by n m t (ha.2.2 h hh).2 (hb.2.2 w hw').2 (hs.2 w hw') this
end K74
end
section
set_option Elab.async false
set_option linter.all false
set_option maxRecDepth 100000
set_option maxHeartbeats 4000000
/-! the law's met share is the same -/
namespace K74
open PySem MP
def Eqr (x y : Fr) : Prop := x.1 * y.2 = y.1 * x.2
theorem more_congr {x x' y y' : Fr} (hx : Eqr x x') (hy : Eqr y y') (p1 : 0 < x.2) (p2 : 0 < x'.2) (p3 : 0 < y.2) (p4 : 0 < y'.2) : more x y = more x' y' := by
  unfold more
  refine decide_eq_decide.mpr ?_
  have e1 : (x.1 * y.2) * (x'.2 * y'.2) = (x.2 * y.2) * (x'.1 * y'.2) := by
    calc (x.1 * y.2) * (x'.2 * y'.2) = (x.1 * x'.2) * (y.2 * y'.2) := by simp only [Nat.mul_comm, Nat.mul_left_comm]
      _ = (x'.1 * x.2) * (y.2 * y'.2) := by rw [hx]
      _ = (x.2 * y.2) * (x'.1 * y'.2) := by simp only [Nat.mul_comm, Nat.mul_left_comm]
  have e2 : (y.1 * x.2) * (x'.2 * y'.2) = (x.2 * y.2) * (y'.1 * x'.2) := by
    calc (y.1 * x.2) * (x'.2 * y'.2) = (y.1 * y'.2) * (x.2 * x'.2) := by simp only [Nat.mul_comm, Nat.mul_left_comm]
      _ = (y'.1 * y.2) * (x.2 * x'.2) := by rw [hy]
      _ = (x.2 * y.2) * (y'.1 * x'.2) := by simp only [Nat.mul_comm, Nat.mul_left_comm]
  have k1 : 0 < x'.2 * y'.2 := Nat.mul_pos p2 p4
  have k2 : 0 < x.2 * y.2 := Nat.mul_pos p1 p3
  constructor
  · intro h
    have h2 := Nat.mul_lt_mul_of_pos_right h k1
    rw [e1, e2] at h2
    exact Nat.lt_of_mul_lt_mul_left h2
  · intro h
    have h2 := Nat.mul_lt_mul_of_pos_left h k2
    rw [← e1, ← e2] at h2
    exact Nat.lt_of_mul_lt_mul_right h2
def raw (s : Fr) : Fr := (s.1 + s.2, 2 * s.2)
theorem half_raw {s : Fr} (h : 0 < s.2) : Eqr (half s) (raw s) := by
  have hqd := Nat.div_mul_cancel (Nat.gcd_dvd_right (s.1 + s.2) (2 * s.2))
  have hpd := Nat.div_mul_cancel (Nat.gcd_dvd_left (s.1 + s.2) (2 * s.2))
  unfold Eqr half raw low
  show (s.1 + s.2) / Nat.gcd (s.1 + s.2) (2 * s.2) * (2 * s.2) = (s.1 + s.2) * (2 * s.2 / Nat.gcd (s.1 + s.2) (2 * s.2))
  generalize Nat.gcd (s.1 + s.2) (2 * s.2) = g at *
  generalize (s.1 + s.2) / g = a at *
  generalize 2 * s.2 / g = b at *
  rw [← hqd, ← hpd]
  simp only [Nat.mul_comm, Nat.mul_left_comm]
/-- the best of unreduced halves -/
def bestR (hs : List Fr) (b : Fr) : Fr := hs.foldl (fun best one => if more one best = true then one else best) b
theorem best_raw {n : Nat} {f : LinkT n → LinkT n → Fr} {w : LinkT n} : ∀ (hs : List (LinkT n)) (b r : Fr), (∀ h ∈ hs, 0 < (f h w).2) → Eqr b r → 0 < b.2 → 0 < r.2 →
    Eqr (hs.foldl (bestS n f w) b) (bestR ((hs.filter fun h => decide (role n h = role n w)).map fun h => raw (f h w)) r) ∧ 0 < (hs.foldl (bestS n f w) b).2 ∧ 0 < (bestR ((hs.filter fun h => decide (role n h = role n w)).map fun h => raw (f h w)) r).2
  | [], b, r, _, e, p, q => ⟨e, p, q⟩
  | h :: hs, b, r, hf, e, p, q => by
    have ph := hf h List.mem_cons_self
    rw [List.foldl_cons, List.filter_cons]
    by_cases hr : role n h = role n w
    · rw [if_pos (by simpa using hr), List.map_cons]
      have e1 : bestS n f w b h = if more (half (f h w)) b = true then half (f h w) else b := by unfold bestS; rw [if_pos hr]
      have pr : 0 < (raw (f h w)).2 := by show 0 < 2 * (f h w).2; omega
      have phh : 0 < (half (f h w)).2 := low_pos (by omega)
      have mc := more_congr (half_raw ph) e phh pr p q
      have e2 : bestR (raw (f h w) :: (hs.filter fun h => decide (role n h = role n w)).map fun h => raw (f h w)) r = bestR ((hs.filter fun h => decide (role n h = role n w)).map fun h => raw (f h w)) (if more (raw (f h w)) r = true then raw (f h w) else r) := rfl
      rw [e1, e2, mc]
      cases more (raw (f h w)) r with
      | true => exact best_raw hs _ _ (fun x hx => hf x (List.mem_cons_of_mem _ hx)) (half_raw ph) phh pr
      | false => exact best_raw hs _ _ (fun x hx => hf x (List.mem_cons_of_mem _ hx)) e p q
    · rw [if_neg (by simpa using hr)]
      have e1 : bestS n f w b h = b := by unfold bestS; rw [if_neg hr]
      rw [e1]
      exact best_raw hs b r (fun x hx => hf x (List.mem_cons_of_mem _ hx)) e p q
def lawBest (n : Nat) (f : LinkT n → LinkT n → Fr) (a : Con n) (w : LinkT n) : Fr := bestR ((0, 1) :: (a.2.filter fun h => decide (role n h = role n w)).map fun h => raw (f h w)) (0, 1)
theorem lawBest_eq {n : Nat} {f : LinkT n → LinkT n → Fr} {a : Con n} {w : LinkT n} (hf : ∀ h ∈ a.2, 0 < (f h w).2) : Eqr (bestF n f a w) (lawBest n f a w) ∧ 0 < (bestF n f a w).2 ∧ 0 < (lawBest n f a w).2 := by
  have := best_raw (f := f) (w := w) a.2 (0, 1) (0, 1) hf rfl (by simp) (by simp)
  have e : lawBest n f a w = bestR ((a.2.filter fun h => decide (role n h = role n w)).map fun h => raw (f h w)) (0, 1) := rfl
  rw [e]
  exact this
theorem add_raw {t b r : Fr} (ht : 0 < t.2) (hb : 0 < b.2) (hr : 0 < r.2) (e : Eqr b r) : low (t.1 * r.2 + r.1 * t.2) (t.2 * r.2) = addF t b := by
  unfold addF
  refine low_ratio (Nat.mul_pos ht hr) (Nat.mul_pos ht hb) ?_
  have e : b.1 * r.2 = r.1 * b.2 := e
  rw [Nat.add_mul, Nat.add_mul]
  congr 1
  · simp only [Nat.mul_comm, Nat.mul_left_comm]
  · calc r.1 * t.2 * (t.2 * b.2) = (r.1 * b.2) * (t.2 * t.2) := by simp only [Nat.mul_comm, Nat.mul_left_comm]
      _ = (b.1 * r.2) * (t.2 * t.2) := by rw [e]
      _ = b.1 * t.2 * (t.2 * r.2) := by simp only [Nat.mul_comm, Nat.mul_left_comm]
end K74
end
section
set_option Elab.async false
set_option linter.all false
set_option maxRecDepth 100000
set_option maxHeartbeats 4000000
set_option exponentiation.threshold 3000
/-! _law_met -/
namespace K74
open PySem MP
structure GC where
  s2 : MP.Slot := .unb
  s3 : MP.Slot := .unb
  s4 : MP.Slot := .unb
  s5 : MP.Slot := .unb
  s6 : MP.Slot := .unb
  s7 : MP.Slot := .unb
  s8 : MP.Slot := .unb
  s9 : MP.Slot := .unb
def eX (n : Nat) (a b : Con n) (t : Sto) (g : GC) : S := { loc := [.val (conD n a), .val (conD n b), g.s2, g.s3, g.s4, g.s5, g.s6, g.s7, g.s8, g.s9, .unb, .unb, .unb], sto := t }
theorem raw_ok {k : Nat} {s : Fr} (h : FrOk k s) : FrOk (k + 1) (raw s) := by
  have := h.pos
  have h2 := h.le
  have h3 := h.bd
  refine ⟨?_, ?_, ?_⟩
  · show 0 < 2 * s.2; omega
  · show s.1 + s.2 ≤ 2 * s.2; omega
  · show 2 * s.2 ≤ 2 ^ (k + 1); rw [Nat.pow_succ]; omega
def frs (l : List Fr) : List D := l.map frD
abbrev lbC1 : PE := (.comp (.call 25 (.cons (.var 12) (.cons (.var 5) .nil))) (.tp [(.nm 11), (.nm 12)]) (.seq (.prim .item (.cons (.var 0) (.cons (.con (.int 1)) .nil)))) (.cons (.prim .eq (.cons (.var 11) (.cons (.var 4) .nil))) .nil) [11, 12])
abbrev lb1 : PS := (.set (.nm 6) (.prim .add (.cons (.lst (.cons (.tup (.cons (.con (.int 0)) (.cons (.con (.int 1)) .nil))) .nil)) (.cons lbC1 .nil))))
abbrev lbC2 : PE := (.comp (.tup (.cons (.prim .add (.cons (.prim .item (.cons (.var 9) (.cons (.con (.int 0)) .nil))) (.cons (.prim .item (.cons (.var 9) (.cons (.con (.int 1)) .nil))) .nil))) (.cons (.prim .mul (.cons (.con (.int 2)) (.cons (.prim .item (.cons (.var 9) (.cons (.con (.int 1)) .nil))) .nil))) .nil))) (.nm 9) (.seq (.prim .sl10 (.cons (.var 6) (.cons (.con (.int 1)) .nil)))) .nil [9])
abbrev lb2 : PS := (.set (.nm 7) (.prim .add (.cons (.lst (.cons (.tup (.cons (.con (.int 0)) (.cons (.con (.int 1)) .nil))) .nil)) (.cons lbC2 .nil))))
abbrev lb3 : PS := (.set (.nm 8) (.prim .item (.cons (.var 7) (.cons (.con (.int 0)) .nil))))
abbrev lbI : PB := (.cons (.ife (.prim .gt (.cons (.prim .mul (.cons (.prim .item (.cons (.var 9) (.cons (.con (.int 0)) .nil))) (.cons (.prim .item (.cons (.var 8) (.cons (.con (.int 1)) .nil))) .nil))) (.cons (.prim .mul (.cons (.prim .item (.cons (.var 8) (.cons (.con (.int 0)) .nil))) (.cons (.prim .item (.cons (.var 9) (.cons (.con (.int 1)) .nil))) .nil))) .nil))) (.cons (.set (.nm 8) (.var 9)) .nil) .nil) .nil)
abbrev lb4 : PS := (.forr (.nm 9) (.seq (.var 7)) lbI)
theorem lst01 (cf : CF) (s : S) : ev1 cf (.lst (.cons (.tup (.cons (.con (.int 0)) (.cons (.con (.int 1)) .nil))) .nil)) s = .ok (.lst [frD (0, 1)]) s := by
  simp
  rfl
theorem st_lb1 (M n : Nat) {a b : Con n} {t : Sto} (ha : okC n a) (f : LinkT n → LinkT n → Fr) (w : LinkT n) (ow : okL n w) (ih : ∀ h ∈ a.2, ∀ t, callF FF 100000 M 25 [subD n h, subD n w] t = .ok (frD (f h w)) t) (g : GC) (h4 : g.s4 = .val (.str (role n w))) (h5 : g.s5 = .val (subD n w)) :
    evalS (callF FF 100000 M) 100000 lb1 (eX n a b t g) = .ok .nx (eX n a b t { g with s6 := .val (.lst (frs ((0, 1) :: (a.2.filter fun h => decide (role n h = role n w)).map fun h => f h w))) }) := by
  have i1 := p_item_con1 n a
  have C := comp_gen (cf := callF FF 100000 M) (elt := (.call 25 (.cons (.var 12) (.cons (.var 5) .nil)))) (t := .tp [(.nm 11), (.nm 12)]) (it := (.seq (.prim .item (.cons (.var 0) (.cons (.con (.int 1)) .nil))))) (cs := (.cons (.prim .eq (.cons (.var 11) (.cons (.var 4) .nil))) .nil)) (vs := [11, 12]) (s := eX n a b t g) (s1 := eX n a b t g) (ys := a.2) (h := linkD n)
    (fun h => if decide (role n h = role n w) = true then [frD (f h w)] else []) (by simp [eX, rdVar, i1, deref_con, items_links]) (fun h hh => by
      have ec : ∀ s : S, callO (callF FF 100000 M) 25 [subD n h, subD n w] s = .ok (frD (f h w)) s := callv_at (ih h hh)
      have pe := p_eq_str (okL_role (ha.2.2 h hh)) (okL_role ow)
      refine ⟨[.val (conD n a), .val (conD n b), g.s2, g.s3, g.s4, g.s5, g.s6, g.s7, g.s8, g.s9, .unb, .val (.str (role n h)), .val (subD n h)], ?_, rfl⟩
      have as2 : MP.assign (.tp [(.nm 11), (.nm 12)]) (linkD n h) { loc := MP.wipe (eX n a b t g).loc [11, 12], sto := t } = some { loc := [.val (conD n a), .val (conD n b), g.s2, g.s3, g.s4, g.s5, g.s6, g.s7, g.s8, g.s9, .unb, .val (.str (role n h)), .val (subD n h)], sto := t } := by
        rw [linkD_eq]
        simp [MP.assign, assignL, eX, MP.wipe]
      show turnF _ _ _ _ (linkD n h) { loc := MP.wipe (eX n a b t g).loc [11, 12], sto := t } = _
      unfold turnF
      rw [as2, ofOpt_some]
      have cd : evalE (callF FF 100000 M) (.prim .eq (.cons (.var 11) (.cons (.var 4) .nil))) { loc := [.val (conD n a), .val (conD n b), g.s2, g.s3, g.s4, g.s5, g.s6, g.s7, g.s8, g.s9, .unb, .val (.str (role n h)), .val (subD n h)], sto := t } = .ok (.bl (decide (role n h = role n w))) { loc := [.val (conD n a), .val (conD n b), g.s2, g.s3, g.s4, g.s5, g.s6, g.s7, g.s8, g.s9, .unb, .val (.str (role n h)), .val (subD n h)], sto := t } := by
        simp [rdVar, h4, pe]
      rw [evC_cons, cd]
      clear cd pe
      cases decide (role n h = role n w) with
      | true =>
        simp [rdVar, h5, ec]
        rfl
      | false =>
        simp
        rfl) (by
      rw [flatMap_if (fun h => decide (role n h = role n w)) fun h => frD (f h w)]
      have := List.length_filter_le (fun h => decide (role n h = role n w)) a.2
      have := ha.2.1
      simp
      omega)
  rw [flatMap_if (fun h => decide (role n h = role n w)) fun h => frD (f h w)] at C
  have C := C.trans (show _ = Out.ok (.lst ((a.2.filter fun h => decide (role n h = role n w)).map fun h => frD (f h w))) (eX n a b t g) by simp [unwipe, eX])
  have fl := List.length_filter_le (fun h => decide (role n h = role n w)) a.2
  have hal := ha.2.1
  generalize a.2.filter (fun h => decide (role n h = role n w)) = fs at *
  have pa : prim .add [.lst [frD (0, 1)], .lst (fs.map fun h => frD (f h w))] = some (.lst (frs ((0, 1) :: fs.map fun h => f h w))) := by
    rw [p_add_lsts _ _ (by simp; omega)]
    simp [frs]
  have ve : evalE (callF FF 100000 M) (.prim .add (.cons (.lst (.cons (.tup (.cons (.con (.int 0)) (.cons (.con (.int 1)) .nil))) .nil)) (.cons lbC1 .nil))) (eX n a b t g) = .ok (.lst (frs ((0, 1) :: fs.map fun h => f h w))) (eX n a b t g) := by
    rw [ev_prim, evO_cons, lst01]
    simp only [bind_ok]
    rw [evO_cons, op_comp, C]
    simp only [bind_ok, evO_nil, List.map_cons, List.map_nil, deref_lst, pa, toOut_some]
  rw [st_set, ve]
  simp [eX, MP.assign]
def normS : MP.Slot → MP.Slot
  | .val d => .val d
  | _ => .unb
theorem st_lb2 (cf : CF) {n : Nat} {a b : Con n} {t : Sto} {K : Nat} (hK : K ≤ 1900) (l : List Fr) (hl : l.length ≤ 1000) (hf : ∀ s ∈ l, FrOk K s) (g : GC) (h6 : g.s6 = .val (.lst (frs ((0, 1) :: l)))) :
    evalS cf 100000 lb2 (eX n a b t g) = .ok .nx (eX n a b t { g with s7 := .val (.lst (frs ((0, 1) :: l.map raw))), s9 := normS g.s9 }) := by
  have sl : prim .sl10 [.lst (frs ((0, 1) :: l)), .int 1] = some (.lst (frs l)) := by
    show some (D.lst (MP.cut (frs ((0, 1) :: l)) (some ((1 : Nat) : Int)) none)) = _
    rw [cut_from _ _ (by simp [frs])]
    rfl
  have C := comp_gen (cf := cf) (elt := (.tup (.cons (.prim .add (.cons (.prim .item (.cons (.var 9) (.cons (.con (.int 0)) .nil))) (.cons (.prim .item (.cons (.var 9) (.cons (.con (.int 1)) .nil))) .nil))) (.cons (.prim .mul (.cons (.con (.int 2)) (.cons (.prim .item (.cons (.var 9) (.cons (.con (.int 1)) .nil))) .nil))) .nil)))) (t := .nm 9) (it := (.seq (.prim .sl10 (.cons (.var 6) (.cons (.con (.int 1)) .nil))))) (cs := .nil) (vs := [9]) (s := eX n a b t g) (s1 := eX n a b t g) (ys := l) (h := frD)
    (fun s => [frD (raw s)]) (by simp [eX, rdVar, h6, sl, itemsOf]; rfl) (fun s hs => by
      have ok := (hf s hs).lt (m := 1999) (by omega)
      have i0 := p_fr0 s
      have i1 := p_fr1 s
      have ad := p_add_nat s.1 s.2
      have mu : prim .mul [.int 2, .int (s.2 : Nat)] = some (.int ((2 * s.2 : Nat) : Nat)) := p_mul_nat (i := 2) (j := s.2) (k := 1999) (by omega) ok.2 (by omega) (by omega)
      refine ⟨[.val (conD n a), .val (conD n b), g.s2, g.s3, g.s4, g.s5, g.s6, g.s7, g.s8, .val (frD s), .unb, .unb, .unb], ?_, rfl⟩
      have e : frD (raw s) = .tup [.int ((s.1 + s.2 : Nat) : Nat), .int ((2 * s.2 : Nat) : Nat)] := rfl
      rw [e]
      generalize hn1 : s.1 + s.2 = n1 at ad ⊢
      generalize hn2 : 2 * s.2 = n2 at mu ⊢
      simp [turnF, MP.assign, eX, MP.wipe, rdVar, deref_fr, i0, i1, ad, mu]) (by rw [flatMap_one]; simp; omega)
  rw [flatMap_one] at C
  have C := C.trans (show _ = Out.ok (.lst (l.map fun s => frD (raw s))) (eX n a b t { g with s9 := normS g.s9 }) by
    simp [unwipe, eX]
    cases g.s9 <;> rfl)
  have pa : prim .add [.lst [frD (0, 1)], .lst (l.map fun s => frD (raw s))] = some (.lst (frs ((0, 1) :: l.map raw))) := by
    rw [p_add_lsts _ _ (by simp; omega)]
    simp [frs]
  have ve : evalE cf (.prim .add (.cons (.lst (.cons (.tup (.cons (.con (.int 0)) (.cons (.con (.int 1)) .nil))) .nil)) (.cons lbC2 .nil))) (eX n a b t g) = .ok (.lst (frs ((0, 1) :: l.map raw))) (eX n a b t { g with s9 := normS g.s9 }) := by
    rw [ev_prim, evO_cons, lst01]
    simp only [bind_ok]
    rw [evO_cons, op_comp, C]
    simp only [bind_ok, evO_nil, List.map_cons, List.map_nil, deref_lst, pa, toOut_some]
  rw [st_set, ve]
  simp [eX, MP.assign]
theorem st_lb34 (cf : CF) {n : Nat} {a b : Con n} {t : Sto} {K : Nat} (hK : K ≤ 1900) : ∀ (l : List Fr) (r : Fr) (g : GC), (∀ s ∈ l, FrOk K s) → FrOk K r → g.s8 = .val (frD r) →
    ∃ g' : GC, (g'.s2 = g.s2 ∧ g'.s3 = g.s3) ∧ g'.s8 = .val (frD (bestR l r)) ∧ forLoop (fun d s => ofOpt (MP.assign (.nm 9) d s) fun s3 => evalSs cf 100000 lbI s3) (l.map frD) (eX n a b t g) = .ok .nx (eX n a b t g')
  | [], r, g, _, _, h8 => ⟨g, ⟨rfl, rfl⟩, h8, rfl⟩
  | s :: l, r, g, hf, hr, h8 => by
    have so := hf s List.mem_cons_self
    have sl := so.lt (m := 1999) (by omega)
    have rl := hr.lt (m := 1999) (by omega)
    have as : MP.assign (.nm 9) (frD s) (eX n a b t g) = some (eX n a b t { g with s9 := .val (frD s) }) := by simp [MP.assign, eX]
    have a0 := p_fr0 s
    have a1 := p_fr1 s
    have b0 := p_fr0 r
    have b1 := p_fr1 r
    have m1 := p_mul_nat sl.1 rl.2 (by omega) (by omega)
    have m2 := p_mul_nat rl.1 sl.2 (by omega) (by omega)
    have gt : prim .gt [.int ((s.1 * r.2 : Nat) : Int), .int ((r.1 * s.2 : Nat) : Int)] = some (.bl (more s r)) := by
      rw [p_gt_int]
      unfold more
      congr 2
      exact decide_eq_decide.mpr ⟨fun z => by omega, fun z => by omega⟩
    have cd : evalE cf (.prim .gt (.cons (.prim .mul (.cons (.prim .item (.cons (.var 9) (.cons (.con (.int 0)) .nil))) (.cons (.prim .item (.cons (.var 8) (.cons (.con (.int 1)) .nil))) .nil))) (.cons (.prim .mul (.cons (.prim .item (.cons (.var 8) (.cons (.con (.int 0)) .nil))) (.cons (.prim .item (.cons (.var 9) (.cons (.con (.int 1)) .nil))) .nil))) .nil))) (eX n a b t { g with s9 := .val (frD s) }) = .ok (.bl (more s r)) (eX n a b t { g with s9 := .val (frD s) }) := by
      generalize hn1 : s.1 * r.2 = n1 at m1 gt
      generalize hn2 : r.1 * s.2 = n2 at m2 gt
      simp [eX, rdVar, h8, deref_fr, a0, a1, b0, b1, m1, m2, gt]
    obtain ⟨g1, ⟨q2, q3⟩, q8, q7⟩ : ∃ g1 : GC, (g1.s2 = g.s2 ∧ g1.s3 = g.s3) ∧ g1.s8 = .val (frD (if more s r = true then s else r)) ∧ ofOpt (MP.assign (.nm 9) (frD s) (eX n a b t g)) (fun s3 => evalSs cf 100000 lbI s3) = .ok .nx (eX n a b t g1) := by
      rw [as, ofOpt_some, ss_cons', st_if, cd]
      simp only [bind_ok]
      cases more s r with
      | true => exact ⟨{ g with s9 := .val (frD s), s8 := .val (frD s) }, ⟨rfl, rfl⟩, rfl, by simp [eX, rdVar, MP.assign]⟩
      | false => exact ⟨{ g with s9 := .val (frD s) }, ⟨rfl, rfl⟩, h8, by simp⟩
    have hr1 : FrOk K (if more s r = true then s else r) := by split <;> assumption
    obtain ⟨g2, ⟨r2, r3⟩, r8, r7⟩ := st_lb34 cf hK l (if more s r = true then s else r) g1 (fun x hx => hf x (List.mem_cons_of_mem _ hx)) hr1 q8
    refine ⟨g2, ⟨r2.trans q2, r3.trans q3⟩, r8, ?_⟩
    rw [List.map_cons, forLoop]
    show (ofOpt (MP.assign (.nm 9) (frD s) (eX n a b t g)) (fun s3 => evalSs cf 100000 lbI s3)).bind _ = _
    rw [q7]
    exact r7
end K74
end
section
set_option Elab.async false
set_option linter.all false
set_option maxRecDepth 100000
set_option maxHeartbeats 4000000
set_option exponentiation.threshold 3000
namespace K74
open PySem MP
theorem bestR_ok {k : Nat} : ∀ (l : List Fr) (r : Fr), (∀ s ∈ l, FrOk k s) → FrOk k r → FrOk k (bestR l r)
  | [], r, _, h => h
  | s :: l, r, hl, h => by
    show FrOk k (bestR l (if more s r = true then s else r))
    refine bestR_ok l _ (fun x hx => hl x (List.mem_cons_of_mem _ hx)) ?_
    split
    · exact hl s List.mem_cons_self
    · exact h
abbrev lb5 : PS := (.set (.nm 3) (.call 24 (.cons (.prim .add (.cons (.prim .mul (.cons (.prim .item (.cons (.var 3) (.cons (.con (.int 0)) .nil))) (.cons (.prim .item (.cons (.var 8) (.cons (.con (.int 1)) .nil))) .nil))) (.cons (.prim .mul (.cons (.prim .item (.cons (.var 8) (.cons (.con (.int 0)) .nil))) (.cons (.prim .item (.cons (.var 3) (.cons (.con (.int 1)) .nil))) .nil))) .nil))) (.cons (.prim .mul (.cons (.prim .item (.cons (.var 3) (.cons (.con (.int 1)) .nil))) (.cons (.prim .item (.cons (.var 8) (.cons (.con (.int 1)) .nil))) .nil))) .nil))))
abbrev lbB : PB := (.cons lb1 (.cons lb2 (.cons lb3 (.cons lb4 (.cons lb5 .nil)))))
theorem p_item_lstD {ds : List D} {d : D} {i : Nat} (hi : ds[i]? = some d) : prim .item [.lst ds, .int (i : Nat)] = some d := by
  obtain ⟨h1, h2⟩ := List.getElem?_eq_some_iff.mp hi
  show L2.atI ds (i : Int) = _
  rw [atI_nat _ _ h1]
  simp [h1, h2]
theorem turn_lb (M n : Nat) {a b : Con n} {t : Sto} {c Z : Nat} (ha : okC n a) (f : LinkT n → LinkT n → Fr) (w : LinkT n) (ow : okL n w) (hc : c ≤ 255) (hS : Z + (2 + wt n w) ≤ 1890) (hf : ∀ h ∈ a.2, FrOk (wt n w + 1) (f h w)) (ih : ∀ h ∈ a.2, ∀ t, callF FF 100000 (M + 2) 25 [subD n h, subD n w] t = .ok (frD (f h w)) t)
    (x : Fr) (hx : SumOk c Z x) (g : GC) (h3 : g.s3 = .val (frD x)) :
    ∃ g' : GC, g'.s2 = g.s2 ∧ g'.s3 = .val (frD (addF x (bestF n f a w))) ∧
      ofOpt (MP.assign (.tp [(.nm 4), (.nm 5)]) (linkD n w) (eX n a b t g)) (fun s3 => evalSs (callF FF 100000 (M + 2)) 100000 lbB s3) = .ok .nx (eX n a b t g') := by
  have as : MP.assign (.tp [(.nm 4), (.nm 5)]) (linkD n w) (eX n a b t g) = some (eX n a b t { g with s4 := .val (.str (role n w)), s5 := .val (subD n w) }) := by
    rw [linkD_eq]
    simp [MP.assign, assignL, eX]
  have st1 := st_lb1 (M + 2) n (b := b) (t := t) ha f w ow ih { g with s4 := .val (.str (role n w)), s5 := .val (subD n w) } rfl rfl
  have fl := List.length_filter_le (fun h => decide (role n h = role n w)) a.2
  have hal := ha.2.1
  have hfs : ∀ s ∈ (a.2.filter fun h => decide (role n h = role n w)).map fun h => f h w, FrOk (wt n w + 1) s := by
    intro s hs
    obtain ⟨h, hh, rfl⟩ := List.mem_map.mp hs
    exact hf h (List.mem_filter.mp hh).1
  have hl5 : lawBest n f a w = bestR ((0, 1) :: (((a.2.filter fun h => decide (role n h = role n w)).map fun h => f h w).map raw)) (0, 1) := by
    unfold lawBest
    rw [List.map_map]
    rfl
  have leq := lawBest_eq (f := f) (a := a) (w := w) fun h hh => (hf h hh).pos
  have hlen : ((a.2.filter fun h => decide (role n h = role n w)).map fun h => f h w).length ≤ 1000 := by
    rw [List.length_map]; omega
  generalize (a.2.filter fun h => decide (role n h = role n w)).map (fun h => f h w) = l at *
  have st2 := st_lb2 (callF FF 100000 (M + 2)) (n := n) (a := a) (b := b) (t := t) (K := wt n w + 1) (by omega) l hlen hfs { g with s4 := .val (.str (role n w)), s5 := .val (subD n w), s6 := .val (.lst (frs ((0, 1) :: l))) } rfl
  have st3 : evalS (callF FF 100000 (M + 2)) 100000 lb3 (eX n a b t { g with s4 := .val (.str (role n w)), s5 := .val (subD n w), s6 := .val (.lst (frs ((0, 1) :: l))), s7 := .val (.lst (frs ((0, 1) :: l.map raw))), s9 := normS g.s9 }) = .ok .nx (eX n a b t { g with s4 := .val (.str (role n w)), s5 := .val (subD n w), s6 := .val (.lst (frs ((0, 1) :: l))), s7 := .val (.lst (frs ((0, 1) :: l.map raw))), s8 := .val (frD (0, 1)), s9 := normS g.s9 }) := by
    have pi : prim .item [.lst (frs ((0, 1) :: l.map raw)), .int 0] = some (frD (0, 1)) := p_item_lstD (i := 0) rfl
    generalize frs ((0, 1) :: l.map raw) = zs at pi ⊢
    generalize frD (0, 1) = z at pi ⊢
    simp [eX, rdVar, pi, MP.assign]
  have hraw : ∀ s ∈ ((0, 1) : Fr) :: l.map raw, FrOk (wt n w + 1 + 1) s := by
    intro s hs
    rcases List.mem_cons.mp hs with rfl | hs
    · exact ⟨by simp, by simp, Nat.one_le_two_pow⟩
    · obtain ⟨y, hy, rfl⟩ := List.mem_map.mp hs
      exact raw_ok (hfs y hy)
  have h01 : FrOk (wt n w + 1 + 1) (0, 1) := ⟨by simp, by simp, Nat.one_le_two_pow⟩
  obtain ⟨g1, ⟨q2, q3⟩, q8, q7⟩ := st_lb34 (callF FF 100000 (M + 2)) (n := n) (a := a) (b := b) (t := t) (K := wt n w + 1 + 1) (by omega) ((0, 1) :: l.map raw) (0, 1) { g with s4 := .val (.str (role n w)), s5 := .val (subD n w), s6 := .val (.lst (frs ((0, 1) :: l))), s7 := .val (.lst (frs ((0, 1) :: l.map raw))), s8 := .val (frD (0, 1)), s9 := normS g.s9 } hraw h01 rfl
  have st4 : evalS (callF FF 100000 (M + 2)) 100000 lb4 (eX n a b t { g with s4 := .val (.str (role n w)), s5 := .val (subD n w), s6 := .val (.lst (frs ((0, 1) :: l))), s7 := .val (.lst (frs ((0, 1) :: l.map raw))), s8 := .val (frD (0, 1)), s9 := normS g.s9 }) = .ok .nx (eX n a b t g1) := by
    have it : evalI (callF FF 100000 (M + 2)) (.seq (.var 7)) (eX n a b t { g with s4 := .val (.str (role n w)), s5 := .val (subD n w), s6 := .val (.lst (frs ((0, 1) :: l))), s7 := .val (.lst (frs ((0, 1) :: l.map raw))), s8 := .val (frD (0, 1)), s9 := normS g.s9 }) = .ok (((0, 1) :: l.map raw).map frD) (eX n a b t { g with s4 := .val (.str (role n w)), s5 := .val (subD n w), s6 := .val (.lst (frs ((0, 1) :: l))), s7 := .val (.lst (frs ((0, 1) :: l.map raw))), s8 := .val (frD (0, 1)), s9 := normS g.s9 }) := by
      rw [show ((0, 1) :: l.map raw).map frD = frs ((0, 1) :: l.map raw) from rfl]
      generalize frs ((0, 1) :: l.map raw) = zs
      simp [eX, rdVar, itemsOf]
    rw [st_forr, it]
    simp only [bind_ok]
    exact q7
  rw [← hl5] at q8
  have q3 : g1.s3 = .val (frD x) := q3.trans h3
  have hbb : FrOk (wt n w + 1 + 1) (lawBest n f a w) := by rw [hl5]; exact bestR_ok _ _ hraw h01
  have ar := add_raw hx.pos leq.2.1 leq.2.2 leq.1
  have xl := hx.lt hc (by omega)
  generalize lawBest n f a w = bb at *
  have bl := hbb.lt (m := 1999) (by omega)
  have hqp : 0 < x.2 * bb.2 := Nat.mul_pos hx.pos hbb.pos
  have hqb : x.2 * bb.2 < 2 ^ 1999 := by
    have h1 : x.2 * bb.2 ≤ 2 ^ Z * 2 ^ (wt n w + 1 + 1) := Nat.mul_le_mul hx.bd hbb.bd
    rw [← Nat.pow_add] at h1
    have h2 : 2 ^ (Z + (wt n w + 1 + 1)) < 2 ^ 1999 := Nat.pow_lt_pow_right (by omega) (by omega)
    omega
  have e : ∀ s' : MP.S, callO (callF FF 100000 (M + 2)) 24 [.int ((x.1 * bb.2 + bb.1 * x.2 : Nat) : Nat), .int ((x.2 * bb.2 : Nat) : Nat)] s' = .ok (frD (low (x.1 * bb.2 + bb.1 * x.2) (x.2 * bb.2))) s' := callv_at fun t => sp_law_low M t hqp hqb
  rw [ar] at e
  have m1 := p_mul_nat xl.1 bl.2 (by omega) (by omega)
  have m2 := p_mul_nat bl.1 xl.2 (by omega) (by omega)
  have m3 := p_mul_nat xl.2 bl.2 (by omega) (by omega)
  have ad := p_add_nat (x.1 * bb.2) (bb.1 * x.2)
  have x0 := p_fr0 x
  have x1 := p_fr1 x
  have b0 := p_fr0 bb
  have b1 := p_fr1 bb
  refine ⟨{ g1 with s3 := .val (frD (addF x (bestF n f a w))) }, q2, rfl, ?_⟩
  have st5 : evalS (callF FF 100000 (M + 2)) 100000 lb5 (eX n a b t g1) = .ok .nx (eX n a b t { g1 with s3 := .val (frD (addF x (bestF n f a w))) }) := by
    generalize addF x (bestF n f a w) = r at *
    generalize hn1 : x.1 * bb.2 = n1 at m1 ad e
    generalize hn2 : bb.1 * x.2 = n2 at m2 ad e
    generalize hn3 : n1 + n2 = n3 at ad e
    generalize hn4 : x.2 * bb.2 = n4 at m3 e
    simp [eX, rdVar, deref_fr, q3, q8, x0, x1, b0, b1, m1, m2, m3, ad, e, MP.assign]
  rw [as, ofOpt_some, evalSs_one st1, seqR_nx, evalSs_one st2, seqR_nx, evalSs_one st3, seqR_nx, evalSs_one st4, seqR_nx, evalSs_one st5, seqR_nx, ss_nil']
theorem loop_lb (M n : Nat) {a b : Con n} {t : Sto} (ha : okC n a) (f : LinkT n → LinkT n → Fr) : ∀ (ws : List (LinkT n)) (c Z : Nat) (x : Fr) (g : GC), (∀ w ∈ ws, okL n w) → c + ws.length ≤ 255 → Z + (ws.map fun w => 2 + wt n w).sum ≤ 1890 → (∀ w ∈ ws, ∀ h ∈ a.2, FrOk (wt n w + 1) (f h w)) → (∀ w ∈ ws, ∀ h ∈ a.2, ∀ t, callF FF 100000 (M + 2) 25 [subD n h, subD n w] t = .ok (frD (f h w)) t) → SumOk c Z x → g.s3 = .val (frD x) →
    ∃ g' : GC, g'.s2 = g.s2 ∧ g'.s3 = .val (frD (ws.foldl (fun t w => addF t (bestF n f a w)) x)) ∧ forLoop (fun d s => ofOpt (MP.assign (.tp [(.nm 4), (.nm 5)]) d s) fun s3 => evalSs (callF FF 100000 (M + 2)) 100000 lbB s3) (ws.map (linkD n)) (eX n a b t g) = .ok .nx (eX n a b t g')
  | [], c, Z, x, g, _, _, _, _, _, _, h3 => ⟨g, rfl, h3, rfl⟩
  | w :: ws, c, Z, x, g, ho, hc, hS, hf, ih, hx, h3 => by
    rw [List.length_cons] at hc
    rw [List.map_cons, List.sum_cons] at hS
    obtain ⟨g1, q2, q3, q7⟩ := turn_lb M n (a := a) (b := b) (t := t) (c := c) (Z := Z) ha f w (ho w List.mem_cons_self) (by omega) (by omega) (hf w List.mem_cons_self) (ih w List.mem_cons_self) x hx g h3
    have hx1 := add_ok hx (bestF_ok (hf w List.mem_cons_self))
    obtain ⟨g2, r2, r3, r7⟩ := loop_lb M n ha f ws (c + 1) (Z + (wt n w + 1 + 1)) (addF x (bestF n f a w)) g1 (fun y hy => ho y (List.mem_cons_of_mem _ hy)) (by omega) (by omega) (fun y hy => hf y (List.mem_cons_of_mem _ hy)) (fun y hy => ih y (List.mem_cons_of_mem _ hy)) hx1 q3
    refine ⟨g2, r2.trans q2, r3, ?_⟩
    rw [List.map_cons, forLoop]
    show (ofOpt (MP.assign (.tp [(.nm 4), (.nm 5)]) (linkD n w) (eX n a b t g)) (fun s3 => evalSs (callF FF 100000 (M + 2)) 100000 lbB s3)).bind _ = _
    rw [q7]
    exact r7
end K74
end
section
set_option Elab.async false
set_option linter.all false
set_option maxRecDepth 100000
set_option maxHeartbeats 4000000
set_option exponentiation.threshold 3000
namespace K74
open PySem MP
theorem intsOf_map {α : Type} (g : α → Int) : ∀ (l : List α), intsOf (l.map fun x => .int (g x)) = some (l.map g)
  | [] => rfl
  | x :: l => by
    show ((intsOf (l.map fun x => D.int (g x))).map (g x :: ·)) = _
    rw [intsOf_map g l]
    rfl
theorem sum_count {α : Type} (p : α → Bool) : ∀ (l : List α), (l.map fun x => if p x = true then (1 : Int) else 0).sum = ((l.filter p).length : Nat)
  | [] => rfl
  | x :: l => by
    rw [List.map_cons, List.sum_cons, sum_count p l, List.filter_cons]
    cases p x with
    | true => simp; omega
    | false => simp
theorem p_sum_count {α : Type} (p : α → Bool) (l : List α) : prim .sum [.lst (l.map fun x => .int (if p x = true then (1 : Int) else 0))] = some (.int (((l.filter p).length : Nat) : Int)) := by
  show (intsOf _).map _ = _
  rw [intsOf_map, Option.map_some, sum_count]
abbrev lt1 : PS := (.ife (.prim .eq (.cons (.var 2) (.cons (.con (.int 0)) .nil))) (.cons (.ret (.tup (.cons (.con (.int 1)) (.cons (.con (.int 1)) .nil)))) .nil) .nil)
abbrev ltC : PE := (.comp (.prim .int1 (.cons (.prim .isIn (.cons (.var 10) (.cons (.prim .item (.cons (.var 0) (.cons (.con (.int 0)) .nil))) .nil))) .nil)) (.nm 10) (.seq (.prim .item (.cons (.var 1) (.cons (.con (.int 0)) .nil)))) .nil [10])
abbrev lt2 : PS := (.set (.nm 3) (.tup (.cons (.prim .sum (.cons ltC .nil)) (.cons (.con (.int 1)) .nil))))
abbrev lt3 : PS := (.forr (.tp [(.nm 4), (.nm 5)]) (.seq (.prim .item (.cons (.var 1) (.cons (.con (.int 1)) .nil)))) lbB)
abbrev lt4 : PS := (.ret (.call 24 (.cons (.prim .item (.cons (.var 3) (.cons (.con (.int 0)) .nil))) (.cons (.prim .mul (.cons (.prim .item (.cons (.var 3) (.cons (.con (.int 1)) .nil))) (.cons (.var 2) .nil))) .nil))))
theorem sp_law_met_step (M n : Nat) {a b : Con n} (t : Sto) (ha : okC n a) (hb : okC n b) (sb : b.1.length + b.2.length ≤ 255) (hw : wtC n b ≤ 1890) (f : LinkT n → LinkT n → Fr) (hf : ∀ w ∈ b.2, ∀ h ∈ a.2, FrOk (wt n w + 1) (f h w)) (ih : ∀ w ∈ b.2, ∀ h ∈ a.2, ∀ t, callF FF 100000 (M + 2) 25 [subD n h, subD n w] t = .ok (frD (f h w)) t) :
    callF FF 100000 (M + 3) 25 [conD n a, conD n b] t = .ok (frD (metC n f a b)) t := by
  have hF : FF[25]? = some ⟨2, 13, b_law_met⟩ := rfl
  have i0a := p_item_con0 n a
  have i0b := p_item_con0 n b
  have i1b := p_item_con1 n b
  have l0 : prim .len [setD b.1] = some (.int (b.1.length : Nat)) := p_len_set b.1 (by omega)
  have l1 := p_len_links n b.2
  have ad := p_add_nat b.1.length b.2.length
  have st0 : evalS (callF FF 100000 (M + 2)) 100000 mt0 (eX n a b t {}) = .ok .nx (eX n a b t { s2 := .val (.int ((b.1.length + b.2.length : Nat) : Int)) }) := by
    generalize hn1 : b.1.length + b.2.length = n1 at ad
    simp [eX, rdVar, deref_con, deref_links, i0b, i1b, l0, l1, ad, MP.assign]
  have start : callF FF 100000 (M + 3) 25 [conD n a, conD n b] t = runRes (evalSs (callF FF 100000 (M + 2)) 100000 (.cons lt1 (.cons lt2 (.cons lt3 (.cons lt4 .nil)))) (eX n a b t { s2 := .val (.int ((b.1.length + b.2.length : Nat) : Int)) })) := by
    rw [callF_succ, hF]
    show (if [conD n a, conD n b].length = 2 then runRes (evalSs (callF FF 100000 (M + 2)) 100000 b_law_met (eX n a b t {})) else .bad) = _
    rw [if_pos (show [conD n a, conD n b].length = 2 from rfl)]
    unfold b_law_met
    rw [evalSs_one st0, seqR_nx]
  rw [start]
  unfold metC
  have ez := p_eq_int ((b.1.length + b.2.length : Nat) : Int) 0
  by_cases hz : b.1.length + b.2.length = 0
  · rw [if_pos hz]
    rw [decide_eq_true (show ((b.1.length + b.2.length : Nat) : Int) = 0 by omega)] at ez
    generalize hn1 : b.1.length + b.2.length = n1 at ez
    simp [eX, rdVar, ez]
    rfl
  · rw [if_neg hz]
    rw [decide_eq_false (show ¬ ((b.1.length + b.2.length : Nat) : Int) = 0 by omega)] at ez
    have st1 : evalS (callF FF 100000 (M + 2)) 100000 lt1 (eX n a b t { s2 := .val (.int ((b.1.length + b.2.length : Nat) : Int)) }) = .ok .nx (eX n a b t { s2 := .val (.int ((b.1.length + b.2.length : Nat) : Int)) }) := by
      refine st_skip ?_
      generalize hn1 : b.1.length + b.2.length = n1 at ez
      simp [eX, rdVar, ez]
    have C := comp_gen (cf := callF FF 100000 (M + 2)) (elt := (.prim .int1 (.cons (.prim .isIn (.cons (.var 10) (.cons (.prim .item (.cons (.var 0) (.cons (.con (.int 0)) .nil))) .nil))) .nil))) (t := .nm 10) (it := (.seq (.prim .item (.cons (.var 1) (.cons (.con (.int 0)) .nil))))) (cs := .nil) (vs := [10]) (s := eX n a b t { s2 := .val (.int ((b.1.length + b.2.length : Nat) : Int)) }) (s1 := eX n a b t { s2 := .val (.int ((b.1.length + b.2.length : Nat) : Int)) }) (ys := b.1) (h := D.str)
      (fun x => [.int (if decide (x ∈ a.1) = true then (1 : Int) else 0)]) (by simp [eX, rdVar, i0b, deref_con]) (fun x hx => by
        have pn := p_in_set (hb.1 x hx) ha.1
        refine ⟨[.val (conD n a), .val (conD n b), .val (.int ((b.1.length + b.2.length : Nat) : Int)), .unb, .unb, .unb, .unb, .unb, .unb, .unb, .val (.str x), .unb, .unb], ?_, rfl⟩
        have p1 : prim .int1 [.bl (decide (x ∈ a.1))] = some (.int (if decide (x ∈ a.1) = true then (1 : Int) else 0)) := rfl
        generalize decide (x ∈ a.1) = bb at *
        simp [turnF, MP.assign, eX, MP.wipe, rdVar, i0a, deref_con, pn, p1]) (by
        rw [flatMap_one]
        simp
        omega)
    rw [flatMap_one] at C
    have C := C.trans (show _ = Out.ok (.lst (b.1.map fun x => .int (if decide (x ∈ a.1) = true then (1 : Int) else 0))) (eX n a b t { s2 := .val (.int ((b.1.length + b.2.length : Nat) : Int)) }) by simp [unwipe, eX])
    have fl := List.length_filter_le (fun x => decide (x ∈ a.1)) b.1
    have lc := p_sum_count (fun x => decide (x ∈ a.1)) b.1
    generalize hcnt : (b.1.filter fun x => decide (x ∈ a.1)) = cn at *
    have st2 : evalS (callF FF 100000 (M + 2)) 100000 lt2 (eX n a b t { s2 := .val (.int ((b.1.length + b.2.length : Nat) : Int)) }) = .ok .nx (eX n a b t { s2 := .val (.int ((b.1.length + b.2.length : Nat) : Int)), s3 := .val (frD (cn.length, 1)) }) := by
      have vl : evalE (callF FF 100000 (M + 2)) (.prim .sum (.cons ltC .nil)) (eX n a b t { s2 := .val (.int ((b.1.length + b.2.length : Nat) : Int)) }) = .ok (.int (cn.length : Nat)) (eX n a b t { s2 := .val (.int ((b.1.length + b.2.length : Nat) : Int)) }) := by
        rw [ev_prim, evO_cons, op_comp, C]
        simp only [bind_ok, evO_nil, List.map_cons, List.map_nil, deref_lst, lc, toOut_some]
      have v1 : evalE (callF FF 100000 (M + 2)) (.con (.int 1)) (eX n a b t { s2 := .val (.int ((b.1.length + b.2.length : Nat) : Int)) }) = .ok (.int 1) (eX n a b t { s2 := .val (.int ((b.1.length + b.2.length : Nat) : Int)) }) := ev_con _ _ _
      have vt : evalE (callF FF 100000 (M + 2)) (.tup (.cons (.prim .sum (.cons ltC .nil)) (.cons (.con (.int 1)) .nil))) (eX n a b t { s2 := .val (.int ((b.1.length + b.2.length : Nat) : Int)) }) = .ok (frD (cn.length, 1)) (eX n a b t { s2 := .val (.int ((b.1.length + b.2.length : Nat) : Int)) }) := by
        rw [ev_tup, evalL_cons_ok vl (evalL_cons_ok v1 (evL_nil _ _))]
        rfl
      rw [st_set, vt]
      rfl
    have hS : (b.2.map fun w => 2 + wt n w).sum ≤ 1882 := by unfold wtC at hw; omega
    obtain ⟨g', q2, q3, q7⟩ := loop_lb M n (a := a) (b := b) (t := t) ha f b.2 cn.length 0 (cn.length, 1) { s2 := .val (.int ((b.1.length + b.2.length : Nat) : Int)), s3 := .val (frD (cn.length, 1)) } hb.2.2 (by omega) (by omega) hf ih (start_ok cn.length) rfl
    have st3 : evalS (callF FF 100000 (M + 2)) 100000 lt3 (eX n a b t { s2 := .val (.int ((b.1.length + b.2.length : Nat) : Int)), s3 := .val (frD (cn.length, 1)) }) = .ok .nx (eX n a b t g') := by
      have it : evalI (callF FF 100000 (M + 2)) (.seq (.prim .item (.cons (.var 1) (.cons (.con (.int 1)) .nil)))) (eX n a b t { s2 := .val (.int ((b.1.length + b.2.length : Nat) : Int)), s3 := .val (frD (cn.length, 1)) }) = .ok (b.2.map (linkD n)) (eX n a b t { s2 := .val (.int ((b.1.length + b.2.length : Nat) : Int)), s3 := .val (frD (cn.length, 1)) }) := by
        simp [eX, rdVar, i1b, deref_con, items_links]
      rw [st_forr, it]
      simp only [bind_ok]
      exact q7
    have S := sum_ok (a := a) b.2 _ 0 _ hf (start_ok cn.length)
    rw [Nat.zero_add] at S
    generalize b.2.foldl (fun t w => addF t (bestF n f a w)) (cn.length, 1) = x at *
    have xl := S.lt (by omega) (by omega)
    have hp : 0 < x.2 * (b.1.length + b.2.length) := Nat.mul_pos S.pos (by omega)
    have hq : x.2 * (b.1.length + b.2.length) < 2 ^ 1999 := by
      have h1 : x.2 * (b.1.length + b.2.length) ≤ 2 ^ 1892 * 2 ^ 8 := Nat.mul_le_mul (Nat.le_trans S.bd (Nat.pow_le_pow_right (by omega) (by omega))) (by omega)
      rw [← Nat.pow_add] at h1
      have h2 : (2 : Nat) ^ (1892 + 8) < 2 ^ 1999 := Nat.pow_lt_pow_right (by omega) (by omega)
      omega
    have e : ∀ s' : MP.S, callO (callF FF 100000 (M + 2)) 24 [.int (x.1 : Nat), .int ((x.2 * (b.1.length + b.2.length) : Nat) : Nat)] s' = .ok (frD (low x.1 (x.2 * (b.1.length + b.2.length)))) s' := callv_at fun t => sp_law_low M t hp hq
    have mu := p_mul_nat (i := x.2) (j := b.1.length + b.2.length) (k := 1999) xl.2 (Nat.lt_of_le_of_lt (by omega : b.1.length + b.2.length ≤ 2 ^ 8) (Nat.pow_lt_pow_right (by omega) (by omega))) (by omega) (by omega)
    have x0 := p_fr0 x
    have x1 := p_fr1 x
    rw [evalSs_one st1, seqR_nx, evalSs_one st2, seqR_nx, evalSs_one st3, seqR_nx]
    generalize hn1 : b.1.length + b.2.length = n1 at *
    generalize hn2 : x.2 * n1 = n2 at mu e ⊢
    simp [eX, rdVar, deref_fr, q2, q3, x0, x1, mu, e]
theorem wt_in {n : Nat} {b : Con (n + 1)} {w : LinkT (n + 1)} (hw' : w ∈ b.2) {K : Nat} (hw : wtC (n + 1) b ≤ K) : wtC n w.2 ≤ K := by
  have h1 : wtC n w.2 = wt (n + 1) w := rfl
  have h2 : 2 + wt (n + 1) w ≤ (b.2.map fun w => 2 + wt (n + 1) w).sum := by
    have : ∀ (l : List (LinkT (n + 1))), w ∈ l → 2 + wt (n + 1) w ≤ (l.map fun w => 2 + wt (n + 1) w).sum := fun l => by
      induction l with
      | nil => exact fun h => nomatch h
      | cons y l ih =>
        intro h
        rw [List.map_cons, List.sum_cons]
        rcases List.mem_cons.mp h with rfl | h
        · omega
        · have := ih h; omega
    exact this b.2 hw'
  unfold wtC at hw
  rw [h1]
  omega
theorem sp_law_met : ∀ (n m : Nat) {a b : Con n} (t : Sto), okC n a → okC n b → smC n b → wtC n b ≤ 1890 → callF FF 100000 (m + n + 3) 25 [conD n a, conD n b] t = .ok (frD (metN n a b)) t
  | 0, m, a, b, t, ha, hb, hs, hw => sp_law_met_step (m + 0) 0 t ha hb hs.1 hw (metL 0) (fun w => nomatch w) (fun w => nomatch w)
  | n + 1, m, a, b, t, ha, hb, hs, hw => sp_law_met_step (m + (n + 1)) (n + 1) t ha hb hs.1 hw (metL (n + 1)) (fun w hw' h _ => (metL_ok (n + 1) h w (hs.2 w hw')).mono (by omega)) fun w hw' h hh t =>
      sp_law_met n m t (ha.2.2 h hh).2 (hb.2.2 w hw').2 (hs.2 w hw') (wt_in hw' hw)
end K74
end
section
set_option Elab.async false
set_option linter.all false
set_option maxRecDepth 100000
set_option maxHeartbeats 4000000
/-! links in order -/
namespace K74
open PySem MP
theorem pre_strs : ∀ (xs ys : Row) (r r' : List (Int ⊕ List Nat)), W.keyToksAll (pdL (xs.map .str)) ++ r = W.keyToksAll (pdL (ys.map .str)) ++ r' → xs = ys ∧ r = r'
  | [], [], r, r', h => by simpa [pdL, W.keyToksAll] using h
  | [], y :: ys, r, r', h => by simp [pdL, D.pd, W.keyToksAll] at h
  | x :: xs, [], r, r', h => by simp [pdL, D.pd, W.keyToksAll] at h
  | x :: xs, y :: ys, r, r', h => by
    simp only [List.map_cons, pdL, D.pd, W.keyToksAll, W.keyToks, List.cons_append, List.nil_append, List.cons.injEq, Sum.inr.injEq, true_and] at h
    obtain ⟨e, f⟩ := pre_strs xs ys r r' h.2
    exact ⟨by rw [W.str_of_cps h.1, e], f⟩
theorem pre_links {n : Nat} (k : ∀ (l m : LinkT n) (r r' : List (Int ⊕ List Nat)), W.keyToks (linkD n l).pd ++ r = W.keyToks (linkD n m).pd ++ r' → l = m ∧ r = r') : ∀ (xs ys : List (LinkT n)) (r r' : List (Int ⊕ List Nat)), W.keyToksAll (pdL (xs.map (linkD n))) ++ r = W.keyToksAll (pdL (ys.map (linkD n))) ++ r' → xs = ys ∧ r = r'
  | [], [], r, r', h => by simpa [pdL, W.keyToksAll] using h
  | [], y :: ys, r, r', h => by simp [pdL, W.keyToksAll] at h
  | x :: xs, [], r, r', h => by simp [pdL, W.keyToksAll] at h
  | x :: xs, y :: ys, r, r', h => by
    simp only [List.map_cons, pdL, W.keyToksAll, List.cons_append, List.append_assoc, List.cons.injEq, true_and] at h
    obtain ⟨e, f⟩ := k x y _ _ h
    obtain ⟨e2, f2⟩ := pre_links k xs ys r r' f
    exact ⟨by rw [e, e2], f2⟩
theorem pre_link : ∀ (n : Nat) (l m : LinkT n) (r r' : List (Int ⊕ List Nat)), W.keyToks (linkD n l).pd ++ r = W.keyToks (linkD n m).pd ++ r' → l = m ∧ r = r'
  | 0, l, _, _, _, _ => nomatch l
  | n + 1, (x, ns, ls), (x', ns', ls'), r, r', h => by
    have h : W.keyToks (D.tup [.str x, .tup [.tup (ns.map .str), .tup (ls.map (linkD n))]]).pd ++ r = W.keyToks (D.tup [.str x', .tup [.tup (ns'.map .str), .tup (ls'.map (linkD n))]]).pd ++ r' := h
    simp only [pdL, D.pd, W.keyToksAll, W.keyToks, List.cons_append, List.nil_append, List.append_assoc, List.cons.injEq, Sum.inr.injEq, true_and] at h
    obtain ⟨h1, h2⟩ := h
    obtain ⟨e2, h3⟩ := pre_strs ns ns' _ _ h2
    simp only [List.cons.injEq, true_and] at h3
    obtain ⟨e3, h4⟩ := pre_links (pre_link n) ls ls' _ _ h3
    simp only [List.cons.injEq, true_and] at h4
    exact ⟨by rw [W.str_of_cps h1, e2, e3], h4⟩
theorem link_inj (n : Nat) (l m : LinkT n) (h : W.keyToks (linkD n l).pd = W.keyToks (linkD n m).pd) : l = m := (pre_link n l m [] [] (by rw [h])).1
def ltK (n : Nat) (l m : LinkT n) : Prop := W.dataLt (linkD n l).pd (linkD n m).pd = true
open PyProof.Rows PySem.W in
theorem ltK_of_le {n : Nat} {l m : LinkT n} (h : W.dataLe false (fun l => (linkD n l).pd) l m = true) (ne : l ≠ m) : ltK n l m := by
  have h1 : (!PyProof.Rows.lexLt itemOrd (W.keyToks (linkD n m).pd) (W.keyToks (linkD n l).pd)) = true := h
  rw [Bool.not_eq_true'] at h1
  show PyProof.Rows.lexLt itemOrd (W.keyToks (linkD n l).pd) (W.keyToks (linkD n m).pd) = true
  cases h2 : PyProof.Rows.lexLt itemOrd (W.keyToks (linkD n l).pd) (W.keyToks (linkD n m).pd) with
  | true => rfl
  | false => exact absurd (link_inj n l m (lex_total (O := itemOrd) _ _ h2 h1)) ne
theorem sortK_rising {n : Nat} {ls : List (LinkT n)} (nd : ls.Nodup) : (sortK n ls).Pairwise (ltK n) := by
  have h1 := W.sort_pairwise (PySem.W.sortLe_total (PyProof.Rows.listOrd PyProof.Rows.itemOrd) false fun l => W.keyToks (linkD n l).pd) ls
  have h2 : (sortK n ls).Nodup := (sortK_perm n ls).nodup_iff.mpr nd
  exact (h1.and (List.nodup_iff_pairwise_ne.mp h2)).imp fun h => ltK_of_le h.1 h.2
open PyProof.Rows PySem.W in
theorem ltK_ne {n : Nat} {l m : LinkT n} (h : ltK n l m) : l ≠ m := fun e => by
  subst e
  have h : W.dataLt (linkD n l).pd (linkD n l).pd = true := h
  have h2 : W.dataLt (linkD n l).pd (linkD n l).pd = false := lex_irrefl (O := itemOrd) _
  rw [h2] at h
  cases h
theorem p_lt_link {n : Nat} (hn : n ≤ 20) {l m : LinkT n} (h : ltK n l m) : prim .lt [linkD n l, linkD n m] = some (.bl true) := by
  have e : ltOk (linkD n l) (linkD n m) = true := by
    unfold ltOk
    simp only [flat_link, alike_link, notNone_link, Bool.true_and, decide_eq_true_eq]
    have := depth_link n l
    omega
  have pe : prim .lt [linkD n l, linkD n m] = if ltOk (linkD n l) (linkD n m) then some (.bl (ltD (linkD n l) (linkD n m))) else none := by
    rw [linkD_eq, linkD_eq]
    rfl
  rw [pe, if_pos e]
  have : ltD (linkD n l) (linkD n m) = true := h
  rw [this]
theorem p_item_links (n : Nat) (ls : List (LinkT n)) (k : Nat) (h : k < ls.length) : prim .item [.tup (ls.map (linkD n)), .int k] = some (linkD n ls[k]) := by
  show L2.atI (ls.map (linkD n)) (k : Int) = _
  rw [atI_nat _ _ (by simpa using h)]
  simp [h]
theorem sp_rising_links (m : Nat) {n : Nat} (hn : n ≤ 20) {row : List (LinkT n)} (t : Sto) (hp : row.Pairwise (ltK n)) (hl : row.length ≤ 1000) : callF FF 100000 (m + 1) 2 [.tup (row.map (linkD n))] t = .ok (.bl true) t := by
  have hF : FF[2]? = some ⟨1, 2, b_rising⟩ := rfl
  rw [callF_succ, hF]
  have e0 : prim .len [.tup (row.map (linkD n))] = some (.int row.length) := p_len_links n row
  have e1 : prim .sub [.int row.length, .int 1] = some (.int ((row.length : Int) - 1)) := rfl
  have hI : evalI (callF FF 100000 m) (.rng1 (.prim .sub (.cons (.prim .len (.cons (.var 0) .nil)) (.cons (.con (.int 1)) .nil)))) { loc := [.val (.tup (row.map (linkD n))), .unb], sto := t } = .ok ((List.range (row.length - 1)).map fun k => .int (k : Nat)) { loc := [.val (.tup (row.map (linkD n))), .unb], sto := t } := by
    have sm : smallI ((row.length : Int) - 1) = true := by unfold smallI; simp; omega
    have er : rngL 0 ((row.length : Int) - 1) = (List.range (row.length - 1)).map fun k => D.int (k : Nat) := by
      unfold rngL
      have : ((row.length : Int) - 1 - 0).toNat = row.length - 1 := by omega
      rw [this]
      simp
    simp [rdVar, deref_links, e0, e1, sm, er]
  have C := comp_pure (cf := callF FF 100000 m) (elt := .prim .lt (.cons (.prim .item (.cons (.var 0) (.cons (.var 1) .nil))) (.cons (.prim .item (.cons (.var 0) (.cons (.prim .add (.cons (.var 1) (.cons (.con (.int 1)) .nil))) .nil))) .nil))) (t := .nm 1) (it := .rng1 (.prim .sub (.cons (.prim .len (.cons (.var 0) .nil)) (.cons (.con (.int 1)) .nil)))) (cs := .nil) (vs := [1]) (s := { loc := [.val (.tup (row.map (linkD n))), .unb], sto := t }) (s1 := { loc := [.val (.tup (row.map (linkD n))), .unb], sto := t })
    (xs := (List.range (row.length - 1)).map fun k => .int (k : Nat)) (fun _ => some (.bl true)) hI (fun d hd => ?_) (by simp; omega)
  · rw [filterMap_const] at C
    have al := p_all_map ((List.range (row.length - 1)).map fun k => D.int (k : Nat)) (fun _ => true)
    simp only [b_rising]
    simp [C]
    simp at al
    rw [al]
    simp
  · obtain ⟨k, hk, rfl⟩ := List.mem_map.mp hd
    rw [List.mem_range] at hk
    refine ⟨[.val (.tup (row.map (linkD n))), .val (.int k)], ?_, rfl⟩
    have a1 := p_item_links n row k (by omega)
    have a2 := p_item_links n row (k + 1) (by omega)
    have a3 : prim .add [.int (k : Nat), .int 1] = some (.int ((k + 1 : Nat) : Int)) := rfl
    have a4 := p_lt_link hn (List.pairwise_iff_getElem.mp hp k (k + 1) (by omega) (by omega) (by omega))
    simp only [turnF]
    simp [MP.assign, rdVar, MP.wipe, deref_links, deref_link, a1]
    simp at a3 a2
    simp [a3, deref_links, deref_link, a2, a4]
end K74
end
section
set_option Elab.async false
set_option linter.all false
set_option maxRecDepth 100000
set_option maxHeartbeats 4000000
/-! sizes; what a concept is -/
namespace K74
open PySem MP
def bL : (n : Nat) → LinkT n → Prop
  | 0, l => nomatch l
  | n + 1, l => PyData.strOk l.1 = true ∧ okStrs l.2.1 ∧ l.2.1.length ≤ 16 ∧ l.2.2.length ≤ 16 ∧ ∀ k ∈ l.2.2, bL n k
def bC (n : Nat) (c : Con n) : Prop := okStrs c.1 ∧ c.1.length ≤ 16 ∧ c.2.length ≤ 16 ∧ ∀ l ∈ c.2, bL n l
def gL : (n : Nat) → LinkT n → Prop
  | 0, l => nomatch l
  | n + 1, l => NameOk l.1 ∧ (∀ x ∈ l.2.1, NameOk x) ∧ l.2.1.Pairwise sLt ∧ l.2.1.length ≤ 16 ∧ l.2.2.length ≤ 16 ∧ l.2.2.Pairwise (ltK n) ∧ ∀ k ∈ l.2.2, gL n k
def gC (n : Nat) (c : Con n) : Prop := (∀ x ∈ c.1, NameOk x) ∧ c.1.Pairwise sLt ∧ c.1.length ≤ 16 ∧ c.2.length ≤ 16 ∧ c.2.Pairwise (ltK n) ∧ ∀ l ∈ c.2, gL n l
theorem gL.b : ∀ {n : Nat} {l : LinkT n}, gL n l → bL n l
  | 0, l, _ => nomatch l
  | n + 1, l, ⟨h1, h2, h3, h4, h5, h6, h7⟩ => ⟨h1.ok, fun x hx => (h2 x hx).ok, h4, h5, fun k hk => gL.b (h7 k hk)⟩
theorem gC.b {n : Nat} {c : Con n} (h : gC n c) : bC n c := ⟨fun x hx => (h.1 x hx).ok, h.2.2.1, h.2.2.2.1, fun l hl => (h.2.2.2.2.2 l hl).b⟩
theorem gL.sub {n : Nat} {l : LinkT (n + 1)} (h : gL (n + 1) l) : gC n l.2 := h.2
theorem bL.ok : ∀ {n : Nat} {l : LinkT n}, bL n l → okL n l
  | 0, l, _ => nomatch l
  | n + 1, l, ⟨h1, h2, h3, h4, h5⟩ => ⟨h1, h2, by omega, fun k hk => bL.ok (h5 k hk)⟩
theorem bC.ok {n : Nat} {c : Con n} (h : bC n c) : okC n c := ⟨h.1, by have := h.2.2.1; omega, fun l hl => (h.2.2.2 l hl).ok⟩
theorem bL.few : ∀ {n : Nat} {l : LinkT n}, bL n l → fewL n l
  | 0, l, _ => nomatch l
  | n + 1, l, ⟨h1, h2, h3, h4, h5⟩ => ⟨by omega, fun k hk => bL.few (h5 k hk)⟩
theorem bC.few {n : Nat} {c : Con n} (h : bC n c) : fewC n c := ⟨by have := h.2.1; omega, fun l hl => (h.2.2.2 l hl).few⟩
theorem bL.sm : ∀ {n : Nat} {l : LinkT n}, bL n l → smL n l
  | 0, l, _ => nomatch l
  | n + 1, l, ⟨h1, h2, h3, h4, h5⟩ => ⟨by omega, fun k hk => bL.sm (h5 k hk)⟩
theorem bC.sm {n : Nat} {c : Con n} (h : bC n c) : smC n c := ⟨by have := h.2.1; have := h.2.2.1; omega, fun l hl => (h.2.2.2 l hl).sm⟩
theorem bL.sub {n : Nat} {l : LinkT (n + 1)} (h : bL (n + 1) l) : bC n l.2 := h.2
def szL : (n : Nat) → LinkT n → Nat
  | 0, l => nomatch l
  | n + 1, l => l.2.1.length + (l.2.2.map fun k => 1 + szL n k).sum
def szC (n : Nat) (c : Con n) : Nat := c.1.length + (c.2.map fun k => 1 + szL n k).sum
def dpL : (n : Nat) → LinkT n → Nat
  | 0, l => nomatch l
  | n + 1, l => l.2.2.foldl (fun d k => max d (1 + dpL n k)) 0
def dpC (n : Nat) (c : Con n) : Nat := c.2.foldl (fun d k => max d (1 + dpL n k)) 0
theorem dp_le {n b : Nat} (h : ∀ k : LinkT n, 1 + dpL n k ≤ b) : ∀ (ls : List (LinkT n)) (d : Nat), d ≤ b → ls.foldl (fun d k => max d (1 + dpL n k)) d ≤ b
  | [], d, hd => hd
  | k :: ls, d, hd => dp_le h ls _ (by have := h k; show max d (1 + dpL n k) ≤ b; omega)
theorem dpL_le : ∀ (n : Nat) (l : LinkT n), 1 + dpL n l ≤ n
  | 0, l => nomatch l
  | n + 1, l => by
    have := dp_le (b := n) (dpL_le n) l.2.2 0 (by omega)
    show 1 + l.2.2.foldl (fun d k => max d (1 + dpL n k)) 0 ≤ n + 1
    omega
theorem dpC_le (n : Nat) (c : Con n) : dpC n c ≤ n := dp_le (dpL_le n) c.2 0 (by omega)
theorem wt_sum {n : Nat} (k : ∀ l : LinkT n, wt n l ≤ 8 + 10 * szL n l) : ∀ ls : List (LinkT n), (ls.map fun w => 2 + wt n w).sum ≤ 10 * (ls.map fun k => 1 + szL n k).sum
  | [] => by simp
  | l :: ls => by
    have h1 := k l
    have h2 := wt_sum k ls
    simp only [List.map_cons, List.sum_cons]
    omega
theorem wt_sz : ∀ (n : Nat) (l : LinkT n), wt n l ≤ 8 + 10 * szL n l
  | 0, l => nomatch l
  | n + 1, l => by
    have := wt_sum (wt_sz n) l.2.2
    show 8 + (l.2.2.map fun w => 2 + wt n w).sum ≤ 8 + 10 * (l.2.1.length + (l.2.2.map fun k => 1 + szL n k).sum)
    omega
theorem wtC_sz (n : Nat) (c : Con n) : wtC n c ≤ 8 + 10 * szC n c := by
  have := wt_sum (wt_sz n) c.2
  unfold wtC szC
  omega
/-! ### lean ones stay small -/
theorem sum_sub {n : Nat} (f : LinkT n → Nat) {a b : List (LinkT n)} (h : a.Sublist b) : (a.map f).sum ≤ (b.map f).sum := by
  induction h with
  | slnil => simp
  | cons x _ ih => simp only [List.map_cons, List.sum_cons]; omega
  | cons_cons x _ ih => simp only [List.map_cons, List.sum_cons]; omega
theorem sum_perm {n : Nat} (f : LinkT n → Nat) {a b : List (LinkT n)} (h : a.Perm b) : (a.map f).sum = (b.map f).sum := by
  induction h with
  | nil => rfl
  | cons x _ ih => simp only [List.map_cons, List.sum_cons]; omega
  | swap x y l => simp only [List.map_cons, List.sum_cons]; omega
  | trans _ _ i1 i2 => omega
theorem firsts_sum {n : Nat} (f : LinkT n → Nat) : ∀ (ls acc : List (LinkT n)), ((ls.foldl (stepD n) acc).map f).sum ≤ (acc.map f).sum + (ls.map f).sum
  | [], acc => by simp
  | x :: ls, acc => by
    have h := firsts_sum f ls (stepD n acc x)
    rw [List.foldl_cons, List.map_cons, List.sum_cons]
    have h2 : ((stepD n acc x).map f).sum ≤ (acc.map f).sum + f x := by
      unfold stepD
      split
      · omega
      · simp
    omega
theorem lean_sum {n : Nat} (f : LinkT n → Nat) (p : LinkT n → Bool) (ls : List (LinkT n)) : ((sortK n ((firsts n ls).filter p)).map f).sum ≤ (ls.map f).sum := by
  rw [sum_perm f (sortK_perm n _)]
  refine Nat.le_trans (sum_sub f List.filter_sublist) ?_
  have := firsts_sum f ls []
  simpa [firsts] using this
theorem map_le {n : Nat} (k : ∀ l : LinkT n, szL n (leanL n l) ≤ szL n l) : ∀ ls : List (LinkT n), ((ls.map (leanL n)).map fun k => 1 + szL n k).sum ≤ (ls.map fun k => 1 + szL n k).sum
  | [] => by simp
  | l :: ls => by
    have h1 := k l
    have h2 := map_le k ls
    simp only [List.map_cons, List.sum_cons]
    omega
theorem lean_szL : ∀ (n : Nat) (l : LinkT n), szL n (leanL n l) ≤ szL n l
  | 0, l => nomatch l
  | n + 1, l => by
    have h1 := map_le (lean_szL n) l.2.2
    have h2 := lean_sum (fun k => 1 + szL n k) (lone n (firsts n (l.2.2.map (leanL n)))) (l.2.2.map (leanL n))
    have e : szL (n + 1) (leanL (n + 1) l) = l.2.1.length + ((sortK n ((firsts n (l.2.2.map (leanL n))).filter (lone n (firsts n (l.2.2.map (leanL n)))))).map fun k => 1 + szL n k).sum := rfl
    have e2 : szL (n + 1) l = l.2.1.length + (l.2.2.map fun k => 1 + szL n k).sum := rfl
    omega
theorem lean_sz (n : Nat) (c : Con n) : szC n (leanN n c) ≤ szC n c := lean_szL (n + 1) ((⟨#[]⟩ : Str), c)
theorem bL.lean : ∀ {n : Nat} {l : LinkT n}, bL n l → bL n (leanL n l)
  | 0, l, _ => nomatch l
  | n + 1, l, ⟨h1, h2, h3, h4, h5⟩ => by
    have p := sortK_perm n ((firsts n (l.2.2.map (leanL n))).filter (lone n (firsts n (l.2.2.map (leanL n)))))
    refine ⟨h1, h2, h3, ?_, fun k hk => ?_⟩
    · show (sortK n _).length ≤ 16
      rw [p.length_eq]
      have e1 := List.length_filter_le (lone n (firsts n (l.2.2.map (leanL n)))) (firsts n (l.2.2.map (leanL n)))
      have e2 := firsts_len (l.2.2.map (leanL n))
      rw [List.length_map] at e2
      omega
    · have hk : k ∈ sortK n ((firsts n (l.2.2.map (leanL n))).filter (lone n (firsts n (l.2.2.map (leanL n))))) := hk
      rw [p.mem_iff, List.mem_filter, mem_firsts, List.mem_map] at hk
      obtain ⟨⟨m, hm, rfl⟩, _⟩ := hk
      exact bL.lean (h5 m hm)
theorem bC.lean {n : Nat} {c : Con n} (h : bC n c) : bC n (leanN n c) := (bL.lean (n := n + 1) (l := ((⟨#[]⟩ : Str), c)) ⟨ok1_iff.mpr fun c hc => by simp at hc, h⟩).2
end K74
end
section
set_option Elab.async false
set_option linter.all false
set_option maxRecDepth 100000
set_option maxHeartbeats 4000000
/-! measured -/
namespace K74
open PySem MP
theorem st_aug_ok {cf : CF} {wf i : Nat} {e : PE} {s s' : S} {a b : Int} (h0 : s.loc[i]? = some (.val (.int a))) (h : evalE cf e s = .ok (.int b) s') : evalS cf wf (.aug i .add e) s = .ok .nx { s' with loc := s'.loc.set i (.val (.int (a + b))) } := by
  simp only [evalS, h0, h, bind_ok]
  rfl
def eQ (n : Nat) (c : Con n) (t : Sto) (i j : Nat) (s3 s4 s5 s6 : MP.Slot) : S := { loc := [.val (conD n c), .val (.int (i : Nat)), .val (.int (j : Nat)), s3, s4, s5, s6], sto := t }
abbrev ms1 : PS := (.set (.tp [(.nm 5), (.nm 6)]) (.call 1 (.cons (.var 4) .nil)))
abbrev ms2 : PS := (.aug 1 .add (.prim .add (.cons (.con (.int 1)) (.cons (.var 5) .nil))))
abbrev ms3 : PS := (.set (.nm 2) (.prim .max2 (.cons (.var 2) (.cons (.prim .add (.cons (.con (.int 1)) (.cons (.var 6) .nil))) .nil))))
abbrev msB : PB := (.cons ms1 (.cons ms2 (.cons ms3 .nil)))
theorem p_max_nat (i j : Nat) : prim .max2 [.int (i : Nat), .int (j : Nat)] = some (.int ((max i j : Nat) : Int)) := by
  show some (D.int (if ((j : Nat) : Int) > (i : Nat) then ((j : Nat) : Int) else (i : Nat))) = _
  congr 2
  split <;> omega
theorem loop_ms (m n : Nat) {c : Con n} {t : Sto} : ∀ (ls : List (LinkT n)) (i j : Nat) (s3 s4 s5 s6 : MP.Slot), (∀ l ∈ ls, ∀ t, callF FF 100000 m 1 [subD n l] t = .ok (.tup [.int (szL n l : Nat), .int (dpL n l : Nat)]) t) →
    ∃ s3' s4' s5' s6' : MP.Slot, forLoop (fun d s => ofOpt (MP.assign (.tp [(.nm 3), (.nm 4)]) d s) fun s3 => evalSs (callF FF 100000 m) 100000 msB s3) (ls.map (linkD n)) (eQ n c t i j s3 s4 s5 s6) = .ok .nx (eQ n c t (i + (ls.map fun k => 1 + szL n k).sum) (ls.foldl (fun d k => max d (1 + dpL n k)) j) s3' s4' s5' s6')
  | [], i, j, s3, s4, s5, s6, _ => ⟨s3, s4, s5, s6, rfl⟩
  | l :: ls, i, j, s3, s4, s5, s6, ih => by
    have ec : ∀ s : S, callO (callF FF 100000 m) 1 [subD n l] s = .ok (.tup [.int (szL n l : Nat), .int (dpL n l : Nat)]) s := callv_at (ih l List.mem_cons_self)
    have as : MP.assign (.tp [(.nm 3), (.nm 4)]) (linkD n l) (eQ n c t i j s3 s4 s5 s6) = some (eQ n c t i j (.val (.str (role n l))) (.val (subD n l)) s5 s6) := by
      rw [linkD_eq]
      simp [MP.assign, assignL, eQ]
    have st1 : evalS (callF FF 100000 m) 100000 ms1 (eQ n c t i j (.val (.str (role n l))) (.val (subD n l)) s5 s6) = .ok .nx (eQ n c t i j (.val (.str (role n l))) (.val (subD n l)) (.val (.int (szL n l : Nat))) (.val (.int (dpL n l : Nat)))) := by
      have ve : evalE (callF FF 100000 m) (.call 1 (.cons (.var 4) .nil)) (eQ n c t i j (.val (.str (role n l))) (.val (subD n l)) s5 s6) = .ok (.tup [.int (szL n l : Nat), .int (dpL n l : Nat)]) (eQ n c t i j (.val (.str (role n l))) (.val (subD n l)) s5 s6) := by
        simp [eQ, rdVar, ec]
      rw [st_set, ve]
      rfl
    have a1 : prim .add [.int 1, .int (szL n l : Nat)] = some (.int ((1 + szL n l : Nat) : Nat)) := p_add_nat 1 (szL n l)
    have a2 : prim .add [.int (i : Nat), .int ((1 + szL n l : Nat) : Nat)] = some (.int ((i + (1 + szL n l) : Nat) : Nat)) := p_add_nat i (1 + szL n l)
    have a3 : prim .add [.int 1, .int (dpL n l : Nat)] = some (.int ((1 + dpL n l : Nat) : Nat)) := p_add_nat 1 (dpL n l)
    have a4 := p_max_nat j (1 + dpL n l)
    have st2 : evalS (callF FF 100000 m) 100000 ms2 (eQ n c t i j (.val (.str (role n l))) (.val (subD n l)) (.val (.int (szL n l : Nat))) (.val (.int (dpL n l : Nat)))) = .ok .nx (eQ n c t (i + (1 + szL n l)) j (.val (.str (role n l))) (.val (subD n l)) (.val (.int (szL n l : Nat))) (.val (.int (dpL n l : Nat)))) := by
      refine (st_aug_ok (a := (i : Nat)) (b := ((1 + szL n l : Nat) : Int)) (s' := eQ n c t i j (.val (.str (role n l))) (.val (subD n l)) (.val (.int (szL n l : Nat))) (.val (.int (dpL n l : Nat)))) rfl ?_).trans rfl
      generalize 1 + szL n l = x at *
      simp [eQ, rdVar, a1]
    have st3 : evalS (callF FF 100000 m) 100000 ms3 (eQ n c t (i + (1 + szL n l)) j (.val (.str (role n l))) (.val (subD n l)) (.val (.int (szL n l : Nat))) (.val (.int (dpL n l : Nat)))) = .ok .nx (eQ n c t (i + (1 + szL n l)) (max j (1 + dpL n l)) (.val (.str (role n l))) (.val (subD n l)) (.val (.int (szL n l : Nat))) (.val (.int (dpL n l : Nat)))) := by
      generalize hm : max j (1 + dpL n l) = y at *
      generalize 1 + dpL n l = x at *
      generalize i + (1 + szL n l) = z at *
      simp [eQ, rdVar, a3, a4, MP.assign]
    obtain ⟨x3, x4, x5, x6, e⟩ := loop_ms m n (c := c) (t := t) ls (i + (1 + szL n l)) (max j (1 + dpL n l)) (.val (.str (role n l))) (.val (subD n l)) (.val (.int (szL n l : Nat))) (.val (.int (dpL n l : Nat))) fun k hk => ih k (List.mem_cons_of_mem _ hk)
    refine ⟨x3, x4, x5, x6, ?_⟩
    rw [List.map_cons, forLoop]
    show (ofOpt (MP.assign (.tp [(.nm 3), (.nm 4)]) (linkD n l) (eQ n c t i j s3 s4 s5 s6)) (fun s3 => evalSs (callF FF 100000 m) 100000 msB s3)).bind _ = _
    rw [as, ofOpt_some, evalSs_one st1, seqR_nx, evalSs_one st2, seqR_nx, evalSs_one st3, seqR_nx, ss_nil']
    have es : i + (1 + szL n l + (ls.map fun k => 1 + szL n k).sum) = i + (1 + szL n l) + (ls.map fun k => 1 + szL n k).sum := by omega
    rw [List.map_cons, List.sum_cons, List.foldl_cons, es]
    exact e
theorem sp_measured_step (m n : Nat) {c : Con n} (t : Sto) (hc : bC n c) (ih : ∀ l ∈ c.2, ∀ t, callF FF 100000 m 1 [subD n l] t = .ok (.tup [.int (szL n l : Nat), .int (dpL n l : Nat)]) t) :
    callF FF 100000 (m + 1) 1 [conD n c] t = .ok (.tup [.int (szC n c : Nat), .int (dpC n c : Nat)]) t := by
  have hF : FF[1]? = some ⟨1, 7, b_measured⟩ := rfl
  have i0 := p_item_con0 n c
  have i1 := p_item_con1 n c
  have l0 : prim .len [setD c.1] = some (.int (c.1.length : Nat)) := p_len_set c.1 (by have := hc.2.1; omega)
  obtain ⟨x3, x4, x5, x6, e⟩ := loop_ms m n (c := c) (t := t) c.2 c.1.length 0 .unb .unb .unb .unb ih
  rw [callF_succ, hF]
  show (if [conD n c].length = 1 then runRes (evalSs (callF FF 100000 m) 100000 b_measured { loc := [conD n c].map .val ++ List.replicate (7 - 1) .unb, sto := t }) else .bad) = _
  rw [if_pos (show [conD n c].length = 1 from rfl)]
  have st0 : evalS (callF FF 100000 m) 100000 (.set (.nm 1) (.prim .len (.cons (.prim .item (.cons (.var 0) (.cons (.con (.int 0)) .nil))) .nil))) { loc := [conD n c].map .val ++ List.replicate (7 - 1) .unb, sto := t } = .ok .nx { loc := [.val (conD n c), .val (.int (c.1.length : Nat)), .unb, .unb, .unb, .unb, .unb], sto := t } := by
    simp [rdVar, deref_con, i0, l0, MP.assign]
  have st1 : evalS (callF FF 100000 m) 100000 (.set (.nm 2) (.con (.int 0))) { loc := [.val (conD n c), .val (.int (c.1.length : Nat)), .unb, .unb, .unb, .unb, .unb], sto := t } = .ok .nx (eQ n c t c.1.length 0 .unb .unb .unb .unb) := by
    simp [eQ, MP.assign]
  have st2 : evalS (callF FF 100000 m) 100000 (.forr (.tp [(.nm 3), (.nm 4)]) (.seq (.prim .item (.cons (.var 0) (.cons (.con (.int 1)) .nil)))) msB) (eQ n c t c.1.length 0 .unb .unb .unb .unb) = .ok .nx (eQ n c t (szC n c) (dpC n c) x3 x4 x5 x6) := by
    have it : evalI (callF FF 100000 m) (.seq (.prim .item (.cons (.var 0) (.cons (.con (.int 1)) .nil)))) (eQ n c t c.1.length 0 .unb .unb .unb .unb) = .ok (c.2.map (linkD n)) (eQ n c t c.1.length 0 .unb .unb .unb .unb) := by
      simp [eQ, rdVar, i1, deref_con, items_links]
    rw [st_forr, it]
    simp only [bind_ok]
    exact e
  unfold b_measured
  rw [evalSs_one st0, seqR_nx, evalSs_one st1, seqR_nx, evalSs_one st2, seqR_nx]
  generalize szC n c = z1
  generalize dpC n c = z2
  simp [eQ, rdVar]
theorem sp_measured : ∀ (n m : Nat) {c : Con n} (t : Sto), bC n c → callF FF 100000 (m + n + 1) 1 [conD n c] t = .ok (.tup [.int (szC n c : Nat), .int (dpC n c : Nat)]) t
  | 0, m, c, t, hc => sp_measured_step (m + 0) 0 t hc fun l => nomatch l
  | n + 1, m, c, t, hc => sp_measured_step (m + (n + 1)) (n + 1) t hc fun l hl t => sp_measured n m t (hc.2.2.2 l hl).sub
end K74
end
section
set_option Elab.async false
set_option linter.all false
set_option maxRecDepth 100000
set_option maxHeartbeats 4000000
/-! well formed; check_concept -/
namespace K74
open PySem MP
abbrev wfC : PE := (.comp (.call 0 (.cons (.var 5) .nil)) (.nm 5) (.seq (.var 1)) .nil [5])
abbrev wfO : PE := (.bop false (.cons (.nt (.prim .all (.cons wfC .nil))) (.cons (.nt (.call 2 (.cons (.var 1) .nil))) .nil)))
abbrev wf1 : PS := (.ife wfO (.cons (.ret (.con (.bl false))) .nil) .nil)
abbrev wfB : PB := (.cons (.ife (.bop false (.cons (.nt (.call 0 (.cons (.var 3) .nil))) (.cons (.nt (.call 3 (.cons (.var 4) .nil))) .nil))) (.cons (.ret (.con (.bl false))) .nil) .nil) .nil)
abbrev wf2 : PS := (.forr (.tp [(.nm 3), (.nm 4)]) (.seq (.var 2)) wfB)
def eW (n : Nat) (c : Con n) (t : Sto) (s3 s4 : MP.Slot) : S := { loc := [.val (conD n c), .val (setD c.1), .val (.tup (c.2.map (linkD n))), s3, s4, .unb], sto := t }
theorem gL_role : ∀ {n : Nat} {l : LinkT n}, gL n l → NameOk (role n l)
  | 0, l, _ => nomatch l
  | _ + 1, _, h => h.1
theorem sp_well_step (m n : Nat) (hn : n ≤ 20) {c : Con n} (t : Sto) (hc : gC n c) (ih : ∀ l ∈ c.2, ∀ t, callF FF 100000 (m + 1) 3 [subD n l] t = .ok (.bl true) t) :
    callF FF 100000 (m + 2) 3 [conD n c] t = .ok (.bl true) t := by
  have hF : FF[3]? = some ⟨1, 6, b_well_formed⟩ := rfl
  rw [callF_succ, hF]
  show (if [conD n c].length = 1 then runRes (evalSs (callF FF 100000 (m + 1)) 100000 b_well_formed { loc := [conD n c].map .val ++ List.replicate (6 - 1) .unb, sto := t }) else .bad) = _
  rw [if_pos (show [conD n c].length = 1 from rfl)]
  have st0 : evalS (callF FF 100000 (m + 1)) 100000 (.set (.tp [(.nm 1), (.nm 2)]) (.var 0)) { loc := [conD n c].map .val ++ List.replicate (6 - 1) .unb, sto := t } = .ok .nx (eW n c t .unb .unb) := by
    have ve : evalE (callF FF 100000 (m + 1)) (.var 0) { loc := [conD n c].map .val ++ List.replicate (6 - 1) .unb, sto := t } = .ok (conD n c) { loc := [conD n c].map .val ++ List.replicate (6 - 1) .unb, sto := t } := by
      simp [rdVar]
    rw [st_set, ve]
    rfl
  have C := comp_gen (cf := callF FF 100000 (m + 1)) (elt := (.call 0 (.cons (.var 5) .nil))) (t := .nm 5) (it := (.seq (.var 1))) (cs := .nil) (vs := [5]) (s := eW n c t .unb .unb) (s1 := eW n c t .unb .unb) (ys := c.1) (h := D.str)
    (fun x => [.bl true]) (by simp [eW, rdVar]) (fun x hx => by
      have ec : ∀ s : S, callO (callF FF 100000 (m + 1)) 0 [.str x] s = .ok (.bl true) s := callv_at fun t => sp_is_name m t (hc.1 x hx)
      refine ⟨[.val (conD n c), .val (setD c.1), .val (.tup (c.2.map (linkD n))), .unb, .unb, .val (.str x)], ?_, rfl⟩
      simp [turnF, MP.assign, eW, MP.wipe, rdVar, ec]) (by
      rw [flatMap_one]
      have := hc.2.2.1
      simp
      omega)
  rw [flatMap_one] at C
  have C := C.trans (show _ = Out.ok (.lst (c.1.map fun x => .bl true)) (eW n c t .unb .unb) by simp [unwipe, eW])
  have al : prim .all [.lst (c.1.map fun x => .bl true)] = some (.bl true) := by
    have al := p_all_map (c.1.map D.str) (fun _ => true)
    rw [List.map_map, all_true] at al
    exact al
  have er : callF FF 100000 (m + 1) 2 [setD c.1] (eW n c t .unb .unb).sto = .ok (.bl true) t := sp_rising m t hc.2.1 (by have := hc.2.2.1; omega)
  have st1 : evalS (callF FF 100000 (m + 1)) 100000 wf1 (eW n c t .unb .unb) = .ok .nx (eW n c t .unb .unb) := by
    refine st_skip (ev_or2 (ev_not (b := true) ?_) (ev_not (b := true) ?_))
    · rw [ev_prim, evO_cons, op_comp, C]
      simp only [bind_ok, evO_nil, List.map_cons, List.map_nil, deref_lst, al, toOut_some]
    · refine evalE_call (ds := [setD c.1]) (s1 := eW n c t .unb .unb) ?_ er
      simp [eW, rdVar]
  have IT : evalI (callF FF 100000 (m + 1)) (.seq (.var 2)) (eW n c t .unb .unb) = .ok (c.2.map (linkD n)) (eW n c t .unb .unb) := by
    simp [eW, rdVar, items_links]
  obtain ⟨s', e, s3, s4, rfl⟩ := forLoop_all (f := fun d s => ofOpt (MP.assign (.tp [(.nm 3), (.nm 4)]) d s) fun s3 => evalSs (callF FF 100000 (m + 1)) 100000 wfB s3) (linkD n) (fun _ => true) (.bl false) (fun s => ∃ s3 s4, s = eW n c t s3 s4) c.2 (eW n c t .unb .unb) ⟨_, _, rfl⟩ (fun l hl s ⟨s3, s4, hs⟩ => by
    subst hs
    refine ⟨eW n c t (.val (.str (role n l))) (.val (subD n l)), ?_, _, _, rfl⟩
    have as : MP.assign (.tp [(.nm 3), (.nm 4)]) (linkD n l) (eW n c t s3 s4) = some (eW n c t (.val (.str (role n l))) (.val (subD n l))) := by
      rw [linkD_eq]
      simp [MP.assign, assignL, eW]
    have e1 : callF FF 100000 (m + 1) 0 [.str (role n l)] (eW n c t (.val (.str (role n l))) (.val (subD n l))).sto = .ok (.bl true) t := sp_is_name m t (gL_role (hc.2.2.2.2.2 l hl))
    have e2 : callF FF 100000 (m + 1) 3 [subD n l] (eW n c t (.val (.str (role n l))) (.val (subD n l))).sto = .ok (.bl true) t := ih l hl t
    have sk : evalS (callF FF 100000 (m + 1)) 100000 (.ife (.bop false (.cons (.nt (.call 0 (.cons (.var 3) .nil))) (.cons (.nt (.call 3 (.cons (.var 4) .nil))) .nil))) (.cons (.ret (.con (.bl false))) .nil) .nil) (eW n c t (.val (.str (role n l))) (.val (subD n l))) = .ok .nx (eW n c t (.val (.str (role n l))) (.val (subD n l))) := by
      refine st_skip (ev_or2 (ev_not (b := true) ?_) (ev_not (b := true) ?_))
      · refine evalE_call (ds := [.str (role n l)]) (s1 := eW n c t (.val (.str (role n l))) (.val (subD n l))) ?_ e1
        simp [eW, rdVar]
      · refine evalE_call (ds := [subD n l]) (s1 := eW n c t (.val (.str (role n l))) (.val (subD n l))) ?_ e2
        simp [eW, rdVar]
    rw [as, ofOpt_some, evalSs_one sk, seqR_nx, ss_nil']
    rfl)
  rw [all_true, if_pos rfl] at e
  have st2 : evalS (callF FF 100000 (m + 1)) 100000 wf2 (eW n c t .unb .unb) = .ok .nx (eW n c t s3 s4) := by
    rw [st_forr, IT]
    simp only [bind_ok]
    exact e
  have e3 : callF FF 100000 (m + 1) 2 [.tup (c.2.map (linkD n))] (eW n c t s3 s4).sto = .ok (.bl true) t := sp_rising_links m hn t hc.2.2.2.2.1 (by have := hc.2.2.2.1; omega)
  have st3 : evalE (callF FF 100000 (m + 1)) (.call 2 (.cons (.var 2) .nil)) (eW n c t s3 s4) = .ok (.bl true) (eW n c t s3 s4) := by
    refine evalE_call (ds := [.tup (c.2.map (linkD n))]) (s1 := eW n c t s3 s4) ?_ e3
    simp [eW, rdVar]
  unfold b_well_formed
  rw [evalSs_one st0, seqR_nx, evalSs_one st1, seqR_nx, evalSs_one st2, seqR_nx, evalSs_one (by rw [st_ret, st3, bind_ok])]
  rfl
theorem sp_well : ∀ (n m : Nat) (hn : n ≤ 20) {c : Con n} (t : Sto), gC n c → callF FF 100000 (m + n + 2) 3 [conD n c] t = .ok (.bl true) t
  | 0, m, hn, c, t, hc => sp_well_step (m + 0) 0 hn t hc fun l => nomatch l
  | n + 1, m, hn, c, t, hc => sp_well_step (m + (n + 1)) (n + 1) hn t hc fun l hl t => sp_well n m (by omega) t (hc.2.2.2.2.2 l hl).sub
theorem sp_check (n m : Nat) (hn : n ≤ 12) {c : Con n} (t : Sto) (hc : gC n c) (hs : szC n c ≤ 200) : callF FF 100000 (m + n + 3) 4 [conD n c] t = .ok .non t := by
  have hF : FF[4]? = some ⟨1, 3, b_check_concept⟩ := rfl
  have hd := dpC_le n c
  have e1 : callF FF 100000 (m + n + 2) 1 [conD n c] t = .ok (.tup [.int (szC n c : Nat), .int (dpC n c : Nat)]) t := by
    have := sp_measured n (m + 1) t hc.b
    rw [show m + n + 2 = m + 1 + n + 1 by omega]
    exact this
  have e2 := sp_well n m (by omega) t hc
  have g1 : prim .gt [.int (szC n c : Nat), .int 200] = some (D.bl false) := by
    rw [p_gt_int, decide_eq_false (by omega)]
  have g2 : prim .gt [.int (dpC n c : Nat), .int 12] = some (D.bl false) := by
    rw [p_gt_int, decide_eq_false (by omega)]
  rw [callF_succ, hF]
  show (if [conD n c].length = 1 then runRes (evalSs (callF FF 100000 (m + n + 2)) 100000 b_check_concept { loc := [conD n c].map .val ++ List.replicate (3 - 1) .unb, sto := t }) else .bad) = _
  rw [if_pos (show [conD n c].length = 1 from rfl)]
  generalize szC n c = z1 at *
  generalize dpC n c = z2 at *
  have st0 : evalS (callF FF 100000 (m + n + 2)) 100000 (.set (.tp [(.nm 1), (.nm 2)]) (.call 1 (.cons (.var 0) .nil))) { loc := [conD n c].map .val ++ List.replicate (3 - 1) .unb, sto := t } = .ok .nx { loc := [.val (conD n c), .val (.int (z1 : Nat)), .val (.int (z2 : Nat))], sto := t } := by
    have ve : evalE (callF FF 100000 (m + n + 2)) (.call 1 (.cons (.var 0) .nil)) { loc := [conD n c].map .val ++ List.replicate (3 - 1) .unb, sto := t } = .ok (.tup [.int (z1 : Nat), .int (z2 : Nat)]) { loc := [conD n c].map .val ++ List.replicate (3 - 1) .unb, sto := t } := by
      refine evalE_call (ds := [conD n c]) (s1 := { loc := [conD n c].map .val ++ List.replicate (3 - 1) .unb, sto := t }) ?_ e1
      simp [rdVar]
    rw [st_set, ve]
    rfl
  have st2 : evalE (callF FF 100000 (m + n + 2)) (.call 3 (.cons (.var 0) .nil)) { loc := [.val (conD n c), .val (.int (z1 : Nat)), .val (.int (z2 : Nat))], sto := t } = .ok (.bl true) { loc := [.val (conD n c), .val (.int (z1 : Nat)), .val (.int (z2 : Nat))], sto := t } := by
    refine evalE_call (ds := [conD n c]) (s1 := { loc := [.val (conD n c), .val (.int (z1 : Nat)), .val (.int (z2 : Nat))], sto := t }) ?_ e2
    simp [rdVar]
  unfold b_check_concept
  rw [evalSs_one st0, seqR_nx]
  rw [evalSs_one (st_skip (ev_or2 (by simp [rdVar, g1]) (by simp [rdVar, g2]))), seqR_nx]
  rw [evalSs_one (st_skip (ev_not st2)), seqR_nx]
  simp
end K74
end
section
set_option Elab.async false
set_option linter.all false
set_option maxRecDepth 100000
set_option maxHeartbeats 4000000
set_option exponentiation.threshold 5000
/-! shares and likeness, of both -/
namespace K74
open PySem MP
def met (n : Nat) (a b : Con n) : Fr := metN n (leanN n a) (leanN n b)
def likF (x y : Fr) : Fr := low (x.1 * y.2 + y.1 * x.2) (2 * x.2 * y.2)
def like (n : Nat) (a b : Con n) : Fr := likF (met n a b) (met n b a)
/-- what can be compared -/
structure Cmp (n : Nat) (a b : Con n) : Prop where
  ga : gC n a
  gb : gC n b
  s : szC n a + szC n b ≤ 185
theorem Cmp.swap {n : Nat} {a b : Con n} (h : Cmp n a b) : Cmp n b a := ⟨h.gb, h.ga, by have := h.s; omega⟩
structure CmpM (n : Nat) (a b : Con n) : Prop where
  ga : gC n a
  gb : gC n b
  sa : szC n a ≤ 200
  sb : szC n b ≤ 185
theorem Cmp.m {n : Nat} {a b : Con n} (h : Cmp n a b) : CmpM n a b := ⟨h.ga, h.gb, by have := h.s; omega, by have := h.s; omega⟩
theorem CmpM.wb {n : Nat} {a b : Con n} (h : CmpM n a b) : wtC n (leanN n b) ≤ 8 + 10 * szC n b := Nat.le_trans (wtC_sz n _) (by have := lean_sz n b; omega)
theorem metM_ok {n : Nat} {a b : Con n} (h : CmpM n a b) : FrOk (8 + 10 * szC n b) (met n a b) := (metN_ok h.gb.b.lean.sm).mono h.wb
theorem met_ok {n : Nat} {a b : Con n} (h : Cmp n a b) : FrOk (8 + 10 * szC n b) (met n a b) := metM_ok h.m
theorem met_callM (n m : Nat) (hn : n ≤ 12) {a b : Con n} (h : CmpM n a b) (t : Sto) : callF FF 100000 (m + n + 2) 9 [conD n (leanN n a), conD n (leanN n b)] t = .ok (frD (met n a b)) t :=
  sp_met_by n m t h.ga.b.lean.ok h.gb.b.lean.ok h.gb.b.lean.sm (by have := h.wb; have := h.sb; omega)
theorem met_callP (n m : Nat) (hn : n ≤ 12) {a b : Con n} (h : Cmp n a b) (t : Sto) : callF FF 100000 (m + n + 2) 9 [conD n (leanN n a), conD n (leanN n b)] t = .ok (frD (met n a b)) t := met_callM n m hn h.m t
theorem met_callL (n m : Nat) (hn : n ≤ 12) {a b : Con n} (h : Cmp n a b) (t : Sto) : callF FF 100000 (m + n + 3) 25 [conD n (leanN n a), conD n (leanN n b)] t = .ok (frD (met n a b)) t :=
  sp_law_met n m t h.ga.b.lean.ok h.gb.b.lean.ok h.gb.b.lean.sm (by have := h.m.wb; have := h.s; omega)
theorem st_exprc {cf : CF} {wf f : Nat} {es : PL} {ds : List D} {s : S} {d : D} (h1 : evalL cf es s = .ok ds s) (h2 : cf f ds s.sto = .ok d s.sto) : evalS cf wf (.expr (.call f es)) s = .ok .nx s := by
  rw [st_expr, evalE_call h1 h2, bind_ok]
def e2 (a b : D) (t : Sto) : S := { loc := [.val a, .val b], sto := t }
theorem call2 {cf : CF} {wf f : Nat} {nl : Nat} {body : PB} (a b : D) (t : Sto) : (if [a, b].length = 2 then runRes (evalSs cf wf body { loc := [a, b].map .val ++ List.replicate nl .unb, sto := t }) else Res.bad) = runRes (evalSs cf wf body { loc := .val a :: .val b :: List.replicate nl .unb, sto := t }) := rfl
theorem sp_met_share (n m : Nat) (hn : n ≤ 12) {a b : Con n} (h : CmpM n a b) (t : Sto) : callF FF 100000 (m + n + 4) 10 [conD n a, conD n b] t = .ok (frD (met n a b)) t := by
  have hF : FF[10]? = some ⟨2, 2, b_met_share⟩ := rfl
  have c1 := sp_check n m hn t h.ga h.sa
  have c2 := sp_check n m hn t h.gb (by have := h.sb; omega)
  have l1 : callF FF 100000 (m + n + 3) 6 [conD n a] t = .ok (conD n (leanN n a)) t := by
    rw [show m + n + 3 = m + 2 + n + 1 by omega]; exact sp_leaned n (m + 2) t (by omega) h.ga.b.ok
  have l2 : callF FF 100000 (m + n + 3) 6 [conD n b] t = .ok (conD n (leanN n b)) t := by
    rw [show m + n + 3 = m + 2 + n + 1 by omega]; exact sp_leaned n (m + 2) t (by omega) h.gb.b.ok
  have m1 : callF FF 100000 (m + n + 3) 9 [conD n (leanN n a), conD n (leanN n b)] t = .ok (frD (met n a b)) t := by
    rw [show m + n + 3 = m + 1 + n + 2 by omega]; exact met_callM n (m + 1) hn h t
  rw [callF_succ, hF]
  show (if [conD n a, conD n b].length = 2 then runRes (evalSs (callF FF 100000 (m + n + 3)) 100000 b_met_share (e2 (conD n a) (conD n b) t)) else .bad) = _
  rw [if_pos (show [conD n a, conD n b].length = 2 from rfl)]
  unfold b_met_share
  rw [evalSs_one (st_exprc (ds := [conD n a]) (by simp [e2, rdVar]) c1), seqR_nx]
  rw [evalSs_one (st_exprc (ds := [conD n b]) (by simp [e2, rdVar]) c2), seqR_nx]
  have v1 : evalE (callF FF 100000 (m + n + 3)) (.call 6 (.cons (.var 0) .nil)) (e2 (conD n a) (conD n b) t) = .ok (conD n (leanN n a)) (e2 (conD n a) (conD n b) t) := evalE_call (ds := [conD n a]) (s1 := e2 (conD n a) (conD n b) t) (by simp [e2, rdVar]) l1
  have v2 : evalE (callF FF 100000 (m + n + 3)) (.call 6 (.cons (.var 1) .nil)) (e2 (conD n a) (conD n b) t) = .ok (conD n (leanN n b)) (e2 (conD n a) (conD n b) t) := evalE_call (ds := [conD n b]) (s1 := e2 (conD n a) (conD n b) t) (by simp [e2, rdVar]) l2
  have v3 := evalE_call (evalL_cons_ok v1 (evalL_cons_ok v2 (evL_nil _ _))) m1
  rw [evalSs_one (by rw [st_ret, v3, bind_ok])]
  rfl
theorem frD_mul {x y : Fr} {k : Nat} (hx : FrOk k x) (hy : FrOk k y) (hk : k ≤ 3000) : prim .mul [.int (x.1 : Nat), .int (y.2 : Nat)] = some (.int ((x.1 * y.2 : Nat) : Nat)) := by
  have h1 := hx.lt (m := k + 1) (by omega)
  have h2 := hy.lt (m := k + 1) (by omega)
  exact p_mul_nat h1.1 h2.2 (by omega) (by omega)
theorem likF_q {x y : Fr} {j k : Nat} (hx : FrOk j x) (hy : FrOk k y) : 0 < 2 * x.2 * y.2 ∧ 2 * x.2 * y.2 ≤ 2 ^ (1 + j + k) := by
  refine ⟨Nat.mul_pos (Nat.mul_pos (by omega) hx.pos) hy.pos, ?_⟩
  rw [Nat.pow_add, Nat.pow_add]
  exact Nat.mul_le_mul (Nat.mul_le_mul (by omega) hx.bd) hy.bd
abbrev lk3 (f : Nat) : PE := (.call f (.cons (.prim .add (.cons (.prim .mul (.cons (.prim .item (.cons (.var 2) (.cons (.con (.int 0)) .nil))) (.cons (.prim .item (.cons (.var 3) (.cons (.con (.int 1)) .nil))) .nil))) (.cons (.prim .mul (.cons (.prim .item (.cons (.var 3) (.cons (.con (.int 0)) .nil))) (.cons (.prim .item (.cons (.var 2) (.cons (.con (.int 1)) .nil))) .nil))) .nil))) (.cons (.prim .mul (.cons (.prim .mul (.cons (.con (.int 2)) (.cons (.prim .item (.cons (.var 2) (.cons (.con (.int 1)) .nil))) .nil))) (.cons (.prim .item (.cons (.var 3) (.cons (.con (.int 1)) .nil))) .nil))) .nil)))
theorem ev_lk3 {cf : CF} {f : Nat} {a b : D} {x y : Fr} {t : Sto} {k : Nat} (hx : FrOk k x) (hy : FrOk k y) (hk : k ≤ 1900) (e : ∀ s' : MP.S, callO cf f [.int ((x.1 * y.2 + y.1 * x.2 : Nat) : Nat), .int ((2 * x.2 * y.2 : Nat) : Nat)] s' = .ok (frD (likF x y)) s') :
    evalE cf (lk3 f) { loc := [.val a, .val b, .val (frD x), .val (frD y)], sto := t } = .ok (frD (likF x y)) { loc := [.val a, .val b, .val (frD x), .val (frD y)], sto := t } := by
  have m1 := frD_mul hx hy (by omega)
  have m2 := frD_mul hy hx (by omega)
  have xl := hx.lt (m := 1999) (by omega)
  have yl := hy.lt (m := 1999) (by omega)
  have m3 : prim .mul [.int 2, .int (x.2 : Nat)] = some (.int ((2 * x.2 : Nat) : Nat)) := p_mul_nat (i := 2) (j := x.2) (k := 1999) (by omega) xl.2 (by omega) (by omega)
  have m4 := p_mul_nat (i := 2 * x.2) (j := y.2) (k := 2000) (by omega) (by omega) (by omega) (by omega)
  have ad := p_add_nat (x.1 * y.2) (y.1 * x.2)
  have x0 := p_fr0 x
  have x1 := p_fr1 x
  have y0 := p_fr0 y
  have y1 := p_fr1 y
  generalize likF x y = r at *
  generalize hn1 : x.1 * y.2 = n1 at m1 ad e
  generalize hn2 : y.1 * x.2 = n2 at m2 ad e
  generalize hn3 : n1 + n2 = n3 at ad e
  generalize hn4 : 2 * x.2 = n4 at m3 m4 e
  generalize hn5 : n4 * y.2 = n5 at m4 e
  simp [rdVar, deref_fr, x0, x1, y0, y1, m1, m2, m3, m4, ad, e]
theorem sp_like_by (n m : Nat) (hn : n ≤ 12) {a b : Con n} (h : Cmp n a b) (t : Sto) : callF FF 100000 (m + n + 3) 11 [conD n (leanN n a), conD n (leanN n b)] t = .ok (frD (like n a b)) t := by
  have hF : FF[11]? = some ⟨2, 4, b_like_by⟩ := rfl
  have sz := h.s
  have m1 := met_callP n m hn h t
  have m2 := met_callP n m hn h.swap t
  have o1 := (met_ok h).mono (m := 1900) (by omega)
  have o2 := (met_ok h.swap).mono (m := 1900) (by omega)
  have q := likF_q o1 o2
  have q2 : 2 * (met n a b).2 * (met n b a).2 < 2 ^ 3900 := Nat.lt_of_le_of_lt q.2 (Nat.pow_lt_pow_right (by omega) (by omega))
  have e : ∀ s' : MP.S, callO (callF FF 100000 (m + n + 2)) 7 [.int (((met n a b).1 * (met n b a).2 + (met n b a).1 * (met n a b).2 : Nat) : Nat), .int ((2 * (met n a b).2 * (met n b a).2 : Nat) : Nat)] s' = .ok (frD (likF (met n a b) (met n b a))) s' := callv_at fun t => sp_lowest (m + n + 1) t q.1 q2 (by omega) (by omega)
  rw [callF_succ, hF]
  show (if [conD n (leanN n a), conD n (leanN n b)].length = 2 then runRes (evalSs (callF FF 100000 (m + n + 2)) 100000 b_like_by { loc := [.val (conD n (leanN n a)), .val (conD n (leanN n b)), .unb, .unb], sto := t }) else .bad) = _
  rw [if_pos (show [conD n (leanN n a), conD n (leanN n b)].length = 2 from rfl)]
  have st1 : evalS (callF FF 100000 (m + n + 2)) 100000 (.set (.nm 2) (.call 9 (.cons (.var 0) (.cons (.var 1) .nil)))) { loc := [.val (conD n (leanN n a)), .val (conD n (leanN n b)), .unb, .unb], sto := t } = .ok .nx { loc := [.val (conD n (leanN n a)), .val (conD n (leanN n b)), .val (frD (met n a b)), .unb], sto := t } := by
    rw [st_set, evalE_call (ds := [conD n (leanN n a), conD n (leanN n b)]) (s1 := { loc := [.val (conD n (leanN n a)), .val (conD n (leanN n b)), .unb, .unb], sto := t }) (by simp [rdVar]) m1]
    rfl
  have st2 : evalS (callF FF 100000 (m + n + 2)) 100000 (.set (.nm 3) (.call 9 (.cons (.var 1) (.cons (.var 0) .nil)))) { loc := [.val (conD n (leanN n a)), .val (conD n (leanN n b)), .val (frD (met n a b)), .unb], sto := t } = .ok .nx { loc := [.val (conD n (leanN n a)), .val (conD n (leanN n b)), .val (frD (met n a b)), .val (frD (met n b a))], sto := t } := by
    rw [st_set, evalE_call (ds := [conD n (leanN n b), conD n (leanN n a)]) (s1 := { loc := [.val (conD n (leanN n a)), .val (conD n (leanN n b)), .val (frD (met n a b)), .unb], sto := t }) (by simp [rdVar]) m2]
    rfl
  have v := ev_lk3 (a := conD n (leanN n a)) (b := conD n (leanN n b)) (t := t) o1 o2 (by omega) e
  unfold b_like_by
  rw [evalSs_one st1, seqR_nx, evalSs_one st2, seqR_nx, evalSs_one (by rw [st_ret, v, bind_ok])]
  rfl
theorem sp_likeness (n m : Nat) (hn : n ≤ 12) {a b : Con n} (h : Cmp n a b) (t : Sto) : callF FF 100000 (m + n + 4) 12 [conD n a, conD n b] t = .ok (frD (like n a b)) t := by
  have hF : FF[12]? = some ⟨2, 2, b_likeness⟩ := rfl
  have sz := h.s
  have c1 := sp_check n m hn t h.ga (by omega)
  have c2 := sp_check n m hn t h.gb (by omega)
  have l1 : callF FF 100000 (m + n + 3) 6 [conD n a] t = .ok (conD n (leanN n a)) t := by
    rw [show m + n + 3 = m + 2 + n + 1 by omega]; exact sp_leaned n (m + 2) t (by omega) h.ga.b.ok
  have l2 : callF FF 100000 (m + n + 3) 6 [conD n b] t = .ok (conD n (leanN n b)) t := by
    rw [show m + n + 3 = m + 2 + n + 1 by omega]; exact sp_leaned n (m + 2) t (by omega) h.gb.b.ok
  have m1 := sp_like_by n m hn h t
  rw [callF_succ, hF]
  show (if [conD n a, conD n b].length = 2 then runRes (evalSs (callF FF 100000 (m + n + 3)) 100000 b_likeness (e2 (conD n a) (conD n b) t)) else .bad) = _
  rw [if_pos (show [conD n a, conD n b].length = 2 from rfl)]
  unfold b_likeness
  rw [evalSs_one (st_exprc (ds := [conD n a]) (by simp [e2, rdVar]) c1), seqR_nx]
  rw [evalSs_one (st_exprc (ds := [conD n b]) (by simp [e2, rdVar]) c2), seqR_nx]
  have v1 : evalE (callF FF 100000 (m + n + 3)) (.call 6 (.cons (.var 0) .nil)) (e2 (conD n a) (conD n b) t) = .ok (conD n (leanN n a)) (e2 (conD n a) (conD n b) t) := evalE_call (ds := [conD n a]) (s1 := e2 (conD n a) (conD n b) t) (by simp [e2, rdVar]) l1
  have v2 : evalE (callF FF 100000 (m + n + 3)) (.call 6 (.cons (.var 1) .nil)) (e2 (conD n a) (conD n b) t) = .ok (conD n (leanN n b)) (e2 (conD n a) (conD n b) t) := evalE_call (ds := [conD n b]) (s1 := e2 (conD n a) (conD n b) t) (by simp [e2, rdVar]) l2
  have v3 := evalE_call (evalL_cons_ok v1 (evalL_cons_ok v2 (evL_nil _ _))) m1
  rw [evalSs_one (by rw [st_ret, v3, bind_ok])]
  rfl
/-- the law's: met of lean ones -/
theorem ev_law_met (n m : Nat) (hn : n ≤ 12) {a b : Con n} (h : Cmp n a b) {i j : Nat} {s : S} (hi : evalE (callF FF 100000 (m + n + 3)) (.var i) s = .ok (conD n a) s) (hj : evalE (callF FF 100000 (m + n + 3)) (.var j) s = .ok (conD n b) s) :
    evalE (callF FF 100000 (m + n + 3)) (.call 25 (.cons (.call 20 (.cons (.var i) .nil)) (.cons (.call 20 (.cons (.var j) .nil)) .nil))) s = .ok (frD (met n a b)) s := by
  have l1 : callF FF 100000 (m + n + 3) 20 [conD n a] s.sto = .ok (conD n (leanN n a)) s.sto := by
    rw [show m + n + 3 = m + 2 + n + 1 by omega]; exact sp_law_lean n (m + 2) s.sto (by omega) h.ga.b.ok h.ga.b.few
  have l2 : callF FF 100000 (m + n + 3) 20 [conD n b] s.sto = .ok (conD n (leanN n b)) s.sto := by
    rw [show m + n + 3 = m + 2 + n + 1 by omega]; exact sp_law_lean n (m + 2) s.sto (by omega) h.gb.b.ok h.gb.b.few
  have m1 := met_callL n m hn h s.sto
  have v1 := evalE_call (evalL_cons_ok hi (evL_nil _ _)) l1
  have v2 := evalE_call (evalL_cons_ok hj (evL_nil _ _)) l2
  exact evalE_call (evalL_cons_ok v1 (evalL_cons_ok v2 (evL_nil _ _))) m1
theorem sp_law_like (n m : Nat) (hn : n ≤ 12) {a b : Con n} (h : Cmp n a b) (t : Sto) : callF FF 100000 (m + n + 4) 26 [conD n a, conD n b] t = .ok (frD (like n a b)) t := by
  have hF : FF[26]? = some ⟨2, 4, b_law_like⟩ := rfl
  have sz := h.s
  have o1 := met_ok h
  have o2 := met_ok h.swap
  have q := likF_q o1 o2
  have q2 : 2 * (met n a b).2 * (met n b a).2 < 2 ^ 1999 := Nat.lt_of_le_of_lt q.2 (Nat.pow_lt_pow_right (by omega) (by omega))
  have e : ∀ s' : MP.S, callO (callF FF 100000 (m + n + 3)) 24 [.int (((met n a b).1 * (met n b a).2 + (met n b a).1 * (met n a b).2 : Nat) : Nat), .int ((2 * (met n a b).2 * (met n b a).2 : Nat) : Nat)] s' = .ok (frD (likF (met n a b) (met n b a))) s' := callv_at fun t => sp_law_low (m + n + 1) t q.1 q2
  rw [callF_succ, hF]
  show (if [conD n a, conD n b].length = 2 then runRes (evalSs (callF FF 100000 (m + n + 3)) 100000 b_law_like { loc := [.val (conD n a), .val (conD n b), .unb, .unb], sto := t }) else .bad) = _
  rw [if_pos (show [conD n a, conD n b].length = 2 from rfl)]
  have v1 := ev_law_met n m hn h (i := 0) (j := 1) (s := { loc := [.val (conD n a), .val (conD n b), .unb, .unb], sto := t }) (by simp [rdVar]) (by simp [rdVar])
  have v2 := ev_law_met n m hn h.swap (i := 1) (j := 0) (s := { loc := [.val (conD n a), .val (conD n b), .val (frD (met n a b)), .unb], sto := t }) (by simp [rdVar]) (by simp [rdVar])
  have st1 : evalS (callF FF 100000 (m + n + 3)) 100000 (.set (.nm 2) (.call 25 (.cons (.call 20 (.cons (.var 0) .nil)) (.cons (.call 20 (.cons (.var 1) .nil)) .nil)))) { loc := [.val (conD n a), .val (conD n b), .unb, .unb], sto := t } = .ok .nx { loc := [.val (conD n a), .val (conD n b), .val (frD (met n a b)), .unb], sto := t } := by
    rw [st_set, v1]
    rfl
  have st2 : evalS (callF FF 100000 (m + n + 3)) 100000 (.set (.nm 3) (.call 25 (.cons (.call 20 (.cons (.var 1) .nil)) (.cons (.call 20 (.cons (.var 0) .nil)) .nil)))) { loc := [.val (conD n a), .val (conD n b), .val (frD (met n a b)), .unb], sto := t } = .ok .nx { loc := [.val (conD n a), .val (conD n b), .val (frD (met n a b)), .val (frD (met n b a))], sto := t } := by
    rw [st_set, v2]
    rfl
  have v := ev_lk3 (a := conD n a) (b := conD n b) (t := t) (o1.mono (m := 1900) (by omega)) (o2.mono (m := 1900) (by omega)) (by omega) e
  unfold b_law_like
  rw [evalSs_one st1, seqR_nx, evalSs_one st2, seqR_nx, evalSs_one (by rw [st_ret, v, bind_ok])]
  rfl
theorem told_k (m : Nat) {k : Int} {f : Nat} (a b : D) (t : Sto) (h2 : prim .item [.lst [.fn 10, .fn 12], .int k] = some (.fn f)) :
    callF FF 100000 (m + 1) 27 [.int k, a, b] t = toldR (callF FF 100000 m f [a, b] t) := by
  have hF : FF[27]? = some ⟨3, 4, b_law_told⟩ := rfl
  rw [callF_succ, hF]
  show (if [D.int k, a, b].length = 3 then runRes (evalSs (callF FF 100000 m) 100000 b_law_told { loc := [.val (.int k), .val a, .val b, .unb], sto := t }) else .bad) = _
  rw [if_pos (show [D.int k, a, b].length = 3 from rfl)]
  unfold b_law_told
  rw [ss_cons', st_try]
  cases hc : callF FF 100000 m f [a, b] t with
  | ok d t' =>
    have e : callO (callF FF 100000 m) f [a, b] { loc := [.val (.int k), .val a, .val b, .unb], sto := t } = .ok d { loc := [.val (.int k), .val a, .val b, .unb], sto := t' } := call_ok hc
    simp [rdVar, h2, e, toldR, tryR]
  | exc c t' =>
    have e : callO (callF FF 100000 m) f [a, b] { loc := [.val (.int k), .val a, .val b, .unb], sto := t } = .exc c t' := by
      unfold callO; rw [hc]
    simp [rdVar, h2, e, toldR, tryR]
    by_cases hh : c < 5 <;> simp [hh]
    rfl
  | bad =>
    have e : callO (callF FF 100000 m) f [a, b] { loc := [.val (.int k), .val a, .val b, .unb], sto := t } = .bad := by
      unfold callO; rw [hc]
    simp [rdVar, h2, e, toldR, tryR]
    rfl
theorem told_0 (m : Nat) (a b : D) (t : Sto) : callF FF 100000 (m + 1) 27 [.int 0, a, b] t = toldR (callF FF 100000 m 10 [a, b] t) := told_k m a b t rfl
theorem told_1 (m : Nat) (a b : D) (t : Sto) : callF FF 100000 (m + 1) 27 [.int 1, a, b] t = toldR (callF FF 100000 m 12 [a, b] t) := told_k m a b t rfl
end K74
end
section
set_option Elab.async false
set_option linter.all false
set_option maxRecDepth 100000
set_option maxHeartbeats 4000000
/-! together -/
namespace K74
open PySem MP
def tog (n : Nat) (a b : Con n) : Con n := (sortT (a.1 ++ b.1), sortK n (firsts n (a.2 ++ b.2)))
def eT (n : Nat) (a b : Con n) (t : Sto) (acc : List (LinkT n)) (s3 : MP.Slot) : S := { loc := [.val (conD n a), .val (conD n b), .own (acc.map (linkD n)), s3], sto := t }
theorem strsOf_set (l : Row) : strsOf (l.map D.str) = some l := by
  induction l with
  | nil => rfl
  | cons x l ih =>
    show ((strsOf (l.map D.str)).map (x :: ·)) = _
    rw [ih]
    rfl
theorem p_add_tups (a b : List D) (h : a.length + b.length ≤ 16777216) : prim .add [.tup a, .tup b] = some (.tup (a ++ b)) := by
  show (if a.length + b.length ≤ 16777216 then some (D.tup (a ++ b)) else none) = _
  rw [if_pos h]
theorem p_sortSet (l : Row) (h : l.length ≤ 1000) : prim .sortedSet [setD l] = some (.lst ((sortT l).map .str)) := by
  show p_sortedSet [.tup (l.map D.str)] = _
  unfold p_sortedSet
  simp only [strsOf_set]
  rw [if_pos h]
abbrev tgB : PB := (.cons (.ife (.prim .notIn (.cons (.var 3) (.cons (.peek 2) .nil))) (.cons (.app 2 (.var 3)) .nil) .nil) .nil)
theorem turn_tg (M n : Nat) {a b : Con n} {t : Sto} (hn : n ≤ 20) (acc : List (LinkT n)) (hacc : ∀ k ∈ acc, okL n k) (hl : acc.length < 1000000) (l : LinkT n) (ol : okL n l) (s3 : MP.Slot) :
    ofOpt (MP.assign (.nm 3) (linkD n l) (eT n a b t acc s3)) (fun s3 => evalSs (callF FF 100000 M) 100000 tgB s3) = .ok .nx (eT n a b t (stepD n acc l) (.val (linkD n l))) := by
  have as : MP.assign (.nm 3) (linkD n l) (eT n a b t acc s3) = some (eT n a b t acc (.val (linkD n l))) := by
    simp [MP.assign, eT]
  have pn := p_notIn_links ol hacc hn
  have cd : evalE (callF FF 100000 M) (.prim .notIn (.cons (.var 3) (.cons (.peek 2) .nil))) (eT n a b t acc (.val (linkD n l))) = .ok (.bl (!decide (l ∈ acc))) (eT n a b t acc (.val (linkD n l))) := by
    simp [eT, rdVar, rdPeek, deref_link, pn]
  rw [as, ofOpt_some, ss_cons', st_if, cd]
  simp only [bind_ok]
  by_cases hh : l ∈ acc
  · rw [decide_eq_true hh]
    simp [eT, stepD, hh]
  · rw [decide_eq_false hh]
    have ap := st_app_ok (cf := callF FF 100000 M) (wf := 100000) (i := 2) (e := .var 3) (s := eT n a b t acc (.val (linkD n l))) (s' := eT n a b t acc (.val (linkD n l))) (ys := acc.map (linkD n)) (xs := acc.map (linkD n)) (d := linkD n l) (by simp [eT]) (by simp [eT, rdVar]) (by simp [eT]) (by simpa using hl)
    simp only [Bool.not_false, ifR_t]
    rw [evalSs_one ap, seqR_nx, ss_nil']
    simp [eT, stepD, hh]
theorem loop_tg (M n : Nat) {a b : Con n} {t : Sto} (hn : n ≤ 20) : ∀ (ls acc : List (LinkT n)) (s3 : MP.Slot), (∀ l ∈ ls, okL n l) → (∀ k ∈ acc, okL n k) → acc.length + ls.length ≤ 1000 →
    ∃ s3', forLoop (fun d s => ofOpt (MP.assign (.nm 3) d s) fun s3 => evalSs (callF FF 100000 M) 100000 tgB s3) (ls.map (linkD n)) (eT n a b t acc s3) = .ok .nx (eT n a b t (ls.foldl (stepD n) acc) s3')
  | [], acc, s3, _, _, _ => ⟨s3, rfl⟩
  | l :: ls, acc, s3, ho, ha, hl => by
    rw [List.length_cons] at hl
    have ol := ho l List.mem_cons_self
    have T := turn_tg M n (a := a) (b := b) (t := t) hn acc ha (by omega) l ol s3
    obtain ⟨s3', e⟩ := loop_tg M n (a := a) (b := b) (t := t) hn ls (stepD n acc l) (.val (linkD n l)) (fun k hk => ho k (List.mem_cons_of_mem _ hk)) (fun k hk => by
      unfold stepD at hk
      split at hk
      · exact ha k hk
      · rcases List.mem_append.mp hk with hk | hk
        · exact ha k hk
        · rw [List.mem_singleton.mp hk]; exact ol) (by
      have : (stepD n acc l).length ≤ acc.length + 1 := by
        unfold stepD
        split
        · omega
        · simp
      omega)
    refine ⟨s3', ?_⟩
    rw [List.map_cons, forLoop]
    show (ofOpt (MP.assign (.nm 3) (linkD n l) (eT n a b t acc s3)) (fun s3 => evalSs (callF FF 100000 M) 100000 tgB s3)).bind _ = _
    rw [T]
    exact e
abbrev tg2 : PS := (.forr (.nm 3) (.seq (.prim .add (.cons (.prim .item (.cons (.var 0) (.cons (.con (.int 1)) .nil))) (.cons (.prim .item (.cons (.var 1) (.cons (.con (.int 1)) .nil))) .nil)))) tgB)
theorem sp_together (n m : Nat) (hn : n ≤ 20) {a b : Con n} (ha : bC n a) (hb : bC n b) (t : Sto) : callF FF 100000 (m + 1) 22 [conD n a, conD n b] t = .ok (conD n (tog n a b)) t := by
  have hF : FF[22]? = some ⟨2, 4, b_law_together⟩ := rfl
  have ao := ha.ok
  have bo := hb.ok
  have i0a := p_item_con0 n a
  have i1a := p_item_con1 n a
  have i0b := p_item_con0 n b
  have i1b := p_item_con1 n b
  have q1 := ha.2.1
  have q2 := ha.2.2.1
  have q3 := hb.2.1
  have q4 := hb.2.2.1
  obtain ⟨s3', e⟩ := loop_tg m n (a := a) (b := b) (t := t) hn (a.2 ++ b.2) [] .unb (fun l hl => (List.mem_append.mp hl).elim (ao.2.2 l) (bo.2.2 l)) (fun k hk => nomatch hk) (by simp; omega)
  rw [callF_succ, hF]
  show (if [conD n a, conD n b].length = 2 then runRes (evalSs (callF FF 100000 m) 100000 b_law_together { loc := [.val (conD n a), .val (conD n b), .unb, .unb], sto := t }) else .bad) = _
  rw [if_pos (show [conD n a, conD n b].length = 2 from rfl)]
  have st1 : evalS (callF FF 100000 m) 100000 (.own 2 (.lst .nil)) { loc := [.val (conD n a), .val (conD n b), .unb, .unb], sto := t } = .ok .nx (eT n a b t [] .unb) := st_own_ok (s' := { loc := [.val (conD n a), .val (conD n b), .unb, .unb], sto := t }) (by simp) (by simp)
  have ad : prim .add [.tup (a.2.map (linkD n)), .tup (b.2.map (linkD n))] = some (.tup ((a.2 ++ b.2).map (linkD n))) := by
    rw [p_add_tups _ _ (by simp; omega), List.map_append]
  have st2 : evalS (callF FF 100000 m) 100000 tg2 (eT n a b t [] .unb) = .ok .nx (eT n a b t (firsts n (a.2 ++ b.2)) s3') := by
    have it : evalI (callF FF 100000 m) (.seq (.prim .add (.cons (.prim .item (.cons (.var 0) (.cons (.con (.int 1)) .nil))) (.cons (.prim .item (.cons (.var 1) (.cons (.con (.int 1)) .nil))) .nil)))) (eT n a b t [] .unb) = .ok ((a.2 ++ b.2).map (linkD n)) (eT n a b t [] .unb) := by
      generalize a.2 ++ b.2 = ls at *
      simp [eT, rdVar, i1a, i1b, deref_con, deref_links, ad, items_links]
    rw [st_forr, it]
    simp only [bind_ok]
    exact e
  have fl := firsts_len (a.2 ++ b.2)
  rw [List.length_append] at fl
  generalize hfs : firsts n (a.2 ++ b.2) = fs at *
  have so := p_sorted_links hn fs (by omega)
  have an : prim .add [setD a.1, setD b.1] = some (setD (a.1 ++ b.1)) := by
    show prim .add [.tup (a.1.map D.str), .tup (b.1.map D.str)] = _
    rw [p_add_tups _ _ (by simp; omega), ← List.map_append]
    rfl
  have ss := p_sortSet (a.1 ++ b.1) (by simp; omega)
  have d1 : deref t (.tup (a.1.map D.str)) = .tup (a.1.map D.str) := rfl
  have e1 : conD n (tog n a b) = .tup [.tup ((sortT (a.1 ++ b.1)).map .str), .tup ((sortK n fs).map (linkD n))] := by
    unfold tog
    rw [hfs]
    rfl
  have t1 := p_tuple_lst ((sortT (a.1 ++ b.1)).map .str)
  have t2 := p_tuple_lst ((sortK n fs).map (linkD n))
  rw [e1]
  unfold b_law_together
  rw [evalSs_one st1, seqR_nx, evalSs_one st2, seqR_nx]
  have v1 : evalE (callF FF 100000 m) (.prim .tuple (.cons (.prim .sortedSet (.cons (.prim .add (.cons (.prim .item (.cons (.var 0) (.cons (.con (.int 0)) .nil))) (.cons (.prim .item (.cons (.var 1) (.cons (.con (.int 0)) .nil))) .nil))) .nil)) .nil)) (eT n a b t fs s3') = .ok (.tup ((sortT (a.1 ++ b.1)).map .str)) (eT n a b t fs s3') := by
    generalize (sortT (a.1 ++ b.1)).map D.str = xs at *
    generalize a.1 ++ b.1 = ns at *
    simp [eT, rdVar, i0a, i0b, deref_con, an, ss, t1]
  have v2 : evalE (callF FF 100000 m) (.prim .tuple (.cons (.prim .sorted (.cons (.peek 2) .nil)) .nil)) (eT n a b t fs s3') = .ok (.tup ((sortK n fs).map (linkD n))) (eT n a b t fs s3') := by
    generalize (sortK n fs).map (linkD n) = xs at *
    simp [eT, rdPeek, so, t2]
  have v3 := evalL_cons_ok v1 (evalL_cons_ok v2 (evL_nil _ _))
  have v4 := (st_ret (callF FF 100000 m) 100000 (.tup (.cons (.prim .tuple (.cons (.prim .sortedSet (.cons (.prim .add (.cons (.prim .item (.cons (.var 0) (.cons (.con (.int 0)) .nil))) (.cons (.prim .item (.cons (.var 1) (.cons (.con (.int 0)) .nil))) .nil))) .nil)) .nil)) (.cons (.prim .tuple (.cons (.prim .sorted (.cons (.peek 2) .nil)) .nil)) .nil))) (eT n a b t fs s3')).trans (show _ = Out.ok (.ret (.tup [.tup ((sortT (a.1 ++ b.1)).map .str), .tup ((sortK n fs).map (linkD n))])) (eT n a b t fs s3') by rw [ev_tup, v3]; rfl)
  rw [evalSs_one v4]
  rfl
end K74
end
section
set_option Elab.async false
set_option linter.all false
set_option maxRecDepth 100000
set_option maxHeartbeats 4000000
/-! drawn concepts -/
namespace K74
open PySem MP
def sS : Nat → Nat
  | 0 => 4
  | d + 1 => 4 + 2 * (1 + sS d)
def cT : Nat → Int
  | 0 => 4
  | d + 1 => 5 + 2 * (1 + cT d)
theorem cT_nn : ∀ d, 0 ≤ cT d
  | 0 => by simp [cT]
  | d + 1 => by have := cT_nn d; simp only [cT]; omega
structure Drawn (names : Row) (d n : Nat) (x : Con n) : Prop where
  sub : x.1.Sublist names
  two : x.2.length ≤ 2
  g : gC n x
  sz : szC n x ≤ sS d
def wD (names roles : Row) : D := .tup [setD names, setD roles]
theorem p_w0 (names roles : Row) : prim .item [wD names roles, .int 0] = some (setD names) := rfl
theorem p_w1 (names roles : Row) : prim .item [wD names roles, .int 1] = some (setD roles) := rfl
theorem deref_w (t : Sto) (names roles : Row) : deref t (wD names roles) = wD names roles := rfl
def eK (n : Nat) (names roles : Row) (d : Int) (t : Sto) (l : Row) (acc : List (LinkT n)) (s6 s8 s9 : MP.Slot) : S := { loc := [.val (.ref 0), .val (wD names roles), .val (.int d), .val (.int 2), .val (.lst (l.map .str)), .own (acc.map (linkD n)), s6, .unb, s8, s9], sto := t }
abbrev kcC : PE := (.comp (.var 7) (.nm 7) (.seq (.prim .item (.cons (.var 1) (.cons (.con (.int 0)) .nil)))) (.cons (.prim .eq (.cons (.call 15 (.cons (.var 0) (.cons (.con (.int 3)) .nil))) (.cons (.con (.int 0)) .nil))) .nil) [7])
abbrev kc1 : PS := (.set (.nm 8) (.prim .item (.cons (.prim .item (.cons (.var 1) (.cons (.con (.int 1)) .nil))) (.cons (.call 15 (.cons (.var 0) (.cons (.prim .len (.cons (.prim .item (.cons (.var 1) (.cons (.con (.int 1)) .nil))) .nil)) .nil))) .nil))))
abbrev kc2 : PS := (.set (.nm 9) (.tup (.cons (.var 8) (.cons (.call 18 (.cons (.var 0) (.cons (.var 1) (.cons (.prim .sub (.cons (.var 2) (.cons (.con (.int 1)) .nil))) (.cons (.var 3) .nil))))) .nil))))
abbrev kc3 : PS := (.ife (.prim .notIn (.cons (.var 9) (.cons (.peek 5) .nil))) (.cons (.app 5 (.var 9)) .nil) .nil)
abbrev kcB : PB := (.cons kc1 (.cons kc2 (.cons kc3 .nil)))
theorem st_names (m : Nat) {names roles : Row} {nums : List Int} {c : Int} (d : Int) (h : NumsOk nums) (hn : names.length ≤ 12) (hc : 0 ≤ c ∧ c ≤ 900000000) :
    ∃ l : Row, l.Sublist names ∧ evalS (callF FF 100000 (m + 1)) 100000 (.set (.nm 4) kcC) { loc := [.val (.ref 0), .val (wD names roles), .val (.int d), .val (.int 2), .unb, .unb, .unb, .unb, .unb, .unb], sto := St nums c } = .ok .nx { loc := [.val (.ref 0), .val (wD names roles), .val (.int d), .val (.int 2), .val (.lst (l.map .str)), .unb, .unb, .unb, .unb, .unb], sto := St nums (c + names.length) } := by
  have K0 : ∃ l : Row, ([] : List D) = l.map D.str ∧ l.Sublist [] ∧ St nums c = St nums (c + ([] : Row).length) := ⟨[], rfl, List.Sublist.refl _, by simp⟩
  have w0 := p_w0 names roles
  have C := comp_run (cf := callF FF 100000 (m + 1)) (elt := .var 7) (t := .nm 7) (it := .seq (.prim .item (.cons (.var 1) (.cons (.con (.int 0)) .nil)))) (cs := .cons (.prim .eq (.cons (.call 15 (.cons (.var 0) (.cons (.con (.int 3)) .nil))) (.cons (.con (.int 0)) .nil))) .nil) (vs := [7])
    (s := { loc := [.val (.ref 0), .val (wD names roles), .val (.int d), .val (.int 2), .unb, .unb, .unb, .unb, .unb, .unb], sto := St nums c }) (s1 := { loc := [.val (.ref 0), .val (wD names roles), .val (.int d), .val (.int 2), .unb, .unb, .unb, .unb, .unb, .unb], sto := St nums c }) (ys := names) (h := D.str)
    (fun p a t' => ∃ l : Row, a = l.map D.str ∧ l.Sublist p ∧ t' = St nums (c + p.length)) (by simp [rdVar, deref_w, w0]) K0
    (fun p y a t' hy hp ⟨l, ea, hl, et⟩ => by
      obtain ⟨v, v0, v1, ev⟩ := sp_next m (c := c + p.length) (many := 3) h (by omega) (by omega)
      subst et
      have e1 : ∀ s : S, s.sto = St nums (c + p.length) → callO (callF FF 100000 (m + 1)) 15 [.ref 0, .int 3] s = .ok (.int v) { s with sto := St nums (c + p.length + 1) } := fun s hs => call_to hs ev
      have lt : prim .eq [.int v, .int 0] = some (.bl (decide (v = 0))) := p_eq_int _ _
      refine ⟨if v = 0 then [.str y] else [], [.val (.ref 0), .val (wD names roles), .val (.int d), .val (.int 2), .unb, .unb, .unb, .val (.str y), .unb, .unb], St nums (c + p.length + 1), ?_, rfl, ?_⟩
      · generalize wD names roles = w at *
        by_cases hv : v = 0
        · rw [decide_eq_true hv] at lt
          rw [if_pos hv]
          simp [turnF, MP.assign, MP.wipe, rdVar, e1, lt]
        · rw [decide_eq_false hv] at lt
          rw [if_neg hv]
          simp [turnF, MP.assign, MP.wipe, rdVar, e1, lt]
      · have et : St nums (c + p.length + 1) = St nums (c + (p ++ [y]).length) := by
          congr 1; simp; omega
        by_cases hv : v = 0
        · exact ⟨l ++ [y], by simp [ea, hv], hl.append (List.Sublist.refl _), et⟩
        · exact ⟨l, by simp [ea, hv], hl.trans (List.sublist_append_left _ _), et⟩)
    (fun a t' ⟨l, ea, hl, _⟩ => by rw [ea, List.length_map]; have := hl.length_le; omega)
  obtain ⟨a, t', e, l, ea, hl, et⟩ := C
  subst et ea
  refine ⟨l, hl, ?_⟩
  rw [st_set, e]
  rfl
theorem subNames {names l : Row} (g : Names names) (h : l.Sublist names) : (∀ x ∈ l, NameOk x) ∧ l.Pairwise sLt ∧ l.length ≤ names.length := ⟨fun x hx => g.nm x (h.subset hx), g.srt.sublist h, h.length_le⟩
end K74
end
section
set_option Elab.async false
set_option linter.all false
set_option maxRecDepth 100000
set_option maxHeartbeats 4000000
namespace K74
open PySem MP
def mkL (n : Nat) (r : Str) (x : Con n) : LinkT (n + 1) := (r, x)
theorem evalE_call_to {cf : CF} {f : Nat} {es : PL} {ds : List D} {loc : List MP.Slot} {t t' : Sto} {s1 : S} {d : D} (h1 : evalL cf es { loc := loc, sto := t } = .ok ds s1) (h2 : cf f ds s1.sto = .ok d t') : evalE cf (.call f es) { loc := loc, sto := t } = .ok d { s1 with sto := t' } := evalE_call h1 h2
theorem turn_kc (M d n : Nat) {names roles : Row} {nums : List Int} {c : Int} (h : NumsOk nums) (hr : Names roles) (hr0 : 0 < roles.length) (hc : 0 ≤ c ∧ c ≤ 900000000) (hn : n + 1 ≤ 20) (l : Row) (acc : List (LinkT (n + 1))) (hacc : ∀ k ∈ acc, okL (n + 1) k) (hl : acc.length < 1000) (s6 s8 s9 : MP.Slot) (k : Nat)
    (ih : ∃ (x : Con n) (c' : Int), Drawn names d n x ∧ (c + 1 ≤ c' ∧ c' ≤ c + 1 + cT d) ∧ callF FF 100000 (M + 1) 18 [.ref 0, wD names roles, .int (d : Nat), .int 2] (St nums (c + 1)) = .ok (conD n x) (St nums c')) :
    ∃ (r : Str) (x : Con n) (c' : Int), NameOk r ∧ Drawn names d n x ∧ (c ≤ c' ∧ c' ≤ c + (1 + cT d)) ∧
      ofOpt (MP.assign (.nm 6) (.int (k : Nat)) (eK (n + 1) names roles ((d + 1 : Nat) : Int) (St nums c) l acc s6 s8 s9)) (fun s3 => evalSs (callF FF 100000 (M + 1)) 100000 kcB s3) = .ok .nx (eK (n + 1) names roles ((d + 1 : Nat) : Int) (St nums c') l (stepD (n + 1) acc (mkL n r x)) (.val (.int (k : Nat))) (.val (.str r)) (.val (linkD (n + 1) (mkL n r x)))) := by
  obtain ⟨x, c', hx, hc', ex⟩ := ih
  have hr12 := hr.nl
  obtain ⟨v, v0, v1, ev⟩ := sp_next M (c := c) (many := (roles.length : Nat)) h (by omega) (by omega)
  obtain ⟨j, rfl⟩ : ∃ j : Nat, v = j := ⟨v.toNat, by omega⟩
  have hj : j < roles.length := by omega
  have it := p_item_set roles j hj
  have nr := hr.nm roles[j] (List.getElem_mem hj)
  refine ⟨roles[j], x, c', nr, hx, ⟨by omega, by omega⟩, ?_⟩
  generalize roles[j] = r at *
  have w1 := p_w1 names roles
  have ln : prim .len [setD roles] = some (.int (roles.length : Nat)) := p_len_set roles (by omega)
  have as : MP.assign (.nm 6) (.int (k : Nat)) (eK (n + 1) names roles ((d + 1 : Nat) : Int) (St nums c) l acc s6 s8 s9) = some (eK (n + 1) names roles ((d + 1 : Nat) : Int) (St nums c) l acc (.val (.int (k : Nat))) s8 s9) := by
    simp [MP.assign, eK]
  have st1 : evalS (callF FF 100000 (M + 1)) 100000 kc1 (eK (n + 1) names roles ((d + 1 : Nat) : Int) (St nums c) l acc (.val (.int (k : Nat))) s8 s9) = .ok .nx (eK (n + 1) names roles ((d + 1 : Nat) : Int) (St nums (c + 1)) l acc (.val (.int (k : Nat))) (.val (.str r)) s9) := by
    have e1 : ∀ s : S, s.sto = St nums c → callO (callF FF 100000 (M + 1)) 15 [.ref 0, .int (roles.length : Nat)] s = .ok (.int (j : Nat)) { s with sto := St nums (c + 1) } := fun s hs => call_to hs ev
    have dw := deref_w (St nums c) names roles
    have ds : ∀ t, deref t (setD roles) = setD roles := fun _ => rfl
    unfold eK
    generalize hd : ((d + 1 : Nat) : Int) = dd
    generalize wD names roles = w at *
    generalize setD roles = rs at *
    generalize hrl : (roles.length : Int) = rl at *
    simp [rdVar, dw, ds, w1, ln, e1, it, MP.assign]
  have st2 : evalS (callF FF 100000 (M + 1)) 100000 kc2 (eK (n + 1) names roles ((d + 1 : Nat) : Int) (St nums (c + 1)) l acc (.val (.int (k : Nat))) (.val (.str r)) s9) = .ok .nx (eK (n + 1) names roles ((d + 1 : Nat) : Int) (St nums c') l acc (.val (.int (k : Nat))) (.val (.str r)) (.val (linkD (n + 1) (mkL n r x)))) := by
    have sb : prim .sub [.int ((d + 1 : Nat) : Int), .int 1] = some (.int (d : Nat)) := by
      show some (D.int (((d + 1 : Nat) : Int) - 1)) = _
      congr 2
      omega
    have e2 : ∀ s : S, s.sto = St nums (c + 1) → callO (callF FF 100000 (M + 1)) 18 [.ref 0, wD names roles, .int (d : Nat), .int 2] s = .ok (conD n x) { s with sto := St nums c' } := fun s hs => call_to hs ex
    have el : linkD (n + 1) (mkL n r x) = .tup [.str r, conD n x] := rfl
    rw [el]
    unfold eK
    generalize conD n x = cx at *
    generalize hd : ((d + 1 : Nat) : Int) = dd at *
    generalize hd : ((d : Nat) : Int) = de at *
    generalize wD names roles = w at *
    simp [rdVar, sb, e2, MP.assign]
  have ol : okL (n + 1) (mkL n r x) := ⟨nr.ok, hx.g.b.ok⟩
  have pn := p_notIn_links ol hacc hn
  have cd : evalE (callF FF 100000 (M + 1)) (.prim .notIn (.cons (.var 9) (.cons (.peek 5) .nil))) (eK (n + 1) names roles ((d + 1 : Nat) : Int) (St nums c') l acc (.val (.int (k : Nat))) (.val (.str r)) (.val (linkD (n + 1) (mkL n r x)))) = .ok (.bl (!decide ((mkL n r x) ∈ acc))) (eK (n + 1) names roles ((d + 1 : Nat) : Int) (St nums c') l acc (.val (.int (k : Nat))) (.val (.str r)) (.val (linkD (n + 1) (mkL n r x)))) := by
    have dl := fun t => deref_link t (n + 1) (mkL n r x)
    unfold eK
    generalize ((d + 1 : Nat) : Int) = dd
    generalize (!decide ((mkL n r x) ∈ acc)) = bb at *
    generalize linkD (n + 1) (mkL n r x) = ld at *
    generalize acc.map (linkD (n + 1)) = al at *
    simp [rdVar, rdPeek, dl, pn]
  rw [as, ofOpt_some, evalSs_one st1, seqR_nx, evalSs_one st2, seqR_nx, ss_cons', st_if, cd]
  simp only [bind_ok]
  by_cases hh : (mkL n r x) ∈ acc
  · rw [decide_eq_true hh]
    have : stepD (n + 1) acc (mkL n r x) = acc := by unfold stepD; rw [if_pos hh]
    rw [this]
    simp
  · rw [decide_eq_false hh]
    have : stepD (n + 1) acc (mkL n r x) = acc ++ [(mkL n r x)] := by unfold stepD; rw [if_neg hh]
    rw [this]
    have ap := st_app_ok (cf := callF FF 100000 (M + 1)) (wf := 100000) (i := 5) (e := .var 9) (s := eK (n + 1) names roles ((d + 1 : Nat) : Int) (St nums c') l acc (.val (.int (k : Nat))) (.val (.str r)) (.val (linkD (n + 1) (mkL n r x)))) (s' := eK (n + 1) names roles ((d + 1 : Nat) : Int) (St nums c') l acc (.val (.int (k : Nat))) (.val (.str r)) (.val (linkD (n + 1) (mkL n r x)))) (ys := acc.map (linkD (n + 1))) (xs := acc.map (linkD (n + 1))) (d := linkD (n + 1) (mkL n r x)) (by simp [eK]) (by simp [eK, rdVar]) (by simp [eK]) (by simp; omega)
    simp only [Bool.not_false, ifR_t]
    rw [evalSs_one ap, seqR_nx, ss_nil', bind_ok, seqR_nx, ss_nil']
    simp [eK]
end K74
end
section
set_option Elab.async false
set_option linter.all false
set_option maxRecDepth 100000
set_option maxHeartbeats 4000000
namespace K74
open PySem MP
theorem stepD_mem {n : Nat} {acc : List (LinkT n)} {l k : LinkT n} (h : k ∈ stepD n acc l) : k ∈ acc ∨ k = l := by
  unfold stepD at h
  split at h
  · exact .inl h
  · exact (List.mem_append.mp h).imp id List.mem_singleton.mp
theorem stepD_len {n : Nat} (acc : List (LinkT n)) (l : LinkT n) : (stepD n acc l).length ≤ acc.length + 1 := by
  unfold stepD
  split
  · omega
  · simp
theorem stepD_nd {n : Nat} {acc : List (LinkT n)} (l : LinkT n) (h : acc.Nodup) : (stepD n acc l).Nodup := by
  unfold stepD
  split
  · exact h
  · rename_i hx
    rw [List.nodup_append]
    refine ⟨h, by simp, fun a ha b hb e => ?_⟩
    rw [List.mem_singleton.mp hb] at e
    rw [e] at ha
    exact hx ha
def bud (T : Int) : Nat → Int
  | 0 => 0
  | n + 1 => bud T n + T
theorem bud_le {T : Int} (h : 0 ≤ T) : ∀ n : Nat, n ≤ 2 → 0 ≤ bud T n ∧ bud T n ≤ 2 * T
  | 0, _ => by simp only [bud]; omega
  | 1, _ => by simp only [bud]; omega
  | 2, _ => by simp only [bud]; omega
  | n + 3, h => absurd h (by omega)
theorem bud_lt {T : Int} (h : 0 ≤ T) : ∀ n : Nat, n < 2 → bud T n + T ≤ 2 * T
  | 0, _ => by simp only [bud]; omega
  | 1, _ => by simp only [bud]; omega
  | n + 2, h => absurd h (by omega)
theorem sz_links {n b : Nat} : ∀ {ls : List (LinkT n)}, (∀ l ∈ ls, szL n l ≤ b) → ls.length ≤ 2 → (ls.map fun k => 1 + szL n k).sum ≤ 2 * (1 + b)
  | [], _, _ => by simp
  | [x], h, _ => by
    have := h x (by simp)
    simp only [List.map_cons, List.map_nil, List.sum_cons, List.sum_nil]
    omega
  | [x, y], h, _ => by
    have := h x (by simp)
    have := h y (by simp)
    simp only [List.map_cons, List.map_nil, List.sum_cons, List.sum_nil]
    omega
  | _ :: _ :: _ :: _, _, h => absurd h (by simp only [List.length_cons]; omega)
theorem sum_links {n : Nat} (ls : List (LinkT n)) : ((sortK n ls).map fun k => 1 + szL n k).sum = (ls.map fun k => 1 + szL n k).sum := sum_perm _ (sortK_perm n ls)
abbrev kcF : PS := (.forr (.nm 6) (.rng1 (.call 15 (.cons (.var 0) (.cons (.prim .add (.cons (.var 3) (.cons (.con (.int 1)) .nil))) .nil)))) kcB)
abbrev kcI : PS := (.ife (.bop true (.cons (.prim .gt (.cons (.var 2) (.cons (.con (.int 0)) .nil))) (.cons (.prim .gt (.cons (.prim .len (.cons (.prim .item (.cons (.var 1) (.cons (.con (.int 1)) .nil))) .nil)) (.cons (.con (.int 0)) .nil))) .nil))) (.cons kcF .nil) .nil)
abbrev kcR : PS := (.ret (.tup (.cons (.prim .tuple (.cons (.var 4) .nil)) (.cons (.prim .tuple (.cons (.prim .sorted (.cons (.peek 5) .nil)) .nil)) .nil))))
theorem st_kcR (cf : CF) {n : Nat} (hn : n ≤ 20) {names roles l : Row} {d : Int} {t : Sto} {acc : List (LinkT n)} (hl : acc.length ≤ 1000) (s6 s8 s9 : MP.Slot) :
    evalS cf 100000 kcR (eK n names roles d t l acc s6 s8 s9) = .ok (.ret (conD n (l, sortK n acc))) (eK n names roles d t l acc s6 s8 s9) := by
  have so := p_sorted_links hn acc (by omega)
  have t1 := p_tuple_lst (l.map D.str)
  have t2 := p_tuple_lst ((sortK n acc).map (linkD n))
  have v1 : evalE cf (.prim .tuple (.cons (.var 4) .nil)) (eK n names roles d t l acc s6 s8 s9) = .ok (.tup (l.map .str)) (eK n names roles d t l acc s6 s8 s9) := by
    unfold eK
    generalize l.map D.str = xs at *
    generalize acc.map (linkD n) = ys at *
    generalize wD names roles = w at *
    simp [rdVar, t1]
  have v2 : evalE cf (.prim .tuple (.cons (.prim .sorted (.cons (.peek 5) .nil)) .nil)) (eK n names roles d t l acc s6 s8 s9) = .ok (.tup ((sortK n acc).map (linkD n))) (eK n names roles d t l acc s6 s8 s9) := by
    unfold eK
    generalize (sortK n acc).map (linkD n) = xs at *
    generalize acc.map (linkD n) = ys at *
    generalize wD names roles = w at *
    simp [rdPeek, so, t2]
  have v3 := evalL_cons_ok v1 (evalL_cons_ok v2 (evL_nil _ _))
  rw [st_ret, ev_tup, v3]
  rfl
theorem drawn_none {names l : Row} {d : Nat} (n : Nat) (g : Names names) (h4 : names.length ≤ 4) (h : l.Sublist names) : Drawn names d n ((l, []) : Con n) := by
  obtain ⟨q1, q2, q3⟩ := subNames g h
  refine ⟨h, by simp, ⟨q1, q2, by show List.length l ≤ 16; omega, by simp, List.Pairwise.nil, fun l hl => nomatch hl⟩, ?_⟩
  show List.length l + 0 ≤ sS d
  have : 4 ≤ sS d := by cases d <;> simp only [sS] <;> omega
  omega
theorem drawn_links {names l : Row} {d n : Nat} (g : Names names) (h4 : names.length ≤ 4) (h : l.Sublist names) {acc : List (LinkT n)} (nd : acc.Nodup) (h2 : acc.length ≤ 2) (hg : ∀ k ∈ acc, gL n k) (hs : ∀ k ∈ acc, szL n k ≤ sS d) : Drawn names (d + 1) n ((l, sortK n acc) : Con n) := by
  obtain ⟨q1, q2, q3⟩ := subNames g h
  have p := sortK_perm n acc
  have hlen : (sortK n acc).length = acc.length := p.length_eq
  refine ⟨h, by show (sortK n acc).length ≤ 2; omega, ⟨q1, q2, by show List.length l ≤ 16; omega, by show (sortK n acc).length ≤ 16; omega, sortK_rising nd, fun k hk => hg k (p.mem_iff.mp hk)⟩, ?_⟩
  show List.length l + ((sortK n acc).map fun k => 1 + szL n k).sum ≤ sS (d + 1)
  rw [sum_links]
  have := sz_links hs h2
  simp only [sS]
  omega
theorem sp_concept {names roles : Row} {nums : List Int} (h : NumsOk nums) (gn : Names names) (hn4 : names.length ≤ 4) (gr : Names roles) : ∀ (d n m : Nat) (c : Int), d ≤ n → n ≤ 20 → 0 ≤ c → c + cT d ≤ 800000000 →
    ∃ (x : Con n) (c' : Int), Drawn names d n x ∧ (c ≤ c' ∧ c' ≤ c + cT d) ∧ callF FF 100000 (m + d + 2) 18 [.ref 0, wD names roles, .int (d : Nat), .int 2] (St nums c) = .ok (conD n x) (St nums c')
  | d, n, m, c, hd, hn, hc, hc2 => by
    have hF : FF[18]? = some ⟨4, 10, b_law_concept⟩ := rfl
    have cn := cT_nn d
    obtain ⟨l, hl, e1⟩ := st_names (m + d) (names := names) (roles := roles) (nums := nums) (c := c) (d : Nat) h (by omega) (by omega)
    have hll := hl.length_le
    have e2 : evalS (callF FF 100000 (m + d + 1)) 100000 (.own 5 (.lst .nil)) { loc := [.val (.ref 0), .val (wD names roles), .val (.int (d : Nat)), .val (.int 2), .val (.lst (l.map .str)), .unb, .unb, .unb, .unb, .unb], sto := St nums (c + names.length) } = .ok .nx (eK n names roles (d : Nat) (St nums (c + names.length)) l [] .unb .unb .unb) := st_own_ok (s' := { loc := [.val (.ref 0), .val (wD names roles), .val (.int (d : Nat)), .val (.int 2), .val (.lst (l.map .str)), .unb, .unb, .unb, .unb, .unb], sto := St nums (c + names.length) }) (by simp) (by simp)
    have start : callF FF 100000 (m + d + 2) 18 [.ref 0, wD names roles, .int (d : Nat), .int 2] (St nums c) = runRes (evalSs (callF FF 100000 (m + d + 1)) 100000 (.cons kcI (.cons kcR .nil)) (eK n names roles (d : Nat) (St nums (c + names.length)) l [] .unb .unb .unb)) := by
      rw [callF_succ, hF]
      show (if [D.ref 0, wD names roles, D.int (d : Nat), D.int 2].length = 4 then runRes (evalSs (callF FF 100000 (m + d + 1)) 100000 b_law_concept { loc := [.val (.ref 0), .val (wD names roles), .val (.int (d : Nat)), .val (.int 2), .unb, .unb, .unb, .unb, .unb, .unb], sto := St nums c }) else .bad) = _
      rw [if_pos (show [D.ref 0, wD names roles, D.int (d : Nat), D.int 2].length = 4 from rfl)]
      unfold b_law_concept
      rw [evalSs_one e1, seqR_nx, evalSs_one e2, seqR_nx]
    rw [start]
    have w1 := p_w1 names roles
    have g1 := p_gt_int (d : Nat) 0
    have v1 : ∀ t, evalE (callF FF 100000 (m + d + 1)) (.prim .gt (.cons (.var 2) (.cons (.con (.int 0)) .nil))) (eK n names roles (d : Nat) t l [] .unb .unb .unb) = .ok (.bl (decide (((d : Nat) : Int) > 0))) (eK n names roles (d : Nat) t l [] .unb .unb .unb) := fun t => by
      unfold eK
      generalize decide (((d : Nat) : Int) > 0) = bb at *
      generalize ((d : Nat) : Int) = de at *
      generalize wD names roles = w at *
      simp [rdVar, g1]
    have rl : prim .len [setD roles] = some (.int (roles.length : Nat)) := p_len_set roles (by have := gr.nl; omega)
    have g2 := p_gt_int (roles.length : Nat) 0
    have v2 : ∀ t, evalE (callF FF 100000 (m + d + 1)) (.prim .gt (.cons (.prim .len (.cons (.prim .item (.cons (.var 1) (.cons (.con (.int 1)) .nil))) .nil)) (.cons (.con (.int 0)) .nil))) (eK n names roles (d : Nat) t l [] .unb .unb .unb) = .ok (.bl (decide (((roles.length : Nat) : Int) > 0))) (eK n names roles (d : Nat) t l [] .unb .unb .unb) := fun t => by
      have dw := deref_w t names roles
      have ds : ∀ t, deref t (setD roles) = setD roles := fun _ => rfl
      unfold eK
      generalize decide (((roles.length : Nat) : Int) > 0) = bb at *
      generalize ((roles.length : Nat) : Int) = rr at *
      generalize ((d : Nat) : Int) = de at *
      generalize wD names roles = w at *
      generalize setD roles = rs at *
      simp [rdVar, dw, ds, w1, rl, g2]
    have vb := evB_two (v1 (St nums (c + names.length))) fun _ => v2 (St nums (c + names.length))
    match d, hd with
    | 0, hd => 
      have st : evalS (callF FF 100000 (m + 0 + 1)) 100000 kcI (eK n names roles (0 : Nat) (St nums (c + names.length)) l [] .unb .unb .unb) = .ok .nx (eK n names roles (0 : Nat) (St nums (c + names.length)) l [] .unb .unb .unb) := st_skip vb
      refine ⟨(l, []), c + names.length, drawn_none n gn hn4 hl, ⟨by omega, by simp only [cT]; omega⟩, ?_⟩
      have r := st_kcR (callF FF 100000 (m + 0 + 1)) hn (names := names) (roles := roles) (l := l) (d := (0 : Nat)) (t := St nums (c + names.length)) (acc := []) (by simp) .unb .unb .unb
      rw [evalSs_one st, seqR_nx, evalSs_one r]
      have : sortK n [] = [] := List.perm_nil.mp (sortK_perm n [])
      rw [this]
      rfl
    | d + 1, hd =>
      obtain ⟨k, rfl⟩ : ∃ k, n = k + 1 := ⟨n - 1, by omega⟩
      by_cases hr : roles.length = 0
      · have st : evalS (callF FF 100000 (m + (d + 1) + 1)) 100000 kcI (eK (k + 1) names roles (d + 1 : Nat) (St nums (c + names.length)) l [] .unb .unb .unb) = .ok .nx (eK (k + 1) names roles (d + 1 : Nat) (St nums (c + names.length)) l [] .unb .unb .unb) := by
          refine st_skip (vb.trans ?_)
          rw [hr]
          simp
        have cn2 := cT_nn d
        refine ⟨(l, []), c + names.length, drawn_none (k + 1) gn hn4 hl, ⟨by omega, by simp only [cT]; omega⟩, ?_⟩
        have r := st_kcR (callF FF 100000 (m + (d + 1) + 1)) hn (names := names) (roles := roles) (l := l) (d := (d + 1 : Nat)) (t := St nums (c + names.length)) (acc := []) (by simp) .unb .unb .unb
        rw [evalSs_one st, seqR_nx, evalSs_one r]
        have : sortK (k + 1) [] = [] := List.perm_nil.mp (sortK_perm (k + 1) [])
        rw [this]
        rfl
      · have hr0 : 0 < roles.length := by omega
        have cn2 := cT_nn d
        simp only [cT] at hc2
        have IH := fun c hc hc2 => sp_concept h gn hn4 gr d k m c (by omega) (by omega) hc hc2
        obtain ⟨v, v0, v3, ev⟩ := sp_next (m + (d + 1)) (c := c + names.length) (many := 3) h (by omega) (by omega)
        obtain ⟨N, rfl⟩ : ∃ N : Nat, v = N := ⟨v.toNat, by omega⟩
        have T0 : (0 : Int) ≤ 1 + cT d := by omega
        obtain ⟨s', n', e, l1, acc, c', s6, s8, s9, a1, a2, a3, a4, a5, rfl⟩ := forLoop_inv (f := fun u s => ofOpt (MP.assign (.nm 6) u s) fun s3 => evalSs (callF FF 100000 (m + (d + 1) + 1)) 100000 kcB s3)
          (fun n s => ∃ (acc : List (LinkT (k + 1))) (c' : Int) (s6 s8 s9 : MP.Slot), acc.length ≤ n ∧ acc.Nodup ∧ (∀ q ∈ acc, gL (k + 1) q) ∧ (∀ q ∈ acc, szL (k + 1) q ≤ sS d) ∧ (c + names.length + 1 ≤ c' ∧ c' ≤ c + names.length + 1 + bud (1 + cT d) n) ∧ s = eK (k + 1) names roles (d + 1 : Nat) (St nums c') l acc s6 s8 s9) N ((List.range N).map fun k => .int (k : Nat)) 0 (eK (k + 1) names roles (d + 1 : Nat) (St nums (c + names.length + 1)) l [] .unb .unb .unb)
          (by simp) ⟨[], c + names.length + 1, .unb, .unb, .unb, by simp, by simp, by simp, by simp, by simp only [bud]; omega, rfl⟩ (fun x hx n s hnN ⟨acc, c', s6, s8, s9, a1, a2, a3, a4, a5, a6⟩ => by
            obtain ⟨i, -, rfl⟩ := List.mem_map.mp hx
            have bl := bud_lt T0 n (by omega)
            have bn := bud_le T0 n (by omega)
            obtain ⟨y, c2, hy, hc2', ey⟩ := IH (c' + 1) (by omega) (by omega)
            obtain ⟨r, y2, c3, nr, hy2, hc3, et⟩ := turn_kc (m + (d + 1)) d k (names := names) (roles := roles) (nums := nums) (c := c') h gr hr0 (by omega) hn l acc (fun q hq => (a3 q hq).b.ok) (by omega) s6 s8 s9 i ⟨y, c2, hy, by omega, ey⟩
            subst a6
            refine ⟨.nx, _, et, .inl rfl, stepD (k + 1) acc (mkL k r y2), c3, _, _, _, ?_, stepD_nd _ a2, ?_, ?_, ?_, rfl⟩
            · have := stepD_len acc (mkL k r y2); omega
            · intro q hq
              rcases stepD_mem hq with hq | rfl
              · exact a3 q hq
              · exact ⟨nr, hy2.g⟩
            · intro q hq
              rcases stepD_mem hq with hq | rfl
              · exact a4 q hq
              · exact hy2.sz
            · simp only [bud]
              omega)
        have bn := bud_le T0 n' (by omega)
        have e0 : ∀ s : S, s.sto = St nums (c + names.length) → callO (callF FF 100000 (m + (d + 1) + 1)) 15 [.ref 0, .int 3] s = .ok (.int (N : Nat)) { s with sto := St nums (c + names.length + 1) } := fun s hs => call_to hs ev
        have ad : prim .add [.int 2, .int 1] = some (.int 3) := rfl
        have sm : smallI (N : Int) = true := by unfold smallI; simp; omega
        have hI : evalI (callF FF 100000 (m + (d + 1) + 1)) (.rng1 (.call 15 (.cons (.var 0) (.cons (.prim .add (.cons (.var 3) (.cons (.con (.int 1)) .nil))) .nil)))) (eK (k + 1) names roles (d + 1 : Nat) (St nums (c + names.length)) l [] .unb .unb .unb) = .ok ((List.range N).map fun k => .int (k : Nat)) (eK (k + 1) names roles (d + 1 : Nat) (St nums (c + names.length + 1)) l [] .unb .unb .unb) := by
          unfold eK
          generalize ((d + 1 : Nat) : Int) = de at *
          generalize wD names roles = w at *
          simp [evI_rng1, rdVar, ad, e0, rng1R, sm, rngL_nat]
        have stF : evalS (callF FF 100000 (m + (d + 1) + 1)) 100000 kcF (eK (k + 1) names roles (d + 1 : Nat) (St nums (c + names.length)) l [] .unb .unb .unb) = .ok .nx (eK (k + 1) names roles (d + 1 : Nat) (St nums c') l acc s6 s8 s9) := by
          rw [st_forr, hI]
          simp only [bind_ok]
          exact e
        have st : evalS (callF FF 100000 (m + (d + 1) + 1)) 100000 kcI (eK (k + 1) names roles (d + 1 : Nat) (St nums (c + names.length)) l [] .unb .unb .unb) = .ok .nx (eK (k + 1) names roles (d + 1 : Nat) (St nums c') l acc s6 s8 s9) := by
          rw [st_if, vb]
          have : (decide (((d + 1 : Nat) : Int) > 0) && decide (((roles.length : Nat) : Int) > 0)) = true := by
            rw [Bool.and_eq_true, decide_eq_true_eq, decide_eq_true_eq]
            omega
          rw [this, bind_ok, ifR_t, evalSs_one stF, seqR_nx, ss_nil']
        have r := st_kcR (callF FF 100000 (m + (d + 1) + 1)) hn (names := names) (roles := roles) (l := l) (d := (d + 1 : Nat)) (t := St nums c') (acc := acc) (by omega) s6 s8 s9
        refine ⟨(l, sortK (k + 1) acc), c', drawn_links gn hn4 hl a2 (by omega) a3 a4, ⟨by omega, by simp only [cT]; omega⟩, ?_⟩
        rw [evalSs_one st, seqR_nx, evalSs_one r]
        rfl
end K74
end
section
set_option Elab.async false
set_option linter.all false
set_option maxRecDepth 100000
set_option maxHeartbeats 4000000
/-! near ones -/
namespace K74
open PySem MP
theorem sortT_mem {l : Row} {x : Str} (h : x ∈ sortT l) : x ∈ l := by
  have := (List.mergeSort_perm l.eraseDups (PySem.W.dataLe false PyData.str)).mem_iff.mp h
  exact List.mem_eraseDups.mp this
theorem mem_sortT {l : Row} {x : Str} : x ∈ sortT l ↔ x ∈ l :=
  ((List.mergeSort_perm l.eraseDups (PySem.W.dataLe false PyData.str)).mem_iff).trans List.mem_eraseDups
theorem sortT_len (l : Row) : (sortT l).length ≤ l.length := by
  have h1 : (sortT l).length = l.eraseDups.length := (List.mergeSort_perm l.eraseDups (PySem.W.dataLe false PyData.str)).length_eq
  have := (ed_ok l.length l (Nat.le_refl _)).2
  omega
theorem sortT_rising (l : Row) : (sortT l).Pairwise sLt := sort_rising (ed_ok l.length l (Nat.le_refl _)).1
theorem tog_g {n : Nat} {a b : Con n} (ha : gC n a) (hb : gC n b) (h1 : a.1.length + b.1.length ≤ 16) (h2 : a.2.length + b.2.length ≤ 16) : gC n (tog n a b) := by
  have l1 := sortT_len (a.1 ++ b.1)
  rw [List.length_append] at l1
  have l2 := firsts_len (a.2 ++ b.2)
  rw [List.length_append] at l2
  have p := sortK_perm n (firsts n (a.2 ++ b.2))
  have hlen := p.length_eq
  refine ⟨fun x hx => ?_, sortT_rising _, by show (sortT (a.1 ++ b.1)).length ≤ 16; omega, by show (sortK n (firsts n (a.2 ++ b.2))).length ≤ 16; omega, sortK_rising (firsts_nodup _), fun l hl => ?_⟩
  · exact (List.mem_append.mp (sortT_mem hx)).elim (ha.1 x) (hb.1 x)
  · exact (List.mem_append.mp (mem_firsts.mp (p.mem_iff.mp hl))).elim (ha.2.2.2.2.2 l) (hb.2.2.2.2.2 l)
theorem tog_sz (n : Nat) (a b : Con n) : szC n (tog n a b) ≤ szC n a + szC n b := by
  have l1 := sortT_len (a.1 ++ b.1)
  rw [List.length_append] at l1
  have h := firsts_sum (fun k => 1 + szL n k) (a.2 ++ b.2) []
  rw [List.map_append, List.sum_append] at h
  have e : szC n (tog n a b) = (sortT (a.1 ++ b.1)).length + ((sortK n (firsts n (a.2 ++ b.2))).map fun k => 1 + szL n k).sum := rfl
  have e2 : ((sortK n (firsts n (a.2 ++ b.2))).map fun k => 1 + szL n k).sum = ((firsts n (a.2 ++ b.2)).map fun k => 1 + szL n k).sum := sum_links _
  have h : ((firsts n (a.2 ++ b.2)).map fun k => 1 + szL n k).sum ≤ 0 + ((a.2.map fun k => 1 + szL n k).sum + (b.2.map fun k => 1 + szL n k).sum) := h
  unfold szC at *
  omega
theorem tog_lens {n : Nat} (a b : Con n) : (tog n a b).1.length ≤ a.1.length + b.1.length ∧ (tog n a b).2.length ≤ a.2.length + b.2.length := by
  have l1 := sortT_len (a.1 ++ b.1)
  rw [List.length_append] at l1
  have l2 := firsts_len (a.2 ++ b.2)
  rw [List.length_append] at l2
  have p := sortK_perm n (firsts n (a.2 ++ b.2))
  have hlen := p.length_eq
  exact ⟨l1, by show (sortK n (firsts n (a.2 ++ b.2))).length ≤ _; omega⟩
structure Near (n : Nat) (y : Con n) : Prop where
  g : gC n y
  nm : y.1.length ≤ 8
  lk : y.2.length ≤ 4
  sz : szC n y ≤ 88
theorem cut1 {α : Type} (x : List α) : MP.cut x (some ((1 : Nat) : Int)) none = x.drop 1 := by
  cases x with
  | nil => rfl
  | cons a l => exact cut_from _ _ (by simp)
theorem sum_drop {n : Nat} (f : LinkT n → Nat) (l : List (LinkT n)) : ((l.drop 1).map f).sum ≤ (l.map f).sum := sum_sub f (List.drop_sublist 1 l)
theorem drawn_near {names : Row} {n d : Nat} {x : Con n} (h4 : names.length ≤ 4) (h : Drawn names d n x) (hs : sS d ≤ 88) : Near n x := ⟨h.g, by have := h.sub.length_le; omega, by have := h.two; omega, by have := h.sz; omega⟩
theorem sp_near {names roles : Row} {nums : List Int} (h : NumsOk nums) (gn : Names names) (hn4 : names.length ≤ 4) (gr : Names roles) {d n : Nat} (m : Nat) (c : Int) (h2 : 2 ≤ n) (hn : n ≤ 20) (hs : sS d ≤ 74) (hc : 0 ≤ c) (hc2 : c ≤ 700000000) {a : Con n} (ha : Drawn names d n a) :
    ∃ (y : Con n) (c' : Int), Near n y ∧ (c ≤ c' ∧ c' ≤ c + 200) ∧ callF FF 100000 (m + 5) 28 [.ref 0, conD n a, wD names roles] (St nums c) = .ok (conD n y) (St nums c') := by
  have hF : FF[28]? = some ⟨3, 4, b_law_near⟩ := rfl
  obtain ⟨v, v0, v1, ev⟩ := sp_next (m + 3) (c := c) (many := 4) h (by omega) (by omega)
  have c1 : cT 1 ≤ 100 := by decide
  have c2 : cT 2 ≤ 100 := by decide
  obtain ⟨x1, d1, hx1, hd1, ex1⟩ := sp_concept (roles := roles) h gn hn4 gr 1 n (m + 1) (c + 1) (by omega) hn (by omega) (by omega)
  obtain ⟨x2, d2, hx2, hd2, ex2⟩ := sp_concept (roles := roles) h gn hn4 gr 2 n m (c + 1) (by omega) hn (by omega) (by omega)
  have st0 : evalS (callF FF 100000 (m + 4)) 100000 (.set (.nm 3) (.call 15 (.cons (.var 0) (.cons (.con (.int 4)) .nil)))) { loc := [.val (.ref 0), .val (conD n a), .val (wD names roles), .unb], sto := St nums c } = .ok .nx { loc := [.val (.ref 0), .val (conD n a), .val (wD names roles), .val (.int v)], sto := St nums (c + 1) } := by
    have e0 : ∀ s : S, s.sto = St nums c → callO (callF FF 100000 (m + 4)) 15 [.ref 0, .int 4] s = .ok (.int v) { s with sto := St nums (c + 1) } := fun s hs => call_to hs ev
    simp [rdVar, e0, MP.assign]
  have run : callF FF 100000 (m + 5) 28 [.ref 0, conD n a, wD names roles] (St nums c) = runRes (evalSs (callF FF 100000 (m + 4)) 100000 b_law_near { loc := [.val (.ref 0), .val (conD n a), .val (wD names roles), .unb], sto := St nums c }) := by
    rw [callF_succ, hF]
    rfl
  have i0 := p_item_con0 n a
  have i1 := p_item_con1 n a
  have dc := deref_con (St nums (c + 1)) n a
  have q0 := p_eq_int v 0
  have q1 := p_eq_int v 1
  have q2 := p_eq_int v 2
  have na := ha.sub.length_le
  have sa := ha.sz
  have cv : ∀ (k : Int), prim .eq [.int v, .int k] = some (D.bl (decide (v = k))) → evalE (callF FF 100000 (m + 4)) (.prim .eq (.cons (.var 3) (.cons (.con (.int k)) .nil))) { loc := [.val (.ref 0), .val (conD n a), .val (wD names roles), .val (.int v)], sto := St nums (c + 1) } = .ok (.bl (decide (v = k))) { loc := [.val (.ref 0), .val (conD n a), .val (wD names roles), .val (.int v)], sto := St nums (c + 1) } := fun k hk => by
    simp [rdVar, hk]
  have k0 := cv 0 q0
  have k1 := cv 1 q1
  have k2 := cv 2 q2
  by_cases z0 : v = 0
  · rw [decide_eq_true z0] at k0
    have tg := sp_together n (m + 3) hn ha.g.b hx1.g.b (St nums d1)
    refine ⟨tog n a x1, d1, ⟨tog_g ha.g hx1.g ?_ ?_, ?_, ?_, ?_⟩, by omega, ?_⟩
    · have := hx1.sub.length_le; omega
    · have := ha.two; have := hx1.two; omega
    · have := (tog_lens a x1).1; have := hx1.sub.length_le; omega
    · have := (tog_lens a x1).2; have := ha.two; have := hx1.two; omega
    · have h1 := tog_sz n a x1
      have h2 := hx1.sz
      have h3 : sS 1 = 14 := rfl
      omega
    · have w1 : evalE (callF FF 100000 (m + 4)) (.call 18 (.cons (.var 0) (.cons (.var 2) (.cons (.con (.int 1)) (.cons (.con (.int 2)) .nil))))) { loc := [.val (.ref 0), .val (conD n a), .val (wD names roles), .val (.int v)], sto := St nums (c + 1) } = .ok (conD n x1) { loc := [.val (.ref 0), .val (conD n a), .val (wD names roles), .val (.int v)], sto := St nums d1 } :=
        evalE_call (ds := [.ref 0, wD names roles, .int 1, .int 2]) (s1 := { loc := [.val (.ref 0), .val (conD n a), .val (wD names roles), .val (.int v)], sto := St nums (c + 1) }) (by simp [rdVar]) ex1
      have w2 : evalE (callF FF 100000 (m + 4)) (.call 22 (.cons (.var 1) (.cons (.call 18 (.cons (.var 0) (.cons (.var 2) (.cons (.con (.int 1)) (.cons (.con (.int 2)) .nil))))) .nil))) { loc := [.val (.ref 0), .val (conD n a), .val (wD names roles), .val (.int v)], sto := St nums (c + 1) } = .ok (conD n (tog n a x1)) { loc := [.val (.ref 0), .val (conD n a), .val (wD names roles), .val (.int v)], sto := St nums d1 } :=
        evalE_call (evalL_cons_ok (show evalE _ (.var 1) _ = .ok (conD n a) { loc := [.val (.ref 0), .val (conD n a), .val (wD names roles), .val (.int v)], sto := St nums (c + 1) } by simp [rdVar]) (evalL_cons_ok w1 (evL_nil _ _))) tg
      rw [run]
      unfold b_law_near
      rw [evalSs_one st0, seqR_nx, ss_cons', st_if, k0, bind_ok, ifR_t, ss_cons', st_ret, w2]
      rfl
  rw [decide_eq_false z0] at k0
  by_cases z1 : v = 1
  · rw [decide_eq_true z1] at k1
    refine ⟨(a.1.drop 1, a.2), c + 1, ⟨⟨fun x hx => ha.g.1 x (List.mem_of_mem_drop hx), ha.g.2.1.sublist (List.drop_sublist 1 a.1), ?_, ha.g.2.2.2.1, ha.g.2.2.2.2.1, ha.g.2.2.2.2.2⟩, ?_, ?_, ?_⟩, by omega, ?_⟩
    · have := ha.g.2.2.1; simp; omega
    · simp; omega
    · have := ha.two; show a.2.length ≤ 4; omega
    · have e : szC n ((a.1.drop 1, a.2) : Con n) = (a.1.drop 1).length + (a.2.map fun k => 1 + szL n k).sum := rfl
      have e2 : szC n a = a.1.length + (a.2.map fun k => 1 + szL n k).sum := rfl
      rw [List.length_drop] at e
      omega
    · have s1 : prim .sl10 [setD a.1, .int 1] = some (setD (a.1.drop 1)) := by
        show some (D.tup (MP.cut (a.1.map D.str) (some ((1 : Nat) : Int)) none)) = _
        rw [cut1, ← List.map_drop]
        rfl
      have w : evalE (callF FF 100000 (m + 4)) (.tup (.cons (.prim .sl10 (.cons (.prim .item (.cons (.var 1) (.cons (.con (.int 0)) .nil))) (.cons (.con (.int 1)) .nil))) (.cons (.prim .item (.cons (.var 1) (.cons (.con (.int 1)) .nil))) .nil))) { loc := [.val (.ref 0), .val (conD n a), .val (wD names roles), .val (.int v)], sto := St nums (c + 1) } = .ok (.tup [setD (a.1.drop 1), .tup (a.2.map (linkD n))]) { loc := [.val (.ref 0), .val (conD n a), .val (wD names roles), .val (.int v)], sto := St nums (c + 1) } := by
        have ds : deref (St nums (c + 1)) (setD a.1) = setD a.1 := rfl
        generalize conD n a = ca at *
        generalize a.2.map (linkD n) = ls at *
        generalize hh : setD (List.drop 1 a.1) = s2 at *
        generalize setD a.1 = sz1 at *
        simp [rdVar, dc, i0, i1, ds, s1]
      rw [run]
      unfold b_law_near
      rw [evalSs_one st0, seqR_nx, evalSs_one (st_skip k0), seqR_nx, ss_cons', st_if, k1, bind_ok, ifR_t, ss_cons', st_ret, w]
      rfl
  rw [decide_eq_false z1] at k1
  by_cases z2 : v = 2
  · rw [decide_eq_true z2] at k2
    refine ⟨(a.1, a.2.drop 1), c + 1, ⟨⟨ha.g.1, ha.g.2.1, ha.g.2.2.1, ?_, ha.g.2.2.2.2.1.sublist (List.drop_sublist 1 a.2), fun l hl => ha.g.2.2.2.2.2 l (List.mem_of_mem_drop hl)⟩, ?_, ?_, ?_⟩, by omega, ?_⟩
    · have := ha.g.2.2.2.1; simp; omega
    · show a.1.length ≤ 8; omega
    · have := ha.two; simp; omega
    · have e : szC n ((a.1, a.2.drop 1) : Con n) = a.1.length + ((a.2.drop 1).map fun k => 1 + szL n k).sum := rfl
      have e2 : szC n a = a.1.length + (a.2.map fun k => 1 + szL n k).sum := rfl
      have := sum_drop (fun k => 1 + szL n k) a.2
      omega
    · have s1 : prim .sl10 [.tup (a.2.map (linkD n)), .int 1] = some (.tup ((a.2.drop 1).map (linkD n))) := by
        show some (D.tup (MP.cut (a.2.map (linkD n)) (some ((1 : Nat) : Int)) none)) = _
        rw [cut1, ← List.map_drop]
      have w : evalE (callF FF 100000 (m + 4)) (.tup (.cons (.prim .item (.cons (.var 1) (.cons (.con (.int 0)) .nil))) (.cons (.prim .sl10 (.cons (.prim .item (.cons (.var 1) (.cons (.con (.int 1)) .nil))) (.cons (.con (.int 1)) .nil))) .nil))) { loc := [.val (.ref 0), .val (conD n a), .val (wD names roles), .val (.int v)], sto := St nums (c + 1) } = .ok (.tup [setD a.1, .tup ((a.2.drop 1).map (linkD n))]) { loc := [.val (.ref 0), .val (conD n a), .val (wD names roles), .val (.int v)], sto := St nums (c + 1) } := by
        have ds := deref_links (St nums (c + 1)) n a.2
        generalize conD n a = ca at *
        generalize (a.2.drop 1).map (linkD n) = l2 at *
        generalize a.2.map (linkD n) = ls at *
        generalize setD a.1 = sz1 at *
        simp [rdVar, dc, i0, i1, ds, s1]
      rw [run]
      unfold b_law_near
      rw [evalSs_one st0, seqR_nx, evalSs_one (st_skip k0), seqR_nx, evalSs_one (st_skip k1), seqR_nx, ss_cons', st_if, k2, bind_ok, ifR_t, ss_cons', st_ret, w]
      rfl
  rw [decide_eq_false z2] at k2
  refine ⟨x2, d2, drawn_near hn4 hx2 (by decide), by omega, ?_⟩
  have w1 : evalE (callF FF 100000 (m + 4)) (.call 18 (.cons (.var 0) (.cons (.var 2) (.cons (.con (.int 2)) (.cons (.con (.int 2)) .nil))))) { loc := [.val (.ref 0), .val (conD n a), .val (wD names roles), .val (.int v)], sto := St nums (c + 1) } = .ok (conD n x2) { loc := [.val (.ref 0), .val (conD n a), .val (wD names roles), .val (.int v)], sto := St nums d2 } :=
    evalE_call (ds := [.ref 0, wD names roles, .int 2, .int 2]) (s1 := { loc := [.val (.ref 0), .val (conD n a), .val (wD names roles), .val (.int v)], sto := St nums (c + 1) }) (by simp [rdVar]) ex2
  rw [run]
  unfold b_law_near
  rw [evalSs_one st0, seqR_nx, evalSs_one (st_skip k0), seqR_nx, evalSs_one (st_skip k1), seqR_nx, evalSs_one (st_skip k2), seqR_nx, ss_cons', st_ret, w1]
  rfl
end K74
end
section
set_option Elab.async false
set_option linter.all false
set_option maxRecDepth 100000
set_option maxHeartbeats 4000000
/-! shares compared -/
namespace K74
open PySem MP
def Le (x y : Fr) : Prop := x.1 * y.2 ≤ y.1 * x.2
theorem Le.refl (x : Fr) : Le x x := Nat.le_refl _
theorem Le.trans {x y z : Fr} (h1 : Le x y) (h2 : Le y z) (p : 0 < y.2) : Le x z := by
  unfold Le at *
  have a := Nat.mul_le_mul_right z.2 h1
  have b := Nat.mul_le_mul_right x.2 h2
  have e : (x.1 * z.2) * y.2 ≤ (z.1 * x.2) * y.2 := by
    calc (x.1 * z.2) * y.2 = x.1 * y.2 * z.2 := by simp only [Nat.mul_comm, Nat.mul_left_comm]
      _ ≤ y.1 * x.2 * z.2 := a
      _ = y.1 * z.2 * x.2 := by simp only [Nat.mul_comm, Nat.mul_left_comm]
      _ ≤ z.1 * y.2 * x.2 := b
      _ = (z.1 * x.2) * y.2 := by simp only [Nat.mul_comm, Nat.mul_left_comm]
  exact Nat.le_of_mul_le_mul_right e p
theorem Le.of_eq {x y : Fr} (h : Eqr x y) : Le x y := Nat.le_of_eq h
theorem Eqr.symm {x y : Fr} (h : Eqr x y) : Eqr y x := Eq.symm h
theorem low_eq {p q : Nat} (hq : 0 < q) : Eqr (low p q) (p, q) := by
  have hqd := Nat.div_mul_cancel (Nat.gcd_dvd_right p q)
  have hpd := Nat.div_mul_cancel (Nat.gcd_dvd_left p q)
  unfold Eqr low
  show p / Nat.gcd p q * q = p * (q / Nat.gcd p q)
  generalize Nat.gcd p q = g at *
  generalize p / g = a at *
  generalize q / g = b at *
  rw [← hqd, ← hpd]
  simp only [Nat.mul_comm, Nat.mul_left_comm]
/-- to compare lowest terms compare the fractions -/
theorem le_low {p q p' q' : Nat} (h0 : 0 < q) (h0' : 0 < q') (h : p * q' ≤ p' * q) : Le (low p q) (low p' q') := by
  have h1 : Le (low p q) (p, q) := Le.of_eq (low_eq h0)
  have h2 : Le ((p, q) : Fr) (p', q') := h
  have h3 : Le ((p', q') : Fr) (low p' q') := Le.of_eq (low_eq h0').symm
  exact Le.trans h1 (Le.trans h2 h3 h0') h0
theorem half_mono {x y : Fr} (px : 0 < x.2) (py : 0 < y.2) (h : Le x y) : Le (half x) (half y) := by
  refine le_low (by omega) (by omega) ?_
  unfold Le at h
  have e1 : (x.1 + x.2) * (2 * y.2) = 2 * (x.1 * y.2) + 2 * (x.2 * y.2) := by
    rw [Nat.add_mul, Nat.mul_left_comm, Nat.mul_left_comm x.2]
  have e2 : (y.1 + y.2) * (2 * x.2) = 2 * (y.1 * x.2) + 2 * (x.2 * y.2) := by
    rw [Nat.add_mul, Nat.mul_left_comm, Nat.mul_left_comm y.2, Nat.mul_comm y.2 x.2]
  omega
theorem add_mono {t t' b b' : Fr} (p1 : 0 < t.2) (p2 : 0 < t'.2) (p3 : 0 < b.2) (p4 : 0 < b'.2) (h1 : Le t t') (h2 : Le b b') : Le (addF t b) (addF t' b') := by
  refine le_low (Nat.mul_pos p1 p3) (Nat.mul_pos p2 p4) ?_
  unfold Le at h1 h2
  have a := Nat.mul_le_mul_right (b.2 * b'.2) h1
  have c := Nat.mul_le_mul_right (t.2 * t'.2) h2
  have e1 : (t.1 * b.2 + b.1 * t.2) * (t'.2 * b'.2) = t.1 * t'.2 * (b.2 * b'.2) + b.1 * b'.2 * (t.2 * t'.2) := by
    rw [Nat.add_mul]
    congr 1 <;> simp only [Nat.mul_comm, Nat.mul_left_comm]
  have e2 : (t'.1 * b'.2 + b'.1 * t'.2) * (t.2 * b.2) = t'.1 * t.2 * (b.2 * b'.2) + b'.1 * b.2 * (t.2 * t'.2) := by
    rw [Nat.add_mul]
    congr 1 <;> simp only [Nat.mul_comm, Nat.mul_left_comm]
  rw [e1, e2]
  omega
theorem half_pos {x : Fr} (h : 0 < x.2) : 0 < (half x).2 := low_pos (by omega)
/-- the best is none smaller, and one of them -/
theorem best_spec {n : Nat} {f : LinkT n → LinkT n → Fr} {w : LinkT n} : ∀ (hs : List (LinkT n)) (b : Fr), (∀ h ∈ hs, 0 < (f h w).2) → 0 < b.2 →
    0 < (hs.foldl (bestS n f w) b).2 ∧ Le b (hs.foldl (bestS n f w) b) ∧ (∀ h ∈ hs, role n h = role n w → Le (half (f h w)) (hs.foldl (bestS n f w) b)) ∧ (hs.foldl (bestS n f w) b = b ∨ ∃ h ∈ hs, role n h = role n w ∧ hs.foldl (bestS n f w) b = half (f h w))
  | [], b, _, p => ⟨p, Le.refl b, fun h hh => (nomatch hh), .inl rfl⟩
  | h :: hs, b, hf, p => by
    have ph := half_pos (hf h List.mem_cons_self)
    have key : 0 < (bestS n f w b h).2 ∧ Le b (bestS n f w b h) ∧ (role n h = role n w → Le (half (f h w)) (bestS n f w b h)) ∧ (bestS n f w b h = b ∨ (role n h = role n w ∧ bestS n f w b h = half (f h w))) := by
      unfold bestS
      by_cases hr : role n h = role n w
      · rw [if_pos hr]
        by_cases hm : more (half (f h w)) b = true
        · rw [if_pos hm]
          have hm' : (half (f h w)).1 * b.2 > b.1 * (half (f h w)).2 := of_decide_eq_true hm
          exact ⟨ph, Nat.le_of_lt hm', fun _ => Le.refl _, .inr ⟨hr, rfl⟩⟩
        · rw [if_neg hm]
          have hm' : ¬ (half (f h w)).1 * b.2 > b.1 * (half (f h w)).2 := fun z => hm (decide_eq_true z)
          exact ⟨p, Le.refl _, fun _ => Nat.le_of_not_lt hm', .inl rfl⟩
      · rw [if_neg hr]
        exact ⟨p, Le.refl _, fun z => absurd z hr, .inl rfl⟩
    obtain ⟨k1, k2, k3, k4⟩ := key
    obtain ⟨r1, r2, r3, r4⟩ := best_spec hs (bestS n f w b h) (fun x hx => hf x (List.mem_cons_of_mem _ hx)) k1
    rw [List.foldl_cons]
    refine ⟨r1, k2.trans r2 k1, fun x hx hr => ?_, ?_⟩
    · rcases List.mem_cons.mp hx with rfl | hx
      · exact (k3 hr).trans r2 k1
      · exact r3 x hx hr
    · rcases r4 with e | ⟨x, hx, hr, e⟩
      · rcases k4 with e2 | ⟨hr, e2⟩
        · exact .inl (e.trans e2)
        · exact .inr ⟨h, List.mem_cons_self, hr, e.trans e2⟩
      · exact .inr ⟨x, List.mem_cons_of_mem _ hx, hr, e⟩
theorem bestF_spec {n : Nat} {f : LinkT n → LinkT n → Fr} {a : Con n} {w : LinkT n} (hf : ∀ h ∈ a.2, 0 < (f h w).2) :
    0 < (bestF n f a w).2 ∧ (∀ h ∈ a.2, role n h = role n w → Le (half (f h w)) (bestF n f a w)) ∧ (bestF n f a w = (0, 1) ∨ ∃ h ∈ a.2, role n h = role n w ∧ bestF n f a w = half (f h w)) := by
  obtain ⟨r1, -, r3, r4⟩ := best_spec (f := f) (w := w) a.2 (0, 1) hf (by simp)
  exact ⟨r1, r3, r4⟩
theorem zero_le (x : Fr) : Le (0, 1) x := by
  unfold Le
  simp
/-- what lies in another one has no smaller best -/
theorem bestF_mono {n : Nat} {f : LinkT n → LinkT n → Fr} {a b : Con n} {w : LinkT n} (fp : ∀ h, 0 < (f h w).2) (h : ∀ k ∈ b.2, ∃ j ∈ a.2, role n j = role n k ∧ Le (f k w) (f j w)) : Le (bestF n f b w) (bestF n f a w) := by
  obtain ⟨-, -, rb⟩ := bestF_spec (f := f) (a := b) (w := w) fun k _ => fp k
  obtain ⟨-, ra, -⟩ := bestF_spec (f := f) (a := a) (w := w) fun k _ => fp k
  rcases rb with e | ⟨k, hk, hr, e⟩
  · rw [e]; exact zero_le _
  · rw [e]
    obtain ⟨j, hj, hr2, hle⟩ := h k hk
    exact (half_mono (fp k) (fp j) hle).trans (ra j hj (hr2.trans hr)) (half_pos (fp j))
theorem fold_mono {n : Nat} {f : LinkT n → LinkT n → Fr} {a b : Con n} : ∀ (ws : List (LinkT n)) (t t' : Fr), (∀ w ∈ ws, (0 < (bestF n f b w).2 ∧ 0 < (bestF n f a w).2) ∧ Le (bestF n f b w) (bestF n f a w)) → 0 < t.2 → 0 < t'.2 → Le t t' →
    0 < (ws.foldl (fun t w => addF t (bestF n f b w)) t).2 ∧ 0 < (ws.foldl (fun t w => addF t (bestF n f a w)) t').2 ∧ Le (ws.foldl (fun t w => addF t (bestF n f b w)) t) (ws.foldl (fun t w => addF t (bestF n f a w)) t')
  | [], t, t', _, p, p', h => ⟨p, p', h⟩
  | w :: ws, t, t', hw, p, p', h => by
    obtain ⟨⟨q1, q2⟩, q3⟩ := hw w List.mem_cons_self
    exact fold_mono ws (addF t (bestF n f b w)) (addF t' (bestF n f a w)) (fun x hx => hw x (List.mem_cons_of_mem _ hx)) (low_pos (Nat.mul_pos p q1)) (low_pos (Nat.mul_pos p' q2)) (add_mono p p' q1 q2 h q3)
theorem metL_pos : ∀ (n : Nat) (h w : LinkT n), 0 < (metL n h w).2
  | 0, h, _ => nomatch h
  | n + 1, h, w => by
    show 0 < (metC n (metL n) h.2 w.2).2
    unfold metC
    split
    · simp
    · rename_i hz
      have := (fold_mono (f := metL n) (a := h.2) (b := h.2) w.2.2 ((w.2.1.filter fun x => decide (x ∈ h.2.1)).length, 1) _ (fun x _ => ⟨⟨(bestF_spec fun k _ => metL_pos n k x).1, (bestF_spec fun k _ => metL_pos n k x).1⟩, Le.refl _⟩) (by simp) (by simp) (Le.refl _)).1
      exact low_pos (Nat.mul_pos this (by omega))
theorem filter_mono {α : Type} {p q : α → Bool} : ∀ (l : List α), (∀ x ∈ l, p x = true → q x = true) → (l.filter p).length ≤ (l.filter q).length
  | [], _ => Nat.le_refl _
  | x :: l, h => by
    have ih := filter_mono l fun y hy => h y (List.mem_cons_of_mem _ hy)
    have hx := h x List.mem_cons_self
    rw [List.filter_cons, List.filter_cons]
    cases hp : p x with
    | true =>
      rw [hx hp]
      simp only [if_true, List.length_cons]
      omega
    | false =>
      cases q x <;> simp <;> omega
theorem metC_mono {n : Nat} {a b c : Con n} (hn : ∀ x ∈ b.1, x ∈ a.1) (hl : ∀ w ∈ c.2, ∀ k ∈ b.2, ∃ j ∈ a.2, role n j = role n k ∧ Le (metL n k w) (metL n j w)) : Le (metC n (metL n) b c) (metC n (metL n) a c) := by
  unfold metC
  by_cases hz : c.1.length + c.2.length = 0
  · rw [if_pos hz, if_pos hz]
    exact Le.refl _
  · rw [if_neg hz, if_neg hz]
    have fm := filter_mono (p := fun x => decide (x ∈ b.1)) (q := fun x => decide (x ∈ a.1)) c.1 fun x _ hx => decide_eq_true (hn x (of_decide_eq_true hx))
    obtain ⟨r1, r2, r3⟩ := fold_mono (f := metL n) (a := a) (b := b) c.2 ((c.1.filter fun x => decide (x ∈ b.1)).length, 1) ((c.1.filter fun x => decide (x ∈ a.1)).length, 1) (fun w hw => ⟨⟨(bestF_spec fun k _ => metL_pos n k w).1, (bestF_spec fun k _ => metL_pos n k w).1⟩, bestF_mono (fun k => metL_pos n k w) (hl w hw)⟩) (by simp) (by simp) (by unfold Le; simp only [Nat.mul_one]; exact fm)
    refine le_low (Nat.mul_pos r1 (by omega)) (Nat.mul_pos r2 (by omega)) ?_
    unfold Le at r3
    rw [← Nat.mul_assoc, ← Nat.mul_assoc]
    exact Nat.mul_le_mul_right _ r3
theorem liesN_iff {n : Nat} {a b : Con n} : liesN n a b = true ↔ (∀ x ∈ b.1, x ∈ a.1) ∧ ∀ w ∈ b.2, ∃ h ∈ a.2, role n h = role n w ∧ liesL n h w = true := by
  unfold liesN
  simp only [Bool.and_eq_true, List.all_eq_true, List.any_eq_true, decide_eq_true_eq]
theorem metL_mono : ∀ (n : Nat) (h k w : LinkT n), liesL n h k = true → Le (metL n k w) (metL n h w)
  | 0, h, _, _, _ => nomatch h
  | n + 1, h, k, w, hl => by
    have hl : liesN n h.2 k.2 = true := hl
    obtain ⟨h1, h2⟩ := liesN_iff.mp hl
    refine metC_mono h1 fun w' _ k' hk' => ?_
    obtain ⟨j, hj, hr, hlj⟩ := h2 k' hk'
    exact ⟨j, hj, hr, metL_mono n j k' w' hlj⟩
theorem metN_mono {n : Nat} {a b c : Con n} (h : liesN n a b = true) : Le (metN n b c) (metN n a c) := by
  obtain ⟨h1, h2⟩ := liesN_iff.mp h
  refine metC_mono h1 fun w' _ k' hk' => ?_
  obtain ⟨j, hj, hr, hlj⟩ := h2 k' hk'
  exact ⟨j, hj, hr, metL_mono n j k' w' hlj⟩
end K74
end
section
set_option Elab.async false
set_option linter.all false
set_option maxRecDepth 100000
set_option maxHeartbeats 4000000
/-! a share is whole just if the one lies within the other -/
namespace K74
open PySem MP
def Full (x : Fr) : Prop := x.1 = x.2
theorem low_mul {p q K : Nat} (hq : 0 < q) : (low p q).1 = K * (low p q).2 ↔ p = K * q := by
  have e : (low p q).1 * q = p * (low p q).2 := low_eq hq
  have l2 := low_pos (p := p) hq
  constructor
  · intro h
    rw [h] at e
    have e : K * q * (low p q).2 = p * (low p q).2 := by rw [← e, Nat.mul_assoc, Nat.mul_assoc, Nat.mul_comm q]
    exact (Nat.eq_of_mul_eq_mul_right l2 e).symm
  · intro h
    have e2 : p * (low p q).2 = K * (low p q).2 * q := by
      generalize (low p q).2 = z
      rw [h, Nat.mul_assoc, Nat.mul_assoc, Nat.mul_comm q]
    have e := e.trans e2
    exact Nat.eq_of_mul_eq_mul_right hq e
theorem low_full {p q : Nat} (hq : 0 < q) : Full (low p q) ↔ p = q := by
  have := low_mul (p := p) (K := 1) hq
  simpa [Full] using this
theorem low_one {p q : Nat} (hq : 0 < q) : low p q = (1, 1) ↔ p = q := by
  constructor
  · intro h
    exact (low_full hq).mp (by rw [h]; rfl)
  · intro h
    subst h
    unfold low
    rw [Nat.gcd_self, Nat.div_self hq]
/-- at most c, with parts -/
structure Upto (c : Nat) (x : Fr) : Prop where
  pos : 0 < x.2
  le : x.1 ≤ c * x.2
theorem upto_low {p q c : Nat} (hq : 0 < q) (h : p ≤ c * q) : Upto c (low p q) := ⟨low_pos hq, low_le hq h⟩
theorem add_upto {c : Nat} {t b : Fr} (ht : Upto c t) (hb : Upto 1 b) : Upto (c + 1) (addF t b) ∧ ((addF t b).1 = (c + 1) * (addF t b).2 ↔ t.1 = c * t.2 ∧ Full b) := by
  have p1 := ht.pos
  have p2 := hb.pos
  have l1 := ht.le
  have l2 := hb.le
  rw [Nat.one_mul] at l2
  have hq : 0 < t.2 * b.2 := Nat.mul_pos p1 p2
  have e1 : t.1 * b.2 ≤ c * t.2 * b.2 := Nat.mul_le_mul_right _ l1
  have e2 : b.1 * t.2 ≤ b.2 * t.2 := Nat.mul_le_mul_right _ l2
  have e3 : (c + 1) * (t.2 * b.2) = c * t.2 * b.2 + b.2 * t.2 := by
    rw [Nat.add_mul, Nat.one_mul, Nat.mul_assoc, Nat.mul_comm b.2]
  refine ⟨upto_low hq (by rw [e3]; omega), ?_⟩
  unfold addF
  rw [low_mul hq, e3]
  constructor
  · intro h
    have a1 : t.1 * b.2 = c * t.2 * b.2 := by omega
    have a2 : b.1 * t.2 = b.2 * t.2 := by omega
    exact ⟨Nat.eq_of_mul_eq_mul_right p2 a1, Nat.eq_of_mul_eq_mul_right p1 a2⟩
  · intro ⟨h1, h2⟩
    have h2 : b.1 = b.2 := h2
    rw [h1, h2]
theorem fold_upto {n : Nat} {f : LinkT n → LinkT n → Fr} {a : Con n} : ∀ (ws : List (LinkT n)) (c : Nat) (t : Fr), (∀ w ∈ ws, Upto 1 (bestF n f a w)) → Upto c t →
    Upto (c + ws.length) (ws.foldl (fun t w => addF t (bestF n f a w)) t) ∧ ((ws.foldl (fun t w => addF t (bestF n f a w)) t).1 = (c + ws.length) * (ws.foldl (fun t w => addF t (bestF n f a w)) t).2 ↔ t.1 = c * t.2 ∧ ∀ w ∈ ws, Full (bestF n f a w))
  | [], c, t, _, h => ⟨h, by simp⟩
  | w :: ws, c, t, hw, h => by
    obtain ⟨a1, a2⟩ := add_upto h (hw w List.mem_cons_self)
    obtain ⟨r1, r2⟩ := fold_upto ws (c + 1) (addF t (bestF n f a w)) (fun x hx => hw x (List.mem_cons_of_mem _ hx)) a1
    rw [List.foldl_cons, List.length_cons]
    have e : c + (ws.length + 1) = c + 1 + ws.length := by omega
    rw [e]
    refine ⟨r1, r2.trans ?_⟩
    rw [a2]
    simp only [List.mem_cons, forall_eq_or_imp, and_assoc]
theorem half_full {x : Fr} (h : 0 < x.2) : Full (half x) ↔ Full x := by
  unfold half
  rw [low_full (by omega)]
  show x.1 + x.2 = 2 * x.2 ↔ x.1 = x.2
  omega
theorem half_upto {x : Fr} (h : Upto 1 x) : Upto 1 (half x) := by
  have := h.pos
  have := h.le
  exact upto_low (by omega) (by omega)
theorem bestF_upto {n : Nat} {f : LinkT n → LinkT n → Fr} {a : Con n} {w : LinkT n} (hf : ∀ h ∈ a.2, Upto 1 (f h w)) : Upto 1 (bestF n f a w) ∧ (Full (bestF n f a w) ↔ ∃ h ∈ a.2, role n h = role n w ∧ Full (f h w)) := by
  obtain ⟨r1, r2, r3⟩ := bestF_spec (f := f) (a := a) (w := w) fun h hh => (hf h hh).pos
  have up : Upto 1 (bestF n f a w) := by
    rcases r3 with e | ⟨h, hh, hr, e⟩
    · rw [e]; exact ⟨by simp, by simp⟩
    · rw [e]; exact half_upto (hf h hh)
  refine ⟨up, fun hfull => ?_, fun ⟨h, hh, hr, hfull⟩ => ?_⟩
  · rcases r3 with e | ⟨h, hh, hr, e⟩
    · rw [e] at hfull
      exact absurd hfull (by simp [Full])
    · rw [e] at hfull
      exact ⟨h, hh, hr, (half_full (hf h hh).pos).mp hfull⟩
  · have hle := r2 h hh hr
    have hp := half_pos (hf h hh).pos
    have he : (half (f h w)).1 = (half (f h w)).2 := (half_full (hf h hh).pos).mpr hfull
    unfold Le at hle
    rw [he, Nat.mul_comm] at hle
    have h1 : (bestF n f a w).2 ≤ (bestF n f a w).1 := Nat.le_of_mul_le_mul_right hle hp
    have h2 := up.le
    show (bestF n f a w).1 = (bestF n f a w).2
    omega
theorem filter_full {α : Type} (p : α → Bool) : ∀ l : List α, (l.filter p).length = l.length ↔ ∀ x ∈ l, p x = true := fun l => by
  rw [List.length_filter_eq_length_iff]
theorem metC_full {n : Nat} {f : LinkT n → LinkT n → Fr} {a b : Con n} (hf : ∀ w ∈ b.2, ∀ h ∈ a.2, Upto 1 (f h w)) : Upto 1 (metC n f a b) ∧ (metC n f a b = (1, 1) ↔ (∀ x ∈ b.1, x ∈ a.1) ∧ ∀ w ∈ b.2, ∃ h ∈ a.2, role n h = role n w ∧ Full (f h w)) := by
  unfold metC
  by_cases hz : b.1.length + b.2.length = 0
  · rw [if_pos hz]
    refine ⟨⟨by simp, by simp⟩, fun _ => ⟨fun x hx => ?_, fun w hw => ?_⟩, fun _ => rfl⟩
    · have := List.length_pos_of_mem hx; omega
    · have := List.length_pos_of_mem hw; omega
  · rw [if_neg hz]
    have fl := List.length_filter_le (fun x => decide (x ∈ a.1)) b.1
    obtain ⟨r1, r2⟩ := fold_upto (f := f) (a := a) b.2 b.1.length ((b.1.filter fun x => decide (x ∈ a.1)).length, 1) (fun w hw => (bestF_upto (hf w hw)).1) ⟨by simp, by simpa using fl⟩
    have hq : 0 < (b.2.foldl (fun t w => addF t (bestF n f a w)) ((b.1.filter fun x => decide (x ∈ a.1)).length, 1)).2 * (b.1.length + b.2.length) := Nat.mul_pos r1.pos (by omega)
    refine ⟨upto_low hq (by have := r1.le; rw [Nat.one_mul, Nat.mul_comm]; exact this), ?_⟩
    rw [low_one hq, Nat.mul_comm, r2, Nat.mul_one, filter_full]
    constructor
    · intro ⟨h1, h2⟩
      exact ⟨fun x hx => of_decide_eq_true (h1 x hx), fun w hw => (bestF_upto (hf w hw)).2.mp (h2 w hw)⟩
    · intro ⟨h1, h2⟩
      exact ⟨fun x hx => decide_eq_true (h1 x hx), fun w hw => (bestF_upto (hf w hw)).2.mpr (h2 w hw)⟩
theorem full_one {x : Fr} (h : x = (1, 1)) : Full x := by rw [h]; rfl
theorem metC_one {n : Nat} {f : LinkT n → LinkT n → Fr} {a b : Con n} (h : Full (metC n f a b)) (p : 0 < (metC n f a b).2) : metC n f a b = (1, 1) := by
  unfold metC at *
  by_cases hz : b.1.length + b.2.length = 0
  · rw [if_pos hz]
  · rw [if_neg hz] at *
    generalize b.2.foldl (fun t w => addF t (bestF n f a w)) ((b.1.filter fun x => decide (x ∈ a.1)).length, 1) = t at *
    by_cases hq : 0 < t.2 * (b.1.length + b.2.length)
    · rw [low_one hq]
      exact (low_full hq).mp h
    · have e : t.2 * (b.1.length + b.2.length) = 0 := by omega
      rw [e] at p
      exact absurd p (by simp [low])
theorem metL_full : ∀ (n : Nat) (h w : LinkT n), Upto 1 (metL n h w) ∧ (Full (metL n h w) ↔ liesL n h w = true)
  | 0, h, _ => nomatch h
  | n + 1, h, w => by
    obtain ⟨u, e⟩ := metC_full (n := n) (f := metL n) (a := h.2) (b := w.2) fun w' _ h' _ => (metL_full n h' w').1
    refine ⟨u, ?_⟩
    have e1 : Full (metL (n + 1) h w) ↔ metC n (metL n) h.2 w.2 = (1, 1) := ⟨fun z => metC_one z u.pos, fun z => full_one z⟩
    rw [e1, e]
    have e2 : liesL (n + 1) h w = liesN n h.2 w.2 := rfl
    rw [e2, liesN_iff]
    simp only [(metL_full n _ _).2]
theorem metN_one {n : Nat} {a b : Con n} : metN n a b = (1, 1) ↔ liesN n a b = true := by
  obtain ⟨u, e⟩ := metC_full (n := n) (f := metL n) (a := a) (b := b) fun w' _ h' _ => (metL_full n h' w').1
  unfold metN
  rw [e, liesN_iff]
  simp only [(metL_full n _ _).2]
theorem metN_upto {n : Nat} {a b : Con n} : Upto 1 (metN n a b) := (metC_full (n := n) (f := metL n) (a := a) (b := b) fun w' _ h' _ => (metL_full n h' w').1).1
/-- likeness is 1 just if both shares are -/
theorem likF_one {x y : Fr} (hx : Upto 1 x) (hy : Upto 1 y) : likF x y = (1, 1) ↔ Full x ∧ Full y := by
  have p1 := hx.pos
  have p2 := hy.pos
  have l1 := hx.le
  have l2 := hy.le
  rw [Nat.one_mul] at l1 l2
  unfold likF
  rw [low_one (Nat.mul_pos (by omega) p2)]
  have e1 : x.1 * y.2 ≤ x.2 * y.2 := Nat.mul_le_mul_right _ l1
  have e2 : y.1 * x.2 ≤ y.2 * x.2 := Nat.mul_le_mul_right _ l2
  have e3 : 2 * x.2 * y.2 = x.2 * y.2 + y.2 * x.2 := by
    rw [Nat.mul_comm y.2, Nat.mul_assoc]
    omega
  rw [e3]
  constructor
  · intro h
    exact ⟨Nat.eq_of_mul_eq_mul_right p2 (by omega), Nat.eq_of_mul_eq_mul_right p1 (by omega)⟩
  · intro ⟨h1, h2⟩
    have h1 : x.1 = x.2 := h1
    have h2 : y.1 = y.2 := h2
    rw [h1, h2]
theorem likF_comm (x y : Fr) : likF x y = likF y x := by
  unfold likF
  congr 1
  · exact Nat.add_comm _ _
  · rw [Nat.mul_assoc, Nat.mul_assoc, Nat.mul_comm x.2]
theorem like_comm (n : Nat) (a b : Con n) : like n a b = like n b a := likF_comm _ _
end K74
end
section
set_option Elab.async false
set_option linter.all false
set_option maxRecDepth 100000
set_option maxHeartbeats 4000000
/-! lean concepts say the same -/
namespace K74
open PySem MP
theorem liesL_refl : ∀ (n : Nat) (l : LinkT n), liesL n l l = true
  | 0, l => nomatch l
  | n + 1, l => by
    show liesN n l.2 l.2 = true
    exact liesN_iff.mpr ⟨fun _ h => h, fun w hw => ⟨w, hw, rfl, liesL_refl n w⟩⟩
theorem liesL_trans : ∀ (n : Nat) (a b c : LinkT n), liesL n a b = true → liesL n b c = true → liesL n a c = true
  | 0, a, _, _, _, _ => nomatch a
  | n + 1, a, b, c, h1, h2 => by
    have h1 : liesN n a.2 b.2 = true := h1
    have h2 : liesN n b.2 c.2 = true := h2
    obtain ⟨p1, q1⟩ := liesN_iff.mp h1
    obtain ⟨p2, q2⟩ := liesN_iff.mp h2
    show liesN n a.2 c.2 = true
    refine liesN_iff.mpr ⟨fun x hx => p1 x (p2 x hx), fun w hw => ?_⟩
    obtain ⟨k, hk, rk, lk⟩ := q2 w hw
    obtain ⟨j, hj, rj, lj⟩ := q1 k hk
    exact ⟨j, hj, rj.trans rk, liesL_trans n j k w lj lk⟩
theorem liesN_refl {n : Nat} {a : Con n} : liesN n a a = true := liesN_iff.mpr ⟨fun _ h => h, fun w hw => ⟨w, hw, rfl, liesL_refl n w⟩⟩
theorem liesN_trans {n : Nat} {a b c : Con n} (h1 : liesN n a b = true) (h2 : liesN n b c = true) : liesN n a c = true := by
  obtain ⟨p1, q1⟩ := liesN_iff.mp h1
  obtain ⟨p2, q2⟩ := liesN_iff.mp h2
  refine liesN_iff.mpr ⟨fun x hx => p1 x (p2 x hx), fun w hw => ?_⟩
  obtain ⟨k, hk, rk, lk⟩ := q2 w hw
  obtain ⟨j, hj, rj, lj⟩ := q1 k hk
  exact ⟨j, hj, rj.trans rk, liesL_trans n j k w lj lk⟩
/-- the one is under the same role and says at least as much -/
def Ov (n : Nat) (k l : LinkT n) : Prop := role n k = role n l ∧ liesL n k l = true
theorem Ov.trans {n : Nat} {a b c : LinkT n} (h1 : Ov n a b) (h2 : Ov n b c) : Ov n a c := ⟨h1.1.trans h2.1, liesL_trans n a b c h1.2 h2.2⟩
theorem Ov.refl {n : Nat} (a : LinkT n) : Ov n a a := ⟨rfl, liesL_refl n a⟩
/-- of a few, each has one over it that none is over -/
theorem top_of {n : Nat} (fs : List (LinkT n)) (anti : ∀ a ∈ fs, ∀ b ∈ fs, Ov n a b → Ov n b a → a = b) : ∀ (m : Nat) (l : LinkT n), l ∈ fs → (fs.filter fun j => decide (role n j = role n l) && liesL n j l).length ≤ m → ∃ k ∈ fs, Ov n k l ∧ ∀ j ∈ fs, Ov n j k → j = k
  | 0, l, hl, hm => by
    have : l ∈ fs.filter fun j => decide (role n j = role n l) && liesL n j l := List.mem_filter.mpr ⟨hl, by simp [liesL_refl]⟩
    have := List.length_pos_of_mem this
    omega
  | m + 1, l, hl, hm => by
    by_cases h : ∃ j ∈ fs, Ov n j l ∧ j ≠ l
    · obtain ⟨j, hj, oj, ne⟩ := h
      have nl : ¬ Ov n l j := fun z => ne (anti j hj l hl oj z)
      have hlt : (fs.filter fun i => decide (role n i = role n j) && liesL n i j).length < (fs.filter fun i => decide (role n i = role n l) && liesL n i l).length := by
        have e : (fs.filter fun i => decide (role n i = role n j) && liesL n i j) = (fs.filter fun i => decide (role n i = role n l) && liesL n i l).filter fun i => decide (role n i = role n j) && liesL n i j := by
          rw [List.filter_filter]
          refine List.filter_congr fun i _ => ?_
          cases hb : (decide (role n i = role n j) && liesL n i j) with
          | false => rfl
          | true =>
            rw [Bool.and_eq_true, decide_eq_true_eq] at hb
            have o : Ov n i l := Ov.trans hb oj
            rw [Bool.true_and]
            exact (by rw [Bool.and_eq_true, decide_eq_true_eq]; exact o : (decide (role n i = role n l) && liesL n i l) = true).symm
        rw [e]
        refine List.length_filter_lt_length_iff_exists.mpr ⟨l, List.mem_filter.mpr ⟨hl, by simp [liesL_refl]⟩, fun z => nl ?_⟩
        rw [Bool.and_eq_true, decide_eq_true_eq] at z
        exact z
      obtain ⟨k, hk, ok, tk⟩ := top_of fs anti m j hj (by omega)
      exact ⟨k, hk, ok.trans oj, tk⟩
    · refine ⟨l, hl, Ov.refl l, fun j hj oj => ?_⟩
      refine Classical.byContradiction fun ne => h ⟨j, hj, oj, ne⟩
theorem lone_iff {n : Nat} {fs : List (LinkT n)} {l : LinkT n} : lone n fs l = true ↔ ∀ k ∈ fs, Ov n k l → k = l := by
  unfold lone
  rw [Bool.not_eq_true', ← Bool.not_eq_true, List.any_eq_true]
  constructor
  · intro h k hk o
    refine Classical.byContradiction fun ne => h ⟨k, hk, ?_⟩
    rw [Bool.and_eq_true, Bool.and_eq_true, decide_eq_true_eq, Bool.not_eq_true', decide_eq_false_iff_not]
    exact ⟨ne, o⟩
  · intro h ⟨k, hk, o⟩
    rw [Bool.and_eq_true, Bool.and_eq_true, decide_eq_true_eq, Bool.not_eq_true', decide_eq_false_iff_not] at o
    exact o.1 (h k hk o.2)
/-! ### one form for what says the same -/
def nfL : (n : Nat) → LinkT n → Prop
  | 0, l => nomatch l
  | n + 1, l => l.2.1.Pairwise sLt ∧ l.2.2.Pairwise (ltK n) ∧ (∀ k ∈ l.2.2, nfL n k) ∧ ∀ k ∈ l.2.2, ∀ j ∈ l.2.2, Ov n k j → k = j
theorem ext_sorted {α : Type} [DecidableEq α] {R : α → α → Prop} (irr : ∀ a, ¬ R a a) (tr : ∀ a b c, R a b → R b c → R a c) {l m : List α} (hl : l.Pairwise R) (hm : m.Pairwise R) (h : ∀ x, x ∈ l ↔ x ∈ m) : l = m := by
  have nd : ∀ {l : List α}, l.Pairwise R → l.Nodup := fun hp => hp.imp fun {a b} hab e => by subst e; exact irr _ hab
  have p : l.Perm m := (List.perm_ext_iff_of_nodup (nd hl) (nd hm)).mpr h
  exact List.Perm.eq_of_pairwise (le := R) (fun a b _ _ h1 h2 => absurd (tr a b a h1 h2) (irr a)) hl hm p
open PyProof.Rows PySem.W in
theorem ltK_irr {n : Nat} (l : LinkT n) : ¬ ltK n l l := fun h => ltK_ne h rfl
open PyProof.Rows PySem.W in
theorem ltK_trans {n : Nat} (a b c : LinkT n) (h1 : ltK n a b) (h2 : ltK n b c) : ltK n a c := by
  have h1 : PyProof.Rows.lexLt itemOrd (W.keyToks (linkD n a).pd) (W.keyToks (linkD n b).pd) = true := h1
  have h2 : PyProof.Rows.lexLt itemOrd (W.keyToks (linkD n b).pd) (W.keyToks (linkD n c).pd) = true := h2
  exact lex_trans (O := itemOrd) _ _ _ h1 h2
theorem anti_link : ∀ (n : Nat) (l m : LinkT n), nfL n l → nfL n m → role n l = role n m → liesL n l m = true → liesL n m l = true → l = m
  | 0, l, _, _, _, _, _, _ => nomatch l
  | n + 1, (r, ns, ls), (r', ns', ls'), hl, hm, hr, h1, h2 => by
    obtain ⟨a1, a2, a3, a4⟩ := hl
    obtain ⟨b1, b2, b3, b4⟩ := hm
    have h1 : liesN n (ns, ls) (ns', ls') = true := h1
    have h2 : liesN n (ns', ls') (ns, ls) = true := h2
    obtain ⟨p1, q1⟩ := liesN_iff.mp h1
    obtain ⟨p2, q2⟩ := liesN_iff.mp h2
    have hr : r = r' := hr
    have en : ns = ns' := ext_sorted sLt_irrefl (fun a b c => sLt_trans) a1 b1 fun x => ⟨p2 x, p1 x⟩
    have el : ls = ls' := ext_sorted ltK_irr ltK_trans a2 b2 fun w => by
      constructor
      · intro hw
        obtain ⟨k, hk, rk, lk⟩ := q2 w hw
        obtain ⟨j, hj, rj, lj⟩ := q1 k hk
        have : j = w := a4 j hj w hw (Ov.trans ⟨rj, lj⟩ ⟨rk, lk⟩)
        subst this
        have : k = j := anti_link n k j (b3 k hk) (a3 j hw) rk lk lj
        rw [← this]
        exact hk
      · intro hw
        obtain ⟨k, hk, rk, lk⟩ := q1 w hw
        obtain ⟨j, hj, rj, lj⟩ := q2 k hk
        have : j = w := b4 j hj w hw (Ov.trans ⟨rj, lj⟩ ⟨rk, lk⟩)
        subst this
        have : k = j := anti_link n k j (a3 k hk) (b3 j hw) rk lk lj
        rw [← this]
        exact hk
    rw [hr, en, el]
theorem mem_leanL {n : Nat} {ls : List (LinkT n)} {k : LinkT n} : k ∈ sortK n ((firsts n (ls.map (leanL n))).filter (lone n (firsts n (ls.map (leanL n))))) ↔ (∃ l ∈ ls, k = leanL n l) ∧ lone n (firsts n (ls.map (leanL n))) k = true := by
  rw [(sortK_perm n _).mem_iff, List.mem_filter, mem_firsts, List.mem_map]
  constructor
  · intro ⟨⟨l, hl, e⟩, h⟩; exact ⟨⟨l, hl, e.symm⟩, h⟩
  · intro ⟨⟨l, hl, e⟩, h⟩; exact ⟨⟨l, hl, e.symm⟩, h⟩
theorem nf_lean : ∀ (n : Nat) (l : LinkT n), gL n l → nfL n (leanL n l)
  | 0, l, _ => nomatch l
  | n + 1, (r, ns, ls), ⟨h1, h2, h3, h4, h5, h6, h7⟩ => by
    refine ⟨h3, sortK_rising ((firsts_nodup _).sublist List.filter_sublist), fun k hk => ?_, fun k hk j hj o => ?_⟩
    · obtain ⟨⟨l, hl, rfl⟩, -⟩ := mem_leanL.mp hk
      exact nf_lean n l (h7 l hl)
    · obtain ⟨-, hlj⟩ := mem_leanL.mp hj
      obtain ⟨⟨l, hl, e⟩, -⟩ := mem_leanL.mp hk
      exact lone_iff.mp hlj k (mem_firsts.mpr (List.mem_map.mpr ⟨l, hl, e.symm⟩)) o
theorem lean_le : ∀ (n : Nat) (l : LinkT n), gL n l → liesL n (leanL n l) l = true ∧ liesL n l (leanL n l) = true
  | 0, l, _ => nomatch l
  | n + 1, (r, ns, ls), ⟨h1, h2, h3, h4, h5, h6, h7⟩ => by
    constructor
    · show liesN n (ns, sortK n ((firsts n (ls.map (leanL n))).filter (lone n (firsts n (ls.map (leanL n)))))) (ns, ls) = true
      refine liesN_iff.mpr ⟨fun _ h => h, fun w hw => ?_⟩
      have mw : leanL n w ∈ firsts n (ls.map (leanL n)) := mem_firsts.mpr (List.mem_map.mpr ⟨w, hw, rfl⟩)
      obtain ⟨k, hk, ok, tk⟩ := top_of (firsts n (ls.map (leanL n))) (fun a ha b hb o1 o2 => by
        obtain ⟨x, hx, rfl⟩ := List.mem_map.mp (mem_firsts.mp ha)
        obtain ⟨y, hy, rfl⟩ := List.mem_map.mp (mem_firsts.mp hb)
        exact anti_link n _ _ (nf_lean n x (h7 x hx)) (nf_lean n y (h7 y hy)) o1.1 o1.2 o2.2) _ (leanL n w) mw (Nat.le_refl _)
      obtain ⟨x, hx, rfl⟩ := List.mem_map.mp (mem_firsts.mp hk)
      refine ⟨leanL n x, mem_leanL.mpr ⟨⟨x, hx, rfl⟩, lone_iff.mpr tk⟩, ok.1.trans (role_lean n w), ?_⟩
      exact liesL_trans n _ _ _ ok.2 (lean_le n w (h7 w hw)).1
    · show liesN n (ns, ls) (ns, sortK n ((firsts n (ls.map (leanL n))).filter (lone n (firsts n (ls.map (leanL n)))))) = true
      refine liesN_iff.mpr ⟨fun _ h => h, fun w hw => ?_⟩
      obtain ⟨⟨l, hl, rfl⟩, -⟩ := mem_leanL.mp hw
      exact ⟨l, hl, (role_lean n l).symm, (lean_le n l (h7 l hl)).2⟩
theorem lean_both {n : Nat} {c : Con n} (h : gC n c) : liesN n (leanN n c) c = true ∧ liesN n c (leanN n c) = true := by
  have hx : ∃ x : Str, NameOk x := ⟨⟨#[97]⟩, ⟨by decide +kernel, by decide +kernel, by decide +kernel, by decide +kernel, by decide +kernel⟩⟩
  obtain ⟨x, hx⟩ := hx
  exact lean_le (n + 1) (mkL n x c) ⟨hx, h⟩
theorem lies_lean {n : Nat} {a b : Con n} (ha : gC n a) (hb : gC n b) : liesN n (leanN n a) (leanN n b) = liesN n a b := by
  obtain ⟨a1, a2⟩ := lean_both ha
  obtain ⟨b1, b2⟩ := lean_both hb
  rw [Bool.eq_iff_iff]
  exact ⟨fun h => liesN_trans a2 (liesN_trans h b1), fun h => liesN_trans a1 (liesN_trans h b2)⟩
theorem met_one {n : Nat} {a b : Con n} (ha : gC n a) (hb : gC n b) : met n a b = (1, 1) ↔ liesN n a b = true := by
  unfold met
  rw [metN_one, lies_lean ha hb]
theorem like_one {n : Nat} {a b : Con n} (ha : gC n a) (hb : gC n b) : like n a b = (1, 1) ↔ liesN n a b = true ∧ liesN n b a = true := by
  unfold like
  have e : ∀ a b : Con n, Full (met n a b) ↔ met n a b = (1, 1) := fun a b => ⟨fun z => metC_one z (metN_upto (a := leanN n a) (b := leanN n b)).pos, full_one⟩
  have u1 : Upto 1 (met n a b) := metN_upto
  have u2 : Upto 1 (met n b a) := metN_upto
  rw [likF_one u1 u2, e, e, met_one ha hb, met_one hb ha]
/-- what is put together has no smaller share of anything -/
theorem tog_lies {n : Nat} (a b : Con n) : liesN n (tog n a b) b = true := by
  refine liesN_iff.mpr ⟨fun x hx => mem_sortT.mpr (List.mem_append_right _ hx), fun w hw => ⟨w, ?_, rfl, liesL_refl n w⟩⟩
  exact (sortK_perm n _).mem_iff.mpr (mem_firsts.mpr (List.mem_append_right _ hw))
theorem met_tog {n : Nat} {a b c : Con n} (ht : gC n (tog n a b)) (hb : gC n b) : Le (met n b c) (met n (tog n a b) c) := by
  refine metN_mono ?_
  rw [lies_lean ht hb]
  exact tog_lies a b
end K74
end
section
set_option Elab.async false
set_option linter.all false
set_option maxRecDepth 100000
set_option maxHeartbeats 4000000
set_option exponentiation.threshold 5000
/-! what can be written down: texts, and ints of up to 1919 bits -/
namespace K74
open PySem MP
structure Wd (n b : Nat) (d : D) : Prop where
  fl : d.flat = true
  sh : d.pd.showable = true
  lv : d.pd.leavesShort 600 = true
  tx : ok1 d.pd.shown
  dp : d.pd.depth ≤ n
  bk : d.pd.bulk ≤ b
structure WdL (n b : Nat) (l : List D) : Prop where
  fl : flatL l = true
  sh : PyData.showableAll (pdL l) = true
  lv : PyData.leavesShortAll 600 (pdL l) = true
  tx : ∀ t ∈ PyData.shownAll (pdL l), ok1 t
  dp : PyData.depthAll (pdL l) ≤ n
  bk : PyData.bulkAll (pdL l) ≤ b
theorem Wd.mono {n b n' b' : Nat} {d : D} (h : Wd n b d) (h1 : n ≤ n') (h2 : b ≤ b') : Wd n' b' d := ⟨h.fl, h.sh, h.lv, h.tx, Nat.le_trans h.dp h1, Nat.le_trans h.bk h2⟩
theorem WdL.mono {n b n' b' : Nat} {l : List D} (h : WdL n b l) (h1 : n ≤ n') (h2 : b ≤ b') : WdL n' b' l := ⟨h.fl, h.sh, h.lv, h.tx, Nat.le_trans h.dp h1, Nat.le_trans h.bk h2⟩
theorem wd_str {x : Str} (h : PyData.strOk x = true) : Wd 0 x.cps.size (.str x) := by
  have h' := ok1_iff.mp h
  refine ⟨rfl, rfl, ?_, ?_, Nat.zero_le _, Nat.le_refl _⟩
  · show (x.cps.toList.all fun c => decide (c < 16 ^ 8)) = true
    rw [List.all_eq_true]
    intro c hc
    have := h' c hc
    rw [decide_eq_true_eq]
    omega
  · show ok1 (PyData.str x).shown
    rw [PyData.shown_str]
    exact ok1_repr h'
theorem pow_small : (2 : Nat) ^ 1919 < 10 ^ 599 := by decide +kernel
theorem wd_nat {k : Nat} (h : k < 2 ^ 1919) : Wd 0 0 (.int (k : Nat)) := by
  refine ⟨rfl, ?_, ?_, ?_, Nat.zero_le _, Nat.le_refl _⟩
  · show decide (((k : Nat) : Int).natAbs.log2 < 1920) = true
    rw [decide_eq_true_eq, Int.natAbs_natCast]
    by_cases z : k = 0
    · rw [z]; decide
    · exact (Nat.log2_lt z).mpr (Nat.lt_trans h (Nat.pow_lt_pow_right (by omega) (by omega)))
  · show decide ((PyData.shown (.int (k : Nat))).length ≤ 600) = true
    have e := int_text_length_le10 (a := ((k : Nat) : Int)) (k := 599) (by omega) (by rw [Int.natAbs_natCast]; exact Nat.lt_trans h pow_small)
    rw [decide_eq_true_eq]
    show (Str.ofString (toString ((k : Nat) : Int))).length ≤ 600
    rw [ofString_length]
    exact e
  · show ok1 (PyData.int (k : Nat)).shown
    rw [PyData.shown_int]
    exact ok1_string _
theorem wdl_nil (n : Nat) : WdL n 0 [] := ⟨rfl, rfl, rfl, by simp [pdL, PyData.shownAll], Nat.zero_le _, Nat.le_refl _⟩
theorem wdl_cons {n b c : Nat} {d : D} {l : List D} (h : Wd n b d) (h2 : WdL n c l) : WdL n (b + 1 + c) (d :: l) := by
  refine ⟨by simp [flatL, h.fl, h2.fl], by simp [pdL, PyData.showableAll, h.sh, h2.sh], by simp [pdL, PyData.leavesShortAll, h.lv, h2.lv], ?_, ?_, ?_⟩
  · intro u hu
    rw [pdL, PyData.shownAll_cons] at hu
    rcases List.mem_cons.mp hu with rfl | hu
    · exact h.tx
    · exact h2.tx u hu
  · simp only [pdL, PyData.depthAll]
    have := h.dp
    have := h2.dp
    omega
  · simp only [pdL, PyData.bulkAll]
    have := h.bk
    have := h2.bk
    omega
theorem wd_tup {n b : Nat} {l : List D} (h : WdL n b l) : Wd (n + 1) b (.tup l) := by
  refine ⟨h.fl, h.sh, h.lv, ?_, ?_, h.bk⟩
  · show ok1 (PyData.tuple (pdL l)).shown
    simp only [PyData.shown]
    exact ok1_tuple _ h.tx
  · show PyData.depthAll (pdL l) + 1 ≤ n + 1
    have := h.dp
    omega
theorem wd_lst {n b : Nat} {l : List D} (h : WdL n b l) : Wd (n + 1) b (.lst l) := by
  refine ⟨h.fl, h.sh, h.lv, ?_, ?_, h.bk⟩
  · show ok1 (PyData.list (pdL l)).shown
    simp only [PyData.shown]
    exact ok1_list _ h.tx
  · show PyData.depthAll (pdL l) + 1 ≤ n + 1
    have := h.dp
    omega
theorem Wd.ok {n b : Nat} {d : D} (h : Wd n b d) (hn : n ≤ 60) (hb : b ≤ 27000) : reprOk d = true := by
  have := PyData.shown_le_bulk 600 (by omega) d.pd h.lv
  have h1 := h.bk
  have h2 := h.dp
  unfold reprOk
  simp only [h.fl, h.sh, Bool.true_and, Bool.and_eq_true, decide_eq_true_eq]
  omega
theorem Wd.repr {n b : Nat} {d : D} (h : Wd n b d) (hn : n ≤ 60) (hb : b ≤ 27000) : prim .repr [d] = some (.str d.pd.shown) := by
  show (if reprOk d then some (D.str d.pd.shown) else none) = _
  rw [if_pos (h.ok hn hb)]
theorem Wd.same (m : Nat) {n b : Nat} {d : D} (h : Wd n b d) (t : Sto) (hn : n ≤ 59) (hb : b ≤ 26000) : callF FF 100000 (m + 1) 13 [d, d] t = .ok (.bl true) t := by
  have hF : FF[13]? = some ⟨2, 2, b_law_same⟩ := rfl
  have hL : Wd (n + 1) (b + 1 + 0) (.lst [d]) := wd_lst (wdl_cons h (wdl_nil n))
  have p1 := hL.repr (by omega) (by omega)
  have p2 := p_eq_str (ok1_iff.mpr hL.tx) (ok1_iff.mpr hL.tx)
  rw [decide_eq_true rfl] at p2
  rw [callF_succ, hF]
  show (if [d, d].length = 2 then runRes (evalSs (callF FF 100000 m) 100000 b_law_same { loc := [d, d].map .val ++ List.replicate (2 - 2) .unb, sto := t }) else .bad) = _
  rw [if_pos (show [d, d].length = 2 from rfl)]
  unfold b_law_same
  simp [rdVar, p1, p2]
/-! ### concepts and shares -/
theorem wd_names : ∀ {l : Row}, (∀ x ∈ l, NameOk x) → WdL 0 (13 * l.length) (l.map D.str)
  | [], _ => wdl_nil 0
  | x :: l, h => by
    have hx := h x List.mem_cons_self
    have a := wd_str hx.ok
    have := hx.l2
    refine (wdl_cons a (wd_names fun y hy => h y (List.mem_cons_of_mem _ hy))).mono (Nat.le_refl _) ?_
    rw [List.length_cons]
    omega
theorem wd_set {l : Row} (h : ∀ x ∈ l, NameOk x) : Wd 1 (13 * l.length) (setD l) := wd_tup (wd_names h)
theorem wd_links {n : Nat} (k : ∀ l : LinkT n, gL n l → Wd (3 * n) (20 * szL n l + 16) (linkD n l)) : ∀ {ls : List (LinkT n)}, (∀ l ∈ ls, gL n l) → WdL (3 * n) (20 * (ls.map fun k => 1 + szL n k).sum) (ls.map (linkD n))
  | [], _ => wdl_nil _
  | l :: ls, h => by
    refine (wdl_cons (k l (h l List.mem_cons_self)) (wd_links k fun y hy => h y (List.mem_cons_of_mem _ hy))).mono (Nat.le_refl _) ?_
    rw [List.map_cons, List.sum_cons]
    omega
theorem wd_body {n : Nat} (k : ∀ l : LinkT n, gL n l → Wd (3 * n) (20 * szL n l + 16) (linkD n l)) {c : Con n} (h : gC n c) : Wd (3 * n + 2) (20 * szC n c + 2) (conD n c) := by
  have a : Wd (3 * n + 1) (13 * c.1.length) (setD c.1) := (wd_set h.1).mono (by omega) (Nat.le_refl _)
  have b := wd_tup (wd_links k h.2.2.2.2.2)
  refine (wd_tup (wdl_cons a (wdl_cons b (wdl_nil _)))).mono (Nat.le_refl _) ?_
  unfold szC
  omega
theorem wd_link : ∀ (n : Nat) (l : LinkT n), gL n l → Wd (3 * n) (20 * szL n l + 16) (linkD n l)
  | 0, l, _ => nomatch l
  | n + 1, l, h => by
    have hx := h.1
    have a := wd_str hx.ok
    have := hx.l2
    have b := wd_body (wd_link n) h.sub
    have := wd_tup (wdl_cons (a.mono (n' := 3 * n + 2) (by omega) (Nat.le_refl _)) (wdl_cons b (wdl_nil _)))
    refine this.mono (by omega) ?_
    have e : szC n l.2 = szL (n + 1) l := rfl
    rw [e]
    omega
theorem wd_con {n : Nat} {c : Con n} (h : gC n c) : Wd (3 * n + 2) (20 * szC n c + 2) (conD n c) := wd_body (wd_link n) h
theorem wd_fr {x : Fr} (h1 : x.1 < 2 ^ 1919) (h2 : x.2 < 2 ^ 1919) : Wd 1 2 (frD x) := wd_tup (wdl_cons (wd_nat h1) (wdl_cons (wd_nat h2) (wdl_nil _)))
theorem wd_tell {x : Fr} (h : Wd 1 2 (frD x)) : Wd 2 8 (tell (frD x)) := wd_tup (wdl_cons ((wd_str told_ok).mono (n' := 1) (b' := 4) (by omega) (by decide +kernel)) (wdl_cons h (wdl_nil _)))
theorem met_fr {n : Nat} {a b : Con n} (h : Cmp n a b) : Wd 1 2 (frD (met n a b)) := by
  have := (met_ok h).lt (m := 1919) (by have := h.s; omega)
  exact wd_fr this.1 this.2
theorem like_fr {n : Nat} {a b : Con n} (h : Cmp n a b) : Wd 1 2 (frD (like n a b)) := by
  have o1 := met_ok h
  have o2 := met_ok h.swap
  have q := likF_q o1 o2
  have s := h.s
  have l2 : (like n a b).2 ≤ 2 * (met n a b).2 * (met n b a).2 := low_le2
  have hq : (2 : Nat) ^ (1 + (8 + 10 * szC n b) + (8 + 10 * szC n a)) < 2 ^ 1919 := Nat.pow_lt_pow_right (by omega) (by omega)
  have l1 : (like n a b).1 ≤ 1 * (like n a b).2 := by
    refine low_le q.1 ?_
    have e1 : (met n a b).1 * (met n b a).2 ≤ (met n a b).2 * (met n b a).2 := Nat.mul_le_mul_right _ o1.le
    have e2 : (met n b a).1 * (met n a b).2 ≤ (met n b a).2 * (met n a b).2 := Nat.mul_le_mul_right _ o2.le
    have e3 : 2 * (met n a b).2 * (met n b a).2 = (met n a b).2 * (met n b a).2 + (met n b a).2 * (met n a b).2 := by
      rw [Nat.mul_comm (met n b a).2, Nat.mul_assoc]
      omega
    omega
  have h2 : (like n a b).2 < 2 ^ 1919 := by omega
  exact wd_fr (by omega) h2
end K74
end
section
set_option Elab.async false
set_option linter.all false
set_option maxRecDepth 100000
set_option maxHeartbeats 4000000
/-! one turn of the law -/
namespace K74
open PySem MP
structure GT where
  s2 : MP.Slot := .unb
  s3 : MP.Slot := .unb
  s4 : MP.Slot := .unb
  s5 : MP.Slot := .unb
  s6 : MP.Slot := .unb
  s7 : MP.Slot := .unb
  s8 : MP.Slot := .unb
  s9 : MP.Slot := .unb
  s10 : MP.Slot := .unb
  s11 : MP.Slot := .unb
  s12 : MP.Slot := .unb
  s13 : MP.Slot := .unb
  s14 : MP.Slot := .unb
  s15 : MP.Slot := .unb
def eH (ns : List Int) (t : Sto) (g : GT) : S := { loc := [.val (.scr ns), .val (.ref 0), g.s2, g.s3, g.s4, g.s5, g.s6, g.s7, g.s8, g.s9, g.s10, g.s11, g.s12, g.s13, g.s14, g.s15], sto := t }
abbrev w1 : PS := (.set (.nm 8) (.tup (.cons (.call 17 (.cons (.var 1) (.cons (.prim .add (.cons (.con (.int 1)) (.cons (.call 15 (.cons (.var 1) (.cons (.con (.int 4)) .nil))) .nil))) .nil))) (.cons (.call 17 (.cons (.var 1) (.cons (.prim .add (.cons (.con (.int 1)) (.cons (.call 15 (.cons (.var 1) (.cons (.con (.int 2)) .nil))) .nil))) .nil))) .nil))))
theorem st_w1 {ns nums : List Int} {c : Int} (h : NumsOk nums) (hc : 0 ≤ c ∧ c ≤ 500000000) (g : GT) :
    ∃ (names roles : Row) (c' : Int), Names names ∧ names.length ≤ 4 ∧ Names roles ∧ (c ≤ c' ∧ c' ≤ c + 500) ∧ evalS (callF FF 100000 99) 100000 w1 (eH ns (St nums c) g) = .ok .nx (eH ns (St nums c') { g with s8 := .val (wD names roles) }) := by
  obtain ⟨v, v0, v1, ev⟩ := sp_next 98 (c := c) (many := 4) h (by omega) (by omega)
  obtain ⟨k, rfl⟩ : ∃ k : Nat, v = k := ⟨v.toNat, by omega⟩
  obtain ⟨names, c1, gn, hn, hc1, et⟩ := sp_texts 96 (c := c + 1) (1 + k) h (by omega) (by omega)
  obtain ⟨u, u0, u1, eu⟩ := sp_next 98 (c := c1) (many := 2) h (by omega) (by omega)
  obtain ⟨j, rfl⟩ : ∃ j : Nat, u = j := ⟨u.toNat, by omega⟩
  obtain ⟨roles, c2, gr, hr, hc2, er⟩ := sp_texts 96 (c := c1 + 1) (1 + j) h (by omega) (by omega)
  refine ⟨names, roles, c2, gn, by omega, gr, by omega, ?_⟩
  have e1 : ∀ s : S, s.sto = St nums c → callO (callF FF 100000 99) 15 [.ref 0, .int 4] s = .ok (.int (k : Nat)) { s with sto := St nums (c + 1) } := fun s hs => call_to hs ev
  have e2 : ∀ s : S, s.sto = St nums (c + 1) → callO (callF FF 100000 99) 17 [.ref 0, .int ((1 + k : Nat) : Int)] s = .ok (setD names) { s with sto := St nums c1 } := fun s hs => call_to hs et
  have e3 : ∀ s : S, s.sto = St nums c1 → callO (callF FF 100000 99) 15 [.ref 0, .int 2] s = .ok (.int (j : Nat)) { s with sto := St nums (c1 + 1) } := fun s hs => call_to hs eu
  have e4 : ∀ s : S, s.sto = St nums (c1 + 1) → callO (callF FF 100000 99) 17 [.ref 0, .int ((1 + j : Nat) : Int)] s = .ok (setD roles) { s with sto := St nums c2 } := fun s hs => call_to hs er
  have a1 : prim .add [.int 1, .int (k : Nat)] = some (.int ((1 + k : Nat) : Int)) := p_add_nat 1 k
  have a2 : prim .add [.int 1, .int (j : Nat)] = some (.int ((1 + j : Nat) : Int)) := p_add_nat 1 j
  have hw : wD names roles = .tup [setD names, setD roles] := rfl
  rw [hw]
  generalize setD names = x1 at *
  generalize setD roles = x2 at *
  generalize ((1 + k : Nat) : Int) = z1 at *
  generalize ((1 + j : Nat) : Int) = z2 at *
  simp [eH, rdVar, e1, e2, e3, e4, a1, a2, MP.assign]
abbrev w2 : PS := (.set (.nm 9) (.call 18 (.cons (.var 1) (.cons (.var 8) (.cons (.prim .add (.cons (.con (.int 1)) (.cons (.call 15 (.cons (.var 1) (.cons (.con (.int 3)) .nil))) .nil))) (.cons (.con (.int 2)) .nil))))))
theorem sS_le : ∀ d : Nat, d ≤ 3 → sS d ≤ 74 := by decide
theorem cT_le : ∀ d : Nat, d ≤ 3 → cT d ≤ 200
  | 0, _ => by decide
  | 1, _ => by decide
  | 2, _ => by decide
  | 3, _ => by decide
  | d + 4, h => absurd h (by omega)
theorem st_w2 {ns nums : List Int} {c : Int} {names roles : Row} (h : NumsOk nums) (gn : Names names) (hn4 : names.length ≤ 4) (gr : Names roles) (hc : 0 ≤ c ∧ c ≤ 500000000) (g : GT) (h8 : g.s8 = .val (wD names roles)) :
    ∃ (d : Nat) (a : Con 3) (c' : Int), d ≤ 3 ∧ Drawn names d 3 a ∧ (c ≤ c' ∧ c' ≤ c + 500) ∧ evalS (callF FF 100000 99) 100000 w2 (eH ns (St nums c) g) = .ok .nx (eH ns (St nums c') { g with s9 := .val (conD 3 a) }) := by
  obtain ⟨v, v0, v1, ev⟩ := sp_next 98 (c := c) (many := 3) h (by omega) (by omega)
  obtain ⟨k, rfl⟩ : ∃ k : Nat, v = k := ⟨v.toNat, by omega⟩
  have cd := cT_le (1 + k) (by omega)
  obtain ⟨a, c2, ha, hc2, ea⟩ := sp_concept (roles := roles) h gn hn4 gr (1 + k) 3 (96 - k) (c + 1) (by omega) (by omega) (by omega) (by omega)
  rw [show 96 - k + (1 + k) + 2 = 99 by omega] at ea
  refine ⟨1 + k, a, c2, by omega, ha, by omega, ?_⟩
  have e1 : ∀ s : S, s.sto = St nums c → callO (callF FF 100000 99) 15 [.ref 0, .int 3] s = .ok (.int (k : Nat)) { s with sto := St nums (c + 1) } := fun s hs => call_to hs ev
  have e2 : ∀ s : S, s.sto = St nums (c + 1) → callO (callF FF 100000 99) 18 [.ref 0, wD names roles, .int ((1 + k : Nat) : Int), .int 2] s = .ok (conD 3 a) { s with sto := St nums c2 } := fun s hs => call_to hs ea
  have a1 : prim .add [.int 1, .int (k : Nat)] = some (.int ((1 + k : Nat) : Int)) := p_add_nat 1 k
  generalize conD 3 a = x1 at *
  generalize wD names roles = x2 at *
  generalize ((1 + k : Nat) : Int) = z1 at *
  simp [eH, rdVar, h8, e1, e2, a1, MP.assign]
abbrev w3 : PS := (.set (.nm 10) (.call 28 (.cons (.var 1) (.cons (.var 9) (.cons (.var 8) .nil)))))
theorem st_w3 {ns nums : List Int} {c : Int} {names roles : Row} (h : NumsOk nums) (gn : Names names) (hn4 : names.length ≤ 4) (gr : Names roles) (hc : 0 ≤ c ∧ c ≤ 500000000) {d : Nat} (hd : d ≤ 3) {a : Con 3} (ha : Drawn names d 3 a) (g : GT) (h8 : g.s8 = .val (wD names roles)) (h9 : g.s9 = .val (conD 3 a)) :
    ∃ (b : Con 3) (c' : Int), Near 3 b ∧ (c ≤ c' ∧ c' ≤ c + 500) ∧ evalS (callF FF 100000 99) 100000 w3 (eH ns (St nums c) g) = .ok .nx (eH ns (St nums c') { g with s10 := .val (conD 3 b) }) := by
  obtain ⟨b, c', hb, hc', eb⟩ := sp_near (roles := roles) h gn hn4 gr 94 c (by omega) (by omega) (sS_le d hd) (by omega) (by omega) ha
  refine ⟨b, c', hb, by omega, ?_⟩
  have e2 : ∀ s : S, s.sto = St nums c → callO (callF FF 100000 99) 28 [.ref 0, conD 3 a, wD names roles] s = .ok (conD 3 b) { s with sto := St nums c' } := fun s hs => call_to hs eb
  generalize conD 3 a = x1 at *
  generalize conD 3 b = x3 at *
  generalize wD names roles = x2 at *
  simp [eH, rdVar, h8, h9, e2, MP.assign]
abbrev w4 : PS := (.set (.nm 11) (.prim .repr (.cons (.tup (.cons (.var 9) (.cons (.var 10) .nil))) .nil)))
theorem wd_two {a b : Con 3} (ha : gC 3 a) (hb : gC 3 b) (s : szC 3 a + szC 3 b ≤ 200) : Wd 12 5000 (.tup [conD 3 a, conD 3 b]) := by
  refine (wd_tup (wdl_cons (wd_con ha) (wdl_cons (wd_con hb) (wdl_nil _)))).mono (by omega) (by omega)
theorem st_w4 (cf : CF) {ns : List Int} {t : Sto} {a b : Con 3} (ha : gC 3 a) (hb : gC 3 b) (s : szC 3 a + szC 3 b ≤ 200) (g : GT) (h9 : g.s9 = .val (conD 3 a)) (h10 : g.s10 = .val (conD 3 b)) :
    evalS cf 100000 w4 (eH ns t g) = .ok .nx (eH ns t { g with s11 := .val (.str (D.tup [conD 3 a, conD 3 b]).pd.shown) }) := by
  have r := (wd_two ha hb s).repr (by omega) (by omega)
  have d1 := flat_con 3 a
  have da := deref_con t 3 a
  have db := deref_con t 3 b
  generalize (D.tup [conD 3 a, conD 3 b]).pd.shown = x at *
  generalize conD 3 a = xa at *
  generalize conD 3 b = xb at *
  simp [eH, rdVar, h9, h10, deref, r, MP.assign]
end K74
end
section
set_option Elab.async false
set_option linter.all false
set_option maxRecDepth 100000
set_option maxHeartbeats 4000000
namespace K74
open PySem MP
theorem metM_fr {n : Nat} {a b : Con n} (h : CmpM n a b) : Wd 1 2 (frD (met n a b)) := by
  have := (metM_ok h).lt (m := 1919) (by have := h.sb; omega)
  exact wd_fr this.1 this.2
theorem ev_v {cf : CF} {i : Nat} {d : D} {s : S} (h : s.loc[i]? = some (.val d)) : evalE cf (.var i) s = .ok d s := by
  simp [rdVar, h]
abbrev w5 : PS := (.set (.nm 12) (.lst (.cons (.call 25 (.cons (.call 20 (.cons (.var 9) .nil)) (.cons (.call 20 (.cons (.var 10) .nil)) .nil))) (.cons (.call 26 (.cons (.var 9) (.cons (.var 10) .nil))) .nil))))
theorem st_w5 {ns : List Int} {t : Sto} {a b : Con 3} (h : Cmp 3 a b) (g : GT) (h9 : g.s9 = .val (conD 3 a)) (h10 : g.s10 = .val (conD 3 b)) :
    evalS (callF FF 100000 99) 100000 w5 (eH ns t g) = .ok .nx (eH ns t { g with s12 := .val (.lst [frD (met 3 a b), frD (like 3 a b)]) }) := by
  have k9 : evalE (callF FF 100000 99) (.var 9) (eH ns t g) = .ok (conD 3 a) (eH ns t g) := ev_v (by simp [eH, h9])
  have k10 : evalE (callF FF 100000 99) (.var 10) (eH ns t g) = .ok (conD 3 b) (eH ns t g) := ev_v (by simp [eH, h10])
  have v1 := ev_law_met 3 93 (by omega) h k9 k10
  have v2 := evalE_call (evalL_cons_ok k9 (evalL_cons_ok k10 (evL_nil _ _))) (sp_law_like 3 92 (by omega) h t)
  have v3 := evalL_cons_ok v1 (evalL_cons_ok v2 (evL_nil _ _))
  rw [st_set, ev_lst, v3]
  rfl
abbrev w6a : PE := (.lst (.cons (.call 27 (.cons (.con (.int 0)) (.cons (.var 9) (.cons (.var 10) .nil)))) (.cons (.call 27 (.cons (.con (.int 1)) (.cons (.var 9) (.cons (.var 10) .nil)))) (.cons (.call 27 (.cons (.con (.int 1)) (.cons (.var 10) (.cons (.var 9) .nil)))) .nil))))
abbrev w6b : PE := (.lst (.cons (.tup (.cons (.con (.str "told")) (.cons (.prim .item (.cons (.var 12) (.cons (.con (.int 0)) .nil))) .nil))) (.cons (.tup (.cons (.con (.str "told")) (.cons (.prim .item (.cons (.var 12) (.cons (.con (.int 1)) .nil))) .nil))) (.cons (.tup (.cons (.con (.str "told")) (.cons (.prim .item (.cons (.var 12) (.cons (.con (.int 1)) .nil))) .nil))) .nil))))
abbrev w6 : PS := (.ife (.nt (.call 13 (.cons w6a (.cons w6b .nil)))) (.cons (.ret (.con (.bl false))) .nil) .nil)
theorem told_met {a b : Con 3} (h : CmpM 3 a b) (t : Sto) : callF FF 100000 99 27 [.int 0, conD 3 a, conD 3 b] t = .ok (tell (frD (met 3 a b))) t := by
  rw [told_0 98, sp_met_share 3 91 (by omega) h t]
  rfl
theorem told_like {a b : Con 3} (h : Cmp 3 a b) (t : Sto) : callF FF 100000 99 27 [.int 1, conD 3 a, conD 3 b] t = .ok (tell (frD (like 3 a b))) t := by
  rw [told_1 98, sp_likeness 3 91 (by omega) h t]
  rfl
theorem st_w6 {ns : List Int} {t : Sto} {a b : Con 3} (h : Cmp 3 a b) (g : GT) (h9 : g.s9 = .val (conD 3 a)) (h10 : g.s10 = .val (conD 3 b)) (h12 : g.s12 = .val (.lst [frD (met 3 a b), frD (like 3 a b)])) :
    evalS (callF FF 100000 99) 100000 w6 (eH ns t g) = .ok .nx (eH ns t g) := by
  have k9 : evalE (callF FF 100000 99) (.var 9) (eH ns t g) = .ok (conD 3 a) (eH ns t g) := ev_v (by simp [eH, h9])
  have k10 : evalE (callF FF 100000 99) (.var 10) (eH ns t g) = .ok (conD 3 b) (eH ns t g) := ev_v (by simp [eH, h10])
  have c0 : evalE (callF FF 100000 99) (.con (.int 0)) (eH ns t g) = .ok (.int 0) (eH ns t g) := ev_con _ _ _
  have c1 : evalE (callF FF 100000 99) (.con (.int 1)) (eH ns t g) = .ok (.int 1) (eH ns t g) := ev_con _ _ _
  have n0 := evL_nil (callF FF 100000 99) (eH ns t g)
  have lc := like_comm 3 b a
  have t3 := told_like h.swap t
  rw [lc] at t3
  have v1 := evalE_call (evalL_cons_ok c0 (evalL_cons_ok k9 (evalL_cons_ok k10 n0))) (told_met h.m t)
  have v2 := evalE_call (evalL_cons_ok c1 (evalL_cons_ok k9 (evalL_cons_ok k10 n0))) (told_like h t)
  have v3 := evalE_call (evalL_cons_ok c1 (evalL_cons_ok k10 (evalL_cons_ok k9 n0))) t3
  have w1 := met_fr h
  have w2 := like_fr h
  generalize met 3 a b = x at *
  generalize like 3 a b = y at *
  have v4 : evalE (callF FF 100000 99) w6a (eH ns t g) = .ok (.lst [tell (frD x), tell (frD y), tell (frD y)]) (eH ns t g) := by
    have := evalL_cons_ok v1 (evalL_cons_ok v2 (evalL_cons_ok v3 n0))
    rw [ev_lst]
    exact (congrArg (fun z => Out.bind z _) this).trans rfl
  have v5 : evalE (callF FF 100000 99) w6b (eH ns t g) = .ok (.lst [tell (frD x), tell (frD y), tell (frD y)]) (eH ns t g) := by
    have i0 : prim .item [.lst [frD x, frD y], .int 0] = some (frD x) := rfl
    have i1 : prim .item [.lst [frD x, frD y], .int 1] = some (frD y) := rfl
    unfold tell
    clear v1 v2 v3 v4 t3
    generalize frD x = fx at *
    generalize frD y = fy at *
    simp [eH, rdVar, h12, i0, i1]
  have W : Wd 3 27 (.lst [tell (frD x), tell (frD y), tell (frD y)]) := wd_lst (wdl_cons (wd_tell w1) (wdl_cons (wd_tell w2) (wdl_cons (wd_tell w2) (wdl_nil _))))
  have v6 := evalE_call (evalL_cons_ok v4 (evalL_cons_ok v5 n0)) (W.same 98 t (by omega) (by omega))
  exact st_skip (ev_not v6)
abbrev w7a : PE := (.prim .ne (.cons (.prim .eq (.cons (.prim .item (.cons (.var 12) (.cons (.con (.int 0)) .nil))) (.cons (.tup (.cons (.con (.int 1)) (.cons (.con (.int 1)) .nil))) .nil))) (.cons (.call 19 (.cons (.var 9) (.cons (.var 10) .nil))) .nil)))
abbrev w7b : PE := (.prim .ne (.cons (.prim .eq (.cons (.prim .item (.cons (.var 12) (.cons (.con (.int 1)) .nil))) (.cons (.tup (.cons (.con (.int 1)) (.cons (.con (.int 1)) .nil))) .nil))) (.cons (.bop true (.cons (.call 19 (.cons (.var 9) (.cons (.var 10) .nil))) (.cons (.call 19 (.cons (.var 10) (.cons (.var 9) .nil))) .nil))) .nil)))
abbrev w7 : PS := (.ife (.bop false (.cons w7a (.cons w7b .nil))) (.cons (.ret (.con (.bl false))) .nil) .nil)
theorem lay_fr (x : Fr) : (frD x).pd.canLay0 = true := by
  simp [frD, D.pd, pdL, PyData.canLay0, PyData.canLayAll0]
theorem p_eq_one (x : Fr) : prim .eq [frD x, .tup [.int 1, .int 1]] = some (.bl (decide (x = (1, 1)))) := by
  have e : eqOk (frD x) (.tup [.int 1, .int 1]) = true := by
    simp [eqOk, frD, D.flat, flatL, SeqAt.shaped, D.pd, pdL, PyData.canLay0, PyData.canLayAll0, PyData.depth, PyData.depthAll]
  show (if eqOk (frD x) (.tup [.int 1, .int 1]) then some (D.bl (eqD (frD x) (.tup [.int 1, .int 1]))) else none) = _
  rw [if_pos e]
  have : eqD (frD x) (.tup [.int 1, .int 1]) = decide (x = (1, 1)) := by
    unfold eqD frD
    simp only [D.pd, pdL, PyData.eqv, PyData.eqvAll, Bool.and_true]
    obtain ⟨p, q⟩ := x
    by_cases h1 : p = 1 <;> by_cases h2 : q = 1 <;> simp [h1, h2] <;> omega
  rw [this]
theorem p_ne_bools (a b : Bool) (h : a = b) : prim .ne [.bl a, .bl b] = some (D.bl false) := by
  rw [p_ne_bl, h]
  simp
theorem st_w7 {ns : List Int} {t : Sto} {a b : Con 3} (h : Cmp 3 a b) (g : GT) (h9 : g.s9 = .val (conD 3 a)) (h10 : g.s10 = .val (conD 3 b)) (h12 : g.s12 = .val (.lst [frD (met 3 a b), frD (like 3 a b)])) :
    evalS (callF FF 100000 99) 100000 w7 (eH ns t g) = .ok .nx (eH ns t g) := by
  have k9 : evalE (callF FF 100000 99) (.var 9) (eH ns t g) = .ok (conD 3 a) (eH ns t g) := ev_v (by simp [eH, h9])
  have k10 : evalE (callF FF 100000 99) (.var 10) (eH ns t g) = .ok (conD 3 b) (eH ns t g) := ev_v (by simp [eH, h10])
  have n0 := evL_nil (callF FF 100000 99) (eH ns t g)
  have l1 := evalE_call (evalL_cons_ok k9 (evalL_cons_ok k10 n0)) (sp_law_lies 3 95 (eH ns t g).sto h.ga.b.ok h.gb.b.ok h.gb.b.few)
  have l2 := evalE_call (evalL_cons_ok k10 (evalL_cons_ok k9 n0)) (sp_law_lies 3 95 (eH ns t g).sto h.gb.b.ok h.ga.b.ok h.ga.b.few)
  have l3 := evB_two l1 fun _ => l2
  have m1 : decide (met 3 a b = (1, 1)) = liesN 3 a b := by
    rw [Bool.eq_iff_iff, decide_eq_true_eq]
    exact met_one h.ga h.gb
  have m2 : decide (like 3 a b = (1, 1)) = (liesN 3 a b && liesN 3 b a) := by
    rw [Bool.eq_iff_iff, decide_eq_true_eq, Bool.and_eq_true]
    exact like_one h.ga h.gb
  have q1 := p_eq_one (met 3 a b)
  have q2 := p_eq_one (like 3 a b)
  rw [m1] at q1
  rw [m2] at q2
  generalize met 3 a b = x at *
  generalize like 3 a b = y at *
  have e1 : evalE (callF FF 100000 99) (.prim .eq (.cons (.prim .item (.cons (.var 12) (.cons (.con (.int 0)) .nil))) (.cons (.tup (.cons (.con (.int 1)) (.cons (.con (.int 1)) .nil))) .nil))) (eH ns t g) = .ok (.bl (liesN 3 a b)) (eH ns t g) := by
    have i0 : prim .item [.lst [frD x, frD y], .int 0] = some (frD x) := rfl
    have dx : ∀ t, deref t (frD x) = frD x := fun t => deref_fr t x
    generalize liesN 3 a b = bb at *
    generalize frD x = fx at *
    generalize frD y = fy at *
    clear k9 k10 l1 l2 l3
    simp [eH, rdVar, h12, i0, q1, dx]
  have e2 : evalE (callF FF 100000 99) (.prim .eq (.cons (.prim .item (.cons (.var 12) (.cons (.con (.int 1)) .nil))) (.cons (.tup (.cons (.con (.int 1)) (.cons (.con (.int 1)) .nil))) .nil))) (eH ns t g) = .ok (.bl (liesN 3 a b && liesN 3 b a)) (eH ns t g) := by
    have i0 : prim .item [.lst [frD x, frD y], .int 1] = some (frD y) := rfl
    have dx : ∀ t, deref t (frD y) = frD y := fun t => deref_fr t y
    generalize (liesN 3 a b && liesN 3 b a) = bb at *
    generalize frD x = fx at *
    generalize frD y = fy at *
    clear k9 k10 l1 l2 l3
    simp [eH, rdVar, h12, i0, q2, dx]
  have z1 : evalE (callF FF 100000 99) w7a (eH ns t g) = .ok (.bl false) (eH ns t g) := by
    rw [ev_prim, evO_cons, op_prim, e1]
    simp only [bind_ok]
    rw [evO_cons, op_call, l1]
    simp only [bind_ok, evO_nil, List.map_cons, List.map_nil, deref_bl]
    rw [p_ne_bools _ _ rfl]
    rfl
  have z2 : evalE (callF FF 100000 99) w7b (eH ns t g) = .ok (.bl false) (eH ns t g) := by
    rw [ev_prim, evO_cons, op_prim, e2]
    simp only [bind_ok]
    rw [evO_cons, op_bop, l3]
    simp only [bind_ok, evO_nil, List.map_cons, List.map_nil, deref_bl]
    rw [p_ne_bools _ _ rfl]
    rfl
  exact st_skip (ev_or2 z1 z2)
end K74
end
section
set_option Elab.async false
set_option linter.all false
set_option maxRecDepth 100000
set_option maxHeartbeats 4000000
set_option exponentiation.threshold 5000
namespace K74
open PySem MP
abbrev w8 : PS := (.set (.nm 13) (.call 18 (.cons (.var 1) (.cons (.var 8) (.cons (.con (.int 2)) (.cons (.con (.int 2)) .nil))))))
theorem st_w8 {ns nums : List Int} {c : Int} {names roles : Row} (h : NumsOk nums) (gn : Names names) (hn4 : names.length ≤ 4) (gr : Names roles) (hc : 0 ≤ c ∧ c ≤ 500000000) (g : GT) (h8 : g.s8 = .val (wD names roles)) :
    ∃ (z : Con 3) (c' : Int), Drawn names 2 3 z ∧ (c ≤ c' ∧ c' ≤ c + 500) ∧ evalS (callF FF 100000 99) 100000 w8 (eH ns (St nums c) g) = .ok .nx (eH ns (St nums c') { g with s13 := .val (conD 3 z) }) := by
  have cd := cT_le 2 (by omega)
  obtain ⟨z, c2, hz, hc2, ez⟩ := sp_concept (roles := roles) h gn hn4 gr 2 3 95 c (by omega) (by omega) (by omega) (by omega)
  refine ⟨z, c2, hz, by omega, ?_⟩
  have e2 : ∀ s : S, s.sto = St nums c → callO (callF FF 100000 99) 18 [.ref 0, wD names roles, .int 2, .int 2] s = .ok (conD 3 z) { s with sto := St nums c2 } := fun s hs => call_to hs ez
  generalize conD 3 z = x1 at *
  generalize wD names roles = x2 at *
  simp [eH, rdVar, h8, e2, MP.assign]
abbrev w9 : PS := (.set (.nm 14) (.call 10 (.cons (.var 10) (.cons (.var 13) .nil))))
theorem st_w9 {ns : List Int} {t : Sto} {b z : Con 3} (h : CmpM 3 b z) (g : GT) (h10 : g.s10 = .val (conD 3 b)) (h13 : g.s13 = .val (conD 3 z)) :
    evalS (callF FF 100000 99) 100000 w9 (eH ns t g) = .ok .nx (eH ns t { g with s14 := .val (frD (met 3 b z)) }) := by
  have k10 : evalE (callF FF 100000 99) (.var 10) (eH ns t g) = .ok (conD 3 b) (eH ns t g) := ev_v (by simp [eH, h10])
  have k13 : evalE (callF FF 100000 99) (.var 13) (eH ns t g) = .ok (conD 3 z) (eH ns t g) := ev_v (by simp [eH, h13])
  have v := evalE_call (evalL_cons_ok k10 (evalL_cons_ok k13 (evL_nil _ _))) (sp_met_share 3 92 (by omega) h t)
  rw [st_set, v]
  rfl
abbrev w10 : PS := (.set (.nm 15) (.call 10 (.cons (.call 22 (.cons (.var 9) (.cons (.var 10) .nil))) (.cons (.var 13) .nil))))
theorem st_w10 {ns : List Int} {t : Sto} {a b z : Con 3} (ha : gC 3 a) (hb : gC 3 b) (h : CmpM 3 (tog 3 a b) z) (g : GT) (h9 : g.s9 = .val (conD 3 a)) (h10 : g.s10 = .val (conD 3 b)) (h13 : g.s13 = .val (conD 3 z)) :
    evalS (callF FF 100000 99) 100000 w10 (eH ns t g) = .ok .nx (eH ns t { g with s15 := .val (frD (met 3 (tog 3 a b) z)) }) := by
  have k9 : evalE (callF FF 100000 99) (.var 9) (eH ns t g) = .ok (conD 3 a) (eH ns t g) := ev_v (by simp [eH, h9])
  have k10 : evalE (callF FF 100000 99) (.var 10) (eH ns t g) = .ok (conD 3 b) (eH ns t g) := ev_v (by simp [eH, h10])
  have k13 : evalE (callF FF 100000 99) (.var 13) (eH ns t g) = .ok (conD 3 z) (eH ns t g) := ev_v (by simp [eH, h13])
  have v0 := evalE_call (evalL_cons_ok k9 (evalL_cons_ok k10 (evL_nil _ _))) (sp_together 3 98 (by omega) ha.b hb.b t)
  have v := evalE_call (evalL_cons_ok v0 (evalL_cons_ok k13 (evL_nil _ _))) (sp_met_share 3 92 (by omega) h t)
  rw [st_set, v]
  rfl
abbrev w11a : PE := (.prim .gt (.cons (.prim .mul (.cons (.prim .item (.cons (.var 14) (.cons (.con (.int 0)) .nil))) (.cons (.prim .item (.cons (.var 15) (.cons (.con (.int 1)) .nil))) .nil))) (.cons (.prim .mul (.cons (.prim .item (.cons (.var 15) (.cons (.con (.int 0)) .nil))) (.cons (.prim .item (.cons (.var 14) (.cons (.con (.int 1)) .nil))) .nil))) .nil)))
abbrev w11b : PE := (.prim .ne (.cons (.prim .repr (.cons (.tup (.cons (.var 9) (.cons (.var 10) .nil))) .nil)) (.cons (.var 11) .nil)))
abbrev w11 : PS := (.ife (.bop false (.cons w11a (.cons w11b .nil))) (.cons (.ret (.con (.bl false))) .nil) .nil)
theorem st_w11 (cf : CF) {ns : List Int} {t : Sto} {a b z : Con 3} {x y : Fr} {k : Nat} (ha : gC 3 a) (hb : gC 3 b) (s : szC 3 a + szC 3 b ≤ 200) (hx : FrOk k x) (hy : FrOk k y) (hk : k ≤ 1900) (hle : Le x y) (g : GT) (h9 : g.s9 = .val (conD 3 a)) (h10 : g.s10 = .val (conD 3 b)) (h11 : g.s11 = .val (.str (D.tup [conD 3 a, conD 3 b]).pd.shown)) (h14 : g.s14 = .val (frD x)) (h15 : g.s15 = .val (frD y)) :
    evalS cf 100000 w11 (eH ns t g) = .ok .nx (eH ns t g) := by
  have m1 := frD_mul hx hy (by omega)
  have m2 := frD_mul hy hx (by omega)
  have x0 := p_fr0 x
  have x1 := p_fr1 x
  have y0 := p_fr0 y
  have y1 := p_fr1 y
  have dx : ∀ t, deref t (frD x) = frD x := fun t => deref_fr t x
  have dy : ∀ t, deref t (frD y) = frD y := fun t => deref_fr t y
  have gt : prim .gt [.int ((x.1 * y.2 : Nat) : Int), .int ((y.1 * x.2 : Nat) : Int)] = some (.bl false) := by
    rw [p_gt_int, decide_eq_false]
    have : x.1 * y.2 ≤ y.1 * x.2 := hle
    omega
  have v1 : evalE cf w11a (eH ns t g) = .ok (.bl false) (eH ns t g) := by
    generalize hn1 : x.1 * y.2 = n1 at *
    generalize hn2 : y.1 * x.2 = n2 at *
    generalize frD x = fx at *
    generalize frD y = fy at *
    simp [eH, rdVar, h14, h15, dx, dy, x0, x1, y0, y1, m1, m2, gt]
  have W := wd_two ha hb s
  have r := W.repr (by omega) (by omega)
  have ne := p_ne_str (ok1_iff.mpr W.tx) (ok1_iff.mpr W.tx)
  rw [decide_eq_true rfl] at ne
  have da := deref_con t 3 a
  have db := deref_con t 3 b
  have v2 : evalE cf w11b (eH ns t g) = .ok (.bl false) (eH ns t g) := by
    clear v1 W
    generalize (D.tup [conD 3 a, conD 3 b]).pd.shown = sh at *
    generalize conD 3 a = xa at *
    generalize conD 3 b = xb at *
    simp [eH, rdVar, h9, h10, h11, deref, r, ne]
  exact st_skip (ev_or2 v1 v2)
abbrev wB : PB := (.cons w1 (.cons w2 (.cons w3 (.cons w4 (.cons w5 (.cons w6 (.cons w7 (.cons w8 (.cons w9 (.cons w10 (.cons w11 .nil)))))))))))
theorem turn_law {ns nums : List Int} {c : Int} (h : NumsOk nums) (hc : 0 ≤ c ∧ c ≤ 400000000) (g : GT) (d : D) :
    ∃ (g' : GT) (c' : Int), (c ≤ c' ∧ c' ≤ c + 2000) ∧ (g'.s3 = g.s3 ∧ g'.s4 = g.s4 ∧ g'.s5 = g.s5 ∧ g'.s6 = g.s6 ∧ g'.s7 = g.s7) ∧ ofOpt (MP.assign (.nm 2) d (eH ns (St nums c) g)) (fun s3 => evalSs (callF FF 100000 99) 100000 wB s3) = .ok .nx (eH ns (St nums c') g') := by
  have as : MP.assign (.nm 2) d (eH ns (St nums c) g) = some (eH ns (St nums c) { g with s2 := .val d }) := by simp [MP.assign, eH]
  obtain ⟨names, roles, c1, gn, hn4, gr, hc1, q1⟩ := st_w1 (ns := ns) (c := c) h (by omega) { g with s2 := .val d }
  obtain ⟨dd, a, c2, hd, ha, hc2, q2⟩ := st_w2 (ns := ns) (c := c1) h gn hn4 gr (by omega) { g with s2 := .val d, s8 := .val (wD names roles) } rfl
  obtain ⟨b, c3, hb, hc3, q3⟩ := st_w3 (ns := ns) (c := c2) h gn hn4 gr (by omega) hd ha { g with s2 := .val d, s8 := .val (wD names roles), s9 := .val (conD 3 a) } rfl rfl
  have sa : szC 3 a ≤ 74 := Nat.le_trans ha.sz (sS_le dd hd)
  have sb := hb.sz
  have C : Cmp 3 a b := ⟨ha.g, hb.g, by omega⟩
  have q4 := st_w4 (callF FF 100000 99) (ns := ns) (t := St nums c3) ha.g hb.g (by omega) { g with s2 := .val d, s8 := .val (wD names roles), s9 := .val (conD 3 a), s10 := .val (conD 3 b) } rfl rfl
  have q5 := st_w5 (ns := ns) (t := St nums c3) C { g with s2 := .val d, s8 := .val (wD names roles), s9 := .val (conD 3 a), s10 := .val (conD 3 b), s11 := .val (.str (D.tup [conD 3 a, conD 3 b]).pd.shown) } rfl rfl
  have q6 := st_w6 (ns := ns) (t := St nums c3) C { g with s2 := .val d, s8 := .val (wD names roles), s9 := .val (conD 3 a), s10 := .val (conD 3 b), s11 := .val (.str (D.tup [conD 3 a, conD 3 b]).pd.shown), s12 := .val (.lst [frD (met 3 a b), frD (like 3 a b)]) } rfl rfl rfl
  have q7 := st_w7 (ns := ns) (t := St nums c3) C { g with s2 := .val d, s8 := .val (wD names roles), s9 := .val (conD 3 a), s10 := .val (conD 3 b), s11 := .val (.str (D.tup [conD 3 a, conD 3 b]).pd.shown), s12 := .val (.lst [frD (met 3 a b), frD (like 3 a b)]) } rfl rfl rfl
  obtain ⟨z, c4, hz, hc4, q8⟩ := st_w8 (ns := ns) (c := c3) h gn hn4 gr (by omega) { g with s2 := .val d, s8 := .val (wD names roles), s9 := .val (conD 3 a), s10 := .val (conD 3 b), s11 := .val (.str (D.tup [conD 3 a, conD 3 b]).pd.shown), s12 := .val (.lst [frD (met 3 a b), frD (like 3 a b)]) } rfl
  have sz : szC 3 z ≤ 34 := hz.sz
  have na := ha.sub.length_le
  have la := ha.two
  have nb := hb.nm
  have lb := hb.lk
  have tg : gC 3 (tog 3 a b) := tog_g ha.g hb.g (by omega) (by omega)
  have st := tog_sz 3 a b
  have M1 : CmpM 3 b z := ⟨hb.g, hz.g, by omega, by omega⟩
  have M2 : CmpM 3 (tog 3 a b) z := ⟨tg, hz.g, by omega, by omega⟩
  have q9 := st_w9 (ns := ns) (t := St nums c4) M1 { g with s2 := .val d, s8 := .val (wD names roles), s9 := .val (conD 3 a), s10 := .val (conD 3 b), s11 := .val (.str (D.tup [conD 3 a, conD 3 b]).pd.shown), s12 := .val (.lst [frD (met 3 a b), frD (like 3 a b)]), s13 := .val (conD 3 z) } rfl rfl
  have q10 := st_w10 (ns := ns) (t := St nums c4) ha.g hb.g M2 { g with s2 := .val d, s8 := .val (wD names roles), s9 := .val (conD 3 a), s10 := .val (conD 3 b), s11 := .val (.str (D.tup [conD 3 a, conD 3 b]).pd.shown), s12 := .val (.lst [frD (met 3 a b), frD (like 3 a b)]), s13 := .val (conD 3 z), s14 := .val (frD (met 3 b z)) } rfl rfl rfl
  have q11 := st_w11 (callF FF 100000 99) (ns := ns) (t := St nums c4) (a := a) (b := b) (z := z) (x := met 3 b z) (y := met 3 (tog 3 a b) z) (k := 8 + 10 * szC 3 z) ha.g hb.g (by omega) (metM_ok M1) (metM_ok M2) (by omega) (met_tog tg hb.g) { g with s2 := .val d, s8 := .val (wD names roles), s9 := .val (conD 3 a), s10 := .val (conD 3 b), s11 := .val (.str (D.tup [conD 3 a, conD 3 b]).pd.shown), s12 := .val (.lst [frD (met 3 a b), frD (like 3 a b)]), s13 := .val (conD 3 z), s14 := .val (frD (met 3 b z)), s15 := .val (frD (met 3 (tog 3 a b) z)) } rfl rfl rfl rfl rfl
  refine ⟨{ g with s2 := .val d, s8 := .val (wD names roles), s9 := .val (conD 3 a), s10 := .val (conD 3 b), s11 := .val (.str (D.tup [conD 3 a, conD 3 b]).pd.shown), s12 := .val (.lst [frD (met 3 a b), frD (like 3 a b)]), s13 := .val (conD 3 z), s14 := .val (frD (met 3 b z)), s15 := .val (frD (met 3 (tog 3 a b) z)) }, c4, by omega, ⟨rfl, rfl, rfl, rfl, rfl⟩, ?_⟩
  rw [as, ofOpt_some, evalSs_one q1, seqR_nx, evalSs_one q2, seqR_nx, evalSs_one q3, seqR_nx, evalSs_one q4, seqR_nx, evalSs_one q5, seqR_nx, evalSs_one q6, seqR_nx, evalSs_one q7, seqR_nx, evalSs_one q8, seqR_nx, evalSs_one q9, seqR_nx, evalSs_one q10, seqR_nx, evalSs_one q11, seqR_nx, ss_nil']
abbrev law1 : PS := (.forr (.nm 2) (.rng1 (.con (.int 6))) wB)
theorem loop_law {ns nums : List Int} (h : NumsOk nums) : ∃ (g' : GT) (c' : Int), (g'.s3 = .unb ∧ g'.s4 = .unb ∧ g'.s5 = .unb ∧ g'.s6 = .unb ∧ g'.s7 = .unb) ∧ evalS (callF FF 100000 99) 100000 law1 (eH ns (St nums 0) {}) = .ok .nx (eH ns (St nums c') g') := by
  obtain ⟨s', n', e, l1, g', c', b1, b2, b3, rfl⟩ := forLoop_inv (f := fun d s => ofOpt (MP.assign (.nm 2) d s) fun s3 => evalSs (callF FF 100000 99) 100000 wB s3)
    (fun n s => ∃ (g' : GT) (c' : Int), 0 ≤ c' ∧ c' ≤ 2000 * n ∧ (g'.s3 = .unb ∧ g'.s4 = .unb ∧ g'.s5 = .unb ∧ g'.s6 = .unb ∧ g'.s7 = .unb) ∧ s = eH ns (St nums c') g') 6 ((List.range 6).map fun k => .int (k : Nat)) 0 (eH ns (St nums 0) {}) (by simp) ⟨{}, 0, by omega, by omega, ⟨rfl, rfl, rfl, rfl, rfl⟩, rfl⟩
    (fun x hx n s hn ⟨g', c', b1, b2, b3, b4⟩ => by
      obtain ⟨g2, c2, hc2, ⟨k3, k4, k5, k6, k7⟩, e⟩ := turn_law (ns := ns) (nums := nums) (c := c') h (by omega) g' x
      subst b4
      exact ⟨.nx, _, e, .inl rfl, g2, c2, by omega, by omega, ⟨k3.trans b3.1, k4.trans b3.2.1, k5.trans b3.2.2.1, k6.trans b3.2.2.2.1, k7.trans b3.2.2.2.2⟩, rfl⟩)
  refine ⟨g', c', b3, ?_⟩
  have hI : evalI (callF FF 100000 99) (.rng1 (.con (.int 6))) (eH ns (St nums 0) {}) = .ok ((List.range 6).map fun k => .int (k : Nat)) (eH ns (St nums 0) {}) := by
    have sm : smallI 6 = true := by decide
    have := rngL_nat 6
    have this : rngL 0 6 = _ := this
    rw [evI_rng1, ev_con, bind_ok, rng1R_int, if_pos sm, this]
  rw [st_forr, hI]
  simp only [bind_ok]
  exact e
end K74
end
section
set_option Elab.async false
set_option linter.all false
set_option maxRecDepth 100000
set_option maxHeartbeats 4000000
set_option exponentiation.threshold 5000
/-! the chain, and the law -/
namespace K74
open PySem MP
def ch : Nat → D
  | 0 => .tup [.tup [], .tup []]
  | n + 1 => .tup [.tup [], .tup [.tup [.str "r", ch n]]]
def ot : Nat → D
  | 0 => .tup [.tup [.str "a"], .tup []]
  | n + 1 => .tup [.tup [], .tup [.tup [.str "r", ot n]]]
theorem c1 (t : Sto) : callF FF 100000 99 27 [.int 0, ch 12, ot 12] t = .ok (tell (frD (4095, 4096))) t := by kernel_rfl
theorem c2 (t : Sto) : callF FF 100000 99 27 [.int 0, ot 12, ch 12] t = .ok (tell (frD (1, 1))) t := by kernel_rfl
theorem bad1 (t : Sto) : callF FF 100000 99 27 [.int 0, .tup [.tup [.str "b", .str "a"], .tup []], ch 12] t = .ok (.str "refused") t := by kernel_rfl
theorem bad2 (t : Sto) : callF FF 100000 99 27 [.int 1, ch 12, .tup [.tup [.str "any"], .tup []]] t = .ok (.str "refused") t := by kernel_rfl
theorem bad3 (t : Sto) : callF FF 100000 99 27 [.int 0, .tup [.tup [], .tup [.tup [.str "r", ch 12]]], .tup [.tup [.str "b", .str "a"], .tup []]] t = .ok (.str "large") t := by kernel_rfl
def dueL : List D := [tell (frD (4095, 4096)), tell (frD (1, 1)), .str "refused", .str "refused", .str "large"]
theorem due_same (t : Sto) : callF FF 100000 99 13 [.lst dueL, .lst dueL] t = .ok (.bl true) t := by kernel_rfl
abbrev law2 : PS := (.set (.nm 3) (.tup (.cons (.tup .nil) (.cons (.tup .nil) .nil))))
abbrev law3 : PS := (.set (.nm 4) (.tup (.cons (.tup (.cons (.con (.str "a")) .nil)) (.cons (.tup .nil) .nil))))
abbrev law4 : PS := (.forr (.nm 5) (.rng1 (.con (.int 12))) (.cons (.set (.nm 3) (.tup (.cons (.tup .nil) (.cons (.tup (.cons (.tup (.cons (.con (.str "r")) (.cons (.var 3) .nil))) .nil)) .nil)))) (.cons (.set (.nm 4) (.tup (.cons (.tup .nil) (.cons (.tup (.cons (.tup (.cons (.con (.str "r")) (.cons (.var 4) .nil))) .nil)) .nil)))) .nil)))
abbrev law5 : PS := (.set (.nm 6) (.prim .shl (.cons (.con (.int 1)) (.cons (.con (.int 12)) .nil))))
abbrev law6 : PS := (.set (.nm 7) (.lst (.cons (.call 27 (.cons (.con (.int 0)) (.cons (.tup (.cons (.tup (.cons (.con (.str "b")) (.cons (.con (.str "a")) .nil))) (.cons (.tup .nil) .nil))) (.cons (.var 3) .nil)))) (.cons (.call 27 (.cons (.con (.int 1)) (.cons (.var 3) (.cons (.tup (.cons (.tup (.cons (.con (.str "any")) .nil)) (.cons (.tup .nil) .nil))) .nil)))) (.cons (.call 27 (.cons (.con (.int 0)) (.cons (.tup (.cons (.tup .nil) (.cons (.tup (.cons (.tup (.cons (.con (.str "r")) (.cons (.var 3) .nil))) .nil)) .nil))) (.cons (.tup (.cons (.tup (.cons (.con (.str "b")) (.cons (.con (.str "a")) .nil))) (.cons (.tup .nil) .nil))) .nil)))) .nil)))))
abbrev law7 : PS := (.ret (.call 13 (.cons (.prim .add (.cons (.lst (.cons (.call 27 (.cons (.con (.int 0)) (.cons (.var 3) (.cons (.var 4) .nil)))) (.cons (.call 27 (.cons (.con (.int 0)) (.cons (.var 4) (.cons (.var 3) .nil)))) .nil))) (.cons (.var 7) .nil))) (.cons (.lst (.cons (.tup (.cons (.con (.str "told")) (.cons (.tup (.cons (.prim .sub (.cons (.var 6) (.cons (.con (.int 1)) .nil))) (.cons (.var 6) .nil))) .nil))) (.cons (.tup (.cons (.con (.str "told")) (.cons (.tup (.cons (.con (.int 1)) (.cons (.con (.int 1)) .nil))) .nil))) (.cons (.con (.str "refused")) (.cons (.con (.str "refused")) (.cons (.con (.str "large")) .nil)))))) .nil))))
theorem law2_ok (cf : CF) (ns : List Int) (t : Sto) (g : GT) : evalS cf 100000 law2 (eH ns t g) = .ok .nx (eH ns t { g with s3 := .val (ch 0) }) := by kernel_rfl
theorem law3_ok (cf : CF) (ns : List Int) (t : Sto) (g : GT) : evalS cf 100000 law3 (eH ns t g) = .ok .nx (eH ns t { g with s4 := .val (ot 0) }) := by kernel_rfl
theorem law4_ok (cf : CF) (ns : List Int) (t : Sto) (g : GT) (h3 : g.s3 = .val (ch 0)) (h4 : g.s4 = .val (ot 0)) : evalS cf 100000 law4 (eH ns t g) = .ok .nx (eH ns t { g with s3 := .val (ch 12), s4 := .val (ot 12), s5 := .val (.int 11) }) := by
  obtain ⟨s2, s3, s4, s5, s6, s7, s8, s9, s10, s11, s12, s13, s14, s15⟩ := g
  dsimp only at h3 h4
  subst h3 h4
  kernel_rfl
theorem law5_ok (cf : CF) (ns : List Int) (t : Sto) (g : GT) : evalS cf 100000 law5 (eH ns t g) = .ok .nx (eH ns t { g with s6 := .val (.int 4096) }) := by kernel_rfl
theorem law6_ok (ns : List Int) (t : Sto) (g : GT) (h3 : g.s3 = .val (ch 12)) : evalS (callF FF 100000 99) 100000 law6 (eH ns t g) = .ok .nx (eH ns t { g with s7 := .val (.lst [.str "refused", .str "refused", .str "large"]) }) := by
  have e1 : ∀ s : S, callO (callF FF 100000 99) 27 [.int 0, .tup [.tup [.str "b", .str "a"], .tup []], ch 12] s = .ok (.str "refused") s := callv_at bad1
  have e2 : ∀ s : S, callO (callF FF 100000 99) 27 [.int 1, ch 12, .tup [.tup [.str "any"], .tup []]] s = .ok (.str "refused") s := callv_at bad2
  have e3 : ∀ s : S, callO (callF FF 100000 99) 27 [.int 0, .tup [.tup [], .tup [.tup [.str "r", ch 12]]], .tup [.tup [.str "b", .str "a"], .tup []]] s = .ok (.str "large") s := callv_at bad3
  generalize ch 12 = x at *
  simp [eH, rdVar, h3, e1, e2, e3, MP.assign]
theorem law7_ok (ns : List Int) (t : Sto) (g : GT) (h3 : g.s3 = .val (ch 12)) (h4 : g.s4 = .val (ot 12)) (h6 : g.s6 = .val (.int 4096)) (h7 : g.s7 = .val (.lst [.str "refused", .str "refused", .str "large"])) :
    evalS (callF FF 100000 99) 100000 law7 (eH ns t g) = .ok (.ret (.bl true)) (eH ns t g) := by
  have e1 : ∀ s : S, callO (callF FF 100000 99) 27 [.int 0, ch 12, ot 12] s = .ok (tell (frD (4095, 4096))) s := callv_at K74.c1
  have e2 : ∀ s : S, callO (callF FF 100000 99) 27 [.int 0, ot 12, ch 12] s = .ok (tell (frD (1, 1))) s := callv_at K74.c2
  have e3 : ∀ s : S, callO (callF FF 100000 99) 13 [.lst dueL, .lst dueL] s = .ok (.bl true) s := callv_at due_same
  have a1 : prim .add [.lst [tell (frD (4095, 4096)), tell (frD (1, 1))], .lst [.str "refused", .str "refused", .str "large"]] = some (.lst dueL) := rfl
  have a2 : prim .sub [.int 4096, .int 1] = some (.int 4095) := rfl
  have d1 : D.lst [.tup [.str "told", .tup [.int 4095, .int 4096]], .tup [.str "told", .tup [.int 1, .int 1]], .str "refused", .str "refused", .str "large"] = .lst dueL := rfl
  generalize ch 12 = x at *
  generalize ot 12 = y at *
  generalize tell (frD (4095, 4096)) = z at *
  generalize tell (frD (1, 1)) = w at *
  generalize dueL = dl at *
  simp [eH, rdVar, h3, h4, h6, h7, e1, e2, e3, a1, a2, d1]
theorem plain (ns : List Int) (hl : ns.length ≤ 63) : ∃ t, callF FF 100000 100 29 [.scr ns] [] = .ok (.bl true) t := by
  have hF : FF[29]? = some ⟨1, 16, b_law⟩ := rfl
  obtain ⟨nums, h, ew⟩ := sp_stream 98 ns [] hl
  have e0 : ∀ s : S, s.sto = [] → callO (callF FF 100000 99) 14 [.scr ns] s = .ok (.lst (nums.map .int)) { s with sto := [] } := fun s hs => call_to hs ew
  have st0 : evalS (callF FF 100000 99) 100000 (.cell 1 (.lst (.cons (.call 14 (.cons (.var 0) .nil)) (.cons (.con (.int 0)) .nil)))) { loc := [D.scr ns].map .val ++ List.replicate (16 - 1) .unb, sto := [] } = .ok .nx (eH ns (St nums 0) {}) := by
    have v : evalE (callF FF 100000 99) (.lst (.cons (.call 14 (.cons (.var 0) .nil)) (.cons (.con (.int 0)) .nil))) { loc := [D.scr ns].map .val ++ List.replicate (16 - 1) .unb, sto := [] } = .ok (.lst [.lst (nums.map .int), .int 0]) { loc := [D.scr ns].map .val ++ List.replicate (16 - 1) .unb, sto := [] } := by
      simp [rdVar, e0]
    simp only [evalS, v, bind_ok]
    rfl
  obtain ⟨g', c', ⟨h3, h4, h5, h6, h7⟩, st1⟩ := loop_law (ns := ns) h
  refine ⟨St nums c', ?_⟩
  have st2 := law2_ok (callF FF 100000 99) ns (St nums c') g'
  have st3 := law3_ok (callF FF 100000 99) ns (St nums c') { g' with s3 := .val (ch 0) }
  have st4 := law4_ok (callF FF 100000 99) ns (St nums c') { g' with s3 := .val (ch 0), s4 := .val (ot 0) } rfl rfl
  have st5 := law5_ok (callF FF 100000 99) ns (St nums c') { g' with s3 := .val (ch 12), s4 := .val (ot 12), s5 := .val (.int 11) }
  have st6 := law6_ok ns (St nums c') { g' with s3 := .val (ch 12), s4 := .val (ot 12), s5 := .val (.int 11), s6 := .val (.int 4096) } rfl
  have st7 := law7_ok ns (St nums c') { g' with s3 := .val (ch 12), s4 := .val (ot 12), s5 := .val (.int 11), s6 := .val (.int 4096), s7 := .val (.lst [.str "refused", .str "refused", .str "large"]) } rfl rfl rfl rfl
  rw [callF_succ, hF]
  show (if [D.scr ns].length = 1 then runRes (evalSs (callF FF 100000 99) 100000 b_law { loc := [D.scr ns].map .val ++ List.replicate (16 - 1) .unb, sto := [] }) else .bad) = _
  rw [if_pos (show [D.scr ns].length = 1 from rfl)]
  unfold b_law
  rw [evalSs_one st0, seqR_nx, evalSs_one st1, seqR_nx, evalSs_one st2, seqR_nx, evalSs_one st3, seqR_nx, evalSs_one st4, seqR_nx, evalSs_one st5, seqR_nx, evalSs_one st6, seqR_nx, evalSs_one st7]
  rfl
theorem holds : PySem.Challenge.rw_menagerie_k74_whole_shares_and_likeness.Holds := holds_of plain
end K74
end
open PySem PySem.W PyProof.Rows
set_option Elab.async false
theorem PySem.Challenge.cw_menagerie_k74_whole_shares_and_likeness_holds : PySem.Challenge.rw_menagerie_k74_whole_shares_and_likeness.Holds := by
  exact K74.holds
