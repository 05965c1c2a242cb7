import PyProof.Rows.All
import HandS.ForMost
import KE.SortData
import KE.IntText
import Wide.All
import OpenK.AllK
import Wide.FinOn
import PyProof.EqAt
import PyProof.EqKinds
import PyProof.TupleCall
import HandS.Deep
import HandS.Flow
import HandS.TupAny
import HandS.Defaults
import HandS.IsInst
import HandS.SetKeys
import HandS.DictComp
import HandS.Strs
import HandS.SetFor
import PyProof.DictUpdate
import KE.GoesEnum
import HandS.Zip
import KE.KDictPairs
import KE.KUnpackStar
import HandS.Style
import KE.GoesZip
import KE.GoesMore
import HandS.HeadHook3
import HandS.HeadHook4
import HandS.HeadEnd
import HandS.MakeKwOnly
import PyProof.P3Eq
import KE.KStateDown
import HandS.Ends
import HandS.Words
import HandS.WordsExc
import HandS.Head0
import HandS.Head1
import HandS.Head2
import PySem.Challenge.RW_claimsieve_k01_runs_by_own_going
section
set_option linter.all false
set_option Elab.async false
/-! Mi0: data, memory, the syntax of the small language, its evaluator. -/
namespace Mi
open PySem

abbrev Key := Sum Int Str
/-- what kind of object -/
inductive Sh where
  | tup | tupP | lst | scr | dK (ks : List Key) | dT (ks : List (List Key)) | ins (C : Str) (fs : List Str)
  deriving DecidableEq
/-- data: loc n is a cell of the memory; nd is an object as a value (own: nobody else changes it; else it is only lent) -/
inductive D where
  | non | bl (b : Bool) | int (i : Int) | str (x : Str) | loc (n : Nat) | nd (own : Bool) (sh : Sh) (ds : List D)
structure Cell where
  sh : Sh
  ds : List D
abbrev Mem := List Cell
abbrev Env := List (Option D)
/-- outcomes -/
inductive R (α : Type) where
  | ok (a : α) | exc (C : Str) (fs : List (Str × D)) (m : Mem) | bad
@[reducible] def R.bind {α β : Type} (r : R α) (f : α → R β) : R β := match r with
  | .ok a => f a
  | .exc C fs m => .exc C fs m
  | .bad => .bad
instance : Monad R where
  pure := R.ok
  bind := R.bind
@[simp] theorem R.ok_bind {α β : Type} (a : α) (f : α → R β) : (R.ok a >>= f) = f a := rfl
@[simp] theorem R.bad_bind {α β : Type} (f : α → R β) : ((R.bad : R α) >>= f) = R.bad := rfl
@[simp] theorem R.exc_bind {α β : Type} (C : Str) (fs : List (Str × D)) (m : Mem) (f : α → R β) : ((R.exc C fs m : R α) >>= f) = R.exc C fs m := rfl
@[simp] theorem R.pure_ok {α : Type} (a : α) : (pure a : R α) = R.ok a := rfl
def R.of {α : Type} : Option α → R α
  | some a => .ok a
  | none => .bad
@[simp] theorem R.of_some {α : Type} (a : α) : R.of (some a) = R.ok a := rfl
@[simp] theorem R.of_none {α : Type} : R.of (none : Option α) = R.bad := rfl
def need (b : Bool) : R Unit := if b then .ok () else .bad
@[simp] theorem need_true : need true = R.ok () := rfl
@[simp] theorem need_false : need false = R.bad := rfl

abbrev tupD (ds : List D) : D := .nd true .tup ds
abbrev lstD (ds : List D) : D := .nd true .lst ds

/-! ### looking at data -/
mutual
/-- no cell in it -/
def lf : D → Bool
  | .loc _ => false
  | .nd _ _ ds => lfs ds
  | _ => true
def lfs : List D → Bool
  | [] => true
  | d :: ds => lf d && lfs ds
end
mutual
/-- no cell in it, nothing lent -/
def ow : D → Bool
  | .loc _ => false
  | .nd o _ ds => o && ows ds
  | _ => true
def ows : List D → Bool
  | [] => true
  | d :: ds => ow d && ows ds
end
mutual
/-- as a value, by at most k cells one in another; b: what a cell becomes; c: whether what is lent may stay -/
def snap (b c : Bool) : Nat → Mem → D → Option D
  | k, m, .nd o sh ds => if o || c then (snaps b c k m ds).map fun ds' => .nd o sh ds' else none
  | k + 1, m, .loc n => match m[n]? with
    | some cl => (snaps b c k m cl.ds).map fun ds' => .nd b cl.sh ds'
    | none => none
  | 0, _, .loc _ => none
  | _, _, .non => some .non
  | _, _, .bl x => some (.bl x)
  | _, _, .int x => some (.int x)
  | _, _, .str x => some (.str x)
termination_by k _ d => (k, sizeOf d)
def snaps (b c : Bool) : Nat → Mem → List D → Option (List D)
  | _, _, [] => some []
  | k, m, d :: ds => match snap b c k m d with
    | some d' => (snaps b c k m ds).map fun ds' => d' :: ds'
    | none => none
termination_by k _ ds => (k, sizeOf ds)
end
/-- lent for a call -/
abbrev lend := snap false true 4
abbrev lends := snaps false true 4
/-- taken out of a call's memory -/
abbrev frz := snap true false 4

/-- a tuple is a tuple -/
def nrm : Sh → Sh
  | .tupP => .tup
  | sh => sh
/-- a tuple's items -/
def tupOf : D → Option (List D)
  | .nd _ .tup ds => some ds
  | .nd _ .tupP ds => some ds
  | _ => none
/-- the object, as it stands -/
def view (m : Mem) : D → Option Cell
  | .loc n => m[n]?
  | .nd _ sh ds => some ⟨nrm sh, ds⟩
  | _ => none
def keyOf : D → Option Key
  | .int i => some (.inl i)
  | .str x => some (.inr x)
  | _ => none
def keysOf : List D → Option (List Key)
  | [] => some []
  | d :: ds => match keyOf d, keysOf ds with
    | some k, some ks => some (k :: ks)
    | _, _ => none
def keyTOf : D → Option (List Key)
  | .nd _ .tup ds => keysOf ds
  | .nd _ .tupP ds => keysOf ds
  | _ => none
def keyD : Key → D
  | .inl i => .int i
  | .inr x => .str x
/-- the value at a key -/
def kget {κ : Type} [DecidableEq κ] (k : κ) : List κ → List D → Option D
  | a :: ks, d :: ds => if a = k then some d else kget k ks ds
  | _, _ => none
def hasK {κ : Type} [DecidableEq κ] (k : κ) (ks : List κ) : Bool := decide (k ∈ ks)
/-- the value set wherever the key stands -/
def ksets {κ : Type} [DecidableEq κ] (k : κ) (d : D) : List κ → List D → List D
  | a :: ks, e :: ds => (if a = k then d else e) :: ksets k d ks ds
  | _, ds => ds
/-- a key's value put -/
def kput {κ : Type} [DecidableEq κ] (k : κ) (d : D) (ks : List κ) (ds : List D) : List κ × List D := if k ∈ ks then (ks, ksets k d ks ds) else (ks ++ [k], ds ++ [d])
def kputs {κ : Type} [DecidableEq κ] : List κ → List D → List κ → List D → List κ × List D
  | k :: js, e :: es, ks, ds => kputs js es (kput k e ks ds).1 (kput k e ks ds).2
  | _, _, ks, ds => (ks, ds)

mutual
/-- as plain data -/
def py : D → PyData
  | .non => .none
  | .bl b => .bool b
  | .int i => .int i
  | .str x => .str x
  | .loc _ => .none
  | .nd _ sh ds => match sh with
    | .tup => .tuple (pys ds)
    | .tupP => .tuple (pys ds)
    | _ => .list (pys ds)
def pys : List D → List PyData
  | [] => []
  | d :: ds => py d :: pys ds
end
mutual
/-- lists, tuples, ints, texts, truths, None: what == compares here -/
def dat : D → Bool
  | .loc _ => false
  | .nd _ sh ds => (match sh with
    | .tup => true
    | .tupP => true
    | .lst => true
    | _ => false) && dats ds
  | _ => true
def dats : List D → Bool
  | [] => true
  | d :: ds => dat d && dats ds
end
abbrev fitD (d : D) : Bool := dat d && SeqAt.shaped (py d)
abbrev eqD (a b : D) : Bool := PyData.eqv (py a) (py b)

abbrev most : Nat := sizeLine
abbrev fits (n : Nat) : Bool := decide (n ≤ most)

/-! ### syntax -/
inductive Op where
  | add | sub | mul | fdiv | mod | pow | bor
  deriving DecidableEq
inductive Cm where
  | eq | ne | lt | le | gt | ge | inn | nin
  deriving DecidableEq
inductive Kd where
  | int | bool | str | tuple | list
  deriving DecidableEq
inductive Bi where
  | len | tuple | list | sorted | sum | max | min | int | str | abs | all | any | dict | sortSet | lenSet
  deriving DecidableEq
inductive Mt where
  | append | extend | insert | pop | remove | clear | get | index | count | join | split | update | setdefault | reverse
  deriving DecidableEq
mutual
inductive E where
  | var (i : Nat) | cst (d : D)
  | bin (op : Op) (a b : E) | neg (a : E) | cat (a b : E)
  | cmp (c : Cm) (a b : E) | chain (c1 c2 : Cm) (a b c : E) | isN (no : Bool) (a : E)
  | and (a b : E) | or (a b : E) | not (a : E) | ite (c a b : E)
  | tup (es : List E) | lst (fr : Bool) (es : List E) | dct (fr tk : Bool) (es : List E)
  | idx (a i : E) | slcL (a lo : E) | slcU (a hi : E) | slcB (a lo hi : E)
  | fld (a : E) (f : Str)
  | call (f : Str) (es : List E) | pcall (s : Bool) (f : Str) (es : List E)
  | meth (o : E) (m : Str) (es : List E) | pmeth (s : Bool) (o : E) (m : Str) (es : List E)
  | bi (b : Bi) (fr : Bool) (es : List E) | mt (m : Mt) (o : E) (es : List E)
  | isi (a : E) (ks : List Kd) | kg (ks : List Str) (ds : List D) (a b : E)
  | lc (fr : Bool) (e : E) (own : List Nat) (t : T) (it : I) (ifs : List E) (g : G)
  | dc (fr tk : Bool) (k v : E) (own : List Nat) (t : T) (it : I) (ifs : List E) (g : G)
  | sc (e : E) (own : List Nat) (t : T) (it : I) (ifs : List E) (g : G)
/-- targets -/
inductive T where
  | var (i : Nat) | tup (ts : List T) | star (ts : List T) (j : Nat) | idx (o i : E) | fld (o : E) (f : Str)
/-- what is walked -/
inductive I where
  | seq (e : E) | rng1 (a : E) | rng2 (a b : E) | enu (e : E) | zip (a b : E)
/-- the clauses of a comprehension -/
inductive G where
  | nil | cons (t : T) (own : List Nat) (it : I) (ifs : List E) (g : G)
end
inductive S where
  | asg (t : T) (e : E) | par (is : List Nat) (es : List E)
  | augV (i : Nat) (e : E) | augF (o : E) (f : Str) (e : E)
  | exp (e : E) | ret (e : E) | retN | pas
  | ifs (c : E) (a b : List S) | for_ (t : T) (it : I) (b : List S) | whl (c : E) (b : List S)
  | rse (C : Str) (es : List E)
/-- how a statement ends -/
inductive Fl where
  | nx (ρ : Env) | rt (d : D)
abbrev Cal := Str → List D → Mem → R (D × Mem)

/-! ### what operations do -/
/-- a fresh object: as a value, or as a cell -/
def fin (fr : Bool) (sh : Sh) (ds : List D) (m : Mem) : D × Mem := if fr then (.nd true sh ds, m) else (.loc m.length, m ++ [⟨sh, ds⟩])
@[simp] theorem fin_true (sh : Sh) (ds : List D) (m : Mem) : fin true sh ds m = (.nd true sh ds, m) := rfl
@[simp] theorem fin_false (sh : Sh) (ds : List D) (m : Mem) : fin false sh ds m = (.loc m.length, m ++ [⟨sh, ds⟩]) := rfl
abbrev strRep (x : Str) (n : Int) : Str := Txt.mul x n
def addD (m : Mem) (a b : D) : R D := match a, b with
  | .int i, .int j => .ok (.int (i + j))
  | .str x, .str y => if x.length + y.length ≤ most then .ok (.str (x ++ y)) else .bad
  | a, b => match view m a, view m b with
    | some ⟨.tup, xs⟩, some ⟨.tup, ys⟩ => if xs.length + ys.length ≤ most then .ok (tupD (xs ++ ys)) else .bad
    | some ⟨.lst, xs⟩, some ⟨.lst, ys⟩ => if xs.length + ys.length ≤ most then .ok (lstD (xs ++ ys)) else .bad
    | _, _ => .bad
def subD (a b : D) : R D := match a, b with
  | .int i, .int j => .ok (.int (i - j))
  | _, _ => .bad
def mulD (m : Mem) (a b : D) : R D := match b with
  | .int j => match a with
    | .int i => if (-(2 ^ 64) < i ∧ i < 2 ^ 64) ∨ (-(2 ^ 64) < j ∧ j < 2 ^ 64) then .ok (.int (i * j)) else .bad
    | .str x => if 0 ≤ j ∧ j ≤ 1000 ∧ x.length ≤ 16 then .ok (.str (strRep x j)) else .bad
    | a => match view m a with
      | some ⟨.lst, xs⟩ => if 0 ≤ j ∧ j ≤ 1000 ∧ xs.length * j.toNat ≤ most then .ok (lstD (List.replicate j.toNat xs).flatten) else .bad
      | _ => .bad
  | _ => .bad
def fdivD (a b : D) : R D := match a, b with
  | .int i, .int j => if 0 < j ∧ j < 1073741824 then .ok (.int (i / j)) else .bad
  | _, _ => .bad
def modD (a b : D) : R D := match a, b with
  | .int i, .int j => if 0 < j then .ok (.int (i % j)) else .bad
  | _, _ => .bad
def powD (a b : D) : R D := match a, b with
  | .int i, .int j => if 0 ≤ j ∧ j ≤ 1000000 ∧ i.natAbs < 2 ^ 64 then .ok (.int (i ^ j.toNat)) else .bad
  | _, _ => .bad
def borD (m : Mem) (a b : D) : R D := match view m a, view m b with
  | some ⟨.dK ks, ds⟩, some ⟨.dK js, es⟩ => if ks.length + js.length ≤ most then .ok (.nd true (.dK (kputs js es ks ds).1) (kputs js es ks ds).2) else .bad
  | _, _ => .bad
def bin (op : Op) (m : Mem) (a b : D) : R D := match op with
  | .add => addD m a b
  | .sub => subD a b
  | .mul => mulD m a b
  | .fdiv => fdivD a b
  | .mod => modD a b
  | .pow => powD a b
  | .bor => borD m a b
/-- a list behind another, as a cell -/
def catD (m : Mem) (a b : D) : R (D × Mem) := match view m a, view m b with
  | some ⟨.lst, xs⟩, some ⟨.lst, ys⟩ => if xs.length + ys.length ≤ most then .ok (fin false .lst (xs ++ ys) m) else .bad
  | _, _ => .bad
/-- as a value, to be compared -/
def val (m : Mem) (d : D) : Option D := if lf d then some d else lend m d
def cmpEq (m : Mem) (a b : D) : R Bool := match val m a, val m b with
  | some a, some b => if fitD a && fitD b then .ok (eqD a b) else .bad
  | _, _ => .bad
def inD (m : Mem) (a b : D) : R Bool := match b with
  | .str y => match a with
    | .str x => .ok (!(Builtin.Str.occurrences y x 0 y.length 1).isEmpty)
    | _ => .bad
  | b => match view m b with
    | some ⟨.dK ks, _⟩ => match keyOf a with
      | some k => .ok (hasK k ks)
      | none => .bad
    | some ⟨.dT _, _⟩ => .bad
    | some _ => match val m a, val m b with
      | some a, some b => if fitD a && fitD b then (match b with
        | .nd _ .tup ds => .ok (ds.any fun z => eqD z a)
        | .nd _ .tupP ds => .ok (ds.any fun z => eqD z a)
        | .nd _ .lst ds => .ok (ds.any fun z => eqD z a)
        | _ => .bad) else .bad
      | _, _ => .bad
    | none => .bad
def ordD (f : Int → Int → Bool) (a b : D) : R Bool := match a, b with
  | .int i, .int j => .ok (f i j)
  | _, _ => .bad
def cmpB (c : Cm) (m : Mem) (a b : D) : R Bool := match c with
  | .eq => cmpEq m a b
  | .ne => (cmpEq m a b).bind fun r => .ok (!r)
  | .inn => inD m a b
  | .nin => (inD m a b).bind fun r => .ok (!r)
  | .lt => ordD (fun i j => decide (i < j)) a b
  | .le => ordD (fun i j => decide (i ≤ j)) a b
  | .gt => ordD (fun i j => decide (j < i)) a b
  | .ge => ordD (fun i j => decide (j ≤ i)) a b
def asB : D → R Bool
  | .bl b => .ok b
  | _ => .bad
@[simp] theorem asB_bl (b : Bool) : asB (.bl b) = .ok b := rfl
def idxD (m : Mem) (a i : D) : R D := match a with
  | .str x => match i with
    | .int i => if x.length ≤ most then (match L2.atI x.cps.toList i with
      | some c => .ok (.str ⟨#[c]⟩)
      | none => .bad) else .bad
    | _ => .bad
  | a => match view m a with
    | some ⟨.dK ks, ds⟩ => match keyOf i with
      | some k => R.of (kget k ks ds)
      | none => .bad
    | some ⟨.dT _, _⟩ => .bad
    | some ⟨.ins _ _, _⟩ => .bad
    | some ⟨_, ds⟩ => match i with
      | .int i => R.of (L2.atI ds i)
      | _ => .bad
    | none => .bad
def cut {α : Type} (xs : List α) (lo hi : Option Int) : List α := (xs.drop (_root_.HT.sIx xs.length 0 lo)).take (_root_.HT.sIx xs.length xs.length hi - _root_.HT.sIx xs.length 0 lo)
def slcD (m : Mem) (a : D) (lo hi : Option Int) : R D := match a with
  | .str x => if x.length ≤ most then .ok (.str ⟨(cut x.cps.toList lo hi).toArray⟩) else .bad
  | a => match view m a with
    | some ⟨.tup, ds⟩ => .ok (tupD (cut ds lo hi))
    | some ⟨.lst, ds⟩ => .ok (lstD (cut ds lo hi))
    | _ => .bad
def fldD (m : Mem) (a : D) (f : Str) : R D := match view m a with
  | some ⟨.ins _ fs, ds⟩ => R.of (kget f fs ds)
  | _ => .bad
def asI : D → R Int
  | .int i => .ok i
  | _ => .bad
@[simp] theorem asI_int (i : Int) : asI (.int i) = .ok i := rfl
/-- o[i] = v -/
def setD (m : Mem) (o i v : D) : R Mem := match o with
  | .loc n => match m[n]? with
    | some ⟨.lst, ds⟩ => match i with
      | .int i => match L2.ixN ds.length i with
        | some j => .ok (m.set n ⟨.lst, ds.set j v⟩)
        | none => .bad
      | _ => .bad
    | some ⟨.dK ks, ds⟩ => match keyOf i with
      | some k => if ks.length < most then .ok (m.set n ⟨.dK (kput k v ks ds).1, (kput k v ks ds).2⟩) else .bad
      | none => .bad
    | _ => .bad
  | _ => .bad
/-- a field put -/
def fput (f : Str) (d : D) : List Str → List D → List Str × List D
  | g :: fs, e :: ds => if g = f then (g :: fs, d :: ds) else (g :: (fput f d fs ds).1, e :: (fput f d fs ds).2)
  | _, _ => ([f], [d])
/-- o.f = v -/
def setF (m : Mem) (o : D) (f : Str) (v : D) : R Mem := match o with
  | .loc n => match m[n]? with
    | some ⟨.ins C fs, ds⟩ => if fs.length < 1000 then .ok (m.set n ⟨.ins C (fput f v fs ds).1, (fput f v fs ds).2⟩) else .bad
    | _ => .bad
  | _ => .bad
/-- the class of a receiver that has no field of the method's name -/
def clsM (m : Mem) (d : D) (q : Str) : R Str := match view m d with
  | some ⟨.ins C fs, _⟩ => if fs.contains q then .bad else .ok C
  | _ => .bad
/-- the class of an object -/
def clsD (m : Mem) (o : D) : R Str := match view m o with
  | some ⟨.ins C _, _⟩ => .ok C
  | _ => .bad
/-- the built-in type of a datum -/
def tyD (m : Mem) (d : D) : Option String := match d with
  | .non => some "NoneType"
  | .bl _ => some "bool"
  | .int _ => some "int"
  | .str _ => some "str"
  | d => match view m d with
    | some ⟨.tup, _⟩ => some "tuple"
    | some ⟨.lst, _⟩ => some "list"
    | _ => none
def kdS : Kd → String
  | .int => "int"
  | .bool => "bool"
  | .str => "str"
  | .tuple => "tuple"
  | .list => "list"
def kdIs (t : String) (k : Kd) : Bool := t == kdS k || (t == "bool" && kdS k == "int")
def isiD (m : Mem) (d : D) (ks : List Kd) : R Bool := match tyD m d with
  | some t => .ok (ks.any (kdIs t))
  | none => .bad
/-- < of alike data -/
abbrev leD (a b : D) : Bool := !W.dataLt (py b) (py a)
def alikes : List D → Bool
  | [] => true
  | d :: ds => ds.all (fun e => W.alike (py d) (py e) && W.alike (py e) (py d)) && W.alike (py d) (py d) && alikes ds
def sortable (ds : List D) : Bool := ds.all dat && alikes ds && (ds.all (fun d => match py d with
  | .tuple (_ :: _) => true
  | _ => false) || ds.all (fun d => match py d with
  | .none => false
  | .tuple _ => false
  | _ => true)) && ds.all fun d => decide ((py d).depth ≤ 64)
/-- the items of a list or tuple -/
def items (m : Mem) (d : D) : R (List D) := match view m d with
  | some ⟨.tup, ds⟩ => .ok ds
  | some ⟨.lst, ds⟩ => .ok ds
  | _ => .bad
def itemsL (m : Mem) (d : D) : R (List D) := match view m d with
  | some ⟨.lst, ds⟩ => .ok ds
  | _ => .bad
def intsOf : List D → R (List Int)
  | [] => .ok []
  | d :: ds => (asI d).bind fun i => (intsOf ds).bind fun r => .ok (i :: r)
def boolsOf : List D → R (List Bool)
  | [] => .ok []
  | d :: ds => (asB d).bind fun i => (boolsOf ds).bind fun r => .ok (i :: r)
/-- each once, the first of alike ones -/
def dedup : List D → List D
  | [] => []
  | d :: ds => d :: (dedup ds).filter fun e => !eqD e d
/-- ints, texts, tuples of such, nested: what may stand in a set -/
def hashable : PyData → Bool
  | .int _ => true
  | .str _ => true
  | _ => false
def maxL : List Int → Int → Int
  | [], a => a
  | b :: r, a => maxL r (if b > a then b else a)
def minL : List Int → Int → Int
  | [], a => a
  | b :: r, a => minL r (if b < a then b else a)
def pairsD : List D → List Key → List D → R (List Key × List D)
  | [], ks, ds => .ok (ks, ds)
  | p :: r, ks, ds => match tupOf p with
    | some [k, v] => match keyOf k with
      | some k => pairsD r (kput k v ks ds).1 (kput k v ks ds).2
      | none => .bad
    | _ => .bad
def biLen (m : Mem) : List D → R D
  | [d] => match d with
    | .str x => if x.length ≤ most then .ok (.int x.length) else .bad
    | d => match view m d with
      | some ⟨.tup, ds⟩ => .ok (.int ds.length)
      | some ⟨.lst, ds⟩ => .ok (.int ds.length)
      | some ⟨.scr, ds⟩ => .ok (.int ds.length)
      | some ⟨.dK ks, _⟩ => .ok (.int ks.length)
      | _ => .bad
  | _ => .bad
def biTuple (m : Mem) : List D → R D
  | [d] => match view m d with
    | some ⟨.tup, ds⟩ => .ok (tupD ds)
    | some ⟨.lst, ds⟩ => .ok (.nd true .tupP ds)
    | _ => .bad
  | _ => .bad
def biList (m : Mem) : List D → R (Sh × List D)
  | [d] => match view m d with
    | some ⟨.tup, ds⟩ => .ok (.lst, ds)
    | some ⟨.lst, ds⟩ => .ok (.lst, ds)
    | _ => .bad
  | _ => .bad
def biSorted (m : Mem) : List D → R (Sh × List D)
  | [d] => match view m d with
    | some ⟨.lst, ds⟩ => if sortable ds then .ok (.lst, ds.mergeSort leD) else .bad
    | _ => .bad
  | _ => .bad
def biInts (m : Mem) (f : List Int → R Int) : List D → R D
  | [d] => (itemsL m d).bind fun ds => (intsOf ds).bind fun is => (f is).bind fun i => .ok (.int i)
  | _ => .bad
def biBools (m : Mem) (f : List Bool → Bool) : List D → R D
  | [d] => (itemsL m d).bind fun ds => (boolsOf ds).bind fun bs => .ok (.bl (f bs))
  | _ => .bad
def maxI : List Int → R Int
  | i :: r => .ok (maxL r i)
  | [] => .bad
def minI : List Int → R Int
  | i :: r => .ok (minL r i)
  | [] => .bad
def biMax (m : Mem) : List D → R D
  | [.int i, .int j] => .ok (.int (if j > i then j else i))
  | as => biInts m maxI as
def biMin (m : Mem) : List D → R D
  | [.int i, .int j] => .ok (.int (if j < i then j else i))
  | as => biInts m minI as
def biInt : List D → R D
  | [.int i] => .ok (.int i)
  | [.bl b] => .ok (.int (if b then 1 else 0))
  | [.str x] => if x.length ≤ 640 then (match PySem.intText? x with
    | some n => .ok (.int n)
    | none => .bad) else .bad
  | _ => .bad
def biStr : List D → R D
  | [.int i] => if i.natAbs < 2 ^ 64 then .ok (.str (toString i)) else .bad
  | _ => .bad
def biAbs : List D → R D
  | [.int i] => .ok (.int (if i < 0 then -i else i))
  | _ => .bad
def biDict (m : Mem) : List D → R (Sh × List D)
  | [.nd _ .tupP ds] => (pairsD ds [] []).bind fun r => .ok (.dK r.1, r.2)
  | [d] => match view m d with
    | some ⟨.lst, ds⟩ => (pairsD ds [] []).bind fun r => .ok (.dK r.1, r.2)
    | _ => .bad
  | _ => .bad
def biLenSet (m : Mem) : List D → R D
  | [d] => (itemsL m d).bind fun ds => .ok (.int (dedup ds).length)
  | _ => .bad
/-- into a rising list, each once -/
def insU (i : Int) : List Int → List Int
  | [] => [i]
  | j :: js => if i < j then i :: j :: js else if i = j then j :: js else j :: insU i js
def sortU (is : List Int) : List Int := is.foldr insU []
def biSortSet (m : Mem) : List D → R (Sh × List D)
  | [d] => (itemsL m d).bind fun ds => (intsOf ds).bind fun is => if is.length < 64 then .ok (.lst, (sortU is).map D.int) else .bad
  | _ => .bad
def asV (m : Mem) (r : R D) : R (D × Mem) := r.bind fun d => .ok (d, m)
def asN (fr : Bool) (m : Mem) (r : R (Sh × List D)) : R (D × Mem) := r.bind fun c => .ok (fin fr c.1 c.2 m)
def bi (b : Bi) (fr : Bool) (m : Mem) (as : List D) : R (D × Mem) := match b with
  | .len => asV m (biLen m as)
  | .tuple => asV m (biTuple m as)
  | .list => asN fr m (biList m as)
  | .sorted => asN fr m (biSorted m as)
  | .sum => asV m (biInts m (fun is => .ok is.sum) as)
  | .max => asV m (biMax m as)
  | .min => asV m (biMin m as)
  | .int => asV m (biInt as)
  | .str => asV m (biStr as)
  | .abs => asV m (biAbs as)
  | .all => asV m (biBools m (fun bs => bs.all id) as)
  | .any => asV m (biBools m (fun bs => bs.any id) as)
  | .dict => asN fr m (biDict m as)
  | .lenSet => asV m (biLenSet m as)
  | .sortSet => asN fr m (biSortSet m as)
/-- the place of the first item that is a -/
def findD (a : D) : List D → Option Nat
  | [] => none
  | d :: ds => if eqD d a then some 0 else (findD a ds).map (· + 1)
def mtGet (m : Mem) (o : D) : List D → R D
  | [k] => match view m o with
    | some ⟨.dK ks, ds⟩ => match keyOf k with
      | some k => .ok ((kget k ks ds).getD .non)
      | none => .bad
    | _ => .bad
  | [k, d] => match view m o with
    | some ⟨.dK ks, ds⟩ => match keyOf k with
      | some k => .ok ((kget k ks ds).getD d)
      | none => .bad
    | _ => .bad
  | _ => .bad
/-- what a list's method makes of its items, and tells -/
def mtLst (q : Mt) (m : Mem) (o : D) (ds as : List D) : R (D × List D) := match q with
  | .append => match as with
    | [x] => if ds.length < most then .ok (.non, ds ++ [x]) else .bad
    | _ => .bad
  | .extend => match as with
    | [x] => (itemsL m x).bind fun es => if ds.length + es.length ≤ most then .ok (.non, ds ++ es) else .bad
    | _ => .bad
  | .insert => match as with
    | [.int i, x] => if i = 0 ∧ ds.length < most then .ok (.non, x :: ds) else .bad
    | _ => .bad
  | .pop => match as with
    | [.int i] => if i = 0 then (match ds with
      | d :: r => .ok (d, r)
      | [] => .bad) else .bad
    | [] => match ds.getLast? with
      | some d => .ok (d, ds.dropLast)
      | none => .bad
    | _ => .bad
  | .remove => match as with
    | [x] => match val m x, val m o with
      | some x, some (.nd ow sh es) => if fitD x && fitD (.nd ow sh es) then (match findD x es with
        | some j => .ok (.non, ds.eraseIdx j)
        | none => .bad) else .bad
      | _, _ => .bad
    | _ => .bad
  | .clear => match as with
    | [] => .ok (.non, [])
    | _ => .bad
  | .reverse => match as with
    | [] => .ok (.non, ds.reverse)
    | _ => .bad
  | _ => .bad
def mt (q : Mt) (m : Mem) (o : D) (as : List D) : R (D × Mem) := match q with
  | .get => asV m (mtGet m o as)
  | q => match o with
    | .loc n => match m[n]? with
      | some ⟨.lst, ds⟩ => (mtLst q m o ds as).bind fun r => .ok (r.1, m.set n ⟨.lst, r.2⟩)
      | _ => .bad
    | _ => .bad

/-- the receiver's kind, ahead of the arguments -/
def mtOk (q : Mt) (m : Mem) (o : D) : R Unit := match q with
  | .get => match view m o with
    | some ⟨.dK _, _⟩ => .ok ()
    | _ => .bad
  | _ => match view m o with
    | some ⟨.lst, _⟩ => .ok ()
    | _ => .bad

/-! ### walks -/
inductive Src where
  | st (ds : List D) | cell (n : Nat) (w : Bool)
def goSt {α : Type} (f : D → α → Mem → R (α × Mem)) : List D → α → Mem → R (α × Mem)
  | [], a, m => .ok (a, m)
  | d :: ds, a, m => (f d a m).bind fun r => goSt f ds r.1 r.2
def lstAt (m : Mem) (n : Nat) : Option (List D) := match m[n]? with
  | some ⟨.lst, ds⟩ => some ds
  | _ => none
def wrapI (w : Bool) (i : Nat) (d : D) : D := if w then tupD [.int i, d] else d
def goCl {α : Type} (f : D → α → Mem → R (α × Mem)) (n : Nat) (w : Bool) : Nat → Nat → α → Mem → R (α × Mem)
  | 0, i, a, m => match lstAt m n with
    | some ds => if ds.length = i then .ok (a, m) else .bad
    | none => .bad
  | c + 1, i, a, m => match lstAt m n with
    | some ds => match ds[i]? with
      | some d => (f (wrapI w i d) a m).bind fun r => goCl f n w c (i + 1) r.1 r.2
      | none => .bad
    | none => .bad
def goSrc {α : Type} (f : D → α → Mem → R (α × Mem)) (s : Src) (a : α) (m : Mem) : R (α × Mem) := match s with
  | .st ds => goSt f ds a m
  | .cell n w => match lstAt m n with
    | some ds => goCl f n w ds.length 0 a m
    | none => .bad
def enumD : Nat → List D → List D
  | _, [] => []
  | i, d :: ds => tupD [.int i, d] :: enumD (i + 1) ds
def zipD : List D → List D → List D
  | a :: as, b :: bs => tupD [a, b] :: zipD as bs
  | _, _ => []
def rngD (lo hi : Int) : List D := (List.range (hi - lo).toNat).map fun (i : Nat) => D.int (lo + i)
def small (i : Int) : Bool := decide (-(2 ^ 62) ≤ i) && decide (i < 2 ^ 62)
def srcOf (m : Mem) : D → R Src
  | .loc n => match m[n]? with
    | some ⟨.lst, _⟩ => .ok (.cell n false)
    | _ => .bad
  | .nd _ .tup ds => .ok (.st ds)
  | .nd _ .tupP ds => .ok (.st ds)
  | .nd _ .lst ds => .ok (.st ds)
  | .nd _ .scr ds => .ok (.st ds)
  | .str x => .ok (.st (x.cps.toList.map fun c => .str ⟨#[c]⟩))
  | _ => .bad
def enuOf (m : Mem) : D → R Src
  | .loc n => match m[n]? with
    | some ⟨.lst, _⟩ => .ok (.cell n true)
    | _ => .bad
  | .nd _ .tup ds => .ok (.st (enumD 0 ds))
  | .nd _ .tupP ds => .ok (.st (enumD 0 ds))
  | .nd _ .lst ds => .ok (.st (enumD 0 ds))
  | _ => .bad
def zipOf (a b : D) : R Src := match b with
  | .nd _ .lst ys => match tupOf a with
    | some xs => .ok (.st (zipD xs ys))
    | none => .bad
  | _ => .bad
def wipe (ρ : Env) : List Nat → Env
  | [] => ρ
  | v :: vs => (wipe ρ vs).set v none
/-- a call by values: in a memory of its own -/
def pc (cal : Cal) (f : Str) (as : List D) : R D := match cal f as [] with
  | .ok (d, m) => R.of (frz m d)
  | .exc C fs _ => .exc C fs []
  | .bad => .bad
/-- a dict's entry put -/
def putC (c : Sh × List D) (k v : D) : R (Sh × List D) := match c with
  | (.dK ks, ds) => match keyOf k with
    | some k => if ks.length < most then .ok (.dK (kput k v ks ds).1, (kput k v ks ds).2) else .bad
    | none => .bad
  | (.dT ks, ds) => match keyTOf k with
    | some k => if ks.length < most then .ok (.dT (kput k v ks ds).1, (kput k v ks ds).2) else .bad
    | none => .bad
  | _ => .bad
def putsC : List D → Sh × List D → R (Sh × List D)
  | k :: v :: ks, c => (putC c k v).bind fun c => putsC ks c
  | [], c => .ok c
  | [_], _ => .bad
def emptyK (tk : Bool) : Sh × List D := if tk then (.dT [], []) else (.dK [], [])

def isNon : D → Bool
  | .non => true
  | _ => false
abbrev Acc := Sh × List D
def putL (a : Acc) (d : D) : R Acc := if a.2.length < most then .ok (a.1, a.2 ++ [d]) else .bad

/-- into a set of ints and texts: what stands in it, each once -/
def memK (k : Key) (ds : List D) : Bool := ds.any fun d => decide (keyOf d = some k)
def putS (a : Acc) (d : D) : R Acc := match keyOf d with
  | some k => if memK k a.2 then .ok a else if a.2.length + 2 < scanBound then .ok (a.1, a.2 ++ [d]) else .bad
  | none => .bad
/-! ### the evaluator -/
section
variable (cal : Cal)
mutual
def evE : E → Env → Mem → R (D × Mem)
  | .var i, ρ, m => match ρ[i]? with
    | some (some d) => .ok (d, m)
    | _ => .bad
  | .cst d, _, m => .ok (d, m)
  | .bin op a b, ρ, m => (evE a ρ m).bind fun x => (evE b ρ x.2).bind fun y => (bin op y.2 x.1 y.1).bind fun d => .ok (d, y.2)
  | .neg a, ρ, m => (evE a ρ m).bind fun x => (asI x.1).bind fun i => .ok (.int (-i), x.2)
  | .cat a b, ρ, m => (evE a ρ m).bind fun x => (evE b ρ x.2).bind fun y => catD y.2 x.1 y.1
  | .cmp c a b, ρ, m => (evE a ρ m).bind fun x => (evE b ρ x.2).bind fun y => (cmpB c y.2 x.1 y.1).bind fun d => .ok (.bl d, y.2)
  | .chain c1 c2 a b c, ρ, m => (evE a ρ m).bind fun x => (evE b ρ x.2).bind fun y => (cmpB c1 y.2 x.1 y.1).bind fun d =>
      if d then (evE c ρ y.2).bind fun z => (cmpB c2 z.2 y.1 z.1).bind fun d => .ok (.bl d, z.2) else .ok (.bl false, y.2)
  | .isN no a, ρ, m => (evE a ρ m).bind fun x => .ok (.bl (if isNon x.1 then !no else no), x.2)
  | .and a b, ρ, m => (evE a ρ m).bind fun x => (asB x.1).bind fun c => if c then evE b ρ x.2 else .ok (.bl false, x.2)
  | .or a b, ρ, m => (evE a ρ m).bind fun x => (asB x.1).bind fun c => if c then .ok (.bl true, x.2) else evE b ρ x.2
  | .not a, ρ, m => (evE a ρ m).bind fun x => (asB x.1).bind fun c => .ok (.bl (!c), x.2)
  | .ite c a b, ρ, m => (evE c ρ m).bind fun x => (asB x.1).bind fun t => if t then evE a ρ x.2 else evE b ρ x.2
  | .tup es, ρ, m => (evEs es ρ m).bind fun x => .ok (.nd true .tupP x.1, x.2)
  | .lst fr es, ρ, m => (evEs es ρ m).bind fun x => .ok (fin fr .lst x.1 x.2)
  | .dct fr tk es, ρ, m => (evEs es ρ m).bind fun x => (putsC x.1 (emptyK tk)).bind fun c => .ok (fin fr c.1 c.2 x.2)
  | .idx a i, ρ, m => (evE a ρ m).bind fun x => (evE i ρ x.2).bind fun y => (idxD y.2 x.1 y.1).bind fun d => .ok (d, y.2)
  | .slcL a lo, ρ, m => (evE a ρ m).bind fun x => (evE lo ρ x.2).bind fun y => (asI y.1).bind fun i => (slcD y.2 x.1 (some i) none).bind fun d => .ok (d, y.2)
  | .slcU a hi, ρ, m => (evE a ρ m).bind fun x => (evE hi ρ x.2).bind fun y => (asI y.1).bind fun i => (slcD y.2 x.1 none (some i)).bind fun d => .ok (d, y.2)
  | .slcB a lo hi, ρ, m => (evE a ρ m).bind fun x => (evE lo ρ x.2).bind fun y => (asI y.1).bind fun i => (evE hi ρ y.2).bind fun z => (asI z.1).bind fun j => (slcD z.2 x.1 (some i) (some j)).bind fun d => .ok (d, z.2)
  | .fld a f, ρ, m => (evE a ρ m).bind fun x => (fldD x.2 x.1 f).bind fun d => .ok (d, x.2)
  | .call f es, ρ, m => (evEs es ρ m).bind fun x => cal f x.1 x.2
  | .pcall s f es, ρ, m => (evEs es ρ m).bind fun x =>
      (if s then R.of (lends x.2 x.1) else if lfs x.1 then .ok x.1 else .bad).bind fun as => (pc cal f as).bind fun d => .ok (d, x.2)
  | .meth o q es, ρ, m => (evE o ρ m).bind fun x => (clsM x.2 x.1 q).bind fun C => (evEs es ρ x.2).bind fun y => cal (C ++ "." ++ q) (x.1 :: y.1) y.2
  | .pmeth s o q es, ρ, m => (evE o ρ m).bind fun x => (clsM x.2 x.1 q).bind fun C => (evEs es ρ x.2).bind fun y =>
      (if s then R.of (lends y.2 (x.1 :: y.1)) else if lfs (x.1 :: y.1) then .ok (x.1 :: y.1) else .bad).bind fun as => (pc cal (C ++ "." ++ q) as).bind fun d => .ok (d, y.2)
  | .bi b fr es, ρ, m => (evEs es ρ m).bind fun x => bi b fr x.2 x.1
  | .mt q o es, ρ, m => (evE o ρ m).bind fun x => (mtOk q x.2 x.1).bind fun _ => (evEs es ρ x.2).bind fun y => mt q y.2 x.1 y.1
  | .kg ks ds a b, ρ, m => (evE a ρ m).bind fun x => (evE b ρ x.2).bind fun y => match x.1 with
    | .str z => .ok ((kget z ks ds).getD y.1, y.2)
    | _ => .bad
  | .isi a ks, ρ, m => (evE a ρ m).bind fun x => (isiD x.2 x.1 ks).bind fun b => .ok (.bl b, x.2)
  | .lc fr e own t it ifs g, ρ, m => (evI it ρ m).bind fun s => (goSrc (fun d acc m => (asgn t d (wipe ρ own) m).bind fun r => (evIfs ifs r.1 r.2).bind fun b =>
      if b.1 then evG g (fun ρ acc m => (evE e ρ m).bind fun x => (putL acc x.1).bind fun acc => .ok (acc, x.2)) r.1 acc b.2 else .ok (acc, b.2)) s.1 (Sh.lst, []) s.2).bind fun r => .ok (fin fr r.1.1 r.1.2 r.2)
  | .dc fr tk k v own t it ifs g, ρ, m => (evI it ρ m).bind fun s => (goSrc (fun d acc m => (asgn t d (wipe ρ own) m).bind fun r => (evIfs ifs r.1 r.2).bind fun b =>
      if b.1 then evG g (fun ρ acc m => (evE k ρ m).bind fun x => (evE v ρ x.2).bind fun y => (putC acc x.1 y.1).bind fun acc => .ok (acc, y.2)) r.1 acc b.2 else .ok (acc, b.2)) s.1 (emptyK tk) s.2).bind fun r => .ok (fin fr r.1.1 r.1.2 r.2)
  | .sc e own t it ifs g, ρ, m => (evI it ρ m).bind fun s => (goSrc (fun d acc m => (asgn t d (wipe ρ own) m).bind fun r => (evIfs ifs r.1 r.2).bind fun b =>
      if b.1 then evG g (fun ρ acc m => (evE e ρ m).bind fun x => (putS acc x.1).bind fun acc => .ok (acc, x.2)) r.1 acc b.2 else .ok (acc, b.2)) s.1 (Sh.lst, []) s.2).bind fun r => .ok (lstD r.1.2, r.2)
def evEs : List E → Env → Mem → R (List D × Mem)
  | [], _, m => .ok ([], m)
  | e :: es, ρ, m => (evE e ρ m).bind fun x => (evEs es ρ x.2).bind fun y => .ok (x.1 :: y.1, y.2)
def evIfs : List E → Env → Mem → R (Bool × Mem)
  | [], _, m => .ok (true, m)
  | e :: es, ρ, m => (evE e ρ m).bind fun x => (asB x.1).bind fun b => if b then evIfs es ρ x.2 else .ok (false, x.2)
def asgn : T → D → Env → Mem → R (Env × Mem)
  | .var i, d, ρ, m => .ok (ρ.set i (some d), m)
  | .tup ts, d, ρ, m => match tupOf d with
    | some ds => asgns ts ds ρ m
    | none => .bad
  | .star ts j, d, ρ, m => match tupOf d with
    | some ds => if ts.length ≤ ds.length then (asgns ts (ds.take ts.length) ρ m).bind fun r => .ok (r.1.set j (some (lstD (ds.drop ts.length))), r.2) else .bad
    | none => .bad
  | .idx o i, d, ρ, m => (evE o ρ m).bind fun x => (evE i ρ x.2).bind fun y => (setD y.2 x.1 y.1 d).bind fun m => .ok (ρ, m)
  | .fld o f, d, ρ, m => (evE o ρ m).bind fun x => (setF x.2 x.1 f d).bind fun m => .ok (ρ, m)
def asgns : List T → List D → Env → Mem → R (Env × Mem)
  | t :: ts, d :: ds, ρ, m => (asgn t d ρ m).bind fun r => asgns ts ds r.1 r.2
  | [], [], ρ, m => .ok (ρ, m)
  | _, _, _, _ => .bad
def evI : I → Env → Mem → R (Src × Mem)
  | .seq e, ρ, m => (evE e ρ m).bind fun x => (srcOf x.2 x.1).bind fun s => .ok (s, x.2)
  | .rng1 a, ρ, m => (evE a ρ m).bind fun x => (asI x.1).bind fun i => if small i then .ok (.st (rngD 0 i), x.2) else .bad
  | .rng2 a b, ρ, m => (evE a ρ m).bind fun x => (asI x.1).bind fun i => (evE b ρ x.2).bind fun y => (asI y.1).bind fun j => if small i && small j then .ok (.st (rngD i j), y.2) else .bad
  | .enu e, ρ, m => (evE e ρ m).bind fun x => (enuOf x.2 x.1).bind fun s => .ok (s, x.2)
  | .zip a b, ρ, m => (evE a ρ m).bind fun x => (evE b ρ x.2).bind fun y => (zipOf x.1 y.1).bind fun s => .ok (s, y.2)
def evG : G → (Env → Acc → Mem → R (Acc × Mem)) → Env → Acc → Mem → R (Acc × Mem)
  | .nil, k, ρ, a, m => k ρ a m
  | .cons t own it ifs g, k, ρ, a, m => (evI it ρ m).bind fun s => goSrc (fun d a m => (asgn t d (wipe ρ own) m).bind fun r => (evIfs ifs r.1 r.2).bind fun b =>
      if b.1 then evG g k r.1 a b.2 else .ok (a, b.2)) s.1 a s.2
end
end

/-! ### statements -/
def forSt (f : D → Env → Mem → R (Fl × Mem)) : List D → Env → Mem → R (Fl × Mem)
  | [], ρ, m => .ok (.nx ρ, m)
  | d :: ds, ρ, m => (f d ρ m).bind fun r => match r.1 with
    | .nx ρ => forSt f ds ρ r.2
    | .rt v => .ok (.rt v, r.2)
def forCl (f : D → Env → Mem → R (Fl × Mem)) (n : Nat) (w : Bool) : Nat → Nat → Env → Mem → R (Fl × Mem)
  | 0, i, ρ, m => match lstAt m n with
    | some ds => if ds.length = i then .ok (.nx ρ, m) else .bad
    | none => .bad
  | c + 1, i, ρ, m => match lstAt m n with
    | some ds => match ds[i]? with
      | some d => (f (wrapI w i d) ρ m).bind fun r => match r.1 with
        | .nx ρ => forCl f n w c (i + 1) ρ r.2
        | .rt v => .ok (.rt v, r.2)
      | none => .bad
    | none => .bad
def forSrc (f : D → Env → Mem → R (Fl × Mem)) (s : Src) (ρ : Env) (m : Mem) : R (Fl × Mem) := match s with
  | .st ds => forSt f ds ρ m
  | .cell n w => match lstAt m n with
    | some ds => forCl f n w ds.length 0 ρ m
    | none => .bad
/-- a while of at most so many turns -/
def whlN (c : Env → Mem → R (D × Mem)) (b : Env → Mem → R (Fl × Mem)) : Nat → Env → Mem → R (Fl × Mem)
  | 0, _, _ => .bad
  | n + 1, ρ, m => (c ρ m).bind fun x => (asB x.1).bind fun t => if t then (b ρ x.2).bind fun r => (match r.1 with
      | .nx ρ => whlN c b n ρ r.2
      | .rt v => .ok (.rt v, r.2)) else .ok (.nx ρ, x.2)
theorem whlN_more (c : Env → Mem → R (D × Mem)) (b : Env → Mem → R (Fl × Mem)) : ∀ (n : Nat) (ρ : Env) (m : Mem), whlN c b n ρ m ≠ .bad → whlN c b (n + 1) ρ m = whlN c b n ρ m := by
  intro n
  induction n with
  | zero => intro ρ m h; exact absurd rfl h
  | succ n ih =>
    intro ρ m h
    unfold whlN at h ⊢
    cases hc : c ρ m with
    | bad => rfl
    | exc C fs m' => rfl
    | ok x =>
      rw [hc] at h
      simp only [R.bind] at h ⊢
      cases ht : asB x.1 with
      | bad => rfl
      | exc C fs m' => rfl
      | ok t =>
        rw [ht] at h
        simp only at h ⊢
        cases t with
        | false => rfl
        | true =>
          simp only [if_true] at h ⊢
          cases hb : b ρ x.2 with
          | bad => rfl
          | exc C fs m' => rfl
          | ok r =>
            rw [hb] at h
            obtain ⟨fl, m2⟩ := r
            cases fl with
            | rt v => rfl
            | nx ρ' => exact ih ρ' m2 h
theorem whlN_le (c : Env → Mem → R (D × Mem)) (b : Env → Mem → R (Fl × Mem)) {n k : Nat} {ρ : Env} {m : Mem} (h : whlN c b n ρ m ≠ .bad) (hk : n ≤ k) : whlN c b k ρ m = whlN c b n ρ m := by
  induction hk with
  | refl => rfl
  | step hk ih =>
    rw [whlN_more c b _ ρ m (by rw [ih]; exact h), ih]
open Classical in
noncomputable def whl (c : Env → Mem → R (D × Mem)) (b : Env → Mem → R (Fl × Mem)) (ρ : Env) (m : Mem) : R (Fl × Mem) :=
  if h : ∃ n, whlN c b n ρ m ≠ .bad then whlN c b (Classical.choose h) ρ m else .bad
theorem whl_of {c : Env → Mem → R (D × Mem)} {b : Env → Mem → R (Fl × Mem)} {n : Nat} {ρ : Env} {m : Mem} (h : whlN c b n ρ m ≠ .bad) : whl c b ρ m = whlN c b n ρ m := by
  have hx : ∃ n, whlN c b n ρ m ≠ .bad := ⟨n, h⟩
  unfold whl
  rw [dif_pos hx]
  have hs := Classical.choose_spec hx
  rcases Nat.le_total (Classical.choose hx) n with hl | hl
  · exact (whlN_le c b hs hl).symm
  · exact whlN_le c b h hl
theorem whl_ex {c : Env → Mem → R (D × Mem)} {b : Env → Mem → R (Fl × Mem)} {ρ : Env} {m : Mem} (h : whl c b ρ m ≠ .bad) : ∃ n, whlN c b n ρ m = whl c b ρ m := by
  by_cases hx : ∃ n, whlN c b n ρ m ≠ .bad
  · obtain ⟨n, hn⟩ := hx
    exact ⟨n, (whl_of hn).symm⟩
  · unfold whl at h
    rw [dif_neg hx] at h
    exact absurd rfl h
/-- a while, a turn at a time -/
theorem whl_eq (c : Env → Mem → R (D × Mem)) (b : Env → Mem → R (Fl × Mem)) (ρ : Env) (m : Mem) : whl c b ρ m = (c ρ m).bind fun x => (asB x.1).bind fun t => if t then (b ρ x.2).bind fun r => (match r.1 with
      | .nx ρ => whl c b ρ r.2
      | .rt v => .ok (.rt v, r.2)) else .ok (.nx ρ, x.2) := by
  have key : ∀ n, whlN c b (n + 1) ρ m ≠ .bad → whlN c b (n + 1) ρ m = (c ρ m).bind fun x => (asB x.1).bind fun t => if t then (b ρ x.2).bind fun r => (match r.1 with
      | .nx ρ => whl c b ρ r.2
      | .rt v => .ok (.rt v, r.2)) else .ok (.nx ρ, x.2) := by
    intro n h
    unfold whlN at h ⊢
    cases hc : c ρ m with
    | bad => rfl
    | exc C fs m' => rfl
    | ok x =>
      rw [hc] at h
      simp only [R.bind] at h ⊢
      cases ht : asB x.1 with
      | bad => rfl
      | exc C fs m' => rfl
      | ok t =>
        rw [ht] at h
        simp only at h ⊢
        cases t with
        | false => rfl
        | true =>
          simp only [if_true] at h ⊢
          cases hb : b ρ x.2 with
          | bad => rfl
          | exc C fs m' => rfl
          | ok r =>
            rw [hb] at h
            obtain ⟨fl, m2⟩ := r
            cases fl with
            | rt v => rfl
            | nx ρ' => exact (whl_of h).symm
  by_cases hx : ∃ n, whlN c b n ρ m ≠ .bad
  · obtain ⟨n, hn⟩ := hx
    have hn1 : whlN c b (n + 1) ρ m ≠ .bad := by rw [whlN_more c b n ρ m hn]; exact hn
    rw [whl_of hn1]
    exact key n hn1
  · have e : whl c b ρ m = .bad := by unfold whl; rw [dif_neg hx]
    rw [e]
    have none : ∀ n, whlN c b n ρ m = .bad := fun n => Classical.byContradiction fun q => hx ⟨n, q⟩
    symm
    cases hc : c ρ m with
    | bad => rfl
    | exc C fs m' => have := none 1; unfold whlN at this; rw [hc] at this; exact absurd this (by simp [R.bind])
    | ok x =>
      simp only [R.bind]
      cases ht : asB x.1 with
      | bad => rfl
      | exc C fs m' => have := none 1; unfold whlN at this; rw [hc] at this; simp [R.bind, ht] at this
      | ok t =>
        cases t with
        | false => have := none 1; unfold whlN at this; rw [hc] at this; simp [R.bind, ht] at this
        | true =>
          simp only [if_true]
          cases hb : b ρ x.2 with
          | bad => rfl
          | exc C fs m' => have := none 1; unfold whlN at this; rw [hc] at this; simp [R.bind, ht, hb] at this
          | ok r =>
            obtain ⟨fl, m2⟩ := r
            cases fl with
            | rt v => have := none 1; unfold whlN at this; rw [hc] at this; simp [R.bind, ht, hb] at this
            | nx ρ' =>
              show whl c b ρ' m2 = .bad
              refine Classical.byContradiction fun q => ?_
              obtain ⟨n, hn⟩ := whl_ex q
              have := none (n + 1)
              unfold whlN at this
              rw [hc] at this
              simp only [R.bind, ht, if_true, hb] at this
              rw [hn] at this
              exact q this
section
variable (cal : Cal)
mutual
noncomputable def evS : S → Env → Mem → R (Fl × Mem)
  | .asg t e, ρ, m => (evE cal e ρ m).bind fun x => (asgn cal t x.1 ρ x.2).bind fun r => .ok (.nx r.1, r.2)
  | .par is es, ρ, m => (evEs cal es ρ m).bind fun x => if is.length = x.1.length then .ok (.nx ((is.zip x.1).foldl (fun ρ p => ρ.set p.1 (some p.2)) ρ), x.2) else .bad
  | .augV i e, ρ, m => match ρ[i]? with
    | some (some d) => (evE cal e ρ m).bind fun x => (asI d).bind fun a => (asI x.1).bind fun b => .ok (.nx (ρ.set i (some (.int (a + b)))), x.2)
    | _ => .bad
  | .augF o f e, ρ, m => (evE cal o ρ m).bind fun x => (fldD x.2 x.1 f).bind fun d => (evE cal e ρ x.2).bind fun y => (asI d).bind fun a => (asI y.1).bind fun b => (clsD x.2 x.1).bind fun C1 => (clsD y.2 x.1).bind fun C2 => if C1 = C2 then (setF y.2 x.1 f (.int (a + b))).bind fun m => .ok (.nx ρ, m) else .bad
  | .exp e, ρ, m => (evE cal e ρ m).bind fun x => .ok (.nx ρ, x.2)
  | .ret e, ρ, m => (evE cal e ρ m).bind fun x => .ok (.rt x.1, x.2)
  | .retN, _, m => .ok (.rt .non, m)
  | .pas, ρ, m => .ok (.nx ρ, m)
  | .ifs c a b, ρ, m => (evE cal c ρ m).bind fun x => (asB x.1).bind fun t => if t then evSs a ρ x.2 else evSs b ρ x.2
  | .for_ t it b, ρ, m => (evI cal it ρ m).bind fun s => forSrc (fun d ρ m => (asgn cal t d ρ m).bind fun r => evSs b r.1 r.2) s.1 ρ s.2
  | .whl c b, ρ, m => whl (fun ρ m => evE cal c ρ m) (fun ρ m => evSs b ρ m) ρ m
  | .rse C es, ρ, m => (evEs cal es ρ m).bind fun x => .exc C [] x.2
noncomputable def evSs : List S → Env → Mem → R (Fl × Mem)
  | [], ρ, m => .ok (.nx ρ, m)
  | s :: ss, ρ, m => (evS s ρ m).bind fun r => match r.1 with
    | .nx ρ => evSs ss ρ r.2
    | .rt v => .ok (.rt v, r.2)
end
end
/-- what a name of the program stands for: a def (its parameters, its names, its body), or a class -/
inductive Df where
  | fn (np ns : Nat) (body : List S) | cls
abbrev Prg := List (Str × Df)
/-- the result of a body -/
def out : Fl → D
  | .nx _ => .non
  | .rt d => d
noncomputable def runD (cal : Cal) (np ns : Nat) (body : List S) (as : List D) (m : Mem) : R (D × Mem) :=
  if as.length = np then (evSs cal body (as.map some ++ List.replicate (ns - np) none) m).bind fun r => .ok (out r.1, r.2) else .bad
noncomputable def callN (Pg : Prg) : Nat → Cal
  | 0, _, _, _ => .bad
  | k + 1, f, as, m => match Pg.lookup f with
    | some (.fn np ns body) => runD (callN Pg k) np ns body as m
    | some .cls => (callN Pg k (f ++ ".__init__") (.loc m.length :: as) (m ++ [⟨.ins f [], []⟩])).bind fun r => match r.1 with
      | .non => .ok (.loc m.length, r.2)
      | _ => .bad
    | none => .bad
end Mi
end
section
set_option linter.all false
set_option Elab.async false
set_option maxRecDepth 100000
set_option maxHeartbeats 2000000
/-! Mi1: how data and memory stand in the heap; the small language's readings. -/
namespace Mi
open PySem PySem.Spec PyProof.Rows L2

/-- where cells stand; what is frozen; what is lent; what is kept by, and no datum tells of -/
structure Wd where
  io : Nat → Option Addr
  F : Hp
  B : Hp
  P : Hp
abbrev ClA := Str → Option Addr
def ShAt (K : PySem.W.Frag) (cl : ClA) (G : Hp) (a : Addr) : Sh → List V → Prop
  | .tup, xs => SqT K G a xs
  | .tupP, xs => ∃ ob : Obj, G a = some (.frz ob (.tup xs)) ∧ ob.dict = none
  | .lst, xs => G a = some (.lst xs)
  | .scr, xs => SqL K G a xs
  | .dK ks, xs => ks.length = xs.length ∧ G a = some (.dK (ks.zip xs))
  | .dT ks, xs => ks.length = xs.length ∧ G a = some (.dT (ks.zip xs))
  | .ins C fs, xs => fs.length = xs.length ∧ ∃ c dx, cl C = some c ∧ G a = some (.ins c dx (fs.zip xs))
/-- a cell's object: it may be written -/
def ClAt (cl : ClA) (H : Hp) (a : Addr) : Sh → List V → Prop
  | .tup, _ => False
  | .tupP, _ => False
  | .scr, _ => False
  | .lst, xs => H a = some (.lst xs)
  | .dK ks, xs => ks.length = xs.length ∧ H a = some (.dK (ks.zip xs))
  | .dT ks, xs => ks.length = xs.length ∧ H a = some (.dT (ks.zip xs))
  | .ins C fs, xs => fs.length = xs.length ∧ ∃ c dx, cl C = some c ∧ H a = some (.ins c dx (fs.zip xs))
/-- the object of a shape (no instance) -/
def hoOf : Sh → List V → HO
  | .tup, xs => .tup xs
  | .tupP, xs => .lst xs
  | .lst, xs => .lst xs
  | .scr, xs => .lst xs
  | .dK ks, xs => .dK (ks.zip xs)
  | .dT ks, xs => .dT (ks.zip xs)
  | .ins _ _, xs => .lst xs
def shLen : Sh → Nat → Bool
  | .tup, _ => true
  | .tupP, _ => false
  | .lst, _ => true
  | .scr, _ => false
  | .dK ks, n => decide (ks.length = n)
  | .dT ks, n => decide (ks.length = n)
  | .ins _ _, _ => false
mutual
def Rp (K : PySem.W.Frag) (cl : ClA) (W : Wd) : D → V → Prop
  | .non, v => v = .non
  | .bl b, v => v = .bl b
  | .int i, v => v = .int i
  | .str x, v => v = .str x
  | .loc n, v => ∃ a, W.io n = some a ∧ v = .ref a
  | .nd o sh ds, v => ∃ a xs, v = .ref a ∧ ShAt K cl (if o then W.F else W.B) a sh xs ∧ Rps K cl W ds xs
def Rps (K : PySem.W.Frag) (cl : ClA) (W : Wd) : List D → List V → Prop
  | [], xs => xs = []
  | d :: ds, xs => ∃ v vs, xs = v :: vs ∧ Rp K cl W d v ∧ Rps K cl W ds vs
end
def isT : HO → Bool
  | .tup _ => true
  | .frz _ (.tup _) => true
  | _ => false
structure Wd.le (W W' : Wd) : Prop where
  io : ∀ n a, W.io n = some a → W'.io n = some a
  F : ∀ a o, W.F a = some o → W'.F a = some o
  B : W'.B = W.B
  P : W'.P = W.P
  nw : ∀ a o, W'.F a = some o → W.F a = some o ∨ W.B a = none ∨ isT o = true
/-- .. what data need of it -/
structure Wd.le0 (W W' : Wd) : Prop where
  io : ∀ n a, W.io n = some a → W'.io n = some a
  F : ∀ a o, W.F a = some o → W'.F a = some o
  B : W'.B = W.B
theorem Wd.le.z {W W' : Wd} (l : W.le W') : W.le0 W' := ⟨l.io, l.F, l.B⟩
theorem Wd.le.refl (W : Wd) : W.le W := ⟨fun _ _ h => h, fun _ _ h => h, rfl, rfl, fun _ _ h => .inl h⟩
theorem Wd.le.trans {W W1 W2 : Wd} (a : W.le W1) (b : W1.le W2) : W.le W2 := ⟨fun n x h => b.io n x (a.io n x h), fun n x h => b.F n x (a.F n x h), b.B.trans a.B, b.P.trans a.P, fun n x h => by
  rcases b.nw n x h with q | q | q
  · exact a.nw n x q
  · exact .inr (.inl (by rw [← a.B]; exact q))
  · exact .inr (.inr q)⟩
section
variable {K : PySem.W.Frag} {cl : ClA} {W W' : Wd} {H H' : Hp} {a : Addr} {xs : List V}
theorem Rd.up {G G' : Hp} {u : HO} (h : ∀ a o, G a = some o → G' a = some o) (r : Rd G a u) : Rd G' a u := by
  rcases r with r | ⟨o, r⟩
  · exact .inl (h _ _ r)
  · exact .inr ⟨o, h _ _ r⟩
theorem SqT.up {G G' : Hp} (h : ∀ a o, G a = some o → G' a = some o) (r : SqT K G a xs) : SqT K G' a xs := r.imp (Rd.up h) id
theorem SqL.up {G G' : Hp} (h : ∀ a o, G a = some o → G' a = some o) (r : SqL K G a xs) : SqL K G' a xs := r.imp (Rd.up h) id
theorem ShAt.up {G G' : Hp} (h : ∀ a o, G a = some o → G' a = some o) : ∀ {sh : Sh}, ShAt K cl G a sh xs → ShAt K cl G' a sh xs
  | .tup, r => SqT.up h r
  | .tupP, ⟨ob, r, z⟩ => ⟨ob, h _ _ r, z⟩
  | .lst, r => h _ _ r
  | .scr, r => SqL.up h r
  | .dK _, r => ⟨r.1, h _ _ r.2⟩
  | .dT _, r => ⟨r.1, h _ _ r.2⟩
  | .ins _ _, ⟨r, c, dx, q1, q2⟩ => ⟨r, c, dx, q1, h _ _ q2⟩
theorem ShAt.sq {G : Hp} (h : ShAt K cl G a .tupP xs) : SqT K G a xs := let ⟨ob, e, _⟩ := h; .inl (.inr ⟨ob, e⟩)
theorem ShAt.nrm {G : Hp} {sh : Sh} (h : ShAt K cl G a sh xs) : ShAt K cl G a (nrm sh) xs := by
  cases sh with
  | tupP => exact h.sq
  | tup => exact h
  | lst => exact h
  | scr => exact h
  | dK _ => exact h
  | dT _ => exact h
  | ins _ _ => exact h
mutual
theorem Rp.up0 (l : W.le0 W') : ∀ {d : D} {v : V}, Rp K cl W d v → Rp K cl W' d v
  | .non, _, h => h
  | .bl _, _, h => h
  | .int _, _, h => h
  | .str _, _, h => h
  | .loc n, _, h => by
    unfold Rp at h ⊢
    obtain ⟨a, e, q⟩ := h
    exact ⟨a, l.io _ _ e, q⟩
  | .nd o sh ds, v, h => by
    unfold Rp at h ⊢
    obtain ⟨a, xs, e, q, r⟩ := h
    refine ⟨a, xs, e, ShAt.up (fun a u hh => ?_) q, Rps.up0 l r⟩
    cases o with
    | true => exact l.F _ _ hh
    | false => simpa [l.B] using hh
theorem Rps.up0 (l : W.le0 W') : ∀ {ds : List D} {vs : List V}, Rps K cl W ds vs → Rps K cl W' ds vs
  | [], _, h => h
  | d :: ds, _, h => by
    unfold Rps at h ⊢
    obtain ⟨v, vs, e, h1, h2⟩ := h
    exact ⟨v, vs, e, Rp.up0 l h1, Rps.up0 l h2⟩
end
theorem Rp.up (l : W.le W') {d : D} {v : V} (h : Rp K cl W d v) : Rp K cl W' d v := h.up0 l.z
theorem Rps.up (l : W.le W') {ds : List D} {vs : List V} (h : Rps K cl W ds vs) : Rps K cl W' ds vs := h.up0 l.z
theorem Rps.nil : Rps K cl W [] [] := by unfold Rps; rfl
theorem Rps.cons {d : D} {v : V} {ds : List D} {vs : List V} (h : Rp K cl W d v) (r : Rps K cl W ds vs) : Rps K cl W (d :: ds) (v :: vs) := by unfold Rps; exact ⟨v, vs, rfl, h, r⟩
theorem Rps.length : ∀ {ds : List D} {vs : List V}, Rps K cl W ds vs → ds.length = vs.length
  | [], _, h => by unfold Rps at h; subst h; rfl
  | d :: ds, _, h => by
    unfold Rps at h
    obtain ⟨v, vs, rfl, _, h2⟩ := h
    simp [Rps.length h2]
theorem Rps.get : ∀ {ds : List D} {vs : List V} {i : Nat} {d : D}, Rps K cl W ds vs → ds[i]? = some d → ∃ v, vs[i]? = some v ∧ Rp K cl W d v
  | [], _, _, _, h, e => by simp at e
  | d :: ds, _, 0, _, h, e => by
    unfold Rps at h
    obtain ⟨v, vs, rfl, h1, _⟩ := h
    simp at e
    subst e
    exact ⟨v, by simp, h1⟩
  | d :: ds, _, i + 1, _, h, e => by
    unfold Rps at h
    obtain ⟨v, vs, rfl, _, h2⟩ := h
    obtain ⟨u, e2, q⟩ := Rps.get h2 (i := i) (by simpa using e)
    exact ⟨u, by simpa using e2, q⟩
theorem Rps.append : ∀ {ds es : List D} {vs us : List V}, Rps K cl W ds vs → Rps K cl W es us → Rps K cl W (ds ++ es) (vs ++ us)
  | [], _, _, _, h, r => by unfold Rps at h; subst h; exact r
  | d :: ds, _, _, _, h, r => by
    unfold Rps at h
    obtain ⟨v, vs, rfl, h1, h2⟩ := h
    exact Rps.cons h1 (Rps.append h2 r)
theorem Rps.take : ∀ {ds : List D} {vs : List V} (n : Nat), Rps K cl W ds vs → Rps K cl W (ds.take n) (vs.take n)
  | [], _, n, h => by unfold Rps at h; subst h; simp; exact Rps.nil
  | d :: ds, _, 0, h => by simp; exact Rps.nil
  | d :: ds, _, n + 1, h => by
    unfold Rps at h
    obtain ⟨v, vs, rfl, h1, h2⟩ := h
    simp only [List.take_succ_cons]
    exact Rps.cons h1 (Rps.take n h2)
theorem Rps.drop : ∀ {ds : List D} {vs : List V} (n : Nat), Rps K cl W ds vs → Rps K cl W (ds.drop n) (vs.drop n)
  | [], _, n, h => by unfold Rps at h; subst h; simp; exact Rps.nil
  | d :: ds, _, 0, h => by simpa using h
  | d :: ds, _, n + 1, h => by
    unfold Rps at h
    obtain ⟨v, vs, rfl, h1, h2⟩ := h
    simpa using Rps.drop n h2
theorem Rps.set {d : D} {v : V} (hd : Rp K cl W d v) : ∀ {ds : List D} {vs : List V} (i : Nat), Rps K cl W ds vs → Rps K cl W (ds.set i d) (vs.set i v)
  | [], _, _, h => by unfold Rps at h; subst h; exact Rps.nil
  | _ :: _, _, 0, h => by
    unfold Rps at h
    obtain ⟨u, vs, rfl, h1, h2⟩ := h
    exact Rps.cons hd h2
  | _ :: _, _, i + 1, h => by
    unfold Rps at h
    obtain ⟨u, vs, rfl, h1, h2⟩ := h
    exact Rps.cons h1 (Rps.set hd i h2)
theorem Rps.eraseIdx : ∀ {ds : List D} {vs : List V} (i : Nat), Rps K cl W ds vs → Rps K cl W (ds.eraseIdx i) (vs.eraseIdx i)
  | [], _, _, h => by unfold Rps at h; subst h; simp; exact Rps.nil
  | _ :: _, _, 0, h => by
    unfold Rps at h
    obtain ⟨u, vs, rfl, h1, h2⟩ := h
    simpa using h2
  | _ :: _, _, i + 1, h => by
    unfold Rps at h
    obtain ⟨u, vs, rfl, h1, h2⟩ := h
    simpa using Rps.cons h1 (Rps.eraseIdx i h2)
theorem Rps.reverse : ∀ {ds : List D} {vs : List V}, Rps K cl W ds vs → Rps K cl W ds.reverse vs.reverse
  | [], _, h => by unfold Rps at h; subst h; exact Rps.nil
  | d :: ds, _, h => by
    unfold Rps at h
    obtain ⟨v, vs, rfl, h1, h2⟩ := h
    rw [List.reverse_cons, List.reverse_cons]
    exact (Rps.reverse h2).append (Rps.cons h1 Rps.nil)
end
/-- memory and heap -/
structure Sim (K : PySem.W.Frag) (cl : ClA) (W : Wd) (m : Mem) (H : Hp) : Prop where
  F : ∀ a o, W.F a = some o → H a = some o
  B : ∀ a o, W.B a = some o → H a = some o
  P : ∀ a o, W.P a = some o → H a = some o ∧ W.F a = none ∧ W.B a = none ∧ isT o = false
  cell : ∀ n c, m[n]? = some c → ∃ a xs, W.io n = some a ∧ W.F a = none ∧ W.B a = none ∧ ClAt cl H a c.sh xs ∧ Rps K cl W c.ds xs
  cp : ∀ n a, W.io n = some a → W.P a = none
  inj : ∀ n k a, W.io n = some a → W.io k = some a → n = k
  dom : ∀ n a, W.io n = some a → n < m.length
/-- names -/
structure REnv (K : PySem.W.Frag) (cl : ClA) (W : Wd) (ρ : Env) (σ : L2.St) : Prop where
  len : ρ.length = σ.length
  get : ∀ (i : Nat) d, ρ[i]? = some (some d) → ∃ v, σ[i]? = some (some v) ∧ Rp K cl W d v
section
variable {K : PySem.W.Frag} {cl : ClA} {W W' : Wd} {H H' : Hp} {ρ : Env} {σ : L2.St} {m : Mem}
theorem REnv.up0 (r : REnv K cl W ρ σ) (l : W.le0 W') : REnv K cl W' ρ σ := ⟨r.len, fun i d e => let ⟨v, q1, q2⟩ := r.get i d e; ⟨v, q1, q2.up0 l⟩⟩
theorem REnv.up (r : REnv K cl W ρ σ) (l : W.le W') : REnv K cl W' ρ σ := ⟨r.len, fun i d e => let ⟨v, q1, q2⟩ := r.get i d e; ⟨v, q1, q2.up l⟩⟩
theorem REnv.set (r : REnv K cl W ρ σ) {i : Nat} {d : D} {v : V} (h : Rp K cl W d v) : REnv K cl W (ρ.set i (some d)) (σ.set i (some v)) := by
  refine ⟨by simp [r.len], fun j e hj => ?_⟩
  by_cases hi : i = j
  · subst hi
    by_cases hl : i < ρ.length
    · rw [List.getElem?_set_self hl] at hj
      have e1 : d = e := Option.some.inj (Option.some.inj hj)
      subst e1
      exact ⟨v, by rw [List.getElem?_set_self (by rw [← r.len]; exact hl)], h⟩
    · rw [List.getElem?_eq_none (by simpa using hl)] at hj
      cases hj
  · rw [List.getElem?_set_ne hi] at hj
    obtain ⟨u, q1, q2⟩ := r.get j e hj
    exact ⟨u, by rw [List.getElem?_set_ne hi]; exact q1, q2⟩
theorem REnv.none (r : REnv K cl W ρ σ) {i : Nat} {o : Option V} : REnv K cl W (ρ.set i none) (σ.set i o) := by
  refine ⟨by simp [r.len], fun j e hj => ?_⟩
  by_cases hi : i = j
  · subst hi
    by_cases hl : i < ρ.length
    · rw [List.getElem?_set_self hl] at hj
      cases hj
    · rw [List.getElem?_eq_none (by simpa using hl)] at hj
      cases hj
  · rw [List.getElem?_set_ne hi] at hj
    obtain ⟨u, q1, q2⟩ := r.get j e hj
    exact ⟨u, by rw [List.getElem?_set_ne hi]; exact q1, q2⟩
theorem REnv.wipe (r : REnv K cl W ρ σ) : ∀ vs : List Nat, REnv K cl W (Mi.wipe ρ vs) (L2.wipe σ vs)
  | [] => r
  | v :: vs => by unfold Mi.wipe L2.wipe; exact (REnv.wipe r vs).none
/-- the object as it is read -/
theorem Sim.view (s : Sim K cl W m H) {d : D} {v : V} {c : Cell} (r : Rp K cl W d v) (h : view m d = some c) : ∃ a xs, v = .ref a ∧ ShAt K cl H a c.sh xs ∧ Rps K cl W c.ds xs := by
  cases d with
  | loc n =>
    unfold Rp at r
    obtain ⟨a, e, rfl⟩ := r
    obtain ⟨a', xs, e', _, _, ca, rs⟩ := s.cell n c h
    rw [e] at e'; cases e'
    refine ⟨a, xs, rfl, ?_, rs⟩
    obtain ⟨sh, ds⟩ := c
    cases sh with
    | tup => exact ca.elim
    | tupP => exact ca.elim
    | scr => exact ca.elim
    | lst => exact ca
    | dK ks => exact ca
    | dT ks => exact ca
    | ins C fs => exact ca
  | nd o sh ds =>
    unfold Rp at r
    obtain ⟨a, xs, rfl, q, rs⟩ := r
    have hc : c = ⟨nrm sh, ds⟩ := (Option.some.inj h).symm
    subst hc
    refine ⟨a, xs, rfl, (ShAt.up (fun b u hb => ?_) q).nrm, rs⟩
    cases o with
    | true => exact s.F _ _ hb
    | false => exact s.B _ _ hb
  | non => cases h
  | bl b => cases h
  | int i => cases h
  | str x => cases h
theorem hoOf_at {sh : Sh} {xs : List V} {G : Hp} {a : Addr} (h : G a = some (hoOf sh xs)) (hl : shLen sh xs.length = true) : ShAt K cl G a sh xs := by
  cases sh with
  | tup => exact SqT.of h
  | tupP => cases hl
  | lst => exact h
  | scr => cases hl
  | dK ks => exact ⟨of_decide_eq_true hl, h⟩
  | dT ks => exact ⟨of_decide_eq_true hl, h⟩
  | ins C fs => cases hl
theorem hoOf_cl {sh : Sh} {xs : List V} {G : Hp} {a : Addr} (h : G a = some (hoOf sh xs)) (hl : shLen sh xs.length = true) (ht : sh ≠ .tup) : ClAt cl G a sh xs := by
  cases sh with
  | tup => exact absurd rfl ht
  | tupP => cases hl
  | lst => exact h
  | scr => cases hl
  | dK ks => exact ⟨of_decide_eq_true hl, h⟩
  | dT ks => exact ⟨of_decide_eq_true hl, h⟩
  | ins C fs => cases hl
theorem ClAt.other {sh : Sh} {xs : List V} {a b : Addr} {o : HO} (h : ClAt cl H a sh xs) (ne : a ≠ b) : ClAt cl (upd H b o) a sh xs := by
  cases sh with
  | tup => exact h
  | tupP => exact h
  | scr => exact h
  | lst => show upd H b o a = _; rw [upd_ne ne]; exact h
  | dK ks => exact ⟨h.1, by rw [upd_ne ne]; exact h.2⟩
  | dT ks => exact ⟨h.1, by rw [upd_ne ne]; exact h.2⟩
  | ins C fs => obtain ⟨q, c, dx, q1, q2⟩ := h; exact ⟨q, c, dx, q1, by rw [upd_ne ne]; exact q2⟩
theorem ClAt.some {sh : Sh} {xs : List V} {a : Addr} (h : ClAt cl H a sh xs) : ∃ o, H a = some o := by
  cases sh with
  | tup => exact h.elim
  | tupP => exact h.elim
  | scr => exact h.elim
  | lst => exact ⟨_, h⟩
  | dK ks => exact ⟨_, h.2⟩
  | dT ks => exact ⟨_, h.2⟩
  | ins C fs => obtain ⟨q, c, dx, q1, q2⟩ := h; exact ⟨_, q2⟩
/-- new objects beside: the tracked ones stay -/
theorem Sim.grow (s : Sim K cl W m H) (h : ∀ a o, H a = some o → H' a = some o) : Sim K cl W m H' := by
  refine ⟨fun a o e => h _ _ (s.F a o e), fun a o e => h _ _ (s.B a o e), fun a o e => ⟨h _ _ (s.P a o e).1, (s.P a o e).2⟩, fun n c e => ?_, s.cp, s.inj, s.dom⟩
  obtain ⟨a, xs, q1, q2, q3, q4, q5⟩ := s.cell n c e
  refine ⟨a, xs, q1, q2, q3, ?_, q5⟩
  obtain ⟨sh, ds⟩ := c
  cases sh with
  | tup => exact q4
  | tupP => exact q4
  | scr => exact q4
  | lst => exact h _ _ q4
  | dK ks => exact ⟨q4.1, h _ _ q4.2⟩
  | dT ks => exact ⟨q4.1, h _ _ q4.2⟩
  | ins C fs => obtain ⟨z, c, dx, z1, z2⟩ := q4; exact ⟨z, c, dx, z1, h _ _ z2⟩
theorem upd_up {p : Addr} {o : HO} (hp : H p = none) : ∀ a u, H a = some u → upd H p o a = some u := fun a u e => by rw [upd_ne (ne_of_none e hp)]; exact e
/-- a frozen object more -/
theorem Sim.frozen (s : Sim K cl W m H) {p : Addr} {o : HO} (h : H p = some o) (hf : ∀ n, W.io n ≠ some p) (hF : W.F p = none) (hB : W.B p = none ∨ isT o = true) (hP : W.P p = none) : (W.le { W with F := upd W.F p o }) ∧ Sim K cl { W with F := upd W.F p o } m H := by
  have l : W.le { W with F := upd W.F p o } := ⟨fun _ _ e => e, upd_up hF, rfl, rfl, fun a u e => by
    have e' : upd W.F p o a = some u := e
    by_cases ha : a = p
    · subst ha
      rw [upd_same] at e'; cases e'
      exact .inr hB
    · rw [upd_ne ha] at e'; exact .inl e'⟩
  refine ⟨l, fun a u e => ?_, s.B, fun a u e => ?_, fun n c e => ?_, s.cp, s.inj, s.dom⟩
  · by_cases ha : a = p
    · subst ha
      have e' : upd W.F a o a = some u := e
      rw [upd_same] at e'; cases e'; exact h
    · have e' : upd W.F p o a = some u := e
      rw [upd_ne ha] at e'; exact s.F a u e'
  · obtain ⟨h1, h2, h3, h4⟩ := s.P a u e
    have ne : a ≠ p := fun z => by
      have e' : W.P a = some u := e
      rw [z, hP] at e'; cases e'
    exact ⟨h1, by show upd W.F p o a = none; rw [upd_ne ne]; exact h2, h3, h4⟩
  · obtain ⟨a, xs, q1, q2, q3, q4, q5⟩ := s.cell n c e
    have ne : a ≠ p := fun z => hf n (z ▸ q1)
    exact ⟨a, xs, q1, by show upd W.F p o a = none; rw [upd_ne ne]; exact q2, q3, q4, q5.up l⟩
theorem Sim.free (s : Sim K cl W m H) {p : Addr} (hp : H p = none) : (∀ n, W.io n ≠ some p) ∧ W.F p = none ∧ W.B p = none ∧ W.P p = none := by
  refine ⟨fun n e => ?_, ?_, ?_, ?_⟩
  · have hn := s.dom n p e
    obtain ⟨a, xs, q1, _, _, q4, _⟩ := s.cell n m[n] (by simp [hn])
    rw [e] at q1; cases q1
    obtain ⟨o, q⟩ := q4.some
    rw [hp] at q; cases q
  · cases q : W.F p with
    | none => rfl
    | some o => have := s.F p o q; rw [hp] at this; cases this
  · cases q : W.B p with
    | none => rfl
    | some o => have := s.B p o q; rw [hp] at this; cases this
  · cases q : W.P p with
    | none => rfl
    | some o => have := (s.P p o q).1; rw [hp] at this; cases this
/-- an object that nothing else tells of, as a value or as a cell -/
theorem Sim.adopt (s1 : Sim K cl W m H) {p : Addr} {sh : Sh} {ds : List D} {xs : List V} (fr : Bool) (hp : H p = some (hoOf sh xs)) (f1 : ∀ n, W.io n ≠ some p) (f2 : W.F p = none) (f3 : W.B p = none) (f4 : W.P p = none) (r : Rps K cl W ds xs) (hl : shLen sh xs.length = true) (ht : fr = true ∨ sh ≠ .tup) :
    ∃ W', W.le W' ∧ Sim K cl W' (fin fr sh ds m).2 H ∧ Rp K cl W' (fin fr sh ds m).1 (.ref p) := by
  cases fr with
  | true =>
    obtain ⟨l, s2⟩ := s1.frozen (p := p) (o := hoOf sh xs) hp f1 f2 (.inl f3) f4
    refine ⟨_, l, s2, ?_⟩
    show Rp K cl _ (.nd true sh ds) _
    unfold Rp
    exact ⟨p, xs, rfl, hoOf_at upd_same hl, r.up l⟩
  | false =>
    have ht' : sh ≠ .tup := ht.elim (fun z => by cases z) id
    have hm : W.io m.length = none := by
      cases q : W.io m.length with
      | none => rfl
      | some a => exact absurd (s1.dom _ _ q) (Nat.lt_irrefl _)
    have l : W.le { W with io := fun n => if n = m.length then some p else W.io n } := ⟨fun n a e => by
      show (if n = m.length then some p else W.io n) = some a
      rw [if_neg (fun z => by rw [z, hm] at e; cases e)]
      exact e, fun _ _ e => e, rfl, rfl, fun _ _ e => .inl e⟩
    refine ⟨_, l, ⟨s1.F, s1.B, s1.P, fun n c e => ?_, fun n a e => ?_, fun n k a e1 e2 => ?_, fun n a e => ?_⟩, ?_⟩
    · by_cases hn : n < m.length
      · have e' : m[n]? = some c := by
          have e0 : (m ++ [⟨sh, ds⟩])[n]? = some c := e
          rwa [List.getElem?_append_left hn] at e0
        obtain ⟨a, ys, q1, q2, q3, q4, q5⟩ := s1.cell n c e'
        exact ⟨a, ys, l.io _ _ q1, q2, q3, q4, q5.up l⟩
      · have e0 : (m ++ [⟨sh, ds⟩])[n]? = some c := e
        have hn2 : n = m.length := by
          rw [List.getElem?_append_right (by omega)] at e0
          by_cases h0 : n - m.length = 0
          · omega
          · rw [List.getElem?_eq_none (by simp; omega)] at e0; cases e0
        subst hn2
        rw [List.getElem?_append_right (Nat.le_refl _)] at e0
        simp at e0
        subst e0
        exact ⟨p, xs, by simp, f2, f3, hoOf_cl hp hl ht', r.up l⟩
    · have e' : (if n = m.length then some p else W.io n) = some a := e
      by_cases h1 : n = m.length
      · rw [if_pos h1] at e'
        rw [← Option.some.inj e']
        exact f4
      · rw [if_neg h1] at e'
        exact s1.cp n a e'
    · by_cases h1 : n = m.length
      · by_cases h2 : k = m.length
        · rw [h1, h2]
        · have e1' : (if n = m.length then some p else W.io n) = some a := e1
          have e2' : (if k = m.length then some p else W.io k) = some a := e2
          rw [if_pos h1] at e1'; rw [if_neg h2] at e2'
          rw [← e1'] at e2'
          exact absurd e2' (f1 k)
      · by_cases h2 : k = m.length
        · have e1' : (if n = m.length then some p else W.io n) = some a := e1
          have e2' : (if k = m.length then some p else W.io k) = some a := e2
          rw [if_pos h2] at e2'; rw [if_neg h1] at e1'
          rw [← e2'] at e1'
          exact absurd e1' (f1 n)
        · have e1' : (if n = m.length then some p else W.io n) = some a := e1
          have e2' : (if k = m.length then some p else W.io k) = some a := e2
          rw [if_neg h1] at e1'; rw [if_neg h2] at e2'
          exact s1.inj n k a e1' e2'
    · have e' : (if n = m.length then some p else W.io n) = some a := e
      show n < (m ++ [_]).length
      by_cases h1 : n = m.length
      · simp [h1]
      · rw [if_neg h1] at e'
        have := s1.dom n a e'
        simp; omega
    · show Rp K cl _ (.loc m.length) _
      unfold Rp
      exact ⟨p, by simp, rfl⟩
/-- a fresh object -/
theorem Sim.fresh (s : Sim K cl W m H) {p : Addr} {sh : Sh} {ds : List D} {xs : List V} (fr : Bool) (hp : H p = none) (r : Rps K cl W ds xs) (hl : shLen sh xs.length = true) (ht : fr = true ∨ sh ≠ .tup) :
    ∃ W', W.le W' ∧ Sim K cl W' (fin fr sh ds m).2 (upd H p (hoOf sh xs)) ∧ Rp K cl W' (fin fr sh ds m).1 (.ref p) := by
  obtain ⟨f1, f2, f3, f4⟩ := s.free hp
  exact (s.grow (H' := upd H p (hoOf sh xs)) (upd_up hp)).adopt fr upd_same f1 f2 f3 f4 r hl ht
/-- a fresh tuple, known to be a plain one -/
theorem Sim.freshP (s : Sim K cl W m H) {p : Addr} {ob : Obj} {ds : List D} {xs : List V} (hp : H p = none) (hd : ob.dict = none) (r : Rps K cl W ds xs) :
    ∃ W', W.le W' ∧ Sim K cl W' m (upd H p (.frz ob (.tup xs))) ∧ Rp K cl W' (.nd true .tupP ds) (.ref p) := by
  obtain ⟨f1, f2, f3, f4⟩ := s.free hp
  obtain ⟨l, s2⟩ := (s.grow (H' := upd H p (.frz ob (.tup xs))) (upd_up hp)).frozen (p := p) (o := .frz ob (.tup xs)) upd_same f1 f2 (.inl f3) f4
  refine ⟨_, l, s2, ?_⟩
  unfold Rp
  exact ⟨p, xs, rfl, ⟨ob, upd_same, hd⟩, r.up l⟩
/-- a cell written -/
theorem Sim.write (s : Sim K cl W m H) {n : Nat} {a : Addr} {c c' : Cell} {xs : List V} {o : HO} (hn : m[n]? = some c) (ha : W.io n = some a) (h : ClAt cl (upd H a o) a c'.sh xs) (r : Rps K cl W c'.ds xs) : Sim K cl W (m.set n c') (upd H a o) := by
  obtain ⟨a', ys, e1, nF, nB, _, _⟩ := s.cell n c hn
  rw [ha] at e1; cases e1
  have hlt : n < m.length := by
    have := List.getElem?_eq_some_iff.mp hn
    exact this.1
  refine ⟨fun b u e => ?_, fun b u e => ?_, fun b u e => ?_, fun k d e => ?_, s.cp, s.inj, fun k b e => by rw [List.length_set]; exact s.dom k b e⟩
  · rw [upd_ne (ne_of_none e nF)]; exact s.F b u e
  · rw [upd_ne (ne_of_none e nB)]; exact s.B b u e
  · rw [upd_ne (ne_of_none e (s.cp n a ha))]; exact s.P b u e
  · by_cases hk : n = k
    · subst hk
      rw [List.getElem?_set_self hlt] at e
      have e' : c' = d := Option.some.inj e
      subst e'
      exact ⟨a, xs, ha, nF, nB, h, r⟩
    · rw [List.getElem?_set_ne hk] at e
      obtain ⟨b, ys, q1, q2, q3, q4, q5⟩ := s.cell k d e
      have ne : b ≠ a := fun z => hk (s.inj n k a ha (z ▸ q1))
      exact ⟨b, ys, q1, q2, q3, q4.other ne, q5⟩
theorem Sim.cellAt (s : Sim K cl W m H) {n : Nat} {c : Cell} {v : V} (r : Rp K cl W (.loc n) v) (hn : m[n]? = some c) : ∃ a xs, v = .ref a ∧ W.io n = some a ∧ ClAt cl H a c.sh xs ∧ Rps K cl W c.ds xs := by
  unfold Rp at r
  obtain ⟨a, e, rfl⟩ := r
  obtain ⟨a', xs, e', _, _, ca, rs⟩ := s.cell n c hn
  rw [e] at e'; cases e'
  exact ⟨a, xs, rfl, e, ca, rs⟩
theorem tupOf_view {m : Mem} {d : D} {ds : List D} (h : tupOf d = some ds) : view m d = some ⟨.tup, ds⟩ := by
  unfold tupOf at h
  split at h
  · cases h; rfl
  · cases h; rfl
  · cases h
end
end Mi
end
section
set_option linter.all false
set_option Elab.async false
set_option maxRecDepth 100000
set_option maxHeartbeats 2000000
/-! Mi2: operations by values. -/
namespace Mi
open PySem PySem.Spec PyProof.Rows L2
theorem bind_ok {α β : Type} {r : R α} {f : α → R β} {b : β} (h : r.bind f = .ok b) : ∃ a, r = .ok a ∧ f a = .ok b := by
  cases r with
  | ok a => exact ⟨a, rfl, h⟩
  | exc C fs m => cases h
  | bad => cases h
theorem if_ok {α : Type} {p : Prop} [Decidable p] {a b : R α} {x : α} (h : (if p then a else b) = .ok x) (hb : b = .bad) : p ∧ a = .ok x := by
  by_cases hp : p
  · rw [if_pos hp] at h; exact ⟨hp, h⟩
  · rw [if_neg hp, hb] at h; cases h
theorem _root_.L2.PE.imp {X : Cx} {e : Expr} {t t' : TE} (h : PE X e t) (hi : ∀ σ H Q, t' σ H Q → t σ H Q) : PE X e t' := ⟨fun pins s σ H Q I q => h.run pins s σ H Q I (hi σ H Q q)⟩
theorem _root_.L2.PT.imp {X : Cx} {e : Expr} {t t' : TT} (h : PT X e t) (hi : ∀ σ H Q, t' σ H Q → t σ H Q) : PT X e t' := ⟨fun pins s σ H Q I q => h.run pins s σ H Q I (hi σ H Q q)⟩
theorem _root_.L2.PA.imp {X : Cx} {es : List Expr} {t t' : TA} (h : PA X es t) (hi : ∀ σ H Q, t' σ H Q → t σ H Q) : PA X es t' := ⟨fun pos pins s σ H Q I q => h.run pos pins s σ H Q I (hi σ H Q q)⟩
theorem _root_.L2.PG.imp {X : Cx} {e : Expr} {t t' : TG} (h : PG X e t) (hi : ∀ v σ H Q, t' v σ H Q → t v σ H Q) : PG X e t' := ⟨fun pins s σ H v u Q I r q => h.run pins s σ H v u Q I r (hi v σ H Q q)⟩
theorem _root_.L2.PS.imp {X : Cx} {e : Stmt} {t t' : TS} (h : PS X e t) (hi : ∀ D σ H, t' D σ H → t D σ H) : PS X e t' := ⟨fun pins s σ H D I q => h.run pins s σ H D I (hi D σ H q)⟩
theorem _root_.L2.PSs.imp {X : Cx} {e : List Stmt} {t t' : TS} (h : PSs X e t) (hi : ∀ D σ H, t' D σ H → t D σ H) : PSs X e t' := ⟨fun pins s σ H D I q => h.run pins s σ H D I (hi D σ H q)⟩

section
variable {K : PySem.W.Frag} {cl : ClA} {W : Wd} {m : Mem} {H : Hp}
/-- an operation by values, the memory kept -/
def OpS (K : PySem.W.Frag) (cl : ClA) (f : Mem → D → D → R D) (r : R2) : Prop :=
  ∀ (W : Wd) (m : Mem) (H : Hp) (dx dy d : D) (x y : V) (Q : VK), Sim K cl W m H → Rp K cl W dx x → Rp K cl W dy y → f m dx dy = .ok d → (∀ W' H' v, W.le W' → Sim K cl W' m H' → Rp K cl W' d v → Q v H') → r x y H Q
theorem Rp.int_inv {i : Int} {v : V} (h : Rp K cl W (.int i) v) : v = .int i := by unfold Rp at h; exact h
theorem Rp.bl_inv {i : Bool} {v : V} (h : Rp K cl W (.bl i) v) : v = .bl i := by unfold Rp at h; exact h
theorem Rp.str_inv {i : Str} {v : V} (h : Rp K cl W (.str i) v) : v = .str i := by unfold Rp at h; exact h
theorem Rp.non_inv {v : V} (h : Rp K cl W .non v) : v = .non := by unfold Rp at h; exact h
theorem Rp.of_int {i : Int} : Rp K cl W (.int i) (.int i) := by unfold Rp; rfl
theorem Rp.of_bl {i : Bool} : Rp K cl W (.bl i) (.bl i) := by unfold Rp; rfl
theorem Rp.of_str {i : Str} : Rp K cl W (.str i) (.str i) := by unfold Rp; rfl
theorem Rp.of_non : Rp K cl W .non .non := by unfold Rp; rfl
/-- a fresh frozen object -/
theorem Sim.newF (s : Sim K cl W m H) {p : Addr} {sh : Sh} {ds : List D} {xs : List V} (hp : H p = none) (r : Rps K cl W ds xs) (hl : shLen sh xs.length = true) :
    ∃ W', W.le W' ∧ Sim K cl W' m (upd H p (hoOf sh xs)) ∧ Rp K cl W' (.nd true sh ds) (.ref p) := s.fresh true hp r hl (.inl rfl)
/-- a tuple that stands somewhere may be frozen -/
theorem Sim.keepT (s : Sim K cl W m H) {a : Addr} {ds : List D} {xs : List V} (h : SqT K H a xs) (r : Rps K cl W ds xs) : ∃ W', W.le W' ∧ Sim K cl W' m H ∧ Rp K cl W' (tupD ds) (.ref a) := by
  have fin : ∀ o, H a = some o → (∀ xs', o ≠ .lst xs') → (∀ k, o ≠ .dK k) → (∀ k, o ≠ .dT k) → (∀ c dx fs, o ≠ .ins c dx fs) → isT o = true → (∀ G : Hp, G a = some o → SqT K G a xs) → ∃ W', W.le W' ∧ Sim K cl W' m H ∧ Rp K cl W' (tupD ds) (.ref a) := by
    intro o ho n1 n2 n3 n4 hT hq
    have nio : ∀ n, W.io n ≠ some a := fun n e => by
      have hn := s.dom n a e
      obtain ⟨b, ys, q1, _, _, q4, _⟩ := s.cell n m[n] (by simp [hn])
      rw [e] at q1; cases q1
      generalize m[n] = c at q4
      obtain ⟨sh, es⟩ := c
      cases sh with
      | tup => exact q4
      | tupP => exact q4
      | scr => exact q4
      | lst => exact n1 _ (Option.some.inj (ho.symm.trans q4))
      | dK ks => exact n2 _ (Option.some.inj (ho.symm.trans q4.2))
      | dT ks => exact n3 _ (Option.some.inj (ho.symm.trans q4.2))
      | ins C fs => obtain ⟨_, c, dx, _, z⟩ := q4; exact n4 _ _ _ (Option.some.inj (ho.symm.trans z))
    cases e : W.F a with
    | some u =>
      have hu := s.F a u e
      rw [ho] at hu; cases hu
      exact ⟨W, .refl W, s, by unfold Rp; exact ⟨a, xs, rfl, hq _ e, r⟩⟩
    | none =>
      have hP : W.P a = none := by
        cases e2 : W.P a with
        | none => rfl
        | some u =>
          obtain ⟨g1, _, _, g4⟩ := s.P a u e2
          rw [ho] at g1; cases g1
          rw [hT] at g4; cases g4
      obtain ⟨l, s2⟩ := s.frozen ho nio e (.inr hT) hP
      exact ⟨_, l, s2, by unfold Rp; exact ⟨a, xs, rfl, hq _ upd_same, r.up l⟩⟩
  rcases h with (h | ⟨o, h⟩) | h
  · exact fin _ h (fun _ z => by cases z) (fun _ z => by cases z) (fun _ z => by cases z) (fun _ _ _ z => by cases z) rfl fun G e => SqT.of e
  · exact fin _ h (fun _ z => by cases z) (fun _ z => by cases z) (fun _ z => by cases z) (fun _ _ _ z => by cases z) rfl fun G e => .inl (.inr ⟨o, e⟩)
  · exact ⟨W, .refl W, s, by unfold Rp; exact ⟨a, xs, rfl, .inr h, r⟩⟩
abbrev rStrAdd : R2 := fun x y H Q => ∃ i j, x = .str i ∧ y = .str j ∧ i.length + j.length ≤ sizeLine ∧ Q (.str (i ++ j)) H
abbrev rAddA (K : PySem.W.Frag) : R2 := fun x y H Q => (rI0 (fun i j => .int (i + j)) x y H Q ∨ rStrAdd x y H Q) ∨ (rCatA K x y H Q ∨ rCat x y H Q)
theorem ops_add : OpS K cl addD (rAddA K) := by
  intro W m H dx dy d x y Q s rx ry h q
  unfold addD at h
  split at h
  · cases h
    cases rx.int_inv; cases ry.int_inv
    exact .inl (.inl ⟨_, _, rfl, rfl, q W H _ (.refl W) s .of_int⟩)
  · obtain ⟨hl, h⟩ := if_ok h rfl
    cases h
    cases rx.str_inv; cases ry.str_inv
    exact .inl (.inr ⟨_, _, rfl, rfl, hl, q W H _ (.refl W) s .of_str⟩)
  · split at h
    · rename_i xs ys hx hy
      obtain ⟨hl, h⟩ := if_ok h rfl
      cases h
      obtain ⟨a, vs, rfl, ha, ra⟩ := s.view rx hx
      obtain ⟨b, us, rfl, hb, rb⟩ := s.view ry hy
      refine .inr (.inl ⟨a, b, vs, us, rfl, rfl, ha, hb, by rw [← ra.length, ← rb.length]; exact hl, fun e => ?_, fun _ e => ?_, fun _ _ p hp => ?_⟩)
      · have e0 : xs = [] := List.length_eq_zero_iff.mp (by rw [ra.length, e]; rfl)
        subst e0
        obtain ⟨W', l, s', r'⟩ := s.keepT hb rb
        exact q W' H _ l s' r'
      · have e0 : ys = [] := List.length_eq_zero_iff.mp (by rw [rb.length, e]; rfl)
        subst e0
        obtain ⟨W', l, s', r'⟩ := s.keepT ha ra
        exact q W' H _ l s' (by simpa using r')
      · obtain ⟨W', l, s', r'⟩ := s.newF (sh := .tup) hp (ra.append rb) rfl
        exact q W' _ _ l s' r'
    · rename_i xs ys hx hy
      obtain ⟨hl, h⟩ := if_ok h rfl
      cases h
      obtain ⟨a, vs, rfl, ha, ra⟩ := s.view rx hx
      obtain ⟨b, us, rfl, hb, rb⟩ := s.view ry hy
      refine .inr (.inr ⟨a, b, vs, us, rfl, rfl, ha, hb, by rw [← ra.length, ← rb.length]; exact hl, fun p hp => ?_⟩)
      obtain ⟨W', l, s', r'⟩ := s.newF (sh := .lst) hp (ra.append rb) rfl
      exact q W' _ _ l s' r'
    · cases h
theorem ops_sub : OpS K cl (fun _ => subD) (rI0 fun i j => .int (i - j)) := by
  intro W m H dx dy d x y Q s rx ry h q
  replace h : subD dx dy = .ok d := h
  unfold subD at h
  split at h
  · cases h
    cases rx.int_inv; cases ry.int_inv
    exact ⟨_, _, rfl, rfl, q W H _ (.refl W) s .of_int⟩
  · cases h
theorem ops_fdiv : OpS K cl (fun _ => fdivD) (rI CDiv fun i j => .int (i / j)) := by
  intro W m H dx dy d x y Q s rx ry h q
  replace h : fdivD dx dy = .ok d := h
  unfold fdivD at h
  split at h
  · obtain ⟨hl, h⟩ := if_ok h rfl
    cases h
    cases rx.int_inv; cases ry.int_inv
    exact ⟨_, _, rfl, rfl, hl, q W H _ (.refl W) s .of_int⟩
  · cases h
theorem ops_mod : OpS K cl (fun _ => modD) (rI (fun _ j => 0 < j) fun i j => .int (i % j)) := by
  intro W m H dx dy d x y Q s rx ry h q
  replace h : modD dx dy = .ok d := h
  unfold modD at h
  split at h
  · obtain ⟨hl, h⟩ := if_ok h rfl
    cases h
    cases rx.int_inv; cases ry.int_inv
    exact ⟨_, _, rfl, rfl, hl, q W H _ (.refl W) s .of_int⟩
  · cases h
theorem ops_pow : OpS K cl (fun _ => powD) (rI CPow fun i j => .int (i ^ j.toNat)) := by
  intro W m H dx dy d x y Q s rx ry h q
  replace h : powD dx dy = .ok d := h
  unfold powD at h
  split at h
  · obtain ⟨hl, h⟩ := if_ok h rfl
    cases h
    cases rx.int_inv; cases ry.int_inv
    exact ⟨_, _, rfl, rfl, hl, q W H _ (.refl W) s .of_int⟩
  · cases h
theorem mulOk_small {x : Str} {n : Int} (hx : x.length ≤ 16) (h1 : 0 ≤ n) (h2 : n ≤ 1000) : MulOk x n :=
  mulOk_of 16 1048576 (by omega) (by omega) (by omega) (by decide) (by decide)
abbrev rStrMul : R2 := fun x y H Q => ∃ a j, x = .str a ∧ y = .int j ∧ 0 ≤ j ∧ j ≤ 1000 ∧ a.length ≤ 16 ∧ Q (.str (Txt.mul a j)) H
theorem op_strMul {X : Cx} : OpR X (binaryOp .Mult) rStrMul := by
  intro pins s σ H x y v u Q I rx ry h
  obtain ⟨a, j, rfl, rfl, h1, h2, h3, q⟩ := h
  obtain ⟨t, rfl⟩ := rx
  obtain ⟨t', rfl⟩ := ry
  exact SB.mul (mulOk_small h3 h1 h2) fun t' k => ⟨.str _, H, I.tok _, ⟨_, rfl⟩, q⟩
abbrev rMulA : R2 := fun x y H Q => rI CMul (fun i j => .int (i * j)) x y H Q ∨ (rStrMul x y H Q ∨ rRep x y H Q)
theorem rps_rep {W : Wd} {ds : List D} {xs : List V} (r : Rps K cl W ds xs) : ∀ n : Nat, Rps K cl W (List.replicate n ds).flatten (List.replicate n xs).flatten
  | 0 => Rps.nil
  | n + 1 => by
    rw [List.replicate_succ, List.replicate_succ, List.flatten_cons, List.flatten_cons]
    exact r.append (rps_rep r n)
theorem ops_mul : OpS K cl mulD rMulA := by
  intro W m H dx dy d x y Q s rx ry h q
  unfold mulD at h
  split at h
  · cases ry.int_inv
    split at h
    · obtain ⟨hl, h⟩ := if_ok h rfl
      cases h
      cases rx.int_inv
      exact .inl ⟨_, _, rfl, rfl, hl, q W H _ (.refl W) s .of_int⟩
    · obtain ⟨hl, h⟩ := if_ok h rfl
      cases h
      cases rx.str_inv
      exact .inr (.inl ⟨_, _, rfl, rfl, hl.1, hl.2.1, hl.2.2, q W H _ (.refl W) s .of_str⟩)
    · split at h
      · rename_i xs hx
        obtain ⟨hl, h⟩ := if_ok h rfl
        cases h
        obtain ⟨a, vs, rfl, ha, ra⟩ := s.view rx hx
        refine .inr (.inr ⟨a, _, vs, rfl, rfl, ha, by omega, by omega, by rw [← ra.length]; exact hl.2.2, fun p hp => ?_⟩)
        obtain ⟨W', l, s', r'⟩ := s.newF (sh := .lst) hp (rps_rep ra _) rfl
        exact q W' _ _ l s' r'
      · cases h
  · cases h

/-! ### data, compared -/
mutual
theorem dp_of {W : Wd} {H : Hp} (hF : ∀ a o, W.F a = some o → H a = some o) (hB : ∀ a o, W.B a = some o → H a = some o) : ∀ (d : D) (v : V), Rp K cl W d v → dat d = true → Dp K H v (py d)
  | .non, _, r, _ => by cases r.non_inv; unfold py; exact .non
  | .bl b, _, r, _ => by cases r.bl_inv; unfold py; exact .bl b
  | .int i, _, r, _ => by cases r.int_inv; unfold py; exact .int i
  | .str x, _, r, _ => by cases r.str_inv; unfold py; exact .str x
  | .loc n, _, _, h => by unfold dat at h; cases h
  | .nd o sh ds, _, r, h => by
    unfold Rp at r
    unfold dat at h
    obtain ⟨a, xs, rfl, q, rs⟩ := r
    obtain ⟨h1, h2⟩ := Bool.and_eq_true_iff.mp h
    have up : ∀ b u, (if o then W.F else W.B) b = some u → H b = some u := fun b u e => by
      cases o with
      | true => exact hF b u e
      | false => exact hB b u e
    have rest := dps_of hF hB ds xs rs h2
    unfold py
    cases sh with
    | tup => exact .tup (SqT.up up q) rest
    | tupP => exact .tup (SqT.up up q.sq) rest
    | lst => exact .lst (SqL.of (up _ _ q)) rest
    | scr => cases h1
    | dK _ => cases h1
    | dT _ => cases h1
    | ins _ _ => cases h1
theorem dps_of {W : Wd} {H : Hp} (hF : ∀ a o, W.F a = some o → H a = some o) (hB : ∀ a o, W.B a = some o → H a = some o) : ∀ (ds : List D) (vs : List V), Rps K cl W ds vs → dats ds = true → DpAll K H vs (pys ds)
  | [], _, r, _ => by unfold Rps at r; subst r; unfold pys; exact .nil
  | d :: ds, _, r, h => by
    unfold Rps at r
    obtain ⟨v, vs, rfl, r1, r2⟩ := r
    unfold dats at h
    obtain ⟨h1, h2⟩ := Bool.and_eq_true_iff.mp h
    unfold pys
    exact .cons (dp_of hF hB d v r1 h1) (dps_of hF hB ds vs r2 h2)
end
mutual
/-- what is lent reads off the whole heap -/
theorem lend_rel {W : Wd} {m : Mem} {H : Hp} (s : Sim K cl W m H) : ∀ (k : Nat) (d d' : D) (v : V), snap false true k m d = some d' → Rp K cl W d v → Rp K cl ⟨fun _ => none, W.F, H, fun _ => none⟩ d' v
  | k, .non, _, _, h, r => by rw [snap] at h; cases h; cases r.non_inv; exact .of_non
  | k, .bl b, _, _, h, r => by rw [snap] at h; cases h; cases r.bl_inv; exact .of_bl
  | k, .int i, _, _, h, r => by rw [snap] at h; cases h; cases r.int_inv; exact .of_int
  | k, .str x, _, _, h, r => by rw [snap] at h; cases h; cases r.str_inv; exact .of_str
  | 0, .loc n, _, _, h, _ => by rw [snap] at h; cases h
  | k + 1, .loc n, _, _, h, r => by
    rw [snap] at h
    cases e : m[n]? with
    | none => rw [e] at h; cases h
    | some c =>
      rw [e] at h
      obtain ⟨ds', e1, e2⟩ := Option.map_eq_some_iff.mp h
      subst e2
      obtain ⟨a, xs, rfl, _, ca, rs⟩ := s.cellAt r e
      unfold Rp
      refine ⟨a, xs, rfl, ?_, lends_rel s k c.ds ds' xs e1 rs⟩
      obtain ⟨sh, es⟩ := c
      cases sh with
      | tup => exact ca.elim
      | tupP => exact ca.elim
      | scr => exact ca.elim
      | lst => exact ca
      | dK _ => exact ca
      | dT _ => exact ca
      | ins _ _ => exact ca
  | k, .nd o sh ds, _, _, h, r => by
    rw [snap] at h
    rw [if_pos (by simp)] at h
    obtain ⟨ds', e1, e2⟩ := Option.map_eq_some_iff.mp h
    subst e2
    unfold Rp at r ⊢
    obtain ⟨a, xs, rfl, q, rs⟩ := r
    refine ⟨a, xs, rfl, ShAt.up (fun b u e => ?_) q, lends_rel s k ds ds' xs e1 rs⟩
    cases o with
    | true => exact e
    | false => exact s.B b u e
theorem lends_rel {W : Wd} {m : Mem} {H : Hp} (s : Sim K cl W m H) : ∀ (k : Nat) (ds ds' : List D) (vs : List V), snaps false true k m ds = some ds' → Rps K cl W ds vs → Rps K cl ⟨fun _ => none, W.F, H, fun _ => none⟩ ds' vs
  | k, [], _, _, h, r => by rw [snaps] at h; cases h; unfold Rps at r; subst r; exact Rps.nil
  | k, d :: ds, _, _, h, r => by
    rw [snaps] at h
    unfold Rps at r
    obtain ⟨v, vs, rfl, r1, r2⟩ := r
    cases e : snap false true k m d with
    | none => rw [e] at h; cases h
    | some d' =>
      rw [e] at h
      obtain ⟨ds', e1, e2⟩ := Option.map_eq_some_iff.mp h
      subst e2
      exact Rps.cons (lend_rel s k d d' v e r1) (lends_rel s k ds ds' vs e1 r2)
end
mutual
theorem lf_rel {W : Wd} {io : Nat → Option Addr} {B P : Hp} (hB : ∀ a o, W.B a = some o → B a = some o) : ∀ (d : D) (v : V), lf d = true → Rp K cl W d v → Rp K cl ⟨io, W.F, B, P⟩ d v
  | .non, _, _, r => by cases r.non_inv; exact .of_non
  | .bl b, _, _, r => by cases r.bl_inv; exact .of_bl
  | .int i, _, _, r => by cases r.int_inv; exact .of_int
  | .str x, _, _, r => by cases r.str_inv; exact .of_str
  | .loc n, _, h, _ => by unfold lf at h; cases h
  | .nd o sh ds, _, h, r => by
    unfold lf at h
    unfold Rp at r ⊢
    obtain ⟨a, xs, rfl, q, rs⟩ := r
    refine ⟨a, xs, rfl, ShAt.up (fun b u e => ?_) q, lfs_rel hB ds xs h rs⟩
    cases o with
    | true => exact e
    | false => exact hB b u e
theorem lfs_rel {W : Wd} {io : Nat → Option Addr} {B P : Hp} (hB : ∀ a o, W.B a = some o → B a = some o) : ∀ (ds : List D) (vs : List V), lfs ds = true → Rps K cl W ds vs → Rps K cl ⟨io, W.F, B, P⟩ ds vs
  | [], _, _, r => by unfold Rps at r; subst r; exact Rps.nil
  | d :: ds, _, h, r => by
    unfold lfs at h
    obtain ⟨h1, h2⟩ := Bool.and_eq_true_iff.mp h
    unfold Rps at r
    obtain ⟨v, vs, rfl, r1, r2⟩ := r
    exact Rps.cons (lf_rel hB d v h1 r1) (lfs_rel hB ds vs h2 r2)
end
theorem val_dp {W : Wd} {m : Mem} {H : Hp} (s : Sim K cl W m H) {d d' : D} {v : V} (h : val m d = some d') (r : Rp K cl W d v) (hd : dat d' = true) : Dp K H v (py d') := by
  unfold val at h
  by_cases hl : lf d = true
  · rw [if_pos hl] at h; cases h
    exact dp_of s.F s.B d v r hd
  · rw [if_neg hl] at h
    exact dp_of (W := ⟨fun _ => none, W.F, H, fun _ => none⟩) s.F (fun _ _ e => e) d' v (lend_rel s 4 d d' v h r) hd
/-- a comparison by values -/
def CmS (K : PySem.W.Frag) (cl : ClA) (f : Mem → D → D → R Bool) (r : R2) : Prop :=
  ∀ (W : Wd) (m : Mem) (H : Hp) (dx dy : D) (b : Bool) (x y : V) (Q : VK), Sim K cl W m H → Rp K cl W dx x → Rp K cl W dy y → f m dx dy = .ok b → Q (.bl b) H → r x y H Q
theorem cms_eq : CmS K cl cmpEq (rEqD K) := by
  intro W m H dx dy b x y Q s rx ry h q
  unfold cmpEq at h
  split at h
  · rename_i a c ha hc
    obtain ⟨hl, h⟩ := if_ok h rfl
    cases h
    obtain ⟨h1, h2⟩ := Bool.and_eq_true_iff.mp hl
    obtain ⟨h3, h4⟩ := Bool.and_eq_true_iff.mp h1
    obtain ⟨h5, h6⟩ := Bool.and_eq_true_iff.mp h2
    exact ⟨py a, py c, val_dp s ha rx h3, val_dp s hc ry h5, h4, h6, q⟩
  · cases h
theorem cms_ne : CmS K cl (fun m a b => (cmpEq m a b).bind fun r => .ok (!r)) (rNeD K) := by
  intro W m H dx dy b x y Q s rx ry h q
  obtain ⟨c0, h0, hc0⟩ := bind_ok h
  cases hc0
  clear h
  unfold cmpEq at h0
  split at h0
  · rename_i a c ha hc
    obtain ⟨hl, h⟩ := if_ok h0 rfl
    cases h
    obtain ⟨h1, h2⟩ := Bool.and_eq_true_iff.mp hl
    obtain ⟨h3, h4⟩ := Bool.and_eq_true_iff.mp h1
    obtain ⟨h5, h6⟩ := Bool.and_eq_true_iff.mp h2
    exact ⟨py a, py c, val_dp s ha rx h3, val_dp s hc ry h5, h4, h6, q⟩
  · cases h0
theorem cms_ord (f : Int → Int → Bool) : CmS K cl (fun _ => ordD f) (rI0 fun i j => .bl (f i j)) := by
  intro W m H dx dy b x y Q s rx ry h q
  replace h : ordD f dx dy = .ok b := h
  unfold ordD at h
  split at h
  · cases h
    cases rx.int_inv; cases ry.int_inv
    exact ⟨_, _, rfl, rfl, q⟩
  · cases h

abbrev rInStr (n : Bool) : R2 := fun x y H Q => ∃ i j, x = .str i ∧ y = .str j ∧ Q (.bl (if n then !(!(Builtin.Str.occurrences j i 0 j.length 1).isEmpty) else !(Builtin.Str.occurrences j i 0 j.length 1).isEmpty)) H
abbrev rInDict (n : Bool) : R2 := fun y x H Q => ∃ a o, x = .ref a ∧ DGet H a y o ∧ Q (.bl (if n then !o.isSome else o.isSome)) H
abbrev rInL (K : PySem.W.Frag) (n : Bool) : R2 := fun x y H Q => ∃ d ds, Dp K H x d ∧ Dp K H y (.list ds) ∧ SeqAt.shaped d = true ∧ SeqAt.shaped (.list ds) = true ∧ Q (.bl (if n then !(ds.any fun z => PyData.eqv z d) else ds.any fun z => PyData.eqv z d)) H
abbrev rInT (K : PySem.W.Frag) (n : Bool) : R2 := fun x y H Q => ∃ d ds, Dp K H x d ∧ Dp K H y (.tuple ds) ∧ SeqAt.shaped d = true ∧ SeqAt.shaped (.tuple ds) = true ∧ Q (.bl (if n then !(ds.any fun z => PyData.eqv z d) else ds.any fun z => PyData.eqv z d)) H
abbrev rInA (K : PySem.W.Frag) (n : Bool) : R2 := fun x y H Q => (rInStr n x y H Q ∨ rInDict n x y H Q) ∨ (rInL K n x y H Q ∨ rInT K n x y H Q)
theorem op_inA {X : Cx} (hu : X.A.units + 65 < cLine) : OpR X (compareOp .In) (rInA X.K false) := by
  refine OpR.or (OpR.or ?_ ?_) (OpR.or ?_ ?_)
  · exact op_in_str
  · intro pins s σ H x y v u Q I rx ry h
    obtain ⟨a, o, rfl, g, q⟩ := h
    obtain rfl : u = Value.ref a := ry
    exact d_in (by omega) I g rx fun s' I' => ⟨.bl _, H, I', rfl, q⟩
  · exact op_inD hu
  · intro pins s σ H x y v u Q I rx ry h
    obtain ⟨d, ds, hd, he, sd, se, q⟩ := h
    obtain ⟨as, r1⟩ := Dp.reads I d x v hd rx
    obtain ⟨bs, r2⟩ := Dp.reads I (.tuple ds) y u he ry
    exact SeqAt.in_tuple_reads r2 r1 (SeqAt.canLay_of_shaped se) (SeqAt.canLay_of_shaped sd) (room_in_shaped sd hu) ⟨.bl _, H, I, rfl, q⟩
theorem op_ninA {X : Cx} (hu : X.A.units + 65 < cLine) : OpR X (compareOp .NotIn) (rInA X.K true) := by
  refine OpR.or (OpR.or ?_ ?_) (OpR.or ?_ ?_)
  · exact op_notin_str
  · intro pins s σ H x y v u Q I rx ry h
    obtain ⟨a, o, rfl, g, q⟩ := h
    obtain rfl : u = Value.ref a := ry
    exact d_notIn (by omega) I g rx fun s' I' => ⟨.bl _, H, I', rfl, q⟩
  · exact op_notInD hu
  · intro pins s σ H x y v u Q I rx ry h
    obtain ⟨d, ds, hd, he, sd, se, q⟩ := h
    obtain ⟨as, r1⟩ := Dp.reads I d x v hd rx
    obtain ⟨bs, r2⟩ := Dp.reads I (.tuple ds) y u he ry
    exact SeqAt.notIn_tuple_reads r2 r1 (SeqAt.canLay_of_shaped se) (SeqAt.canLay_of_shaped sd) (room_in_shaped sd hu) ⟨.bl _, H, I, rfl, q⟩
/-! ### keys -/
theorem kV_of {k : Key} {d : D} {v : V} {W : Wd} (h : keyOf d = some k) (r : Rp K cl W d v) : v = kV k := by
  cases d with
  | int i => cases h; exact r.int_inv
  | str x => cases h; exact r.str_inv
  | non => cases h
  | bl b => cases h
  | loc n => cases h
  | nd o sh ds => cases h
theorem kVs_of {W : Wd} : ∀ {ks : List Key} {ds : List D} {vs : List V}, keysOf ds = some ks → Rps K cl W ds vs → vs = ks.map kV
  | _, [], _, h, r => by unfold keysOf at h; cases h; unfold Rps at r; subst r; rfl
  | _, d :: ds, _, h, r => by
    unfold keysOf at h
    unfold Rps at r
    obtain ⟨v, vs, rfl, r1, r2⟩ := r
    cases e1 : keyOf d with
    | none => rw [e1] at h; cases h
    | some k =>
      cases e2 : keysOf ds with
      | none => rw [e1, e2] at h; cases h
      | some ks =>
        rw [e1, e2] at h
        cases h
        rw [kV_of e1 r1, kVs_of e2 r2]
        rfl
/-- valV over a zip is kget -/
theorem valV_zip {κ : Type} [DecidableEq κ] {W : Wd} (k : κ) : ∀ {ks : List κ} {ds : List D} {xs : List V}, ks.length = xs.length → Rps K cl W ds xs →
    (∀ d, kget k ks ds = some d → ∃ v, valV (ks.zip xs) k = some v ∧ Rp K cl W d v) ∧ (kget k ks ds = none → valV (ks.zip xs) k = none) := by
  intro ks
  induction ks with
  | nil =>
    intro ds xs _ _
    refine ⟨fun d h => ?_, fun _ => rfl⟩
    unfold kget at h
    cases h
  | cons a ks ih =>
    intro ds xs hl r
    cases xs with
    | nil => cases hl
    | cons x xs =>
      have hd := r.length
      cases ds with
      | nil => cases hd
      | cons d ds =>
        unfold Rps at r
        obtain ⟨v, vs, e, r1, r2⟩ := r
        injection e with e1 e2
        subst e1 e2
        have hz : valV ((a :: ks).zip (x :: xs)) k = if a = k then some x else valV (ks.zip xs) k := by
          by_cases e : a = k
          · rw [if_pos e]; exact valV_pos (p := (a, x)) e
          · rw [if_neg e]; exact valV_neg (p := (a, x)) e
        rw [hz]
        unfold kget
        by_cases hk : a = k
        · rw [if_pos hk, if_pos hk]
          exact ⟨fun d' h => by cases h; exact ⟨x, rfl, r1⟩, fun h => by cases h⟩
        · rw [if_neg hk, if_neg hk]
          exact ih (by simpa using hl) r2

theorem any_zip {κ : Type} [DecidableEq κ] (k : κ) : ∀ {ks : List κ} {xs : List V}, ks.length = xs.length → ((ks.zip xs).any fun kv => decide (kv.1 = k)) = decide (k ∈ ks)
  | [], _, _ => by simp
  | a :: ks, [], h => by cases h
  | a :: ks, x :: xs, h => by
    have ih := any_zip k (ks := ks) (xs := xs) (by simpa using h)
    rw [List.zip_cons_cons, List.any_cons, ih]
    by_cases e : a = k
    · subst e; simp
    · have e2 : ¬ k = a := fun z => e z.symm
      simp [e, e2]
theorem valV_some {κ : Type} [DecidableEq κ] (k : κ) {ks : List κ} {xs : List V} (h : ks.length = xs.length) : (valV (ks.zip xs) k).isSome = decide (k ∈ ks) := by
  rw [← valV_any, any_zip k h]
def vsets {κ : Type} [DecidableEq κ] (k : κ) (v : V) : List κ → List V → List V
  | a :: ks, e :: ds => (if a = k then v else e) :: vsets k v ks ds
  | _, ds => ds
theorem vsets_length {κ : Type} [DecidableEq κ] (k : κ) (v : V) : ∀ (ks : List κ) (xs : List V), (vsets k v ks xs).length = xs.length
  | [], xs => by unfold vsets; rfl
  | _ :: _, [] => rfl
  | a :: ks, x :: xs => by unfold vsets; simp [vsets_length k v ks xs]
theorem vsets_zip {κ : Type} [DecidableEq κ] (k : κ) (v : V) : ∀ (ks : List κ) (xs : List V), (ks.zip xs).map (fun kv => if kv.1 = k then (kv.1, v) else kv) = ks.zip (vsets k v ks xs)
  | [], xs => by simp
  | _ :: _, [] => by simp [vsets]
  | a :: ks, x :: xs => by
    unfold vsets
    rw [List.zip_cons_cons, List.map_cons, vsets_zip k v ks xs, List.zip_cons_cons]
    by_cases e : a = k
    · simp [e]
    · simp [e]
theorem rps_ksets {κ : Type} [DecidableEq κ] {W : Wd} (k : κ) {d : D} {v : V} (hd : Rp K cl W d v) : ∀ (ks : List κ) {ds : List D} {xs : List V}, Rps K cl W ds xs → Rps K cl W (ksets k d ks ds) (vsets k v ks xs)
  | [], ds, xs, r => by unfold ksets vsets; exact r
  | a :: ks, [], xs, r => by unfold Rps at r; subst r; unfold ksets vsets; exact Rps.nil
  | a :: ks, e :: ds, xs, r => by
    unfold Rps at r
    obtain ⟨u, us, rfl, r1, r2⟩ := r
    unfold ksets vsets
    refine Rps.cons ?_ (rps_ksets k hd ks r2)
    by_cases e : a = k
    · simp [e]; exact hd
    · simp [e]; exact r1
/-- an entry put: the pairs -/
theorem kput_rel {κ : Type} [DecidableEq κ] {W : Wd} (k : κ) {d : D} {v : V} {ks : List κ} {ds : List D} {xs : List V} (hl : ks.length = xs.length) (hd : Rp K cl W d v) (r : Rps K cl W ds xs) :
    ∃ ys, (kput k d ks ds).1.length = ys.length ∧ putK (ks.zip xs) k v = (kput k d ks ds).1.zip ys ∧ Rps K cl W (kput k d ks ds).2 ys := by
  unfold putK kput
  rw [any_zip k hl]
  by_cases hk : k ∈ ks
  · rw [if_pos (decide_eq_true hk), if_pos hk]
    exact ⟨vsets k v ks xs, by rw [vsets_length]; exact hl, vsets_zip k v ks xs, rps_ksets k hd ks r⟩
  · rw [if_neg hk]
    have e : decide (k ∈ ks) = false := decide_eq_false hk
    refine ⟨xs ++ [v], by simp [hl], ?_, r.append (Rps.cons hd Rps.nil)⟩
    rw [e]
    show ks.zip xs ++ [(k, v)] = (ks ++ [k]).zip (xs ++ [v])
    rw [List.zip_append hl]
    rfl

/-- a key that is a tuple, with its object frozen: it stands in the heap itself -/
theorem keyT_of {W : Wd} {H : Hp} (hF : ∀ a o, W.F a = some o → H a = some o) (hB : ∀ a o, W.B a = some o → H a = some o) {k : List Key} {d : D} {v : V} (h : keyTOf d = some k) (r : Rp K cl W d v) : ∃ b, v = .ref b ∧ SqT K H b (k.map kV) := by
  unfold keyTOf at h
  split at h
  · rename_i o ds
    unfold Rp at r
    obtain ⟨a, xs, rfl, q, rs⟩ := r
    have e := kVs_of h rs
    subst e
    refine ⟨a, rfl, SqT.up (fun b u e => ?_) q⟩
    cases o with
    | true => exact hF b u e
    | false => exact hB b u e
  · rename_i o ds
    unfold Rp at r
    obtain ⟨a, xs, rfl, q, rs⟩ := r
    have e := kVs_of h rs
    subst e
    refine ⟨a, rfl, SqT.up (fun b u e => ?_) q.sq⟩
    cases o with
    | true => exact hF b u e
    | false => exact hB b u e
  · cases h
theorem cms_in (n : Bool) : CmS K cl (fun m a b => (inD m a b).bind fun r => .ok (if n then !r else r)) (rInA K n) := by
  intro W m H dx dy b x y Q s rx ry h q
  obtain ⟨c, h0, hc⟩ := bind_ok h
  clear h
  cases hc
  unfold inD at h0
  split at h0
  · split at h0
    · cases h0
      cases rx.str_inv; cases ry.str_inv
      exact .inl (.inl ⟨_, _, rfl, rfl, q⟩)
    · cases h0
  · split at h0
    · rename_i ks es hv
      split at h0
      · rename_i k hk
        cases h0
        obtain ⟨a, xs, rfl, ⟨hl, ha⟩, rs⟩ := s.view ry hv
        refine .inl (.inr ⟨a, _, rfl, .inl ⟨_, k, .inl ha, kV_of hk rx, rfl⟩, ?_⟩)
        rw [valV_some k hl]
        exact q
      · cases h0
    · cases h0
    · rename_i hv
      split at h0
      · rename_i a' b' ha hb
        obtain ⟨hl, h0'⟩ := if_ok h0 rfl
        clear h0
        have h0 := h0'
        clear h0'
        obtain ⟨h1, h2⟩ := Bool.and_eq_true_iff.mp hl
        obtain ⟨h3, h4⟩ := Bool.and_eq_true_iff.mp h1
        obtain ⟨h5, h6⟩ := Bool.and_eq_true_iff.mp h2
        have d1 := val_dp s ha rx h3
        have d2 := val_dp s hb ry h5
        have key : ∀ ds : List D, (pys ds).any (fun z => PyData.eqv z (py a')) = ds.any fun z => eqD z a' := by
          intro ds
          induction ds with
          | nil => rfl
          | cons d ds ih => unfold pys; rw [List.any_cons, List.any_cons, ih]
        split at h0
        · rename_i o ds
          cases h0
          unfold py at d2 h6
          refine .inr (.inr ⟨py a', pys ds, d1, d2, h4, h6, ?_⟩)
          rw [key]
          exact q
        · rename_i o ds
          cases h0
          unfold py at d2 h6
          refine .inr (.inr ⟨py a', pys ds, d1, d2, h4, h6, ?_⟩)
          rw [key]
          exact q
        · rename_i o ds
          cases h0
          unfold py at d2 h6
          refine .inr (.inl ⟨py a', pys ds, d1, d2, h4, h6, ?_⟩)
          rw [key]
          exact q
        · cases h0
      · cases h0
    · cases h0
end
end Mi
end
section
set_option linter.all false
set_option Elab.async false
set_option maxRecDepth 100000
set_option maxHeartbeats 2000000
/-! Mi3: expressions. -/
namespace Mi
open PySem PySem.Spec PyProof.Rows L2
/-- an expression's reading by the evaluator -/
def rE (K : PySem.W.Frag) (cl : ClA) (cal : Cal) (e : E) : TE := fun σ H Q =>
  ∃ W ρ m d m', Sim K cl W m H ∧ REnv K cl W ρ σ ∧ evE cal e ρ m = .ok (d, m') ∧ ∀ W' H' v, W.le W' → Sim K cl W' m' H' → Rp K cl W' d v → Q v H'
/-- .. of a list of them -/
def rEs (K : PySem.W.Frag) (cl : ClA) (cal : Cal) (es : List E) : TA := fun σ H Q =>
  ∃ W ρ m ds m', Sim K cl W m H ∧ REnv K cl W ρ σ ∧ evEs cal es ρ m = .ok (ds, m') ∧ ∀ W' H' vs, W.le W' → Sim K cl W' m' H' → Rps K cl W' ds vs → Q vs H'
/-- .. of a test -/
def rT (K : PySem.W.Frag) (cl : ClA) (cal : Cal) (e : E) : TT := fun σ H Q =>
  ∃ W ρ m b m', Sim K cl W m H ∧ REnv K cl W ρ σ ∧ evE cal e ρ m = .ok (.bl b, m') ∧ ∀ W' H', W.le W' → Sim K cl W' m' H' → Q b H'
section
variable {K : PySem.W.Frag} {cl : ClA} {cal : Cal} {W : Wd} {ρ : Env} {m m' : Mem} {σ : L2.St} {H : Hp} {a b c : E}
theorem rE1 {x : D × Mem} {Z : V → Hp → Prop} (s : Sim K cl W m H) (r : REnv K cl W ρ σ) (e1 : evE cal a ρ m = .ok x) (z : ∀ W' H' v, W.le W' → Sim K cl W' x.2 H' → Rp K cl W' x.1 v → Z v H') : rE K cl cal a σ H Z :=
  ⟨W, ρ, m, x.1, x.2, s, r, e1, z⟩
theorem rE2 {x y : D × Mem} {Z : V → V → Hp → Prop} (s : Sim K cl W m H) (r : REnv K cl W ρ σ) (e1 : evE cal a ρ m = .ok x) (e2 : evE cal b ρ x.2 = .ok y)
    (z : ∀ W' H' v u, W.le W' → Sim K cl W' y.2 H' → Rp K cl W' x.1 v → Rp K cl W' y.1 u → Z v u H') : rE K cl cal a σ H fun v H1 => rE K cl cal b σ H1 fun u H2 => Z v u H2 :=
  rE1 s r e1 fun W1 H1 v l1 s1 r1 => rE1 s1 (r.up l1) e2 fun W2 H2 u l2 s2 r2 => z W2 H2 v u (l1.trans l2) s2 (r1.up l2) r2
end
section
variable {X : Cx} {cl : ClA} {cal : Cal} {a b c : Expr} {a' b' c' : E} {pos : Pos}
abbrev SE (X : Cx) (cl : ClA) (cal : Cal) (e : Expr) (e' : E) : Prop := PE X e (rE X.K cl cal e')
abbrev SEs (X : Cx) (cl : ClA) (cal : Cal) (es : List Expr) (es' : List E) : Prop := PA X es (rEs X.K cl cal es')
abbrev ST (X : Cx) (cl : ClA) (cal : Cal) (e : Expr) (e' : E) : Prop := PT X e (rT X.K cl cal e')
theorem se_var {i : Nat} {x : Str} (hN : X.N[i]? = some x) (hv : Vis X.env.scope x) (hd : (x == ("__debug__" : Str)) = false) (hcd : (x == ("__classdict__" : Str)) = false) : SE X cl cal (.Name x pos) (.var i) := by
  refine (pe_var hN hv hd hcd).imp fun σ H Q h => ?_
  obtain ⟨W, ρ, m, d, m', s, r, e, q⟩ := h
  unfold evE at e
  split at e
  · rename_i d' hd'
    cases e
    obtain ⟨v, h1, h2⟩ := r.get i _ hd'
    exact ⟨v, h1, q W H v (.refl W) s h2⟩
  · cases e
theorem se_cst {e : Expr} {v : V} {d : D} (h : PE X e (tC v)) (hr : ∀ W, Rp X.K cl W d v) : SE X cl cal e (.cst d) := by
  refine h.imp fun σ H Q h => ?_
  obtain ⟨W, ρ, m, d, m', s, r, e, q⟩ := h
  unfold evE at e
  cases e
  exact q W H v (.refl W) s (hr W)
theorem se_bin {op : Operator} {op' : Op} {r : R2} (ho : OpR X (binaryOp op) r) (hs : OpS X.K cl (bin op') r) (ha : SE X cl cal a a') (hb : SE X cl cal b b') : SE X cl cal (.BinOp a op b pos) (.bin op' a' b') := by
  refine (pe_op ho ha hb).imp fun σ H Q h => ?_
  obtain ⟨W, ρ, m, d, m', s, rr, e, q⟩ := h
  unfold evE at e
  obtain ⟨x, e1, e⟩ := bind_ok e
  obtain ⟨y, e2, e⟩ := bind_ok e
  obtain ⟨z, e3, e⟩ := bind_ok e
  cases e
  exact rE2 s rr e1 e2 fun W' H' v u l s' r1 r2 => hs W' _ H' _ _ _ v u Q s' r1 r2 e3 fun W2 H2 w l2 s2 r3 => q W2 H2 w (l.trans l2) s2 r3
theorem se_neg (ha : SE X cl cal a a') : SE X cl cal (.UnaryOp .USub a pos) (.neg a') := by
  refine (pe_un un_neg ha).imp fun σ H Q h => ?_
  obtain ⟨W, ρ, m, d, m', s, rr, e, q⟩ := h
  unfold evE at e
  obtain ⟨x, e1, e⟩ := bind_ok e
  obtain ⟨i, e2, e⟩ := bind_ok e
  cases e
  refine rE1 s rr e1 fun W' H' v l s' r1 => ?_
  obtain ⟨x1, x2⟩ := x
  cases x1 with
  | int j => cases e2; cases r1.int_inv; exact ⟨_, rfl, q W' H' _ l s' .of_int⟩
  | non => cases e2
  | bl _ => cases e2
  | str _ => cases e2
  | loc _ => cases e2
  | nd _ _ _ => cases e2
theorem se_cmp {op : CmpOp} {op' : Cm} {r : R2} (ho : OpR X (compareOp op) r) (hs : CmS X.K cl (cmpB op') r) (hm : behindInMarks op b = false) (ha : SE X cl cal a a') (hb : SE X cl cal b b') : SE X cl cal (.Compare a [op] [b] pos) (.cmp op' a' b') := by
  refine (pe_cmpR ho ha hb hm).imp fun σ H Q h => ?_
  obtain ⟨W, ρ, m, d, m', s, rr, e, q⟩ := h
  unfold evE at e
  obtain ⟨x, e1, e⟩ := bind_ok e
  obtain ⟨y, e2, e⟩ := bind_ok e
  obtain ⟨z, e3, e⟩ := bind_ok e
  cases e
  exact rE2 s rr e1 e2 fun W' H' v u l s' r1 r2 => hs W' _ H' _ _ _ v u Q s' r1 r2 e3 (q W' H' _ l s' .of_bl)
theorem se_chain {op op1 : CmpOp} {op' op1' : Cm} {r r1 : R2} (ho : OpR X (compareOp op) r) (ho1 : OpR X (compareOp op1) r1) (hs : CmS X.K cl (cmpB op') r) (hs1 : CmS X.K cl (cmpB op1') r1)
    (h : ∀ {ta tb tc : TE}, PE X a ta → PE X b tb → PE X c tc → PE X (.Compare a [op, op1] [b, c] pos) (tChain r r1 ta tb tc))
    (ha : SE X cl cal a a') (hb : SE X cl cal b b') (hc : SE X cl cal c c') : SE X cl cal (.Compare a [op, op1] [b, c] pos) (.chain op' op1' a' b' c') := by
  refine (h ha hb hc).imp fun σ H Q h => ?_
  obtain ⟨W, ρ, m, d, m', s, rr, e, q⟩ := h
  unfold evE at e
  obtain ⟨x, e1, e⟩ := bind_ok e
  obtain ⟨y, e2, e⟩ := bind_ok e
  obtain ⟨t, e3, e⟩ := bind_ok e
  refine rE2 s rr e1 e2 fun W' H' v u l s' r1 r2 => hs W' _ H' _ _ _ v u _ s' r1 r2 e3 ⟨t, rfl, ?_⟩
  cases t with
  | true =>
    simp only [if_true] at e ⊢
    obtain ⟨z, e4, e⟩ := bind_ok e
    obtain ⟨t2, e5, e⟩ := bind_ok e
    cases e
    exact rE1 s' (rr.up l) e4 fun W2 H2 w l2 s2 r3 => hs1 W2 _ H2 _ _ _ u w Q s2 (r2.up l2) r3 e5 (q W2 H2 _ (l.trans l2) s2 .of_bl)
  | false =>
    simp only [Bool.false_eq_true, if_false] at e ⊢
    cases e
    exact q W' H' _ l s' .of_bl
theorem rp_non {W : Wd} {d : D} {v : V} (r : Rp X.K cl W d v) : decide (v = .non) = isNon d := by
  cases d with
  | non => cases r.non_inv; rfl
  | bl _ => cases r.bl_inv; rfl
  | int _ => cases r.int_inv; rfl
  | str _ => cases r.str_inv; rfl
  | loc _ => unfold Rp at r; obtain ⟨a, _, rfl⟩ := r; rfl
  | nd _ _ _ => unfold Rp at r; obtain ⟨a, _, rfl, _⟩ := r; rfl
theorem se_isN {j pos'} (ha : SE X cl cal a a') : SE X cl cal (.Compare a [.Is] [.Constant .none j pos'] pos) (.isN false a') := by
  refine (pe_cmp (pc_isN ha)).imp fun σ H Q h => ?_
  obtain ⟨W, ρ, m, d, m', s, rr, e, q⟩ := h
  unfold evE at e
  obtain ⟨x, e1, e⟩ := bind_ok e
  cases e
  refine rE1 s rr e1 fun W' H' v l s' r1 => q W' H' _ l s' ?_
  rw [rp_non r1]
  cases isNon x.1 <;> exact .of_bl
theorem se_isNot {j pos'} (ha : SE X cl cal a a') : SE X cl cal (.Compare a [.IsNot] [.Constant .none j pos'] pos) (.isN true a') := by
  refine (pe_cmp (pc_notN ha)).imp fun σ H Q h => ?_
  obtain ⟨W, ρ, m, d, m', s, rr, e, q⟩ := h
  unfold evE at e
  obtain ⟨x, e1, e⟩ := bind_ok e
  cases e
  refine rE1 s rr e1 fun W' H' v l s' r1 => q W' H' _ l s' ?_
  rw [rp_non r1]
  cases isNon x.1 <;> exact .of_bl
theorem rp_b {W : Wd} {d : D} {v : V} {t : Bool} (h : asB d = .ok t) (r : Rp X.K cl W d v) : d = .bl t ∧ v = .bl t := by
  cases d with
  | bl c => cases h; exact ⟨rfl, r.bl_inv⟩
  | non => cases h
  | int _ => cases h
  | str _ => cases h
  | loc _ => cases h
  | nd _ _ _ => cases h
theorem asB_eq {d : D} {t : Bool} (h : asB d = .ok t) : d = .bl t := by
  cases d with
  | bl c => cases h; rfl
  | non => cases h
  | int _ => cases h
  | str _ => cases h
  | loc _ => cases h
  | nd _ _ _ => cases h
/-- the rest of an and: its value -/
theorem se_and {rest : List Expr} (ha : SE X cl cal a a') (hb : PE X (.BoolOp .And (b :: rest) pos) (rE X.K cl cal b')) : SE X cl cal (.BoolOp .And (a :: b :: rest) pos) (.and a' b') := by
  refine (pe_and ha hb).imp fun σ H Q h => ?_
  obtain ⟨W, ρ, m, d, m', s, rr, e, q⟩ := h
  unfold evE at e
  obtain ⟨x, e1, e⟩ := bind_ok e
  obtain ⟨t, e2, e⟩ := bind_ok e
  refine rE1 s rr e1 fun W' H' v l s' r1 => ?_
  obtain ⟨_, rfl⟩ := rp_b e2 r1
  refine ⟨t, rfl, ?_⟩
  cases t with
  | true => exact rE1 s' (rr.up l) e fun W2 H2 w l2 s2 r2 => q W2 H2 w (l.trans l2) s2 r2
  | false =>
    simp only [Bool.false_eq_true, if_false] at e ⊢
    cases e
    exact q W' H' _ l s' .of_bl
theorem se_or {rest : List Expr} (ha : SE X cl cal a a') (hb : PE X (.BoolOp .Or (b :: rest) pos) (rE X.K cl cal b')) : SE X cl cal (.BoolOp .Or (a :: b :: rest) pos) (.or a' b') := by
  refine (pe_or ha hb).imp fun σ H Q h => ?_
  obtain ⟨W, ρ, m, d, m', s, rr, e, q⟩ := h
  unfold evE at e
  obtain ⟨x, e1, e⟩ := bind_ok e
  obtain ⟨t, e2, e⟩ := bind_ok e
  refine rE1 s rr e1 fun W' H' v l s' r1 => ?_
  obtain ⟨_, rfl⟩ := rp_b e2 r1
  refine ⟨t, rfl, ?_⟩
  cases t with
  | false => exact rE1 s' (rr.up l) e fun W2 H2 w l2 s2 r2 => q W2 H2 w (l.trans l2) s2 r2
  | true =>
    simp only [if_true] at e ⊢
    cases e
    exact q W' H' _ l s' .of_bl
theorem se_not (ha : SE X cl cal a a') : SE X cl cal (.UnaryOp .Not a pos) (.not a') := by
  refine (pe_not ha).imp fun σ H Q h => ?_
  obtain ⟨W, ρ, m, d, m', s, rr, e, q⟩ := h
  unfold evE at e
  obtain ⟨x, e1, e⟩ := bind_ok e
  obtain ⟨t, e2, e⟩ := bind_ok e
  cases e
  refine rE1 s rr e1 fun W' H' v l s' r1 => ?_
  obtain ⟨_, rfl⟩ := rp_b e2 r1
  exact ⟨t, rfl, q W' H' _ l s' .of_bl⟩
theorem se_ite (hc : ST X cl cal c c') (ha : SE X cl cal a a') (hb : SE X cl cal b b') : SE X cl cal (.IfExp c a b pos) (.ite c' a' b') := by
  refine (pe_ifExp hc ha hb).imp fun σ H Q h => ?_
  obtain ⟨W, ρ, m, d, m', s, rr, e, q⟩ := h
  unfold evE at e
  obtain ⟨x, e1, e⟩ := bind_ok e
  obtain ⟨t, e2, e⟩ := bind_ok e
  obtain ⟨x1, x2⟩ := x
  have hx : x1 = .bl t := asB_eq e2
  subst hx
  refine ⟨W, ρ, m, t, x2, s, rr, e1, fun W' H' l s' => ?_⟩
  cases t with
  | true => exact rE1 s' (rr.up l) e fun W2 H2 w l2 s2 r2 => q W2 H2 w (l.trans l2) s2 r2
  | false => exact rE1 s' (rr.up l) e fun W2 H2 w l2 s2 r2 => q W2 H2 w (l.trans l2) s2 r2
/-! tests -/
theorem rT_of {t : TE} {e' : E} (h : ∀ σ H Q, rE X.K cl cal e' σ H Q → t σ H Q) : ∀ σ H Q, rT X.K cl cal e' σ H Q → tB t σ H Q := by
  intro σ H Q hq
  obtain ⟨W, ρ, m, b, m', s, rr, e, q⟩ := hq
  exact h σ H _ ⟨W, ρ, m, .bl b, m', s, rr, e, fun W' H' v l s' r => ⟨b, r.bl_inv, q W' H' l s'⟩⟩
theorem st_val {e : Expr} {e' : E} (h : SE X cl cal e e') (he : ∀ whole, isTrue e X.env whole = (do let v ← whole; standAt e.pos; holding [v] (truthy v))) : ST X cl cal e e' :=
  (pt_val h he).imp (rT_of fun _ _ _ z => z)
theorem st_cmp {op : CmpOp} {op' : Cm} {r : R2} (ho : OpR X (compareOp op) r) (hs : CmS X.K cl (cmpB op') r) (hm : behindInMarks op b = false) (ha : SE X cl cal a a') (hb : SE X cl cal b b') : ST X cl cal (.Compare a [op] [b] pos) (.cmp op' a' b') := by
  refine (pt_cmpR ho ha hb hm).imp fun σ H Q h => ?_
  obtain ⟨W, ρ, m, d, m', s, rr, e, q⟩ := h
  unfold evE at e
  obtain ⟨x, e1, e⟩ := bind_ok e
  obtain ⟨y, e2, e⟩ := bind_ok e
  obtain ⟨z, e3, e⟩ := bind_ok e
  cases e
  exact rE2 s rr e1 e2 fun W' H' v u l s' r1 r2 => hs W' _ H' _ _ _ v u _ s' r1 r2 e3 ⟨_, rfl, q W' H' l s'⟩
theorem st_isN {j pos'} (ha : SE X cl cal a a') : ST X cl cal (.Compare a [.Is] [.Constant .none j pos'] pos) (.isN false a') := by
  refine (pt_cmp (pc_isN ha)).imp fun σ H Q h => ?_
  obtain ⟨W, ρ, m, d, m', s, rr, e, q⟩ := h
  unfold evE at e
  obtain ⟨x, e1, e⟩ := bind_ok e
  refine rE1 s rr e1 fun W' H' v l s' r1 => ⟨_, rfl, ?_⟩
  rw [rp_non r1]
  cases hx : isNon x.1 <;> (rw [hx] at e; cases e; exact q W' H' l s')
theorem st_isNot {j pos'} (ha : SE X cl cal a a') : ST X cl cal (.Compare a [.IsNot] [.Constant .none j pos'] pos) (.isN true a') := by
  refine (pt_cmp (pc_notN ha)).imp fun σ H Q h => ?_
  obtain ⟨W, ρ, m, d, m', s, rr, e, q⟩ := h
  unfold evE at e
  obtain ⟨x, e1, e⟩ := bind_ok e
  refine rE1 s rr e1 fun W' H' v l s' r1 => ⟨_, rfl, ?_⟩
  rw [rp_non r1]
  cases hx : isNon x.1 <;> (rw [hx] at e; cases e; exact q W' H' l s')
abbrev SW (X : Cx) (cl : ClA) (cal : Cal) (e : Expr) (e' : E) : Prop := PW X e (rT X.K cl cal e')
theorem _root_.L2.PW.imp {e : Expr} {t t' : TT} (h : PW X e t) (hi : ∀ σ H Q, t' σ H Q → t σ H Q) : PW X e t' := ⟨fun wh pins s σ H Q I q => h.run wh pins s σ H Q I (hi σ H Q q)⟩
theorem sw_and {rest : List Expr} (ha : ST X cl cal a a') (hb : SW X cl cal (.BoolOp .And (b :: rest) pos) b') : SW X cl cal (.BoolOp .And (a :: b :: rest) pos) (.and a' b') := by
  refine L2.PW.imp (pw_and ha hb) fun σ H Q h => ?_
  obtain ⟨W, ρ, m, d, m', s, rr, e, q⟩ := h
  unfold evE at e
  obtain ⟨x, e1, e⟩ := bind_ok e
  obtain ⟨t, e2, e⟩ := bind_ok e
  obtain ⟨x1, x2⟩ := x
  have hx : x1 = .bl t := asB_eq e2
  subst hx
  refine ⟨W, ρ, m, t, x2, s, rr, e1, fun W' H' l s' => ?_⟩
  cases t with
  | true => exact ⟨W', ρ, x2, d, m', s', rr.up l, e, fun W2 H2 l2 s2 => q W2 H2 (l.trans l2) s2⟩
  | false =>
    simp only [Bool.false_eq_true, if_false] at e ⊢
    cases e
    exact q W' H' l s'
theorem sw_or {rest : List Expr} (ha : ST X cl cal a a') (hb : SW X cl cal (.BoolOp .Or (b :: rest) pos) b') : SW X cl cal (.BoolOp .Or (a :: b :: rest) pos) (.or a' b') := by
  refine L2.PW.imp (pw_or ha hb) fun σ H Q h => ?_
  obtain ⟨W, ρ, m, d, m', s, rr, e, q⟩ := h
  unfold evE at e
  obtain ⟨x, e1, e⟩ := bind_ok e
  obtain ⟨t, e2, e⟩ := bind_ok e
  obtain ⟨x1, x2⟩ := x
  have hx : x1 = .bl t := asB_eq e2
  subst hx
  refine ⟨W, ρ, m, t, x2, s, rr, e1, fun W' H' l s' => ?_⟩
  cases t with
  | false => exact ⟨W', ρ, x2, d, m', s', rr.up l, e, fun W2 H2 l2 s2 => q W2 H2 (l.trans l2) s2⟩
  | true =>
    simp only [if_true] at e ⊢
    cases e
    exact q W' H' l s'
theorem st_not (ha : ST X cl cal a a') : ST X cl cal (.UnaryOp .Not a pos) (.not a') := by
  refine (pt_not ha).imp fun σ H Q h => ?_
  obtain ⟨W, ρ, m, d, m', s, rr, e, q⟩ := h
  unfold evE at e
  obtain ⟨x, e1, e⟩ := bind_ok e
  obtain ⟨t, e2, e⟩ := bind_ok e
  obtain ⟨x1, x2⟩ := x
  have hx : x1 = .bl t := asB_eq e2
  subst hx
  cases e
  exact ⟨W, ρ, m, t, x2, s, rr, e1, fun W' H' l s' => q W' H' l s'⟩
/-! argument lists, displays -/
theorem ses_nil : SEs X cl cal [] [] := by
  refine pa_nil.imp fun σ H Q h => ?_
  obtain ⟨W, ρ, m, d, m', s, rr, e, q⟩ := h
  unfold evEs at e
  cases e
  exact q W H _ (.refl W) s Rps.nil
theorem ses_cons {es : List Expr} {es' : List E} (ha : SE X cl cal a a') (hr : SEs X cl cal es es') (hs : starEach (a :: es) X.env = (false, eval a X.env) :: starEach es X.env) : SEs X cl cal (a :: es) (a' :: es') := by
  refine (pa_cons ha hr hs).imp fun σ H Q h => ?_
  obtain ⟨W, ρ, m, d, m', s, rr, e, q⟩ := h
  unfold evEs at e
  obtain ⟨x, e1, e⟩ := bind_ok e
  obtain ⟨y, e2, e⟩ := bind_ok e
  cases e
  exact rE1 s rr e1 fun W' H' v l s' r1 => ⟨W', ρ, x.2, y.1, y.2, s', rr.up l, e2, fun W2 H2 vs l2 s2 r2 => q W2 H2 _ (l.trans l2) s2 (Rps.cons (r1.up l2) r2)⟩
theorem evEs_length : ∀ {es : List E} {ρ : Env} {m : Mem} {x : List D × Mem}, evEs cal es ρ m = .ok x → x.1.length = es.length
  | [], _, _, _, e => by unfold evEs at e; cases e; rfl
  | a :: es, _, _, _, e => by
    unfold evEs at e
    obtain ⟨x, e1, e⟩ := bind_ok e
    obtain ⟨y, e2, e⟩ := bind_ok e
    cases e
    simp [evEs_length e2]
def tTupP (t : TA) : TE := fun σ H Q => t σ H fun xs H1 => xs.length ≤ sizeLine ∧ ∀ p ob, H1 p = none → ob.dict = none → Q (.ref p) (upd H1 p (.frz ob (.tup xs)))
theorem pe_tupP {es : List Expr} {t : TA} {x1} (h : PA X es t) : PE X (.Tuple es x1 pos) (tTupP t) := by
  refine ⟨fun pins s σ H Q I hq => ?_⟩
  refine wpAny_Tuple_spliced (thn (h.run pos pins s σ H _ I hq) fun us s1 ⟨xs, H1, I1, r, z, q⟩ => ⟨by rw [← r.length]; exact z, ?_⟩)
  have hf : H1 s1.heap.objs.size = none := I1.hok.fresh (Nat.le_refl _)
  refine ⟨.ref s1.heap.objs.size, upd H1 s1.heap.objs.size (.frz { cls := .type "tuple", data := .seq us.toArray } (.tup xs)), I1.laid (t' := s1.toks) (fun b u e => Heap.get?_push_of_some _ e) (Nat.le_refl _) ?_, rfl, q _ _ hf rfl⟩
  exact ⟨Heap.get?_push_size _ rfl, z, us, r, ⟨_, Heap.get?_push_size _ rfl, rfl, _, rfl⟩⟩
theorem se_tup {es : List Expr} {es' : List E} {k : Nat} (h : SEs X cl cal es es') (hl : es'.length ≤ 1000) : SE X cl cal (.Tuple es k pos) (.tup es') := by
  refine (pe_tupP h).imp fun σ H Q h => ?_
  obtain ⟨W, ρ, m, d, m', s, rr, e, q⟩ := h
  unfold evE at e
  obtain ⟨x, e1, e⟩ := bind_ok e
  cases e
  refine ⟨W, ρ, m, x.1, x.2, s, rr, e1, fun W' H' vs l s' r => ⟨?_, fun p ob hp hd => ?_⟩⟩
  · rw [← r.length, evEs_length e1]
    exact Nat.le_trans hl (by decide)
  · obtain ⟨W2, l2, s2, r2⟩ := s'.freshP hp hd r
    exact q W2 _ _ (l.trans l2) s2 r2
theorem se_lst {fr : Bool} {es : List Expr} {es' : List E} (h : SEs X cl cal es es') (hl : es'.length ≤ 1000) : SE X cl cal (.List es pos) (.lst fr es') := by
  refine (pe_lst h).imp fun σ H Q h => ?_
  obtain ⟨W, ρ, m, d, m', s, rr, e, q⟩ := h
  unfold evE at e
  obtain ⟨x, e1, e⟩ := bind_ok e
  have e := R.ok.inj e
  refine ⟨W, ρ, m, x.1, x.2, s, rr, e1, fun W' H' vs l s' r => ⟨?_, fun p hp => ?_⟩⟩
  · rw [← r.length, evEs_length e1]
    exact Nat.le_trans hl (by decide)
  · obtain ⟨W2, l2, s2, r2⟩ := s'.fresh (sh := .lst) fr hp r rfl (.inr (by decide))
    rw [e] at s2 r2
    exact q W2 _ _ (l.trans l2) s2 r2
/-! subscripts, slices, fields -/
abbrev rIxD : R2 := fun x y H Q => ∃ a v, x = .ref a ∧ DGet H a y (some v) ∧ Q v H
theorem ix_dict (hu : X.A.units + 1 < cLine) : IxR X rIxD := by
  intro value slice pins s σ H x y v u Q I rx ry h hs
  obtain ⟨a, z, rfl, g, q⟩ := h
  obtain rfl : v = Value.ref a := rx
  have hT := dict_typeIs I g
  unfold subscriptTail
  refine wpAny_bind ?_
  rw [getitemInPython_of_ne hT.not_modules]
  refine wpAny_bind (wpAny_specialOf hT PySem.F.slot_dict_getitem.lookup ?_)
  have fin : wpAny (model X.prog X.w) X.A (subscripted slice false (.ref a) u) (fun r s₃ => wpAny (model X.prog X.w) X.A (letTemporaryGo value (.ref a) r >>= fun _ => pure r) (EP X pins σ Q) X.xe s₃) X.xe s := by
    rw [hs]
    exact wpAny_operating (wpAny_mono (d_getItem hu I g ry fun w' s3 I3 rw' => (⟨z, H, I3, rw', q⟩ : EP X pins σ Q w' s3)) (fun r s₃ h₃ => wpAny_bind (wpAny_letTemporaryGo (wpAny_pure h₃))) fun _ _ x => x)
  first
    | exact wpAny_pure (wpAny_bind fin)
    | exact wpAny_bind (wpAny_pure (wpAny_bind fin))
    | exact wpAny_bind fin
theorem atI_rel {W : Wd} {ds : List D} {vs : List V} {i : Int} {d : D} (r : Rps X.K cl W ds vs) (h : atI ds i = some d) : ∃ v, atI vs i = some v ∧ Rp X.K cl W d v := by
  unfold atI at h ⊢
  rw [← r.length]
  cases e : ixN ds.length i with
  | none => rw [e] at h; cases h
  | some j => rw [e] at h; exact r.get h
theorem of_ok {α : Type} {o : Option α} {a : α} (h : R.of o = .ok a) : o = some a := by
  cases o with
  | none => cases h
  | some b => cases h; rfl
theorem ops_idx : OpS X.K cl idxD (fun x y H Q => rIx X.K x y H Q ∨ rIxD x y H Q) := by
  intro W m H dx dy d x y Q s rx ry h q
  unfold idxD at h
  split at h
  · split at h
    · obtain ⟨hl, h⟩ := if_ok h rfl
      split at h
      · rename_i c hc
        cases h
        cases rx.str_inv; cases ry.int_inv
        exact .inl (.inr (.inr ⟨_, _, c, rfl, rfl, hl, hc, q W H _ (.refl W) s .of_str⟩))
      · cases h
    · cases h
  · split at h
    · rename_i ks es hv
      split at h
      · rename_i k hk
        obtain ⟨a, xs, rfl, ⟨hl, ha⟩, rs⟩ := s.view rx hv
        obtain ⟨v, h1, h2⟩ := (valV_zip k hl rs).1 d (of_ok h)
        exact .inr ⟨a, v, rfl, .inl ⟨_, k, .inl ha, kV_of hk ry, h1.symm⟩, q W H v (.refl W) s h2⟩
      · cases h
    · cases h
    · cases h
    · rename_i sh es n1 n2 n3 hv
      split at h
      · obtain ⟨a, xs, rfl, ha, rs⟩ := s.view rx hv
        cases ry.int_inv
        obtain ⟨v, h1, h2⟩ := atI_rel rs (of_ok h)
        cases sh with
        | tupP => exact .inl (.inr (.inl ⟨a, xs, _, v, rfl, rfl, ha.sq, h1, q W H v (.refl W) s h2⟩))
        | tup => exact .inl (.inr (.inl ⟨a, xs, _, v, rfl, rfl, ha, h1, q W H v (.refl W) s h2⟩))
        | lst => exact .inl (.inl ⟨a, xs, _, v, rfl, rfl, SqL.of ha, h1, q W H v (.refl W) s h2⟩)
        | scr => exact .inl (.inl ⟨a, xs, _, v, rfl, rfl, ha, h1, q W H v (.refl W) s h2⟩)
        | dK ks => exact absurd rfl (n1 ks)
        | dT ks => exact absurd rfl (n2 ks)
        | ins C fs => exact absurd rfl (n3 C fs)
      · cases h
    · cases h
theorem se_idx (hu : X.A.units + 1 < cLine) (ha : SE X cl cal a a') (hb : SE X cl cal b b') (hs : PlainIx b) : SE X cl cal (.Subscript a b pos) (.idx a' b') := by
  refine (pe_ix (ix_seq.or (ix_dict hu)) ha hb hs).imp fun σ H Q h => ?_
  obtain ⟨W, ρ, m, d, m', s, rr, e, q⟩ := h
  unfold evE at e
  obtain ⟨x, e1, e⟩ := bind_ok e
  obtain ⟨y, e2, e⟩ := bind_ok e
  obtain ⟨z, e3, e⟩ := bind_ok e
  cases e
  exact rE2 s rr e1 e2 fun W' H' v u l s' r1 r2 => ops_idx W' _ H' _ _ _ v u Q s' r1 r2 e3 fun W2 H2 w l2 s2 r3 => q W2 H2 w (l.trans l2) s2 r3
end
end Mi
end
section
set_option linter.all false
set_option Elab.async false
set_option maxRecDepth 100000
set_option maxHeartbeats 2000000
/-! Mi4: slices, fields, isinstance, built-in functions and methods. -/
namespace Mi
open PySem PySem.Spec PyProof.Rows L2
section
variable {X : Cx} {cl : ClA} {cal : Cal} {a b c : Expr} {a' b' c' : E} {pos p2 : Pos}
/-! ### slices -/
abbrev rSlAll (K : PySem.W.Frag) : V → Option Int → Option Int → Hp → VK → Prop := fun x lo hi H Q => rSlA K x lo hi H Q ∨ (rSlL K x lo hi H Q ∨ rSlS x lo hi H Q)
theorem cut_whole {α : Type} {xs : List α} {lo hi : Option Int} (h : HT.sIx xs.length 0 lo = 0 ∧ HT.sIx xs.length xs.length hi = xs.length) : cut xs lo hi = xs := by
  unfold cut
  rw [h.1, h.2]
  simp
theorem slc_ok {W : Wd} {m : Mem} {H : Hp} {d r : D} {x : V} {lo hi : Option Int} {Q : VK} (s : Sim X.K cl W m H) (rx : Rp X.K cl W d x) (h : slcD m d lo hi = .ok r) (q : ∀ W' H' v, W.le W' → Sim X.K cl W' m H' → Rp X.K cl W' r v → Q v H') : rSlAll X.K x lo hi H Q := by
  unfold slcD at h
  split at h
  · obtain ⟨hl, h⟩ := if_ok h rfl
    cases h
    cases rx.str_inv
    exact .inr (.inr ⟨_, rfl, hl, q W H _ (.refl W) s .of_str⟩)
  · split at h
    · rename_i ds hv
      cases h
      obtain ⟨a, vs, rfl, ha, ra⟩ := s.view rx hv
      have hl := ra.length
      refine .inl ⟨a, vs, rfl, ha, fun hw => ?_, fun _ p hp => ?_⟩
      · rw [← hl] at hw
        rw [cut_whole hw] at q
        obtain ⟨W', l, s', r'⟩ := s.keepT ha ra
        exact q W' H _ l s' r'
      · obtain ⟨W', l, s', r'⟩ := s.newF (sh := .tup) (ds := cut ds lo hi) (xs := cutV vs lo hi) hp (by unfold cut cutV; rw [hl]; exact (ra.drop _).take _) rfl
        exact q W' _ _ l s' r'
    · rename_i ds hv
      cases h
      obtain ⟨a, vs, rfl, ha, ra⟩ := s.view rx hv
      have hl := ra.length
      refine .inr (.inl ⟨a, vs, rfl, SqL.of ha, fun p hp => ?_⟩)
      obtain ⟨W', l, s', r'⟩ := s.newF (sh := .lst) (ds := cut ds lo hi) (xs := cutV vs lo hi) hp (by unfold cut cutV; rw [hl]; exact (ra.drop _).take _) rfl
      exact q W' _ _ l s' r'
    · cases h
theorem sl_all : SlR X (rSlAll X.K) := sl_tupA.or (sl_list.or sl_str)
theorem asI_eq {d : D} {i : Int} (h : asI d = .ok i) : d = .int i := by
  cases d with
  | int c => cases h; rfl
  | non => cases h
  | bl _ => cases h
  | str _ => cases h
  | loc _ => cases h
  | nd _ _ _ => cases h
theorem rp_i {W : Wd} {d : D} {v : V} {i : Int} (h : asI d = .ok i) (r : Rp X.K cl W d v) : v = .int i := by
  rw [asI_eq h] at r
  exact r.int_inv
theorem se_slcL (ha : SE X cl cal a a') (hb : SE X cl cal b b') : SE X cl cal (.Subscript a (.Slice (some b) none none p2) pos) (.slcL a' b') := by
  refine (pe_slice sl_all ha (po_some hb) po_none).imp fun σ H Q h => ?_
  obtain ⟨W, ρ, m, d, m', s, rr, e, q⟩ := h
  unfold evE at e
  obtain ⟨x, e1, e⟩ := bind_ok e
  obtain ⟨y, e2, e⟩ := bind_ok e
  obtain ⟨i, e3, e⟩ := bind_ok e
  obtain ⟨z, e4, e⟩ := bind_ok e
  cases e
  exact rE2 s rr e1 e2 fun W' H' v u l s' r1 r2 => ⟨i, rp_i e3 r2, slc_ok s' r1 e4 fun W2 H2 w l2 s2 r3 => q W2 H2 w (l.trans l2) s2 r3⟩
theorem se_slcU (ha : SE X cl cal a a') (hb : SE X cl cal b b') : SE X cl cal (.Subscript a (.Slice none (some b) none p2) pos) (.slcU a' b') := by
  refine (pe_slice sl_all ha po_none (po_some hb)).imp fun σ H Q h => ?_
  obtain ⟨W, ρ, m, d, m', s, rr, e, q⟩ := h
  unfold evE at e
  obtain ⟨x, e1, e⟩ := bind_ok e
  obtain ⟨y, e2, e⟩ := bind_ok e
  obtain ⟨i, e3, e⟩ := bind_ok e
  obtain ⟨z, e4, e⟩ := bind_ok e
  cases e
  exact rE2 s rr e1 e2 fun W' H' v u l s' r1 r2 => ⟨i, rp_i e3 r2, slc_ok s' r1 e4 fun W2 H2 w l2 s2 r3 => q W2 H2 w (l.trans l2) s2 r3⟩
theorem se_slcB (ha : SE X cl cal a a') (hb : SE X cl cal b b') (hc : SE X cl cal c c') : SE X cl cal (.Subscript a (.Slice (some b) (some c) none p2) pos) (.slcB a' b' c') := by
  refine (pe_slice sl_all ha (po_some hb) (po_some hc)).imp fun σ H Q h => ?_
  obtain ⟨W, ρ, m, d, m', s, rr, e, q⟩ := h
  unfold evE at e
  obtain ⟨x, e1, e⟩ := bind_ok e
  obtain ⟨y, e2, e⟩ := bind_ok e
  obtain ⟨i, e3, e⟩ := bind_ok e
  obtain ⟨z, e4, e⟩ := bind_ok e
  obtain ⟨j, e5, e⟩ := bind_ok e
  obtain ⟨t, e6, e⟩ := bind_ok e
  cases e
  exact rE2 s rr e1 e2 fun W' H' v u l s' r1 r2 => ⟨i, rp_i e3 r2, rE1 s' (rr.up l) e4 fun W2 H2 w l2 s2 r3 => ⟨j, rp_i e5 r3, slc_ok s2 (r1.up l2) e6 fun W3 H3 w3 l3 s3 r4 => q W3 H3 w3 ((l.trans l2).trans l3) s3 r4⟩⟩
/-! ### fields -/
/-- what is known of the classes and the names of fields -/
structure ClOk (K : PySem.W.Frag) (cl : ClA) (FL : List Str) : Prop where
  cls : ∀ C c, cl C = some c → Cls K c
  noat : ∀ C c f, cl C = some c → f ∈ FL → NoAttr K c f
theorem lookup_zip {W : Wd} (f : Str) : ∀ {fs : List Str} {ds : List D} {xs : List V}, fs.length = xs.length → Rps X.K cl W ds xs → ∀ {d : D}, kget f fs ds = some d → ∃ v, (fs.zip xs).lookup f = some v ∧ Rp X.K cl W d v := by
  intro fs
  induction fs with
  | nil => intro ds xs _ _ d h; unfold kget at h; cases h
  | cons a fs ih =>
    intro ds xs hl r d h
    cases xs with
    | nil => cases hl
    | cons x xs =>
      have hd := r.length
      cases ds with
      | nil => cases hd
      | cons e ds =>
        unfold Rps at r
        obtain ⟨v, vs, ee, r1, r2⟩ := r
        injection ee with e1 e2
        subst e1 e2
        unfold kget at h
        rw [List.zip_cons_cons, List.lookup_cons]
        by_cases hk : a = f
        · rw [if_pos hk] at h
          cases h
          subst hk
          exact ⟨x, by simp, r1⟩
        · rw [if_neg hk] at h
          have : (f == a) = false := by simpa using fun z => hk z.symm
          rw [this]
          exact ih (by simpa using hl) r2 h
theorem lookup_none {f : Str} : ∀ {fs : List Str} {xs : List V}, f ∉ fs → (fs.zip xs).lookup f = none
  | [], _, _ => rfl
  | _ :: _, [], _ => rfl
  | a :: fs, x :: xs, h => by
    rw [List.zip_cons_cons, List.lookup_cons]
    have : (f == a) = false := by
      simp only [List.mem_cons, not_or] at h
      simpa using h.1
    rw [this]
    exact lookup_none fun z => h (List.mem_cons_of_mem _ z)
theorem se_fld {FL : List Str} {f : Str} (co : ClOk X.K cl FL) (hf : f ∈ FL) (ha : SE X cl cal a a') (hb : attributeBase a f X.env (eval a X.env) = eval a X.env) : SE X cl cal (.Attribute a f pos) (.fld a' f) := by
  refine (pe_fld ha hb).imp fun σ H Q h => ?_
  obtain ⟨W, ρ, m, d, m', s, rr, e, q⟩ := h
  unfold evE at e
  obtain ⟨x, e1, e⟩ := bind_ok e
  obtain ⟨y, e2, e⟩ := bind_ok e
  cases e
  refine rE1 s rr e1 fun W' H' v l s' r1 => ?_
  unfold fldD at e2
  split at e2
  · rename_i C fs ds hv
    obtain ⟨p, xs, rfl, ⟨hl, c, dx, hc, hp⟩, rs⟩ := s'.view r1 hv
    obtain ⟨v, h1, h2⟩ := lookup_zip f hl rs (of_ok e2)
    exact ⟨p, c, dx, _, v, rfl, hp, co.cls _ _ hc, co.noat _ _ _ hc hf, h1, q W' H' v l s' h2⟩
  · cases e2
/-! ### isinstance -/
theorem tyD_rel {W : Wd} {m : Mem} {H : Hp} {d : D} {v : V} {t : String} (s : Sim X.K cl W m H) (r : Rp X.K cl W d v) (h : tyD m d = some t) : TyX X.K H v (.type t) := by
  unfold tyD at h
  split at h
  · cases h; cases r.non_inv; exact .base .non
  · cases h; cases r.bl_inv; exact .base (.bl _)
  · cases h; cases r.int_inv; exact .base (.int _)
  · cases h; cases r.str_inv; exact .base (.str _)
  · split at h
    · rename_i ds hv
      cases h
      obtain ⟨p, xs, rfl, hp, _⟩ := s.view r hv
      rcases hp with (hp | ⟨o, hp⟩) | ⟨o, its, n, hk, hc, _⟩
      · exact .base (.tup hp)
      · exact .fTuple hp
      · exact .kTuple hk hc
    · rename_i ds hv
      cases h
      obtain ⟨p, xs, rfl, hp, _⟩ := s.view r hv
      exact .base (.lst hp)
    · cases h
theorem tyD_in {m : Mem} {d : D} {t : String} (h : tyD m d = some t) : t = "NoneType" ∨ t = "bool" ∨ t = "int" ∨ t = "str" ∨ t = "tuple" ∨ t = "list" := by
  unfold tyD at h
  split at h
  · cases h; simp
  · cases h; simp
  · cases h; simp
  · cases h; simp
  · split at h
    · cases h; simp
    · cases h; simp
    · cases h
theorem kit_kd {K : PySem.W.Frag} {t : String} (ht : t = "NoneType" ∨ t = "bool" ∨ t = "int" ∨ t = "str" ∨ t = "tuple" ∨ t = "list") (k : Kd) : PySem.W.kitOne K (.type t) (.type (kdS k)) = some (kdIs t k) := by
  rcases ht with h | h | h | h | h | h <;> (subst h; cases k <;> exact kit_ty (by decide +kernel))
theorem kit_kds {K : PySem.W.Frag} {t : String} (ht : t = "NoneType" ∨ t = "bool" ∨ t = "int" ∨ t = "str" ∨ t = "tuple" ∨ t = "list") : ∀ ks : List Kd, ks ≠ [] → PySem.W.kitAny K (.type t) (ks.map fun k => .type (kdS k)) = some (ks.any (kdIs t))
  | [], h => absurd rfl h
  | k :: ks, _ => by
    rw [List.map_cons, List.any_cons]
    refine kitAny_cons (kit_kd ht k) (fun hb => ?_) (fun hb => by rw [hb]; rfl)
    rw [hb, Bool.false_or]
    cases ks with
    | nil => rfl
    | cons k2 ks => exact kit_kds ht (k2 :: ks) (by simp)
/-- a built-in class by its name -/
theorem pe_ty {x : Str} {n : String} {p : Pos} (hg : Gl X x) (hm : X.mg x = none) (hv : bootBuiltins x = some (.type n)) (hn : x ≠ "__name__") (hd : (x == ("__debug__" : Str)) = false) : PE X (.Name x p) (tC (.ty n)) := pe_bltn hg hm hv rfl hn hd
theorem se_isi1 {T : Expr} {k : Kd} {p : Pos} (hT : PE X T (tC (.ty (kdS k)))) (hg : Gl X "isinstance") (hm : X.mg "isinstance" = none) (ha : SE X cl cal a a')
    (hs1 : starEach (a :: [T]) X.env = (false, eval a X.env) :: starEach [T] X.env) (hs2 : starEach (T :: []) X.env = (false, eval T X.env) :: starEach [] X.env) (hpl : (backTo pos (starEach [T] X.env)).any (·.1) = false) :
    SE X cl cal (.Call (.Name "isinstance" p) [a, T] [] pos) (.isi a' [k]) := by
  refine (pe_callB call_isi hg hm (by decide +kernel) (pa_cons ha (pa_cons hT pa_nil hs2) hs1) (by decide) (by decide) hs1 hpl).imp fun σ H Q h => ?_
  obtain ⟨W, ρ, m, d, m', s, rr, e, q⟩ := h
  unfold evE at e
  obtain ⟨x, e1, e⟩ := bind_ok e
  obtain ⟨y, e2, e⟩ := bind_ok e
  cases e
  unfold isiD at e2
  split at e2
  · rename_i t ht
    cases e2
    refine rE1 s rr e1 fun W' H' v l s' r1 => ?_
    refine ⟨v, .ty (kdS k), .type t, .type (kdS k), _, rfl, .ty _, tyD_rel s' r1 ht, kit_kd (tyD_in ht) k, ?_⟩
    simp only [List.any_cons, List.any_nil, Bool.or_false] at q
    exact q W' H' _ l s' .of_bl
  · cases e2
/-- isinstance(x, (T, ..)) -/
theorem se_isiT {Ts : List Expr} {ks : List Kd} {p pt : Pos} {kt : Nat} (hne : ks ≠ []) (hl : ks.length ≤ 1000) (hT : PA X Ts (fun _ H Q => Q (ks.map fun k => V.ty (kdS k)) H)) (hg : Gl X "isinstance") (hm : X.mg "isinstance" = none) (ha : SE X cl cal a a')
    (hs1 : starEach (a :: [.Tuple Ts kt pt]) X.env = (false, eval a X.env) :: starEach [.Tuple Ts kt pt] X.env) (hs2 : starEach (.Tuple Ts kt pt :: []) X.env = (false, eval (.Tuple Ts kt pt) X.env) :: starEach [] X.env) (hpl : (backTo pos (starEach [.Tuple Ts kt pt] X.env)).any (·.1) = false) :
    SE X cl cal (.Call (.Name "isinstance" p) [a, .Tuple Ts kt pt] [] pos) (.isi a' ks) := by
  refine (pe_callB call_isiT hg hm (by decide +kernel) (pa_cons ha (pa_cons (pe_tup hT) pa_nil hs2) hs1) (by decide) (by decide) hs1 hpl).imp fun σ H Q h => ?_
  obtain ⟨W, ρ, m, d, m', s, rr, e, q⟩ := h
  unfold evE at e
  obtain ⟨x, e1, e⟩ := bind_ok e
  obtain ⟨y, e2, e⟩ := bind_ok e
  cases e
  unfold isiD at e2
  split at e2
  · rename_i t ht
    cases e2
    refine rE1 s rr e1 fun W' H' v l s' r1 => ?_
    refine ⟨by rw [List.length_map]; exact Nat.le_trans hl (by decide), fun tp htp => ?_⟩
    have s2 := s'.grow (H' := upd H' tp (.tup (ks.map fun k => V.ty (kdS k)))) (upd_up htp)
    refine ⟨v, tp, _, .type t, ks.map fun k => .type (kdS k), _, rfl, upd_same, ?_, tyD_rel s2 r1 ht, kit_kds (tyD_in ht) ks hne, q W' _ _ l s2 .of_bl⟩
    have : ∀ ks : List Kd, Paired ClsV (ks.map fun k => V.ty (kdS k)) (ks.map fun k => Value.type (kdS k)) := by
      intro ks
      induction ks with
      | nil => exact .nil
      | cons k ks ih => exact .cons (.ty _) ih
    exact this ks
  · cases e2
/-! ### built-in functions -/
/-- a built-in by values -/
def BiS (K : PySem.W.Frag) (cl : ClA) (f : Mem → List D → R (D × Mem)) (r : List V → Hp → VK → Prop) : Prop :=
  ∀ (W : Wd) (m m' : Mem) (H : Hp) (ds : List D) (d : D) (vs : List V) (Q : VK), Sim K cl W m H → Rps K cl W ds vs → f m ds = .ok (d, m') → (∀ W' H' v, W.le W' → Sim K cl W' m' H' → Rp K cl W' d v → Q v H') → r vs H Q
theorem rps1 {K : PySem.W.Frag} {W : Wd} {d : D} {vs : List V} (r : Rps K cl W [d] vs) : ∃ v, vs = [v] ∧ Rp K cl W d v := by
  unfold Rps at r
  obtain ⟨v, us, rfl, r1, r2⟩ := r
  unfold Rps at r2
  subst r2
  exact ⟨v, rfl, r1⟩
theorem rps2 {K : PySem.W.Frag} {W : Wd} {d e : D} {vs : List V} (r : Rps K cl W [d, e] vs) : ∃ v u, vs = [v, u] ∧ Rp K cl W d v ∧ Rp K cl W e u := by
  unfold Rps at r
  obtain ⟨v, us, rfl, r1, r2⟩ := r
  obtain ⟨u, rfl, r3⟩ := rps1 r2
  exact ⟨v, u, rfl, r1, r3⟩
theorem se_biB {nm : Str} {id : String} {bb : Bi} {fr : Bool} {r : List V → Hp → VK → Prop} {es : List Expr} {es' : List E} {p : Pos} (hc : CallR X (.builtin id) r) (hs : BiS X.K cl (fun m ds => bi bb fr m ds) r) (hg : Gl X nm) (hm : X.mg nm = none)
    (hv : bootBuiltins nm = some (.builtin id)) (hn : nm ≠ "__name__") (hd : (nm == ("__debug__" : Str)) = false) (ha : SEs X cl cal (a :: es) es')
    (he : starEach (a :: es) X.env = (false, eval a X.env) :: starEach es X.env) (hpl : (backTo pos (starEach es X.env)).any (·.1) = false) : SE X cl cal (.Call (.Name nm p) (a :: es) [] pos) (.bi bb fr es') := by
  refine (pe_callB hc hg hm hv ha hn hd he hpl).imp fun σ H Q h => ?_
  obtain ⟨W, ρ, m, d, m', s, rr, e, q⟩ := h
  unfold evE at e
  obtain ⟨x, e1, e⟩ := bind_ok e
  exact ⟨W, ρ, m, x.1, x.2, s, rr, e1, fun W' H' vs l s' r1 => hs W' _ _ H' _ _ vs Q s' r1 e fun W2 H2 v l2 s2 r2 => q W2 H2 v (l.trans l2) s2 r2⟩
theorem se_biT {nm : Str} {id : String} {bb : Bi} {fr : Bool} {r : List V → Hp → VK → Prop} {es : List Expr} {es' : List E} {p : Pos} (hc : CallR X (.type id) r) (hs : BiS X.K cl (fun m ds => bi bb fr m ds) r) (hg : Gl X nm) (hm : X.mg nm = none)
    (hv : bootBuiltins nm = some (.type id)) (hn : nm ≠ "__name__") (hd : (nm == ("__debug__" : Str)) = false) (ha : SEs X cl cal (a :: es) es')
    (he : starEach (a :: es) X.env = (false, eval a X.env) :: starEach es X.env) (hpl : (backTo pos (starEach es X.env)).any (·.1) = false) : SE X cl cal (.Call (.Name nm p) (a :: es) [] pos) (.bi bb fr es') := by
  refine (pe_callTy hc hg hm hv ha hn hd he hpl).imp fun σ H Q h => ?_
  obtain ⟨W, ρ, m, d, m', s, rr, e, q⟩ := h
  unfold evE at e
  obtain ⟨x, e1, e⟩ := bind_ok e
  exact ⟨W, ρ, m, x.1, x.2, s, rr, e1, fun W' H' vs l s' r1 => hs W' _ _ H' _ _ vs Q s' r1 e fun W2 H2 v l2 s2 r2 => q W2 H2 v (l.trans l2) s2 r2⟩
end
end Mi
end
section
set_option linter.all false
set_option Elab.async false
set_option maxRecDepth 100000
set_option maxHeartbeats 2000000
/-! Mi5: built-in functions and methods by values. -/
namespace Mi
open PySem PySem.Spec PyProof.Rows L2
section
variable {X : Cx} {cl : ClA} {cal : Cal} {fr : Bool}
/-- a built-in that makes no object -/
theorem bis_v {f : Mem → List D → R D} {r : List V → Hp → VK → Prop} (h : ∀ (W : Wd) (m : Mem) (H : Hp) (ds : List D) (d : D) (vs : List V) (Q : VK), Sim X.K cl W m H → Rps X.K cl W ds vs → f m ds = .ok d → (∀ W' H' v, W.le W' → Sim X.K cl W' m H' → Rp X.K cl W' d v → Q v H') → r vs H Q) :
    BiS X.K cl (fun m ds => asV m (f m ds)) r := by
  intro W m m' H ds d vs Q s rs e q
  obtain ⟨x, e1, e2⟩ := bind_ok e
  cases e2
  exact h W m H ds _ vs Q s rs e1 q
theorem bis_n {f : Mem → List D → R (Sh × List D)} {r : List V → Hp → VK → Prop} (h : ∀ (W : Wd) (m : Mem) (H : Hp) (ds : List D) (c : Sh × List D) (vs : List V) (Q : VK), Sim X.K cl W m H → Rps X.K cl W ds vs → f m ds = .ok c →
    (∀ xs p, Rps X.K cl W c.2 xs → shLen c.1 xs.length = true → H p = none → Q (.ref p) (upd H p (hoOf c.1 xs))) → c.1 ≠ .tup → r vs H Q) (hc : ∀ m ds c, f m ds = .ok c → c.1 ≠ .tup) :
    BiS X.K cl (fun m ds => asN fr m (f m ds)) r := by
  intro W m m' H ds d vs Q s rs e q
  obtain ⟨x, e1, e2⟩ := bind_ok e
  have e2 := R.ok.inj e2
  refine h W m H ds _ vs Q s rs e1 (fun xs p hx hl hp => ?_) (hc _ _ _ e1)
  obtain ⟨W2, l2, s2, r2⟩ := s.fresh fr hp hx hl (.inr (hc _ _ _ e1))
  rw [e2] at s2 r2
  exact q W2 _ _ l2 s2 r2
abbrev rLenA (K : PySem.W.Frag) : List V → Hp → VK → Prop := fun xs H Q => (∃ x n, xs = [x] ∧ LenV K x H n ∧ Q (.int n) H) ∨ ∃ a kvs, xs = [V.ref a] ∧ H a = some (.dK kvs) ∧ Q (.int kvs.length) H
theorem cr_lenA : CallR X (.builtin "len") (rLenA X.K) := call_len.or call_lenD
theorem bis_len : BiS X.K cl (fun m ds => bi .len fr m ds) (rLenA X.K) := by
  refine bis_v (f := biLen) fun W m H ds d vs Q s r h q => ?_
  unfold biLen at h
  split at h
  · obtain ⟨v, rfl, rv⟩ := rps1 r
    split at h
    · obtain ⟨hl, h⟩ := if_ok h rfl
      cases h
      cases rv.str_inv
      exact .inl ⟨_, _, rfl, ⟨hl, rfl⟩, q W H _ (.refl W) s .of_int⟩
    · split at h
      · rename_i es hv
        cases h
        obtain ⟨a, xs, rfl, ha, ra⟩ := s.view rv hv
        exact .inl ⟨_, es.length, rfl, .inr ⟨xs, ha, ra.length⟩, q W H _ (.refl W) s .of_int⟩
      · rename_i es hv
        cases h
        obtain ⟨a, xs, rfl, ha, ra⟩ := s.view rv hv
        exact .inl ⟨_, es.length, rfl, .inl ⟨xs, SqL.of ha, ra.length⟩, q W H _ (.refl W) s .of_int⟩
      · rename_i es hv
        cases h
        obtain ⟨a, xs, rfl, ha, ra⟩ := s.view rv hv
        exact .inl ⟨_, es.length, rfl, .inl ⟨xs, ha, ra.length⟩, q W H _ (.refl W) s .of_int⟩
      · rename_i ks es hv
        cases h
        obtain ⟨a, xs, rfl, ⟨hl, ha⟩, ra⟩ := s.view rv hv
        refine .inr ⟨a, _, rfl, ha, ?_⟩
        rw [List.length_zip, ← hl, Nat.min_self]
        exact q W H _ (.refl W) s .of_int
      · cases h
  · cases h
abbrev rTupA (K : PySem.W.Frag) : List V → Hp → VK → Prop := fun xs H Q => ∃ p ys, xs = [.ref p] ∧ ((SqL K H p ys ∧ ∀ l ob, H l = none → ob.dict = none → Q (.ref l) (upd H l (.frz ob (.tup ys)))) ∨ (SqT K H p ys ∧ Q (.ref p) H))
theorem cr_tupA : CallR X (.type "tuple") (rTupA X.K) := by
  intro pins s σ H xs us Q I r h
  obtain ⟨p, ys, rfl, h⟩ := h
  obtain ⟨u, rfl, rx⟩ := vals1 r
  cases rx
  rcases h with ⟨hq, q⟩ | ⟨hq, q⟩
  · obtain ⟨its, r', pl, hz⟩ := I.list hq
    have hlen := r'.length
    refine call_tuple_list pl.isList (fun h' kp => ?_) (by simp only [List.size_toArray] <;> omega)
    have I1 : Inv X pins σ H { s with heap := h' } := I.kept (t' := s.toks) kp
    have I2 : Inv X pins σ (upd H h'.objs.size (.frz { cls := .type "tuple", data := .seq its.toArray } (.tup ys))) { s with heap := h'.push { cls := .type "tuple", data := .seq its.toArray } } :=
      I1.laid (t' := s.toks) (fun b o e => Heap.get?_push_of_some _ e) (Nat.le_refl _) ⟨Heap.get?_push_size _ rfl, hz, its, r', IsTup.new _ _⟩
    exact ⟨.ref h'.objs.size, _, I2, rfl, q _ _ (I1.hok.fresh (Nat.le_refl _)) rfl⟩
  · obtain ⟨its, r', pl, hz⟩ := I.tuple hq
    exact call_tuple_same pl ⟨.ref p, H, I, rfl, q⟩
theorem bis_tuple : BiS X.K cl (fun m ds => bi .tuple fr m ds) (rTupA X.K) := by
  refine bis_v (f := biTuple) fun W m H ds d vs Q s r h q => ?_
  unfold biTuple at h
  split at h
  · obtain ⟨v, rfl, rv⟩ := rps1 r
    split at h
    · rename_i es hv
      cases h
      obtain ⟨a, xs, rfl, ha, ra⟩ := s.view rv hv
      obtain ⟨W', l, s', r'⟩ := s.keepT ha ra
      exact ⟨a, xs, rfl, .inr ⟨ha, q W' H _ l s' r'⟩⟩
    · rename_i es hv
      cases h
      obtain ⟨a, xs, rfl, ha, ra⟩ := s.view rv hv
      refine ⟨a, xs, rfl, .inl ⟨SqL.of ha, fun p ob hp hd => ?_⟩⟩
      obtain ⟨W', l, s', r'⟩ := s.freshP hp hd ra
      exact q W' _ _ l s' r'
    · cases h
  · cases h
abbrev rLstA (K : PySem.W.Frag) : List V → Hp → VK → Prop := fun xs H Q => ∃ p ys, xs = [.ref p] ∧ (SqL K H p ys ∨ SqT K H p ys) ∧ ∀ l, H l = none → Q (.ref l) (upd H l (.lst ys))
theorem bis_list : BiS X.K cl (fun m ds => bi .list fr m ds) (rLstA X.K) := by
  refine bis_n (f := biList) (fun W m H ds c vs Q s r h q _ => ?_) fun m ds c h => ?_
  · unfold biList at h
    split at h
    · obtain ⟨v, rfl, rv⟩ := rps1 r
      split at h
      · rename_i es hv
        cases h
        obtain ⟨a, xs, rfl, ha, ra⟩ := s.view rv hv
        exact ⟨a, xs, rfl, .inr ha, fun p hp => q xs p ra rfl hp⟩
      · rename_i es hv
        cases h
        obtain ⟨a, xs, rfl, ha, ra⟩ := s.view rv hv
        exact ⟨a, xs, rfl, .inl (SqL.of ha), fun p hp => q xs p ra rfl hp⟩
      · cases h
    · cases h
  · unfold biList at h
    split at h
    · split at h
      · cases h; exact fun z => by cases z
      · cases h; exact fun z => by cases z
      · cases h
    · cases h
/-! sorted -/
theorem alikes_all : ∀ {ds : List D}, alikes ds = true → ∀ d ∈ ds, ∀ e ∈ ds, W.alike (py d) (py e) = true
  | [], _, d, hd, _, _ => by cases hd
  | a :: ds, h, d, hd, e, he => by
    unfold alikes at h
    obtain ⟨h1, h2⟩ := Bool.and_eq_true_iff.mp h
    obtain ⟨h3, h4⟩ := Bool.and_eq_true_iff.mp h1
    have h5 := List.all_eq_true.mp h3
    rcases List.mem_cons.mp hd with rfl | hd'
    · rcases List.mem_cons.mp he with rfl | he'
      · exact h4
      · exact (Bool.and_eq_true_iff.mp (h5 e he')).1
    · rcases List.mem_cons.mp he with rfl | he'
      · exact (Bool.and_eq_true_iff.mp (h5 d hd')).2
      · exact alikes_all h2 d hd' e he'
def rSrt (K : PySem.W.Frag) (cl : ClA) : List V → Hp → VK → Prop := fun vs H Q => ∃ (a : Addr) (xs : List V) (W : Wd) (ds : List D), vs = [.ref a] ∧ SqL K H a xs ∧ Rps K cl W ds xs ∧ (∀ b o, W.F b = some o → H b = some o) ∧ (∀ b o, W.B b = some o → H b = some o) ∧ sortable ds = true ∧
  ∀ ys p, Rps K cl W (ds.mergeSort leD) ys → H p = none → Q (.ref p) (upd H p (.lst ys))
theorem each_of {K : PySem.W.Frag} {W : Wd} : ∀ {ds : List D} {xs : List V} {us : List Value}, Rps K cl W ds xs → Vals xs us → PySem.W.EachIs (fun u d => ∃ x, RelV x u ∧ Rp K cl W d x) us ds
  | [], _, _, r, v => by unfold Rps at r; subst r; cases v; exact .nil
  | d :: ds, _, _, r, v => by
    unfold Rps at r
    obtain ⟨x, xs, rfl, r1, r2⟩ := r
    cases v with
    | cons q t => exact .cons ⟨x, q, r1⟩ (each_of r2 t)
theorem of_each {K : PySem.W.Frag} {W : Wd} : ∀ {ds : List D} {us : List Value}, PySem.W.EachIs (fun u d => ∃ x, RelV x u ∧ Rp K cl W d x) us ds → ∃ xs, Vals xs us ∧ Rps K cl W ds xs
  | [], _, h => by cases h; exact ⟨[], .nil, Rps.nil⟩
  | d :: ds, _, h => by
    cases h with
    | cons q t =>
      obtain ⟨x, q1, q2⟩ := q
      obtain ⟨xs, h1, h2⟩ := of_each t
      exact ⟨x :: xs, .cons q1 h1, Rps.cons q2 h2⟩
theorem each_reads {pins : List (Addr × Obj)} {σ : L2.St} {H : Hp} {s : Shared} {W : Wd} (I : Inv X pins σ H s) (hF : ∀ b o, W.F b = some o → H b = some o) (hB : ∀ b o, W.B b = some o → H b = some o) : ∀ {ds : List D} {xs : List V} {us : List Value}, Rps X.K cl W ds xs → Vals xs us → ds.all dat = true →
    PySem.W.EachIs (fun u d => ∃ as, Reads s.heap u (py d) as) us ds
  | [], _, _, r, v, _ => by unfold Rps at r; subst r; cases v; exact .nil
  | d :: ds, _, _, r, v, h => by
    unfold Rps at r
    obtain ⟨x, xs, rfl, r1, r2⟩ := r
    rw [List.all_cons] at h
    obtain ⟨h1, h2⟩ := Bool.and_eq_true_iff.mp h
    cases v with
    | cons q t => exact .cons (Dp.reads I (py d) x _ (dp_of hF hB d x r1 h1) q) (each_reads I hF hB r2 t h2)
theorem leD_eq : PySem.W.dataLe false py = leD := by
  rw [PySem.W.dataLe_eq]
  rfl
theorem cr_srt (hu : X.A.units + 80 < cLine) : CallR X (.builtin "sorted") (rSrt X.K cl) := by
  intro pins s σ H vs us Q I r h
  obtain ⟨a, xs, W, ds, rfl, hs, rs, hF, hB, hsort, q⟩ := h
  obtain ⟨its, rv, hl, hz⟩ := I.list hs
  rw [Vals.ref1 r]
  unfold sortable at hsort
  obtain ⟨h1, hdep⟩ := Bool.and_eq_true_iff.mp hsort
  obtain ⟨h2, hkind⟩ := Bool.and_eq_true_iff.mp h1
  obtain ⟨hdat, hal⟩ := Bool.and_eq_true_iff.mp h2
  have hlen : ds.length ≤ sizeLine := by rw [rs.length]; exact hz
  refine PySem.W.sorted_data (β := D) (enc := py) hl.isList (each_of rs rv) (each_reads I hF hB rs rv hdat) ?_ ?_ hlen (fun d hd => ?_) fun out ho he => ?_
  · intro d hd e hee
    obtain ⟨d', hd', rfl⟩ := List.mem_map.mp hd
    obtain ⟨e', he', rfl⟩ := List.mem_map.mp hee
    exact alikes_all hal d' hd' e' he'
  · rcases Bool.or_eq_true_iff.mp hkind with hk | hk
    · refine .inl fun d hd => ?_
      obtain ⟨d', hd', rfl⟩ := List.mem_map.mp hd
      have := List.all_eq_true.mp hk d' hd'
      split at this
      · rename_i x r e
        exact ⟨x, r, e⟩
      · cases this
    · refine .inr fun d hd => ?_
      obtain ⟨d', hd', rfl⟩ := List.mem_map.mp hd
      have := List.all_eq_true.mp hk d' hd'
      split at this
      · cases this
      · cases this
      · rename_i n1 n2
        exact ⟨n1, n2⟩
  · have := of_decide_eq_true (List.all_eq_true.mp hdep d hd)
    omega
  · rw [leD_eq] at he
    obtain ⟨ys, hv, hr⟩ := of_each he
    obtain ⟨ep, he'⟩ := PyProof.Rows.sortedAll_at s.heap its out.toArray
    have hl2 : ys.length ≤ sizeLine := by
      rw [← hr.length, List.length_mergeSort]
      exact hlen
    exact ⟨.ref _, upd H (s.heap.objs.size + 1) (.lst ys), I.laid (t' := s.toks) (fun _ _ => PyProof.Rows.sortedAll_old) (Nat.le_succ _) ⟨hl2, out, ep, hv, he'⟩, rfl, q _ _ hr (I.hok.fresh (Nat.le_succ _))⟩
theorem bis_sorted : BiS X.K cl (fun m ds => bi .sorted fr m ds) (rSrt X.K cl) := by
  refine bis_n (f := biSorted) (fun W m H ds c vs Q s r h q _ => ?_) fun m ds c h => ?_
  · unfold biSorted at h
    split at h
    · obtain ⟨v, rfl, rv⟩ := rps1 r
      split at h
      · rename_i es hv
        obtain ⟨hs, h⟩ := if_ok h rfl
        cases h
        obtain ⟨a, xs, rfl, ha, ra⟩ := s.view rv hv
        exact ⟨a, xs, W, es, rfl, SqL.of ha, ra, s.F, s.B, hs, fun ys p hy hp => q ys p hy rfl hp⟩
      · cases h
    · cases h
  · unfold biSorted at h
    split at h
    · split at h
      · obtain ⟨hs, h⟩ := if_ok h rfl
        cases h; exact fun z => by cases z
      · cases h
    · cases h

/-! ints, truths -/
theorem ints_rel {K : PySem.W.Frag} {W : Wd} : ∀ {ds : List D} {xs : List V} {is : List Int}, intsOf ds = .ok is → Rps K cl W ds xs → xs = is.map V.int
  | [], _, _, h, r => by unfold intsOf at h; cases h; unfold Rps at r; subst r; rfl
  | d :: ds, _, _, h, r => by
    unfold intsOf at h
    obtain ⟨i, h1, h⟩ := bind_ok h
    obtain ⟨is, h2, h⟩ := bind_ok h
    cases h
    unfold Rps at r
    obtain ⟨x, xs, rfl, r1, r2⟩ := r
    rw [ints_rel h2 r2]
    have e := asI_eq h1
    subst e
    cases r1.int_inv
    rfl
theorem bools_rel {K : PySem.W.Frag} {W : Wd} : ∀ {ds : List D} {xs : List V} {is : List Bool}, boolsOf ds = .ok is → Rps K cl W ds xs → xs = is.map V.bl
  | [], _, _, h, r => by unfold boolsOf at h; cases h; unfold Rps at r; subst r; rfl
  | d :: ds, _, _, h, r => by
    unfold boolsOf at h
    obtain ⟨i, h1, h⟩ := bind_ok h
    obtain ⟨is, h2, h⟩ := bind_ok h
    cases h
    unfold Rps at r
    obtain ⟨x, xs, rfl, r1, r2⟩ := r
    rw [bools_rel h2 r2]
    have e := asB_eq h1
    subst e
    cases r1.bl_inv
    rfl
theorem itemsL_rel {W : Wd} {m : Mem} {H : Hp} {d : D} {v : V} {ds : List D} (s : Sim X.K cl W m H) (r : Rp X.K cl W d v) (h : itemsL m d = .ok ds) : ∃ a xs, v = .ref a ∧ H a = some (.lst xs) ∧ Rps X.K cl W ds xs := by
  unfold itemsL at h
  split at h
  · rename_i es hv
    cases h
    exact s.view r hv
  · cases h
theorem bis_sum : BiS X.K cl (fun m ds => bi .sum fr m ds) (rSum X.K) := by
  refine bis_v (f := fun m => biInts m (fun is => .ok is.sum)) fun W m H ds d vs Q s r h q => ?_
  replace h : biInts m (fun is => .ok is.sum) ds = .ok d := h
  unfold biInts at h
  split at h
  · obtain ⟨v, rfl, rv⟩ := rps1 r
    obtain ⟨es, h1, h⟩ := bind_ok h
    obtain ⟨is, h2, h⟩ := bind_ok h
    cases h
    obtain ⟨a, xs, rfl, ha, ra⟩ := itemsL_rel s rv h1
    cases ints_rel h2 ra
    exact ⟨a, is, rfl, SqL.of ha, q W H _ (.refl W) s .of_int⟩
  · cases h
theorem bis_all : BiS X.K cl (fun m ds => bi .all fr m ds) (rAll X.K) := by
  refine bis_v (f := fun m => biBools m (fun bs => bs.all id)) fun W m H ds d vs Q s r h q => ?_
  replace h : biBools m (fun bs => bs.all id) ds = .ok d := h
  unfold biBools at h
  split at h
  · obtain ⟨v, rfl, rv⟩ := rps1 r
    obtain ⟨es, h1, h⟩ := bind_ok h
    obtain ⟨is, h2, h⟩ := bind_ok h
    cases h
    obtain ⟨a, xs, rfl, ha, ra⟩ := itemsL_rel s rv h1
    cases bools_rel h2 ra
    exact ⟨a, is, rfl, SqL.of ha, q W H _ (.refl W) s .of_bl⟩
  · cases h
theorem bis_any : BiS X.K cl (fun m ds => bi .any fr m ds) (rAny X.K) := by
  refine bis_v (f := fun m => biBools m (fun bs => bs.any id)) fun W m H ds d vs Q s r h q => ?_
  replace h : biBools m (fun bs => bs.any id) ds = .ok d := h
  unfold biBools at h
  split at h
  · obtain ⟨v, rfl, rv⟩ := rps1 r
    obtain ⟨es, h1, h⟩ := bind_ok h
    obtain ⟨is, h2, h⟩ := bind_ok h
    cases h
    obtain ⟨a, xs, rfl, ha, ra⟩ := itemsL_rel s rv h1
    cases bools_rel h2 ra
    exact ⟨a, is, rfl, SqL.of ha, q W H _ (.refl W) s .of_bl⟩
  · cases h
abbrev rIntA : List V → Hp → VK → Prop := fun xs H Q => ((∃ i, xs = [.int i] ∧ Q (.int i) H) ∨ ∃ k, xs = [.bl k] ∧ Q (.int (if k then 1 else 0)) H) ∨ (∃ a n, xs = [.str a] ∧ PySem.intText? a = some n ∧ a.length ≤ 640 ∧ Q (.int n) H)
theorem cr_intA : CallR X (.type "int") rIntA := call_int1.or call_int_str
theorem bis_int : BiS X.K cl (fun m ds => bi .int fr m ds) rIntA := by
  refine bis_v (f := fun _ => biInt) fun W m H ds d vs Q s r h q => ?_
  replace h : biInt ds = .ok d := h
  unfold biInt at h
  split at h
  · obtain ⟨v, rfl, rv⟩ := rps1 r
    cases h
    cases rv.int_inv
    exact .inl (.inl ⟨_, rfl, q W H _ (.refl W) s .of_int⟩)
  · obtain ⟨v, rfl, rv⟩ := rps1 r
    cases h
    cases rv.bl_inv
    exact .inl (.inr ⟨_, rfl, q W H _ (.refl W) s .of_int⟩)
  · obtain ⟨v, rfl, rv⟩ := rps1 r
    obtain ⟨hl, h⟩ := if_ok h rfl
    split at h
    · rename_i n hn
      cases h
      cases rv.str_inv
      exact .inr ⟨_, n, rfl, hn, hl, q W H _ (.refl W) s .of_int⟩
    · cases h
  · cases h
abbrev rAbsA : List V → Hp → VK → Prop := fun xs H Q => ∃ i, xs = [.int i] ∧ Q (.int (if i < 0 then -i else i)) H
theorem bis_abs : BiS X.K cl (fun m ds => bi .abs fr m ds) rAbsA := by
  refine bis_v (f := fun _ => biAbs) fun W m H ds d vs Q s r h q => ?_
  replace h : biAbs ds = .ok d := h
  unfold biAbs at h
  split at h
  · obtain ⟨v, rfl, rv⟩ := rps1 r
    cases h
    cases rv.int_inv
    exact ⟨_, rfl, q W H _ (.refl W) s .of_int⟩
  · cases h
abbrev rStrI : List V → Hp → VK → Prop := fun xs H Q => ∃ i, xs = [.int i] ∧ i.natAbs.log2 < 1920 ∧ Q (.str (toString i)) H
theorem bis_str : BiS X.K cl (fun m ds => bi .str fr m ds) rStrI := by
  refine bis_v (f := fun _ => biStr) fun W m H ds d vs Q s r h q => ?_
  replace h : biStr ds = .ok d := h
  unfold biStr at h
  split at h
  · obtain ⟨v, rfl, rv⟩ := rps1 r
    obtain ⟨hl, h⟩ := if_ok h rfl
    cases h
    cases rv.int_inv
    refine ⟨_, rfl, ?_, q W H _ (.refl W) s .of_str⟩
    rename_i i
    by_cases h0 : i.natAbs = 0
    · rw [h0]; decide
    · have := (Nat.log2_lt h0 (k := 64)).mpr hl
      omega
  · cases h
theorem maxL_mem : ∀ (r : List Int) (a : Int), (maxL r a ∈ a :: r) ∧ ∀ y ∈ a :: r, y ≤ maxL r a
  | [], a => by unfold maxL; simp
  | b :: r, a => by
    unfold maxL
    by_cases h : b > a
    · rw [if_pos h]
      obtain ⟨h1, h2⟩ := maxL_mem r b
      refine ⟨List.mem_cons_of_mem _ h1, fun y hy => ?_⟩
      rcases List.mem_cons.mp hy with rfl | hy
      · have := h2 b List.mem_cons_self; omega
      · exact h2 y hy
    · rw [if_neg h]
      obtain ⟨h1, h2⟩ := maxL_mem r a
      refine ⟨?_, fun y hy => ?_⟩
      · rcases List.mem_cons.mp h1 with e | h1
        · rw [e]; exact List.mem_cons_self
        · exact List.mem_cons_of_mem _ (List.mem_cons_of_mem _ h1)
      · rcases List.mem_cons.mp hy with rfl | hy
        · exact h2 _ List.mem_cons_self
        · rcases List.mem_cons.mp hy with rfl | hy
          · have := h2 a List.mem_cons_self; omega
          · exact h2 y (List.mem_cons_of_mem _ hy)
theorem minL_mem : ∀ (r : List Int) (a : Int), (minL r a ∈ a :: r) ∧ ∀ y ∈ a :: r, minL r a ≤ y
  | [], a => by unfold minL; simp
  | b :: r, a => by
    unfold minL
    by_cases h : b < a
    · rw [if_pos h]
      obtain ⟨h1, h2⟩ := minL_mem r b
      refine ⟨List.mem_cons_of_mem _ h1, fun y hy => ?_⟩
      rcases List.mem_cons.mp hy with rfl | hy
      · have := h2 b List.mem_cons_self; omega
      · exact h2 y hy
    · rw [if_neg h]
      obtain ⟨h1, h2⟩ := minL_mem r a
      refine ⟨?_, fun y hy => ?_⟩
      · rcases List.mem_cons.mp h1 with e | h1
        · rw [e]; exact List.mem_cons_self
        · exact List.mem_cons_of_mem _ (List.mem_cons_of_mem _ h1)
      · rcases List.mem_cons.mp hy with rfl | hy
        · exact h2 _ List.mem_cons_self
        · rcases List.mem_cons.mp hy with rfl | hy
          · have := h2 a List.mem_cons_self; omega
          · exact h2 y (List.mem_cons_of_mem _ hy)
abbrev rMaxA (K : PySem.W.Frag) : List V → Hp → VK → Prop := fun xs H Q => (∃ i j, xs = [.int i, .int j] ∧ Q (.int (if j > i then j else i)) H) ∨ rMax K xs H Q
abbrev rMinA (K : PySem.W.Frag) : List V → Hp → VK → Prop := fun xs H Q => (∃ i j, xs = [.int i, .int j] ∧ Q (.int (if j < i then j else i)) H) ∨ rMin K xs H Q
theorem cr_maxA (hc : X.calm = true) : CallR X (.builtin "max") (rMaxA X.K) := (call_max2 hc).or (cr_max hc)
theorem cr_minA (hc : X.calm = true) : CallR X (.builtin "min") (rMinA X.K) := (call_min2 hc).or (cr_min hc)
theorem bis_max : BiS X.K cl (fun m ds => bi .max fr m ds) (rMaxA X.K) := by
  refine bis_v (f := biMax) fun W m H ds d vs Q s r h q => ?_
  unfold biMax at h
  split at h
  · obtain ⟨v, u, rfl, rv, ru⟩ := rps2 r
    cases h
    cases rv.int_inv; cases ru.int_inv
    exact .inl ⟨_, _, rfl, q W H _ (.refl W) s .of_int⟩
  · unfold biInts at h
    split at h
    · obtain ⟨v, rfl, rv⟩ := rps1 r
      obtain ⟨es, h1, h⟩ := bind_ok h
      obtain ⟨is, h2, h⟩ := bind_ok h
      obtain ⟨i, h3, h⟩ := bind_ok h
      cases h
      obtain ⟨a, xs, rfl, ha, ra⟩ := itemsL_rel s rv h1
      cases ints_rel h2 ra
      cases is with
      | nil => cases h3
      | cons b r =>
        cases h3
        refine .inr ⟨a, b :: r, rfl, SqL.of ha, by simp, fun mx hm hall => ?_⟩
        obtain ⟨g1, g2⟩ := maxL_mem r b
        have e : mx = maxL r b := Int.le_antisymm (g2 mx hm) (hall _ g1)
        rw [e]
        exact q W H _ (.refl W) s .of_int
    · cases h
theorem bis_min : BiS X.K cl (fun m ds => bi .min fr m ds) (rMinA X.K) := by
  refine bis_v (f := biMin) fun W m H ds d vs Q s r h q => ?_
  unfold biMin at h
  split at h
  · obtain ⟨v, u, rfl, rv, ru⟩ := rps2 r
    cases h
    cases rv.int_inv; cases ru.int_inv
    exact .inl ⟨_, _, rfl, q W H _ (.refl W) s .of_int⟩
  · unfold biInts at h
    split at h
    · obtain ⟨v, rfl, rv⟩ := rps1 r
      obtain ⟨es, h1, h⟩ := bind_ok h
      obtain ⟨is, h2, h⟩ := bind_ok h
      obtain ⟨i, h3, h⟩ := bind_ok h
      cases h
      obtain ⟨a, xs, rfl, ha, ra⟩ := itemsL_rel s rv h1
      cases ints_rel h2 ra
      cases is with
      | nil => cases h3
      | cons b r =>
        cases h3
        refine .inr ⟨a, b :: r, rfl, SqL.of ha, by simp, fun mx hm hall => ?_⟩
        obtain ⟨g1, g2⟩ := minL_mem r b
        have e : mx = minL r b := Int.le_antisymm (hall _ g1) (g2 mx hm)
        rw [e]
        exact q W H _ (.refl W) s .of_int
    · cases h
end
end Mi
end
section
set_option linter.all false
set_option Elab.async false
set_option maxRecDepth 100000
set_option maxHeartbeats 2000000
/-! Mi6: methods of built-ins. -/
namespace Mi
open PySem PySem.Spec PyProof.Rows L2
section
variable {X : Cx} {cl : ClA} {cal : Cal}
/-- a built-in's method by values -/
def MtS (K : PySem.W.Frag) (cl : ClA) (q : Mt) (r : V → List V → Hp → VK → Prop) : Prop :=
  ∀ (W : Wd) (m m' : Mem) (H : Hp) (o d : D) (as : List D) (v : V) (vs : List V) (Q : VK), Sim K cl W m H → Rp K cl W o v → Rps K cl W as vs → mt q m o as = .ok (d, m') → (∀ W' H' v, W.le W' → Sim K cl W' m' H' → Rp K cl W' d v → Q v H') → r v vs H Q
/-- the built-in type of a method's receiver -/
def mtT : Mt → String
  | .get => "dict"
  | _ => "list"
theorem mtOk_rel {q : Mt} {W : Wd} {m : Mem} {H : Hp} {o : D} {v : V} {u : Unit} (s : Sim X.K cl W m H) (r : Rp X.K cl W o v) (h : mtOk q m o = .ok u) : tyV X.K (mtT q) v H := by
  have lst : (match view m o with
    | some ⟨.lst, _⟩ => R.ok ()
    | _ => .bad) = .ok u → tyV X.K "list" v H := fun h => by
    split at h
    · rename_i ds hv
      obtain ⟨a, xs, rfl, ha, _⟩ := s.view r hv
      exact .inl ⟨rfl, xs, SqL.of ha⟩
    · cases h
  cases q with
  | get =>
    simp only [mtOk] at h
    split at h
    · rename_i ks ds hv
      obtain ⟨a, xs, rfl, ha, _⟩ := s.view r hv
      exact .inr (.inr (.inl ⟨rfl, .inl ⟨_, ha.2⟩⟩))
    · cases h
  | append => exact lst h
  | extend => exact lst h
  | insert => exact lst h
  | pop => exact lst h
  | remove => exact lst h
  | clear => exact lst h
  | index => exact lst h
  | count => exact lst h
  | join => exact lst h
  | split => exact lst h
  | update => exact lst h
  | setdefault => exact lst h
  | reverse => exact lst h
theorem se_mt {q : Mt} {name : Str} {id : String} {r : V → List V → Hp → VK → Prop} {o e : Expr} {es : List Expr} {o' : E} {es' : List E} {apos cpos : Pos} (pa : PlainAttrs (mtT q)) (slot : Slot (mtT q) name id) (hty : typeOf (.builtin id) = pure (.type "method_descriptor"))
    (hm : MtR X id r) (hs : MtS X.K cl q r) (ho : SE X cl cal o o') (ha : SEs X cl cal (e :: es) es') (hbase : attributeBase o name X.env (eval o X.env) = eval o X.env)
    (hfew : ((backTo cpos (starEach (e :: es) X.env)).all (fun x => !x.1) && (backToKw cpos (keywordEach [] X.env)).all (fun x => x.1.isSome)
      && decide ((e :: es).length + ([] : List Keyword).length + (if ([] : List Keyword).isEmpty then 0 else 1) < 30)) = true)
    (hline : (apos.endLine == cpos.line) = true) (hst : starEach (e :: es) X.env = (false, eval e X.env) :: starEach es X.env) (hplain : (backTo cpos (starEach es X.env)).any (·.1) = false) :
    SE X cl cal (.Call (.Attribute o name apos) (e :: es) [] cpos) (.mt q o' es') := by
  refine (pe_bm pa slot hty hm ho ha hbase hfew hline hst hplain).imp fun σ H Q h => ?_
  obtain ⟨W, ρ, m, d, m', s, rr, e, qq⟩ := h
  unfold evE at e
  obtain ⟨x, e1, e⟩ := bind_ok e
  obtain ⟨u, e2, e⟩ := bind_ok e
  obtain ⟨y, e3, e⟩ := bind_ok e
  exact rE1 s rr e1 fun W' H' v l s' r1 => ⟨mtOk_rel s' r1 e2, W', ρ, x.2, y.1, y.2, s', rr.up l, e3, fun W2 H2 vs l2 s2 r2 => hs W2 _ _ H2 _ _ _ v vs Q s2 (r1.up l2) r2 e fun W3 H3 w l3 s3 r3 => qq W3 H3 w ((l.trans l2).trans l3) s3 r3⟩
theorem se_mt0 {q : Mt} {name : Str} {id : String} {r : V → List V → Hp → VK → Prop} {o : Expr} {o' : E} {apos cpos : Pos} (pa : PlainAttrs (mtT q)) (slot : Slot (mtT q) name id) (hty : typeOf (.builtin id) = pure (.type "method_descriptor"))
    (hm : MtR X id r) (hs : MtS X.K cl q r) (ho : SE X cl cal o o') (hbase : attributeBase o name X.env (eval o X.env) = eval o X.env) (hline : (apos.endLine == cpos.line) = true) :
    SE X cl cal (.Call (.Attribute o name apos) [] [] cpos) (.mt q o' []) := by
  refine (pe_bm0 pa slot hty hm ho hbase hline).imp fun σ H Q h => ?_
  obtain ⟨W, ρ, m, d, m', s, rr, e, qq⟩ := h
  unfold evE at e
  obtain ⟨x, e1, e⟩ := bind_ok e
  obtain ⟨u, e2, e⟩ := bind_ok e
  obtain ⟨y, e3, e⟩ := bind_ok e
  unfold evEs at e3
  cases e3
  exact rE1 s rr e1 fun W' H' v l s' r1 => ⟨mtOk_rel s' r1 e2, hs W' _ _ H' _ _ _ v [] Q s' r1 Rps.nil e fun W3 H3 w l3 s3 r3 => qq W3 H3 w (l.trans l3) s3 r3⟩
/-! get -/
def rGetA : V → List V → Hp → VK → Prop := fun x xs H Q => ∃ a, x = .ref a ∧ ((∃ y o, xs = [y] ∧ DGet H a y o ∧ Q (o.getD .non) H) ∨ ∃ y z o, xs = [y, z] ∧ DGet H a y o ∧ Q (o.getD z) H)
theorem mtr_get (hu : X.A.units + 1 < cLine) : MtR X "dict.get" rGetA := by
  intro pins s σ H x xs v us Q I rx rxs h
  obtain ⟨a, rfl, h⟩ := h
  obtain rfl : v = Value.ref a := rx
  rcases h with ⟨y, o, rfl, g, q⟩ | ⟨y, z, o, rfl, g, q⟩
  · obtain ⟨u, rfl, ru⟩ := vals1 rxs
    exact d_get1 hu I g ru fun w' s' I' r' => ⟨_, H, I', r', q⟩
  · obtain ⟨u, u2, rfl, ru, ru2⟩ := vals2 rxs
    exact d_get2 hu I g ru ru2 fun w' s' I' r' => ⟨_, H, I', r', q⟩
theorem getD_rel {W : Wd} {ks : List Key} {ds : List D} {xs : List V} {k : Key} {z : D} {zv : V} (hl : ks.length = xs.length) (r : Rps X.K cl W ds xs) (hz : Rp X.K cl W z zv) : Rp X.K cl W ((kget k ks ds).getD z) ((valV (ks.zip xs) k).getD zv) := by
  obtain ⟨h1, h2⟩ := valV_zip k hl r
  cases e : kget k ks ds with
  | none => rw [h2 e]; exact hz
  | some d =>
    obtain ⟨v, e1, e2⟩ := h1 d e
    rw [e1]
    exact e2
theorem mts_get : MtS X.K cl .get rGetA := by
  intro W m m' H o d as v vs Q s ro ra h q
  replace h : asV m (mtGet m o as) = .ok (d, m') := h
  obtain ⟨x, h, e⟩ := bind_ok h
  cases e
  unfold mtGet at h
  split at h
  · split at h
    · rename_i ks ds hv
      split at h
      · rename_i k hk
        cases h
        obtain ⟨a, xs, rfl, ⟨hl, ha⟩, rs⟩ := s.view ro hv
        obtain ⟨y, rfl, ry⟩ := rps1 ra
        exact ⟨a, rfl, .inl ⟨y, _, rfl, .inl ⟨_, k, .inl ha, kV_of hk ry, rfl⟩, q W H _ (.refl W) s (getD_rel hl rs .of_non)⟩⟩
      · cases h
    · cases h
  · split at h
    · rename_i ks ds hv
      split at h
      · rename_i k hk
        cases h
        obtain ⟨a, xs, rfl, ⟨hl, ha⟩, rs⟩ := s.view ro hv
        obtain ⟨y, z, rfl, ry, rz⟩ := rps2 ra
        exact ⟨a, rfl, .inr ⟨y, z, _, rfl, .inl ⟨_, k, .inl ha, kV_of hk ry, rfl⟩, q W H _ (.refl W) s (getD_rel hl rs rz)⟩⟩
      · cases h
    · cases h
  · cases h
/-! lists -/
theorem mts_lst {q : Mt} {r : V → List V → Hp → VK → Prop} (hq : q ≠ .get) (h : ∀ (W : Wd) (m : Mem) (H : Hp) (n : Nat) (ds as : List D) (c : D × List D) (a : Addr) (xs vs : List V) (Q : VK), Sim X.K cl W m H → m[n]? = some ⟨.lst, ds⟩ → H a = some (.lst xs) → Rps X.K cl W ds xs → Rps X.K cl W as vs → Rp X.K cl W (.loc n) (.ref a) →
      mtLst q m (.loc n) ds as = .ok c → (∀ v ys, Rp X.K cl W c.1 v → Rps X.K cl W c.2 ys → Q v (upd H a (.lst ys))) → r (.ref a) vs H Q) : MtS X.K cl q r := by
  intro W m m' H o d as v vs Q s ro ra e qq
  have key : ∀ n, o = .loc n → (match m[n]? with
      | some ⟨.lst, ds⟩ => (mtLst q m o ds as).bind fun r => .ok (r.1, m.set n ⟨.lst, r.2⟩)
      | _ => .bad) = .ok (d, m') → r v vs H Q := fun n eo e => by
    subst eo
    split at e
    · rename_i ds hn
      obtain ⟨c, e1, e2⟩ := bind_ok e
      cases e2
      obtain ⟨a, xs, rfl, ha, ca, rs⟩ := s.cellAt ro hn
      refine h W m H n ds as c a xs vs Q s hn ca rs ra ro e1 fun v ys rv ry => ?_
      exact qq W _ v (.refl W) (s.write (c' := ⟨.lst, c.2⟩) (xs := ys) hn ha upd_same ry) rv
    · cases e
  cases o with
  | loc n => cases q <;> first | exact absurd rfl hq | exact key n rfl e
  | non => cases q <;> first | exact absurd rfl hq | cases e
  | bl _ => cases q <;> first | exact absurd rfl hq | cases e
  | int _ => cases q <;> first | exact absurd rfl hq | cases e
  | str _ => cases q <;> first | exact absurd rfl hq | cases e
  | nd _ _ _ => cases q <;> first | exact absurd rfl hq | cases e
theorem mts_append : MtS X.K cl .append rAppend := by
  refine mts_lst (by decide) fun W m H n ds as c a xs vs Q s hn ha rs ra ro h q => ?_
  simp only [mtLst] at h
  split at h
  · obtain ⟨hl, h⟩ := if_ok h rfl
    cases h
    obtain ⟨y, rfl, ry⟩ := rps1 ra
    exact ⟨a, xs, y, rfl, rfl, ha, by rw [← rs.length]; exact hl, q _ _ .of_non (rs.append (Rps.cons ry Rps.nil))⟩
  · cases h
theorem mts_extend : MtS X.K cl .extend rExtend := by
  refine mts_lst (by decide) fun W m H n ds as c a xs vs Q s hn ha rs ra ro h q => ?_
  simp only [mtLst] at h
  split at h
  · obtain ⟨es, h1, h⟩ := bind_ok h
    obtain ⟨hl, h⟩ := if_ok h rfl
    cases h
    obtain ⟨y, rfl, ry⟩ := rps1 ra
    obtain ⟨b, zs, rfl, hb, rb⟩ := itemsL_rel s ry h1
    exact ⟨a, b, xs, zs, rfl, rfl, ha, hb, by rw [← rs.length, ← rb.length]; exact hl, q _ _ .of_non (rs.append rb)⟩
  · cases h
abbrev rInsA : V → List V → Hp → VK → Prop := fun x vs H Q => ∃ (l : Addr) (xs : List V) (i : Int) (y : V), x = .ref l ∧ vs = [.int i, y] ∧ H l = some (.lst xs) ∧ xs.length < sizeLine ∧ 0 ≤ i ∧ i < 2 ^ 63 ∧ Q .non (upd H l (.lst (xs.take i.toNat ++ [y] ++ xs.drop i.toNat)))
theorem mts_insert : MtS X.K cl .insert rInsA := by
  refine mts_lst (by decide) fun W m H n ds as c a xs vs Q s hn ha rs ra ro h q => ?_
  simp only [mtLst] at h
  split at h
  · rename_i i x
    obtain ⟨hl, h⟩ := if_ok h rfl
    cases h
    obtain ⟨iv, y, rfl, ri, ry⟩ := rps2 ra
    cases ri.int_inv
    obtain ⟨h0, hl⟩ := hl
    subst h0
    exact ⟨a, xs, 0, y, rfl, rfl, ha, by rw [← rs.length]; exact hl, by decide, by decide, q _ _ .of_non (Rps.cons ry (by simpa using rs))⟩
  · cases h
theorem mts_clear : MtS X.K cl .clear rClear := by
  refine mts_lst (by decide) fun W m H n ds as c a xs vs Q s hn ha rs ra ro h q => ?_
  simp only [mtLst] at h
  split at h
  · cases h
    unfold Rps at ra
    subst ra
    exact ⟨a, xs, rfl, rfl, ha, q _ _ .of_non Rps.nil⟩
  · cases h
theorem mts_reverse : MtS X.K cl .reverse rReverse := by
  refine mts_lst (by decide) fun W m H n ds as c a xs vs Q s hn ha rs ra ro h q => ?_
  simp only [mtLst] at h
  split at h
  · cases h
    unfold Rps at ra
    subst ra
    exact ⟨a, xs, rfl, rfl, ha, q _ _ .of_non rs.reverse⟩
  · cases h
abbrev rPopA : V → List V → Hp → VK → Prop := fun x vs H Q => rPop x vs H Q ∨ rPopAt x vs H Q
theorem mtr_pop : MtR X "list.pop" rPopA := MtR.or (show MtR X "list.pop" rPop from mt_pop) (show MtR X "list.pop" rPopAt from mt_popAt)
theorem mts_pop : MtS X.K cl .pop rPopA := by
  refine mts_lst (by decide) fun W m H n ds as c a xs vs Q s hn ha rs ra ro h q => ?_
  simp only [mtLst] at h
  split at h
  · obtain ⟨h0, h⟩ := if_ok h rfl
    split at h
    · rename_i d r
      cases h
      obtain ⟨iv, rfl, ri⟩ := rps1 ra
      cases ri.int_inv
      subst h0
      unfold Rps at rs
      obtain ⟨x, xs', rfl, r1, r2⟩ := rs
      exact .inr ⟨a, _, 0, 0, x, rfl, rfl, ha, by decide, by decide, by simp [seqIndex?], rfl, q _ _ r1 (by simpa using r2)⟩
    · cases h
  · split at h
    · rename_i d hd
      cases h
      unfold Rps at ra
      subst ra
      have hd' : ds[ds.length - 1]? = some d := by rw [← List.getLast?_eq_getElem?]; exact hd
      obtain ⟨v, h1, h2⟩ := rs.get hd'
      rw [rs.length] at h1
      refine .inl ⟨a, xs, v, rfl, rfl, ha, h1, q _ _ h2 ?_⟩
      rw [List.dropLast_eq_take, List.dropLast_eq_take, rs.length]
      exact rs.take _
    · cases h
  · cases h
end
end Mi
end
section
set_option linter.all false
set_option Elab.async false
set_option maxRecDepth 100000
set_option maxHeartbeats 2000000
/-! Mi7: targets, walks, statements. -/
namespace Mi
open PySem PySem.Spec PyProof.Rows L2
mutual
/-- the names that a target sets -/
def tvs : T → List Nat
  | .var i => [i]
  | .tup ts => tvss ts
  | .star ts j => tvss ts ++ [j]
  | .idx _ _ => []
  | .fld _ _ => []
def tvss : List T → List Nat
  | [] => []
  | t :: ts => tvs t ++ tvss ts
end
/-- alike but for some names -/
def SameO (vs : List Nat) (σ σ' : L2.St) : Prop := σ'.length = σ.length ∧ ∀ j, j ∉ vs → σ'[j]? = σ[j]?
theorem SameO.refl {vs : List Nat} {σ : L2.St} : SameO vs σ σ := ⟨rfl, fun _ _ => rfl⟩
theorem SameO.app {vs us : List Nat} {σ σ1 σ2 : L2.St} (a : SameO vs σ σ1) (b : SameO us σ1 σ2) : SameO (vs ++ us) σ σ2 := ⟨b.1.trans a.1, fun j h => by
  rw [List.mem_append, not_or] at h
  rw [b.2 j h.2, a.2 j h.1]⟩
/-- a target's reading -/
def rG (K : PySem.W.Frag) (cl : ClA) (cal : Cal) (t : T) : TG := fun v σ H Q =>
  ∃ W ρ m d ρ' m', Sim K cl W m H ∧ REnv K cl W ρ σ ∧ Rp K cl W d v ∧ asgn cal t d ρ m = .ok (ρ', m') ∧ ∀ W' σ' H', W.le W' → Sim K cl W' m' H' → REnv K cl W' ρ' σ' → SameO (tvs t) σ σ' → Q σ' H'
def rGs (K : PySem.W.Frag) (cl : ClA) (cal : Cal) (ts : List T) : TGs := fun vs σ H Q =>
  ∃ W ρ m ds ρ' m', Sim K cl W m H ∧ REnv K cl W ρ σ ∧ Rps K cl W ds vs ∧ asgns cal ts ds ρ m = .ok (ρ', m') ∧ ∀ W' σ' H', W.le W' → Sim K cl W' m' H' → REnv K cl W' ρ' σ' → SameO (tvss ts) σ σ' → Q σ' H'
/-- how a statement's end is wanted -/
def FlOk (K : PySem.W.Frag) (cl : ClA) (W : Wd) (D : Ends) (m' : Mem) : Fl → Prop
  | .nx ρ' => ∀ W' σ' H', W.le W' → Sim K cl W' m' H' → REnv K cl W' ρ' σ' → D.nx σ' H'
  | .rt d => ∀ W' H' v, W.le W' → Sim K cl W' m' H' → Rp K cl W' d v → D.rt v H'
def rS (K : PySem.W.Frag) (cl : ClA) (cal : Cal) (s : S) : TS := fun D σ H => ∃ W ρ m fl m', Sim K cl W m H ∧ REnv K cl W ρ σ ∧ evS cal s ρ m = .ok (fl, m') ∧ FlOk K cl W D m' fl
def rSs (K : PySem.W.Frag) (cl : ClA) (cal : Cal) (ss : List S) : TS := fun D σ H => ∃ W ρ m fl m', Sim K cl W m H ∧ REnv K cl W ρ σ ∧ evSs cal ss ρ m = .ok (fl, m') ∧ FlOk K cl W D m' fl
/-! ### walks -/
def srcGet (src : Src) (m : Mem) (i : Nat) : Option D := match src with
  | .st ds => ds[i]?
  | .cell n w => (lstAt m n).bind fun ds => ds[i]?.map (wrapI w i)
def srcEnd (src : Src) (m : Mem) (i : Nat) : Prop := match src with
  | .st ds => i = ds.length
  | .cell n _ => ∃ ds, lstAt m n = some ds ∧ ds.length = i
/-- a walked thing of the heap yields what the source tells -/
def ItOk (K : PySem.W.Frag) (cl : ClA) (J : It) (W0 : Wd) (src : Src) : Prop := ∀ (W : Wd) (m : Mem) (H : Hp) (i : Nat), W0.le0 W → Sim K cl W m H →
  (∀ d, srcGet src m i = some d → J.go i H ∧ ∀ x H', J.yld i H x H' → ∃ W', W.le W' ∧ Sim K cl W' m H' ∧ Rp K cl W' d x) ∧ (srcEnd src m i → J.stop i H)
def rI (K : PySem.W.Frag) (cl : ClA) (cal : Cal) (it : I) : TI := fun σ H Z => ∃ W ρ m src m', Sim K cl W m H ∧ REnv K cl W ρ σ ∧ evI cal it ρ m = .ok (src, m') ∧ ∀ W' H' J, W.le W' → Sim K cl W' m' H' → ItOk K cl J W' src → Z J H'
section
variable {X : Cx} {cl : ClA} {cal : Cal} {a b c : Expr} {a' b' c' : E} {pos : Pos} {tg : Expr}
theorem _root_.L2.PI.imp {iter : Expr} {t t' : TI} (h : PI X tg iter t) (hi : ∀ σ H Z, t' σ H Z → t σ H Z) : PI X tg iter t' := ⟨fun pins s σ H Z I q => h.run pins s σ H Z I (hi σ H Z q)⟩
abbrev SI (X : Cx) (cl : ClA) (cal : Cal) (tg iter : Expr) (it : I) : Prop := PI X tg iter (rI X.K cl cal it)
abbrev SG (X : Cx) (cl : ClA) (cal : Cal) (tg : Expr) (t : T) : Prop := PG X tg (rG X.K cl cal t)
abbrev SGs (X : Cx) (cl : ClA) (cal : Cal) (tgs : List Expr) (ts : List T) : Prop := PGs X tgs (rGs X.K cl cal ts)
abbrev SS (X : Cx) (cl : ClA) (cal : Cal) (st : Stmt) (s : S) : Prop := PS X st (rS X.K cl cal s)
abbrev SSs (X : Cx) (cl : ClA) (cal : Cal) (st : List Stmt) (s : List S) : Prop := PSs X st (rSs X.K cl cal s)
/-! targets -/
theorem sg_var {i : Nat} {x : Str} (hN : X.N.Nodup) (hi : X.N[i]? = some x) (hx : Loc X.env.scope x) (hf : X.fn x = true ∨ X.env.scope.names.lookup x = some .local) : SG X cl cal (.Name x pos) (.var i) := by
  refine (pg_name hN hi hx hf).imp fun v σ H Q h => ?_
  obtain ⟨W, ρ, m, d, ρ', m', s, rr, rd, e, q⟩ := h
  unfold asgn at e
  cases e
  refine q W _ H (.refl W) s (rr.set rd) ⟨by simp, fun j hj => ?_⟩
  unfold tvs at hj
  rw [List.getElem?_set_ne (fun z => hj (by simp [z]))]
theorem sgs_nil : SGs X cl cal [] [] := by
  refine ⟨fun pins s σ H vs us Q I r h => ?_⟩
  obtain ⟨W, ρ, m, ds, ρ', m', sm, rr, rd, e, q⟩ := h
  cases ds with
  | nil =>
    unfold asgns at e
    cases e
    unfold Rps at rd
    subst rd
    exact pgs_nil.run pins s σ H [] us Q I r ⟨rfl, q W σ H (.refl W) sm rr .refl⟩
  | cons d ds => unfold asgns at e; cases e
theorem _root_.L2.PGs.imp {ts : List Expr} {t t' : TGs} (h : PGs X ts t) (hi : ∀ vs σ H Q, t' vs σ H Q → t vs σ H Q) : PGs X ts t' := ⟨fun pins s σ H v u Q I r q => h.run pins s σ H v u Q I r (hi v σ H Q q)⟩
theorem sgs_cons {e : Expr} {es : List Expr} {t : T} {ts : List T} (h1 : SG X cl cal e t) (h2 : SGs X cl cal es ts) (hs : (assignEach (e :: es) X.env).map (·.2) = assign e X.env :: (assignEach es X.env).map (·.2)) : SGs X cl cal (e :: es) (t :: ts) := by
  refine (pgs_cons h1 h2 hs).imp fun vs σ H Q h => ?_
  obtain ⟨W, ρ, m, ds, ρ', m', s, rr, rd, e, q⟩ := h
  cases ds with
  | nil => unfold asgns at e; cases e
  | cons d ds =>
    unfold asgns at e
    obtain ⟨x, e1, e2⟩ := bind_ok e
    unfold Rps at rd
    obtain ⟨v, vs', rfl, r1, r2⟩ := rd
    exact ⟨v, vs', rfl, W, ρ, m, d, x.1, x.2, s, rr, r1, e1, fun W' σ' H' l s' rr' so => ⟨W', x.1, x.2, ds, ρ', m', s', rr', r2.up l, e2, fun W2 σ2 H2 l2 s2 rr2 so2 => q W2 σ2 H2 (l.trans l2) s2 rr2 (by unfold tvss; exact so.app so2)⟩⟩
theorem asgns_length : ∀ {ts : List T} {ds : List D} {ρ : Env} {m : Mem} {x : Env × Mem}, asgns cal ts ds ρ m = .ok x → ts.length = ds.length
  | [], [], _, _, _, _ => rfl
  | [], _ :: _, _, _, _, e => by unfold asgns at e; cases e
  | _ :: _, [], _, _, _, e => by unfold asgns at e; cases e
  | t :: ts, d :: ds, _, _, _, e => by
    unfold asgns at e
    obtain ⟨x, _, e2⟩ := bind_ok e
    simp [asgns_length e2]
theorem sg_tup {es : List Expr} {k : Nat} {ts : List T} (hc : X.calm = true) (h : SGs X cl cal es ts) (hn : (assignEach es X.env).length = ts.length) (hst : (assignEach es X.env).findIdx? (·.1) = none) : SG X cl cal (.Tuple es k pos) (.tup ts) := by
  refine (pg_tup (n := ts.length) hc h hn hst).imp fun v σ H Q h => ?_
  obtain ⟨W, ρ, m, d, ρ', m', s, rr, rd, e, q⟩ := h
  unfold asgn at e
  split at e
  · rename_i ds hd
    have hv := tupOf_view (m := m) hd
    obtain ⟨p, xs, rfl, hp, rs⟩ := s.view rd hv
    exact ⟨p, xs, rfl, hp, by rw [← rs.length, asgns_length e], W, ρ, m, ds, ρ', m', s, rr, rs, e, fun W2 σ2 H2 l2 s2 r2 so => q W2 σ2 H2 l2 s2 r2 (by unfold tvs; exact so)⟩
  · cases e
/-- o[i] = v of lists and dicts -/
abbrev rSetD : TSet := fun o i v H Q => ∃ a H', o = .ref a ∧ DPut H a i v H' ∧ Q H'
abbrev rSetA : TSet := fun o i v H Q => rSetL o i v H Q ∨ rSetD o i v H Q
theorem set_all (hu : X.A.units + 1 < cLine) : PSet X rSetA := by
  intro pins s σ H o i v ov iv u Q I ro ri rv h
  rcases h with h | ⟨a, H', rfl, g, q⟩
  · exact set_list pins s σ H o i v ov iv u Q I ro ri rv h
  · obtain rfl : ov = Value.ref a := ro
    exact d_setItem hu I g ri rv fun s' I' => ⟨H', I', q⟩
theorem setD_ok {W : Wd} {m m' : Mem} {H : Hp} {o i d : D} {ov iv v : V} {Q : Hp → Prop} (s : Sim X.K cl W m H) (ro : Rp X.K cl W o ov) (ri : Rp X.K cl W i iv) (rv : Rp X.K cl W d v) (h : setD m o i d = .ok m') (q : ∀ H', Sim X.K cl W m' H' → Q H') : rSetA ov iv v H Q := by
  unfold setD at h
  split at h
  · rename_i n
    split at h
    · rename_i ds hn
      split at h
      · split at h
        · rename_i j hj
          cases h
          obtain ⟨a, xs, rfl, ha, ca, rs⟩ := s.cellAt ro hn
          cases ri.int_inv
          exact .inl ⟨a, xs, _, j, rfl, rfl, ca, by rw [← rs.length]; exact hj, q _ (s.write (c' := ⟨.lst, ds.set j d⟩) (xs := xs.set j v) hn ha upd_same (rs.set rv j))⟩
        · cases h
      · cases h
    · rename_i ks ds hn
      split at h
      · rename_i k hk
        obtain ⟨hl, h⟩ := if_ok h rfl
        cases h
        obtain ⟨a, xs, rfl, ha, ⟨hx, ca⟩, rs⟩ := s.cellAt ro hn
        obtain ⟨ys, h1, h2, h3⟩ := kput_rel k hx rv rs
        refine .inr ⟨a, _, rfl, .inl ⟨_, k, ca, kV_of hk ri, ?_, rfl⟩, ?_⟩
        · rw [List.length_zip, ← hx, Nat.min_self]; exact hl
        · rw [h2]
          exact q _ (s.write (c' := ⟨.dK (kput k d ks ds).1, (kput k d ks ds).2⟩) (xs := ys) hn ha ⟨h1, upd_same⟩ h3)
      · cases h
    · cases h
  · cases h
theorem sg_idx (hu : X.A.units + 1 < cLine) (ho : SE X cl cal a a') (hi : SE X cl cal b b')
    (ha : ∀ v, assign (.Subscript a b pos) X.env v = (do
      let ov ← holding [v] (eval a X.env)
      let iv ← holding [v, ov] (eval b X.env)
      standAt pos
      holding [v, ov, iv] (setItem ov iv v)
      release [v, ov, iv] [])) : SG X cl cal (.Subscript a b pos) (.idx a' b') := by
  refine (pg_sub ho hi (set_all hu) ha).imp fun v σ H Q h => ?_
  obtain ⟨W, ρ, m, d, ρ', m', s, rr, rd, e, q⟩ := h
  unfold asgn at e
  obtain ⟨x, e1, e⟩ := bind_ok e
  obtain ⟨y, e2, e⟩ := bind_ok e
  obtain ⟨z, e3, e⟩ := bind_ok e
  cases e
  exact rE2 s rr e1 e2 fun W' H' o i l s' ro ri => setD_ok s' ro ri (rd.up l) e3 fun H2 s2 => q W' σ H2 l s2 (rr.up l) .refl
/-! what is walked -/
theorem it_list {W0 : Wd} {p : Addr} {xs : List V} {ds : List D} (h : W0.F p = some (.lst xs) ∨ W0.B p = some (.lst xs)) (r : Rps X.K cl W0 ds xs) : ItOk X.K cl (Itl X.K p) W0 (.st ds) := by
  intro W m H i l s
  have hp : H p = some (.lst xs) := by
    rcases h with h | h
    · exact s.F _ _ (l.F _ _ h)
    · exact s.B _ _ (by rw [l.B]; exact h)
  refine ⟨fun d hd => ?_, fun he => ⟨xs, SqL.of hp, ?_⟩⟩
  · obtain ⟨v, h1, h2⟩ := r.get hd
    refine ⟨⟨xs, v, SqL.of hp, h1⟩, fun x H' hy => ?_⟩
    obtain ⟨rfl, hy⟩ := hy
    have e := (hy xs (SqL.of hp)).symm.trans h1
    cases e
    exact ⟨W, .refl W, s, h2.up0 l⟩
  · rw [← r.length]; exact Nat.le_of_eq (Eq.symm he)
theorem it_scr {W0 : Wd} {p : Addr} {xs : List V} {ds : List D} {o : Bool} (h : SqL X.K (if o then W0.F else W0.B) p xs) (r : Rps X.K cl W0 ds xs) : ItOk X.K cl (Itl X.K p) W0 (.st ds) := by
  intro W m H i l s
  have hp : SqL X.K H p xs := SqL.up (fun b u e => by
    cases o with
    | true => exact s.F _ _ (l.F _ _ e)
    | false => exact s.B _ _ (by rw [l.B]; exact e)) h
  refine ⟨fun d hd => ?_, fun he => ⟨xs, hp, ?_⟩⟩
  · obtain ⟨v, h1, h2⟩ := r.get hd
    refine ⟨⟨xs, v, hp, h1⟩, fun x H' hy => ?_⟩
    obtain ⟨rfl, hy⟩ := hy
    have e := (hy xs hp).symm.trans h1
    cases e
    exact ⟨W, .refl W, s, h2.up0 l⟩
  · rw [← r.length]; exact Nat.le_of_eq (Eq.symm he)
theorem it_tup {W0 : Wd} {p : Addr} {xs : List V} {ds : List D} {o : Bool} (h : SqT X.K (if o then W0.F else W0.B) p xs) (r : Rps X.K cl W0 ds xs) : ItOk X.K cl (Itt X.K p) W0 (.st ds) := by
  intro W m H i l s
  have hp : SqT X.K H p xs := SqT.up (fun b u e => by
    cases o with
    | true => exact s.F _ _ (l.F _ _ e)
    | false => exact s.B _ _ (by rw [l.B]; exact e)) h
  refine ⟨fun d hd => ?_, fun he => ⟨xs, hp, ?_⟩⟩
  · obtain ⟨v, h1, h2⟩ := r.get hd
    refine ⟨⟨xs, v, hp, h1⟩, fun x H' hy => ?_⟩
    obtain ⟨rfl, hy⟩ := hy
    have e := (hy xs hp).symm.trans h1
    cases e
    exact ⟨W, .refl W, s, h2.up0 l⟩
  · rw [← r.length]; exact Nat.le_of_eq (Eq.symm he)
theorem it_cell {W0 : Wd} {n : Nat} {p : Addr} (h : W0.io n = some p) : ItOk X.K cl (Itl X.K p) W0 (.cell n false) := by
  intro W m H i l s
  have key : ∀ ds, lstAt m n = some ds → ∃ xs, H p = some (.lst xs) ∧ Rps X.K cl W ds xs := fun ds e => by
    unfold lstAt at e
    split at e
    · rename_i es hn
      cases e
      obtain ⟨a, xs, e1, _, _, ca, rs⟩ := s.cell n _ hn
      rw [l.io _ _ h] at e1; cases e1
      exact ⟨xs, ca, rs⟩
    · cases e
  refine ⟨fun d hd => ?_, fun he => ?_⟩
  · obtain ⟨ds, e1, e2⟩ := Option.bind_eq_some_iff.mp hd
    obtain ⟨d', e3, e4⟩ := Option.map_eq_some_iff.mp e2
    have e4 : d' = d := e4
    subst e4
    obtain ⟨xs, hp, rs⟩ := key ds e1
    obtain ⟨v, h1, h2⟩ := rs.get e3
    refine ⟨⟨xs, v, SqL.of hp, h1⟩, fun x H' hy => ?_⟩
    obtain ⟨rfl, hy⟩ := hy
    have e := (hy xs (SqL.of hp)).symm.trans h1
    cases e
    exact ⟨W, .refl W, s, h2⟩
  · obtain ⟨ds, e1, e2⟩ := he
    obtain ⟨xs, hp, rs⟩ := key ds e1
    exact ⟨xs, SqL.of hp, by rw [← rs.length]; exact Nat.le_of_eq e2⟩
theorem it_rng {W0 : Wd} {lo hi : Int} : ItOk X.K cl (Itr lo (hi - lo).toNat) W0 (.st (rngD lo hi)) := by
  intro W m H i l s
  refine ⟨fun d hd => ?_, fun he => ?_⟩
  · have hd : ((List.range (hi - lo).toNat).map fun (i : Nat) => D.int (lo + i))[i]? = some d := hd
    rw [List.getElem?_map] at hd
    obtain ⟨k, e1, e2⟩ := Option.map_eq_some_iff.mp hd
    have hk := List.getElem?_eq_some_iff.mp e1
    obtain ⟨hlt, hk⟩ := hk
    rw [List.getElem_range] at hk
    subst hk
    rw [List.length_range] at hlt
    refine ⟨hlt, fun x H' hy => ?_⟩
    obtain ⟨rfl, rfl⟩ := hy
    subst e2
    exact ⟨W, .refl W, s, .of_int⟩
  · have he : i = ((List.range (hi - lo).toNat).map fun (i : Nat) => D.int (lo + i)).length := he
    rw [List.length_map, List.length_range] at he
    exact Nat.le_of_eq he.symm
theorem it_str {W0 : Wd} {x : Str} : ItOk X.K cl (Its x) W0 (.st (x.cps.toList.map fun c => .str ⟨#[c]⟩)) := by
  intro W m H i l s
  refine ⟨fun d hd => ?_, fun he => ?_⟩
  · have hd : (x.cps.toList.map fun c => D.str ⟨#[c]⟩)[i]? = some d := hd
    rw [List.getElem?_map] at hd
    obtain ⟨k, e1, e2⟩ := Option.map_eq_some_iff.mp hd
    obtain ⟨hlt, _⟩ := List.getElem?_eq_some_iff.mp e1
    have hc : x.cps[i]? = some k := by simpa using e1
    refine ⟨show i < x.cps.size by simpa using hlt, fun v H' hy => ?_⟩
    obtain ⟨rfl, c, h1, rfl⟩ := hy
    rw [hc] at h1; cases h1
    subst e2
    exact ⟨W, .refl W, s, .of_str⟩
  · have he : i = (x.cps.toList.map fun c => D.str ⟨#[c]⟩).length := he
    rw [List.length_map] at he
    show x.cps.size ≤ i
    rw [he]
    simp

/-- list or tuple or text or the script, walked -/
theorem si_seq {iter : Expr} (h : SE X cl cal iter a') : SI X cl cal tg iter (.seq a') := by
  refine ⟨fun pins s σ H Z I h0 => ?_⟩
  obtain ⟨W, ρ, m, src, m', sm, rr, e, q⟩ := h0
  unfold evI at e
  obtain ⟨x, e1, e⟩ := bind_ok e
  obtain ⟨sr, e2, e⟩ := bind_ok e
  cases e
  have go : ∀ {wi : TI}, PI X tg iter wi → wi σ H Z → wpAny (model X.prog X.w) X.A (eval iter X.env) (fun v s1 => wpAny (model X.prog X.w) X.A (pyIter v) (PIE X pins σ tg Z) X.xe s1) X.xe s := fun hp hz => hp.run pins s σ H Z I hz
  unfold srcOf at e2
  split at e2
  · rename_i n hx
    split at e2
    · rename_i ds hn
      cases e2
      refine go (pi_list h) ⟨W, ρ, m, x.1, x.2, sm, rr, e1, fun W' H' v l s' r => ?_⟩
      rw [hx] at r
      obtain ⟨a, xs, rfl, ha, ca, rs⟩ := s'.cellAt r hn
      exact ⟨a, rfl, ⟨xs, SqL.of ca⟩, q W' H' _ l s' (it_cell ha)⟩
    · cases e2
  · rename_i o ds hx
    cases e2
    refine go (pi_tup h) ⟨W, ρ, m, x.1, x.2, sm, rr, e1, fun W' H' v l s' r => ?_⟩
    rw [hx] at r
    have r0 := r
    unfold Rp at r
    obtain ⟨a, xs, rfl, hp, rs⟩ := r
    obtain ⟨a2, xs2, e, hp2, _⟩ := s'.view r0 (c := ⟨.tup, ds⟩) rfl
    cases e
    exact ⟨a, rfl, ⟨xs2, hp2⟩, q W' H' _ l s' (it_tup hp rs)⟩
  · rename_i o ds hx
    cases e2
    refine go (pi_tup h) ⟨W, ρ, m, x.1, x.2, sm, rr, e1, fun W' H' v l s' r => ?_⟩
    rw [hx] at r
    have r0 := r
    unfold Rp at r
    obtain ⟨a, xs, rfl, hp, rs⟩ := r
    obtain ⟨a2, xs2, e, hp2, _⟩ := s'.view r0 (c := ⟨.tup, ds⟩) rfl
    cases e
    exact ⟨a, rfl, ⟨xs2, hp2⟩, q W' H' _ l s' (it_tup hp.sq rs)⟩
  · rename_i o ds hx
    cases e2
    refine go (pi_list h) ⟨W, ρ, m, x.1, x.2, sm, rr, e1, fun W' H' v l s' r => ?_⟩
    rw [hx] at r
    have r0 := r
    unfold Rp at r
    obtain ⟨a, xs, rfl, hp, rs⟩ := r
    obtain ⟨a2, xs2, e, hp2, _⟩ := s'.view r0 (c := ⟨.lst, ds⟩) rfl
    cases e
    refine ⟨a, rfl, ⟨xs2, SqL.of hp2⟩, q W' H' _ l s' (it_list ?_ rs)⟩
    cases o with
    | true => exact .inl hp
    | false => exact .inr hp
  · rename_i o ds hx
    cases e2
    refine go (pi_list h) ⟨W, ρ, m, x.1, x.2, sm, rr, e1, fun W' H' v l s' r => ?_⟩
    rw [hx] at r
    have r0 := r
    unfold Rp at r
    obtain ⟨a, xs, rfl, hp, rs⟩ := r
    obtain ⟨a2, xs2, e, hp2, _⟩ := s'.view r0 (c := ⟨.scr, ds⟩) rfl
    cases e
    exact ⟨a, rfl, ⟨xs2, hp2⟩, q W' H' _ l s' (it_scr hp rs)⟩
  · rename_i z hx
    cases e2
    refine go (pi_str h) ⟨W, ρ, m, x.1, x.2, sm, rr, e1, fun W' H' v l s' r => ?_⟩
    rw [hx] at r
    cases r.str_inv
    exact ⟨z, rfl, q W' H' _ l s' it_str⟩
  · cases e2
theorem small_ok {i : Int} (h : small i = true) : -(2 ^ 62) ≤ i ∧ i < 2 ^ 62 := by
  obtain ⟨h1, h2⟩ := Bool.and_eq_true_iff.mp h
  exact ⟨of_decide_eq_true h1, of_decide_eq_true h2⟩
theorem si_rng1 {p : Pos} (hg : Gl X "range") (hm : X.mg "range" = none) (ha : SEs X cl cal [a] [a']) (hs : starEach [a] X.env = [(false, eval a X.env)]) : SI X cl cal tg (.Call (.Name "range" p) [a] [] pos) (.rng1 a') := by
  refine (pi_range1 hg hm ha hs).imp fun σ H Z h => ?_
  obtain ⟨W, ρ, m, src, m', s, rr, e, q⟩ := h
  unfold evI at e
  obtain ⟨x, e1, e⟩ := bind_ok e
  obtain ⟨i, e2, e⟩ := bind_ok e
  obtain ⟨hl, e⟩ := if_ok e rfl
  cases e
  refine ⟨W, ρ, m, [x.1], x.2, s, rr, by unfold evEs; rw [e1]; simp [R.bind, evEs], fun W' H' vs l s' r => ?_⟩
  obtain ⟨v, rfl, rv⟩ := rps1 r
  obtain ⟨h1, h2⟩ := small_ok hl
  refine ⟨i, by rw [rp_i e2 rv], h1, h2, q W' H' _ l s' ?_⟩
  have := it_rng (X := X) (cl := cl) (W0 := W') (lo := 0) (hi := i)
  rwa [Int.sub_zero] at this
theorem si_rng2 {p : Pos} (hg : Gl X "range") (hm : X.mg "range" = none) (ha : SEs X cl cal [a, b] [a', b']) (hs : starEach [a, b] X.env = [(false, eval a X.env), (false, eval b X.env)]) (hs2 : starEach [b] X.env = [(false, eval b X.env)]) : SI X cl cal tg (.Call (.Name "range" p) [a, b] [] pos) (.rng2 a' b') := by
  refine (pi_range2 hg hm ha hs hs2).imp fun σ H Z h => ?_
  obtain ⟨W, ρ, m, src, m', s, rr, e, q⟩ := h
  unfold evI at e
  obtain ⟨x, e1, e⟩ := bind_ok e
  obtain ⟨i, e2, e⟩ := bind_ok e
  obtain ⟨y, e3, e⟩ := bind_ok e
  obtain ⟨j, e4, e⟩ := bind_ok e
  obtain ⟨hl, e⟩ := if_ok e rfl
  cases e
  refine ⟨W, ρ, m, [x.1, y.1], y.2, s, rr, by unfold evEs; rw [e1]; simp [R.bind, evEs, e3], fun W' H' vs l s' r => ?_⟩
  obtain ⟨v, u, rfl, rv, ru⟩ := rps2 r
  obtain ⟨hl1, hl2⟩ := Bool.and_eq_true_iff.mp hl
  obtain ⟨h1, h2⟩ := small_ok hl1
  obtain ⟨h3, h4⟩ := small_ok hl2
  exact ⟨i, j, by rw [rp_i e2 rv, rp_i e4 ru], ⟨h1, h2, h3, h4⟩, q W' H' _ l s' it_rng⟩
/-! ### statements -/
theorem FlOk.up {W W' : Wd} {D : Ends} {m : Mem} {fl : Fl} (h : FlOk X.K cl W D m fl) (l : W.le W') : FlOk X.K cl W' D m fl := by
  cases fl with
  | nx ρ => exact fun W2 σ H l2 s r => h W2 σ H (l.trans l2) s r
  | rt d => exact fun W2 H v l2 s r => h W2 H v (l.trans l2) s r
theorem sss_nil : SSs X cl cal [] [] := by
  refine pss_nil.imp fun D σ H h => ?_
  obtain ⟨W, ρ, m, fl, m', s, rr, e, q⟩ := h
  unfold evSs at e
  cases e
  exact q W σ H (.refl W) s rr
theorem sss_cons {st : Stmt} {sts : List Stmt} {s' : S} {ss' : List S} (h1 : SS X cl cal st s') (h2 : SSs X cl cal sts ss') : SSs X cl cal (st :: sts) (s' :: ss') := by
  refine (pss_cons h1 h2).imp fun D σ H h => ?_
  obtain ⟨W, ρ, m, fl, m', s, rr, e, q⟩ := h
  unfold evSs at e
  obtain ⟨x, e1, e⟩ := bind_ok e
  obtain ⟨fl1, m1⟩ := x
  refine ⟨W, ρ, m, fl1, m1, s, rr, e1, ?_⟩
  cases fl1 with
  | nx ρ1 => exact fun W1 σ1 H1 l1 s1 r1 => ⟨W1, ρ1, m1, fl, m', s1, r1, e, q.up l1⟩
  | rt d =>
    cases e
    exact q
theorem ss_exp (h : SE X cl cal a a') (hs : swapsWith a none pos.line X.env = pure false) : SS X cl cal (.Expr a pos) (.exp a') := by
  refine (ps_expr h hs).imp fun D σ H h => ?_
  obtain ⟨W, ρ, m, fl, m', s, rr, e, q⟩ := h
  unfold evS at e
  obtain ⟨x, e1, e⟩ := bind_ok e
  cases e
  exact rE1 s rr e1 fun W' H' v l s' r => q W' σ H' l s' (rr.up l)
theorem ss_ret (h : SE X cl cal a a') : SS X cl cal (.Return (some a) pos) (.ret a') := by
  refine (ps_ret h).imp fun D σ H h => ?_
  obtain ⟨W, ρ, m, fl, m', s, rr, e, q⟩ := h
  unfold evS at e
  obtain ⟨x, e1, e⟩ := bind_ok e
  cases e
  exact rE1 s rr e1 fun W' H' v l s' r => q W' H' v l s' r
theorem ss_retN : SS X cl cal (.Return none pos) .retN := by
  refine ps_retN.imp fun D σ H h => ?_
  obtain ⟨W, ρ, m, fl, m', s, rr, e, q⟩ := h
  unfold evS at e
  cases e
  exact q W H _ (.refl W) s .of_non
theorem ss_pas : SS X cl cal (.Pass pos) .pas := by
  refine ps_pass.imp fun D σ H h => ?_
  obtain ⟨W, ρ, m, fl, m', s, rr, e, q⟩ := h
  unfold evS at e
  cases e
  exact q W σ H (.refl W) s rr
theorem ss_never {st : Stmt} {C : Str} {es : List E} : SS X cl cal st (.rse C es) := by
  refine ps_never.imp fun D σ H h => ?_
  obtain ⟨W, ρ, m, fl, m', s, rr, e, q⟩ := h
  unfold evS at e
  obtain ⟨x, e1, e⟩ := bind_ok e
  cases e
theorem ss_ifs {A B : List Stmt} {A' B' : List S} (hc : ST X cl cal c c') (hA : SSs X cl cal A A') (hB : SSs X cl cal B B') : SS X cl cal (.If c A B pos) (.ifs c' A' B') := by
  refine (ps_if hc hA hB).imp fun D σ H h => ?_
  obtain ⟨W, ρ, m, fl, m', s, rr, e, q⟩ := h
  unfold evS at e
  obtain ⟨x, e1, e⟩ := bind_ok e
  obtain ⟨t, e2, e⟩ := bind_ok e
  obtain ⟨x1, x2⟩ := x
  have hx : x1 = .bl t := asB_eq e2
  subst hx
  refine ⟨W, ρ, m, t, x2, s, rr, e1, fun W' H' l s' => ?_⟩
  cases t with
  | true => exact ⟨W', ρ, x2, fl, m', s', rr.up l, e, q.up l⟩
  | false => exact ⟨W', ρ, x2, fl, m', s', rr.up l, e, q.up l⟩
theorem ss_asg {t : T} (h : SE X cl cal a a') (hg : SG X cl cal tg t) (hs : swapsWithSole [tg] a pos.line X.env = pure false) (hw : swappedStores [tg] a X.env = pure none) (h1 : (assignEach [tg] X.env).map (·.2) = [assign tg X.env]) : SS X cl cal (.Assign [tg] a pos) (.asg t a') := by
  refine (ps_asg h hg hs hw h1).imp fun D σ H h => ?_
  obtain ⟨W, ρ, m, fl, m', s, rr, e, q⟩ := h
  unfold evS at e
  obtain ⟨x, e1, e⟩ := bind_ok e
  obtain ⟨y, e2, e⟩ := bind_ok e
  cases e
  exact rE1 s rr e1 fun W' H' v l s' r => ⟨W', ρ, x.2, x.1, y.1, y.2, s', rr.up l, r, e2, fun W2 σ2 H2 l2 s2 r2 _ => q W2 σ2 H2 (l.trans l2) s2 r2⟩
theorem ss_set {i : Nat} {x : Str} {pos' : Pos} (hN : X.N.Nodup) (hi : X.N[i]? = some x) (hx : Loc X.env.scope x) (h : SE X cl cal a a') (hs : swapsWith a (some (.Name x pos')) pos.line X.env = pure false) (hf : X.fn x = true ∨ X.env.scope.names.lookup x = some .local) :
    SS X cl cal (.Assign [.Name x pos'] a pos) (.asg (.var i) a') := by
  refine (ps_set hN hi hx h hs hf).imp fun D σ H h => ?_
  obtain ⟨W, ρ, m, fl, m', s, rr, e, q⟩ := h
  unfold evS at e
  obtain ⟨x, e1, e⟩ := bind_ok e
  obtain ⟨y, e2, e⟩ := bind_ok e
  cases e
  unfold asgn at e2
  cases e2
  exact rE1 s rr e1 fun W' H' v l s' r => q W' _ H' l s' ((rr.up l).set r)
/-- o.f = v -/
theorem fput_rel {W : Wd} (f : Str) {d : D} {v : V} (hd : Rp X.K cl W d v) : ∀ {fs : List Str} {ds : List D} {xs : List V}, fs.length = xs.length → Rps X.K cl W ds xs →
    ∃ ys, (fput f d fs ds).1.length = ys.length ∧ putF f v (fs.zip xs) = (fput f d fs ds).1.zip ys ∧ Rps X.K cl W (fput f d fs ds).2 ys := by
  intro fs
  induction fs with
  | nil =>
    intro ds xs hl r
    cases xs with
    | cons x xs => cases hl
    | nil =>
      have e : fput f d [] ds = ([f], [d]) := by cases ds <;> rfl
      rw [e]
      exact ⟨[v], rfl, rfl, Rps.cons hd Rps.nil⟩
  | cons g fs ih =>
    intro ds xs hl r
    cases xs with
    | nil => cases hl
    | cons x xs =>
      have hl2 := r.length
      cases ds with
      | nil => cases hl2
      | cons e ds =>
        unfold Rps at r
        obtain ⟨w, ws, ee, r1, r2⟩ := r
        injection ee with e1 e2
        subst e1 e2
        unfold fput
        rw [List.zip_cons_cons]
        unfold putF
        by_cases hk : g = f
        · rw [if_pos hk, if_pos hk]
          exact ⟨v :: xs, by simpa using hl, rfl, Rps.cons hd r2⟩
        · rw [if_neg hk, if_neg hk]
          obtain ⟨ys, h1, h2, h3⟩ := ih (by simpa using hl) r2
          exact ⟨x :: ys, by simp [h1], by rw [h2]; rfl, Rps.cons r1 h3⟩
theorem setF_ok {FL : List Str} {f : Str} (co : ClOk X.K cl FL) (hf : f ∈ FL) {W : Wd} {m m' : Mem} {H : Hp} {o d : D} {ov v : V} (s : Sim X.K cl W m H) (ro : Rp X.K cl W o ov) (rv : Rp X.K cl W d v) (h : setF m o f d = .ok m') :
    ∃ a C dx fs, ov = .ref a ∧ H a = some (.ins C dx fs) ∧ Cls X.K C ∧ NoAttr X.K C f ∧ fs.length < 1000 ∧ Sim X.K cl W m' (upd H a (.ins C dx (putF f v fs))) := by
  unfold setF at h
  split at h
  · rename_i n
    split at h
    · rename_i C fs ds hn
      obtain ⟨hl, h⟩ := if_ok h rfl
      cases h
      obtain ⟨a, xs, rfl, ha, ⟨hx, c, dx, hc, ca⟩, rs⟩ := s.cellAt ro hn
      obtain ⟨ys, h1, h2, h3⟩ := fput_rel (X := X) f rv hx rs
      refine ⟨a, c, dx, _, rfl, ca, co.cls _ _ hc, co.noat _ _ _ hc hf, ?_, ?_⟩
      · rw [List.length_zip, ← hx, Nat.min_self]; exact hl
      · rw [h2]
        exact s.write (c' := ⟨.ins C (fput f d fs ds).1, (fput f d fs ds).2⟩) (xs := ys) hn ha ⟨h1, c, dx, hc, upd_same⟩ h3
    · cases h
  · cases h
theorem ss_fld {FL : List Str} {f : Str} {pos' : Pos} (co : ClOk X.K cl FL) (hf : f ∈ FL) (ho : SE X cl cal a a') (hv : SE X cl cal b b') (hs : swapsWith b (some (.Attribute a f pos')) pos.line X.env = pure false) : SS X cl cal (.Assign [.Attribute a f pos'] b pos) (.asg (.fld a' f) b') := by
  refine (ps_fld ho hv hs).imp fun D σ H h => ?_
  obtain ⟨W, ρ, m, fl, m', s, rr, e, q⟩ := h
  unfold evS at e
  obtain ⟨x, e1, e⟩ := bind_ok e
  obtain ⟨y, e2, e⟩ := bind_ok e
  cases e
  unfold asgn at e2
  obtain ⟨z, e3, e2⟩ := bind_ok e2
  obtain ⟨m2, e4, e2⟩ := bind_ok e2
  cases e2
  refine rE2 s rr e1 e3 fun W' H' v o l s' rv ro => ?_
  obtain ⟨p, C, dx, fs, rfl, hp, h1, h2, h3, s3⟩ := setF_ok co hf s' ro rv e4
  exact ⟨p, C, dx, fs, rfl, hp, h1, h2, h3, q W' σ _ l s3 (rr.up l)⟩
theorem ss_augF {FL : List Str} {f : Str} {tpos : Pos} (co : ClOk X.K cl FL) (hf : f ∈ FL) (ho : SE X cl cal a a') (hv : SE X cl cal b b') : SS X cl cal (.AugAssign (.Attribute a f tpos) .Add b pos) (.augF a' f b') := by
  refine (ps_fldaug ho hv in_add).imp fun D σ H h => ?_
  obtain ⟨W, ρ, m, fl, m', s, rr, e, q⟩ := h
  unfold evS at e
  obtain ⟨x, e1, e⟩ := bind_ok e
  obtain ⟨d, e2, e⟩ := bind_ok e
  obtain ⟨y, e3, e⟩ := bind_ok e
  obtain ⟨i, ei, e⟩ := bind_ok e
  obtain ⟨j, ej, e⟩ := bind_ok e
  obtain ⟨C1, ec1, e⟩ := bind_ok e
  obtain ⟨C2, ec2, e⟩ := bind_ok e
  obtain ⟨hC, e⟩ := if_ok e rfl
  obtain ⟨m2, e4, e⟩ := bind_ok e
  cases e
  subst hC
  refine rE1 s rr e1 fun W' H' o l s' ro => ?_
  unfold fldD at e2
  split at e2
  · rename_i C fs ds hv
    obtain ⟨p, xs, rfl, ⟨hl, c, dx, hc, hp⟩, rs⟩ := s'.view ro hv
    obtain ⟨v, h1, h2⟩ := lookup_zip f hl rs (of_ok e2)
    cases rp_i ei h2
    refine ⟨p, c, dx, _, _, rfl, hp, co.cls _ _ hc, co.noat _ _ _ hc hf, h1, rE1 s' (rr.up l) e3 fun W2 H2 u l2 s2 ru => ?_⟩
    cases rp_i ej ru
    refine ⟨i, j, rfl, rfl, ?_⟩
    obtain ⟨p', C', dx', fs', e5, hp', g1, g2, g3, s3⟩ := setF_ok co hf s2 (ro.up l2) (.of_int) e4
    cases e5
    have hCC : C = C1 := by
      unfold clsD at ec1
      rw [hv] at ec1
      cases ec1
      rfl
    unfold clsD at ec2
    split at ec2
    · rename_i C2 fs2 ds2 hv2
      cases ec2
      obtain ⟨p2, xs2, e6, ⟨_, c2, dx2, hc2, hp2⟩, _⟩ := s2.view (ro.up l2) hv2
      cases e6
      rw [← hCC, hc] at hc2
      cases hc2
      rw [hp'] at hp2
      cases hp2
      exact ⟨dx', _, hp', g3, q W2 σ _ (l.trans l2) s3 (rr.up (l.trans l2))⟩
    · cases ec2
  · cases e2
theorem ss_augV {i : Nat} {x : Str} {pos' : Pos} (hN : X.N.Nodup) (hi : X.N[i]? = some x) (hx : Loc X.env.scope x) (h : SE X cl cal a a') (hf : X.fn x = true ∨ X.env.scope.names.lookup x = some .local) : SS X cl cal (.AugAssign (.Name x pos') .Add a pos) (.augV i a') := by
  refine (ps_aug hN hi hx h ip_add hf).imp fun D σ H h => ?_
  obtain ⟨W, ρ, m, fl, m', s, rr, e, q⟩ := h
  unfold evS at e
  split at e
  · rename_i d hd
    obtain ⟨y, e1, e⟩ := bind_ok e
    obtain ⟨p, ep, e⟩ := bind_ok e
    obtain ⟨q0, eq, e⟩ := bind_ok e
    cases e
    obtain ⟨v, h1, h2⟩ := rr.get i _ hd
    cases rp_i ep h2
    refine ⟨_, h1, rE1 s rr e1 fun W' H' u l s' ru => ?_⟩
    cases rp_i eq ru
    exact ⟨_, _, rfl, rfl, q W' _ H' l s' ((rr.up l).set .of_int)⟩
  · cases e
/-! ### loops -/
/-- the rest of a walk, from the i-th item on -/
def forAt (f : D → Env → Mem → R (Fl × Mem)) (src : Src) (i c : Nat) (ρ : Env) (m : Mem) : R (Fl × Mem) := match src with
  | .st ds => forSt f (ds.drop i) ρ m
  | .cell n w => forCl f n w c i ρ m
def leftAt (src : Src) (i c : Nat) : Prop := match src with
  | .st ds => c = ds.length - i ∧ i ≤ ds.length
  | .cell _ _ => True
theorem forSrc_at {f : D → Env → Mem → R (Fl × Mem)} {src : Src} {ρ : Env} {m : Mem} {x : Fl × Mem} (h : forSrc f src ρ m = .ok x) : ∃ c, leftAt src 0 c ∧ forAt f src 0 c ρ m = .ok x := by
  cases src with
  | st ds => exact ⟨ds.length, ⟨rfl, Nat.zero_le _⟩, h⟩
  | cell n w =>
    simp only [forSrc] at h
    split at h
    · rename_i ds hd
      exact ⟨ds.length, trivial, h⟩
    · cases h
theorem forAt_zero {f : D → Env → Mem → R (Fl × Mem)} {src : Src} {i : Nat} {ρ : Env} {m : Mem} {x : Fl × Mem} (hl : leftAt src i 0) (h : forAt f src i 0 ρ m = .ok x) : x = (.nx ρ, m) ∧ srcEnd src m i := by
  cases src with
  | st ds =>
    obtain ⟨h1, h2⟩ := hl
    have e : i = ds.length := by omega
    subst e
    have h : forSt f (ds.drop ds.length) ρ m = .ok x := h
    rw [List.drop_length] at h
    unfold forSt at h
    cases h
    exact ⟨rfl, rfl⟩
  | cell n w =>
    have h : forCl f n w 0 i ρ m = .ok x := h
    unfold forCl at h
    split at h
    · rename_i ds hd
      obtain ⟨hl, h⟩ := if_ok h rfl
      cases h
      exact ⟨rfl, ds, hd, hl⟩
    · cases h
theorem forAt_succ {f : D → Env → Mem → R (Fl × Mem)} {src : Src} {i c : Nat} {ρ : Env} {m : Mem} {x : Fl × Mem} (hl : leftAt src i (c + 1)) (h : forAt f src i (c + 1) ρ m = .ok x) :
    ∃ d, srcGet src m i = some d ∧ leftAt src (i + 1) c ∧ ∃ y, f d ρ m = .ok y ∧ (match y.1 with
      | .nx ρ => forAt f src (i + 1) c ρ y.2
      | .rt v => .ok (.rt v, y.2)) = .ok x := by
  cases src with
  | st ds =>
    obtain ⟨h1, h2⟩ := hl
    have hlt : i < ds.length := by omega
    have h : forSt f (ds.drop i) ρ m = .ok x := h
    rw [List.drop_eq_getElem_cons hlt] at h
    unfold forSt at h
    obtain ⟨y, e1, e2⟩ := bind_ok h
    exact ⟨ds[i], by simp [srcGet, hlt], ⟨by omega, hlt⟩, y, e1, e2⟩
  | cell n w =>
    have h : forCl f n w (c + 1) i ρ m = .ok x := h
    unfold forCl at h
    split at h
    · rename_i ds hd
      split at h
      · rename_i d hi
        obtain ⟨y, e1, e2⟩ := bind_ok h
        exact ⟨wrapI w i d, by simp [srcGet, hd, hi], trivial, y, e1, e2⟩
      · cases h
    · cases h
theorem ss_for {iter : Expr} {body : List Stmt} {t : T} {it : I} {B : List S} (hp : PassesOwn (model X.prog X.w) X.A X.env X.xe) (hc : X.calm = true) (hi : SI X cl cal tg iter it) (hg : SG X cl cal tg t) (hb : SSs X cl cal body B)
    (hs : ∀ x, foldedSetIterable iter X.env x = pure x) : SS X cl cal (.For tg iter body [] pos) (.for_ t it B) := by
  refine (ps_for hp hc hi hg hb hs).imp fun D σ H h => ?_
  obtain ⟨W, ρ, m, fl, m', s, rr, e, q⟩ := h
  unfold evS at e
  obtain ⟨x, e1, e⟩ := bind_ok e
  obtain ⟨c0, hl0, ha0⟩ := forSrc_at e
  refine ⟨W, ρ, m, x.1, x.2, s, rr, e1, fun W1 H1 J l1 s1 ok => ?_⟩
  refine ⟨fun i k σ H => ∃ W ρ m, W1.le W ∧ Sim X.K cl W m H ∧ REnv X.K cl W ρ σ ∧ leftAt x.1 i k ∧ forAt (fun d ρ m => (asgn cal t d ρ m).bind fun r => evSs cal B r.1 r.2) x.1 i k ρ m = .ok (fl, m'), ⟨c0, W1, ρ, x.2, .refl W1, s1, rr.up l1, hl0, ha0⟩, ?_⟩
  rintro i k σ2 H2 ⟨W2, ρ2, m2, l2, s2, r2, hl, ha⟩
  obtain ⟨o1, o2⟩ := ok W2 m2 H2 i l2.z s2
  cases k with
  | zero =>
    obtain ⟨hx, he⟩ := forAt_zero hl ha
    cases hx
    exact .inl ⟨o2 he, q W2 σ2 H2 (l1.trans l2) s2 r2⟩
  | succ k =>
    obtain ⟨d, hd, hl', y, e2, e3⟩ := forAt_succ hl ha
    obtain ⟨g1, g2⟩ := o1 d hd
    obtain ⟨z, e4, e5⟩ := bind_ok e2
    refine .inr ⟨g1, fun σ' H' => ∃ W ρ m, W1.le W ∧ Sim X.K cl W m H' ∧ REnv X.K cl W ρ σ' ∧ leftAt x.1 (i + 1) k ∧ forAt (fun d ρ m => (asgn cal t d ρ m).bind fun r => evSs cal B r.1 r.2) x.1 (i + 1) k ρ m = .ok (fl, m'), fun σ' H' hn => ⟨k, Nat.lt_succ_self _, hn⟩, fun v H' hy => ?_⟩
    obtain ⟨W3, l3, s3, r3⟩ := g2 v H' hy
    refine ⟨W3, ρ2, m2, d, z.1, z.2, s3, r2.up l3, r3, e4, fun W4 σ4 H4 l4 s4 r4 _ => ?_⟩
    obtain ⟨y1, y2⟩ := y
    refine ⟨W4, z.1, z.2, y1, y2, s4, r4, e5, ?_⟩
    cases y1 with
    | nx ρ5 => exact fun W5 σ5 H5 l5 s5 r5 => ⟨W5, ρ5, y2, ((l2.trans l3).trans l4).trans l5, s5, r5, hl', e3⟩
    | rt v =>
      cases e3
      exact fun W5 H5 w l5 s5 r5 => q W5 H5 w ((((l1.trans l2).trans l3).trans l4).trans l5) s5 r5
theorem ss_whl {body : List Stmt} {B : List S} (hp : PassesOwn (model X.prog X.w) X.A X.env X.xe) (hc : ST X cl cal c c') (hb : SSs X cl cal body B) : SS X cl cal (.While c body [] pos) (.whl c' B) := by
  refine (ps_while hp hc hb).imp fun D σ H h => ?_
  obtain ⟨W, ρ, m, fl, m', s, rr, e, q⟩ := h
  unfold evS at e
  obtain ⟨n0, hn0⟩ := whl_ex (show whl _ _ ρ m ≠ .bad by rw [e]; exact fun z => by cases z)
  rw [e] at hn0
  refine ⟨fun k σ' H' => ∃ W' ρ' m1, W.le W' ∧ Sim X.K cl W' m1 H' ∧ REnv X.K cl W' ρ' σ' ∧ whlN (fun ρ m => evE cal c' ρ m) (fun ρ m => evSs cal B ρ m) k ρ' m1 = .ok (fl, m'), ⟨n0, W, ρ, m, .refl W, s, rr, hn0⟩, ?_⟩
  rintro k σ2 H2 ⟨W2, ρ2, m2, l2, s2, r2, hk⟩
  cases k with
  | zero => unfold whlN at hk; cases hk
  | succ k =>
    unfold whlN at hk
    obtain ⟨x, e1, hk⟩ := bind_ok hk
    obtain ⟨t, e2, hk⟩ := bind_ok hk
    obtain ⟨x1, x2⟩ := x
    have hx : x1 = .bl t := asB_eq e2
    subst hx
    refine ⟨W2, ρ2, m2, t, x2, s2, r2, e1, fun W3 H3 l3 s3 => ?_⟩
    cases t with
    | false =>
      simp only [Bool.false_eq_true, if_false] at hk ⊢
      cases hk
      exact q W3 σ2 H3 (l2.trans l3) s3 (r2.up l3)
    | true =>
      simp only [if_true] at hk ⊢
      obtain ⟨y, e3, hk⟩ := bind_ok hk
      refine ⟨fun σ' H' => ∃ W' ρ' m1, W.le W' ∧ Sim X.K cl W' m1 H' ∧ REnv X.K cl W' ρ' σ' ∧ whlN (fun ρ m => evE cal c' ρ m) (fun ρ m => evSs cal B ρ m) k ρ' m1 = .ok (fl, m'), fun σ' H' hn => ⟨k, Nat.lt_succ_self _, hn⟩, ?_⟩
      obtain ⟨y1, y2⟩ := y
      refine ⟨W3, ρ2, x2, y1, y2, s3, r2.up l3, e3, ?_⟩
      cases y1 with
      | nx ρ5 => exact fun W5 σ5 H5 l5 s5 r5 => ⟨W5, ρ5, y2, (l2.trans l3).trans l5, s5, r5, hk⟩
      | rt v =>
        cases hk
        exact fun W5 H5 w l5 s5 r5 => q W5 H5 w ((l2.trans l3).trans l5) s5 r5
end
end Mi
end
section
set_option linter.all false
set_option Elab.async false
set_option maxRecDepth 100000
set_option maxHeartbeats 2000000
/-! Mi8: comprehensions of any number of clauses. -/
namespace Mi
open PySem PySem.Spec PyProof.Rows L2
def isComp : Expr → Bool
  | .ListComp _ _ _ _ => true
  | .DictComp _ _ _ _ _ => true
  | .SetComp _ _ _ _ => true
  | _ => false
/-- what a comprehension does at its innermost -/
def emitOf (e : Expr) (acc : Value) (env : PySem.Env) : Sem Unit := match e with
  | .ListComp elt _ _ _ => (do let _ ← call (.builtin "list.append") [acc, ← eval elt env])
  | .SetComp elt _ _ _ => (do let v ← eval elt env; standAt elt.pos; let _ ← call (.builtin "set.add") [acc, v])
  | .DictComp k v _ _ _ => do
      let kv ← eval k env
      let vv ← holding [kv] (eval v env)
      match acc with
      | .ref d => do
        standAt { k.pos with endLine := v.pos.endLine, endCol := v.pos.endCol }
        holding [kv, vv] (dictSet d kv vv)
      | _ => unsupported "internal:dictcomp"
  | _ => pure ()
/-- what stands behind the tests of the clause ahead of the k-th -/
def bodyAt (e : Expr) (k : Nat) (acc : Value) (env : PySem.Env) : Sem Unit := match (clausesOf e)[k]? with
  | some g => do
      let x ← eval g.iter env
      standAt g.iter.pos
      let x ← foldedSetIterable g.iter env x
      let _ ← runOwn (.compStart e k (← holding [x] (pyIter x)) acc env) env
  | none => emitOf e acc env
theorem compTurnG {e : Expr} {k : Nat} {t i : Expr} {ifs : List Expr} (he : isComp e = true) (hk : (clausesOf e)[k]? = some ⟨t, i, ifs, 0⟩) (h0 : ∀ g ∈ clausesOf e, g.is_async = 0) (it acc : Value) (env : PySem.Env) :
    compTurn e k it acc env = (do
      standAt i.pos
      match ← pyNext it with
      | none => pure (.done .next)
      | some v =>
        letOwnedTupleGo t it v
        assign t env v
        let mut ok := true
        for c in ifs do
          if ok then ok ← isTrue c env (eval c env)
        if ok then
          bodyAt e (k + 1) acc env
        again (.compLoop e k it acc env)) := by
  have all1 : ∀ g, (clausesOf e)[k + 1]? = some g → ∃ t i ifs, g = ⟨t, i, ifs, 0⟩ := fun g hg => by
    obtain ⟨t, i, ifs, a⟩ := g
    have := h0 _ (List.mem_of_getElem? hg)
    exact ⟨t, i, ifs, by simp at this; rw [this]⟩
  cases e with
  | ListComp elt gens scope pos =>
    have hk : gens[k]? = some ⟨t, i, ifs, 0⟩ := hk
    have all1 : ∀ g, gens[k + 1]? = some g → ∃ t i ifs, g = ⟨t, i, ifs, 0⟩ := all1
    unfold compTurn bodyAt
    cases h1 : gens[k + 1]? with
    | none =>
      have h1' : (clausesOf (.ListComp elt gens scope pos))[k + 1]? = none := h1
      simp only [hk, h1, h1']
      rfl
    | some g =>
      obtain ⟨t1, i1, ifs1, rfl⟩ := all1 g h1
      have h1' : (clausesOf (.ListComp elt gens scope pos))[k + 1]? = some ⟨t1, i1, ifs1, 0⟩ := h1
      have z : ((0 : Int) != 0) = false := rfl
      simp only [hk, h1, h1', z, Bool.false_eq_true, if_false, bind_assoc, pure_bind]
      rfl
  | DictComp kk vv gens scope pos =>
    have hk : gens[k]? = some ⟨t, i, ifs, 0⟩ := hk
    have all1 : ∀ g, gens[k + 1]? = some g → ∃ t i ifs, g = ⟨t, i, ifs, 0⟩ := all1
    unfold compTurn bodyAt
    cases h1 : gens[k + 1]? with
    | none =>
      have h1' : (clausesOf (.DictComp kk vv gens scope pos))[k + 1]? = none := h1
      simp only [hk, h1, h1']
      rfl
    | some g =>
      obtain ⟨t1, i1, ifs1, rfl⟩ := all1 g h1
      have h1' : (clausesOf (.DictComp kk vv gens scope pos))[k + 1]? = some ⟨t1, i1, ifs1, 0⟩ := h1
      have z : ((0 : Int) != 0) = false := rfl
      simp only [hk, h1, h1', z, Bool.false_eq_true, if_false, bind_assoc, pure_bind]
      rfl
  | SetComp elt gens scope pos =>
    have hk : gens[k]? = some ⟨t, i, ifs, 0⟩ := hk
    have all1 : ∀ g, gens[k + 1]? = some g → ∃ t i ifs, g = ⟨t, i, ifs, 0⟩ := all1
    unfold compTurn bodyAt
    cases h1 : gens[k + 1]? with
    | none =>
      have h1' : (clausesOf (.SetComp elt gens scope pos))[k + 1]? = none := h1
      simp only [hk, h1, h1']
      rfl
    | some g =>
      obtain ⟨t1, i1, ifs1, rfl⟩ := all1 g h1
      have h1' : (clausesOf (.SetComp elt gens scope pos))[k + 1]? = some ⟨t1, i1, ifs1, 0⟩ := h1
      have z : ((0 : Int) != 0) = false := rfl
      simp only [hk, h1, h1', z, Bool.false_eq_true, if_false, bind_assoc, pure_bind]
      rfl
  | _ => cases he
section
variable {prog : Program} {w : World} {A : Around} {R : Result → Shared → Prop} {s : Shared} {e t i : Expr} {ifs : List Expr} {k : Nat} {it acc : Value} {env : PySem.Env}
abbrev testsOf (ifs : List Expr) (env : PySem.Env) : Sem Bool := forIn ifs true fun c r => if r = true then do let ok ← isTrue c env (eval c env); pure (ForInStep.yield ok) else pure (ForInStep.yield r)
theorem compLoopG (he : isComp e = true) (hk : (clausesOf e)[k]? = some ⟨t, i, ifs, 0⟩) (h0 : ∀ g ∈ clausesOf e, g.is_async = 0) (I : Nat → Shared → Prop)
    (turn : ∀ n s, I n s → wpAny (model prog w) A (pyNext it) (fun r s₁ => match r with
      | none => R (.ok .next) s₁
      | some v => wpAny (model prog w) A (letOwnedTupleGo t it v) (fun _ s₁' => wpAny (model prog w) A (assign t env v) (fun _ s₂ =>
          wpAny (model prog w) A (testsOf ifs env) (fun ok s₃ =>
            if ok = true then wpAny (model prog w) A (bodyAt e (k + 1) acc env) (fun _ s₄ => ∃ m, m < n ∧ I m s₄) (fun _ _ => False) s₃
            else ∃ m, m < n ∧ I m s₃) (fun _ _ => False) s₂) (fun _ _ => False) s₁') (fun _ _ => False) s₁) (fun _ _ => False) s)
    (n : Nat) (h : I n s) : codeAny (model prog w) A (.compLoop e k it acc env) R s := by
  refine codeAny_loop rfl I (fun n s hI => ?_) n h
  have hA : A.under (.compLoop e k it acc env) = A := by cases e <;> first | rfl | cases he
  have hd : (model prog w).den (.compLoop e k it acc env) = (compTurn e k it acc env).onRaise (fun x => do noteFrame x env; theTreesLotGoes x) := by cases e <;> first | rfl | cases he
  rw [hA, hd]
  refine wpAny_noted ?_
  rw [compTurnG he hk h0]
  refine wpAny_bind (wpAny_standAt (wpAny_bind (wpAny_mono (turn n s hI) (fun r s₁ h₁ => ?_) fun _ _ h' => h'.elim)))
  cases r with
  | none => exact wpAny_pure h₁
  | some v =>
    refine wpAny_bind (wpAny_mono h₁ (fun _ s₁' h₁' => ?_) fun _ _ h' => h'.elim)
    refine wpAny_bind (wpAny_mono h₁' (fun _ s₂ h₂ => wpAny_bind (wpAny_mono h₂ (fun ok s₃ h₃ => ?_) fun _ _ h' => h'.elim)) fun _ _ h' => h'.elim)
    cases ok with
    | false => exact wpAny_pure ⟨rfl, h₃⟩
    | true =>
      simp only [if_true] at h₃
      exact wpAny_bind (wpAny_mono h₃ (fun _ s₄ h₄ => wpAny_pure ⟨rfl, h₄⟩) fun _ _ h' => h'.elim)
theorem compStartG (he : isComp e = true) (hk : (clausesOf e)[k]? = some ⟨t, i, ifs, 0⟩) (h0 : codeAny (model prog w) A (.compLoop e k it acc env) R s)
    (h : wpAny (model prog w) A (pyIter it) (fun it' s' => codeAny (model prog w) A (.compLoop e k it' acc env) R s') (notedBy (model prog w) A env fun x s' => R (.error x) s') s) :
    codeAny (model prog w) A (.compStart e k it acc env) R s := by
  refine codeAny_of_tree ?_
  have hA : A.under (.compStart e k it acc env) = A := by cases e <;> first | rfl | cases he
  have hd : (model prog w).den (.compStart e k it acc env) = (compStart e k it acc env).onRaise (fun x => do noteFrame x env; standAt theWindowsPlace) := by cases e <;> first | rfl | cases he
  rw [hA, hd]
  refine wpAny_notedAt ?_
  unfold compStart
  rw [hk]
  show wpAny _ _ (ask >>= _) _ _ s
  refine wpAny_bind (wpAny_askSetting (wpAny_ite ?_))
  split
  · first
      | exact wpAny_bind (wpAny_pure (wpAny_pure (And.intro rfl h0)))
      | exact wpAny_pure (And.intro rfl h0)
  · first
      | exact wpAny_bind (wpAny_rule (wpAny_bind (wpAny_standAt (wpAny_bind (wpAny_mono h (fun it' s' h' => wpAny_pure (And.intro rfl h')) fun _ _ x => x)))))
      | (refine wpAny_bind (wpAny_rule ?_); show wpAny _ _ (standAt i.pos >>= _) _ _ s; exact wpAny_bind (wpAny_standAt (wpAny_bind (wpAny_mono h (fun it' s' h' => wpAny_pure (And.intro rfl h')) fun _ _ x => x))))
end
end Mi
end
section
set_option linter.all false
set_option Elab.async false
set_option maxRecDepth 100000
set_option maxHeartbeats 2000000
/-! Mi9: comprehensions of any number of clauses: the walk. -/
namespace Mi
open PySem PySem.Spec PyProof.Rows L2
/-- what stands behind, but for the private object at p -/
structure LeP (p : Addr) (W W' : Wd) : Prop where
  io : ∀ n a, W.io n = some a → W'.io n = some a
  F : ∀ a o, W.F a = some o → W'.F a = some o
  B : W'.B = W.B
  P : ∀ b, b ≠ p → W'.P b = W.P b
  nw : ∀ a o, W'.F a = some o → W.F a = some o ∨ W.B a = none ∨ isT o = true
section
variable {K : PySem.W.Frag} {cl : ClA} {W W1 W2 : Wd} {H H' : Hp} {p : Addr} {m : Mem}
theorem LeP.z (l : LeP p W W1) : W.le0 W1 := ⟨l.io, l.F, l.B⟩
theorem LeP.refl : LeP p W W := ⟨fun _ _ h => h, fun _ _ h => h, rfl, fun _ _ => rfl, fun _ _ h => .inl h⟩
theorem LeP.of (l : W.le W1) : LeP p W W1 := ⟨l.io, l.F, l.B, fun b _ => by rw [l.P], l.nw⟩
theorem LeP.trans (a : LeP p W W1) (b : LeP p W1 W2) : LeP p W W2 := ⟨fun n x h => b.io n x (a.io n x h), fun n x h => b.F n x (a.F n x h), b.B.trans a.B, fun c h => (b.P c h).trans (a.P c h), fun n x h => by
  rcases b.nw n x h with q | q | q
  · exact a.nw n x q
  · exact .inr (.inl (by rw [← a.B]; exact q))
  · exact .inr (.inr q)⟩
/-- the private object -/
abbrev ARel := Addr → Acc → List V → HO → Prop
def AccAt (AR : ARel) (K : PySem.W.Frag) (cl : ClA) (W : Wd) (p : Addr) (a : Acc) : Prop := ∃ xs o, W.P p = some o ∧ AR p a xs o ∧ isT o = false ∧ Rps K cl W a.2 xs
theorem AccAt.up {AR : ARel} {a : Acc} (h : AccAt AR K cl W p a) (l : W.le W1) : AccAt AR K cl W1 p a := by
  obtain ⟨xs, o, h1, h2, h3, h4⟩ := h
  exact ⟨xs, o, by rw [l.P]; exact h1, h2, h3, h4.up l⟩
/-- lists and dicts -/
def arSh : ARel := fun _ a xs o => o = hoOf a.1 xs ∧ shLen a.1 xs.length = true ∧ a.1 ≠ .tup
theorem isT_hoOf {sh : Sh} {xs : List V} (h : sh ≠ .tup) : isT (hoOf sh xs) = false := by cases sh <;> first | rfl | exact absurd rfl h
/-- a private object, laid or written -/
theorem Sim.priv (s : Sim K cl W m H) {o : HO} (h1 : ∀ n, W.io n ≠ some p) (h2 : W.F p = none) (h3 : W.B p = none) (ht : isT o = false) :
    Sim K cl { W with P := upd W.P p o } m (upd H p o) ∧ LeP p W { W with P := upd W.P p o } := by
  have l : LeP p W { W with P := upd W.P p o } := ⟨fun _ _ h => h, fun _ _ h => h, rfl, fun b hb => upd_ne hb, fun _ _ h => .inl h⟩
  refine ⟨⟨fun b u e => ?_, fun b u e => ?_, fun b u e => ?_, fun n c e => ?_, fun n b e => ?_, s.inj, s.dom⟩, l⟩
  · rw [upd_ne (ne_of_none e h2)]; exact s.F b u e
  · rw [upd_ne (ne_of_none e h3)]; exact s.B b u e
  · have e : upd W.P p o b = some u := e
    by_cases hb : b = p
    · subst hb
      rw [upd_same] at e; cases e
      exact ⟨upd_same, h2, h3, ht⟩
    · rw [upd_ne hb] at e ⊢; exact s.P b u e
  · obtain ⟨b, xs, q1, q2, q3, q4, q5⟩ := s.cell n c e
    have ne : b ≠ p := fun z => h1 n (z ▸ q1)
    exact ⟨b, xs, q1, q2, q3, q4.other ne, q5.up0 l.z⟩
  · have ne : b ≠ p := fun z => h1 n (z ▸ e)
    show upd W.P p o b = none
    rw [upd_ne ne]; exact s.cp n b e
theorem Sim.privFree (s : Sim K cl W m H) {o : HO} (h : W.P p = some o) : (∀ n, W.io n ≠ some p) ∧ W.F p = none ∧ W.B p = none :=
  ⟨fun n e => (by have q := s.cp n p e; rw [h] at q; cases q), (s.P p o h).2.1, (s.P p o h).2.2.1⟩
/-- .. and let go -/
theorem Sim.letGo (s : Sim K cl W1 m H) (l : LeP p W W1) (h0 : W.P p = none) : W.le { W1 with P := W.P } ∧ Sim K cl { W1 with P := W.P } m H := by
  have sub : ∀ b o, W.P b = some o → W1.P b = some o := fun b o e => by
    by_cases hb : b = p
    · rw [hb, h0] at e; cases e
    · rw [l.P b hb]; exact e
  have z : W1.le0 { W1 with P := W.P } := ⟨fun _ _ h => h, fun _ _ h => h, rfl⟩
  refine ⟨⟨l.io, l.F, l.B, rfl, l.nw⟩, s.F, s.B, fun b o e => s.P b o (sub b o e), fun n c e => ?_, fun n b e => ?_, s.inj, s.dom⟩
  · obtain ⟨b, xs, q1, q2, q3, q4, q5⟩ := s.cell n c e
    exact ⟨b, xs, q1, q2, q3, q4, q5.up0 z⟩
  · show W.P b = none
    cases q : W.P b with
    | none => rfl
    | some o => have := sub b o q; rw [s.cp n b e] at this; cases this
end
/-! the rest of a walk -/
def goAt {α : Type} (f : D → α → Mem → R (α × Mem)) (src : Src) (i c : Nat) (a : α) (m : Mem) : R (α × Mem) := match src with
  | .st ds => goSt f (ds.drop i) a m
  | .cell n w => goCl f n w c i a m
theorem goSrc_at {α : Type} {f : D → α → Mem → R (α × Mem)} {src : Src} {a : α} {m : Mem} {x : α × Mem} (h : goSrc f src a m = .ok x) : ∃ c, leftAt src 0 c ∧ goAt f src 0 c a m = .ok x := by
  cases src with
  | st ds => exact ⟨ds.length, ⟨rfl, Nat.zero_le _⟩, h⟩
  | cell n w =>
    simp only [goSrc] at h
    split at h
    · rename_i ds hd
      exact ⟨ds.length, trivial, h⟩
    · cases h
theorem goAt_zero {α : Type} {f : D → α → Mem → R (α × Mem)} {src : Src} {i : Nat} {a : α} {m : Mem} {x : α × Mem} (hl : leftAt src i 0) (h : goAt f src i 0 a m = .ok x) : x = (a, m) ∧ srcEnd src m i := by
  cases src with
  | st ds =>
    obtain ⟨h1, h2⟩ := hl
    have e : i = ds.length := by omega
    subst e
    have h : goSt f (ds.drop ds.length) a m = .ok x := h
    rw [List.drop_length] at h
    unfold goSt at h
    cases h
    exact ⟨rfl, rfl⟩
  | cell n w =>
    have h : goCl f n w 0 i a m = .ok x := h
    unfold goCl at h
    split at h
    · rename_i ds hd
      obtain ⟨hl, h⟩ := if_ok h rfl
      cases h
      exact ⟨rfl, ds, hd, hl⟩
    · cases h
theorem goAt_succ {α : Type} {f : D → α → Mem → R (α × Mem)} {src : Src} {i c : Nat} {a : α} {m : Mem} {x : α × Mem} (hl : leftAt src i (c + 1)) (h : goAt f src i (c + 1) a m = .ok x) :
    ∃ d, srcGet src m i = some d ∧ leftAt src (i + 1) c ∧ ∃ y, f d a m = .ok y ∧ goAt f src (i + 1) c y.1 y.2 = .ok x := by
  cases src with
  | st ds =>
    obtain ⟨h1, h2⟩ := hl
    have hlt : i < ds.length := by omega
    have h : goSt f (ds.drop i) a m = .ok x := h
    rw [List.drop_eq_getElem_cons hlt] at h
    unfold goSt at h
    obtain ⟨y, e1, e2⟩ := bind_ok h
    exact ⟨ds[i], by simp [srcGet, hlt], ⟨by omega, hlt⟩, y, e1, e2⟩
  | cell n w =>
    have h : goCl f n w (c + 1) i a m = .ok x := h
    unfold goCl at h
    split at h
    · rename_i ds hd
      split at h
      · rename_i d hi
        obtain ⟨y, e1, e2⟩ := bind_ok h
        exact ⟨wrapI w i d, by simp [srcGet, hd, hi], trivial, y, e1, e2⟩
      · cases h
    · cases h
/-- tests -/
def rTs (K : PySem.W.Frag) (cl : ClA) (cal : Cal) (es : List E) : TT := fun σ H Q =>
  ∃ W ρ m b m', Sim K cl W m H ∧ REnv K cl W ρ σ ∧ evIfs cal es ρ m = .ok (b, m') ∧ ∀ W' H', W.le W' → Sim K cl W' m' H' → Q b H'
abbrev STs (X : Cx) (cl : ClA) (cal : Cal) (es : List Expr) (es' : List E) : Prop := PTs X es (rTs X.K cl cal es')
section
variable {X : Cx} {cl : ClA} {cal : Cal} {c : Expr} {cs : List Expr} {c' : E} {cs' : List E}
theorem sts_nil : STs X cl cal [] [] := ⟨fun pins s σ H Q I h => by
  obtain ⟨W, ρ, m, b, m', sm, rr, e, q⟩ := h
  unfold evIfs at e
  cases e
  exact pts_nil.run pins s σ H Q I (q W H (.refl W) sm)⟩
theorem tests_false {M : Model} {A : Around} {E : Value → Shared → Prop} {env : PySem.Env} {Q : Bool → Shared → Prop} {s : Shared} : ∀ (cs : List Expr), Q false s → wpAny M A (forIn cs false fun c r => if r = true then do let ok ← isTrue c env (eval c env); pure (ForInStep.yield ok) else pure (ForInStep.yield r)) Q E s
  | [], h => by rw [List.forIn_nil]; exact wpAny_pure h
  | c :: cs, h => by
    rw [List.forIn_cons]
    exact wpAny_bind (wpAny_pure (tests_false cs h))
theorem sts_cons (h : ST X cl cal c c') (hs : STs X cl cal cs cs') : STs X cl cal (c :: cs) (c' :: cs') := ⟨fun pins s σ H Q I h0 => by
  obtain ⟨W, ρ, m, b, m', sm, rr, e, q⟩ := h0
  unfold evIfs at e
  obtain ⟨x, e1, e⟩ := bind_ok e
  obtain ⟨t, e2, e⟩ := bind_ok e
  obtain ⟨x1, x2⟩ := x
  have hx : x1 = .bl t := asB_eq e2
  subst hx
  rw [List.forIn_cons]
  refine wpAny_bind (wpAny_bind (thn (h.run pins s σ H (fun b' H' => b' = t ∧ ∃ W', W.le W' ∧ Sim X.K cl W' x2 H') I ⟨W, ρ, m, t, x2, sm, rr, e1, fun W' H' l s' => ⟨rfl, W', l, s'⟩⟩) fun b' s' ⟨H', I', hb, W', l, sm'⟩ => ?_))
  subst hb
  refine wpAny_pure ?_
  cases b' with
  | true =>
    simp only [if_true] at e
    exact hs.run pins s' σ H' Q I' ⟨W', ρ, x2, b, m', sm', rr.up l, e, fun W2 H2 l2 s2 => q W2 H2 (l.trans l2) s2⟩
  | false =>
    simp only [Bool.false_eq_true, if_false] at e
    cases e
    exact tests_false cs ⟨H', I', q W' H' l sm'⟩⟩
end
/-! the walk of one clause, and of all -/
def gown : G → List Nat
  | .nil => []
  | .cons _ own _ _ _ => own
abbrev Em := Env → Acc → Mem → R (Acc × Mem)
/-- what is behind the tests ahead of the k-th clause -/
def BodyOk (AR : ARel) (X : Cx) (cl : ClA) (e : Expr) (k : Nat) (p : Addr) (own : List Nat) (ev : Em) : Prop :=
  ∀ (pins : List (Addr × Obj)) (s : Shared) (σ : L2.St) (H : Hp) (W : Wd) (ρ : Env) (m : Mem) (a a' : Acc) (m' : Mem), Inv X pins σ H s → Sim X.K cl W m H → REnv X.K cl W ρ σ → AccAt AR X.K cl W p a → ev ρ a m = .ok (a', m') →
    wpAny (model X.prog X.w) X.A (bodyAt e k (.ref p) X.env) (fun _ s' => ∃ H' W', Inv X pins (L2.wipe σ own) H' s' ∧ LeP p W W' ∧ Sim X.K cl W' m' H' ∧ AccAt AR X.K cl W' p a') (fun _ _ => False) s
def turnF (cal : Cal) (t : T) (ifs : List E) (own : List Nat) (ρ : Env) (ev : Em) : D → Acc → Mem → R (Acc × Mem) := fun d a m => (asgn cal t d (wipe ρ own) m).bind fun r => (evIfs cal ifs r.1 r.2).bind fun b =>
  if b.1 then ev r.1 a b.2 else .ok (a, b.2)
section
variable {X : Cx} {cl : ClA} {cal : Cal} {e tg iter : Expr} {ifs : List Expr} {k : Nat} {p : Addr} {t : T} {ifs' : List E} {own own1 : List Nat} {ev : Em} {AR : ARel}
theorem loopOk (hc : X.calm = true) (hx : X.xe = fun _ _ => False) (he : isComp e = true) (hk : (clausesOf e)[k]? = some ⟨tg, iter, ifs, 0⟩) (h0 : ∀ g ∈ clausesOf e, g.is_async = 0)
    (hg : SG X cl cal tg t) (ht : STs X cl cal ifs ifs') (hb : BodyOk AR X cl e (k + 1) p own1 ev) (hv : ∀ j ∈ tvs t, j ∈ own) (ho : ∀ j ∈ own1, j ∈ own)
    {pins : List (Addr × Obj)} {σ : L2.St} {W0 : Wd} {ρ : Env} {J : It} {fp : List Addr} {it : Addr} {tn : Nat → Heap → Prop} {src : Src} {a' : Acc} {m' : Mem} {R : Result → Shared → Prop}
    (hf : ∀ H, ∀ b ∈ fp, H b = none → ∀ {σ' : L2.St} {s' : Shared}, Inv X pins σ' H s' → FpOk X pins H b) (T : Turn X.prog X.w X.K tg J fp it tn) (ok : ItOk X.K cl J W0 src) (rr : REnv X.K cl W0 ρ σ)
    (hR : ∀ H W s', Inv X pins (L2.wipe σ own) H s' → LeP p W0 W → Sim X.K cl W m' H → AccAt AR X.K cl W p a' → R (.ok .next) s') :
    ∀ (c i : Nat) (s : Shared) (H : Hp) (W : Wd) (a : Acc) (m : Mem), Inv X pins (L2.wipe σ own) H s → tn i s.heap → (∀ b ∈ fp, H b = none) → LeP p W0 W → Sim X.K cl W m H → AccAt AR X.K cl W p a → leftAt src i c → goAt (turnF cal t ifs' own ρ ev) src i c a m = .ok (a', m') →
      codeAny (model X.prog X.w) X.A (.compLoop e k (.ref it) (.ref p) X.env) R s := by
  intro c i s H W a m I st nf l sm ac hl hgo
  refine compLoopG he hk h0 (fun c s => ∃ i H W a m, Inv X pins (L2.wipe σ own) H s ∧ tn i s.heap ∧ (∀ b ∈ fp, H b = none) ∧ LeP p W0 W ∧ Sim X.K cl W m H ∧ AccAt AR X.K cl W p a ∧ leftAt src i c ∧ goAt (turnF cal t ifs' own ρ ev) src i c a m = .ok (a', m')) ?_ c ⟨i, H, W, a, m, I, st, nf, l, sm, ac, hl, hgo⟩
  clear I st nf l sm ac hl hgo
  clear c i s H W a m
  rintro c s ⟨i, H, W, a, m, I, st, nf, l, sm, ac, hl, hgo⟩
  obtain ⟨o1, o2⟩ := ok W m H i l.z sm
  cases c with
  | zero =>
    obtain ⟨hx', hend⟩ := goAt_zero hl hgo
    cases hx'
    refine thnF (T.done X rfl rfl rfl hc i pins s _ H (fun _ _ => False) I (fun b hb => hf H b hb (nf b hb) I) st (o2 hend)) fun r s1 ⟨hr, I1⟩ => ?_
    subst hr
    exact hR H W s1 I1 l sm ac
  | succ c =>
    obtain ⟨d, hd, hl', y, e1, e2⟩ := goAt_succ hl hgo
    obtain ⟨g1, g2⟩ := o1 d hd
    refine thnF (T.item X rfl rfl rfl hc i pins s _ H (fun _ _ => False) I (fun b hb => hf H b hb (nf b hb) I) st g1) fun r s1 ⟨u, hr, h1⟩ => ?_
    subst hr
    refine thnF h1 fun _ s2 ⟨x, H2, I2, r2, y2, st2, n2⟩ => ?_
    obtain ⟨W2, l2, sm2, rp2⟩ := g2 x H2 y2
    have I2' := I2.pinned (fun b hb => hf H2 b hb (n2 b hb) I2) (T.obj _ _ st2)
    unfold turnF at e1
    obtain ⟨z, e3, e1⟩ := bind_ok e1
    obtain ⟨b, e4, e1⟩ := bind_ok e1
    have rr2 : REnv X.K cl W2 (wipe ρ own) (L2.wipe σ own) := ((rr.up0 l.z).up l2).wipe own
    have hxf : ∀ {α : Type} {t : Sem α} {Q : α → Shared → Prop} {s : Shared}, wpAny (model X.prog X.w) X.A t Q X.xe s → wpAny (model X.prog X.w) X.A t Q (fun _ _ => False) s := fun h => by rw [hx] at h; exact h
    refine thnF (hxf (hg.run _ s2 _ H2 x u (fun σ3 H3 => SameO (tvs t) (L2.wipe σ own) σ3 ∧ ∃ W3, W2.le W3 ∧ Sim X.K cl W3 z.2 H3 ∧ REnv X.K cl W3 z.1 σ3) I2' r2 ⟨W2, wipe ρ own, m, d, z.1, z.2, sm2, rr2, rp2, e3, fun W3 σ3 H3 l3 s3 r3 so => ⟨so, W3, l3, s3, r3⟩⟩)) fun _ s3 ⟨σ3, H3, I3, so, W3, l3, sm3, rr3⟩ => ?_
    refine thnF (hxf (ht.run _ s3 σ3 H3 (fun b' H4 => b' = b.1 ∧ ∃ W4, W3.le W4 ∧ Sim X.K cl W4 b.2 H4) I3 ⟨W3, z.1, z.2, b.1, b.2, sm3, rr3, e4, fun W4 H4 l4 s4 => ⟨rfl, W4, l4, s4⟩⟩)) fun b' s4 ⟨H4, I4, hb', W4, l4, sm4⟩ => ?_
    have L4 : LeP p W W4 := ((LeP.of l2).trans (LeP.of l3)).trans (LeP.of l4)
    have ac4 : AccAt AR X.K cl W4 p a := ((ac.up l2).up l3).up l4
    -- the turn's end
    have fin : ∀ {σ5 : L2.St} {s5 : Shared} {H5 : Hp} {W5 : Wd}, Inv X (pins ++ pinsAt fp s2.heap) σ5 H5 s5 → (L2.wipe σ own).length = σ5.length → (∀ (j : Nat) v, (L2.wipe σ own)[j]? = some (some v) → σ5[j]? = some (some v)) → LeP p W4 W5 → Sim X.K cl W5 y.2 H5 → AccAt AR X.K cl W5 p y.1 →
        ∃ m, m < c + 1 ∧ ∃ i H W a mm, Inv X pins (L2.wipe σ own) H s5 ∧ tn i s5.heap ∧ (∀ b ∈ fp, H b = none) ∧ LeP p W0 W ∧ Sim X.K cl W mm H ∧ AccAt AR X.K cl W p a ∧ leftAt src i m ∧ goAt (turnF cal t ifs' own ρ ev) src i m a mm = .ok (a', m') := fun {σ5 s5 H5 W5} I5 q1 q2 l5 sm5 ac5 => by
      have pin' : ∀ b ∈ fp, ∀ o, s2.heap.get? b = some o → s5.heap.get? b = some o ∧ H5 b = none := fun b hb o eo =>
        let z := I5.pin (b, o) (List.mem_append_right _ (List.mem_append_right _ (mem_pinsAt hb eo)))
        ⟨z.1, z.2.1⟩
      refine ⟨c, Nat.lt_succ_self _, i + 1, H5, W5, y.1, y.2, I5.unpinned.weak q1 q2, T.keep _ _ _ st2 fun b hb o eo => (pin' b hb o eo).1, fun b hb => ?_, (l.trans L4).trans l5, sm5, ac5, hl', e2⟩
      obtain ⟨o, eo, _⟩ := T.obj _ _ st2 b hb
      exact (pin' b hb o eo).2
    have so1 : (L2.wipe σ own).length = σ3.length := so.1.symm
    have so2 : ∀ (j : Nat) v, (L2.wipe σ own)[j]? = some (some v) → j ∉ own ∧ σ3[j]? = some (some v) := fun j v ej => by
      have nj := (wipe_some ej).2
      exact ⟨nj, by rw [so.2 j fun q => nj (hv j q)]; exact ej⟩
    subst hb'
    cases hb1 : b.1 with
    | false =>
      rw [hb1] at e1
      simp only [Bool.false_eq_true, if_false] at e1 ⊢
      cases e1
      exact fin I4 so1 (fun j v ej => (so2 j v ej).2) LeP.refl sm4 ac4
    | true =>
      rw [hb1] at e1
      simp only [if_true] at e1 ⊢
      refine thnF (hb _ s4 σ3 H4 W4 z.1 b.2 a y.1 y.2 I4 sm4 (rr3.up l4) ac4 e1) fun _ s5 ⟨H5, W5, I5, l5, sm5, ac5⟩ => ?_
      refine fin I5 (so1.trans (wipe_length σ3 own1).symm) (fun j v ej => ?_) l5 sm5 ac5
      rw [wipe_out fun q => (so2 j v ej).1 (ho j q)]
      exact (so2 j v ej).2
/-- the clauses behind the first -/
inductive GsOk (X : Cx) (cl : ClA) (cal : Cal) : List Comprehension → G → Prop
  | nil : GsOk X cl cal [] .nil
  | cons {tg iter : Expr} {ifs : List Expr} {gs : List Comprehension} {t : T} {own : List Nat} {it : I} {ifs' : List E} {g : G} : SI X cl cal tg iter it → SG X cl cal tg t → STs X cl cal ifs ifs' → (∀ x, foldedSetIterable iter X.env x = pure x) →
      (∀ j ∈ tvs t, j ∈ own) → (∀ j ∈ gown g, j ∈ own) → GsOk X cl cal gs g → GsOk X cl cal (⟨tg, iter, ifs, 0⟩ :: gs) (.cons t own it ifs' g)
/-- what is done at the innermost -/
def EmitOk (AR : ARel) (X : Cx) (cl : ClA) (e : Expr) (p : Addr) (ev : Em) : Prop :=
  ∀ (pins : List (Addr × Obj)) (s : Shared) (σ : L2.St) (H : Hp) (W : Wd) (ρ : Env) (m : Mem) (a a' : Acc) (m' : Mem), Inv X pins σ H s → Sim X.K cl W m H → REnv X.K cl W ρ σ → AccAt AR X.K cl W p a → ev ρ a m = .ok (a', m') →
    wpAny (model X.prog X.w) X.A (emitOf e (.ref p) X.env) (fun _ s' => ∃ H' W', Inv X pins σ H' s' ∧ LeP p W W' ∧ Sim X.K cl W' m' H' ∧ AccAt AR X.K cl W' p a') (fun _ _ => False) s
theorem bodiesOk (hc : X.calm = true) (hx : X.xe = fun _ _ => False) (he : isComp e = true) (h0 : ∀ g ∈ clausesOf e, g.is_async = 0) (hem : EmitOk AR X cl e p ev) :
    ∀ {gs : List Comprehension} {g : G}, GsOk X cl cal gs g → ∀ k, (clausesOf e).drop k = gs → BodyOk AR X cl e k p (gown g) (evG cal g ev) := by
  intro gs g hgs
  induction hgs with
  | nil =>
    intro k hk pins s σ H W ρ m a a' m' I sm rr ac h
    have hk' : (clausesOf e)[k]? = none := by
      rw [List.drop_eq_nil_iff] at hk
      exact List.getElem?_eq_none hk
    unfold bodyAt
    rw [hk']
    unfold evG at h
    exact thnF (hem pins s σ H W ρ m a a' m' I sm rr ac h) fun _ s' hq => hq
  | @cons tg iter ifs gs t own it ifs' g hsi hsg hst hfs hv ho hgs ih =>
    intro k hk pins s σ H W ρ m a a' m' I sm rr ac h
    have hk' : (clausesOf e)[k]? = some ⟨tg, iter, ifs, 0⟩ := by
      have := congrArg (fun l => l[0]?) hk
      simpa using this
    have hk1 : (clausesOf e).drop (k + 1) = gs := by
      rw [← List.drop_drop, hk]; rfl
    have hb := ih (k + 1) hk1
    unfold evG at h
    obtain ⟨sr, e1, e2⟩ := bind_ok h
    obtain ⟨c0, hl0, ha0⟩ := goSrc_at e2
    unfold bodyAt
    rw [hk']
    have hxf : ∀ {α : Type} {t : Sem α} {Q : α → Shared → Prop} {s : Shared}, wpAny (model X.prog X.w) X.A t Q X.xe s → wpAny (model X.prog X.w) X.A t Q (fun _ _ => False) s := fun h => by rw [hx] at h; exact h
    refine wpAny_bind (thnF (hxf (hsi.run pins s σ H (fun J H1 => ∃ W1, W.le W1 ∧ Sim X.K cl W1 sr.2 H1 ∧ ItOk X.K cl J W1 sr.1) I ⟨W, ρ, m, sr.1, sr.2, sm, rr, e1, fun W1 H1 J l1 s1 ok => ⟨W1, l1, s1, ok⟩⟩)) fun xv s1 hx1 => ?_)
    refine wpAny_bind (wpAny_standAt ?_)
    show wpAny _ _ (foldedSetIterable iter X.env xv >>= _) _ _ _
    refine wpAny_bind (wpAny_of_eq (hfs xv) (wpAny_bind (wpAny_holding (thnF (hxf hx1) fun itv s2 h2 => ?_))))
    obtain ⟨it1, fp, tn, J, H2, rfl, I2, T, st2, f2, W2, l2, sm2, ok⟩ := h2
    refine wpAny_bind (wpAny_runOwn ?_)
    rw [Around.mark_none]
    have loop : codeAny (model X.prog X.w) X.A (.compLoop e k (.ref it1) (.ref p) X.env) (fun r s' => match r with
        | .ok _ => ∃ H' W', Inv X pins (L2.wipe σ own) H' s' ∧ LeP p W W' ∧ Sim X.K cl W' m' H' ∧ AccAt AR X.K cl W' p a'
        | .error _ => False) s2 := by
      refine loopOk hc hx he hk' h0 hsg hst hb hv ho (pins := pins) (σ := σ) (W0 := W2) (ρ := ρ) (fp := fp) (tn := tn) (src := sr.1) (a' := a') (m' := m') (fun H b hb' hn _ _ _ => ⟨hn, (f2 b hb').2⟩) T ok (rr.up l2) (fun H W' s' I' l' sm' ac' => ⟨H, W', I', (LeP.of l2).trans l', sm', ac'⟩) c0 0 s2 H2 W2 a sr.2
        (I2.weak (wipe_length _ _) (fun j v e => (wipe_some e).1)) st2 (fun b hb' => (f2 b hb').1) LeP.refl sm2 (ac.up l2) hl0 ha0
    refine codeAny_mono (compStartG he hk' loop (T.self X.A 0 _ _ _ st2 loop)) fun r s' hr => ?_
    cases r with
    | ok f => first | exact wpAny_pure hr | exact hr
    | error x => exact hr.elim
end
end Mi
end
section
set_option linter.all false
set_option Elab.async false
set_option maxRecDepth 100000
set_option maxHeartbeats 2000000
/-! Mi10: comprehensions, as values and stored. -/
namespace Mi
open PySem PySem.Spec PyProof.Rows L2
/-- a comprehension's accumulator, new -/
def NewOk (X : Cx) (newAcc : Sem Value) (o0 : Addr → HO) : Prop := ∀ (pins : List (Addr × Obj)) (σ : L2.St) (H : Hp) (s : Shared) (Q : Value → Shared → Prop) (E : Value → Shared → Prop), Inv X pins σ H s →
  (∀ s' o, s'.heap = s.heap.push o → Inv X pins σ (upd H s.heap.objs.size (o0 s.heap.objs.size)) s' → Q (.ref s.heap.objs.size) s') → wpAny (model X.prog X.w) X.A newAcc Q E s
/-- all that a block asks of its own context -/
structure BlkAll (AR : ARel) (X : Cx) (cl : ClA) (cal : Cal) (e tg : Expr) (ifs : List Expr) (gs : List Comprehension) (t : T) (ifs' : List E) (g : G) (ev : Em) : Prop where
  tg : SG X cl cal tg t
  ts : STs X cl cal ifs ifs'
  gs : GsOk X cl cal gs g
  em : ∀ p, EmitOk AR X cl e p ev
section
variable {X : Cx} {cl : ClA} {cal : Cal} {AR : ARel} {o0 : Addr → HO}
/-- the context of a block -/
abbrev InBlk (X : Cx) (scope : Scope) (Pr : Cx → Prop) : Prop := ∀ (s : Shared) (H : Hp) (C : Addr) (cl : List (Str × Addr)) (fp : List Addr), Pr (X.blk s H scope (compEnvC scope cl C X.env) fp)
theorem comp_core {e tg iter : Expr} {ifs : List Expr} {gs : List Comprehension} {scope : Scope} {own : List (Str × Nat)} {pos' : Pos} {t : T} {it : I} {ifs' : List E} {g : G} {ev : Em} {newAcc : Sem Value} {sh0 : Sh} {use : Option (Value → Sem Unit)} {Qf : Value → Shared → Prop}
    {pins : List (Addr × Obj)} {s : Shared} {σ : L2.St} {H : Hp} {W : Wd} {ρ : Env} {m m1 m' : Mem} {src : Src} {a' : Acc}
    (hc : X.calm = true) (hN : X.N.Nodup) (he : isComp e = true) (hcl : clausesOf e = ⟨tg, iter, ifs, 0⟩ :: gs) (h0 : ∀ g ∈ clausesOf e, g.is_async = 0)
    (hi : SI X cl cal tg iter it) (ok : BlkOk X.N X.env.scope scope own) (hB : InBlk X scope fun Y => BlkAll AR Y cl cal e tg ifs gs t ifs' g ev) (hs : ∀ x, foldedSetIterable iter X.env x = pure x)
    (hv : ∀ j ∈ tvs t, j ∈ own.map (·.2)) (ho : ∀ j ∈ gown g, j ∈ own.map (·.2)) (hnew : NewOk X newAcc o0) (hsh : ∀ p, AR p (sh0, []) [] (o0 p)) (hsl : ∀ p, isT (o0 p) = false)
    (I : Inv X pins σ H s) (sm : Sim X.K cl W m H) (rr : REnv X.K cl W ρ σ) (e1 : evI cal it ρ m = .ok (src, m1)) (e2 : goSrc (turnF cal t ifs' (own.map (·.2)) ρ (evG cal g ev)) src (sh0, []) m1 = .ok (a', m'))
    (hRR : ∀ (p C : Addr) (s' : Shared) (mm : Str → Option Value) (H' : Hp) (W' : Wd) (xs : List V) (o : HO), W.le W' → Inv X pins σ H' s' → Sim X.K cl W' m' H' → H' p = some o → AR p a' xs o → Rps X.K cl W' a'.2 xs →
      (∀ n, W'.io n ≠ some p) → W'.F p = none → W'.B p = none → W'.P p = none → s'.heap.Ns C mm → FpOk X pins H' C → compPost (model X.prog X.w) X.A X.xe use Qf (.ref p) C (.ok .next) s') :
    wpAny (model X.prog X.w) X.A (comprehension e scope X.env pos' newAcc false (eval iter X.env) use) Qf X.xe s := by
  have hfree : ∀ y ∈ scope.names, y.2 = .free → ∃ c, X.env.cells.lookup y.1 = some c := fun y hy e => by
    rcases ok.free y hy e with k | k
    · exact I.ok.has _ (.inl k)
    · exact I.ok.has _ (.inr k)
  refine wpAny_comprehension_free (use := use) hcl hs (closure_ok hfree) ok.kind (fun y hy e => by rw [ok.uniq y hy, e])
    (thn (hi.run pins s σ H (fun J H1 => ∃ W1, W.le W1 ∧ Sim X.K cl W1 m1 H1 ∧ ItOk X.K cl J W1 src) I ⟨W, ρ, m, src, m1, sm, rr, e1, fun W1 H1 J l1 s1 ok => ⟨W1, l1, s1, ok⟩⟩) fun xv s1 hx => thn hx fun itv s2 h2 => ?_)
  obtain ⟨it, fp, tn, J, H2, e, I2, T, st2, f2, W1, l1, sm1, itok⟩ := h2
  subst e
  refine hnew pins σ H2 s2 _ _ I2 fun s3 ob h3 I3 => newEnv_comp ?_
  generalize hD : s2.heap.objs.size = p at *
  have hDn : H2 p = none := I2.hok.fresh (Nat.le_of_eq hD)
  obtain ⟨w1, w2, w3, w4⟩ := sm1.free hDn
  obtain ⟨sm3, l3⟩ := sm1.priv (p := p) (o := o0 p) w1 w2 w3 (hsl p)
  generalize hW3 : ({ W1 with P := upd W1.P p (o0 p) } : Wd) = W3 at sm3 l3
  have ac3 : AccAt AR X.K cl W3 p (sh0, []) := ⟨[], o0 p, by rw [← hW3]; exact upd_same, hsh p, hsl p, Rps.nil⟩
  have sz : ∀ b ∈ fp, b < s2.heap.objs.size := fun b hb => by
    obtain ⟨o, e, _⟩ := T.obj _ _ st2 b hb
    exact Heap.lt_size e
  have f3 : ∀ b ∈ fp, FpOk X pins (upd H2 p (o0 p)) b ∧ b < s3.heap.objs.size := fun b hb => by
    have hlt := sz b hb
    refine ⟨⟨?_, (f2 b hb).2⟩, by rw [h3, Heap.size_push]; exact Nat.lt_succ_of_lt hlt⟩
    rw [upd_ne (by rw [← hD]; exact Nat.ne_of_lt hlt)]
    exact (f2 b hb).1
  have st3 : tn 0 s3.heap := T.keep _ _ _ st2 fun b _ o e => by rw [h3]; exact Heap.get?_push_of_some _ e
  have I4 := block_start I3 ok hN f3
  have B := hB s3 (upd H2 p (o0 p)) s3.heap.objs.size (cellsFrom (s3.heap.objs.size + 1) scope.names (cloFrom X.env.cells scope.names [])) fp
  show codeAny _ _ (.compStart e 0 (.ref it) (.ref p) (compEnvC scope (cellsFrom (s3.heap.objs.size + 1) scope.names (cloFrom X.env.cells scope.names [])) s3.heap.objs.size X.env)) (compPost (model X.prog X.w) X.A X.xe use Qf (.ref p) s3.heap.objs.size) { s3 with heap := pushCells (s3.heap.push { cls := .type "dict", data := .dict #[] }) scope.names }
  have nfp : ∀ b ∈ fp, (upd H2 p (o0 p)) b = none := fun b hb => (f3 b hb).1.1
  generalize hce : compEnvC scope (cellsFrom (s3.heap.objs.size + 1) scope.names (cloFrom X.env.cells scope.names [])) s3.heap.objs.size X.env = ce at I4 B ⊢
  have cL : ce.locals = s3.heap.objs.size := by subst hce; rfl
  generalize hH3 : upd H2 p (o0 p) = H3 at *
  generalize hs4 : ({ s3 with heap := pushCells (s3.heap.push { cls := .type "dict", data := .dict #[] }) scope.names } : Shared) = s4 at I4 ⊢
  have st4 : tn 0 s4.heap := T.keep _ _ _ st3 fun b _ o e => by rw [← hs4]; exact pushCells_keeps _ _ _ _ (Heap.get?_push_of_some _ e)
  obtain ⟨c0, hl0, ha0⟩ := goSrc_at e2
  have hk : (clausesOf e)[0]? = some ⟨tg, iter, ifs, 0⟩ := by rw [hcl]; rfl
  have hk1 : (clausesOf e).drop (0 + 1) = gs := by rw [hcl]; rfl
  have loop : codeAny (model X.prog X.w) X.A (.compLoop e 0 (.ref it) (.ref p) ce) (compPost (model X.prog X.w) X.A X.xe use Qf (.ref p) s3.heap.objs.size) s4 := by
    refine loopOk (X := X.blk s3 H3 scope ce fp) (pins := []) (σ := σ) (W0 := W3) (ρ := ρ) (fp := fp) (tn := tn) (src := src) (a' := a') (m' := m') hc rfl he hk h0 B.tg B.ts (bodiesOk (X := X.blk s3 H3 scope ce fp) hc rfl he h0 (B.em p) B.gs 1 hk1) hv ho
      (fun H' b hb hn {σ'} {s'} I' => ⟨hn, (I'.ok.exf b hb).1, I'.ok.exfs b hb, .inl hb, fun x c e => (I'.ok.exf b hb).2 x c e, fun q hq => absurd (show q ∈ ([] : List (Addr × Obj)) ++ [] from hq) (by simp)⟩)
      T (fun W m H i l s => itok W m H i ⟨fun n a h => l.io n a (l3.io n a h), fun n a h => l.F n a (l3.F n a h), l.B.trans l3.B⟩ s) ((rr.up l1).up0 l3.z) ?_ c0 0 s4 H3 W3 (sh0, []) m1 I4 st4 nfp LeP.refl sm3 ac3 hl0 ha0
    intro H5 W5 s6 I6 l5 sm5 ac5
    have I7 : Inv X pins σ H5 s6 := I3.call' (ch := fp) I6.os I6.base I6.hok I6.bare fun b hb => ⟨(f3 b hb).1.2.2.2.1, (f3 b hb).1.2.1, (f3 b hb).1.2.2.2.2.1, (f3 b hb).1.2.2.2.2.2⟩
    have nC : H5 s3.heap.objs.size = none := by
      have z : H5 ce.locals = none := I6.free
      rw [cL] at z
      exact z
    obtain ⟨mm, hn, _⟩ := I6.loc
    have hn : s6.heap.Ns ce.locals mm := hn
    rw [cL] at hn
    obtain ⟨xs, o, x1, x2, x3, x4⟩ := ac5
    obtain ⟨l6, sm6⟩ := Sim.letGo sm5 (l3.trans l5) w4
    obtain ⟨y1, y2, y3⟩ := sm5.privFree x1
    refine hRR p s3.heap.objs.size s6 mm H5 _ xs o (l1.trans l6) I7 sm6 (sm5.P _ _ x1).1 x2 (Rps.up0 (W := W5) (W' := { W5 with P := W1.P }) ⟨fun _ _ h => h, fun _ _ h => h, rfl⟩ x4) y1 y2 y3 w4 hn (I3.fpOk (Nat.le_refl _) nC)
  exact compStartG he hk loop (T.self X.A 0 _ _ _ st4 loop)
/-- a comprehension is this reckoning: its scope, its accumulator -/
structure CompOk (AR : ARel) (o0 : Addr → HO) (X : Cx) (cl : ClA) (cal : Cal) (e : Expr) (scope : Scope) (pos : Pos) (tg iter : Expr) (ifs : List Expr) (gs : List Comprehension) (newAcc : Sem Value) (sh0 : Sh) (own : List (Str × Nat)) (t : T) (it : I) (ifs' : List E) (g : G) (ev : Em) : Prop where
  ev1 : ∀ env, eval e env = comprehension e scope env pos newAcc false (eval iter env) none
  ev2 : ∀ env u, evalThenUse e env u = (do let _ ← comprehension e scope env pos newAcc false (eval iter env) (some u))
  comp : isComp e = true
  cls : clausesOf e = ⟨tg, iter, ifs, 0⟩ :: gs
  syn : ∀ g ∈ clausesOf e, g.is_async = 0
  it : SI X cl cal tg iter it
  ok : BlkOk X.N X.env.scope scope own
  blk : InBlk X scope fun Y => BlkAll AR Y cl cal e tg ifs gs t ifs' g ev
  fs : ∀ x, foldedSetIterable iter X.env x = pure x
  tv : ∀ j ∈ tvs t, j ∈ own.map (·.2)
  gv : ∀ j ∈ gown g, j ∈ own.map (·.2)
  nw : NewOk X newAcc o0
  sh : ∀ p, AR p (sh0, []) [] (o0 p)
  sl : ∀ p, isT (o0 p) = false
variable {e : Expr} {scope : Scope} {pos : Pos} {tg iter : Expr} {ifs : List Expr} {gs : List Comprehension} {newAcc : Sem Value} {sh0 : Sh} {own : List (Str × Nat)} {t : T} {it : I} {ifs' : List E} {g : G} {ev : Em}
/-- a comprehension's reckoning -/
def evC (cal : Cal) (sh0 : Sh) (own : List (Str × Nat)) (t : T) (it : I) (ifs' : List E) (g : G) (ev : Em) (fr : Bool) (ρ : Env) (m : Mem) : R (D × Mem) :=
  (evI cal it ρ m).bind fun s => (goSrc (turnF cal t ifs' (own.map (·.2)) ρ (evG cal g ev)) s.1 (sh0, []) s.2).bind fun r => .ok (fin fr r.1.1 r.1.2 r.2)
theorem se_comp {e' : E} {fr : Bool} (har : ∀ p a xs o, AR p a xs o → arSh p a xs o) (hc : X.calm = true) (hN : X.N.Nodup) (h : CompOk AR o0 X cl cal e scope pos tg iter ifs gs newAcc sh0 own t it ifs' g ev) (he : ∀ ρ m, evE cal e' ρ m = evC cal sh0 own t it ifs' g ev fr ρ m) : SE X cl cal e e' := by
  refine ⟨fun pins s σ H Q I h0 => ?_⟩
  obtain ⟨W, ρ, m, d, m', sm, rr, ee, q⟩ := h0
  rw [he] at ee
  unfold evC at ee
  obtain ⟨x, e1, ee⟩ := bind_ok ee
  obtain ⟨y, e2, ee⟩ := bind_ok ee
  rw [h.ev1]
  refine comp_core hc hN h.comp h.cls h.syn h.it h.ok h.blk h.fs h.tv h.gv h.nw h.sh h.sl I sm rr e1 e2 fun p C s' mm H' W' xs o l I' sm' hp hAR rs f1 f2 f3 f4 hn f => ⟨mm, hn, fun h'' sb => ?_⟩
  obtain ⟨g0, g1, g2, g3, g4, g5⟩ := f
  obtain ⟨ho, hl, ht⟩ := har _ _ _ _ hAR
  obtain ⟨W2, l2, sm2, rp⟩ := sm'.adopt fr (ho ▸ hp) f1 f2 f3 f4 rs hl (.inr ht)
  have ee' : fin fr y.1.1 y.1.2 y.2 = (d, m') := by injection ee
  rw [ee'] at sm2 rp
  exact ⟨.ref p, H', I'.turned (t' := s'.toks) (fun b o hb e => (sb.2 b hb).trans e) g0 g1 g3 g4 g5, rfl, q W2 H' (.ref p) (l.trans l2) sm2 rp⟩
theorem ss_setComp {e' : E} {fr : Bool} {i : Nat} {y : Str} {py spos : Pos} (har : ∀ p a xs o, AR p a xs o → arSh p a xs o) (hc : X.calm = true) (hN : X.N.Nodup) (hy : X.N[i]? = some y) (hyl : X.env.scope.names.lookup y = some .local) (hsw : swapsWith e (some (.Name y py)) spos.line X.env = pure true)
    (h : CompOk AR o0 X cl cal e scope pos tg iter ifs gs newAcc sh0 own t it ifs' g ev) (he : ∀ ρ m, evE cal e' ρ m = evC cal sh0 own t it ifs' g ev fr ρ m) : SS X cl cal (.Assign [.Name y py] e spos) (.asg (.var i) e') := by
  refine ⟨fun pins s σ H D I h0 => ?_⟩
  obtain ⟨W, ρ, m, fl, m', sm, rr, ee, q⟩ := h0
  unfold evS at ee
  obtain ⟨x0, ex, ee⟩ := bind_ok ee
  obtain ⟨y0, ey, ee⟩ := bind_ok ee
  cases ee
  unfold asgn at ey
  cases ey
  rw [he] at ex
  unfold evC at ex
  obtain ⟨x, e1, ex⟩ := bind_ok ex
  obtain ⟨z, e2, ex⟩ := bind_ok ex
  rw [exec_Assign_Name_used _ _ _ _ hsw]
  refine wpAny_bind (wpAny_standAt (wpAny_bind ?_))
  rw [h.ev2]
  refine wpAny_bind (thn (comp_core (Qf := fun _ s' => SP X pins D .next s') hc hN h.comp h.cls h.syn h.it h.ok h.blk h.fs h.tv h.gv h.nw h.sh h.sl I sm rr e1 e2 fun p C s' mm H' W' xs o l I' sm' hp hAR rs g1 g2 g3 g4 hn f => ?_) fun _ s' hq => wpAny_pure (wpAny_pure hq))
  show wpAny _ _ (assign (.Name y py) X.env (.ref p)) _ _ _
  refine wpAny_assign_Name (store_ok2 (v := V.ref p) I' hN hy (.inl hyl) rfl (fun s2 I2 ⟨a, sb, ha⟩ => ?_) (.inr hyl))
  obtain ⟨f0, f1, f2, f3, f4, f5⟩ := f
  have haC : C ≠ a := by
    rcases ha with z | z
    · rw [z]; exact f1
    · exact fun e => f4 y a z e.symm
  refine ⟨mm, hn.sameBut sb haC, fun h3 sb3 => ?_⟩
  obtain ⟨ho, hl, ht⟩ := har _ _ _ _ hAR
  obtain ⟨W2, l2, sm2, rp⟩ := sm'.adopt fr (ho ▸ hp) g1 g2 g3 g4 rs hl (.inr ht)
  have ee' : fin fr z.1.1 z.1.2 z.2 = x0 := by injection ex
  rw [ee'] at sm2 rp
  exact ⟨_, H', I2.turned (t' := s2.toks) (fun b o hb e => (sb3.2 b hb).trans e) f0 f1 f3 f4 f5, q W2 _ H' (l.trans l2) sm2 ((rr.up (l.trans l2)).set rp)⟩
end
end Mi
end
section
set_option linter.all false
set_option Elab.async false
set_option maxRecDepth 100000
set_option maxHeartbeats 2000000
/-! Mi11: what comprehensions put: lists, dicts, sets of keys. -/
namespace Mi
open PySem PySem.Spec PyProof.Rows L2
def arL : ARel := fun _ a xs o => a.1 = .lst ∧ o = .lst xs
def arK : ARel := fun _ a xs o => ∃ ks, a.1 = .dK ks ∧ ks.length = xs.length ∧ o = .dK (ks.zip xs)
theorem arL_sh (p : Addr) (a : Acc) (xs : List V) (o : HO) (h : arL p a xs o) : arSh p a xs o := by
  obtain ⟨sh, ds⟩ := a
  obtain ⟨h1, h2⟩ := h
  have h1 : sh = .lst := h1
  subst h1
  exact ⟨h2, rfl, fun z => by cases z⟩
theorem arK_sh (p : Addr) (a : Acc) (xs : List V) (o : HO) (h : arK p a xs o) : arSh p a xs o := by
  obtain ⟨sh, ds⟩ := a
  obtain ⟨ks, h1, h2, h3⟩ := h
  have h1 : sh = .dK ks := h1
  subst h1
  exact ⟨h3, by simp [shLen, h2], fun z => by cases z⟩
section
variable {X : Cx} {cl : ClA} {cal : Cal} {elt kx vx : Expr} {gens : List Comprehension} {scope : Scope} {pos : Pos} {e' k' v' : E}
theorem emit_list (hx : X.xe = fun _ _ => False) (h : SE X cl cal elt e') (p : Addr) : EmitOk arL X cl (.ListComp elt gens scope pos) p (fun ρ acc m => (evE cal e' ρ m).bind fun x => (putL acc x.1).bind fun acc => .ok (acc, x.2)) := by
  intro pins s σ H W ρ m a a' m' I sm rr ac ee
  obtain ⟨x, e1, ee⟩ := bind_ok ee
  obtain ⟨a1, e2, ee⟩ := bind_ok ee
  cases ee
  unfold putL at e2
  obtain ⟨hl, e2⟩ := if_ok e2 rfl
  cases e2
  have hxf : ∀ {α : Type} {t : Sem α} {Q : α → Shared → Prop} {s : Shared}, wpAny (model X.prog X.w) X.A t Q X.xe s → wpAny (model X.prog X.w) X.A t Q (fun _ _ => False) s := fun h => by rw [hx] at h; exact h
  show wpAny _ _ (eval elt X.env >>= fun v => (call (.builtin "list.append") [.ref p, v] >>= fun _ => pure ())) _ _ _
  refine wpAny_bind (thnF (hxf (h.run pins s σ H (fun v H1 => ∃ W1, W.le W1 ∧ Sim X.K cl W1 x.2 H1 ∧ Rp X.K cl W1 x.1 v) I ⟨W, ρ, m, x.1, x.2, sm, rr, e1, fun W1 H1 v l1 s1 r1 => ⟨W1, l1, s1, r1⟩⟩)) fun v s1 ⟨y, H1, I1, ry, W1, l1, sm1, rp1⟩ => ?_)
  obtain ⟨xs, o, p1, ⟨p2, rfl⟩, p3, p4⟩ := ac.up l1
  have hp := (sm1.P _ _ p1).1
  refine wpAny_bind (app_ok I1 hp (by rw [← p4.length]; exact hl) ry fun s2 I2 => wpAny_pure ?_)
  obtain ⟨q1, q2, q3⟩ := sm1.privFree p1
  obtain ⟨sm2, l2⟩ := sm1.priv (p := p) (o := .lst (xs ++ [y])) q1 q2 q3 rfl
  exact ⟨_, _, I2, (LeP.of l1).trans l2, sm2, xs ++ [y], _, upd_same, ⟨p2, rfl⟩, rfl, (p4.append (Rps.cons rp1 Rps.nil)).up0 l2.z⟩
theorem emit_dict (hx : X.xe = fun _ _ => False) (hk : SE X cl cal kx k') (hv : SE X cl cal vx v') (p : Addr) : EmitOk arK X cl (.DictComp kx vx gens scope pos) p (fun ρ acc m => (evE cal k' ρ m).bind fun x => (evE cal v' ρ x.2).bind fun y => (putC acc x.1 y.1).bind fun acc => .ok (acc, y.2)) := by
  intro pins s σ H W ρ m a a' m' I sm rr ac ee
  obtain ⟨x, e1, ee⟩ := bind_ok ee
  obtain ⟨y, e2, ee⟩ := bind_ok ee
  obtain ⟨a1, e3, ee⟩ := bind_ok ee
  cases ee
  have hxf : ∀ {α : Type} {t : Sem α} {Q : α → Shared → Prop} {s : Shared}, wpAny (model X.prog X.w) X.A t Q X.xe s → wpAny (model X.prog X.w) X.A t Q (fun _ _ => False) s := fun h => by rw [hx] at h; exact h
  show wpAny _ _ (eval kx X.env >>= fun kv => (holding [kv] (eval vx X.env) >>= fun vv => (standAt { kx.pos with endLine := vx.pos.endLine, endCol := vx.pos.endCol } >>= fun _ => holding [kv, vv] (dictSet p kv vv)))) _ _ _
  refine wpAny_bind (thnF (hxf (hk.run pins s σ H (fun v H1 => ∃ W1, W.le W1 ∧ Sim X.K cl W1 x.2 H1 ∧ Rp X.K cl W1 x.1 v) I ⟨W, ρ, m, x.1, x.2, sm, rr, e1, fun W1 H1 v l1 s1 r1 => ⟨W1, l1, s1, r1⟩⟩)) fun kv s1 ⟨yk, H1, I1, rk, W1, l1, sm1, rp1⟩ => ?_)
  refine wpAny_bind (wpAny_holding (thnF (hxf (hv.run pins s1 σ H1 (fun v H2 => ∃ W2, W1.le W2 ∧ Sim X.K cl W2 y.2 H2 ∧ Rp X.K cl W2 y.1 v) I1 ⟨W1, ρ, x.2, y.1, y.2, sm1, rr.up l1, e2, fun W1 H1 v l1 s1 r1 => ⟨W1, l1, s1, r1⟩⟩)) fun vv s2 ⟨yv, H2, I2, rv, W2, l2, sm2, rp2⟩ => ?_))
  refine wpAny_bind (wpAny_standAt (wpAny_holding ?_))
  obtain ⟨xs, o, p1, ⟨ks, p2, hl, rfl⟩, p3, p4⟩ := (ac.up l1).up l2
  obtain ⟨sh, ds⟩ := a
  have p2 : sh = .dK ks := p2
  subst p2
  simp only [putC] at e3
  split at e3
  · rename_i k hk'
    obtain ⟨hm, e3⟩ := if_ok e3 rfl
    cases e3
    have hp := (sm2.P _ _ p1).1
    have ek := kV_of hk' rp1
    subst ek
    obtain ⟨ys, z1, z2, z3⟩ := kput_rel k hl rp2 p4
    refine d_dictSet I2 hp (by rw [List.length_zip, ← hl, Nat.min_self]; exact hm) rk rv fun s3 I3 => ?_
    obtain ⟨q1, q2, q3⟩ := sm2.privFree p1
    obtain ⟨sm3, l3⟩ := sm2.priv (p := p) (o := .dK (putK (ks.zip xs) k yv)) q1 q2 q3 rfl
    exact ⟨_, _, I3, ((LeP.of l1).trans (LeP.of l2)).trans l3, sm3, ys, _, upd_same, ⟨_, rfl, z1, by rw [z2]⟩, rfl, z3.up0 l3.z⟩
  · cases e3
theorem new_list : NewOk X (newList []) (fun _ => .lst []) := by
  intro pins σ H s Q E I h
  refine wpAny_newObj_type (h _ _ rfl ?_) (by show 0 ≤ sizeLine; decide)
  exact I.laid (t' := s.toks) (fun b o e => Heap.get?_push_of_some _ e) (Nat.le_refl _) ⟨Nat.zero_le _, [], 0, .nil, Heap.get?_push_size _ rfl⟩
theorem new_dict : NewOk X newDict (fun _ => .dK []) := by
  intro pins σ H s Q E I h
  refine wpAny_newObj_type (h _ _ rfl ?_)
  exact I.laid (t' := s.toks) (fun b o e => Heap.get?_push_of_some _ e) (Nat.le_refl _) (dk_empty s.heap I.big)
/-! sets of keys -/
def arS (P : Program) (w : World) : ARel := fun p a _ o => a.1 = .lst ∧ a.2.length + 1 < scanBound ∧ o = SetK P w p (fun j => memK j a.2) a.2.length
theorem emit_set (hx : X.xe = fun _ _ => False) (h : SE X cl cal elt e') (p : Addr) : EmitOk (arS X.prog X.w) X cl (.SetComp elt gens scope pos) p (fun ρ acc m => (evE cal e' ρ m).bind fun x => (putS acc x.1).bind fun acc => .ok (acc, x.2)) := by
  intro pins s σ H W ρ m a a' m' I sm rr ac ee
  obtain ⟨x, e1, ee⟩ := bind_ok ee
  obtain ⟨a1, e2, ee⟩ := bind_ok ee
  cases ee
  have hxf : ∀ {α : Type} {t : Sem α} {Q : α → Shared → Prop} {s : Shared}, wpAny (model X.prog X.w) X.A t Q X.xe s → wpAny (model X.prog X.w) X.A t Q (fun _ _ => False) s := fun h => by rw [hx] at h; exact h
  show wpAny _ _ (eval elt X.env >>= fun v => (standAt elt.pos >>= fun _ => (call (.builtin "set.add") [.ref p, v] >>= fun _ => pure ()))) _ _ _
  refine wpAny_bind (thnF (hxf (h.run pins s σ H (fun v H1 => ∃ W1, W.le W1 ∧ Sim X.K cl W1 x.2 H1 ∧ Rp X.K cl W1 x.1 v) I ⟨W, ρ, m, x.1, x.2, sm, rr, e1, fun W1 H1 v l1 s1 r1 => ⟨W1, l1, s1, r1⟩⟩)) fun v s1 ⟨y, H1, I1, ry, W1, l1, sm1, rp1⟩ => ?_)
  refine wpAny_bind (wpAny_standAt ?_)
  obtain ⟨xs, o, p1, ⟨p2, pn, rfl⟩, p3, p4⟩ := ac.up l1
  have hp := (sm1.P _ _ p1).1
  unfold putS at e2
  split at e2
  · rename_i k hk
    have ek := kV_of hk rp1
    subst ek
    refine wpAny_bind (thnF (hxf (mt_saddK pins s1 σ H1 (.ref p) [kV k] (.ref p) [v] (fun _ H2 => ∃ W2, LeP p W W2 ∧ Sim X.K cl W2 x.2 H2 ∧ AccAt (arS X.prog X.w) X.K cl W2 p a') I1 rfl (.cons ry .nil) ⟨p, k, _, _, rfl, rfl, hp, pn, ?_⟩)) fun _ s2 ⟨_, H2, I2, _, W2, l2, sm2, ac2⟩ => wpAny_pure ⟨H2, W2, I2, l2, sm2, ac2⟩)
    obtain ⟨q1, q2, q3⟩ := sm1.privFree p1
    split at e2
    · rename_i hm
      cases e2
      have hf : (fun j => memK j a.2 || decide (j = k)) = fun j => memK j a.2 := by
        funext j
        by_cases hj : j = k
        · subst hj; simp [hm]
        · simp [hj]
      rw [if_pos hm, hf]
      obtain ⟨sm2, l2⟩ := sm1.priv (p := p) (o := SetK X.prog X.w p (fun j => memK j a.2) a.2.length) q1 q2 q3 rfl
      exact ⟨_, (LeP.of l1).trans l2, sm2, xs, _, upd_same, ⟨p2, pn, rfl⟩, rfl, p4.up0 l2.z⟩
    · rename_i hm
      obtain ⟨hl, e2⟩ := if_ok e2 rfl
      cases e2
      have hf : (fun j => memK j a.2 || decide (j = k)) = fun j => memK j (a.2 ++ [x.1]) := by
        funext j
        unfold memK
        rw [List.any_append]
        by_cases hj : j = k
        · subst hj; simp [hk]
        · have hj' : ¬ k = j := fun z => hj z.symm
          simp [hj, hj', hk]
      rw [if_neg hm, hf]
      obtain ⟨sm2, l2⟩ := sm1.priv (p := p) (o := SetK X.prog X.w p (fun j => memK j (a.2 ++ [x.1])) (a.2.length + 1)) q1 q2 q3 rfl
      exact ⟨_, (LeP.of l1).trans l2, sm2, xs ++ [kV k], _, upd_same, ⟨p2, by simpa using hl, by simp⟩, rfl, (p4.append (Rps.cons rp1 Rps.nil)).up0 l2.z⟩
  · cases e2
theorem new_set : NewOk X (newSet (.type "set")) (fun p => SetK X.prog X.w p (fun _ => false) 0) := by
  intro pins σ H s Q E I h
  unfold newSet
  refine wpAny_bind ?_
  unfold setsByText
  show wpAny _ _ (ask >>= _) _ _ s
  refine wpAny_bind (wpAny_askSetting ?_)
  refine wpAny_pure ?_
  refine wpAny_newObj_type (h _ _ rfl ?_)
  have new : (s.heap.push { cls := .type "set", dict := none, data := .set #[] 0 (.fresh 0 0 (!X.w.params.followText "set-order")) }).SetOf (mixKind X.prog X.w) s.heap.objs.size (fun _ => false) 0 :=
    ⟨_, #[], 0, _, Heap.get?_push_size _ rfl, ⟨rfl, rfl, rfl⟩, rfl, (fun e he => by simp at he), (fun k => by simp), (by decide), (by rfl), rfl⟩
  exact I.laid (t' := s.toks) (fun b u e => Heap.get?_push_of_some _ e) (Nat.le_refl _) (setK_new new)
/-- len({.. for ..}) -/
theorem call_lenK : CallR X (.builtin "len") (fun xs H Q => ∃ a S n, xs = [V.ref a] ∧ n < scanBound ∧ H a = some (SetK X.prog X.w a S n) ∧ Q (.int n) H) := by
  intro pins s σ H xs us Q I r h
  obtain ⟨a, S, n, rfl, hn, ha, q⟩ := h
  obtain ⟨u, rfl, ru⟩ := vals1 r
  cases ru
  obtain ⟨o, es, ep, t, ho, hex, hd, _, _, hb, hf, rfl⟩ := setK_get I ha
  exact call_len_set ho hex hd hf (by have : scanBound < 2 ^ 62 := by decide
                                      omega) ⟨.int es.size, H, I.tok _, ⟨_, rfl⟩, q⟩
/-- the set's own reading -/
theorem se_lenSc {scp : Scope} {tg iter : Expr} {ifs : List Expr} {gs : List Comprehension} {own : List (Str × Nat)} {t : T} {it : I} {ifs' : List E} {g : G} {ev : Em} {fr : Bool} {p p2 pos1 : Pos} {sc : Expr} {sc' : E} (hc : X.calm = true) (hN : X.N.Nodup) (hg : Gl X "len") (hm : X.mg "len" = none)
    (h : CompOk (arS X.prog X.w) (fun p => SetK X.prog X.w p (fun _ => false) 0) X cl cal sc scp pos1 tg iter ifs gs (newSet (.type "set")) .lst own t it ifs' g ev)
    (he : ∀ ρ m, evE cal sc' ρ m = (evI cal it ρ m).bind fun s => (goSrc (turnF cal t ifs' (own.map (·.2)) ρ (evG cal g ev)) s.1 (.lst, []) s.2).bind fun r => .ok (lstD r.1.2, r.2))
    (hs : starEach [sc] X.env = (false, eval sc X.env) :: starEach [] X.env) : SE X cl cal (.Call (.Name "len" p) [sc] [] pos) (.bi .len fr [sc']) := by
  have hsc : PE X sc (fun σ H Q => ∃ W ρ m ds m', Sim X.K cl W m H ∧ REnv X.K cl W ρ σ ∧ evE cal sc' ρ m = .ok (lstD ds, m') ∧ ∀ W' H' p, W.le W' → Sim X.K cl W' m' H' → ds.length < scanBound → H' p = some (SetK X.prog X.w p (fun j => memK j ds) ds.length) → Q (.ref p) H') := by
    refine ⟨fun pins s σ H Q I h0 => ?_⟩
    obtain ⟨W, ρ, m, ds, m', sm, rr, ee, q⟩ := h0
    rw [he] at ee
    obtain ⟨x, e1, ee⟩ := bind_ok ee
    obtain ⟨y, e2, ee⟩ := bind_ok ee
    cases ee
    rw [h.ev1]
    refine comp_core hc hN h.comp h.cls h.syn h.it h.ok h.blk h.fs h.tv h.gv h.nw h.sh h.sl I sm rr e1 e2 fun p C s' mm H' W' xs o l I' sm' hp hAR rs f1 f2 f3 f4 hn f => ⟨mm, hn, fun h'' sb => ?_⟩
    obtain ⟨g0, g1, g2, g3, g4, g5⟩ := f
    obtain ⟨_, a2, rfl⟩ := hAR
    exact ⟨.ref p, H', I'.turned (t' := s'.toks) (fun b o hb e => (sb.2 b hb).trans e) g0 g1 g3 g4 g5, rfl, q W' H' p l sm' (by omega) hp⟩
  refine (pe_callB call_lenK hg hm rfl (pa_cons hsc pa_nil hs) (by decide) rfl hs rfl).imp fun σ H Q h0 => ?_
  obtain ⟨W, ρ, m, d, m', sm, rr, ee, q⟩ := h0
  unfold evE at ee
  obtain ⟨x, e1, ee⟩ := bind_ok ee
  unfold evEs at e1
  obtain ⟨y, e2, e1⟩ := bind_ok e1
  obtain ⟨z, e3, e1⟩ := bind_ok e1
  unfold evEs at e3
  cases e3
  cases e1
  have e2' := e2
  rw [he] at e2'
  obtain ⟨x1, e4, e2'⟩ := bind_ok e2'
  obtain ⟨y1, e5, e2'⟩ := bind_ok e2'
  cases e2'
  simp only [bi, asV, biLen] at ee
  obtain ⟨d1, e6, ee⟩ := bind_ok ee
  cases ee
  refine ⟨W, ρ, m, y1.1.2, y1.2, sm, rr, e2, fun W' H' p l s' hl hp => ⟨p, _, _, rfl, hl, hp, ?_⟩⟩
  simp only [lstD, view] at e6
  cases e6
  exact q W' H' _ l s' .of_int
end
end Mi
end
section
set_option linter.all false
set_option Elab.async false
set_option maxRecDepth 100000
set_option maxHeartbeats 2000000
/-! Mi12: calls. -/
namespace Mi
open PySem PySem.Spec PyProof.Rows L2
/-- a call's promise by the reckoning -/
def spN (K : PySem.W.Frag) (cl : ClA) (cal : Cal) (g : Str) : Sp := fun vs H Q _ => ∃ W m ds d m', Sim K cl W m H ∧ Rps K cl W ds vs ∧ cal g ds m = .ok (d, m') ∧ ∀ W' H' v, W.le W' → Sim K cl W' m' H' → Rp K cl W' d v → Q v H'
def noX : XK := fun _ _ _ => False
abbrev rCal (K : PySem.W.Frag) (cl : ClA) (cal : Cal) (g : Str) : List V → Hp → VK → Prop := fun vs H Q => spN K cl cal g vs H Q noX
section
variable {K : PySem.W.Frag} {cl : ClA} {W W1 W2 : Wd} {H H2 : Hp} {p : Addr} {m : Mem}
theorem clAt_noT {sh : Sh} {xs : List V} {a : Addr} (h : ClAt cl H a sh xs) : ∃ o, H a = some o ∧ isT o = false := by
  cases sh with
  | tup => exact h.elim
  | tupP => exact h.elim
  | scr => exact h.elim
  | lst => exact ⟨_, h, rfl⟩
  | dK _ => exact ⟨_, h.2, rfl⟩
  | dT _ => exact ⟨_, h.2, rfl⟩
  | ins _ _ => obtain ⟨_, c, dx, _, h⟩ := h; exact ⟨_, h, rfl⟩
theorem clAt_up {sh : Sh} {xs : List V} {a : Addr} (l : ∀ a o, H a = some o → H2 a = some o) (h : ClAt cl H a sh xs) : ClAt cl H2 a sh xs := by
  cases sh with
  | tup => exact h.elim
  | tupP => exact h.elim
  | scr => exact h.elim
  | lst => exact l _ _ h
  | dK _ => exact ⟨h.1, l _ _ h.2⟩
  | dT _ => exact ⟨h.1, l _ _ h.2⟩
  | ins _ _ => obtain ⟨h1, c, dx, h2, h⟩ := h; exact ⟨h1, c, dx, h2, l _ _ h⟩
/-- what a caller may keep of a call by values -/
def keepF (F H H2 : Hp) : Hp := fun a => match F a with
  | some o => some o
  | none => match H a with
    | none => H2 a
    | some o => if isT o then some o else none
mutual
theorem frz_rel {m : Mem} {F1 : Hp} (s : Sim K cl W2 m H2) (hF : ∀ a o, W2.F a = some o → F1 a = some o) (hC : ∀ a o, W2.B a = none → W2.F a = none → H2 a = some o → F1 a = some o) (io : Nat → Option Addr) (B P : Hp) :
    ∀ (k : Nat) (d d' : D) (v : V), snap true false k m d = some d' → Rp K cl W2 d v → Rp K cl ⟨io, F1, B, P⟩ d' v
  | k, .non, _, _, h, r => by rw [snap] at h; cases h; cases r.non_inv; exact .of_non
  | k, .bl b, _, _, h, r => by rw [snap] at h; cases h; cases r.bl_inv; exact .of_bl
  | k, .int i, _, _, h, r => by rw [snap] at h; cases h; cases r.int_inv; exact .of_int
  | k, .str x, _, _, h, r => by rw [snap] at h; cases h; cases r.str_inv; exact .of_str
  | 0, .loc n, _, _, h, _ => by rw [snap] at h; cases h
  | k + 1, .loc n, _, _, h, r => by
    rw [snap] at h
    cases e : m[n]? with
    | none => rw [e] at h; cases h
    | some c =>
      rw [e] at h
      obtain ⟨ds', e1, e2⟩ := Option.map_eq_some_iff.mp h
      subst e2
      unfold Rp at r
      obtain ⟨a0, ea, rfl⟩ := r
      obtain ⟨a, xs, e', nF, nB, ca, rs⟩ := s.cell n c e
      rw [ea] at e'; cases e'
      unfold Rp
      refine ⟨a0, xs, rfl, ?_, frzs_rel s hF hC io B P k c.ds ds' xs e1 rs⟩
      obtain ⟨sh, es⟩ := c
      cases sh with
      | tup => exact ca.elim
      | tupP => exact ca.elim
      | scr => exact ca.elim
      | lst => exact hC _ _ nB nF ca
      | dK _ => exact ⟨ca.1, hC _ _ nB nF ca.2⟩
      | dT _ => exact ⟨ca.1, hC _ _ nB nF ca.2⟩
      | ins _ _ => obtain ⟨h1, c, dx, h2, h⟩ := ca; exact ⟨h1, c, dx, h2, hC _ _ nB nF h⟩
  | k, .nd o sh ds, _, _, h, r => by
    rw [snap] at h
    cases o with
    | false => cases h
    | true =>
      rw [if_pos (by simp)] at h
      obtain ⟨ds', e1, e2⟩ := Option.map_eq_some_iff.mp h
      subst e2
      unfold Rp at r ⊢
      obtain ⟨a, xs, rfl, q, rs⟩ := r
      exact ⟨a, xs, rfl, ShAt.up (fun b u e => hF b u e) q, frzs_rel s hF hC io B P k ds ds' xs e1 rs⟩
theorem frzs_rel {m : Mem} {F1 : Hp} (s : Sim K cl W2 m H2) (hF : ∀ a o, W2.F a = some o → F1 a = some o) (hC : ∀ a o, W2.B a = none → W2.F a = none → H2 a = some o → F1 a = some o) (io : Nat → Option Addr) (B P : Hp) :
    ∀ (k : Nat) (ds ds' : List D) (vs : List V), snaps true false k m ds = some ds' → Rps K cl W2 ds vs → Rps K cl ⟨io, F1, B, P⟩ ds' vs
  | k, [], _, _, h, r => by rw [snaps] at h; cases h; unfold Rps at r; subst r; exact Rps.nil
  | k, d :: ds, _, _, h, r => by
    rw [snaps] at h
    unfold Rps at r
    obtain ⟨v, vs, rfl, r1, r2⟩ := r
    cases e : snap true false k m d with
    | none => rw [e] at h; cases h
    | some d' =>
      rw [e] at h
      obtain ⟨ds', e1, e2⟩ := Option.map_eq_some_iff.mp h
      subst e2
      exact Rps.cons (frz_rel s hF hC io B P k d d' v e r1) (frzs_rel s hF hC io B P k ds ds' vs e1 r2)
end
/-- behind a call by values -/
theorem pure_back {m2 : Mem} {d d' : D} {v : V} (s : Sim K cl W m H) (l : (⟨fun _ => none, W.F, H, fun _ => none⟩ : Wd).le W2) (s2 : Sim K cl W2 m2 H2) (h : frz m2 d = some d') (r : Rp K cl W2 d v) :
    ∃ W', W.le W' ∧ Sim K cl W' m H2 ∧ Rp K cl W' d' v := by
  have hB : W2.B = H := l.B
  have up : ∀ a o, H a = some o → H2 a = some o := fun a o e => s2.B a o (by rw [hB]; exact e)
  have hF : ∀ a o, W2.F a = some o → keepF W.F H H2 a = some o := fun a o e => by
    unfold keepF
    rcases l.nw a o e with q | q | q
    · have q : W.F a = some o := q
      rw [q]
    · have q : H a = none := q
      cases e1 : W.F a with
      | some o' =>
        have := l.F a o' e1
        rw [e] at this; cases this; rfl
      | none => simp only [q]; exact s2.F a o e
    · cases e1 : W.F a with
      | some o' =>
        have := l.F a o' e1
        rw [e] at this; cases this; rfl
      | none =>
        cases e2 : H a with
        | none => exact s2.F a o e
        | some o' =>
          have h1 := up a o' e2
          rw [s2.F a o e] at h1; cases h1
          simp [q]
  have hC : ∀ a o, W2.B a = none → W2.F a = none → H2 a = some o → keepF W.F H H2 a = some o := fun a o e1 e2 e3 => by
    rw [hB] at e1
    unfold keepF
    cases e4 : W.F a with
    | some o' => have := l.F a o' e4; rw [e2] at this; cases this
    | none => simp only [e1]; exact e3
  have le : W.le { W with F := keepF W.F H H2 } := ⟨fun _ _ e => e, fun a o e => by show keepF W.F H H2 a = some o; unfold keepF; rw [e], rfl, rfl, fun a o e => by
    have e : keepF W.F H H2 a = some o := e
    unfold keepF at e
    cases e1 : W.F a with
    | some o' => rw [e1] at e; exact .inl e
    | none =>
      rw [e1] at e
      cases e2 : H a with
      | none =>
        refine .inr (.inl ?_)
        cases e3 : W.B a with
        | none => rfl
        | some o' => have := s.B a o' e3; rw [e2] at this; cases this
      | some o' =>
        rw [e2] at e
        simp only at e
        split at e
        · cases e; rename_i q; exact .inr (.inr q)
        · cases e⟩
  have kF : ∀ a o, keepF W.F H H2 a = some o → H2 a = some o := fun a o e => by
    unfold keepF at e
    cases e1 : W.F a with
    | some o' => rw [e1] at e; cases e; exact up _ _ (s.F _ _ e1)
    | none =>
      rw [e1] at e
      cases e2 : H a with
      | none => rw [e2] at e; exact e
      | some o' =>
        rw [e2] at e
        simp only at e
        split at e
        · cases e; exact up _ _ e2
        · cases e
  have kN : ∀ a o, W.F a = none → H a = some o → isT o = false → keepF W.F H H2 a = none := fun a o e1 e2 e3 => by unfold keepF; rw [e1, e2]; simp [e3]
  refine ⟨_, le, ⟨kF, fun a o e => up _ _ (s.B a o e), fun a o e => ?_, fun n c e => ?_, s.cp, s.inj, s.dom⟩, frz_rel s2 hF hC _ _ _ 4 d d' v h r⟩
  · obtain ⟨h1, h2, h3, h4⟩ := s.P a o e
    exact ⟨up _ _ h1, kN a o h2 h1 h4, h3, h4⟩
  · obtain ⟨a, xs, q1, q2, q3, q4, q5⟩ := s.cell n c e
    obtain ⟨o, h1, h2⟩ := clAt_noT q4
    exact ⟨a, xs, q1, kN a o q2 h1 h2, q3, clAt_up up q4, q5.up le⟩
/-- the empty memory's world -/
theorem pure_start (s : Sim K cl W m H) : Sim K cl ⟨fun _ => none, W.F, H, fun _ => none⟩ [] H :=
  ⟨s.F, fun _ _ e => e, fun _ _ e => (by cases e), fun n c e => (by simp at e), fun _ _ e => (by cases e), fun _ _ _ e => (by cases e), fun _ _ e => (by cases e)⟩
/-- by values: what a call must promise -/
theorem rCal_pure {cal : Cal} {g : Str} {ds as : List D} {d : D} {vs : List V} {Q : VK} (s : Sim K cl W m H) (r : Rps K cl ⟨fun _ => none, W.F, H, fun _ => none⟩ as vs) (h : pc cal g as = .ok d)
    (q : ∀ W' H' v, W.le W' → Sim K cl W' m H' → Rp K cl W' d v → Q v H') : rCal K cl cal g vs H Q := by
  unfold pc at h
  split at h
  · rename_i d0 m0 e0
    refine ⟨_, [], as, d0, m0, pure_start s, r, e0, fun W2 H2 v l s2 r2 => ?_⟩
    obtain ⟨W', l', s', r'⟩ := pure_back s l s2 (of_ok h) r2
    exact q W' H2 v l' s' r'
  · cases h
  · cases h
theorem lent_args {m : Mem} {b : Bool} {ds as : List D} {vs : List V} (s : Sim K cl W m H) (r : Rps K cl W ds vs) (h : (if b then R.of (lends m ds) else if lfs ds then .ok ds else .bad) = .ok as) : Rps K cl ⟨fun _ => none, W.F, H, fun _ => none⟩ as vs := by
  cases b with
  | true => exact lends_rel s 4 ds as vs (of_ok h) r
  | false =>
    simp only [Bool.false_eq_true, if_false] at h
    obtain ⟨hl, h⟩ := if_ok h rfl
    cases h
    exact lfs_rel s.B ds vs hl r
/-- a cell more -/
theorem Sim.newCell (s1 : Sim K cl W m H) {p : Addr} {sh : Sh} {ds : List D} {xs : List V} (hc : ClAt cl H p sh xs) (f1 : ∀ n, W.io n ≠ some p) (f2 : W.F p = none) (f3 : W.B p = none) (f4 : W.P p = none) (r : Rps K cl W ds xs) :
    ∃ W', W.le W' ∧ Sim K cl W' (m ++ [⟨sh, ds⟩]) H ∧ Rp K cl W' (.loc m.length) (.ref p) := by
  have hm : W.io m.length = none := by
    cases q : W.io m.length with
    | none => rfl
    | some a => exact absurd (s1.dom _ _ q) (Nat.lt_irrefl _)
  have l : W.le { W with io := fun n => if n = m.length then some p else W.io n } := ⟨fun n a e => by
    show (if n = m.length then some p else W.io n) = some a
    rw [if_neg (fun z => by rw [z, hm] at e; cases e)]
    exact e, fun _ _ e => e, rfl, rfl, fun _ _ e => .inl e⟩
  refine ⟨_, l, ⟨s1.F, s1.B, s1.P, fun n c e => ?_, fun n a e => ?_, fun n k a e1 e2 => ?_, fun n a e => ?_⟩, ?_⟩
  · by_cases hn : n < m.length
    · have e' : m[n]? = some c := by
        have e0 : (m ++ [⟨sh, ds⟩])[n]? = some c := e
        rwa [List.getElem?_append_left hn] at e0
      obtain ⟨a, ys, q1, q2, q3, q4, q5⟩ := s1.cell n c e'
      exact ⟨a, ys, l.io _ _ q1, q2, q3, q4, q5.up l⟩
    · have e0 : (m ++ [⟨sh, ds⟩])[n]? = some c := e
      have hn2 : n = m.length := by
        rw [List.getElem?_append_right (by omega)] at e0
        by_cases h0 : n - m.length = 0
        · omega
        · rw [List.getElem?_eq_none (by simp; omega)] at e0; cases e0
      subst hn2
      rw [List.getElem?_append_right (Nat.le_refl _)] at e0
      simp at e0
      subst e0
      exact ⟨p, xs, by simp, f2, f3, hc, r.up l⟩
  · have e' : (if n = m.length then some p else W.io n) = some a := e
    by_cases h1 : n = m.length
    · rw [if_pos h1] at e'
      rw [← Option.some.inj e']
      exact f4
    · rw [if_neg h1] at e'
      exact s1.cp n a e'
  · have e1' : (if n = m.length then some p else W.io n) = some a := e1
    have e2' : (if k = m.length then some p else W.io k) = some a := e2
    by_cases h1 : n = m.length
    · by_cases h2 : k = m.length
      · rw [h1, h2]
      · rw [if_pos h1] at e1'; rw [if_neg h2] at e2'
        rw [← e1'] at e2'
        exact absurd e2' (f1 k)
    · by_cases h2 : k = m.length
      · rw [if_pos h2] at e2'; rw [if_neg h1] at e1'
        rw [← e2'] at e1'
        exact absurd e1' (f1 n)
      · rw [if_neg h1] at e1'; rw [if_neg h2] at e2'
        exact s1.inj n k a e1' e2'
  · have e' : (if n = m.length then some p else W.io n) = some a := e
    show n < (m ++ [_]).length
    by_cases h1 : n = m.length
    · simp [h1]
    · rw [if_neg h1] at e'
      have := s1.dom n a e'
      simp; omega
  · unfold Rp
    exact ⟨p, by simp, rfl⟩
end
section
variable {X : Cx} {cl : ClA} {cal calI : Cal} {CX : CXT} {k : Nat} {f C : Addr} {fd : FuncData} {ps : List Str} {x q g : Str} {p pos apos : Pos} {e o : Expr} {es : List Expr} {es' : List E} {o' : E} {t : TA}
/-- f(..) of the program: what a call by name does -/
structure FnC (X : Cx) (cl : ClA) (cal : Cal) (x g : Str) : Prop where
  c0 : ∀ {p pos : Pos}, PE X (.Call (.Name x p) [] [] pos) (tCB (rCal X.K cl cal g) tNil)
  c1 : ∀ {e : Expr} {es : List Expr} {t : TA} {p pos : Pos}, PA X (e :: es) t → starEach (e :: es) X.env = (false, eval e X.env) :: starEach es X.env → (backTo pos (starEach es X.env)).any (·.1) = false →
    PE X (.Call (.Name x p) (e :: es) [] pos) (tCB (rCal X.K cl cal g) t)
theorem rCal_E {vs : List V} {H : Hp} {Q : VK} {E : XK} (h : rCal X.K cl cal g vs H Q) : spN X.K cl cal g (vs ++ []) H Q E := by rw [List.append_nil]; exact h
theorem _root_.L2.PA.mono {es : List Expr} {t t' : TA} (h : PA X es t) (hi : ∀ σ H Q, t' σ H Q → t σ H Q) : PA X es t' := ⟨fun pos pins s σ H Q I q => h.run pos pins s σ H Q I (hi σ H Q q)⟩
/-- readings that let a wish be weakened -/
def MonoA (t : TA) : Prop := ∀ σ H (Q Q' : List V → Hp → Prop), (∀ vs H', Q vs H' → Q' vs H') → t σ H Q → t σ H Q'
theorem fnC_fn (F : FnOk X.prog X.w X.K X.mg X.base CX k f fd ps (spN X.K cl cal g)) (hr : Room k X.A) (hg : Gl X x) (hm : X.mg x = some (.ref f)) (hk : PySem.W.keepIn X.K (.ref f) = true) (hb : Binds X.K fd ps []) (hx : Passes CX X noX)
    (hdb : (x == ("__debug__" : Str)) = false) : FnC X cl cal x g where
  c0 := (pe_call0 (E := noX) F hr hg hm hk hb .nil hx hdb).imp fun σ H Q h => rCal_E (E := noX) h
  c1 := fun {e es t p pos} ha h1 h2 => by
    refine ⟨fun pins s σ H Q I h => ?_⟩
    refine wpAny_Call_Name_kw (ld_glob I hg hm ?_ hdb)
    refine PySem.W.callWith_K (h₀ := X.base) I.ok.mod.kin hk (thn (ha.run pos pins s σ H _ I h) fun us s1 ⟨vs, H1, I1, r, q⟩ => ⟨I1.kIn, ?_⟩) h1 h2
    exact run_fn (E := noX) F hr hb .nil hx I1 r (rCal_E q)
/-- a class of the program -/
theorem rCal_make {vs : List V} {H : Hp} {Q : VK} {E : XK} {Cn : Str} (hC : cl Cn = some C) (hcls : ∀ ds m r, cal Cn ds m = .ok r → ∃ r', calI (Cn ++ ".__init__") (.loc m.length :: ds) (m ++ [⟨.ins Cn [], []⟩]) = .ok (.non, r') ∧ r = (.loc m.length, r')) (h : rCal X.K cl cal Cn vs H Q) :
    ∀ x dx, H x = none → H dx = none → dx ≠ x → spN X.K cl calI (Cn ++ ".__init__") (.ref x :: (vs ++ [])) (upd (upd H dx (.own x)) x (.ins C dx [])) (fun v H2 => v = .non ∧ Q (.ref x) H2) E := by
  intro x dx hx hdx hne
  obtain ⟨W, m, ds, d, m', s, rs, e, q⟩ := h
  obtain ⟨r', e1, e2⟩ := hcls ds m _ e
  cases e2
  have up : ∀ a o, H a = some o → upd (upd H dx (.own x)) x (.ins C dx []) a = some o := fun a o ea => by
    rw [upd_ne (ne_of_none ea hx), upd_ne (ne_of_none ea hdx)]; exact ea
  obtain ⟨f1, f2, f3, f4⟩ := s.free hx
  obtain ⟨W1, l1, s1, rp⟩ := (s.grow up).newCell (p := x) (sh := .ins Cn []) (ds := []) (xs := []) ⟨rfl, C, dx, hC, upd_same⟩ f1 f2 f3 f4 Rps.nil
  rw [List.append_nil]
  exact ⟨W1, _, .loc m.length :: ds, .non, m', s1, Rps.cons rp (rs.up l1), e1, fun W2 H2 v l2 s2 r2 => ⟨r2.non_inv, q W2 H2 (.ref x) (l1.trans l2) s2 (rp.up l2)⟩⟩
theorem fnC_cls {Cn : Str} (M : Mk X.K C f) (F : FnOk X.prog X.w X.K X.mg X.base CX k f fd ps (spN X.K cl calI (Cn ++ ".__init__"))) (hr : Room (k + 1) X.A) (hg : Gl X x) (hm : X.mg x = some (.ref C)) (hb : Binds X.K fd ps []) (hx : Passes CX X noX)
    (hdb : (x == ("__debug__" : Str)) = false) (hC : cl Cn = some C) (hcls : ∀ ds m r, cal Cn ds m = .ok r → ∃ r', calI (Cn ++ ".__init__") (.loc m.length :: ds) (m ++ [⟨.ins Cn [], []⟩]) = .ok (.non, r') ∧ r = (.loc m.length, r')) : FnC X cl cal x Cn where
  c0 := (pe_make0 (E := noX) M F hr hg hm hb .nil hx hdb).imp fun σ H Q h => by
    exact rCal_make hC hcls h
  c1 := fun {e es t p pos} ha h1 h2 => by
    refine ⟨fun pins s σ H Q I h => ?_⟩
    refine wpAny_Call_Name_kw (ld_glob I hg hm ?_ hdb)
    refine PySem.W.callWith_K (h₀ := X.base) I.ok.mod.kin M.kp (thn (ha.run pos pins s σ H _ I h) fun us s1 ⟨vs, H1, I1, r, q⟩ => ⟨I1.kIn, ?_⟩) h1 h2
    exact run_make (E := noX) M F hr hb .nil hx I1 r (rCal_make hC hcls q)
/-- .. as an expression -/
theorem se_call0 (h : FnC X cl cal x g) : SE X cl cal (.Call (.Name x p) [] [] pos) (.call g []) := by
  refine h.c0.imp fun σ H Q h0 => ?_
  obtain ⟨W, ρ, m, d, m', s, rr, e, q⟩ := h0
  unfold evE evEs at e
  exact ⟨W, m, [], d, m', s, Rps.nil, e, q⟩
theorem se_call (h : FnC X cl cal x g) (ha : SEs X cl cal (e :: es) es') (h1 : starEach (e :: es) X.env = (false, eval e X.env) :: starEach es X.env) (h2 : (backTo pos (starEach es X.env)).any (·.1) = false) : SE X cl cal (.Call (.Name x p) (e :: es) [] pos) (.call g es') := by
  refine (h.c1 ha h1 h2).imp fun σ H Q h0 => ?_
  obtain ⟨W, ρ, m, d, m', s, rr, ee, q⟩ := h0
  unfold evE at ee
  obtain ⟨y, e1, e2⟩ := bind_ok ee
  exact ⟨W, ρ, m, y.1, y.2, s, rr, e1, fun W' H' vs l s' rs => ⟨W', y.2, y.1, d, m', s', rs, e2, fun W2 H2 v l2 s2 r2 => q W2 H2 v (l.trans l2) s2 r2⟩⟩
theorem se_pcall0 {b : Bool} (h : FnC X cl cal x g) : SE X cl cal (.Call (.Name x p) [] [] pos) (.pcall b g []) := by
  refine h.c0.imp fun σ H Q h0 => ?_
  obtain ⟨W, ρ, m, d, m', s, rr, ee, q⟩ := h0
  unfold evE evEs at ee
  obtain ⟨y, e0, ee⟩ := bind_ok ee
  cases e0
  obtain ⟨as, e1, ee⟩ := bind_ok ee
  obtain ⟨d1, e2, ee⟩ := bind_ok ee
  cases ee
  exact rCal_pure (ds := []) s (lent_args s Rps.nil e1) e2 q
theorem se_pcall {b : Bool} (h : FnC X cl cal x g) (ha : SEs X cl cal (e :: es) es') (h1 : starEach (e :: es) X.env = (false, eval e X.env) :: starEach es X.env) (h2 : (backTo pos (starEach es X.env)).any (·.1) = false) : SE X cl cal (.Call (.Name x p) (e :: es) [] pos) (.pcall b g es') := by
  refine (h.c1 ha h1 h2).imp fun σ H Q h0 => ?_
  obtain ⟨W, ρ, m, d, m', s, rr, ee, q⟩ := h0
  unfold evE at ee
  obtain ⟨y, e1, ee⟩ := bind_ok ee
  obtain ⟨as, e2, ee⟩ := bind_ok ee
  obtain ⟨d1, e3, ee⟩ := bind_ok ee
  cases ee
  exact ⟨W, ρ, m, y.1, y.2, s, rr, e1, fun W' H' vs l s' rs => rCal_pure (ds := y.1) s' (lent_args s' rs e2) e3 fun W2 H2 v l2 s2 r2 => q W2 H2 v (l.trans l2) s2 r2⟩
/-! methods -/
/-- what a class gives by a method's name -/
structure MtC (X : Cx) (cl : ClA) (cal : Cal) (C : Addr) (q g : Str) : Prop where
  ex : ∃ (CX : CXT) (k : Nat) (f : Addr) (fd : FuncData) (ps : List Str), Cls X.K C ∧ Meth X.K C q f ∧ FnOk X.prog X.w X.K X.mg X.base CX k f fd ps (spN X.K cl cal g) ∧ Room k X.A ∧ Binds X.K fd ps [] ∧ Passes CX X noX
theorem pe_methT {pl : Sem Bool} {ta : TE} (he : PE X o ta) (ha : PA X (e :: es) t)
    (hst : starEach (e :: es) X.env = (false, eval e X.env) :: starEach es X.env) (hpl : (backTo pos (starEach es X.env)).any (·.1) = false)
    (ht : eval (.Call (.Attribute o q apos) (e :: es) [] pos) X.env = (do
      let ov ← eval o X.env
      standAt apos.atName
      let (f, first) ← holding [ov] (getMethod ov q pl)
      callWith pos f first (backTo pos (starEach (e :: es) X.env)) (backToKw pos (keywordEach [] X.env)))) :
    PE X (.Call (.Attribute o q apos) (e :: es) [] pos) (fun σ H Q => ta σ H fun x H1 => ∃ a dx fs C g, x = .ref a ∧ H1 a = some (.ins C dx fs) ∧ MtC X cl cal C q g ∧ fs.lookup q = none ∧ t σ H1 fun vs H2 => rCal X.K cl cal g (x :: vs) H2 Q) := by
  refine ⟨fun pins s σ H Q I h => ?_⟩
  refine PySem.W.methodCall_KW (pl := pl) (thn (he.run pins s σ H _ I h) fun u s1 ⟨x, H1, I1, rx, a, dx, fs, C, g, ex, ea, mc, l, q⟩ => ?_) ht
  subst ex
  obtain rfl : u = Value.ref a := rx
  obtain ⟨CX, k, f, fd, ps, c, hm, F, hr, hb, hx⟩ := mc.ex
  refine getmeth_ok I1 ea c hm l ?_
  refine PySem.W.callWith_K (first := [.ref a]) (h₀ := X.base) I.ok.mod.kin hm.kp (thn (ha.run pos pins s1 σ H1 _ I1 q) fun us s2 ⟨vs, H2, I2, r, q2⟩ => ⟨I2.kIn, ?_⟩) hst hpl
  exact run_fn (us := .ref a :: us) (vs := .ref a :: vs) (E := noX) F hr hb .nil hx I2 (.cons rfl r) (rCal_E q2)
theorem pe_methT0 {pl : Sem Bool} {ta : TE} (he : PE X o ta)
    (ht : eval (.Call (.Attribute o q apos) [] [] pos) X.env = (do
      let ov ← eval o X.env
      standAt apos.atName
      let (f, first) ← holding [ov] (getMethod ov q pl)
      callWith pos f first (backTo pos (starEach [] X.env)) (backToKw pos (keywordEach [] X.env)))) :
    PE X (.Call (.Attribute o q apos) [] [] pos) (fun σ H Q => ta σ H fun x H1 => ∃ a dx fs C g, x = .ref a ∧ H1 a = some (.ins C dx fs) ∧ MtC X cl cal C q g ∧ fs.lookup q = none ∧ rCal X.K cl cal g [x] H1 Q) := by
  refine ⟨fun pins s σ H Q I h => ?_⟩
  refine PySem.W.methodCall_KW (pl := pl) (thn (he.run pins s σ H _ I h) fun u s1 ⟨x, H1, I1, rx, a, dx, fs, C, g, ex, ea, mc, l, q⟩ => ?_) ht
  subst ex
  obtain rfl : u = Value.ref a := rx
  obtain ⟨CX, k, f, fd, ps, c, hm, F, hr, hb, hx⟩ := mc.ex
  refine getmeth_ok I1 ea c hm l ?_
  exact PySem.W.callWith_K0 (first := [.ref a]) I1.kIn hm.kp (run_fn (us := [.ref a]) (vs := [.ref a]) (E := noX) F hr hb .nil hx I1 (.cons rfl .nil) (rCal_E q))
theorem clsM_ok {W : Wd} {m : Mem} {H : Hp} {d : D} {v : V} {Cn : Str} (s : Sim X.K cl W m H) (r : Rp X.K cl W d v) (h : clsM m d q = .ok Cn) : ∃ a dx fs C, v = .ref a ∧ cl Cn = some C ∧ H a = some (.ins C dx fs) ∧ fs.lookup q = none := by
  unfold clsM at h
  split at h
  · rename_i C0 fs ds hv
    split at h
    · cases h
    · rename_i hq
      cases h
      obtain ⟨a, xs, rfl, ⟨hl, c, dx, hc, hp⟩, rs⟩ := s.view r hv
      refine ⟨a, dx, _, c, rfl, hc, hp, ?_⟩
      have hq : q ∉ fs := fun z => hq (by simpa using z)
      rw [List.lookup_eq_none_iff]
      intro z hz
      have := List.of_mem_zip (show (z.1, z.2) ∈ fs.zip xs from hz)
      cases hb : (q == z.1) with
      | false => simp only [bne, hb]; rfl
      | true =>
        have e : q = z.1 := eq_of_beq hb
        exact absurd (by rw [e]; exact this.1) hq
  · cases h
theorem se_meth {pl : Sem Bool} (hM : ∀ Cn C ds m r, cl Cn = some C → cal (Cn ++ "." ++ q) ds m = .ok r → MtC X cl cal C q (Cn ++ "." ++ q)) (ho : SE X cl cal o o') (ha : SEs X cl cal (e :: es) es')
    (h1 : starEach (e :: es) X.env = (false, eval e X.env) :: starEach es X.env) (h2 : (backTo pos (starEach es X.env)).any (·.1) = false)
    (ht : eval (.Call (.Attribute o q apos) (e :: es) [] pos) X.env = (do
      let ov ← eval o X.env
      standAt apos.atName
      let (f, first) ← holding [ov] (getMethod ov q pl)
      callWith pos f first (backTo pos (starEach (e :: es) X.env)) (backToKw pos (keywordEach [] X.env)))) : SE X cl cal (.Call (.Attribute o q apos) (e :: es) [] pos) (.meth o' q es') := by
  refine (pe_methT (cl := cl) (cal := cal) ho ha h1 h2 ht).imp fun σ H Q h0 => ?_
  obtain ⟨W, ρ, m, d, m', s, rr, ee, qq⟩ := h0
  unfold evE at ee
  obtain ⟨x, e1, ee⟩ := bind_ok ee
  obtain ⟨Cn, e2, ee⟩ := bind_ok ee
  obtain ⟨y, e3, e4⟩ := bind_ok ee
  refine rE1 s rr e1 fun W' H' v l s' r1 => ?_
  obtain ⟨a, dx, fs, C, rfl, hC, hp, hn⟩ := clsM_ok s' r1 e2
  exact ⟨a, dx, fs, C, _, rfl, hp, hM Cn C _ _ _ hC e4, hn, W', ρ, x.2, y.1, y.2, s', rr.up l, e3, fun W2 H2 vs l2 s2 rs => ⟨W2, y.2, x.1 :: y.1, d, m', s2, Rps.cons (r1.up l2) rs, e4, fun W3 H3 v l3 s3 r3 => qq W3 H3 v ((l.trans l2).trans l3) s3 r3⟩⟩
theorem se_meth0 {pl : Sem Bool} (hM : ∀ Cn C ds m r, cl Cn = some C → cal (Cn ++ "." ++ q) ds m = .ok r → MtC X cl cal C q (Cn ++ "." ++ q)) (ho : SE X cl cal o o')
    (ht : eval (.Call (.Attribute o q apos) [] [] pos) X.env = (do
      let ov ← eval o X.env
      standAt apos.atName
      let (f, first) ← holding [ov] (getMethod ov q pl)
      callWith pos f first (backTo pos (starEach [] X.env)) (backToKw pos (keywordEach [] X.env)))) : SE X cl cal (.Call (.Attribute o q apos) [] [] pos) (.meth o' q []) := by
  refine (pe_methT0 (cl := cl) (cal := cal) ho ht).imp fun σ H Q h0 => ?_
  obtain ⟨W, ρ, m, d, m', s, rr, ee, qq⟩ := h0
  unfold evE at ee
  obtain ⟨x, e1, ee⟩ := bind_ok ee
  obtain ⟨Cn, e2, ee⟩ := bind_ok ee
  obtain ⟨y, e3, e4⟩ := bind_ok ee
  unfold evEs at e3
  cases e3
  refine rE1 s rr e1 fun W' H' v l s' r1 => ?_
  obtain ⟨a, dx, fs, C, rfl, hC, hp, hn⟩ := clsM_ok s' r1 e2
  exact ⟨a, dx, fs, C, _, rfl, hp, hM Cn C _ _ _ hC e4, hn, W', x.2, [x.1], d, m', s', Rps.cons r1 Rps.nil, e4, fun W3 H3 v l3 s3 r3 => qq W3 H3 v (l.trans l3) s3 r3⟩
theorem se_pmeth {pl : Sem Bool} {b : Bool} (hM : ∀ Cn C ds m r, cl Cn = some C → cal (Cn ++ "." ++ q) ds m = .ok r → MtC X cl cal C q (Cn ++ "." ++ q)) (ho : SE X cl cal o o') (ha : SEs X cl cal (e :: es) es')
    (h1 : starEach (e :: es) X.env = (false, eval e X.env) :: starEach es X.env) (h2 : (backTo pos (starEach es X.env)).any (·.1) = false)
    (ht : eval (.Call (.Attribute o q apos) (e :: es) [] pos) X.env = (do
      let ov ← eval o X.env
      standAt apos.atName
      let (f, first) ← holding [ov] (getMethod ov q pl)
      callWith pos f first (backTo pos (starEach (e :: es) X.env)) (backToKw pos (keywordEach [] X.env)))) : SE X cl cal (.Call (.Attribute o q apos) (e :: es) [] pos) (.pmeth b o' q es') := by
  refine (pe_methT (cl := cl) (cal := cal) ho ha h1 h2 ht).imp fun σ H Q h0 => ?_
  obtain ⟨W, ρ, m, d, m', s, rr, ee, qq⟩ := h0
  unfold evE at ee
  obtain ⟨x, e1, ee⟩ := bind_ok ee
  obtain ⟨Cn, e2, ee⟩ := bind_ok ee
  obtain ⟨y, e3, ee⟩ := bind_ok ee
  obtain ⟨as, e4, ee⟩ := bind_ok ee
  obtain ⟨d1, e5, ee⟩ := bind_ok ee
  cases ee
  refine rE1 s rr e1 fun W' H' v l s' r1 => ?_
  obtain ⟨a, dx, fs, C, rfl, hC, hp, hn⟩ := clsM_ok s' r1 e2
  have hc : ∃ r, cal (Cn ++ "." ++ q) as [] = .ok r := by
    unfold pc at e5
    split at e5
    · rename_i d0 m0 e0; exact ⟨_, e0⟩
    · cases e5
    · cases e5
  obtain ⟨r, hc⟩ := hc
  exact ⟨a, dx, fs, C, _, rfl, hp, hM Cn C _ _ _ hC hc, hn, W', ρ, x.2, y.1, y.2, s', rr.up l, e3, fun W2 H2 vs l2 s2 rs => rCal_pure (ds := x.1 :: y.1) s2 (lent_args s2 (Rps.cons (r1.up l2) rs) e4) e5 fun W3 H3 v l3 s3 r3 => qq W3 H3 v ((l.trans l2).trans l3) s3 r3⟩
theorem se_pmeth0 {pl : Sem Bool} {b : Bool} (hM : ∀ Cn C ds m r, cl Cn = some C → cal (Cn ++ "." ++ q) ds m = .ok r → MtC X cl cal C q (Cn ++ "." ++ q)) (ho : SE X cl cal o o')
    (ht : eval (.Call (.Attribute o q apos) [] [] pos) X.env = (do
      let ov ← eval o X.env
      standAt apos.atName
      let (f, first) ← holding [ov] (getMethod ov q pl)
      callWith pos f first (backTo pos (starEach [] X.env)) (backToKw pos (keywordEach [] X.env)))) : SE X cl cal (.Call (.Attribute o q apos) [] [] pos) (.pmeth b o' q []) := by
  refine (pe_methT0 (cl := cl) (cal := cal) ho ht).imp fun σ H Q h0 => ?_
  obtain ⟨W, ρ, m, d, m', s, rr, ee, qq⟩ := h0
  unfold evE at ee
  obtain ⟨x, e1, ee⟩ := bind_ok ee
  obtain ⟨Cn, e2, ee⟩ := bind_ok ee
  obtain ⟨y, e3, ee⟩ := bind_ok ee
  obtain ⟨as, e4, ee⟩ := bind_ok ee
  obtain ⟨d1, e5, ee⟩ := bind_ok ee
  cases ee
  unfold evEs at e3
  cases e3
  refine rE1 s rr e1 fun W' H' v l s' r1 => ?_
  obtain ⟨a, dx, fs, C, rfl, hC, hp, hn⟩ := clsM_ok s' r1 e2
  have hc : ∃ r, cal (Cn ++ "." ++ q) as [] = .ok r := by
    unfold pc at e5
    split at e5
    · rename_i d0 m0 e0; exact ⟨_, e0⟩
    · cases e5
    · cases e5
  obtain ⟨r, hc⟩ := hc
  exact ⟨a, dx, fs, C, _, rfl, hp, hM Cn C _ _ _ hC hc, hn, rCal_pure (ds := [x.1]) s' (lent_args s' (Rps.cons r1 Rps.nil) e4) e5 fun W3 H3 v l3 s3 r3 => qq W3 H3 v (l.trans l3) s3 r3⟩
end
end Mi
end
section
set_option linter.all false
set_option Elab.async false
set_option maxRecDepth 100000
set_option maxHeartbeats 2000000
namespace Mi
open PySem PySem.Spec PyProof.Rows L2
section
variable {P : Program} {w : World} {A : Around} {E : Value → Shared → Prop} {s : Shared}
set_option maxRecDepth 100000 in
set_option maxHeartbeats 3200000 in
theorem call_set_lstI {l : Addr} {items : Array Value} (ns : List Int) {Q : Value → Shared → Prop} (hh : A.handled = none) (hl : s.heap.IsList l items) (hit : IntsAre items.toList ns) (hb : ns.length + 1 < scanBound)
    (h : ∀ (h' : Heap) (tk c : Nat), SetR w h' s.heap.objs.size (fun j => decide (j ∈ ns)) c → c ≤ ns.length → (∀ b o, s.heap.get? b = some o → h'.get? b = some o) → Q (.ref s.heap.objs.size) { s with heap := h', toks := tk }) :
    wpAny (model P w) A (call (.type "set") [.ref l]) Q E s := by
  have hisz : items.size = ns.length := by
    have q := IntsAre.length hit
    rw [Array.length_toList] at q
    exact q
  obtain ⟨c, tl, hmro⟩ := F.called_set.mro
  have hmade := F.called_set.made
  have hsub := F.called_set.sub
  refine wpAny_call (codeAny_of_tree ?_)
  show wpAny _ _ (callAny (.type "set") _) _ _ _
  refine wpAny_pure ⟨Code.quiet_builtin _ (by decide +kernel), codeAny_builtin F.entry_type_call ?_⟩
  rw [Around.under_plain (weight_type_call_type "set" [.ref l] []) rfl]
  have h1 := F.called_set.notType
  have h2 := F.called_set.canCreate
  have hct := F.typeCall_set_1 (.ref l)
  repeat (any_goals (first | assumption | wp_step))

  refine codeAny_mono (code_set_led1 (.ref l) (E := E) (Q₁ := fun obj s₁ => obj = .ref s.heap.objs.size ∧ s₁ = { s with heap := s.heap.push { cls := .type "set", dict := none, data := .set #[] 0 (.fresh 0 0 (!w.params.followText "set-order")) } }) ⟨rfl, rfl⟩) fun r s₁ hr => ?_
  cases r with
  | error e => exact hr
  | ok fl =>
    cases fl with
    | ret obj =>
      obtain ⟨rfl, rfl⟩ := hr
      have hS : (s.heap.push { cls := .type "set", dict := none, data := .set #[] 0 (.fresh 0 0 (!w.params.followText "set-order")) }).get? s.heap.objs.size = some { cls := .type "set", dict := none, data := .set #[] 0 (.fresh 0 0 (!w.params.followText "set-order")) } := Heap.get?_push_size _ rfl
      have hT : Shared.TypeIs { s with heap := s.heap.push { cls := .type "set", dict := none, data := .set #[] 0 (.fresh 0 0 (!w.params.followText "set-order")) } } (.ref s.heap.objs.size) "set" := ⟨_, hS, rfl⟩
      have hli := F.called_set.init.lookup
      have hbi := F.called_set.init.bind (.ref s.heap.objs.size)
      repeat (any_goals (first | assumption | wp_step))

      refine codeAny_mono (codeAny_call_builtin (R := wants (fun r s₂ => r = .none ∧ ∃ h' tk c, s₂ = { s with heap := h', toks := tk } ∧ SetR w h' s.heap.objs.size (fun j => decide (j ∈ ns)) c ∧ c ≤ ns.length ∧
          (∀ b o, s.heap.get? b = some o → h'.get? b = some o)) E) F.called_set.init.plain F.entry_set_init (check_set_init_1 hT ?_)) fun r₂ s₂ hr₂ => ?_
      · obtain ⟨ol, hol, hcl, nl, hdl⟩ := hl
        obtain ⟨ocls, odict, odata, oslots⟩ := ol
        simp only at hcl hdl
        subst hcl; subst hdl
        have hol' : (s.heap.push { cls := .type "set", dict := none, data := .set #[] 0 (.fresh 0 0 (!w.params.followText "set-order")) }).get? l = some { cls := .type "list", dict := odict, data := .seq items nl, slots := oslots } := Heap.get?_push_of_some _ hol
        have hsls := F.sub_list_set
        have hslf := F.sub_list_frozenset
        have hne : (Value.type "list" == Value.type "dict") = false := by decide
        have hl1 : (s.heap.push { cls := .type "set", dict := none, data := .set #[] 0 (.fresh 0 0 (!w.params.followText "set-order")) }).IsList l items := ⟨_, hol', rfl, nl, rfl⟩
        unfold Builtin.«set.__init__» noKeywords Builtin.Frozenset.updateFrom
        generalize hPI : pyIter = PI
        wp_walk
        subst hPI

        refine wpAny_pyIter_list hl1 ?_
        refine wpAny_bind (wpAny_runValue ?_)
        have hlS : l < s.heap.objs.size := Heap.lt_size hol
        have hh3 : A.in1.in1.in1.handled = none := by simp [hh]
        have hz1 : (s.heap.push { cls := .type "set", dict := none, data := .set #[] 0 (.fresh 0 0 (!w.params.followText "set-order")) }).objs.size = s.heap.objs.size + 1 := Heap.size_push ..
        have hneI : l ≠ (s.heap.push { cls := .type "set", dict := none, data := .set #[] 0 (.fresh 0 0 (!w.params.followText "set-order")) }).objs.size := by
          rw [Heap.size_push]; exact Nat.ne_of_lt (Nat.lt_succ_of_lt hlS)
        have hSf : s.heap.objs.size ∉ [(s.heap.push { cls := .type "set", dict := none, data := .set #[] 0 (.fresh 0 0 (!w.params.followText "set-order")) }).objs.size, l] := by
          rw [Heap.size_push]; simp only [List.mem_cons, List.mem_singleton, List.not_mem_nil, or_false, not_or]
          exact ⟨Nat.ne_of_lt (Nat.lt_succ_self _), Nat.ne_of_gt hlS⟩
        have hval : ∀ (i : Nat) (v : Value), items[i]? = some v → ∃ k t, ns[i]? = some k ∧ v = .int k t := fun i v hv => by
          have hi : i < ns.length := by rw [← hisz]; exact (Array.getElem?_eq_some_iff.mp hv).1
          obtain ⟨t, e⟩ := PyProof.Rows.IntsAre.int_at hit i v (by rw [Array.getElem?_toList]; exact hv)
          refine ⟨ns[i], t, List.getElem?_eq_getElem hi, ?_⟩
          rw [e, List.getD_eq_getElem?_getD, List.getElem?_eq_getElem hi] <;> rfl
        refine set_update_ints ((Walks.list hh3 _ l hneI items).toS) s.heap.objs.size
          hSf ns hisz hb hval (items.size - 0) 0 _ (by omega) (Nat.zero_le _)
          ⟨⟨_, Heap.get?_push_size _ rfl, rfl, rfl⟩, (hl1.push _)⟩ ?hS0 ?hR
        case hS0 =>
          have hget : ((s.heap.push { cls := .type "set", dict := none, data := .set #[] 0 (.fresh 0 0 (!w.params.followText "set-order")) }).push { cls := .type "list_iterator", data := .fields #[.ref l, .int 0 0] }).get? s.heap.objs.size
              = some { cls := .type "set", dict := none, data := .set #[] 0 (.fresh 0 0 (!w.params.followText "set-order")) } := Heap.get?_push_of_some _ hS
          exact ⟨0, Nat.le_refl 0, setR_new_at hget⟩
        case hR =>
          intro s' c' hm hc' hS'
          obtain ⟨h', g2, d', tk', os'⟩ := s'
          have eg : g2 = s.gens := hm.gens
          have ed : d' = s.drawn := hm.drawn
          have eo : os' = s.os := hm.os
          subst eg; subst ed; subst eo
          show wpAny _ _ _ _ _ _
          refine wpAny_pure ?_
          show wpAny _ _ (ret Value.none) _ _ _
          rw [hisz] at hc'
          refine wpAny_pure ⟨rfl, h', tk', c', rfl, hS', hc', fun b o e => ?_⟩
          have hb0 : b < s.heap.objs.size := Heap.lt_size e
          have hb1 : b ≠ s.heap.objs.size := Nat.ne_of_lt hb0
          have hb2 : b ≠ (s.heap.push { cls := .type "set", dict := none, data := .set #[] 0 (.fresh 0 0 (!w.params.followText "set-order")) }).objs.size := by
            rw [Heap.size_push]; exact Nat.ne_of_lt (Nat.lt_succ_of_lt hb0)
          exact hm.heap b o (by simp only [List.mem_cons, List.mem_singleton, List.not_mem_nil, or_false, not_or]; exact ⟨hb1, hb2⟩) (Heap.get?_push_of_some _ (Heap.get?_push_of_some _ e))

      · cases r₂ with
        | error e => exact hr₂
        | ok fl₂ =>
          cases fl₂ with
          | ret r =>
            obtain ⟨rfl, h', tk, c', rfl, hS', hc', hk'⟩ := hr₂
            repeat (any_goals (first | assumption | wp_step))
            exact h _ _ _ hS' hc' hk'
          | _ => exact hr₂.elim
    | _ => exact hr.elim
end
end Mi
end
section
set_option linter.all false
set_option Elab.async false
set_option maxRecDepth 100000
set_option maxHeartbeats 2000000
/-! Mi14: sorted(set(..)) of ints. -/
namespace Mi
open PySem PySem.Spec PyProof.Rows L2
theorem insU_mem {i k : Int} : ∀ {l : List Int}, k ∈ insU i l ↔ k = i ∨ k ∈ l
  | [] => by simp [insU]
  | j :: js => by
    unfold insU
    by_cases h1 : i < j
    · rw [if_pos h1]; simp
    · rw [if_neg h1]
      by_cases h2 : i = j
      · rw [if_pos h2]; subst h2; simp
      · rw [if_neg h2]
        simp only [List.mem_cons, insU_mem (l := js)]
        constructor
        · rintro (h | h | h)
          · exact .inr (.inl h)
          · exact .inl h
          · exact .inr (.inr h)
        · rintro (h | h | h)
          · exact .inr (.inl h)
          · exact .inl h
          · exact .inr (.inr h)
theorem insU_rises {i : Int} : ∀ {l : List Int}, l.Pairwise (· < ·) → (insU i l).Pairwise (· < ·)
  | [], _ => by simp [insU]
  | j :: js, h => by
    obtain ⟨h1, h2⟩ := List.pairwise_cons.mp h
    unfold insU
    by_cases c1 : i < j
    · rw [if_pos c1]
      refine List.pairwise_cons.mpr ⟨fun k hk => ?_, h⟩
      rcases List.mem_cons.mp hk with rfl | hk
      · exact c1
      · exact Int.lt_trans c1 (h1 k hk)
    · rw [if_neg c1]
      by_cases c2 : i = j
      · rw [if_pos c2]; exact h
      · rw [if_neg c2]
        refine List.pairwise_cons.mpr ⟨fun k hk => ?_, insU_rises h2⟩
        rcases insU_mem.mp hk with rfl | hk
        · omega
        · exact h1 k hk
theorem sortU_mem {k : Int} : ∀ {l : List Int}, k ∈ sortU l ↔ k ∈ l
  | [] => by simp [sortU]
  | i :: l => by
    show k ∈ insU i (sortU l) ↔ _
    rw [insU_mem, sortU_mem (l := l), List.mem_cons]
theorem sortU_rises : ∀ (l : List Int), (sortU l).Pairwise (· < ·)
  | [] => by simp [sortU]
  | i :: l => insU_rises (sortU_rises l)
/-- rising lists of the same members are one -/
theorem rising_eq : ∀ {a b : List Int}, a.Pairwise (· < ·) → b.Pairwise (· < ·) → (∀ k, k ∈ a ↔ k ∈ b) → a = b
  | [], [], _, _, _ => rfl
  | [], y :: b, _, _, h => absurd ((h y).mpr (List.mem_cons_self ..)) (by simp)
  | x :: a, [], _, _, h => absurd ((h x).mp (List.mem_cons_self ..)) (by simp)
  | x :: a, y :: b, ha, hb, h => by
    obtain ⟨a1, a2⟩ := List.pairwise_cons.mp ha
    obtain ⟨b1, b2⟩ := List.pairwise_cons.mp hb
    have e : x = y := by
      rcases List.mem_cons.mp ((h x).mp (List.mem_cons_self ..)) with h1 | h1
      · exact h1
      · rcases List.mem_cons.mp ((h y).mpr (List.mem_cons_self ..)) with h2 | h2
        · exact h2.symm
        · have := a1 y h2; have := b1 x h1; omega
    subst e
    rw [rising_eq a2 b2 fun k => ?_]
    constructor
    · intro hk
      rcases List.mem_cons.mp ((h k).mp (List.mem_cons_of_mem _ hk)) with h1 | h1
      · have := a1 k hk; omega
      · exact h1
    · intro hk
      rcases List.mem_cons.mp ((h k).mpr (List.mem_cons_of_mem _ hk)) with h1 | h1
      · have := b1 k hk; omega
      · exact h1
theorem rps_ints {K : PySem.W.Frag} {cl : ClA} {W : Wd} : ∀ (is : List Int), Rps K cl W (is.map D.int) (is.map V.int)
  | [] => Rps.nil
  | i :: is => Rps.cons .of_int (rps_ints is)
section
variable {X : Cx} {cl : ClA} {cal : Cal} {a : Expr} {a' : E} {p p2 q pos : Pos}
def tSortSetI (K : PySem.W.Frag) (ta : TE) : TE := fun σ H Q => ta σ H fun x H1 => ∃ (l : Addr) (ns : List Int), x = V.ref l ∧ SqL K H1 l (ns.map V.int) ∧ ns.length < 64 ∧
  ∀ (b : Addr) (o : HO) (p : Addr), H1 b = none → upd H1 b o p = none → Q (.ref p) (upd (upd H1 b o) p (.lst ((sortU ns).map V.int)))
theorem pe_sortSetI {ta : TE} (hc : X.calm = true) (hg : Gl X "sorted") (hm : X.mg "sorted" = none) (hg2 : Gl X "set") (hm2 : X.mg "set" = none) (ha : PE X a ta)
    (na : starEach [a] X.env = (false, eval a X.env) :: starEach [] X.env) : PE X (.Call (.Name "sorted" p) [.Call (.Name "set" p2) [a] [] q] [] pos) (tSortSetI X.K ta) := by
  refine ⟨fun pins s σ H Q I h => ?_⟩
  refine Call_ (ld_blt I hg hm (show bootBuiltins "sorted" = some (.builtin "sorted") from rfl) ?_)
  refine PyProof.Rows.callWith_builtin1 (PyProof.Rows.args_cons ?_ rfl) rfl rfl
  refine Call_ (ld_blt I hg2 hm2 PyProof.Rows.boot_set ?_)
  refine PyProof.Rows.callWith_type1 (PyProof.Rows.args_cons (thn (ha.run pins s σ H _ I h) fun v s1 ⟨x, H1, I1, r1, q1⟩ => PyProof.Rows.args_nil ?_) na) na rfl
  obtain ⟨l, ns, rfl, hq, h1, q1⟩ := q1
  cases r1
  obtain ⟨its, r, pl, hz⟩ := I1.list hq
  refine call_set_lstI ns (I1.ok.hd hc) pl.isList (by simpa using r.ints) (by unfold scanBound; omega) fun h' tk c hS hc' hk => ?_
  refine PyProof.Rows.args_nil ?_
  have I2 := I1.laid (t' := tk) hk (Nat.le_refl _) (setO_new hS)
  refine cr_sortedSet hc pins _ σ _ [V.ref s1.heap.objs.size] _ Q I2 (.cons rfl .nil) ⟨_, _, c, rfl, upd_same, by omega, fun out p o1 o2 o3 o4 => ?_⟩
  have e : out = sortU ns := rising_eq o1 (sortU_rises ns) fun k => by rw [o2 k, sortU_mem]; simp
  rw [e]
  exact q1 _ _ p (I1.hok.fresh (Nat.le_refl _)) o4
theorem se_sortSet {fr : Bool} (hc : X.calm = true) (hg : Gl X "sorted") (hm : X.mg "sorted" = none) (hg2 : Gl X "set") (hm2 : X.mg "set" = none) (ha : SE X cl cal a a')
    (na : starEach [a] X.env = (false, eval a X.env) :: starEach [] X.env) : SE X cl cal (.Call (.Name "sorted" p) [.Call (.Name "set" p2) [a] [] q] [] pos) (.bi .sortSet fr [a']) := by
  refine (pe_sortSetI hc hg hm hg2 hm2 ha na).imp fun σ H Q h0 => ?_
  obtain ⟨W, ρ, m, d, m', sm, rr, ee, qq⟩ := h0
  unfold evE at ee
  obtain ⟨x, e1, ee⟩ := bind_ok ee
  unfold evEs at e1
  obtain ⟨y, e2, e1⟩ := bind_ok e1
  obtain ⟨z, e3, e1⟩ := bind_ok e1
  unfold evEs at e3
  cases e3
  cases e1
  simp only [bi, asN, biSortSet] at ee
  obtain ⟨c, e4, ee⟩ := bind_ok ee
  obtain ⟨ds, e5, e4⟩ := bind_ok e4
  obtain ⟨is, e6, e4⟩ := bind_ok e4
  obtain ⟨hl, e4⟩ := if_ok e4 rfl
  cases e4
  refine rE1 sm rr e2 fun W' H' v l s' r1 => ?_
  obtain ⟨b, xs, rfl, hb, rb⟩ := itemsL_rel s' r1 e5
  cases ints_rel e6 rb
  refine ⟨b, is, rfl, SqL.of hb, hl, fun c o p h1 h2 => ?_⟩
  have s2 := s'.grow (upd_up (o := o) h1)
  obtain ⟨W2, l2, s3, r3⟩ := s2.fresh (sh := .lst) (ds := (sortU is).map D.int) (xs := (sortU is).map V.int) fr h2 (rps_ints _) rfl (.inr fun z => by cases z)
  have ee' : fin fr .lst ((sortU is).map D.int) y.2 = (d, m') := by injection ee
  rw [ee'] at s3 r3
  exact qq W2 _ _ (l.trans l2) s3 r3
end
end Mi
end
section
set_option linter.all false
set_option Elab.async false
set_option maxRecDepth 100000
set_option maxHeartbeats 2000000
/-! Mi15: dicts: union, displays. -/
namespace Mi
open PySem PySem.Spec PyProof.Rows L2
section
variable {prog : Program} {w : World} {κ : Type} [DecidableEq κ] {A : Around} {E : Value → Shared → Prop} {s : Shared}
/-- a | b of dicts -/
theorem meets_dict_or (knd : KeyKind prog w κ) (a b : Addr) (haS : (a == sysModules) = false) (hbS : (b == sysModules) = false) :
    MeetsIn prog w (Builtin.«dict.__or__» ⟨[.ref a, .ref b], []⟩) (fun _ R s => ∃ kvs more, s.heap.DictOf knd a kvs ∧ s.heap.DictOf knd b more ∧ kvs.length + more.length ≤ sizeLine ∧
      ∀ h', h'.DictOf knd s.heap.objs.size (merged kvs more) → (∀ x o, s.heap.get? x = some o → h'.get? x = some o) → R (.ok (.ret (.ref s.heap.objs.size))) { s with heap := h' }) :=
  .of_wp fun A R s ⟨kvs, more, hm, hb, hsz, h⟩ => by
    obtain ⟨o, es, ep, ho, hc, hdat, hk, hp, hn⟩ := id hm
    have hes : es.size ≤ sizeLine + 1 := by
      have e1 := hp.length
      have e2 : es.toList.length = es.size := by simp
      omega
    have hlt : ∀ {x o}, s.heap.get? x = some o → x < s.heap.objs.size := fun e => Heap.lt_size e
    have hbo : ∃ ob, s.heap.get? b = some ob := let ⟨ob, _, _, e, _⟩ := hb; ⟨ob, e⟩
    obtain ⟨ob, hob⟩ := hbo
    have hne : s.heap.objs.size ≠ b := Nat.ne_of_gt (hlt hob)
    unfold Builtin.«dict.__or__» Builtin.Dict.dictSlotArgs
    refine wpAny_bind (wpAny_bind (wpAny_notOrdered_dict hm.typeIs ?_))
    show wpAny _ _ (pure (Value.ref a, Value.ref b)) _ _ s
    refine wpAny_pure ?_
    show wpAny _ _ (do
      if !(← isInstance (.ref a) (.type "dict") <&&> isInstance (.ref b) (.type "dict")) then rule s!"{"dict.__or__"}.not-a-dict"; return ← ret .notImplemented
      let new ← Builtin.Dict.copyOf "dict.__or__" (.ref a)
      holding [new] (Builtin.Dict.updateFrom "dict.__or__" (← Builtin.Dict.addrOf new) (.ref b) [] new)) _ _ s
    have two : wpAny (model prog w) A.in1 ((isInstance (.ref a) (.type "dict") <&&> isInstance (.ref b) (.type "dict")) : Sem Bool) (fun r s' => r = true ∧ s' = s) (fun _ _ => False) s := by
      refine wpAny_bind (wpAny_isInstance hm.typeIs isSubtype_dict_dict ?_)
      exact wpAny_isInstance hb.typeIs isSubtype_dict_dict ⟨rfl, rfl⟩
    refine wpAny_bind (wpAny_mono two (fun r s' hr => ?_) fun _ _ h' => h'.elim)
    obtain ⟨rfl, rfl⟩ := hr
    simp only [Bool.not_true, Bool.false_eq_true, if_false]
    refine wpAny_bind ?_
    have fin : ∀ es' : Array DictEntry, es' = es → wpAny (model prog w) A.in1 (do
        holding [Value.ref s'.heap.objs.size] (Builtin.Dict.updateFrom "dict.__or__" (← Builtin.Dict.addrOf (Value.ref s'.heap.objs.size)) (.ref b) [] (Value.ref s'.heap.objs.size)))
        (fun fin s'' => ∃ v, fin = .done (.ret v) ∧ R (.ok (.ret v)) s'') (fun e s'' => R (.error e) s'') { s' with heap := s'.heap.push { cls := .type "dict", data := .dict es' } } := by
      rintro es' rfl
      refine wpAny_bind (wpAny_pure (wpAny_holding ?_))
      have hb1 : (s'.heap.push { cls := .type "dict", data := .dict es' }).DictOf knd b more := hb.push _
      have hnew : (s'.heap.push { cls := .type "dict", data := .dict es' }).DictOf knd s'.heap.objs.size kvs := ⟨_, es', 0, Heap.get?_push_size _ rfl, ⟨rfl, rfl, rfl⟩, rfl, hk, hp, hn⟩
      unfold Builtin.Dict.updateFrom
      refine wpAny_bind (wpAny_typeOf hb1.typeIs ?_)
      rw [if_neg (by decide)]
      refine wpAny_bind ?_
      unfold Builtin.Dict.merge
      refine wpAny_bind ?_
      unfold Builtin.Dict.readDirectly
      refine wpAny_bind (wpAny_isInstance hb1.typeIs isSubtype_dict_dict ?_)
      simp only [Bool.not_true, Bool.false_eq_true, if_false]
      refine wpAny_bind (wpAny_specialOf hb1.typeIs F.slot_dict_iter.lookup (wpAny_pure ?_))
      simp only [beq_self_eq_true, if_true]
      refine wpAny_bind (wpAny_pure ?_)
      refine wpAny_mergeDict (hsz := hsz) hne hbS hnew hb1 fun h' hd' ho' hs' => ?_
      show wpAny _ _ (Builtin.Dict.addKeywords s'.heap.objs.size [] >>= _) _ _ _
      exact wpAny_bind (wpAny_pure (wpAny_pure ⟨_, rfl, h h' hd' fun x o e => (hs'.2 x (Nat.ne_of_lt (hlt e))).trans (Heap.get?_push_of_some _ e)⟩))
    unfold Builtin.Dict.copyOf
    refine wpAny_bind (wpAny_pure ?_)
    unfold Builtin.Dict.showsAll
    rw [if_neg (by rw [haS]; exact Bool.false_ne_true)]
    refine wpAny_bind (wpAny_pure ?_)
    refine wpAny_bind (wpAny_dictEntries ho hdat ?_)
    by_cases hemp : es.isEmpty = true
    · rw [if_pos hemp]
      refine wpAny_bind (wpAny_rule (wpAny_newObj_type ?_))
      exact fin #[] (Array.isEmpty_iff.mp hemp).symm
    · rw [if_neg hemp]
      refine wpAny_bind ?_
      · unfold Builtin.Dict.readDirectly
        refine wpAny_bind (wpAny_isInstance hm.typeIs isSubtype_dict_dict ?_)
        simp only [Bool.not_true, Bool.false_eq_true, if_false]
        refine wpAny_bind (wpAny_specialOf hm.typeIs F.slot_dict_iter.lookup (wpAny_pure ?_))
        simp only [beq_self_eq_true, if_true]
        refine wpAny_bind (wpAny_entriesForEmpty (knd := knd) ho hdat hk (wpAny_newObj_type ?_ hes))
        exact fin es rfl
end
end Mi
namespace Mi
open PySem PySem.Spec PyProof.Rows L2
def rBor : R2 := fun x y H Q => ∃ (a b : Addr) (kvs more : List (Key × V)), x = .ref a ∧ y = .ref b ∧ H a = some (.dK kvs) ∧ H b = some (.dK more) ∧ kvs.length + more.length ≤ sizeLine ∧ ∀ p, H p = none → Q (.ref p) (upd H p (.dK (mergeK kvs more)))
section
variable {X : Cx}
theorem op_bor : OpR X (binaryOp .BitOr) rBor := by
  intro pins s σ H x y v u Q I rx ry h
  obtain ⟨a, b, kvs, more, rfl, rfl, ha, hb, hl, q⟩ := h
  obtain rfl : v = Value.ref a := rx
  obtain rfl : u = Value.ref b := ry
  obtain ⟨z1, hd1, vs1, rel1, dd1⟩ := dk_of I.hok ha
  obtain ⟨z2, hd2, vs2, rel2, dd2⟩ := dk_of I.hok hb
  have hl2 : vs1.length + vs2.length ≤ sizeLine := by rw [← rel1.length, ← rel2.length]; exact hl
  refine wpAny_binaryOp_same (op := .BitOr) dd1.typeIs dd2.typeIs F.fills_dict_or F.slot_dict_or ?_
  refine call_meetsIn F.slot_dict_or dd1.typeIs F.entry_dict_or (F.args_dict_or_2 _ _) (meets_dict_or (mixKind X.prog X.w) a b hd1 hd2) ⟨vs1, vs2, dd1, dd2, hl2, fun h' dd' hk => ?_⟩
  have hz : (mergeK kvs more).length ≤ sizeLine := Nat.le_trans (length_mergeK more kvs) hl
  have hd' : (s.heap.objs.size == sysModules) = false := by
    have := I.big
    simp only [beq_eq_false_iff_ne]
    exact Nat.ne_of_gt this
  exact ⟨by simp, .ref s.heap.objs.size, _, I.laid (t' := s.toks) hk (Nat.le_refl _) (dk_new hz hd' (rel2.merge rel1) dd'), rfl, q _ (I.hok.fresh (Nat.le_refl _))⟩
end
section
variable {K : PySem.W.Frag} {cl : ClA}
theorem kputs_rel {W : Wd} : ∀ {js : List Key} {es : List D} {ys : List V} {ks : List Key} {ds : List D} {xs : List V}, js.length = ys.length → Rps K cl W es ys → ks.length = xs.length → Rps K cl W ds xs →
    ∃ zs, (kputs js es ks ds).1.length = zs.length ∧ mergeK (ks.zip xs) (js.zip ys) = (kputs js es ks ds).1.zip zs ∧ Rps K cl W (kputs js es ks ds).2 zs
  | [], es, ys, ks, ds, xs, _, _, h, r => ⟨xs, by cases es <;> exact h, by cases es <;> rfl, by cases es <;> exact r⟩
  | j :: js, [], ys, ks, ds, xs, h1, h2, _, _ => by
    unfold Rps at h2; subst h2; cases h1
  | j :: js, e :: es, ys, ks, ds, xs, h1, h2, h, r => by
    unfold Rps at h2
    obtain ⟨y, ys', rfl, r1, r2⟩ := h2
    obtain ⟨zs, z1, z2, z3⟩ := kput_rel j h r1 r
    obtain ⟨us, u1, u2, u3⟩ := kputs_rel (js := js) (es := es) (ys := ys') (by simpa using h1) r2 z1 z3
    refine ⟨us, u1, ?_, u3⟩
    rw [List.zip_cons_cons]
    show mergeK (putK (ks.zip xs) j y) (js.zip ys') = _
    rw [z2]
    exact u2
theorem ops_bor : OpS K cl (bin .bor) rBor := by
  intro W m H a b d v u Q s ra rb h q
  replace h : borD m a b = .ok d := h
  unfold borD at h
  split at h
  · rename_i ks ds js es hv hu
    obtain ⟨hl, h⟩ := if_ok h rfl
    cases h
    obtain ⟨p1, xs, rfl, ⟨l1, h1⟩, r1⟩ := s.view ra hv
    obtain ⟨p2, ys, rfl, ⟨l2, h2⟩, r2⟩ := s.view rb hu
    obtain ⟨zs, z1, z2, z3⟩ := kputs_rel l2 r2 l1 r1
    refine ⟨p1, p2, _, _, rfl, rfl, h1, h2, by rw [List.length_zip, List.length_zip, ← l1, ← l2, Nat.min_self, Nat.min_self]; exact hl, fun p hp => ?_⟩
    rw [z2]
    obtain ⟨W2, lw, s2, r3⟩ := s.fresh (sh := .dK (kputs js es ks ds).1) (ds := (kputs js es ks ds).2) (xs := zs) true hp z3 (by simp [shLen, z1]) (.inl rfl)
    exact q W2 _ _ lw s2 r3
  · cases h
end
/-! displays -/
section
variable {X : Cx} {cl : ClA} {cal : Cal} {K : PySem.W.Frag}
def trsOf (K : PySem.W.Frag) (cl : ClA) (cal : Cal) : List E → List (TE × TE)
  | k :: v :: es => (rE K cl cal k, rE K cl cal v) :: trsOf K cl cal es
  | _ => []
/-- pairs of data and of values -/
inductive PRel (K : PySem.W.Frag) (cl : ClA) (W : Wd) : List D → List (V × V) → Prop
  | nil : PRel K cl W [] []
  | cons {k v : D} {ds : List D} {x y : V} {ps : List (V × V)} : Rp K cl W k x → Rp K cl W v y → PRel K cl W ds ps → PRel K cl W (k :: v :: ds) ((x, y) :: ps)
theorem tPairs_of : ∀ {es : List E} {σ : L2.St} {H : Hp} {Q : List (V × V) → Hp → Prop} {W : Wd} {ρ : Env} {m m' : Mem} {ds : List D}, es.length % 2 = 0 → Sim K cl W m H → REnv K cl W ρ σ → evEs cal es ρ m = .ok (ds, m') →
    (∀ W' H' ps, W.le W' → Sim K cl W' m' H' → PRel K cl W' ds ps → Q ps H') → tPairs (trsOf K cl cal es) σ H Q
  | [], σ, H, Q, W, ρ, m, m', ds, _, s, rr, e, q => by
    unfold evEs at e; cases e
    exact q W H [] (.refl W) s .nil
  | [_], σ, H, Q, W, ρ, m, m', ds, h2, s, rr, e, q => by cases h2
  | k :: v :: es, σ, H, Q, W, ρ, m, m', ds, h2, s, rr, e, q => by
    unfold evEs at e
    obtain ⟨x, e1, e⟩ := bind_ok e
    obtain ⟨y, e2, e⟩ := bind_ok e
    cases e
    unfold evEs at e2
    obtain ⟨x2, e3, e2⟩ := bind_ok e2
    obtain ⟨y2, e4, e2⟩ := bind_ok e2
    cases e2
    refine rE2 s rr e1 e3 fun W' H' v1 u1 l s' r1 r2 => ?_
    exact tPairs_of (by simp at h2; omega) s' (rr.up l) e4 fun W2 H2 ps l2 s2 r => q W2 H2 _ (l.trans l2) s2 (.cons (r1.up l2) (r2.up l2) r)
theorem puts_rel {W : Wd} : ∀ {ds : List D} {ps : List (V × V)} {c' : Sh × List D} {ks : List Key} {es : List D} {xs : List V}, PRel K cl W ds ps → putsC ds (.dK ks, es) = .ok c' → ks.length = xs.length → Rps K cl W es xs →
    ∃ (kvs : List (Key × V)) (ks' : List Key) (es' : List D) (xs' : List V), ps = kvs.map (fun kv => (kV kv.1, kv.2)) ∧ c' = (.dK ks', es') ∧ ks'.length = xs'.length ∧ mergeK (ks.zip xs) kvs = ks'.zip xs' ∧ Rps K cl W es' xs' := by
  intro ds ps c' ks es xs hr
  induction hr generalizing ks es xs with
  | nil => intro h hl r; unfold putsC at h; cases h; exact ⟨[], ks, es, xs, rfl, rfl, hl, rfl, r⟩
  | @cons k v ds x y ps r1 r2 _ ih =>
    intro h hl r
    unfold putsC at h
    obtain ⟨c, h1, h2⟩ := bind_ok h
    simp only [putC] at h1
    split at h1
    · rename_i k' hk'
      obtain ⟨hm, h1⟩ := if_ok h1 rfl
      cases h1
      have ek := kV_of hk' r1
      subst ek
      obtain ⟨zs, z1, z2, z3⟩ := kput_rel k' hl r2 r
      obtain ⟨kvs, ks', es', xs', q1, q2, q3, q4, q5⟩ := ih h2 z1 z3
      refine ⟨(k', y) :: kvs, ks', es', xs', by rw [q1]; rfl, q2, q3, ?_, q5⟩
      show mergeK (putK (ks.zip xs) k' y) kvs = _
      rw [z2]; exact q4
    · cases h1
theorem se_dct {fr : Bool} {pos : Pos} {keys : List (Option Expr)} {values : List Expr} {es : List E} (h : PPs X pos keys values (trsOf X.K cl cal es)) (hall : keys.all (·.isSome) = true) (hl : keys.length = values.length) (h0 : keys ≠ [])
    (h15 : keys.length ≤ 15) (h2 : es.length % 2 = 0) (h3 : es.length ≤ 30) : SE X cl cal (.Dict keys values pos) (.dct fr false es) := by
  refine (pe_disp h hall hl h0 h15).imp fun σ H Q hh => ?_
  obtain ⟨W, ρ, m, d, m', s, rr, ee, q⟩ := hh
  unfold evE at ee
  obtain ⟨x, e1, ee⟩ := bind_ok ee
  obtain ⟨c, e2, ee⟩ := bind_ok ee
  intro p hp
  obtain ⟨w1, w2, w3, w4⟩ := s.free hp
  obtain ⟨s1, l1⟩ := s.priv (p := p) (o := .dK []) w1 w2 w3 rfl
  generalize hW1 : ({ W with P := upd W.P p (.dK []) } : Wd) = W1 at s1 l1
  have hp1 : W1.P p = some (.dK []) := by rw [← hW1]; exact upd_same
  refine tPairs_of h2 s1 (rr.up0 l1.z) e1 fun W2 H2 ps l2 s2 rp => ?_
  have hp2 : W2.P p = some (.dK []) := by rw [l2.P]; exact hp1
  obtain ⟨kvs, ks', es', xs', q1, q2, q3, q4, q5⟩ := puts_rel (ks := []) (es := []) (xs := []) rp e2 rfl Rps.nil
  subst q2
  have hH := (s2.P _ _ hp2).1
  have hlen : kvs.length ≤ 15 := by
    have a1 : ps.length = kvs.length := by rw [q1, List.length_map]
    have a2 : ∀ {ds : List D} {ps : List (V × V)}, PRel X.K cl W2 ds ps → ds.length = 2 * ps.length := fun hr => by
      induction hr with
      | nil => rfl
      | cons _ _ _ ih => simp [ih]; omega
    have a3 := a2 rp
    have a4 : x.1.length = es.length := evEs_length e1
    omega
  refine ⟨hH, kvs, q1, hlen, ?_⟩
  obtain ⟨y1, y2, y3⟩ := s2.privFree hp2
  obtain ⟨s3, l3⟩ := s2.priv (p := p) (o := .dK (mergeK [] kvs)) y1 y2 y3 rfl
  obtain ⟨l4, s4⟩ := Sim.letGo s3 ((l1.trans (.of l2)).trans l3) w4
  have q4' : mergeK [] kvs = ks'.zip xs' := q4
  obtain ⟨W5, l5, s5, r5⟩ := s4.adopt (p := p) (sh := .dK ks') (ds := es') (xs := xs') fr (by rw [upd_same, q4']; rfl) y1 y2 y3 w4 (Rps.up0 (W := W2) (W' := ⟨W2.io, W2.F, W2.B, W.P⟩) ⟨fun _ _ h => h, fun _ _ h => h, rfl⟩ q5) (by simp [shLen, q3]) (.inr fun z => by cases z)
  have ee' : fin fr (.dK ks') es' x.2 = (d, m') := by injection ee
  rw [ee'] at s5 r5
  exact q W5 _ _ (l4.trans l5) s5 r5
theorem se_dct0 {fr : Bool} {pos : Pos} : SE X cl cal (.Dict [] [] pos) (.dct fr false []) := by
  refine pe_dnewK.imp fun σ H Q hh => ?_
  obtain ⟨W, ρ, m, d, m', s, rr, ee, q⟩ := hh
  unfold evE evEs at ee
  obtain ⟨x, e1, ee⟩ := bind_ok ee
  cases e1
  obtain ⟨c, e2, ee⟩ := bind_ok ee
  unfold putsC at e2
  cases e2
  intro p hp
  obtain ⟨W5, l5, s5, r5⟩ := s.fresh (p := p) (sh := .dK []) (ds := []) (xs := []) fr hp Rps.nil rfl (.inr fun z => by cases z)
  have ee' : fin fr (.dK []) [] m = (d, m') := by injection ee
  rw [ee'] at s5 r5
  exact q W5 _ _ l5 s5 r5
end
end Mi
end
section
set_option linter.all false
set_option Elab.async false
set_option maxRecDepth 100000
set_option maxHeartbeats 2000000
/-! Mi16: enumerate of tuples. -/
namespace Mi
open PySem PySem.Spec PyProof.Rows L2
theorem meets_enumerate_one {v : Value} {o : Obj} {H : Heap → Prop} (B : Begins v o H) :
    Meets (Builtin.«enumerate.__new__» ⟨[.type "enumerate", v], []⟩) (fun _ R s => H s.heap ∧
      R (.ok (.ret (.ref (s.heap.push o).objs.size))) { s with heap := (s.heap.push o).push { cls := .type "enumerate", data := .fields #[.none, .bool false, .ref s.heap.objs.size, rawInt 0, .none, .none] } }) :=
  .of_wp fun prog w A R s h => by
    obtain ⟨hp, g, d, tk, os⟩ := s; obtain ⟨h1, h⟩ := h
    have hsub := sub_enumerate
    have q1 : ∀ {A' : Around} {E : Value → Shared → Prop} {Q : Value → Shared → Prop}, Q (.ref hp.objs.size) ⟨hp.push o, g, d, tk, os⟩ → wpAny (model prog w) A' (pyIter v) Q E ⟨hp, g, d, tk, os⟩ :=
      fun q => B.iter prog w _ _ ⟨hp, g, d, tk, os⟩ _ h1 q
    wp_walk using q1
    refine wpAny_stack_any fun st => wpAny_pure ?_
    split
    · rename_i c _ _ _ _ _
      cases (c == Value.type "enumerate")
      · wp_walk using q1
        exact ⟨_, rfl, h⟩
      · wp_walk using q1
        exact ⟨_, rfl, h⟩
    · wp_walk using q1
      exact ⟨_, rfl, h⟩
section
variable {prog : Program} {w : World} {A : Around} {E : Value → Shared → Prop} {s : Shared}
theorem enum_one {v : Value} {o : Obj} {H : Heap → Prop} {Q : Value → Shared → Prop} (B : Begins v o H) (h1 : H s.heap)
    (h : ∀ h', IsEnum h' (s.heap.objs.size + 1) s.heap.objs.size 0 .none → h'.get? s.heap.objs.size = some o → h'.objs.size = s.heap.objs.size + 2 →
      (∀ b o, s.heap.get? b = some o → h'.get? b = some o) → Q (.ref (s.heap.objs.size + 1)) { s with heap := h' }) :
    wpAny (model prog w) A (call (.type "enumerate") [v]) Q E s := by
  refine callType_new F.called_enumerate (by decide) (F.typeCall_enumerate_1 _) (F.newCall_enumerate_1 _) (fun obj => F.args_object_init_2 obj _) F.entry_enumerate_new
    (meets_enumerate_one B) ⟨h1, ?_⟩
  have hz : (s.heap.push o).objs.size = s.heap.objs.size + 1 := Heap.size_push ..
  show _ ∧ _
  rw [hz]
  have he : IsEnum ((s.heap.push o).push { cls := .type "enumerate", data := .fields #[.none, .bool false, .ref s.heap.objs.size, rawInt 0, .none, .none] }) (s.heap.objs.size + 1) s.heap.objs.size 0 .none := by
    have := Heap.get?_push_size (s.heap.push o) (o := { cls := .type "enumerate", data := .fields #[.none, .bool false, .ref s.heap.objs.size, rawInt 0, .none, .none] }) rfl
    rw [hz] at this; exact this
  exact ⟨⟨_, he, rfl⟩, h _ he (Heap.get?_push_of_some _ (Heap.get?_push_size _ B.free)) (by rw [Heap.size_push, hz]) fun b o x => Heap.get?_push_of_some _ (Heap.get?_push_of_some _ x)⟩
end
/-- the tuple at a, each item in a new pair -/
def IteT (K : PySem.W.Frag) (a : Addr) : It :=
  ⟨fun i H => ∃ (xs : List V) (x : V), SqT K H a xs ∧ xs[i]? = some x, fun i H v H' => ∃ T x, v = .ref T ∧ H T = none ∧ H' = upd H T (.tup [.int (i : Nat), x]) ∧ ∀ xs, SqT K H a xs → xs[i]? = some x, fun i H => ∃ xs : List V, SqT K H a xs ∧ xs.length = i⟩
theorem turn_enumT {P : Program} {w : World} {K : PySem.W.Frag} {elts : List Expr} {kk : Nat} {tpos : Pos} (a e it : Addr) (hea : e ≠ a) (hia : it ≠ a) :
    Turn P w K (.Tuple elts kk tpos) (IteT K a) [e, it] e (fun i h => (∃ old, IsEnum h e it ((i : Nat) : Int) old) ∧ h.IsTupleIter it a i ∧ e ≠ it) where
  mem := by simp
  obj := fun i h st b hb => by
    obtain ⟨⟨old, he⟩, ⟨o, ho, hc, hd⟩, _⟩ := st
    have e' : b = e ∨ b = it := by simpa using hb
    rcases e' with z | z
    · rw [z]; exact ⟨_, he, fun v q => nomatch q⟩
    · rw [z]; exact ⟨o, ho, fun v q => by rw [hd] at q; cases q⟩
  keep := fun i h h' st k => let ⟨⟨old, he⟩, hi, hne⟩ := st; ⟨⟨old, k e (by simp) _ he⟩, hi.at fun o q => k it (by simp) o q, hne⟩
  item := by
    intro X hP hw hK hc i pins s σ H E I hf st hg
    subst hP hw hK
    obtain ⟨⟨old, he⟩, hit, hne⟩ := st
    obtain ⟨xs, x, hq, hx⟩ := hg
    obtain ⟨its, rv, p, hz⟩ := I.tuple hq
    obtain ⟨u, hu, ru⟩ := rv.get hx
    have hel : e < s.heap.objs.size := Heap.lt_size he
    have hil : it < s.heap.objs.size := by obtain ⟨_, q, _⟩ := hit; exact Heap.lt_size q
    have hlt : i < its.toArray.size := by
      have := List.getElem?_eq_some_iff.mp hu
      simpa using this.1
    refine wpAny_pyNext_enum_itemD (Draws.tuple (A := X.A.in1) (I.ok.hd hc) it a (Ne.symm hia) its.toArray) he ⟨hit, p⟩ hlt hne (by simp [hne, hea]) fun y h' tk hy ho st' hT hsz hk => ?_
    have hyu : y = u := by
      have h1 : its.toArray[i]? = some y := hy
      have h2 : its.toArray[i]? = some u := by simpa using hu
      rw [h1] at h2; cases h2; rfl
    subst hyu
    refine ⟨_, rfl, wpAny_letOwnedTupleGo_enum (s := { s with heap := h', toks := tk + 1 }) ho fun h'' he' sb => ?_⟩
    have hT2 : h''.get? s.heap.objs.size = some { cls := .type "tuple", data := .seq #[.int i tk, y] } := (sb.2 _ (Nat.ne_of_gt hel)).trans hT
    have new : ObjOk X.prog X.w (upd H s.heap.objs.size (.tup [.int (i : Nat), x])) h'' s.heap.objs.size (.tup [.int (i : Nat), x]) :=
      ⟨by show 2 ≤ sizeLine; decide, [.int i tk, y], .cons ⟨_, rfl⟩ (.cons ru .nil), ⟨_, hT2, rfl, _, rfl⟩⟩
    have I1 : Inv X pins σ (upd H s.heap.objs.size (.tup [.int (i : Nat), x])) { s with heap := h'', toks := tk + 1 } :=
      I.turnedNew (ch := [e, it]) (fun b ob hb q => (sb.2 b (fun z => hb (by simp [z]))).trans (hk b ob (fun z => hb (by simp [z])) (fun z => hb (by simp [z])) q)) hf (Nat.le_refl _) new
    refine ⟨.ref s.heap.objs.size, _, I1, rfl, ⟨_, x, rfl, I.hok.fresh (Nat.le_refl _), rfl, fun ys hy => by rw [I.tuple_inj hy hq]; exact hx⟩, ⟨⟨y, ?_⟩, st'.1.at fun o q => (sb.2 it (Ne.symm hne)).trans q, hne⟩, fun b hb => ?_⟩
    · have e1 : ((i + 1 : Nat) : Int) = (i : Int) + 1 := by omega
      rw [e1]; exact he'
    · have hb' : b < s.heap.objs.size := by
        have e' : b = e ∨ b = it := by simpa using hb
        rcases e' with z | z
        · rw [z]; exact hel
        · rw [z]; exact hil
      rw [upd_ne (Nat.ne_of_lt hb')]
      exact (hf b hb).1
  done := by
    intro X hP hw hK hc i pins s σ H E I hf st hg
    subst hP hw hK
    obtain ⟨⟨old, he⟩, hit, hne⟩ := st
    obtain ⟨xs, hq, hx⟩ := hg
    obtain ⟨its, rv, p, hz⟩ := I.tuple hq
    obtain ⟨f0, f1, f2, f3, f4, f5⟩ := hf it (by simp)
    have hl := rv.length
    have hin : its.toArray.size = i := by simp; omega
    refine wpAny_pyNext_enum_endD (Draws.tuple (A := X.A.in1) (I.ok.hd hc) it a (Ne.symm hia) its.toArray) he ⟨by rw [hin]; exact hit, p⟩ fun h' eb => ⟨rfl, I.turned (t' := s.toks) (fun b o hb q => eb b o hb q) f0 f1 f3 f4 f5⟩
  self := fun A i s Q E st h => let ⟨⟨_, he⟩, _⟩ := st; wpAny_pyIter_enum he h
def iEnumA (K : PySem.W.Frag) (ta : TA) : TI := fun σ H R => ta σ H fun vs H1 => ∃ a, vs = [.ref a] ∧ ((∃ xs, SqL K H1 a xs ∧ R (Ite K a) H1) ∨ ∃ xs, SqT K H1 a xs ∧ R (IteT K a) H1)
theorem pi_enumA {X : Cx} {e : Expr} {ta : TA} {p pos tpos : Pos} {elts : List Expr} {kk : Nat} (hg : Gl X "enumerate") (hm : X.mg "enumerate" = none) (ha : PA X [e] ta) (hs : starEach [e] X.env = [(false, eval e X.env)]) :
    PI X (.Tuple elts kk tpos) (.Call (.Name "enumerate" p) [e] [] pos) (iEnumA X.K ta) := by
  refine ⟨fun pins s σ H R I h => ?_⟩
  refine Call_ (ld_blt I hg hm boot_enumerate (PyProof.Rows.callWith_type1 (thn (ha.run pos pins s σ H _ I h) fun us s1 ⟨vs, H1, I1, r1, q1⟩ => ?_) hs rfl))
  obtain ⟨a, ex, q1⟩ := q1
  subst ex
  cases r1 with
  | cons r rr =>
    cases rr
    cases r
    have fp2 : ∀ b ∈ [s1.heap.objs.size + 1, s1.heap.objs.size], FpOk X pins H1 b := fun b hb => by
      have e' : b = s1.heap.objs.size + 1 ∨ b = s1.heap.objs.size := by simpa using hb
      have hle : s1.heap.objs.size ≤ b := by
        rcases e' with z | z
        · rw [z]; exact Nat.le_add_right _ _
        · rw [z]; exact Nat.le_refl _
      exact I1.fpOk hle (I1.hok.fresh hle)
    rcases q1 with ⟨xs, hq, q⟩ | ⟨xs, hq, q⟩
    · obtain ⟨its, rv, p', hz⟩ := I1.list hq
      refine call_enumerate_list p'.isList fun h' he hit hsz hk => wpAny_pyIter_enum he ?_
      have I2 : Inv X pins σ H1 { s1 with heap := h' } := I1.kept (t' := s1.toks) hk
      exact ⟨s1.heap.objs.size + 1, [s1.heap.objs.size + 1, s1.heap.objs.size], _, _, H1, rfl, I2, turn_enum a (s1.heap.objs.size + 1) s1.heap.objs.size, ⟨⟨.none, he⟩, hit, Nat.succ_ne_self _⟩, fp2, q⟩
    · obtain ⟨its, rv, p', hz⟩ := I1.tuple hq
      have hal : a < s1.heap.objs.size := by obtain ⟨o, ho, _⟩ := id p'; exact Heap.lt_size ho
      refine enum_one (begins_tuple a its.toArray) p' fun h' he hit hsz hk => wpAny_pyIter_enum he ?_
      have I2 : Inv X pins σ H1 { s1 with heap := h' } := I1.kept (t' := s1.toks) hk
      exact ⟨s1.heap.objs.size + 1, [s1.heap.objs.size + 1, s1.heap.objs.size], _, _, H1, rfl, I2, turn_enumT a (s1.heap.objs.size + 1) s1.heap.objs.size (Nat.ne_of_gt (Nat.lt_succ_of_lt hal)) (Nat.ne_of_gt hal), ⟨⟨.none, he⟩, ⟨_, hit, rfl, rfl⟩, Nat.succ_ne_self _⟩, fp2, q⟩
end Mi
end
section
set_option linter.all false
set_option Elab.async false
set_option maxRecDepth 100000
set_option maxHeartbeats 2000000
/-! Mi17: walks over enumerate and zip; pairs to dicts; starred targets. -/
namespace Mi
open PySem PySem.Spec PyProof.Rows L2
section
variable {X : Cx} {cl : ClA} {cal : Cal} {a b c : Expr} {a' b' c' : E} {pos : Pos} {tg : Expr}
theorem enumD_get : ∀ {ds : List D} {k i : Nat}, (enumD k ds)[i]? = ds[i]?.map fun d => tupD [.int ((k + i : Nat) : Int), d]
  | [], _, _ => by simp [enumD]
  | d :: ds, k, 0 => by simp [enumD]
  | d :: ds, k, i + 1 => by
    unfold enumD
    rw [List.getElem?_cons_succ, enumD_get, List.getElem?_cons_succ]
    congr 1
    funext d
    rw [show k + 1 + i = k + (i + 1) by omega]
theorem enumD_length : ∀ {ds : List D} {k : Nat}, (enumD k ds).length = ds.length
  | [], _ => rfl
  | d :: ds, k => by unfold enumD; simp [enumD_length (ds := ds)]
theorem pair_new {W : Wd} {m : Mem} {H : Hp} {d e : D} {x y : V} {T : Addr} (s : Sim X.K cl W m H) (hT : H T = none) (r1 : Rp X.K cl W d x) (r2 : Rp X.K cl W e y) : ∃ W', W.le W' ∧ Sim X.K cl W' m (upd H T (.tup [x, y])) ∧ Rp X.K cl W' (tupD [d, e]) (.ref T) :=
  s.newF (sh := .tup) (ds := [d, e]) (xs := [x, y]) hT (Rps.cons r1 (Rps.cons r2 Rps.nil)) rfl
theorem it_enuT {W0 : Wd} {p : Addr} {xs : List V} {ds : List D} {o : Bool} (h : SqT X.K (if o then W0.F else W0.B) p xs) (r : Rps X.K cl W0 ds xs) : ItOk X.K cl (IteT X.K p) W0 (.st (enumD 0 ds)) := by
  intro W m H i l s
  have hp : SqT X.K H p xs := SqT.up (fun b u e => by
    cases o with
    | true => exact s.F _ _ (l.F _ _ e)
    | false => exact s.B _ _ (by rw [l.B]; exact e)) h
  refine ⟨fun d hd => ?_, fun he => ⟨xs, hp, ?_⟩⟩
  · have hd : (enumD 0 ds)[i]? = some d := hd
    rw [enumD_get] at hd
    obtain ⟨d0, e1, e2⟩ := Option.map_eq_some_iff.mp hd
    subst e2
    obtain ⟨v, h1, h2⟩ := r.get e1
    refine ⟨⟨xs, v, hp, h1⟩, fun x H' hy => ?_⟩
    obtain ⟨T, x0, rfl, hT, rfl, hy⟩ := hy
    have e := (hy xs hp).symm.trans h1
    cases e
    rw [Nat.zero_add]
    exact pair_new s hT .of_int (h2.up0 l)
  · have he : i = (enumD 0 ds).length := he
    rw [enumD_length] at he
    rw [← r.length]; exact he.symm
theorem it_enuL {W0 : Wd} {p : Addr} {xs : List V} {ds : List D} (h : W0.F p = some (.lst xs) ∨ W0.B p = some (.lst xs)) (r : Rps X.K cl W0 ds xs) : ItOk X.K cl (Ite X.K p) W0 (.st (enumD 0 ds)) := by
  intro W m H i l s
  have hp : H p = some (.lst xs) := by
    rcases h with h | h
    · exact s.F _ _ (l.F _ _ h)
    · exact s.B _ _ (by rw [l.B]; exact h)
  refine ⟨fun d hd => ?_, fun he => ⟨xs, SqL.of hp, ?_⟩⟩
  · have hd : (enumD 0 ds)[i]? = some d := hd
    rw [enumD_get] at hd
    obtain ⟨d0, e1, e2⟩ := Option.map_eq_some_iff.mp hd
    subst e2
    obtain ⟨v, h1, h2⟩ := r.get e1
    refine ⟨⟨xs, v, SqL.of hp, h1⟩, fun x H' hy => ?_⟩
    obtain ⟨T, x0, rfl, hT, rfl, hy⟩ := hy
    have e := (hy xs (SqL.of hp)).symm.trans h1
    cases e
    rw [Nat.zero_add]
    exact pair_new s hT .of_int (h2.up0 l)
  · have he : i = (enumD 0 ds).length := he
    rw [enumD_length] at he
    rw [← r.length]; exact Nat.le_of_eq he.symm
theorem it_enuC {W0 : Wd} {n : Nat} {p : Addr} (h : W0.io n = some p) : ItOk X.K cl (Ite X.K p) W0 (.cell n true) := by
  intro W m H i l s
  have key : ∀ ds, lstAt m n = some ds → ∃ xs, H p = some (.lst xs) ∧ Rps X.K cl W ds xs := fun ds e => by
    unfold lstAt at e
    split at e
    · rename_i es hn
      cases e
      obtain ⟨a, xs, e1, _, _, ca, rs⟩ := s.cell n _ hn
      rw [l.io _ _ h] at e1; cases e1
      exact ⟨xs, ca, rs⟩
    · cases e
  refine ⟨fun d hd => ?_, fun he => ?_⟩
  · obtain ⟨ds, e1, e2⟩ := Option.bind_eq_some_iff.mp hd
    obtain ⟨d', e3, e4⟩ := Option.map_eq_some_iff.mp e2
    have e4 : tupD [.int i, d'] = d := e4
    subst e4
    obtain ⟨xs, hp, rs⟩ := key ds e1
    obtain ⟨v, h1, h2⟩ := rs.get e3
    refine ⟨⟨xs, v, SqL.of hp, h1⟩, fun x H' hy => ?_⟩
    obtain ⟨T, x0, rfl, hT, rfl, hy⟩ := hy
    have e := (hy xs (SqL.of hp)).symm.trans h1
    cases e
    exact pair_new s hT .of_int h2
  · obtain ⟨ds, e1, e2⟩ := he
    obtain ⟨xs, hp, rs⟩ := key ds e1
    exact ⟨xs, SqL.of hp, by rw [← rs.length]; exact Nat.le_of_eq e2⟩
theorem si_enu {e : Expr} {p tpos : Pos} {elts : List Expr} {kk : Nat} (hg : Gl X "enumerate") (hm : X.mg "enumerate" = none) (h : SE X cl cal e a') (hs : starEach [e] X.env = [(false, eval e X.env)]) :
    SI X cl cal (.Tuple elts kk tpos) (.Call (.Name "enumerate" p) [e] [] pos) (.enu a') := by
  refine (pi_enumA hg hm (pa_cons h pa_nil (by rw [hs]; rfl)) hs).imp fun σ H Z h0 => ?_
  obtain ⟨W, ρ, m, src, m', sm, rr, ee, q⟩ := h0
  unfold evI at ee
  obtain ⟨x, e1, ee⟩ := bind_ok ee
  obtain ⟨sr, e2, ee⟩ := bind_ok ee
  cases ee
  refine rE1 sm rr e1 fun W' H' v l s' r1 => ?_
  unfold enuOf at e2
  split at e2
  · rename_i n hx
    split at e2
    · rename_i ds hn
      cases e2
      rw [hx] at r1
      obtain ⟨a, xs, rfl, ha, ca, rs⟩ := s'.cellAt r1 hn
      exact ⟨a, rfl, .inl ⟨xs, SqL.of ca, q W' H' _ l s' (it_enuC ha)⟩⟩
    · cases e2
  · rename_i o ds hx
    cases e2
    rw [hx] at r1
    unfold Rp at r1
    obtain ⟨a, xs, rfl, ha, rs⟩ := r1
    refine ⟨a, rfl, .inr ⟨xs, SqT.up (fun b u e => ?_) ha, q W' H' _ l s' (it_enuT ha rs)⟩⟩
    cases o with
    | true => exact s'.F _ _ e
    | false => exact s'.B _ _ e
  · rename_i o ds hx
    cases e2
    rw [hx] at r1
    unfold Rp at r1
    obtain ⟨a, xs, rfl, ha, rs⟩ := r1
    refine ⟨a, rfl, .inr ⟨xs, SqT.up (fun b u e => ?_) ha.sq, q W' H' _ l s' (it_enuT ha.sq rs)⟩⟩
    cases o with
    | true => exact s'.F _ _ e
    | false => exact s'.B _ _ e
  · rename_i o ds hx
    cases e2
    rw [hx] at r1
    unfold Rp at r1
    obtain ⟨a, xs, rfl, ha, rs⟩ := r1
    have ha' : W'.F a = some (.lst xs) ∨ W'.B a = some (.lst xs) := by
      cases o with
      | true => exact .inl ha
      | false => exact .inr ha
    have hH : H' a = some (.lst xs) := by
      rcases ha' with h | h
      · exact s'.F _ _ h
      · exact s'.B _ _ h
    exact ⟨a, rfl, .inl ⟨xs, SqL.of hH, q W' H' _ l s' (it_enuL ha' rs)⟩⟩
  · cases e2
end
end Mi
end
section
set_option linter.all false
set_option Elab.async false
set_option maxRecDepth 100000
set_option maxHeartbeats 2000000
/-! Mi18: dict(pairs); starred targets; names set at once. -/
namespace Mi
open PySem PySem.Spec PyProof.Rows L2
section
variable {X : Cx} {cl : ClA} {cal : Cal}
theorem pairs_at {pins : List (Addr × Obj)} {σ : L2.St} {H : Hp} {s : Shared} (I : Inv X pins σ H s) : ∀ {ps : List Addr} {kvs : List (Key × V)}, Paired (fun p kv => SqT X.K H p [kV kv.1, kv.2]) ps kvs →
    ∃ (prs : List (Key × Value)) (pv : List (Value × Value)), KV kvs prs ∧ prs.length = ps.length ∧ pv.length = ps.length ∧ (∀ (j : Nat) (k v : Value), pv[j]? = some (k, v) → ∃ b, ps[j]? = some b ∧ IsTup s.heap b #[k, v]) ∧
      ∀ (j : Nat) (k v : Value), pv[j]? = some (k, v) → ∃ q, prs[j]? = some (q, v) ∧ (mixKind X.prog X.w).is q k = true
  | _, _, .nil => ⟨[], [], .nil, rfl, rfl, fun j k v e => by simp at e, fun j k v e => by simp at e⟩
  | _, _, .cons (a := p) (b := kv) h t => by
    obtain ⟨prs, pv, r, hl, hl2, hp, hq⟩ := pairs_at I t
    obtain ⟨its, rv, ht, _⟩ := I.tuple h
    obtain ⟨u, y, ei, ru, ry⟩ := vals2 rv
    subst ei
    refine ⟨(kv.1, y) :: prs, (u, y) :: pv, .cons ⟨rfl, ry⟩ r, by simp [hl], by simp [hl2], fun j k v e => ?_, fun j k v e => ?_⟩
    · cases j with
      | zero =>
        have e' : (u, y) = (k, v) := Option.some.inj e
        cases e'
        exact ⟨p, rfl, ht⟩
      | succ j =>
        obtain ⟨b, e1, e2⟩ := hp j k v (by simpa using e)
        exact ⟨b, by simpa using e1, e2⟩
    · cases j with
      | zero =>
        have e' : (u, y) = (k, v) := Option.some.inj e
        cases e'
        exact ⟨kv.1, rfl, kV_is (P := X.prog) (w := X.w) ru⟩
      | succ j =>
        obtain ⟨b, e1, e2⟩ := hq j k v (by simpa using e)
        exact ⟨b, by simpa using e1, e2⟩
def rDictA (K : PySem.W.Frag) : List V → Hp → VK → Prop := fun xs H Q => ∃ (a : Addr) (ps : List Addr) (kvs : List (Key × V)), xs = [.ref a] ∧ (SqL K H a (ps.map V.ref) ∨ ∃ ob : Obj, H a = some (.frz ob (.tup (ps.map V.ref))) ∧ ob.dict = none) ∧ Paired (fun p kv => SqT K H p [kV kv.1, kv.2]) ps kvs ∧
    ∀ p, H p = none → Q (.ref p) (upd H p (.dK (mergeK [] kvs)))
theorem cr_dictA (hcalm : X.calm = true) : CallR X (.type "dict") (rDictA X.K) := by
  intro pins s σ H xs us Q I r h
  obtain ⟨a, ps, kvs, rfl, hq, hp, q⟩ := h
  rcases hq with hq | ⟨ob, ha, hd⟩
  · exact call_dictP hcalm pins s σ H _ us Q I r ⟨a, ps, kvs, rfl, hq, hp, q⟩
  · obtain ⟨u, rfl, rx⟩ := vals1 r
    cases rx
    obtain ⟨g1, hz, its, rv, o2, g2, gc, n, gd⟩ := (I.hok a _ ha : ObjOk X.prog X.w H s.heap a (.frz ob (.tup (ps.map V.ref))))
    rw [g1] at g2; cases g2
    have ei := refs_at rv
    subst ei
    rw [List.length_map] at hz
    obtain ⟨prs, pv, rel, hl, hl2, h1, h2⟩ := pairs_at I hp
    have key : PairItems s.heap (ps.map Value.ref).toArray (fun j => ps.getD j 0) pv := by
      refine ⟨by simp [hl2], fun j k v e => ?_⟩
      obtain ⟨b, e1, e2⟩ := h1 j k v e
      have eb : ps.getD j 0 = b := by simp [e1]
      refine ⟨by simp [e1], ?_⟩
      show PairAt _ (ps.getD j 0) _ _
      rw [eb]
      exact .inl e2
    refine PySem.call_dict_pairs (knd := mixKind X.prog X.w) (kvs := prs) (PairArg.tuple a (ps.map Value.ref).toArray (fun j => ps.getD j 0) pv) (I.ok.hd hcalm) ⟨⟨ob, n, g1, gc, hd, gd⟩, key⟩ ⟨by rw [hl, hl2], fun i k v e => h2 i k v e⟩ (by rw [hl2]; exact hz) fun h' tk hd' k => ?_
    have hm : (s.heap.objs.size == sysModules) = false := beq_eq_false_iff_ne.mpr (Nat.ne_of_gt I.big)
    have hlen : (mergeK [] kvs).length ≤ sizeLine := by
      refine Nat.le_trans (length_mergeK kvs []) ?_
      rw [List.length_nil, Nat.zero_add, rel.length, hl]
      exact hz
    exact ⟨.ref s.heap.objs.size, upd H s.heap.objs.size (.dK (mergeK [] kvs)), I.laid (t' := tk) (fun b o e => k b o (by simp) e) (Nat.le_refl _) (show ObjOk X.prog X.w _ _ _ (.dK (mergeK [] kvs)) from ⟨hlen, hm, merged [] prs, KV.merge rel .nil, hd'⟩), rfl, q _ (I.hok.fresh (Nat.le_refl _))⟩
theorem pairsD_rel {W : Wd} {m : Mem} {H : Hp} (s : Sim X.K cl W m H) : ∀ {ds : List D} {xs : List V} {ks : List Key} {es : List D} {ys : List V} {r : List Key × List D}, Rps X.K cl W ds xs → pairsD ds ks es = .ok r → ks.length = ys.length → Rps X.K cl W es ys →
    ∃ (ps : List Addr) (kvs : List (Key × V)) (zs : List V), xs = ps.map V.ref ∧ Paired (fun p kv => SqT X.K H p [kV kv.1, kv.2]) ps kvs ∧ r.1.length = zs.length ∧ mergeK (ks.zip ys) kvs = r.1.zip zs ∧ Rps X.K cl W r.2 zs
  | [], xs, ks, es, ys, r, h1, h2, h3, h4 => by
    unfold Rps at h1
    subst h1
    unfold pairsD at h2
    cases h2
    exact ⟨[], [], ys, rfl, .nil, h3, rfl, h4⟩
  | d :: ds, xs, ks, es, ys, r, h1, h2, h3, h4 => by
    unfold Rps at h1
    obtain ⟨v, vs, rfl, r1, r2⟩ := h1
    unfold pairsD at h2
    split at h2
    · rename_i k0 v0 ht
      split at h2
      · rename_i k hk
        obtain ⟨a, xs2, rfl, ha, ra⟩ := s.view r1 (tupOf_view ht)
        obtain ⟨x1, x2, rfl, q1, q2⟩ := rps2 ra
        have ek := kV_of hk q1
        subst ek
        obtain ⟨zs, z1, z2, z3⟩ := kput_rel k h3 q2 h4
        obtain ⟨ps, kvs, ws, w1, w2, w3, w4, w5⟩ := pairsD_rel s r2 h2 z1 z3
        refine ⟨a :: ps, (k, x2) :: kvs, ws, by rw [w1]; rfl, .cons ha w2, w3, ?_, w5⟩
        show mergeK (putK (ks.zip ys) k x2) kvs = _
        rw [z2]; exact w4
      · cases h2
    · cases h2
theorem bis_dict {fr : Bool} : BiS X.K cl (fun m ds => bi .dict fr m ds) (rDictA X.K) := by
  refine bis_n (f := biDict) (fun W m H ds c vs Q s r h q _ => ?_) fun m ds c h => ?_
  · unfold biDict at h
    split at h
    · rename_i o es
      obtain ⟨v, rfl, rv⟩ := rps1 r
      obtain ⟨c0, h1, h⟩ := bind_ok h
      cases h
      unfold Rp at rv
      obtain ⟨a, xs, rfl, ⟨ob, ha, hd⟩, rs⟩ := rv
      obtain ⟨ps, kvs, zs, w1, w2, w3, w4, w5⟩ := pairsD_rel s (ks := []) (es := []) (ys := []) rs h1 rfl Rps.nil
      subst w1
      have hH : H a = some (.frz ob (.tup (ps.map V.ref))) := by
        cases o with
        | true => exact s.F _ _ ha
        | false => exact s.B _ _ ha
      refine ⟨a, ps, kvs, rfl, .inr ⟨ob, hH, hd⟩, w2, fun p hp => ?_⟩
      have w4' : mergeK [] kvs = c0.1.zip zs := w4
      rw [w4']
      exact q zs p w5 (by simp [shLen, w3]) hp
    · rename_i d _
      obtain ⟨v, rfl, rv⟩ := rps1 r
      split at h
      · rename_i es hv
        obtain ⟨c0, h1, h⟩ := bind_ok h
        cases h
        obtain ⟨a, xs, rfl, ha, rs⟩ := s.view rv hv
        obtain ⟨ps, kvs, zs, w1, w2, w3, w4, w5⟩ := pairsD_rel s (ks := []) (es := []) (ys := []) rs h1 rfl Rps.nil
        subst w1
        refine ⟨a, ps, kvs, rfl, .inl (SqL.of ha), w2, fun p hp => ?_⟩
        have w4' : mergeK [] kvs = c0.1.zip zs := w4
        rw [w4']
        exact q zs p w5 (by simp [shLen, w3]) hp
      · cases h
    · cases h
  · unfold biDict at h
    split at h
    · obtain ⟨c0, h1, h⟩ := bind_ok h
      cases h
      exact fun z => by cases z
    · split at h
      · obtain ⟨c0, h1, h⟩ := bind_ok h
        cases h
        exact fun z => by cases z
      · cases h
    · cases h
end
end Mi
end
section
set_option linter.all false
set_option Elab.async false
set_option maxRecDepth 100000
set_option maxHeartbeats 2000000
/-! Mi19: starred targets; names set at once. -/
namespace Mi
open PySem PySem.Spec PyProof.Rows L2
section
variable {prog : Program} {w : World} {A : Around} {E : Value → Shared → Prop} {s : Shared}
/-- a, *b = t of a tuple, the starred one last -/
theorem star_tuple {l : Addr} {items : Array Value} {i : Nat} {Q : List Value → Shared → Prop} (hl : IsTup s.heap l items) (hh : A.handled = none) (hn : i ≤ items.size) (hz : items.size ≤ sizeLine)
    (h : ∀ (h' : Heap) (tk : Nat), (∀ b o, s.heap.get? b = some o → h'.get? b = some o) → Q (items.toList.take i ++ [.ref h'.objs.size]) { s with heap := h'.push { cls := .type "list", data := .seq (items.toList.drop i).toArray }, toks := tk }) :
    wpAny (model prog w) A (unpackItems (.ref l) (i + 1) (some i)) Q E s := by
  have hlt : l ≠ s.heap.objs.size := by obtain ⟨o, ho, _⟩ := hl; exact Nat.ne_of_lt (Heap.lt_size ho)
  unfold unpackItems
  refine wpAny_bind ?_
  unfold notIterableAtAll
  refine wpAny_bind (wpAny_specialOf hl.typeIs slot_tuple_iter.lookup ?_)
  refine wpAny_pure ?_
  simp only [Bool.false_eq_true, if_false]
  refine wpAny_bind (wpAny_holding (iter_tuple hl ?_))
  refine wpAny_bind (wpAny_holding (draw_tuple hlt i 0 _ _ ⟨_, Heap.get?_push_size _ rfl, rfl, rfl⟩ (hl.push _) (by omega) fun h₁ hit₁ hs₁ => ?_))
  have hl₁ : IsTup h₁ l items := (hl.push _).extBut hs₁.extBut hlt
  rw [Nat.zero_add] at hit₁
  have hit₁' := hit₁
  obtain ⟨oi, hoi, _⟩ := hit₁'
  have hl₁' := hl₁
  obtain ⟨ol, hol, _⟩ := hl₁'
  rw [List.drop_zero]
  have hfl : (items.toList.take i).length = i := by rw [List.length_take, Array.length_toList]; omega
  rw [if_neg (show ¬ ((items.toList.take i).length < i) by rw [hfl]; omega)]
  refine wpAny_bind (wpAny_holding (PySem.W.kun_collect (s := { s with heap := h₁ }) (T := "tuple_iterator") (.inr (.inr (.inr rfl))) (Walks.tuple (A := A.in1) hh s.heap.objs.size l hlt items) (fun j u st => st.1.typeIs) (k := i) hn ⟨hit₁, hl₁⟩ (Heap.lt_size hoi) (Heap.lt_size hol) (fun h₂ tk hk => ?_) hz))
  have hrl : (items.toList.drop i).length = items.size - i := by rw [List.length_drop, Array.length_toList]
  show wpAny _ _ (if (items.toList.drop i).length < i + 1 - 1 - i then _ else _) _ _ _
  rw [if_neg (by omega)]
  show wpAny _ _ (newList ((items.toList.drop i).take ((items.toList.drop i).length - (i + 1 - 1 - i))) >>= fun d => pure (items.toList.take i ++ [d] ++ (items.toList.drop i).drop ((items.toList.drop i).length - (i + 1 - 1 - i)))) _ _ _
  have e0 : (items.toList.drop i).length - (i + 1 - 1 - i) = (items.toList.drop i).length := by omega
  rw [e0, List.take_length, List.drop_length]
  refine wpAny_bind (wpAny_newObj_type (wpAny_pure ?_) (by show (items.toList.drop i).toArray.size ≤ _; rw [List.size_toArray, hrl]; omega))
  rw [List.append_nil]
  exact h h₂ tk fun b o e => hk b o (Nat.ne_of_lt (Heap.lt_size e)) (hs₁.extBut b o (Nat.ne_of_lt (Heap.lt_size e)) (Heap.get?_push_of_some _ e))
end
section
variable {X : Cx} {cl : ClA} {cal : Cal} {pos : Pos}
theorem sgs_star {e : Expr} {p : Pos} {t : T} (h1 : SG X cl cal e t) : SGs X cl cal [.Starred e p] [t] := by
  refine ⟨fun pins s σ H vs us Q I r h => ?_⟩
  obtain ⟨W, ρ, m, ds, ρ', m', sm, rr, rd, ee, q⟩ := h
  cases ds with
  | nil => unfold asgns at ee; cases ee
  | cons d ds =>
    unfold asgns at ee
    obtain ⟨x, e1, e2⟩ := bind_ok ee
    cases ds with
    | cons _ _ => unfold asgns at e2; cases e2
    | nil =>
      unfold asgns at e2
      cases e2
      obtain ⟨v, rfl, r1⟩ := rps1 rd
      obtain ⟨u, rfl, ru⟩ := vals1 r
      show wpAny _ _ (assignInOrder [assign e X.env] [u]) _ _ _
      refine assignInOrder_cons (thn (h1.run pins s σ H v u _ I ru ⟨W, ρ, m, d, x.1, x.2, sm, rr, r1, e1, fun W' σ' H' l s' r' so => q W' σ' H' l s' r' (by unfold tvss tvss; rw [List.append_nil]; exact so)⟩) fun _ s1 ⟨σ1, H1, I1, q1⟩ => ?_)
      exact wpAny_pure ⟨σ1, H1, I1, q1⟩
theorem asgns_app : ∀ {ts us : List T} {ds es : List D} {ρ : Env} {m : Mem} {x y : Env × Mem}, asgns cal ts ds ρ m = .ok x → asgns cal us es x.1 x.2 = .ok y → asgns cal (ts ++ us) (ds ++ es) ρ m = .ok y
  | [], us, [], es, ρ, m, x, y, h1, h2 => by unfold asgns at h1; cases h1; exact h2
  | [], _, _ :: _, _, _, _, _, _, h1, _ => by unfold asgns at h1; cases h1
  | _ :: _, _, [], _, _, _, _, _, h1, _ => by unfold asgns at h1; cases h1
  | t :: ts, us, d :: ds, es, ρ, m, x, y, h1, h2 => by
    unfold asgns at h1
    obtain ⟨z, e1, e2⟩ := bind_ok h1
    rw [List.cons_append, List.cons_append]
    unfold asgns
    rw [e1]
    exact asgns_app e2 h2
theorem tvss_app : ∀ {ts us : List T}, tvss (ts ++ us) = tvss ts ++ tvss us
  | [], us => by simp [tvss]
  | t :: ts, us => by simp [tvss, tvss_app (ts := ts)]
theorem sg_star {es : List Expr} {k : Nat} {ts : List T} {j : Nat} (hc : X.calm = true) (h : SGs X cl cal es (ts ++ [.var j])) (hn : (assignEach es X.env).length = ts.length + 1) (hst : (assignEach es X.env).findIdx? (·.1) = some ts.length) : SG X cl cal (.Tuple es k pos) (.star ts j) := by
  refine ⟨fun pins s σ H v u Q I r h0 => ?_⟩
  obtain ⟨W, ρ, m, d, ρ', m', sm, rr, rd, ee, q⟩ := h0
  unfold asgn at ee
  split at ee
  · rename_i ds hd
    obtain ⟨hl, ee⟩ := if_ok ee rfl
    obtain ⟨x, e1, ee⟩ := bind_ok ee
    cases ee
    obtain ⟨a, xs, rfl, ha, rs⟩ := sm.view rd (tupOf_view hd)
    cases r
    obtain ⟨its, rv, ht, hz⟩ := I.tuple ha
    have hlx : its.length = ds.length := by rw [← rv.length, ← rs.length]
    rw [assign_Tuple]
    refine wpAny_bind (wpAny_standAt ?_)
    unfold unpack
    rw [hn, hst]
    refine wpAny_bind (wpAny_holding (star_tuple ht (I.ok.hd hc) (by rw [List.size_toArray, hlx]; exact hl) (by rw [List.size_toArray, ← rv.length]; exact hz) fun h' tk hk => ?_))
    have I1 : Inv X pins σ H { s with heap := h', toks := tk } := I.kept (t' := tk) hk
    have hfree := I1.hok.fresh (Nat.le_refl h'.objs.size)
    have I2 : Inv X pins σ (upd H h'.objs.size (.lst (xs.drop ts.length))) { s with heap := h'.push { cls := .type "list", data := .seq (its.drop ts.length).toArray }, toks := tk } :=
      I1.laid (t' := tk) (fun b o e => Heap.get?_push_of_some _ e) (Nat.le_refl _) ⟨by rw [List.length_drop]; omega, its.drop ts.length, 0, rv.drop _, Heap.get?_push_size _ rfl⟩
    obtain ⟨W2, l2, s2, r2⟩ := sm.fresh (p := h'.objs.size) (sh := .lst) (ds := ds.drop ts.length) (xs := xs.drop ts.length) true hfree (rs.drop _) rfl (.inl rfl)
    have e3 : asgns cal (ts ++ [.var j]) (ds.take ts.length ++ [lstD (ds.drop ts.length)]) ρ m = .ok (x.1.set j (some (lstD (ds.drop ts.length))), x.2) := asgns_app e1 (by unfold asgns asgn; simp [R.bind, asgns])
    have key := h.run pins _ σ _ (xs.take ts.length ++ [.ref h'.objs.size]) (its.take ts.length ++ [.ref h'.objs.size]) Q I2 ((rv.take _).append (.cons (show L2.RelV (V.ref h'.objs.size) (Value.ref h'.objs.size) from rfl) .nil)) ⟨W2, ρ, m, _, _, _, s2, rr.up l2, ((rs.take _).up l2).append (Rps.cons r2 Rps.nil), e3, fun W3 σ3 H3 l3 s3 r3 so => q W3 σ3 H3 (l2.trans l3) s3 r3 (by unfold tvs; rw [tvss_app] at so; simpa [tvss, tvs] using so)⟩
    simpa using key
  · cases ee
/-- two names at once -/
theorem ss_par2 {i j : Nat} {x y : Str} {a b : Expr} {a' b' : E} {px py pt : Pos} {kt k2 pt2} (hc : X.calm = true) (hN : X.N.Nodup) (hi : X.N[i]? = some x) (hj : X.N[j]? = some y) (hij : i ≠ j)
    (hx : X.env.scope.names.lookup x = some .local) (hy : X.env.scope.names.lookup y = some .local) (ha : SEs X cl cal [a, b] [a', b'])
    (hw : swappedStores [.Tuple [.Name x px, .Name y py] kt pt] (.Tuple [a, b] k2 pt2) X.env = pure (some [x, y]))
    (hs : swapsWithSole [.Tuple [.Name x px, .Name y py] kt pt] (.Tuple [a, b] k2 pt2) pos.line X.env = pure false) : SS X cl cal (.Assign [.Tuple [.Name x px, .Name y py] kt pt] (.Tuple [a, b] k2 pt2) pos) (.par [i, j] [a', b']) := by
  refine (ps_par hc hN hi hj hij hx hy ha hw hs).imp fun D σ H h => ?_
  obtain ⟨W, ρ, m, fl, m', s, rr, ee, q⟩ := h
  unfold evS at ee
  obtain ⟨z, e1, ee⟩ := bind_ok ee
  obtain ⟨hl, ee⟩ := if_ok ee rfl
  cases ee
  refine ⟨W, ρ, m, z.1, z.2, s, rr, e1, fun W' H' vs l s' r => ?_⟩
  obtain ⟨z1, z2⟩ := z
  have hl : 2 = z1.length := hl
  match z1, hl with
  | [d1, d2], _ =>
    obtain ⟨v, u, rfl, r1, r2⟩ := rps2 r
    exact ⟨v, u, rfl, q W' _ H' l s' (((rr.up l).set r1).set r2)⟩
theorem ss_par3 {i j n : Nat} {x y z : Str} {a b c : Expr} {a' b' c' : E} {px py pz pt : Pos} {kt k2 pt2} (hc : X.calm = true) (hN : X.N.Nodup) (hi : X.N[i]? = some x) (hj : X.N[j]? = some y) (hn : X.N[n]? = some z) (hij : i ≠ j) (hin : i ≠ n) (hjn : j ≠ n)
    (hx : X.env.scope.names.lookup x = some .local) (hy : X.env.scope.names.lookup y = some .local) (hz : X.env.scope.names.lookup z = some .local) (ha : SEs X cl cal [a, b, c] [a', b', c'])
    (hw : swappedStores [.Tuple [.Name x px, .Name y py, .Name z pz] kt pt] (.Tuple [a, b, c] k2 pt2) X.env = pure (some [x, y, z]))
    (hs : swapsWithSole [.Tuple [.Name x px, .Name y py, .Name z pz] kt pt] (.Tuple [a, b, c] k2 pt2) pos.line X.env = pure false) : SS X cl cal (.Assign [.Tuple [.Name x px, .Name y py, .Name z pz] kt pt] (.Tuple [a, b, c] k2 pt2) pos) (.par [i, j, n] [a', b', c']) := by
  refine (ps_par3 hc hN hi hj hn hij hin hjn hx hy hz ha hw hs).imp fun D σ H h => ?_
  obtain ⟨W, ρ, m, fl, m', s, rr, ee, q⟩ := h
  unfold evS at ee
  obtain ⟨z, e1, ee⟩ := bind_ok ee
  obtain ⟨hl, ee⟩ := if_ok ee rfl
  cases ee
  refine ⟨W, ρ, m, z.1, z.2, s, rr, e1, fun W' H' vs l s' r => ?_⟩
  obtain ⟨z1, z2⟩ := z
  have hl : 3 = z1.length := hl
  match z1, hl with
  | [d1, d2, d3], _ =>
    unfold Rps at r
    obtain ⟨v, vs', rfl, r1, r⟩ := r
    obtain ⟨u, w, rfl, r2, r3⟩ := rps2 r
    exact ⟨v, u, w, rfl, q W' _ H' l s' ((((rr.up l).set r1).set r2).set r3)⟩
end
end Mi
end
section
set_option linter.all false
set_option Elab.async false
set_option maxRecDepth 100000
set_option maxHeartbeats 2000000
/-! MiZ: zip of a tuple and a list; zip of two lists, of two tuples. -/
namespace Mi
open PySem PySem.Spec PyProof.Rows L2
/-- a tuple and a list, walked side by side -/
def ItzX (K : PySem.W.Frag) (a b : Addr) : It where
  go i H := ∃ xs ys x y, SqT K H a xs ∧ SqL K H b ys ∧ xs[i]? = some x ∧ ys[i]? = some y
  yld i H v H' := ∃ T x y, v = .ref T ∧ H T = none ∧ H' = upd H T (.tup [x, y]) ∧ (∀ xs, SqT K H a xs → xs[i]? = some x) ∧ ∀ ys, SqL K H b ys → ys[i]? = some y
  stop i H := ∃ xs ys, SqT K H a xs ∧ SqL K H b ys ∧ i ≤ xs.length ∧ i ≤ ys.length ∧ (i = xs.length ∨ i = ys.length)
def ZxS (a b n : Addr) (i : Nat) (h : Heap) : Prop := IsZip h (n + 4) (n + 2) (n + 3) .none ∧ IsTupOf2 h (n + 2) (.ref n) (.ref (n + 1)) ∧ (∃ x y, IsTupOf2 h (n + 3) x y) ∧ h.IsTupleIter n a i ∧ h.IsListIter (n + 1) b i
def zxF (n : Addr) : List Addr := [n + 4, n + 2, n + 3, n, n + 1]
theorem zx_in {n c : Addr} : c ∈ zxF n ↔ c = n + 4 ∨ c = n + 2 ∨ c = n + 3 ∨ c = n ∨ c = n + 1 := by simp [zxF]
theorem zx_le {n c : Nat} (h : c ∈ zxF n) : n ≤ c := by
  rcases zx_in.mp h with e | e | e | e | e
  · rw [e]; exact Nat.le_add_right _ _
  · rw [e]; exact Nat.le_add_right _ _
  · rw [e]; exact Nat.le_add_right _ _
  · rw [e]; exact Nat.le_refl _
  · rw [e]; exact Nat.le_add_right _ _
theorem nne {x y : Nat} (h : x < y ∨ y < x) : (x : Addr) ≠ y := fun (e : x = y) => by omega
theorem zx_sep {a b n : Nat} (ha : a < n) (hb : b < n) : ZipSep2 (n + 4) (n + 2) (n + 3) n (n + 1) [n, a] [n + 1, b] := by
  have nm : ∀ c x y : Nat, c ≠ x → c ≠ y → c ∉ [x, y] := fun c x y h1 h2 h => by
    rcases List.mem_cons.mp h with h | h
    · exact h1 h
    · exact h2 (by simpa using h)
  have d : ∀ x y : Nat, x < y ∨ y < x → x ≠ y := fun x y h => by omega
  exact { TIz := d _ _ (by omega), TOz := d _ _ (by omega), TITO := d _ _ (by omega), TIi1 := d _ _ (by omega), mem1 := by simp, zf1 := nm _ _ _ (d _ _ (by omega)) (d _ _ (by omega)), Tf1 := nm _ _ _ (d _ _ (by omega)) (d _ _ (by omega)), TIi2 := d _ _ (by omega), mem2 := by simp, zf2 := nm _ _ _ (d _ _ (by omega)) (d _ _ (by omega)), Tf2 := nm _ _ _ (d _ _ (by omega)) (d _ _ (by omega)), sep1_2 := nm _ _ _ (d _ _ (by omega)) (d _ _ (by omega)), sep2_1 := nm _ _ _ (d _ _ (by omega)) (d _ _ (by omega)) }
theorem ZxS.lt {a b n : Nat} {i : Nat} {h : Heap} (st : ZxS a b n i h) : n + 4 < h.objs.size := Heap.lt_size st.1
theorem turn_zx {P : Program} {w : World} {K : PySem.W.Frag} {elts : List Expr} {kk : Nat} {tpos : Pos} {a b n : Nat} (ha : a < n) (hb : b < n) : Turn P w K (.Tuple elts kk tpos) (ItzX K a b) (zxF n) (n + 4) (ZxS a b n) where
  mem := by simp [zxF]
  obj := by
    rintro i h ⟨q1, q2, ⟨x, y, q3⟩, ⟨o1, e1, _, d1⟩, ⟨o2, e2, _, d2⟩⟩ c hc
    rcases zx_in.mp hc with rfl | rfl | rfl | rfl | rfl
    · exact ⟨_, q1, fun v q => (by cases q)⟩
    · exact ⟨_, q2, fun v q => (by cases q)⟩
    · exact ⟨_, q3, fun v q => (by cases q)⟩
    · exact ⟨o1, e1, fun v q => (by rw [d1] at q; cases q)⟩
    · exact ⟨o2, e2, fun v q => (by rw [d2] at q; cases q)⟩
  keep := by
    rintro i h h' ⟨q1, q2, ⟨x, y, q3⟩, q4, q5⟩ k
    have k' : ∀ c, (c = n + 4 ∨ c = n + 2 ∨ c = n + 3 ∨ c = n ∨ c = n + 1) → ∀ o, h.get? c = some o → h'.get? c = some o := fun c hc => k c (zx_in.mpr hc)
    exact ⟨k' _ (by simp) _ q1, k' _ (by simp) _ q2, ⟨x, y, k' _ (by simp) _ q3⟩, q4.at (k' _ (by simp)), q5.at (k' _ (by simp))⟩
  item := by
    rintro X rfl rfl rfl hc i pins s σ H E I hf st ⟨xs, ys, x, y, gx, gy, ex, ey⟩
    have hlt := st.lt
    obtain ⟨q1, q2, ⟨x0, y0, q3⟩, q4, q5⟩ := st
    obtain ⟨its, rv, p, _⟩ := I.tuple gx
    obtain ⟨jts, rw', p', _⟩ := I.list gy
    have hh : X.A.in1.handled = none := I.ok.hd hc
    obtain ⟨u1, f1, g1⟩ := rv.get ex
    obtain ⟨u2, f2, g2⟩ := rw'.get ey
    refine wpAny_pyNext_zipD2_item (zx_sep ha hb) (Draws.tuple hh n a (nne (.inl ha)) its.toArray) (Draws.list hh (n + 1) b (nne (.inl (by omega))) jts.toArray) q1 q2 q3 ⟨q4, p⟩ ⟨q5, p'.isList⟩ (by simpa using (List.getElem?_eq_some_iff.mp f1).1) (by simpa using (List.getElem?_eq_some_iff.mp f2).1) fun v1 v2 h' tk m1 m2 z1 t1 s1 s2 t2 sz hk => ?_
    have e1 : v1 = u1 := by simpa [f1] using m1.symm
    have e2 : v2 = u2 := by simpa [f2] using m2.symm
    subst e1 e2
    refine ⟨_, rfl, wpAny_letOwnedTupleGo_zip (s := { s with heap := h', toks := tk }) z1 fun k z2 sb => ?_⟩
    have up : ∀ c, c ≠ n + 4 → k.get? c = h'.get? c := fun c hn => sb.2 c hn
    have new : ObjOk X.prog X.w (upd H s.heap.objs.size (.tup [x, y])) k s.heap.objs.size (.tup [x, y]) := ⟨by show 2 ≤ sizeLine; decide, [v1, v2], .cons g1 (.cons g2 .nil), ⟨_, (up _ (nne (.inr hlt))).trans t2, rfl, _, rfl⟩⟩
    have I1 := I.turnedNew (h' := k) (t' := tk) (ch := zxF n) (fun c o hcn e => by
      have hcn : ∀ z, (z = n + 4 ∨ z = n + 2 ∨ z = n + 3 ∨ z = n ∨ z = n + 1) → c ≠ z := fun z hz e => hcn (by rw [e]; exact zx_in.mpr hz)
      rw [up c (hcn _ (by simp))]
      exact hk c o (hcn _ (by simp)) (hcn _ (by simp)) (hcn _ (by simp)) (hcn _ (by simp)) e) hf (Nat.le_refl _) new
    refine ⟨.ref s.heap.objs.size, _, I1, rfl, ⟨_, x, y, rfl, I.hok.fresh (Nat.le_refl _), rfl, fun l hl => (by rw [I.tuple_inj hl gx]; exact ex), fun l hl => (by rw [I.list_inj hl gy]; exact ey)⟩, ⟨z2, ?_, ⟨v1, v2, ?_⟩, ?_, ?_⟩, fun c hcm => ?_⟩
    · exact (up _ (nne (by omega))).trans (hk _ _ (nne (by omega)) (nne (by omega)) (nne (by omega)) (nne (by omega)) q2)
    · exact (up _ (nne (by omega))).trans t1
    · exact s1.1.at fun o e => (up _ (nne (by omega))).trans e
    · exact s2.1.at fun o e => (up _ (nne (by omega))).trans e
    · have hlt2 : c < s.heap.objs.size := by
        rcases zx_in.mp hcm with rfl | rfl | rfl | rfl | rfl
        · exact hlt
        · exact Nat.lt_of_le_of_lt (Nat.add_le_add_left (by omega) n) hlt
        · exact Nat.lt_of_le_of_lt (Nat.add_le_add_left (by omega) n) hlt
        · exact Nat.lt_of_le_of_lt (Nat.le_add_right _ _) hlt
        · exact Nat.lt_of_le_of_lt (Nat.add_le_add_left (by omega) n) hlt
      rw [upd_ne (Nat.ne_of_lt hlt2)]
      exact (hf c hcm).1
  done := by
    rintro X rfl rfl rfl hc i pins s σ H E I hf ⟨q1, q2, ⟨x0, y0, q3⟩, q4, q5⟩ ⟨xs, ys, gx, gy, l1, l2, l3⟩
    obtain ⟨its, rv, p, _⟩ := I.tuple gx
    obtain ⟨jts, rw', p', _⟩ := I.list gy
    have hh : X.A.in1.handled = none := I.ok.hd hc
    have n1 := rv.length
    have n2 := rw'.length
    refine wpAny_pyNext_zipD2_end (zx_sep ha hb) (Draws.tuple hh n a (nne (.inl ha)) its.toArray) (Draws.list hh (n + 1) b (nne (.inl (by omega))) jts.toArray) q1 q2 q3 ⟨q4, p⟩ ⟨q5, p'.isList⟩ (by simp; omega) (by simp; omega) (by simp; omega) fun h' tk hk => ⟨rfl, ?_⟩
    exact I.turnedL (t' := tk) (ch := zxF n) (fun c o hcn e => by
      have hcn : ∀ z, (z = n + 4 ∨ z = n + 2 ∨ z = n + 3 ∨ z = n ∨ z = n + 1) → c ≠ z := fun z hz e => hcn (by rw [e]; exact zx_in.mpr hz)
      exact hk c o (hcn _ (by simp)) (hcn _ (by simp)) (hcn _ (by simp)) (hcn _ (by simp)) e) hf
  self := fun A i s Q E st h => wpAny_pyIter_zip st.1 h
def iZx (K : PySem.W.Frag) (ta : TA) : TI := fun σ H R => ta σ H fun vs H1 => ∃ a b xs ys, vs = [.ref a, .ref b] ∧ SqT K H1 a xs ∧ SqL K H1 b ys ∧ R (ItzX K a b) H1
theorem pi_zx {X : Cx} {e e2 : Expr} {ta : TA} {p pos tpos : Pos} {elts : List Expr} {kk : Nat} (hg : Gl X "zip") (hm : X.mg "zip" = none) (ha : PA X [e, e2] ta) (hs : starEach [e, e2] X.env = (false, eval e X.env) :: starEach [e2] X.env) (hpl : (backTo pos (starEach [e2] X.env)).any (·.1) = false) :
    PI X (.Tuple elts kk tpos) (.Call (.Name "zip" p) [e, e2] [] pos) (iZx X.K ta) := by
  constructor
  intro pins s σ H R I h
  refine Call_ (ld_blt I hg hm boot_zip (callWith_type1 (thn (ha.run pos pins s σ H _ I h) ?_) hs hpl))
  rintro us s1 ⟨vs, H1, I1, r1, a, b, xs, ys, rfl, gx, gy, q⟩
  obtain ⟨u, us', rfl, r, r1⟩ : ∃ u us', us = u :: us' ∧ RelV (.ref a) u ∧ Vals [.ref b] us' := by cases r1 with | cons r rr => exact ⟨_, _, rfl, r, rr⟩
  obtain ⟨u', us'', rfl, r', r1⟩ : ∃ u us'', us' = u :: us'' ∧ RelV (.ref b) u ∧ Vals [] us'' := by cases r1 with | cons r rr => exact ⟨_, _, rfl, r, rr⟩
  cases r1; cases r; cases r'
  obtain ⟨its, rv, p1, _⟩ := I1.tuple gx
  obtain ⟨jts, rw', p2, _⟩ := I1.list gy
  obtain ⟨o1, ho1, _⟩ := id p1
  have la : a < s1.heap.objs.size := Heap.lt_size ho1
  have lb : b < s1.heap.objs.size := p2.lt
  refine zip_begins2 (begins_tuple a its.toArray) (begins_list b jts.toArray) p1 p2.isList fun h' z1 t1 t2 g1 g2 sz hk => wpAny_pyIter_zip z1 ?_
  have I2 : Inv X pins σ H1 { s1 with heap := h' } := I1.kept (t' := s1.toks) hk
  exact ⟨_, zxF s1.heap.objs.size, _, _, H1, rfl, I2, turn_zx la lb, ⟨z1, t1, ⟨_, _, t2⟩, ⟨_, g1, rfl, rfl⟩, ⟨_, g2, rfl, rfl⟩⟩, fun c hc => (fun hle => I1.fpOk hle (I1.hok.fresh hle)) (zx_le hc), q⟩
end Mi
end
section
set_option linter.all false
set_option Elab.async false
set_option maxRecDepth 100000
set_option maxHeartbeats 2000000
/-! MiY: zip walked; a list behind another as a cell. -/
namespace Mi
open PySem PySem.Spec PyProof.Rows L2
section
variable {X : Cx} {cl : ClA} {cal : Cal} {a b c : Expr} {a' b' c' : E} {pos : Pos} {tg : Expr}
theorem se_cat (ha : SE X cl cal a a') (hb : SE X cl cal b b') : SE X cl cal (.BinOp a .Add b pos) (.cat a' b') := by
  refine (pe_op op_cat ha hb).imp fun σ H Q h => ?_
  obtain ⟨W, ρ, m, d, m', s, rr, e, q⟩ := h
  unfold evE at e
  obtain ⟨x, e1, e⟩ := bind_ok e
  obtain ⟨y, e2, e⟩ := bind_ok e
  unfold catD at e
  split at e
  · rename_i xs ys hx hy
    obtain ⟨hl, e⟩ := if_ok e rfl
    have e := R.ok.inj e
    refine rE2 s rr e1 e2 fun W' H' v u l s' r1 r2 => ?_
    obtain ⟨p, vs, rfl, hp, ra⟩ := s'.view r1 hx
    obtain ⟨q', us, rfl, hq, rb⟩ := s'.view r2 hy
    refine ⟨p, q', vs, us, rfl, rfl, hp, hq, by rw [← ra.length, ← rb.length]; exact hl, fun z hz => ?_⟩
    obtain ⟨W2, l2, s2, r3⟩ := s'.fresh (sh := .lst) false hz (ra.append rb) rfl (.inr (by decide))
    rw [e] at s2 r3
    exact q W2 _ _ (l.trans l2) s2 r3
  · cases e
theorem zipD_get : ∀ {as bs : List D} {i : Nat}, (zipD as bs)[i]? = match as[i]?, bs[i]? with
    | some x, some y => some (tupD [x, y])
    | _, _ => none
  | [], _, _ => by simp [zipD]
  | a :: as, [], i => by
    unfold zipD
    cases h : (a :: as)[i]? <;> simp
  | a :: as, b :: bs, 0 => by simp [zipD]
  | a :: as, b :: bs, i + 1 => by
    unfold zipD
    rw [List.getElem?_cons_succ, List.getElem?_cons_succ, List.getElem?_cons_succ, zipD_get]
theorem zipD_len : ∀ {as bs : List D}, (zipD as bs).length = min as.length bs.length
  | [], _ => by simp [zipD]
  | a :: as, [] => by simp [zipD]
  | a :: as, b :: bs => by simp [zipD, zipD_len]
theorem it_zx {W0 : Wd} {p p' : Addr} {xs ys : List V} {ds es : List D} {o o' : Bool} (h : SqT X.K (if o then W0.F else W0.B) p xs) (h' : (if o' then W0.F else W0.B) p' = some (.lst ys)) (r : Rps X.K cl W0 ds xs) (r' : Rps X.K cl W0 es ys) : ItOk X.K cl (ItzX X.K p p') W0 (.st (zipD ds es)) := by
  intro W m H i l s
  have up : ∀ (o : Bool) (b : Addr) (u : HO), (if o then W0.F else W0.B) b = some u → H b = some u := fun o b u e => by
    cases o with
    | true => exact s.F _ _ (l.F _ _ e)
    | false => exact s.B _ _ (by rw [l.B]; exact e)
  have hp : SqT X.K H p xs := SqT.up (up o) h
  have hp' : SqL X.K H p' ys := SqL.of (up o' _ _ h')
  refine ⟨fun d hd => ?_, fun he => ⟨xs, ys, hp, hp', ?_⟩⟩
  · have hd : (zipD ds es)[i]? = some d := hd
    rw [zipD_get] at hd
    split at hd
    · rename_i d1 d2 g1 g2
      cases hd
      obtain ⟨v, e1, e2⟩ := r.get g1
      obtain ⟨v', e3, e4⟩ := r'.get g2
      refine ⟨⟨xs, ys, v, v', hp, hp', e1, e3⟩, fun x H' hy => ?_⟩
      obtain ⟨T, x0, y0, rfl, hT, rfl, hy, hy'⟩ := hy
      have z1 := (hy xs hp).symm.trans e1
      have z2 := (hy' ys hp').symm.trans e3
      cases z1; cases z2
      exact pair_new s hT (e2.up0 l) (e4.up0 l)
    · cases hd
  · have he : i = (zipD ds es).length := he
    rw [zipD_len, r.length, r'.length] at he
    omega
theorem si_zip {e e2 : Expr} {p tpos : Pos} {elts : List Expr} {kk : Nat} (hg : Gl X "zip") (hm : X.mg "zip" = none) (h : SE X cl cal e a') (h2 : SE X cl cal e2 b') (hs : starEach [e, e2] X.env = [(false, eval e X.env), (false, eval e2 X.env)]) (hs2 : starEach [e2] X.env = [(false, eval e2 X.env)]) :
    SI X cl cal (.Tuple elts kk tpos) (.Call (.Name "zip" p) [e, e2] [] pos) (.zip a' b') := by
  refine (pi_zx hg hm (pa_cons h (pa_cons h2 pa_nil (by rw [hs2]; rfl)) (by rw [hs, hs2])) (by rw [hs, hs2]) (by rw [hs2]; rfl)).imp fun σ H Z h0 => ?_
  obtain ⟨W, ρ, m, src, m', sm, rr, ee, q⟩ := h0
  unfold evI at ee
  obtain ⟨x, e1, ee⟩ := bind_ok ee
  obtain ⟨y, e2, ee⟩ := bind_ok ee
  obtain ⟨sr, e3, ee⟩ := bind_ok ee
  cases ee
  refine rE2 sm rr e1 e2 fun W' H' v u l s' r1 r2 => ?_
  unfold zipOf at e3
  split at e3
  · rename_i o' ys hy
    split at e3
    · rename_i xs hx
      cases e3
      rw [hy] at r2
      unfold Rp at r2
      obtain ⟨b0, vy, rfl, hb, rb⟩ := r2
      have ht : ∃ o, ∃ sh, x.1 = .nd o sh xs ∧ (sh = .tup ∨ sh = .tupP) := by
        cases hd : x.1 with
        | nd o sh zs =>
          rw [hd] at hx
          cases sh with
          | tup => cases hx; exact ⟨o, _, rfl, .inl rfl⟩
          | tupP => cases hx; exact ⟨o, _, rfl, .inr rfl⟩
          | _ => cases hx
        | _ => rw [hd] at hx; cases hx
      obtain ⟨o, sh, ex, hsh⟩ := ht
      rw [ex] at r1
      unfold Rp at r1
      obtain ⟨a0, vx, rfl, ha, ra⟩ := r1
      have hT : SqT X.K (if o then W'.F else W'.B) a0 vx := by
        rcases hsh with rfl | rfl
        · exact ha
        · exact ShAt.sq ha
      have up : ∀ (o : Bool) (b : Addr) (u : HO), (if o then W'.F else W'.B) b = some u → H' b = some u := fun o b u e => by
        cases o with
        | true => exact s'.F _ _ e
        | false => exact s'.B _ _ e
      exact ⟨a0, b0, vx, vy, rfl, SqT.up (up o) hT, SqL.of (up o' _ _ hb), q W' H' _ l s' (it_zx hT hb ra rb)⟩
    · cases e3
  · cases e3
end
end Mi
end
section
set_option linter.all false
set_option Elab.async false
set_option maxRecDepth 100000
set_option maxHeartbeats 2000000
/-! Mi20: written dicts' get; calls with keywords and defaults. -/
namespace Mi
open PySem PySem.Spec PyProof.Rows L2
/-- a written dict of the top: its keys, its values -/
structure TabOk (K : PySem.W.Frag) (w : World) (d : Addr) (ks : List Str) (vs : List V) : Prop where
  dic : _root_.He.dicW K d = some (_root_.He.keysIn w.params ks)
  len : ks.length = vs.length
  val : ∀ k v, (k, v) ∈ ks.zip vs → ∃ u, PySem.W.nsIn K d k = some (some u) ∧ RelV v u
section
variable {X : Cx} {cl : ClA} {cal : Cal}
theorem keys_not {P : Params} {z : Str} : ∀ {l : List DictEntry} {ks : List Str}, l.map _root_.He.keyOf = _root_.He.keysIn P ks → z ∉ ks → l.find? (·.key.isStr z) = none ∧ l.any (·.refKey) = false
  | [], _, _, _ => ⟨rfl, rfl⟩
  | e :: r, [], h, _ => by cases h
  | e :: r, k :: ks, h, hz => by
    have h1 : _root_.He.keyOf e :: r.map _root_.He.keyOf = some (k, PyData.keyHash P k) :: _root_.He.keysIn P ks := h
    injection h1 with h2 h3
    obtain ⟨i1, i2⟩ := keys_not h3 fun q => hz (List.mem_cons_of_mem _ q)
    unfold _root_.He.keyOf at h2
    split at h2
    · rename_i x t q
      obtain ⟨h5, h6⟩ := Prod.mk.inj (Option.some.inj h2)
      subst h5
      have ne : (Value.str x t).isStr z = false := by
        cases hb : (Value.str x t).isStr z with
        | false => rfl
        | true =>
          have e1 : x = z := by
            have : (x == z) = true := hb
            exact eq_of_beq this
          exact absurd (by rw [e1]; exact List.mem_cons_self ..) hz
      refine ⟨?_, ?_⟩
      · rw [List.find?_cons, q, ne]; exact i1
      · rw [List.any_cons, i2, Bool.or_false]
        unfold DictEntry.refKey
        rw [q]
    · cases h2
theorem TabOk.look {K : PySem.W.Frag} {w : World} {d : Addr} {ks : List Str} {vs : List V} (t : TabOk K w d ks vs) : ∃ es n, KDict K w d es n ∧ ∀ z, z ∉ ks → PySem.W.nsIn K d z = some none := by
  obtain ⟨es, n, D⟩ := _root_.He.dicW_ok t.dic
  refine ⟨es, n, D, fun z hz => ?_⟩
  have h := t.dic
  unfold _root_.He.dicW at h
  rw [D.at_] at h
  have hl := D.low
  simp only [decide_true, Bool.true_and] at h
  split at h
  · obtain ⟨k1, k2⟩ := keys_not (Option.some.inj h) hz
    unfold PySem.W.nsIn
    rw [D.at_]
    simp only [k1, k2]
    rfl
  · cases h
theorem pe_kget {o e f : Expr} {d : Addr} {ks : List Str} {vs : List V} {ty tx : TE} {apos cpos : Pos} (t : TabOk X.K X.w d ks vs) (ho : PE X o (tC (.ref d))) (he : PE X e ty) (hf : PE X f tx) (m : M2 X o "get" apos e f cpos) :
    PE X (.Call (.Attribute o "get" apos) [e, f] [] cpos) (fun σ H Q => ty σ H fun y H2 => tx σ H2 fun z H3 => ∃ k, y = .str k ∧ (∀ v, (k, v) ∈ ks.zip vs → Q v H3) ∧ (k ∉ ks → Q z H3)) := by
  refine ⟨fun pins s σ H Q I h => ?_⟩
  obtain ⟨es, n, D, no⟩ := t.look
  refine wpAny_Call_method m.base m.few m.line PySem.F.plainAttrs_dict PySem.F.slot_dict_get PySem.F.type_dict_get (thn (ho.run pins s σ H (fun v H1 => v = .ref d ∧ ty σ H1 _) I ⟨rfl, h⟩) fun u s1 ⟨x, H1, I1, rx, ex, q1⟩ => ?_)
  subst ex
  obtain rfl : u = Value.ref d := rx
  refine ⟨kd_type D I1, (PySem.W.mapOf_K (prog := X.prog) I1.kIn D.at_ D.lit).noDict, ?_⟩
  rw [m.trees]
  refine Calls.callWith_builtin rfl (Calls.evalArgs_plain (Calls.spliced_cons (thn (he.run pins s1 σ H1 _ I1 q1) fun iv s2 ⟨y, H2, I2, ry, q2⟩ =>
    Calls.spliced_cons (thn (hf.run pins s2 σ H2 _ I2 q2) fun fv s3 ⟨z, H3, I3, rz, k, ek, g1, g2⟩ => Calls.spliced_nil ?_))))
  subst ek
  obtain ⟨tk, rfl⟩ := ry
  refine call_meetsIn PySem.F.slot_dict_get (kd_type D I3) PySem.F.entry_dict_get (PySem.F.args_dict_get_3 _ _ _) (meets_dict_get_default (strKind X.prog X.w) d (PySem.strKind_is X.prog X.w k tk) D.low fv) ⟨_, PySem.W.mapOf_K (prog := X.prog) I3.kIn D.at_ D.lit, ?_⟩
  by_cases hk : k ∈ ks
  · obtain ⟨i, hi⟩ := List.getElem?_of_mem hk
    have hlt : i < vs.length := by rw [← t.len]; exact (List.getElem?_eq_some_iff.mp hi).1
    have hm : (k, vs[i]) ∈ ks.zip vs := by
      refine List.mem_of_getElem? (i := i) ?_
      rw [List.getElem?_zip_eq_some]
      exact ⟨hi, by simp [hlt]⟩
    obtain ⟨u, e1, r1⟩ := t.val _ _ hm
    rw [PySem.W.find_K D.at_ e1]
    exact ⟨vs[i], H3, I3.tok _, r1, g1 _ hm⟩
  · rw [PySem.W.find_K D.at_ (no k hk)]
    exact ⟨z, H3, I3.tok _, rz, g2 hk⟩
theorem kget_zip {K : PySem.W.Frag} {W : Wd} (k : Str) : ∀ {ks : List Str} {ds : List D} {vs : List V}, ks.length = vs.length → Rps K cl W ds vs → (∀ d, kget k ks ds = some d → ∃ v, (k, v) ∈ ks.zip vs ∧ Rp K cl W d v) ∧ (kget k ks ds = none → k ∉ ks)
  | [], ds, vs, _, _ => ⟨fun d h => (by unfold kget at h; cases h), fun _ => (by simp)⟩
  | a :: ks, [], vs, h1, h2 => by unfold Rps at h2; subst h2; cases h1
  | a :: ks, d :: ds, vs, h1, h2 => by
    unfold Rps at h2
    obtain ⟨v, vs', rfl, r1, r2⟩ := h2
    obtain ⟨i1, i2⟩ := kget_zip k (ks := ks) (by simpa using h1) r2
    unfold kget
    by_cases ha : a = k
    · subst ha
      rw [if_pos rfl]
      exact ⟨fun d' e => (by cases e; exact ⟨v, by simp, r1⟩), fun e => (by cases e)⟩
    · rw [if_neg ha]
      refine ⟨fun d' e => ?_, fun e => ?_⟩
      · obtain ⟨v', m1, m2⟩ := i1 d' e
        exact ⟨v', by rw [List.zip_cons_cons]; exact List.mem_cons_of_mem _ m1, m2⟩
      · intro hm
        rcases List.mem_cons.mp hm with z | z
        · exact ha z.symm
        · exact i2 e z
theorem se_kget {o e f : Expr} {d : Addr} {ks : List Str} {ds : List D} {vs : List V} {a' b' : E} {apos cpos : Pos} (t : TabOk X.K X.w d ks vs) (hr : ∀ W, Rps X.K cl W ds vs)
    (hu : ∀ d v v' k, kget k ks ds = some d → (k, v) ∈ ks.zip vs → (k, v') ∈ ks.zip vs → v = v') (ho : PE X o (tC (.ref d))) (he : SE X cl cal e a') (hf : SE X cl cal f b') (m : M2 X o "get" apos e f cpos) :
    SE X cl cal (.Call (.Attribute o "get" apos) [e, f] [] cpos) (.kg ks ds a' b') := by
  refine (pe_kget t ho he hf m).imp fun σ H Q h => ?_
  obtain ⟨W, ρ, mm, dd, m', s, rr, ee, q⟩ := h
  unfold evE at ee
  obtain ⟨x, e1, ee⟩ := bind_ok ee
  obtain ⟨y, e2, ee⟩ := bind_ok ee
  split at ee
  · rename_i z hx
    cases ee
    refine rE2 s rr e1 e2 fun W' H' v u l s' r1 r2 => ?_
    rw [hx] at r1
    cases r1.str_inv
    obtain ⟨i1, i2⟩ := kget_zip (K := X.K) (cl := cl) z t.len (hr W')
    refine ⟨z, rfl, fun v hv => ?_, fun hn => ?_⟩
    · cases hg : kget z ks ds with
      | none => exact absurd (List.of_mem_zip hv).1 (i2 hg)
      | some d1 =>
        obtain ⟨v', m1, m2⟩ := i1 d1 hg
        rw [hu d1 v v' z hg hv m1]
        exact q W' H' v' l s' (by rw [hg]; exact m2)
    · cases hg : kget z ks ds with
      | none => exact q W' H' u l s' (by rw [hg]; exact r2)
      | some d1 =>
        obtain ⟨v', m1, _⟩ := i1 d1 hg
        exact absurd (List.of_mem_zip m1).1 hn
  · cases ee
end
end Mi
end
section
set_option linter.all false
set_option Elab.async false
set_option maxRecDepth 100000
set_option maxHeartbeats 2000000
/-! Mi21: what is seen of the text: side conditions by cases. -/
namespace Mi
open PySem PySem.Spec PyProof.Rows L2
def noStar : Expr → Bool
  | .Starred _ _ => false
  | _ => true
theorem star1 {a : Expr} (h : noStar a = true) (es : List Expr) (env : PySem.Env) : starEach (a :: es) env = (false, eval a env) :: starEach es env := by
  cases a <;> first | rfl | cases h
theorem starN {env : PySem.Env} {pos : Pos} : ∀ {es : List Expr}, es.all noStar = true → (backTo pos (starEach es env)).any (·.1) = false
  | [], _ => rfl
  | a :: es, h => by
    rw [List.all_cons, Bool.and_eq_true] at h
    rw [star1 h.1]
    show (false || (backTo pos (starEach es env)).any (·.1)) = false
    rw [Bool.false_or]
    exact starN h.2
theorem starAll {env : PySem.Env} {pos : Pos} : ∀ {es : List Expr}, es.all noStar = true → (backTo pos (starEach es env)).all (fun x => !x.1) = true
  | [], _ => rfl
  | a :: es, h => by
    rw [List.all_cons, Bool.and_eq_true] at h
    rw [star1 h.1]
    show (true && (backTo pos (starEach es env)).all (fun x => !x.1)) = true
    rw [Bool.true_and]
    exact starAll h.2
/-- a test by its value -/
def byVal : Expr → Bool
  | .UnaryOp .Not _ _ => false
  | .BoolOp _ _ _ => false
  | .IfExp _ _ _ _ => false
  | .Compare _ _ _ _ => false
  | _ => true
theorem byVal_ok {e : Expr} (h : byVal e = true) (env : PySem.Env) : ∀ whole, isTrue e env whole = (do let v ← whole; standAt e.pos; holding [v] (truthy v)) := by
  intro whole
  cases e with
  | UnaryOp op a p => cases op <;> first | rfl | cases h
  | BoolOp _ _ _ => cases h
  | IfExp _ _ _ _ => cases h
  | Compare _ _ _ _ => cases h
  | _ => rfl
def noSet : Expr → Bool
  | .Set _ _ _ => false
  | _ => true
theorem noSet_ok {e : Expr} (h : noSet e = true) (env : PySem.Env) : ∀ x, foldedSetIterable e env x = pure x := by
  intro x
  cases e <;> first | rfl | cases h
theorem noMark {e : Expr} (h : noSet e = true) (op : CmpOp) : behindInMarks op e = false := by
  cases e <;> first | rfl | cases h
theorem noMark2 {b c : Expr} (h : noSet c = true) (op op' : CmpOp) : lastMarks [op, op'] [b, c] = false := by
  show behindInMarks op' c = false
  exact noMark h op'
/-- the base of an attribute is no super() -/
def noSup : Expr → Bool
  | .Call (.Name _ _) [] [] _ => false
  | _ => true
theorem noSup_ok {e : Expr} (h : noSup e = true) (f : Str) (env : PySem.Env) : attributeBase e f env (eval e env) = eval e env := by
  unfold attributeBase
  split
  · cases h
  · rfl
def noComp : Expr → Bool
  | .ListComp _ _ _ _ => false
  | .SetComp _ _ _ _ => false
  | .DictComp _ _ _ _ _ => false
  | _ => true
theorem noComp_ok {e : Expr} (h : noComp e = true) (t : Option Expr) (l : Nat) (env : PySem.Env) : swapsWith e t l env = pure false := by
  cases e <;> first | rfl | cases h
def noSlc : Expr → Bool
  | .Slice _ _ _ _ => false
  | _ => true
theorem noSlc_ok {e : Expr} (h : noSlc e = true) : PlainIx e := by
  intro o i
  cases e <;> first | rfl | cases h
theorem assign_sub (a b : Expr) (pos : Pos) (env : PySem.Env) (h : noSlc b = true) : ∀ v, assign (.Subscript a b pos) env v = (do
      let ov ← holding [v] (eval a env)
      let iv ← holding [v, ov] (eval b env)
      standAt pos
      holding [v, ov, iv] (setItem ov iv v)
      release [v, ov, iv] []) := by
  intro v
  cases b <;> first | rfl | cases h
end Mi
end
section
set_option linter.all false
set_option Elab.async false
set_option maxRecDepth 100000
set_option maxHeartbeats 2000000
/-! Mi22: a method's call, as a tree; rules that lack. -/
namespace Mi
open PySem PySem.Spec PyProof.Rows L2
theorem methTree_ok {o : Expr} {q : Str} {apos pos : Pos} {es : List Expr} (h : noSup o = true) (hl : es.all noStar = true) (hn : es.length < 30) (hp : (apos.endLine == pos.line) = true) (env : PySem.Env) :
    eval (.Call (.Attribute o q apos) es [] pos) env = (do
      let ov ← eval o env
      standAt apos.atName
      let (f, first) ← holding [ov] (getMethod ov q (do return (← importBound o env).getD true))
      callWith pos f first (backTo pos (starEach es env)) (backToKw pos (keywordEach [] env))) := by
  rw [arm_eval_Call, noSup_ok h]
  have hf : methodCallForm (es.length + ([] : List Keyword).length) (backTo pos (starEach es env)) (backToKw pos (keywordEach [] env)) = true := by
    unfold methodCallForm
    have e1 := starAll (env := env) (pos := pos) hl
    have e2 : (backToKw pos (keywordEach [] env)).all (fun x => x.1.isSome) = true := rfl
    have e3 : decide (es.length + ([] : List Keyword).length + (if (backToKw pos (keywordEach [] env)).isEmpty then 0 else 1) < 30) = true := by
      show decide (es.length + 0 + 0 < 30) = true
      exact decide_eq_true hn
    rw [e1, e2, e3]
    rfl
  unfold methodCall
  rw [hf]
  have hpos : methodCallPos true o env apos pos = pure pos := by
    unfold methodCallPos
    rw [if_pos (by rw [hp]; rfl)]
  simp only [hpos, pure_bind]
  rfl
section
variable {X : Cx} {cl : ClA} {cal : Cal} {a b c : Expr} {a' b' c' : E} {pos : Pos}
theorem se_bool1 {op : BoolOp} (h : SE X cl cal a a') : SE X cl cal (.BoolOp op [a] pos) a' := ⟨fun pins s σ H Q I q => h.run pins s σ H Q I q⟩
theorem st_chain {op op1 : CmpOp} {op' op1' : Cm} {r r1 : R2} (ho : OpR X (compareOp op) r) (ho1 : OpR X (compareOp op1) r1) (hs : CmS X.K cl (cmpB op') r) (hs1 : CmS X.K cl (cmpB op1') r1) (hm : noSet c = true)
    (ha : SE X cl cal a a') (hb : SE X cl cal b b') (hc : SE X cl cal c c') : ST X cl cal (.Compare a [op, op1] [b, c] pos) (.chain op' op1' a' b' c') := by
  refine (pt_chain ho ho1 ha hb hc (noMark2 hm op op1)).imp fun σ H Q h => ?_
  obtain ⟨W, ρ, m, d, m', s, rr, e, q⟩ := h
  unfold evE at e
  obtain ⟨x, e1, e⟩ := bind_ok e
  obtain ⟨y, e2, e⟩ := bind_ok e
  obtain ⟨t, e3, e⟩ := bind_ok e
  refine rE2 s rr e1 e2 fun W' H' v u l s' r1 r2 => hs W' _ H' _ _ _ v u _ s' r1 r2 e3 ⟨t, rfl, ?_⟩
  cases t with
  | true =>
    simp only [if_true] at e ⊢
    obtain ⟨z, e4, e⟩ := bind_ok e
    obtain ⟨t2, e5, e⟩ := bind_ok e
    cases e
    exact rE1 s' (rr.up l) e4 fun W2 H2 w l2 s2 r3 => hs1 W2 _ H2 _ _ _ u w _ s2 (r2.up l2) r3 e5 ⟨_, rfl, q W2 H2 (l.trans l2) s2⟩
  | false =>
    simp only [Bool.false_eq_true, if_false] at e ⊢
    cases e
    exact ⟨_, rfl, q W' H' l s'⟩
theorem se_chain' {op op1 : CmpOp} {op' op1' : Cm} {r r1 : R2} (ho : OpR X (compareOp op) r) (ho1 : OpR X (compareOp op1) r1) (hs : CmS X.K cl (cmpB op') r) (hs1 : CmS X.K cl (cmpB op1') r1) (hm : noSet c = true)
    (ha : SE X cl cal a a') (hb : SE X cl cal b b') (hc : SE X cl cal c c') : SE X cl cal (.Compare a [op, op1] [b, c] pos) (.chain op' op1' a' b' c') :=
  se_chain ho ho1 hs hs1 (fun h1 h2 h3 => pe_chain ho ho1 h1 h2 h3 (noMark2 hm op op1)) ha hb hc
/-- a if c else b, as a test -/
theorem st_ite (hc : ST X cl cal c c') (ha : ST X cl cal a a') (hb : ST X cl cal b b') : ST X cl cal (.IfExp c a b pos) (.ite c' a' b') := by
  refine ⟨fun pins s σ H Q I h0 => ?_⟩
  obtain ⟨W, ρ, m, d, m', sm, rr, e, q⟩ := h0
  unfold evE at e
  obtain ⟨x, e1, e⟩ := bind_ok e
  obtain ⟨t, e2, e⟩ := bind_ok e
  obtain ⟨x1, x2⟩ := x
  have hx : x1 = .bl t := asB_eq e2
  subst hx
  show wpAny _ _ (do if ← isTrue c X.env (eval c X.env) then isTrue a X.env (eval a X.env) else isTrue b X.env (eval b X.env)) _ _ s
  refine wpAny_bind (thn (hc.run pins s σ H (fun b' H' => b' = t ∧ ∃ W', W.le W' ∧ Sim X.K cl W' x2 H') I ⟨W, ρ, m, t, x2, sm, rr, e1, fun W' H' l s' => ⟨rfl, W', l, s'⟩⟩) fun k s1 ⟨H1, I1, hk, W1, l1, sm1⟩ => ?_)
  subst hk
  cases k with
  | true => exact ha.run pins s1 σ H1 Q I1 ⟨W1, ρ, x2, d, m', sm1, rr.up l1, e, fun W2 H2 l2 s2 => q W2 H2 (l1.trans l2) s2⟩
  | false => exact hb.run pins s1 σ H1 Q I1 ⟨W1, ρ, x2, d, m', sm1, rr.up l1, e, fun W2 H2 l2 s2 => q W2 H2 (l1.trans l2) s2⟩
theorem st_of_sw {e : Expr} {e' : E} (h : SW X cl cal e e') : ST X cl cal e e' := ⟨fun pins s σ H Q I q => h.run _ pins s σ H Q I q⟩
end
end Mi
end
section
set_option linter.all false
set_option Elab.async false
set_option maxRecDepth 100000
set_option maxHeartbeats 2000000
/-! Mi23: tables: operators, comparisons, built-ins, methods. -/
namespace Mi
open PySem PySem.Spec PyProof.Rows L2
def ckOp : Op → Operator → Bool
  | .add, .Add => true
  | .sub, .Sub => true
  | .mul, .Mult => true
  | .fdiv, .FloorDiv => true
  | .mod, .Mod => true
  | .pow, .Pow => true
  | .bor, .BitOr => true
  | _, _ => false
def ckCm : Cm → CmpOp → Bool
  | .eq, .Eq => true
  | .ne, .NotEq => true
  | .lt, .Lt => true
  | .le, .LtE => true
  | .gt, .Gt => true
  | .ge, .GtE => true
  | .inn, .In => true
  | .nin, .NotIn => true
  | _, _ => false
section
variable {X : Cx} {cl : ClA} {cal : Cal}
theorem op_any {o' : Op} {o : Operator} (h : ckOp o' o = true) : ∃ r, OpR X (binaryOp o) r ∧ OpS X.K cl (bin o') r := by
  match o', o, h with
  | .add, .Add, _ => exact ⟨_, (op_add.or op_add_str).or (op_catA.or op_cat), ops_add⟩
  | .sub, .Sub, _ => exact ⟨_, op_sub, ops_sub⟩
  | .mul, .Mult, _ => exact ⟨_, op_mul.or (op_strMul.or op_rep), ops_mul⟩
  | .fdiv, .FloorDiv, _ => exact ⟨_, op_fdiv, ops_fdiv⟩
  | .mod, .Mod, _ => exact ⟨_, op_mod, ops_mod⟩
  | .pow, .Pow, _ => exact ⟨_, op_pow, ops_pow⟩
  | .bor, .BitOr, _ => exact ⟨_, op_bor, ops_bor⟩
theorem cm_any (hu : X.A.units + 80 < cLine) {o' : Cm} {o : CmpOp} (h : ckCm o' o = true) : ∃ r, OpR X (compareOp o) r ∧ CmS X.K cl (cmpB o') r := by
  have h65 : X.A.units + 65 < cLine := by omega
  have h64 : X.A.units + 64 < cLine := by omega
  match o', o, h with
  | .eq, .Eq, _ => exact ⟨_, op_eqD h64, cms_eq⟩
  | .ne, .NotEq, _ => exact ⟨_, op_neD h64, cms_ne⟩
  | .lt, .Lt, _ => exact ⟨_, op_lt, cms_ord _⟩
  | .le, .LtE, _ => exact ⟨_, op_le, cms_ord _⟩
  | .gt, .Gt, _ => exact ⟨_, op_gt, cms_ord _⟩
  | .ge, .GtE, _ => exact ⟨_, op_ge, cms_ord _⟩
  | .inn, .In, _ =>
    refine ⟨_, op_inA h65, ?_⟩
    have := cms_in (K := X.K) (cl := cl) false
    intro W m H dx dy b x y Q s rx ry hh q
    exact this W m H dx dy b x y Q s rx ry (by have hh : inD m dx dy = .ok b := hh; show (inD m dx dy).bind _ = _; rw [hh]; rfl) q
  | .nin, .NotIn, _ => exact ⟨_, op_ninA h65, cms_in true⟩
/-- a built-in by its name -/
def biNm : Bi → String
  | .len => "len"
  | .tuple => "tuple"
  | .list => "list"
  | .sorted => "sorted"
  | .sum => "sum"
  | .max => "max"
  | .min => "min"
  | .int => "int"
  | .str => "str"
  | .abs => "abs"
  | .all => "all"
  | .any => "any"
  | .dict => "dict"
  | .sortSet => "-"
  | .lenSet => "-"
def biServed : Bi → Bool
  | .sortSet => false
  | .lenSet => false
  | _ => true
theorem se_bi {b : Bi} {fr : Bool} {a : Expr} {es : List Expr} {es' : List E} {p pos : Pos} (hc : X.calm = true) (hu : X.A.units + 80 < cLine) (hb : biServed b = true) (hg : Gl X (Str.ofString (biNm b))) (hm : X.mg (Str.ofString (biNm b)) = none) (ha : SEs X cl cal (a :: es) es')
    (he : starEach (a :: es) X.env = (false, eval a X.env) :: starEach es X.env) (hpl : (backTo pos (starEach es X.env)).any (·.1) = false) : SE X cl cal (.Call (.Name (Str.ofString (biNm b)) p) (a :: es) [] pos) (.bi b fr es') := by
  cases b with
  | len => exact se_biB cr_lenA bis_len hg hm rfl (by decide) rfl ha he hpl
  | tuple => exact se_biT cr_tupA bis_tuple hg hm rfl (by decide) rfl ha he hpl
  | list => exact se_biT call_list_of bis_list hg hm rfl (by decide) rfl ha he hpl
  | sorted => exact se_biB (cr_srt hu) bis_sorted hg hm rfl (by decide) rfl ha he hpl
  | sum => exact se_biB (cr_sum hc) bis_sum hg hm rfl (by decide) rfl ha he hpl
  | max => exact se_biB (cr_maxA hc) bis_max hg hm rfl (by decide) rfl ha he hpl
  | min => exact se_biB (cr_minA hc) bis_min hg hm rfl (by decide) rfl ha he hpl
  | int => exact se_biT cr_intA bis_int hg hm rfl (by decide) rfl ha he hpl
  | str => exact se_biT call_str_int bis_str hg hm rfl (by decide) rfl ha he hpl
  | abs => exact se_biB call_abs bis_abs hg hm rfl (by decide) rfl ha he hpl
  | all => exact se_biB (cr_all hc) bis_all hg hm rfl (by decide) rfl ha he hpl
  | any => exact se_biB (cr_any hc) bis_any hg hm rfl (by decide) rfl ha he hpl
  | dict => exact se_biT (cr_dictA hc) bis_dict hg hm rfl (by decide) rfl ha he hpl
  | sortSet => cases hb
  | lenSet => cases hb
def mtNm : Mt → String
  | .append => "append"
  | .extend => "extend"
  | .insert => "insert"
  | .pop => "pop"
  | .clear => "clear"
  | .get => "get"
  | .reverse => "reverse"
  | _ => "-"
/-- served with arguments; served without -/
def mt1 : Mt → Bool
  | .append => true
  | .extend => true
  | .insert => true
  | .pop => true
  | .get => true
  | _ => false
def mt0 : Mt → Bool
  | .pop => true
  | .clear => true
  | .reverse => true
  | _ => false
theorem few_ok {e : Expr} {es : List Expr} {cpos : Pos} {env : PySem.Env} (h : (e :: es).all noStar = true) (hn : (e :: es).length < 30) : ((backTo cpos (starEach (e :: es) env)).all (fun x => !x.1) && (backToKw cpos (keywordEach [] env)).all (fun x => x.1.isSome)
      && decide ((e :: es).length + ([] : List Keyword).length + (if ([] : List Keyword).isEmpty then 0 else 1) < 30)) = true := by
  rw [starAll h]
  show (true && true && decide ((e :: es).length + 0 + 0 < 30)) = true
  simpa using hn
theorem se_mtA {q : Mt} {o e : Expr} {es : List Expr} {o' : E} {es' : List E} {apos cpos : Pos} (hu : X.A.units + 80 < cLine) (hq : mt1 q = true) (ho : SE X cl cal o o') (ha : SEs X cl cal (e :: es) es') (hs : noSup o = true) (hst : (e :: es).all noStar = true) (hn : (e :: es).length < 30)
    (hline : (apos.endLine == cpos.line) = true) : SE X cl cal (.Call (.Attribute o (Str.ofString (mtNm q)) apos) (e :: es) [] cpos) (.mt q o' es') := by
  have h1 : noStar e = true := by rw [List.all_cons, Bool.and_eq_true] at hst; exact hst.1
  have h2 : es.all noStar = true := by rw [List.all_cons, Bool.and_eq_true] at hst; exact hst.2
  cases q with
  | append => exact se_mt F.plainAttrs_list F.slot_list_append F.type_list_append mt_append mts_append ho ha (noSup_ok hs _ _) (few_ok hst hn) hline (star1 h1 _ _) (starN h2)
  | extend => exact se_mt F.plainAttrs_list F.slot_list_extend F.type_list_extend mt_extend mts_extend ho ha (noSup_ok hs _ _) (few_ok hst hn) hline (star1 h1 _ _) (starN h2)
  | insert => exact se_mt F.plainAttrs_list F.slot_list_insert F.type_list_insert mt_insert mts_insert ho ha (noSup_ok hs _ _) (few_ok hst hn) hline (star1 h1 _ _) (starN h2)
  | pop => exact se_mt F.plainAttrs_list F.slot_list_pop F.type_list_pop mtr_pop mts_pop ho ha (noSup_ok hs _ _) (few_ok hst hn) hline (star1 h1 _ _) (starN h2)
  | get => exact se_mt F.plainAttrs_dict F.slot_dict_get F.type_dict_get (mtr_get (by omega)) mts_get ho ha (noSup_ok hs _ _) (few_ok hst hn) hline (star1 h1 _ _) (starN h2)
  | _ => cases hq
theorem se_mtB {q : Mt} {o : Expr} {o' : E} {apos cpos : Pos} (hq : mt0 q = true) (ho : SE X cl cal o o') (hs : noSup o = true) (hline : (apos.endLine == cpos.line) = true) : SE X cl cal (.Call (.Attribute o (Str.ofString (mtNm q)) apos) [] [] cpos) (.mt q o' []) := by
  cases q with
  | pop => exact se_mt0 F.plainAttrs_list F.slot_list_pop F.type_list_pop mtr_pop mts_pop ho (noSup_ok hs _ _) hline
  | clear => exact se_mt0 F.plainAttrs_list F.slot_list_clear F.type_list_clear mt_clear mts_clear ho (noSup_ok hs _ _) hline
  | reverse => exact se_mt0 F.plainAttrs_list F.slot_list_reverse F.type_list_reverse mt_reverse mts_reverse ho (noSup_ok hs _ _) hline
  | _ => cases hq
end
end Mi
end
section
set_option linter.all false
set_option Elab.async false
set_option maxRecDepth 100000
set_option maxHeartbeats 2000000
/-! MiK: calls with keyword-only parameters, told or left out. -/
namespace Mi
open PySem PySem.Spec PyProof.Rows L2
section
variable {X : Cx} {cl : ClA} {cal : Cal} {x g : Str} {p pos : Pos} {e : Expr} {es : List Expr} {es' : List E} {ks : List Str} {ds : List D} {kws : List Keyword}
/-- a def with keyword-only parameters ks, whose defaults are ds -/
structure FnK (X : Cx) (cl : ClA) (cal : Cal) (x g : Str) (ks : List Str) (ds : List D) : Prop where
  ex : ∃ (k : Nat) (f : Addr) (fd : FuncData) (ps : List Str) (dv : List Value) (vs : List V) (n : Nat), FnOk X.prog X.w X.K X.mg X.base CX0 k f fd ps (spN X.K cl cal g) ∧ Room k X.A ∧ X.mg x = some (.ref f) ∧ PySem.W.keepIn X.K (.ref f) = true ∧
    Vals vs dv ∧ (∀ W, Rps X.K cl W ds vs) ∧ Binds X.K fd ps dv ∧ KBn X.K fd ps n ks (fun a b => a ++ b) (fun a b => a ++ b) ∧ ps.length = n + ks.length
theorem evEs_app : ∀ {as bs : List E} {ρ : Env} {m : Mem}, evEs cal (as ++ bs) ρ m = (evEs cal as ρ m).bind fun x => (evEs cal bs ρ x.2).bind fun y => .ok (x.1 ++ y.1, y.2)
  | [], bs, ρ, m => by
    have e0 : evEs cal [] ρ m = .ok ([], m) := by unfold evEs; rfl
    rw [List.nil_append, e0]
    show _ = (evEs cal bs ρ m).bind fun y => .ok ([] ++ y.1, y.2)
    cases evEs cal bs ρ m <;> rfl
  | a :: as, bs, ρ, m => by
    have e0 : ∀ xs, evEs cal (a :: xs) ρ m = (evE cal a ρ m).bind fun x => (evEs cal xs ρ x.2).bind fun y => .ok (x.1 :: y.1, y.2) := fun xs => by rw [evEs]
    rw [List.cons_append, e0, e0]
    cases evE cal a ρ m with
    | bad => rfl
    | exc _ _ _ => rfl
    | ok x =>
      show (evEs cal (as ++ bs) ρ x.2).bind _ = ((evEs cal as ρ x.2).bind _).bind _
      rw [evEs_app]
      cases evEs cal as ρ x.2 with
      | bad => rfl
      | exc _ _ _ => rfl
      | ok y =>
        show ((evEs cal bs ρ y.2).bind _).bind _ = (evEs cal bs ρ y.2).bind _
        cases evEs cal bs ρ y.2 <;> rfl
theorem evEs_cst : ∀ {ds : List D} {ρ : Env} {m : Mem}, evEs cal (ds.map E.cst) ρ m = .ok (ds, m)
  | [], ρ, m => by rw [List.map_nil]; unfold evEs; rfl
  | d :: ds, ρ, m => by
    rw [List.map_cons]
    unfold evEs evE
    show (evEs cal (ds.map E.cst) ρ m).bind _ = _
    rw [evEs_cst]
/-- left out -/
theorem se_callD (h : FnK X cl cal x g ks ds) (hg : Gl X x) (hdb : (x == ("__debug__" : Str)) = false) (ha : SEs X cl cal (e :: es) es') (h1 : starEach (e :: es) X.env = (false, eval e X.env) :: starEach es X.env) (h2 : (backTo pos (starEach es X.env)).any (·.1) = false) :
    SE X cl cal (.Call (.Name x p) (e :: es) [] pos) (.call g (es' ++ ds.map .cst)) := by
  obtain ⟨k, f, fd, ps, dv, vs, n, F, hr, hm, hk, hv, hrp, hb, _, _⟩ := h.ex
  refine (pe_call (E := noX) F hr hg hm hk hb hv pass0 ha hdb h1 h2).imp fun σ H Q h0 => ?_
  obtain ⟨W, ρ, m, d, m', s, rr, ee, q⟩ := h0
  unfold evE at ee
  rw [evEs_app] at ee
  obtain ⟨y, e1, e2⟩ := bind_ok ee
  obtain ⟨z, e3, e4⟩ := bind_ok e1
  obtain ⟨z2, e5, e6⟩ := bind_ok e4
  rw [evEs_cst] at e5
  cases e5
  cases e6
  exact ⟨W, ρ, m, z.1, z.2, s, rr, e3, fun W' H' us l s' rs => ⟨W', z.2, z.1 ++ ds, d, m', s', rs.append (hrp W'), e2, fun W2 H2 v l2 s2 r2 => q W2 H2 v (l.trans l2) s2 r2⟩⟩
theorem se_pcallD {b : Bool} (h : FnK X cl cal x g ks ds) (hg : Gl X x) (hdb : (x == ("__debug__" : Str)) = false) (ha : SEs X cl cal (e :: es) es') (h1 : starEach (e :: es) X.env = (false, eval e X.env) :: starEach es X.env) (h2 : (backTo pos (starEach es X.env)).any (·.1) = false) :
    SE X cl cal (.Call (.Name x p) (e :: es) [] pos) (.pcall b g (es' ++ ds.map .cst)) := by
  obtain ⟨k, f, fd, ps, dv, vs, n, F, hr, hm, hk, hv, hrp, hb, _, _⟩ := h.ex
  refine (pe_call (E := noX) F hr hg hm hk hb hv pass0 ha hdb h1 h2).imp fun σ H Q h0 => ?_
  obtain ⟨W, ρ, m, d, m', s, rr, ee, q⟩ := h0
  unfold evE at ee
  rw [evEs_app] at ee
  obtain ⟨y, e1, ee⟩ := bind_ok ee
  obtain ⟨z, e3, e4⟩ := bind_ok e1
  obtain ⟨z2, e5, e6⟩ := bind_ok e4
  rw [evEs_cst] at e5
  cases e5
  cases e6
  obtain ⟨as, e7, ee⟩ := bind_ok ee
  obtain ⟨d1, e8, ee⟩ := bind_ok ee
  cases ee
  exact ⟨W, ρ, m, z.1, z.2, s, rr, e3, fun W' H' us l s' rs => rCal_pure (ds := z.1 ++ ds) s' (lent_args s' (rs.append (hrp W')) e7) e8 fun W2 H2 v l2 s2 r2 => q W2 H2 v (l.trans l2) s2 r2⟩
/-- keywords' values -/
abbrev SKs (X : Cx) (cl : ClA) (cal : Cal) (kws : List Keyword) (es' : List E) : Prop := PK X kws (rEs X.K cl cal es')
theorem _root_.L2.PK.imp {t t' : TA} (h : PK X kws t) (hi : ∀ σ H Q, t' σ H Q → t σ H Q) : PK X kws t' := ⟨fun pos pins s σ H Q I q => h.run pos pins s σ H Q I (hi σ H Q q)⟩
theorem sks_nil : SKs X cl cal [] [] := by
  refine pk_nil.imp fun σ H Q h => ?_
  obtain ⟨W, ρ, m, d, m', s, rr, e, q⟩ := h
  unfold evEs at e
  cases e
  exact q W H _ (.refl W) s Rps.nil
theorem sks_cons {a : Expr} {a' : E} {nm : Option Str} {kpos : Pos} (ha : SE X cl cal a a') (hr : SKs X cl cal kws es') : SKs X cl cal (⟨nm, a, kpos⟩ :: kws) (a' :: es') := by
  refine (pk_cons ha hr).imp fun σ H Q h => ?_
  obtain ⟨W, ρ, m, d, m', s, rr, e, q⟩ := h
  unfold evEs at e
  obtain ⟨x, e1, e⟩ := bind_ok e
  obtain ⟨y, e2, e⟩ := bind_ok e
  cases e
  exact rE1 s rr e1 fun W' H' v l s' r1 => ⟨W', ρ, x.2, y.1, y.2, s', rr.up l, e2, fun W2 H2 vs l2 s2 r2 => q W2 H2 _ (l.trans l2) s2 (Rps.cons (r1.up l2) r2)⟩
theorem kw_all {env : PySem.Env} {pos : Pos} : ∀ {kws : List Keyword} {ks : List Str}, kws.map (·.arg) = ks.map some → (backToKw pos (keywordEach kws env)).all (·.1.isSome) = true ∧ (backToKw pos (keywordEach kws env)).filterMap (·.1) = ks ∧ (backToKw pos (keywordEach kws env)).any (·.1.isNone) = false
  | [], [], _ => ⟨rfl, rfl, rfl⟩
  | [], _ :: _, h => by cases h
  | _ :: _, [], h => by cases h
  | ⟨nm, a, kp⟩ :: kws, k :: ks, h => by
    rw [List.map_cons, List.map_cons] at h
    injection h with h1 h2
    obtain ⟨i1, i2, i3⟩ := kw_all (pos := pos) (env := env) h2
    have h1 : nm = some k := h1
    subst h1
    refine ⟨?_, ?_, ?_⟩
    · show (true && (backToKw pos (keywordEach kws env)).all (·.1.isSome)) = true
      rw [i1]; rfl
    · show k :: (backToKw pos (keywordEach kws env)).filterMap (·.1) = k :: ks
      rw [i2]
    · show (false || (backToKw pos (keywordEach kws env)).any (·.1.isNone)) = false
      rw [i3]; rfl
theorem star_any {env : PySem.Env} (h : (e :: es).all noStar = true) (hk : kws.map (·.arg) = ks.map some) : ((backTo pos (starEach (e :: es) env)).any (·.1) || (backToKw pos (keywordEach kws env)).any (·.1.isNone)) = false := by
  rw [starN h, (kw_all hk).2.2]; rfl
theorem spN_len {vs : List V} {K : PySem.W.Frag} {sp : Sp} {P : Program} {w : World} {mg : Str → Option Value} {base : Heap} {CX : CXT} {k : Nat} {f : Addr} {fd : FuncData} {ps : List Str} (F : FnOk P w K mg base CX k f fd ps sp) {H : Hp} {Q : VK} {E : XK} (h : sp vs H Q E) : vs.length = ps.length := F.len _ _ _ _ h
theorem se_callK {fs' : List E} (h : FnK X cl cal x g ks ds) (hg : Gl X x) (hdb : (x == ("__debug__" : Str)) = false) (ha : SEs X cl cal (e :: es) es') (hw : SKs X cl cal kws fs') (h1 : (e :: es).all noStar = true) (hk2 : kws.map (·.arg) = ks.map some) (hl : fs'.length = ks.length) :
    SE X cl cal (.Call (.Name x p) (e :: es) kws pos) (.call g (es' ++ fs')) := by
  obtain ⟨k, f, fd, ps, dv, vs, n, F, hr, hm, hk, hv, hrp, hb, hkb, hn⟩ := h.ex
  obtain ⟨k1, k2, k3⟩ := kw_all (pos := pos) (env := X.env) hk2
  refine (pe_callN (E := noX) F hr hg hm hk hkb pass0 ha hw k1 k2 hdb (star1 (by rw [List.all_cons, Bool.and_eq_true] at h1; exact h1.1) _ _) (star_any h1 hk2)).imp fun σ H Q h0 => ?_
  obtain ⟨W, ρ, m, d, m', s, rr, ee, q⟩ := h0
  unfold evE at ee
  rw [evEs_app] at ee
  obtain ⟨y, e1, e2⟩ := bind_ok ee
  obtain ⟨z, e3, e4⟩ := bind_ok e1
  obtain ⟨z2, e5, e6⟩ := bind_ok e4
  cases e6
  refine ⟨W, ρ, m, z.1, z.2, s, rr, e3, fun W' H' us l s' rs => ⟨W', ρ, z.2, z2.1, z2.2, s', rr.up l, e5, fun W2 H2 ws l2 s2 rw2 => ?_⟩⟩
  have sp : spN X.K cl cal g (us ++ ws) H2 Q noX := ⟨W2, z2.2, z.1 ++ z2.1, d, m', s2, (rs.up l2).append rw2, e2, fun W3 H3 v l3 s3 r3 => q W3 H3 v ((l.trans l2).trans l3) s3 r3⟩
  have e8 : ws.length = ks.length := by rw [← rw2.length, evEs_length e5, hl]
  have e9 := spN_len F sp
  rw [List.length_append, e8, hn] at e9
  exact ⟨by omega, e8, sp⟩
theorem se_pcallK {b : Bool} {fs' : List E} (h : FnK X cl cal x g ks ds) (hg : Gl X x) (hdb : (x == ("__debug__" : Str)) = false) (ha : SEs X cl cal (e :: es) es') (hw : SKs X cl cal kws fs') (h1 : (e :: es).all noStar = true) (hk2 : kws.map (·.arg) = ks.map some) (hl : fs'.length = ks.length) :
    SE X cl cal (.Call (.Name x p) (e :: es) kws pos) (.pcall b g (es' ++ fs')) := by
  obtain ⟨k, f, fd, ps, dv, vs, n, F, hr, hm, hk, hv, hrp, hb, hkb, hn⟩ := h.ex
  obtain ⟨k1, k2, k3⟩ := kw_all (pos := pos) (env := X.env) hk2
  refine (pe_callN (E := noX) F hr hg hm hk hkb pass0 ha hw k1 k2 hdb (star1 (by rw [List.all_cons, Bool.and_eq_true] at h1; exact h1.1) _ _) (star_any h1 hk2)).imp fun σ H Q h0 => ?_
  obtain ⟨W, ρ, m, d, m', s, rr, ee, q⟩ := h0
  unfold evE at ee
  rw [evEs_app] at ee
  obtain ⟨y, e1, ee⟩ := bind_ok ee
  obtain ⟨z, e3, e4⟩ := bind_ok e1
  obtain ⟨z2, e5, e6⟩ := bind_ok e4
  cases e6
  obtain ⟨as, e7, ee⟩ := bind_ok ee
  obtain ⟨d1, e8, ee⟩ := bind_ok ee
  cases ee
  refine ⟨W, ρ, m, z.1, z.2, s, rr, e3, fun W' H' us l s' rs => ⟨W', ρ, z.2, z2.1, z2.2, s', rr.up l, e5, fun W2 H2 ws l2 s2 rw2 => ?_⟩⟩
  have sp : spN X.K cl cal g (us ++ ws) H2 Q noX := rCal_pure (ds := z.1 ++ z2.1) s2 (lent_args s2 ((rs.up l2).append rw2) e7) e8 fun W3 H3 v l3 s3 r3 => q W3 H3 v ((l.trans l2).trans l3) s3 r3
  have e8 : ws.length = ks.length := by rw [← rw2.length, evEs_length e5, hl]
  have e9 := spN_len F sp
  rw [List.length_append, e8, hn] at e9
  exact ⟨by omega, e8, sp⟩
end
end Mi
end
section
set_option linter.all false
set_option Elab.async false
set_option maxRecDepth 100000
set_option maxHeartbeats 2000000
/-! Mi24: the checker: this Python text is this mini text. -/
namespace Mi
open PySem PySem.Spec PyProof.Rows L2
mutual
def sameD : D → D → Bool
  | .non, .non => true
  | .bl a, .bl b => a == b
  | .int a, .int b => decide (a = b)
  | .str a, .str b => decide (a = b)
  | .nd o sh ds, .nd p th es => (o == p) && decide (sh = th) && sameDs ds es
  | _, _ => false
def sameDs : List D → List D → Bool
  | [], [] => true
  | a :: as, b :: bs => sameD a b && sameDs as bs
  | _, _ => false
end
mutual
theorem sameD_eq : ∀ {a b : D}, sameD a b = true → a = b
  | .non, b, h => by cases b <;> first | rfl | (unfold sameD at h; cases h)
  | .bl x, b, h => by cases b <;> first | (unfold sameD at h; cases h; done) | (unfold sameD at h; rw [beq_iff_eq.mp h])
  | .int x, b, h => by cases b <;> first | (unfold sameD at h; cases h; done) | (unfold sameD at h; rw [of_decide_eq_true h])
  | .str x, b, h => by cases b <;> first | (unfold sameD at h; cases h; done) | (unfold sameD at h; rw [of_decide_eq_true h])
  | .loc n, b, h => by cases b <;> (unfold sameD at h; cases h)
  | .nd o sh ds, b, h => by
    cases b with
    | nd p th es =>
      unfold sameD at h
      simp only [Bool.and_eq_true] at h
      rw [beq_iff_eq.mp h.1.1, of_decide_eq_true h.1.2, sameDs_eq h.2]
    | _ => unfold sameD at h; cases h
theorem sameDs_eq : ∀ {a b : List D}, sameDs a b = true → a = b
  | [], [], _ => rfl
  | [], _ :: _, h => by unfold sameDs at h; cases h
  | _ :: _, [], h => by unfold sameDs at h; cases h
  | a :: as, b :: bs, h => by
    unfold sameDs at h
    rw [Bool.and_eq_true] at h
    rw [sameD_eq h.1, sameDs_eq h.2]
end
/-- what a global name stands for -/
inductive Gk where
  | fn (g : Str) | fnk (g : Str) (ks : List Str) (ds : List D) | cst (d : D) | tab (ks : List Str) (ds : List D) | blt
structure Ck where
  N : List Str
  sc : Scope
  fn : Str → Bool
  gs : List (Str × Gk)
  FL : List Str
def Ck.blk (c : Ck) (scope : Scope) : Ck := { c with sc := relS scope c.sc, fn := fun x => scope.names.lookup x == some .cell }
def visB (c : Ck) (x : Str) : Bool := match c.sc.names.lookup x with
  | some .local => true
  | some .cell => true
  | some .free => true
  | _ => false
def locB (c : Ck) (x : Str) : Bool := match c.sc.names.lookup x with
  | some .local => true
  | some .cell => c.fn x
  | _ => false
def isLocal (c : Ck) (x : Str) : Bool := match c.sc.names.lookup x with
  | some .local => true
  | _ => false
def glB (c : Ck) (x : Str) : Bool := (match c.sc.names.lookup x with
  | some .globalImplicit => true
  | _ => false) && !(x == ("__debug__" : Str))
def bltB (c : Ck) (x : Str) : Bool := glB c x && (match c.gs.lookup x with
  | some .blt => true
  | _ => false)
def fnB (c : Ck) (x g : Str) : Bool := glB c x && (match c.gs.lookup x with
  | some (.fn g') => decide (g' = g)
  | _ => false)
/-- a def with keyword-only parameters: their names, their defaults -/
def fkB (c : Ck) (x g : Str) : Option (List Str × List D) := if glB c x then (match c.gs.lookup x with
  | some (.fnk g' ks ds) => if g' = g then some (ks, ds) else none
  | _ => none) else none
def ckCsts : List D → List E → Bool
  | [], [] => true
  | d :: ds, .cst d' :: es => sameD d d' && ckCsts ds es
  | _, _ => false
def ckVar (c : Ck) (i : Nat) (e : Expr) : Bool := match e with
  | .Name x _ => decide (c.N[i]? = some x) && (visB c x && (!(x == ("__debug__" : Str)) && !(x == ("__classdict__" : Str))))
  | _ => false
def ckCst (c : Ck) (d : D) (e : Expr) : Bool := match e with
  | .Constant (.int i) _ _ => sameD d (.int i)
  | .Constant (.str x) _ _ => sameD d (.str x)
  | .Constant (.bool b) _ _ => sameD d (.bl b)
  | .Constant .none _ _ => sameD d .non
  | .Name x _ => glB c x && (match c.gs.lookup x with
    | some (.cst d') => sameD d d'
    | _ => false)
  | _ => false
def kdOf (x : Str) (k : Kd) : Bool := decide (x = Str.ofString (kdS k))
def ckTys (c : Ck) : List Kd → List Expr → Bool
  | [], [] => true
  | k :: ks, .Name x _ :: es => kdOf x k && (bltB c x && ckTys c ks es)
  | _, _ => false
def ownP (c : Ck) (own : List Nat) : List (Str × Nat) := own.map fun i => (c.N[i]?.getD "", i)
def subN (a b : List Nat) : Bool := a.all fun j => b.contains j
def is0 (g : Comprehension) : Bool := decide (g.is_async = 0)
mutual
def chkE (n : Nat) (c : Ck) (e' : E) (e : Expr) : Bool := match n with
  | 0 => false
  | n + 1 => match e with
    | .BoolOp _ [x] _ => chkE n c e' x
    | e => match e' with
      | .var i => ckVar c i e
      | .cst d => ckCst c d e
      | .bin o a b => (match e with
        | .BinOp x p y _ => ckOp o p && (chkE n c a x && chkE n c b y)
        | _ => false)
      | .neg a => (match e with
        | .UnaryOp .USub x _ => chkE n c a x
        | _ => false)
      | .cat a b => (match e with
        | .BinOp x .Add y _ => chkE n c a x && chkE n c b y
        | _ => false)
      | .cmp o a b => (match e with
        | .Compare x [p] [y] _ => ckCm o p && (noSet y && (chkE n c a x && chkE n c b y))
        | _ => false)
      | .chain o1 o2 a b d => (match e with
        | .Compare x [p1, p2] [y, z] _ => ckCm o1 p1 && (ckCm o2 p2 && (noSet z && (chkE n c a x && (chkE n c b y && chkE n c d z))))
        | _ => false)
      | .isN no a => (match e with
        | .Compare x [.Is] [.Constant .none _ _] _ => !no && chkE n c a x
        | .Compare x [.IsNot] [.Constant .none _ _] _ => no && chkE n c a x
        | _ => false)
      | .and a b => (match e with
        | .BoolOp .And (x :: y :: r) pos => chkE n c a x && chkE n c b (.BoolOp .And (y :: r) pos)
        | _ => false)
      | .or a b => (match e with
        | .BoolOp .Or (x :: y :: r) pos => chkE n c a x && chkE n c b (.BoolOp .Or (y :: r) pos)
        | _ => false)
      | .not a => (match e with
        | .UnaryOp .Not x _ => chkE n c a x
        | _ => false)
      | .ite t a b => (match e with
        | .IfExp x y z _ => chkT n c t x && (chkE n c a y && chkE n c b z)
        | _ => false)
      | .tup es => (match e with
        | .Tuple xs _ _ => decide (es.length ≤ 1000) && chkEs n c es xs
        | _ => false)
      | .lst _ es => (match e with
        | .List xs _ => decide (es.length ≤ 1000) && chkEs n c es xs
        | _ => false)
      | .dct _ tk es => (match e with
        | .Dict ks vs _ => !tk && (decide (es.length ≤ 30) && chkPs n c es ks vs)
        | _ => false)
      | .idx a i => (match e with
        | .Subscript x y _ => noSlc y && (chkE n c a x && chkE n c i y)
        | _ => false)
      | .slcL a i => (match e with
        | .Subscript x (.Slice (some y) none none _) _ => chkE n c a x && chkE n c i y
        | _ => false)
      | .slcU a i => (match e with
        | .Subscript x (.Slice none (some y) none _) _ => chkE n c a x && chkE n c i y
        | _ => false)
      | .slcB a i j => (match e with
        | .Subscript x (.Slice (some y) (some z) none _) _ => chkE n c a x && (chkE n c i y && chkE n c j z)
        | _ => false)
      | .fld a f => (match e with
        | .Attribute x g _ => decide (g = f) && (decide (f ∈ c.FL) && (noSup x && chkE n c a x))
        | _ => false)
      | .call g es => (match e with
        | .Call (.Name x _) xs kws _ => (match fkB c x g, xs, kws with
          | none, xs, [] => fnB c x g && (xs.all noStar && chkEs n c es xs)
          | some (ks, ds), y :: ys, [] => chkEs n c (es.take (ys.length + 1)) (y :: ys) && ckCsts ds (es.drop (ys.length + 1))
          | some (ks, ds), y :: ys, kws => decide (kws.map (·.arg) = ks.map some) && (chkEs n c (es.take (ys.length + 1)) (y :: ys) && chkEs n c (es.drop (ys.length + 1)) (kws.map (·.value)))
          | _, _, _ => false)
        | _ => false)
      | .pcall _ g es => (match e with
        | .Call (.Name x _) xs kws _ => (match fkB c x g, xs, kws with
          | none, xs, [] => fnB c x g && (xs.all noStar && chkEs n c es xs)
          | some (ks, ds), y :: ys, [] => chkEs n c (es.take (ys.length + 1)) (y :: ys) && ckCsts ds (es.drop (ys.length + 1))
          | some (ks, ds), y :: ys, kws => decide (kws.map (·.arg) = ks.map some) && (chkEs n c (es.take (ys.length + 1)) (y :: ys) && chkEs n c (es.drop (ys.length + 1)) (kws.map (·.value)))
          | _, _, _ => false)
        | _ => false)
      | .meth o q es => (match e with
        | .Call (.Attribute x q' apos) xs [] pos => decide (q' = q) && (noSup x && (xs.all noStar && (decide (xs.length < 30) && ((apos.endLine == pos.line) && (chkE n c o x && chkEs n c es xs)))))
        | _ => false)
      | .pmeth _ o q es => (match e with
        | .Call (.Attribute x q' apos) xs [] pos => decide (q' = q) && (noSup x && (xs.all noStar && (decide (xs.length < 30) && ((apos.endLine == pos.line) && (chkE n c o x && chkEs n c es xs)))))
        | _ => false)
      | .bi b _ es => (match e with
        | .Call (.Name x _) xs [] _ => (match b with
          | .sortSet => (match es, xs with
            | [a], [.Call (.Name y _) [z] [] _] => decide (x = "sorted") && (decide (y = "set") && (bltB c x && (bltB c y && (noStar z && chkE n c a z))))
            | _, _ => false)
          | b => (match es, xs with
            | [.sc a own t it ifs g], [.SetComp elt gens scope _] => decide (b = .len) && (decide (x = "len") && (bltB c x && chkC n c own t it ifs g gens scope (fun k => chkE n k a elt)))
            | es, y :: ys => biServed b && (decide (x = Str.ofString (biNm b)) && (bltB c x && ((y :: ys).all noStar && chkEs n c es (y :: ys))))
            | _, _ => false))
        | _ => false)
      | .mt q o es => (match e with
        | .Call (.Attribute x nm apos) xs [] cpos => decide (nm = Str.ofString (mtNm q)) && (noSup x && ((apos.endLine == cpos.line) && (chkE n c o x && (match xs with
          | [] => mt0 q && (match es with
            | [] => true
            | _ => false)
          | y :: ys => mt1 q && ((y :: ys).all noStar && (decide ((y :: ys).length < 30) && chkEs n c es (y :: ys)))))))
        | _ => false)
      | .isi a ks => (match e with
        | .Call (.Name x _) [y, z] [] _ => decide (x = "isinstance") && (bltB c x && (noStar y && (chkE n c a y && (match z with
          | .Tuple ts _ _ => decide (ks ≠ []) && (decide (ks.length ≤ 1000) && ckTys c ks ts)
          | z => (match ks with
            | [k] => ckTys c [k] [z]
            | _ => false)))))
        | _ => false)
      | .kg ks ds a b => (match e with
        | .Call (.Attribute (.Name x p) nm apos) [y, z] [] cpos => decide (nm = "get") && ((apos.endLine == cpos.line) && (glB c x && ((match c.gs.lookup x with
          | some (.tab ks' ds') => decide (ks' = ks) && sameDs ds' ds
          | _ => false) && (noStar y && (noStar z && (chkE n c a y && chkE n c b z))))))
        | _ => false)
      | .lc _ a own t it ifs g => (match e with
        | .ListComp elt gens scope _ => chkC n c own t it ifs g gens scope (fun k => chkE n k a elt)
        | _ => false)
      | .dc _ tk a b own t it ifs g => (match e with
        | .DictComp x y gens scope _ => !tk && chkC n c own t it ifs g gens scope (fun k => chkE n k a x && chkE n k b y)
        | _ => false)
      | .sc _ _ _ _ _ _ => false
def chkEs (n : Nat) (c : Ck) (es' : List E) (es : List Expr) : Bool := match n with
  | 0 => false
  | n + 1 => match es', es with
    | [], [] => true
    | a :: as, x :: xs => noStar x && (chkE n c a x && chkEs n c as xs)
    | _, _ => false
def chkPs (n : Nat) (c : Ck) (es' : List E) (ks : List (Option Expr)) (vs : List Expr) : Bool := match n with
  | 0 => false
  | n + 1 => match es', ks, vs with
    | [], [], [] => true
    | a :: b :: r, some x :: ks, y :: vs => chkE n c a x && (chkE n c b y && chkPs n c r ks vs)
    | _, _, _ => false
/-- as a test -/
def chkT (n : Nat) (c : Ck) (e' : E) (e : Expr) : Bool := match n with
  | 0 => false
  | n + 1 => match e with
    | .BoolOp _ [x] _ => chkT n c e' x
    | .BoolOp .And (x :: y :: r) pos => (match e' with
      | .and a b => chkT n c a x && chkT n c b (.BoolOp .And (y :: r) pos)
      | _ => false)
    | .BoolOp .Or (x :: y :: r) pos => (match e' with
      | .or a b => chkT n c a x && chkT n c b (.BoolOp .Or (y :: r) pos)
      | _ => false)
    | .UnaryOp .Not x _ => (match e' with
      | .not a => chkT n c a x
      | _ => false)
    | .IfExp x y z _ => (match e' with
      | .ite t a b => chkT n c t x && (chkT n c a y && chkT n c b z)
      | _ => false)
    | .Compare x [.Is] [.Constant .none _ _] _ => (match e' with
      | .isN no a => !no && chkE n c a x
      | _ => false)
    | .Compare x [.IsNot] [.Constant .none _ _] _ => (match e' with
      | .isN no a => no && chkE n c a x
      | _ => false)
    | .Compare x [p] [y] _ => (match e' with
      | .cmp o a b => ckCm o p && (noSet y && (chkE n c a x && chkE n c b y))
      | _ => false)
    | .Compare x [p1, p2] [y, z] _ => (match e' with
      | .chain o1 o2 a b d => ckCm o1 p1 && (ckCm o2 p2 && (noSet z && (chkE n c a x && (chkE n c b y && chkE n c d z))))
      | _ => false)
    | e => byVal e && chkE n c e' e
def chkTs (n : Nat) (c : Ck) (es' : List E) (es : List Expr) : Bool := match n with
  | 0 => false
  | n + 1 => match es', es with
    | [], [] => true
    | a :: as, x :: xs => chkT n c a x && chkTs n c as xs
    | _, _ => false
def chkI (n : Nat) (c : Ck) (tg : Expr) (it : I) (e : Expr) : Bool := match n with
  | 0 => false
  | n + 1 => match it with
    | .seq a => chkE n c a e
    | .rng1 a => (match e with
      | .Call (.Name x _) [y] [] _ => decide (x = "range") && (bltB c x && (noStar y && chkE n c a y))
      | _ => false)
    | .rng2 a b => (match e with
      | .Call (.Name x _) [y, z] [] _ => decide (x = "range") && (bltB c x && (noStar y && (noStar z && (chkE n c a y && chkE n c b z))))
      | _ => false)
    | .enu a => (match tg, e with
      | .Tuple _ _ _, .Call (.Name x _) [y] [] _ => decide (x = "enumerate") && (bltB c x && (noStar y && chkE n c a y))
      | _, _ => false)
    | .zip a b => (match tg, e with
      | .Tuple _ _ _, .Call (.Name x _) [y, z] [] _ => decide (x = "zip") && (bltB c x && (noStar y && (noStar z && (chkE n c a y && chkE n c b z))))
      | _, _ => false)
def chkG (n : Nat) (c : Ck) (t : T) (e : Expr) : Bool := match n with
  | 0 => false
  | n + 1 => match t with
    | .var i => (match e with
      | .Name x _ => decide (c.N[i]? = some x) && locB c x
      | _ => false)
    | .tup ts => (match e with
      | .Tuple es _ _ => es.all noStar && chkGs n c ts es
      | _ => false)
    | .star ts j => (match e with
      | .Tuple es _ _ => (match es.getLast? with
        | some (.Starred x _) => noStar x && (es.dropLast.all noStar && chkGs n c (ts ++ [.var j]) (es.dropLast ++ [x]))
        | _ => false)
      | _ => false)
    | .idx a i => (match e with
      | .Subscript x y _ => noSlc y && (chkE n c a x && chkE n c i y)
      | _ => false)
    | .fld _ _ => false
def chkGs (n : Nat) (c : Ck) (ts : List T) (es : List Expr) : Bool := match n with
  | 0 => false
  | n + 1 => match ts, es with
    | [], [] => true
    | t :: ts, e :: es => chkG n c t e && chkGs n c ts es
    | _, _ => false
/-- a comprehension -/
def chkC (n : Nat) (c : Ck) (own : List Nat) (t : T) (it : I) (ifs : List E) (g : G) (gens : List Comprehension) (scope : Scope) (k : Ck → Bool) : Bool := match n with
  | 0 => false
  | n + 1 => match gens with
    | [] => false
    | ⟨tg, iter, ifsE, _⟩ :: gs => gens.all is0 && (blkC c.N c.sc scope (ownP c own) && (chkI n c tg it iter && (noSet iter && (subN (tvs t) own && (subN (gown g) own && (chkG n (c.blk scope) t tg && (chkTs n (c.blk scope) ifs ifsE && (chkQ n (c.blk scope) g gs && k (c.blk scope)))))))))
def chkQ (n : Nat) (c : Ck) (g : G) (gs : List Comprehension) : Bool := match n with
  | 0 => false
  | n + 1 => match g, gs with
    | .nil, [] => true
    | .cons t own it ifs g, ⟨tg, iter, ifsE, _⟩ :: gs => chkI n c tg it iter && (noSet iter && (subN (tvs t) own && (subN (gown g) own && (chkG n c t tg && (chkTs n c ifs ifsE && chkQ n c g gs)))))
    | _, _ => false
end
end Mi
end
section
set_option linter.all false
set_option Elab.async false
set_option maxRecDepth 100000
set_option maxHeartbeats 2000000
/-! Mi25: the checker of statements; what a context must hold. -/
namespace Mi
open PySem PySem.Spec PyProof.Rows L2
def isComp' : Expr → Bool
  | .ListComp _ _ _ _ => true
  | .DictComp _ _ _ _ _ => true
  | _ => false
/-- whether a name's store swaps with a comprehension's end -/
def swB (c : Ck) (x : Str) (px : Pos) (e : Expr) : Bool := match e with
  | .ListComp _ _ s p => isLocal c x && ((px.line == p.line) && !(s.names.any fun (n, k) => n == x && (k == .local || k == .cell)))
  | .DictComp _ _ _ s p => isLocal c x && ((px.line == p.line) && !(s.names.any fun (n, k) => n == x && (k == .local || k == .cell)))
  | _ => false
mutual
def chkS (n : Nat) (c : Ck) (s' : S) (s : Stmt) : Bool := match n with
  | 0 => false
  | n + 1 => match s' with
    | .asg t e' => (match s with
      | .Assign [tg] e _ => (match t with
        | .var i => (match tg with
          | .Name x px => decide (c.N[i]? = some x) && (locB c x && (chkE n c e' e && (noComp e || isComp' e)))
          | _ => false)
        | .fld o f => (match tg with
          | .Attribute x g _ => decide (g = f) && (decide (f ∈ c.FL) && (noComp e && (chkE n c o x && chkE n c e' e)))
          | _ => false)
        | t => noComp e && (noStar tg && (chkG n c t tg && (chkE n c e' e && (match tg, e with
          | .Tuple ts _ _, .Tuple _ _ _ => decide (ts.length ≠ 2) && decide (ts.length ≠ 3)
          | .List _ _, .Tuple _ _ _ => false
          | _, _ => true)))))
      | _ => false)
    | .par is es => (match s with
      | .Assign [.Tuple ts _ _] (.Tuple xs _ _) _ => (match ts, xs, is, es with
        | [.Name x px, .Name y py], [u, v], [i, j], [a, b] => decide (c.N[i]? = some x) && (decide (c.N[j]? = some y) && (decide (i ≠ j) && (isLocal c x && (isLocal c y && (decide (x ≠ y) && ((py.line == px.line) &&
            (noStar u && (noStar v && (!(foldedForSure 8 u && foldedForSure 8 v) && (!(constantsAlone 8 u && constantsAlone 8 v) && (chkE n c a u && chkE n c b v)))))))))))
        | [.Name x px, .Name y py, .Name z pz], [u, v, w], [i, j, k], [a, b, d] => decide (c.N[i]? = some x) && (decide (c.N[j]? = some y) && (decide (c.N[k]? = some z) && (decide (i ≠ j) && (decide (i ≠ k) && (decide (j ≠ k) && (isLocal c x && (isLocal c y && (isLocal c z &&
            (decide (x ≠ y) && (decide (x ≠ z) && (decide (y ≠ z) && ((py.line == px.line) && ((pz.line == px.line) && (noStar u && (noStar v && (noStar w && (!(foldedForSure 8 u && (foldedForSure 8 v && foldedForSure 8 w)) && (!(constantsAlone 8 u && (constantsAlone 8 v && constantsAlone 8 w)) &&
            (chkE n c a u && (chkE n c b v && chkE n c d w))))))))))))))))))))
        | _, _, _, _ => false)
      | _ => false)
    | .augV i e' => (match s with
      | .AugAssign (.Name x _) .Add e _ => decide (c.N[i]? = some x) && (locB c x && chkE n c e' e)
      | _ => false)
    | .augF o f e' => (match s with
      | .AugAssign (.Attribute x g _) .Add e _ => decide (g = f) && (decide (f ∈ c.FL) && (chkE n c o x && chkE n c e' e))
      | _ => false)
    | .exp e' => (match s with
      | .Expr e _ => noComp e && chkE n c e' e
      | _ => false)
    | .ret e' => (match s with
      | .Return (some e) _ => chkE n c e' e
      | _ => false)
    | .retN => (match s with
      | .Return none _ => true
      | _ => false)
    | .pas => (match s with
      | .Pass _ => true
      | _ => false)
    | .ifs t a b => (match s with
      | .If e x y _ => chkT n c t e && (chkSs n c a x && chkSs n c b y)
      | _ => false)
    | .for_ t it b => (match s with
      | .For tg iter x [] _ => chkI n c tg it iter && (chkG n c t tg && (noSet iter && chkSs n c b x))
      | _ => false)
    | .whl t b => (match s with
      | .While e x [] _ => chkT n c t e && chkSs n c b x
      | _ => false)
    | .rse _ _ => true
def chkSs (n : Nat) (c : Ck) (ss' : List S) (ss : List Stmt) : Bool := match n with
  | 0 => false
  | n + 1 => match ss', ss with
    | [], [] => true
    | a :: as, x :: xs => chkS n c a x && chkSs n c as xs
    | _, _ => false
end
/-- what stands behind the global names: of a place, whatever the frame -/
structure GlOk (P : Program) (w : World) (K : PySem.W.Frag) (mg : Str → Option Value) (base : Heap) (A : Around) (cl : ClA) (cal : Cal) (gs : List (Str × Gk)) : Prop where
  fn : ∀ x g, gs.lookup x = some (.fn g) → (∃ k f fd ps, FnOk P w K mg base CX0 k f fd ps (spN K cl cal g) ∧ Room k A ∧ mg x = some (.ref f) ∧ PySem.W.keepIn K (.ref f) = true ∧ Binds K fd ps []) ∨
    ∃ k f C fd ps calI, Mk K C f ∧ FnOk P w K mg base CX0 k f fd ps (spN K cl calI (g ++ ".__init__")) ∧ Room (k + 1) A ∧ mg x = some (.ref C) ∧ Binds K fd ps [] ∧ cl g = some C ∧
      ∀ ds m r, cal g ds m = .ok r → ∃ r', calI (g ++ ".__init__") (.loc m.length :: ds) (m ++ [⟨.ins g [], []⟩]) = .ok (.non, r') ∧ r = (.loc m.length, r')
  fk : ∀ x g ks ds, gs.lookup x = some (.fnk g ks ds) → ∃ (k : Nat) (f : Addr) (fd : FuncData) (ps : List Str) (dv : List Value) (vs : List V) (n : Nat), FnOk P w K mg base CX0 k f fd ps (spN K cl cal g) ∧ Room k A ∧ mg x = some (.ref f) ∧ PySem.W.keepIn K (.ref f) = true ∧
    Vals vs dv ∧ (∀ W, Rps K cl W ds vs) ∧ Binds K fd ps dv ∧ KBn K fd ps n ks (fun a b => a ++ b) (fun a b => a ++ b) ∧ ps.length = n + ks.length
  cst : ∀ x d, gs.lookup x = some (.cst d) → ∃ v u, mg x = some u ∧ RelV v u ∧ ∀ W, Rp K cl W d v
  tab : ∀ x ks ds, gs.lookup x = some (.tab ks ds) → ∃ d vs, mg x = some (.ref d) ∧ TabOk K w d ks vs ∧ ks.Nodup ∧ ∀ W, Rps K cl W ds vs
  blt : ∀ x, gs.lookup x = some .blt → mg x = none
  mt : ∀ q Cn C ds m r, cl Cn = some C → cal (Cn ++ "." ++ q) ds m = .ok r → ∃ k f fd ps, Cls K C ∧ Meth K C q f ∧ FnOk P w K mg base CX0 k f fd ps (spN K cl cal (Cn ++ "." ++ q)) ∧ Room k A ∧ Binds K fd ps []
structure CxOk (c : Ck) (X : Cx) (cl : ClA) (cal : Cal) : Prop where
  N : X.N = c.N
  sc : X.env.scope = c.sc
  fn : X.fn = c.fn
  calm : X.calm = true
  nd : c.N.Nodup
  xe : X.xe = fun _ _ => False
  un : X.A.units + 80 < cLine
  g : GlOk X.prog X.w X.K X.mg X.base X.A cl cal c.gs
  co : ClOk X.K cl c.FL
section
variable {c : Ck} {X : Cx} {cl : ClA} {cal : Cal}
theorem CxOk.blk (h : CxOk c X cl cal) (scope : Scope) : InBlk X scope fun Y => CxOk (c.blk scope) Y cl cal := by
  intro s H C cl' fp
  exact ⟨h.N, by show relS scope X.env.scope = _; rw [h.sc]; rfl, rfl, h.calm, h.nd, rfl, h.un, h.g, h.co⟩
theorem vis_ok (h : CxOk c X cl cal) {x : Str} (hv : visB c x = true) : Vis X.env.scope x := by
  unfold visB at hv
  rw [← h.sc] at hv
  split at hv
  · exact .inl (by assumption)
  · exact .inr (.inl (by assumption))
  · exact .inr (.inr (by assumption))
  · cases hv
theorem loc_ok (h : CxOk c X cl cal) {x : Str} (hv : locB c x = true) : Loc X.env.scope x ∧ (X.fn x = true ∨ X.env.scope.names.lookup x = some .local) := by
  unfold locB at hv
  rw [← h.sc] at hv
  split at hv
  · rename_i q; exact ⟨.inl q, .inr q⟩
  · rename_i q; exact ⟨.inr q, .inl (by rw [h.fn]; exact hv)⟩
  · cases hv
theorem local_ok (h : CxOk c X cl cal) {x : Str} (hv : isLocal c x = true) : X.env.scope.names.lookup x = some .local := by
  unfold isLocal at hv
  rw [← h.sc] at hv
  split at hv
  · assumption
  · cases hv
theorem gl_ok (h : CxOk c X cl cal) {x : Str} (hv : glB c x = true) : Gl X x ∧ (x == ("__debug__" : Str)) = false := by
  unfold glB at hv
  rw [← h.sc, Bool.and_eq_true] at hv
  obtain ⟨h1, h2⟩ := hv
  refine ⟨?_, by simpa using h2⟩
  split at h1
  · assumption
  · cases h1
theorem blt_ok (h : CxOk c X cl cal) {x : Str} (hv : bltB c x = true) : Gl X x ∧ X.mg x = none := by
  unfold bltB at hv
  rw [Bool.and_eq_true] at hv
  obtain ⟨h1, h2⟩ := hv
  refine ⟨(gl_ok h h1).1, ?_⟩
  split at h2
  · exact h.g.blt x (by assumption)
  · cases h2
theorem fn_ok (h : CxOk c X cl cal) {x g : Str} (hv : fnB c x g = true) : FnC X cl cal x g := by
  unfold fnB at hv
  rw [Bool.and_eq_true] at hv
  obtain ⟨h1, h2⟩ := hv
  obtain ⟨g1, g2⟩ := gl_ok h h1
  split at h2
  · rename_i g' hg
    have e := of_decide_eq_true h2
    subst e
    rcases h.g.fn x _ hg with ⟨k, f, fd, ps, F, hr, hm, hk, hb⟩ | ⟨k, f, C, fd, ps, calI, M, F, hr, hm, hb, hc, hcl⟩
    · exact fnC_fn F hr g1 hm hk hb pass0 g2
    · exact fnC_cls M F hr g1 hm hb pass0 g2 hc hcl
  · cases h2
theorem fk_ok (h : CxOk c X cl cal) {x g : Str} {ks : List Str} {ds : List D} (hv : fkB c x g = some (ks, ds)) : FnK X cl cal x g ks ds ∧ Gl X x ∧ (x == ("__debug__" : Str)) = false := by
  unfold fkB at hv
  split at hv
  · rename_i h1
    obtain ⟨g1, g2⟩ := gl_ok h h1
    split at hv
    · rename_i g' ks' ds' hg
      split at hv
      · rename_i e
        subst e
        cases hv
        exact ⟨⟨h.g.fk x _ ks ds hg⟩, g1, g2⟩
      · cases hv
    · cases hv
  · cases hv
theorem mt_ok (h : CxOk c X cl cal) (q : Str) : ∀ Cn C ds m r, cl Cn = some C → cal (Cn ++ "." ++ q) ds m = .ok r → MtC X cl cal C q (Cn ++ "." ++ q) := by
  intro Cn C ds m r hC hr
  obtain ⟨k, f, fd, ps, h1, h2, h3, h4, h5⟩ := h.g.mt q Cn C ds m r hC hr
  exact ⟨CX0, k, f, fd, ps, h1, h2, h3, h4, h5, pass0⟩
theorem var_ok (h : CxOk c X cl cal) {i : Nat} {e : Expr} (hv : ckVar c i e = true) : SE X cl cal e (.var i) := by
  unfold ckVar at hv
  split at hv
  · rename_i x p
    simp only [Bool.and_eq_true] at hv
    obtain ⟨h1, h2, h3, h4⟩ := hv
    exact se_var (by rw [h.N]; exact of_decide_eq_true h1) (vis_ok h h2) (by simpa using h3) (by simpa using h4)
  · cases hv
theorem cst_ok (h : CxOk c X cl cal) {d : D} {e : Expr} (hv : ckCst c d e = true) : SE X cl cal e (.cst d) := by
  unfold ckCst at hv
  split at hv
  · rw [sameD_eq hv]; exact se_cst pe_int fun W => .of_int
  · rw [sameD_eq hv]; exact se_cst pe_str fun W => .of_str
  · rw [sameD_eq hv]; exact se_cst pe_bl fun W => .of_bl
  · rw [sameD_eq hv]; exact se_cst pe_non fun W => .of_non
  · rename_i x p
    rw [Bool.and_eq_true] at hv
    obtain ⟨h1, h2⟩ := hv
    obtain ⟨g1, g2⟩ := gl_ok h h1
    split at h2
    · rename_i d' hd
      rw [sameD_eq h2]
      obtain ⟨v, u, e1, e2, e3⟩ := h.g.cst x d' hd
      exact se_cst (pe_glob g1 e1 e2 g2) e3
    · cases h2
  · cases hv
theorem subN_ok {a b : List Nat} (h : subN a b = true) : ∀ j ∈ a, j ∈ b := by
  intro j hj
  have := List.all_eq_true.mp h j hj
  simpa using this
theorem ownP_map (own : List Nat) : (ownP c own).map (·.2) = own := by
  unfold ownP
  rw [List.map_map]
  exact List.map_id' own
theorem is0_ok {gs : List Comprehension} (h : gs.all is0 = true) : ∀ g ∈ gs, g.is_async = 0 := fun g hg => of_decide_eq_true (List.all_eq_true.mp h g hg)
theorem tys_ok (h : CxOk c X cl cal) : ∀ {ks : List Kd} {es : List Expr}, ckTys c ks es = true → PA X es (fun _ H Q => Q (ks.map fun k => V.ty (kdS k)) H) ∧ es.all noStar = true
  | [], [], _ => ⟨pa_nil, rfl⟩
  | [], _ :: _, hv => by unfold ckTys at hv; cases hv
  | _ :: _, [], hv => by unfold ckTys at hv; cases hv
  | k :: ks, e :: es, hv => by
    cases e with
    | Name x p =>
      unfold ckTys at hv
      simp only [Bool.and_eq_true] at hv
      obtain ⟨h1, h2, h3⟩ := hv
      obtain ⟨i1, i2⟩ := tys_ok h h3
      have ex := of_decide_eq_true h1
      subst ex
      obtain ⟨g1, g2⟩ := blt_ok h h2
      have pk : PE X (.Name (Str.ofString (kdS k)) p) (tC (.ty (kdS k))) := by
        cases k <;> exact pe_bltn g1 g2 rfl rfl (by decide) rfl
      refine ⟨(pa_cons pk i1 rfl).mono fun σ H Q q => q, ?_⟩
      rw [List.all_cons, i2]; rfl
    | _ => unfold ckTys at hv; cases hv
end
end Mi
end
section
set_option linter.all false
set_option Elab.async false
set_option maxRecDepth 100000
set_option maxHeartbeats 4000000
/-! Mi26: the checker is sound. -/
namespace Mi
open PySem PySem.Spec PyProof.Rows L2
section
variable {cl : ClA} {cal : Cal}
/-- a comprehension, from its parts -/
def CompC (c : Ck) (X : Cx) (cl : ClA) (cal : Cal) (own : List Nat) (t : T) (it : I) (ifs : List E) (g : G) (gens : List Comprehension) (scope : Scope) (k : Ck → Bool) : Prop :=
  ∃ tg iter ifsE gs, gens = ⟨tg, iter, ifsE, 0⟩ :: gs ∧ k (c.blk scope) = true ∧ ∀ {AR : ARel} {o0 : Addr → HO} {newAcc : Sem Value} {sh0 : Sh} {ev : Em} {e : Expr} {pos : Pos}, clausesOf e = gens → isComp e = true →
      (∀ env, eval e env = comprehension e scope env pos newAcc false (eval iter env) none) → (∀ env u, evalThenUse e env u = (do let _ ← comprehension e scope env pos newAcc false (eval iter env) (some u))) →
      NewOk X newAcc o0 → (∀ p, AR p (sh0, []) [] (o0 p)) → (∀ p, isT (o0 p) = false) → (InBlk X scope fun Y => ∀ p, EmitOk AR Y cl e p ev) →
      CompOk AR o0 X cl cal e scope pos tg iter ifsE gs newAcc sh0 (ownP c own) t it ifs g ev
structure Snd (n : Nat) (cl : ClA) (cal : Cal) : Prop where
  E : ∀ {c : Ck} {X : Cx} {e' : E} {e : Expr}, CxOk c X cl cal → chkE n c e' e = true → SE X cl cal e e'
  Es : ∀ {c : Ck} {X : Cx} {es' : List Mi.E} {es : List Expr}, CxOk c X cl cal → chkEs n c es' es = true → SEs X cl cal es es'
  Ks : ∀ {c : Ck} {X : Cx} {kws : List Keyword} {fs : List Mi.E}, CxOk c X cl cal → chkEs n c fs (kws.map (·.value)) = true → SKs X cl cal kws fs ∧ fs.length = kws.length
  Ps : ∀ {c : Ck} {X : Cx} {es' : List Mi.E} {ks : List (Option Expr)} {vs : List Expr} (pos : Pos), CxOk c X cl cal → chkPs n c es' ks vs = true → PPs X pos ks vs (trsOf X.K cl cal es') ∧ ks.all (·.isSome) = true ∧ ks.length = vs.length ∧ es'.length = 2 * ks.length
  T : ∀ {c : Ck} {X : Cx} {e' : Mi.E} {e : Expr}, CxOk c X cl cal → chkT n c e' e = true → ST X cl cal e e'
  Ts : ∀ {c : Ck} {X : Cx} {es' : List Mi.E} {es : List Expr}, CxOk c X cl cal → chkTs n c es' es = true → STs X cl cal es es'
  I : ∀ {c : Ck} {X : Cx} {tg : Expr} {it : I} {e : Expr}, CxOk c X cl cal → chkI n c tg it e = true → SI X cl cal tg e it
  G : ∀ {c : Ck} {X : Cx} {t : Mi.T} {e : Expr}, CxOk c X cl cal → chkG n c t e = true → SG X cl cal e t
  Gs : ∀ {c : Ck} {X : Cx} {ts : List Mi.T} {es : List Expr}, CxOk c X cl cal → es.all noStar = true → chkGs n c ts es = true → SGs X cl cal es ts ∧ es.length = ts.length
  Q : ∀ {c : Ck} {X : Cx} {g : Mi.G} {gs : List Comprehension}, CxOk c X cl cal → gs.all is0 = true → chkQ n c g gs = true → GsOk X cl cal gs g
  C : ∀ {c : Ck} {X : Cx} {own : List Nat} {t : Mi.T} {it : Mi.I} {ifs : List Mi.E} {g : Mi.G} {gens : List Comprehension} {scope : Scope} {k : Ck → Bool}, CxOk c X cl cal → chkC n c own t it ifs g gens scope k = true → CompC c X cl cal own t it ifs g gens scope k
theorem comp_ok {n : Nat} (S : Snd n cl cal) {c : Ck} {X : Cx} (hX : CxOk c X cl cal) {own : List Nat} {t : T} {it : I} {ifs : List E} {g : G} {gens : List Comprehension} {scope : Scope} {k : Ck → Bool} (h : chkC (n + 1) c own t it ifs g gens scope k = true) :
    CompC c X cl cal own t it ifs g gens scope k := by
  unfold chkC at h
  cases gens with
  | nil => cases h
  | cons q gs =>
    obtain ⟨tg, iter, ifsE, a⟩ := q
    simp only [Bool.and_eq_true] at h
    obtain ⟨h1, h2, h3, h4, h5, h6, h7, h8, h9, h10⟩ := h
    have h0 := is0_ok h1
    have ha : a = 0 := h0 ⟨tg, iter, ifsE, a⟩ (List.mem_cons_self ..)
    subst ha
    refine ⟨tg, iter, ifsE, gs, rfl, h10, fun {AR o0 newAcc sh0 ev e pos} hcl hco e1 e2 hnw hsh hsl hem => ?_⟩
    have hgs : gs.all is0 = true := by rw [List.all_cons, Bool.and_eq_true] at h1; exact h1.2
    exact {
      ev1 := e1
      ev2 := e2
      comp := hco
      cls := hcl
      syn := by rw [hcl]; exact h0
      it := S.I hX h3
      ok := blkOk_by (by rw [hX.N, hX.sc]; exact h2)
      blk := fun s H C cl' fp =>
        have hY := hX.blk scope s H C cl' fp
        ⟨S.G hY h7, S.Ts hY h8, S.Q hY hgs h9, hem s H C cl' fp⟩
      fs := noSet_ok h4 _
      tv := by rw [ownP_map]; exact subN_ok h5
      gv := by rw [ownP_map]; exact subN_ok h6
      nw := hnw
      sh := hsh
      sl := hsl }
end
end Mi
end
section
set_option linter.all false
set_option Elab.async false
set_option maxRecDepth 100000
set_option maxHeartbeats 4000000
/-! Mi27: the checker is sound: the steps. -/
namespace Mi
open PySem PySem.Spec PyProof.Rows L2
section
variable {cl : ClA} {cal : Cal} {n : Nat} {c : Ck} {X : Cx}
theorem chkEs_star : ∀ {n : Nat} {c : Ck} {es' : List E} {es : List Expr}, chkEs n c es' es = true → es.all noStar = true ∧ es'.length = es.length
  | 0, _, _, _, h => by unfold chkEs at h; cases h
  | n + 1, c, [], [], _ => ⟨rfl, rfl⟩
  | n + 1, c, [], _ :: _, h => by unfold chkEs at h; cases h
  | n + 1, c, _ :: _, [], h => by unfold chkEs at h; cases h
  | n + 1, c, a :: as, x :: xs, h => by
    unfold chkEs at h
    simp only [Bool.and_eq_true] at h
    obtain ⟨h1, h2, h3⟩ := h
    obtain ⟨i1, i2⟩ := chkEs_star h3
    exact ⟨by rw [List.all_cons, h1, i1]; rfl, by simp [i2]⟩
theorem sndEs (S : Snd n cl cal) {es' : List E} {es : List Expr} (hX : CxOk c X cl cal) (h : chkEs (n + 1) c es' es = true) : SEs X cl cal es es' := by
  unfold chkEs at h
  cases es' with
  | nil =>
    cases es with
    | nil => exact ses_nil
    | cons _ _ => cases h
  | cons a as =>
    cases es with
    | nil => cases h
    | cons x xs =>
      simp only [Bool.and_eq_true] at h
      obtain ⟨h1, h2, h3⟩ := h
      exact ses_cons (S.E hX h2) (S.Es hX h3) (star1 h1 _ _)
theorem sndPs (S : Snd n cl cal) {es' : List E} {ks : List (Option Expr)} {vs : List Expr} (pos : Pos) (hX : CxOk c X cl cal) (h : chkPs (n + 1) c es' ks vs = true) :
    PPs X pos ks vs (trsOf X.K cl cal es') ∧ ks.all (·.isSome) = true ∧ ks.length = vs.length ∧ es'.length = 2 * ks.length := by
  unfold chkPs at h
  split at h
  · exact ⟨pps_nil, rfl, rfl, rfl⟩
  · simp only [Bool.and_eq_true] at h
    obtain ⟨h1, h2, h3⟩ := h
    obtain ⟨p1, p2, p3, p4⟩ := S.Ps pos hX h3
    exact ⟨pps_cons (S.E hX h1) (S.E hX h2) p1, by rw [List.all_cons, p2]; rfl, by simp [p3], by simp [p4]; omega⟩
  · cases h
theorem sndTs (S : Snd n cl cal) {es' : List E} {es : List Expr} (hX : CxOk c X cl cal) (h : chkTs (n + 1) c es' es = true) : STs X cl cal es es' := by
  unfold chkTs at h
  cases es' with
  | nil =>
    cases es with
    | nil => exact sts_nil
    | cons _ _ => cases h
  | cons a as =>
    cases es with
    | nil => cases h
    | cons x xs =>
      simp only [Bool.and_eq_true] at h
      exact sts_cons (S.T hX h.1) (S.Ts hX h.2)
theorem sndI (S : Snd n cl cal) {tg : Expr} {it : I} {e : Expr} (hX : CxOk c X cl cal) (h : chkI (n + 1) c tg it e = true) : SI X cl cal tg e it := by
  unfold chkI at h
  cases it with
  | seq a => exact si_seq (S.E hX h)
  | rng1 a =>
    simp only at h
    split at h
    · rename_i x p y pos
      simp only [Bool.and_eq_true] at h
      obtain ⟨h1, h2, h3, h4⟩ := h
      have ex := of_decide_eq_true h1
      subst ex
      obtain ⟨g1, g2⟩ := blt_ok hX h2
      exact si_rng1 g1 g2 (ses_cons (S.E hX h4) ses_nil (star1 h3 _ _)) (star1 h3 _ _)
    · cases h
  | rng2 a b =>
    simp only at h
    split at h
    · rename_i x p y z pos
      simp only [Bool.and_eq_true] at h
      obtain ⟨h1, h2, h3, h4, h5, h6⟩ := h
      have ex := of_decide_eq_true h1
      subst ex
      obtain ⟨g1, g2⟩ := blt_ok hX h2
      exact si_rng2 g1 g2 (ses_cons (S.E hX h5) (ses_cons (S.E hX h6) ses_nil (star1 h4 _ _)) (star1 h3 _ _)) (by rw [star1 h3, star1 h4]; rfl) (star1 h4 _ _)
    · cases h
  | enu a =>
    simp only at h
    split at h
    · rename_i elts kk tpos x p y pos
      simp only [Bool.and_eq_true] at h
      obtain ⟨h1, h2, h3, h4⟩ := h
      have ex := of_decide_eq_true h1
      subst ex
      obtain ⟨g1, g2⟩ := blt_ok hX h2
      exact si_enu g1 g2 (S.E hX h4) (star1 h3 _ _)
    · cases h
  | zip a b =>
    simp only at h
    split at h
    · rename_i elts kk tpos x p y z pos
      simp only [Bool.and_eq_true] at h
      obtain ⟨h1, h2, h3, h4, h5, h6⟩ := h
      have ex := of_decide_eq_true h1
      subst ex
      obtain ⟨g1, g2⟩ := blt_ok hX h2
      exact si_zip g1 g2 (S.E hX h5) (S.E hX h6) (by rw [star1 h3, star1 h4]; rfl) (star1 h4 _ _)
    · cases h
theorem assignEach1 {e : Expr} (h : noStar e = true) (es : List Expr) (env : PySem.Env) : assignEach (e :: es) env = (false, assign e env) :: assignEach es env := by
  cases e <;> first | rfl | cases h
theorem assignEach_all {env : PySem.Env} : ∀ {es : List Expr}, es.all noStar = true → (assignEach es env).length = es.length ∧ (assignEach es env).findIdx? (·.1) = none
  | [], _ => ⟨rfl, rfl⟩
  | e :: es, h => by
    rw [List.all_cons, Bool.and_eq_true] at h
    rw [assignEach1 h.1]
    obtain ⟨i1, i2⟩ := assignEach_all (env := env) h.2
    refine ⟨by simp [i1], ?_⟩
    rw [List.findIdx?_cons]
    simp [i2]
theorem assignEach_star {env : PySem.Env} {x : Expr} {p : Pos} : ∀ {es : List Expr}, es.all noStar = true → (assignEach (es ++ [.Starred x p]) env).length = es.length + 1 ∧ (assignEach (es ++ [.Starred x p]) env).findIdx? (·.1) = some es.length
  | [], _ => ⟨rfl, rfl⟩
  | e :: es, h => by
    rw [List.all_cons, Bool.and_eq_true] at h
    rw [List.cons_append, assignEach1 h.1]
    obtain ⟨i1, i2⟩ := assignEach_star (env := env) (x := x) (p := p) h.2
    refine ⟨by simp [i1], ?_⟩
    rw [List.findIdx?_cons]
    simp [i2]
theorem assignEach_last {env : PySem.Env} {x : Expr} {p : Pos} (hx : noStar x = true) : ∀ {es : List Expr}, es.all noStar = true → (assignEach (es ++ [.Starred x p]) env).map (·.2) = (assignEach (es ++ [x]) env).map (·.2)
  | [], _ => by
    show [assign x env] = (assignEach [x] env).map (·.2)
    rw [assignEach1 hx]; rfl
  | e :: es, h => by
    rw [List.all_cons, Bool.and_eq_true] at h
    rw [List.cons_append, List.cons_append, assignEach1 h.1, assignEach1 h.1, List.map_cons, List.map_cons, assignEach_last hx h.2]
theorem sndGs (S : Snd n cl cal) {ts : List T} {es : List Expr} (hX : CxOk c X cl cal) (hs : es.all noStar = true) (h : chkGs (n + 1) c ts es = true) : SGs X cl cal es ts ∧ es.length = ts.length := by
  unfold chkGs at h
  cases ts with
  | nil =>
    cases es with
    | nil => exact ⟨sgs_nil, rfl⟩
    | cons _ _ => cases h
  | cons t ts =>
    cases es with
    | nil => cases h
    | cons e es =>
      simp only [Bool.and_eq_true] at h
      rw [List.all_cons, Bool.and_eq_true] at hs
      obtain ⟨i1, i2⟩ := S.Gs hX hs.2 h.2
      exact ⟨sgs_cons (S.G hX h.1) i1 (by rw [assignEach1 hs.1]; rfl), by simp [i2]⟩
theorem sndG (S : Snd n cl cal) {t : T} {e : Expr} (hX : CxOk c X cl cal) (h : chkG (n + 1) c t e = true) : SG X cl cal e t := by
  unfold chkG at h
  cases t with
  | var i =>
    simp only at h
    split at h
    · simp only [Bool.and_eq_true] at h
      obtain ⟨l1, l2⟩ := loc_ok hX h.2
      exact sg_var (by rw [hX.N]; exact hX.nd) (by rw [hX.N]; exact of_decide_eq_true h.1) l1 l2
    · cases h
  | tup ts =>
    simp only at h
    split at h
    · simp only [Bool.and_eq_true] at h
      obtain ⟨i1, i2⟩ := S.Gs hX h.1 h.2
      obtain ⟨a1, a2⟩ := assignEach_all (env := X.env) h.1
      exact sg_tup hX.calm i1 (a1.trans i2) a2
    · cases h
  | star ts j =>
    simp only at h
    split at h
    · rename_i es kk pos
      split at h
      · rename_i x p hx
        simp only [Bool.and_eq_true] at h
        obtain ⟨h1, h2, h3⟩ := h
        obtain ⟨i1, i2⟩ := S.Gs hX (by rw [List.all_append, h2]; simp [h1]) h3
        have i3 : es.dropLast.length = ts.length := by simpa using i2
        have ee : es = es.dropLast ++ [.Starred x p] := by
          have hne : es ≠ [] := fun z => by rw [z] at hx; cases hx
          have := List.dropLast_concat_getLast hne
          rw [List.getLast?_eq_some_getLast hne] at hx
          rw [Option.some.inj hx] at this
          exact this.symm
        obtain ⟨a1, a2⟩ := assignEach_star (env := X.env) (x := x) (p := p) h2
        rw [ee]
        refine sg_star hX.calm ⟨fun pins s σ H vs us Q I r q => ?_⟩ (by rw [a1, i3]) (by rw [a2, i3])
        rw [assignEach_last h1 h2]
        exact i1.run pins s σ H vs us Q I r q
      · cases h
    · cases h
  | idx a i =>
    simp only at h
    split at h
    · simp only [Bool.and_eq_true] at h
      have hu := hX.un
      exact sg_idx (by omega) (S.E hX h.2.1) (S.E hX h.2.2) (assign_sub _ _ _ _ h.1)
    · cases h
  | fld o f => cases h
theorem sndQ (S : Snd n cl cal) {g : G} {gs : List Comprehension} (hX : CxOk c X cl cal) (h0 : gs.all is0 = true) (h : chkQ (n + 1) c g gs = true) : GsOk X cl cal gs g := by
  unfold chkQ at h
  cases g with
  | nil =>
    cases gs with
    | nil => exact .nil
    | cons _ _ => cases h
  | cons t own it ifs g =>
    cases gs with
    | nil => cases h
    | cons q gs =>
      obtain ⟨tg, iter, ifsE, a⟩ := q
      simp only [Bool.and_eq_true] at h
      obtain ⟨h1, h2, h3, h4, h5, h6, h7⟩ := h
      rw [List.all_cons, Bool.and_eq_true] at h0
      have ha : a = 0 := of_decide_eq_true h0.1
      subst ha
      exact .cons (S.I hX h1) (S.G hX h5) (S.Ts hX h6) (noSet_ok h2 _) (subN_ok h3) (subN_ok h4) (S.Q hX h0.2 h7)
end
end Mi
end
section
set_option linter.all false
set_option Elab.async false
set_option maxRecDepth 100000
set_option maxHeartbeats 4000000
/-! Mi28: the checker is sound: tests, expressions. -/
namespace Mi
open PySem PySem.Spec PyProof.Rows L2
section
variable {cl : ClA} {cal : Cal} {n : Nat} {c : Ck} {X : Cx}
/-- a BoolOp's test of one value -/
theorem st_bool1 {op : BoolOp} {a : Expr} {a' : E} {pos : Pos} (h : ST X cl cal a a') : ST X cl cal (.BoolOp op [a] pos) a' := by
  cases op with
  | And => exact st_of_sw (pw_and1 h)
  | Or => exact st_of_sw (pw_or1 h)
theorem st_and {a b : Expr} {r : List Expr} {a' b' : E} {pos : Pos} (ha : ST X cl cal a a') (hb : ST X cl cal (.BoolOp .And (b :: r) pos) b') : ST X cl cal (.BoolOp .And (a :: b :: r) pos) (.and a' b') :=
  st_of_sw (sw_and ha ⟨fun wh pins s σ H Q I q => hb.run pins s σ H Q I q⟩)
theorem st_or {a b : Expr} {r : List Expr} {a' b' : E} {pos : Pos} (ha : ST X cl cal a a') (hb : ST X cl cal (.BoolOp .Or (b :: r) pos) b') : ST X cl cal (.BoolOp .Or (a :: b :: r) pos) (.or a' b') :=
  st_of_sw (sw_or ha ⟨fun wh pins s σ H Q I q => hb.run pins s σ H Q I q⟩)
theorem sndT (S : Snd n cl cal) {e' : E} {e : Expr} (hX : CxOk c X cl cal) (h : chkT (n + 1) c e' e = true) : ST X cl cal e e' := by
  unfold chkT at h
  split at h
  · exact st_bool1 (S.T hX h)
  · split at h
    · simp only [Bool.and_eq_true] at h
      exact st_and (S.T hX h.1) (S.T hX h.2)
    · cases h
  · split at h
    · simp only [Bool.and_eq_true] at h
      exact st_or (S.T hX h.1) (S.T hX h.2)
    · cases h
  · split at h
    · exact st_not (S.T hX h)
    · cases h
  · split at h
    · simp only [Bool.and_eq_true] at h
      exact st_ite (S.T hX h.1) (S.T hX h.2.1) (S.T hX h.2.2)
    · cases h
  · split at h
    · rename_i no a
      simp only [Bool.and_eq_true] at h
      cases no with
      | false => exact st_isN (S.E hX h.2)
      | true => cases h.1
    · cases h
  · split at h
    · rename_i no a
      simp only [Bool.and_eq_true] at h
      cases no with
      | true => exact st_isNot (S.E hX h.2)
      | false => cases h.1
    · cases h
  · split at h
    · simp only [Bool.and_eq_true] at h
      obtain ⟨r, o1, o2⟩ := cm_any (X := X) (cl := cl) hX.un h.1
      exact st_cmp o1 o2 (noMark h.2.1 _) (S.E hX h.2.2.1) (S.E hX h.2.2.2)
    · cases h
  · split at h
    · simp only [Bool.and_eq_true] at h
      obtain ⟨h1, h2, h3, h4, h5, h6⟩ := h
      obtain ⟨r, o1, o2⟩ := cm_any (X := X) (cl := cl) hX.un h1
      obtain ⟨r', o3, o4⟩ := cm_any (X := X) (cl := cl) hX.un h2
      exact st_chain o1 o3 o2 o4 h3 (S.E hX h4) (S.E hX h5) (S.E hX h6)
    · cases h
  · simp only [Bool.and_eq_true] at h
    exact st_val (S.E hX h.2) (byVal_ok h.1 _)
end
end Mi
end
section
set_option linter.all false
set_option Elab.async false
set_option maxRecDepth 100000
set_option maxHeartbeats 8000000
/-! Mi29: the checker is sound: expressions. -/
namespace Mi
open PySem PySem.Spec PyProof.Rows L2
section
variable {cl : ClA} {cal : Cal} {n : Nat} {c : Ck} {X : Cx}
theorem nd_ok (hX : CxOk c X cl cal) : X.N.Nodup := by rw [hX.N]; exact hX.nd
/-- what a list comprehension's parts give -/
theorem lc_ok (S : Snd n cl cal) {a : E} {own : List Nat} {t : T} {it : I} {ifs : List E} {g : G} {elt : Expr} {gens : List Comprehension} {scope : Scope} {pos : Pos} (hX : CxOk c X cl cal) (h : CompC c X cl cal own t it ifs g gens scope (fun k => chkE n k a elt)) :
    ∃ tg iter ifsE gs, CompOk arL (fun _ => .lst []) X cl cal (.ListComp elt gens scope pos) scope (firstIterPos gens pos) tg iter ifsE gs (newList []) .lst (ownP c own) t it ifs g (fun ρ acc m => (evE cal a ρ m).bind fun x => (putL acc x.1).bind fun acc => .ok (acc, x.2)) := by
  obtain ⟨tg, iter, ifsE, gs, rfl, hk, mk⟩ := h
  exact ⟨tg, iter, ifsE, gs, mk rfl rfl (fun _ => rfl) (fun _ _ => rfl) new_list (fun p => ⟨rfl, rfl⟩) (fun p => rfl) (fun s H C cl' fp p => emit_list rfl (S.E (hX.blk scope s H C cl' fp) hk) p)⟩
theorem dc_ok (S : Snd n cl cal) {a b : E} {own : List Nat} {t : T} {it : I} {ifs : List E} {g : G} {kx vx : Expr} {gens : List Comprehension} {scope : Scope} {pos : Pos} (hX : CxOk c X cl cal) (h : CompC c X cl cal own t it ifs g gens scope (fun k => chkE n k a kx && chkE n k b vx)) :
    ∃ tg iter ifsE gs, CompOk arK (fun _ => .dK []) X cl cal (.DictComp kx vx gens scope pos) scope (firstIterPos gens pos) tg iter ifsE gs newDict (.dK []) (ownP c own) t it ifs g (fun ρ acc m => (evE cal a ρ m).bind fun x => (evE cal b ρ x.2).bind fun y => (putC acc x.1 y.1).bind fun acc => .ok (acc, y.2)) := by
  obtain ⟨tg, iter, ifsE, gs, rfl, hk, mk⟩ := h
  rw [Bool.and_eq_true] at hk
  exact ⟨tg, iter, ifsE, gs, mk rfl rfl (fun _ => rfl) (fun _ _ => rfl) new_dict (fun p => ⟨[], rfl, rfl, rfl⟩) (fun p => rfl) (fun s H C cl' fp p => emit_dict rfl (S.E (hX.blk scope s H C cl' fp) hk.1) (S.E (hX.blk scope s H C cl' fp) hk.2) p)⟩
theorem sc_ok (S : Snd n cl cal) {a : E} {own : List Nat} {t : T} {it : I} {ifs : List E} {g : G} {elt : Expr} {gens : List Comprehension} {scope : Scope} {pos : Pos} (hX : CxOk c X cl cal) (h : CompC c X cl cal own t it ifs g gens scope (fun k => chkE n k a elt)) :
    ∃ tg iter ifsE gs, CompOk (arS X.prog X.w) (fun p => SetK X.prog X.w p (fun _ => false) 0) X cl cal (.SetComp elt gens scope pos) scope (firstIterPos gens pos) tg iter ifsE gs (newSet (.type "set")) .lst (ownP c own) t it ifs g (fun ρ acc m => (evE cal a ρ m).bind fun x => (putS acc x.1).bind fun acc => .ok (acc, x.2)) := by
  obtain ⟨tg, iter, ifsE, gs, rfl, hk, mk⟩ := h
  exact ⟨tg, iter, ifsE, gs, mk rfl rfl (fun _ => rfl) (fun _ _ => rfl) new_set (fun p => ⟨rfl, by decide, rfl⟩) (fun p => rfl) (fun s H C cl' fp p => emit_set rfl (S.E (hX.blk scope s H C cl' fp) hk) p)⟩
theorem ev_lc {fr : Bool} {a : E} {own : List Nat} {t : T} {it : I} {ifs : List E} {g : G} (c : Ck) : ∀ ρ m, evE cal (.lc fr a own t it ifs g) ρ m = evC cal .lst (ownP c own) t it ifs g (fun ρ acc m => (evE cal a ρ m).bind fun x => (putL acc x.1).bind fun acc => .ok (acc, x.2)) fr ρ m := by
  intro ρ m
  unfold evC
  rw [ownP_map]
  conv => lhs; rw [evE]
  rfl
theorem ev_dc {fr : Bool} {a b : E} {own : List Nat} {t : T} {it : I} {ifs : List E} {g : G} (c : Ck) : ∀ ρ m, evE cal (.dc fr false a b own t it ifs g) ρ m = evC cal (.dK []) (ownP c own) t it ifs g (fun ρ acc m => (evE cal a ρ m).bind fun x => (evE cal b ρ x.2).bind fun y => (putC acc x.1 y.1).bind fun acc => .ok (acc, y.2)) fr ρ m := by
  intro ρ m
  unfold evC
  rw [ownP_map]
  conv => lhs; rw [evE]
  rfl
theorem ev_sc {a : E} {own : List Nat} {t : T} {it : I} {ifs : List E} {g : G} (c : Ck) : ∀ ρ m, evE cal (.sc a own t it ifs g) ρ m = (evI cal it ρ m).bind fun s => (goSrc (turnF cal t ifs ((ownP c own).map (·.2)) ρ (evG cal g (fun ρ acc m => (evE cal a ρ m).bind fun x => (putS acc x.1).bind fun acc => .ok (acc, x.2)))) s.1 (.lst, []) s.2).bind fun r => .ok (lstD r.1.2, r.2) := by
  intro ρ m
  rw [ownP_map]
  conv => lhs; rw [evE]
  rfl
end
end Mi
end
section
set_option linter.all false
set_option Elab.async false
set_option maxRecDepth 100000
set_option maxHeartbeats 8000000
/-! Mi30: the checker is sound: expressions. -/
namespace Mi
open PySem PySem.Spec PyProof.Rows L2
section
variable {cl : ClA} {cal : Cal} {n : Nat} {c : Ck} {X : Cx}
theorem all2 {x : Expr} {xs : List Expr} (h : (x :: xs).all noStar = true) : noStar x = true ∧ xs.all noStar = true := by
  rw [List.all_cons, Bool.and_eq_true] at h; exact h
theorem csts_ok : ∀ {ds : List D} {es : List E}, ckCsts ds es = true → es = ds.map .cst
  | [], [], _ => rfl
  | [], _ :: _, h => by unfold ckCsts at h; cases h
  | _ :: _, [], h => by unfold ckCsts at h; cases h
  | d :: ds, e :: es, h => by
    cases e with
    | cst d' =>
      unfold ckCsts at h
      rw [Bool.and_eq_true] at h
      rw [List.map_cons, sameD_eq h.1, ← csts_ok h.2]
    | _ => unfold ckCsts at h; cases h
theorem sndKs (S : Snd n cl cal) (hX : CxOk c X cl cal) {kws : List Keyword} {fs : List E} (h : chkEs (n + 1) c fs (kws.map (·.value)) = true) : SKs X cl cal kws fs ∧ fs.length = kws.length := by
  unfold chkEs at h
  cases fs with
  | nil =>
    cases kws with
    | nil => exact ⟨sks_nil, rfl⟩
    | cons _ _ => cases h
  | cons a as =>
    cases kws with
    | nil => cases h
    | cons k kws =>
      obtain ⟨nm, v, kp⟩ := k
      rw [List.map_cons] at h
      simp only [Bool.and_eq_true] at h
      obtain ⟨h1, h2, h3⟩ := h
      obtain ⟨i1, i2⟩ := S.Ks hX h3
      exact ⟨sks_cons (S.E hX h2) i1, by simp [i2]⟩
/-- calls of defs, with keywords or not -/
theorem call_okS (S : Snd n cl cal) (hX : CxOk c X cl cal) {g x : Str} {es : List E} {xs : List Expr} {kws : List Keyword} {p pos : Pos} (h : (match fkB c x g, xs, kws with
          | none, xs, [] => fnB c x g && (xs.all noStar && chkEs n c es xs)
          | some (ks, ds), y :: ys, [] => chkEs n c (es.take (ys.length + 1)) (y :: ys) && ckCsts ds (es.drop (ys.length + 1))
          | some (ks, ds), y :: ys, kws => decide (kws.map (·.arg) = ks.map some) && (chkEs n c (es.take (ys.length + 1)) (y :: ys) && chkEs n c (es.drop (ys.length + 1)) (kws.map (·.value)))
          | _, _, _ => false) = true) : SE X cl cal (.Call (.Name x p) xs kws pos) (.call g es) ∧ ∀ b, SE X cl cal (.Call (.Name x p) xs kws pos) (.pcall b g es) := by
  split at h
  · rename_i xs _ _ _ _
    simp only [Bool.and_eq_true] at h
    obtain ⟨h1, h2, h3⟩ := h
    have hf := fn_ok hX h1
    cases xs with
    | nil =>
      have e : es = [] := by
        have := (chkEs_star h3).2
        exact List.length_eq_zero_iff.mp this
      subst e
      exact ⟨se_call0 hf, fun b => se_pcall0 hf⟩
    | cons y ys => exact ⟨se_call hf (S.Es hX h3) (star1 (all2 h2).1 _ _) (starN (all2 h2).2), fun b => se_pcall hf (S.Es hX h3) (star1 (all2 h2).1 _ _) (starN (all2 h2).2)⟩
  · rename_i ks ds y ys hk
    simp only [Bool.and_eq_true] at h
    obtain ⟨hK, hg, hd⟩ := fk_ok hX hk
    have hst := (chkEs_star h.1).1
    have e : es = es.take (ys.length + 1) ++ ds.map .cst := by rw [← csts_ok h.2, List.take_append_drop]
    rw [e]
    exact ⟨se_callD hK hg hd (S.Es hX h.1) (star1 (all2 hst).1 _ _) (starN (all2 hst).2), fun b => se_pcallD hK hg hd (S.Es hX h.1) (star1 (all2 hst).1 _ _) (starN (all2 hst).2)⟩
  · rename_i ks ds y ys hk hne
    simp only [Bool.and_eq_true] at h
    obtain ⟨h1, h2, h3⟩ := h
    have h1 := of_decide_eq_true h1
    obtain ⟨hK, hg, hd⟩ := fk_ok hX hk
    have hst := (chkEs_star h2).1
    obtain ⟨k1, k2⟩ := S.Ks hX h3
    have kl : (es.drop (ys.length + 1)).length = ks.length := by rw [k2]; simpa using congrArg List.length h1
    have e : es = es.take (ys.length + 1) ++ es.drop (ys.length + 1) := (List.take_append_drop ..).symm
    rw [e]
    exact ⟨se_callK hK hg hd (S.Es hX h2) k1 hst h1 kl, fun b => se_pcallK hK hg hd (S.Es hX h2) k1 hst h1 kl⟩
  · cases h
theorem nodup_zip {ks : List Str} {vs : List V} (h : ks.Nodup) {k : Str} {v v' : V} (h1 : (k, v) ∈ ks.zip vs) (h2 : (k, v') ∈ ks.zip vs) : v = v' := by
  induction ks generalizing vs with
  | nil => simp at h1
  | cons a ks ih =>
    cases vs with
    | nil => simp at h1
    | cons w vs =>
      rw [List.zip_cons_cons] at h1 h2
      rw [List.nodup_cons] at h
      rcases List.mem_cons.mp h1 with e1 | e1
      · rcases List.mem_cons.mp h2 with e2 | e2
        · cases e1; cases e2; rfl
        · cases e1; exact absurd (List.of_mem_zip e2).1 h.1
      · rcases List.mem_cons.mp h2 with e2 | e2
        · cases e2; exact absurd (List.of_mem_zip e1).1 h.1
        · exact ih h.2 e1 e2
theorem sndE (S : Snd n cl cal) {e' : E} {e : Expr} (hX : CxOk c X cl cal) (h : chkE (n + 1) c e' e = true) : SE X cl cal e e' := by
  have hu := hX.un
  unfold chkE at h
  split at h
  · exact se_bool1 (S.E hX h)
  · cases e' with
    | var i => exact var_ok hX h
    | cst d => exact cst_ok hX h
    | bin o a b =>
      simp only at h
      split at h
      · simp only [Bool.and_eq_true] at h
        obtain ⟨r, o1, o2⟩ := op_any (X := X) (cl := cl) h.1
        exact se_bin o1 o2 (S.E hX h.2.1) (S.E hX h.2.2)
      · cases h
    | neg a =>
      simp only at h
      split at h
      · exact se_neg (S.E hX h)
      · cases h
    | cat a b =>
      simp only at h
      split at h
      · simp only [Bool.and_eq_true] at h
        exact se_cat (S.E hX h.1) (S.E hX h.2)
      · cases h
    | cmp o a b =>
      simp only at h
      split at h
      · simp only [Bool.and_eq_true] at h
        obtain ⟨r, o1, o2⟩ := cm_any (X := X) (cl := cl) hX.un h.1
        exact se_cmp o1 o2 (noMark h.2.1 _) (S.E hX h.2.2.1) (S.E hX h.2.2.2)
      · cases h
    | chain o1 o2 a b d =>
      simp only at h
      split at h
      · simp only [Bool.and_eq_true] at h
        obtain ⟨h1, h2, h3, h4, h5, h6⟩ := h
        obtain ⟨r, p1, p2⟩ := cm_any (X := X) (cl := cl) hX.un h1
        obtain ⟨r', p3, p4⟩ := cm_any (X := X) (cl := cl) hX.un h2
        exact se_chain' p1 p3 p2 p4 h3 (S.E hX h4) (S.E hX h5) (S.E hX h6)
      · cases h
    | isN no a =>
      simp only at h
      split at h
      · simp only [Bool.and_eq_true] at h
        cases no with
        | false => exact se_isN (S.E hX h.2)
        | true => cases h.1
      · simp only [Bool.and_eq_true] at h
        cases no with
        | true => exact se_isNot (S.E hX h.2)
        | false => cases h.1
      · cases h
    | and a b =>
      simp only at h
      split at h
      · simp only [Bool.and_eq_true] at h
        exact se_and (S.E hX h.1) (S.E hX h.2)
      · cases h
    | or a b =>
      simp only at h
      split at h
      · simp only [Bool.and_eq_true] at h
        exact se_or (S.E hX h.1) (S.E hX h.2)
      · cases h
    | not a =>
      simp only at h
      split at h
      · exact se_not (S.E hX h)
      · cases h
    | ite t a b =>
      simp only at h
      split at h
      · simp only [Bool.and_eq_true] at h
        exact se_ite (S.T hX h.1) (S.E hX h.2.1) (S.E hX h.2.2)
      · cases h
    | tup es =>
      simp only at h
      split at h
      · simp only [Bool.and_eq_true] at h
        exact se_tup (S.Es hX h.2) (of_decide_eq_true h.1)
      · cases h
    | lst fr es =>
      simp only at h
      split at h
      · simp only [Bool.and_eq_true] at h
        exact se_lst (S.Es hX h.2) (of_decide_eq_true h.1)
      · cases h
    | dct fr tk es =>
      simp only at h
      split at h
      · rename_i ks vs pos _
        simp only [Bool.and_eq_true] at h
        obtain ⟨h1, h2, h3⟩ := h
        have h2 := of_decide_eq_true h2
        cases tk with
        | true => cases h1
        | false =>
          obtain ⟨p1, p2, p3, p4⟩ := S.Ps pos hX h3
          cases ks with
          | nil =>
            have e1 : es = [] := List.length_eq_zero_iff.mp p4
            have e2 : vs = [] := List.length_eq_zero_iff.mp p3.symm
            subst e1 e2
            exact se_dct0
          | cons k ks => exact se_dct p1 p2 p3 (by simp) (by omega) (by omega) h2
      · cases h
    | idx a i =>
      simp only at h
      split at h
      · simp only [Bool.and_eq_true] at h
        exact se_idx (by omega) (S.E hX h.2.1) (S.E hX h.2.2) (noSlc_ok h.1)
      · cases h
    | slcL a i =>
      simp only at h
      split at h
      · simp only [Bool.and_eq_true] at h
        exact se_slcL (S.E hX h.1) (S.E hX h.2)
      · cases h
    | slcU a i =>
      simp only at h
      split at h
      · simp only [Bool.and_eq_true] at h
        exact se_slcU (S.E hX h.1) (S.E hX h.2)
      · cases h
    | slcB a i j =>
      simp only at h
      split at h
      · simp only [Bool.and_eq_true] at h
        exact se_slcB (S.E hX h.1) (S.E hX h.2.1) (S.E hX h.2.2)
      · cases h
    | fld a f =>
      simp only at h
      split at h
      · simp only [Bool.and_eq_true] at h
        obtain ⟨h1, h2, h3, h4⟩ := h
        have e1 := of_decide_eq_true h1
        subst e1
        exact se_fld hX.co (of_decide_eq_true h2) (S.E hX h4) (noSup_ok h3 _ _)
      · cases h
    | call g es =>
      simp only at h
      split at h
      · exact (call_okS S hX h).1
      · cases h
    | pcall b g es =>
      simp only at h
      split at h
      · exact (call_okS S hX h).2 b
      · cases h
    | meth o q es =>
      simp only at h
      split at h
      · rename_i x q' apos xs pos _
        simp only [Bool.and_eq_true] at h
        obtain ⟨h1, h2, h3, h4, h5, h6, h7⟩ := h
        have e1 := of_decide_eq_true h1
        subst e1
        have h4 := of_decide_eq_true h4
        have ht := methTree_ok (q := q') h2 h3 h4 h5 X.env
        cases xs with
        | nil =>
          have e : es = [] := List.length_eq_zero_iff.mp (chkEs_star h7).2
          subst e
          exact se_meth0 (mt_ok hX q') (S.E hX h6) ht
        | cons y ys => exact se_meth (mt_ok hX q') (S.E hX h6) (S.Es hX h7) (star1 (all2 h3).1 _ _) (starN (all2 h3).2) ht
      · cases h
    | pmeth b o q es =>
      simp only at h
      split at h
      · rename_i x q' apos xs pos _
        simp only [Bool.and_eq_true] at h
        obtain ⟨h1, h2, h3, h4, h5, h6, h7⟩ := h
        have e1 := of_decide_eq_true h1
        subst e1
        have h4 := of_decide_eq_true h4
        have ht := methTree_ok (q := q') h2 h3 h4 h5 X.env
        cases xs with
        | nil =>
          have e : es = [] := List.length_eq_zero_iff.mp (chkEs_star h7).2
          subst e
          exact se_pmeth0 (mt_ok hX q') (S.E hX h6) ht
        | cons y ys => exact se_pmeth (mt_ok hX q') (S.E hX h6) (S.Es hX h7) (star1 (all2 h3).1 _ _) (starN (all2 h3).2) ht
      · cases h
    | bi b fr es =>
      simp only at h
      split at h
      · split at h
        · split at h
          · simp only [Bool.and_eq_true] at h
            obtain ⟨h1, h2, h3, h4, h5, h6⟩ := h
            have e1 := of_decide_eq_true h1
            have e2 := of_decide_eq_true h2
            subst e1 e2
            obtain ⟨g1, g2⟩ := blt_ok hX h3
            obtain ⟨g3, g4⟩ := blt_ok hX h4
            exact se_sortSet hX.calm g1 g2 g3 g4 (S.E hX h6) (star1 h5 _ _)
          · cases h
        · split at h
          · simp only [Bool.and_eq_true] at h
            obtain ⟨h1, h2, h3, h4⟩ := h
            have e1 := of_decide_eq_true h1
            have e2 := of_decide_eq_true h2
            subst e1 e2
            obtain ⟨g1, g2⟩ := blt_ok hX h3
            obtain ⟨tg, iter, ifsE, gs, hC⟩ := sc_ok S (pos := _) hX (S.C hX h4)
            exact se_lenSc (p2 := ⟨0, 0, 0, 0⟩) hX.calm (nd_ok hX) g1 g2 hC (ev_sc c) rfl
          · simp only [Bool.and_eq_true] at h
            obtain ⟨h1, h2, h3, h4, h5⟩ := h
            have e2 := of_decide_eq_true h2
            subst e2
            obtain ⟨g1, g2⟩ := blt_ok hX h3
            exact se_bi hX.calm hX.un h1 g1 g2 (S.Es hX h5) (star1 (all2 h4).1 _ _) (starN (all2 h4).2)
          · cases h
      · cases h
    | mt q o es =>
      simp only at h
      split at h
      · simp only [Bool.and_eq_true] at h
        obtain ⟨h1, h2, h3, h4, h5⟩ := h
        have e1 := of_decide_eq_true h1
        subst e1
        split at h5
        · simp only [Bool.and_eq_true] at h5
          split at h5
          · exact se_mtB h5.1 (S.E hX h4) h2 h3
          · cases h5.2
        · simp only [Bool.and_eq_true] at h5
          obtain ⟨k1, k2, k3, k4⟩ := h5
          exact se_mtA hX.un k1 (S.E hX h4) (S.Es hX k4) h2 k2 (of_decide_eq_true k3) h3
      · cases h
    | isi a ks =>
      simp only at h
      split at h
      · simp only [Bool.and_eq_true] at h
        obtain ⟨h1, h2, h3, h4, h5⟩ := h
        have e1 := of_decide_eq_true h1
        subst e1
        obtain ⟨g1, g2⟩ := blt_ok hX h2
        split at h5
        · simp only [Bool.and_eq_true] at h5
          obtain ⟨k1, k2, k3⟩ := h5
          obtain ⟨t1, t2⟩ := tys_ok hX k3
          exact se_isiT (of_decide_eq_true k1) (of_decide_eq_true k2) t1 g1 g2 (S.E hX h4) (star1 h3 _ _) rfl rfl
        · split at h5
          · rename_i y z pos _ _ _ _ k
            cases z with
            | Name nm pn =>
              unfold ckTys at h5
              simp only [Bool.and_eq_true] at h5
              obtain ⟨k1, k2, _⟩ := h5
              have ex := of_decide_eq_true k1
              subst ex
              obtain ⟨g3, g4⟩ := blt_ok hX k2
              have pk : PE X (.Name (Str.ofString (kdS k)) pn) (tC (.ty (kdS k))) := by
                cases k <;> exact pe_bltn g3 g4 rfl rfl (by decide) rfl
              exact se_isi1 pk g1 g2 (S.E hX h4) (star1 h3 _ _) rfl rfl
            | _ => unfold ckTys at h5; cases h5
          · cases h5
      · cases h
    | kg ks ds a b =>
      simp only at h
      split at h
      · rename_i x p nm apos y z cpos _
        simp only [Bool.and_eq_true] at h
        obtain ⟨h1, h2, h3, h4, h5, h6, h7, h8⟩ := h
        have e1 := of_decide_eq_true h1
        subst e1
        obtain ⟨g1, g2⟩ := gl_ok hX h3
        split at h4
        · rename_i ks' ds' hl
          simp only [Bool.and_eq_true] at h4
          have e2 := of_decide_eq_true h4.1
          have e3 := sameDs_eq h4.2
          subst e2 e3
          obtain ⟨d, vs, m1, m2, m3, m4⟩ := hX.g.tab x _ _ hl
          refine se_kget m2 m4 (fun d v v' k _ i1 i2 => nodup_zip m3 i1 i2) (pe_glob g1 m1 rfl g2) (S.E hX h7) (S.E hX h8) ⟨noSup_ok (by rfl) _ _, few_ok (e := y) (es := [z]) (by simp [h5, h6]) (by simp), h2, ?_⟩
          rw [star1 h5, star1 h6]
          rfl
        · cases h4
      · cases h
    | lc fr a own t it ifs g =>
      simp only at h
      split at h
      · obtain ⟨tg, iter, ifsE, gs, hC⟩ := lc_ok S (pos := _) hX (S.C hX h)
        exact se_comp arL_sh hX.calm (nd_ok hX) hC (ev_lc c)
      · cases h
    | dc fr tk a b own t it ifs g =>
      simp only at h
      split at h
      · simp only [Bool.and_eq_true] at h
        cases tk with
        | true => cases h.1
        | false =>
          obtain ⟨tg, iter, ifsE, gs, hC⟩ := dc_ok S (pos := _) hX (S.C hX h.2)
          exact se_comp arK_sh hX.calm (nd_ok hX) hC (ev_dc c)
      · cases h
    | sc _ _ _ _ _ _ => cases h
end
end Mi
end
section
set_option linter.all false
set_option Elab.async false
set_option maxRecDepth 100000
set_option maxHeartbeats 8000000
/-! Mi31: the checker is sound: all levels; stores. -/
namespace Mi
open PySem PySem.Spec PyProof.Rows L2
section
variable {cl : ClA} {cal : Cal} {c : Ck} {X : Cx}
theorem snd_all : ∀ n : Nat, Snd n cl cal
  | 0 => {
      E := fun _ h => by unfold chkE at h; cases h
      Es := fun _ h => by unfold chkEs at h; cases h
      Ks := fun _ h => by unfold chkEs at h; cases h
      Ps := fun _ _ h => by unfold chkPs at h; cases h
      T := fun _ h => by unfold chkT at h; cases h
      Ts := fun _ h => by unfold chkTs at h; cases h
      I := fun _ h => by unfold chkI at h; cases h
      G := fun _ h => by unfold chkG at h; cases h
      Gs := fun _ _ h => by unfold chkGs at h; cases h
      Q := fun _ _ h => by unfold chkQ at h; cases h
      C := fun _ h => by unfold chkC at h; cases h }
  | n + 1 =>
    have S := snd_all n
    { E := fun hX h => sndE S hX h
      Es := fun hX h => sndEs S hX h
      Ks := fun hX h => sndKs S hX h
      Ps := fun pos hX h => sndPs S pos hX h
      T := fun hX h => sndT S hX h
      Ts := fun hX h => sndTs S hX h
      I := fun hX h => sndI S hX h
      G := fun hX h => sndG S hX h
      Gs := fun hX h1 h => sndGs S hX h1 h
      Q := fun hX h1 h => sndQ S hX h1 h
      C := fun hX h => comp_ok S hX h }
/-- a def's own block -/
theorem bk_ok (hX : CxOk c X cl cal) (hk : c.sc.kind = .function) : X.env.blockKind = .function := by
  unfold Env.blockKind
  rw [hX.sc, hk]
  rfl
theorem kind_ok (hX : CxOk c X cl cal) (x : Str) : (X.env.kindOf x == some NameKind.local) = isLocal c x := by
  unfold Env.kindOf isLocal
  rw [hX.sc]
  cases h : c.sc.names.lookup x with
  | none => rfl
  | some k => cases k <;> rfl
theorem sw_lc (hX : CxOk c X cl cal) (hk : c.sc.kind = .function) {x : Str} {px p : Pos} {elt : Expr} {gens : List Comprehension} {s : Scope} (l : Nat) : swapsWith (.ListComp elt gens s p) (some (.Name x px)) l X.env = pure (swB c x px (.ListComp elt gens s p)) := by
  have e : swapsWith (.ListComp elt gens s p) (some (.Name x px)) l X.env = pure (X.env.blockKind == .function && X.env.kindOf x == some .local && px.line == p.line && !(s.names.any fun (n, k) => n == x && (k == .local || k == .cell))) := rfl
  rw [e, bk_ok hX hk, kind_ok hX]
  show pure (true && isLocal c x && px.line == p.line && _) = _
  rw [Bool.true_and, Bool.and_assoc]
  rfl
theorem sw_dc (hX : CxOk c X cl cal) (hk : c.sc.kind = .function) {x : Str} {px p : Pos} {elt elt2 : Expr} {gens : List Comprehension} {s : Scope} (l : Nat) : swapsWith (.DictComp elt elt2 gens s p) (some (.Name x px)) l X.env = pure (swB c x px (.DictComp elt elt2 gens s p)) := by
  have e : swapsWith (.DictComp elt elt2 gens s p) (some (.Name x px)) l X.env = pure (X.env.blockKind == .function && X.env.kindOf x == some .local && px.line == p.line && !(s.names.any fun (n, k) => n == x && (k == .local || k == .cell))) := rfl
  rw [e, bk_ok hX hk, kind_ok hX]
  show pure (true && isLocal c x && px.line == p.line && _) = _
  rw [Bool.true_and, Bool.and_assoc]
  rfl
/-- a name's store -/
theorem set_ok (hX : CxOk c X cl cal) (hk : c.sc.kind = .function) {n i : Nat} {x : Str} {px pos : Pos} {e : Expr} {e' : E} (h1 : c.N[i]? = some x) (h2 : locB c x = true) (h3 : chkE n c e' e = true) (h4 : (noComp e || isComp' e) = true) : SS X cl cal (.Assign [.Name x px] e pos) (.asg (.var i) e') := by
  obtain ⟨l1, l2⟩ := loc_ok hX h2
  have hN := nd_ok hX
  have hi : X.N[i]? = some x := by rw [hX.N]; exact h1
  have he := (snd_all (cl := cl) (cal := cal) n).E hX h3
  have slow : swapsWith e (some (.Name x px)) pos.line X.env = pure false → SS X cl cal (.Assign [.Name x px] e pos) (.asg (.var i) e') := fun hs => ss_set hN hi l1 he hs l2
  cases hc : noComp e with
  | true => exact slow (noComp_ok hc _ _ _)
  | false =>
    rw [hc, Bool.false_or] at h4
    cases e with
    | ListComp elt gens s p =>
      cases hb : swB c x px (.ListComp elt gens s p) with
      | false => exact slow (by rw [sw_lc hX hk, hb])
      | true =>
        have hyl : X.env.scope.names.lookup x = some .local := by
          unfold swB at hb
          rw [Bool.and_eq_true] at hb
          exact local_ok hX hb.1
        cases n with
        | zero => unfold chkE at h3; cases h3
        | succ n =>
          unfold chkE at h3
          cases e' with
          | lc fr a own t it ifs g =>
            obtain ⟨tg, iter, ifsE, gs, hC⟩ := lc_ok (snd_all n) (pos := p) hX ((snd_all (cl := cl) (cal := cal) n).C hX h3)
            exact ss_setComp arL_sh hX.calm hN hi hyl (by rw [sw_lc hX hk, hb]) hC (ev_lc c)
          | _ => cases h3
    | DictComp kx vx gens s p =>
      cases hb : swB c x px (.DictComp kx vx gens s p) with
      | false => exact slow (by rw [sw_dc hX hk, hb])
      | true =>
        have hyl : X.env.scope.names.lookup x = some .local := by
          unfold swB at hb
          rw [Bool.and_eq_true] at hb
          exact local_ok hX hb.1
        cases n with
        | zero => unfold chkE at h3; cases h3
        | succ n =>
          unfold chkE at h3
          cases e' with
          | dc fr tk a b own t it ifs g =>
            simp only [Bool.and_eq_true] at h3
            cases tk with
            | true => cases h3.1
            | false =>
              obtain ⟨tg, iter, ifsE, gs, hC⟩ := dc_ok (snd_all n) (pos := p) hX ((snd_all (cl := cl) (cal := cal) n).C hX h3.2)
              exact ss_setComp arK_sh hX.calm hN hi hyl (by rw [sw_dc hX hk, hb]) hC (ev_dc c)
          | _ => cases h3
    | _ => cases h4
def stB : Expr → Bool
  | .Starred .. => true
  | _ => false
theorem stB_no {e : Expr} (h : noStar e = true) : stB e = false := by cases e <;> first | rfl | cases h
def nmOf (env : PySem.Env) (line : Nat) : Expr → Option Str
  | .Name id pos => if env.kindOf id == some .local && pos.line == line then some id else none
  | _ => none
theorem swS_eq (ts vs : List Expr) (kt pt k2 pt2) (env : PySem.Env) : swappedStores [.Tuple ts kt pt] (.Tuple vs k2 pt2) env = (if !(ts.length == 2 || ts.length == 3) || vs.length != ts.length || env.blockKind != .function then pure none else
    if vs.any stB then pure none else
    if (ts.filterMap (nmOf env ((ts.head?.map (·.pos.line)).getD 0))).length != ts.length || (ts.filterMap (nmOf env ((ts.head?.map (·.pos.line)).getD 0))).eraseDups.length != (ts.filterMap (nmOf env ((ts.head?.map (·.pos.line)).getD 0))).length then pure none else
    if vs.all (foldedForSure 8) then pure none else
    if vs.all (constantsAlone 8) then (do (unsupported "assign.tuple-of-constant-expressions:order-of-the-stores" : Sem Unit); pure (some (ts.filterMap (nmOf env ((ts.head?.map (·.pos.line)).getD 0))))) else pure (some (ts.filterMap (nmOf env ((ts.head?.map (·.pos.line)).getD 0))))) := rfl
theorem nm_ok (hX : CxOk c X cl cal) {x : Str} {p : Pos} {l : Nat} (h1 : isLocal c x = true) (h : (p.line == l) = true) : nmOf X.env l (.Name x p) = some x := by
  show (if X.env.kindOf x == some .local && p.line == l then some x else none) = some x
  rw [kind_ok hX, h1, h]
  rfl
theorem swp2 (hX : CxOk c X cl cal) (hk : c.sc.kind = .function) {x y : Str} {px py pt : Pos} {kt k2 pt2} {u v : Expr} (h1 : isLocal c x = true) (h2 : isLocal c y = true) (h3 : x ≠ y) (h4 : (py.line == px.line) = true) (h5 : noStar u = true) (h6 : noStar v = true)
    (h7 : (foldedForSure 8 u && foldedForSure 8 v) = false) (h8 : (constantsAlone 8 u && constantsAlone 8 v) = false) : swappedStores [.Tuple [.Name x px, .Name y py] kt pt] (.Tuple [u, v] k2 pt2) X.env = pure (some [x, y]) := by
  have hyx : (y == x) = false := by simpa using fun z : y = x => h3 z.symm
  have en : ([.Name x px, .Name y py] : List Expr).filterMap (nmOf X.env ((([.Name x px, .Name y py] : List Expr).head?.map (·.pos.line)).getD 0)) = [x, y] := by
    show List.filterMap (nmOf X.env px.line) _ = _
    rw [List.filterMap_cons_some (nm_ok hX h1 (by simp)), List.filterMap_cons_some (nm_ok hX h2 h4)]
    rfl
  rw [swS_eq, en, bk_ok hX hk]
  simp [stB_no h5, stB_no h6, List.eraseDups_cons, hyx, List.all_cons]
  rw [if_neg (by rintro ⟨a, b⟩; simp [a, b] at h7), if_neg (by rintro ⟨a, b⟩; simp [a, b] at h8)]
theorem swp3 (hX : CxOk c X cl cal) (hk : c.sc.kind = .function) {x y z : Str} {px py pz pt : Pos} {kt k2 pt2} {u v w : Expr} (h1 : isLocal c x = true) (h2 : isLocal c y = true) (h22 : isLocal c z = true) (h3 : x ≠ y) (h31 : x ≠ z) (h32 : y ≠ z) (h4 : (py.line == px.line) = true) (h41 : (pz.line == px.line) = true) (h5 : noStar u = true) (h6 : noStar v = true) (h61 : noStar w = true)
    (h7 : (foldedForSure 8 u && (foldedForSure 8 v && foldedForSure 8 w)) = false) (h8 : (constantsAlone 8 u && (constantsAlone 8 v && constantsAlone 8 w)) = false) : swappedStores [.Tuple [.Name x px, .Name y py, .Name z pz] kt pt] (.Tuple [u, v, w] k2 pt2) X.env = pure (some [x, y, z]) := by
  have hyx : (y == x) = false := by simpa using fun q : y = x => h3 q.symm
  have hzx : (z == x) = false := by simpa using fun q : z = x => h31 q.symm
  have hzy : (z == y) = false := by simpa using fun q : z = y => h32 q.symm
  have en : ([.Name x px, .Name y py, .Name z pz] : List Expr).filterMap (nmOf X.env ((([.Name x px, .Name y py, .Name z pz] : List Expr).head?.map (·.pos.line)).getD 0)) = [x, y, z] := by
    show List.filterMap (nmOf X.env px.line) _ = _
    rw [List.filterMap_cons_some (nm_ok hX h1 (by simp)), List.filterMap_cons_some (nm_ok hX h2 h4), List.filterMap_cons_some (nm_ok hX h22 h41)]
    rfl
  rw [swS_eq, en, bk_ok hX hk]
  simp [stB_no h5, stB_no h6, stB_no h61, List.eraseDups_cons, hyx, hzx, hzy, List.all_cons]
  rw [if_neg (by rintro ⟨a, b, d⟩; simp [a, b, d] at h7), if_neg (by rintro ⟨a, b, d⟩; simp [a, b, d] at h8)]
end
end Mi
end
section
set_option linter.all false
set_option Elab.async false
set_option maxRecDepth 100000
set_option maxHeartbeats 8000000
/-! Mi32: the checker is sound: statements. -/
namespace Mi
open PySem PySem.Spec PyProof.Rows L2
section
variable {cl : ClA} {cal : Cal} {c : Ck} {X : Cx}
structure SndS (n : Nat) (cl : ClA) (cal : Cal) : Prop where
  S : ∀ {c : Ck} {X : Cx} {s' : Mi.S} {s : Stmt}, CxOk c X cl cal → c.sc.kind = .function → chkS n c s' s = true → SS X cl cal s s'
  Ss : ∀ {c : Ck} {X : Cx} {ss' : List Mi.S} {ss : List Stmt}, CxOk c X cl cal → c.sc.kind = .function → chkSs n c ss' ss = true → SSs X cl cal ss ss'
theorem nb {b : Bool} (h : (!b) = true) : b = false := by cases b <;> first | rfl | cases h
theorem own_ok (hX : CxOk c X cl cal) : PassesOwn (model X.prog X.w) X.A X.env X.xe := by rw [hX.xe]; exact PassesOwn.never
theorem noTT {tg e : Expr} (h : (match tg, e with
          | .Tuple ts _ _, .Tuple _ _ _ => decide (ts.length ≠ 2) && decide (ts.length ≠ 3)
          | .List _ _, .Tuple _ _ _ => false
          | _, _ => true) = true) (env : PySem.Env) : swappedStores [tg] e env = pure none := by
  split at h
  · simp only [Bool.and_eq_true, decide_eq_true_eq] at h
    rw [swS_eq]
    rw [if_pos (by simp [h.1, h.2])]
  · cases h
  · rename_i h1 h2
    cases tg with
    | Tuple ts k p => cases e with
      | Tuple vs k2 p2 => exact absurd rfl (h1 ts k p vs k2 p2 rfl)
      | _ => rfl
    | List ts p => cases e with
      | Tuple vs k2 p2 => exact absurd rfl (h2 ts p vs k2 p2 rfl)
      | _ => rfl
    | _ => rfl
theorem sndS (A : ∀ n, Snd n cl cal) {n : Nat} (Z : SndS n cl cal) {s' : S} {s : Stmt} (hX : CxOk c X cl cal) (hk : c.sc.kind = .function) (h : chkS (n + 1) c s' s = true) : SS X cl cal s s' := by
  unfold chkS at h
  cases s' with
  | asg t e' =>
    simp only at h
    split at h
    · rename_i tg e pos
      split at h
      · split at h
        · simp only [Bool.and_eq_true] at h
          exact set_ok hX hk (of_decide_eq_true h.1) h.2.1 h.2.2.1 h.2.2.2
        · cases h
      · split at h
        · simp only [Bool.and_eq_true] at h
          obtain ⟨h1, h2, h3, h4, h5⟩ := h
          have e1 := of_decide_eq_true h1
          subst e1
          exact ss_fld hX.co (of_decide_eq_true h2) ((A n).E hX h4) ((A n).E hX h5) (noComp_ok h3 _ _ _)
        · cases h
      · simp only [Bool.and_eq_true] at h
        obtain ⟨h1, h2, h3, h4, h5⟩ := h
        exact ss_asg ((A n).E hX h4) ((A n).G hX h3) (noComp_ok h1 _ _ _) (noTT h5 _) (by rw [assignEach1 h2]; rfl)
    · cases h
  | par is es =>
    simp only at h
    split at h
    · split at h
      · simp only [Bool.and_eq_true] at h
        obtain ⟨h1, h2, h3, h4, h5, h6, h7, h8, h9, h10, h11, h12, h13⟩ := h
        exact ss_par2 hX.calm (nd_ok hX) (by rw [hX.N]; exact of_decide_eq_true h1) (by rw [hX.N]; exact of_decide_eq_true h2) (of_decide_eq_true h3) (local_ok hX h4) (local_ok hX h5)
          (ses_cons ((A n).E hX h12) (ses_cons ((A n).E hX h13) ses_nil (star1 h9 _ _)) (star1 h8 _ _)) (swp2 hX hk h4 h5 (of_decide_eq_true h6) h7 h8 h9 (nb h10) (nb h11)) rfl
      · simp only [Bool.and_eq_true] at h
        obtain ⟨h1, h2, h3, h4, h5, h6, h7, h8, h9, h10, h11, h12, h13, h14, h15, h16, h17, h18, h19, h20, h21, h22⟩ := h
        exact ss_par3 hX.calm (nd_ok hX) (by rw [hX.N]; exact of_decide_eq_true h1) (by rw [hX.N]; exact of_decide_eq_true h2) (by rw [hX.N]; exact of_decide_eq_true h3) (of_decide_eq_true h4) (of_decide_eq_true h5) (of_decide_eq_true h6) (local_ok hX h7) (local_ok hX h8) (local_ok hX h9)
          (ses_cons ((A n).E hX h20) (ses_cons ((A n).E hX h21) (ses_cons ((A n).E hX h22) ses_nil (star1 h17 _ _)) (star1 h16 _ _)) (star1 h15 _ _))
          (swp3 hX hk h7 h8 h9 (of_decide_eq_true h10) (of_decide_eq_true h11) (of_decide_eq_true h12) h13 h14 h15 h16 h17 (nb h18) (nb h19)) rfl
      · cases h
    · cases h
  | augV i e' =>
    simp only at h
    split at h
    · simp only [Bool.and_eq_true] at h
      obtain ⟨l1, l2⟩ := loc_ok hX h.2.1
      exact ss_augV (nd_ok hX) (by rw [hX.N]; exact of_decide_eq_true h.1) l1 ((A n).E hX h.2.2) l2
    · cases h
  | augF o f e' =>
    simp only at h
    split at h
    · simp only [Bool.and_eq_true] at h
      obtain ⟨h1, h2, h3, h4⟩ := h
      have e1 := of_decide_eq_true h1
      subst e1
      exact ss_augF hX.co (of_decide_eq_true h2) ((A n).E hX h3) ((A n).E hX h4)
    · cases h
  | exp e' =>
    simp only at h
    split at h
    · simp only [Bool.and_eq_true] at h
      exact ss_exp ((A n).E hX h.2) (noComp_ok h.1 _ _ _)
    · cases h
  | ret e' =>
    simp only at h
    split at h
    · exact ss_ret ((A n).E hX h)
    · cases h
  | retN =>
    simp only at h
    split at h
    · exact ss_retN
    · cases h
  | pas =>
    simp only at h
    split at h
    · exact ss_pas
    · cases h
  | ifs t a b =>
    simp only at h
    split at h
    · simp only [Bool.and_eq_true] at h
      exact ss_ifs ((A n).T hX h.1) (Z.Ss hX hk h.2.1) (Z.Ss hX hk h.2.2)
    · cases h
  | for_ t it b =>
    simp only at h
    split at h
    · simp only [Bool.and_eq_true] at h
      obtain ⟨h1, h2, h3, h4⟩ := h
      exact ss_for (own_ok hX) hX.calm ((A n).I hX h1) ((A n).G hX h2) (Z.Ss hX hk h4) (noSet_ok h3 _)
    · cases h
  | whl t b =>
    simp only at h
    split at h
    · simp only [Bool.and_eq_true] at h
      exact ss_whl (own_ok hX) ((A n).T hX h.1) (Z.Ss hX hk h.2)
    · cases h
  | rse C es => exact ss_never
theorem sndSs {n : Nat} (Z : SndS n cl cal) {ss' : List S} {ss : List Stmt} (hX : CxOk c X cl cal) (hk : c.sc.kind = .function) (h : chkSs (n + 1) c ss' ss = true) : SSs X cl cal ss ss' := by
  unfold chkSs at h
  split at h
  · exact sss_nil
  · simp only [Bool.and_eq_true] at h
    exact sss_cons (Z.S hX hk h.1) (Z.Ss hX hk h.2)
  · cases h
theorem sndS_all : ∀ n : Nat, SndS n cl cal
  | 0 => ⟨fun _ _ h => (by unfold chkS at h; cases h), fun _ _ h => (by unfold chkSs at h; cases h)⟩
  | n + 1 => ⟨fun hX hk h => sndS snd_all (sndS_all n) hX hk h, fun hX hk h => sndSs (sndS_all n) hX hk h⟩
end
end Mi
end
section
set_option linter.all false
set_option Elab.async false
set_option maxRecDepth 100000
set_option maxHeartbeats 8000000
/-! Mi33: a law's data; each def keeps what the evaluator tells of it, at every level. -/
namespace Mi
open PySem PySem.Spec PyProof.Rows L2
def sameFa : _root_.He.Fa → _root_.He.Fa → Bool
  | .glo x, .glo y => decide (x = y)
  | .free x, .free y => decide (x = y)
  | .int x i, .int y j => decide (x = y) && decide (i = j)
  | .str x i, .str y j => decide (x = y) && decide (i = j)
  | .cls x, .cls y => decide (x = y)
  | .noat x i, .noat y j => decide (x = y) && decide (i = j)
  | .meth x i, .meth y j => decide (x = y) && decide (i = j)
  | .mkr x, .mkr y => decide (x = y)
  | _, _ => false
theorem sameFa_eq {a b : _root_.He.Fa} (h : sameFa a b = true) : a = b := by
  unfold sameFa at h
  split at h
  · rw [of_decide_eq_true h]
  · rw [of_decide_eq_true h]
  · rw [Bool.and_eq_true] at h; rw [of_decide_eq_true h.1, of_decide_eq_true h.2]
  · rw [Bool.and_eq_true] at h; rw [of_decide_eq_true h.1, of_decide_eq_true h.2]
  · rw [of_decide_eq_true h]
  · rw [Bool.and_eq_true] at h; rw [of_decide_eq_true h.1, of_decide_eq_true h.2]
  · rw [Bool.and_eq_true] at h; rw [of_decide_eq_true h.1, of_decide_eq_true h.2]
  · rw [of_decide_eq_true h]
  · cases h
def hasF (l : List _root_.He.Fa) (f : _root_.He.Fa) : Bool := l.any (sameFa f)
theorem hasF_mem {l : List _root_.He.Fa} {f : _root_.He.Fa} (h : hasF l f = true) : f ∈ l := by
  unfold hasF at h
  rw [List.any_eq_true] at h
  obtain ⟨g, h1, h2⟩ := h
  rw [sameFa_eq h2]
  exact h1
/-- a def: its datum for the head, the evaluator's name, its parameters, all its names, how many parameters stand ahead of the keyword-only ones -/
structure DefI where
  d : _root_.He.DefD
  key : Str
  ps : List Str
  N : List Str
  n0 : Nat := 0
structure LawD where
  Pg : Prg
  gs : List (Str × Gk)
  FL : List Str
  cs : List Str
  fa : List _root_.He.Fa
  defs : List DefI
  tups : List (Str × List _root_.He.Dv)
  tabs : List (Str × List (Str × _root_.He.Dv))
def LawD.fn (L : LawD) : List _root_.He.DefD := L.defs.map (·.d)
def LawD.ts (L : LawD) : List _root_.He.Tab := L.tabs.map fun t => (fun K => _root_.He.ga K t.1, t.2.map (·.1))
def LawD.ex (L : LawD) (K : PySem.W.Frag) : Bool := (L.tups.all fun t => _root_.He.tupB K t.1 t.2) && (L.tabs.all fun t => _root_.He.valsB K (_root_.He.ga K t.1) t.2)
def LawD.cl (L : LawD) (K : PySem.W.Frag) : ClA := fun C => if L.cs.contains C then some (_root_.He.ga K C) else none
/-- a small value as a datum -/
def dvD : _root_.He.Dv → Option D
  | .non => some .non
  | .bl b => some (.bl b)
  | .int i => some (.int i)
  | .str x => some (.str x)
  | _ => none
def dvsD : List _root_.He.Dv → Option (List D)
  | [] => some []
  | v :: vs => match dvD v, dvsD vs with
    | some d, some ds => some (d :: ds)
    | _, _ => none
/-- a default's value -/
def LawD.kvD (L : LawD) : _root_.He.Dv → Option D
  | .glo x => match L.tups.lookup x with
    | some vs => (dvsD vs).map fun ds => .nd true .tup ds
    | none => none
  | v => dvD v
def LawD.kvsD (L : LawD) : List _root_.He.Dv → Option (List D)
  | [] => some []
  | v :: vs => match L.kvD v, L.kvsD vs with
    | some d, some ds => some (d :: ds)
    | _, _ => none
def scopeB (N ps : List Str) (sc : Scope) : Bool := decide (sc.kind = .function) && (!sc.isCoroutine && (!sc.isGenerator && (decide N.Nodup && (decide (N.take ps.length = ps) && ((ps.all fun x => match sc.names.lookup x with
  | some .local => true
  | some .cell => true
  | _ => false) && sc.names.all fun y => decide (y.2 ≠ .free))))))
theorem scopeB_ok {N ps : List Str} {sc : Scope} (h : scopeB N ps sc = true) : FnScope N ps sc := by
  unfold scopeB at h
  simp only [Bool.and_eq_true] at h
  obtain ⟨h1, h2, h3, h4, h5, h6, h7⟩ := h
  refine ⟨of_decide_eq_true h1, nb h2, nb h3, of_decide_eq_true h4, of_decide_eq_true h5, fun x hx => ?_, fun y hy => of_decide_eq_true (List.all_eq_true.mp h7 y hy)⟩
  have := List.all_eq_true.mp h6 x hx
  split at this
  · rename_i q; exact .inl q
  · rename_i q; exact .inr q
  · cases this
def LawD.ck (L : LawD) (i : DefI) : Ck := ⟨i.N, i.d.scope, fun _ => true, L.gs, L.FL⟩
def fuel : Nat := 300
def LawD.ckDef (L : LawD) (i : DefI) : Bool := match L.Pg.lookup i.key with
  | some (.fn np ns b) => decide (np = i.ps.length) && (decide (ns = i.N.length) && (scopeB i.N i.ps i.d.scope && (i.d.dfl.isEmpty && chkSs fuel (L.ck i) b i.d.body)))
  | _ => false
/-- the rest of a text behind another -/
def strDrop (n : Nat) (x : Str) : Str := ⟨(x.cps.toList.drop n).toArray⟩
def strPre (p x : Str) : Bool := p.cps.toList.isPrefixOf x.cps.toList
/-- a method's name tells its class and itself -/
def LawD.ckKey (L : LawD) (i : DefI) : Bool := L.cs.all fun C => !strPre (C ++ ".") i.key || (decide (i.d.at_ = (C, some (strDrop (C ++ ".").length i.key))) && (hasF L.fa (.meth C (strDrop (C ++ ".").length i.key)) && i.d.kwd.isEmpty))
def LawD.ckPg (L : LawD) : Bool := L.Pg.all fun q => match q.2 with
  | .fn _ _ _ => L.defs.any fun i => decide (i.key = q.1)
  | .cls => L.cs.all fun C => !strPre (C ++ ".") q.1
def LawD.ckCs (L : LawD) : Bool := L.cs.all fun C => hasF L.fa (.cls C) && L.FL.all fun f => hasF L.fa (.noat C f)
def LawD.ckG (L : LawD) (q : Str × Gk) : Bool := match q.2 with
  | .fn g => decide (g = q.1) && (hasF L.fa (.glo q.1) && ((L.defs.any fun i => decide (i.key = q.1) && (decide (i.d.at_ = (q.1, none)) && i.d.kwd.isEmpty)) ||
      (L.cs.contains q.1 && (hasF L.fa (.mkr q.1) && ((match L.Pg.lookup q.1 with
        | some .cls => true
        | _ => false) && L.defs.any fun i => decide (i.key = q.1 ++ ".__init__") && (decide (i.d.at_ = (q.1, some ("__init__" : Str))) && i.d.kwd.isEmpty))))))
  | .fnk g ks ds => decide (g = q.1) && (hasF L.fa (.glo q.1) && L.defs.any fun i => decide (i.key = q.1) && (decide (i.d.at_ = (q.1, none)) && (decide (ks ≠ []) && (decide (i.d.kwd.map (·.1) = ks) && (decide (i.ps.length = i.n0 + ks.length) && (match L.kvsD (i.d.kwd.map (·.2)) with
    | some es => sameDs es ds
    | none => false))))))
  | .cst d => (match d with
    | .int i => hasF L.fa (.int q.1 i)
    | .str z => hasF L.fa (.str q.1 z)
    | .nd true .tup ds => hasF L.fa (.glo q.1) && (match L.tups.lookup q.1 with
      | some vs => (match dvsD vs with
        | some es => sameDs es ds
        | none => false)
      | none => false)
    | _ => false)
  | .tab ks ds => hasF L.fa (.glo q.1) && (decide ks.Nodup && L.tabs.any fun t => decide (t.1 = q.1) && (decide (t.2.map (·.1) = ks) && (match dvsD (t.2.map (·.2)) with
    | some es => sameDs es ds
    | none => false)))
  | .blt => hasF L.fa (.free q.1)
def LawD.ok (L : LawD) : Bool := L.defs.all (fun i => L.ckDef i && L.ckKey i) && (L.ckPg && (L.ckCs && L.gs.all L.ckG))
/-- how a def's parameters are bound -/
def BindI (i : DefI) : Prop := ∀ (x qual : Str) (body : List Stmt) (scope : Scope), if i.d.kwd.isEmpty then
    ∀ (kV doc pm : Value) (an : Option Addr) (cdv ct : Value) (us : List Value), us.length = i.ps.length → bindArgs (PySem.W.fnOf x qual i.d.params body scope .none kV doc pm an cdv ct) ⟨us, []⟩ = pure (i.ps.zip us)
  else
    (∀ (D : Addr) (doc pm : Value) (an : Option Addr) (cdv ct : Value) (us ks : List Value), us.length = i.n0 → ks.length = i.d.kwd.length → KwChain D ((i.d.kwd.map (·.1)).zip ks) (bindArgs (PySem.W.fnOf x qual i.d.params body scope .none (.ref D) doc pm an cdv ct) ⟨us, []⟩) (i.ps.zip (us ++ ks))) ∧
    (∀ (D : Addr) (doc pm : Value) (an : Option Addr) (cdv ct : Value) (us ws : List Value), us.length = i.n0 → ws.length = i.d.kwd.length → bindArgs (PySem.W.fnOf x qual i.d.params body scope .none (.ref D) doc pm an cdv ct) ⟨us, (i.d.kwd.map (·.1)).zip ws⟩ = pure (i.ps.zip (us ++ ws)))
section
variable {L : LawD} {P : Program} {w : World} {K : PySem.W.Frag} {mg : Str → Option Value} {base h : Heap}
theorem lookup_memG {α β : Type} [BEq α] [LawfulBEq α] {x : α} {y : β} : ∀ {l : List (α × β)}, l.lookup x = some y → (x, y) ∈ l
  | [], h => by cases h
  | (a, b) :: l, h => by
    rw [List.lookup_cons] at h
    cases q : (x == a) with
    | true =>
      rw [q] at h
      cases h
      rw [eq_of_beq q]
      exact List.mem_cons_self ..
    | false =>
      rw [q] at h
      exact List.mem_cons_of_mem _ (lookup_memG h)
theorem dvD_ok {cl : ClA} {v : _root_.He.Dv} {d : D} (h : dvD v = some d) (W : Wd) : Rp K cl W d (v.v K) := by
  cases v with
  | non => cases h; exact .of_non
  | bl b => cases h; exact .of_bl
  | int i => cases h; exact .of_int
  | str x => cases h; exact .of_str
  | _ => cases h
theorem dvsD_ok {cl : ClA} : ∀ {vs : List _root_.He.Dv} {ds : List D}, dvsD vs = some ds → ∀ W : Wd, Rps K cl W ds (vs.map (·.v K))
  | [], ds, h, W => by cases h; exact Rps.nil
  | v :: vs, ds, h, W => by
    unfold dvsD at h
    split at h
    · rename_i d es h1 h2
      cases h
      exact Rps.cons (dvD_ok h1 W) (dvsD_ok h2 W)
    · cases h
theorem ex_tup (hex : L.ex K = true) {x : Str} {vs : List _root_.He.Dv} (h : L.tups.lookup x = some vs) (H : Hp) : SqT K H (_root_.He.ga K x) (vs.map (_root_.He.Dv.v K)) := by
  have h1 := (Bool.and_eq_true_iff.mp hex).1
  exact _root_.He.tupB_ok (List.all_eq_true.mp h1 _ (lookup_memG h)) H
theorem tup_rp (hex : L.ex K = true) {cl : ClA} {x : Str} {vs : List _root_.He.Dv} {ds : List D} (h : L.tups.lookup x = some vs) (h2 : dvsD vs = some ds) (W : Wd) : Rp K cl W (.nd true .tup ds) (.ref (_root_.He.ga K x)) := by
  unfold Rp
  exact ⟨_, _, rfl, ex_tup hex h _, dvsD_ok h2 W⟩
theorem kvD_ok (hex : L.ex K = true) {cl : ClA} {v : _root_.He.Dv} {d : D} (h : L.kvD v = some d) (W : Wd) : Rp K cl W d (v.v K) := by
  unfold LawD.kvD at h
  split at h
  · rename_i x
    split at h
    · rename_i vs hl
      cases hd : dvsD vs with
      | none => rw [hd] at h; cases h
      | some ds =>
        rw [hd] at h
        cases h
        exact tup_rp hex hl hd W
    · cases h
  · exact dvD_ok h W
theorem kvsD_ok (hex : L.ex K = true) {cl : ClA} : ∀ {vs : List _root_.He.Dv} {ds : List D}, L.kvsD vs = some ds → ∀ W : Wd, Rps K cl W ds (vs.map (·.v K))
  | [], ds, h, W => by cases h; exact Rps.nil
  | v :: vs, ds, h, W => by
    unfold LawD.kvsD at h
    split at h
    · rename_i d es h1 h2
      cases h
      exact Rps.cons (kvD_ok hex h1 W) (kvsD_ok hex h2 W)
    · cases h
/-- what the head tells -/
structure Says (L : LawD) (w : World) (K : PySem.W.Frag) (mg : Str → Option Value) : Prop where
  ok : L.ok = true
  bd : ∀ i ∈ L.defs, BindI i
  fa : ∀ f ∈ L.fa, f.ok K = true
  fd : ∀ i ∈ L.defs, ∃ fd, FunD K i.d.name i.d.qual i.d.params i.d.body i.d.scope [] (i.d.kws K) (_root_.He.fAd K i.d.at_) fd
  ex : L.ex K = true
  tab : ∀ t ∈ L.tabs, _root_.He.dicW K (_root_.He.ga K t.1) = some (_root_.He.keysIn w.params (t.2.map (·.1)))
  glo : ∀ x, (_root_.He.Fa.glo x) ∈ L.fa → mg x = some (.ref (_root_.He.ga K x))
  free : ∀ x, (_root_.He.Fa.free x) ∈ L.fa → mg x = none
  int : ∀ x i, (_root_.He.Fa.int x i) ∈ L.fa → ∃ t, mg x = some (.int i t)
  str : ∀ x z, (_root_.He.Fa.str x z) ∈ L.fa → ∃ t, mg x = some (.str z t)
theorem Says.of (hok : L.ok = true) (hb : ∀ i ∈ L.defs, BindI i) (X : K.In h) (G : h.Ns mainGlobals mg) (c : _root_.He.SaysX L.fa L.fn L.ts [] L.ex w h K) : Says L w K mg := by
  have hfa : ∀ f ∈ L.fa, f.ok K = true := fun f hf => c.t.d.facts hf
  refine ⟨hok, hb, hfa, fun i hi => ?_, c.more, fun t ht => ?_, fun x hx => _root_.He.glo_ok X G (hfa _ hx), fun x hx => _root_.He.free_ok X G (hfa _ hx), fun x i hx => _root_.He.int_ok X G (hfa _ hx), fun x z hx => _root_.He.str_ok X G (hfa _ hx)⟩
  · obtain ⟨fd, F⟩ := c.t.d.defs (d := i.d) (List.mem_map.mpr ⟨i, hi, rfl⟩)
    have hd : i.d.dfl = [] := by
      unfold LawD.ok at hok
      rw [Bool.and_eq_true] at hok
      have := List.all_eq_true.mp hok.1 i hi
      rw [Bool.and_eq_true] at this
      have := this.1
      unfold LawD.ckDef at this
      split at this
      · simp only [Bool.and_eq_true] at this
        simpa using this.2.2.2.1
      · cases this
    have e : i.d.dvs K = [] := by unfold _root_.He.DefD.dvs; rw [hd]; rfl
    rw [e] at F
    exact ⟨fd, F⟩
  · have e : L.ts.map (fun t => _root_.He.dicW K (t.1 K)) = L.ts.map fun t => some (_root_.He.keysIn w.params t.2) := congrArg (fun z : _root_.He.AlT => z.2) c.t
    unfold LawD.ts at e
    rw [List.map_map, List.map_map] at e
    exact List.map_eq_map_iff.mp e t ht
end
end Mi
end
section
set_option linter.all false
set_option Elab.async false
set_option maxRecDepth 100000
set_option maxHeartbeats 8000000
/-! Mi34: all levels. -/
namespace Mi
open PySem PySem.Spec PyProof.Rows L2
section
variable {L : LawD} {P : Program} {w : World} {K : PySem.W.Frag} {mg : Str → Option Value} {base h : Heap}
abbrev FunI (K : PySem.W.Frag) (i : DefI) (fd : FuncData) : Prop := FunD K i.d.name i.d.qual i.d.params i.d.body i.d.scope [] (i.d.kws K) (_root_.He.fAd K i.d.at_) fd
def LvOk (L : LawD) (P : Program) (w : World) (K : PySem.W.Frag) (mg : Str → Option Value) (base : Heap) (k : Nat) : Prop := ∀ i ∈ L.defs, ∀ fd, FunI K i fd → FnOk P w K mg base CX0 (k + 1) (_root_.He.fAd K i.d.at_) fd i.ps (spN K (L.cl K) (callN L.Pg k) i.key)
theorem spN0 {cl : ClA} {g : Str} {vs : List V} {H : Hp} {Q : VK} {E : XK} {Pg : Prg} (h : spN K cl (callN Pg 0) g vs H Q E) : False := by
  obtain ⟨W, m, ds, d, m', _, _, e, _⟩ := h
  unfold callN at e
  cases e
theorem fn0 {cl : ClA} {g : Str} {k : Nat} {f : Addr} {fd : FuncData} {ps : List Str} {Pg : Prg} : FnOk P w K mg base CX0 k f fd ps (spN K cl (callN Pg 0) g) :=
  ⟨fun _ _ _ _ h => (spN0 h).elim, fun _ _ _ _ _ _ _ _ _ _ _ _ _ h => (spN0 h).elim⟩
theorem Says.ckG (S : Says L w K mg) {q : Str × Gk} (h : q ∈ L.gs) : L.ckG q = true := by
  have := S.ok
  unfold LawD.ok at this
  simp only [Bool.and_eq_true] at this
  exact List.all_eq_true.mp this.2.2.2 q h
theorem Says.ckDef (S : Says L w K mg) {i : DefI} (h : i ∈ L.defs) : L.ckDef i = true ∧ L.ckKey i = true := by
  have := S.ok
  unfold LawD.ok at this
  simp only [Bool.and_eq_true] at this
  have := List.all_eq_true.mp this.1 i h
  rwa [Bool.and_eq_true] at this
theorem Says.ckPg (S : Says L w K mg) {q : Str × Df} (h : q ∈ L.Pg) : (match q.2 with
  | .fn _ _ _ => L.defs.any fun i => decide (i.key = q.1)
  | .cls => L.cs.all fun C => !strPre (C ++ ".") q.1) = true := by
  have := S.ok
  unfold LawD.ok at this
  simp only [Bool.and_eq_true] at this
  exact List.all_eq_true.mp this.2.1 q h
theorem Says.cs (S : Says L w K mg) {C : Str} (h : C ∈ L.cs) : _root_.He.Fa.cls C ∈ L.fa ∧ ∀ f ∈ L.FL, _root_.He.Fa.noat C f ∈ L.fa := by
  have := S.ok
  unfold LawD.ok at this
  simp only [Bool.and_eq_true] at this
  have := List.all_eq_true.mp this.2.2.1 C h
  simp only [Bool.and_eq_true] at this
  exact ⟨hasF_mem this.1, fun f hf => hasF_mem (List.all_eq_true.mp this.2 f hf)⟩
theorem cl_some {C : Str} {c : Addr} (h : L.cl K C = some c) : C ∈ L.cs ∧ c = _root_.He.ga K C := by
  unfold LawD.cl at h
  split at h
  · rename_i q
    cases h
    exact ⟨by simpa using q, rfl⟩
  · cases h
theorem Says.co (S : Says L w K mg) : ClOk K (L.cl K) L.FL where
  cls := fun C c h => by
    obtain ⟨h1, rfl⟩ := cl_some h
    exact _root_.He.cls_ok (S.fa _ (S.cs h1).1)
  noat := fun C c f h hf => by
    obtain ⟨h1, rfl⟩ := cl_some h
    exact _root_.He.noat_ok (S.fa _ ((S.cs h1).2 f hf))
theorem Says.binds (S : Says L w K mg) {i : DefI} (h : i ∈ L.defs) (hk : i.d.kwd.isEmpty = true) {fd : FuncData} (F : FunI K i fd) : Binds K fd i.ps [] := by
  have b := S.bd i h i.d.name i.d.qual i.d.body i.d.scope
  rw [if_pos hk] at b
  exact F.bindsN b
theorem any_def {p : DefI → Bool} (h : L.defs.any p = true) : ∃ i ∈ L.defs, p i = true := by simpa using h
theorem pre_drop {p q : Str} : strPre p (p ++ q) = true ∧ strDrop p.length (p ++ q) = q := by
  have e : (p ++ q).cps.toList = p.cps.toList ++ q.cps.toList := by
    show (p.cps ++ q.cps).toList = _
    simp
  refine ⟨?_, ?_⟩
  · unfold strPre
    rw [e, List.isPrefixOf_iff_prefix]
    exact List.prefix_append _ _
  · unfold strDrop
    rw [e]
    have hl : p.length = p.cps.toList.length := by
      show p.cps.size = _
      simp
    rw [hl, List.drop_left]
theorem rp_up {cl : ClA} {d : D} {v : V} {W : Wd} (h : ∀ W, Rp K cl W d v) : Rp K cl W d v := h W
theorem glOk (S : Says L w K mg) {A : Around} {k : Nat} (hR : Room (k + 1) A) (ih : LvOk L P w K mg base k) (ihp : ∀ j, k = j + 1 → LvOk L P w K mg base j) : GlOk P w K mg base A (L.cl K) (callN L.Pg k) L.gs where
  fn := fun x g hg => by
    have c := S.ckG (lookup_memG hg)
    unfold LawD.ckG at c
    simp only [Bool.and_eq_true, Bool.or_eq_true] at c
    obtain ⟨c1, c2, c3⟩ := c
    have e1 := of_decide_eq_true c1
    subst e1
    have hm := S.glo g (hasF_mem c2)
    rcases c3 with c3 | ⟨c3, c4, c5, c6⟩
    · obtain ⟨i, hi, hp⟩ := any_def c3
      simp only [Bool.and_eq_true] at hp
      obtain ⟨p1, p2, p3⟩ := hp
      have p1 := of_decide_eq_true p1
      have p2 := of_decide_eq_true p2
      obtain ⟨fd, F⟩ := S.fd i hi
      have r := ih i hi fd F
      have ea : _root_.He.fAd K i.d.at_ = _root_.He.ga K g := by rw [p2]; rfl
      have kp := F.kp
      rw [p1, ea] at r
      rw [ea] at kp
      exact .inl ⟨k + 1, _, fd, i.ps, r, hR, hm, kp, S.binds hi p3 F⟩
    · obtain ⟨i, hi, hp⟩ := any_def c6
      simp only [Bool.and_eq_true] at hp
      obtain ⟨p1, p2, p3⟩ := hp
      have p1 := of_decide_eq_true p1
      have p2 := of_decide_eq_true p2
      obtain ⟨fd, F⟩ := S.fd i hi
      have ea : _root_.He.fAd K i.d.at_ = _root_.He.ma K (_root_.He.ga K g) "__init__" := by rw [p2]; rfl
      have hmk := _root_.He.mkr_ok (S.fa _ (hasF_mem c4 : _root_.He.Fa.mkr g ∈ L.fa))
      have hcl : L.cl K g = some (_root_.He.ga K g) := by unfold LawD.cl; rw [if_pos c3]
      have hlk : L.Pg.lookup g = some .cls := by
        revert c5
        cases q : L.Pg.lookup g with
        | none => intro z; cases z
        | some df => cases df with
          | cls => intro _; rfl
          | fn _ _ _ => intro z; cases z
      cases k with
      | zero =>
        refine .inr ⟨0, _, _, fd, i.ps, callN L.Pg 0, hmk, fn0, hR, hm, S.binds hi p3 F, hcl, fun ds m r e => ?_⟩
        unfold callN at e
        cases e
      | succ j =>
        have r := ihp j rfl i hi fd F
        rw [p1, ea] at r
        refine .inr ⟨j + 1, _, _, fd, i.ps, callN L.Pg j, hmk, r, hR, hm, S.binds hi p3 F, hcl, fun ds m r e => ?_⟩
        rw [callN, hlk] at e
        simp only at e
        obtain ⟨⟨d, m2⟩, e1, e2⟩ := bind_ok e
        cases d with
        | non => cases e2; exact ⟨m2, e1, rfl⟩
        | _ => cases e2
  fk := fun x g ks ds hg => by
    have c := S.ckG (lookup_memG hg)
    unfold LawD.ckG at c
    simp only [Bool.and_eq_true] at c
    obtain ⟨c1, c2, c3⟩ := c
    have e1 := of_decide_eq_true c1
    subst e1
    have hm := S.glo g (hasF_mem c2)
    obtain ⟨i, hi, hp⟩ := any_def c3
    simp only [Bool.and_eq_true] at hp
    obtain ⟨p1, p2, p3, p4, p5, p6⟩ := hp
    have p1 := of_decide_eq_true p1
    have p2 := of_decide_eq_true p2
    have p3 := of_decide_eq_true p3
    have p4 := of_decide_eq_true p4
    have p5 := of_decide_eq_true p5
    have lk : i.d.kwd.length = ks.length := by rw [← p4, List.length_map]
    obtain ⟨fd, F⟩ := S.fd i hi
    have r := ih i hi fd F
    have ea : _root_.He.fAd K i.d.at_ = _root_.He.ga K g := by rw [p2]; rfl
    have kp := F.kp
    rw [p1, ea] at r
    rw [ea] at kp
    have hne : i.d.kwd ≠ [] := fun z => p3 (by rw [← p4, z]; rfl)
    have b := S.bd i hi i.d.name i.d.qual i.d.body i.d.scope
    rw [if_neg (by simpa using hne)] at b
    have hk1 : (i.d.kws K).map (·.1) = i.d.kwd.map (·.1) := by unfold _root_.He.DefD.kws; rw [List.map_map]; rfl
    have hk2 : (i.d.kws K).map (·.2) = (i.d.kwd.map (·.2)).map (·.v K) := by unfold _root_.He.DefD.kws; rw [List.map_map, List.map_map]; rfl
    have hk3 : (i.d.kws K).length = i.d.kwd.length := by unfold _root_.He.DefD.kws; rw [List.length_map]
    have hk4 : i.d.kws K ≠ [] := fun z => hne (by unfold _root_.He.DefD.kws at z; exact List.map_eq_nil_iff.mp z)
    obtain ⟨dv, v1, v2⟩ := F.binds0 i.n0 hk4 (by rw [hk3, lk, p5]) (fun D doc pm an cdv ct us zs l1 l2 => by rw [hk1]; exact b.1 D doc pm an cdv ct us zs l1 (by rw [l2, hk3]))
    obtain ⟨mv, hkb⟩ := F.kbinds0 (ps := i.ps) i.n0 ks [] (fun a _ c => a ++ c) hk4 (fun q z => by cases z) (fun r1 _ r3 => r1.append r3) (fun D doc pm an cdv ct us mv ws l1 _ l3 => by
      show bindArgs _ _ = pure _
      rw [← p4]
      exact b.2 D doc pm an cdv ct us ws l1 (by rw [l3, lk]))
    cases hv : L.kvsD (i.d.kwd.map (·.2)) with
    | none => rw [hv] at p6; cases p6
    | some es =>
      rw [hv] at p6
      have e6 := sameDs_eq p6
      subst e6
      refine ⟨k + 1, _, fd, i.ps, dv, _, i.n0, r, hR, hm, kp, v1, fun W => ?_, v2, hkb, p5⟩
      rw [hk2]
      exact kvsD_ok S.ex hv W
  cst := fun x d hg => by
    have c := S.ckG (lookup_memG hg)
    unfold LawD.ckG at c
    simp only at c
    split at c
    · obtain ⟨t, ht⟩ := S.int x _ (hasF_mem c)
      exact ⟨.int _, _, ht, ⟨t, rfl⟩, fun W => .of_int⟩
    · obtain ⟨t, ht⟩ := S.str x _ (hasF_mem c)
      exact ⟨.str _, _, ht, ⟨t, rfl⟩, fun W => .of_str⟩
    · simp only [Bool.and_eq_true] at c
      obtain ⟨c1, c2⟩ := c
      have hm := S.glo x (hasF_mem c1)
      split at c2
      · rename_i vs hl
        split at c2
        · rename_i es he
          have e := sameDs_eq c2
          subst e
          exact ⟨.ref _, _, hm, rfl, fun W => tup_rp S.ex hl he W⟩
        · cases c2
      · cases c2
    · cases c
  tab := fun x ks ds hg => by
    have c := S.ckG (lookup_memG hg)
    unfold LawD.ckG at c
    simp only [Bool.and_eq_true] at c
    obtain ⟨c1, c2, c3⟩ := c
    have hm := S.glo x (hasF_mem c1)
    have c2 := of_decide_eq_true c2
    obtain ⟨t, ht, hp⟩ := List.any_eq_true.mp c3
    simp only [Bool.and_eq_true] at hp
    obtain ⟨p1, p2, p3⟩ := hp
    have p1 := of_decide_eq_true p1
    have p2 := of_decide_eq_true p2
    subst p1 p2
    cases hv : dvsD (t.2.map (·.2)) with
    | none => rw [hv] at p3; cases p3
    | some es =>
      rw [hv] at p3
      have e := sameDs_eq p3
      subst e
      have hval := List.all_eq_true.mp (Bool.and_eq_true_iff.mp S.ex).2 t ht
      refine ⟨_, (t.2.map (·.2)).map (·.v K), hm, ⟨S.tab t ht, by simp, fun k v hkv => ?_⟩, c2, fun W => dvsD_ok hv W⟩
      rw [List.map_map, List.zip_map', List.mem_map] at hkv
      obtain ⟨q, hq, eq⟩ := hkv
      cases eq
      exact _root_.He.valsB_ok hval hq
  blt := fun x hg => by
    have c := S.ckG (lookup_memG hg)
    exact S.free x (hasF_mem c)
  mt := fun q Cn C ds m r hC hr => by
    obtain ⟨h1, rfl⟩ := cl_some hC
    cases k with
    | zero => unfold callN at hr; cases hr
    | succ j =>
      unfold callN at hr
      have pd := pre_drop (p := Cn ++ ".") (q := q)
      cases hl : L.Pg.lookup (Cn ++ "." ++ q) with
      | none => rw [hl] at hr; cases hr
      | some df =>
        have c := S.ckPg (lookup_memG hl)
        cases df with
        | cls =>
          simp only at c
          have := List.all_eq_true.mp c Cn h1
          rw [pd.1] at this
          cases this
        | fn np ns b =>
          simp only at c
          obtain ⟨i, hi, hp⟩ := any_def c
          have hp := of_decide_eq_true hp
          have ck := (S.ckDef hi).2
          unfold LawD.ckKey at ck
          have ck := List.all_eq_true.mp ck Cn h1
          rw [hp, pd.1, pd.2] at ck
          simp only [Bool.not_true, Bool.false_or, Bool.and_eq_true] at ck
          obtain ⟨c1, c2, c3⟩ := ck
          have c1 := of_decide_eq_true c1
          have hmt := _root_.He.meth_ok (S.fa _ (hasF_mem c2 : _root_.He.Fa.meth Cn q ∈ L.fa))
          obtain ⟨fd, F⟩ := S.fd i hi
          have rr := ih i hi fd F
          have ea : _root_.He.fAd K i.d.at_ = _root_.He.ma K (_root_.He.ga K Cn) q := by rw [c1]; rfl
          rw [hp, ea] at rr
          exact ⟨j + 1 + 1, _, fd, i.ps, _root_.He.cls_ok (S.fa _ (S.cs h1).1), hmt, rr, hR, S.binds hi c3 F⟩
theorem renv_start {cl : ClA} {W : Wd} {ds : List D} {vs : List V} {N : List Str} (r : Rps K cl W ds vs) : REnv K cl W (ds.map some ++ List.replicate (N.length - vs.length) none) (L2.start N vs) := by
  unfold L2.start
  refine ⟨by simp [r.length], fun i d e => ?_⟩
  by_cases hi : i < ds.length
  · rw [List.getElem?_append_left (by simpa using hi)] at e
    rw [List.getElem?_append_left (by simpa [← r.length] using hi)]
    rw [List.getElem?_map] at e ⊢
    cases q : ds[i]? with
    | none => rw [q] at e; cases e
    | some d' =>
      rw [q] at e
      have e : d' = d := Option.some.inj (Option.some.inj e)
      subst e
      obtain ⟨v, e1, e2⟩ := r.get q
      exact ⟨v, by rw [e1]; rfl, e2⟩
  · rw [List.getElem?_append_right (by simpa using hi)] at e
    rw [List.getElem?_replicate] at e
    split at e <;> cases e
theorem lv_all (S : Says L w K mg) : ∀ k, LvOk L P w K mg base k ∧ ∀ j, k = j + 1 → LvOk L P w K mg base j
  | 0 => ⟨fun i hi fd F => fn0, fun j e => by cases e⟩
  | k + 1 => by
    obtain ⟨ih, ihp⟩ := lv_all S k
    refine ⟨fun i hi fd F => ?_, fun j e => by cases e; exact ih⟩
    have ck := (S.ckDef hi).1
    unfold LawD.ckDef at ck
    split at ck
    · rename_i np ns b hl
      simp only [Bool.and_eq_true] at ck
      obtain ⟨c1, c2, c3, c4, c5⟩ := ck
      have c1 := of_decide_eq_true c1
      have c2 := of_decide_eq_true c2
      have sc := scopeB_ok c3
      have cal1 : ∀ ds m, callN L.Pg (k + 1) i.key ds m = runD (callN L.Pg k) np ns b ds m := fun ds m => by rw [callN, hl]
      refine F.ok sc (fun vs H Q E hs => ?_) (fun cdv A outer s H vs Q E hr hs => ⟨rSs K (L.cl K) (callN L.Pg k) b, PSs.nox ?_, ?_⟩)
      · obtain ⟨W, m, ds, d, m', _, rs, e, _⟩ := hs
        rw [cal1] at e
        unfold runD at e
        split at e
        · rename_i q
          rw [← rs.length, q, c1]
        · cases e
      · have hX : CxOk (L.ck i) (cxOf CX0 P w K mg base i.N i.d.qual i.d.scope (_root_.He.fAd K i.d.at_) cdv A outer s H E).nox (L.cl K) (callN L.Pg k) :=
          ⟨rfl, rfl, rfl, rfl, sc.nd, rfl, by have := hr.un; show (A.deeper _).units + 80 < _; omega, glOk S hr ih ihp, S.co⟩
        exact (sndS_all fuel).Ss hX sc.kind c5
      · obtain ⟨W, m, ds, d, m', sm, rs, e, q⟩ := hs
        rw [cal1] at e
        unfold runD at e
        split at e
        · rename_i ql
          obtain ⟨⟨fl, m2⟩, e1, e2⟩ := bind_ok e
          cases e2
          have hlen : vs.length = np := by rw [← rs.length, ql]
          refine ⟨W, _, m, fl, m2, sm, renv_start (N := i.N) rs, by rw [← c2, hlen]; exact e1, ?_⟩
          cases fl with
          | nx ρ => exact fun W' σ' H' l s' _ => q W' H' .non l s' .of_non
          | rt d => exact fun W' H' v l s' r' => q W' H' v l s' r'
        · cases e
    · cases ck
end
end Mi
end
section
set_option linter.all false
set_option Elab.async false
set_option maxRecDepth 100000
set_option maxHeartbeats 8000000
/-! Mi35: a law's end. -/
namespace Mi
open PySem PySem.Spec PyProof.Rows L2
theorem sim_start {K : PySem.W.Frag} {cl : ClA} {H : Hp} : Sim K cl ⟨fun _ => none, fun _ => none, H, fun _ => none⟩ [] H :=
  ⟨fun _ _ e => (by cases e), fun _ _ e => e, fun _ _ e => (by cases e), fun n c e => (by simp at e), fun _ _ e => (by cases e), fun _ _ _ e => (by cases e), fun _ _ e => (by cases e)⟩
theorem ints_rps {K : PySem.W.Frag} {cl : ClA} {W : Wd} : ∀ ns : List Int, Rps K cl W (ns.map D.int) (ns.map V.int)
  | [] => Rps.nil
  | _ :: ns => Rps.cons .of_int (ints_rps ns)
theorem law_F (L : LawD) (hok : L.ok = true) (hb : ∀ i ∈ L.defs, BindI i) {i : DefI} (hi : i ∈ L.defs) {x : Str} (hkey : i.key = "law") (hat : i.d.at_ = (("law" : Str), none)) (hps : i.ps = [x]) (hkw : i.d.kwd.isEmpty = true) (hgl : _root_.He.Fa.glo "law" ∈ L.fa) (k n : Nat)
    (hlaw : ∀ ns : List Int, ns.length ≤ n → ∃ m', callN L.Pg k "law" [.nd false .scr (ns.map D.int)] [] = .ok (.bl true, m')) {P : Program} {w : World} {mg : Str → Option Value} {fa : Addr} {h : Heap} {K : PySem.W.Frag} (KX : K.In h) (G : h.Ns mainGlobals mg)
    (hmg : mg "law" = some (.ref fa)) (c : _root_.He.SaysX L.fa L.fn L.ts [] L.ex w h K) :
    ∃ (K : PySem.W.Frag) (fd : FuncData) (sp : Sp), K.In h ∧ (∀ (s : Shared) (u : Value), BindsTo s fd ⟨[u], []⟩ [(x, u)]) ∧
        (∀ (H : Hp) (a : Addr) (ns : List Int), ns.length ≤ n → Only H → SqL K H a (ns.map V.int) → sp [.ref a] H (fun v _ => v = .bl true) fun _ _ _ => False) ∧
        ∀ base : Heap, K.In base → base.Ns mainGlobals mg → FnOk P w K mg base CX0 (k + 1) fa fd [x] sp := by
  have S : Says L w K mg := Says.of hok hb KX G c
  obtain ⟨fd, F⟩ := S.fd i hi
  have e := hmg.symm.trans (S.glo "law" hgl)
  cases e
  have ea : _root_.He.fAd K i.d.at_ = _root_.He.ga K "law" := by rw [hat]; rfl
  refine ⟨K, fd, spN K (L.cl K) (callN L.Pg k) "law", KX, fun s u => ?_, fun H a ns hl _ hS => ?_, fun base _ _ => ?_⟩
  · have b := S.bd i hi i.d.name i.d.qual i.d.body i.d.scope
    rw [if_pos hkw] at b
    have := F.bindsA b s [u] (by rw [hps]; rfl)
    rw [hps] at this
    exact this
  · obtain ⟨m', e⟩ := hlaw ns hl
    refine ⟨_, [], _, _, m', sim_start, Rps.cons ?_ Rps.nil, e, fun W' H' v _ _ r => r.bl_inv⟩
    unfold Rp
    exact ⟨a, _, rfl, hS, ints_rps ns⟩
  · have := (lv_all (P := P) (base := base) S k).1 i hi fd F
    rw [hkey, ea, hps] at this
    exact this
end Mi
end
section
set_option Elab.async false
set_option linter.all false
set_option maxRecDepth 100000
set_option maxHeartbeats 0
namespace Cm
open PySem Mi
def _law_start_b0 : List S := [.asg (.var 1) (.bin .mod (.bin .add (.bin .add (.bin .mul (.var 1) (.cst (.int 48271))) (.var 2)) (.cst (.int 7))) (.cst (.int 2147483647)))]
/-- _law_start: 0 _law_script 1 _law_mixed 2 _law_cell -/
def _law_start_b : List S := [.asg (.var 1) (.cst (.int 1)),
  .for_ (.var 2) (.seq (.var 0)) _law_start_b0,
  .ret (.lst false [(.var 0), (.cst (.int 0)), (.var 1), (.cst (.int 0))])]
def _law_start_d : Df := .fn 1 3 _law_start_b
/-- _law_drawn: 0 _law_state 1 _law_many 2 _law_found 3 _law_cell -/
def _law_drawn_b : List S := [.ifs (.cmp .gt (.idx (.var 0) (.cst (.int 3))) (.cst (.int 0))) [.asg (.var 2) (.bin .mod (.idx (.var 0) (.cst (.int 3))) (.var 1)),
  .asg (.idx (.var 0) (.cst (.int 3))) (.bin .fdiv (.idx (.var 0) (.cst (.int 3))) (.var 1)),
  .ret (.var 2)] [],
  .asg (.idx (.var 0) (.cst (.int 1))) (.bin .add (.idx (.var 0) (.cst (.int 1))) (.cst (.int 1))),
  .ifs (.cmp .le (.idx (.var 0) (.cst (.int 1))) (.bi .len true [(.idx (.var 0) (.cst (.int 0)))])) [.asg (.var 3) (.idx (.idx (.var 0) (.cst (.int 0))) (.bin .sub (.idx (.var 0) (.cst (.int 1))) (.cst (.int 1)))),
  .asg (.idx (.var 0) (.cst (.int 3))) (.ite (.cmp .ge (.var 3) (.bin .pow (.cst (.int 10)) (.cst (.int 18)))) (.bin .fdiv (.var 3) (.var 1)) (.cst (.int 0))),
  .ret (.bin .mod (.var 3) (.var 1))] [],
  .asg (.idx (.var 0) (.cst (.int 2))) (.bin .mod (.bin .add (.bin .mul (.idx (.var 0) (.cst (.int 2))) (.cst (.int 48271))) (.cst (.int 11))) (.cst (.int 2147483647))),
  .ret (.bin .mod (.bin .fdiv (.idx (.var 0) (.cst (.int 2))) (.cst (.int 7))) (.var 1))]
def _law_drawn_d : Df := .fn 2 4 _law_drawn_b
/-- _law_same: 0 _law_found 1 _law_due 2 _law_k 3 _law_alike -/
def _law_same_b : List S := [.ifs (.isi (.var 1) [.tuple, .list]) [.ifs (.or (.not (.isi (.var 0) [.tuple, .list])) (.cmp .ne (.isi (.var 0) [.list]) (.isi (.var 1) [.list]))) [.ret (.cst (.bl false))] [],
  .ifs (.cmp .ne (.bi .len true [(.var 0)]) (.bi .len true [(.var 1)])) [.ret (.cst (.bl false))] [],
  .ret (.cmp .eq (.lc true (.var 2) [2] (.var 2) (.rng1 (.bi .len true [(.var 1)])) [(.not (.pcall false "_law_same" [(.idx (.var 0) (.var 2)), (.idx (.var 1) (.var 2))]))] .nil) (.lst true []))] [],
  .asg (.var 3) (.and (.cmp .eq (.isi (.var 0) [.bool]) (.isi (.var 1) [.bool])) (.cmp .eq (.isi (.var 0) [.int]) (.isi (.var 1) [.int]))),
  .ret (.and (.var 3) (.cmp .eq (.var 0) (.var 1)))]
def _law_same_d : Df := .fn 2 4 _law_same_b
/-- is_whole: 0 thing 1 low 2 high -/
def is_whole_b : List S := [.ret (.and (.isi (.var 0) [.int]) (.and (.not (.isi (.var 0) [.bool])) (.chain .le .le (.var 1) (.var 0) (.var 2))))]
def is_whole_d : Df := .fn 3 3 is_whole_b
/-- is_step: 0 thing -/
def is_step_b : List S := [.ret (.pcall false "is_whole" [(.var 0), (.bin .sub (.cst (.int 0)) (.cst (.int 99))), (.cst (.int 99))])]
def is_step_d : Df := .fn 1 1 is_step_b
/-- is_name: 0 thing 1 sign -/
def is_name_b : List S := [.ifs (.or (.not (.isi (.var 0) [.str])) (.not (.chain .le .le (.cst (.int 1)) (.bi .len true [(.var 0)]) (.cst (.int 8))))) [.ret (.cst (.bl false))] [],
  .ret (.cmp .eq (.lc true (.var 1) [1] (.var 1) (.seq (.var 0)) [(.cmp .nin (.var 1) (.cst (.str "abcdefghijklmnopqrstuvwxyz")))] .nil) (.lst true []))]
def is_name_d : Df := .fn 1 2 is_name_b
/-- is_kind: 0 thing -/
def is_kind_b : List S := [.ret (.and (.isi (.var 0) [.str]) (.cmp .inn (.var 0) (.cst (.nd true .tup [(.str "number"), (.str "list")]))))]
def is_kind_d : Df := .fn 1 1 is_kind_b
/-- is_param: 0 thing -/
def is_param_b : List S := [.ret (.and (.isi (.var 0) [.tuple]) (.and (.cmp .eq (.bi .len true [(.var 0)]) (.cst (.int 2))) (.and (.pcall false "is_name" [(.idx (.var 0) (.cst (.int 0)))]) (.pcall false "is_kind" [(.idx (.var 0) (.cst (.int 1)))]))))]
def is_param_d : Df := .fn 1 1 is_param_b
/-- is_head: 0 function 1 params 2 kind 3 tree 4 param 5 name 6 sort -/
def is_head_b : List S := [.ifs (.or (.not (.isi (.var 0) [.tuple])) (.or (.cmp .ne (.bi .len true [(.var 0)]) (.cst (.int 3))) (.not (.isi (.idx (.var 0) (.cst (.int 0))) [.tuple])))) [.ret (.cst (.bl false))] [],
  .asg (.tup [(.var 1), (.var 2), (.var 3)]) (.var 0),
  .ifs (.or (.cmp .gt (.bi .len true [(.var 1)]) (.cst (.int 4))) (.cmp .ne (.lc true (.var 4) [4] (.var 4) (.seq (.var 1)) [(.not (.pcall false "is_param" [(.var 4)]))] .nil) (.lst true []))) [.ret (.cst (.bl false))] [],
  .ret (.and (.cmp .eq (.bi .len true [(.sc (.var 5) [5, 6] (.tup [(.var 5), (.var 6)]) (.seq (.var 1)) [] .nil)]) (.bi .len true [(.var 1)])) (.pcall false "is_kind" [(.var 2)]))]
def is_head_d : Df := .fn 1 7 is_head_b
def need_heads_b0 : List S := [.ifs (.or (.cmp .eq (.var 1) (.cst (.int 6))) (.not (.pcall false "is_head" [(.var 2)]))) [.rse "" []] []]
/-- need_heads: 0 program 1 number 2 function -/
def need_heads_b : List S := [.ifs (.or (.not (.isi (.var 0) [.tuple])) (.cmp .eq (.var 0) (.tup []))) [.rse "" []] [],
  .for_ (.tup [(.var 1), (.var 2)]) (.enu (.var 0)) need_heads_b0]
def need_heads_d : Df := .fn 1 3 need_heads_b
/-- Checker.__init__: 0 self 1 program 2 number -/
def CheckerD_initD_b : List S := [.asg (.fld (.var 0) "functions") (.var 1),
  .asg (.fld (.var 0) "which") (.var 2),
  .asg (.fld (.var 0) "count") (.cst (.int 0))]
def CheckerD_initD_d : Df := .fn 3 3 CheckerD_initD_b
/-- Checker.need: 0 self 1 good 2 place -/
def Checker_need_b : List S := [.ifs (.not (.var 1)) [.rse "" []] []]
def Checker_need_d : Df := .fn 3 3 Checker_need_b
def Checker_look_b0 : List S := [.exp (.meth (.var 0) "look" [(.var 7), (.var 2), (.bin .add (.var 3) (.cst (.int 1)))])]
/-- Checker.look: 0 self 1 tree 2 known 3 within 4 place 5 word 6 kind 7 part -/
def Checker_look_b : List S := [.asg (.var 4) (.fld (.var 0) "count"),
  .augF (.var 0) "count" (.cst (.int 1)),
  .exp (.meth (.var 0) "need" [(.and (.cmp .lt (.var 4) (.cst (.int 60))) (.and (.cmp .le (.var 3) (.cst (.int 20))) (.and (.isi (.var 1) [.tuple]) (.cmp .ne (.var 1) (.tup []))))), (.var 4)]),
  .exp (.meth (.var 0) "need" [(.and (.isi (.idx (.var 1) (.cst (.int 0))) [.str]) (.cmp .eq (.kg ["let", "if", "claim", "tell"] [.int 4, .int 6, .int 5, .int 2] (.idx (.var 1) (.cst (.int 0))) (.cst (.int 0))) (.bi .len true [(.var 1)]))), (.var 4)]),
  .asg (.var 5) (.idx (.var 1) (.cst (.int 0))),
  .ifs (.cmp .eq (.var 5) (.cst (.str "tell"))) [.exp (.meth (.var 0) "need" [(.and (.pcall false "is_name" [(.idx (.var 1) (.cst (.int 1)))]) (.cmp .eq (.mt .get (.var 2) [(.idx (.var 1) (.cst (.int 1)))]) (.idx (.idx (.fld (.var 0) "functions") (.fld (.var 0) "which")) (.cst (.int 1))))), (.var 4)])] [.ifs (.cmp .eq (.var 5) (.cst (.str "let"))) [.asg (.var 6) (.meth (.var 0) "kind_of" [(.idx (.var 1) (.cst (.int 2))), (.var 2)]),
  .exp (.meth (.var 0) "need" [(.and (.pcall false "is_name" [(.idx (.var 1) (.cst (.int 1)))]) (.and (.cmp .nin (.idx (.var 1) (.cst (.int 1))) (.var 2)) (.isN true (.var 6)))), (.var 4)]),
  .exp (.meth (.var 0) "look" [(.idx (.var 1) (.cst (.int 3))), (.bin .bor (.var 2) (.dct true false [(.idx (.var 1) (.cst (.int 1))), (.var 6)])), (.bin .add (.var 3) (.cst (.int 1)))])] [.exp (.meth (.var 0) "need" [(.and (.pcall false "is_measure" [(.idx (.var 1) (.cst (.int 1))), (.var 2)]) (.and (.pcall false "is_measure" [(.idx (.var 1) (.cst (.int 2))), (.var 2)]) (.pcall false "is_step" [(.idx (.var 1) (.cst (.int 3)))]))), (.var 4)]),
  .for_ (.var 7) (.seq (.slcL (.var 1) (.cst (.int 4)))) Checker_look_b0]]]
def Checker_look_d : Df := .fn 4 8 Checker_look_b
def Checker_kind_of_x0 : E := (.dct true false [(.cst (.str "sum")), (.tup [(.cst (.str "number"))]), (.cst (.str "put")), (.tup [(.cst (.str "number")), (.cst (.str "list"))]), (.cst (.str "at")), (.tup [(.cst (.str "list")), (.cst (.str "number"))]), (.cst (.str "nil")), (.tup []), (.cst (.str "ask")), (.tup [])])
/-- Checker.kind_of: 0 self 1 deed 2 known 3 word 4 rest 5 wants -/
def Checker_kind_of_b : List S := [.ifs (.or (.not (.isi (.var 1) [.tuple])) (.or (.cmp .eq (.var 1) (.tup [])) (.not (.isi (.idx (.var 1) (.cst (.int 0))) [.str])))) [.ret (.cst .non)] [],
  .asg (.star [(.var 3)] 4) (.var 1),
  .ifs (.cmp .ne (.kg ["num", "sum", "len", "nil", "put", "head", "tail", "at", "ask", "call"] [.int 2, .int 3, .int 2, .int 1, .int 3, .int 2, .int 2, .int 3, .int 1, .int 3] (.var 3) (.cst (.int 0))) (.bi .len true [(.var 1)])) [.ret (.cst .non)] [],
  .ifs (.cmp .eq (.var 3) (.cst (.str "num"))) [.ret (.ite (.pcall false "is_step" [(.idx (.var 4) (.cst (.int 0)))]) (.cst (.str "number")) (.cst .non))] [],
  .ifs (.cmp .eq (.var 3) (.cst (.str "call"))) [.ret (.meth (.var 0) "called" [(.idx (.var 4) (.cst (.int 0))), (.idx (.var 4) (.cst (.int 1))), (.var 2)])] [],
  .asg (.var 5) (.mt .get Checker_kind_of_x0 [(.var 3), (.tup [(.cst (.str "list"))])]),
  .ifs (.or (.not (.pcall false "are_of" [(.slcU (.var 4) (.bi .len true [(.var 5)])), (.var 5), (.var 2)])) (.and (.cmp .eq (.var 3) (.cst (.str "sum"))) (.not (.pcall false "is_step" [(.idx (.var 4) (.cst (.int 1)))])))) [.ret (.cst .non)] [],
  .ret (.ite (.cmp .inn (.var 3) (.tup [(.cst (.str "nil")), (.cst (.str "put")), (.cst (.str "tail"))])) (.cst (.str "list")) (.cst (.str "number")))]
def Checker_kind_of_d : Df := .fn 3 6 Checker_kind_of_b
/-- Checker.called: 0 self 1 number 2 names 3 known 4 params 5 kind 6 tree 7 name 8 sort -/
def Checker_called_b : List S := [.ifs (.or (.not (.pcall false "is_whole" [(.var 1), (.cst (.int 1)), (.bin .sub (.bi .len true [(.fld (.var 0) "functions")]) (.cst (.int 1)))])) (.not (.isi (.var 2) [.tuple]))) [.ret (.cst .non)] [],
  .asg (.tup [(.var 4), (.var 5), (.var 6)]) (.idx (.fld (.var 0) "functions") (.var 1)),
  .ret (.ite (.pcall false "are_of" [(.var 2), (.lc true (.var 8) [7, 8] (.tup [(.var 7), (.var 8)]) (.seq (.var 4)) [] .nil), (.var 3)]) (.var 5) (.cst .non))]
def Checker_called_d : Df := .fn 4 9 Checker_called_b
/-- are_of: 0 names 1 kinds 2 known 3 k 4 name -/
def are_of_b : List S := [.ifs (.cmp .ne (.bi .len true [(.var 0)]) (.bi .len true [(.var 1)])) [.ret (.cst (.bl false))] [],
  .ret (.cmp .eq (.lc true (.var 3) [3, 4] (.tup [(.var 3), (.var 4)]) (.enu (.var 0)) [(.or (.not (.pcall false "is_name" [(.var 4)])) (.cmp .ne (.mt .get (.var 2) [(.var 4)]) (.idx (.var 1) (.var 3))))] .nil) (.lst true []))]
def are_of_d : Df := .fn 3 5 are_of_b
/-- is_measure: 0 thing 1 known -/
def is_measure_b : List S := [.ifs (.and (.cmp .eq (.var 0) (.tup [])) (.isi (.var 0) [.tuple])) [.ret (.cst (.bl true))] [],
  .ifs (.or (.not (.isi (.var 0) [.tuple])) (.or (.cmp .ne (.bi .len true [(.var 0)]) (.cst (.int 2))) (.not (.pcall false "is_name" [(.idx (.var 0) (.cst (.int 1)))])))) [.ret (.cst (.bl false))] [],
  .ret (.or (.and (.cmp .eq (.idx (.var 0) (.cst (.int 0))) (.cst (.str "of"))) (.cmp .eq (.mt .get (.var 1) [(.idx (.var 0) (.cst (.int 1)))]) (.cst (.str "number")))) (.and (.cmp .eq (.idx (.var 0) (.cst (.int 0))) (.cst (.str "len"))) (.cmp .eq (.mt .get (.var 1) [(.idx (.var 0) (.cst (.int 1)))]) (.cst (.str "list")))))]
def is_measure_d : Df := .fn 2 2 is_measure_b
def need_program_b0 : List S := [.exp (.meth (.call "Checker" [(.var 0), (.var 1)]) "look" [(.var 4), (.bi .dict true [(.var 2)]), (.cst (.int 1))])]
/-- need_program: 0 program 1 number 2 params 3 kind 4 tree -/
def need_program_b : List S := [.exp (.pcall false "need_heads" [(.var 0)]),
  .for_ (.tup [(.var 1), (.tup [(.var 2), (.var 3), (.var 4)])]) (.enu (.var 0)) need_program_b0]
def need_program_d : Df := .fn 1 5 need_program_b
/-- need_numbers: 0 numbers 1 one 2 k -/
def need_numbers_b : List S := [.ifs (.or (.not (.isi (.var 0) [.tuple])) (.not (.chain .le .le (.cst (.int 1)) (.bi .len true [(.var 0)]) (.cst (.int 5))))) [.rse "" []] [],
  .ifs (.cmp .ne (.lc true (.var 1) [1] (.var 1) (.seq (.var 0)) [(.not (.pcall false "is_whole" [(.var 1), (.bin .sub (.cst (.int 0)) (.cst (.int 9))), (.cst (.int 9))]))] .nil) (.lst true [])) [.rse "" []] [],
  .ifs (.cmp .ne (.lc true (.var 2) [2] (.var 2) (.rng2 (.cst (.int 1)) (.bi .len true [(.var 0)])) [(.cmp .le (.idx (.var 0) (.var 2)) (.idx (.var 0) (.bin .sub (.var 2) (.cst (.int 1)))))] .nil) (.lst true [])) [.rse "" []] []]
def need_numbers_d : Df := .fn 1 3 need_numbers_b
def slots_of_b0 : List S := [.exp (.mt .extend (.var 1) [(.ite (.cmp .eq (.var 3) (.cst (.str "list"))) (.lst true [(.tup [(.cst (.str "len")), (.var 2)]), (.tup [(.cst (.str "each")), (.var 2)])]) (.lst true [(.tup [(.cst (.str "of")), (.var 2)])]))])]
/-- slots_of: 0 kinds 1 found 2 k 3 kind -/
def slots_of_b : List S := [.asg (.var 1) (.lst false [(.tup [])]),
  .for_ (.tup [(.var 2), (.var 3)]) (.enu (.var 0)) slots_of_b0,
  .ret (.var 1)]
def slots_of_d : Df := .fn 1 4 slots_of_b
/-- kinds_at: 0 program 1 function 2 side 3 params 4 kind 5 tree 6 name 7 sort -/
def kinds_at_b : List S := [.asg (.tup [(.var 3), (.var 4), (.var 5)]) (.idx (.var 0) (.var 1)),
  .ret (.bin .add (.lc true (.var 7) [6, 7] (.tup [(.var 6), (.var 7)]) (.seq (.var 3)) [] .nil) (.ite (.cmp .eq (.var 2) (.cst (.str "behind"))) (.lst true [(.var 4)]) (.lst true [])))]
def kinds_at_d : Df := .fn 3 8 kinds_at_b
/-- lattice: 0 program 1 function 2 side 3 numbers 4 slots 5 one 6 other 7 number -/
def lattice_b : List S := [.asg (.var 4) (.pcall false "slots_of" [(.pcall false "kinds_at" [(.var 0), (.var 1), (.var 2)])]),
  .ret (.bi .sorted false [(.lc true (.tup [(.var 5), (.var 6), (.var 7)]) [5, 6, 7] (.var 5) (.seq (.var 4)) [] (.cons (.var 6) [6, 7] (.seq (.var 4)) [(.cmp .ne (.var 5) (.var 6))] (.cons (.var 7) [7] (.seq (.var 3)) [] .nil)))])]
def lattice_d : Df := .fn 4 8 lattice_b
/-- candidates: 0 program 1 function 2 numbers -/
def candidates_b : List S := [.exp (.pcall false "need_program" [(.var 0)]),
  .ifs (.not (.pcall false "is_whole" [(.var 1), (.cst (.int 0)), (.bin .sub (.bi .len true [(.var 0)]) (.cst (.int 1)))])) [.rse "" []] [],
  .exp (.pcall false "need_numbers" [(.var 2)]),
  .ret (.tup [(.call "lattice" [(.var 0), (.var 1), (.cst (.str "ahead")), (.var 2)]), (.call "lattice" [(.var 0), (.var 1), (.cst (.str "behind")), (.var 2)])])]
def candidates_d : Df := .fn 3 3 candidates_b
def _law_slots_b0 : List S := [.asg (.var 1) (.bin .add (.var 1) (.ite (.cmp .eq (.idx (.var 0) (.var 2)) (.cst (.str "number"))) (.lst true [(.tup [(.cst (.str "of")), (.var 2)])]) (.lst true [(.tup [(.cst (.str "len")), (.var 2)]), (.tup [(.cst (.str "each")), (.var 2)])])))]
/-- _law_slots: 0 _law_kinds_here 1 _law_found 2 _law_k -/
def _law_slots_b : List S := [.asg (.var 1) (.lst true [(.tup [])]),
  .for_ (.var 2) (.rng1 (.bi .len true [(.var 0)])) _law_slots_b0,
  .ret (.var 1)]
def _law_slots_d : Df := .fn 1 3 _law_slots_b
def _law_lattice_b0 : List S := [.asg (.var 3) (.bin .add (.var 3) (.lc true (.tup [(.var 4), (.var 5), (.var 6)]) [6] (.var 6) (.seq (.var 1)) [(.cmp .ne (.var 4) (.var 5))] .nil))]
def _law_lattice_b1 : List S := [.for_ (.var 5) (.seq (.var 2)) _law_lattice_b0]
/-- _law_lattice: 0 _law_kinds_here 1 _law_those 2 _law_slots_here 3 _law_found 4 _law_one 5 _law_other 6 _law_n -/
def _law_lattice_b : List S := [.asg (.var 2) (.pcall false "_law_slots" [(.var 0)]),
  .asg (.var 3) (.lst true []),
  .for_ (.var 4) (.seq (.var 2)) _law_lattice_b1,
  .ret (.bi .sorted true [(.var 3)])]
def _law_lattice_d : Df := .fn 2 7 _law_lattice_b
/-- _law_of: 0 _law_known 1 _law_kind 2 _law_name 3 _law_sort -/
def _law_of_b : List S := [.ret (.lc true (.var 2) [2, 3] (.tup [(.var 2), (.var 3)]) (.seq (.var 0)) [(.cmp .eq (.var 3) (.var 1))] .nil)]
def _law_of_d : Df := .fn 2 4 _law_of_b
/-- _law_measure: 0 _law_state 1 _law_known 2 _law_some 3 _law_name -/
def _law_measure_b : List S := [.asg (.var 2) (.bin .add (.lst true [(.tup [])]) (.lc true (.tup [(.cst (.str "of")), (.var 3)]) [3] (.var 3) (.seq (.pcall false "_law_of" [(.var 1), (.cst (.str "number"))])) [] .nil)),
  .asg (.var 2) (.bin .add (.var 2) (.lc true (.tup [(.cst (.str "len")), (.var 3)]) [3] (.var 3) (.seq (.pcall false "_law_of" [(.var 1), (.cst (.str "list"))])) [] .nil)),
  .ret (.idx (.var 2) (.call "_law_drawn" [(.var 0), (.bi .len true [(.var 2)])]))]
def _law_measure_d : Df := .fn 2 4 _law_measure_b
def _law_deed_b0 : List S := [.exp (.mt .append (.var 6) [(.tup [(.tup [(.cst (.str "sum")), (.var 7), (.var 5)]), (.cst (.str "number"))])]),
  .asg (.var 6) (.cat (.var 6) (.lc true (.tup [(.tup [(.cst (.str "put")), (.var 7), (.var 8)]), (.cst (.str "list"))]) [8] (.var 8) (.seq (.var 4)) [] .nil)),
  .asg (.var 6) (.cat (.var 6) (.lc true (.tup [(.tup [(.cst (.str "at")), (.var 8), (.var 7)]), (.cst (.str "number"))]) [8] (.var 8) (.seq (.var 4)) [] .nil))]
def _law_deed_b1 : List S := [.asg (.var 6) (.cat (.var 6) (.lst true [(.tup [(.tup [(.cst (.str "len")), (.var 8)]), (.cst (.str "number"))]), (.tup [(.tup [(.cst (.str "head")), (.var 8)]), (.cst (.str "number"))]), (.tup [(.tup [(.cst (.str "tail")), (.var 8)]), (.cst (.str "list"))])]))]
def _law_deed_b2 : List S := [.asg (.var 10) (.bin .add (.var 10) (.slcU (.slcL (.pcall false "_law_of" [(.var 2), (.var 11)]) (.bin .mod (.call "_law_drawn" [(.var 0), (.cst (.int 9))]) (.bi .max true [(.cst (.int 1)), (.bi .len true [(.pcall false "_law_of" [(.var 2), (.var 11)])])]))) (.cst (.int 1))))]
def _law_deed_b3 : List S := [.asg (.var 10) (.lst true []),
  .for_ (.tup [(.var 7), (.var 11)]) (.seq (.idx (.idx (.var 1) (.var 9)) (.cst (.int 0)))) _law_deed_b2,
  .ifs (.cmp .eq (.bi .len true [(.var 10)]) (.bi .len true [(.idx (.idx (.var 1) (.var 9)) (.cst (.int 0)))])) [.asg (.var 6) (.cat (.var 6) (.bin .mul (.lst true [(.tup [(.tup [(.cst (.str "call")), (.var 9), (.bi .tuple true [(.var 10)])]), (.idx (.idx (.var 1) (.var 9)) (.cst (.int 1)))])]) (.cst (.int 3))))] []]
/-- _law_deed: 0 _law_state 1 _law_heads 2 _law_known 3 _law_those 4 _law_lists 5 _law_n 6 _law_some 7 _law_name 8 _law_items 9 _law_number 10 _law_names 11 _law_kind -/
def _law_deed_b : List S := [.par [3, 4] [(.pcall false "_law_of" [(.var 2), (.cst (.str "number"))]), (.pcall false "_law_of" [(.var 2), (.cst (.str "list"))])],
  .asg (.var 5) (.bin .sub (.call "_law_drawn" [(.var 0), (.cst (.int 5))]) (.cst (.int 2))),
  .asg (.var 6) (.lst false [(.tup [(.tup [(.cst (.str "num")), (.var 5)]), (.cst (.str "number"))]), (.tup [(.tup [(.cst (.str "nil"))]), (.cst (.str "list"))]), (.tup [(.tup [(.cst (.str "ask"))]), (.cst (.str "number"))])]),
  .for_ (.var 7) (.seq (.var 3)) _law_deed_b0,
  .for_ (.var 8) (.seq (.var 4)) _law_deed_b1,
  .for_ (.var 9) (.rng2 (.cst (.int 1)) (.bi .len true [(.var 1)])) _law_deed_b3,
  .ret (.idx (.var 6) (.call "_law_drawn" [(.var 0), (.bi .len true [(.var 6)])]))]
def _law_deed_d : Df := .fn 3 12 _law_deed_b
/-- _law_tree: 0 _law_state 1 _law_heads 2 _law_kind 3 _law_known 4 _law_deep 5 _law_some 6 _law_name 7 _law_way 8 _law_deed_here 9 _law_sort 10 _law_head 11 _law_trees 12 _law_k -/
def _law_tree_b : List S := [.asg (.var 5) (.pcall false "_law_of" [(.var 3), (.var 2)]),
  .asg (.var 6) (.idx (.cst (.str "abcdefghijklmnopqrstuvwxyz")) (.bi .len true [(.var 3)])),
  .ifs (.and (.cmp .le (.var 4) (.cst (.int 0))) (.cmp .eq (.var 5) (.lst true []))) [.ret (.tup [(.cst (.str "let")), (.var 6), (.ite (.cmp .eq (.var 2) (.cst (.str "number"))) (.tup [(.cst (.str "num")), (.cst (.int 1))]) (.tup [(.cst (.str "nil"))])), (.tup [(.cst (.str "tell")), (.var 6)])])] [],
  .ifs (.or (.cmp .le (.var 4) (.cst (.int 0))) (.and (.cmp .ne (.var 5) (.lst true [])) (.cmp .eq (.call "_law_drawn" [(.var 0), (.cst (.int 5))]) (.cst (.int 0))))) [.ret (.tup [(.cst (.str "tell")), (.idx (.var 5) (.call "_law_drawn" [(.var 0), (.bi .len true [(.var 5)])]))])] [],
  .asg (.var 7) (.call "_law_drawn" [(.var 0), (.cst (.int 6))]),
  .ifs (.cmp .lt (.var 7) (.cst (.int 4))) [.asg (.tup [(.var 8), (.var 9)]) (.call "_law_deed" [(.var 0), (.var 1), (.var 3)]),
  .ret (.tup [(.cst (.str "let")), (.var 6), (.var 8), (.call "_law_tree" [(.var 0), (.var 1), (.var 2), (.bin .add (.var 3) (.lst true [(.tup [(.var 6), (.var 9)])])), (.bin .sub (.var 4) (.cst (.int 1)))])])] [],
  .asg (.var 10) (.tup [(.idx (.lst true [(.cst (.str "if")), (.cst (.str "claim"))]) (.bin .sub (.var 7) (.cst (.int 4)))), (.call "_law_measure" [(.var 0), (.var 3)]), (.call "_law_measure" [(.var 0), (.var 3)]), (.bin .sub (.call "_law_drawn" [(.var 0), (.cst (.int 5))]) (.cst (.int 2)))]),
  .asg (.var 11) (.lc true (.call "_law_tree" [(.var 0), (.var 1), (.var 2), (.var 3), (.bin .sub (.bin .sub (.var 4) (.cst (.int 1))) (.var 12))]) [12] (.var 12) (.rng1 (.bin .sub (.cst (.int 6)) (.var 7))) [] .nil),
  .ret (.bin .add (.var 10) (.bi .tuple true [(.var 11)]))]
def _law_tree_d : Df := .fn 5 13 _law_tree_b
def _law_program_b0 : List S := [.asg (.var 5) (.lc true (.idx (.lst true [(.cst (.str "number")), (.cst (.str "list"))]) (.call "_law_drawn" [(.var 0), (.cst (.int 2))])) [6] (.var 6) (.rng1 (.call "_law_drawn" [(.var 0), (.cst (.int 3))])) [] .nil),
  .asg (.var 7) (.bi .tuple true [(.lc true (.tup [(.idx (.cst (.str "abc")) (.var 6)), (.idx (.var 5) (.var 6))]) [6] (.var 6) (.rng1 (.bi .len true [(.var 5)])) [] .nil)]),
  .exp (.mt .append (.var 3) [(.tup [(.var 7), (.idx (.lst true [(.cst (.str "number")), (.cst (.str "list"))]) (.call "_law_drawn" [(.var 0), (.cst (.int 2))]))])])]
/-- _law_program: 0 _law_state 1 _law_many 2 _law_deep 3 _law_heads 4 _law_number 5 _law_kinds 6 _law_k 7 _law_params 8 _law_head -/
def _law_program_b : List S := [.asg (.var 3) (.lst false []),
  .for_ (.var 4) (.rng1 (.bin .add (.cst (.int 1)) (.call "_law_drawn" [(.var 0), (.var 1)]))) _law_program_b0,
  .ret (.bi .tuple true [(.lc true (.bin .add (.var 8) (.tup [(.call "_law_tree" [(.var 0), (.var 3), (.idx (.var 8) (.cst (.int 1))), (.bi .list true [(.idx (.var 8) (.cst (.int 0)))]), (.var 2)])])) [8] (.var 8) (.seq (.var 3)) [] .nil)])]
def _law_program_d : Df := .fn 3 9 _law_program_b
/-- _law_loops: 0 _law_state 1 _law_n 2 _law_m 3 _law_down 4 _law_range_of 5 _law_go 6 _law_begun 7 _law_over 8 _law_copy 9 _law_copies 10 _law_least 11 _law_leasts -/
def _law_loops_b : List S := [.par [1, 2] [(.call "_law_drawn" [(.var 0), (.cst (.int 3))]), (.bin .sub (.call "_law_drawn" [(.var 0), (.cst (.int 3))]) (.cst (.int 1)))],
  .asg (.var 3) (.tup [(.cst (.str "if")), (.tup [(.cst (.str "of")), (.cst (.str "n"))]), (.tup []), (.cst (.int 0)), (.tup [(.cst (.str "let")), (.cst (.str "e")), (.tup [(.cst (.str "nil"))]), (.tup [(.cst (.str "tell")), (.cst (.str "e"))])]), (.tup [(.cst (.str "let")), (.cst (.str "a")), (.tup [(.cst (.str "sum")), (.cst (.str "n")), (.bin .sub (.cst (.int 0)) (.cst (.int 1)))]), (.tup [(.cst (.str "let")), (.cst (.str "b")), (.tup [(.cst (.str "call")), (.cst (.int 1)), (.tup [(.cst (.str "a"))])]), (.tup [(.cst (.str "let")), (.cst (.str "c")), (.tup [(.cst (.str "put")), (.cst (.str "n")), (.cst (.str "b"))]), (.tup [(.cst (.str "tell")), (.cst (.str "c"))])])])])]),
  .asg (.var 4) (.tup [(.tup [(.tup [(.tup [(.cst (.str "n")), (.cst (.str "number"))])]), (.cst (.str "list")), (.tup [(.cst (.str "let")), (.cst (.str "x")), (.tup [(.cst (.str "call")), (.cst (.int 1)), (.tup [(.cst (.str "n"))])]), (.tup [(.cst (.str "tell")), (.cst (.str "x"))])])])]),
  .asg (.var 4) (.bin .add (.var 4) (.tup [(.tup [(.tup [(.tup [(.cst (.str "n")), (.cst (.str "number"))])]), (.cst (.str "list")), (.var 3)])])),
  .asg (.var 5) (.tup [(.cst (.str "if")), (.tup [(.cst (.str "len")), (.cst (.str "l"))]), (.tup [(.cst (.str "of")), (.cst (.str "i"))]), (.var 2), (.tup [(.cst (.str "let")), (.cst (.str "z")), (.tup [(.cst (.str "num")), (.cst (.int 0))]), (.tup [(.cst (.str "tell")), (.cst (.str "z"))])]), (.tup [(.cst (.str "let")), (.cst (.str "x")), (.tup [(.cst (.str "at")), (.cst (.str "l")), (.cst (.str "i"))]), (.tup [(.cst (.str "let")), (.cst (.str "j")), (.tup [(.cst (.str "sum")), (.cst (.str "i")), (.cst (.int 1))]), (.tup [(.cst (.str "let")), (.cst (.str "y")), (.tup [(.cst (.str "call")), (.cst (.int 1)), (.tup [(.cst (.str "l")), (.cst (.str "j"))])]), (.tup [(.cst (.str "tell")), (.cst (.str "y"))])])])])]),
  .asg (.var 6) (.tup [(.cst (.str "let")), (.cst (.str "i")), (.tup [(.cst (.str "num")), (.var 1)]), (.tup [(.cst (.str "let")), (.cst (.str "x")), (.tup [(.cst (.str "call")), (.cst (.int 1)), (.tup [(.cst (.str "l")), (.cst (.str "i"))])]), (.tup [(.cst (.str "tell")), (.cst (.str "x"))])])]),
  .asg (.var 7) (.tup [(.tup [(.tup [(.tup [(.cst (.str "l")), (.cst (.str "list"))])]), (.cst (.str "number")), (.var 6)])]),
  .asg (.var 7) (.bin .add (.var 7) (.tup [(.tup [(.tup [(.tup [(.cst (.str "l")), (.cst (.str "list"))]), (.tup [(.cst (.str "i")), (.cst (.str "number"))])]), (.cst (.str "number")), (.var 5)])])),
  .asg (.var 8) (.tup [(.cst (.str "if")), (.tup [(.cst (.str "len")), (.cst (.str "l"))]), (.tup []), (.var 2), (.tup [(.cst (.str "let")), (.cst (.str "e")), (.tup [(.cst (.str "nil"))]), (.tup [(.cst (.str "tell")), (.cst (.str "e"))])]), (.tup [(.cst (.str "let")), (.cst (.str "h")), (.tup [(.cst (.str "head")), (.cst (.str "l"))]), (.tup [(.cst (.str "let")), (.cst (.str "t")), (.tup [(.cst (.str "tail")), (.cst (.str "l"))]), (.tup [(.cst (.str "let")), (.cst (.str "r")), (.tup [(.cst (.str "call")), (.cst (.int 1)), (.tup [(.cst (.str "t"))])]), (.tup [(.cst (.str "let")), (.cst (.str "s")), (.tup [(.cst (.str "sum")), (.cst (.str "h")), (.var 1)]), (.tup [(.cst (.str "let")), (.cst (.str "o")), (.tup [(.cst (.str "put")), (.cst (.str "s")), (.cst (.str "r"))]), (.tup [(.cst (.str "tell")), (.cst (.str "o"))])])])])])])]),
  .asg (.var 9) (.tup [(.tup [(.tup [(.tup [(.cst (.str "l")), (.cst (.str "list"))])]), (.cst (.str "list")), (.tup [(.cst (.str "let")), (.cst (.str "r")), (.tup [(.cst (.str "call")), (.cst (.int 1)), (.tup [(.cst (.str "l"))])]), (.tup [(.cst (.str "claim")), (.tup [(.cst (.str "len")), (.cst (.str "r"))]), (.tup [(.cst (.str "len")), (.cst (.str "l"))]), (.cst (.int 0)), (.tup [(.cst (.str "tell")), (.cst (.str "r"))])])])])]),
  .asg (.var 9) (.bin .add (.var 9) (.tup [(.tup [(.tup [(.tup [(.cst (.str "l")), (.cst (.str "list"))])]), (.cst (.str "list")), (.var 8)])])),
  .asg (.var 10) (.tup [(.cst (.str "if")), (.tup [(.cst (.str "len")), (.cst (.str "l"))]), (.tup []), (.cst (.int 1)), (.tup [(.cst (.str "let")), (.cst (.str "h")), (.tup [(.cst (.str "head")), (.cst (.str "l"))]), (.tup [(.cst (.str "tell")), (.cst (.str "h"))])]), (.tup [(.cst (.str "let")), (.cst (.str "h")), (.tup [(.cst (.str "head")), (.cst (.str "l"))]), (.tup [(.cst (.str "let")), (.cst (.str "t")), (.tup [(.cst (.str "tail")), (.cst (.str "l"))]), (.tup [(.cst (.str "let")), (.cst (.str "r")), (.tup [(.cst (.str "call")), (.cst (.int 1)), (.tup [(.cst (.str "t"))])]), (.tup [(.cst (.str "if")), (.tup [(.cst (.str "of")), (.cst (.str "h"))]), (.tup [(.cst (.str "of")), (.cst (.str "r"))]), (.var 2), (.tup [(.cst (.str "tell")), (.cst (.str "h"))]), (.tup [(.cst (.str "tell")), (.cst (.str "r"))])])])])])]),
  .asg (.var 11) (.tup [(.tup [(.tup [(.tup [(.cst (.str "l")), (.cst (.str "list"))])]), (.cst (.str "number")), (.tup [(.cst (.str "if")), (.tup [(.cst (.str "len")), (.cst (.str "l"))]), (.tup []), (.cst (.int 0)), (.tup [(.cst (.str "let")), (.cst (.str "z")), (.tup [(.cst (.str "num")), (.cst (.int 0))]), (.tup [(.cst (.str "tell")), (.cst (.str "z"))])]), (.tup [(.cst (.str "let")), (.cst (.str "x")), (.tup [(.cst (.str "call")), (.cst (.int 1)), (.tup [(.cst (.str "l"))])]), (.tup [(.cst (.str "tell")), (.cst (.str "x"))])])])])]),
  .asg (.var 11) (.bin .add (.var 11) (.tup [(.tup [(.tup [(.tup [(.cst (.str "l")), (.cst (.str "list"))])]), (.cst (.str "number")), (.var 10)])])),
  .ret (.idx (.lst true [(.var 4), (.var 7), (.var 9), (.var 11)]) (.call "_law_drawn" [(.var 0), (.cst (.int 4))]))]
def _law_loops_d : Df := .fn 1 12 _law_loops_b
def _law_args_b0 : List S := [.asg (.var 5) (.bi .tuple true [(.lc true (.bin .sub (.call "_law_drawn" [(.var 0), (.cst (.int 7))]) (.cst (.int 2))) [6] (.var 6) (.rng1 (.call "_law_drawn" [(.var 0), (.cst (.int 5))])) [] .nil)]),
  .exp (.mt .append (.var 2) [(.ite (.cmp .eq (.var 4) (.cst (.str "list"))) (.var 5) (.bin .sub (.call "_law_drawn" [(.var 0), (.cst (.int 9))]) (.cst (.int 3))))])]
/-- _law_args: 0 _law_state 1 _law_program_here 2 _law_found 3 _law_name 4 _law_kind 5 _law_items 6 _law_k -/
def _law_args_b : List S := [.asg (.var 2) (.lst false []),
  .for_ (.tup [(.var 3), (.var 4)]) (.seq (.idx (.idx (.var 1) (.cst (.int 0))) (.cst (.int 0)))) _law_args_b0,
  .ret (.var 2)]
def _law_args_d : Df := .fn 2 7 _law_args_b
/-- _law_answers: 0 _law_state 1 _law_k -/
def _law_answers_b : List S := [.ret (.lc true (.bin .sub (.call "_law_drawn" [(.var 0), (.cst (.int 7))]) (.cst (.int 2))) [1] (.var 1) (.rng1 (.call "_law_drawn" [(.var 0), (.cst (.int 4))])) [] .nil)]
def _law_answers_d : Df := .fn 1 2 _law_answers_b
/-- _law_size: 0 _law_tree_here 1 _law_part -/
def _law_size_b : List S := [.ifs (.cmp .eq (.idx (.var 0) (.cst (.int 0))) (.cst (.str "tell"))) [.ret (.cst (.int 1))] [],
  .ret (.bin .add (.cst (.int 1)) (.bi .sum true [(.lc true (.pcall false "_law_size" [(.var 1)]) [1] (.var 1) (.seq (.slcL (.var 0) (.ite (.cmp .eq (.idx (.var 0) (.cst (.int 0))) (.cst (.str "let"))) (.cst (.int 3)) (.cst (.int 4))))) [] .nil)]))]
def _law_size_d : Df := .fn 1 2 _law_size_b
/-- _law_worth: 0 _law_measure_here 1 _law_known -/
def _law_worth_b : List S := [.ifs (.cmp .eq (.var 0) (.tup [])) [.ret (.cst (.int 0))] [],
  .ret (.ite (.cmp .eq (.idx (.var 0) (.cst (.int 0))) (.cst (.str "of"))) (.idx (.var 1) (.idx (.var 0) (.cst (.int 1)))) (.bi .len true [(.idx (.var 1) (.idx (.var 0) (.cst (.int 1))))]))]
def _law_worth_d : Df := .fn 2 2 _law_worth_b
/-- _law_did: 0 _law_r 1 _law_deed_here 2 _law_known 3 _law_spot 4 _law_word 5 _law_parts 6 _law_part 7 _law_name -/
def _law_did_b : List S := [.par [4, 5] [(.idx (.var 1) (.cst (.int 0))), (.lc true (.ite (.isi (.var 6) [.str]) (.mt .get (.var 2) [(.var 6), (.var 6)]) (.var 6)) [6] (.var 6) (.seq (.slcL (.var 1) (.cst (.int 1)))) [] .nil)],
  .ifs (.cmp .eq (.var 4) (.cst (.str "call"))) [.ret (.call "_law_call" [(.var 0), (.idx (.var 1) (.cst (.int 1))), (.lc true (.idx (.var 2) (.var 7)) [7] (.var 7) (.seq (.idx (.var 1) (.cst (.int 2)))) [] .nil)])] [],
  .ifs (.cmp .eq (.var 4) (.cst (.str "ask"))) [.ret (.ite (.cmp .ne (.idx (.var 0) (.cst (.str "answers"))) (.lst true [])) (.mt .pop (.idx (.var 0) (.cst (.str "answers"))) [(.cst (.int 0))]) (.cst (.int 0)))] [],
  .ifs (.and (.cmp .inn (.var 4) (.tup [(.cst (.str "head")), (.cst (.str "tail"))])) (.cmp .eq (.idx (.var 5) (.cst (.int 0))) (.tup []))) [.asg (.idx (.var 0) (.cst (.str "why"))) (.bin .add (.tup [(.cst (.str "fault")), (.cst (.str "empty"))]) (.var 3)),
  .ret (.cst .non)] [],
  .ifs (.and (.cmp .eq (.var 4) (.cst (.str "at"))) (.not (.chain .le .lt (.cst (.int 0)) (.idx (.var 5) (.cst (.int 1))) (.bi .len true [(.idx (.var 5) (.cst (.int 0)))])))) [.asg (.idx (.var 0) (.cst (.str "why"))) (.bin .add (.tup [(.cst (.str "fault")), (.cst (.str "beyond"))]) (.var 3)),
  .ret (.cst .non)] [],
  .ifs (.cmp .eq (.var 4) (.cst (.str "at"))) [.ret (.idx (.idx (.var 5) (.cst (.int 0))) (.idx (.var 5) (.cst (.int 1))))] [],
  .ifs (.cmp .inn (.var 4) (.tup [(.cst (.str "head")), (.cst (.str "tail"))])) [.ret (.ite (.cmp .eq (.var 4) (.cst (.str "head"))) (.idx (.idx (.var 5) (.cst (.int 0))) (.cst (.int 0))) (.slcL (.idx (.var 5) (.cst (.int 0))) (.cst (.int 1))))] [],
  .ifs (.cmp .eq (.var 4) (.cst (.str "put"))) [.ret (.bin .add (.tup [(.idx (.var 5) (.cst (.int 0)))]) (.idx (.var 5) (.cst (.int 1))))] [],
  .ifs (.cmp .eq (.var 4) (.cst (.str "len"))) [.ret (.bi .len true [(.idx (.var 5) (.cst (.int 0)))])] [],
  .ret (.ite (.cmp .eq (.var 4) (.cst (.str "nil"))) (.tup []) (.bi .sum true [(.var 5)]))]
def _law_did_d : Df := .fn 4 8 _law_did_b
def _law_call_b0 : List S := [.asg (.var 10) (.cst (.int 1)),
  .ifs (.cmp .eq (.idx (.var 6) (.cst (.int 0))) (.cst (.str "let"))) [.asg (.idx (.var 7) (.idx (.var 6) (.cst (.int 1)))) (.call "_law_did" [(.var 0), (.idx (.var 6) (.cst (.int 2))), (.var 7), (.tup [(.var 1), (.var 9)])]),
  .asg (.var 6) (.idx (.var 6) (.cst (.int 3)))] [.ifs (.cmp .le (.bin .sub (.pcall true "_law_worth" [(.idx (.var 6) (.cst (.int 1))), (.var 7)]) (.pcall true "_law_worth" [(.idx (.var 6) (.cst (.int 2))), (.var 7)])) (.idx (.var 6) (.cst (.int 3)))) [.asg (.var 6) (.idx (.var 6) (.cst (.int 4)))] [.ifs (.cmp .eq (.idx (.var 6) (.cst (.int 0))) (.cst (.str "claim"))) [.asg (.idx (.var 0) (.cst (.str "why"))) (.tup [(.cst (.str "fault")), (.cst (.str "claim")), (.var 1), (.var 9)])] [.asg (.var 10) (.bin .add (.cst (.int 1)) (.pcall false "_law_size" [(.idx (.var 6) (.cst (.int 4)))])),
  .asg (.var 6) (.idx (.var 6) (.cst (.int 5)))]]],
  .ifs (.isN true (.idx (.var 0) (.cst (.str "why")))) [.ret (.cst .non)] [],
  .asg (.var 9) (.bin .add (.var 9) (.var 10))]
/-- _law_call: 0 _law_r 1 _law_number 2 _law_args_here 3 _law_at 4 _law_params 5 _law_kind 6 _law_tree_here 7 _law_known 8 _law_k 9 _law_place 10 _law_more -/
def _law_call_b : List S := [.asg (.var 3) (.bi .len true [(.idx (.var 0) (.cst (.str "calls")))]),
  .ifs (.cmp .eq (.var 3) (.idx (.var 0) (.cst (.str "most")))) [.asg (.idx (.var 0) (.cst (.str "why"))) (.tup [(.cst (.str "long"))]),
  .ret (.cst .non)] [],
  .exp (.mt .append (.idx (.var 0) (.cst (.str "calls"))) [(.tup [(.var 1), (.bi .tuple true [(.var 2)]), (.cst .non)])]),
  .asg (.tup [(.var 4), (.var 5), (.var 6)]) (.idx (.idx (.var 0) (.cst (.str "program"))) (.var 1)),
  .asg (.var 7) (.bi .dict false [(.lc true (.tup [(.idx (.idx (.var 4) (.var 8)) (.cst (.int 0))), (.idx (.var 2) (.var 8))]) [8] (.var 8) (.rng1 (.bi .len true [(.var 4)])) [] .nil)]),
  .asg (.var 9) (.cst (.int 0)),
  .whl (.cmp .ne (.idx (.var 6) (.cst (.int 0))) (.cst (.str "tell"))) _law_call_b0,
  .asg (.idx (.idx (.var 0) (.cst (.str "calls"))) (.var 3)) (.tup [(.var 1), (.bi .tuple true [(.var 2)]), (.idx (.var 7) (.idx (.var 6) (.cst (.int 1))))]),
  .ret (.idx (.var 7) (.idx (.var 6) (.cst (.int 1))))]
def _law_call_d : Df := .fn 3 11 _law_call_b
/-- _law_run: 0 _law_program_here 1 _law_args_here 2 _law_answers_here 3 _law_bound 4 _law_r 5 _law_worth_here -/
def _law_run_b : List S := [.asg (.var 4) (.dct false false [(.cst (.str "program")), (.var 0), (.cst (.str "answers")), (.bi .list false [(.var 2)]), (.cst (.str "most")), (.var 3), (.cst (.str "calls")), (.lst false []), (.cst (.str "why")), (.cst .non)]),
  .asg (.var 5) (.call "_law_call" [(.var 4), (.cst (.int 0)), (.bi .list true [(.var 1)])]),
  .ret (.tup [(.ite (.isN false (.idx (.var 4) (.cst (.str "why")))) (.tup [(.cst (.str "told")), (.var 5)]) (.idx (.var 4) (.cst (.str "why")))), (.idx (.var 4) (.cst (.str "calls")))])]
def _law_run_d : Df := .fn 4 6 _law_run_b
/-- is_worth: 0 thing -/
def is_worth_b : List S := [.ret (.pcall false "is_whole" [(.var 0), (.bin .sub (.cst (.int 0)) (.cst (.int 1000000))), (.cst (.int 1000000))])]
def is_worth_d : Df := .fn 1 1 is_worth_b
/-- is_items: 0 thing 1 most 2 one -/
def is_items_b : List S := [.ret (.and (.isi (.var 0) [.tuple]) (.and (.cmp .le (.bi .len true [(.var 0)]) (.var 1)) (.cmp .eq (.lc true (.var 2) [2] (.var 2) (.seq (.var 0)) [(.not (.pcall false "is_worth" [(.var 2)]))] .nil) (.lst true []))))]
def is_items_d : Df := .fn 2 3 is_items_b
def need_args_b0 : List S := [.ifs (.not (.ite (.cmp .eq (.var 4) (.cst (.str "list"))) (.pcall false "is_items" [(.var 5), (.cst (.int 40))]) (.pcall false "is_worth" [(.var 5)]))) [.rse "" []] []]
/-- need_args: 0 program 1 args 2 params 3 name 4 kind 5 arg -/
def need_args_b : List S := [.asg (.var 2) (.idx (.idx (.var 0) (.cst (.int 0))) (.cst (.int 0))),
  .ifs (.or (.not (.isi (.var 1) [.list])) (.cmp .ne (.bi .len true [(.var 1)]) (.bi .len true [(.var 2)]))) [.rse "" []] [],
  .for_ (.tup [(.tup [(.var 3), (.var 4)]), (.var 5)]) (.zip (.var 2) (.var 1)) need_args_b0]
def need_args_d : Df := .fn 2 6 need_args_b
/-- Run.__init__: 0 self 1 program 2 answers 3 most -/
def RunD_initD_b : List S := [.asg (.fld (.var 0) "functions") (.var 1),
  .asg (.fld (.var 0) "answers") (.bi .list false [(.var 2)]),
  .asg (.fld (.var 0) "most") (.var 3),
  .asg (.fld (.var 0) "calls") (.lst false [])]
def RunD_initD_d : Df := .fn 4 4 RunD_initD_b
def Run_call_b0 : List S := [.asg (.var 12) (.bin .add (.var 11) (.cst (.int 1))),
  .ifs (.cmp .eq (.idx (.var 6) (.cst (.int 0))) (.cst (.str "let"))) [.asg (.tup [(.idx (.var 7) (.idx (.var 6) (.cst (.int 1)))), (.var 13)]) (.meth (.var 0) "deed" [(.idx (.var 6) (.cst (.int 2))), (.var 7), (.tup [(.var 1), (.var 11)])]),
  .ifs (.isN true (.var 13)) [.ret (.tup [(.cst .non), (.var 13)])] [],
  .asg (.var 6) (.idx (.var 6) (.cst (.int 3)))] [.ifs (.cmp .le (.bin .sub (.pcall true "worth_of" [(.idx (.var 6) (.cst (.int 1))), (.var 7)]) (.pcall true "worth_of" [(.idx (.var 6) (.cst (.int 2))), (.var 7)])) (.idx (.var 6) (.cst (.int 3)))) [.asg (.var 6) (.idx (.var 6) (.cst (.int 4)))] [.ifs (.cmp .eq (.idx (.var 6) (.cst (.int 0))) (.cst (.str "claim"))) [.ret (.tup [(.cst .non), (.tup [(.cst (.str "fault")), (.cst (.str "claim")), (.var 1), (.var 11)])])] [.asg (.var 12) (.bin .add (.bin .add (.var 11) (.cst (.int 1))) (.pcall false "size_of" [(.idx (.var 6) (.cst (.int 4)))])),
  .asg (.var 6) (.idx (.var 6) (.cst (.int 5)))]]],
  .asg (.var 11) (.var 12)]
/-- Run.call: 0 self 1 number 2 args 3 at 4 params 5 kind 6 tree 7 known 8 name 9 sort 10 arg 11 place 12 after 13 why -/
def Run_call_b : List S := [.asg (.var 3) (.bi .len true [(.fld (.var 0) "calls")]),
  .ifs (.cmp .eq (.var 3) (.fld (.var 0) "most")) [.ret (.tup [(.cst .non), (.tup [(.cst (.str "long"))])])] [],
  .exp (.mt .append (.fld (.var 0) "calls") [(.tup [(.var 1), (.bi .tuple true [(.var 2)]), (.cst .non)])]),
  .asg (.tup [(.var 4), (.var 5), (.var 6)]) (.idx (.fld (.var 0) "functions") (.var 1)),
  .asg (.var 7) (.dc false false (.var 8) (.var 10) [10, 8, 9] (.tup [(.tup [(.var 8), (.var 9)]), (.var 10)]) (.zip (.var 4) (.var 2)) [] .nil),
  .asg (.var 11) (.cst (.int 0)),
  .whl (.cmp .ne (.idx (.var 6) (.cst (.int 0))) (.cst (.str "tell"))) Run_call_b0,
  .asg (.idx (.fld (.var 0) "calls") (.var 3)) (.tup [(.var 1), (.bi .tuple true [(.var 2)]), (.idx (.var 7) (.idx (.var 6) (.cst (.int 1))))]),
  .ret (.tup [(.idx (.var 7) (.idx (.var 6) (.cst (.int 1)))), (.cst .non)])]
def Run_call_d : Df := .fn 3 14 Run_call_b
/-- Run.deed: 0 self 1 deed 2 known 3 spot 4 word 5 rest 6 name 7 first -/
def Run_deed_b : List S := [.asg (.star [(.var 4)] 5) (.var 1),
  .ifs (.cmp .eq (.var 4) (.cst (.str "num"))) [.ret (.tup [(.idx (.var 5) (.cst (.int 0))), (.cst .non)])] [],
  .ifs (.cmp .eq (.var 4) (.cst (.str "nil"))) [.ret (.tup [(.tup []), (.cst .non)])] [],
  .ifs (.cmp .eq (.var 4) (.cst (.str "ask"))) [.ret (.tup [(.ite (.cmp .ne (.fld (.var 0) "answers") (.lst true [])) (.mt .pop (.fld (.var 0) "answers") [(.cst (.int 0))]) (.cst (.int 0))), (.cst .non)])] [],
  .ifs (.cmp .eq (.var 4) (.cst (.str "call"))) [.ret (.meth (.var 0) "call" [(.idx (.var 5) (.cst (.int 0))), (.lc true (.idx (.var 2) (.var 6)) [6] (.var 6) (.seq (.idx (.var 5) (.cst (.int 1)))) [] .nil)])] [],
  .asg (.var 7) (.idx (.var 2) (.idx (.var 5) (.cst (.int 0)))),
  .ifs (.cmp .eq (.var 4) (.cst (.str "sum"))) [.ret (.tup [(.bin .add (.var 7) (.idx (.var 5) (.cst (.int 1)))), (.cst .non)])] [],
  .ifs (.cmp .eq (.var 4) (.cst (.str "len"))) [.ret (.tup [(.bi .len true [(.var 7)]), (.cst .non)])] [],
  .ifs (.cmp .eq (.var 4) (.cst (.str "put"))) [.ret (.tup [(.bin .add (.tup [(.var 7)]) (.idx (.var 2) (.idx (.var 5) (.cst (.int 1))))), (.cst .non)])] [],
  .ifs (.cmp .eq (.var 4) (.cst (.str "at"))) [.ifs (.not (.chain .le .lt (.cst (.int 0)) (.idx (.var 2) (.idx (.var 5) (.cst (.int 1)))) (.bi .len true [(.var 7)]))) [.ret (.tup [(.cst .non), (.bin .add (.tup [(.cst (.str "fault")), (.cst (.str "beyond"))]) (.var 3))])] [],
  .ret (.tup [(.idx (.var 7) (.idx (.var 2) (.idx (.var 5) (.cst (.int 1))))), (.cst .non)])] [],
  .ifs (.cmp .eq (.var 7) (.tup [])) [.ret (.tup [(.cst .non), (.bin .add (.tup [(.cst (.str "fault")), (.cst (.str "empty"))]) (.var 3))])] [],
  .ret (.tup [(.ite (.cmp .eq (.var 4) (.cst (.str "head"))) (.idx (.var 7) (.cst (.int 0))) (.slcL (.var 7) (.cst (.int 1)))), (.cst .non)])]
def Run_deed_d : Df := .fn 4 8 Run_deed_b
/-- worth_of: 0 measure 1 known -/
def worth_of_b : List S := [.ifs (.cmp .eq (.var 0) (.tup [])) [.ret (.cst (.int 0))] [],
  .ret (.ite (.cmp .eq (.idx (.var 0) (.cst (.int 0))) (.cst (.str "of"))) (.idx (.var 1) (.idx (.var 0) (.cst (.int 1)))) (.bi .len true [(.idx (.var 1) (.idx (.var 0) (.cst (.int 1))))]))]
def worth_of_d : Df := .fn 2 2 worth_of_b
/-- size_of: 0 tree 1 part -/
def size_of_b : List S := [.ifs (.cmp .eq (.idx (.var 0) (.cst (.int 0))) (.cst (.str "tell"))) [.ret (.cst (.int 1))] [],
  .ifs (.cmp .eq (.idx (.var 0) (.cst (.int 0))) (.cst (.str "let"))) [.ret (.bin .add (.cst (.int 1)) (.pcall false "size_of" [(.idx (.var 0) (.cst (.int 3)))]))] [],
  .ret (.bin .add (.cst (.int 1)) (.bi .sum true [(.lc true (.pcall false "size_of" [(.var 1)]) [1] (.var 1) (.seq (.slcL (.var 0) (.cst (.int 4)))) [] .nil)]))]
def size_of_d : Df := .fn 1 2 size_of_b
/-- run: 0 program 1 args 2 answers 3 most 4 one 5 worth 6 why -/
def run_b : List S := [.exp (.pcall false "need_program" [(.var 0)]),
  .exp (.pcall false "need_args" [(.var 0), (.var 1)]),
  .ifs (.or (.not (.isi (.var 2) [.list])) (.not (.pcall false "is_items" [(.bi .tuple true [(.var 2)]), (.bi .len true [(.var 2)])]))) [.rse "" []] [],
  .ifs (.not (.pcall false "is_whole" [(.var 3), (.cst (.int 1)), (.cst (.int 300))])) [.rse "" []] [],
  .asg (.var 4) (.call "Run" [(.var 0), (.var 2), (.var 3)]),
  .asg (.tup [(.var 5), (.var 6)]) (.meth (.var 4) "call" [(.cst (.int 0)), (.var 1)]),
  .ret (.tup [(.ite (.isN false (.var 6)) (.tup [(.cst (.str "told")), (.var 5)]) (.var 6)), (.fld (.var 4) "calls")])]
def run_d : Df := .fn 4 7 run_b
/-- _law_far: 0 _law_state 1 _law_thing 2 _law_part -/
def _law_far_b : List S := [.ifs (.and (.isi (.var 1) [.tuple]) (.cmp .eq (.slcU (.var 1) (.cst (.int 1))) (.tup [(.cst (.str "call"))]))) [.ret (.var 1)] [],
  .ifs (.isi (.var 1) [.tuple]) [.ret (.bi .tuple true [(.lc true (.call "_law_far" [(.var 0), (.var 2)]) [2] (.var 2) (.seq (.var 1)) [] .nil)])] [],
  .ret (.ite (.isi (.var 1) [.int]) (.bin .sub (.call "_law_drawn" [(.var 0), (.cst (.int 199))]) (.cst (.int 99))) (.var 1))]
def _law_far_d : Df := .fn 2 3 _law_far_b
end Cm
end
section
set_option linter.all false
set_option Elab.async false
set_option maxRecDepth 100000
set_option maxHeartbeats 2000000
/-! Pm0: programs as plain data. -/
namespace Pm
open PySem
inductive Kn where
  | nu | li
  deriving DecidableEq
def Kn.s : Kn → Str
  | .nu => "number"
  | .li => "list"
inductive De where
  | num (n : Int) | sum (x : Str) (n : Int) | len (x : Str) | nil | put (x y : Str) | head (x : Str) | tail (x : Str) | at (x y : Str) | ask | call (f : Nat) (xs : List Str)
  deriving DecidableEq
def De.p : De → PyData
  | .num n => .tuple [.str "num", .int n]
  | .sum x n => .tuple [.str "sum", .str x, .int n]
  | .len x => .tuple [.str "len", .str x]
  | .nil => .tuple [.str "nil"]
  | .put x y => .tuple [.str "put", .str x, .str y]
  | .head x => .tuple [.str "head", .str x]
  | .tail x => .tuple [.str "tail", .str x]
  | .at x y => .tuple [.str "at", .str x, .str y]
  | .ask => .tuple [.str "ask"]
  | .call f xs => .tuple [.str "call", .int f, .tuple (xs.map PyData.str)]
inductive Me where
  | zero | of (x : Str) | len (x : Str)
  deriving DecidableEq
def Me.p : Me → PyData
  | .zero => .tuple []
  | .of x => .tuple [.str "of", .str x]
  | .len x => .tuple [.str "len", .str x]
inductive Tr where
  | tell (x : Str) | let_ (x : Str) (d : De) (t : Tr) | claim (a b : Me) (n : Int) (t : Tr) | if_ (a b : Me) (n : Int) (t u : Tr)
  deriving DecidableEq
def Tr.p : Tr → PyData
  | .tell x => .tuple [.str "tell", .str x]
  | .let_ x d t => .tuple [.str "let", .str x, d.p, t.p]
  | .claim a b n t => .tuple [.str "claim", a.p, b.p, .int n, t.p]
  | .if_ a b n t u => .tuple [.str "if", a.p, b.p, .int n, t.p, u.p]
structure Fu where
  ps : List (Str × Kn)
  k : Kn
  t : Tr
def parP (q : Str × Kn) : PyData := .tuple [.str q.1, .str q.2.s]
def Fu.p (f : Fu) : PyData := .tuple [.tuple (f.ps.map parP), .str f.k.s, f.t.p]
abbrev Pr := List Fu
def Pr.p (P : Pr) : PyData := .tuple (P.map Fu.p)
/-! ### what the checker asks -/
abbrev Kno := List (Str × Kn)
def kgets (x : Str) : Kno → Option Kn
  | [] => none
  | q :: l => if q.1 = x then some q.2 else kgets x l
def isName (x : Str) : Bool := decide (1 ≤ x.length ∧ x.length ≤ 8) && x.cps.toList.all fun c => decide (97 ≤ c ∧ c ≤ 122)
def isStep (n : Int) : Bool := decide (-99 ≤ n ∧ n ≤ 99)
/-- the names are of these kinds -/
def areOf (κ : Kno) : List Str → List Kn → Bool
  | [], [] => true
  | x :: xs, k :: ks => isName x && decide (kgets x κ = some k) && areOf κ xs ks
  | _, _ => false
def kindOf (P : Pr) (κ : Kno) : De → Option Kn
  | .num n => if isStep n then some .nu else none
  | .sum x n => if areOf κ [x] [.nu] && isStep n then some .nu else none
  | .len x => if areOf κ [x] [.li] then some .nu else none
  | .nil => some .li
  | .put x y => if areOf κ [x, y] [.nu, .li] then some .li else none
  | .head x => if areOf κ [x] [.li] then some .nu else none
  | .tail x => if areOf κ [x] [.li] then some .li else none
  | .at x y => if areOf κ [x, y] [.li, .nu] then some .nu else none
  | .ask => some .nu
  | .call f xs => if 1 ≤ f then (match P[f]? with
    | some g => if areOf κ xs (g.ps.map (·.2)) then some g.k else none
    | none => none) else none
def isMe (κ : Kno) : Me → Bool
  | .zero => true
  | .of x => isName x && decide (kgets x κ = some .nu)
  | .len x => isName x && decide (kgets x κ = some .li)
def Tr.size : Tr → Nat
  | .tell _ => 1
  | .let_ _ _ t => 1 + t.size
  | .claim _ _ _ t => 1 + t.size
  | .if_ _ _ _ t u => 1 + t.size + u.size
def Tr.dep : Tr → Nat
  | .tell _ => 1
  | .let_ _ _ t => 1 + t.dep
  | .claim _ _ _ t => 1 + t.dep
  | .if_ _ _ _ t u => 1 + max t.dep u.dep
/-- a tree that can be, its size aside: kind told, names known, how deep -/
def okTr (P : Pr) (k : Kn) : Kno → Nat → Tr → Bool
  | κ, w, .tell x => decide (w ≤ 20) && (isName x && decide (kgets x κ = some k))
  | κ, w, .let_ x d t => decide (w ≤ 20) && (isName x && (decide (kgets x κ = none) && (match kindOf P κ d with
    | some j => okTr P k (κ ++ [(x, j)]) (w + 1) t
    | none => false)))
  | κ, w, .claim a b n t => decide (w ≤ 20) && (isMe κ a && (isMe κ b && (isStep n && okTr P k κ (w + 1) t)))
  | κ, w, .if_ a b n t u => decide (w ≤ 20) && (isMe κ a && (isMe κ b && (isStep n && (okTr P k κ (w + 1) t && okTr P k κ (w + 1) u))))
def okHd (f : Fu) : Bool := decide (f.ps.length ≤ 4) && (f.ps.all (fun q => isName q.1) && decide (f.ps.map (·.1)).Nodup)
def okFu (P : Pr) (f : Fu) : Bool := okHd f && (okTr P f.k f.ps 1 f.t && decide (f.t.size ≤ 60))
def okPr (P : Pr) : Bool := decide (1 ≤ P.length ∧ P.length ≤ 6) && P.all (okFu P)
theorem okTr_dep {P : Pr} {k : Kn} : ∀ {t : Tr} {κ : Kno} {w : Nat}, okTr P k κ w t = true → w + t.dep ≤ 21
  | .tell x, κ, w, h => by
    simp only [okTr, Bool.and_eq_true, decide_eq_true_eq] at h
    simp only [Tr.dep]; omega
  | .let_ x d t, κ, w, h => by
    simp only [okTr, Bool.and_eq_true, decide_eq_true_eq] at h
    obtain ⟨h1, h2, h3, h4⟩ := h
    split at h4
    · have := okTr_dep h4
      simp only [Tr.dep]; omega
    · cases h4
  | .claim a b n t, κ, w, h => by
    simp only [okTr, Bool.and_eq_true, decide_eq_true_eq] at h
    have := okTr_dep h.2.2.2.2
    simp only [Tr.dep]; omega
  | .if_ a b n t u, κ, w, h => by
    simp only [okTr, Bool.and_eq_true, decide_eq_true_eq] at h
    have := okTr_dep h.2.2.2.2.1
    have := okTr_dep h.2.2.2.2.2
    simp only [Tr.dep]; omega
/-! ### texts are texts, nothing is too deep -/
theorem strOk_name {x : Str} (h : isName x = true) : PyData.strOk x = true := by
  unfold isName at h
  rw [Bool.and_eq_true] at h
  unfold PyData.strOk
  rw [Array.all_eq_true]
  intro i hi
  have := List.all_eq_true.mp h.2 x.cps[i] (by simp)
  simp at this ⊢
  omega
end Pm
end
section
set_option linter.all false
set_option Elab.async false
set_option maxRecDepth 100000
set_option maxHeartbeats 2000000
/-! Mp0: reckoning with the evaluator: wishes, data by their plain form. -/
namespace Mi
open PySem
/-- a tuple, of either shape -/
def T' (o b : Bool) (ds : List D) : D := .nd o (if b then .tupP else .tup) ds
@[simp] theorem tup_T' {o : Bool} {ds : List D} : D.nd o .tup ds = T' o false ds := rfl
@[simp] theorem tupP_T' {o : Bool} {ds : List D} : D.nd o .tupP ds = T' o true ds := rfl
/-- a mark: what it stands at is not looked into -/
structure U {α : Sort _} (a : α) : Type where
  mk ::
def V {α : Type} (r : R α) (Q : α → Prop) : Prop := ∃ a, r = .ok a ∧ Q a
def Bv (c : Bool) (A B : Prop) : Prop := (c = true → A) ∧ (c = false → B)
/-- r ends well, and Q holds; only r is looked at till it is known -/
def W {α : Type} (r : R α) (Q : α → Prop) (u : U Q := .mk) : Prop := ∃ a, r = .ok a ∧ Q a
/-- a branch: only the test is looked at till it is known -/
def Br (c : Bool) (A B : Prop) (u : U A := .mk) (v : U B := .mk) : Prop := (c = true → A) ∧ (c = false → B)
@[simp] theorem Br_t {A B : Prop} : Br true A B = A := by simp [Br]
@[simp] theorem Br_f {A B : Prop} : Br false A B = B := by simp [Br]
@[simp] theorem Bv_t {A B : Prop} : Bv true A B = A := by simp [Bv]
@[simp] theorem Bv_f {A B : Prop} : Bv false A B = B := by simp [Bv]
theorem Br.mk {c : Bool} {A B : Prop} (h1 : c = true → A) (h2 : c = false → B) : Br c A B := ⟨h1, h2⟩
theorem Br_same {c : Bool} {A : Prop} : Br c A A = A := by cases c <;> simp
section
variable {α β : Type} {Q Q' : α → Prop}
@[simp] theorem V_ok {a : α} : V (.ok a) Q ↔ Q a := ⟨fun ⟨_, h, q⟩ => by cases h; exact q, fun q => ⟨a, rfl, q⟩⟩
@[simp] theorem V_bad : V (.bad : R α) Q ↔ False := ⟨fun ⟨_, h, _⟩ => (by cases h), False.elim⟩
@[simp] theorem V_exc {C : Str} {fs : List (Str × D)} {m : Mem} : V (.exc C fs m : R α) Q ↔ False := ⟨fun ⟨_, h, _⟩ => (by cases h), False.elim⟩
@[simp] theorem V_bind {r : R α} {f : α → R β} {P : β → Prop} : V (r.bind f) P ↔ V r fun a => V (f a) P := by
  cases r with
  | ok a => simp [R.bind]
  | exc _ _ _ => simp [R.bind]
  | bad => simp [R.bind]
theorem V.mono {r : R α} (h : V r Q) (hq : ∀ a, Q a → Q' a) : V r Q' := let ⟨a, e, q⟩ := h; ⟨a, e, hq a q⟩
theorem V.of {r : R α} {a : α} (h : r = .ok a) (q : Q a) : V r Q := ⟨a, h, q⟩
theorem V.both {r : R α} (h : V r Q) (h' : V r Q') : V r fun a => Q a ∧ Q' a := by
  obtain ⟨a, e, q⟩ := h
  obtain ⟨b, e', q'⟩ := h'
  rw [e] at e'; cases e'
  exact ⟨a, e, q, q'⟩
@[simp] theorem V_ofS {a : α} : V (R.of (some a)) Q ↔ Q a := by simp [R.of]
@[simp] theorem V_ofN : V (R.of (none : Option α)) Q ↔ False := by simp [R.of]
theorem V_of {o : Option α} : V (R.of o) Q ↔ ∃ a, o = some a ∧ Q a := by
  cases o with
  | none => simp [R.of]
  | some a => simp [R.of]
theorem V_ite {c : Prop} [Decidable c] {r s : R α} : V (if c then r else s) Q ↔ (c → V r Q) ∧ (¬c → V s Q) := by
  by_cases h : c
  · simp [h]
  · simp [h]
theorem V_if {c : Bool} {r s : R α} : V (if c = true then r else s) Q ↔ Bv c (V r Q) (V s Q) := by cases c <;> simp
theorem V_ib {c : Prop} [Decidable c] {r : R α} : V (if c then r else .bad) Q ↔ c ∧ V r Q := by
  by_cases h : c
  · simp [h]
  · simp [h]
theorem V_need {b : Bool} {P : Unit → Prop} : V (need b) P ↔ b = true ∧ P () := by cases b <;> simp [need]
end
/-- a turn of a for -/
noncomputable def forT (cal : Cal) (t : T) (b : List S) : D → Env → Mem → R (Fl × Mem) := fun d ρ m => (asgn cal t d ρ m).bind fun r => evSs cal b r.1 r.2
section
variable {cal : Cal} {ρ : Env} {m : Mem} {a b c : E} {es : List E}
/-! ### expressions -/
section
variable {Q : D × Mem → Prop}
@[simp] theorem V_var {i : Nat} : V (evE cal (.var i) ρ m) Q ↔ V (R.of (ρ[i]?).join) fun d => Q (d, m) := by
  unfold evE
  split
  · rename_i d h; simp [h]
  · rename_i h
    cases e : ρ[i]? with
    | none => simp
    | some o =>
      cases o with
      | none => simp
      | some d => exact absurd e (h d)
@[simp] theorem V_cst {d : D} : V (evE cal (.cst d) ρ m) Q ↔ Q (d, m) := by unfold evE; simp
@[simp] theorem V_bin {op : Op} : V (evE cal (.bin op a b) ρ m) Q ↔ V (evE cal a ρ m) fun x => V (evE cal b ρ x.2) fun y => V (bin op y.2 x.1 y.1) fun d => Q (d, y.2) := by conv => lhs; unfold evE; simp
@[simp] theorem V_neg : V (evE cal (.neg a) ρ m) Q ↔ V (evE cal a ρ m) fun x => V (asI x.1) fun i => Q (.int (-i), x.2) := by conv => lhs; unfold evE; simp
@[simp] theorem V_cmp {o : Cm} : V (evE cal (.cmp o a b) ρ m) Q ↔ V (evE cal a ρ m) fun x => V (evE cal b ρ x.2) fun y => V (cmpB o y.2 x.1 y.1) fun d => Q (.bl d, y.2) := by conv => lhs; unfold evE; simp
@[simp] theorem V_isN {no : Bool} : V (evE cal (.isN no a) ρ m) Q ↔ V (evE cal a ρ m) fun x => Q (.bl (if isNon x.1 then !no else no), x.2) := by conv => lhs; unfold evE; simp
@[simp] theorem V_and : V (evE cal (.and a b) ρ m) Q ↔ V (evE cal a ρ m) fun x => V (asB x.1) fun t => Bv t (V (evE cal b ρ x.2) Q) (Q (.bl false, x.2)) := by
  conv => lhs; unfold evE; simp [V_if]
@[simp] theorem V_or : V (evE cal (.or a b) ρ m) Q ↔ V (evE cal a ρ m) fun x => V (asB x.1) fun t => Bv t (Q (.bl true, x.2)) (V (evE cal b ρ x.2) Q) := by
  conv => lhs; unfold evE; simp [V_if]
@[simp] theorem V_not : V (evE cal (.not a) ρ m) Q ↔ V (evE cal a ρ m) fun x => V (asB x.1) fun t => Q (.bl (!t), x.2) := by conv => lhs; unfold evE; simp
@[simp] theorem V_iteE : V (evE cal (.ite c a b) ρ m) Q ↔ V (evE cal c ρ m) fun x => V (asB x.1) fun t => Bv t (V (evE cal a ρ x.2) Q) (V (evE cal b ρ x.2) Q) := by
  conv => lhs; unfold evE; simp [V_if]
@[simp] theorem V_chain {o1 o2 : Cm} : V (evE cal (.chain o1 o2 a b c) ρ m) Q ↔ V (evE cal a ρ m) fun x => V (evE cal b ρ x.2) fun y => V (cmpB o1 y.2 x.1 y.1) fun t => Bv t (V (evE cal c ρ y.2) fun z => V (cmpB o2 z.2 y.1 z.1) fun d => Q (.bl d, z.2)) (Q (.bl false, y.2)) := by
  conv => lhs; unfold evE; simp [V_if]
@[simp] theorem V_tup : V (evE cal (.tup es) ρ m) Q ↔ V (evEs cal es ρ m) fun x => Q (T' true true x.1, x.2) := by conv => lhs; unfold evE; simp
@[simp] theorem V_lst {fr : Bool} : V (evE cal (.lst fr es) ρ m) Q ↔ V (evEs cal es ρ m) fun x => Q (fin fr .lst x.1 x.2) := by conv => lhs; unfold evE; simp
@[simp] theorem V_dct {fr tk : Bool} : V (evE cal (.dct fr tk es) ρ m) Q ↔ V (evEs cal es ρ m) fun x => V (putsC x.1 (emptyK tk)) fun c => Q (fin fr c.1 c.2 x.2) := by conv => lhs; unfold evE; simp
@[simp] theorem V_idx : V (evE cal (.idx a b) ρ m) Q ↔ V (evE cal a ρ m) fun x => V (evE cal b ρ x.2) fun y => V (idxD y.2 x.1 y.1) fun d => Q (d, y.2) := by conv => lhs; unfold evE; simp
@[simp] theorem V_slcL : V (evE cal (.slcL a b) ρ m) Q ↔ V (evE cal a ρ m) fun x => V (evE cal b ρ x.2) fun y => V (asI y.1) fun i => V (slcD y.2 x.1 (some i) none) fun d => Q (d, y.2) := by conv => lhs; unfold evE; simp
@[simp] theorem V_slcU : V (evE cal (.slcU a b) ρ m) Q ↔ V (evE cal a ρ m) fun x => V (evE cal b ρ x.2) fun y => V (asI y.1) fun i => V (slcD y.2 x.1 none (some i)) fun d => Q (d, y.2) := by conv => lhs; unfold evE; simp
@[simp] theorem V_slcB : V (evE cal (.slcB a b c) ρ m) Q ↔ V (evE cal a ρ m) fun x => V (evE cal b ρ x.2) fun y => V (asI y.1) fun i => V (evE cal c ρ y.2) fun z => V (asI z.1) fun j => V (slcD z.2 x.1 (some i) (some j)) fun d => Q (d, z.2) := by conv => lhs; unfold evE; simp
@[simp] theorem V_fld {f : Str} : V (evE cal (.fld a f) ρ m) Q ↔ V (evE cal a ρ m) fun x => V (fldD x.2 x.1 f) fun d => Q (d, x.2) := by conv => lhs; unfold evE; simp
@[simp] theorem V_call {f : Str} : V (evE cal (.call f es) ρ m) Q ↔ V (evEs cal es ρ m) fun x => V (cal f x.1 x.2) Q := by conv => lhs; unfold evE; simp
@[simp] theorem V_pcall0 {f : Str} : V (evE cal (.pcall false f es) ρ m) Q ↔ V (evEs cal es ρ m) fun x => lfs x.1 = true ∧ V (pc cal f x.1) fun d => Q (d, x.2) := by
  conv => lhs; unfold evE; simp [V_ib]
@[simp] theorem V_pcall1 {f : Str} : V (evE cal (.pcall true f es) ρ m) Q ↔ V (evEs cal es ρ m) fun x => V (R.of (lends x.2 x.1)) fun as => V (pc cal f as) fun d => Q (d, x.2) := by
  conv => lhs; unfold evE; simp
@[simp] theorem V_meth {q : Str} : V (evE cal (.meth a q es) ρ m) Q ↔ V (evE cal a ρ m) fun x => V (clsM x.2 x.1 q) fun C => V (evEs cal es ρ x.2) fun y => V (cal (C ++ "." ++ q) (x.1 :: y.1) y.2) Q := by conv => lhs; unfold evE; simp
@[simp] theorem V_bi {k : Bi} {fr : Bool} : V (evE cal (.bi k fr es) ρ m) Q ↔ V (evEs cal es ρ m) fun x => V (bi k fr x.2 x.1) Q := by conv => lhs; unfold evE; simp
@[simp] theorem V_mt {q : Mt} : V (evE cal (.mt q a es) ρ m) Q ↔ V (evE cal a ρ m) fun x => V (mtOk q x.2 x.1) fun _ => V (evEs cal es ρ x.2) fun y => V (mt q y.2 x.1 y.1) Q := by conv => lhs; unfold evE; simp
def asS : D → R Str
  | .str z => .ok z
  | _ => .bad
@[simp] theorem asS_str {z : Str} : asS (.str z) = .ok z := rfl
@[simp] theorem V_kg {ks : List Str} {ds : List D} : V (evE cal (.kg ks ds a b) ρ m) Q ↔ V (evE cal a ρ m) fun x => V (evE cal b ρ x.2) fun y => V (asS x.1) fun z => Q ((kget z ks ds).getD y.1, y.2) := by
  conv => lhs; unfold evE; simp only [V_bind]
  constructor
  · intro h; refine h.mono fun x hx => hx.mono fun y hy => ?_
    obtain ⟨x1, x2⟩ := x
    cases x1 <;> simp [asS] at hy ⊢
    exact hy
  · intro h; refine h.mono fun x hx => hx.mono fun y hy => ?_
    obtain ⟨x1, x2⟩ := x
    cases x1 <;> simp [asS] at hy ⊢
    exact hy
@[simp] theorem V_isi {ks : List Kd} : V (evE cal (.isi a ks) ρ m) Q ↔ V (evE cal a ρ m) fun x => V (isiD x.2 x.1 ks) fun b => Q (.bl b, x.2) := by conv => lhs; unfold evE; simp
end
section
variable {Q : List D × Mem → Prop} {e : E}
@[simp] theorem V_nil : V (evEs cal [] ρ m) Q ↔ Q ([], m) := by unfold evEs; simp
@[simp] theorem V_cons : V (evEs cal (e :: es) ρ m) Q ↔ V (evE cal e ρ m) fun x => V (evEs cal es ρ x.2) fun y => Q (x.1 :: y.1, y.2) := by conv => lhs; unfold evEs; simp
end
section
variable {Q : Bool × Mem → Prop} {e : E}
@[simp] theorem V_ifs0 : V (evIfs cal [] ρ m) Q ↔ Q (true, m) := by unfold evIfs; simp
@[simp] theorem V_ifs1 : V (evIfs cal (e :: es) ρ m) Q ↔ V (evE cal e ρ m) fun x => V (asB x.1) fun t => Bv t (V (evIfs cal es ρ x.2) Q) (Q (false, x.2)) := by conv => lhs; unfold evIfs; simp [V_if]
end
section
variable {Q : Env × Mem → Prop} {d : D} {ds : List D} {t : T} {ts : List T}
@[simp] theorem V_tvar {i : Nat} : V (asgn cal (.var i) d ρ m) Q ↔ Q (ρ.set i (some d), m) := by unfold asgn; simp
@[simp] theorem V_ttup : V (asgn cal (.tup ts) d ρ m) Q ↔ V (R.of (tupOf d)) fun ds => V (asgns cal ts ds ρ m) Q := by
  unfold asgn
  cases tupOf d with
  | none => simp
  | some ds => simp
@[simp] theorem V_tstar {j : Nat} : V (asgn cal (.star ts j) d ρ m) Q ↔ V (R.of (tupOf d)) fun ds => ts.length ≤ ds.length ∧ V (asgns cal ts (ds.take ts.length) ρ m) fun r => Q (r.1.set j (some (lstD (ds.drop ts.length))), r.2) := by
  unfold asgn
  cases tupOf d with
  | none => simp
  | some ds =>
    by_cases h : ts.length ≤ ds.length
    · simp [h]
    · simp [h]
@[simp] theorem V_tidx : V (asgn cal (.idx a b) d ρ m) Q ↔ V (evE cal a ρ m) fun x => V (evE cal b ρ x.2) fun y => V (setD y.2 x.1 y.1 d) fun m => Q (ρ, m) := by conv => lhs; unfold asgn; simp
@[simp] theorem V_tfld {f : Str} : V (asgn cal (.fld a f) d ρ m) Q ↔ V (evE cal a ρ m) fun x => V (setF x.2 x.1 f d) fun m => Q (ρ, m) := by conv => lhs; unfold asgn; simp
@[simp] theorem V_asgns0 : V (asgns cal [] [] ρ m) Q ↔ Q (ρ, m) := by unfold asgns; simp
@[simp] theorem V_asgns1 : V (asgns cal (t :: ts) (d :: ds) ρ m) Q ↔ V (asgn cal t d ρ m) fun r => V (asgns cal ts ds r.1 r.2) Q := by conv => lhs; unfold asgns; simp
end
section
variable {Q : Src × Mem → Prop}
@[simp] theorem V_seq : V (evI cal (.seq a) ρ m) Q ↔ V (evE cal a ρ m) fun x => V (srcOf x.2 x.1) fun s => Q (s, x.2) := by conv => lhs; unfold evI; simp
@[simp] theorem V_rng1 : V (evI cal (.rng1 a) ρ m) Q ↔ V (evE cal a ρ m) fun x => V (asI x.1) fun i => small i = true ∧ Q (.st (rngD 0 i), x.2) := by
  conv => lhs; unfold evI; simp [V_ib]
@[simp] theorem V_rng2 : V (evI cal (.rng2 a b) ρ m) Q ↔ V (evE cal a ρ m) fun x => V (asI x.1) fun i => V (evE cal b ρ x.2) fun y => V (asI y.1) fun j => small i = true ∧ small j = true ∧ Q (.st (rngD i j), y.2) := by
  conv => lhs; unfold evI; simp [V_ib, and_assoc]
@[simp] theorem V_enu : V (evI cal (.enu a) ρ m) Q ↔ V (evE cal a ρ m) fun x => V (enuOf x.2 x.1) fun s => Q (s, x.2) := by conv => lhs; unfold evI; simp
@[simp] theorem V_zip : V (evI cal (.zip a b) ρ m) Q ↔ V (evE cal a ρ m) fun x => V (evE cal b ρ x.2) fun y => V (zipOf x.1 y.1) fun s => Q (s, y.2) := by conv => lhs; unfold evI; simp
end
/-! ### statements -/
section
variable {Q : Fl × Mem → Prop} {s : S} {ss b1 b2 : List S} {t : T}
@[simp] theorem V_asg : V (evS cal (.asg t a) ρ m) Q ↔ V (evE cal a ρ m) fun x => V (asgn cal t x.1 ρ x.2) fun r => Q (.nx r.1, r.2) := by conv => lhs; unfold evS; simp
@[simp] theorem V_augV {i : Nat} : V (evS cal (.augV i a) ρ m) Q ↔ V (R.of (ρ[i]?).join) fun d => V (evE cal a ρ m) fun x => V (asI d) fun u => V (asI x.1) fun v => Q (.nx (ρ.set i (some (.int (u + v)))), x.2) := by
  unfold evS
  split
  · rename_i d h; simp [h]
  · rename_i h
    cases e : ρ[i]? with
    | none => simp
    | some o =>
      cases o with
      | none => simp
      | some d => exact absurd e (h d)
@[simp] theorem V_exp : V (evS cal (.exp a) ρ m) Q ↔ V (evE cal a ρ m) fun x => Q (.nx ρ, x.2) := by conv => lhs; unfold evS; simp
@[simp] theorem V_ret : V (evS cal (.ret a) ρ m) Q ↔ V (evE cal a ρ m) fun x => Q (.rt x.1, x.2) := by conv => lhs; unfold evS; simp
@[simp] theorem V_retN : V (evS cal .retN ρ m) Q ↔ Q (.rt .non, m) := by conv => lhs; unfold evS; simp
@[simp] theorem V_pas : V (evS cal .pas ρ m) Q ↔ Q (.nx ρ, m) := by conv => lhs; unfold evS; simp
@[simp] theorem V_ifS : V (evS cal (.ifs a b1 b2) ρ m) Q ↔ V (evE cal a ρ m) fun x => V (asB x.1) fun t => Bv t (V (evSs cal b1 ρ x.2) Q) (V (evSs cal b2 ρ x.2) Q) := by conv => lhs; unfold evS; simp [V_if]
@[simp] theorem V_for {it : I} : V (evS cal (.for_ t it b1) ρ m) Q ↔ V (evI cal it ρ m) fun s => V (forSrc (forT cal t b1) s.1 ρ s.2) Q := by
  conv => lhs; unfold evS; simp only [V_bind]
  rfl
@[simp] theorem V_rse {C : Str} : V (evS cal (.rse C es) ρ m) Q ↔ False := by
  unfold evS
  rw [V_bind]
  constructor
  · rintro ⟨x, _, h⟩; simpa using h
  · exact False.elim
@[simp] theorem V_augF {f : Str} : V (evS cal (.augF a f b) ρ m) Q ↔ V (evE cal a ρ m) fun x => V (fldD x.2 x.1 f) fun d => V (evE cal b ρ x.2) fun y => V (asI d) fun u => V (asI y.1) fun v => V (clsD x.2 x.1) fun C1 => V (clsD y.2 x.1) fun C2 => C1 = C2 ∧ V (setF y.2 x.1 f (.int (u + v))) fun m => Q (.nx ρ, m) := by
  conv => lhs; unfold evS; simp [V_ib]
@[simp] theorem V_par {is : List Nat} : V (evS cal (.par is es) ρ m) Q ↔ V (evEs cal es ρ m) fun x => is.length = x.1.length ∧ Q (.nx ((is.zip x.1).foldl (fun ρ p => ρ.set p.1 (some p.2)) ρ), x.2) := by
  conv => lhs; unfold evS; simp [V_ib]
@[simp] theorem V_ss0 : V (evSs cal [] ρ m) Q ↔ Q (.nx ρ, m) := by unfold evSs; simp
theorem V_ss1' : V (evSs cal (s :: ss) ρ m) Q ↔ V (evS cal s ρ m) fun r => match r.1 with
    | .nx ρ => V (evSs cal ss ρ r.2) Q
    | .rt v => Q (.rt v, r.2) := by
  conv => lhs; unfold evSs; simp
  constructor
  · intro h; refine h.mono fun x hx => ?_
    obtain ⟨x1, x2⟩ := x
    cases x1 <;> simpa using hx
  · intro h; refine h.mono fun x hx => ?_
    obtain ⟨x1, x2⟩ := x
    cases x1 <;> simpa using hx
/-- what is wished of the rest -/
def ThenV (cal : Cal) (ss : List S) (Q : Fl × Mem → Prop) : Fl × Mem → Prop := fun r => match r.1 with
    | .nx ρ => V (evSs cal ss ρ r.2) Q
    | .rt v => Q (.rt v, r.2)
@[simp] theorem ThenV_nx : ThenV cal ss Q (.nx ρ, m) ↔ V (evSs cal ss ρ m) Q := Iff.rfl
@[simp] theorem ThenV_rt {v : D} : ThenV cal ss Q (.rt v, m) ↔ Q (.rt v, m) := Iff.rfl
@[simp] theorem V_ss1 : V (evSs cal (s :: ss) ρ m) Q ↔ V (evS cal s ρ m) (ThenV cal ss Q) := V_ss1'
end
@[simp] theorem V_runD {np ns : Nat} {body : List S} {as : List D} {Q : D × Mem → Prop} : V (runD cal np ns body as m) Q ↔ as.length = np ∧ V (evSs cal body (as.map some ++ List.replicate (ns - np) none) m) fun r => Q (out r.1, r.2) := by
  unfold runD
  by_cases h : as.length = np
  · simp [h]
  · simp [h]
@[simp] theorem V_asB {b : Bool} {Q : Bool → Prop} : V (asB (.bl b)) Q ↔ Q b := by simp [asB]
@[simp] theorem V_asI {i : Int} {Q : Int → Prop} : V (asI (.int i)) Q ↔ Q i := by simp [asI]
end
/-- a call by values -/
theorem V_pc {cal : Cal} {f : Str} {as : List D} {Q : D → Prop} : V (pc cal f as) Q ↔ V (cal f as []) fun r => V (R.of (frz r.2 r.1)) Q := by
  unfold pc
  cases h : cal f as [] with
  | bad => simp
  | exc C fs m => simp
  | ok r => obtain ⟨d, m⟩ := r; simp
def Has (Pg : Prg) (f : Str) (d : Df) : Prop := Pg.lookup f = some d
theorem V_callN {Pg : Prg} {k : Nat} {f : Str} {np ns : Nat} {body : List S} (h : Has Pg f (.fn np ns body)) {as : List D} {m : Mem} {Q : D × Mem → Prop} : V (callN Pg (k + 1) f as m) Q ↔ V (runD (callN Pg k) np ns body as m) Q := by
  unfold Has at h
  rw [callN, h]
section
variable {α β : Type} {Q Q' : α → Prop}
@[simp] theorem W_ok {a : α} : W (.ok a) Q ↔ Q a := V_ok
@[simp] theorem W_bad : W (.bad : R α) Q ↔ False := V_bad
@[simp] theorem W_exc {C : Str} {fs : List (Str × D)} {m : Mem} : W (.exc C fs m : R α) Q ↔ False := V_exc
@[simp] theorem W_bind {r : R α} {f : α → R β} {P : β → Prop} : W (r.bind f) P ↔ W r fun a => W (f a) P := V_bind
theorem W.mono {r : R α} (h : W r Q) (hq : ∀ a, Q a → Q' a) : W r Q' := V.mono h hq
theorem W.of {r : R α} {a : α} (h : r = .ok a) (q : Q a) : W r Q := V.of h q
theorem W.both {r : R α} (h : W r Q) (h' : W r Q') : W r fun a => Q a ∧ Q' a := V.both h h'
@[simp] theorem W_ofS {a : α} : W (R.of (some a)) Q ↔ Q a := V_ofS
@[simp] theorem W_ofN : W (R.of (none : Option α)) Q ↔ False := V_ofN
theorem W_of {o : Option α} : W (R.of o) Q ↔ ∃ a, o = some a ∧ Q a := V_of
theorem W_ite {c : Prop} [Decidable c] {r s : R α} : W (if c then r else s) Q ↔ (c → W r Q) ∧ (¬c → W s Q) := V_ite
theorem W_if {c : Bool} {r s : R α} : W (if c = true then r else s) Q ↔ Br c (W r Q) (W s Q) := V_if
theorem W_ib {c : Prop} [Decidable c] {r : R α} : W (if c then r else .bad) Q ↔ c ∧ W r Q := V_ib
theorem W_need {b : Bool} {P : Unit → Prop} : W (need b) P ↔ b = true ∧ P () := V_need
end
section
variable {cal : Cal} {ρ : Env} {m : Mem} {a b c : E} {es : List E}
/-! ### expressions -/
section
variable {Q : D × Mem → Prop}
@[simp] theorem W_var {i : Nat} : W (evE cal (.var i) ρ m) Q ↔ W (R.of (ρ[i]?).join) fun d => Q (d, m) := V_var
@[simp] theorem W_cst {d : D} : W (evE cal (.cst d) ρ m) Q ↔ Q (d, m) := V_cst
@[simp] theorem W_bin {op : Op} : W (evE cal (.bin op a b) ρ m) Q ↔ W (evE cal a ρ m) fun x => W (evE cal b ρ x.2) fun y => W (bin op y.2 x.1 y.1) fun d => Q (d, y.2) := V_bin
@[simp] theorem W_neg : W (evE cal (.neg a) ρ m) Q ↔ W (evE cal a ρ m) fun x => W (asI x.1) fun i => Q (.int (-i), x.2) := V_neg
@[simp] theorem W_cmp {o : Cm} : W (evE cal (.cmp o a b) ρ m) Q ↔ W (evE cal a ρ m) fun x => W (evE cal b ρ x.2) fun y => W (cmpB o y.2 x.1 y.1) fun d => Q (.bl d, y.2) := V_cmp
@[simp] theorem W_isN {no : Bool} : W (evE cal (.isN no a) ρ m) Q ↔ W (evE cal a ρ m) fun x => Q (.bl (if isNon x.1 then !no else no), x.2) := V_isN
@[simp] theorem W_and : W (evE cal (.and a b) ρ m) Q ↔ W (evE cal a ρ m) fun x => W (asB x.1) fun t => Br t (W (evE cal b ρ x.2) Q) (Q (.bl false, x.2)) := V_and
@[simp] theorem W_or : W (evE cal (.or a b) ρ m) Q ↔ W (evE cal a ρ m) fun x => W (asB x.1) fun t => Br t (Q (.bl true, x.2)) (W (evE cal b ρ x.2) Q) := V_or
@[simp] theorem W_not : W (evE cal (.not a) ρ m) Q ↔ W (evE cal a ρ m) fun x => W (asB x.1) fun t => Q (.bl (!t), x.2) := V_not
@[simp] theorem W_iteE : W (evE cal (.ite c a b) ρ m) Q ↔ W (evE cal c ρ m) fun x => W (asB x.1) fun t => Br t (W (evE cal a ρ x.2) Q) (W (evE cal b ρ x.2) Q) := V_iteE
@[simp] theorem W_chain {o1 o2 : Cm} : W (evE cal (.chain o1 o2 a b c) ρ m) Q ↔ W (evE cal a ρ m) fun x => W (evE cal b ρ x.2) fun y => W (cmpB o1 y.2 x.1 y.1) fun t => Br t (W (evE cal c ρ y.2) fun z => W (cmpB o2 z.2 y.1 z.1) fun d => Q (.bl d, z.2)) (Q (.bl false, y.2)) := V_chain
@[simp] theorem W_tup : W (evE cal (.tup es) ρ m) Q ↔ W (evEs cal es ρ m) fun x => Q (T' true true x.1, x.2) := V_tup
@[simp] theorem W_lst {fr : Bool} : W (evE cal (.lst fr es) ρ m) Q ↔ W (evEs cal es ρ m) fun x => Q (fin fr .lst x.1 x.2) := V_lst
@[simp] theorem W_dct {fr tk : Bool} : W (evE cal (.dct fr tk es) ρ m) Q ↔ W (evEs cal es ρ m) fun x => W (putsC x.1 (emptyK tk)) fun c => Q (fin fr c.1 c.2 x.2) := V_dct
@[simp] theorem W_idx : W (evE cal (.idx a b) ρ m) Q ↔ W (evE cal a ρ m) fun x => W (evE cal b ρ x.2) fun y => W (idxD y.2 x.1 y.1) fun d => Q (d, y.2) := V_idx
@[simp] theorem W_slcL : W (evE cal (.slcL a b) ρ m) Q ↔ W (evE cal a ρ m) fun x => W (evE cal b ρ x.2) fun y => W (asI y.1) fun i => W (slcD y.2 x.1 (some i) none) fun d => Q (d, y.2) := V_slcL
@[simp] theorem W_slcU : W (evE cal (.slcU a b) ρ m) Q ↔ W (evE cal a ρ m) fun x => W (evE cal b ρ x.2) fun y => W (asI y.1) fun i => W (slcD y.2 x.1 none (some i)) fun d => Q (d, y.2) := V_slcU
@[simp] theorem W_slcB : W (evE cal (.slcB a b c) ρ m) Q ↔ W (evE cal a ρ m) fun x => W (evE cal b ρ x.2) fun y => W (asI y.1) fun i => W (evE cal c ρ y.2) fun z => W (asI z.1) fun j => W (slcD z.2 x.1 (some i) (some j)) fun d => Q (d, z.2) := V_slcB
@[simp] theorem W_fld {f : Str} : W (evE cal (.fld a f) ρ m) Q ↔ W (evE cal a ρ m) fun x => W (fldD x.2 x.1 f) fun d => Q (d, x.2) := V_fld
@[simp] theorem W_call {f : Str} : W (evE cal (.call f es) ρ m) Q ↔ W (evEs cal es ρ m) fun x => W (cal f x.1 x.2) Q := V_call
@[simp] theorem W_pcall0 {f : Str} : W (evE cal (.pcall false f es) ρ m) Q ↔ W (evEs cal es ρ m) fun x => lfs x.1 = true ∧ W (pc cal f x.1) fun d => Q (d, x.2) := V_pcall0
@[simp] theorem W_pcall1 {f : Str} : W (evE cal (.pcall true f es) ρ m) Q ↔ W (evEs cal es ρ m) fun x => W (R.of (lends x.2 x.1)) fun as => W (pc cal f as) fun d => Q (d, x.2) := V_pcall1
@[simp] theorem W_meth {q : Str} : W (evE cal (.meth a q es) ρ m) Q ↔ W (evE cal a ρ m) fun x => W (clsM x.2 x.1 q) fun C => W (evEs cal es ρ x.2) fun y => W (cal (C ++ "." ++ q) (x.1 :: y.1) y.2) Q := V_meth
@[simp] theorem W_bi {k : Bi} {fr : Bool} : W (evE cal (.bi k fr es) ρ m) Q ↔ W (evEs cal es ρ m) fun x => W (bi k fr x.2 x.1) Q := V_bi
@[simp] theorem W_mt {q : Mt} : W (evE cal (.mt q a es) ρ m) Q ↔ W (evE cal a ρ m) fun x => W (mtOk q x.2 x.1) fun _ => W (evEs cal es ρ x.2) fun y => W (mt q y.2 x.1 y.1) Q := V_mt
@[simp] theorem W_kg {ks : List Str} {ds : List D} : W (evE cal (.kg ks ds a b) ρ m) Q ↔ W (evE cal a ρ m) fun x => W (evE cal b ρ x.2) fun y => W (asS x.1) fun z => Q ((kget z ks ds).getD y.1, y.2) := V_kg
@[simp] theorem W_isi {ks : List Kd} : W (evE cal (.isi a ks) ρ m) Q ↔ W (evE cal a ρ m) fun x => W (isiD x.2 x.1 ks) fun b => Q (.bl b, x.2) := V_isi
end
section
variable {Q : List D × Mem → Prop} {e : E}
@[simp] theorem W_nil : W (evEs cal [] ρ m) Q ↔ Q ([], m) := V_nil
@[simp] theorem W_cons : W (evEs cal (e :: es) ρ m) Q ↔ W (evE cal e ρ m) fun x => W (evEs cal es ρ x.2) fun y => Q (x.1 :: y.1, y.2) := V_cons
end
section
variable {Q : Bool × Mem → Prop} {e : E}
@[simp] theorem W_ifs0 : W (evIfs cal [] ρ m) Q ↔ Q (true, m) := V_ifs0
@[simp] theorem W_ifs1 : W (evIfs cal (e :: es) ρ m) Q ↔ W (evE cal e ρ m) fun x => W (asB x.1) fun t => Br t (W (evIfs cal es ρ x.2) Q) (Q (false, x.2)) := V_ifs1
end
section
variable {Q : Env × Mem → Prop} {d : D} {ds : List D} {t : T} {ts : List T}
@[simp] theorem W_tvar {i : Nat} : W (asgn cal (.var i) d ρ m) Q ↔ Q (ρ.set i (some d), m) := V_tvar
@[simp] theorem W_ttup : W (asgn cal (.tup ts) d ρ m) Q ↔ W (R.of (tupOf d)) fun ds => W (asgns cal ts ds ρ m) Q := V_ttup
@[simp] theorem W_tstar {j : Nat} : W (asgn cal (.star ts j) d ρ m) Q ↔ W (R.of (tupOf d)) fun ds => ts.length ≤ ds.length ∧ W (asgns cal ts (ds.take ts.length) ρ m) fun r => Q (r.1.set j (some (lstD (ds.drop ts.length))), r.2) := V_tstar
@[simp] theorem W_tidx : W (asgn cal (.idx a b) d ρ m) Q ↔ W (evE cal a ρ m) fun x => W (evE cal b ρ x.2) fun y => W (setD y.2 x.1 y.1 d) fun m => Q (ρ, m) := V_tidx
@[simp] theorem W_tfld {f : Str} : W (asgn cal (.fld a f) d ρ m) Q ↔ W (evE cal a ρ m) fun x => W (setF x.2 x.1 f d) fun m => Q (ρ, m) := V_tfld
@[simp] theorem W_asgns0 : W (asgns cal [] [] ρ m) Q ↔ Q (ρ, m) := V_asgns0
@[simp] theorem W_asgns1 : W (asgns cal (t :: ts) (d :: ds) ρ m) Q ↔ W (asgn cal t d ρ m) fun r => W (asgns cal ts ds r.1 r.2) Q := V_asgns1
end
section
variable {Q : Src × Mem → Prop}
@[simp] theorem W_seq : W (evI cal (.seq a) ρ m) Q ↔ W (evE cal a ρ m) fun x => W (srcOf x.2 x.1) fun s => Q (s, x.2) := V_seq
@[simp] theorem W_rng1 : W (evI cal (.rng1 a) ρ m) Q ↔ W (evE cal a ρ m) fun x => W (asI x.1) fun i => small i = true ∧ Q (.st (rngD 0 i), x.2) := V_rng1
@[simp] theorem W_rng2 : W (evI cal (.rng2 a b) ρ m) Q ↔ W (evE cal a ρ m) fun x => W (asI x.1) fun i => W (evE cal b ρ x.2) fun y => W (asI y.1) fun j => small i = true ∧ small j = true ∧ Q (.st (rngD i j), y.2) := V_rng2
@[simp] theorem W_enu : W (evI cal (.enu a) ρ m) Q ↔ W (evE cal a ρ m) fun x => W (enuOf x.2 x.1) fun s => Q (s, x.2) := V_enu
@[simp] theorem W_zip : W (evI cal (.zip a b) ρ m) Q ↔ W (evE cal a ρ m) fun x => W (evE cal b ρ x.2) fun y => W (zipOf x.1 y.1) fun s => Q (s, y.2) := V_zip
end
/-! ### statements -/
section
variable {Q : Fl × Mem → Prop} {s : S} {ss b1 b2 : List S} {t : T}
@[simp] theorem W_asg : W (evS cal (.asg t a) ρ m) Q ↔ W (evE cal a ρ m) fun x => W (asgn cal t x.1 ρ x.2) fun r => Q (.nx r.1, r.2) := V_asg
@[simp] theorem W_augV {i : Nat} : W (evS cal (.augV i a) ρ m) Q ↔ W (R.of (ρ[i]?).join) fun d => W (evE cal a ρ m) fun x => W (asI d) fun u => W (asI x.1) fun v => Q (.nx (ρ.set i (some (.int (u + v)))), x.2) := V_augV
@[simp] theorem W_exp : W (evS cal (.exp a) ρ m) Q ↔ W (evE cal a ρ m) fun x => Q (.nx ρ, x.2) := V_exp
@[simp] theorem W_ret : W (evS cal (.ret a) ρ m) Q ↔ W (evE cal a ρ m) fun x => Q (.rt x.1, x.2) := V_ret
@[simp] theorem W_retN : W (evS cal .retN ρ m) Q ↔ Q (.rt .non, m) := V_retN
@[simp] theorem W_pas : W (evS cal .pas ρ m) Q ↔ Q (.nx ρ, m) := V_pas
@[simp] theorem W_ifS : W (evS cal (.ifs a b1 b2) ρ m) Q ↔ W (evE cal a ρ m) fun x => W (asB x.1) fun t => Br t (W (evSs cal b1 ρ x.2) Q) (W (evSs cal b2 ρ x.2) Q) := V_ifS
@[simp] theorem W_for {it : I} : W (evS cal (.for_ t it b1) ρ m) Q ↔ W (evI cal it ρ m) fun s => W (forSrc (forT cal t b1) s.1 ρ s.2) Q := V_for
@[simp] theorem W_forT {d : D} : W (forT cal t b1 d ρ m) Q ↔ W (asgn cal t d ρ m) fun r => W (evSs cal b1 r.1 r.2) Q := by unfold forT; rw [W_bind]
@[simp] theorem W_rse {C : Str} : W (evS cal (.rse C es) ρ m) Q ↔ False := V_rse
@[simp] theorem W_augF {f : Str} : W (evS cal (.augF a f b) ρ m) Q ↔ W (evE cal a ρ m) fun x => W (fldD x.2 x.1 f) fun d => W (evE cal b ρ x.2) fun y => W (asI d) fun u => W (asI y.1) fun v => W (clsD x.2 x.1) fun C1 => W (clsD y.2 x.1) fun C2 => C1 = C2 ∧ W (setF y.2 x.1 f (.int (u + v))) fun m => Q (.nx ρ, m) := V_augF
@[simp] theorem W_par {is : List Nat} : W (evS cal (.par is es) ρ m) Q ↔ W (evEs cal es ρ m) fun x => is.length = x.1.length ∧ Q (.nx ((is.zip x.1).foldl (fun ρ p => ρ.set p.1 (some p.2)) ρ), x.2) := V_par
@[simp] theorem W_ss0 : W (evSs cal [] ρ m) Q ↔ Q (.nx ρ, m) := V_ss0
theorem W_ss1' : W (evSs cal (s :: ss) ρ m) Q ↔ W (evS cal s ρ m) fun r => match r.1 with
    | .nx ρ => W (evSs cal ss ρ r.2) Q
    | .rt v => Q (.rt v, r.2) := V_ss1'
/-- what is wished of the rest -/
def Then (cal : Cal) (ss : List S) (Q : Fl × Mem → Prop) (u : U Q := .mk) : Fl × Mem → Prop := fun r => match r.1 with
    | .nx ρ => W (evSs cal ss ρ r.2) Q
    | .rt v => Q (.rt v, r.2)
@[simp] theorem Then_nx : (Then cal ss Q) (.nx ρ, m) ↔ W (evSs cal ss ρ m) Q := Iff.rfl
@[simp] theorem Then_rt {v : D} : (Then cal ss Q) (.rt v, m) ↔ Q (.rt v, m) := Iff.rfl
@[simp] theorem W_ss1 : W (evSs cal (s :: ss) ρ m) Q ↔ W (evS cal s ρ m) (Then cal ss Q) := V_ss1
end
@[simp] theorem W_runD {np ns : Nat} {body : List S} {as : List D} {Q : D × Mem → Prop} : W (runD cal np ns body as m) Q ↔ as.length = np ∧ W (evSs cal body (as.map some ++ List.replicate (ns - np) none) m) fun r => Q (out r.1, r.2) := V_runD
@[simp] theorem W_asB {b : Bool} {Q : Bool → Prop} : W (asB (.bl b)) Q ↔ Q b := V_asB
@[simp] theorem W_asI {i : Int} {Q : Int → Prop} : W (asI (.int i)) Q ↔ Q i := V_asI
end
/-- a call by values -/
theorem W_pc {cal : Cal} {f : Str} {as : List D} {Q : D → Prop} : W (pc cal f as) Q ↔ W (cal f as []) fun r => W (R.of (frz r.2 r.1)) Q := V_pc
theorem W_callN {Pg : Prg} {k : Nat} {f : Str} {np ns : Nat} {body : List S} (h : Has Pg f (.fn np ns body)) {as : List D} {m : Mem} {Q : D × Mem → Prop} : W (callN Pg (k + 1) f as m) Q ↔ W (runD (callN Pg k) np ns body as m) Q := V_callN h
end Mi
end
section
set_option linter.all false
set_option Elab.async false
set_option maxRecDepth 100000
set_option maxHeartbeats 2000000
/-! Mp1: data by their plain form; walks. -/
namespace Mi
open PySem
def Rep (d : D) (p : PyData) : Prop := dat d = true ∧ py d = p
def Reps (ds : List D) (ps : List PyData) : Prop := dats ds = true ∧ pys ds = ps
section
variable {d : D} {ds : List D} {o b : Bool} {m : Mem}
@[simp] theorem T'_view : view m (T' o b ds) = some ⟨.tup, ds⟩ := by cases b <;> rfl
@[simp] theorem T'_tupOf : tupOf (T' o b ds) = some ds := by cases b <;> rfl
@[simp] theorem T'_py : py (T' o b ds) = .tuple (pys ds) := by cases b <;> simp [T', py, -tup_T', -tupP_T']
@[simp] theorem T'_dat : dat (T' o b ds) = dats ds := by cases b <;> simp [T', dat, -tup_T', -tupP_T']
@[simp] theorem T'_lf : lf (T' o b ds) = lfs ds := by cases b <;> simp [T', lf, -tup_T', -tupP_T']
@[simp] theorem T'_ow : ow (T' o b ds) = (o && ows ds) := by cases b <;> simp [T', ow, -tup_T', -tupP_T']
@[simp] theorem Rep_int {i : Int} : Rep d (.int i) ↔ d = .int i := by
  constructor
  · rintro ⟨h1, h2⟩
    cases d with
    | nd o sh ds => cases sh <;> simp [py] at h2
    | _ => simp [py] at h2 <;> simp [h2]
  · rintro rfl; simp [Rep, dat, py]
@[simp] theorem Rep_str {i : Str} : Rep d (.str i) ↔ d = .str i := by
  constructor
  · rintro ⟨h1, h2⟩
    cases d with
    | nd o sh ds => cases sh <;> simp [py] at h2
    | _ => simp [py] at h2 <;> simp [h2]
  · rintro rfl; simp [Rep, dat, py]
@[simp] theorem Rep_bool {i : Bool} : Rep d (.bool i) ↔ d = .bl i := by
  constructor
  · rintro ⟨h1, h2⟩
    cases d with
    | nd o sh ds => cases sh <;> simp [py] at h2
    | _ => simp [py] at h2 <;> simp [h2]
  · rintro rfl; simp [Rep, dat, py]
@[simp] theorem Rep_none : Rep d .none ↔ d = .non := by
  constructor
  · rintro ⟨h1, h2⟩
    cases d with
    | nd o sh ds => cases sh <;> simp [py] at h2
    | loc n => simp [dat] at h1
    | _ => simp [py] at h2 <;> simp [h2]
  · rintro rfl; simp [Rep, dat, py]
theorem Rep_tuple {ps : List PyData} : Rep d (.tuple ps) ↔ ∃ o b ds, d = T' o b ds ∧ Reps ds ps := by
  constructor
  · rintro ⟨h1, h2⟩
    cases d with
    | nd o sh ds =>
      cases sh with
      | tup => exact ⟨o, false, ds, rfl, by simpa [dat] using h1, by simpa [py] using h2⟩
      | tupP => exact ⟨o, true, ds, rfl, by simpa [dat] using h1, by simpa [py] using h2⟩
      | _ => simp [py] at h2
    | _ => simp [py] at h2
  · rintro ⟨o, b, ds, rfl, h⟩; exact ⟨by simpa using h.1, by simp [h.2]⟩
theorem Rep_list {ps : List PyData} : Rep d (.list ps) ↔ ∃ o ds, d = .nd o .lst ds ∧ Reps ds ps := by
  constructor
  · rintro ⟨h1, h2⟩
    cases d with
    | nd o sh ds =>
      cases sh with
      | lst => exact ⟨o, ds, rfl, by simpa [dat] using h1, by simpa [py] using h2⟩
      | tup => simp [py] at h2
      | tupP => simp [py] at h2
      | _ => simp [dat] at h1
    | _ => simp [py] at h2
  · rintro ⟨o, ds, rfl, h⟩; exact ⟨by simpa [dat] using h.1, by simp [py, h.2]⟩
@[simp] theorem Reps_nil : Reps ds [] ↔ ds = [] := by
  constructor
  · rintro ⟨h1, h2⟩; cases ds <;> simp [pys] at h2 ⊢
  · rintro rfl; simp [Reps, dats, pys]
theorem Reps_cons {p : PyData} {ps : List PyData} : Reps ds (p :: ps) ↔ ∃ d es, ds = d :: es ∧ Rep d p ∧ Reps es ps := by
  constructor
  · rintro ⟨h1, h2⟩
    cases ds with
    | nil => simp [pys] at h2
    | cons d es =>
      simp [dats] at h1
      simp [pys] at h2
      exact ⟨d, es, rfl, ⟨h1.1, h2.1⟩, h1.2, h2.2⟩
  · rintro ⟨d, es, rfl, h1, h2⟩; exact ⟨by simp [dats, h1.1, h2.1], by simp [pys, h1.2, h2.2]⟩
@[simp] theorem rep_T' {ps : List PyData} : Rep (T' o b ds) (.tuple ps) ↔ Reps ds ps := by
  unfold Rep Reps
  simp
@[simp] theorem rep_L {ps : List PyData} : Rep (.nd o .lst ds) (.list ps) ↔ Reps ds ps := by
  unfold Rep Reps
  simp [dat, py]
@[simp] theorem reps_cc {p : PyData} {ps : List PyData} : Reps (d :: ds) (p :: ps) ↔ Rep d p ∧ Reps ds ps := by
  unfold Rep Reps
  simp only [dats, pys, Bool.and_eq_true, List.cons.injEq]
  constructor
  · rintro ⟨⟨a, b⟩, c, d⟩; exact ⟨⟨a, c⟩, b, d⟩
  · rintro ⟨⟨a, c⟩, b, d⟩; exact ⟨⟨a, b⟩, c, d⟩
theorem Rep.t0 (h : Rep d (.tuple [])) : ∃ o b, d = T' o b [] := by
  obtain ⟨o, b, ds, rfl, hh⟩ := Rep_tuple.mp h
  rw [Reps_nil] at hh
  exact ⟨o, b, by rw [hh]⟩
theorem Rep.t1 {p : PyData} (h : Rep d (.tuple [p])) : ∃ o b e, d = T' o b [e] ∧ Rep e p := by
  obtain ⟨o, b, ds, rfl, hh⟩ := Rep_tuple.mp h
  obtain ⟨e, es, rfl, h1, hh⟩ := Reps_cons.mp hh
  rw [Reps_nil] at hh; subst hh
  exact ⟨o, b, e, rfl, h1⟩
theorem Rep.t2 {p q : PyData} (h : Rep d (.tuple [p, q])) : ∃ o b e f, d = T' o b [e, f] ∧ Rep e p ∧ Rep f q := by
  obtain ⟨o, b, ds, rfl, hh⟩ := Rep_tuple.mp h
  obtain ⟨e, es, rfl, h1, hh⟩ := Reps_cons.mp hh
  obtain ⟨f, es, rfl, h2, hh⟩ := Reps_cons.mp hh
  rw [Reps_nil] at hh; subst hh
  exact ⟨o, b, e, f, rfl, h1, h2⟩
theorem Rep.t3 {p q r : PyData} (h : Rep d (.tuple [p, q, r])) : ∃ o b e f g, d = T' o b [e, f, g] ∧ Rep e p ∧ Rep f q ∧ Rep g r := by
  obtain ⟨o, b, ds, rfl, hh⟩ := Rep_tuple.mp h
  obtain ⟨e, es, rfl, h1, hh⟩ := Reps_cons.mp hh
  obtain ⟨f, es, rfl, h2, hh⟩ := Reps_cons.mp hh
  obtain ⟨g, es, rfl, h3, hh⟩ := Reps_cons.mp hh
  rw [Reps_nil] at hh; subst hh
  exact ⟨o, b, e, f, g, rfl, h1, h2, h3⟩
theorem Rep.t4 {p q r s : PyData} (h : Rep d (.tuple [p, q, r, s])) : ∃ o b e f g i, d = T' o b [e, f, g, i] ∧ Rep e p ∧ Rep f q ∧ Rep g r ∧ Rep i s := by
  obtain ⟨o, b, ds, rfl, hh⟩ := Rep_tuple.mp h
  obtain ⟨e, es, rfl, h1, hh⟩ := Reps_cons.mp hh
  obtain ⟨f, es, rfl, h2, hh⟩ := Reps_cons.mp hh
  obtain ⟨g, es, rfl, h3, hh⟩ := Reps_cons.mp hh
  obtain ⟨i, es, rfl, h4, hh⟩ := Reps_cons.mp hh
  rw [Reps_nil] at hh; subst hh
  exact ⟨o, b, e, f, g, i, rfl, h1, h2, h3, h4⟩
theorem Rep.t5 {p q r s t : PyData} (h : Rep d (.tuple [p, q, r, s, t])) : ∃ o b e f g i j, d = T' o b [e, f, g, i, j] ∧ Rep e p ∧ Rep f q ∧ Rep g r ∧ Rep i s ∧ Rep j t := by
  obtain ⟨o, b, ds, rfl, hh⟩ := Rep_tuple.mp h
  obtain ⟨e, es, rfl, h1, hh⟩ := Reps_cons.mp hh
  obtain ⟨f, es, rfl, h2, hh⟩ := Reps_cons.mp hh
  obtain ⟨g, es, rfl, h3, hh⟩ := Reps_cons.mp hh
  obtain ⟨i, es, rfl, h4, hh⟩ := Reps_cons.mp hh
  obtain ⟨j, es, rfl, h5, hh⟩ := Reps_cons.mp hh
  rw [Reps_nil] at hh; subst hh
  exact ⟨o, b, e, f, g, i, j, rfl, h1, h2, h3, h4, h5⟩
theorem Rep.t6 {p q r s t u : PyData} (h : Rep d (.tuple [p, q, r, s, t, u])) : ∃ o b e f g i j l, d = T' o b [e, f, g, i, j, l] ∧ Rep e p ∧ Rep f q ∧ Rep g r ∧ Rep i s ∧ Rep j t ∧ Rep l u := by
  obtain ⟨o, b, ds, rfl, hh⟩ := Rep_tuple.mp h
  obtain ⟨e, es, rfl, h1, hh⟩ := Reps_cons.mp hh
  obtain ⟨f, es, rfl, h2, hh⟩ := Reps_cons.mp hh
  obtain ⟨g, es, rfl, h3, hh⟩ := Reps_cons.mp hh
  obtain ⟨i, es, rfl, h4, hh⟩ := Reps_cons.mp hh
  obtain ⟨j, es, rfl, h5, hh⟩ := Reps_cons.mp hh
  obtain ⟨l, es, rfl, h6, hh⟩ := Reps_cons.mp hh
  rw [Reps_nil] at hh; subst hh
  exact ⟨o, b, e, f, g, i, j, l, rfl, h1, h2, h3, h4, h5, h6⟩
theorem Reps.length {ps : List PyData} (h : Reps ds ps) : ds.length = ps.length := by
  induction ps generalizing ds with
  | nil => rw [Reps_nil] at h; simp [h]
  | cons p ps ih => obtain ⟨d, es, rfl, _, h2⟩ := Reps_cons.mp h; simp [ih h2]
theorem Reps.append {es : List D} {ps qs : List PyData} (h : Reps ds ps) (h2 : Reps es qs) : Reps (ds ++ es) (ps ++ qs) := by
  induction ps generalizing ds with
  | nil => rw [Reps_nil] at h; simpa [h] using h2
  | cons p ps ih => obtain ⟨d, fs, rfl, h3, h4⟩ := Reps_cons.mp h; exact Reps_cons.mpr ⟨d, _, rfl, h3, ih h4⟩
theorem Reps.get {ps : List PyData} (h : Reps ds ps) {i : Nat} {d : D} (e : ds[i]? = some d) : ∃ p, ps[i]? = some p ∧ Rep d p := by
  induction ps generalizing ds i with
  | nil => rw [Reps_nil] at h; simp [h] at e
  | cons p ps ih =>
    obtain ⟨d, fs, rfl, h3, h4⟩ := Reps_cons.mp h
    cases i with
    | zero => simp at e; subst e; exact ⟨p, rfl, h3⟩
    | succ i => simpa using ih h4 (by simpa using e)
theorem Reps.getP {ps : List PyData} (h : Reps ds ps) {i : Nat} {p : PyData} (e : ps[i]? = some p) : ∃ d, ds[i]? = some d ∧ Rep d p := by
  induction ps generalizing ds i with
  | nil => simp at e
  | cons p ps ih =>
    obtain ⟨d, fs, rfl, h3, h4⟩ := Reps_cons.mp h
    cases i with
    | zero => simp at e; subst e; exact ⟨d, rfl, h3⟩
    | succ i => simpa using ih h4 (by simpa using e)
theorem Reps.take {ps : List PyData} (h : Reps ds ps) (n : Nat) : Reps (ds.take n) (ps.take n) := by
  induction ps generalizing ds n with
  | nil => rw [Reps_nil] at h; simp [h]
  | cons p ps ih =>
    obtain ⟨d, fs, rfl, h3, h4⟩ := Reps_cons.mp h
    cases n with
    | zero => simp
    | succ n => exact Reps_cons.mpr ⟨d, _, rfl, h3, ih h4 n⟩
theorem Reps.drop {ps : List PyData} (h : Reps ds ps) (n : Nat) : Reps (ds.drop n) (ps.drop n) := by
  induction ps generalizing ds n with
  | nil => rw [Reps_nil] at h; simp [h]
  | cons p ps ih =>
    obtain ⟨d, fs, rfl, h3, h4⟩ := Reps_cons.mp h
    cases n with
    | zero => exact h
    | succ n => exact ih h4 n
mutual
theorem lf_of_dat : ∀ {d : D}, dat d = true → lf d = true
  | .non, _ => by simp [lf]
  | .bl _, _ => by simp [lf]
  | .int _, _ => by simp [lf]
  | .str _, _ => by simp [lf]
  | .loc _, h => by simp [dat] at h
  | .nd o sh ds, h => by
    unfold dat at h
    rw [Bool.and_eq_true] at h
    unfold lf
    exact lfs_of_dats h.2
theorem lfs_of_dats : ∀ {ds : List D}, dats ds = true → lfs ds = true
  | [], _ => by simp [lfs]
  | d :: ds, h => by
    unfold dats at h
    rw [Bool.and_eq_true] at h
    unfold lfs
    rw [lf_of_dat h.1, lfs_of_dats h.2]; rfl
end
theorem Rep.lf {p : PyData} (h : Rep d p) : lf d = true := lf_of_dat h.1
theorem Reps.lfs {ps : List PyData} (h : Reps ds ps) : lfs ds = true := lfs_of_dats h.1
mutual
theorem lf_of_ow : ∀ {d : D}, ow d = true → lf d = true
  | .non, _ => by simp [Mi.lf]
  | .bl _, _ => by simp [Mi.lf]
  | .int _, _ => by simp [Mi.lf]
  | .str _, _ => by simp [Mi.lf]
  | .loc _, h => by simp [ow] at h
  | .nd o sh ds, h => by
    unfold ow at h
    rw [Bool.and_eq_true] at h
    unfold Mi.lf
    exact lfs_of_ows h.2
theorem lfs_of_ows : ∀ {ds : List D}, ows ds = true → Mi.lfs ds = true
  | [], _ => by simp [Mi.lfs]
  | d :: ds, h => by
    unfold ows at h
    rw [Bool.and_eq_true] at h
    unfold Mi.lfs
    rw [lf_of_ow h.1, lfs_of_ows h.2]; rfl
end
mutual
/-- what has no cells is lent as it is -/
theorem lend_lf : ∀ {d : D} (k : Nat), Mi.lf d = true → snap false true k m d = some d
  | .non, k, _ => by rw [snap]
  | .bl _, k, _ => by rw [snap]
  | .int _, k, _ => by rw [snap]
  | .str _, k, _ => by rw [snap]
  | .loc _, _, h => by simp [Mi.lf] at h
  | .nd o sh ds, k, h => by
    unfold Mi.lf at h
    rw [snap, lends_lf k h]
    simp
theorem lends_lf : ∀ {ds : List D} (k : Nat), Mi.lfs ds = true → snaps false true k m ds = some ds
  | [], k, _ => by rw [snaps]
  | d :: ds, k, h => by
    unfold Mi.lfs at h
    rw [Bool.and_eq_true] at h
    rw [snaps, lend_lf k h.1]
    simp [lends_lf k h.2]
end
mutual
theorem frz_ow : ∀ {d : D} (k : Nat), ow d = true → snap true false k m d = some d
  | .non, k, _ => by rw [snap]
  | .bl _, k, _ => by rw [snap]
  | .int _, k, _ => by rw [snap]
  | .str _, k, _ => by rw [snap]
  | .loc _, _, h => by simp [ow] at h
  | .nd o sh ds, k, h => by
    unfold ow at h
    rw [Bool.and_eq_true] at h
    rw [snap, frzs_ow k h.2, h.1]
    simp
theorem frzs_ow : ∀ {ds : List D} (k : Nat), ows ds = true → snaps true false k m ds = some ds
  | [], k, _ => by rw [snaps]
  | d :: ds, k, h => by
    unfold ows at h
    rw [Bool.and_eq_true] at h
    rw [snaps, frz_ow k h.1]
    simp [frzs_ow k h.2]
end
theorem ows_app {es : List D} : ows (ds ++ es) = (ows ds && ows es) := by
  induction ds with
  | nil => simp [ows]
  | cons d ds ih => simp [ows, ih, Bool.and_assoc]
theorem ows_get {i : Nat} (h : ows ds = true) (e : ds[i]? = some d) : ow d = true := by
  induction ds generalizing i with
  | nil => simp at e
  | cons a ds ih =>
    simp [ows] at h
    cases i with
    | zero => simp at e; subst e; exact h.1
    | succ i => exact ih h.2 (by simpa using e)
end
/-! ### walks -/
section
variable {cal : Cal} {ρ : Env} {m : Mem} {f : D → Env → Mem → R (Fl × Mem)} {Q : Fl × Mem → Prop}
@[simp] theorem forSrc_st {ds : List D} : forSrc f (.st ds) ρ m = forSt f ds ρ m := rfl
@[simp] theorem goSrc_st {α : Type} {f : D → α → Mem → R (α × Mem)} {ds : List D} {a : α} : goSrc f (.st ds) a m = goSt f ds a m := rfl
/-- what is wished of the turns to come -/
def ForK (f : D → Env → Mem → R (Fl × Mem)) (ds : List D) (Q : Fl × Mem → Prop) (u : U Q := .mk) : Fl × Mem → Prop := fun r => match r.1 with
  | .nx ρ => W (forSt f ds ρ r.2) Q
  | .rt v => Q (.rt v, r.2)
@[simp] theorem ForK_nx {ds : List D} : (ForK f ds Q) (.nx ρ, m) ↔ W (forSt f ds ρ m) Q := Iff.rfl
@[simp] theorem ForK_rt {ds : List D} {v : D} : (ForK f ds Q) (.rt v, m) ↔ Q (.rt v, m) := Iff.rfl
@[simp] theorem W_for0 : W (forSt f [] ρ m) Q ↔ Q (.nx ρ, m) := by unfold forSt; rw [W_ok]
@[simp] theorem W_for1 {d : D} {ds : List D} : W (forSt f (d :: ds) ρ m) Q ↔ W (f d ρ m) (ForK f ds Q) := by
  conv => lhs; unfold forSt
  rw [W_bind]
  constructor
  · intro h; refine h.mono fun x hx => ?_
    obtain ⟨x1, x2⟩ := x
    cases x1 <;> simpa using hx
  · intro h; refine h.mono fun x hx => ?_
    obtain ⟨x1, x2⟩ := x
    cases x1 <;> simpa using hx
/-- a for that runs to its end -/
theorem W_forSt (I : Nat → Env → Mem → Prop) : ∀ (ds : List D) (ρ : Env) (m : Mem) (j : Nat), I j ρ m → (∀ i d ρ m, ds[i]? = some d → I (j + i) ρ m → W (f d ρ m) fun r => ∃ ρ', r.1 = .nx ρ' ∧ I (j + i + 1) ρ' r.2) → (∀ ρ m, I (j + ds.length) ρ m → Q (.nx ρ, m)) → W (forSt f ds ρ m) Q
  | [], ρ, m, j, h0, _, hq => by
    unfold forSt
    rw [W_ok]
    exact hq ρ m h0
  | d :: ds, ρ, m, j, h0, hs, hq => by
    unfold forSt
    rw [W_bind]
    refine (hs 0 d ρ m rfl h0).mono fun r ⟨ρ', e, h1⟩ => ?_
    obtain ⟨r1, r2⟩ := r
    cases e
    refine W_forSt I ds ρ' r2 (j + 1) h1 (fun i d ρ m e hi => ?_) (fun ρ m hi => hq ρ m (by rw [List.length_cons, show j + (ds.length + 1) = j + 1 + ds.length from by omega]; exact hi))
    have := hs (i + 1) d ρ m (by simpa using e) (by have e2 : j + (i + 1) = j + 1 + i := by omega
                                                    rw [e2]; exact hi)
    have e2 : j + (i + 1) = j + 1 + i := by omega
    rw [e2] at this
    exact this
/-- not looked into -/
def Opq (p : Prop) (u : U p := .mk) : Prop := p
theorem Opq.in {p : Prop} (h : p) : Opq p := h
/-- a turn's end: the loop goes on, and I holds -/
def Nxt (I : Env → Mem → Prop) (u : U I := .mk) : Fl × Mem → Prop := fun r => ∃ ρ', r.1 = .nx ρ' ∧ I ρ' r.2
@[simp] theorem Nxt_nx {I : Env → Mem → Prop} : (Nxt I) (.nx ρ, m) ↔ Opq (I ρ m) := by
  unfold Nxt Opq
  constructor
  · rintro ⟨ρ', e, h⟩; cases e; exact h
  · intro h; exact ⟨ρ, rfl, h⟩
@[simp] theorem Nxt_rt {I : Env → Mem → Prop} {v : D} : (Nxt I) (.rt v, m) ↔ False := by
  unfold Nxt
  constructor
  · rintro ⟨ρ', e, h⟩; cases e
  · exact False.elim
/-- a for, from its first turn -/
theorem W_forS {f : D → Env → Mem → R (Fl × Mem)} {Q : Fl × Mem → Prop} (I : Nat → Env → Mem → Prop) (ds : List D) (ρ : Env) (m : Mem) (h0 : I 0 ρ m) (hs : ∀ (i : Nat) d ρ m, ds[i]? = some d → I i ρ m → W (f d ρ m) (Nxt (I (i + 1)))) (hq : ∀ ρ m, I ds.length ρ m → Q (.nx ρ, m)) : W (forSt f ds ρ m) Q :=
  W_forSt I ds ρ m 0 h0 (fun i d ρ m e h => by
    rw [Nat.zero_add] at h
    have := hs i d ρ m e h
    rw [show i + 1 = 0 + i + 1 from by omega] at this
    exact this) (fun ρ m h => hq ρ m (by rwa [Nat.zero_add] at h))
theorem W_goSt {α : Type} {f : D → α → Mem → R (α × Mem)} {Q : α × Mem → Prop} (I : Nat → α → Mem → Prop) : ∀ (ds : List D) (a : α) (m : Mem) (j : Nat), I j a m → (∀ i d a m, ds[i]? = some d → I (j + i) a m → W (f d a m) fun r => I (j + i + 1) r.1 r.2) → (∀ a m, I (j + ds.length) a m → Q (a, m)) → W (goSt f ds a m) Q
  | [], a, m, j, h0, _, hq => by
    unfold goSt
    rw [W_ok]
    exact hq a m h0
  | d :: ds, a, m, j, h0, hs, hq => by
    unfold goSt
    rw [W_bind]
    refine (hs 0 d a m rfl h0).mono fun r h1 => ?_
    refine W_goSt I ds r.1 r.2 (j + 1) h1 (fun i d a m e hi => ?_) (fun a m hi => hq a m (by rw [List.length_cons, show j + (ds.length + 1) = j + 1 + ds.length from by omega]; exact hi))
    have e2 : j + (i + 1) = j + 1 + i := by omega
    have := hs (i + 1) d a m (by simpa using e) (by rw [e2]; exact hi)
    rw [e2] at this
    exact this
/-- a turn of a list comprehension -/
def lcT (cal : Cal) (e : E) (own : List Nat) (t : T) (ifs : List E) (g : G) (ρ : Env) : D → Acc → Mem → R (Acc × Mem) := fun d acc m => (asgn cal t d (wipe ρ own) m).bind fun r => (evIfs cal ifs r.1 r.2).bind fun b =>
      if b.1 then evG cal g (fun ρ acc m => (evE cal e ρ m).bind fun x => (putL acc x.1).bind fun acc => .ok (acc, x.2)) r.1 acc b.2 else .ok (acc, b.2)
theorem V_lc {fr : Bool} {e : E} {own : List Nat} {t : T} {it : I} {ifs : List E} {g : G} {Q : D × Mem → Prop} : V (evE cal (.lc fr e own t it ifs g) ρ m) Q ↔ V (evI cal it ρ m) fun s => V (goSrc (lcT cal e own t ifs g ρ) s.1 (Sh.lst, []) s.2) fun r => Q (fin fr r.1.1 r.1.2 r.2) := by
  conv => lhs; unfold evE; simp
  rfl
@[simp] theorem W_lc {fr : Bool} {e : E} {own : List Nat} {t : T} {it : I} {ifs : List E} {g : G} {Q : D × Mem → Prop} : W (evE cal (.lc fr e own t it ifs g) ρ m) Q ↔ W (evI cal it ρ m) fun s => W (goSrc (lcT cal e own t ifs g ρ) s.1 (Sh.lst, []) s.2) fun r => Q (fin fr r.1.1 r.1.2 r.2) := V_lc
/-- what is put for an item -/
def Put (cal : Cal) (e : E) (own : List Nat) (t : T) (ifs : List E) (ρ : Env) (m : Mem) (d : D) (o : Option PyData) : Prop :=
  W (asgn cal t d (wipe ρ own) m) fun r => W (evIfs cal ifs r.1 r.2) fun b => b.1 = o.isSome ∧ match o with
    | some q => W (evE cal e r.1 b.2) fun x => Rep x.1 q ∧ ow x.1 = true ∧ x.2 = m
    | none => b.2 = m
theorem W_lcSt {e : E} {own : List Nat} {t : T} {ifs : List E} (g : PyData → Option PyData) : ∀ {ds : List D} {ps : List PyData} {acc : List D}, Reps ds ps → (∀ d p, p ∈ ps → Rep d p → Put cal e own t ifs ρ m d (g p)) → acc.length + ds.length ≤ most →
    W (goSt (lcT cal e own t ifs .nil ρ) ds (Sh.lst, acc) m) fun r => ∃ rs, r = ((.lst, acc ++ rs), m) ∧ Reps rs (ps.filterMap g) ∧ ows rs = true := by
  intro ds ps
  induction ps generalizing ds with
  | nil =>
    intro acc h _ _
    rw [Reps_nil] at h
    subst h
    unfold goSt
    rw [W_ok]
    exact ⟨[], by simp, by simp, by simp [ows]⟩
  | cons p ps ih =>
    intro acc h hp hl
    obtain ⟨d, es, rfl, h1, h2⟩ := Reps_cons.mp h
    unfold goSt lcT
    rw [W_bind, W_bind]
    refine (hp d p (List.mem_cons_self ..) h1).mono fun r hr => ?_
    rw [W_bind]
    refine hr.mono fun b ⟨hb, ho⟩ => ?_
    simp at hl
    cases ho2 : g p with
    | some q =>
      rw [ho2] at hb ho
      simp at hb
      rw [if_pos hb]
      unfold evG
      rw [W_bind]
      refine W.mono ho fun x ⟨x1, x3, x2⟩ => ?_
      rw [W_bind]
      unfold putL
      rw [if_pos (by show acc.length < most; omega)]
      simp only [W_ok]
      rw [x2]
      refine (ih (acc := acc ++ [x.1]) h2 (fun d p' hp' => hp d p' (List.mem_cons_of_mem _ hp')) (by simp; omega)).mono fun r ⟨rs, e, hrs, how⟩ => ?_
      refine ⟨x.1 :: rs, by rw [e]; simp, ?_, by simp [ows, x3, how]⟩
      rw [List.filterMap_cons_some ho2]
      exact Reps_cons.mpr ⟨_, _, rfl, x1, hrs⟩
    | none =>
      rw [ho2] at hb ho
      simp at hb
      rw [if_neg (by simp [hb])]
      simp only [W_ok]
      have ho : b.2 = m := ho
      rw [ho]
      refine (ih (acc := acc) h2 (fun d p' hp' => hp d p' (List.mem_cons_of_mem _ hp')) (by omega)).mono fun r ⟨rs, e, hrs, how⟩ => ?_
      refine ⟨rs, e, ?_, how⟩
      rw [List.filterMap_cons_none ho2]
      exact hrs
theorem filterMap_none {α β : Type} : ∀ l : List α, l.filterMap (fun _ => (none : Option β)) = []
  | [] => rfl
  | _ :: l => by rw [List.filterMap_cons_none rfl, filterMap_none l]
theorem W_lcNone {e : E} {own : List Nat} {t : T} {ifs : List E} {ds : List D} {ps : List PyData} (hr : Reps ds ps) (h : ∀ d p, p ∈ ps → Rep d p → Put cal e own t ifs ρ m d none) (hl : ds.length ≤ most) {Q : Acc × Mem → Prop} (q : Q ((.lst, []), m)) :
    W (goSt (lcT cal e own t ifs .nil ρ) ds (Sh.lst, []) m) Q := by
  refine (W_lcSt (acc := []) (fun _ => none) hr h (by simpa using hl)).mono fun r ⟨rs, e, hr, _⟩ => ?_
  rw [filterMap_none, Reps_nil] at hr
  subst hr e
  exact q
theorem W.iff {α : Type} {r : R α} {a : α} {Q : α → Prop} (h : W r fun x => x = a) : W r Q ↔ Q a := by
  obtain ⟨b, e, rfl⟩ := h
  rw [e, W_ok]
end
end Mi
end
section
set_option linter.all false
set_option Elab.async false
set_option maxRecDepth 100000
set_option maxHeartbeats 2000000
/-! Mp2: small functions of the program. -/
namespace Mi
open PySem
section
variable {m : Mem}
@[simp] theorem isi_int {i : Int} {ks : List Kd} : isiD m (.int i) ks = .ok (ks.any (kdIs "int")) := rfl
@[simp] theorem isi_bl {i : Bool} {ks : List Kd} : isiD m (.bl i) ks = .ok (ks.any (kdIs "bool")) := rfl
@[simp] theorem isi_str {i : Str} {ks : List Kd} : isiD m (.str i) ks = .ok (ks.any (kdIs "str")) := rfl
@[simp] theorem isi_non {ks : List Kd} : isiD m .non ks = .ok (ks.any (kdIs "NoneType")) := rfl
@[simp] theorem isi_T' {o b : Bool} {ds : List D} {ks : List Kd} : isiD m (T' o b ds) ks = .ok (ks.any (kdIs "tuple")) := by cases b <;> rfl
@[simp] theorem isi_L {o : Bool} {ds : List D} {ks : List Kd} : isiD m (.nd o .lst ds) ks = .ok (ks.any (kdIs "list")) := rfl
@[simp] theorem kd_ii : kdIs "int" .int = true := by decide
@[simp] theorem kd_ib : kdIs "int" .bool = false := by decide
@[simp] theorem kd_is : kdIs "int" .str = false := by decide
@[simp] theorem kd_it : kdIs "int" .tuple = false := by decide
@[simp] theorem kd_il : kdIs "int" .list = false := by decide
@[simp] theorem kd_bi : kdIs "bool" .int = true := by decide
@[simp] theorem kd_bb : kdIs "bool" .bool = true := by decide
@[simp] theorem kd_bs : kdIs "bool" .str = false := by decide
@[simp] theorem kd_bt : kdIs "bool" .tuple = false := by decide
@[simp] theorem kd_bl : kdIs "bool" .list = false := by decide
@[simp] theorem kd_si : kdIs "str" .int = false := by decide
@[simp] theorem kd_sb : kdIs "str" .bool = false := by decide
@[simp] theorem kd_ss : kdIs "str" .str = true := by decide
@[simp] theorem kd_st : kdIs "str" .tuple = false := by decide
@[simp] theorem kd_sl : kdIs "str" .list = false := by decide
@[simp] theorem kd_ti : kdIs "tuple" .int = false := by decide
@[simp] theorem kd_tb : kdIs "tuple" .bool = false := by decide
@[simp] theorem kd_ts : kdIs "tuple" .str = false := by decide
@[simp] theorem kd_tt : kdIs "tuple" .tuple = true := by decide
@[simp] theorem kd_tl : kdIs "tuple" .list = false := by decide
@[simp] theorem kd_li : kdIs "list" .int = false := by decide
@[simp] theorem kd_lb : kdIs "list" .bool = false := by decide
@[simp] theorem kd_ls : kdIs "list" .str = false := by decide
@[simp] theorem kd_lt : kdIs "list" .tuple = false := by decide
@[simp] theorem kd_ll : kdIs "list" .list = true := by decide
@[simp] theorem kd_ni : kdIs "NoneType" .int = false := by decide
@[simp] theorem kd_nb : kdIs "NoneType" .bool = false := by decide
@[simp] theorem kd_ns : kdIs "NoneType" .str = false := by decide
@[simp] theorem kd_nt : kdIs "NoneType" .tuple = false := by decide
@[simp] theorem kd_nl : kdIs "NoneType" .list = false := by decide
section
variable {Q : Bool → Prop} {i j : Int}
@[simp] theorem W_lt : W (cmpB .lt m (.int i) (.int j)) Q ↔ Q (decide (i < j)) := by simp [cmpB, ordD]
@[simp] theorem W_le : W (cmpB .le m (.int i) (.int j)) Q ↔ Q (decide (i ≤ j)) := by simp [cmpB, ordD]
@[simp] theorem W_gt : W (cmpB .gt m (.int i) (.int j)) Q ↔ Q (decide (j < i)) := by simp [cmpB, ordD]
@[simp] theorem W_ge : W (cmpB .ge m (.int i) (.int j)) Q ↔ Q (decide (j ≤ i)) := by simp [cmpB, ordD]
end
section
variable {Q : D → Prop} {i j : Int}
@[simp] theorem W_addI : W (bin .add m (.int i) (.int j)) Q ↔ Q (.int (i + j)) := by simp [bin, addD]
@[simp] theorem W_subI : W (bin .sub m (.int i) (.int j)) Q ↔ Q (.int (i - j)) := by simp [bin, subD]
@[simp] theorem W_modI : W (bin .mod m (.int i) (.int j)) Q ↔ 0 < j ∧ Q (.int (i % j)) := by simp [bin, modD, W_ib]
@[simp] theorem W_fdivI : W (bin .fdiv m (.int i) (.int j)) Q ↔ (0 < j ∧ j < 1073741824) ∧ Q (.int (i / j)) := by simp [bin, fdivD, W_ib]
@[simp] theorem W_mulI : W (bin .mul m (.int i) (.int j)) Q ↔ ((-(2 ^ 64) < i ∧ i < 2 ^ 64) ∨ (-(2 ^ 64) < j ∧ j < 2 ^ 64)) ∧ Q (.int (i * j)) := by simp only [bin, mulD, W_ib, W_ok]
end
end
/-! ### texts -/
theorem map_inj' : ∀ {l l' : List Char}, l.map Char.toNat = l'.map Char.toNat → l = l'
  | [], [], _ => rfl
  | [], _ :: _, h => by simp at h
  | _ :: _, [], h => by simp at h
  | a :: l, b :: l', h => by
    simp only [List.map_cons, List.cons.injEq] at h
    rw [Char.toNat_inj.mp h.1, map_inj' h.2]
theorem beqD {α : Type} [DecidableEq α] [BEq α] [LawfulBEq α] {a b : α} : (a == b) = decide (a = b) := by
  by_cases h : a = b
  · subst h; simp
  · simp [h]
section
variable {b c : Bool} {k : Nat} {m : Mem}
@[simp] theorem snap_non : snap b c k m .non = some .non := by rw [snap]
@[simp] theorem snap_bl {x : Bool} : snap b c k m (.bl x) = some (.bl x) := by rw [snap]
@[simp] theorem snap_int {x : Int} : snap b c k m (.int x) = some (.int x) := by rw [snap]
@[simp] theorem snap_str {x : Str} : snap b c k m (.str x) = some (.str x) := by rw [snap]
end
theorem ofString_inj {a b : String} : Str.ofString a = Str.ofString b ↔ a = b := by
  constructor
  · intro h
    rw [Str.ofString_eq_toList, Str.ofString_eq_toList] at h
    have h1 : (a.toList.map Char.toNat).toArray = (b.toList.map Char.toNat).toArray := by injection h
    have h2 : a.toList.map Char.toNat = b.toList.map Char.toNat := by simpa using congrArg Array.toList h1
    have h3 : a.toList = b.toList := map_inj' h2
    rw [← String.ofList_toList (s := a), ← String.ofList_toList (s := b), h3]
  · rintro rfl; rfl
@[simp] theorem ofString_eq {a b : String} : (Str.ofString a = Str.ofString b) = (a = b) := propext ofString_inj
@[simp] theorem ofString_app {a b : String} : Str.ofString a ++ Str.ofString b = Str.ofString (a ++ b) := by
  rw [Str.ofString_eq_toList, Str.ofString_eq_toList, Str.ofString_eq_toList]
  show Str.append _ _ = _
  unfold Str.append
  simp
@[simp] theorem strOk_of {a : String} : PyData.strOk (Str.ofString a) = true := by
  rw [Str.ofString_eq_toList]
  unfold PyData.strOk
  simp only [Array.all_eq_true]
  intro i hi
  simp
  have := (a.toList[i]'(by simpa using hi)).valid
  rcases this with h | ⟨_, h⟩
  · exact Nat.lt_trans h (by decide)
  · exact h
/-! ### comparing -/
section
variable {m : Mem} {Q : Bool → Prop}
theorem val_lf {d : D} (h : lf d = true) : val m d = some d := by unfold val; rw [if_pos h]
theorem cmpEq_rep {a b : D} {p q : PyData} (ha : Rep a p) (hb : Rep b q) (sa : SeqAt.shaped p = true) (sb : SeqAt.shaped q = true) : cmpEq m a b = .ok (PyData.eqv p q) := by
  unfold cmpEq
  rw [val_lf ha.lf, val_lf hb.lf]
  have e1 : fitD a = true := by unfold fitD; rw [ha.1, ha.2, sa]; rfl
  have e2 : fitD b = true := by unfold fitD; rw [hb.1, hb.2, sb]; rfl
  simp only [e1, e2, Bool.and_true, if_true]
  unfold eqD; rw [ha.2, hb.2]
theorem W_eq {a b : D} {p q : PyData} (ha : Rep a p) (hb : Rep b q) (sa : SeqAt.shaped p = true) (sb : SeqAt.shaped q = true) : W (cmpB .eq m a b) Q ↔ Q (PyData.eqv p q) := by
  unfold cmpB; rw [cmpEq_rep ha hb sa sb, W_ok]
theorem W_ne {a b : D} {p q : PyData} (ha : Rep a p) (hb : Rep b q) (sa : SeqAt.shaped p = true) (sb : SeqAt.shaped q = true) : W (cmpB .ne m a b) Q ↔ Q (!PyData.eqv p q) := by
  unfold cmpB; rw [cmpEq_rep ha hb sa sb]; simp [R.bind]
@[simp] theorem shaped_int {i : Int} : SeqAt.shaped (.int i) = true := by simp [SeqAt.shaped, PyData.canLay0, PyData.depth]
@[simp] theorem shaped_bool {i : Bool} : SeqAt.shaped (.bool i) = true := by simp [SeqAt.shaped, PyData.canLay0, PyData.depth]
@[simp] theorem shaped_none : SeqAt.shaped .none = true := by simp [SeqAt.shaped, PyData.canLay0, PyData.depth]
@[simp] theorem shaped_str {x : Str} : SeqAt.shaped (.str x) = PyData.strOk x := by simp [SeqAt.shaped, PyData.canLay0, PyData.depth]
@[simp] theorem shaped_t0 : SeqAt.shaped (.tuple []) = true := by simp [SeqAt.shaped, PyData.canLay0, PyData.canLayAll0, PyData.depth, PyData.depthAll]
@[simp] theorem shaped_l0 : SeqAt.shaped (.list []) = true := by simp [SeqAt.shaped, PyData.canLay0, PyData.canLayAll0, PyData.depth, PyData.depthAll]
@[simp] theorem W_eqI {i j : Int} : W (cmpB .eq m (.int i) (.int j)) Q ↔ Q (decide (i = j)) := by
  rw [W_eq (Rep_int.mpr rfl) (Rep_int.mpr rfl) shaped_int shaped_int]; simp [PyData.eqv, beqD]
@[simp] theorem W_neI {i j : Int} : W (cmpB .ne m (.int i) (.int j)) Q ↔ Q (decide (i ≠ j)) := by
  rw [W_ne (Rep_int.mpr rfl) (Rep_int.mpr rfl) shaped_int shaped_int]; simp [PyData.eqv, beqD]
@[simp] theorem W_eqB {i j : Bool} : W (cmpB .eq m (.bl i) (.bl j)) Q ↔ Q (i == j) := by
  rw [W_eq (Rep_bool.mpr rfl) (Rep_bool.mpr rfl) shaped_bool shaped_bool]; simp [PyData.eqv]
@[simp] theorem W_neB {i j : Bool} : W (cmpB .ne m (.bl i) (.bl j)) Q ↔ Q (!(i == j)) := by
  rw [W_ne (Rep_bool.mpr rfl) (Rep_bool.mpr rfl) shaped_bool shaped_bool]; simp [PyData.eqv]
theorem W_eqS {x y : Str} (hx : PyData.strOk x = true) (hy : PyData.strOk y = true) : W (cmpB .eq m (.str x) (.str y)) Q ↔ Q (decide (x = y)) := by
  rw [W_eq (Rep_str.mpr rfl) (Rep_str.mpr rfl) (by simpa using hx) (by simpa using hy)]; simp [PyData.eqv, beqD]
theorem W_neS {x y : Str} (hx : PyData.strOk x = true) (hy : PyData.strOk y = true) : W (cmpB .ne m (.str x) (.str y)) Q ↔ Q (decide (x ≠ y)) := by
  rw [W_ne (Rep_str.mpr rfl) (Rep_str.mpr rfl) (by simpa using hx) (by simpa using hy)]; simp [PyData.eqv, beqD]
@[simp] theorem W_eqSS {x y : String} : W (cmpB .eq m (.str (Str.ofString x)) (.str (Str.ofString y))) Q ↔ Q (decide (x = y)) := by rw [W_eqS strOk_of strOk_of]; simp
@[simp] theorem W_neSS {x y : String} : W (cmpB .ne m (.str (Str.ofString x)) (.str (Str.ofString y))) Q ↔ Q (decide (x ≠ y)) := by rw [W_neS strOk_of strOk_of]; simp
end
theorem any_rep {p : PyData} {a : D} (ha : py a = p) : ∀ {ds : List D} {qs : List PyData}, pys ds = qs → (ds.any fun z => eqD z a) = qs.any fun z => PyData.eqv z p
  | [], qs, h => by rw [← h]; rfl
  | d :: ds, qs, h => by
    rw [← h, pys, List.any_cons, List.any_cons, any_rep ha rfl]
    unfold eqD
    rw [ha]
theorem inD_rep {m : Mem} {a b : D} {p : PyData} {qs : List PyData} (ha : Rep a p) (hb : Rep b (.tuple qs) ∨ Rep b (.list qs)) (sa : SeqAt.shaped p = true) (sb : SeqAt.shaped (.tuple qs) = true) : inD m a b = .ok (qs.any fun z => PyData.eqv z p) := by
  have e1 : fitD a = true := by unfold fitD; rw [ha.1, ha.2, sa]; rfl
  have sl : SeqAt.shaped (.list qs) = true := by simpa [SeqAt.shaped, PyData.canLay0, PyData.depth] using sb
  rcases hb with hb | hb
  · have e2 : fitD b = true := by unfold fitD; rw [hb.1, hb.2, sb]; rfl
    have l2 := val_lf (m := m) hb.lf
    obtain ⟨o, t, ds, rfl, h⟩ := Rep_tuple.mp hb
    have e3 := any_rep ha.2 h.2
    cases t <;> simp [inD, T', view, nrm, val_lf ha.lf, -tup_T', -tupP_T'] <;> simp [T', -tup_T', -tupP_T'] at l2 e2 e1 <;> simp [l2, e1, e2, -tup_T', -tupP_T'] <;> exact e3
  · have e2 : fitD b = true := by unfold fitD; rw [hb.1, hb.2, sl]; rfl
    have l2 := val_lf (m := m) hb.lf
    obtain ⟨o, ds, rfl, h⟩ := Rep_list.mp hb
    have e3 := any_rep ha.2 h.2
    simp [inD, view, nrm, val_lf ha.lf]
    simp at e2 e1
    simp [l2, e1, e2]
    exact e3
/-! ### parts -/
section
variable {m : Mem} {o b : Bool} {ds : List D}
@[simp] theorem idx_T' {i : Int} : idxD m (T' o b ds) (.int i) = R.of (L2.atI ds i) := by cases b <;> rfl
@[simp] theorem idx_L {i : Int} : idxD m (.nd o .lst ds) (.int i) = R.of (L2.atI ds i) := rfl
@[simp] theorem idx_scr {i : Int} : idxD m (.nd o .scr ds) (.int i) = R.of (L2.atI ds i) := rfl
theorem atI_nat {α : Type} {l : List α} {i : Nat} : L2.atI l (i : Int) = l[i]? := by
  unfold L2.atI L2.ixN
  rw [if_pos (by omega)]
  by_cases h : i < l.length
  · rw [if_pos (by omega)]; simp
  · rw [if_neg (by omega)]; simp; omega
@[simp] theorem atI_0 {α : Type} {a : α} {l : List α} : L2.atI (a :: l) 0 = some a := atI_nat (i := 0)
@[simp] theorem atI_1 {α : Type} {a c : α} {l : List α} : L2.atI (a :: c :: l) 1 = some c := atI_nat (i := 1)
@[simp] theorem atI_2 {α : Type} {a c d : α} {l : List α} : L2.atI (a :: c :: d :: l) 2 = some d := atI_nat (i := 2)
@[simp] theorem atI_3 {α : Type} {a c d e : α} {l : List α} : L2.atI (a :: c :: d :: e :: l) 3 = some e := atI_nat (i := 3)
@[simp] theorem atI_4 {α : Type} {a c d e f : α} {l : List α} : L2.atI (a :: c :: d :: e :: f :: l) 4 = some f := atI_nat (i := 4)
theorem cut_L {α : Type} {l : List α} {i : Int} (h : 0 ≤ i) : cut l (some i) none = l.drop i.toNat := by
  unfold cut _root_.HT.sIx
  simp only
  rw [if_neg (by omega)]
  by_cases hl : i.toNat ≤ l.length
  · rw [Nat.min_eq_left hl, List.take_of_length_le (by simp)]
  · rw [Nat.min_eq_right (by omega), List.drop_eq_nil_of_le (as := l) (i := i.toNat) (by omega), List.drop_length]; simp
theorem cut_U {α : Type} {l : List α} {i : Int} (h : 0 ≤ i) : cut l none (some i) = l.take i.toNat := by
  unfold cut _root_.HT.sIx
  simp only
  rw [if_neg (by omega)]
  by_cases hl : i.toNat ≤ l.length
  · rw [Nat.min_eq_left hl]; simp
  · rw [Nat.min_eq_right (by omega), Nat.sub_zero, List.drop_zero, List.take_length, List.take_of_length_le (by omega)]
@[simp] theorem slc_T' {lo hi : Option Int} : slcD m (T' o b ds) lo hi = .ok (T' true false (cut ds lo hi)) := by cases b <;> rfl
@[simp] theorem slc_L {lo hi : Option Int} : slcD m (.nd o .lst ds) lo hi = .ok (lstD (cut ds lo hi)) := rfl
section
variable {Q : D × Mem → Prop}
@[simp] theorem W_lenT' {fr : Bool} : W (bi .len fr m [T' o b ds]) Q ↔ Q (.int ds.length, m) := by cases b <;> simp [bi, biLen, asV, T', view, nrm, -tup_T', -tupP_T']
@[simp] theorem W_lenL {fr : Bool} : W (bi .len fr m [.nd o .lst ds]) Q ↔ Q (.int ds.length, m) := by simp [bi, biLen, asV, view, nrm]
@[simp] theorem W_lenScr {fr : Bool} : W (bi .len fr m [.nd o .scr ds]) Q ↔ Q (.int ds.length, m) := by simp [bi, biLen, asV, view, nrm]
theorem W_lenS {fr : Bool} {x : Str} (h : x.length ≤ most) : W (bi .len fr m [.str x]) Q ↔ Q (.int x.length, m) := by simp [bi, biLen, asV, h]
end
@[simp] theorem src_T' : srcOf m (T' o b ds) = .ok (.st ds) := by cases b <;> rfl
@[simp] theorem src_L : srcOf m (.nd o .lst ds) = .ok (.st ds) := rfl
@[simp] theorem src_scr : srcOf m (.nd o .scr ds) = .ok (.st ds) := rfl
@[simp] theorem enu_T' : enuOf m (T' o b ds) = .ok (.st (enumD 0 ds)) := by cases b <;> rfl
@[simp] theorem enu_L : enuOf m (.nd o .lst ds) = .ok (.st (enumD 0 ds)) := rfl
@[simp] theorem src_str {x : Str} : srcOf m (.str x) = .ok (.st (x.cps.toList.map fun c => .str ⟨#[c]⟩)) := rfl
end
/-! ### the functions -/
section
variable {Pg : Prg} {k : Nat} {m : Mem} {Q : D × Mem → Prop}
theorem f_is_whole (h : Has Pg "is_whole" Cm.is_whole_d) {i lo hi : Int} : W (callN Pg (k + 1) "is_whole" [.int i, .int lo, .int hi] m) Q ↔ Q (.bl (decide (lo ≤ i ∧ i ≤ hi)), m) := by
  rw [W_callN h]
  simp [Cm.is_whole_b, out]
  by_cases h1 : lo ≤ i
  · simp [h1, Int.not_lt.mpr h1]
  · simp [h1, Int.not_le.mp h1]
theorem f_is_step (h : Has Pg "is_whole" Cm.is_whole_d) (h2 : Has Pg "is_step" Cm.is_step_d) {i : Int} : W (callN Pg (k + 2) "is_step" [.int i] m) Q ↔ Q (.bl (decide (-99 ≤ i ∧ i ≤ 99)), m) := by
  rw [W_callN h2]
  simp [Cm.is_step_b, out, W_pc, f_is_whole h, lfs, lf, frz_ow, ow]
end
end Mi
end
section
set_option linter.all false
set_option Elab.async false
set_option maxRecDepth 100000
set_option maxHeartbeats 4000000
/-! Mp3: the checker of programs lets by what can be. -/
namespace Mi
open PySem Pm
section
variable {Pg : Prg} {k : Nat} {m : Mem} {Q : D × Mem → Prop}
/-- the program's texts that look at trees -/
structure TreesP (Pg : Prg) : Prop where
  is_whole : Has Pg "is_whole" Cm.is_whole_d
  is_step : Has Pg "is_step" Cm.is_step_d
  is_name : Has Pg "is_name" Cm.is_name_d
  is_kind : Has Pg "is_kind" Cm.is_kind_d
  is_param : Has Pg "is_param" Cm.is_param_d
  is_head : Has Pg "is_head" Cm.is_head_d
  need_heads : Has Pg "need_heads" Cm.need_heads_d
  cls : Has Pg "Checker" .cls
  init : Has Pg "Checker.__init__" Cm.CheckerD_initD_d
  need : Has Pg "Checker.need" Cm.Checker_need_d
  look : Has Pg "Checker.look" Cm.Checker_look_d
  kind_of : Has Pg "Checker.kind_of" Cm.Checker_kind_of_d
  called : Has Pg "Checker.called" Cm.Checker_called_d
  are_of : Has Pg "are_of" Cm.are_of_d
  is_measure : Has Pg "is_measure" Cm.is_measure_d
  need_program : Has Pg "need_program" Cm.need_program_d
theorem letter (c : Nat) (h1 : 97 ≤ c) (h2 : c ≤ 122) : inD m (.str ⟨#[c]⟩) (.str "abcdefghijklmnopqrstuvwxyz") = .ok true := by
  have key : ∀ c, c < 123 → 97 ≤ c → (!(Builtin.Str.occurrences "abcdefghijklmnopqrstuvwxyz" ⟨#[c]⟩ 0 ("abcdefghijklmnopqrstuvwxyz" : Str).length 1).isEmpty) = true := by decide +kernel
  unfold inD
  simp only [key c (by omega) h1]
theorem pys_chars (l : List Nat) : Reps (l.map fun c => D.str ⟨#[c]⟩) (l.map fun c => PyData.str ⟨#[c]⟩) := by
  induction l with
  | nil => simp
  | cons c l ih => exact Reps_cons.mpr ⟨_, _, rfl, Rep_str.mpr rfl, ih⟩
@[simp] theorem W_eqNil {o o' : Bool} {P : Bool → Prop} : W (cmpB .eq m (.nd o .lst []) (.nd o' .lst [])) P ↔ P true := by
  rw [W_eq (p := .list []) (q := .list []) (by simp) (by simp) (by simp) (by simp)]
  simp [PyData.eqv, PyData.eqvAll]
@[simp] theorem W_neNil {o o' : Bool} {P : Bool → Prop} : W (cmpB .ne m (.nd o .lst []) (.nd o' .lst [])) P ↔ P false := by
  rw [W_ne (p := .list []) (q := .list []) (by simp) (by simp) (by simp) (by simp)]
  simp [PyData.eqv, PyData.eqvAll]
theorem f_is_name (h : Has Pg "is_name" Cm.is_name_d) {x : Str} (hx : isName x = true) : W (callN Pg (k + 1) "is_name" [.str x] m) Q ↔ Q (.bl true, m) := by
  unfold isName at hx
  rw [Bool.and_eq_true] at hx
  have hl := of_decide_eq_true hx.1
  have hm : x.length ≤ most := Nat.le_trans hl.2 (by decide)
  have h1 : (1 : Int) ≤ x.length := by omega
  have h2 : (x.length : Int) ≤ 8 := by omega
  refine W.iff ?_
  rw [W_callN h]
  simp [Cm.is_name_b, out, W_lenS hm, h1, h2, Int.not_lt.mpr h1, W_lc]
  refine W_lcNone (pys_chars _) (fun d p hp hr => ?_) (by simp only [List.length_map, Array.length_toList]; exact hm) (by simp)
  obtain ⟨c, hc, rfl⟩ := List.mem_map.mp hp
  rw [Rep_str] at hr
  subst hr
  have := List.all_eq_true.mp hx.2 c hc
  simp at this
  simp [Put, wipe, cmpB, letter c this.1 this.2, R.bind]
theorem f_is_kind (h : Has Pg "is_kind" Cm.is_kind_d) {κ : Kn} : W (callN Pg (k + 1) "is_kind" [.str κ.s] m) Q ↔ Q (.bl true, m) := by
  refine W.iff ?_
  rw [W_callN h]
  have e : inD m (.str κ.s) (T' true false [.str "number", .str "list"]) = .ok true := by
    rw [inD_rep (a := .str κ.s) (b := T' true false [.str "number", .str "list"]) (p := .str κ.s) (qs := [.str "number", .str "list"]) (by simp) (.inl (Rep_tuple.mpr ⟨true, false, _, rfl, by simp⟩)) (by cases κ <;> simp [Kn.s]) (by decide +kernel)]
    cases κ <;> simp [Kn.s, PyData.eqv, beqD]
  simp [Cm.is_kind_b, out, cmpB, e]
theorem f_is_param (T : TreesP Pg) {d : D} {q : Str × Kn} (hd : Rep d (parP q)) (hq : isName q.1 = true) : W (callN Pg (k + 2) "is_param" [d] m) Q ↔ Q (.bl true, m) := by
  refine W.iff ?_
  rw [W_callN T.is_param]
  unfold parP at hd
  obtain ⟨o, b, e, f, rfl, h1, h2⟩ := hd.t2
  rw [Rep_str] at h1 h2
  subst h1 h2
  simp [Cm.is_param_b, out, W_pc, f_is_name T.is_name hq, f_is_kind T.is_kind, lfs, lf]
/-! sets of texts -/
def scT (cal : Cal) (e : E) (own : List Nat) (t : T) (ifs : List E) (g : G) (ρ : Env) : D → Acc → Mem → R (Acc × Mem) := fun d acc m => (asgn cal t d (wipe ρ own) m).bind fun r => (evIfs cal ifs r.1 r.2).bind fun b =>
      if b.1 then evG cal g (fun ρ acc m => (evE cal e ρ m).bind fun x => (putS acc x.1).bind fun acc => .ok (acc, x.2)) r.1 acc b.2 else .ok (acc, b.2)
theorem V_sc {cal : Cal} {ρ : Env} {e : E} {own : List Nat} {t : T} {it : I} {ifs : List E} {g : G} : V (evE cal (.sc e own t it ifs g) ρ m) Q ↔ V (evI cal it ρ m) fun s => V (goSrc (scT cal e own t ifs g ρ) s.1 (Sh.lst, []) s.2) fun r => Q (lstD r.1.2, r.2) := by
  conv => lhs; unfold evE; simp
  rfl
@[simp] theorem W_sc {cal : Cal} {ρ : Env} {e : E} {own : List Nat} {t : T} {it : I} {ifs : List E} {g : G} : W (evE cal (.sc e own t it ifs g) ρ m) Q ↔ W (evI cal it ρ m) fun s => W (goSrc (scT cal e own t ifs g ρ) s.1 (Sh.lst, []) s.2) fun r => Q (lstD r.1.2, r.2) := V_sc
theorem memK_str {x : Str} : ∀ {l : List Str}, x ∉ l → memK (.inr x) (l.map D.str) = false
  | [], _ => rfl
  | y :: l, h => by
    rw [List.mem_cons, not_or] at h
    unfold memK
    rw [List.map_cons, List.any_cons]
    have := memK_str (l := l) h.2
    unfold memK at this
    rw [this, Bool.or_false]
    simp [keyOf]
    exact fun e => h.1 e.symm
theorem W_scStr {cal : Cal} {ρ : Env} {e : E} {own : List Nat} {t : T} {α : Type} (f : α → Str) : ∀ {ds : List D} {as : List α} {acc : List Str}, ds.length = as.length → (∀ (i : Nat) d a, ds[i]? = some d → as[i]? = some a → W (asgn cal t d (wipe ρ own) m) fun r => W (evE cal e r.1 r.2) fun x => x = (.str (f a), m)) →
    (acc ++ as.map f).Nodup → acc.length + as.length + 2 < scanBound →
    W (goSt (scT cal e own t [] .nil ρ) ds (Sh.lst, acc.map D.str) m) fun r => r = ((.lst, (acc ++ as.map f).map D.str), m) := by
  intro ds as
  induction as generalizing ds with
  | nil =>
    intro acc hl _ _ _
    have : ds = [] := List.length_eq_zero_iff.mp hl
    subst this
    unfold goSt
    simp
  | cons a as ih =>
    intro acc hl h hn hb
    cases ds with
    | nil => cases hl
    | cons d ds =>
      unfold goSt scT
      rw [W_bind, W_bind]
      refine (h 0 d a rfl rfl).mono fun r hr => ?_
      simp only [W_bind, W_ifs0, if_true]
      unfold evG
      rw [W_bind]
      refine hr.mono fun x hx => ?_
      subst hx
      have hna : f a ∉ acc := by
        intro hm
        rw [List.nodup_append] at hn
        exact hn.2.2 _ hm (f a) (by simp) rfl
      simp only [List.length_cons] at hb
      simp only [W_bind, putS, keyOf, memK_str hna, Bool.false_eq_true, if_false]
      rw [if_pos (by rw [List.length_map]; omega)]
      simp only [W_ok]
      have e1 : acc.map D.str ++ [.str (f a)] = (acc ++ [f a]).map D.str := by simp
      rw [e1]
      refine (ih (acc := acc ++ [f a]) (by simpa using hl) (fun i d a h1 h2 => h (i + 1) d a (by simpa using h1) (by simpa using h2)) (by simpa using hn) (by simp; omega)).mono fun r hr => ?_
      rw [hr]
      simp
/-- a function's datum -/
def FuR (d : D) (f : Fu) : Prop := ∃ o b o1 ds1 dt, d = T' o b [T' o1 true ds1, .str f.k.s, dt] ∧ Reps ds1 (f.ps.map parP) ∧ Rep dt f.t.p
def FuRs : List D → Pr → Prop
  | [], [] => True
  | d :: ds, f :: P => FuR d f ∧ FuRs ds P
  | _, _ => False
def PrR (d : D) (P : Pr) : Prop := ∃ o b ds, d = T' o b ds ∧ FuRs ds P
theorem FuR.rep {d : D} {f : Fu} (h : FuR d f) : Rep d f.p := by
  obtain ⟨o, b, o1, ds1, dt, rfl, h1, h2⟩ := h
  exact Rep_tuple.mpr ⟨o, b, _, rfl, Reps_cons.mpr ⟨_, _, rfl, Rep_tuple.mpr ⟨o1, true, _, rfl, h1⟩, Reps_cons.mpr ⟨_, _, rfl, Rep_str.mpr rfl, Reps_cons.mpr ⟨_, _, rfl, h2, Reps_nil.mpr rfl⟩⟩⟩⟩
theorem FuRs.reps : ∀ {ds : List D} {P : Pr}, FuRs ds P → Reps ds (P.map Fu.p)
  | [], [], _ => Reps_nil.mpr rfl
  | d :: ds, f :: P, h => Reps_cons.mpr ⟨_, _, rfl, h.1.rep, FuRs.reps h.2⟩
  | [], _ :: _, h => h.elim
  | _ :: _, [], h => h.elim
theorem PrR.rep {d : D} {P : Pr} (h : PrR d P) : Rep d (Pr.p P) := by
  obtain ⟨o, b, ds, rfl, h⟩ := h
  exact Rep_tuple.mpr ⟨o, b, _, rfl, h.reps⟩
theorem FuRs.get : ∀ {ds : List D} {P : Pr} {i : Nat} {d : D}, FuRs ds P → ds[i]? = some d → ∃ f, P[i]? = some f ∧ FuR d f
  | [], [], _, _, _, e => by simp at e
  | d :: ds, f :: P, 0, _, h, e => by simp at e; subst e; exact ⟨f, rfl, h.1⟩
  | d :: ds, f :: P, i + 1, _, h, e => by simpa using FuRs.get h.2 (by simpa using e)
  | [], _ :: _, _, _, h, _ => h.elim
  | _ :: _, [], _, _, h, _ => h.elim
theorem FuRs.getP : ∀ {ds : List D} {P : Pr} {i : Nat} {f : Fu}, FuRs ds P → P[i]? = some f → ∃ d, ds[i]? = some d ∧ FuR d f
  | [], [], _, _, _, e => by simp at e
  | d :: ds, f :: P, 0, _, h, e => by simp at e; subst e; exact ⟨d, rfl, h.1⟩
  | d :: ds, f :: P, i + 1, _, h, e => by simpa using FuRs.getP h.2 (by simpa using e)
  | [], _ :: _, _, _, h, _ => h.elim
  | _ :: _, [], _, _, h, _ => h.elim
theorem FuRs.length {ds : List D} {P : Pr} (h : FuRs ds P) : ds.length = P.length := by simpa using h.reps.length
theorem f_is_head (T : TreesP Pg) {d : D} {f : Fu} (hd : FuR d f) (hf : okHd f = true) : W (callN Pg (k + 3) "is_head" [d] m) Q ↔ Q (.bl true, m) := by
  refine W.iff ?_
  rw [W_callN T.is_head]
  obtain ⟨o, b, o1, ds1, dt, rfl, h1, h2⟩ := hd
  unfold okHd at hf
  simp only [Bool.and_eq_true] at hf
  obtain ⟨f1, f2, f3⟩ := hf
  have f1 := of_decide_eq_true f1
  have f3 := of_decide_eq_true f3
  have hl : ds1.length = f.ps.length := by simpa using h1.length
  have n4 : ¬ (4 : Int) < ds1.length := by omega
  simp [Cm.is_head_b, out, W_pc, W_lc, n4, asgns]

  refine W_lcNone h1 (fun d p hp hr => ?_) (by rw [hl]; exact Nat.le_trans f1 (by decide)) ?_
  · obtain ⟨q, hq, rfl⟩ := List.mem_map.mp hp
    have := List.all_eq_true.mp f2 q hq
    simp [Put, wipe, W_pc, f_is_param T hr this, lfs, hr.lf]
  · simp [W_sc]
    refine W.mono (W_scStr (acc := []) (as := f.ps) (·.1) hl (fun i d a e1 e2 => ?_) (by simpa using f3) (by have : scanBound = 4096 := rfl; simp; omega)) fun r hr => ?_
    · obtain ⟨p, e3, e4⟩ := h1.get e1
      rw [List.getElem?_map, e2] at e3
      cases e3
      obtain ⟨o2, b2, e, g, rfl, g1, g2⟩ := e4.t2
      rw [Rep_str] at g1 g2
      subst g1 g2
      simp [wipe]
    · subst hr
      simp [hl, W_pc, f_is_kind T.is_kind, lfs, lf]
end
end Mi
end
section
set_option linter.all false
set_option Elab.async false
set_option maxRecDepth 100000
set_option maxHeartbeats 4000000
/-! Mp4: the checker of programs lets by what can be, further. -/
namespace Mi
open PySem Pm
section
variable {Pg : Prg} {k : Nat} {m : Mem} {Q : D × Mem → Prop}
theorem enumD_at : ∀ {ds : List D} {n i : Nat} {d : D}, (enumD n ds)[i]? = some d → ∃ e, ds[i]? = some e ∧ d = T' true false [.int (n + i : Nat), e]
  | [], _, _, _, h => by simp [enumD] at h
  | e :: ds, n, 0, d, h => by simp [enumD] at h; exact ⟨e, rfl, by rw [← h]; rfl⟩
  | e :: ds, n, i + 1, d, h => by
    simp [enumD] at h
    obtain ⟨e', h1, h2⟩ := enumD_at h
    exact ⟨e', by simpa using h1, by rw [h2, show n + 1 + i = n + (i + 1) from by omega]⟩
theorem enumD_len : ∀ {ds : List D} {n : Nat}, (enumD n ds).length = ds.length
  | [], _ => rfl
  | _ :: ds, n => by simp [enumD, enumD_len]
theorem enumD_reps : ∀ {ds : List D} {ps : List PyData} {n : Nat}, Reps ds ps → Reps (enumD n ds) (ps.mapIdx fun i p => .tuple [.int (n + i : Nat), p])
  | ds, [], n, h => by rw [Reps_nil] at h; subst h; simp [enumD]
  | ds, p :: ps, n, h => by
    obtain ⟨d, es, rfl, h1, h2⟩ := Reps_cons.mp h
    rw [List.mapIdx_cons]
    unfold enumD
    refine Reps_cons.mpr ⟨_, _, rfl, Rep_tuple.mpr ⟨true, false, _, rfl, Reps_cons.mpr ⟨_, _, rfl, Rep_int.mpr rfl, Reps_cons.mpr ⟨_, _, rfl, h1, Reps_nil.mpr rfl⟩⟩⟩, ?_⟩
    have := enumD_reps (n := n + 1) h2
    have e : (ps.mapIdx fun i p => PyData.tuple [.int (n + 1 + i : Nat), p]) = ps.mapIdx fun i p => PyData.tuple [.int (n + (i + 1) : Nat), p] := by
      congr 1; funext i p; rw [show n + 1 + i = n + (i + 1) from by omega]
    rw [e] at this
    exact this
theorem eqv_t {p : PyData} {ps : List PyData} : PyData.eqv (.tuple (p :: ps)) (.tuple []) = false := by simp [PyData.eqv, PyData.eqvAll]
theorem depthAll_mem {p : PyData} : ∀ {ps : List PyData}, p ∈ ps → p.depth ≤ PyData.depthAll ps
  | q :: ps, h => by
    simp only [PyData.depthAll]
    rcases List.mem_cons.mp h with rfl | h
    · omega
    · have := depthAll_mem h; omega
theorem layAll_mem {p : PyData} : ∀ {ps : List PyData}, p ∈ ps → PyData.canLayAll0 ps = true → p.canLay0 = true
  | q :: ps, h, e => by
    simp only [PyData.canLayAll0, Bool.and_eq_true] at e
    rcases List.mem_cons.mp h with rfl | h
    · exact e.1
    · exact layAll_mem h e.2
theorem shaped_mem {ps : List PyData} (h : SeqAt.shaped (.tuple ps) = true) {p : PyData} (hp : p ∈ ps) : SeqAt.shaped p = true := by
  unfold SeqAt.shaped at h ⊢
  rw [Bool.and_eq_true] at h ⊢
  obtain ⟨h1, h2⟩ := h
  have h2 := of_decide_eq_true h2
  simp only [PyData.canLay0] at h1
  simp only [PyData.depth] at h2
  have := depthAll_mem hp
  exact ⟨layAll_mem hp h1, decide_eq_true (by omega)⟩
@[simp] theorem W_eqT0 {o b o' b' : Bool} {P : Bool → Prop} : W (cmpB .eq m (T' o b []) (T' o' b' [])) P ↔ P true := by
  rw [W_eq (p := .tuple []) (q := .tuple []) (Rep_tuple.mpr ⟨_, _, _, rfl, Reps_nil.mpr rfl⟩) (Rep_tuple.mpr ⟨_, _, _, rfl, Reps_nil.mpr rfl⟩) (by simp) (by simp)]
  simp [PyData.eqv, PyData.eqvAll]
theorem W_eqT {o' b' : Bool} {d : D} {p : PyData} {ps : List PyData} (hd : Rep d (.tuple (p :: ps))) (hs : SeqAt.shaped (.tuple (p :: ps)) = true) {P : Bool → Prop} : W (cmpB .eq m d (T' o' b' [])) P ↔ P false := by
  rw [W_eq hd (q := .tuple []) (Rep_tuple.mpr ⟨_, _, _, rfl, Reps_nil.mpr rfl⟩) hs (by simp), eqv_t]
theorem W_neT {o' b' : Bool} {d : D} {p : PyData} {ps : List PyData} (hd : Rep d (.tuple (p :: ps))) (hs : SeqAt.shaped (.tuple (p :: ps)) = true) {P : Bool → Prop} : W (cmpB .ne m d (T' o' b' [])) P ↔ P true := by
  rw [W_ne hd (q := .tuple []) (Rep_tuple.mpr ⟨_, _, _, rfl, Reps_nil.mpr rfl⟩) hs (by simp), eqv_t]; rfl
theorem f_need_heads (Z : TreesP Pg) {d : D} {P : Pr} (hd : PrR d P) (hs : SeqAt.shaped (Pr.p P) = true) (h1 : 1 ≤ P.length) (h6 : P.length ≤ 6) (hP : ∀ f ∈ P, okHd f = true) : W (callN Pg (k + 4) "need_heads" [d] m) Q ↔ Q (.non, m) := by
  refine W.iff ?_
  rw [W_callN Z.need_heads]
  have hr := hd.rep
  obtain ⟨o, b, ds, rfl, hf⟩ := hd
  cases P with
  | nil => simp at h1
  | cons f P =>
    unfold Pr.p at hr hs
    rw [List.map_cons] at hr hs
    simp [Cm.need_heads_b, out, W_eqT hr hs]
    refine W_forSt (fun j ρ m' => (∃ x y, ρ = [some (T' o b ds), x, y]) ∧ m' = m) (enumD 0 ds) _ _ 0 ⟨⟨_, _, rfl⟩, rfl⟩ (fun i d ρ m' hi ⟨⟨x, y, hρ⟩, hm⟩ => ?_) (fun ρ m' ⟨_, hm⟩ => by simp [hm])
    subst hρ hm
    obtain ⟨e, he, rfl⟩ := enumD_at hi
    obtain ⟨g, hg, hfr⟩ := hf.get he
    have hgm := List.mem_of_getElem? hg
    have hi6 : i < 6 := by
      have := (List.getElem?_eq_some_iff.mp hg).1
      omega
    have hi6' : ¬ ((i : Int) = 6) := by omega
    simp [Cm.need_heads_b0, W_pc, hi6', f_is_head Z hfr (hP g hgm), lfs, hfr.rep.lf]
/-! what names stand for -/
def KnD (o : Bool) (κ : Kno) : D := .nd o (.dK (κ.map fun q => .inr q.1)) (κ.map fun q => .str q.2.s)
theorem KnD_get {x : Str} : ∀ {κ : Kno}, kget (Sum.inr x : Key) (κ.map fun q => .inr q.1) (κ.map fun q => D.str q.2.s) = (kgets x κ).map fun k => .str k.s
  | [] => rfl
  | q :: κ => by
    simp only [List.map_cons, kget, kgets, Sum.inr.injEq]
    by_cases h : q.1 = x
    · simp [h]
    · simp [h, KnD_get]
@[simp] theorem KnD_view {o : Bool} {κ : Kno} : view m (KnD o κ) = some ⟨.dK (κ.map fun q => .inr q.1), κ.map fun q => .str q.2.s⟩ := rfl
@[simp] theorem KnD_lf {o : Bool} {κ : Kno} : lf (KnD o κ) = true := by
  unfold KnD
  simp only [lf]
  induction κ with
  | nil => rfl
  | cons q κ ih => simp [lfs, lf, ih]
@[simp] theorem W_KnOk {o : Bool} {κ : Kno} {P : Unit → Prop} : W (mtOk .get m (KnD o κ)) P ↔ P () := by simp [mtOk]
theorem W_KnGet {o : Bool} {κ : Kno} {x : Str} : W (mt .get m (KnD o κ) [.str x]) Q ↔ Q (((kgets x κ).map fun k => D.str k.s).getD .non, m) := by
  simp [mt, asV, mtGet, keyOf, KnD_get]
theorem Kn_strOk {κ : Kn} : PyData.strOk κ.s = true := by cases κ <;> simp [Kn.s]
theorem Kn_inj {a b : Kn} : a.s = b.s ↔ a = b := by cases a <;> cases b <;> simp [Kn.s]
theorem f_are_of (Z : TreesP Pg) {d e : D} {o : Bool} {κ : Kno} {xs : List Str} {ks : List Kn} (hd : Rep d (.tuple (xs.map PyData.str)) ∨ Rep d (.list (xs.map PyData.str))) (he : Rep e (.tuple (ks.map fun k => .str k.s)) ∨ Rep e (.list (ks.map fun k => .str k.s))) (hl : xs.length ≤ 1000)
    (h : areOf κ xs ks = true) : W (callN Pg (k + 2) "are_of" [d, e, KnD o κ] m) Q ↔ Q (.bl true, m) := by
  refine W.iff ?_
  rw [W_callN Z.are_of]
  have hlen : xs.length = ks.length := by
    clear hd he hl
    induction xs generalizing ks with
    | nil => cases ks with
      | nil => rfl
      | cons _ _ => simp [areOf] at h
    | cons x xs ih => cases ks with
      | nil => simp [areOf] at h
      | cons k ks =>
        simp only [areOf, Bool.and_eq_true] at h
        simp [ih h.2]
  have hat : ∀ (i : Nat) (x : Str), xs[i]? = some x → isName x = true ∧ ∃ k, ks[i]? = some k ∧ kgets x κ = some k := by
    clear hd he hl hlen
    induction xs generalizing ks with
    | nil => intro i x e; simp at e
    | cons y xs ih =>
      intro i x e
      cases ks with
      | nil => simp [areOf] at h
      | cons k ks =>
        simp only [areOf, Bool.and_eq_true, decide_eq_true_eq] at h
        cases i with
        | zero => simp at e; subst e; exact ⟨h.1.1, k, rfl, h.1.2⟩
        | succ i => simpa using ih h.2 i x (by simpa using e)
  have body : ∀ (ds : List D) (sd : D) (gs : List D) (se : D), Reps ds (xs.map PyData.str) → Reps gs (ks.map fun k => .str k.s) → (∀ (i : Int), idxD m se (.int i) = R.of (L2.atI gs i)) →
      W (goSt (lcT (callN Pg (k + 1)) (.var 3) [3, 4] (T.tup [T.var 3, T.var 4]) [((E.pcall false "is_name" [E.var 4]).not.or (E.cmp .ne (E.mt .get (.var 2) [.var 4]) (.idx (.var 1) (.var 3))))] .nil [some sd, some se, some (KnD o κ), none, none]) (enumD 0 ds) (Sh.lst, []) m) fun r => r = ((.lst, []), m) := by
    intro ds sd gs se h1 h2 h3
    refine W_lcNone (enumD_reps h1) (fun d p hp hr => ?_) (by rw [enumD_len, h1.length, List.length_map]; exact Nat.le_trans hl (by decide)) rfl
    obtain ⟨i, hi, rfl⟩ := List.mem_iff_getElem.mp hp
    simp only [List.getElem_mapIdx, List.getElem_map] at hr
    simp at hi
    obtain ⟨o2, b2, e, g, rfl, g1, g2⟩ := hr.t2
    rw [Rep_int] at g1
    rw [Rep_str] at g2
    subst g1 g2
    obtain ⟨n1, k', n2, n3⟩ := hat i xs[i] (by simp [hi])
    obtain ⟨f, n4, n5⟩ := h2.getP (i := i) (p := .str k'.s) (by rw [List.getElem?_map, n2]; rfl)
    rw [Rep_str] at n5
    subst n5
    simp [Put, wipe, W_pc, f_is_name Z.is_name n1, lfs, lf, W_KnGet, n3, h3, atI_nat, n4, W_neS Kn_strOk Kn_strOk]
  rcases hd with hd | hd
  · obtain ⟨o1, b1, ds, rfl, h1⟩ := Rep_tuple.mp hd
    have l1 : ds.length = xs.length := by simpa using h1.length
    rcases he with he | he
    · obtain ⟨o2, b2, gs, rfl, h2⟩ := Rep_tuple.mp he
      have l2 : gs.length = ks.length := by simpa using h2.length
      simp [Cm.are_of_b, out, W_lc, l1, l2, hlen]
      exact (body ds (T' o1 b1 ds) gs (T' o2 b2 gs) h1 h2 (fun i => idx_T')).mono fun r e => by subst e; simp [W_eqNil]
    · obtain ⟨o2, gs, rfl, h2⟩ := Rep_list.mp he
      have l2 : gs.length = ks.length := by simpa using h2.length
      simp [Cm.are_of_b, out, W_lc, l1, l2, hlen]
      exact (body ds (T' o1 b1 ds) gs (.nd o2 .lst gs) h1 h2 (fun i => idx_L)).mono fun r e => by subst e; simp [W_eqNil]
  · obtain ⟨o1, ds, rfl, h1⟩ := Rep_list.mp hd
    have l1 : ds.length = xs.length := by simpa using h1.length
    rcases he with he | he
    · obtain ⟨o2, b2, gs, rfl, h2⟩ := Rep_tuple.mp he
      have l2 : gs.length = ks.length := by simpa using h2.length
      simp [Cm.are_of_b, out, W_lc, l1, l2, hlen]
      exact (body ds (.nd o1 .lst ds) gs (T' o2 b2 gs) h1 h2 (fun i => idx_T')).mono fun r e => by subst e; simp [W_eqNil]
    · obtain ⟨o2, gs, rfl, h2⟩ := Rep_list.mp he
      have l2 : gs.length = ks.length := by simpa using h2.length
      simp [Cm.are_of_b, out, W_lc, l1, l2, hlen]
      exact (body ds (.nd o1 .lst ds) gs (.nd o2 .lst gs) h1 h2 (fun i => idx_L)).mono fun r e => by subst e; simp [W_eqNil]
theorem f_is_measure (Z : TreesP Pg) {d : D} {o : Bool} {κ : Kno} {a : Me} (hd : Rep d a.p) (h : isMe κ a = true) : W (callN Pg (k + 2) "is_measure" [d, KnD o κ] m) Q ↔ Q (.bl true, m) := by
  refine W.iff ?_
  rw [W_callN Z.is_measure]
  cases a with
  | zero =>
    obtain ⟨o1, b1, rfl⟩ := Rep.t0 hd
    simp [Cm.is_measure_b, out]
  | of x =>
    simp only [isMe, Bool.and_eq_true, decide_eq_true_eq] at h
    have hs : SeqAt.shaped (.tuple [.str "of", .str x]) = true := by simp [SeqAt.shaped, PyData.canLay0, PyData.canLayAll0, PyData.depth, PyData.depthAll, strOk_name h.1]
    have hd' : Rep d (.tuple [.str "of", .str x]) := hd
    have e1 := fun (P : Bool → Prop) => W_eqT (m := m) (o' := true) (b' := true) hd' hs (P := P)
    obtain ⟨o1, b1, e, f, rfl, h1, h2⟩ := Rep.t2 hd'
    rw [Rep_str] at h1 h2
    subst h1 h2
    simp [Cm.is_measure_b, out, e1, W_pc, f_is_name Z.is_name h.1, lfs, lf, W_KnGet, h.2, Kn.s]
  | len x =>
    simp only [isMe, Bool.and_eq_true, decide_eq_true_eq] at h
    have hs : SeqAt.shaped (.tuple [.str "len", .str x]) = true := by simp [SeqAt.shaped, PyData.canLay0, PyData.canLayAll0, PyData.depth, PyData.depthAll, strOk_name h.1]
    have hd' : Rep d (.tuple [.str "len", .str x]) := hd
    have e1 := fun (P : Bool → Prop) => W_eqT (m := m) (o' := true) (b' := true) hd' hs (P := P)
    obtain ⟨o1, b1, e, f, rfl, h1, h2⟩ := Rep.t2 hd'
    rw [Rep_str] at h1 h2
    subst h1 h2
    simp [Cm.is_measure_b, out, e1, W_pc, f_is_name Z.is_name h.1, lfs, lf, W_KnGet, h.2, Kn.s]
end
end Mi
end
section
set_option linter.all false
set_option Elab.async false
set_option maxRecDepth 100000
set_option maxHeartbeats 4000000
/-! Mp5: the checker's methods. -/
namespace Mi
open PySem Pm
section
variable {Pg : Prg} {k : Nat} {m : Mem} {Q : D × Mem → Prop}
theorem reps_strs : ∀ xs : List Str, Reps (xs.map D.str) (xs.map PyData.str)
  | [] => Reps_nil.mpr rfl
  | x :: xs => Reps_cons.mpr ⟨_, _, rfl, Rep_str.mpr rfl, reps_strs xs⟩
theorem rep_lstS {o : Bool} (xs : List Str) : Rep (.nd o .lst (xs.map D.str)) (.list (xs.map PyData.str)) := Rep_list.mpr ⟨o, _, rfl, reps_strs xs⟩
theorem rep_tupS {o b : Bool} (xs : List Str) : Rep (T' o b (xs.map D.str)) (.tuple (xs.map PyData.str)) := Rep_tuple.mpr ⟨o, b, _, rfl, reps_strs xs⟩
theorem rep_kns {o b : Bool} (ks : List Kn) : Rep (T' o b (ks.map fun k => D.str k.s)) (.tuple (ks.map fun k => .str k.s)) := by
  have := rep_tupS (o := o) (b := b) (ks.map Kn.s)
  simpa [List.map_map, Function.comp_def] using this
theorem rep_knl {o : Bool} (ks : List Kn) : Rep (.nd o .lst (ks.map fun k => D.str k.s)) (.list (ks.map fun k => .str k.s)) := by
  have := rep_lstS (o := o) (ks.map Kn.s)
  simpa [List.map_map, Function.comp_def] using this
@[simp] theorem W_in3 {o : Bool} {x a b c : String} {P : Bool → Prop} : W (cmpB .inn m (.str (Str.ofString x)) (T' o true [.str (Str.ofString a), .str (Str.ofString b), .str (Str.ofString c)])) P ↔ P (decide (a = x ∨ b = x ∨ c = x)) := by
  unfold cmpB
  simp only
  rw [inD_rep (a := .str (Str.ofString x)) (b := T' o true [.str (Str.ofString a), .str (Str.ofString b), .str (Str.ofString c)]) (p := .str (Str.ofString x)) (qs := [Str.ofString a, Str.ofString b, Str.ofString c].map PyData.str) (by simp) (.inl (rep_tupS (b := true) [Str.ofString a, Str.ofString b, Str.ofString c])) (by simp) (by simp [SeqAt.shaped, PyData.canLay0, PyData.canLayAll0, PyData.depth, PyData.depthAll])]
  simp [PyData.eqv, beqD]
theorem lfs_strs : ∀ xs : List Str, lfs (xs.map D.str) = true := fun xs => (reps_strs xs).lfs
/-- the checker's cell -/
def CkC (pd : D) (w c : Int) : Cell := ⟨.ins "Checker" ["functions", "which", "count"], [pd, .int w, .int c]⟩
theorem f_called (Z : TreesP Pg) {s : Nat} {pd : D} {w c : Int} {P : Pr} {κ : Kno} {o : Bool} {f : Nat} {xs : List Str} {kn : Kn} {d : D} (hm : m[s]? = some (CkC pd w c)) (hp : PrR pd P) (hP : ∀ f ∈ P, f.ps.length ≤ 4) (hd : Rep d (.tuple (xs.map PyData.str)))
    (h : kindOf P κ (.call f xs) = some kn) : W (callN Pg (k + 3) "Checker.called" [.loc s, .int f, d, KnD o κ] m) Q ↔ Q (.str kn.s, m) := by
  refine W.iff ?_
  rw [W_callN Z.called]
  simp only [kindOf] at h
  split at h
  · rename_i h1
    split at h
    · rename_i g hg
      split at h
      · rename_i ha
        cases h
        obtain ⟨o1, b1, ds, rfl, hf⟩ := hp
        obtain ⟨e, he, hfr⟩ := hf.getP hg
        have hlt : f < ds.length := (List.getElem?_eq_some_iff.mp he).1
        obtain ⟨o2, b2, o3, ds1, dt, rfl, r1, r2⟩ := hfr
        obtain ⟨o4, b4, es, rfl, r3⟩ := Rep_tuple.mp hd
        have hg4 := hP g (List.mem_of_getElem? hg)
        have l1 : ds1.length = g.ps.length := by simpa using r1.length
        have hxl : xs.length ≤ 1000 := by
          have : ∀ {xs : List Str} {ks : List Kn}, areOf κ xs ks = true → xs.length = ks.length := by
            intro xs
            induction xs with
            | nil => intro ks h; cases ks <;> simp [areOf] at h ⊢
            | cons x xs ih => intro ks h; cases ks with
              | nil => simp [areOf] at h
              | cons k ks => simp only [areOf, Bool.and_eq_true] at h; simp [ih h.2]
          have := this ha
          simp at this
          omega
        have c1 : (1 : Int) ≤ f := by omega
        have c2 : (f : Int) ≤ (ds.length : Int) - 1 := by omega
        simp [Cm.Checker_called_b, out, fldD, view, hm, CkC, kget, W_pc, f_is_whole Z.is_whole, lfs, lf, c1, c2, atI_nat, he, W_lc]
        refine (W_lcSt (acc := []) (fun p => match p with | .tuple [_, q] => some q | _ => none) r1 (fun d p hp hr => ?_) (by simp only [List.length_nil, Nat.zero_add]; rw [l1]; exact Nat.le_trans hg4 (by decide))).mono fun r ⟨rs, er, hr, how⟩ => ?_
        · obtain ⟨q, hq, rfl⟩ := List.mem_map.mp hp
          unfold parP at hr ⊢
          obtain ⟨o5, b5, e1, e2, rfl, q1, q2⟩ := hr.t2
          rw [Rep_str] at q1 q2
          subst q1 q2
          simp [Put, wipe, ow]
        · subst er
          have hk : (g.ps.map parP).filterMap (fun p => match p with | .tuple [_, q] => some q | _ => none) = (g.ps.map (·.2)).map fun k => PyData.str k.s := by
            rw [List.filterMap_map]
            have : ((fun p => match p with | .tuple [_, q] => some q | _ => none) ∘ parP) = fun q : Str × Kn => some (PyData.str q.2.s) := by funext q; rfl
            rw [this, List.filterMap_eq_map', List.map_map]; rfl
          rw [hk] at hr
          simp only [fin_true, List.nil_append]
          have e2 := fun (k : Nat) (Q : D × Mem → Prop) => f_are_of (k := k) (m := []) (Q := Q) (o := o) Z (d := T' o4 b4 es) (e := .nd true .lst rs) (.inl hd) (.inr (Rep_list.mpr ⟨true, rs, rfl, hr⟩)) hxl ha
          simp [lfs, lf, W_pc, e2, lfs_of_ows how, r3.lfs]
      · cases h
    · cases h
  · cases h
theorem f_need (Z : TreesP Pg) {s : Nat} {d : D} : W (callN Pg (k + 1) "Checker.need" [.loc s, .bl true, d] m) Q ↔ Q (.non, m) := by
  refine W.iff ?_
  rw [W_callN Z.need]
  simp [Cm.Checker_need_b, out]
theorem puts_str {x : Str} {v : D} {r : List D} {ks : List Key} {ds : List D} (h1 : ks.length < 1000) (h2 : (Sum.inr x : Key) ∉ ks) : putsC (.str x :: v :: r) (.dK ks, ds) = putsC r (.dK (ks ++ [.inr x]), ds ++ [v]) := by
  have h3 : ks.length < most := Nat.lt_trans h1 (by decide)
  rw [putsC]
  simp [putC, keyOf, h3, kput, h2, R.bind]
@[simp] theorem puts_nil {c : Sh × List D} : putsC [] c = .ok c := rfl
@[simp] theorem emptyK_f : emptyK false = (.dK [], []) := rfl
/-- the kinds that a deed of names wants -/
def wants (x : String) : List Kn := if "sum" = x then [.nu] else if "put" = x then [.nu, .li] else if "at" = x then [.li, .nu] else if "nil" = x then [] else if "ask" = x then [] else [.li]
def WD : D := .nd true (.dK [.inr "sum", .inr "put", .inr "at", .inr "nil", .inr "ask"]) [T' true true [.str "number"], T' true true [.str "number", .str "list"], T' true true [.str "list", .str "number"], T' true true [], T' true true []]
@[simp] theorem wd_ev {cal : Cal} {ρ : Env} : W (evE cal Cm.Checker_kind_of_x0 ρ m) Q ↔ Q (WD, m) := by
  refine W.iff ?_
  simp [Cm.Checker_kind_of_x0, puts_str, WD]
@[simp] theorem wd_ok {P : Unit → Prop} : W (mtOk .get m WD) P ↔ P () := by simp [mtOk, WD, view, nrm]
@[simp] theorem wd_get {x : String} : W (mt .get m WD [.str (Str.ofString x), T' true true [.str "list"]]) Q ↔ Q (T' true true ((wants x).map fun k => D.str k.s), m) := by
  simp only [mt, asV, mtGet, WD, view, nrm, keyOf, W_bind, W_ok, kget, wants]
  by_cases h1 : "sum" = x
  · subst h1; simp [Kn.s]
  by_cases h2 : "put" = x
  · subst h2; simp [Kn.s]
  by_cases h3 : "at" = x
  · subst h3; simp [Kn.s]
  by_cases h4 : "nil" = x
  · subst h4; simp [Kn.s]
  by_cases h5 : "ask" = x
  · subst h5; simp [Kn.s]
  simp [h1, h2, h3, h4, h5, Kn.s]
theorem f_kind_of (Z : TreesP Pg) {s : Nat} {pd : D} {w c : Int} {P : Pr} {κ : Kno} {o : Bool} {de : De} {kn : Kn} {d : D} (hm : m[s]? = some (CkC pd w c)) (hp : PrR pd P) (hP : ∀ f ∈ P, f.ps.length ≤ 4) (hd : Rep d de.p) (hs : SeqAt.shaped de.p = true)
    (h : kindOf P κ de = some kn) : W (callN Pg (k + 4) "Checker.kind_of" [.loc s, d, KnD o κ] m) Q ↔ Q (.str kn.s, m) := by
  refine W.iff ?_
  rw [W_callN Z.kind_of]
  have n1 : ∀ {x : Str} {n : Kn}, areOf κ [x] [n] = true → areOf κ [x] [n] = true := id
  cases de with
  | num n =>
    simp only [kindOf] at h
    split at h
    · rename_i hn
      cases h
      have hn : -99 ≤ n ∧ n ≤ 99 := of_decide_eq_true hn
      have e1 := fun (P : Bool → Prop) => W_eqT (m := m) (o' := true) (b' := true) hd hs (P := P)
      obtain ⟨o1, b1, e, f, rfl, h1, h2⟩ := Rep.t2 hd
      rw [Rep_str] at h1; rw [Rep_int] at h2
      subst h1 h2
      simp [Cm.Checker_kind_of_b, out, e1, W_pc, kget, f_is_step Z.is_whole Z.is_step, lfs, lf, hn.1, hn.2, Kn.s]
    · cases h
  | sum x n =>
    simp only [kindOf, Bool.and_eq_true] at h
    split at h
    · rename_i hn
      cases h
      have hn2 : -99 ≤ n ∧ n ≤ 99 := of_decide_eq_true hn.2
      have e1 := fun (P : Bool → Prop) => W_eqT (m := m) (o' := true) (b' := true) hd hs (P := P)
      obtain ⟨o1, b1, e, f, g, rfl, h1, h2, h3⟩ := Rep.t3 hd
      rw [Rep_str] at h1 h2; rw [Rep_int] at h3
      subst h1 h2 h3
      have e2 := fun (k : Nat) (Q : D × Mem → Prop) => f_are_of (k := k) (m := []) (Q := Q) Z (xs := [x]) (ks := [.nu]) (o := o) (.inr (rep_lstS (o := true) [x])) (.inl (rep_kns (o := true) (b := true) [.nu])) (by simp) hn.1
      simp only [List.map_cons, List.map_nil, Kn.s] at e2
      simp [Cm.Checker_kind_of_b, out, e1, W_pc, kget, wants, cut_U, e2, f_is_step Z.is_whole Z.is_step, lfs, lf, hn2.1, hn2.2, Kn.s]
    · cases h
  | len x =>
    simp only [kindOf] at h
    split at h
    · rename_i hn
      cases h
      have e1 := fun (P : Bool → Prop) => W_eqT (m := m) (o' := true) (b' := true) hd hs (P := P)
      obtain ⟨o1, b1, e, f, rfl, h1, h2⟩ := Rep.t2 hd
      rw [Rep_str] at h1 h2
      subst h1 h2
      have e2 := fun (k : Nat) (Q : D × Mem → Prop) => f_are_of (k := k) (m := []) (Q := Q) Z (xs := [x]) (ks := [.li]) (o := o) (.inr (rep_lstS (o := true) [x])) (.inl (rep_kns (o := true) (b := true) [.li])) (by simp) hn
      simp only [List.map_cons, List.map_nil, Kn.s] at e2
      simp [Cm.Checker_kind_of_b, out, e1, W_pc, kget, wants, cut_U, e2, lfs, lf, Kn.s]
    · cases h
  | nil =>
    simp only [kindOf] at h
    cases h
    have e1 := fun (P : Bool → Prop) => W_eqT (m := m) (o' := true) (b' := true) hd hs (P := P)
    obtain ⟨o1, b1, e, rfl, h1⟩ := Rep.t1 hd
    rw [Rep_str] at h1
    subst h1
    have e2 := fun (k : Nat) (Q : D × Mem → Prop) => f_are_of (k := k) (m := []) (Q := Q) Z (xs := []) (ks := []) (o := o) (κ := κ) (.inr (rep_lstS (o := true) [])) (.inl (rep_kns (o := true) (b := true) [])) (by simp) rfl
    simp only [List.map_cons, List.map_nil, Kn.s] at e2
    simp [Cm.Checker_kind_of_b, out, e1, W_pc, kget, wants, cut_U, e2, lfs, lf, Kn.s]
  | put x y =>
    simp only [kindOf] at h
    split at h
    · rename_i hn
      cases h
      have e1 := fun (P : Bool → Prop) => W_eqT (m := m) (o' := true) (b' := true) hd hs (P := P)
      obtain ⟨o1, b1, e, f, g, rfl, h1, h2, h3⟩ := Rep.t3 hd
      rw [Rep_str] at h1 h2 h3
      subst h1 h2 h3
      have e2 := fun (k : Nat) (Q : D × Mem → Prop) => f_are_of (k := k) (m := []) (Q := Q) Z (xs := [x, y]) (ks := [.nu, .li]) (o := o) (.inr (rep_lstS (o := true) [x, y])) (.inl (rep_kns (o := true) (b := true) [.nu, .li])) (by simp) hn
      simp only [List.map_cons, List.map_nil, Kn.s] at e2
      simp [Cm.Checker_kind_of_b, out, e1, W_pc, kget, wants, cut_U, e2, lfs, lf, Kn.s]
    · cases h
  | head x =>
    simp only [kindOf] at h
    split at h
    · rename_i hn
      cases h
      have e1 := fun (P : Bool → Prop) => W_eqT (m := m) (o' := true) (b' := true) hd hs (P := P)
      obtain ⟨o1, b1, e, f, rfl, h1, h2⟩ := Rep.t2 hd
      rw [Rep_str] at h1 h2
      subst h1 h2
      have e2 := fun (k : Nat) (Q : D × Mem → Prop) => f_are_of (k := k) (m := []) (Q := Q) Z (xs := [x]) (ks := [.li]) (o := o) (.inr (rep_lstS (o := true) [x])) (.inl (rep_kns (o := true) (b := true) [.li])) (by simp) hn
      simp only [List.map_cons, List.map_nil, Kn.s] at e2
      simp [Cm.Checker_kind_of_b, out, e1, W_pc, kget, wants, cut_U, e2, lfs, lf, Kn.s]
    · cases h
  | tail x =>
    simp only [kindOf] at h
    split at h
    · rename_i hn
      cases h
      have e1 := fun (P : Bool → Prop) => W_eqT (m := m) (o' := true) (b' := true) hd hs (P := P)
      obtain ⟨o1, b1, e, f, rfl, h1, h2⟩ := Rep.t2 hd
      rw [Rep_str] at h1 h2
      subst h1 h2
      have e2 := fun (k : Nat) (Q : D × Mem → Prop) => f_are_of (k := k) (m := []) (Q := Q) Z (xs := [x]) (ks := [.li]) (o := o) (.inr (rep_lstS (o := true) [x])) (.inl (rep_kns (o := true) (b := true) [.li])) (by simp) hn
      simp only [List.map_cons, List.map_nil, Kn.s] at e2
      simp [Cm.Checker_kind_of_b, out, e1, W_pc, kget, wants, cut_U, e2, lfs, lf, Kn.s]
    · cases h
  | «at» x y =>
    simp only [kindOf] at h
    split at h
    · rename_i hn
      cases h
      have e1 := fun (P : Bool → Prop) => W_eqT (m := m) (o' := true) (b' := true) hd hs (P := P)
      obtain ⟨o1, b1, e, f, g, rfl, h1, h2, h3⟩ := Rep.t3 hd
      rw [Rep_str] at h1 h2 h3
      subst h1 h2 h3
      have e2 := fun (k : Nat) (Q : D × Mem → Prop) => f_are_of (k := k) (m := []) (Q := Q) Z (xs := [x, y]) (ks := [.li, .nu]) (o := o) (.inr (rep_lstS (o := true) [x, y])) (.inl (rep_kns (o := true) (b := true) [.li, .nu])) (by simp) hn
      simp only [List.map_cons, List.map_nil, Kn.s] at e2
      simp [Cm.Checker_kind_of_b, out, e1, W_pc, kget, wants, cut_U, e2, lfs, lf, Kn.s]
    · cases h
  | ask =>
    simp only [kindOf] at h
    cases h
    have e1 := fun (P : Bool → Prop) => W_eqT (m := m) (o' := true) (b' := true) hd hs (P := P)
    obtain ⟨o1, b1, e, rfl, h1⟩ := Rep.t1 hd
    rw [Rep_str] at h1
    subst h1
    have e2 := fun (k : Nat) (Q : D × Mem → Prop) => f_are_of (k := k) (m := []) (Q := Q) Z (xs := []) (ks := []) (o := o) (κ := κ) (.inr (rep_lstS (o := true) [])) (.inl (rep_kns (o := true) (b := true) [])) (by simp) rfl
    simp only [List.map_cons, List.map_nil, Kn.s] at e2
    simp [Cm.Checker_kind_of_b, out, e1, W_pc, kget, wants, cut_U, e2, lfs, lf, Kn.s]
  | call f xs =>
    have e1 := fun (P : Bool → Prop) => W_eqT (m := m) (o' := true) (b' := true) hd hs (P := P)
    obtain ⟨o1, b1, e, f', g, rfl, h1, h2, h3⟩ := Rep.t3 hd
    rw [Rep_str] at h1; rw [Rep_int] at h2
    subst h1 h2
    have e2 := fun (Q : D × Mem → Prop) => f_called (k := k) (m := m) (Q := Q) Z (o := o) hm hp hP h3 h
    simp [Cm.Checker_kind_of_b, out, e1, kget, clsM, view, hm, CkC, e2]
end
end Mi
end
section
set_option linter.all false
set_option Elab.async false
set_option maxRecDepth 100000
set_option maxHeartbeats 4000000
/-! Mp6: the checker goes through a tree; a program is let by. -/
namespace Mi
open PySem Pm
section
variable {Pg : Prg} {k : Nat} {m : Mem} {Q : D × Mem → Prop}
theorem kgets_mem {x : Str} : ∀ {κ : Kno}, kgets x κ = none ↔ (Sum.inr x : Key) ∉ κ.map fun q => (Sum.inr q.1 : Key)
  | [] => by simp [kgets]
  | q :: κ => by
    have ih := kgets_mem (x := x) (κ := κ)
    unfold kgets
    by_cases h : q.1 = x
    · simp [h]
    · have h' : ¬ x = q.1 := fun e => h e.symm
      simp only [h, if_false, List.map_cons, List.mem_cons, Sum.inr.injEq, h', false_or]
      exact ih
theorem hasK_iff {κ : Type} [DecidableEq κ] {k : κ} {ks : List κ} : hasK k ks = true ↔ k ∈ ks := by unfold hasK; simp
theorem W_KnNin {o : Bool} {κ : Kno} {x : Str} {P : Bool → Prop} : W (cmpB .nin m (.str x) (KnD o κ)) P ↔ P (decide (kgets x κ = none)) := by
  have e : inD m (.str x) (KnD o κ) = .ok (hasK (Sum.inr x : Key) (κ.map fun q => (Sum.inr q.1 : Key))) := rfl
  simp only [cmpB, e, R.bind, W_ok]
  have : (!hasK (Sum.inr x : Key) (κ.map fun q => (Sum.inr q.1 : Key))) = decide (kgets x κ = none) := by
    cases hh : hasK (Sum.inr x : Key) (κ.map fun q => (Sum.inr q.1 : Key)) with
    | true =>
      have h1 := hasK_iff.mp hh
      have h2 : ¬ kgets x κ = none := fun z => kgets_mem.mp z h1
      simp [h2]
    | false =>
      have h2 : kgets x κ = none := kgets_mem.mpr fun z => by rw [hasK_iff.mpr z] at hh; cases hh
      simp [h2]
  rw [this]
theorem W_KnOr {o o' : Bool} {κ : Kno} {x : Str} {k : Kn} (h : kgets x κ = none) (hl : κ.length ≤ 1000) {P : D → Prop} : W (bin .bor m (KnD o κ) (.nd o' (.dK [.inr x]) [.str k.s])) P ↔ P (KnD true (κ ++ [(x, k)])) := by
  have h1 : (Sum.inr x : Key) ∉ κ.map fun q => (Sum.inr q.1 : Key) := kgets_mem.mp h
  have h2 : (κ.map fun q => (Sum.inr q.1 : Key)).length + [(Sum.inr x : Key)].length ≤ most := by
    simp; exact Nat.le_trans (Nat.succ_le_succ hl) (by decide)
  have e : bin .bor m (KnD o κ) (.nd o' (.dK [.inr x]) [.str k.s]) = .ok (KnD true (κ ++ [(x, k)])) := by
    have e0 : bin .bor m (KnD o κ) (.nd o' (.dK [.inr x]) [.str k.s]) = if (κ.map fun q => (Sum.inr q.1 : Key)).length + [(Sum.inr x : Key)].length ≤ most then .ok (.nd true (.dK (kputs [(Sum.inr x : Key)] [.str k.s] (κ.map fun q => (Sum.inr q.1 : Key)) (κ.map fun q => .str q.2.s)).1) (kputs [(Sum.inr x : Key)] [.str k.s] (κ.map fun q => (Sum.inr q.1 : Key)) (κ.map fun q => .str q.2.s)).2) else .bad := rfl
    rw [e0, if_pos h2]
    simp only [kputs, kput, h1, if_false]
    unfold KnD
    simp
  rw [e, W_ok]
def lookK (t : Tr) : Nat := t.dep + 5
theorem f_look (Z : TreesP Pg) {s wh : Nat} {pd : D} {P : Pr} {f : Fu} (hp : PrR pd P) (hP : ∀ f ∈ P, f.ps.length ≤ 4) (hf : P[wh]? = some f) : ∀ (t : Tr) {κ : Kno} {o : Bool} {w : Nat} {c : Int} {d : D} {m : Mem} {k : Nat}, okTr P f.k κ w t = true → 0 ≤ c → c + t.size ≤ 60 → κ.length ≤ 4 + w → m[s]? = some (CkC pd wh c) → Rep d t.p → SeqAt.shaped t.p = true →
    W (callN Pg (k + lookK t) "Checker.look" [.loc s, d, KnD o κ, .int w] m) fun r => r = (.non, m.set s (CkC pd wh (c + t.size))) := by
  intro t
  induction t with
  | tell x =>
    intro κ o w c d m k h hc hz hl hm hd hs
    simp only [okTr, Bool.and_eq_true, decide_eq_true_eq] at h
    obtain ⟨h1, h2, h3⟩ := h
    simp only [Tr.size] at hz ⊢
    unfold lookK
    simp only [Tr.dep]
    rw [show k + (1 + 5) = (k + 5) + 1 from rfl, W_callN Z.look]
    have e1 := fun (m : Mem) (P : Bool → Prop) => W_neT (m := m) (o' := true) (b' := true) hd hs (P := P)
    obtain ⟨o1, b1, ds, rfl, hfr⟩ := hp
    obtain ⟨fd, hfd, hfu⟩ := hfr.getP hf
    obtain ⟨o2, b2, o3, ds1, dt, rfl, r1, r2⟩ := hfu
    obtain ⟨o4, b4, e, g, rfl, q1, q2⟩ := Rep.t2 hd
    rw [Rep_str] at q1 q2
    subst q1 q2
    have hsl : s < m.length := (List.getElem?_eq_some_iff.mp hm).1
    have hset : ∀ a, (m.set s a)[s]? = some a := fun a => by simp [hsl]
    have c1 : c < 60 := by omega
    have c2 : (w : Int) ≤ 20 := by omega
    simp [Cm.Checker_look_b, out, fldD, view, hm, CkC, kget, clsD, setF, fput, hset, clsM, e1, c1, c2, f_need Z, W_pc, lfs, lf, f_is_name Z.is_name h2, W_KnGet, h3, atI_nat, hfd, W_eqS Kn_strOk Kn_strOk]
  | let_ x de t ih =>
    intro κ o w c d m k h hc hz hl hm hd hs
    simp only [okTr, Bool.and_eq_true, decide_eq_true_eq] at h
    obtain ⟨h1, h2, h3, h4⟩ := h
    split at h4
    · rename_i kn hkn
      simp only [Tr.size] at hz ⊢
      unfold lookK
      simp only [Tr.dep]
      rw [show k + (1 + t.dep + 5) = (k + (t.dep + 5)) + 1 from by omega, W_callN Z.look]
      have e1 := fun (m : Mem) (P : Bool → Prop) => W_neT (m := m) (o' := true) (b' := true) hd hs (P := P)
      have hdp : SeqAt.shaped de.p = true := shaped_mem hs (by simp)
      have htp : SeqAt.shaped t.p = true := shaped_mem hs (by simp)
      obtain ⟨o4, b4, e, g, dd, td, rfl, q1, q2, q3, q4⟩ := Rep.t4 hd
      rw [Rep_str] at q1 q2
      subst q1 q2
      have hsl : s < m.length := (List.getElem?_eq_some_iff.mp hm).1
      have hset : ∀ a, (m.set s a)[s]? = some a := fun a => by simp [hsl]
      have c1 : c < 60 := by omega
      have c2 : (w : Int) ≤ 20 := by omega
      have hm1 : (m.set s (CkC pd wh (c + 1)))[s]? = some (CkC pd wh (c + 1)) := by simp [hsl]
      have e2 := fun (Q : D × Mem → Prop) => f_kind_of (k := k + (t.dep + 1)) (m := m.set s (CkC pd wh (c + 1))) (Q := Q) (o := o) Z hm1 hp hP q3 hdp hkn
      have e3 := fun (Q : D × Mem → Prop) => W.iff (Q := Q) (ih (o := true) (k := k) (c := c + 1) (m := m.set s (CkC pd wh (c + 1))) h4 (by omega) (by omega) (by simp; omega) hm1 q4 htp)
      rw [show k + lookK t = k + (t.dep + 5) from rfl] at e3
      rw [show k + (t.dep + 1) + 4 = k + (t.dep + 5) from by omega] at e2
      have e4 := fun (m : Mem) (d : D) (Q : D × Mem → Prop) => f_need (Pg := Pg) (k := k + (t.dep + 4)) (s := s) (m := m) (d := d) (Q := Q) Z
      rw [show k + (t.dep + 4) + 1 = k + (t.dep + 5) from by omega] at e4
      have e5 := fun (m : Mem) (Q : D × Mem → Prop) => f_is_name (k := k + (t.dep + 4)) (m := m) (Q := Q) Z.is_name h2
      rw [show k + (t.dep + 4) + 1 = k + (t.dep + 5) from by omega] at e5
      have e6 := fun (m : Mem) (P : D → Prop) => W_KnOr (m := m) (o := o) (o' := true) (k := kn) (P := P) h3 (show κ.length ≤ 1000 by omega)
      rw [show ((w + 1 : Nat) : Int) = (w : Int) + 1 from by omega] at e3
      simp only [CkC] at hm1 e2 e3
      simp [Cm.Checker_look_b, out, fldD, view, hm, CkC, kget, clsD, setF, fput, hset, clsM, e1, c1, c2, e4, W_pc, lfs, lf, e5, e2, W_KnNin, h3, isNon, e6, puts_str, e3, Int.add_assoc]
    · cases h4
  | claim a b n t ih =>
    intro κ o w c d m k h hc hz hl hm hd hs
    simp only [okTr, Bool.and_eq_true, decide_eq_true_eq] at h
    obtain ⟨h1, h2, h3, h5, h4⟩ := h
    simp only [Tr.size] at hz ⊢
    unfold lookK
    simp only [Tr.dep]
    rw [show k + (1 + t.dep + 5) = (k + (t.dep + 5)) + 1 from by omega, W_callN Z.look]
    have e1 := fun (m : Mem) (P : Bool → Prop) => W_neT (m := m) (o' := true) (b' := true) hd hs (P := P)
    have htp : SeqAt.shaped t.p = true := shaped_mem hs (by simp)
    obtain ⟨o4, b4, e, g, dd, nd, td, rfl, q1, q2, q3, q4, q5⟩ := Rep.t5 hd
    rw [Rep_str] at q1; rw [Rep_int] at q4
    subst q1 q4
    have hsl : s < m.length := (List.getElem?_eq_some_iff.mp hm).1
    have hset : ∀ a, (m.set s a)[s]? = some a := fun a => by simp [hsl]
    have c1 : c < 60 := by omega
    have c2 : (w : Int) ≤ 20 := by omega
    have h5 : -99 ≤ n ∧ n ≤ 99 := of_decide_eq_true h5
    have hm1 : (m.set s (CkC pd wh (c + 1)))[s]? = some (CkC pd wh (c + 1)) := by simp [hsl]
    have e3 := fun (Q : D × Mem → Prop) => W.iff (Q := Q) (ih (o := o) (k := k) (c := c + 1) (m := m.set s (CkC pd wh (c + 1))) h4 (by omega) (by omega) (by omega) hm1 q5 htp)
    rw [show k + lookK t = k + (t.dep + 5) from rfl] at e3
    have e4 := fun (m : Mem) (d : D) (Q : D × Mem → Prop) => f_need (Pg := Pg) (k := k + (t.dep + 4)) (s := s) (m := m) (d := d) (Q := Q) Z
    rw [show k + (t.dep + 4) + 1 = k + (t.dep + 5) from by omega] at e4
    have e5 := fun (m : Mem) (Q : D × Mem → Prop) => f_is_measure (k := k + (t.dep + 3)) (m := m) (Q := Q) (o := o) Z q2 h2
    have e6 := fun (m : Mem) (Q : D × Mem → Prop) => f_is_measure (k := k + (t.dep + 3)) (m := m) (Q := Q) (o := o) Z q3 h3
    have e7 := fun (m : Mem) (Q : D × Mem → Prop) => f_is_step (Pg := Pg) (k := k + (t.dep + 3)) (m := m) (Q := Q) (i := n) Z.is_whole Z.is_step
    rw [show k + (t.dep + 3) + 2 = k + (t.dep + 5) from by omega] at e5 e6 e7
    rw [show ((w + 1 : Nat) : Int) = (w : Int) + 1 from by omega] at e3
    simp only [CkC] at hm1 e3
    simp [Cm.Checker_look_b, Cm.Checker_look_b0, out, fldD, view, hm, CkC, kget, clsD, setF, fput, hset, clsM, e1, c1, c2, e4, W_pc, lfs, lf, q2.lf, q3.lf, e5, e6, e7, h5.1, h5.2, cut_L, e3, Int.add_assoc]
  | if_ a b n t u iht ihu =>
    intro κ o w c d m k h hc hz hl hm hd hs
    simp only [okTr, Bool.and_eq_true, decide_eq_true_eq] at h
    obtain ⟨h1, h2, h3, h5, h4, h6⟩ := h
    simp only [Tr.size] at hz ⊢
    unfold lookK
    simp only [Tr.dep]
    rw [show k + (1 + max t.dep u.dep + 5) = (k + (max t.dep u.dep + 5)) + 1 from by omega, W_callN Z.look]
    have e1 := fun (m : Mem) (P : Bool → Prop) => W_neT (m := m) (o' := true) (b' := true) hd hs (P := P)
    have htp : SeqAt.shaped t.p = true := shaped_mem hs (by simp)
    have hup : SeqAt.shaped u.p = true := shaped_mem hs (by simp)
    obtain ⟨o4, b4, e, g, dd, nd, td, ud, rfl, q1, q2, q3, q4, q5, q6⟩ := Rep.t6 hd
    rw [Rep_str] at q1; rw [Rep_int] at q4
    subst q1 q4
    have hsl : s < m.length := (List.getElem?_eq_some_iff.mp hm).1
    have hset : ∀ a, (m.set s a)[s]? = some a := fun a => by simp [hsl]
    have c1 : c < 60 := by omega
    have c2 : (w : Int) ≤ 20 := by omega
    have h5 : -99 ≤ n ∧ n ≤ 99 := of_decide_eq_true h5
    have hm1 : (m.set s (CkC pd wh (c + 1)))[s]? = some (CkC pd wh (c + 1)) := by simp [hsl]
    have hm2 : (m.set s (CkC pd wh (c + 1 + t.size)))[s]? = some (CkC pd wh (c + 1 + t.size)) := by simp [hsl]
    have e3 := fun (Q : D × Mem → Prop) => W.iff (Q := Q) (iht (o := o) (k := k + (max t.dep u.dep - t.dep)) (c := c + 1) (m := m.set s (CkC pd wh (c + 1))) h4 (by omega) (by omega) (by omega) hm1 q5 htp)
    have e8 := fun (Q : D × Mem → Prop) => W.iff (Q := Q) (ihu (o := o) (k := k + (max t.dep u.dep - u.dep)) (c := c + 1 + t.size) (m := m.set s (CkC pd wh (c + 1 + t.size))) h6 (by omega) (by omega) (by omega) hm2 q6 hup)
    rw [show k + (max t.dep u.dep - t.dep) + lookK t = k + (max t.dep u.dep + 5) from by unfold lookK; omega] at e3
    rw [show k + (max t.dep u.dep - u.dep) + lookK u = k + (max t.dep u.dep + 5) from by unfold lookK; omega] at e8
    have e4 := fun (m : Mem) (d : D) (Q : D × Mem → Prop) => f_need (Pg := Pg) (k := k + (max t.dep u.dep + 4)) (s := s) (m := m) (d := d) (Q := Q) Z
    rw [show k + (max t.dep u.dep + 4) + 1 = k + (max t.dep u.dep + 5) from by omega] at e4
    have e5 := fun (m : Mem) (Q : D × Mem → Prop) => f_is_measure (k := k + (max t.dep u.dep + 3)) (m := m) (Q := Q) (o := o) Z q2 h2
    have e6 := fun (m : Mem) (Q : D × Mem → Prop) => f_is_measure (k := k + (max t.dep u.dep + 3)) (m := m) (Q := Q) (o := o) Z q3 h3
    have e7 := fun (m : Mem) (Q : D × Mem → Prop) => f_is_step (Pg := Pg) (k := k + (max t.dep u.dep + 3)) (m := m) (Q := Q) (i := n) Z.is_whole Z.is_step
    rw [show k + (max t.dep u.dep + 3) + 2 = k + (max t.dep u.dep + 5) from by omega] at e5 e6 e7
    rw [show ((w + 1 : Nat) : Int) = (w : Int) + 1 from by omega] at e3 e8
    simp only [CkC, Int.add_assoc] at hm1 e3 e8
    generalize k + (max t.dep u.dep + 5) = K at *
    simp [Cm.Checker_look_b, Cm.Checker_look_b0, out, fldD, view, hm, CkC, kget, clsD, setF, fput, hset, clsM, e1, c1, c2, e4, W_pc, lfs, lf, q2.lf, q3.lf, e5, e6, e7, h5.1, h5.2, cut_L, e3, e8, Int.add_assoc]
end
end Mi
end
section
set_option linter.all false
set_option Elab.async false
set_option maxRecDepth 100000
set_option maxHeartbeats 4000000
/-! Mp7: a program that can be is let by. -/
namespace Mi
open PySem Pm
section
variable {Pg : Prg} {k : Nat} {m : Mem} {Q : D × Mem → Prop}
theorem V_cls {C : Str} (h : Has Pg C .cls) {as : List D} : V (callN Pg (k + 1) C as m) Q ↔ V (callN Pg k (C ++ ".__init__") (.loc m.length :: as) (m ++ [⟨.ins C [], []⟩])) fun r => r.1 = .non ∧ Q (.loc m.length, r.2) := by
  unfold Has at h
  rw [callN, h]
  simp only [V_bind]
  constructor
  · intro q; refine q.mono fun r hr => ?_
    obtain ⟨r1, r2⟩ := r
    cases r1 <;> simp at hr ⊢
    exact hr
  · intro q; refine q.mono fun r hr => ?_
    obtain ⟨r1, r2⟩ := r
    obtain ⟨h1, h2⟩ := hr
    have h1 : r1 = .non := h1
    subst h1
    simpa using h2
theorem W_cls {C : Str} (h : Has Pg C .cls) {as : List D} : W (callN Pg (k + 1) C as m) Q ↔ W (callN Pg k (C ++ ".__init__") (.loc m.length :: as) (m ++ [⟨.ins C [], []⟩])) fun r => r.1 = .non ∧ Q (.loc m.length, r.2) := V_cls h
/-- the cell that is put last -/
@[simp] theorem last_get {c : Cell} : (m ++ [c])[m.length]? = some c := by simp
@[simp] theorem last_set {c c' : Cell} : (m ++ [c]).set m.length c' = m ++ [c'] := by simp
theorem f_mkChecker (Z : TreesP Pg) {pd : D} {w : Int} : W (callN Pg (k + 2) "Checker" [pd, .int w] m) Q ↔ Q (.loc m.length, m ++ [CkC pd w 0]) := by
  rw [W_cls Z.cls]
  have e : ("Checker" : Str) ++ ".__init__" = "Checker.__init__" := by simp
  rw [e]
  refine W.iff (a := (.non, m ++ [CkC pd w 0])) ?_ |>.trans (by simp)
  rw [W_callN Z.init]
  simp [Cm.CheckerD_initD_b, out, setF, fput, CkC]
theorem pairs_ok : ∀ {κ : Kno} {ds : List D} {κ0 : Kno}, Reps ds (κ.map parP) → ((κ0 ++ κ).map (·.1)).Nodup → pairsD ds (κ0.map fun q => (Sum.inr q.1 : Key)) (κ0.map fun q => .str q.2.s) = .ok ((κ0 ++ κ).map fun q => (Sum.inr q.1 : Key), (κ0 ++ κ).map fun q => .str q.2.s)
  | [], ds, κ0, h, _ => by
    simp at h
    subst h
    simp [pairsD]
  | q :: κ, ds, κ0, h, hn => by
    rw [List.map_cons] at h
    obtain ⟨d, es, rfl, h1, h2⟩ := Reps_cons.mp h
    unfold parP at h1
    obtain ⟨o, b, e, f, rfl, g1, g2⟩ := h1.t2
    rw [Rep_str] at g1 g2
    subst g1 g2
    have hq : (Sum.inr q.1 : Key) ∉ κ0.map fun q => (Sum.inr q.1 : Key) := by
      intro hm
      obtain ⟨p, hp, e⟩ := List.mem_map.mp hm
      have e : p.1 = q.1 := Sum.inr.inj e
      rw [List.map_append, List.nodup_append] at hn
      exact hn.2.2 p.1 (List.mem_map.mpr ⟨p, hp, rfl⟩) q.1 (by simp) e
    have hk : kput (Sum.inr q.1 : Key) (D.str q.2.s) (κ0.map fun q => (Sum.inr q.1 : Key)) (κ0.map fun q => D.str q.2.s) = ((κ0 ++ [q]).map fun q => (Sum.inr q.1 : Key), (κ0 ++ [q]).map fun q => .str q.2.s) := by
      unfold kput
      rw [if_neg hq]
      simp
    have ih := pairs_ok (κ := κ) (ds := es) (κ0 := κ0 ++ [q]) h2 (by simpa using hn)
    unfold pairsD
    simp only [T'_tupOf, keyOf, hk]
    rw [ih]
    simp
theorem W_dict {o fr : Bool} {ds : List D} {κ : Kno} (h : Reps ds (κ.map parP)) (hn : (κ.map (·.1)).Nodup) : W (bi .dict true m [T' o true ds]) Q ↔ Q (KnD true κ, m) := by
  have e : biDict m [T' o true ds] = .ok (.dK (κ.map fun q => (Sum.inr q.1 : Key)), κ.map fun q => .str q.2.s) := by
    show (pairsD ds [] []).bind _ = _
    have := pairs_ok (κ0 := []) h (by simpa using hn)
    rw [show ([] : Kno).map (fun q => (Sum.inr q.1 : Key)) = [] from rfl, show ([] : Kno).map (fun q => D.str q.2.s) = [] from rfl] at this
    rw [this]
    rfl
  simp only [bi, asN, e, R.bind, W_ok]
  rfl
theorem f_need_program (Z : TreesP Pg) {d : D} {P : Pr} (hd : PrR d P) (hs : SeqAt.shaped (Pr.p P) = true) (hP : okPr P = true) : W (callN Pg (k + 27) "need_program" [d] m) fun r => r.1 = .non := by
  unfold okPr at hP
  simp only [Bool.and_eq_true, decide_eq_true_eq] at hP
  obtain ⟨⟨p1, p2⟩, p3⟩ := hP
  have hfu : ∀ f ∈ P, okHd f = true ∧ okTr P f.k f.ps 1 f.t = true ∧ f.t.size ≤ 60 := fun f hf => by
    have := List.all_eq_true.mp p3 f hf
    unfold okFu at this
    simp only [Bool.and_eq_true, decide_eq_true_eq] at this
    exact this
  have hps : ∀ f ∈ P, f.ps.length ≤ 4 := fun f hf => by
    have := (hfu f hf).1
    unfold okHd at this
    simp only [Bool.and_eq_true, decide_eq_true_eq] at this
    exact this.1
  have hnd : ∀ f ∈ P, (f.ps.map (·.1)).Nodup := fun f hf => by
    have := (hfu f hf).1
    unfold okHd at this
    simp only [Bool.and_eq_true, decide_eq_true_eq] at this
    exact this.2.2
  have e1 := fun (k : Nat) (Q : D × Mem → Prop) => f_need_heads (k := k) (m := []) (Q := Q) Z hd hs p1 p2 fun f hf => (hfu f hf).1
  rw [show k + 27 = (k + 26) + 1 from rfl, W_callN Z.need_program]
  have hlf := hd.rep.lf
  obtain ⟨o, b, ds, rfl, hf⟩ := hd
  simp [Cm.need_program_b, out, W_pc, e1, lfs, lf, hf.reps.lfs]
  refine W_forSt (fun j ρ m' => ∃ x y z u, ρ = [some (T' o b ds), x, y, z, u]) (enumD 0 ds) _ _ 0 ⟨_, _, _, _, rfl⟩ (fun i d ρ m' hi ⟨x, y, z, u, hρ⟩ => ?_) (fun ρ m' ⟨_, hm⟩ => by simp)
  subst hρ
  obtain ⟨e, he, rfl⟩ := enumD_at hi
  obtain ⟨f, hf1, hf2⟩ := hf.get he
  have hfm := List.mem_of_getElem? hf1
  obtain ⟨o2, b2, o3, ds1, dt, rfl, r1, r2⟩ := hf2
  obtain ⟨f1, f2, f3⟩ := hfu f hfm
  have hts : SeqAt.shaped f.t.p = true := shaped_mem (shaped_mem hs (List.mem_map.mpr ⟨f, hfm, rfl⟩)) (by simp)
  have hdep := okTr_dep f2
  have e2 := fun (Q : D × Mem → Prop) => W.iff (Q := Q) (f_look Z (s := m'.length) (wh := i) (pd := T' o b ds) ⟨o, b, ds, rfl, hf⟩ hps hf1 f.t (o := true) (k := k + 26 - lookK f.t) (c := 0) (d := dt) (m := m' ++ [CkC (T' o b ds) i 0]) f2 (by omega) (by omega) (by have := hps f hfm; omega) last_get r2 hts)
  rw [show k + 26 - lookK f.t + lookK f.t = k + 26 from by unfold lookK; omega] at e2
  have e3 := fun (m : Mem) (Q : D × Mem → Prop) => W_dict (m := m) (o := o3) (fr := true) (Q := Q) r1 (hnd f hfm)
  rw [show ((1 : Nat) : Int) = 1 from rfl] at e2
  simp [Cm.need_program_b0, f_mkChecker Z, clsM, view, CkC, e3]
  simp only [CkC] at e2
  simp [e2]
end
end Mi
end
section
set_option linter.all false
set_option Elab.async false
set_option maxRecDepth 100000
set_option maxHeartbeats 4000000
/-! Mp8: what the laws share: drawing, comparing. -/
namespace Mi
open PySem
section
variable {m : Mem}
theorem W_powI {i j : Int} {Q : D → Prop} : W (bin .pow m (.int i) (.int j)) Q ↔ (0 ≤ j ∧ j ≤ 1000000 ∧ i.natAbs < 2 ^ 64) ∧ Q (.int (i ^ j.toNat)) := by simp only [bin, powD, W_ib, W_ok]
theorem idx_loc {s : Nat} {ds : List D} {i : Int} (h : m[s]? = some ⟨.lst, ds⟩) : idxD m (.loc s) (.int i) = R.of (L2.atI ds i) := by
  unfold idxD view
  simp only [h]
theorem W_setL {s : Nat} {ds : List D} {i : Nat} {v : D} {Q : Mem → Prop} (h : m[s]? = some ⟨.lst, ds⟩) (hi : i < ds.length) : W (setD m (.loc s) (.int i) v) Q ↔ Q (m.set s ⟨.lst, ds.set i v⟩) := by
  unfold setD
  simp only [h]
  have : L2.ixN ds.length (i : Int) = some i := by unfold L2.ixN; rw [if_pos (by omega), if_pos (by omega)]; simp
  rw [this]
  simp
/-- where drawing stands -/
def StC (ns : List Int) (i x l : Int) : Cell := ⟨.lst, [.nd false .scr (ns.map D.int), .int i, .int x, .int l]⟩
def StOk (m : Mem) (s : Nat) : Prop := ∃ ns i x l, m[s]? = some (StC ns i x l) ∧ 0 ≤ i
end
section
variable {Pg : Prg} {k : Nat} {m : Mem} {Q : D × Mem → Prop}
theorem f_start (h : Has Pg "_law_start" Cm._law_start_d) {ns : List Int} : W (callN Pg (k + 1) "_law_start" [.nd false .scr (ns.map D.int)] m) fun r => ∃ x, r = (.loc m.length, m ++ [StC ns 0 x 0]) := by
  rw [W_callN h]
  simp [Cm._law_start_b, Mi.out]
  refine W_forSt (fun j ρ m' => (∃ (x : Int) (y : Option D), ρ = [some (.nd false .scr (ns.map D.int)), some (.int x), y]) ∧ m' = m) (ns.map D.int) _ _ 0 ⟨⟨1, _, rfl⟩, rfl⟩ (fun i d ρ m' hi ⟨⟨x, y, hρ⟩, hm⟩ => ?_) (fun ρ m' ⟨⟨x, y, hρ⟩, hm⟩ => ?_)
  · subst hρ hm
    rw [List.getElem?_map] at hi
    cases hn : ns[i]? with
    | none => rw [hn] at hi; cases hi
    | some n =>
      rw [hn] at hi
      cases hi
      simp [Cm._law_start_b0]
  · subst hρ hm
    simp
    exact ⟨x, rfl⟩
theorem f_drawn (h : Has Pg "_law_drawn" Cm._law_drawn_d) {s : Nat} {n : Int} (hm : StOk m s) (h1 : 1 ≤ n) (h2 : n < 1073741824) : W (callN Pg (k + 1) "_law_drawn" [.loc s, .int n] m) fun r => ∃ v c, r = (.int v, m.set s c) ∧ 0 ≤ v ∧ v < n ∧ StOk (m.set s c) s := by
  obtain ⟨ns, i, x, l, hm, hi⟩ := hm
  have hsl : s < m.length := (List.getElem?_eq_some_iff.mp hm).1
  have hset : ∀ a, (m.set s a)[s]? = some a := fun a => by simp [hsl]
  rw [W_callN h]
  have h0 : 0 < n := by omega
  have fit : ∀ (v i' x' l' : Int), 0 ≤ v → v < n → 0 ≤ i' → ∃ v' c, (v = v' ∧ m.set s ⟨.lst, [.nd false .scr (ns.map D.int), .int i', .int x', .int l']⟩ = m.set s c) ∧ 0 ≤ v' ∧ v' < n ∧ StOk (m.set s c) s := fun v i' x' l' a b c => ⟨v, _, ⟨rfl, rfl⟩, a, b, ns, i', x', l', hset _, c⟩
  have hmod : ∀ a : Int, 0 ≤ a % n ∧ a % n < n := fun a => ⟨Int.emod_nonneg a (by omega), Int.emod_lt_of_pos a h0⟩
  have ix3 : ∀ (m : Mem) (ds : List D) (v : D) (Q : Mem → Prop), m[s]? = some ⟨.lst, ds⟩ → 3 < ds.length → (W (setD m (.loc s) (.int 3) v) Q ↔ Q (m.set s ⟨.lst, ds.set 3 v⟩)) := fun m ds v Q a b => W_setL (i := 3) a b
  have ix1 : ∀ (m : Mem) (ds : List D) (v : D) (Q : Mem → Prop), m[s]? = some ⟨.lst, ds⟩ → 1 < ds.length → (W (setD m (.loc s) (.int 1) v) Q ↔ Q (m.set s ⟨.lst, ds.set 1 v⟩)) := fun m ds v Q a b => W_setL (i := 1) a b
  have ix2 : ∀ (m : Mem) (ds : List D) (v : D) (Q : Mem → Prop), m[s]? = some ⟨.lst, ds⟩ → 2 < ds.length → (W (setD m (.loc s) (.int 2) v) Q ↔ Q (m.set s ⟨.lst, ds.set 2 v⟩)) := fun m ds v Q a b => W_setL (i := 2) a b
  unfold StC at hm
  simp [Cm._law_drawn_b, out, idx_loc hm]
  refine Br.mk (fun hl => ?_) (fun hl => ?_)
  · simp [idx_loc hm, h0, h2, ix3 m _ _ _ hm]
    exact fit _ i x _ (hmod _).1 (hmod _).2 hi
  · simp [idx_loc hm, ix1 m _ _ _ hm, idx_loc (hset _)]
    refine Br.mk (fun hl => ?_) (fun hl => ?_)
    · have hl : i + 1 ≤ ns.length := by simpa using hl
      have hat : L2.atI (ns.map D.int) i = some (.int (ns[i.toNat]'(by omega))) := by
        have q : L2.atI (ns.map D.int) (i.toNat : Int) = some (.int (ns[i.toNat]'(by omega))) := by
          rw [atI_nat]
          simp [List.getElem?_eq_getElem (show i.toNat < ns.length by omega)]
        rw [Int.toNat_of_nonneg hi] at q
        exact q
      simp [idx_loc (hset _), hat, W_powI]
      refine Br.mk (fun hl => ?_) (fun hl => ?_)
      · simp [h0, h2, ix3 _ _ _ _ (hset _)]
        exact fit _ (i + 1) x _ (hmod _).1 (hmod _).2 (by omega)
      · simp [h0, h2, ix3 _ _ _ _ (hset _)]
        exact fit _ (i + 1) x _ (hmod _).1 (hmod _).2 (by omega)
    · simp [idx_loc (hset _), ix2 _ _ _ _ (hset _), h0, h2]
      exact fit _ (i + 1) _ l (hmod _).1 (hmod _).2 (by omega)
end
end Mi
end
section
set_option linter.all false
set_option Elab.async false
set_option maxRecDepth 100000
set_option maxHeartbeats 4000000
/-! Mp9: comparing place by place. -/
namespace Mi
open PySem
mutual
/-- no list is too long -/
def okW : PyData → Bool
  | .list xs => decide (xs.length ≤ 1000000) && okWs xs
  | .tuple xs => decide (xs.length ≤ 1000000) && okWs xs
  | _ => true
def okWs : List PyData → Bool
  | [] => true
  | x :: xs => okW x && okWs xs
end
theorem okWs_mem {p : PyData} : ∀ {ps : List PyData}, p ∈ ps → okWs ps = true → okW p = true
  | q :: ps, h, e => by
    simp only [okWs, Bool.and_eq_true] at e
    rcases List.mem_cons.mp h with rfl | h
    · exact e.1
    · exact okWs_mem h e.2
section
variable {Pg : Prg} {k : Nat} {m : Mem} {Q : D × Mem → Prop}
theorem rngD_reps {n : Int} : Reps (rngD 0 n) ((List.range n.toNat).map fun (i : Nat) => PyData.int i) := by
  unfold rngD
  rw [show n - 0 = n from by omega]
  generalize List.range n.toNat = l
  induction l with
  | nil => simp
  | cons i l ih => exact Reps_cons.mpr ⟨_, _, rfl, Rep_int.mpr (by simp), ih⟩
theorem rngD_reps2 {a n : Int} : Reps (rngD a n) ((List.range (n - a).toNat).map fun (i : Nat) => PyData.int (a + i)) := by
  unfold rngD
  generalize List.range (n - a).toNat = l
  induction l with
  | nil => simp
  | cons i l ih => exact Reps_cons.mpr ⟨_, _, rfl, Rep_int.mpr (by simp), ih⟩
theorem rngD_len {a n : Int} : (rngD a n).length = (n - a).toNat := by unfold rngD; simp
theorem small_nat {n : Nat} (h : n ≤ 1000000) : small (n : Int) = true := by
  unfold small
  simp only [Bool.and_eq_true, decide_eq_true_eq]
  omega
theorem shaped_list {ps : List PyData} : SeqAt.shaped (.list ps) = SeqAt.shaped (.tuple ps) := by simp [SeqAt.shaped, PyData.canLay0, PyData.depth]
theorem f_same (h : Has Pg "_law_same" Cm._law_same_d) : ∀ (n : Nat) {p : PyData} {a b : D} {k : Nat} {m : Mem}, p.depth ≤ n → okW p = true → SeqAt.shaped p = true → Rep a p → Rep b p → W (callN Pg (k + n + 1) "_law_same" [a, b] m) fun r => r = (.bl true, m) := by
  intro n
  induction n with
  | zero =>
    intro p a b k m hd hw hs ha hb
    rw [W_callN h]
    cases p with
    | none => rw [Rep_none] at ha hb; subst ha hb; simp [Cm._law_same_b, out, W_eq (p := .none) (q := .none), PyData.eqv]
    | bool x => rw [Rep_bool] at ha hb; subst ha hb; simp [Cm._law_same_b, out]
    | int x => rw [Rep_int] at ha hb; subst ha hb; simp [Cm._law_same_b, out]
    | str x =>
      rw [Rep_str] at ha hb; subst ha hb
      simp at hs
      simp [Cm._law_same_b, out, W_eqS hs hs]
    | list xs => simp [PyData.depth] at hd
    | tuple xs => simp [PyData.depth] at hd
    | dict xs => simp [PyData.depth] at hd
  | succ n ih =>
    intro p a b k m hd hw hs ha hb
    rw [W_callN h]
    have key : ∀ (ps : List PyData) (ds es : List D) (sa sb : D), PyData.depthAll ps ≤ n → okWs ps = true → ps.length ≤ 1000000 → (∀ q ∈ ps, SeqAt.shaped q = true) → Reps ds ps → Reps es ps → (∀ i : Int, idxD m sa (.int i) = R.of (L2.atI ds i)) → (∀ i : Int, idxD m sb (.int i) = R.of (L2.atI es i)) →
        W (goSt (lcT (callN Pg (k + (n + 1))) (.var 2) [2] (.var 2) [(E.pcall false "_law_same" [(E.idx (.var 0) (.var 2)), (E.idx (.var 1) (.var 2))]).not] .nil [some sa, some sb, none, none]) (rngD 0 es.length) (Sh.lst, []) m) fun r => r = ((.lst, []), m) := by
      intro ps ds es sa sb h1 h2 h3 h4 r1 r2 i1 i2
      refine W_lcNone rngD_reps (fun d p hp hr => ?_) (by rw [rngD_len, r2.length]; simp; exact Nat.le_trans h3 (by decide)) rfl
      obtain ⟨i, hi, rfl⟩ := List.mem_map.mp hp
      rw [Rep_int] at hr
      subst hr
      simp at hi
      have hi' : i < ps.length := by rw [← r2.length]; exact hi
      obtain ⟨d1, g1, g2⟩ := r1.getP (i := i) (List.getElem?_eq_getElem hi')
      obtain ⟨d2, g3, g4⟩ := r2.getP (i := i) (List.getElem?_eq_getElem hi')
      have hm : ps[i] ∈ ps := List.getElem_mem hi'
      have e1 := fun (Q : D × Mem → Prop) => W.iff (Q := Q) (ih (k := k) (m := []) (Nat.le_trans (depthAll_mem hm) h1) (okWs_mem hm h2) (h4 _ hm) g2 g4)
      rw [show k + n + 1 = k + (n + 1) from rfl] at e1
      simp [Put, wipe, i1, i2, atI_nat, g1, g3, lfs, g2.lf, g4.lf, W_pc, e1]
    cases p with
    | none => rw [Rep_none] at ha hb; subst ha hb; simp [Cm._law_same_b, out, W_eq (p := .none) (q := .none), PyData.eqv]
    | bool x => rw [Rep_bool] at ha hb; subst ha hb; simp [Cm._law_same_b, out]
    | int x => rw [Rep_int] at ha hb; subst ha hb; simp [Cm._law_same_b, out]
    | str x =>
      rw [Rep_str] at ha hb; subst ha hb
      simp at hs
      simp [Cm._law_same_b, out, W_eqS hs hs]
    | dict xs => simp [SeqAt.shaped, PyData.canLay0] at hs
    | list xs =>
      simp only [PyData.depth] at hd
      simp only [okW, Bool.and_eq_true, decide_eq_true_eq] at hw
      rw [shaped_list] at hs
      obtain ⟨o1, ds, rfl, r1⟩ := Rep_list.mp ha
      obtain ⟨o2, es, rfl, r2⟩ := Rep_list.mp hb
      have hl : ds.length = es.length := by rw [r1.length, r2.length]
      have hsm : small (es.length : Int) = true := small_nat (by rw [r2.length]; exact hw.1)
      simp [Cm._law_same_b, out, hl, hsm]
      exact (key xs ds es (.nd o1 .lst ds) (.nd o2 .lst es) (by omega) hw.2 hw.1 (fun q hq => shaped_mem hs hq) r1 r2 (fun i => idx_L) (fun i => idx_L)).mono fun r e => by subst e; simp [W_eqNil]
    | tuple xs =>
      simp only [PyData.depth] at hd
      simp only [okW, Bool.and_eq_true, decide_eq_true_eq] at hw
      obtain ⟨o1, b1, ds, rfl, r1⟩ := Rep_tuple.mp ha
      obtain ⟨o2, b2, es, rfl, r2⟩ := Rep_tuple.mp hb
      have hl : ds.length = es.length := by rw [r1.length, r2.length]
      have hsm : small (es.length : Int) = true := small_nat (by rw [r2.length]; exact hw.1)
      simp [Cm._law_same_b, out, hl, hsm]
      exact (key xs ds es (T' o1 b1 ds) (T' o2 b2 es) (by omega) hw.2 hw.1 (fun q hq => shaped_mem hs hq) r1 r2 (fun i => idx_T') (fun i => idx_T')).mono fun r e => by subst e; simp [W_eqNil]
end
end Mi
end
section
set_option linter.all false
set_option Elab.async false
set_option maxRecDepth 100000
set_option maxHeartbeats 4000000
/-! Mp10: lattices. -/
namespace Mi
open PySem Pm
/-! ### plain -/
def slotsAt : Nat → List Kn → List PyData
  | _, [] => []
  | i, .nu :: ks => .tuple [.str "of", .int i] :: slotsAt (i + 1) ks
  | i, .li :: ks => .tuple [.str "len", .int i] :: .tuple [.str "each", .int i] :: slotsAt (i + 1) ks
def slotsP (ks : List Kn) : List PyData := .tuple [] :: slotsAt 0 ks
def claimsP (sl : List PyData) (ns : List Int) : List PyData := sl.flatMap fun a => sl.flatMap fun b => if PyData.eqv a b then [] else ns.map fun n => .tuple [a, b, .int n]
def leP (p q : PyData) : Bool := !W.dataLt q p
def latP (ks : List Kn) (ns : List Int) : List PyData := (claimsP (slotsP ks) ns).mergeSort leP
theorem slotsAt_app : ∀ (ks : List Kn) (i : Nat) (k : Kn), slotsAt i (ks ++ [k]) = slotsAt i ks ++ slotsAt (i + ks.length) [k]
  | [], i, k => by simp [slotsAt]
  | .nu :: ks, i, k => by simp [slotsAt, slotsAt_app ks (i + 1) k, Nat.add_assoc, Nat.add_comm 1]
  | .li :: ks, i, k => by simp [slotsAt, slotsAt_app ks (i + 1) k, Nat.add_assoc, Nat.add_comm 1]
theorem slotsAt_len : ∀ (ks : List Kn) (i : Nat), (slotsAt i ks).length ≤ 2 * ks.length
  | [], i => by simp [slotsAt]
  | .nu :: ks, i => by have := slotsAt_len ks (i + 1); simp [slotsAt]; omega
  | .li :: ks, i => by have := slotsAt_len ks (i + 1); simp [slotsAt]; omega
/-- slots look so -/
inductive IsSlot : PyData → Prop
  | zero : IsSlot (.tuple [])
  | of (x : String) (i : Nat) : IsSlot (.tuple [.str (Str.ofString x), .int i])
theorem slotsAt_is : ∀ (ks : List Kn) (i : Nat) (p : PyData), p ∈ slotsAt i ks → IsSlot p
  | .nu :: ks, i, p, h => by
    simp only [slotsAt, List.mem_cons] at h
    rcases h with rfl | h
    · exact .of _ _
    · exact slotsAt_is ks _ p h
  | .li :: ks, i, p, h => by
    simp only [slotsAt, List.mem_cons] at h
    rcases h with rfl | rfl | h
    · exact .of _ _
    · exact .of _ _
    · exact slotsAt_is ks _ p h
theorem slotsP_is {ks : List Kn} {p : PyData} (h : p ∈ slotsP ks) : IsSlot p := by
  unfold slotsP at h
  rcases List.mem_cons.mp h with rfl | h
  · exact .zero
  · exact slotsAt_is ks 0 p h
theorem IsSlot.shaped {p : PyData} (h : IsSlot p) : SeqAt.shaped p = true := by
  cases h <;> simp [SeqAt.shaped, PyData.canLay0, PyData.canLayAll0, PyData.depth, PyData.depthAll]
theorem IsSlot.alike {p q : PyData} (h : IsSlot p) (h' : IsSlot q) : W.alike p q = true := by
  cases h <;> cases h' <;> simp [W.alike, W.alikeAll]
section
variable {Pg : Prg} {k : Nat} {m : Mem} {Q : D × Mem → Prop} {cal : Cal} {ρ : Env}
theorem frz_loc {n : Nat} {sh : Sh} {ds : List D} {j : Nat} (h : m[n]? = some ⟨sh, ds⟩) (ho : ows ds = true) : snap true false (j + 1) m (.loc n) = some (.nd true sh ds) := by
  rw [snap, h]
  simp only [frzs_ow j ho, Option.map_some]
theorem W_ext {n : Nat} {o : Bool} {ds es : List D} (h : m[n]? = some ⟨.lst, ds⟩) (hl : ds.length + es.length ≤ most) : W (mt .extend m (.loc n) [.nd o .lst es]) Q ↔ Q (.non, m.set n ⟨.lst, ds ++ es⟩) := by
  have e : mt .extend m (.loc n) [.nd o .lst es] = .ok (.non, m.set n ⟨.lst, ds ++ es⟩) := by
    simp only [mt, h, mtLst, itemsL, view, nrm, R.bind, hl, if_true]
  rw [e, W_ok]
theorem W_app {n : Nat} {d : D} {ds : List D} (h : m[n]? = some ⟨.lst, ds⟩) (hl : ds.length < most) : W (mt .append m (.loc n) [d]) Q ↔ Q (.non, m.set n ⟨.lst, ds ++ [d]⟩) := by
  have e : mt .append m (.loc n) [d] = .ok (.non, m.set n ⟨.lst, ds ++ [d]⟩) := by
    simp only [mt, h, mtLst, R.bind, hl, if_true]
  rw [e, W_ok]
theorem mtOk_loc {n : Nat} {q : Mt} {ds : List D} (h : m[n]? = some ⟨.lst, ds⟩) (hq : q ≠ .get) {P : Unit → Prop} : W (mtOk q m (.loc n)) P ↔ P () := by
  unfold mtOk view
  cases q <;> simp [h] at hq ⊢
theorem W_addL {o o' : Bool} {xs ys : List D} {P : D → Prop} (hl : xs.length + ys.length ≤ most) : W (bin .add m (.nd o .lst xs) (.nd o' .lst ys)) P ↔ P (lstD (xs ++ ys)) := by
  have e : bin .add m (.nd o .lst xs) (.nd o' .lst ys) = if xs.length + ys.length ≤ most then .ok (lstD (xs ++ ys)) else .bad := rfl
  rw [e, if_pos hl, W_ok]
theorem ows_T' {b : Bool} {ds : List D} : ow (T' true b ds) = ows ds := by simp
structure LatP (Pg : Prg) : Prop where
  slots_of : Has Pg "slots_of" Cm.slots_of_d
  kinds_at : Has Pg "kinds_at" Cm.kinds_at_d
  lattice : Has Pg "lattice" Cm.lattice_d
theorem f_slots_of (h : Has Pg "slots_of" Cm.slots_of_d) {d : D} {ks : List Kn} (hd : Rep d (.list (ks.map fun k => .str k.s))) (hl : ks.length ≤ 1000) : W (callN Pg (k + 1) "slots_of" [d] m) fun r => ∃ ds, r = (.loc m.length, m ++ [⟨.lst, ds⟩]) ∧ Reps ds (slotsP ks) ∧ ows ds = true := by
  rw [W_callN h]
  obtain ⟨o, kd, rfl, h1⟩ := Rep_list.mp hd
  simp [Cm.slots_of_b, out]
  refine W_forSt (fun j ρ m' => ∃ x y ds, ρ = [some (.nd o .lst kd), some (.loc m.length), x, y] ∧ m' = m ++ [⟨.lst, ds⟩] ∧ Reps ds (.tuple [] :: slotsAt 0 (ks.take j)) ∧ ows ds = true) (enumD 0 kd) _ _ 0
    ⟨_, _, _, rfl, rfl, by simp [slotsAt], by simp [ows]⟩ (fun i d ρ m' hi ⟨x, y, ds, hρ, hm, hr, ho⟩ => ?_) (fun ρ m' ⟨x, y, ds, hρ, hm, hr, ho⟩ => ?_)
  · subst hρ hm
    obtain ⟨e, he, rfl⟩ := enumD_at hi
    obtain ⟨p, hp, hpr⟩ := h1.get he
    rw [List.getElem?_map] at hp
    cases hk : ks[i]? with
    | none => rw [hk] at hp; cases hp
    | some kn =>
      rw [hk] at hp
      cases hp
      rw [Rep_str] at hpr
      subst hpr
      have hil : i < ks.length := (List.getElem?_eq_some_iff.mp hk).1
      have htk : ks.take (i + 1) = ks.take i ++ [kn] := by rw [List.take_add_one, hk]; rfl
      have hll : ds.length ≤ 2001 := by
        rw [hr.length]
        have := slotsAt_len (ks.take i) 0
        simp at this ⊢
        omega
      have e1 : ds.length + 1 ≤ most := Nat.le_trans (show ds.length + 1 ≤ 3000 by omega) (by decide)
      have e2 : ds.length + 2 ≤ most := Nat.le_trans (show ds.length + 2 ≤ 3000 by omega) (by decide)
      simp only [Nat.zero_add] at hr ⊢
      rw [show 0 + i + 1 = i + 1 from by omega, htk, slotsAt_app, show (0 + (ks.take i).length) = i from by simp; omega]
      cases kn with
      | nu =>
        simp [Cm.slots_of_b0, Kn.s, mtOk_loc last_get, W_ext last_get (show ds.length + [T' true true [D.str (Str.ofString "of"), D.int i]].length ≤ most from e1)]
        refine ⟨?_, by simp [ows_app, ho, ows, ow]⟩
        rw [← List.cons_append]
        exact hr.append (by simp [slotsAt])
      | li =>
        simp [Cm.slots_of_b0, Kn.s, mtOk_loc last_get, W_ext last_get (show ds.length + [T' true true [D.str (Str.ofString "len"), D.int i], T' true true [D.str (Str.ofString "each"), D.int i]].length ≤ most from e2)]
        refine ⟨?_, by simp [ows_app, ho, ows, ow]⟩
        rw [← List.cons_append]
        exact hr.append (by simp [slotsAt])
  · subst hρ hm
    have : (enumD 0 kd).length = ks.length := by rw [enumD_len, h1.length]; simp
    rw [this, Nat.zero_add, List.take_length] at hr
    simp
    exact ⟨hr, ho⟩
end
end Mi
end
section
set_option linter.all false
set_option Elab.async false
set_option maxRecDepth 100000
set_option maxHeartbeats 4000000
/-! Mp11: lattices, sorted. -/
namespace Mi
open PySem Pm
section
variable {Pg : Prg} {k : Nat} {m : Mem} {Q : D × Mem → Prop} {cal : Cal} {ρ : Env}
def kindsOf (f : Fu) (bh : Bool) : List Kn := f.ps.map (·.2) ++ (if bh then [f.k] else [])
def snd2 : PyData → Option PyData
  | .tuple [_, q] => some q
  | _ => none
theorem parKinds (l : List (Str × Kn)) : (l.map parP).filterMap snd2 = (l.map (·.2)).map fun k => PyData.str k.s := by
  rw [List.filterMap_map]
  have : (snd2 ∘ parP) = fun q : Str × Kn => some (PyData.str q.2.s) := by funext q; rfl
  rw [this, List.filterMap_eq_map', List.map_map]; rfl
theorem f_kinds_at (h : Has Pg "kinds_at" Cm.kinds_at_d) {d : D} {P : Pr} {i : Nat} {f : Fu} {sd : String} (hd : PrR d P) (hi : P[i]? = some f) (hl : f.ps.length ≤ 1000) : W (callN Pg (k + 1) "kinds_at" [d, .int i, .str (Str.ofString sd)] m) fun r => ∃ rs, r = (.nd true .lst rs, m) ∧ Reps rs ((kindsOf f (decide (sd = "behind"))).map fun k => .str k.s) ∧ ows rs = true := by
  rw [W_callN h]
  obtain ⟨o1, b1, ds, rfl, hf⟩ := hd
  obtain ⟨e, he, hfr⟩ := hf.getP hi
  obtain ⟨o2, b2, o3, ds1, dt, rfl, r1, r2⟩ := hfr
  have l1 : ds1.length = f.ps.length := by simpa using r1.length
  simp [Cm.kinds_at_b, out, atI_nat, he]
  refine (W_lcSt (acc := []) snd2 r1 (fun d p hp hr => ?_) (by simp only [List.length_nil, Nat.zero_add]; rw [l1]; exact Nat.le_trans hl (by decide))).mono fun r ⟨rs, er, hr, how⟩ => ?_
  · obtain ⟨q, hq, rfl⟩ := List.mem_map.mp hp
    unfold parP at hr ⊢
    obtain ⟨o5, b5, e1, e2, rfl, q1, q2⟩ := hr.t2
    rw [Rep_str] at q1 q2
    subst q1 q2
    simp [Put, wipe, ow, snd2]
  · subst er
    rw [parKinds] at hr
    have lr : rs.length = f.ps.length := by simpa using hr.length
    have a1 : rs.length + 1 ≤ most := Nat.le_trans (show rs.length + 1 ≤ 1001 by omega) (by decide)
    have a0 : rs.length ≤ most := Nat.le_trans (show rs.length ≤ 1001 by omega) (by decide)
    by_cases hb : sd = "behind"
    · subst hb
      simp [W_addL (xs := rs) (ys := [D.str f.k.s]) a1]
      refine ⟨?_, by simp [ows_app, how, ows, ow]⟩
      simp only [kindsOf, if_true, List.map_append]
      exact hr.append (by simp)
    · simp [hb, W_addL (xs := rs) (ys := []) (by simpa using a0)]
      simp only [kindsOf, Bool.false_eq_true, if_false, List.append_nil]
      exact ⟨hr, how⟩
/-! ### sorting -/
theorem pys_map : ∀ ds : List D, pys ds = ds.map py
  | [] => by simp [pys]
  | d :: ds => by simp [pys, pys_map ds]
theorem dats_all : ∀ ds : List D, dats ds = ds.all dat
  | [] => by simp [dats]
  | d :: ds => by simp [dats, dats_all ds]
theorem ows_all : ∀ ds : List D, ows ds = ds.all ow
  | [] => by simp [ows]
  | d :: ds => by simp [ows, ows_all ds]
/-- these can be sorted -/
structure SortP (ps : List PyData) : Prop where
  tup : ∀ p ∈ ps, ∃ x xs, p = .tuple (x :: xs) ∧ p.depth ≤ 64
  alike : ∀ p ∈ ps, ∀ q ∈ ps, W.alike p q = true
theorem alikes_of : ∀ {ds : List D}, (∀ d ∈ ds, ∀ e ∈ ds, W.alike (py d) (py e) = true) → alikes ds = true
  | [], _ => rfl
  | d :: ds, h => by
    unfold alikes
    simp only [Bool.and_eq_true, List.all_eq_true]
    refine ⟨⟨fun e he => ⟨h d (List.mem_cons_self ..) e (List.mem_cons_of_mem _ he), h e (List.mem_cons_of_mem _ he) d (List.mem_cons_self ..)⟩, h d (List.mem_cons_self ..) d (List.mem_cons_self ..)⟩, ?_⟩
    exact alikes_of fun a ha b hb => h a (List.mem_cons_of_mem _ ha) b (List.mem_cons_of_mem _ hb)
theorem sortable_of {ds : List D} {ps : List PyData} (h : Reps ds ps) (hp : SortP ps) : sortable ds = true := by
  obtain ⟨h1, h2⟩ := h
  rw [pys_map] at h2
  have hm : ∀ d ∈ ds, py d ∈ ps := fun d hd => by rw [← h2]; exact List.mem_map.mpr ⟨d, hd, rfl⟩
  unfold sortable
  simp only [Bool.and_eq_true, Bool.or_eq_true]
  refine ⟨⟨⟨by rw [← dats_all]; exact h1, alikes_of fun d hd e he => hp.alike _ (hm d hd) _ (hm e he)⟩, .inl ?_⟩, ?_⟩
  · rw [List.all_eq_true]
    intro d hd
    obtain ⟨x, xs, e, _⟩ := hp.tup _ (hm d hd)
    rw [e]
  · rw [List.all_eq_true]
    intro d hd
    obtain ⟨x, xs, e, hh⟩ := hp.tup _ (hm d hd)
    exact decide_eq_true hh
theorem sort_reps {ds : List D} {ps : List PyData} (h : Reps ds ps) : Reps (ds.mergeSort leD) (ps.mergeSort leP) := by
  obtain ⟨h1, h2⟩ := h
  refine ⟨?_, ?_⟩
  · rw [dats_all, List.all_eq_true] at h1 ⊢
    intro d hd
    exact h1 d (List.mem_mergeSort.mp hd)
  · rw [pys_map] at h2 ⊢
    rw [← h2]
    exact List.map_mergeSort (r := leD) (s := leP) (f := py) fun a _ b _ => rfl
theorem sort_ows {ds : List D} (h : ows ds = true) : ows (ds.mergeSort leD) = true := by
  rw [ows_all, List.all_eq_true] at h ⊢
  intro d hd
  exact h d (List.mem_mergeSort.mp hd)
theorem W_sorted {o fr : Bool} {ds : List D} {ps : List PyData} (h : Reps ds ps) (hp : SortP ps) (ho : ows ds = true) (q : ∀ rs, Reps rs (ps.mergeSort leP) → ows rs = true → Q (fin fr .lst rs m)) : W (bi .sorted fr m [.nd o .lst ds]) Q := by
  have e : bi .sorted fr m [.nd o .lst ds] = .ok (fin fr .lst (ds.mergeSort leD) m) := by
    simp only [bi, asN, biSorted, view, nrm, sortable_of h hp, if_true, R.bind]
  rw [e, W_ok]
  exact q _ (sort_reps h) (sort_ows ho)
/-! ### comprehensions of more clauses -/
/-- a turn of an inner clause -/
def gT (cal : Cal) (t : T) (own : List Nat) (ifs : List E) (g : G) (kf : Env → Acc → Mem → R (Acc × Mem)) (ρ : Env) : D → Acc → Mem → R (Acc × Mem) := fun d a m => (asgn cal t d (wipe ρ own) m).bind fun r => (evIfs cal ifs r.1 r.2).bind fun b =>
      if b.1 then evG cal g kf r.1 a b.2 else .ok (a, b.2)
@[simp] theorem W_evG {t : T} {own : List Nat} {it : I} {ifs : List E} {g : G} {kf : Env → Acc → Mem → R (Acc × Mem)} {a : Acc} {P : Acc × Mem → Prop} : W (evG cal (.cons t own it ifs g) kf ρ a m) P ↔ W (evI cal it ρ m) fun s => W (goSrc (gT cal t own ifs g kf ρ) s.1 a s.2) P := by
  conv => lhs; unfold evG
  rw [W_bind]
  rfl
@[simp] theorem W_evG0 {kf : Env → Acc → Mem → R (Acc × Mem)} {a : Acc} {P : Acc × Mem → Prop} : W (evG cal .nil kf ρ a m) P ↔ W (kf ρ a m) P := by
  conv => lhs; unfold evG
@[simp] theorem W_gT {t : T} {own : List Nat} {ifs : List E} {g : G} {kf : Env → Acc → Mem → R (Acc × Mem)} {a : Acc} {d : D} {P : Acc × Mem → Prop} : W (gT cal t own ifs g kf ρ d a m) P ↔ W (asgn cal t d (wipe ρ own) m) fun r => W (evIfs cal ifs r.1 r.2) fun b => Br b.1 (W (evG cal g kf r.1 a b.2) P) (P (a, b.2)) := by
  unfold gT
  rw [W_bind]
  constructor
  · intro h; refine h.mono fun r hr => ?_
    rw [W_bind] at hr
    refine hr.mono fun b hb => ?_
    rw [W_if] at hb
    exact Br.mk hb.1 fun q => W_ok.mp (hb.2 q)
  · intro h; refine h.mono fun r hr => ?_
    rw [W_bind]
    refine hr.mono fun b hb => ?_
    rw [W_if]
    exact Br.mk hb.1 fun q => W_ok.mpr (hb.2 q)
@[simp] theorem W_lcT {t : T} {own : List Nat} {e : E} {ifs : List E} {g : G} {a : Acc} {d : D} {P : Acc × Mem → Prop} : W (lcT cal e own t ifs g ρ d a m) P ↔ W (asgn cal t d (wipe ρ own) m) fun r => W (evIfs cal ifs r.1 r.2) fun b => Br b.1 (W (evG cal g (fun ρ acc m => (evE cal e ρ m).bind fun x => (putL acc x.1).bind fun acc => .ok (acc, x.2)) r.1 a b.2) P) (P (a, b.2)) := W_gT
theorem W_goFlat {f : D → Acc → Mem → R (Acc × Mem)} (g : PyData → List PyData) (B : Nat) : ∀ {ps : List PyData} {ds acc : List D}, Reps ds ps → ows ds = true → (∀ d p acc, p ∈ ps → Rep d p → ow d = true → acc.length + (g p).length ≤ B → W (f d (.lst, acc) m) fun r => ∃ rs, r = ((.lst, acc ++ rs), m) ∧ Reps rs (g p) ∧ ows rs = true) → acc.length + (ps.flatMap g).length ≤ B →
    W (goSt f ds (.lst, acc) m) fun r => ∃ rs, r = ((.lst, acc ++ rs), m) ∧ Reps rs (ps.flatMap g) ∧ ows rs = true := by
  intro ps
  induction ps with
  | nil =>
    intro ds acc h _ _ _
    rw [Reps_nil] at h
    subst h
    unfold goSt
    rw [W_ok]
    exact ⟨[], by simp, by simp, by simp [ows]⟩
  | cons p ps ih =>
    intro ds acc h ho hs hl
    obtain ⟨d, es, rfl, h1, h2⟩ := Reps_cons.mp h
    simp [ows] at ho
    unfold goSt
    rw [W_bind]
    rw [List.flatMap_cons, List.length_append] at hl
    refine (hs d p acc (List.mem_cons_self ..) h1 ho.1 (by omega)).mono fun r ⟨rs, e, r1, r2⟩ => ?_
    subst e
    have hrl := r1.length
    refine (ih (acc := acc ++ rs) h2 ho.2 (fun d p acc hp => hs d p acc (List.mem_cons_of_mem _ hp)) (by rw [List.length_append]; omega)).mono fun r ⟨rs2, e, r3, r4⟩ => ?_
    exact ⟨rs ++ rs2, by rw [e]; simp, by rw [List.flatMap_cons]; exact r1.append r3, by simp [ows_app, r2, r4]⟩
end
end Mi
end
section
set_option linter.all false
set_option Elab.async false
set_option maxRecDepth 100000
set_option maxHeartbeats 4000000
/-! Mp12: lattices, theirs and the laws'. -/
namespace Mi
open PySem Pm
theorem claimsP_sort {sl : List PyData} (h : ∀ p ∈ sl, IsSlot p) (ns : List Int) : SortP (claimsP sl ns) := by
  have key : ∀ p ∈ claimsP sl ns, ∃ a b n, p = .tuple [a, b, .int n] ∧ IsSlot a ∧ IsSlot b := by
    intro p hp
    unfold claimsP at hp
    simp only [List.mem_flatMap] at hp
    obtain ⟨a, ha, b, hb, hp⟩ := hp
    split at hp
    · cases hp
    · obtain ⟨n, _, rfl⟩ := List.mem_map.mp hp
      exact ⟨a, b, n, rfl, h a ha, h b hb⟩
  refine ⟨fun p hp => ?_, fun p hp q hq => ?_⟩
  · obtain ⟨a, b, n, rfl, ha, hb⟩ := key p hp
    refine ⟨_, _, rfl, ?_⟩
    cases ha <;> cases hb <;> simp [PyData.depth, PyData.depthAll]
  · obtain ⟨a, b, n, rfl, ha, hb⟩ := key p hp
    obtain ⟨a', b', n', rfl, ha', hb'⟩ := key q hq
    simp [W.alike, W.alikeAll, ha.alike ha', hb.alike hb']
theorem flat_le {α β : Type} (f : α → List β) (c : Nat) : ∀ (l : List α), (∀ a ∈ l, (f a).length ≤ c) → (l.flatMap f).length ≤ l.length * c
  | [], _ => by simp
  | a :: l, h => by
    have h1 := h a (List.mem_cons_self ..)
    have h2 := flat_le f c l fun b hb => h b (List.mem_cons_of_mem _ hb)
    rw [List.flatMap_cons, List.length_append, List.length_cons, Nat.add_mul]
    omega
theorem map_flat {α β : Type} (f : α → β) : ∀ l : List α, l.map f = l.flatMap fun a => [f a]
  | [] => rfl
  | a :: l => by simp [List.flatMap_cons, map_flat f l]
theorem claimsP_len {sl : List PyData} {ns : List Int} (h1 : sl.length ≤ 11) (h2 : ns.length ≤ 1000) : (claimsP sl ns).length ≤ 121000 := by
  unfold claimsP
  have in1 : ∀ a, (sl.flatMap fun b => if PyData.eqv a b then [] else ns.map fun n => PyData.tuple [a, b, .int n]).length ≤ 11000 := fun a => by
    refine Nat.le_trans (flat_le _ 1000 sl fun b _ => ?_) (Nat.mul_le_mul_right 1000 h1)
    split
    · simp
    · simpa using h2
  exact Nat.le_trans (flat_le _ 11000 sl fun a _ => in1 a) (Nat.mul_le_mul_right 11000 h1)
theorem slotsP_len {ks : List Kn} (h : ks.length ≤ 5) : (slotsP ks).length ≤ 11 := by
  have := slotsAt_len ks 0
  unfold slotsP
  rw [List.length_cons]
  omega
theorem kindsOf_len {f : Fu} {b : Bool} (h : f.ps.length ≤ 4) : (kindsOf f b).length ≤ 5 := by
  unfold kindsOf
  cases b <;> simp <;> omega
section
variable {Pg : Prg} {k : Nat} {m : Mem} {Q : D × Mem → Prop} {cal : Cal} {ρ : Env}
/-- numbers put behind two slots -/
theorem W_numsT {a b : D} {p q : PyData} {ρ0 : Env} {ds : List D} {ns : List Int} {e : E} {own : List Nat} (i5 i6 i7 : Nat) (ha : Rep a p) (hb : Rep b q) (oa : ow a = true) (ob : ow b = true) (hr : Reps ds (ns.map PyData.int)) (B : Nat) (hB : B ≤ 200000) {acc : List D} (hl : acc.length + ns.length ≤ B)
    {f : D → Acc → Mem → R (Acc × Mem)} (hf : ∀ (n : Int) (acc : Acc) (P : Acc × Mem → Prop), W (f (.int n) acc m) P ↔ W (putL acc (T' true true [a, b, .int n])) fun acc => W (R.ok (acc, m)) P) :
    W (goSt f ds (.lst, acc) m) fun r => ∃ rs, r = ((.lst, acc ++ rs), m) ∧ Reps rs (ns.map fun n => .tuple [p, q, .int n]) ∧ ows rs = true := by
  have ho : ows ds = true := by
    clear hf hl
    induction ns generalizing ds with
    | nil => rw [List.map_nil, Reps_nil] at hr; subst hr; simp [ows]
    | cons n ns ih =>
      rw [List.map_cons] at hr
      obtain ⟨d, es, rfl, h1, h2⟩ := Reps_cons.mp hr
      rw [Rep_int] at h1
      subst h1
      simp [ows, ow, ih h2]
  have hB2 : B ≤ most := Nat.le_trans hB (by decide)
  have e1 : (ns.map fun n => PyData.tuple [p, q, .int n]) = (ns.map PyData.int).flatMap fun z => [.tuple [p, q, z]] := by
    rw [List.flatMap_map, map_flat]
  have e2 : ((ns.map PyData.int).flatMap fun z => [PyData.tuple [p, q, z]]).length = ns.length := by rw [← e1, List.length_map]
  rw [e1]
  refine W_goFlat (fun z => [.tuple [p, q, z]]) B hr ho (fun d z acc hz hd od hl => ?_) (by rw [e2]; exact hl)
  obtain ⟨n, _, rfl⟩ := List.mem_map.mp hz
  rw [Rep_int] at hd
  subst hd
  rw [hf]
  have : acc.length < most := by simp at hl; omega
  simp only [putL, this, if_true, W_ok]
  exact ⟨[T' true true [a, b, .int n]], rfl, by simp [ha, hb], by simp [ows, ow, oa, ob]⟩
theorem slot_ne {a b : D} {p q : PyData} (ha : Rep a p) (hb : Rep b q) (sa : IsSlot p) (sb : IsSlot q) {P : Bool → Prop} : W (cmpB .ne m a b) P ↔ P (!PyData.eqv p q) := W_ne ha hb sa.shaped sb.shaped
theorem f_lattice (h : LatP Pg) {d nd : D} {P : Pr} {i : Nat} {f : Fu} {sd : String} {ns : List Int} (hd : PrR d P) (hi : P[i]? = some f) (hl : f.ps.length ≤ 4) (hn : Rep nd (.tuple (ns.map PyData.int))) (hnl : ns.length ≤ 1000) :
    W (callN Pg (k + 2) "lattice" [d, .int i, .str (Str.ofString sd), nd] m) fun r => ∃ ds, r = (.loc m.length, m ++ [⟨.lst, ds⟩]) ∧ Reps ds (latP (kindsOf f (decide (sd = "behind"))) ns) ∧ ows ds = true := by
  rw [W_callN h.lattice]
  have hdl := hd.rep.lf
  simp [Cm.lattice_b, out, lfs, lf, hdl, W_pc]
  refine (f_kinds_at h.kinds_at hd hi (by omega)).mono fun r ⟨rs, e, hr, ho⟩ => ?_
  subst e
  have f1 := frz_ow (d := .nd true .lst rs) (m := []) 4 (by simpa [ow] using ho)
  simp [f1, lfs, lf, lfs_of_ows ho, W_pc]
  refine (f_slots_of h.slots_of (Rep_list.mpr ⟨_, _, rfl, hr⟩) (by have := kindsOf_len (b := decide (sd = "behind")) hl; omega)).mono fun r ⟨ss, e, hs, hso⟩ => ?_
  subst e
  obtain ⟨o3, b3, nds, rfl, hnr⟩ := Rep_tuple.mp hn
  have f2 := frz_loc (m := [⟨.lst, ss⟩]) (n := 0) (j := 3) rfl hso
  simp [f2]
  generalize hK : kindsOf f (decide (sd = "behind")) = ks at *
  have hkl : ks.length ≤ 5 := by rw [← hK]; exact kindsOf_len hl
  have hcl : (claimsP (slotsP ks) ns).length ≤ 121000 := claimsP_len (slotsP_len hkl) hnl
  have main := W_goFlat (m := m) (f := lcT (callN Pg (k + 1)) (.tup [(.var 5), (.var 6), (.var 7)]) [5, 6, 7] (.var 5) [] (.cons (.var 6) [6, 7] (.seq (.var 4)) [(.cmp .ne (.var 5) (.var 6))] (.cons (.var 7) [7] (.seq (.var 3)) [] .nil)) [some d, some (.int i), some (.str (Str.ofString sd)), some (T' o3 b3 nds), some (.nd true .lst ss), none, none, none])
    (fun a => (slotsP ks).flatMap fun b => if PyData.eqv a b then [] else ns.map fun n => .tuple [a, b, .int n]) 121000 (acc := []) hs hso (fun da a acc hma hra hoa hal => ?_) (by rw [List.length_nil, Nat.zero_add]; exact hcl)
  · refine main.mono fun r ⟨rs, e, hr, ho⟩ => ?_
    subst e
    simp
    refine W_sorted (o := true) hr (claimsP_sort (fun p hp => slotsP_is hp) ns) ho fun rs hr ho => ?_
    simp
    exact ⟨hr, ho⟩
  · simp [wipe]
    refine W_goFlat _ 121000 hs hso (fun db b acc hmb hrb hob hbl => ?_) hal
    simp [wipe, slot_ne hra hrb (slotsP_is hma) (slotsP_is hmb)]
    cases he : PyData.eqv a b with
    | true =>
      simp only [Bool.not_true, Br_f, if_true]
      exact ⟨[], by simp, by simp, by simp [ows]⟩
    | false =>
      rw [he] at hbl
      simp only [Bool.not_false, Br_t, Bool.false_eq_true, if_false]
      simp
      refine W_numsT 5 6 7 hra hrb hoa hob (e := .var 0) (own := []) (ρ0 := []) hnr 121000 (by decide) (by simpa using hbl) (fun n acc P => ?_)
      simp [wipe]
/-- numbers of a lattice -/
def okNums (ns : List Int) : Bool := decide (1 ≤ ns.length ∧ ns.length ≤ 5) && (ns.all (fun n => decide (-9 ≤ n ∧ n ≤ 9)) && decide (ns.Pairwise (· < ·)))
theorem f_need_numbers (h : Has Pg "need_numbers" Cm.need_numbers_d) (h1 : Has Pg "is_whole" Cm.is_whole_d) {d : D} {ns : List Int} (hd : Rep d (.tuple (ns.map PyData.int))) (hn : okNums ns = true) : W (callN Pg (k + 2) "need_numbers" [d] m) fun r => r = (.non, m) := by
  rw [W_callN h]
  unfold okNums at hn
  simp only [Bool.and_eq_true, decide_eq_true_eq] at hn
  obtain ⟨⟨n1, n2⟩, n3, n4⟩ := hn
  obtain ⟨o, b, ds, rfl, hr⟩ := Rep_tuple.mp hd
  have hl : ds.length = ns.length := by simpa using hr.length
  have a1 : (1 : Int) ≤ ds.length := by omega
  have a2 : (ds.length : Int) ≤ 5 := by omega
  simp [Cm.need_numbers_b, out, a1, a2]
  refine W_lcNone hr (fun d p hp hr => ?_) (by rw [hl]; exact Nat.le_trans n2 (by decide)) ?_
  · obtain ⟨n, hn, rfl⟩ := List.mem_map.mp hp
    rw [Rep_int] at hr
    subst hr
    have := List.all_eq_true.mp n3 n hn
    simp at this
    simp [Put, wipe, lfs, lf, W_pc, f_is_whole h1, this.1, this.2]
  · have hsm : small (ds.length : Int) = true := small_nat (by omega)
    have hs1 : small 1 = true := by decide
    simp [W_neNil, hsm, hs1]
    refine W_lcNone rngD_reps2 (fun d p hp hr2 => ?_) (by rw [rngD_len]; exact Nat.le_trans (show ((ds.length : Int) - 1).toNat ≤ 5 by omega) (by decide)) ?_
    · obtain ⟨i, hi, rfl⟩ := List.mem_map.mp hp
      rw [Rep_int] at hr2
      subst hr2
      simp at hi
      have i1 : i + 1 < ns.length := by omega
      have i0 : i < ns.length := by omega
      obtain ⟨d1, g1, g2⟩ := hr.getP (i := i + 1) (p := .int ns[i + 1]) (by simp [i1])
      obtain ⟨d0, g3, g4⟩ := hr.getP (i := i) (p := .int ns[i]) (by simp [i0])
      rw [Rep_int] at g2 g4
      subst g2 g4
      have lt : ns[i] < ns[i + 1] := List.pairwise_iff_getElem.mp n4 i (i + 1) i0 i1 (by omega)
      have e1 : L2.atI ds (1 + (i : Int)) = some (.int ns[i + 1]) := by rw [show (1 + (i : Int)) = ((i + 1 : Nat) : Int) from by omega, atI_nat, g1]
      have e2 : L2.atI ds (i : Int) = some (.int ns[i]) := by rw [atI_nat, g3]
      have e3 : ¬ ns[i + 1] ≤ ns[i] := by omega
      simp [Put, wipe, e1, e3, show (1 : Int) + i - 1 = i from by omega, e2]
    · simp [W_neNil]
structure CandP (Pg : Prg) : Prop extends TreesP Pg, LatP Pg where
  need_numbers : Has Pg "need_numbers" Cm.need_numbers_d
  candidates : Has Pg "candidates" Cm.candidates_d
theorem f_candidates (h : CandP Pg) {d nd : D} {P : Pr} {i : Nat} {f : Fu} {ns : List Int} (hd : PrR d P) (hs : SeqAt.shaped (Pr.p P) = true) (hP : okPr P = true) (hi : P[i]? = some f) (hn : Rep nd (.tuple (ns.map PyData.int))) (hno : okNums ns = true) :
    W (callN Pg (k + 28) "candidates" [d, .int i, nd] m) fun r => ∃ ds es, r = (T' true true [.loc m.length, .loc (m.length + 1)], m ++ [⟨.lst, ds⟩, ⟨.lst, es⟩]) ∧ Reps ds (latP (kindsOf f false) ns) ∧ ows ds = true ∧ Reps es (latP (kindsOf f true) ns) ∧ ows es = true := by
  rw [show k + 28 = (k + 27) + 1 from rfl, W_callN h.candidates]
  have hdl := hd.rep.lf
  have hil : i < P.length := (List.getElem?_eq_some_iff.mp hi).1
  have hfl : f.ps.length ≤ 4 := by
    unfold okPr at hP
    simp only [Bool.and_eq_true] at hP
    have := List.all_eq_true.mp hP.2 f (List.mem_of_getElem? hi)
    unfold okFu okHd at this
    simp only [Bool.and_eq_true, decide_eq_true_eq] at this
    exact this.1.1
  have hnl : ns.length ≤ 1000 := by
    unfold okNums at hno
    simp only [Bool.and_eq_true, decide_eq_true_eq] at hno
    omega
  simp [Cm.candidates_b, out, lfs, lf, hdl, W_pc]
  refine (f_need_program (k := k) h.toTreesP hd hs hP).mono fun r e => ?_
  obtain ⟨r1, r2⟩ := r
  have e : r1 = .non := e
  subst e
  obtain ⟨o, b, ds, rfl, hf⟩ := id hd
  have hlen := hf.length
  have c1 : (0 : Int) ≤ i := by omega
  have c2 : (i : Int) ≤ (ds.length : Int) - 1 := by omega
  simp [lfs, lf, W_pc, f_is_whole h.is_whole, c1, c2, hn.lf]
  rw [W.iff (f_need_numbers (k := k + 25) h.need_numbers h.is_whole hn hno)]
  simp
  refine (f_lattice (k := k + 25) (sd := "ahead") h.toLatP hd hi hfl hn hnl).mono fun r ⟨ds1, e, h1, h2⟩ => ?_
  subst e
  simp
  refine (f_lattice (k := k + 25) (sd := "behind") h.toLatP hd hi hfl hn hnl).mono fun r ⟨ds2, e, h3, h4⟩ => ?_
  subst e
  simp at h1 h3
  simp
  exact ⟨ds1, ds2, ⟨rfl, rfl⟩, h1, h2, h3, h4⟩
end
end Mi
end
section
set_option linter.all false
set_option Elab.async false
set_option maxRecDepth 100000
set_option maxHeartbeats 4000000
/-! Mp13: lattices, the laws' own. -/
namespace Mi
open PySem Pm
theorem take_succ {α : Type} {l : List α} {i : Nat} {a : α} (h : l[i]? = some a) : l.take (i + 1) = l.take i ++ [a] := by rw [List.take_add_one, h]; rfl
theorem flat_take {α β : Type} {l : List α} {i : Nat} {a : α} (f : α → List β) (h : l[i]? = some a) : (l.take (i + 1)).flatMap f = (l.take i).flatMap f ++ f a := by rw [take_succ h]; simp
theorem flat_take_le {α β : Type} (l : List α) (f : α → List β) (i : Nat) : ((l.take i).flatMap f).length ≤ (l.flatMap f).length := by
  conv => rhs; rw [← List.take_append_drop i l]
  simp only [List.flatMap_append, List.length_append]
  omega
section
variable {Pg : Prg} {k : Nat} {m : Mem} {Q : D × Mem → Prop} {cal : Cal} {ρ : Env}
theorem f_law_slots (h : Has Pg "_law_slots" Cm._law_slots_d) {d : D} {ks : List Kn} (hd : Rep d (.list (ks.map fun k => .str k.s))) (hl : ks.length ≤ 1000) : W (callN Pg (k + 1) "_law_slots" [d] m) fun r => ∃ ds, r = (.nd true .lst ds, m) ∧ Reps ds (slotsP ks) ∧ ows ds = true := by
  rw [W_callN h]
  obtain ⟨o, kd, rfl, h1⟩ := Rep_list.mp hd
  have hkl : kd.length = ks.length := by simpa using h1.length
  have hsm : small (kd.length : Int) = true := small_nat (by omega)
  simp [Cm._law_slots_b, out, hsm]
  refine W_forS (fun j ρ m' => ∃ x ds, ρ = [some (.nd o .lst kd), some (.nd true .lst ds), x] ∧ m' = m ∧ Reps ds (.tuple [] :: slotsAt 0 (ks.take j)) ∧ ows ds = true) (rngD 0 kd.length) _ _
    ⟨_, _, rfl, rfl, by simp [slotsAt], by simp [ows]⟩ (fun i d ρ m' hi ⟨x, ds, hρ, hm, hr, ho⟩ => ?_) (fun ρ m' ⟨x, ds, hρ, hm, hr, ho⟩ => ?_)
  · subst hρ hm
    obtain ⟨p, hp, hpr⟩ := rngD_reps.get hi
    have hil : i < ks.length := by
      have := (List.getElem?_eq_some_iff.mp hi).1
      rw [rngD_len] at this
      omega
    have : p = .int i := by
      rw [List.getElem?_map] at hp
      rw [List.getElem?_range (by omega)] at hp
      cases hp; rfl
    subst this
    rw [Rep_int] at hpr
    subst hpr
    have hk : ks[i]? = some ks[i] := List.getElem?_eq_getElem hil
    obtain ⟨e, he, hee⟩ := h1.getP (i := i) (p := .str ks[i].s) (by simp [hil])
    rw [Rep_str] at hee
    subst hee
    generalize ks[i] = kn at *
    have hll : ds.length ≤ 2001 := by
      rw [hr.length]
      have := slotsAt_len (ks.take i) 0
      simp at this ⊢
      omega
    have e1 : ds.length + 1 ≤ most := Nat.le_trans (show ds.length + 1 ≤ 3000 by omega) (by decide)
    have e2 : ds.length + 2 ≤ most := Nat.le_trans (show ds.length + 2 ≤ 3000 by omega) (by decide)
    have htk : slotsAt 0 (ks.take (i + 1)) = slotsAt 0 (ks.take i) ++ slotsAt i [kn] := by rw [take_succ hk, slotsAt_app, show (0 + (ks.take i).length) = i from by simp; omega]
    cases kn with
    | nu =>
      simp [Cm._law_slots_b0, Kn.s, atI_nat, he, W_addL (xs := ds) (ys := [T' true true [D.str (Str.ofString "of"), D.int i]]) e1]
      refine .in ⟨_, _, rfl, rfl, ?_, by simp [ows_app, ho, ows, ow]⟩
      rw [htk, ← List.cons_append]
      exact hr.append (by simp [slotsAt])
    | li =>
      simp [Cm._law_slots_b0, Kn.s, atI_nat, he, W_addL (xs := ds) (ys := [T' true true [D.str (Str.ofString "len"), D.int i], T' true true [D.str (Str.ofString "each"), D.int i]]) e2]
      refine .in ⟨_, _, rfl, rfl, ?_, by simp [ows_app, ho, ows, ow]⟩
      rw [htk, ← List.cons_append]
      exact hr.append (by simp [slotsAt])
  · subst hρ hm
    rw [rngD_len, show ((kd.length : Int) - 0).toNat = ks.length from by omega, List.take_length] at hr
    simp
    exact ⟨hr, ho⟩
theorem f_law_lattice (h : Has Pg "_law_slots" Cm._law_slots_d) (h2 : Has Pg "_law_lattice" Cm._law_lattice_d) {d nd : D} {ks : List Kn} {ns : List Int} (hd : Rep d (.list (ks.map fun k => .str k.s))) (hl : ks.length ≤ 5) (hn : Rep nd (.tuple (ns.map PyData.int)) ∨ Rep nd (.list (ns.map PyData.int))) (hnl : ns.length ≤ 1000) :
    W (callN Pg (k + 2) "_law_lattice" [d, nd] m) fun r => ∃ ds, r = (.nd true .lst ds, m) ∧ Reps ds (latP ks ns) ∧ ows ds = true := by
  rw [W_callN h2]
  obtain ⟨nds, hnr, hns⟩ : ∃ nds, Reps nds (ns.map PyData.int) ∧ ∀ m, srcOf m nd = .ok (.st nds) := by
    rcases hn with hn | hn
    · obtain ⟨o, b, ds, rfl, h⟩ := Rep_tuple.mp hn
      exact ⟨ds, h, fun m => src_T'⟩
    · obtain ⟨o, ds, rfl, h⟩ := Rep_list.mp hn
      exact ⟨ds, h, fun m => src_L⟩
  simp [Cm._law_lattice_b, out, lfs, hd.lf, W_pc]
  refine (f_law_slots (k := k) h hd (by omega)).mono fun r ⟨ss, e, hs, hso⟩ => ?_
  subst e
  have f1 := frz_ow (d := .nd true .lst ss) (m := []) 4 (by simpa [ow] using hso)
  have hcl : (claimsP (slotsP ks) ns).length ≤ 121000 := claimsP_len (slotsP_len hl) hnl
  simp [f1]
  let g1 : PyData → List PyData := fun a => (slotsP ks).flatMap fun b => if PyData.eqv a b then [] else ns.map fun n => .tuple [a, b, .int n]
  let g2 : PyData → PyData → List PyData := fun a b => if PyData.eqv a b then [] else ns.map fun n => .tuple [a, b, .int n]
  refine W_forS (fun j ρ m' => ∃ x y z ds, ρ = [some d, some nd, some (.nd true .lst ss), some (.nd true .lst ds), x, y, z] ∧ m' = m ∧ Reps ds (((slotsP ks).take j).flatMap g1) ∧ ows ds = true) ss _ _
    ⟨_, _, _, _, rfl, rfl, by simp, by simp [ows]⟩ (fun i da ρ m' hi ⟨x, y, z, ds, hρ, hm, hr, ho⟩ => ?_) (fun ρ m' ⟨x, y, z, ds, hρ, hm, hr, ho⟩ => ?_)
  · subst hρ hm
    obtain ⟨a, ha, hra⟩ := hs.get hi
    have hoa := ows_get hso hi
    have hma := List.mem_of_getElem? ha
    simp [Cm._law_lattice_b1]
    refine W_forS (fun j ρ m2 => ∃ y z ds, ρ = [some d, some nd, some (.nd true .lst ss), some (.nd true .lst ds), some da, y, z] ∧ m' = m2 ∧ Reps ds (((slotsP ks).take i).flatMap g1 ++ ((slotsP ks).take j).flatMap (g2 a)) ∧ ows ds = true) ss _ _
      ⟨_, _, _, rfl, rfl, by simpa using hr, ho⟩ (fun i2 db ρ m' hi2 ⟨y, z, ds, hρ, hm, hr, ho⟩ => ?_) (fun ρ m' ⟨y, z, ds, hρ, hm, hr, ho⟩ => ?_)
    · subst hρ
      subst hm
      obtain ⟨b, hb, hrb⟩ := hs.get hi2
      have hob := ows_get hso hi2
      have hmb := List.mem_of_getElem? hb
      have hb1 : ds.length + (g2 a b).length ≤ 121000 := by
        rw [hr.length, List.length_append]
        have q1 := flat_take_le (slotsP ks) (g2 a) (i2 + 1)
        rw [flat_take (g2 a) hb, List.length_append] at q1
        have q2 := flat_take_le (slotsP ks) g1 (i + 1)
        rw [flat_take g1 ha, List.length_append] at q2
        have q3 : ((slotsP ks).flatMap (g2 a)).length = (g1 a).length := rfl
        have q4 : ((slotsP ks).flatMap g1).length = (claimsP (slotsP ks) ns).length := rfl
        omega
      simp [Cm._law_lattice_b0, hns]
      have hput : W (goSt (lcT (callN Pg (k + 1)) (.tup [(.var 4), (.var 5), (.var 6)]) [6] (.var 6) [(.cmp .ne (.var 4) (.var 5))] .nil [some d, some nd, some (.nd true .lst ss), some (.nd true .lst ds), some da, some db, z]) nds (.lst, []) m') fun r => ∃ rs, r = ((.lst, [] ++ rs), m') ∧ Reps rs (g2 a b) ∧ ows rs = true := by
        cases he : PyData.eqv a b with
        | true =>
          have e0 : g2 a b = [] := by simp only [g2, he, if_true]
          rw [e0]
          refine W_lcNone hnr (fun d p hp hr => ?_) (by rw [hnr.length, List.length_map]; exact Nat.le_trans hnl (by decide)) ⟨[], by simp, by simp, by simp [ows]⟩
          simp [Put, wipe, slot_ne hra hrb (slotsP_is hma) (slotsP_is hmb), he]
        | false =>
          have e0 : g2 a b = ns.map fun n => .tuple [a, b, .int n] := by simp only [g2, he, Bool.false_eq_true, if_false]
          rw [e0]
          refine W_numsT 5 6 7 hra hrb hoa hob (e := .var 0) (own := []) (ρ0 := []) hnr 121000 (by decide) (by simp; omega) (fun n acc P => ?_)
          simp [wipe, slot_ne hra hrb (slotsP_is hma) (slotsP_is hmb), he]
      refine hput.mono fun r ⟨rs, e, hrs, hors⟩ => ?_
      subst e
      have hbm : ds.length + rs.length ≤ most := by
        rw [hrs.length]
        exact Nat.le_trans hb1 (by decide)
      simp [W_addL (xs := ds) (ys := rs) hbm]
      refine .in ⟨_, _, _, rfl, rfl, ?_, by simp [ows_app, ho, hors]⟩
      rw [flat_take (g2 a) hb, ← List.append_assoc]
      exact hr.append hrs
    · subst hρ hm
      rw [hs.length, List.take_length] at hr
      simp
      refine .in ⟨_, _, _, _, rfl, rfl, ?_, ho⟩
      rw [flat_take g1 ha]
      exact hr
  · subst hρ hm
    rw [hs.length, List.take_length] at hr
    simp
    refine W_sorted (o := true) (fr := true) hr (claimsP_sort (fun p hp => slotsP_is hp) ns) ho fun rs hr ho => ?_
    simp
    exact ⟨hr, ho⟩
end
end Mi
end
section
set_option linter.all false
set_option Elab.async false
set_option maxRecDepth 100000
set_option maxHeartbeats 4000000
/-! Mp14: cells lent, built-ins over cells, what a draw leaves. -/
namespace Mi
open PySem Pm
section
variable {Pg : Prg} {k : Nat} {m m' : Mem} {Q : D × Mem → Prop} {cal : Cal} {ρ : Env} {n : Nat} {o fr : Bool} {ds : List D}
@[simp] theorem W_tupL : W (bi .tuple fr m [.nd o .lst ds]) Q ↔ Q (T' true true ds, m) := by simp [bi, asV, biTuple, view, nrm]
theorem W_tupLoc (h : m[n]? = some ⟨.lst, ds⟩) : W (bi .tuple fr m [.loc n]) Q ↔ Q (T' true true ds, m) := by simp [bi, asV, biTuple, view, h]
theorem W_lenLoc (h : m[n]? = some ⟨.lst, ds⟩) : W (bi .len fr m [.loc n]) Q ↔ Q (.int ds.length, m) := by simp [bi, asV, biLen, view, h]
theorem lend_loc {j : Nat} (h : m[n]? = some ⟨.lst, ds⟩) (hl : lfs ds = true) : snap false true (j + 1) m (.loc n) = some (.nd false .lst ds) := by
  rw [snap, h]
  simp only [lends_lf j hl, Option.map_some]
theorem snaps_cons {b c : Bool} {j : Nat} {d d' : D} {ds' : List D} (h1 : snap b c j m d = some d') (h2 : snaps b c j m ds = some ds') : snaps b c j m (d :: ds) = some (d' :: ds') := by
  rw [snaps, h1]
  simp [h2]
theorem snaps_nil {b c : Bool} {j : Nat} : snaps b c j m [] = some [] := by rw [snaps]
theorem snap_nd {c : Bool} {j : Nat} {sh : Sh} {ds' : List D} (h : snaps false true j m ds = some ds') : snap false true j m (.nd o sh ds) = some (.nd o sh ds') := by
  rw [snap, h]
  simp
theorem snap_T' {j : Nat} {b : Bool} {ds' : List D} (h : snaps false true j m ds = some ds') : snap false true j m (T' o b ds) = some (T' o b ds') := by
  unfold T'
  exact snap_nd (c := true) h
theorem frz_T' {j : Nat} {b : Bool} {ds' : List D} (h : snaps true false j m ds = some ds') : snap true false j m (T' true b ds) = some (T' true b ds') := by
  unfold T'
  rw [snap, h]
  simp
theorem W_clear (h : m[n]? = some ⟨.lst, ds⟩) : W (mt .clear m (.loc n) []) Q ↔ Q (.non, m.set n ⟨.lst, []⟩) := by
  have e : mt .clear m (.loc n) [] = .ok (.non, m.set n ⟨.lst, []⟩) := by simp only [mt, h, mtLst, R.bind]
  rw [e, W_ok]
/-! ### all but one cell stay -/
structure Fr0 (s : Nat) (m m' : Mem) : Prop where
  len : m'.length = m.length
  at_ : ∀ n, n ≠ s → m'[n]? = m[n]?
theorem Fr0.refl {s : Nat} : Fr0 s m m := ⟨rfl, fun _ _ => rfl⟩
theorem Fr0.set {s : Nat} {c : Cell} (h : Fr0 s m m') : Fr0 s m (m'.set s c) := ⟨by simp [h.len], fun n hn => by rw [List.getElem?_set_ne (fun e => hn e.symm), h.at_ n hn]⟩
theorem Fr0.trans {s : Nat} {m2 : Mem} (h : Fr0 s m m') (h2 : Fr0 s m' m2) : Fr0 s m m2 := ⟨by rw [h2.len, h.len], fun n hn => by rw [h2.at_ n hn, h.at_ n hn]⟩
theorem StOk.set_ne {s : Nat} {c : Cell} (h : StOk m s) (hn : n ≠ s) : StOk (m.set n c) s := by
  obtain ⟨ns, i, x, l, h1, h2⟩ := h
  exact ⟨ns, i, x, l, by rw [List.getElem?_set_ne hn]; exact h1, h2⟩
theorem StOk.app {s : Nat} {c : List Cell} (h : StOk m s) : StOk (m ++ c) s := by
  obtain ⟨ns, i, x, l, h1, h2⟩ := h
  exact ⟨ns, i, x, l, by rw [List.getElem?_append_left (List.getElem?_eq_some_iff.mp h1).1]; exact h1, h2⟩
theorem StOk.lt {s : Nat} (h : StOk m s) : s < m.length := by
  obtain ⟨ns, i, x, l, h1, h2⟩ := h
  exact (List.getElem?_eq_some_iff.mp h1).1
/-- a draw -/
theorem d_drawn (h : Has Pg "_law_drawn" Cm._law_drawn_d) {s : Nat} {n : Int} (hm : StOk m s) (h1 : 1 ≤ n) (h2 : n < 1073741824) (q : ∀ (v : Nat) m', (v : Int) < n → StOk m' s → Fr0 s m m' → Q (.int v, m')) : W (callN Pg (k + 1) "_law_drawn" [.loc s, .int n] m) Q := by
  refine (f_drawn h hm h1 h2).mono fun r ⟨v, c, e, a, b, d⟩ => ?_
  subst e
  have := q v.toNat (m.set s c) (by omega) d Fr0.refl.set
  rwa [Int.toNat_of_nonneg a] at this
/-! ### sorted(set(ints)) -/
theorem intsOf_ok : ∀ is : List Int, intsOf (is.map D.int) = .ok is
  | [] => rfl
  | i :: is => by
    rw [List.map_cons, intsOf]
    simp only [asI, R.bind, intsOf_ok is]
theorem insU_in {i x : Int} : ∀ {l : List Int}, x ∈ insU i l → x = i ∨ x ∈ l
  | [], h => by simp [insU] at h; exact .inl h
  | j :: l, h => by
    unfold insU at h
    split at h
    · rcases List.mem_cons.mp h with h | h
      · exact .inl h
      · exact .inr h
    · split at h
      · exact .inr h
      · rcases List.mem_cons.mp h with h | h
        · exact .inr (by rw [h]; simp)
        · rcases insU_in h with h | h
          · exact .inl h
          · exact .inr (List.mem_cons_of_mem _ h)
theorem insU_pair {i : Int} : ∀ {l : List Int}, l.Pairwise (· < ·) → (insU i l).Pairwise (· < ·)
  | [], _ => by simp [insU]
  | j :: l, h => by
    unfold insU
    split
    · rename_i hij
      refine List.pairwise_cons.mpr ⟨fun a ha => ?_, h⟩
      rcases List.mem_cons.mp ha with rfl | ha
      · exact hij
      · have := List.rel_of_pairwise_cons h ha; omega
    · split
      · exact h
      · rename_i h1 h2
        rw [List.pairwise_cons] at h
        refine List.pairwise_cons.mpr ⟨fun a ha => ?_, insU_pair h.2⟩
        rcases insU_in ha with rfl | ha
        · omega
        · exact h.1 a ha
theorem insU_len {i : Int} : ∀ l : List Int, 1 ≤ (insU i l).length ∧ (insU i l).length ≤ l.length + 1
  | [] => by simp [insU]
  | j :: l => by
    unfold insU
    split
    · simp
    · split
      · simp
      · have := insU_len (i := i) l
        simp
        omega
theorem sortU_in {x : Int} : ∀ {l : List Int}, x ∈ sortU l → x ∈ l
  | [], h => by simp [sortU] at h
  | i :: l, h => by
    have e : sortU (i :: l) = insU i (sortU l) := rfl
    rw [e] at h
    rcases insU_in h with h | h
    · rw [h]; simp
    · exact List.mem_cons_of_mem _ (sortU_in h)
theorem sortU_pair : ∀ l : List Int, (sortU l).Pairwise (· < ·)
  | [] => by simp [sortU]
  | i :: l => insU_pair (sortU_pair l)
theorem sortU_len : ∀ l : List Int, (sortU l).length ≤ l.length ∧ (l ≠ [] → 1 ≤ (sortU l).length)
  | [] => by simp [sortU]
  | i :: l => by
    have e : sortU (i :: l) = insU i (sortU l) := rfl
    rw [e]
    have h1 := sortU_len l
    have h2 := insU_len (i := i) (sortU l)
    refine ⟨by simp; omega, fun _ => h2.1⟩
theorem W_sortSet {is : List Int} (h : is.length < 64) : W (bi .sortSet fr m [.nd o .lst (is.map D.int)]) Q ↔ Q (fin fr .lst ((sortU is).map D.int) m) := by
  have e : bi .sortSet fr m [.nd o .lst (is.map D.int)] = .ok (fin fr .lst ((sortU is).map D.int) m) := by
    simp only [bi, asN, biSortSet, itemsL, view, nrm, R.bind, intsOf_ok, h, if_true]
  rw [e, W_ok]
theorem reps_ints : ∀ is : List Int, Reps (is.map D.int) (is.map PyData.int)
  | [] => by simp
  | i :: is => by simp [reps_ints is]
theorem ows_ints : ∀ is : List Int, ows (is.map D.int) = true
  | [] => by simp [ows]
  | i :: is => by simp [ows, ow, ows_ints is]
theorem ows_strs : ∀ is : List Str, ows (is.map D.str) = true
  | [] => by simp [ows]
  | i :: is => by simp [ows, ow, ows_strs is]
end
end Mi
end
section
set_option linter.all false
set_option Elab.async false
set_option maxRecDepth 100000
set_option maxHeartbeats 4000000
/-! Mq0: how laws draw: names, measures. -/
namespace Mi
open PySem Pm
section
variable {Pg : Prg} {k : Nat} {m : Mem} {Q : D × Mem → Prop} {cal : Cal}
theorem V_cat {a b : E} {ρ : Env} : V (evE cal (.cat a b) ρ m) Q ↔ V (evE cal a ρ m) fun x => V (evE cal b ρ x.2) fun y => V (catD y.2 x.1 y.1) Q := by conv => lhs; unfold evE; simp
@[simp] theorem W_cat {a b : E} {ρ : Env} : W (evE cal (.cat a b) ρ m) Q ↔ W (evE cal a ρ m) fun x => W (evE cal b ρ x.2) fun y => W (catD y.2 x.1 y.1) Q := V_cat
theorem W_catD {n : Nat} {o : Bool} {xs ys : List D} (h : m[n]? = some ⟨.lst, xs⟩) (hl : xs.length + ys.length ≤ most) : W (catD m (.loc n) (.nd o .lst ys)) Q ↔ Q (.loc m.length, m ++ [⟨.lst, xs ++ ys⟩]) := by
  have e : catD m (.loc n) (.nd o .lst ys) = .ok (.loc m.length, m ++ [⟨.lst, xs ++ ys⟩]) := by
    simp only [catD, view, h, nrm, hl, if_true, fin_false]
  rw [e, W_ok]
/-- a while, a turn at a time -/
def WhK (c : Env → Mem → R (D × Mem)) (b : Env → Mem → R (Fl × Mem)) (P : Fl × Mem → Prop) (u : U P := .mk) : Fl × Mem → Prop := fun r => match r.1 with
  | .nx ρ => W (whl c b ρ r.2) P
  | .rt v => P (.rt v, r.2)
section
variable {c : Env → Mem → R (D × Mem)} {b : Env → Mem → R (Fl × Mem)} {P : Fl × Mem → Prop} {ρ : Env}
@[simp] theorem WhK_nx : (WhK c b P) (.nx ρ, m) ↔ W (whl c b ρ m) P := Iff.rfl
@[simp] theorem WhK_rt {v : D} : (WhK c b P) (.rt v, m) ↔ P (.rt v, m) := Iff.rfl
theorem W_whl1 : W (whl c b ρ m) P ↔ W (c ρ m) fun x => W (asB x.1) fun t => Br t (W (b ρ x.2) (WhK c b P)) (P (.nx ρ, x.2)) := by
  rw [whl_eq, W_bind]
  have key : ∀ x : D × Mem, W ((asB x.1).bind fun t => if t = true then (b ρ x.2).bind fun r => (match r.1 with
      | .nx ρ => whl c b ρ r.2
      | .rt v => .ok (.rt v, r.2)) else .ok (.nx ρ, x.2)) P ↔ W (asB x.1) fun t => Br t (W (b ρ x.2) (WhK c b P)) (P (.nx ρ, x.2)) := fun x => by
    rw [W_bind]
    have k2 : ∀ t : Bool, W (if t = true then (b ρ x.2).bind fun r => (match r.1 with
      | .nx ρ => whl c b ρ r.2
      | .rt v => .ok (.rt v, r.2)) else .ok (.nx ρ, x.2)) P ↔ Br t (W (b ρ x.2) (WhK c b P)) (P (.nx ρ, x.2)) := fun t => by
      rw [W_if]
      have k3 : W ((b ρ x.2).bind fun r => (match r.1 with
        | .nx ρ => whl c b ρ r.2
        | .rt v => .ok (.rt v, r.2))) P ↔ W (b ρ x.2) (WhK c b P) := by
        rw [W_bind]
        constructor
        · intro h; refine h.mono fun r hr => ?_
          obtain ⟨r1, r2⟩ := r
          cases r1 with
          | nx ρ => exact hr
          | rt v => exact (W_ok (Q := P)).mp hr
        · intro h; refine h.mono fun r hr => ?_
          obtain ⟨r1, r2⟩ := r
          cases r1 with
          | nx ρ => exact hr
          | rt v => exact (W_ok (Q := P)).mpr hr
      exact ⟨fun h => Br.mk (fun e => k3.mp (h.1 e)) (fun e => W_ok.mp (h.2 e)), fun h => Br.mk (fun e => k3.mpr (h.1 e)) (fun e => W_ok.mpr (h.2 e))⟩
    exact ⟨fun h => h.mono fun t ht => (k2 t).mp ht, fun h => h.mono fun t ht => (k2 t).mpr ht⟩
  exact ⟨fun h => h.mono fun x hx => (key x).mp hx, fun h => h.mono fun x hx => (key x).mpr hx⟩
theorem V_whl {e : E} {bd : List S} : V (evS cal (.whl e bd) ρ m) P ↔ V (whl (fun ρ m => evE cal e ρ m) (fun ρ m => evSs cal bd ρ m) ρ m) P := by
  conv => lhs; unfold evS
@[simp] theorem W_whlS {e : E} {bd : List S} : W (evS cal (.whl e bd) ρ m) P ↔ W (whl (fun ρ m => evE cal e ρ m) (fun ρ m => evSs cal bd ρ m) ρ m) P := V_whl
end
/-- a walk over a list's cell that stays as it is -/
theorem W_goCl {α : Type} {f : D → α → Mem → R (α × Mem)} {P : α × Mem → Prop} {n : Nat} {ds : List D} (I : Nat → α → Mem → Prop) (hI : ∀ j a m, I j a m → lstAt m n = some ds) (a : α) (m : Mem) (h0 : I 0 a m) (hs : ∀ (i : Nat) d a m, ds[i]? = some d → I i a m → W (f d a m) fun r => I (i + 1) r.1 r.2) (hq : ∀ a m, I ds.length a m → P (a, m)) : W (goSrc f (.cell n false) a m) P := by
  have go : ∀ c i a m, i + c = ds.length → I i a m → W (goCl f n false c i a m) P := by
    intro c
    induction c with
    | zero =>
      intro i a m hc h
      unfold goCl
      rw [hI i a m h]
      have : ds.length = i := by omega
      simp only [this, if_true, W_ok]
      exact hq a m (by rw [this]; exact h)
    | succ c ih =>
      intro i a m hc h
      unfold goCl
      rw [hI i a m h]
      have hi : i < ds.length := by omega
      simp only [List.getElem?_eq_getElem hi, wrapI, Bool.false_eq_true, if_false]
      rw [W_bind]
      exact (hs i ds[i] a m (List.getElem?_eq_getElem hi) h).mono fun r hr => ih (i + 1) r.1 r.2 (by omega) hr
  show W (match lstAt m n with
      | some ds => goCl f n false ds.length 0 a m
      | none => R.bad) P
  rw [hI 0 a m h0]
  exact go ds.length 0 a m (by omega) h0
def ltr (i : Nat) : Str := ⟨#[97 + i]⟩
theorem letter_name : ∀ i, i < 26 → isName (ltr i) = true := by decide +kernel
theorem letter_inj {i j : Nat} : ltr i = ltr j ↔ i = j := by
  unfold ltr
  simp
theorem letter_at {i : Nat} (h : i < 26) : idxD m (.str "abcdefghijklmnopqrstuvwxyz") (.int i) = .ok (.str (ltr i)) := by
  have key : ∀ i : Nat, i < 26 → L2.atI ("abcdefghijklmnopqrstuvwxyz" : Str).cps.toList (i : Int) = some (97 + i) := by decide +kernel
  unfold idxD
  have hl : ("abcdefghijklmnopqrstuvwxyz" : Str).length ≤ most := by decide
  simp only [hl, if_true, key i h]
  rfl
theorem abc_at {i : Nat} (h : i < 3) : idxD m (.str "abc") (.int i) = .ok (.str (ltr i)) := by
  have key : ∀ i : Nat, i < 3 → L2.atI ("abc" : Str).cps.toList (i : Int) = some (97 + i) := by decide +kernel
  unfold idxD
  have hl : ("abc" : Str).length ≤ most := by decide
  simp only [hl, if_true, key i h]
  rfl
/-- names by their places -/
def lets (ks : List Kn) : Kno := ks.mapIdx fun i κ => (ltr i, κ)
theorem lets_app {ks : List Kn} {κ : Kn} : lets (ks ++ [κ]) = lets ks ++ [(ltr ks.length, κ)] := by
  unfold lets
  simp
theorem lets_get {ks : List Kn} {i : Nat} : (lets ks)[i]? = ks[i]?.map fun κ => (ltr i, κ) := by
  unfold lets
  simp
theorem lets_len {ks : List Kn} : (lets ks).length = ks.length := by unfold lets; simp
theorem lets_mem {ks : List Kn} {q : Str × Kn} (h : q ∈ lets ks) : ∃ i, i < ks.length ∧ q.1 = ltr i ∧ ks[i]? = some q.2 := by
  obtain ⟨i, hi⟩ := List.getElem?_of_mem h
  rw [lets_get] at hi
  cases hk : ks[i]? with
  | none => rw [hk] at hi; cases hi
  | some κ =>
    rw [hk] at hi
    cases hi
    exact ⟨i, (List.getElem?_eq_some_iff.mp hk).1, rfl, hk⟩
theorem kgets_notin {x : Str} : ∀ {κ : Kno}, (∀ q ∈ κ, q.1 ≠ x) → kgets x κ = none
  | [], _ => rfl
  | q :: κ, h => by
    unfold kgets
    rw [if_neg (h q (List.mem_cons_self ..))]
    exact kgets_notin fun z hz => h z (List.mem_cons_of_mem _ hz)
theorem kgets_in {q : Str × Kn} : ∀ {κ : Kno}, (κ.map (·.1)).Nodup → q ∈ κ → kgets q.1 κ = some q.2
  | p :: κ, hn, h => by
    rw [List.map_cons, List.nodup_cons] at hn
    unfold kgets
    rcases List.mem_cons.mp h with rfl | h
    · rw [if_pos rfl]
    · rw [if_neg fun e => hn.1 (by rw [e]; exact List.mem_map.mpr ⟨q, h, rfl⟩)]
      exact kgets_in hn.2 h
theorem lets_nodup {ks : List Kn} : ((lets ks).map (·.1)).Nodup := by
  have e : (lets ks).map (·.1) = (List.range ks.length).map ltr := by
    apply List.ext_getElem?
    intro i
    rw [List.getElem?_map, lets_get, List.getElem?_map]
    by_cases h : i < ks.length
    · rw [List.getElem?_eq_getElem h, List.getElem?_range h]; rfl
    · rw [List.getElem?_eq_none (by omega), List.getElem?_eq_none (by simpa using h)]; rfl
  rw [e]
  unfold List.Nodup
  rw [List.pairwise_map]
  exact List.Pairwise.imp (fun h e => h (letter_inj.mp e)) List.nodup_range
theorem lets_fresh {ks : List Kn} : kgets (ltr ks.length) (lets ks) = none := kgets_notin fun q hq e => by
  obtain ⟨i, hi, h1, _⟩ := lets_mem hq
  rw [h1, letter_inj] at e
  omega
/-- the names of a kind -/
def namesOf (κ : Kno) (j : Kn) : List Str := (κ.filter fun q => decide (q.2 = j)).map (·.1)
theorem namesOf_mem {ks : List Kn} {j : Kn} {x : Str} (h : x ∈ namesOf (lets ks) j) (hl : ks.length ≤ 26) : isName x = true ∧ kgets x (lets ks) = some j := by
  obtain ⟨q, hq, rfl⟩ := List.mem_map.mp h
  have hq := List.mem_filter.mp hq
  obtain ⟨i, hi, h1, h2⟩ := lets_mem hq.1
  have hj : q.2 = j := of_decide_eq_true hq.2
  exact ⟨by rw [h1]; exact letter_name i (by omega), by rw [← hj]; exact kgets_in lets_nodup hq.1⟩
theorem namesOf_len {ks : List Kn} {j : Kn} : (namesOf (lets ks) j).length ≤ ks.length := by
  unfold namesOf
  rw [List.length_map]
  exact Nat.le_trans (List.length_filter_le ..) (by rw [lets_len]; exact Nat.le_refl _)
theorem strs_of : ∀ {l : List Str} {rs : List D}, Reps rs (l.map PyData.str) → rs = l.map D.str
  | [], rs, h => by simpa using h
  | x :: l, rs, h => by
    rw [List.map_cons] at h
    obtain ⟨d, es, rfl, h1, h2⟩ := Reps_cons.mp h
    rw [Rep_str] at h1
    rw [h1, strs_of h2]
    rfl
theorem f_of (h : Has Pg "_law_of" Cm._law_of_d) {d : D} {κ : Kno} {j : Kn} (hd : Rep d (.list (κ.map parP))) (hl : κ.length ≤ 1000) : W (callN Pg (k + 1) "_law_of" [d, .str j.s] m) Q ↔ Q (.nd true .lst ((namesOf κ j).map D.str), m) := by
  refine W.iff ?_
  rw [W_callN h]
  obtain ⟨o, ds, rfl, hr⟩ := Rep_list.mp hd
  simp [Cm._law_of_b, out]
  let g : PyData → Option PyData := fun z => match z with
    | .tuple [x, .str s] => if s = j.s then some x else none
    | _ => none
  refine (W_lcSt (acc := []) g hr (fun d p hp hr => ?_) (by rw [hr.length]; simp; exact Nat.le_trans hl (by decide))).mono fun r ⟨rs, e, hr, ho⟩ => ?_
  · obtain ⟨q, hq, rfl⟩ := List.mem_map.mp hp
    unfold parP at hr
    obtain ⟨o2, b2, e1, e2, rfl, q1, q2⟩ := hr.t2
    rw [Rep_str] at q1 q2
    subst q1 q2
    by_cases hj : q.2.s = j.s
    · simp [Put, wipe, W_eqS Kn_strOk Kn_strOk, hj, g, parP, ow]
    · simp [Put, wipe, W_eqS Kn_strOk Kn_strOk, hj, g, parP]
  · subst e
    have e1 : ∀ κ : Kno, (κ.map parP).filterMap g = (namesOf κ j).map PyData.str := by
      intro κ
      induction κ with
      | nil => rfl
      | cons q κ ih =>
        rw [List.map_cons]
        by_cases hj : q.2 = j
        · have : g (parP q) = some (.str q.1) := by simp [g, parP, hj]
          rw [List.filterMap_cons_some this, ih]
          simp [namesOf, hj]
        · have : g (parP q) = none := by
            have : ¬ q.2.s = j.s := fun e => hj (Kn_inj.mp e)
            simp [g, parP, this]
          rw [List.filterMap_cons_none this, ih]
          simp [namesOf, hj]
    rw [e1] at hr
    have : rs = (namesOf κ j).map D.str := strs_of hr
    subst this
    simp
end
end Mi
end
section
set_option linter.all false
set_option Elab.async false
set_option maxRecDepth 100000
set_option maxHeartbeats 4000000
/-! Mq1: a measure is drawn, a deed is drawn. -/
namespace Mi
open PySem Pm
section
variable {Pg : Prg} {k : Nat} {m m' : Mem} {Q : D × Mem → Prop} {cal : Cal}
/-- what was there stays, but for one cell -/
structure Fr1 (s : Nat) (m m' : Mem) : Prop where
  len : m.length ≤ m'.length
  at_ : ∀ n, n < m.length → n ≠ s → m'[n]? = m[n]?
theorem Fr1.refl {s : Nat} : Fr1 s m m := ⟨Nat.le_refl _, fun _ _ _ => rfl⟩
theorem Fr1.trans {s : Nat} {m2 : Mem} (h : Fr1 s m m') (h2 : Fr1 s m' m2) : Fr1 s m m2 := ⟨Nat.le_trans h.len h2.len, fun n hn hs => by rw [h2.at_ n (Nat.lt_of_lt_of_le hn h.len) hs, h.at_ n hn hs]⟩
theorem Fr0.one {s : Nat} (h : Fr0 s m m') : Fr1 s m m' := ⟨Nat.le_of_eq h.len.symm, fun n _ hs => h.at_ n hs⟩
theorem Fr1.app {s : Nat} {c : List Cell} (h : Fr1 s m m') : Fr1 s m (m' ++ c) := ⟨by have := h.len; simp; omega, fun n hn hs => by rw [List.getElem?_append_left (Nat.lt_of_lt_of_le hn h.len), h.at_ n hn hs]⟩
theorem Fr1.set {s n : Nat} {c : Cell} (h : Fr1 s m m') (hn : m.length ≤ n) : Fr1 s m (m'.set n c) := ⟨by simpa using h.len, fun i hi hs => by rw [List.getElem?_set_ne (by omega), h.at_ i hi hs]⟩
theorem Fr1.cell {s n : Nat} {c : Cell} (h : Fr1 s m m') (e : m[n]? = some c) (hs : n ≠ s) : m'[n]? = some c := by rw [h.at_ n (List.getElem?_eq_some_iff.mp e).1 hs]; exact e
structure DrawP (Pg : Prg) : Prop where
  drawn : Has Pg "_law_drawn" Cm._law_drawn_d
  of_ : Has Pg "_law_of" Cm._law_of_d
  measure : Has Pg "_law_measure" Cm._law_measure_d
  deed : Has Pg "_law_deed" Cm._law_deed_d
  tree : Has Pg "_law_tree" Cm._law_tree_d
  program : Has Pg "_law_program" Cm._law_program_d
theorem lets_small {ks : List Kn} (h : ks.length ≤ 25) : (lets ks).length ≤ 1000 := by rw [lets_len]; omega
/-- texts put behind a word -/
theorem word_list {w : String} {xs : List Str} {ρ : Env} {i : Nat} (hi : i < ρ.length) (hl : xs.length ≤ 1000) (f : Str → PyData) (hf : ∀ x, f x = .tuple [.str (Str.ofString w), .str x]) :
    W (goSt (lcT cal (.tup [(.cst (.str (Str.ofString w))), (.var i)]) [i] (.var i) [] .nil ρ) (xs.map D.str) (.lst, []) m) fun r => ∃ rs, r = ((.lst, rs), m) ∧ Reps rs (xs.map f) ∧ ows rs = true := by
  refine (W_lcSt (acc := []) (fun z => match z with | .str x => some (f x) | _ => none) (reps_strs xs) (fun d p hp hr => ?_) (by simp; exact Nat.le_trans hl (by decide))).mono fun r ⟨rs, e, hr, ho⟩ => ?_
  · obtain ⟨x, hx, rfl⟩ := List.mem_map.mp hp
    rw [Rep_str] at hr
    subst hr
    have g : ((ρ.set i none).set i (some (.str x)))[i]? = some (some (.str x)) := by rw [List.getElem?_set_self (by simpa using hi)]
    simp only [Put, wipe, W_tvar, W_ifs0, Option.isSome_some, true_and, W_tup, W_cons, W_cst, W_var, g, Option.join_some, W_ofS, W_nil, hf]
    simp [ow, ows]
  · subst e
    refine ⟨rs, by simp, ?_, ho⟩
    have e1 : (xs.map PyData.str).filterMap (fun z => match z with | .str x => some (f x) | _ => none) = xs.map f := by
      rw [List.filterMap_map]
      have : ((fun z => match z with | .str x => some (f x) | _ => none) ∘ PyData.str) = fun x => some (f x) := by funext x; rfl
      rw [this, List.filterMap_eq_map']
    rw [← e1]
    exact hr
theorem f_measure (Z : DrawP Pg) {s : Nat} {kd : D} {ks : List Kn} (hm : StOk m s) (hd : Rep kd (.list ((lets ks).map parP))) (hl : ks.length ≤ 25) (q : ∀ d a m', Rep d (Me.p a) → ow d = true → isMe (lets ks) a = true → StOk m' s → Fr0 s m m' → Q (d, m')) :
    W (callN Pg (k + 2) "_law_measure" [.loc s, kd] m) Q := by
  rw [W_callN Z.measure]
  have l1 := namesOf_len (ks := ks) (j := .nu)
  have l2 := namesOf_len (ks := ks) (j := .li)
  have o1 := fun (Q : D × Mem → Prop) => f_of (k := k) (m := []) (Q := Q) (j := .nu) Z.of_ hd (lets_small hl)
  have o2 := fun (Q : D × Mem → Prop) => f_of (k := k) (m := []) (Q := Q) (j := .li) Z.of_ hd (lets_small hl)
  simp only [Kn.s] at o1 o2
  have fz : ∀ (l : List Str), snap true false 4 [] (.nd true .lst (l.map D.str)) = some (.nd true .lst (l.map D.str)) := fun l => frz_ow 4 (by simpa [ow] using ows_strs l)
  simp [Cm._law_measure_b, out, W_pc, lfs, lf, hd.lf, o1, fz]
  refine (word_list (w := "of") (by simp) (by omega) (fun x => Me.p (.of x)) (fun x => rfl)).mono fun r ⟨rs, e, hr, ho⟩ => ?_
  subst e
  have lr : rs.length = (namesOf (lets ks) .nu).length := by simpa using hr.length
  simp [W_addL (xs := [T' true true []]) (ys := rs) (by simp; exact Nat.le_trans (show 1 + rs.length ≤ 1000 by omega) (by decide)), W_pc, lfs, lf, hd.lf, o2, fz]
  refine (word_list (w := "len") (by simp) (by omega) (fun x => Me.p (.len x)) (fun x => rfl)).mono fun r ⟨rs2, e, hr2, ho2⟩ => ?_
  subst e
  have lr2 : rs2.length = (namesOf (lets ks) .li).length := by simpa using hr2.length
  simp [W_addL (xs := T' true true [] :: rs) (ys := rs2) (by simp; exact Nat.le_trans (show rs.length + 1 + rs2.length ≤ 1000 by omega) (by decide))]
  refine d_drawn (k := k) Z.drawn hm (by omega) (by omega) fun v m1 hv hm1 f1 => ?_
  let ms : List Me := .zero :: ((namesOf (lets ks) .nu).map .of ++ (namesOf (lets ks) .li).map .len)
  have hR : Reps (T' true true [] :: (rs ++ rs2)) (ms.map Me.p) := by
    simp only [ms, List.map_cons, List.map_append, List.map_map]
    exact reps_cc.mpr ⟨by simp [Me.p], hr.append hr2⟩
  have hv' : v < (T' true true [] :: (rs ++ rs2)).length := by simp; omega
  have hat : L2.atI (T' true true [] :: (rs ++ rs2)) (v : Int) = some ((T' true true [] :: (rs ++ rs2))[v]) := by rw [atI_nat, List.getElem?_eq_getElem hv']
  obtain ⟨p, hp1, hp2⟩ := hR.get (List.getElem?_eq_getElem hv')
  rw [List.getElem?_map] at hp1
  cases ha : ms[v]? with
  | none => rw [ha] at hp1; cases hp1
  | some a =>
    rw [ha] at hp1
    cases hp1
    have hma := List.mem_of_getElem? ha
    have how : ow ((T' true true [] :: (rs ++ rs2))[v]) = true := ows_get (ds := T' true true [] :: (rs ++ rs2)) (by simp [ows, ows_app, ho, ho2]) (List.getElem?_eq_getElem hv')
    have hme : isMe (lets ks) a = true := by
      simp only [ms, List.mem_cons, List.mem_append, List.mem_map] at hma
      rcases hma with rfl | ⟨x, hx, rfl⟩ | ⟨x, hx, rfl⟩
      · rfl
      · obtain ⟨n1, n2⟩ := namesOf_mem hx (by omega)
        simp [isMe, n1, n2]
      · obtain ⟨n1, n2⟩ := namesOf_mem hx (by omega)
        simp [isMe, n1, n2]
    simp [hat]
    exact q _ a m1 hp2 how hme hm1 f1
end
end Mi
end
section
set_option linter.all false
set_option Elab.async false
set_option maxRecDepth 100000
set_option maxHeartbeats 4000000
/-! Mq2: a deed is drawn. -/
namespace Mi
open PySem Pm
section
variable {Pg : Prg} {k : Nat} {m m' m0 : Mem} {Q : D × Mem → Prop} {cal : Cal}
/-- heads of functions -/
abbrev Hd := List (Str × Kn) × Kn
def HdR (d : D) (h : Hd) : Prop := ∃ o b o1 ds1, d = T' o b [T' o1 true ds1, .str h.2.s] ∧ Reps ds1 (h.1.map parP)
def HdRs : List D → List Hd → Prop
  | [], [] => True
  | d :: ds, h :: hs => HdR d h ∧ HdRs ds hs
  | _, _ => False
theorem HdRs.get : ∀ {ds : List D} {P : List Hd} {i : Nat} {d : D}, HdRs ds P → ds[i]? = some d → ∃ f, P[i]? = some f ∧ HdR d f
  | d :: ds, f :: P, 0, _, h, e => ⟨f, rfl, by cases e; exact h.1⟩
  | d :: ds, f :: P, i + 1, _, h, e => by
    obtain ⟨f', h1, h2⟩ := HdRs.get (i := i) h.2 (by simpa using e)
    exact ⟨f', by simpa using h1, h2⟩
theorem HdRs.length : ∀ {ds : List D} {P : List Hd}, HdRs ds P → ds.length = P.length
  | [], [], _ => rfl
  | d :: ds, f :: P, h => by simp [HdRs.length h.2]
theorem HdRs.snoc : ∀ {ds : List D} {P : List Hd} {d : D} {h : Hd}, HdRs ds P → HdR d h → HdRs (ds ++ [d]) (P ++ [h])
  | [], [], _, _, _, h => ⟨h, trivial⟩
  | d :: ds, f :: P, _, _, h, h2 => ⟨h.1, HdRs.snoc h.2 h2⟩
/-- heads as a program -/
def Ph (hs : List Hd) : Pr := hs.map fun h => ⟨h.1, h.2, .tell ""⟩
/-- a deed and its kind -/
def dkP (q : De × Kn) : PyData := .tuple [q.1.p, .str q.2.s]
/-- the deeds so far, in a cell -/
def Opt (hs : List Hd) (κ : Kno) (s : Nat) (m0 m : Mem) (c b : Nat) : Prop := ∃ (ds : List D) (L : List (De × Kn)), m[c]? = some ⟨.lst, ds⟩ ∧ Reps ds (L.map dkP) ∧ ows ds = true ∧ (∀ q ∈ L, kindOf (Ph hs) κ q.1 = some q.2) ∧ L.length ≤ b ∧ 1 ≤ L.length ∧ StOk m s ∧ Fr1 s m0 m ∧ m0.length ≤ c ∧ s < m0.length
section
variable {hs : List Hd} {κ : Kno} {s c b : Nat}
theorem Opt.more (h : Opt hs κ s m0 m c b) {ds rs : List D} (e : m[c]? = some ⟨.lst, ds⟩) {L : List (De × Kn)} (hr : Reps rs (L.map dkP)) (ho : ows rs = true) (hk : ∀ q ∈ L, kindOf (Ph hs) κ q.1 = some q.2) : Opt hs κ s m0 (m ++ [⟨.lst, ds ++ rs⟩]) m.length (b + L.length) := by
  obtain ⟨ds', L', e1, h1, h2, h3, h4, h5, h6, h7, h8, h9⟩ := h
  rw [e] at e1
  cases e1
  refine ⟨ds ++ rs, L' ++ L, by simp, by rw [List.map_append]; exact h1.append hr, by rw [ows_app, h2, ho]; rfl, ?_, by simp; omega, by simp; omega, h6.app, h7.app, h7.len, h9⟩
  intro q hq
  rcases List.mem_append.mp hq with hq | hq
  · exact h3 q hq
  · exact hk q hq
theorem Opt.put (h : Opt hs κ s m0 m c b) {ds : List D} {d : D} (e : m[c]? = some ⟨.lst, ds⟩) {q : De × Kn} (hr : Rep d (dkP q)) (ho : ow d = true) (hk : kindOf (Ph hs) κ q.1 = some q.2) : Opt hs κ s m0 (m.set c ⟨.lst, ds ++ [d]⟩) c (b + 1) := by
  obtain ⟨ds', L', e1, h1, h2, h3, h4, h5, h6, h7, h8, h9⟩ := h
  rw [e] at e1
  cases e1
  refine ⟨ds ++ [d], L' ++ [q], by rw [List.getElem?_set_self (List.getElem?_eq_some_iff.mp e).1], by rw [List.map_append]; exact h1.append (reps_cc.mpr ⟨hr, by simp⟩), by rw [ows_app, h2]; simp [ows, ho], ?_, by simp; omega, by simp, h6.set_ne (by omega), h7.set h8, h8, h9⟩
  intro z hz
  rcases List.mem_append.mp hz with hz | hz
  · exact h3 z hz
  · rw [List.mem_singleton.mp hz]; exact hk
theorem Opt.cell (h : Opt hs κ s m0 m c b) : ∃ ds, m[c]? = some ⟨.lst, ds⟩ ∧ ds.length ≤ b ∧ 1 ≤ ds.length := by
  obtain ⟨ds, L, e1, h1, h2, h3, h4, h5, _⟩ := h
  have := h1.length
  simp at this
  exact ⟨ds, e1, by omega, by omega⟩
theorem Opt.st (h : Opt hs κ s m0 m c b) : StOk m s ∧ Fr1 s m0 m ∧ m0.length ≤ c := by
  obtain ⟨ds, L, e1, h1, h2, h3, h4, h5, h6, h7, h8, h9⟩ := h
  exact ⟨h6, h7, h8⟩
theorem Opt.fr0 (h : Opt hs κ s m0 m c b) (hf : Fr0 s m m') (ho : StOk m' s) : Opt hs κ s m0 m' c b := by
  obtain ⟨ds, L, e1, h1, h2, h3, h4, h5, h6, h7, h8, h9⟩ := h
  exact ⟨ds, L, by rw [hf.at_ c (by omega)]; exact e1, h1, h2, h3, h4, h5, ho, h7.trans hf.one, h8, h9⟩
theorem Opt.wk (h : Opt hs κ s m0 m c b) {b' : Nat} (hb : b ≤ b') : Opt hs κ s m0 m c b' := by
  obtain ⟨ds, L, e1, h1, h2, h3, h4, h⟩ := h
  exact ⟨ds, L, e1, h1, h2, h3, by omega, h⟩
end
theorem areOf_snoc {κ : Kno} {x : Str} {j : Kn} (hx : isName x = true) (hj : kgets x κ = some j) : ∀ {xs : List Str} {ks : List Kn}, areOf κ xs ks = true → areOf κ (xs ++ [x]) (ks ++ [j]) = true
  | [], [], _ => by simp [areOf, hx, hj]
  | y :: xs, z :: ks, h => by
    simp only [areOf, Bool.and_eq_true] at h
    simp only [List.cons_append, areOf, Bool.and_eq_true]
    exact ⟨h.1, areOf_snoc hx hj h.2⟩
theorem lc_strs {e : E} {xs : List Str} {ρ : Env} {i : Nat} (f : Str → PyData) (hl : xs.length ≤ 1000) (hf : ∀ x, Put cal e [i] (.var i) [] ρ m (.str x) (some (f x))) :
    W (goSt (lcT cal e [i] (.var i) [] .nil ρ) (xs.map D.str) (.lst, []) m) fun r => ∃ rs, r = ((.lst, rs), m) ∧ Reps rs (xs.map f) ∧ ows rs = true := by
  refine (W_lcSt (acc := []) (fun z => match z with | .str x => some (f x) | _ => none) (reps_strs xs) (fun d p hp hr => ?_) (by simp; exact Nat.le_trans hl (by decide))).mono fun r ⟨rs, e, hr, ho⟩ => ?_
  · obtain ⟨x, hx, rfl⟩ := List.mem_map.mp hp
    rw [Rep_str] at hr
    subst hr
    exact hf x
  · subst e
    refine ⟨rs, by simp, ?_, ho⟩
    have e1 : (xs.map PyData.str).filterMap (fun z => match z with | .str x => some (f x) | _ => none) = xs.map f := by
      rw [List.filterMap_map]
      have : ((fun z => match z with | .str x => some (f x) | _ => none) ∘ PyData.str) = fun x => some (f x) := by funext x; rfl
      rw [this, List.filterMap_eq_map']
    rw [← e1]
    exact hr
/-- the names so far -/
def NmO (κ : Kno) (kn : List Kn) (i : Nat) (d : D) : Prop := ∃ xs : List Str, d = .nd true .lst (xs.map D.str) ∧ xs.length ≤ i ∧ (xs.length = i → areOf κ xs (kn.take i) = true)
@[simp] theorem W_max1 {fr : Bool} {n : Nat} : W (bi .max fr m [.int 1, .int n]) Q ↔ Q (.int (max 1 (n : Int)), m) := by
  have e : (max 1 (n : Int)) = if 1 < (n : Int) then (n : Int) else 1 := by split <;> omega
  rw [e]
  simp [bi, biMax, asV]
theorem most_big : 100000 ≤ most := by decide
theorem app_self {c : Cell} : (m ++ [c])[m.length]? = some c := by simp
theorem Opt.small {hs : List Hd} {κ : Kno} {s c b : Nat} (h : Opt hs κ s m0 m c b) {ds : List D} (e : m[c]? = some ⟨.lst, ds⟩) {n : Nat} (hb : b + n ≤ 100000) : ds.length + n ≤ most := by
  obtain ⟨ds', e', h1, _⟩ := h.cell
  rw [e] at e'
  cases e'
  exact Nat.le_trans (by omega) most_big
/-- the deeds of numbers -/
theorem deed_l1 {hs : List Hd} {κ : Kno} {s h b : Nat} {kd : D} {n : Int} {nu li : List Str} {P : Fl × Mem → Prop} (hst : isStep n = true) (hn : ∀ x ∈ nu, isName x = true ∧ kgets x κ = some .nu) (hl : ∀ x ∈ li, isName x = true ∧ kgets x κ = some .li) (l1 : nu.length ≤ 25) (l2 : li.length ≤ 25) {m1 : Mem} {c : Nat} (hb : b ≤ 50000) (hO : Opt hs κ s m0 m1 c b)
    (q : ∀ c x7 x8 m', Opt hs κ s m0 m' c (b + 25 * 51) → P (.nx [some (.loc s), some (.loc h), some kd, some (.nd true .lst (nu.map D.str)), some (.nd true .lst (li.map D.str)), some (.int n), some (.loc c), x7, x8, none, none, none], m')) :
    W (forSt (forT cal (.var 7) Cm._law_deed_b0) (nu.map D.str) [some (.loc s), some (.loc h), some kd, some (.nd true .lst (nu.map D.str)), some (.nd true .lst (li.map D.str)), some (.int n), some (.loc c), none, none, none, none, none] m1) P := by
  refine W_forS (fun i ρ m' => ∃ c x7 x8, ρ = [some (.loc s), some (.loc h), some kd, some (.nd true .lst (nu.map D.str)), some (.nd true .lst (li.map D.str)), some (.int n), some (.loc c), x7, x8, none, none, none] ∧ Opt hs κ s m0 m' c (b + i * 51)) _ _ _ ⟨_, _, _, rfl, by simpa using hO⟩ ?_ ?_
  · rintro i d ρ m2 hi ⟨c, x7, x8, rfl, hO⟩
    have hi' : i < nu.length := by simpa using (List.getElem?_eq_some_iff.mp hi).1
    obtain ⟨x, hx, rfl⟩ : ∃ x, x ∈ nu ∧ d = .str x := by
      rw [List.getElem?_map] at hi
      cases hx : nu[i]? with
      | none => rw [hx] at hi; cases hi
      | some x => rw [hx] at hi; cases hi; exact ⟨x, List.mem_of_getElem? hx, rfl⟩
    obtain ⟨n1, n2⟩ := hn x hx
    obtain ⟨ds, hc, hlen, _⟩ := hO.cell
    have hp := hO.put hc (q := (.sum x n, .nu)) (d := T' true true [T' true true [.str "sum", .str x, .int n], .str "number"]) (by simp [dkP, De.p, Kn.s]) (by simp [ow, ows]) (by simp [kindOf, areOf, n1, n2, hst])
    simp [Cm._law_deed_b0, mtOk_loc hc (q := .append) (by decide), W_app hc (hO.small hc (n := 1) (by omega))]
    generalize m2.set c _ = m3 at hp ⊢
    obtain ⟨ds3, hc3, _, _⟩ := hp.cell
    refine (lc_strs (fun y => dkP (.put x y, .li)) (by omega) (fun y => ?_)).mono fun r ⟨rs, e, hr1, ho1⟩ => ?_
    · simp [Put, wipe, dkP, De.p, Kn.s, ow, ows]
    subst e
    have lr1 : rs.length = li.length := by simpa using hr1.length
    have hp2 := hp.more hc3 (L := li.map fun y => (De.put x y, Kn.li)) (by rw [List.map_map]; exact hr1) ho1 (by
      intro z hz
      obtain ⟨y, hy, rfl⟩ := List.mem_map.mp hz
      obtain ⟨y1, y2⟩ := hl y hy
      simp [kindOf, areOf, n1, n2, y1, y2])
    simp [W_catD hc3 (ys := rs) (hp.small hc3 (by omega))]
    rw [List.length_map] at hp2
    generalize m3 ++ _ = m4, m3.length = c4 at hp2 ⊢
    obtain ⟨ds4, hc4, _, _⟩ := hp2.cell
    refine (lc_strs (fun y => dkP (.at y x, .nu)) (by omega) (fun y => ?_)).mono fun r ⟨rs2, e, hr2, ho2⟩ => ?_
    · simp [Put, wipe, dkP, De.p, Kn.s, ow, ows]
    subst e
    have lr2 : rs2.length = li.length := by simpa using hr2.length
    have hp3 := hp2.more hc4 (L := li.map fun y => (De.at y x, Kn.nu)) (by rw [List.map_map]; exact hr2) ho2 (by
      intro z hz
      obtain ⟨y, hy, rfl⟩ := List.mem_map.mp hz
      obtain ⟨y1, y2⟩ := hl y hy
      simp [kindOf, areOf, n1, n2, y1, y2])
    simp [W_catD hc4 (ys := rs2) (hp2.small hc4 (by omega))]
    rw [List.length_map] at hp3
    exact Opq.in ⟨_, _, _, rfl, hp3.wk (by omega)⟩
  · rintro ρ m2 ⟨c, x7, x8, rfl, hO⟩
    exact q c x7 x8 m2 (hO.wk (by simp; omega))
/-- the deeds of lists -/
theorem deed_l2 {hs : List Hd} {κ : Kno} {s h b : Nat} {kd : D} {n : Int} {nu li : List Str} {P : Fl × Mem → Prop} (hl : ∀ x ∈ li, isName x = true ∧ kgets x κ = some .li) (l2 : li.length ≤ 25) {m1 : Mem} {c : Nat} {x7 x8 : Option D} (hb : b ≤ 50000) (hO : Opt hs κ s m0 m1 c b)
    (q : ∀ c x7 x8 m', Opt hs κ s m0 m' c (b + 25 * 3) → P (.nx [some (.loc s), some (.loc h), some kd, some (.nd true .lst (nu.map D.str)), some (.nd true .lst (li.map D.str)), some (.int n), some (.loc c), x7, x8, none, none, none], m')) :
    W (forSt (forT cal (.var 8) Cm._law_deed_b1) (li.map D.str) [some (.loc s), some (.loc h), some kd, some (.nd true .lst (nu.map D.str)), some (.nd true .lst (li.map D.str)), some (.int n), some (.loc c), x7, x8, none, none, none] m1) P := by
  refine W_forS (fun i ρ m' => ∃ c x7 x8, ρ = [some (.loc s), some (.loc h), some kd, some (.nd true .lst (nu.map D.str)), some (.nd true .lst (li.map D.str)), some (.int n), some (.loc c), x7, x8, none, none, none] ∧ Opt hs κ s m0 m' c (b + i * 3)) _ _ _ ⟨_, _, _, rfl, by simpa using hO⟩ ?_ ?_
  · rintro i d ρ m2 hi ⟨c, x7, x8, rfl, hO⟩
    have hi' : i < li.length := by simpa using (List.getElem?_eq_some_iff.mp hi).1
    obtain ⟨x, hx, rfl⟩ : ∃ x, x ∈ li ∧ d = .str x := by
      rw [List.getElem?_map] at hi
      cases hx : li[i]? with
      | none => rw [hx] at hi; cases hi
      | some x => rw [hx] at hi; cases hi; exact ⟨x, List.mem_of_getElem? hx, rfl⟩
    obtain ⟨n1, n2⟩ := hl x hx
    obtain ⟨ds, hc, hlen, _⟩ := hO.cell
    have hp := hO.more hc (rs := [T' true true [T' true true [.str "len", .str x], .str "number"], T' true true [T' true true [.str "head", .str x], .str "number"], T' true true [T' true true [.str "tail", .str x], .str "list"]]) (L := [(.len x, .nu), (.head x, .nu), (.tail x, .li)]) (by simp [dkP, De.p, Kn.s]) (by simp [ows, ow]) (by
      intro z hz
      simp at hz
      rcases hz with rfl | rfl | rfl <;> simp [kindOf, areOf, n1, n2])
    simp [Cm._law_deed_b1, W_catD hc (ys := [T' true true [T' true true [.str "len", .str x], .str "number"], T' true true [T' true true [.str "head", .str x], .str "number"], T' true true [T' true true [.str "tail", .str x], .str "list"]]) (hO.small hc (n := 3) (by omega))]
    exact Opq.in ⟨_, _, _, rfl, hp.wk (by simp; omega)⟩
  · rintro ρ m2 ⟨c, x7, x8, rfl, hO⟩
    exact q c x7 x8 m2 (hO.wk (by simp; omega))
end
end Mi
end
section
set_option linter.all false
set_option Elab.async false
set_option maxRecDepth 100000
set_option maxHeartbeats 4000000
/-! Mq3: a deed is drawn: the calls, the end. -/
namespace Mi
open PySem Pm
section
variable {Pg : Prg} {k : Nat} {m m' m0 : Mem} {Q : D × Mem → Prop} {cal : Cal}
theorem take1 {α : Type} (l : List α) : l.take 1 = [] ∨ ∃ a, l.take 1 = [a] ∧ a ∈ l := by
  cases l with
  | nil => exact .inl rfl
  | cons a l => exact .inr ⟨a, rfl, List.mem_cons_self ..⟩
/-- names for a call -/
theorem deed_l3 (Z : DrawP Pg) {s h f : Nat} {kd : D} {ks : List Kn} {ds1 : List D} {ps : List (Str × Kn)} {a3 a4 a5 a6 x7 x8 x11 : Option D} {P : Fl × Mem → Prop} (hm : StOk m s) (hd : Rep kd (.list ((lets ks).map parP))) (hl : ks.length ≤ 25) (hr : Reps ds1 (ps.map parP)) (hp : ps.length ≤ 4)
    (q : ∀ (xs : List Str) x7 x11 m', xs.length ≤ ps.length → (xs.length = ps.length → areOf (lets ks) xs (ps.map (·.2)) = true) → StOk m' s → Fr0 s m m' → P (.nx [some (.loc s), some (.loc h), some kd, a3, a4, a5, a6, x7, x8, some (.int f), some (.nd true .lst (xs.map D.str)), x11], m')) :
    W (forSt (forT (callN Pg (k + 1)) (.tup [.var 7, .var 11]) Cm._law_deed_b2) ds1 [some (.loc s), some (.loc h), some kd, a3, a4, a5, a6, x7, x8, some (.int f), some (.nd true .lst []), x11] m) P := by
  have oo := fun (j : Kn) (Q : D × Mem → Prop) => f_of (k := k) (m := []) (Q := Q) (j := j) Z.of_ hd (lets_small hl)
  have fz : ∀ (l : List Str), snap true false 4 [] (.nd true .lst (l.map D.str)) = some (.nd true .lst (l.map D.str)) := fun l => frz_ow 4 (by simpa [ow] using ows_strs l)
  refine W_forS (fun i ρ m' => ∃ (xs : List Str) (x7 x11 : Option D), ρ = [some (.loc s), some (.loc h), some kd, a3, a4, a5, a6, x7, x8, some (.int f), some (.nd true .lst (xs.map D.str)), x11] ∧ xs.length ≤ i ∧ (xs.length = i → areOf (lets ks) xs ((ps.map (·.2)).take i) = true) ∧ StOk m' s ∧ Fr0 s m m') _ _ _ ⟨[], _, _, rfl, by simp, by simp [areOf], hm, Fr0.refl⟩ ?_ ?_
  · rintro i d ρ m2 hi ⟨xs, x7, x11, rfl, hx1, hx2, hm2, hf2⟩
    obtain ⟨p, hp1, hp2⟩ := hr.get hi
    rw [List.getElem?_map] at hp1
    cases hpi : ps[i]? with
    | none => rw [hpi] at hp1; cases hp1
    | some pr =>
      rw [hpi] at hp1
      cases hp1
      have hii := (List.getElem?_eq_some_iff.mp hpi).1
      obtain ⟨o, b, e, g, rfl, e1, e2⟩ := hp2.t2
      rw [Rep_str] at e1 e2
      subst e1 e2
      have l1 := namesOf_len (ks := ks) (j := pr.2)
      simp [Cm._law_deed_b2, W_pc, lfs, lf, hd.lf, oo, fz]
      refine d_drawn (k := k) Z.drawn hm2 (by omega) (by omega) fun v m3 hv hm3 f3 => ?_
      simp [W_pc, lfs, lf, hd.lf, oo, fz]
      refine ⟨by omega, ?_⟩
      have hj : 0 ≤ (v : Int) % max 1 ((namesOf (lets ks) pr.2).length : Int) := Int.emod_nonneg _ (by omega)
      simp only [cut_L hj, W_ok, W_cst, W_asI, slc_L, cut_U (show (0 : Int) ≤ 1 by omega)]
      rw [show Int.toNat 1 = 1 from rfl, ← List.map_drop, ← List.map_take]
      generalize ((v : Int) % max 1 ((namesOf (lets ks) pr.2).length : Int)).toNat = j
      have tk := take1 ((namesOf (lets ks) pr.2).drop j)
      have tkk : (ps.map (·.2)).take (i + 1) = (ps.map (·.2)).take i ++ [pr.2] := by
        rw [List.take_add_one, List.getElem?_map, hpi]; rfl
      rcases tk with tk | ⟨y, tk, hy⟩
      · rw [tk, W_addL (Nat.le_trans (show _ ≤ 100000 by simp; omega) most_big), ← List.map_append]
        simp
        exact Opq.in ⟨xs, _, _, rfl, by omega, fun e => by omega, hm3, hf2.trans f3⟩
      · rw [tk, W_addL (Nat.le_trans (show _ ≤ 100000 by simp; omega) most_big)]
        simp
        obtain ⟨y1, y2⟩ := namesOf_mem (List.mem_of_mem_drop hy) (by omega)
        refine Opq.in ⟨xs ++ [y], some (.str pr.1), some (.str pr.2.s), ?_, by simp; omega, fun e => by rw [tkk]; exact areOf_snoc y1 y2 (hx2 (by simp at e; omega)), hm3, hf2.trans f3⟩
        rw [List.map_append]; rfl
  · rintro ρ m2 ⟨xs, x7, x11, rfl, hx1, hx2, hm2, hf2⟩
    have hlen : ds1.length = ps.length := by simpa using hr.length
    rw [hlen] at hx1 hx2
    refine q xs x7 x11 m2 hx1 (fun e => ?_) hm2 hf2
    have := hx2 e
    rwa [List.take_of_length_le (by simp)] at this
theorem mul3 {d : D} {P : D → Prop} : W (bin .mul m (.nd true .lst [d]) (.int 3)) P ↔ P (.nd true .lst [d, d, d]) := by
  have e : bin .mul m (.nd true .lst [d]) (.int 3) = .ok (.nd true .lst [d, d, d]) := rfl
  rw [e, W_ok]
theorem f_deed (Z : DrawP Pg) {s h : Nat} {kd : D} {ks : List Kn} {hs : List Hd} {hds : List D} (hm : StOk m s) (hh : m[h]? = some ⟨.lst, hds⟩) (hr : HdRs hds hs) (hn : h ≠ s) (hb : hs.length ≤ 6) (hb2 : ∀ h ∈ hs, h.1.length ≤ 4) (hd : Rep kd (.list ((lets ks).map parP))) (hl : ks.length ≤ 25) (q : ∀ d a j m', Rep d (dkP (a, j)) → ow d = true → kindOf (Ph hs) (lets ks) a = some j → StOk m' s → Fr1 s m m' → Q (d, m')) :
    W (callN Pg (k + 2) "_law_deed" [.loc s, .loc h, kd] m) Q := by
  rw [W_callN Z.deed]
  have l1 := namesOf_len (ks := ks) (j := .nu)
  have l2 := namesOf_len (ks := ks) (j := .li)
  have o1 := fun (Q : D × Mem → Prop) => f_of (k := k) (m := []) (Q := Q) (j := .nu) Z.of_ hd (lets_small hl)
  have o2 := fun (Q : D × Mem → Prop) => f_of (k := k) (m := []) (Q := Q) (j := .li) Z.of_ hd (lets_small hl)
  simp only [Kn.s] at o1 o2
  have fz : ∀ (l : List Str), snap true false 4 [] (.nd true .lst (l.map D.str)) = some (.nd true .lst (l.map D.str)) := fun l => frz_ow 4 (by simpa [ow] using ows_strs l)
  simp [Cm._law_deed_b, out, W_pc, lfs, lf, hd.lf, o1, o2, fz]
  refine d_drawn (k := k) Z.drawn hm (by omega) (by omega) fun v m1 hv hm1 f1 => ?_
  simp
  have hst : isStep ((v : Int) - 2) = true := by simp [isStep]; omega
  have I0 : Opt hs (lets ks) s m (m1 ++ [⟨.lst, [T' true true [T' true true [.str "num", .int (v - 2)], .str "number"], T' true true [T' true true [.str "nil"], .str "list"], T' true true [T' true true [.str "ask"], .str "number"]]⟩]) m1.length 3 := by
    refine ⟨_, [(.num (v - 2), .nu), (.nil, .li), (.ask, .nu)], app_self, ?_, by simp [ows, ow], ?_, by simp, by simp, hm1.app, f1.one.app, by rw [f1.len]; exact Nat.le_refl _, hm.lt⟩
    · simp [dkP, De.p, Kn.s]
    · intro q hq
      simp at hq
      rcases hq with rfl | rfl | rfl
      · simp [kindOf, hst]
      · rfl
      · rfl
  refine deed_l1 hst (fun x hx => namesOf_mem hx (by omega)) (fun x hx => namesOf_mem hx (by omega)) (by omega) (by omega) (by omega) I0 fun c x7 x8 m2 hO => ?_
  simp
  refine deed_l2 (fun x hx => namesOf_mem hx (by omega)) (by omega) (by omega) hO fun c x7 x8 m3 hO => ?_
  have hlh : hds.length = hs.length := hr.length
  have hh3 : m3[h]? = some ⟨.lst, hds⟩ := hO.st.2.1.cell hh hn
  simp [W_lenLoc hh3, small_nat (show hds.length ≤ 1000000 by omega)]
  refine ⟨by decide, ?_⟩
  refine W_forS (fun i ρ m' => ∃ c x7 x8 x9 x10 x11, ρ = [some (.loc s), some (.loc h), some kd, some (.nd true .lst ((namesOf (lets ks) .nu).map D.str)), some (.nd true .lst ((namesOf (lets ks) .li).map D.str)), some (.int (v - 2)), some (.loc c), x7, x8, x9, x10, x11] ∧ Opt hs (lets ks) s m m' c (3 + 25 * 51 + 25 * 3 + i * 3)) _ _ _ ⟨_, _, _, _, _, _, rfl, hO⟩ ?_ ?_
  · rintro i d ρ m4 hi ⟨c, x7, x8, x9, x10, x11, rfl, hO⟩
    have hi' : i < (hds.length - 1 : Int).toNat := by simpa [rngD_len] using (List.getElem?_eq_some_iff.mp hi).1
    have hd1 : d = .int ((1 + i : Nat) : Int) := by
      have := (List.getElem?_eq_some_iff.mp hi).2
      simp [rngD] at this
      rw [← this]
      simp
    subst hd1
    have hh4 : m4[h]? = some ⟨.lst, hds⟩ := hO.st.2.1.cell hh hn
    have hil : 1 + i < hds.length := by omega
    obtain ⟨hd', hg, o, b, o1', ds1, he, hr1⟩ := hr.get (List.getElem?_eq_getElem hil)
    have hat : L2.atI hds ((1 + i : Nat) : Int) = some (T' o b [T' o1' true ds1, .str hd'.2.s]) := by rw [atI_nat, List.getElem?_eq_getElem hil, he]
    have hlp : hd'.1.length ≤ 4 := hb2 hd' (List.mem_of_getElem? hg)
    have hld : ds1.length = hd'.1.length := by simpa using hr1.length
    generalize hf : 1 + i = f at hat hg hil
    simp [Cm._law_deed_b3, idx_loc hh4, hat]
    refine deed_l3 Z hO.st.1 hd hl hr1 hlp fun xs x7 x11 m5 hx1 hx2 hm5 hf5 => ?_
    have hO5 := hO.fr0 hf5 hm5
    have hh5 : m5[h]? = some ⟨.lst, hds⟩ := hO5.st.2.1.cell hh hn
    obtain ⟨ds, hc, hlen, _⟩ := hO5.cell
    simp [idx_loc hh5, hat]
    refine Br.mk (fun e => ?_) (fun e => ?_)
    · have e1 : ((xs.length : Int) = ds1.length) := by simpa using e
      have e : xs.length = hd'.1.length := by omega
      have hk : kindOf (Ph hs) (lets ks) (.call f xs) = some hd'.2 := by
        have : (Ph hs)[f]? = some ⟨hd'.1, hd'.2, .tell ""⟩ := by unfold Ph; rw [List.getElem?_map, hg]; rfl
        simp only [kindOf, this, show 1 ≤ f by omega, if_true, hx2 e]
      have hp := hO5.more hc (rs := [T' true true [T' true true [.str "call", .int f, T' true true (xs.map D.str)], .str hd'.2.s], T' true true [T' true true [.str "call", .int f, T' true true (xs.map D.str)], .str hd'.2.s], T' true true [T' true true [.str "call", .int f, T' true true (xs.map D.str)], .str hd'.2.s]]) (L := [(.call f xs, hd'.2), (.call f xs, hd'.2), (.call f xs, hd'.2)]) (by simp [dkP, De.p, reps_strs]) (by simp [ows, ow, ows_strs]) (by
        intro z hz
        simp at hz
        subst hz
        exact hk)
      simp [idx_loc hh5, hat, mul3, W_catD hc (ys := [T' true true [T' true true [.str "call", .int f, T' true true (xs.map D.str)], .str hd'.2.s], T' true true [T' true true [.str "call", .int f, T' true true (xs.map D.str)], .str hd'.2.s], T' true true [T' true true [.str "call", .int f, T' true true (xs.map D.str)], .str hd'.2.s]]) (hO5.small hc (n := 3) (by omega))]
      exact Opq.in ⟨_, _, _, _, _, _, rfl, hp.wk (by simp; omega)⟩
    · simp
      exact Opq.in ⟨_, _, _, _, _, _, rfl, hO5.wk (by omega)⟩
  · rintro ρ m4 ⟨c, x7, x8, x9, x10, x11, rfl, hO⟩
    obtain ⟨ds, hc, hlen, hlen1⟩ := hO.cell
    rw [rngD_len] at hlen
    simp [W_lenLoc hc]
    refine d_drawn (k := k) Z.drawn hO.st.1 (by omega) (by omega) fun v m5 hv hm5 f5 => ?_
    have hO5 := hO.fr0 f5 hm5
    obtain ⟨ds', L, e1, h1, h2, h3, h4, h5, h6, h7, h8, h9⟩ := hO5
    have e2 : m5[c]? = some ⟨.lst, ds⟩ := by rw [f5.at_ c (by have := hO.st.2.2; omega)]; exact hc
    rw [e1] at e2
    cases e2
    have hv' : v < ds.length := by omega
    have hat : L2.atI ds (v : Int) = some ds[v] := by rw [atI_nat, List.getElem?_eq_getElem hv']
    obtain ⟨p, hp1, hp2⟩ := h1.get (List.getElem?_eq_getElem hv')
    rw [List.getElem?_map] at hp1
    cases ha : L[v]? with
    | none => rw [ha] at hp1; cases hp1
    | some a =>
      rw [ha] at hp1
      cases hp1
      simp [idx_loc e1, hat]
      exact q _ a.1 a.2 m5 hp2 (ows_get h2 (List.getElem?_eq_getElem hv')) (h3 a (List.mem_of_getElem? ha)) hm5 h7
end
end Mi
end
section
set_option linter.all false
set_option Elab.async false
set_option maxRecDepth 100000
set_option maxHeartbeats 4000000
/-! Mq4: a tree is drawn. -/
namespace Mi
open PySem Pm
theorem canLay_map {α : Type} (f : α → PyData) : ∀ (l : List α), (∀ a ∈ l, (f a).canLay0 = true) → PyData.canLayAll0 (l.map f) = true
  | [], _ => by simp [PyData.canLayAll0]
  | a :: l, h => by simp only [List.map_cons, PyData.canLayAll0, h a (List.mem_cons_self ..), canLay_map f l fun b hb => h b (List.mem_cons_of_mem _ hb), Bool.and_self]
theorem depth_map {α : Type} (f : α → PyData) (n : Nat) : ∀ (l : List α), (∀ a ∈ l, (f a).depth ≤ n) → PyData.depthAll (l.map f) ≤ n
  | [], _ => by simp [PyData.depthAll]
  | a :: l, h => by
    have h1 := h a (List.mem_cons_self ..)
    have h2 := depth_map f n l fun b hb => h b (List.mem_cons_of_mem _ hb)
    simp only [List.map_cons, PyData.depthAll]
    omega
theorem shaped_strs {xs : List Str} (h : ∀ x ∈ xs, PyData.strOk x = true) : SeqAt.shaped (.list (xs.map PyData.str)) = true := by
  unfold SeqAt.shaped
  simp only [PyData.canLay0, PyData.depth, canLay_map PyData.str xs fun x hx => by simpa [PyData.canLay0] using h x hx, Bool.true_and]
  have := depth_map PyData.str 0 xs fun x _ => by simp [PyData.depth]
  exact decide_eq_true (by omega)
section
variable {Pg : Prg} {k : Nat} {m m' m0 : Mem} {Q : D × Mem → Prop} {cal : Cal}
theorem W_eqStrs {xs : List Str} {o o' : Bool} (h : ∀ x ∈ xs, PyData.strOk x = true) {P : Bool → Prop} : W (cmpB .eq m (.nd o .lst (xs.map D.str)) (.nd o' .lst [])) P ↔ P xs.isEmpty := by
  rw [W_eq (p := .list (xs.map PyData.str)) (q := .list []) (by simpa using reps_strs xs) (by simp) (shaped_strs h) (by simp)]
  cases xs <;> simp [PyData.eqv, PyData.eqvAll]
theorem W_neStrs {xs : List Str} {o o' : Bool} (h : ∀ x ∈ xs, PyData.strOk x = true) {P : Bool → Prop} : W (cmpB .ne m (.nd o .lst (xs.map D.str)) (.nd o' .lst [])) P ↔ P (!xs.isEmpty) := by
  rw [W_ne (p := .list (xs.map PyData.str)) (q := .list []) (by simpa using reps_strs xs) (by simp) (shaped_strs h) (by simp)]
  cases xs <;> simp [PyData.eqv, PyData.eqvAll]
theorem W_addT {o b o' b' : Bool} {xs ys : List D} {P : D → Prop} (hl : xs.length + ys.length ≤ most) : W (bin .add m (T' o b xs) (T' o' b' ys)) P ↔ P (T' true false (xs ++ ys)) := by
  have e : bin .add m (T' o b xs) (T' o' b' ys) = if xs.length + ys.length ≤ most then .ok (tupD (xs ++ ys)) else .bad := by cases b <;> cases b' <;> rfl
  rw [e, if_pos hl, W_ok]
  rfl
section
variable {α : Type} {f : D → α → Mem → R (α × Mem)} {a : α} {P : α × Mem → Prop} {d : D} {ds : List D}
@[simp] theorem W_go0 : W (goSt f [] a m) P ↔ P (a, m) := by unfold goSt; rw [W_ok]
@[simp] theorem W_go1 : W (goSt f (d :: ds) a m) P ↔ W (f d a m) fun r => W (goSt f ds r.1 r.2) P := by unfold goSt; rw [W_bind]
end
/-- how many trees at the most -/
def sz : Nat → Nat
  | 0 => 2
  | 1 => 5
  | n + 2 => 1 + sz (n + 1) + sz n
theorem sz_ge : ∀ n, 2 ≤ sz n
  | 0 => by simp [sz]
  | 1 => by simp [sz]
  | n + 2 => by have := sz_ge n; simp [sz]; omega
theorem sz_le (n : Nat) : 1 + sz n ≤ sz (n + 1) := by
  cases n with
  | zero => simp [sz]
  | succ n => simp [sz]
theorem lets_snoc {ks : List Kn} {j : Kn} {kd : D} (hd : Rep kd (.list ((lets ks).map parP))) (hl : ks.length ≤ 1000) {P : D → Prop} (q : ∀ d, Rep d (.list ((lets (ks ++ [j])).map parP)) → P d) : W (bin .add m kd (.nd true .lst [T' true true [.str (ltr ks.length), .str j.s]])) P := by
  obtain ⟨o, ds, rfl, hr⟩ := Rep_list.mp hd
  have : ds.length = ks.length := by simpa [lets_len] using hr.length
  rw [W_addL (Nat.le_trans (show _ ≤ 100000 by simp; omega) most_big)]
  refine q _ ?_
  rw [lets_app, List.map_append]
  exact rep_L.mpr (hr.append (by simp [parP]))
theorem fz_strs (l : List Str) : snap true false 4 [] (.nd true .lst (l.map D.str)) = some (.nd true .lst (l.map D.str)) := frz_ow 4 (by simpa [ow] using ows_strs l)
theorem lets_let {hs : List Hd} {ks : List Kn} {κ j : Kn} {w : Nat} {a : De} {t : Tr} (hl : ks.length ≤ 25) (hw : w ≤ 20) (ha : kindOf (Ph hs) (lets ks) a = some j) (ht : okTr (Ph hs) κ (lets (ks ++ [j])) (w + 1) t = true) : okTr (Ph hs) κ (lets ks) w (.let_ (ltr ks.length) a t) = true := by
  simp only [okTr, ha, Bool.and_eq_true, decide_eq_true_eq]
  exact ⟨hw, letter_name _ (by omega), lets_fresh, by rw [← lets_app]; exact ht⟩
theorem lets_tell {hs : List Hd} {ks : List Kn} {κ : Kn} {w : Nat} {x : Str} (hl : ks.length ≤ 25) (hw : w ≤ 20) (hx : x ∈ namesOf (lets ks) κ) : okTr (Ph hs) κ (lets ks) w (.tell x) = true := by
  obtain ⟨h1, h2⟩ := namesOf_mem hx (by omega)
  simp [okTr, h1, h2, hw]
theorem lets_last {ks : List Kn} {κ : Kn} : ltr ks.length ∈ namesOf (lets (ks ++ [κ])) κ := by
  unfold namesOf
  rw [lets_app, List.filter_append, List.map_append]
  exact List.mem_append_right _ (by simp)
theorem f_leaf (Z : DrawP Pg) {s h : Nat} {hs : List Hd} {κ : Kn} {deep : Int} {ks : List Kn} {kd : D} {w : Nat} (hde : deep ≤ 0) (hm : StOk m s) (hd : Rep kd (.list ((lets ks).map parP))) (hl : ks.length ≤ 24) (hw : w ≤ 19) 
    (q : ∀ d t m', Rep d (Tr.p t) → ow d = true → okTr (Ph hs) κ (lets ks) w t = true → t.size ≤ 2 → StOk m' s → Fr1 s m m' → Q (d, m')) :
    W (callN Pg (k + 2) "_law_tree" [.loc s, .loc h, .str κ.s, kd, .int deep] m) Q := by
  have oo := fun (Q : D × Mem → Prop) => f_of (k := k) (m := []) (Q := Q) (j := κ) Z.of_ hd (lets_small (by omega))
  have nm := fun x hx => @namesOf_mem ks κ x hx (by omega)
  have nl := namesOf_len (ks := ks) (j := κ)
  obtain ⟨o, kds, rfl, hkr⟩ := Rep_list.mp hd
  have hkl : kds.length = ks.length := by simpa [lets_len] using hkr.length
  rw [W_callN Z.tree]
  simp [Cm._law_tree_b, out, W_pc, lfs, lf, hkr.lfs, oo, fz_strs, hkl, letter_at (show ks.length < 26 by omega), hde, W_eqStrs (fun x hx => strOk_name (nm x hx).1)]
  have hx0 : ∀ x, x ∈ namesOf (lets ks) κ → x ∈ namesOf (lets ks) κ := fun _ h => h
  generalize hg : namesOf (lets ks) κ = xs at nm nl hx0
  cases xs with
  | nil =>
    cases κ with
    | nu =>
      simp [Kn.s]
      exact q _ (.let_ (ltr ks.length) (.num 1) (.tell (ltr ks.length))) m (by simp [Tr.p, De.p]) (by simp [ow, ows]) (lets_let (by omega) (by omega) (j := .nu) (by simp [kindOf, isStep]) (lets_tell (by simp; omega) (by omega) lets_last)) (by simp [Tr.size]) hm Fr1.refl
    | li =>
      simp [Kn.s]
      exact q _ (.let_ (ltr ks.length) .nil (.tell (ltr ks.length))) m (by simp [Tr.p, De.p]) (by simp [ow, ows]) (lets_let (by omega) (by omega) (j := .li) (by simp [kindOf]) (lets_tell (by simp; omega) (by omega) lets_last)) (by simp [Tr.size]) hm Fr1.refl
  | cons x xs =>
    simp [hde]
    refine d_drawn (k := k) Z.drawn hm (by omega) (by simp at nl; omega) fun v m1 hv hm1 f1 => ?_
    have hv' : v < (x :: xs).length := by simp; omega
    have hat : L2.atI (D.str x :: xs.map D.str) (v : Int) = some (.str (x :: xs)[v]) := by
      rw [atI_nat, ← List.map_cons, List.getElem?_map, List.getElem?_eq_getElem hv']; rfl
    simp [hat]
    exact q _ (.tell (x :: xs)[v]) m1 (by simp [Tr.p]) (by simp [ow, ows]) (lets_tell (by omega) (by omega) (by rw [hg]; exact List.getElem_mem hv')) (by simp [Tr.size]) hm1 f1.one
end
end Mi
end
section
set_option linter.all false
set_option Elab.async false
set_option maxRecDepth 100000
set_option maxHeartbeats 4000000
/-! Mq5: a tree is drawn, the end. -/
namespace Mi
open PySem Pm
section
variable {Pg : Prg} {k : Nat} {m m' m0 : Mem} {Q : D × Mem → Prop} {cal : Cal}
theorem Fr1.get {s n : Nat} {c : Cell} (h : Fr1 s m m') (e : m[n]? = some c) (hs : n ≠ s) : m'[n]? = some c := h.cell e hs
theorem ifc_at {v : Nat} (h : v < 2) : L2.atI [D.str "if", D.str "claim"] ((v : Int)) = some (if v = 0 then .str "if" else .str "claim") := by
  match v, h with
  | 0, _ => rfl
  | 1, _ => rfl
theorem W_ssApp {a b : List S} {P : Fl × Mem → Prop} : ∀ {ρ : Env} {m : Mem}, W (evSs cal (a ++ b) ρ m) P ↔ W (evSs cal a ρ m) (Then cal b P) := by
  induction a with
  | nil => intro ρ m; simp
  | cons s a ih =>
    intro ρ m
    rw [List.cons_append, W_ss1, W_ss1]
    constructor
    · intro h; refine h.mono fun r hr => ?_
      obtain ⟨r1, r2⟩ := r
      cases r1 with
      | nx ρ => exact ih.mp hr
      | rt v => exact hr
    · intro h; refine h.mono fun r hr => ?_
      obtain ⟨r1, r2⟩ := r
      cases r1 with
      | nx ρ => exact ih.mpr hr
      | rt v => exact hr
def treeA : List S := Cm._law_tree_b.take 4
def treeR : List S := Cm._law_tree_b.drop 4
theorem tree_b : Cm._law_tree_b = treeA ++ treeR := rfl
theorem tree_if {hs : List Hd} {κ : Kn} {g : Kno} {w : Nat} {a b : Me} {n : Int} {t u : Tr} (hw : w ≤ 20) (ha : isMe g a = true) (hb : isMe g b = true) (hn : isStep n = true) (ht : okTr (Ph hs) κ g (w + 1) t = true) (hu : okTr (Ph hs) κ g (w + 1) u = true) : okTr (Ph hs) κ g w (.if_ a b n t u) = true := by
  simp [okTr, hw, ha, hb, hn, ht, hu]
theorem tree_claim {hs : List Hd} {κ : Kn} {g : Kno} {w : Nat} {a b : Me} {n : Int} {t : Tr} (hw : w ≤ 20) (ha : isMe g a = true) (hb : isMe g b = true) (hn : isStep n = true) (ht : okTr (Ph hs) κ g (w + 1) t = true) : okTr (Ph hs) κ g w (.claim a b n t) = true := by
  simp [okTr, hw, ha, hb, hn, ht]
theorem putL0 {sh : Sh} {d : D} : putL (sh, []) d = .ok (sh, [d]) := by simp [putL]; decide
theorem putL1 {sh : Sh} {d e : D} : putL (sh, [e]) d = .ok (sh, [e, d]) := by simp [putL]; decide
theorem rng02 : rngD 0 2 = [.int 0, .int 1] := rfl
theorem rng01 : rngD 0 1 = [.int 0] := rfl
theorem f_tree (Z : DrawP Pg) {s h : Nat} {hs : List Hd} {hds : List D} {κ : Kn} (hr : HdRs hds hs) (hn : h ≠ s) (hb : hs.length ≤ 6) (hb2 : ∀ h ∈ hs, h.1.length ≤ 4) : ∀ (n : Nat) {m : Mem} {deep : Int} {ks : List Kn} {kd : D} {w k : Nat} {Q : D × Mem → Prop}, deep ≤ n → StOk m s → m[h]? = some ⟨.lst, hds⟩ → Rep kd (.list ((lets ks).map parP)) → ks.length + n ≤ 24 → w + n ≤ 19 →
    (∀ d t m', Rep d (Tr.p t) → ow d = true → okTr (Ph hs) κ (lets ks) w t = true → t.size ≤ sz n → StOk m' s → Fr1 s m m' → Q (d, m')) →
    W (callN Pg (k + n + 3) "_law_tree" [.loc s, .loc h, .str κ.s, kd, .int deep] m) Q := by
  intro n
  induction n using Nat.strongRecOn with | _ n ih => ?_
  cases n with
  | zero =>
    intro m deep ks kd w k Q hde hm hh hd hl hw q
    exact f_leaf (k := k + 1) Z (by omega) hm hd (by omega) (by omega) q
  | succ n =>
    intro m deep ks kd w k Q hde hm hh hd hl hw q
    by_cases hde0 : deep ≤ 0
    · exact f_leaf (k := k + n + 2) Z hde0 hm hd (by omega) (by omega) fun d t m' h1 h2 h3 h4 h5 h6 => q d t m' h1 h2 h3 (Nat.le_trans h4 (sz_ge _)) h5 h6
    have oo := fun (Q : D × Mem → Prop) => f_of (k := k + n + 2) (m := []) (Q := Q) (j := κ) Z.of_ hd (lets_small (by omega))
    have nm := fun x hx => @namesOf_mem ks κ x hx (by omega)
    have nl := namesOf_len (ks := ks) (j := κ)
    have hdl := hd
    obtain ⟨o, kds, rfl, hkr⟩ := Rep_list.mp hd
    have hkl : kds.length = ks.length := by simpa [lets_len] using hkr.length
    rw [show k + (n + 1) + 3 = k + n + 3 + 1 by omega, W_callN Z.tree, tree_b]
    have rest : ∀ m2, StOk m2 s → Fr1 s m m2 → W (evSs (callN Pg (k + n + 3)) treeR [some (.loc s), some (.loc h), some (.str κ.s), some (.nd o .lst kds), some (.int deep), some (.nd true .lst ((namesOf (lets ks) κ).map D.str)), some (.str (ltr ks.length)), none, none, none, none, none, none] m2) fun r => Q (out r.1, r.2) := by
      intro m2 hm2 f2
      simp only [treeR, Cm._law_tree_b, List.drop]
      simp
      refine d_drawn (k := k + n + 2) Z.drawn hm2 (by omega) (by omega) fun v m3 hv hm3 f3 => ?_
      simp
      have f3 := f2.trans f3.one
      refine Br.mk (fun hv4 => ?_) (fun hv4 => ?_)
      · simp
        refine f_deed (k := k + n + 1) Z hm3 (f3.cell hh hn) hr hn hb hb2 hdl (by omega) fun d a j m4 hda hoa hka hm4 f4 => ?_
        obtain ⟨o1, b1, e1, e2, rfl, r1, r2⟩ := Rep.t2 hda
        rw [Rep_str] at r2
        subst r2
        have f4 := f3.trans f4
        simp
        refine lets_snoc hdl (by omega) fun kd2 hkd2 => ?_
        simp
        refine ih n (by omega) (by omega) hm4 (f4.cell hh hn) hkd2 (by simp; omega) (w := w + 1) (by omega) fun d t m5 h1 h2 h3 h4 h5 h6 => ?_
        simp [out]
        exact q _ (.let_ (ltr ks.length) a t) m5 (by simp [Tr.p, r1, h1]) (by simp [ow, ows] at hoa ⊢; exact ⟨hoa.2, h2⟩) (lets_let (by omega) (by omega) hka h3) (by simp [Tr.size]; have := sz_le n; omega) h5 (f4.trans h6)
      · simp at hv4
        have two : ∃ b2, 1 + sz n + b2 ≤ sz (n + 1) ∧ ∀ (m : Mem) (Q : D × Mem → Prop), StOk m s → m[h]? = some ⟨.lst, hds⟩ → (∀ d t m', Rep d (Tr.p t) → ow d = true → okTr (Ph hs) κ (lets ks) (w + 1) t = true → t.size ≤ b2 → StOk m' s → Fr1 s m m' → Q (d, m')) → W (callN Pg (k + n + 3) "_law_tree" [.loc s, .loc h, .str κ.s, .nd o .lst kds, .int (deep - 1 - 1)] m) Q := by
          cases n with
          | zero => exact ⟨2, by simp [sz], fun m Q hm hh q => f_leaf (k := k + 1) Z (by omega) hm hdl (by omega) (by omega) q⟩
          | succ n' =>
            refine ⟨sz n', by simp [sz], fun m Q hm hh q => ?_⟩
            rw [show k + (n' + 1) + 3 = k + 1 + n' + 3 by omega]
            exact ih n' (by omega) (by omega) hm hh hdl (by omega) (by omega) q
        obtain ⟨b2, hb2', two⟩ := two
        have hv45 : v = 4 ∨ v = 5 := by omega
        simp only [W_ss0, Then_nx]
        rcases hv45 with rfl | rfl
        · simp
          refine f_measure (k := k + n + 1) Z hm3 hdl (by omega) fun d1 a1 m4 hd1 ho1 hk1 hm4 f4 => ?_
          simp
          refine f_measure (k := k + n + 1) Z hm4 hdl (by omega) fun d2 a2 m5 hd2 ho2 hk2 hm5 f5 => ?_
          simp
          refine d_drawn (k := k + n + 2) Z.drawn hm5 (by omega) (by omega) fun u m6 hu hm6 f6 => ?_
          have f6 := f3.trans ((f4.trans f5).trans f6).one
          simp [rng02, wipe]
          refine ⟨by decide, ?_⟩
          refine ih n (by omega) (by omega) hm6 (f6.cell hh hn) hdl (by omega) (w := w + 1) (by omega) fun x1 t m7 h1 h2 h3 h4 hm7 f7 => ?_
          have f7 := f6.trans f7
          simp [putL0, wipe]
          refine two m7 _ hm7 (f7.cell hh hn) fun x2 t2 m8 g1 g2 g3 g4 hm8 f8 => ?_
          have f8 := f7.trans f8
          simp [putL1, W_addT (xs := [D.str (Str.ofString "if"), d1, d2, D.int (↑u - 2)]) (ys := [x1, x2]) (Nat.le_trans (show _ ≤ 100000 by simp) most_big), out]
          exact q _ (.if_ a1 a2 (u - 2) t t2) m8 (by simp [Tr.p, hd1, hd2, h1, g1]) (by simp [ow, ows, ho1, ho2, h2, g2]) (tree_if (by omega) hk1 hk2 (by simp [isStep]; omega) h3 g3) (by simp [Tr.size]; omega) hm8 f8
        · simp
          refine f_measure (k := k + n + 1) Z hm3 hdl (by omega) fun d1 a1 m4 hd1 ho1 hk1 hm4 f4 => ?_
          simp
          refine f_measure (k := k + n + 1) Z hm4 hdl (by omega) fun d2 a2 m5 hd2 ho2 hk2 hm5 f5 => ?_
          simp
          refine d_drawn (k := k + n + 2) Z.drawn hm5 (by omega) (by omega) fun u m6 hu hm6 f6 => ?_
          have f6 := f3.trans ((f4.trans f5).trans f6).one
          simp [rng01, wipe]
          refine ⟨by decide, ?_⟩
          refine ih n (by omega) (by omega) hm6 (f6.cell hh hn) hdl (by omega) (w := w + 1) (by omega) fun x1 t m7 h1 h2 h3 h4 hm7 f7 => ?_
          have f7 := f6.trans f7
          simp [putL0, W_addT (xs := [D.str (Str.ofString "claim"), d1, d2, D.int (↑u - 2)]) (ys := [x1]) (Nat.le_trans (show _ ≤ 100000 by simp) most_big), out]
          exact q _ (.claim a1 a2 (u - 2) t) m7 (by simp [Tr.p, hd1, hd2, h1]) (by simp [ow, ows, ho1, ho2, h2]) (tree_claim (by omega) hk1 hk2 (by simp [isStep]; omega) h3) (by simp [Tr.size]; omega) hm7 f7
    simp [treeA, Cm._law_tree_b, W_ssApp, out, W_pc, lfs, lf, hkr.lfs, oo, fz_strs, hkl, letter_at (show ks.length < 26 by omega), W_eqStrs (fun x hx => strOk_name (nm x hx).1), hde0, W_neStrs (fun x hx => strOk_name (nm x hx).1)]
    refine Br.mk (fun he => ?_) (fun he => ?_)
    · simp
      refine d_drawn (k := k + n + 2) Z.drawn hm (by omega) (by omega) fun v m2 hv hm2 f2 => ?_
      simp
      refine Br.mk (fun hv0 => ?_) (fun hv0 => ?_)
      · simp
        have hl1 : 1 ≤ (namesOf (lets ks) κ).length := by
          cases hx : namesOf (lets ks) κ with
          | nil => rw [hx] at he; simp at he
          | cons x xs => simp
        refine d_drawn (k := k + n + 2) Z.drawn hm2 (by omega) (by omega) fun v m3 hv hm3 f3 => ?_
        have hv' : v < (namesOf (lets ks) κ).length := by omega
        have hat : L2.atI ((namesOf (lets ks) κ).map D.str) (v : Int) = some (.str (namesOf (lets ks) κ)[v]) := by
          rw [atI_nat, List.getElem?_map, List.getElem?_eq_getElem hv']; rfl
        simp [hat, out]
        exact q _ (.tell (namesOf (lets ks) κ)[v]) m3 (by simp [Tr.p]) (by simp [ow, ows]) (lets_tell (by omega) (by omega) (List.getElem_mem hv')) (by simp [Tr.size]; have := sz_ge (n + 1); omega) hm3 (f2.trans f3).one
      · simp
        exact rest m2 hm2 f2.one
    · simp
      exact rest m hm Fr1.refl
end
end Mi
end
section
set_option linter.all false
set_option Elab.async false
set_option maxRecDepth 100000
set_option maxHeartbeats 4000000
/-! Mq6: programs that can be are shaped; heads alone matter. -/
namespace Mi
open PySem Pm
theorem kindOf_heads {hs : List Hd} {P : Pr} (h : P.map (fun f => (f.ps, f.k)) = hs) {κ : Kno} : ∀ d, kindOf (Ph hs) κ d = kindOf P κ d
  | .num n => rfl
  | .sum x n => rfl
  | .len x => rfl
  | .nil => rfl
  | .put x y => rfl
  | .head x => rfl
  | .tail x => rfl
  | .at x y => rfl
  | .ask => rfl
  | .call f xs => by
    subst h
    simp only [kindOf, Ph, List.map_map, List.getElem?_map]
    cases P[f]? <;> rfl
theorem okTr_heads {hs : List Hd} {P : Pr} (h : P.map (fun f => (f.ps, f.k)) = hs) {k : Kn} : ∀ {t : Tr} {κ : Kno} {w : Nat}, okTr (Ph hs) k κ w t = okTr P k κ w t
  | .tell x, κ, w => rfl
  | .let_ x d t, κ, w => by
    simp only [okTr, kindOf_heads h]
    cases kindOf P κ d with
    | none => rfl
    | some j => simp only [okTr_heads h (t := t)]
  | .claim a b n t, κ, w => by simp only [okTr, okTr_heads h (t := t)]
  | .if_ a b n t u, κ, w => by simp only [okTr, okTr_heads h (t := t), okTr_heads h (t := u)]
theorem areOf_names {κ : Kno} : ∀ {xs : List Str} {ks : List Kn}, areOf κ xs ks = true → ∀ x ∈ xs, isName x = true
  | [], _, _, x, hx => by cases hx
  | y :: xs, [], h, x, hx => by simp [areOf] at h
  | y :: xs, z :: ks, h, x, hx => by
    simp only [areOf, Bool.and_eq_true] at h
    rcases List.mem_cons.mp hx with rfl | hx
    · exact h.1.1
    · exact areOf_names h.2 x hx
theorem kindOf_lay {P : Pr} {κ : Kno} {j : Kn} : ∀ {d : De}, kindOf P κ d = some j → d.p.canLay0 = true ∧ d.p.depth ≤ 2
  | .num n, h => by simp [De.p, PyData.canLay0, PyData.canLayAll0, PyData.depth, PyData.depthAll]
  | .sum x n, h => by
    simp only [kindOf, areOf, Bool.and_true] at h
    split at h
    · rename_i hh
      simp at hh
      simp [De.p, PyData.canLay0, PyData.canLayAll0, PyData.depth, PyData.depthAll, strOk_name hh.1.1]
    · cases h
  | .len x, h => by
    simp only [kindOf, areOf, Bool.and_true] at h
    split at h
    · rename_i hh
      simp at hh
      simp [De.p, PyData.canLay0, PyData.canLayAll0, PyData.depth, PyData.depthAll, strOk_name hh.1]
    · cases h
  | .nil, h => by simp [De.p, PyData.canLay0, PyData.canLayAll0, PyData.depth, PyData.depthAll]
  | .put x y, h => by
    simp only [kindOf, areOf, Bool.and_true] at h
    split at h
    · rename_i hh
      simp at hh
      simp [De.p, PyData.canLay0, PyData.canLayAll0, PyData.depth, PyData.depthAll, strOk_name hh.1.1, strOk_name hh.2.1]
    · cases h
  | .head x, h => by
    simp only [kindOf, areOf, Bool.and_true] at h
    split at h
    · rename_i hh
      simp at hh
      simp [De.p, PyData.canLay0, PyData.canLayAll0, PyData.depth, PyData.depthAll, strOk_name hh.1]
    · cases h
  | .tail x, h => by
    simp only [kindOf, areOf, Bool.and_true] at h
    split at h
    · rename_i hh
      simp at hh
      simp [De.p, PyData.canLay0, PyData.canLayAll0, PyData.depth, PyData.depthAll, strOk_name hh.1]
    · cases h
  | .at x y, h => by
    simp only [kindOf, areOf, Bool.and_true] at h
    split at h
    · rename_i hh
      simp at hh
      simp [De.p, PyData.canLay0, PyData.canLayAll0, PyData.depth, PyData.depthAll, strOk_name hh.1.1, strOk_name hh.2.1]
    · cases h
  | .ask, h => by simp [De.p, PyData.canLay0, PyData.canLayAll0, PyData.depth, PyData.depthAll]
  | .call f xs, h => by
    simp only [kindOf] at h
    split at h
    · split at h
      · split at h
        · rename_i hh
          have h1 := canLay_map PyData.str xs fun x hx => by simpa [PyData.canLay0] using strOk_name (areOf_names hh x hx)
          have h2 := depth_map PyData.str 0 xs fun x _ => by simp [PyData.depth]
          refine ⟨by simp [De.p, PyData.canLay0, PyData.canLayAll0, h1], ?_⟩
          simp [De.p, PyData.depth, PyData.depthAll]
          omega
        · cases h
      · cases h
    · cases h
theorem isMe_lay {κ : Kno} : ∀ {a : Me}, isMe κ a = true → a.p.canLay0 = true ∧ a.p.depth ≤ 1
  | .zero, _ => by simp [Me.p, PyData.canLay0, PyData.canLayAll0, PyData.depth, PyData.depthAll]
  | .of x, h => by
    simp only [isMe, Bool.and_eq_true] at h
    simp [Me.p, PyData.canLay0, PyData.canLayAll0, PyData.depth, PyData.depthAll, strOk_name h.1]
  | .len x, h => by
    simp only [isMe, Bool.and_eq_true] at h
    simp [Me.p, PyData.canLay0, PyData.canLayAll0, PyData.depth, PyData.depthAll, strOk_name h.1]
theorem okTr_lay {P : Pr} {k : Kn} : ∀ {t : Tr} {κ : Kno} {w : Nat}, okTr P k κ w t = true → t.p.canLay0 = true ∧ t.p.depth ≤ t.dep + 2
  | .tell x, κ, w, h => by
    simp only [okTr, Bool.and_eq_true, decide_eq_true_eq] at h
    simp [Tr.p, PyData.canLay0, PyData.canLayAll0, PyData.depth, PyData.depthAll, strOk_name h.2.1, Tr.dep]
  | .let_ x d t, κ, w, h => by
    simp only [okTr, Bool.and_eq_true, decide_eq_true_eq] at h
    obtain ⟨h1, h2, h3, h4⟩ := h
    split at h4
    · rename_i j hj
      obtain ⟨a1, a2⟩ := okTr_lay h4
      obtain ⟨b1, b2⟩ := kindOf_lay hj
      refine ⟨by simp [Tr.p, PyData.canLay0, PyData.canLayAll0, strOk_name h2, a1, b1], ?_⟩
      simp [Tr.p, PyData.depth, PyData.depthAll, Tr.dep]
      omega
    · cases h4
  | .claim a b n t, κ, w, h => by
    simp only [okTr, Bool.and_eq_true, decide_eq_true_eq] at h
    obtain ⟨a1, a2⟩ := okTr_lay h.2.2.2.2
    obtain ⟨b1, b2⟩ := isMe_lay h.2.1
    obtain ⟨c1, c2⟩ := isMe_lay h.2.2.1
    refine ⟨by simp [Tr.p, PyData.canLay0, PyData.canLayAll0, a1, b1, c1], ?_⟩
    simp [Tr.p, PyData.depth, PyData.depthAll, Tr.dep]
    omega
  | .if_ a b n t u, κ, w, h => by
    simp only [okTr, Bool.and_eq_true, decide_eq_true_eq] at h
    obtain ⟨a1, a2⟩ := okTr_lay h.2.2.2.2.1
    obtain ⟨d1, d2⟩ := okTr_lay h.2.2.2.2.2
    obtain ⟨b1, b2⟩ := isMe_lay h.2.1
    obtain ⟨c1, c2⟩ := isMe_lay h.2.2.1
    refine ⟨by simp [Tr.p, PyData.canLay0, PyData.canLayAll0, a1, b1, c1, d1], ?_⟩
    simp [Tr.p, PyData.depth, PyData.depthAll, Tr.dep]
    omega
/-- what can be is shaped -/
theorem okPr_shaped {P : Pr} (h : okPr P = true) : SeqAt.shaped (Pr.p P) = true := by
  simp only [okPr, Bool.and_eq_true, List.all_eq_true] at h
  have key : ∀ f ∈ P, f.p.canLay0 = true ∧ f.p.depth ≤ 30 := fun f hf => by
    have h1 := h.2 f hf
    simp only [okFu, okHd, Bool.and_eq_true, List.all_eq_true, decide_eq_true_eq] at h1
    obtain ⟨⟨p1, p2, p3⟩, p4, p5⟩ := h1
    obtain ⟨a1, a2⟩ := okTr_lay p4
    have a3 := okTr_dep p4
    have c1 := canLay_map parP f.ps fun q hq => by simp [parP, PyData.canLay0, PyData.canLayAll0, strOk_name (p2 q hq), Kn_strOk]
    have d1 := depth_map parP 1 f.ps fun q _ => by simp [parP, PyData.depth, PyData.depthAll]
    refine ⟨by simp [Fu.p, PyData.canLay0, PyData.canLayAll0, c1, a1, Kn_strOk], ?_⟩
    simp only [Fu.p, PyData.depth, PyData.depthAll]
    omega
  unfold SeqAt.shaped Pr.p
  simp only [PyData.canLay0, PyData.depth, canLay_map Fu.p P fun f hf => (key f hf).1, Bool.true_and]
  have := depth_map Fu.p 30 P fun f hf => (key f hf).2
  exact decide_eq_true (by omega)
end Mi
end
section
set_option linter.all false
set_option Elab.async false
set_option maxRecDepth 100000
set_option maxHeartbeats 4000000
/-! Mq7: a program is drawn. -/
namespace Mi
open PySem Pm
section
variable {Pg : Prg} {k : Nat} {m m' m0 : Mem} {Q : D × Mem → Prop} {cal : Cal}
theorem kn_at {v : Nat} (h : v < 2) : ∃ κ : Kn, L2.atI [D.str "number", D.str "list"] (v : Int) = some (.str κ.s) := by
  match v, h with
  | 0, _ => exact ⟨.nu, rfl⟩
  | 1, _ => exact ⟨.li, rfl⟩
theorem rng_at {n : Int} {i : Nat} {d : D} (h : (rngD 0 n)[i]? = some d) : d = .int i ∧ (i : Int) < n := by
  have h1 := (List.getElem?_eq_some_iff.mp h).1
  have h2 := (List.getElem?_eq_some_iff.mp h).2
  rw [rngD_len] at h1
  simp [rngD] at h2
  exact ⟨h2.symm, by omega⟩
def parD (q : Str × Kn) : D := T' true true [.str q.1, .str q.2.s]
theorem parD_reps : ∀ l : List (Str × Kn), Reps (l.map parD) (l.map parP)
  | [] => by simp
  | q :: l => Reps_cons.mpr ⟨_, _, rfl, by simp [parD, parP], parD_reps l⟩
theorem parD_ows : ∀ l : List (Str × Kn), ows (l.map parD) = true
  | [] => rfl
  | q :: l => by simp [ows, parD, ow, parD_ows l]
theorem W_listT' {o b fr : Bool} {ds : List D} : W (bi .list fr m [T' o b ds]) Q ↔ Q (fin fr .lst ds m) := by
  cases b <;> simp [bi, biList, asN, T', view, nrm, -tup_T', -tupP_T']
/-- a head is drawn -/
theorem head_drawn (Z : DrawP Pg) {s h : Nat} {a1 a2 x4 x5 x6 x7 x8 : Option D} {ds : List D} {P : Fl × Mem → Prop} (hm : StOk m s) (hn : h ≠ s) (hh : m[h]? = some ⟨.lst, ds⟩) (hl : ds.length ≤ 1000)
    (q : ∀ x5 x6 x7 m' ks κ, ks.length ≤ 2 → StOk m' s → Fr0 s m m' → P (.nx [some (.loc s), a1, a2, some (.loc h), x4, x5, x6, x7, x8], m'.set h ⟨.lst, ds ++ [T' true true [T' true true ((lets ks).map parD), .str (Kn.s κ)]]⟩)) :
    W (evSs (callN Pg (k + 1)) Cm._law_program_b0 [some (.loc s), a1, a2, some (.loc h), x4, x5, x6, x7, x8] m) P := by
  simp [Cm._law_program_b0]
  refine d_drawn (k := k) Z.drawn hm (by omega) (by omega) fun v m1 hv hm1 f1 => ?_
  have hsm : small (v : Int) = true := small_nat (by omega)
  simp [hsm]
  refine W_goSt (fun j acc m' => ∃ ks : List Kn, acc = (.lst, ks.map fun κ => D.str κ.s) ∧ ks.length = j ∧ StOk m' s ∧ Fr0 s m m') (rngD 0 v) _ m1 0 ⟨[], rfl, rfl, hm1, f1⟩ (fun j d acc m' hd ⟨ks, ea, hk, hst, hfr⟩ => ?_) (fun acc m2 ⟨ks, ea, hk, hst, hfr⟩ => ?_)
  · subst ea
    have hj := (rng_at hd).2
    simp [wipe]
    refine d_drawn (k := k) Z.drawn hst (by omega) (by omega) fun w m2 hw hm2 f2 => ?_
    obtain ⟨κ, hκ⟩ := kn_at (show w < 2 by omega)
    have hpl : (ks.map fun κ => D.str κ.s).length < most := by rw [List.length_map, hk]; exact Nat.lt_of_lt_of_le (show 0 + j < 100000 by omega) most_big
    simp [hκ, putL, hpl]
    simp at hpl
    simp [hpl]
    exact ⟨ks ++ [κ], by simp, by simp [hk], hm2, hfr.trans f2⟩
  · subst ea
    rw [rngD_len] at hk
    have hks : ks.length ≤ 2 := by omega
    have hsm2 : small (ks.length : Int) = true := small_nat (by omega)
    simp [hsm2]
    refine W_goSt (fun j acc m' => acc = (.lst, ((lets ks).take j).map parD) ∧ m' = m2) (rngD 0 ks.length) _ m2 0 ⟨rfl, rfl⟩ (fun j d acc m' hd ⟨ea, em⟩ => ?_) (fun acc m' ⟨ea, em⟩ => ?_)
    · subst ea em
      obtain ⟨rfl, hj⟩ := rng_at hd
      have hj : j < ks.length := by omega
      have hat : L2.atI (ks.map fun κ => D.str κ.s) (j : Int) = some (.str (ks[j]).s) := by
        rw [atI_nat, List.getElem?_map, List.getElem?_eq_getElem hj]; rfl
      simp [wipe, abc_at (show j < 3 by omega), hat, putL]
      have hpl : min j (lets ks).length < most := Nat.lt_of_lt_of_le (show _ < 100000 by omega) most_big
      simp [hpl]
      rw [List.take_add_one, List.getElem?_map, lets_get, List.getElem?_eq_getElem hj]
      simp [parD]
    · subst ea em
      rw [rngD_len, show 0 + ((ks.length : Int) - 0).toNat = (lets ks).length by rw [lets_len]; omega, List.take_length]
      simp
      have hh2 : m'[h]? = some ⟨.lst, ds⟩ := by rw [hfr.at_ h hn]; exact hh
      simp [mtOk_loc hh2 (q := .append) (by decide)]
      refine d_drawn (k := k) Z.drawn hst (by omega) (by omega) fun w m3 hw hm3 f3 => ?_
      obtain ⟨κ, hκ⟩ := kn_at (show w < 2 by omega)
      have hh3 : m3[h]? = some ⟨.lst, ds⟩ := by rw [f3.at_ h hn]; exact hh2
      simp [hκ, W_app hh3 (Nat.lt_of_lt_of_le (show _ < 100000 by omega) most_big)]
      exact q _ _ _ m3 ks κ hks hm3 (hfr.trans f3)
/-- heads that were drawn -/
structure HsOk (hs : List Hd) : Prop where
  ok : ∀ h ∈ hs, ∃ ks : List Kn, h.1 = lets ks ∧ ks.length ≤ 2
theorem sz_60 : ∀ n, n ≤ 5 → sz n ≤ 60 := by decide
theorem okHd_lets {ks : List Kn} {κ : Kn} {t : Tr} (h : ks.length ≤ 4) : okHd ⟨lets ks, κ, t⟩ = true := by
  simp only [okHd, Bool.and_eq_true, decide_eq_true_eq, List.all_eq_true]
  refine ⟨by rw [lets_len]; exact h, fun q hq => ?_, lets_nodup⟩
  obtain ⟨i, hi, h1, _⟩ := lets_mem hq
  rw [h1]
  exact letter_name i (by omega)
theorem FuRs.snoc : ∀ {ds : List D} {P : Pr} {d : D} {f : Fu}, FuRs ds P → FuR d f → FuRs (ds ++ [d]) (P ++ [f])
  | [], [], _, _, _, h => ⟨h, trivial⟩
  | d :: ds, f :: P, _, _, h, h2 => ⟨h.1, FuRs.snoc h.2 h2⟩
theorem f_program (Z : DrawP Pg) {s n : Nat} {many deep : Int} (hm : StOk m s) (h1 : 1 ≤ many) (h6 : many ≤ 6) (hd : deep ≤ n) (hn5 : n ≤ 5)
    (q : ∀ d P m', PrR d P → ow d = true → okPr P = true → (∀ f ∈ P, f.ps.length ≤ 2) → StOk m' s → Fr1 s m m' → Q (d, m')) :
    W (callN Pg (k + n + 4) "_law_program" [.loc s, .int many, .int deep] m) Q := by
  rw [W_callN Z.program]
  simp [Cm._law_program_b, out]
  have hm0 : StOk (m ++ [⟨.lst, []⟩]) s := hm.app
  refine d_drawn (k := k + n + 2) Z.drawn hm0 h1 (by omega) fun v m1 hv hm1 f1 => ?_
  have hsm : small (1 + (v : Int)) = true := by
    have := small_nat (n := 1 + v) (by omega)
    simpa using this
  simp [hsm]
  have hns : m.length ≠ s := by have := hm.lt; omega
  have f0 : Fr1 s m (m ++ [⟨.lst, []⟩]) := Fr1.refl.app
  refine W_forS (fun i ρ m' => ∃ x4 x5 x6 x7 x8 ds hs, ρ = [some (.loc s), some (.int many), some (.int deep), some (.loc m.length), x4, x5, x6, x7, x8] ∧ m'[m.length]? = some ⟨.lst, ds⟩ ∧ HdRs ds hs ∧ ows ds = true ∧ HsOk hs ∧ hs.length = i ∧ StOk m' s ∧ Fr1 s m m') _ _ _ ⟨none, none, none, none, none, [], [], rfl, by rw [f1.at_ _ hns]; simp, trivial, rfl, ⟨fun h hh => by cases hh⟩, rfl, hm1, f0.trans f1.one⟩ ?_ ?_
  · rintro i d ρ m2 hi ⟨x4, x5, x6, x7, x8, ds, hs, rfl, e1, e2, e3, e4, e5, e6, e7⟩
    obtain ⟨rfl, hi⟩ := rng_at hi
    have hld := e2.length
    simp
    refine head_drawn (k := k + n + 2) Z e6 hns e1 (by omega) fun x5 x6 x7 m3 ks κ hks hm3 f3 => ?_
    simp
    have hlt : m.length < m3.length := by rw [f3.len]; exact (List.getElem?_eq_some_iff.mp e1).1
    refine Opq.in ⟨_, x5, x6, x7, x8, _, hs ++ [(lets ks, κ)], rfl, by rw [List.getElem?_set_self hlt], e2.snoc ⟨_, _, _, _, rfl, parD_reps _⟩, by simp [ows_app, e3, ows, ow, parD_ows], ⟨fun h hh => ?_⟩, by simp [e5], hm3.set_ne hns, (e7.trans f3.one).set (Nat.le_refl _)⟩
    rcases List.mem_append.mp hh with hh | hh
    · exact e4.ok h hh
    · rw [List.mem_singleton.mp hh]; exact ⟨ks, rfl, hks⟩
  · rintro ρ m2 ⟨x4, x5, x6, x7, x8, ds, hs, rfl, e1, e2, e3, e4, e5, e6, e7⟩
    rw [rngD_len] at e5
    have hld := e2.length
    have hh4 : ∀ h ∈ hs, h.1.length ≤ 4 := fun h hh => by
      obtain ⟨ks, a, b⟩ := e4.ok h hh
      rw [a, lets_len]; omega
    have hsrc : srcOf m2 (.loc m.length) = .ok (.cell m.length false) := by simp [srcOf, e1]
    simp [hsrc]
    refine W_goCl (ds := ds) (fun j acc m' => ∃ fs P, acc = (.lst, fs) ∧ FuRs fs P ∧ ows fs = true ∧ P.map (fun f => (f.ps, f.k)) = hs.take j ∧ (∀ f ∈ P, okTr (Ph hs) f.k f.ps 1 f.t = true ∧ f.t.size ≤ 60) ∧ m'[m.length]? = some ⟨.lst, ds⟩ ∧ StOk m' s ∧ Fr1 s m m') (fun j a m' ⟨_, _, _, _, _, _, _, h, _⟩ => by simp [lstAt, h]) _ m2 ⟨[], [], rfl, trivial, rfl, rfl, (fun f hf => by cases hf), e1, e6, e7⟩ ?_ ?_
    · rintro i d acc m3 hi ⟨fs, P, rfl, g1, g2, g3, g4, g5, g6, g7⟩
      have hil : i < ds.length := (List.getElem?_eq_some_iff.mp hi).1
      obtain ⟨hd', hg, o, b, o1, ds1, rfl, hr1⟩ := e2.get hi
      obtain ⟨ks, hk1, hk2⟩ := e4.ok hd' (List.mem_of_getElem? hg)
      have hod := ows_get e3 hi
      simp [ow, ows] at hod
      simp [wipe, W_listT']
      refine f_tree (k := k) Z e2 hns (by omega) hh4 n hd g6 g5 (ks := ks) (by rw [← hk1]; simpa using hr1) (by omega) (w := 1) (by omega) fun td t m4 h1 h2 h3 h4 h5 h6 => ?_
      have hlp : P.length = i := by
        have := congrArg List.length g3
        simp at this
        omega
      have hlf : fs.length = P.length := g1.length
      simp [W_addT (xs := [T' o1 true ds1, D.str hd'.2.s]) (ys := [td]) (Nat.le_trans (show _ ≤ 100000 by simp) most_big), putL, show fs.length < most from Nat.lt_of_lt_of_le (show _ < 100000 by omega) most_big]
      refine ⟨P ++ [⟨hd'.1, hd'.2, t⟩], g1.snoc ⟨_, _, _, _, _, rfl, hr1, h1⟩, by simp [ows_app, g2, ows, ow, hod, h2], ?_, ?_, ?_, h5, g7.trans h6⟩
      · rw [List.map_append, g3, List.take_add_one, hg]; rfl
      · intro f hf
        rcases List.mem_append.mp hf with hf | hf
        · exact g4 f hf
        · rw [List.mem_singleton.mp hf]
          exact ⟨by rw [hk1]; exact h3, Nat.le_trans h4 (sz_60 n hn5)⟩
      · exact h6.cell g5 hns
    · rintro acc m3 ⟨fs, P, rfl, g1, g2, g3, g4, g5, g6, g7⟩
      rw [List.take_of_length_le (by omega)] at g3
      have hlp : P.length = hs.length := by
        have := congrArg List.length g3
        simpa using this
      simp
      have hps : ∀ f ∈ P, ∃ ks : List Kn, f.ps = lets ks ∧ ks.length ≤ 2 := fun f hf => by
        have : (f.ps, f.k) ∈ hs := by rw [← g3]; exact List.mem_map.mpr ⟨f, hf, rfl⟩
        exact e4.ok _ this
      refine q _ P m3 ⟨_, _, _, rfl, g1⟩ (by simpa [ow] using g2) ?_ (fun f hf => ?_) g6 g7
      · simp only [okPr, Bool.and_eq_true, List.all_eq_true, decide_eq_true_eq]
        refine ⟨by omega, fun f hf => ?_⟩
        obtain ⟨ks, hk1, hk2⟩ := hps f hf
        simp only [okFu, Bool.and_eq_true, decide_eq_true_eq]
        refine ⟨?_, by rw [← okTr_heads g3]; exact (g4 f hf).1, (g4 f hf).2⟩
        have := okHd_lets (ks := ks) (κ := f.k) (t := f.t) (by omega)
        rwa [← hk1] at this
      · obtain ⟨ks, hk1, hk2⟩ := hps f hf
        rw [hk1, lets_len]; exact hk2
end
end Mi
end
section
set_option linter.all false
set_option Elab.async false
set_option maxRecDepth 100000
set_option maxHeartbeats 2000000
/-! Mr0: programs run, plainly. -/
namespace Pm
open PySem
inductive Vl where
  | int (i : Int) | lst (is : List Int)
def Vl.p : Vl → PyData
  | .int i => .int i
  | .lst is => .tuple (is.map PyData.int)
def Vl.k : Vl → Kn
  | .int _ => .nu
  | .lst _ => .li
def Vl.i : Vl → Int
  | .int i => i
  | .lst _ => 0
def Vl.l : Vl → List Int
  | .int _ => []
  | .lst is => is
def Vl.len (v : Vl) : Nat := v.l.length
/-- why a run ends -/
inductive Wy where
  | long | empty (f p : Nat) | beyond (f p : Nat) | claim (f p : Nat)
def Wy.p : Wy → PyData
  | .long => .tuple [.str "long"]
  | .empty f p => .tuple [.str "fault", .str "empty", .int f, .int p]
  | .beyond f p => .tuple [.str "fault", .str "beyond", .int f, .int p]
  | .claim f p => .tuple [.str "fault", .str "claim", .int f, .int p]
inductive Rs where
  | told (v : Vl) | why (w : Wy)
structure Cl where
  f : Nat
  as : List Vl
  r : Option Vl
def optP : Option Vl → PyData
  | none => .none
  | some v => v.p
def Cl.p (c : Cl) : PyData := .tuple [.int c.f, .tuple (c.as.map Vl.p), optP c.r]
/-- answers left, calls, how many deeds were done -/
structure St where
  ans : List Int
  calls : List Cl
  n : Nat
abbrev Kv := List (Str × Vl)
def vget (x : Str) : Kv → Vl
  | [] => .int 0
  | q :: l => if q.1 = x then q.2 else vget x l
abbrev Rec := Nat → List Vl → St → Rs × St
def deedR (rc : Rec) (f p : Nat) (κ : Kv) (st : St) : De → Rs × St
  | .num n => (.told (.int n), st)
  | .sum x n => (.told (.int ((vget x κ).i + n)), st)
  | .len x => (.told (.int ((vget x κ).l.length)), st)
  | .nil => (.told (.lst []), st)
  | .put x y => (.told (.lst ((vget x κ).i :: (vget y κ).l)), st)
  | .head x => match (vget x κ).l with
    | [] => (.why (.empty f p), st)
    | i :: _ => (.told (.int i), st)
  | .tail x => match (vget x κ).l with
    | [] => (.why (.empty f p), st)
    | _ :: r => (.told (.lst r), st)
  | .at x y => if 0 ≤ (vget y κ).i ∧ (vget y κ).i < ((vget x κ).l.length : Int) then (.told (.int ((vget x κ).l[(vget y κ).i.toNat]?.getD 0)), st) else (.why (.beyond f p), st)
  | .ask => match st.ans with
    | [] => (.told (.int 0), st)
    | a :: r => (.told (.int a), { st with ans := r })
  | .call g xs => rc g (xs.map fun x => vget x κ) st
def worthR (κ : Kv) : Me → Int
  | .zero => 0
  | .of x => (vget x κ).i
  | .len x => (vget x κ).l.length
def goT (rc : Rec) (f : Nat) : Tr → Nat → Kv → St → Rs × St
  | .tell x, p, κ, st => (.told (vget x κ), st)
  | .let_ x d t, p, κ, st => match deedR rc f p κ { st with n := st.n + 1 } d with
    | (.told v, st) => goT rc f t (p + 1) (κ ++ [(x, v)]) st
    | (.why w, st) => (.why w, st)
  | .claim a b n t, p, κ, st => if worthR κ a - worthR κ b ≤ n then goT rc f t (p + 1) κ st else (.why (.claim f p), st)
  | .if_ a b n t u, p, κ, st => if worthR κ a - worthR κ b ≤ n then goT rc f t (p + 1) κ st else goT rc f u (p + 1 + t.size) κ st
def fuAt (P : Pr) (f : Nat) : Fu := (P[f]?).getD ⟨[], .nu, .tell ""⟩
def runF (P : Pr) (most : Nat) : Nat → Rec
  | 0, f, as, st => (.why .long, st)
  | n + 1, f, as, st => if st.calls.length = most then (.why .long, st) else
    match goT (runF P most n) f (fuAt P f).t 0 (((fuAt P f).ps.map (·.1)).zip as) { st with calls := st.calls ++ [⟨f, as, none⟩] } with
    | (.told v, st') => (.told v, { st' with calls := st'.calls.set st.calls.length ⟨f, as, some v⟩ })
    | (.why w, st') => (.why w, st')
/-! ### what stays true -/
def ClB (b : Nat) (c : Cl) : Prop := c.as.length ≤ 4 ∧ (∀ v ∈ c.as, v.len ≤ b) ∧ (∀ v, c.r = some v → v.len ≤ b)
def StB (st : St) : Prop := ∀ c ∈ st.calls, ClB (40 + st.n) c
theorem ClB.mono {b b' : Nat} {c : Cl} (h : ClB b c) (hb : b ≤ b') : ClB b' c := ⟨h.1, fun v hv => Nat.le_trans (h.2.1 v hv) hb, fun v hv => Nat.le_trans (h.2.2 v hv) hb⟩
/-- the known are of these kinds -/
def KvOk (κ : Kno) (kv : Kv) : Prop := kv.map (fun q => (q.1, q.2.k)) = κ
theorem vget_ok {x : Str} {j : Kn} : ∀ {kv : Kv} {κ : Kno}, KvOk κ kv → kgets x κ = some j → (vget x kv).k = j ∧ ∃ q ∈ kv, q.1 = x ∧ q.2 = vget x kv
  | [], κ, h, e => by unfold KvOk at h; subst h; simp [kgets] at e
  | q :: kv, κ, h, e => by
    unfold KvOk at h
    subst h
    simp only [List.map_cons, kgets] at e
    unfold vget
    split
    · rename_i hq
      rw [if_pos hq] at e
      cases e
      exact ⟨rfl, q, List.mem_cons_self .., hq, rfl⟩
    · rename_i hq
      rw [if_neg hq] at e
      obtain ⟨h1, q', h2, h3⟩ := vget_ok (kv := kv) rfl e
      exact ⟨h1, q', List.mem_cons_of_mem _ h2, h3⟩
def KvB (b : Nat) (kv : Kv) : Prop := ∀ q ∈ kv, q.2.len ≤ b
theorem vget_len {x : Str} {j : Kn} {kv : Kv} {κ : Kno} {b : Nat} (h : KvOk κ kv) (e : kgets x κ = some j) (hb : KvB b kv) : (vget x kv).len ≤ b := by
  obtain ⟨_, q, h1, _, h2⟩ := vget_ok h e
  rw [← h2]
  exact hb q h1
/-- what a step keeps: d deeds at the most but for calls -/
structure Kp (most d : Nat) (j : Kn) (st : St) (r : Rs × St) : Prop where
  told : ∀ v, r.1 = .told v → v.k = j ∧ v.len ≤ 40 + r.2.n
  b : StB r.2
  n : st.n ≤ r.2.n
  c : st.calls.length ≤ r.2.calls.length
  m : r.2.calls.length ≤ most
  g : r.2.n + 20 * st.calls.length ≤ st.n + d + 20 * r.2.calls.length
def RecOk (P : Pr) (most : Nat) (rc : Rec) : Prop := ∀ (f : Nat) (g : Fu) (as : List Vl) (st : St), P[f]? = some g → as.map Vl.k = g.ps.map (·.2) → (∀ v ∈ as, v.len ≤ 40 + st.n) → StB st → st.calls.length ≤ most → Kp most 0 g.k st (rc f as st)
theorem areOf_get {κ : Kno} {kv : Kv} (h : KvOk κ kv) {b : Nat} (hb : KvB b kv) : ∀ {xs : List Str} {ks : List Kn}, areOf κ xs ks = true → (xs.map fun x => vget x kv).map Vl.k = ks ∧ ∀ v ∈ xs.map (fun x => vget x kv), v.len ≤ b
  | [], [], _ => ⟨rfl, fun v hv => by cases hv⟩
  | [], _ :: _, e => by simp [areOf] at e
  | x :: xs, [], e => by simp [areOf] at e
  | x :: xs, z :: ks, e => by
    simp only [areOf, Bool.and_eq_true, decide_eq_true_eq] at e
    obtain ⟨h1, h2⟩ := areOf_get h hb e.2
    have h3 := vget_ok h e.1.2
    refine ⟨by simp only [List.map_cons, h1, h3.1], fun v hv => ?_⟩
    rcases List.mem_cons.mp hv with rfl | hv
    · exact vget_len h e.1.2 hb
    · exact h2 v hv
theorem KvB.mono {b b' : Nat} {kv : Kv} (h : KvB b kv) (hb : b ≤ b') : KvB b' kv := fun q hq => Nat.le_trans (h q hq) hb
theorem Kp.same {most d : Nat} {j : Kn} {st : St} {v : Vl} (hv : v.k = j) (hl : v.len ≤ 40 + st.n) (hb : StB st) (hm : st.calls.length ≤ most) : Kp most d j st (.told v, st) := ⟨fun w hw => by cases hw; exact ⟨hv, hl⟩, hb, Nat.le_refl _, Nat.le_refl _, hm, by simp⟩
theorem Kp.why {most d : Nat} {j : Kn} {st : St} {w : Wy} (hb : StB st) (hm : st.calls.length ≤ most) : Kp most d j st (.why w, st) := ⟨(fun w hw => by cases hw), hb, Nat.le_refl _, Nat.le_refl _, hm, by simp⟩
theorem deed_ok {P : Pr} {most : Nat} {rc : Rec} (hrc : RecOk P most rc) {κ : Kno} {kv : Kv} (h : KvOk κ kv) {st : St} (hb : StB st) (hm : st.calls.length ≤ most) {b : Nat} (hk : KvB b kv) (hbn : b + 1 ≤ 40 + st.n) {f p : Nat} {j : Kn} : ∀ {d : De}, kindOf P κ d = some j → Kp most 0 j st (deedR rc f p kv st d)
  | .num n, e => by
    simp only [kindOf] at e
    split at e
    · cases e; exact .same rfl (by simp [Vl.len, Vl.l]) hb hm
    · cases e
  | .sum x n, e => by
    simp only [kindOf] at e
    split at e
    · cases e; exact .same rfl (by simp [Vl.len, Vl.l]) hb hm
    · cases e
  | .len x, e => by
    simp only [kindOf] at e
    split at e
    · cases e; exact .same rfl (by simp [Vl.len, Vl.l]) hb hm
    · cases e
  | .nil, e => by cases e; exact .same rfl (by simp [Vl.len, Vl.l]) hb hm
  | .put x y, e => by
    simp only [kindOf] at e
    split at e
    · rename_i hh
      cases e
      simp only [areOf, Bool.and_eq_true, decide_eq_true_eq] at hh
      have := vget_len h hh.2.1.2 hk
      exact .same rfl (by simp only [Vl.len, Vl.l, List.length_cons] at this ⊢; omega) hb hm
    · cases e
  | .head x, e => by
    simp only [kindOf] at e
    split at e
    · cases e
      simp only [deedR]
      split
      · exact .why hb hm
      · exact .same rfl (by simp [Vl.len, Vl.l]) hb hm
    · cases e
  | .tail x, e => by
    simp only [kindOf] at e
    split at e
    · rename_i hh
      cases e
      simp only [areOf, Bool.and_eq_true, decide_eq_true_eq] at hh
      have := vget_len h hh.1.2 hk
      simp only [deedR]
      split
      · exact .why hb hm
      · rename_i hl
        refine .same rfl ?_ hb hm
        simp only [Vl.len, hl, List.length_cons] at this
        simp only [Vl.len, Vl.l]; omega
    · cases e
  | .at x y, e => by
    simp only [kindOf] at e
    split at e
    · cases e
      simp only [deedR]
      split
      · exact .same rfl (by simp [Vl.len, Vl.l]) hb hm
      · exact .why hb hm
    · cases e
  | .ask, e => by
    cases e
    simp only [deedR]
    split
    · exact .same rfl (by simp [Vl.len, Vl.l]) hb hm
    · exact ⟨fun w hw => by cases hw; exact ⟨rfl, by simp [Vl.len, Vl.l]⟩, hb, Nat.le_refl _, Nat.le_refl _, hm, by simp⟩
  | .call g xs, e => by
    simp only [kindOf] at e
    split at e
    · split at e
      · rename_i fu hf
        split at e
        · rename_i ha
          cases e
          obtain ⟨a1, a2⟩ := areOf_get h hk ha
          exact hrc g fu _ st hf a1 (fun v hv => by have := a2 v hv; omega) hb hm
        · cases e
      · cases e
    · cases e
theorem KvOk.snoc {κ : Kno} {kv : Kv} (h : KvOk κ kv) {x : Str} {v : Vl} {j : Kn} (hv : v.k = j) : KvOk (κ ++ [(x, j)]) (kv ++ [(x, v)]) := by
  unfold KvOk at h ⊢
  rw [List.map_append, h, ← hv]
  rfl
theorem Kp.wk {most d d' : Nat} {j : Kn} {st : St} {r : Rs × St} (h : Kp most d j st r) (hd : d ≤ d') : Kp most d' j st r := ⟨h.told, h.b, h.n, h.c, h.m, by have := h.g; omega⟩
theorem go_ok {P : Pr} {most : Nat} {rc : Rec} (hrc : RecOk P most rc) {k : Kn} {f : Nat} : ∀ {t : Tr} {κ : Kno} {kv : Kv} {st : St} {w p : Nat}, okTr P k κ w t = true → KvOk κ kv → StB st → st.calls.length ≤ most → KvB (40 + st.n) kv → Kp most (21 - w) k st (goT rc f t p kv st)
  | .tell x, κ, kv, st, w, p, e, h, hb, hm, hk => by
    simp only [okTr, Bool.and_eq_true, decide_eq_true_eq] at e
    exact .same (vget_ok h e.2.2).1 (vget_len h e.2.2 hk) hb hm
  | .let_ x d t, κ, kv, st, w, p, e, h, hb, hm, hk => by
    simp only [okTr, Bool.and_eq_true, decide_eq_true_eq] at e
    obtain ⟨e1, e2, e3, e4⟩ := e
    split at e4
    · rename_i j hj
      have hb1 : StB { st with n := st.n + 1 } := fun c hc => (hb c hc).mono (Nat.add_le_add_left (Nat.le_succ _) 40)
      have hd := deed_ok hrc (f := f) (p := p) h (st := { st with n := st.n + 1 }) hb1 hm hk (by simp; omega) hj
      simp only [goT]
      split
      · rename_i v st' hs
        rw [hs] at hd
        obtain ⟨t1, t2⟩ := hd.told v rfl
        have hn := hd.n
        have hg := hd.g
        have hc := hd.c
        simp only at hn hg hc t2
        have ih := go_ok hrc (f := f) (p := p + 1) e4 (h.snoc t1) hd.b hd.m (st := st') (by
          intro q hq
          rcases List.mem_append.mp hq with hq | hq
          · have := hk q hq; omega
          · rw [List.mem_singleton.mp hq]; exact t2)
        exact ⟨ih.told, ih.b, Nat.le_trans (by omega) ih.n, Nat.le_trans hc ih.c, ih.m, by have := ih.g; omega⟩
      · rename_i v st' hs
        rw [hs] at hd
        have hn := hd.n
        have hg := hd.g
        simp only at hn hg
        exact ⟨(fun w hw => by cases hw), hd.b, by simp; omega, hd.c, hd.m, by simp; omega⟩
    · cases e4
  | .claim a b n t, κ, kv, st, w, p, e, h, hb, hm, hk => by
    simp only [okTr, Bool.and_eq_true, decide_eq_true_eq] at e
    simp only [goT]
    split
    · exact (go_ok hrc (f := f) (p := p + 1) e.2.2.2.2 h hb hm hk).wk (by omega)
    · exact .why hb hm
  | .if_ a b n t u, κ, kv, st, w, p, e, h, hb, hm, hk => by
    simp only [okTr, Bool.and_eq_true, decide_eq_true_eq] at e
    simp only [goT]
    split
    · exact (go_ok hrc (f := f) (p := p + 1) e.2.2.2.2.1 h hb hm hk).wk (by omega)
    · exact (go_ok hrc (f := f) (p := p + 1 + t.size) e.2.2.2.2.2 h hb hm hk).wk (by omega)
theorem kv_zip {ps : List (Str × Kn)} {as : List Vl} (h : as.map Vl.k = ps.map (·.2)) : KvOk ps ((ps.map (·.1)).zip as) := by
  unfold KvOk
  induction ps generalizing as with
  | nil => rfl
  | cons q ps ih =>
    cases as with
    | nil => simp at h
    | cons a as =>
      simp only [List.map_cons, List.cons.injEq] at h
      simp only [List.map_cons, List.zip_cons_cons, h.1, ih h.2]
theorem zip_b {xs : List Str} {as : List Vl} {b : Nat} (h : ∀ v ∈ as, v.len ≤ b) : KvB b (xs.zip as) := fun q hq => h q.2 (List.of_mem_zip hq).2
theorem run_ok {P : Pr} (hP : okPr P = true) {most : Nat} : ∀ n, RecOk P most (runF P most n)
  | 0, f, g, as, st, hf, ha, hl, hb, hm => .why hb hm
  | n + 1, f, g, as, st, hf, ha, hl, hb, hm => by
    simp only [runF]
    split
    · exact .why hb hm
    · rename_i hne
      have hfu : fuAt P f = g := by unfold fuAt; rw [hf]; rfl
      rw [hfu]
      simp only [okPr, Bool.and_eq_true, List.all_eq_true] at hP
      have h1 := hP.2 g (List.mem_of_getElem? hf)
      simp only [okFu, Bool.and_eq_true, decide_eq_true_eq] at h1
      have h4 : as.length ≤ 4 := by
        have e1 := congrArg List.length ha
        have e2 := h1.1
        simp only [okHd, Bool.and_eq_true, decide_eq_true_eq] at e2
        simp at e1
        omega
      have hb1 : StB { st with calls := st.calls ++ [⟨f, as, none⟩] } := fun c hc => by
        rcases List.mem_append.mp hc with hc | hc
        · exact hb c hc
        · rw [List.mem_singleton.mp hc]; exact ⟨h4, hl, fun v hv => by cases hv⟩
      have hg := go_ok (run_ok (most := most) (by simp only [okPr, Bool.and_eq_true, List.all_eq_true]; exact hP) n) (f := f) (p := 0) h1.2.1 (kv_zip ha) (st := { st with calls := st.calls ++ [⟨f, as, none⟩] }) hb1 (by simp; omega) (zip_b hl)
      split
      · rename_i v st' hs
        rw [hs] at hg
        have hn := hg.n
        have hgg := hg.g
        have hc := hg.c
        have hmm := hg.m
        obtain ⟨t1, t2⟩ := hg.told v rfl
        simp only [List.length_append, List.length_cons, List.length_nil] at hn hgg hc t2 hmm
        refine ⟨(fun w hw => by cases hw; exact ⟨t1, t2⟩), fun c hc => ?_, by simp; omega, by simp; omega, by simp; omega, by simp; omega⟩
        rcases List.mem_or_eq_of_mem_set hc with hc | rfl
        · exact hg.b c hc
        · exact ⟨h4, fun v hv => Nat.le_trans (hl v hv) (by simp; omega), fun v hv => by cases hv; exact t2⟩
      · rename_i v st' hs
        rw [hs] at hg
        have hn := hg.n
        have hgg := hg.g
        have hc := hg.c
        have hmm := hg.m
        simp only [List.length_append, List.length_cons, List.length_nil] at hn hgg hc hmm
        exact ⟨(fun w hw => by cases hw), hg.b, by simp; omega, by simp; omega, by simp; omega, by simp; omega⟩
end Pm
end
section
set_option linter.all false
set_option Elab.async false
set_option maxRecDepth 100000
set_option maxHeartbeats 4000000
/-! Mr1: values and what is known, as data. -/
namespace Mi
open PySem Pm
/-- a value as a datum -/
def VlD (d : D) : Vl → Prop
  | .int i => d = .int i
  | .lst is => ∃ b, d = T' true b (is.map D.int)
def VlDs : List D → List Vl → Prop
  | [], [] => True
  | d :: ds, v :: vs => VlD d v ∧ VlDs ds vs
  | _, _ => False
theorem VlD.rep {d : D} {v : Vl} (h : VlD d v) : Rep d v.p := by
  cases v with
  | int i => exact Rep_int.mpr h
  | lst is => obtain ⟨b, rfl⟩ := h; exact rep_T'.mpr (reps_ints is)
theorem VlD.ow {d : D} {v : Vl} (h : VlD d v) : ow d = true := by
  cases v with
  | int i => cases h; rfl
  | lst is => obtain ⟨b, rfl⟩ := h; simp [ows_ints]
theorem VlDs.reps : ∀ {ds : List D} {vs : List Vl}, VlDs ds vs → Reps ds (vs.map Vl.p)
  | [], [], _ => Reps_nil.mpr rfl
  | d :: ds, v :: vs, h => reps_cc.mpr ⟨h.1.rep, VlDs.reps h.2⟩
theorem VlDs.ows : ∀ {ds : List D} {vs : List Vl}, VlDs ds vs → ows ds = true
  | [], [], _ => rfl
  | d :: ds, v :: vs, h => by simp [Mi.ows, h.1.ow, VlDs.ows h.2]
theorem VlDs.length {ds : List D} {vs : List Vl} (h : VlDs ds vs) : ds.length = vs.length := by simpa using h.reps.length
theorem VlDs.snoc : ∀ {ds : List D} {vs : List Vl} {d : D} {v : Vl}, VlDs ds vs → VlD d v → VlDs (ds ++ [d]) (vs ++ [v])
  | [], [], _, _, _, h => ⟨h, trivial⟩
  | d :: ds, v :: vs, _, _, h, h2 => ⟨h.1, VlDs.snoc h.2 h2⟩
theorem VlDs.get : ∀ {ds : List D} {vs : List Vl} {i : Nat} {v : Vl}, VlDs ds vs → vs[i]? = some v → ∃ d, ds[i]? = some d ∧ VlD d v
  | d :: ds, v :: vs, 0, _, h, e => ⟨d, rfl, by cases e; exact h.1⟩
  | [], [], i, v, h, e => by simp at e
  | d :: ds, v :: vs, i + 1, _, h, e => by
    obtain ⟨d', h1, h2⟩ := VlDs.get (i := i) h.2 (by simpa using e)
    exact ⟨d', by simpa using h1, h2⟩
/-- the keys of what is known -/
def kvK (kv : Kv) : List Key := kv.map fun q => .inr q.1
theorem kv_get {x : Str} {j : Kn} : ∀ {kv : Kv} {κ : Kno} {ds : List D}, KvOk κ kv → VlDs ds (kv.map (·.2)) → kgets x κ = some j → ∃ d, kget (Sum.inr x : Key) (kvK kv) ds = some d ∧ VlD d (vget x kv)
  | [], κ, ds, h, hd, e => by unfold KvOk at h; subst h; simp [kgets] at e
  | q :: kv, κ, d :: ds, h, hd, e => by
    unfold KvOk at h
    subst h
    simp only [List.map_cons, kgets] at e
    simp only [kvK, List.map_cons, kget, Sum.inr.injEq, vget]
    by_cases hq : q.1 = x
    · simp only [hq, if_true]
      exact ⟨d, rfl, hd.1⟩
    · simp only [hq, if_false]
      rw [if_neg hq] at e
      exact kv_get (kv := kv) rfl hd.2 e
  | q :: kv, κ, [], h, hd, e => hd.elim
theorem kv_new {x : Str} : ∀ {kv : Kv} {κ : Kno}, KvOk κ kv → kgets x κ = none → (Sum.inr x : Key) ∉ kvK kv
  | [], κ, h, e => by simp [kvK]
  | q :: kv, κ, h, e => by
    unfold KvOk at h
    subst h
    simp only [List.map_cons, kgets] at e
    by_cases hq : q.1 = x
    · rw [if_pos hq] at e; cases e
    · rw [if_neg hq] at e
      have ih := kv_new (kv := kv) rfl e
      unfold kvK at ih ⊢
      rw [List.map_cons, List.mem_cons, not_or]
      exact ⟨fun h => hq (by injection h with h; exact h.symm), ih⟩
theorem kv_put {x : Str} {v : D} {kv : Kv} {κ : Kno} {ds : List D} (h : KvOk κ kv) (e : kgets x κ = none) : kput (Sum.inr x : Key) v (kvK kv) ds = (kvK kv ++ [.inr x], ds ++ [v]) := by
  unfold kput
  rw [if_neg (kv_new h e)]
section
variable {Pg : Prg} {k : Nat} {m m' : Mem} {Q : D × Mem → Prop}
theorem idx_kv {n : Nat} {kv : Kv} {κ : Kno} {ds : List D} {x : Str} {j : Kn} (hc : m[n]? = some ⟨.dK (kvK kv), ds⟩) (h : KvOk κ kv) (hd : VlDs ds (kv.map (·.2))) (e : kgets x κ = some j) : ∃ d, idxD m (.loc n) (.str x) = .ok d ∧ VlD d (vget x kv) := by
  obtain ⟨d, h1, h2⟩ := kv_get h hd e
  refine ⟨d, ?_, h2⟩
  simp only [idxD, view, hc, keyOf, h1]
  rfl
theorem idx_kvV {o : Bool} {kv : Kv} {κ : Kno} {ds : List D} {x : Str} {j : Kn} (h : KvOk κ kv) (hd : VlDs ds (kv.map (·.2))) (e : kgets x κ = some j) : ∃ d, idxD m (.nd o (.dK (kvK kv)) ds) (.str x) = .ok d ∧ VlD d (vget x kv) := by
  obtain ⟨d, h1, h2⟩ := kv_get h hd e
  refine ⟨d, ?_, h2⟩
  simp only [idxD, view, nrm, keyOf, h1]
  rfl
theorem set_kv {n : Nat} {kv : Kv} {κ : Kno} {ds : List D} {x : Str} {v : D} {P : Mem → Prop} (hc : m[n]? = some ⟨.dK (kvK kv), ds⟩) (h : KvOk κ kv) (hs : kv.length ≤ 1000) (e : kgets x κ = none) : W (setD m (.loc n) (.str x) v) P ↔ P (m.set n ⟨.dK (kvK kv ++ [.inr x]), ds ++ [v]⟩) := by
  have hk : (kvK kv).length < most := by
    unfold kvK
    rw [List.length_map]
    exact Nat.lt_of_lt_of_le (show _ < 100000 by omega) most_big
  have e' : setD m (.loc n) (.str x) v = .ok (m.set n ⟨.dK (kvK kv ++ [.inr x]), ds ++ [v]⟩) := by
    simp only [setD, hc, keyOf, hk, if_true, kv_put h e]
  rw [e', W_ok]
/-- what was there stays, but for some cells -/
structure Frs (S : List Nat) (m m' : Mem) : Prop where
  len : m.length ≤ m'.length
  at_ : ∀ n, n < m.length → n ∉ S → m'[n]? = m[n]?
theorem Frs.refl {S : List Nat} : Frs S m m := ⟨Nat.le_refl _, fun _ _ _ => rfl⟩
theorem Frs.trans {S : List Nat} {m2 : Mem} (h : Frs S m m') (h2 : Frs S m' m2) : Frs S m m2 := ⟨Nat.le_trans h.len h2.len, fun n hn hs => by rw [h2.at_ n (Nat.lt_of_lt_of_le hn h.len) hs, h.at_ n hn hs]⟩
theorem Frs.set {S : List Nat} {n : Nat} {c : Cell} (h : Frs S m m') (hn : n ∈ S) : Frs S m (m'.set n c) := ⟨by simpa using h.len, fun i hi hs => by rw [List.getElem?_set_ne (fun (e : n = i) => hs (by rw [← e]; exact hn)), h.at_ i hi hs]⟩
theorem Frs.setN {S : List Nat} {n : Nat} {c : Cell} (h : Frs S m m') (hn : m.length ≤ n) : Frs S m (m'.set n c) := ⟨by simpa using h.len, fun i hi hs => by rw [List.getElem?_set_ne (by omega), h.at_ i hi hs]⟩
theorem Frs.app {S : List Nat} {c : List Cell} (h : Frs S m m') : Frs S m (m' ++ c) := ⟨by have := h.len; simp; omega, fun n hn hs => by rw [List.getElem?_append_left (Nat.lt_of_lt_of_le hn h.len), h.at_ n hn hs]⟩
theorem Frs.cell {S : List Nat} {n : Nat} {c : Cell} (h : Frs S m m') (e : m[n]? = some c) (hs : n ∉ S) : m'[n]? = some c := by rw [h.at_ n (List.getElem?_eq_some_iff.mp e).1 hs]; exact e
end
end Mi
end
section
set_option linter.all false
set_option Elab.async false
set_option maxRecDepth 100000
set_option maxHeartbeats 4000000
/-! Mr2: measures and sizes. -/
namespace Mi
open PySem Pm
section
variable {Pg : Prg} {k : Nat} {m m' : Mem} {Q : D × Mem → Prop}
theorem me_shaped {κ : Kno} {a : Me} (h : isMe κ a = true) : SeqAt.shaped a.p = true := by
  obtain ⟨h1, h2⟩ := isMe_lay h
  unfold SeqAt.shaped
  rw [h1]
  exact decide_eq_true (by omega)
theorem f_worth {nm : Str} (h : Has Pg nm Cm.worth_of_d) {a : Me} {d : D} (hd : Rep d a.p) {κ : Kno} {kv : Kv} {ds : List D} {o : Bool} (hk : KvOk κ kv) (hds : VlDs ds (kv.map (·.2))) (ha : isMe κ a = true) : W (callN Pg (k + 1) nm [d, .nd o (.dK (kvK kv)) ds] m) Q ↔ Q (.int (worthR kv a), m) := by
  refine W.iff ?_
  rw [W_callN h]
  have hs := me_shaped ha
  cases a with
  | zero =>
    obtain ⟨o1, b1, rfl⟩ := Rep.t0 hd
    simp [Cm.worth_of_b, out, worthR]
  | of x =>
    simp only [isMe, Bool.and_eq_true, decide_eq_true_eq] at ha
    obtain ⟨e, h1, h2⟩ := idx_kvV (m := m) (o := o) hk hds ha.2
    have hv := vget_ok hk ha.2
    have hne := fun (P : Bool → Prop) => W_eqT (m := m) (o' := true) (b' := true) hd hs (P := P)
    obtain ⟨o1, b1, e1, e2, rfl, r1, r2⟩ := Rep.t2 hd
    rw [Rep_str] at r1 r2
    subst r1 r2
    simp [Cm.worth_of_b, out, hne, h1]
    cases hg : vget x kv with
    | int i => rw [hg] at h2; cases h2; simp [worthR, hg, Vl.i]
    | lst is => rw [hg] at hv; cases hv.1
  | len x =>
    simp only [isMe, Bool.and_eq_true, decide_eq_true_eq] at ha
    obtain ⟨e, h1, h2⟩ := idx_kvV (m := m) (o := o) hk hds ha.2
    have hv := vget_ok hk ha.2
    have hne := fun (P : Bool → Prop) => W_eqT (m := m) (o' := true) (b' := true) hd hs (P := P)
    obtain ⟨o1, b1, e1, e2, rfl, r1, r2⟩ := Rep.t2 hd
    rw [Rep_str] at r1 r2
    subst r1 r2
    simp [Cm.worth_of_b, out, hne, h1]
    cases hg : vget x kv with
    | int i => rw [hg] at hv; cases hv.1
    | lst is =>
      rw [hg] at h2
      obtain ⟨b, rfl⟩ := h2
      simp [worthR, hg, Vl.l]
theorem W_sum1 {o fr : Bool} {a : Int} : W (bi .sum fr m [.nd o .lst [.int a]]) Q ↔ Q (.int a, m) := by
  simp [bi, asV, biInts, itemsL, view, nrm, intsOf, R.bind, List.sum]
theorem W_sum2 {o fr : Bool} {a b : Int} : W (bi .sum fr m [.nd o .lst [.int a, .int b]]) Q ↔ Q (.int (a + b), m) := by
  simp [bi, asV, biInts, itemsL, view, nrm, intsOf, R.bind, List.sum]
theorem f_size (h : Has Pg "size_of" Cm.size_of_d) : ∀ {t : Tr} {d : D} {k : Nat} {m : Mem} {Q : D × Mem → Prop}, Rep d t.p → (W (callN Pg (k + t.dep) "size_of" [d] m) Q ↔ Q (.int t.size, m))
  | .tell x, d, k, m, Q, hd => by
    refine W.iff ?_
    rw [Tr.dep, W_callN h]
    obtain ⟨o1, b1, e1, e2, rfl, r1, r2⟩ := Rep.t2 hd
    rw [Rep_str] at r1 r2
    subst r1 r2
    simp [Cm.size_of_b, out, Tr.size]
  | .let_ x de t, d, k, m, Q, hd => by
    refine W.iff ?_
    rw [Tr.dep, show k + (1 + t.dep) = k + t.dep + 1 by omega, W_callN h]
    obtain ⟨o1, b1, e1, e2, e3, e4, rfl, r1, r2, r3, r4⟩ := Rep.t4 hd
    rw [Rep_str] at r1 r2
    subst r1 r2
    have ih := fun Q => f_size h (k := k) (m := []) (Q := Q) r4
    simp [Cm.size_of_b, out, Tr.size, W_pc, lfs, r4.lf, ih]
  | .claim a b n t, d, k, m, Q, hd => by
    refine W.iff ?_
    rw [Tr.dep, show k + (1 + t.dep) = k + t.dep + 1 by omega, W_callN h]
    obtain ⟨o1, b1, e1, e2, e3, e4, e5, rfl, r1, r2, r3, r4, r5⟩ := Rep.t5 hd
    rw [Rep_str] at r1
    subst r1
    have ih := fun Q => f_size h (k := k) (m := []) (Q := Q) r5
    simp [Cm.size_of_b, out, Tr.size, W_pc, lfs, r5.lf, ih, cut_L (show (0 : Int) ≤ 4 by omega), wipe, putL0, W_sum1]
  | .if_ a b n t u, d, k, m, Q, hd => by
    refine W.iff ?_
    rw [Tr.dep, show k + (1 + max t.dep u.dep) = k + max t.dep u.dep + 1 by omega, W_callN h]
    obtain ⟨o1, b1, e1, e2, e3, e4, e5, e6, rfl, r1, r2, r3, r4, r5, r6⟩ := Rep.t6 hd
    rw [Rep_str] at r1
    subst r1
    have ih := fun Q => f_size h (k := k + (max t.dep u.dep - t.dep)) (m := []) (Q := Q) r5
    have ih2 := fun Q => f_size h (k := k + (max t.dep u.dep - u.dep)) (m := []) (Q := Q) r6
    rw [show k + (max t.dep u.dep - t.dep) + t.dep = k + max t.dep u.dep by omega] at ih
    rw [show k + (max t.dep u.dep - u.dep) + u.dep = k + max t.dep u.dep by omega] at ih2
    simp [Cm.size_of_b, out, Tr.size, W_pc, lfs, r5.lf, r6.lf, ih, ih2, cut_L (show (0 : Int) ≤ 4 by omega), wipe, putL0, putL1, W_sum2]
    omega
end
end Mi
end
section
set_option linter.all false
set_option Elab.async false
set_option maxRecDepth 100000
set_option maxHeartbeats 4000000
/-! Mr3: sizes by the law; a run's object. -/
namespace Mi
open PySem Pm
section
variable {Pg : Prg} {k : Nat} {m m' : Mem} {Q : D × Mem → Prop}
theorem f_lsize (h : Has Pg "_law_size" Cm._law_size_d) : ∀ {t : Tr} {d : D} {k : Nat} {m : Mem} {Q : D × Mem → Prop}, Rep d t.p → (W (callN Pg (k + t.dep) "_law_size" [d] m) Q ↔ Q (.int t.size, m))
  | .tell x, d, k, m, Q, hd => by
    refine W.iff ?_
    rw [Tr.dep, W_callN h]
    obtain ⟨o1, b1, e1, e2, rfl, r1, r2⟩ := Rep.t2 hd
    rw [Rep_str] at r1 r2
    subst r1 r2
    simp [Cm._law_size_b, out, Tr.size]
  | .let_ x de t, d, k, m, Q, hd => by
    refine W.iff ?_
    rw [Tr.dep, show k + (1 + t.dep) = k + t.dep + 1 by omega, W_callN h]
    obtain ⟨o1, b1, e1, e2, e3, e4, rfl, r1, r2, r3, r4⟩ := Rep.t4 hd
    rw [Rep_str] at r1 r2
    subst r1 r2
    have ih := fun Q => f_lsize h (k := k) (m := []) (Q := Q) r4
    simp [Cm._law_size_b, out, Tr.size, W_pc, lfs, r4.lf, ih, cut_L (show (0 : Int) ≤ 3 by omega), wipe, putL0, W_sum1]
  | .claim a b n t, d, k, m, Q, hd => by
    refine W.iff ?_
    rw [Tr.dep, show k + (1 + t.dep) = k + t.dep + 1 by omega, W_callN h]
    obtain ⟨o1, b1, e1, e2, e3, e4, e5, rfl, r1, r2, r3, r4, r5⟩ := Rep.t5 hd
    rw [Rep_str] at r1
    subst r1
    have ih := fun Q => f_lsize h (k := k) (m := []) (Q := Q) r5
    simp [Cm._law_size_b, out, Tr.size, W_pc, lfs, r5.lf, ih, cut_L (show (0 : Int) ≤ 4 by omega), wipe, putL0, W_sum1]
  | .if_ a b n t u, d, k, m, Q, hd => by
    refine W.iff ?_
    rw [Tr.dep, show k + (1 + max t.dep u.dep) = k + max t.dep u.dep + 1 by omega, W_callN h]
    obtain ⟨o1, b1, e1, e2, e3, e4, e5, e6, rfl, r1, r2, r3, r4, r5, r6⟩ := Rep.t6 hd
    rw [Rep_str] at r1
    subst r1
    have ih := fun Q => f_lsize h (k := k + (max t.dep u.dep - t.dep)) (m := []) (Q := Q) r5
    have ih2 := fun Q => f_lsize h (k := k + (max t.dep u.dep - u.dep)) (m := []) (Q := Q) r6
    rw [show k + (max t.dep u.dep - t.dep) + t.dep = k + max t.dep u.dep by omega] at ih
    rw [show k + (max t.dep u.dep - u.dep) + u.dep = k + max t.dep u.dep by omega] at ih2
    simp [Cm._law_size_b, out, Tr.size, W_pc, lfs, r5.lf, r6.lf, ih, ih2, cut_L (show (0 : Int) ≤ 4 by omega), wipe, putL0, putL1, W_sum2]
    omega
/-- the calls as data -/
def ClDs (ds : List D) (cs : List Cl) : Prop := Reps ds (cs.map Cl.p) ∧ ows ds = true
/-- a run's object -/
structure RunC (m : Mem) (r a c : Nat) (pd : D) (most : Nat) (st : St) : Prop where
  r_ : m[r]? = some ⟨.ins "Run" ["functions", "answers", "most", "calls"], [pd, .loc a, .int most, .loc c]⟩
  a_ : m[a]? = some ⟨.lst, st.ans.map D.int⟩
  c_ : ∃ ds, m[c]? = some ⟨.lst, ds⟩ ∧ ClDs ds st.calls
  ra : r ≠ a
  rc : r ≠ c
  ac : a ≠ c
/-- what comes of it, as a datum -/
def RsD (d : D) : Rs → Prop
  | .told v => ∃ o b e, d = T' o b [e, .non] ∧ VlD e v
  | .why w => ∃ o b e, d = T' o b [.non, e] ∧ Rep e w.p ∧ ow e = true
theorem RunC.n {r a c most n : Nat} {pd : D} {st : St} (h : RunC m r a c pd most st) : RunC m r a c pd most { st with n := n } := ⟨h.r_, h.a_, h.c_, h.ra, h.rc, h.ac⟩
theorem RunC.app {r a c most : Nat} {pd : D} {st : St} {cs : List Cell} (h : RunC m r a c pd most st) : RunC (m ++ cs) r a c pd most st := by
  have g : ∀ {n : Nat} {x : Cell}, m[n]? = some x → (m ++ cs)[n]? = some x := fun e => by rw [List.getElem?_append_left (List.getElem?_eq_some_iff.mp e).1]; exact e
  obtain ⟨ds, h1, h2⟩ := h.c_
  exact ⟨g h.r_, g h.a_, ⟨ds, g h1, h2⟩, h.ra, h.rc, h.ac⟩
theorem RunC.set {r a c most n : Nat} {pd : D} {st : St} {x : Cell} (h : RunC m r a c pd most st) (h1 : n ≠ r) (h2 : n ≠ a) (h3 : n ≠ c) : RunC (m.set n x) r a c pd most st := by
  obtain ⟨ds, e1, e2⟩ := h.c_
  exact ⟨by rw [List.getElem?_set_ne h1]; exact h.r_, by rw [List.getElem?_set_ne h2]; exact h.a_, ⟨ds, by rw [List.getElem?_set_ne h3]; exact e1, e2⟩, h.ra, h.rc, h.ac⟩
theorem fld_run {r a c most : Nat} {pd : D} {st : St} (h : RunC m r a c pd most st) : fldD m (.loc r) "functions" = .ok pd ∧ fldD m (.loc r) "answers" = .ok (.loc a) ∧ fldD m (.loc r) "most" = .ok (.int most) ∧ fldD m (.loc r) "calls" = .ok (.loc c) := by
  simp [fldD, view, h.r_, kget, R.of]
theorem cls_run {r a c most : Nat} {pd : D} {st : St} (h : RunC m r a c pd most st) : clsM m (.loc r) "deed" = .ok "Run" ∧ clsM m (.loc r) "call" = .ok "Run" := by
  simp [clsM, view, h.r_]
end
end Mi
end
section
set_option linter.all false
set_option Elab.async false
set_option maxRecDepth 100000
set_option maxHeartbeats 4000000
/-! Mr4: a deed of a run. -/
namespace Mi
open PySem Pm
theorem shaped_ints (is : List Int) : SeqAt.shaped (.tuple (is.map PyData.int)) = true := by
  unfold SeqAt.shaped
  simp only [PyData.canLay0, PyData.depth, canLay_map PyData.int is fun x hx => by simp [PyData.canLay0], Bool.true_and]
  have := depth_map PyData.int 0 is fun x _ => by simp [PyData.depth]
  exact decide_eq_true (by omega)
theorem lfs_ints (is : List Int) : lfs (is.map D.int) = true := lfs_of_ows (ows_ints is)
section
variable {Pg : Prg} {k : Nat} {m m' : Mem} {Q : D × Mem → Prop}
theorem W_neAns {a : Nat} {is : List Int} {o : Bool} {P : Bool → Prop} (h : m[a]? = some ⟨.lst, is.map D.int⟩) : W (cmpB .ne m (.loc a) (.nd o .lst [])) P ↔ P (!is.isEmpty) := by
  have hv : val m (.loc a) = some (.nd false .lst (is.map D.int)) := by
    unfold val
    rw [if_neg (by simp [lf])]
    exact lend_loc h (lfs_ints is)
  have e : cmpEq m (.loc a) (.nd o .lst []) = cmpEq m (.nd false .lst (is.map D.int)) (.nd o .lst []) := by
    unfold cmpEq
    rw [hv, val_lf (d := .nd false .lst (is.map D.int)) (by simpa [lf] using lfs_ints is)]
  have e2 : cmpB .ne m (.loc a) (.nd o .lst []) = cmpB .ne m (.nd false .lst (is.map D.int)) (.nd o .lst []) := by
    unfold cmpB; rw [e]
  rw [e2, W_ne (p := .list (is.map PyData.int)) (q := .list []) (by simpa using reps_ints is) (by simp) (by rw [shaped_list]; exact shaped_ints is) (by simp)]
  cases is <;> simp [PyData.eqv, PyData.eqvAll]
theorem W_pop0 {a : Nat} {d : D} {ds : List D} (h : m[a]? = some ⟨.lst, d :: ds⟩) : W (mt .pop m (.loc a) [.int 0]) Q ↔ Q (d, m.set a ⟨.lst, ds⟩) := by
  have e : mt .pop m (.loc a) [.int 0] = .ok (d, m.set a ⟨.lst, ds⟩) := by
    simp only [mt, h, mtLst, R.bind, if_true]
  rw [e, W_ok]
theorem W_eqInts {o b o' b' : Bool} {is : List Int} {P : Bool → Prop} : W (cmpB .eq m (T' o b (is.map D.int)) (T' o' b' [])) P ↔ P is.isEmpty := by
  rw [W_eq (p := .tuple (is.map PyData.int)) (q := .tuple []) (by simpa using reps_ints is) (by simp) (shaped_ints is) (by simp)]
  cases is <;> simp [PyData.eqv, PyData.eqvAll]
theorem vl_int {d : D} {v : Vl} (h : VlD d v) (hk : v.k = .nu) : d = .int v.i := by
  cases v with
  | int i => exact h
  | lst is => cases hk
theorem vl_lst {d : D} {v : Vl} (h : VlD d v) (hk : v.k = .li) : ∃ b, d = T' true b (v.l.map D.int) := by
  cases v with
  | int i => cases hk
  | lst is => exact h
theorem areOf_len {κ : Kno} : ∀ {xs : List Str} {ks : List Kn}, areOf κ xs ks = true → xs.length = ks.length
  | [], [], _ => rfl
  | [], _ :: _, h => by simp [areOf] at h
  | _ :: _, [], h => by simp [areOf] at h
  | x :: xs, k :: ks, h => by
    simp only [areOf, Bool.and_eq_true] at h
    simp [areOf_len h.2]
theorem areOf_at {κ : Kno} : ∀ {xs : List Str} {ks : List Kn}, areOf κ xs ks = true → ∀ x ∈ xs, ∃ j, kgets x κ = some j
  | [], _, _, x, hx => by cases hx
  | y :: xs, [], h, x, hx => by simp [areOf] at h
  | y :: xs, z :: ks, h, x, hx => by
    simp only [areOf, Bool.and_eq_true, decide_eq_true_eq] at h
    rcases List.mem_cons.mp hx with rfl | hx
    · exact ⟨z, h.1.2⟩
    · exact areOf_at h.2 x hx
/-- the values of names -/
theorem lc_vals {cal : Cal} {n i : Nat} {kv : Kv} {κ : Kno} {ds : List D} {xs : List Str} {ks : List Kn} {ρ : Env} (hn : m[n]? = some ⟨.dK (kvK kv), ds⟩) (hk : KvOk κ kv) (hds : VlDs ds (kv.map (·.2))) (har : areOf κ xs ks = true) (hl : xs.length ≤ 4) (h2 : ∀ d, ((ρ.set i (some d))[2]?).join = some (.loc n)) (hi : ∀ d, ((ρ.set i (some d))[i]?).join = some d) :
    W (goSt (lcT cal (.idx (.var 2) (.var i)) [i] (.var i) [] .nil ρ) (xs.map D.str) (.lst, []) m) fun r => ∃ ads, r = ((.lst, ads), m) ∧ VlDs ads (xs.map fun x => vget x kv) := by
  refine W_goSt (fun j acc m' => ∃ ads, acc = (.lst, ads) ∧ m' = m ∧ VlDs ads ((xs.take j).map fun x => vget x kv)) (xs.map D.str) _ m 0 ⟨[], rfl, rfl, trivial⟩ (fun j d acc m' hd ⟨ads, ea, em, hv⟩ => ?_) (fun acc m' ⟨ads, ea, em, hv⟩ => ?_)
  · subst ea em
    rw [List.getElem?_map] at hd
    cases hx : xs[j]? with
    | none => rw [hx] at hd; cases hd
    | some x =>
      rw [hx] at hd
      cases hd
      have hj := (List.getElem?_eq_some_iff.mp hx).1
      obtain ⟨kj, hkj⟩ := areOf_at har x (List.mem_of_getElem? hx)
      obtain ⟨e, h1, h3⟩ := idx_kv hn hk hds hkj
      have hla : ads.length ≤ 4 := by
        have := hv.length
        simp at this
        omega
      have hlt : ads.length < most := Nat.lt_of_lt_of_le (show _ < 100000 by omega) most_big
      simp [wipe, h2, hi, h1, putL, hlt]
      have : List.map (fun x => vget x kv) (List.take (0 + j + 1) xs) = (xs.take j).map (fun x => vget x kv) ++ [vget x kv] := by
        rw [Nat.zero_add, List.take_add_one, hx]; simp
      rw [Nat.zero_add] at hv
      rw [Nat.zero_add] at this
      rw [← List.map_take, this]
      exact hv.snoc h3
  · subst ea em
    simp at hv
    exact ⟨ads, rfl, hv⟩
theorem f_rdeed (h : Has Pg "Run.deed" Cm.Run_deed_d) {P : Pr} {κ : Kno} {kv : Kv} {ds : List D} {n r a c most f p : Nat} {pd d : D} {st : St} {de : De} {j : Kn} {rc : Rec} (hR : RunC m r a c pd most st) (hn : m[n]? = some ⟨.dK (kvK kv), ds⟩) (hk : KvOk κ kv) (hds : VlDs ds (kv.map (·.2))) (hkb : KvB 50000 kv) (hd : Rep d de.p) (hj : kindOf P κ de = some j) (hP4 : ∀ f ∈ P, f.ps.length ≤ 4)
    (hcall : ∀ g xs ads, de = .call g xs → VlDs ads (xs.map fun x => vget x kv) → W (callN Pg k "Run.call" [.loc r, .int g, .nd true .lst ads] m) Q)
    (q : ∀ d' m', (∀ g xs, de ≠ .call g xs) → RsD d' (deedR rc f p kv st de).1 → RunC m' r a c pd most (deedR rc f p kv st de).2 → Frs [a, c] m m' → Q (d', m')) :
    W (callN Pg (k + 1) "Run.deed" [.loc r, d, .loc n, T' true true [.int f, .int p]] m) Q := by
  rw [W_callN h]
  cases de with
  | num i =>
    obtain ⟨o1, b1, e1, e2, rfl, r1, r2⟩ := Rep.t2 hd
    rw [Rep_str] at r1
    rw [Rep_int] at r2
    subst r1 r2
    simp [Cm.Run_deed_b, out]
    exact q _ _ (by simp) ⟨_, _, _, rfl, rfl⟩ hR Frs.refl
  | sum x i =>
    simp only [kindOf, areOf, Bool.and_true] at hj
    split at hj
    · rename_i hh
      simp at hh
      obtain ⟨e, h1, h2⟩ := idx_kv hn hk hds hh.1.2
      have hv := vl_int h2 (vget_ok hk hh.1.2).1
      subst hv
      obtain ⟨o1, b1, e1, e2, e3, rfl, r1, r2, r3⟩ := Rep.t3 hd
      rw [Rep_str] at r1 r2
      rw [Rep_int] at r3
      subst r1 r2 r3
      simp [Cm.Run_deed_b, out, h1]
      exact q _ _ (by simp) ⟨_, _, _, rfl, rfl⟩ hR Frs.refl
    · cases hj
  | len x =>
    simp only [kindOf, areOf, Bool.and_true] at hj
    split at hj
    · rename_i hh
      simp at hh
      obtain ⟨e, h1, h2⟩ := idx_kv hn hk hds hh.2
      obtain ⟨b, rfl⟩ := vl_lst h2 (vget_ok hk hh.2).1
      obtain ⟨o1, b1, e1, e2, rfl, r1, r2⟩ := Rep.t2 hd
      rw [Rep_str] at r1 r2
      subst r1 r2
      simp [Cm.Run_deed_b, out, h1]
      exact q _ _ (by simp) ⟨_, _, _, rfl, rfl⟩ hR Frs.refl
    · cases hj
  | nil =>
    obtain ⟨o1, b1, e1, rfl, r1⟩ := Rep.t1 hd
    rw [Rep_str] at r1
    subst r1
    simp [Cm.Run_deed_b, out]
    exact q _ _ (by simp) ⟨_, _, _, rfl, ⟨true, rfl⟩⟩ hR Frs.refl
  | put x y =>
    simp only [kindOf, areOf, Bool.and_true] at hj
    split at hj
    · rename_i hh
      simp at hh
      obtain ⟨e, h1, h2⟩ := idx_kv hn hk hds hh.1.2
      have hv := vl_int h2 (vget_ok hk hh.1.2).1
      subst hv
      obtain ⟨e', g1, g2⟩ := idx_kv hn hk hds hh.2.2
      have hlen := vget_len hk hh.2.2 hkb
      obtain ⟨b, rfl⟩ := vl_lst g2 (vget_ok hk hh.2.2).1
      obtain ⟨o1, b1, e1, e2, e3, rfl, r1, r2, r3⟩ := Rep.t3 hd
      rw [Rep_str] at r1 r2 r3
      subst r1 r2 r3
      simp [Cm.Run_deed_b, out, h1, g1, W_addT (m := m) (o := true) (b := true) (o' := true) (b' := b) (xs := [.int (vget x kv).i]) (ys := (vget y kv).l.map D.int) (Nat.le_trans (show _ ≤ 100000 by simp [Vl.len] at hlen ⊢; omega) most_big)]
      exact q _ _ (by simp) ⟨_, _, _, rfl, ⟨false, rfl⟩⟩ hR Frs.refl
    · cases hj
  | head x =>
    simp only [kindOf, areOf, Bool.and_true] at hj
    split at hj
    · rename_i hh
      simp at hh
      obtain ⟨e, h1, h2⟩ := idx_kv hn hk hds hh.2
      obtain ⟨b, rfl⟩ := vl_lst h2 (vget_ok hk hh.2).1
      obtain ⟨o1, b1, e1, e2, rfl, r1, r2⟩ := Rep.t2 hd
      rw [Rep_str] at r1 r2
      subst r1 r2
      simp only [deedR] at q
      cases hl : (vget x kv).l with
      | nil =>
        rw [hl] at q h1
        simp [Cm.Run_deed_b, out, h1, W_addT (m := m) (o := true) (b := true) (o' := true) (b' := true) (xs := [.str "fault", .str "empty"]) (ys := [.int f, .int p]) (Nat.le_trans (show _ ≤ 100000 by simp) most_big)]
        exact q _ _ (by simp) ⟨_, _, _, rfl, by simp [Wy.p], by simp [ow, ows]⟩ hR Frs.refl
      | cons i is =>
        rw [hl] at q h1
        have he := fun (P : Bool → Prop) => W_eqInts (m := m) (o := true) (b := b) (o' := true) (b' := true) (is := i :: is) (P := P)
        simp only [List.map_cons] at he h1
        simp [Cm.Run_deed_b, out, h1, he]
        exact q _ _ (by simp) ⟨_, _, _, rfl, rfl⟩ hR Frs.refl
    · cases hj
  | tail x =>
    simp only [kindOf, areOf, Bool.and_true] at hj
    split at hj
    · rename_i hh
      simp at hh
      obtain ⟨e, h1, h2⟩ := idx_kv hn hk hds hh.2
      obtain ⟨b, rfl⟩ := vl_lst h2 (vget_ok hk hh.2).1
      obtain ⟨o1, b1, e1, e2, rfl, r1, r2⟩ := Rep.t2 hd
      rw [Rep_str] at r1 r2
      subst r1 r2
      simp only [deedR] at q
      cases hl : (vget x kv).l with
      | nil =>
        rw [hl] at q h1
        simp [Cm.Run_deed_b, out, h1, W_addT (m := m) (o := true) (b := true) (o' := true) (b' := true) (xs := [.str "fault", .str "empty"]) (ys := [.int f, .int p]) (Nat.le_trans (show _ ≤ 100000 by simp) most_big)]
        exact q _ _ (by simp) ⟨_, _, _, rfl, by simp [Wy.p], by simp [ow, ows]⟩ hR Frs.refl
      | cons i is =>
        rw [hl] at q h1
        have he := fun (P : Bool → Prop) => W_eqInts (m := m) (o := true) (b := b) (o' := true) (b' := true) (is := i :: is) (P := P)
        simp only [List.map_cons] at he h1
        simp [Cm.Run_deed_b, out, h1, he, cut_L (show (0 : Int) ≤ 1 by omega)]
        exact q _ _ (by simp) ⟨_, _, _, rfl, ⟨false, rfl⟩⟩ hR Frs.refl
    · cases hj
  | «at» x y =>
    simp only [kindOf, areOf, Bool.and_true] at hj
    split at hj
    · rename_i hh
      simp at hh
      obtain ⟨e, h1, h2⟩ := idx_kv hn hk hds hh.1.2
      obtain ⟨b, rfl⟩ := vl_lst h2 (vget_ok hk hh.1.2).1
      obtain ⟨e', g1, g2⟩ := idx_kv hn hk hds hh.2.2
      have hv := vl_int g2 (vget_ok hk hh.2.2).1
      subst hv
      obtain ⟨o1, b1, e1, e2, e3, rfl, r1, r2, r3⟩ := Rep.t3 hd
      rw [Rep_str] at r1 r2 r3
      subst r1 r2 r3
      simp only [deedR] at q
      generalize (vget y kv).i = i at q g1
      generalize (vget x kv).l = l at q h1
      by_cases hi : 0 ≤ i ∧ i < (l.length : Int)
      · rw [if_pos hi] at q
        have hlt : i.toNat < l.length := by omega
        have hat : L2.atI (l.map D.int) i = some (.int (l[i.toNat]?.getD 0)) := by
          have : i = (i.toNat : Int) := by omega
          rw [this, atI_nat, List.getElem?_map, Int.toNat_natCast, List.getElem?_eq_getElem hlt]
          rfl
        simp [Cm.Run_deed_b, out, h1, g1, hi, hat]
        exact q _ _ (by simp) ⟨_, _, _, rfl, by show D.int _ = D.int _; rw [List.getElem?_eq_getElem hlt]; rfl⟩ hR Frs.refl
      · rw [if_neg hi] at q
        by_cases h0 : 0 ≤ i
        · have h9 : ¬ i < (l.length : Int) := fun h => hi ⟨h0, h⟩
          simp [Cm.Run_deed_b, out, h1, g1, h0, h9, W_addT (m := m) (o := true) (b := true) (o' := true) (b' := true) (xs := [.str "fault", .str "beyond"]) (ys := [.int f, .int p]) (Nat.le_trans (show _ ≤ 100000 by simp) most_big)]
          exact q _ _ (by simp) ⟨_, _, _, rfl, by simp [Wy.p], by simp [ow, ows]⟩ hR Frs.refl
        · simp [Cm.Run_deed_b, out, h1, g1, h0, W_addT (m := m) (o := true) (b := true) (o' := true) (b' := true) (xs := [.str "fault", .str "beyond"]) (ys := [.int f, .int p]) (Nat.le_trans (show _ ≤ 100000 by simp) most_big)]
          exact q _ _ (by simp) ⟨_, _, _, rfl, by simp [Wy.p], by simp [ow, ows]⟩ hR Frs.refl
    · cases hj
  | ask =>
    obtain ⟨o1, b1, e1, rfl, r1⟩ := Rep.t1 hd
    rw [Rep_str] at r1
    subst r1
    obtain ⟨_, fa, _, _⟩ := fld_run hR
    have ha := hR.a_
    simp only [deedR] at q
    cases hl : st.ans with
    | nil =>
      rw [hl] at ha q
      have hne := fun (P : Bool → Prop) => W_neAns (o := true) ha (P := P)
      simp [Cm.Run_deed_b, out, fa, hne]
      exact q _ _ (by simp) ⟨_, _, _, rfl, rfl⟩ hR Frs.refl
    | cons i is =>
      rw [hl] at ha q
      have hne := fun (P : Bool → Prop) => W_neAns (o := true) ha (P := P)
      simp only [List.map_cons] at ha
      simp [Cm.Run_deed_b, out, fa, hne, mtOk_loc ha (q := .pop) (by decide), W_pop0 ha]
      have hal : a < m.length := (List.getElem?_eq_some_iff.mp ha).1
      refine q _ _ (by simp) ⟨_, _, _, rfl, rfl⟩ ⟨by rw [List.getElem?_set_ne hR.ra.symm]; exact hR.r_, by rw [List.getElem?_set_self hal], ?_, hR.ra, hR.rc, hR.ac⟩ (Frs.refl.set (by simp))
      obtain ⟨cs, c1, c2⟩ := hR.c_
      exact ⟨cs, by rw [List.getElem?_set_ne hR.ac]; exact c1, c2⟩
  | call g xs =>
    simp only [kindOf] at hj
    split at hj
    · split at hj
      · rename_i fu hf
        split at hj
        · rename_i har
          obtain ⟨o1, b1, e1, e2, e3, rfl, r1, r2, r3⟩ := Rep.t3 hd
          rw [Rep_str] at r1
          rw [Rep_int] at r2
          subst r1 r2
          obtain ⟨o2, b2, xds, rfl, hx⟩ := Rep_tuple.mp r3
          have := strs_of hx
          subst this
          have hcl := cls_run hR
          have hlx : xs.length = fu.ps.length := by simpa using areOf_len har
          have hx4 : xs.length ≤ 4 := by rw [hlx]; exact hP4 fu (List.mem_of_getElem? hf)
          simp [Cm.Run_deed_b, out, hcl.2]
          refine (lc_vals hn hk hds har hx4 (fun _ => rfl) (fun _ => rfl)).mono fun r1 ⟨ads, e, hads⟩ => ?_
          subst e
          have := hcall g xs ads rfl hads
          simp
          refine W.mono this fun x hx => ?_
          simpa [out] using hx
        · cases hj
      · cases hj
    · cases hj
end
end Mi
end
section
set_option linter.all false
set_option Elab.async false
set_option maxRecDepth 100000
set_option maxHeartbeats 4000000
/-! Mr5: what is known at a call's begin. -/
namespace Mi
open PySem Pm
section
variable {Pg : Prg} {k : Nat} {m m' : Mem} {Q : D × Mem → Prop} {cal : Cal} {ρ : Env}
def dcT (cal : Cal) (kk v : E) (own : List Nat) (t : T) (ρ : Env) : D → Acc → Mem → R (Acc × Mem) := fun d acc m => (asgn cal t d (wipe ρ own) m).bind fun r => (evIfs cal [] r.1 r.2).bind fun b =>
  if b.1 then evG cal .nil (fun ρ acc m => (evE cal kk ρ m).bind fun x => (evE cal v ρ x.2).bind fun y => (putC acc x.1 y.1).bind fun acc => .ok (acc, y.2)) r.1 acc b.2 else .ok (acc, b.2)
theorem V_dc {fr tk : Bool} {kk v : E} {own : List Nat} {t : T} {it : I} : V (evE cal (.dc fr tk kk v own t it [] .nil) ρ m) Q ↔ V (evI cal it ρ m) fun s => V (goSrc (dcT cal kk v own t ρ) s.1 (emptyK tk) s.2) fun r => Q (fin fr r.1.1 r.1.2 r.2) := by
  conv => lhs; unfold evE; simp
  rfl
@[simp] theorem W_dc {fr tk : Bool} {kk v : E} {own : List Nat} {t : T} {it : I} : W (evE cal (.dc fr tk kk v own t it [] .nil) ρ m) Q ↔ W (evI cal it ρ m) fun s => W (goSrc (dcT cal kk v own t ρ) s.1 (emptyK tk) s.2) fun r => Q (fin fr r.1.1 r.1.2 r.2) := V_dc
theorem V_dcT {kk v : E} {own : List Nat} {t : T} {d : D} {acc : Acc} {P : Acc × Mem → Prop} : V (dcT cal kk v own t ρ d acc m) P ↔ V (asgn cal t d (wipe ρ own) m) fun r => V (evE cal kk r.1 r.2) fun x => V (evE cal v r.1 x.2) fun y => V (putC acc x.1 y.1) fun acc => P (acc, y.2) := by
  unfold dcT evG
  simp [V_if]
@[simp] theorem W_dcT {kk v : E} {own : List Nat} {t : T} {d : D} {acc : Acc} {P : Acc × Mem → Prop} : W (dcT cal kk v own t ρ d acc m) P ↔ W (asgn cal t d (wipe ρ own) m) fun r => W (evE cal kk r.1 r.2) fun x => W (evE cal v r.1 x.2) fun y => W (putC acc x.1 y.1) fun acc => P (acc, y.2) := V_dcT
theorem zipD_at : ∀ {xs ys : List D} {i : Nat} {d : D}, (zipD xs ys)[i]? = some d → ∃ x y, xs[i]? = some x ∧ ys[i]? = some y ∧ d = tupD [x, y]
  | [], _, i, d, h => by simp [zipD] at h
  | _ :: _, [], i, d, h => by simp [zipD] at h
  | x :: xs, y :: ys, 0, d, h => ⟨x, y, rfl, rfl, by simp [zipD] at h; exact h.symm⟩
  | x :: xs, y :: ys, i + 1, d, h => by
    obtain ⟨a, b, h1, h2, h3⟩ := zipD_at (xs := xs) (ys := ys) (i := i) (by simpa [zipD] using h)
    exact ⟨a, b, by simpa using h1, by simpa using h2, h3⟩
theorem zipD_lenE : ∀ {xs ys : List D}, xs.length = ys.length → (zipD xs ys).length = xs.length
  | [], [], _ => rfl
  | x :: xs, y :: ys, h => by simp [zipD, zipD_lenE (xs := xs) (ys := ys) (by simpa using h)]
theorem KvOk.take {κ : Kno} {kv : Kv} (h : KvOk κ kv) (j : Nat) : KvOk (κ.take j) (kv.take j) := by
  unfold KvOk at h ⊢
  rw [List.map_take, h]
theorem kgets_take {κ : Kno} (hn : (κ.map (·.1)).Nodup) {j : Nat} {q : Str × Kn} (hq : κ[j]? = some q) : kgets q.1 (κ.take j) = none := by
  refine kgets_notin fun z hz e => ?_
  obtain ⟨i, hi⟩ := List.getElem?_of_mem hz
  have hij : i < j := by
    have := (List.getElem?_eq_some_iff.mp hi).1
    simp at this
    omega
  rw [List.getElem?_take_of_lt hij] at hi
  have h1 : (κ.map (·.1))[i]? = some z.1 := by rw [List.getElem?_map, hi]; rfl
  have h2 : (κ.map (·.1))[j]? = some q.1 := by rw [List.getElem?_map, hq]; rfl
  have := (List.getElem?_inj (j := j) (List.getElem?_eq_some_iff.mp h1).1 hn).mp (by rw [h1, h2, e])
  omega
/-- one more is known -/
theorem putC_kv {kv : Kv} {κ : Kno} {ds : List D} {x : Str} {v : D} {P : Sh × List D → Prop} (h : KvOk κ kv) (hs : kv.length ≤ 1000) (e : kgets x κ = none) : W (putC (.dK (kvK kv), ds) (.str x) v) P ↔ P (.dK (kvK kv ++ [.inr x]), ds ++ [v]) := by
  have hk : (kvK kv).length < most := by
    unfold kvK
    rw [List.length_map]
    exact Nat.lt_of_lt_of_le (show _ < 100000 by omega) most_big
  have e' : putC (.dK (kvK kv), ds) (.str x) v = .ok (.dK (kvK kv ++ [.inr x]), ds ++ [v]) := by
    simp only [putC, keyOf, hk, if_true, kv_put h e]
  rw [e', W_ok]
theorem VlDs.take : ∀ {ds : List D} {vs : List Vl} (j : Nat), VlDs ds vs → VlDs (ds.take j) (vs.take j)
  | [], [], j, _ => by simp [VlDs]
  | d :: ds, v :: vs, 0, _ => by simp [VlDs]
  | d :: ds, v :: vs, j + 1, h => ⟨h.1, VlDs.take j h.2⟩
theorem VlDs.getD : ∀ {ds : List D} {vs : List Vl} {i : Nat} {d : D}, VlDs ds vs → ds[i]? = some d → ∃ v, vs[i]? = some v ∧ VlD d v
  | [], [], i, v, h, e => by simp at e
  | d :: ds, v :: vs, 0, _, h, e => ⟨v, rfl, by cases e; exact h.1⟩
  | d :: ds, v :: vs, i + 1, _, h, e => by
    obtain ⟨d', h1, h2⟩ := VlDs.getD (i := i) h.2 (by simpa using e)
    exact ⟨d', by simpa using h1, h2⟩
/-- what is known at a call's begin -/
theorem dc_args {r a b : Option D} {o1 b1 : Bool} {ds1 ads : List D} {ps : List (Str × Kn)} {as : List Vl} {x3 x5 x6 x7 x8 x9 x10 x11 x12 x13 : Option D} {P : Acc × Mem → Prop} (hr : Reps ds1 (ps.map parP)) (ha : VlDs ads as) (hk : as.map Vl.k = ps.map (·.2)) (hn : (ps.map (·.1)).Nodup) (hl : ps.length ≤ 4)
    (q : ∀ ds, VlDs ds (((ps.map (·.1)).zip as).map (·.2)) → P ((.dK (kvK ((ps.map (·.1)).zip as)), ds), m)) :
    W (goSt (dcT cal (.var 8) (.var 10) [10, 8, 9] (.tup [(.tup [(.var 8), (.var 9)]), (.var 10)]) [r, a, b, x3, some (T' o1 b1 ds1), x5, x6, x7, x8, x9, x10, x11, x12, x13]) (zipD ds1 ads) (emptyK false) m) P := by
  have hla : as.length = ps.length := by simpa using congrArg List.length hk
  have hld : ads.length = ps.length := by rw [ha.length, hla]
  have hl1 : ds1.length = ps.length := by simpa using hr.length
  have hK := kv_zip hk
  refine W_goSt (fun j acc m' => ∃ ds, acc = (.dK (kvK (((ps.map (·.1)).zip as).take j)), ds) ∧ m' = m ∧ VlDs ds ((((ps.map (·.1)).zip as).take j).map (·.2))) (zipD ds1 ads) _ m 0 ⟨[], rfl, rfl, trivial⟩ (fun j d acc m' hd ⟨ds, ea, em, hv⟩ => ?_) (fun acc m' ⟨ds, ea, em, hv⟩ => ?_)
  · subst ea em
    rw [Nat.zero_add] at hv ⊢
    obtain ⟨x, y, h1, h2, rfl⟩ := zipD_at hd
    obtain ⟨p, hp1, hp2⟩ := hr.get h1
    rw [List.getElem?_map] at hp1
    cases hpi : ps[j]? with
    | none => rw [hpi] at hp1; cases hp1
    | some pr =>
      rw [hpi] at hp1
      cases hp1
      obtain ⟨o3, b3, e1, e2, rfl, r1, r2⟩ := hp2.t2
      rw [Rep_str] at r1 r2
      subst r1 r2
      obtain ⟨v, hv1, hv2⟩ := ha.getD h2
      have hz : ((ps.map (·.1)).zip as)[j]? = some (pr.1, v) := by
        rw [List.getElem?_zip_eq_some]
        exact ⟨by rw [List.getElem?_map, hpi]; rfl, hv1⟩
      have hlen : (((ps.map (·.1)).zip as).take j).length ≤ 1000 := by simp; omega
      have hnew := fun (P : Sh × List D → Prop) => putC_kv (P := P) (ds := ds) (x := pr.1) (v := y) (Mi.KvOk.take hK j) hlen (kgets_take hn hpi)
      simp [wipe, tupD]
      refine (hnew _).mpr ?_
      refine ⟨ds ++ [y], ?_, rfl, ?_⟩
      · rw [List.take_add_one, hz]; simp [kvK]
      · rw [List.take_add_one, hz, List.map_append]; exact hv.snoc hv2
  · subst ea em
    rw [zipD_lenE (by omega), Nat.zero_add, List.take_of_length_le (by simp; omega)] at hv ⊢
    exact q ds hv
end
end Mi
end
section
set_option linter.all false
set_option Elab.async false
set_option maxRecDepth 100000
set_option maxHeartbeats 4000000
/-! Mr6: a call of a run. -/
namespace Mi
open PySem Pm
structure RunP (Pg : Prg) : Prop where
  call : Has Pg "Run.call" Cm.Run_call_d
  deed : Has Pg "Run.deed" Cm.Run_deed_d
  worth : Has Pg "worth_of" Cm.worth_of_d
  size : Has Pg "size_of" Cm.size_of_d
section
variable {Pg : Prg} {k : Nat} {m m' : Mem} {Q : D × Mem → Prop}
theorem RunC.fr {r a c most n : Nat} {pd : D} {st : St} (h : RunC m r a c pd most st) : r < m.length ∧ a < m.length ∧ c < m.length := by
  obtain ⟨ds, e, _⟩ := h.c_
  exact ⟨(List.getElem?_eq_some_iff.mp h.r_).1, (List.getElem?_eq_some_iff.mp h.a_).1, (List.getElem?_eq_some_iff.mp e).1⟩
theorem Frs.wk {S S' : List Nat} (h : Frs S m m') (hs : ∀ n ∈ S, n ∈ S') : Frs S' m m' := ⟨h.len, fun n hn hx => h.at_ n hn fun hy => hx (hs n hy)⟩
/-- what a call does -/
def RcOk (Pg : Prg) (K : Nat) (P : Pr) (pd : D) (r a c most lo : Nat) (rc : Rec) : Prop :=
  ∀ (m : Mem) (st : St) (g : Nat) (fu : Fu) (ads : List D) (as : List Vl) (Q : D × Mem → Prop) (o : Bool), RunC m r a c pd most st → P[g]? = some fu → VlDs ads as → as.map Vl.k = fu.ps.map (·.2) → (∀ v ∈ as, v.len ≤ 40 + st.n) → StB st → st.calls.length ≤ most → lo ≤ st.calls.length → st.n ≤ 20 * st.calls.length →
    (∀ d m', RsD d (rc g as st).1 → RunC m' r a c pd most (rc g as st).2 → Frs [a, c] m m' → Q (d, m')) → W (callN Pg K "Run.call" [.loc r, .int g, .nd o .lst ads] m) Q
theorem atI_5 {α : Type} {a c d e f g : α} {l : List α} : L2.atI (a :: c :: d :: e :: f :: g :: l) 5 = some g := atI_nat (i := 5)
theorem lend_kv {n : Nat} {kv : Kv} {ds : List D} {vs : List Vl} {e : D} (hn : m[n]? = some ⟨.dK (kvK kv), ds⟩) (hds : VlDs ds vs) (he : lf e = true) : lends m [e, .loc n] = some [e, .nd false (.dK (kvK kv)) ds] := by
  refine snaps_cons (lend_lf 4 he) (snaps_cons ?_ snaps_nil)
  rw [snap, hn]
  simp only [lends_lf 3 (lfs_of_ows hds.ows), Option.map_some]
theorem rc_loop (Z : RunP Pg) {P : Pr} {K r a c most lo f n : Nat} {pd : D} {rc : Rec} {j : Kn} (hP4 : ∀ f ∈ P, f.ps.length ≤ 4) (hm : most ≤ 300) (hrc : RecOk P most rc) (hRc : RcOk Pg (K + 20) P pd r a c most lo rc) {x2 x3 x4 x5 x8 x9 x10 : Option D} {PP : Fl × Mem → Prop} :
    ∀ (t : Tr) {κ : Kno} {kv : Kv} {ds : List D} {w place : Nat} {st : St} {m : Mem} {dt : D} {x12 x13 : Option D}, okTr P j κ w t = true → Rep dt t.p → m[n]? = some ⟨.dK (kvK kv), ds⟩ → KvOk κ kv → VlDs ds (kv.map (·.2)) → n ≠ r → n ≠ a → n ≠ c → RunC m r a c pd most st → StB st → st.calls.length ≤ most → lo ≤ st.calls.length → KvB (40 + st.n) kv → kv.length ≤ 30 + w → 1 ≤ w → st.n + 21 ≤ 20 * st.calls.length + w →
    (∀ v st' m' x e o b x11 x12 x13, goT rc f t place kv st = (.told v, st') → RunC m' r a c pd most st' → Frs [a, c, n] m m' → idxD m' (.loc n) (.str x) = .ok e → VlD e v → PP (.nx [some (.loc r), some (.int f), x2, x3, x4, x5, some (T' o b [.str "tell", .str x]), some (.loc n), x8, x9, x10, x11, x12, x13], m')) →
    (∀ wy st' m' d, goT rc f t place kv st = (.why wy, st') → RunC m' r a c pd most st' → Frs [a, c, n] m m' → RsD d (.why wy) → PP (.rt d, m')) →
    W (whl (fun ρ m => evE (callN Pg (K + 21)) (.cmp .ne (.idx (.var 6) (.cst (.int 0))) (.cst (.str "tell"))) ρ m) (fun ρ m => evSs (callN Pg (K + 21)) Cm.Run_call_b0 ρ m) [some (.loc r), some (.int f), x2, x3, x4, x5, some dt, some (.loc n), x8, x9, x10, some (.int place), x12, x13] m) PP := by
  intro t
  induction t with
  | tell x =>
    intro κ kv ds w place st m dt x12 x13 hok hd hn hk hds n1 n2 n3 hR hb hcm hlo hkb hkl hw hnn qt qw
    simp only [okTr, Bool.and_eq_true, decide_eq_true_eq] at hok
    obtain ⟨e, h1, h2⟩ := idx_kv hn hk hds hok.2.2
    obtain ⟨o1, b1, e1, e2, rfl, r1, r2⟩ := Rep.t2 hd
    rw [Rep_str] at r1 r2
    subst r1 r2
    rw [W_whl1]
    simp
    exact qt (vget x kv) st m x e o1 b1 _ _ _ rfl hR Frs.refl h1 h2
  | let_ x de t ih =>
    intro κ kv ds w place st m dt x12 x13 hok hd hn hk hds n1 n2 n3 hR hb hcm hlo hkb hkl hw hnn qt qw
    simp only [okTr, Bool.and_eq_true, decide_eq_true_eq] at hok
    obtain ⟨hw20, hx, hx2, hok⟩ := hok
    split at hok
    · rename_i jj hj
      obtain ⟨o1, b1, e1, e2, e3, e4, rfl, r1, r2, r3, r4⟩ := Rep.t4 hd
      rw [Rep_str] at r1 r2
      subst r1 r2
      have hcl := cls_run hR
      rw [W_whl1]
      simp [Cm.Run_call_b0, hcl.1]
      have hb1 : StB { st with n := st.n + 1 } := fun c hc => (hb c hc).mono (Nat.add_le_add_left (Nat.le_succ _) 40)
      have hKp := deed_ok hrc (f := f) (p := place) hk (st := { st with n := st.n + 1 }) hb1 hcm hkb (by simp; omega) hj
      have main : ∀ d' m', RsD d' (deedR rc f place kv { st with n := st.n + 1 } de).1 → RunC m' r a c pd most (deedR rc f place kv { st with n := st.n + 1 } de).2 → Frs [a, c] m m' → W (R.of (tupOf d')) fun ds => W (asgns (callN Pg (K + 21)) [(.idx (.var 7) (.idx (.var 6) (.cst (.int 1)))), (.var 13)] ds [some (.loc r), some (.int f), x2, x3, x4, x5, some (T' o1 b1 [.str "let", .str x, e3, e4]), some (.loc n), x8, x9, x10, some (.int place), some (.int (place + 1)), x13] m') fun rr => (Then (callN Pg (K + 21)) [.ifs (.isN true (.var 13)) [.ret (.tup [(.cst .non), (.var 13)])] [], .asg (.var 6) (.idx (.var 6) (.cst (.int 3)))] (Then (callN Pg (K + 21)) [.asg (.var 11) (.var 12)] (WhK (fun ρ m => evE (callN Pg (K + 21)) (.cmp .ne (.idx (.var 6) (.cst (.int 0))) (.cst (.str "tell"))) ρ m) (fun ρ m => evSs (callN Pg (K + 21)) Cm.Run_call_b0 ρ m) PP))) (.nx rr.1, rr.2) := by
        intro d' m' hRs hR' hF
        have hn' : m'[n]? = some ⟨.dK (kvK kv), ds⟩ := hF.cell hn (by simp [n2, n3])
        have hset := fun (v : D) (Q : Mem → Prop) => set_kv (v := v) (P := Q) hn' hk (by omega) hx2
        have hnl : n < m'.length := (List.getElem?_eq_some_iff.mp hn').1
        cases hres : deedR rc f place kv { st with n := st.n + 1 } de with
        | mk res st' =>
          rw [hres] at hRs hR' hKp
          cases res with
          | told v =>
            obtain ⟨o2, b2, e, rfl, hv⟩ := hRs
            obtain ⟨t1, t2⟩ := hKp.told v rfl
            have g1 := hKp.n
            have g2 := hKp.g
            have g3 := hKp.c
            simp only at g1 g2 g3 t2
            simp [hset, isNon]
            refine ih (κ := κ ++ [(x, jj)]) (kv := kv ++ [(x, v)]) (ds := ds ++ [e]) (w := w + 1) (place := place + 1) (st := st') hok r4 (by rw [List.getElem?_set_self hnl]; simp [kvK]) (KvOk.snoc hk t1) (by rw [List.map_append]; exact hds.snoc hv) n1 n2 n3 (hR'.set n1 n2 n3) hKp.b hKp.m (by omega) ?_ (by simp; omega) (by omega) (by omega) ?_ ?_
            · intro q hq
              rcases List.mem_append.mp hq with hq | hq
              · have := hkb q hq; omega
              · rw [List.mem_singleton.mp hq]; exact t2
            · intro v2 st2 m2 y e' o b y11 y12 y13 hg hR2 hF2 hi2 hv2
              refine qt v2 st2 m2 y e' o b y11 y12 y13 ?_ hR2 (((hF.wk (by simp)).set (by simp)).trans hF2) hi2 hv2
              simp only [goT, hres]
              exact hg
            · intro wy st2 m2 d2 hg hR2 hF2 hd2
              refine qw wy st2 m2 d2 ?_ hR2 (((hF.wk (by simp)).set (by simp)).trans hF2) hd2
              simp only [goT, hres]
              exact hg
          | why wy =>
            obtain ⟨o2, b2, e, rfl, hv, ho⟩ := hRs
            have hnon : isNon e = false := by
              cases wy <;> (obtain ⟨_, _, _, rfl, _⟩ := Rep_tuple.mp hv; rfl)
            simp [hset, hnon]
            refine qw wy st' _ _ ?_ (hR'.set n1 n2 n3) ((hF.wk (by simp)).set (by simp)) ⟨_, _, _, rfl, hv, ho⟩
            simp only [goT, hres]
      refine f_rdeed Z.deed (k := K + 20) (P := P) (rc := rc) (f := f) (p := place) (st := { st with n := st.n + 1 }) hR.n hn hk hds (hkb.mono (by omega)) r3 hj hP4 ?_ ?_
      · intro g xs ads hde hads
        subst hde
        simp only [kindOf] at hj
        split at hj
        · split at hj
          · rename_i fu hf
            split at hj
            · rename_i har
              obtain ⟨a1, a2⟩ := areOf_get hk hkb har
              refine hRc m { st with n := st.n + 1 } g fu ads _ _ true hR.n hf hads a1 (fun v hv => by have := a2 v hv; simp; omega) hb1 hcm hlo (by simp; omega) fun d m' h1 h2 h3 => ?_
              exact W_ttup.mpr (main d m' h1 h2 h3)
            · cases hj
          · cases hj
        · cases hj
      · intro d' m' _ h1 h2 h3
        exact W_ttup.mpr (main d' m' h1 h2 h3)
    · cases hok
  | claim ma mb i t ih =>
    intro κ kv ds w place st m dt x12 x13 hok hd hn hk hds n1 n2 n3 hR hb hcm hlo hkb hkl hw hnn qt qw
    simp only [okTr, Bool.and_eq_true, decide_eq_true_eq] at hok
    obtain ⟨hw20, ha, hb', hi, hok⟩ := hok
    obtain ⟨o1, b1, e1, e2, e3, e4, e5, rfl, r1, r2, r3, r4, r5⟩ := Rep.t5 hd
    rw [Rep_str] at r1
    rw [Rep_int] at r4
    subst r1 r4
    have w1 := fun (Q : D × Mem → Prop) => f_worth (k := K + 20) (m := []) (Q := Q) (o := false) Z.worth r2 hk hds ha
    have w2 := fun (Q : D × Mem → Prop) => f_worth (k := K + 20) (m := []) (Q := Q) (o := false) Z.worth r3 hk hds hb'
    have l1 := lend_kv hn hds r2.lf
    have l2 := lend_kv hn hds r3.lf
    rw [W_whl1]
    simp [Cm.Run_call_b0, l1, l2, W_pc, w1, w2]
    simp only [goT] at qt qw
    refine Br.mk (fun hc => ?_) (fun hc => ?_)
    · have hc : worthR kv ma - worthR kv mb ≤ i := by simpa using hc
      simp only [hc, if_true] at qt qw
      simp
      exact ih (w := w + 1) (place := place + 1) hok r5 hn hk hds n1 n2 n3 hR hb hcm hlo hkb (by omega) (by omega) (by omega) qt qw
    · have hc : ¬ worthR kv ma - worthR kv mb ≤ i := by simpa using hc
      simp only [hc, if_false] at qt qw
      simp
      exact qw _ st m _ rfl hR Frs.refl ⟨_, _, _, rfl, by simp [Wy.p], by simp [ow, ows]⟩
  | if_ ma mb i t u ih ih2 =>
    intro κ kv ds w place st m dt x12 x13 hok hd hn hk hds n1 n2 n3 hR hb hcm hlo hkb hkl hw hnn qt qw
    simp only [okTr, Bool.and_eq_true, decide_eq_true_eq] at hok
    obtain ⟨hw20, ha, hb', hi, hok, hok2⟩ := hok
    obtain ⟨o1, b1, e1, e2, e3, e4, e5, e6, rfl, r1, r2, r3, r4, r5, r6⟩ := Rep.t6 hd
    rw [Rep_str] at r1
    rw [Rep_int] at r4
    subst r1 r4
    have w1 := fun (Q : D × Mem → Prop) => f_worth (k := K + 20) (m := []) (Q := Q) (o := false) Z.worth r2 hk hds ha
    have w2 := fun (Q : D × Mem → Prop) => f_worth (k := K + 20) (m := []) (Q := Q) (o := false) Z.worth r3 hk hds hb'
    have l1 := lend_kv hn hds r2.lf
    have l2 := lend_kv hn hds r3.lf
    have hdep := okTr_dep hok
    have w3 := fun (Q : D × Mem → Prop) => f_size (k := K + 21 - t.dep) (m := []) (Q := Q) Z.size r5
    rw [show K + 21 - t.dep + t.dep = K + 21 by omega] at w3
    rw [W_whl1]
    simp [Cm.Run_call_b0, l1, l2, W_pc, w1, w2]
    simp only [goT] at qt qw
    refine Br.mk (fun hc => ?_) (fun hc => ?_)
    · have hc : worthR kv ma - worthR kv mb ≤ i := by simpa using hc
      simp only [hc, if_true] at qt qw
      simp
      exact ih (w := w + 1) (place := place + 1) hok r5 hn hk hds n1 n2 n3 hR hb hcm hlo hkb (by omega) (by omega) (by omega) qt qw
    · have hc : ¬ worthR kv ma - worthR kv mb ≤ i := by simpa using hc
      simp only [hc, if_false] at qt qw
      simp [W_pc, lfs, r5.lf, w3, atI_5]
      exact ih2 (w := w + 1) (place := place + 1 + t.size) hok2 r6 hn hk hds n1 n2 n3 hR hb hcm hlo hkb (by omega) (by omega) (by omega) qt qw
theorem Frs.trans2 {a c n : Nat} {m2 : Mem} (h : Frs [a, c] m m') (h2 : Frs [a, c, n] m' m2) (hn : m.length ≤ n) : Frs [a, c] m m2 := ⟨Nat.le_trans h.len h2.len, fun i hi hs => by
  rw [h2.at_ i (Nat.lt_of_lt_of_le hi h.len) (by simp at hs ⊢; exact ⟨hs.1, hs.2, by omega⟩), h.at_ i hi hs]⟩
theorem Reps.set {ds : List D} {ps : List PyData} (h : Reps ds ps) {i : Nat} {d : D} {p : PyData} (hd : Rep d p) : Reps (ds.set i d) (ps.set i p) := by
  induction ps generalizing ds i with
  | nil => rw [Reps_nil] at h; subst h; simp
  | cons q ps ih =>
    obtain ⟨e, es, rfl, h1, h2⟩ := Reps_cons.mp h
    cases i with
    | zero => exact reps_cc.mpr ⟨hd, h2⟩
    | succ i => exact reps_cc.mpr ⟨h1, ih h2⟩
theorem ows_set {ds : List D} {i : Nat} {d : D} (h : ows ds = true) (hd : ow d = true) : ows (ds.set i d) = true := by
  induction ds generalizing i with
  | nil => exact h
  | cons e ds ih =>
    simp only [ows, Bool.and_eq_true] at h
    cases i with
    | zero => simp [ows, hd, h.2]
    | succ i => simp [ows, h.1, ih h.2]
theorem RunC.calls {r a c most : Nat} {pd : D} {st : St} {ds : List D} {cs : List Cl} (h : RunC m r a c pd most st) (hd : ClDs ds cs) : RunC (m.set c ⟨.lst, ds⟩) r a c pd most { st with calls := cs } := by
  obtain ⟨ds0, e, _⟩ := h.c_
  exact ⟨by rw [List.getElem?_set_ne h.rc.symm]; exact h.r_, by rw [List.getElem?_set_ne h.ac.symm]; exact h.a_, ⟨ds, by rw [List.getElem?_set_self (List.getElem?_eq_some_iff.mp e).1], hd⟩, h.ra, h.rc, h.ac⟩
theorem f_rcall (Z : RunP Pg) {P : Pr} {pd : D} (hP : okPr P = true) (hpd : PrR pd P) {r a c most : Nat} (hm : most ≤ 300) : ∀ (n lo : Nat), most ≤ lo + n → RcOk Pg (k + 2 * n + 21) P pd r a c most lo (runF P most n)
  | 0, lo, hlo, m, st, g, fu, ads, as, Q, oo, hR, hf, hads, hak, hal, hb, hcm, hl, hn, q => by
    obtain ⟨_, _, f3, f4⟩ := fld_run hR
    obtain ⟨cds, hc, hcl⟩ := hR.c_
    have hcc : cds.length = st.calls.length := by simpa using hcl.1.length
    have he : (cds.length : Int) = most := by omega
    rw [show k + 2 * 0 + 21 = k + 20 + 1 by omega, W_callN Z.call]
    simp [Cm.Run_call_b, out, f4, f3, W_lenLoc hc, he]
    exact q _ _ ⟨_, _, _, rfl, by simp [Wy.p], by simp [ow, ows]⟩ hR Frs.refl
  | n + 1, lo, hlo, m, st, g, fu, ads, as, Q, oo, hR, hf, hads, hak, hal, hb, hcm, hl, hn, q => by
    obtain ⟨f1, _, f3, f4⟩ := fld_run hR
    obtain ⟨cds, hc, hcl⟩ := hR.c_
    have hcc : cds.length = st.calls.length := by simpa using hcl.1.length
    rw [show k + 2 * (n + 1) + 21 = k + 2 * n + 22 + 1 by omega, W_callN Z.call]
    simp only [runF] at q
    by_cases he : st.calls.length = most
    · simp only [he, if_true] at q
      have he' : (cds.length : Int) = most := by omega
      simp [Cm.Run_call_b, out, f4, f3, W_lenLoc hc, he']
      exact q _ _ ⟨_, _, _, rfl, by simp [Wy.p], by simp [ow, ows]⟩ hR Frs.refl
    · simp only [he, if_false] at q
      have he' : ¬ (cds.length : Int) = most := by omega
      have hP' := hP
      simp only [okPr, Bool.and_eq_true, List.all_eq_true] at hP'
      have hfo := hP'.2 fu (List.mem_of_getElem? hf)
      simp only [okFu, okHd, Bool.and_eq_true, decide_eq_true_eq, List.all_eq_true] at hfo
      have hP4 : ∀ f ∈ P, f.ps.length ≤ 4 := fun f hf => by
        have := hP'.2 f hf
        simp only [okFu, okHd, Bool.and_eq_true, decide_eq_true_eq] at this
        exact this.1.1
      have hfu : fuAt P g = fu := by unfold fuAt; rw [hf]; rfl
      rw [hfu] at q
      obtain ⟨o0, b0, pds, hpd0, hpds⟩ := hpd
      obtain ⟨fd, hfd1, o1, b1, o2, ds1, dt, hfd2, hr1, hdt⟩ := hpds.getP hf
      subst hpd0 hfd2
      have hat : L2.atI pds (g : Int) = some (T' o1 b1 [T' o2 true ds1, .str fu.k.s, dt]) := by rw [atI_nat, hfd1]
      simp [Cm.Run_call_b, out, f4, f3, W_lenLoc hc, he', mtOk_loc hc (q := .append) (by decide), W_app hc (Nat.lt_of_lt_of_le (show cds.length < 100000 by omega) most_big)]
      have hR1 : RunC (m.set c ⟨.lst, cds ++ [T' true true [.int g, T' true true ads, .non]]⟩) r a c (T' o0 b0 pds) most { st with calls := st.calls ++ [⟨g, as, none⟩] } := by
        refine hR.calls ⟨?_, ?_⟩
        · rw [List.map_append]
          exact hcl.1.append (reps_cc.mpr ⟨by simp [Cl.p, optP, hads.reps], by simp⟩)
        · rw [ows_app, hcl.2]
          simp [ows, ow, hads.ows]
      have hF1 : Frs [a, c] m (m.set c ⟨.lst, cds ++ [T' true true [.int g, T' true true ads, .non]]⟩) := Frs.refl.set (by simp)
      generalize m.set c ⟨.lst, cds ++ [T' true true [.int g, T' true true ads, .non]]⟩ = m1 at hR1 hF1 ⊢
      obtain ⟨g1, _, _, _⟩ := fld_run hR1
      simp [g1, hat, zipOf]
      refine dc_args hr1 hads hak hfo.1.2.2 hfo.1.1 fun kds hkds => ?_
      simp
      obtain ⟨q1, q2, q3⟩ := hR1.fr (n := 0)
      have hb1 : StB { st with calls := st.calls ++ [⟨g, as, none⟩] } := fun c hc => by
        rcases List.mem_append.mp hc with hc | hc
        · exact hb c hc
        · rw [List.mem_singleton.mp hc]; exact ⟨(by show as.length ≤ 4; have e1 := congrArg List.length hak; have e2 := hfo.1.1; simp at e1; omega), hal, fun v hv => by cases hv⟩
      refine rc_loop Z (K := k + 2 * n + 1) (lo := lo + 1) hP4 hm (run_ok hP n) (f_rcall Z hP ⟨o0, b0, pds, rfl, hpds⟩ hm n (lo + 1) (by omega)) fu.t (w := 1) (place := 0) (st := { st with calls := st.calls ++ [⟨g, as, none⟩] }) hfo.2.1 hdt app_self (kv_zip hak) hkds (by omega) (by omega) (by omega) hR1.app hb1 (by simp; omega) (by simp; omega) (zip_b hal) (by simp; omega) (by omega) (by simp; omega) ?_ ?_
      · intro v st' m' x e o b x11 x12 x13 hg hR2 hF2 hi2 hv2
        simp only [hg] at q
        obtain ⟨_, _, _, f42⟩ := fld_run hR2
        obtain ⟨cds2, hc2, hcl2⟩ := hR2.c_
        have hcc2 : cds2.length = st'.calls.length := by simpa using hcl2.1.length
        have hKp := go_ok (run_ok (most := most) hP n) (f := g) (p := 0) hfo.2.1 (kv_zip hak) (st := { st with calls := st.calls ++ [⟨g, as, none⟩] }) hb1 (by simp; omega) (zip_b hal)
        rw [hg] at hKp
        have g3 := hKp.c
        simp at g3
        have hi2' : ∀ X, idxD (List.set m' c X) (.loc m1.length) (.str x) = .ok e := fun X => by
          have : (List.set m' c X)[m1.length]? = m'[m1.length]? := by rw [List.getElem?_set_ne (by omega)]
          simp only [idxD, view, this] at hi2 ⊢
          exact hi2
        simp [hi2, f42, W_setL hc2 (show cds.length < cds2.length by omega), hi2', out]
        refine q _ _ ⟨_, _, _, rfl, hv2⟩ ?_ (((hF1.app).trans2 hF2 hF1.len).set (by simp))
        rw [← hcc]
        refine hR2.calls ⟨?_, ?_⟩
        · rw [List.map_set]
          exact hcl2.1.set (by simp [Cl.p, optP, hads.reps, hv2.rep])
        · exact ows_set hcl2.2 (by simp [ows, ow, hads.ows, hv2.ow])
      · intro wy st' m' d hg hR2 hF2 hd2
        simp only [hg] at q
        simp [out]
        exact q _ _ hd2 hR2 ((hF1.app).trans2 hF2 hF1.len)
end
end Mi
end
section
set_option linter.all false
set_option Elab.async false
set_option maxRecDepth 100000
set_option maxHeartbeats 4000000
/-! Mr7: a deed by the law's own going. -/
namespace Mi
open PySem Pm
section
variable {Pg : Prg} {k : Nat} {m m' : Mem} {Q : D × Mem → Prop}
def lawK : List Key := [.inr "program", .inr "answers", .inr "most", .inr "calls", .inr "why"]
/-- the law's own run -/
structure LawC (m : Mem) (r a c : Nat) (pd wd : D) (most : Nat) (st : St) : Prop where
  r_ : m[r]? = some ⟨.dK lawK, [pd, .loc a, .int most, .loc c, wd]⟩
  a_ : m[a]? = some ⟨.lst, st.ans.map D.int⟩
  c_ : ∃ ds, m[c]? = some ⟨.lst, ds⟩ ∧ ClDs ds st.calls
  ra : r ≠ a
  rc : r ≠ c
  ac : a ≠ c
/-- what is told, and why not -/
def WyD (d wd : D) : Rs → Prop
  | .told v => VlD d v ∧ wd = .non
  | .why w => d = .non ∧ Rep wd w.p ∧ ow wd = true
variable {r a c most : Nat} {pd wd : D} {st : St}
theorem LawC.n {n : Nat} (h : LawC m r a c pd wd most st) : LawC m r a c pd wd most { st with n := n } := ⟨h.r_, h.a_, h.c_, h.ra, h.rc, h.ac⟩
theorem LawC.app {cs : List Cell} (h : LawC m r a c pd wd most st) : LawC (m ++ cs) r a c pd wd most st := by
  have g : ∀ {n : Nat} {x : Cell}, m[n]? = some x → (m ++ cs)[n]? = some x := fun e => by rw [List.getElem?_append_left (List.getElem?_eq_some_iff.mp e).1]; exact e
  obtain ⟨ds, h1, h2⟩ := h.c_
  exact ⟨g h.r_, g h.a_, ⟨ds, g h1, h2⟩, h.ra, h.rc, h.ac⟩
theorem LawC.set {n : Nat} {x : Cell} (h : LawC m r a c pd wd most st) (h1 : n ≠ r) (h2 : n ≠ a) (h3 : n ≠ c) : LawC (m.set n x) r a c pd wd most st := by
  obtain ⟨ds, e1, e2⟩ := h.c_
  exact ⟨by rw [List.getElem?_set_ne h1]; exact h.r_, by rw [List.getElem?_set_ne h2]; exact h.a_, ⟨ds, by rw [List.getElem?_set_ne h3]; exact e1, e2⟩, h.ra, h.rc, h.ac⟩
theorem idx_law (h : LawC m r a c pd wd most st) : idxD m (.loc r) (.str "program") = .ok pd ∧ idxD m (.loc r) (.str "answers") = .ok (.loc a) ∧ idxD m (.loc r) (.str "most") = .ok (.int most) ∧ idxD m (.loc r) (.str "calls") = .ok (.loc c) ∧ idxD m (.loc r) (.str "why") = .ok wd := by
  simp [idxD, view, h.r_, lawK, keyOf, kget, R.of]
theorem set_why {w : D} {P : Mem → Prop} (h : LawC m r a c pd wd most st) : W (setD m (.loc r) (.str "why") w) P ↔ P (m.set r ⟨.dK lawK, [pd, .loc a, .int most, .loc c, w]⟩) := by
  have e : setD m (.loc r) (.str "why") w = .ok (m.set r ⟨.dK lawK, [pd, .loc a, .int most, .loc c, w]⟩) := by
    simp [setD, h.r_, keyOf, lawK, kput, ksets]
    decide
  rw [e, W_ok]
theorem LawC.why {w : D} (h : LawC m r a c pd wd most st) : LawC (m.set r ⟨.dK lawK, [pd, .loc a, .int most, .loc c, w]⟩) r a c pd w most st := by
  obtain ⟨ds, e1, e2⟩ := h.c_
  exact ⟨by rw [List.getElem?_set_self (List.getElem?_eq_some_iff.mp h.r_).1], by rw [List.getElem?_set_ne h.ra]; exact h.a_, ⟨ds, by rw [List.getElem?_set_ne h.rc]; exact e1, e2⟩, h.ra, h.rc, h.ac⟩
theorem W_kvGet {n : Nat} {kv : Kv} {ds : List D} {x : Str} {e d0 : D} (hn : m[n]? = some ⟨.dK (kvK kv), ds⟩) (h : kget (Sum.inr x : Key) (kvK kv) ds = some e) : W (mt .get m (.loc n) [.str x, d0]) Q ↔ Q (e, m) := by
  simp [mt, asV, mtGet, view, hn, keyOf, h]
theorem mtOk_kv {n : Nat} {kv : Kv} {ds : List D} (hn : m[n]? = some ⟨.dK (kvK kv), ds⟩) {P : Unit → Prop} : W (mtOk .get m (.loc n)) P ↔ P () := by
  simp [mtOk, view, hn]
theorem W_innHT {x : String} {P : Bool → Prop} : W (cmpB .inn m (.str x) (T' true true [.str "head", .str "tail"])) P ↔ P (decide ("head" = x) || decide ("tail" = x)) := by
  have e : cmpB .inn m (.str x) (T' true true [.str "head", .str "tail"]) = .ok (decide ("head" = x) || decide ("tail" = x)) := by
    have := inD_rep (m := m) (a := .str x) (b := T' true true [.str "head", .str "tail"]) (p := .str x) (qs := [.str "head", .str "tail"]) (by simp) (.inl (by simp)) (by simp) (by simp [SeqAt.shaped, PyData.canLay0, PyData.canLayAll0, PyData.depth, PyData.depthAll])
    unfold cmpB
    simp only [this]
    simp [PyData.eqv, beqD]
  rw [e, W_ok]
theorem f_did (h : Has Pg "_law_did" Cm._law_did_d) {P : Pr} {κ : Kno} {kv : Kv} {ds : List D} {n f p : Nat} {d : D} {de : De} {j : Kn} {rc : Rec} (hR : LawC m r a c pd .non most st) (hn : m[n]? = some ⟨.dK (kvK kv), ds⟩) (hk : KvOk κ kv) (hds : VlDs ds (kv.map (·.2))) (hkb : KvB 50000 kv) (hd : Rep d de.p) (hj : kindOf P κ de = some j) (hP4 : ∀ f ∈ P, f.ps.length ≤ 4)
    (hcall : ∀ g xs ads, de = .call g xs → VlDs ads (xs.map fun x => vget x kv) → W (callN Pg k "_law_call" [.loc r, .int g, .nd true .lst ads] m) Q)
    (q : ∀ d' wd m', (∀ g xs, de ≠ .call g xs) → WyD d' wd (deedR rc f p kv st de).1 → LawC m' r a c pd wd most (deedR rc f p kv st de).2 → Frs [a, c, r] m m' → Q (d', m')) :
    W (callN Pg (k + 1) "_law_did" [.loc r, d, .loc n, T' true true [.int f, .int p]] m) Q := by
  rw [W_callN h]
  have c1 : ∀ l : List D, cut l (some 1) none = l.drop 1 := fun l => cut_L (show (0 : Int) ≤ 1 by omega)
  cases de with
  | num i =>
    obtain ⟨o1, b1, e1, e2, rfl, r1, r2⟩ := Rep.t2 hd
    rw [Rep_str] at r1
    rw [Rep_int] at r2
    subst r1 r2
    simp [Cm._law_did_b, out, c1, wipe, putL0, W_innHT, W_sum1]
    exact q _ .non _ (by simp) ⟨rfl, rfl⟩ hR Frs.refl
  | sum x i =>
    simp only [kindOf, areOf, Bool.and_true] at hj
    split at hj
    · rename_i hh
      simp at hh
      obtain ⟨e, h1, h2⟩ := kv_get hk hds hh.1.2
      have hv := vl_int h2 (vget_ok hk hh.1.2).1
      subst hv
      obtain ⟨o1, b1, e1, e2, e3, rfl, r1, r2, r3⟩ := Rep.t3 hd
      rw [Rep_str] at r1 r2
      rw [Rep_int] at r3
      subst r1 r2 r3
      simp [Cm._law_did_b, out, c1, wipe, putL0, putL1, W_innHT, W_sum2, mtOk_kv hn, W_kvGet hn h1]
      exact q _ .non _ (by simp) ⟨rfl, rfl⟩ hR Frs.refl
    · cases hj
  | len x =>
    simp only [kindOf, areOf, Bool.and_true] at hj
    split at hj
    · rename_i hh
      simp at hh
      obtain ⟨e, h1, h2⟩ := kv_get hk hds hh.2
      obtain ⟨b, rfl⟩ := vl_lst h2 (vget_ok hk hh.2).1
      obtain ⟨o1, b1, e1, e2, rfl, r1, r2⟩ := Rep.t2 hd
      rw [Rep_str] at r1 r2
      subst r1 r2
      simp [Cm._law_did_b, out, c1, wipe, putL0, W_innHT, mtOk_kv hn, W_kvGet hn h1]
      exact q _ .non _ (by simp) ⟨rfl, rfl⟩ hR Frs.refl
    · cases hj
  | nil =>
    obtain ⟨o1, b1, e1, rfl, r1⟩ := Rep.t1 hd
    rw [Rep_str] at r1
    subst r1
    simp [Cm._law_did_b, out, c1, wipe, W_innHT]
    exact q _ .non _ (by simp) ⟨⟨true, rfl⟩, rfl⟩ hR Frs.refl
  | put x y =>
    simp only [kindOf, areOf, Bool.and_true] at hj
    split at hj
    · rename_i hh
      simp at hh
      obtain ⟨e, h1, h2⟩ := kv_get hk hds hh.1.2
      have hv := vl_int h2 (vget_ok hk hh.1.2).1
      subst hv
      obtain ⟨e', g1, g2⟩ := kv_get hk hds hh.2.2
      have hlen := vget_len hk hh.2.2 hkb
      obtain ⟨b, rfl⟩ := vl_lst g2 (vget_ok hk hh.2.2).1
      obtain ⟨o1, b1, e1, e2, e3, rfl, r1, r2, r3⟩ := Rep.t3 hd
      rw [Rep_str] at r1 r2 r3
      subst r1 r2 r3
      simp [Cm._law_did_b, out, c1, wipe, putL0, putL1, W_innHT, mtOk_kv hn, W_kvGet hn h1, W_kvGet hn g1, W_addT (m := m) (o := true) (b := true) (o' := true) (b' := b) (xs := [.int (vget x kv).i]) (ys := (vget y kv).l.map D.int) (Nat.le_trans (show _ ≤ 100000 by simp [Vl.len] at hlen ⊢; omega) most_big)]
      exact q _ .non _ (by simp) ⟨⟨false, rfl⟩, rfl⟩ hR Frs.refl
    · cases hj
  | head x =>
    simp only [kindOf, areOf, Bool.and_true] at hj
    split at hj
    · rename_i hh
      simp at hh
      obtain ⟨e, h1, h2⟩ := kv_get hk hds hh.2
      obtain ⟨b, rfl⟩ := vl_lst h2 (vget_ok hk hh.2).1
      obtain ⟨o1, b1, e1, e2, rfl, r1, r2⟩ := Rep.t2 hd
      rw [Rep_str] at r1 r2
      subst r1 r2
      simp only [deedR] at q
      cases hl : (vget x kv).l with
      | nil =>
        rw [hl] at q h1
        simp [Cm._law_did_b, out, c1, wipe, putL0, W_innHT, mtOk_kv hn, W_kvGet hn h1, set_why hR, W_addT (m := m) (o := true) (b := true) (o' := true) (b' := true) (xs := [.str "fault", .str "empty"]) (ys := [.int f, .int p]) (Nat.le_trans (show _ ≤ 100000 by simp) most_big)]
        exact q _ _ _ (by simp) ⟨rfl, by simp [Wy.p], by simp [ow, ows]⟩ hR.why (Frs.refl.set (by simp))
      | cons i is =>
        rw [hl] at q h1
        have he := fun (P : Bool → Prop) => W_eqInts (m := m) (o := true) (b := b) (o' := true) (b' := true) (is := i :: is) (P := P)
        simp only [List.map_cons] at he h1
        simp [Cm._law_did_b, out, c1, wipe, putL0, W_innHT, mtOk_kv hn, W_kvGet hn h1, he]
        exact q _ .non _ (by simp) ⟨rfl, rfl⟩ hR Frs.refl
    · cases hj
  | tail x =>
    simp only [kindOf, areOf, Bool.and_true] at hj
    split at hj
    · rename_i hh
      simp at hh
      obtain ⟨e, h1, h2⟩ := kv_get hk hds hh.2
      obtain ⟨b, rfl⟩ := vl_lst h2 (vget_ok hk hh.2).1
      obtain ⟨o1, b1, e1, e2, rfl, r1, r2⟩ := Rep.t2 hd
      rw [Rep_str] at r1 r2
      subst r1 r2
      simp only [deedR] at q
      cases hl : (vget x kv).l with
      | nil =>
        rw [hl] at q h1
        simp [Cm._law_did_b, out, c1, wipe, putL0, W_innHT, mtOk_kv hn, W_kvGet hn h1, set_why hR, W_addT (m := m) (o := true) (b := true) (o' := true) (b' := true) (xs := [.str "fault", .str "empty"]) (ys := [.int f, .int p]) (Nat.le_trans (show _ ≤ 100000 by simp) most_big)]
        exact q _ _ _ (by simp) ⟨rfl, by simp [Wy.p], by simp [ow, ows]⟩ hR.why (Frs.refl.set (by simp))
      | cons i is =>
        rw [hl] at q h1
        have he := fun (P : Bool → Prop) => W_eqInts (m := m) (o := true) (b := b) (o' := true) (b' := true) (is := i :: is) (P := P)
        simp only [List.map_cons] at he h1
        simp [Cm._law_did_b, out, c1, wipe, putL0, W_innHT, mtOk_kv hn, W_kvGet hn h1, he]
        exact q _ .non _ (by simp) ⟨⟨false, rfl⟩, rfl⟩ hR Frs.refl
    · cases hj
  | «at» x y =>
    simp only [kindOf, areOf, Bool.and_true] at hj
    split at hj
    · rename_i hh
      simp at hh
      obtain ⟨e, h1, h2⟩ := kv_get hk hds hh.1.2
      obtain ⟨b, rfl⟩ := vl_lst h2 (vget_ok hk hh.1.2).1
      obtain ⟨e', g1, g2⟩ := kv_get hk hds hh.2.2
      have hv := vl_int g2 (vget_ok hk hh.2.2).1
      subst hv
      obtain ⟨o1, b1, e1, e2, e3, rfl, r1, r2, r3⟩ := Rep.t3 hd
      rw [Rep_str] at r1 r2 r3
      subst r1 r2 r3
      simp only [deedR] at q
      generalize (vget y kv).i = i at q g1
      generalize (vget x kv).l = l at q h1
      by_cases hi : 0 ≤ i ∧ i < (l.length : Int)
      · rw [if_pos hi] at q
        have hlt : i.toNat < l.length := by omega
        have hat : L2.atI (l.map D.int) i = some (.int (l[i.toNat]?.getD 0)) := by
          have : i = (i.toNat : Int) := by omega
          rw [this, atI_nat, List.getElem?_map, Int.toNat_natCast, List.getElem?_eq_getElem hlt]
          rfl
        simp [Cm._law_did_b, out, c1, wipe, putL0, putL1, W_innHT, mtOk_kv hn, W_kvGet hn h1, W_kvGet hn g1, hi, hat]
        exact q _ .non _ (by simp) ⟨by show D.int _ = D.int _; rw [List.getElem?_eq_getElem hlt]; rfl, rfl⟩ hR Frs.refl
      · rw [if_neg hi] at q
        by_cases h0 : 0 ≤ i
        · have h9 : ¬ i < (l.length : Int) := fun h => hi ⟨h0, h⟩
          simp [Cm._law_did_b, out, c1, wipe, putL0, putL1, W_innHT, mtOk_kv hn, W_kvGet hn h1, W_kvGet hn g1, h0, h9, set_why hR, W_addT (m := m) (o := true) (b := true) (o' := true) (b' := true) (xs := [.str "fault", .str "beyond"]) (ys := [.int f, .int p]) (Nat.le_trans (show _ ≤ 100000 by simp) most_big)]
          exact q _ _ _ (by simp) ⟨rfl, by simp [Wy.p], by simp [ow, ows]⟩ hR.why (Frs.refl.set (by simp))
        · simp [Cm._law_did_b, out, c1, wipe, putL0, putL1, W_innHT, mtOk_kv hn, W_kvGet hn h1, W_kvGet hn g1, h0, set_why hR, W_addT (m := m) (o := true) (b := true) (o' := true) (b' := true) (xs := [.str "fault", .str "beyond"]) (ys := [.int f, .int p]) (Nat.le_trans (show _ ≤ 100000 by simp) most_big)]
          exact q _ _ _ (by simp) ⟨rfl, by simp [Wy.p], by simp [ow, ows]⟩ hR.why (Frs.refl.set (by simp))
    · cases hj
  | ask =>
    obtain ⟨o1, b1, e1, rfl, r1⟩ := Rep.t1 hd
    rw [Rep_str] at r1
    subst r1
    obtain ⟨_, fa, _, _, _⟩ := idx_law hR
    have ha := hR.a_
    simp only [deedR] at q
    cases hl : st.ans with
    | nil =>
      rw [hl] at ha q
      have hne := fun (P : Bool → Prop) => W_neAns (o := true) ha (P := P)
      simp [Cm._law_did_b, out, c1, wipe, fa, hne]
      exact q _ .non _ (by simp) ⟨rfl, rfl⟩ hR Frs.refl
    | cons i is =>
      rw [hl] at ha q
      have hne := fun (P : Bool → Prop) => W_neAns (o := true) ha (P := P)
      simp only [List.map_cons] at ha
      simp [Cm._law_did_b, out, c1, wipe, fa, hne, mtOk_loc ha (q := .pop) (by decide), W_pop0 ha]
      have hal : a < m.length := (List.getElem?_eq_some_iff.mp ha).1
      refine q _ .non _ (by simp) ⟨rfl, rfl⟩ ⟨by rw [List.getElem?_set_ne hR.ra.symm]; exact hR.r_, by rw [List.getElem?_set_self hal], ?_, hR.ra, hR.rc, hR.ac⟩ (Frs.refl.set (by simp))
      obtain ⟨cs, c1, c2⟩ := hR.c_
      exact ⟨cs, by rw [List.getElem?_set_ne hR.ac]; exact c1, c2⟩
  | call g xs =>
    simp only [kindOf] at hj
    split at hj
    · split at hj
      · rename_i fu hf
        split at hj
        · rename_i har
          obtain ⟨o1, b1, e1, e2, e3, rfl, r1, r2, r3⟩ := Rep.t3 hd
          rw [Rep_str] at r1
          rw [Rep_int] at r2
          subst r1 r2
          obtain ⟨o2, b2, xds, rfl, hx⟩ := Rep_tuple.mp r3
          have := strs_of hx
          subst this
          have hlx : xs.length = fu.ps.length := by simpa using areOf_len har
          have hx4 : xs.length ≤ 4 := by rw [hlx]; exact hP4 fu (List.mem_of_getElem? hf)
          simp [Cm._law_did_b, out, c1, wipe, putL0, putL1]
          refine (lc_vals hn hk hds har hx4 (fun _ => rfl) (fun _ => rfl)).mono fun r1 ⟨ads, e, hads⟩ => ?_
          subst e
          have := hcall g xs ads rfl hads
          simp
          refine W.mono this fun x hx => ?_
          simpa [out] using hx
        · cases hj
      · cases hj
    · cases hj
end
end Mi
end
section
set_option linter.all false
set_option Elab.async false
set_option maxRecDepth 100000
set_option maxHeartbeats 4000000
/-! Mr8: a call by the law's own going. -/
namespace Mi
open PySem Pm
structure GoP (Pg : Prg) : Prop where
  call : Has Pg "_law_call" Cm._law_call_d
  did : Has Pg "_law_did" Cm._law_did_d
  worth : Has Pg "_law_worth" Cm.worth_of_d
  size : Has Pg "_law_size" Cm._law_size_d
section
variable {Pg : Prg} {k : Nat} {m m' : Mem} {Q : D × Mem → Prop}
def LcOk (Pg : Prg) (K : Nat) (P : Pr) (pd : D) (r a c most lo : Nat) (rc : Rec) : Prop :=
  ∀ (m : Mem) (st : St) (g : Nat) (fu : Fu) (ads : List D) (as : List Vl) (Q : D × Mem → Prop), LawC m r a c pd .non most st → P[g]? = some fu → VlDs ads as → as.map Vl.k = fu.ps.map (·.2) → (∀ v ∈ as, v.len ≤ 40 + st.n) → StB st → st.calls.length ≤ most → lo ≤ st.calls.length → st.n ≤ 20 * st.calls.length →
    (∀ d wd m', WyD d wd (rc g as st).1 → LawC m' r a c pd wd most (rc g as st).2 → Frs [a, c, r] m m' → Q (d, m')) → W (callN Pg K "_law_call" [.loc r, .int g, .nd true .lst ads] m) Q
theorem why_non {e : D} {wy : Wy} (hv : Rep e wy.p) : isNon e = false := by
  cases wy <;> (obtain ⟨_, _, _, rfl, _⟩ := Rep_tuple.mp hv; rfl)
theorem isNonT {o b : Bool} {ds : List D} : isNon (T' o b ds) = false := by cases b <;> rfl
theorem lc_loop (Z : GoP Pg) {P : Pr} {K r a c most lo f n : Nat} {pd : D} {rc : Rec} {j : Kn} (hP4 : ∀ f ∈ P, f.ps.length ≤ 4) (hm : most ≤ 300) (hrc : RecOk P most rc) (hRc : LcOk Pg (K + 20) P pd r a c most lo rc) {x2 x3 x4 x5 x8 : Option D} {PP : Fl × Mem → Prop} :
    ∀ (t : Tr) {κ : Kno} {kv : Kv} {ds : List D} {w place : Nat} {st : St} {m : Mem} {dt : D} {x10 : Option D}, okTr P j κ w t = true → Rep dt t.p → m[n]? = some ⟨.dK (kvK kv), ds⟩ → KvOk κ kv → VlDs ds (kv.map (·.2)) → n ≠ r → n ≠ a → n ≠ c → LawC m r a c pd .non most st → StB st → st.calls.length ≤ most → lo ≤ st.calls.length → KvB (40 + st.n) kv → kv.length ≤ 30 + w → 1 ≤ w → st.n + 21 ≤ 20 * st.calls.length + w →
    (∀ v st' m' x e o b x9 x10, goT rc f t place kv st = (.told v, st') → LawC m' r a c pd .non most st' → Frs [a, c, r, n] m m' → idxD m' (.loc n) (.str x) = .ok e → VlD e v → PP (.nx [some (.loc r), some (.int f), x2, x3, x4, x5, some (T' o b [.str "tell", .str x]), some (.loc n), x8, x9, x10], m')) →
    (∀ wy st' m' wd, goT rc f t place kv st = (.why wy, st') → LawC m' r a c pd wd most st' → Frs [a, c, r, n] m m' → WyD .non wd (.why wy) → PP (.rt .non, m')) →
    W (whl (fun ρ m => evE (callN Pg (K + 21)) (.cmp .ne (.idx (.var 6) (.cst (.int 0))) (.cst (.str "tell"))) ρ m) (fun ρ m => evSs (callN Pg (K + 21)) Cm._law_call_b0 ρ m) [some (.loc r), some (.int f), x2, x3, x4, x5, some dt, some (.loc n), x8, some (.int place), x10] m) PP := by
  intro t
  induction t with
  | tell x =>
    intro κ kv ds w place st m dt x10 hok hd hn hk hds n1 n2 n3 hR hb hcm hlo hkb hkl hw hnn qt qw
    simp only [okTr, Bool.and_eq_true, decide_eq_true_eq] at hok
    obtain ⟨e, h1, h2⟩ := idx_kv hn hk hds hok.2.2
    obtain ⟨o1, b1, e1, e2, rfl, r1, r2⟩ := Rep.t2 hd
    rw [Rep_str] at r1 r2
    subst r1 r2
    rw [W_whl1]
    simp
    exact qt (vget x kv) st m x e o1 b1 _ _ rfl hR Frs.refl h1 h2
  | let_ x de t ih =>
    intro κ kv ds w place st m dt x10 hok hd hn hk hds n1 n2 n3 hR hb hcm hlo hkb hkl hw hnn qt qw
    simp only [okTr, Bool.and_eq_true, decide_eq_true_eq] at hok
    obtain ⟨hw20, hx, hx2, hok⟩ := hok
    split at hok
    · rename_i jj hj
      obtain ⟨o1, b1, e1, e2, e3, e4, rfl, r1, r2, r3, r4⟩ := Rep.t4 hd
      rw [Rep_str] at r1 r2
      subst r1 r2
      have hb1 : StB { st with n := st.n + 1 } := fun c hc => (hb c hc).mono (Nat.add_le_add_left (Nat.le_succ _) 40)
      have hKp := deed_ok hrc (f := f) (p := place) hk (st := { st with n := st.n + 1 }) hb1 hcm hkb (by simp; omega) hj
      rw [W_whl1]
      simp [Cm._law_call_b0]
      have step : W (callN Pg (K + 21) "_law_did" [.loc r, e3, .loc n, T' true true [.int f, .int place]] m) fun y => ∃ wd, WyD y.1 wd (deedR rc f place kv { st with n := st.n + 1 } de).1 ∧ LawC y.2 r a c pd wd most (deedR rc f place kv { st with n := st.n + 1 } de).2 ∧ Frs [a, c, r] m y.2 := by
        refine f_did Z.did (k := K + 20) (P := P) (rc := rc) (f := f) (p := place) (st := { st with n := st.n + 1 }) hR.n hn hk hds (hkb.mono (by omega)) r3 hj hP4 ?_ ?_
        · intro g xs ads hde hads
          subst hde
          simp only [kindOf] at hj
          split at hj
          · split at hj
            · rename_i fu hf
              split at hj
              · rename_i har
                obtain ⟨a1, a2⟩ := areOf_get hk hkb har
                exact hRc m { st with n := st.n + 1 } g fu ads _ _ hR.n hf hads a1 (fun v hv => by have := a2 v hv; simp; omega) hb1 hcm hlo (by simp; omega) fun d wd m' h1 h2 h3 => ⟨wd, h1, h2, h3⟩
              · cases hj
            · cases hj
          · cases hj
        · intro d' wd m' _ h1 h2 h3
          exact ⟨wd, h1, h2, h3⟩
      refine step.mono fun y ⟨wd, hRs, hR', hF⟩ => ?_
      obtain ⟨d', m'⟩ := y
      simp only at hRs hR' hF
      have hn' : m'[n]? = some ⟨.dK (kvK kv), ds⟩ := hF.cell hn (by simp [n1, n2, n3])
      have hset := fun (v : D) (Q : Mem → Prop) => set_kv (v := v) (P := Q) hn' hk (by omega) hx2
      have hnl : n < m'.length := (List.getElem?_eq_some_iff.mp hn').1
      cases hres : deedR rc f place kv { st with n := st.n + 1 } de with
      | mk res st' =>
        rw [hres] at hRs hR' hKp
        cases res with
        | told v =>
          obtain ⟨hv, rfl⟩ := hRs
          obtain ⟨t1, t2⟩ := hKp.told v rfl
          have g1 := hKp.n
          have g2 := hKp.g
          have g3 := hKp.c
          simp only at g1 g2 g3 t2
          have hR2 := LawC.set (x := ⟨.dK (kvK kv ++ [.inr x]), ds ++ [d']⟩) hR' n1 n2 n3
          obtain ⟨_, _, _, _, iw⟩ := idx_law hR2
          simp [hset, iw, isNon]
          refine ih (κ := κ ++ [(x, jj)]) (kv := kv ++ [(x, v)]) (ds := ds ++ [d']) (w := w + 1) (place := place + 1) (st := st') hok r4 (by rw [List.getElem?_set_self hnl]; simp [kvK]) (KvOk.snoc hk t1) (by rw [List.map_append]; exact hds.snoc hv) n1 n2 n3 hR2 hKp.b hKp.m (by omega) ?_ (by simp; omega) (by omega) (by omega) ?_ ?_
          · intro q hq
            rcases List.mem_append.mp hq with hq | hq
            · have := hkb q hq; omega
            · rw [List.mem_singleton.mp hq]; exact t2
          · intro v2 st2 m2 y e' o b y9 y10 hg hR2 hF2 hi2 hv2
            refine qt v2 st2 m2 y e' o b y9 y10 ?_ hR2 (((hF.wk (by simp)).set (by simp)).trans hF2) hi2 hv2
            simp only [goT, hres]
            exact hg
          · intro wy st2 m2 d2 hg hR2 hF2 hd2
            refine qw wy st2 m2 d2 ?_ hR2 (((hF.wk (by simp)).set (by simp)).trans hF2) hd2
            simp only [goT, hres]
            exact hg
        | why wy =>
          obtain ⟨rfl, hv, ho⟩ := hRs
          have hR2 := LawC.set (x := ⟨.dK (kvK kv ++ [.inr x]), ds ++ [.non]⟩) hR' n1 n2 n3
          obtain ⟨_, _, _, _, iw⟩ := idx_law hR2
          simp [hset, iw, why_non hv]
          refine qw wy st' _ _ ?_ hR2 ((hF.wk (by simp)).set (by simp)) ⟨rfl, hv, ho⟩
          simp only [goT, hres]
    · cases hok
  | claim ma mb i t ih =>
    intro κ kv ds w place st m dt x10 hok hd hn hk hds n1 n2 n3 hR hb hcm hlo hkb hkl hw hnn qt qw
    simp only [okTr, Bool.and_eq_true, decide_eq_true_eq] at hok
    obtain ⟨hw20, ha, hb', hi, hok⟩ := hok
    obtain ⟨o1, b1, e1, e2, e3, e4, e5, rfl, r1, r2, r3, r4, r5⟩ := Rep.t5 hd
    rw [Rep_str] at r1
    rw [Rep_int] at r4
    subst r1 r4
    have w1 := fun (Q : D × Mem → Prop) => f_worth (k := K + 20) (m := []) (Q := Q) (o := false) Z.worth r2 hk hds ha
    have w2 := fun (Q : D × Mem → Prop) => f_worth (k := K + 20) (m := []) (Q := Q) (o := false) Z.worth r3 hk hds hb'
    have l1 := lend_kv hn hds r2.lf
    have l2 := lend_kv hn hds r3.lf
    obtain ⟨_, _, _, _, iw⟩ := idx_law hR
    rw [W_whl1]
    simp [Cm._law_call_b0, l1, l2, W_pc, w1, w2]
    simp only [goT] at qt qw
    refine Br.mk (fun hc => ?_) (fun hc => ?_)
    · have hc : worthR kv ma - worthR kv mb ≤ i := by simpa using hc
      simp only [hc, if_true] at qt qw
      simp [iw, isNon]
      exact ih (w := w + 1) (place := place + 1) hok r5 hn hk hds n1 n2 n3 hR hb hcm hlo hkb (by omega) (by omega) (by omega) qt qw
    · have hc : ¬ worthR kv ma - worthR kv mb ≤ i := by simpa using hc
      simp only [hc, if_false] at qt qw
      have hR2 := hR.why (w := T' true true [.str "fault", .str "claim", .int f, .int place])
      obtain ⟨_, _, _, _, iw2⟩ := idx_law hR2
      simp [set_why hR, iw2, isNonT]
      exact qw _ st _ _ rfl hR2 (Frs.refl.set (by simp)) ⟨rfl, by simp [Wy.p], by simp [ow, ows]⟩
  | if_ ma mb i t u ih ih2 =>
    intro κ kv ds w place st m dt x10 hok hd hn hk hds n1 n2 n3 hR hb hcm hlo hkb hkl hw hnn qt qw
    simp only [okTr, Bool.and_eq_true, decide_eq_true_eq] at hok
    obtain ⟨hw20, ha, hb', hi, hok, hok2⟩ := hok
    obtain ⟨o1, b1, e1, e2, e3, e4, e5, e6, rfl, r1, r2, r3, r4, r5, r6⟩ := Rep.t6 hd
    rw [Rep_str] at r1
    rw [Rep_int] at r4
    subst r1 r4
    have w1 := fun (Q : D × Mem → Prop) => f_worth (k := K + 20) (m := []) (Q := Q) (o := false) Z.worth r2 hk hds ha
    have w2 := fun (Q : D × Mem → Prop) => f_worth (k := K + 20) (m := []) (Q := Q) (o := false) Z.worth r3 hk hds hb'
    have l1 := lend_kv hn hds r2.lf
    have l2 := lend_kv hn hds r3.lf
    have hdep := okTr_dep hok
    have w3 := fun (Q : D × Mem → Prop) => f_lsize (k := K + 21 - t.dep) (m := []) (Q := Q) Z.size r5
    rw [show K + 21 - t.dep + t.dep = K + 21 by omega] at w3
    obtain ⟨_, _, _, _, iw⟩ := idx_law hR
    rw [W_whl1]
    simp [Cm._law_call_b0, l1, l2, W_pc, w1, w2]
    simp only [goT] at qt qw
    refine Br.mk (fun hc => ?_) (fun hc => ?_)
    · have hc : worthR kv ma - worthR kv mb ≤ i := by simpa using hc
      simp only [hc, if_true] at qt qw
      simp [iw, isNon]
      exact ih (w := w + 1) (place := place + 1) hok r5 hn hk hds n1 n2 n3 hR hb hcm hlo hkb (by omega) (by omega) (by omega) qt qw
    · have hc : ¬ worthR kv ma - worthR kv mb ≤ i := by simpa using hc
      simp only [hc, if_false] at qt qw
      simp [W_pc, lfs, r5.lf, w3, atI_5, iw, isNon]
      have := ih2 (w := w + 1) (place := place + 1 + t.size) (x10 := some (.int (1 + t.size))) hok2 r6 hn hk hds n1 n2 n3 hR hb hcm hlo hkb (by omega) (by omega) (by omega) qt qw
      rw [show (place : Int) + (1 + t.size) = ((place + 1 + t.size : Nat) : Int) by simp; omega]
      exact this
end
end Mi
end
section
set_option linter.all false
set_option Elab.async false
set_option maxRecDepth 100000
set_option maxHeartbeats 4000000
/-! Mr9: a call by the law's own going, the end. -/
namespace Mi
open PySem Pm
section
variable {Pg : Prg} {k : Nat} {m m' : Mem} {Q : D × Mem → Prop} {cal : Cal}
/-- pairs of names and values -/
def prD (q : Str × D) : D := T' true true [.str q.1, q.2]
theorem pairs_kv : ∀ {kv : Kv} {ds : List D} {kv0 : Kv} {κ0 κ : Kno} {ds0 : List D}, KvOk κ0 kv0 → KvOk κ kv → ds.length = kv.length → ((κ0 ++ κ).map (·.1)).Nodup → pairsD (((kv.map (·.1)).zip ds).map prD) (kvK kv0) ds0 = .ok (kvK (kv0 ++ kv), ds0 ++ ds)
  | [], [], kv0, κ0, κ, ds0, h0, h, hl, hn => by simp [pairsD]
  | [], _ :: _, kv0, κ0, κ, ds0, h0, h, hl, hn => by simp at hl
  | q :: kv, [], kv0, κ0, κ, ds0, h0, h, hl, hn => by simp at hl
  | q :: kv, d :: ds, kv0, κ0, κ, ds0, h0, h, hl, hn => by
    unfold KvOk at h
    subst h
    have hnew : kgets q.1 κ0 = none := by
      refine kgets_notin fun z hz e => ?_
      rw [List.map_append, List.nodup_append] at hn
      exact hn.2.2 z.1 (List.mem_map.mpr ⟨z, hz, rfl⟩) q.1 (by simp) e
    have h1 : KvOk (κ0 ++ [(q.1, q.2.k)]) (kv0 ++ [q]) := KvOk.snoc h0 rfl
    have ih := pairs_kv (kv := kv) (ds := ds) (ds0 := ds0 ++ [d]) h1 rfl (by simpa using hl) (by simpa using hn)
    have e1 : kput (Sum.inr q.1 : Key) d (kvK kv0) ds0 = (kvK kv0 ++ [.inr q.1], ds0 ++ [d]) := kv_put h0 hnew
    simp only [List.map_cons, List.zip_cons_cons, pairsD, prD, T'_tupOf, keyOf, e1]
    have e2 : kvK (kv0 ++ [q]) = kvK kv0 ++ [.inr q.1] := by simp [kvK]
    rw [← e2]
    rw [ih]
    simp
theorem VlDs.nd {ds : List D} {ps : List (Str × Kn)} {as : List Vl} (h : VlDs ds as) (hk : as.map Vl.k = ps.map (·.2)) : VlDs ds (((ps.map (·.1)).zip as).map (·.2)) := by
  have hl : as.length = ps.length := by simpa using congrArg List.length hk
  have : ((ps.map (·.1)).zip as).map (·.2) = as := by
    rw [← List.unzip_snd, List.unzip_zip (by simp [hl])]
  rw [this]
  exact h
/-- what is known at a call's begin, by the law -/
theorem dict_args {o1 b1 : Bool} {ds1 ads : List D} {ps : List (Str × Kn)} {as : List Vl} {x0 x1 x3 x5 x6 x7 x8 x9 x10 : Option D} {P : Acc × Mem → Prop} (hr : Reps ds1 (ps.map parP)) (ha : VlDs ads as) (hk : as.map Vl.k = ps.map (·.2)) (hl : ps.length ≤ 4)
    (q : P ((.lst, (((ps.map (·.1)).zip ads).map prD)), m)) :
    W (goSt (lcT cal (.tup [(.idx (.idx (.var 4) (.var 8)) (.cst (.int 0))), (.idx (.var 2) (.var 8))]) [8] (.var 8) [] .nil [x0, x1, some (.nd true .lst ads), x3, some (T' o1 b1 ds1), x5, x6, x7, x8, x9, x10]) (rngD 0 ds1.length) (.lst, []) m) P := by
  have hla : as.length = ps.length := by simpa using congrArg List.length hk
  have hld : ads.length = ps.length := by rw [ha.length, hla]
  have hl1 : ds1.length = ps.length := by simpa using hr.length
  refine W_goSt (fun j acc m' => acc = (.lst, (((ps.map (·.1)).zip ads).take j).map prD) ∧ m' = m) (rngD 0 ds1.length) _ m 0 ⟨rfl, rfl⟩ (fun j d acc m' hd ⟨ea, em⟩ => ?_) (fun acc m' ⟨ea, em⟩ => ?_)
  · subst ea em
    obtain ⟨rfl, hj⟩ := rng_at hd
    have hj : j < ds1.length := by omega
    obtain ⟨p, hp1, hp2⟩ := hr.get (List.getElem?_eq_getElem hj)
    rw [List.getElem?_map] at hp1
    cases hpi : ps[j]? with
    | none => rw [hpi] at hp1; cases hp1
    | some pr =>
      rw [hpi] at hp1
      cases hp1
      obtain ⟨o3, b3, e1, e2, he, r1, r2⟩ := hp2.t2
      rw [Rep_str] at r1 r2
      subst r1 r2
      have hja : j < ads.length := by omega
      have a1 : L2.atI ds1 (j : Int) = some (T' o3 b3 [.str pr.1, .str pr.2.s]) := by rw [atI_nat, List.getElem?_eq_getElem hj, he]
      have a2 : L2.atI ads (j : Int) = some ads[j] := by rw [atI_nat, List.getElem?_eq_getElem hja]
      have hz : ((ps.map (·.1)).zip ads)[j]? = some (pr.1, ads[j]) := by
        rw [List.getElem?_zip_eq_some]
        exact ⟨by rw [List.getElem?_map, hpi]; rfl, List.getElem?_eq_getElem hja⟩
      have hlt : ((((ps.map (·.1)).zip ads).take (0 + j)).map prD).length < most := Nat.lt_of_lt_of_le (show _ < 100000 by simp; omega) most_big
      simp only [W_lcT, W_tvar, wipe, W_ifs0, Br_t]
      simp [a1, a2, putL]
      have h9 : min j (min ps.length ads.length) < most := Nat.lt_of_lt_of_le (show _ < 100000 by omega) most_big
      simp [h9]
      rw [List.take_add_one, List.getElem?_map, hz]
      simp [prD]
  · subst ea em
    rw [rngD_len, show 0 + ((ds1.length : Int) - 0).toNat = ds1.length by omega, List.take_of_length_le (by simp; omega)]
    exact q
end
end Mi
end
section
set_option linter.all false
set_option Elab.async false
set_option maxRecDepth 100000
set_option maxHeartbeats 4000000
/-! Mr10: a call by the law's own going does what the plain run does. -/
namespace Mi
open PySem Pm
section
variable {Pg : Prg} {k : Nat} {m m' : Mem} {Q : D × Mem → Prop}
theorem LawC.fr {r a c most : Nat} {pd wd : D} {st : St} (h : LawC m r a c pd wd most st) : r < m.length ∧ a < m.length ∧ c < m.length := by
  obtain ⟨ds, e, _⟩ := h.c_
  exact ⟨(List.getElem?_eq_some_iff.mp h.r_).1, (List.getElem?_eq_some_iff.mp h.a_).1, (List.getElem?_eq_some_iff.mp e).1⟩
theorem LawC.calls {r a c most : Nat} {pd wd : D} {st : St} {ds : List D} {cs : List Cl} (h : LawC m r a c pd wd most st) (hd : ClDs ds cs) : LawC (m.set c ⟨.lst, ds⟩) r a c pd wd most { st with calls := cs } := by
  obtain ⟨ds0, e, _⟩ := h.c_
  exact ⟨by rw [List.getElem?_set_ne h.rc.symm]; exact h.r_, by rw [List.getElem?_set_ne h.ac.symm]; exact h.a_, ⟨ds, by rw [List.getElem?_set_self (List.getElem?_eq_some_iff.mp e).1], hd⟩, h.ra, h.rc, h.ac⟩
theorem Frs.trans3 {a c r n : Nat} {m2 : Mem} (h : Frs [a, c, r] m m') (h2 : Frs [a, c, r, n] m' m2) (hn : m.length ≤ n) : Frs [a, c, r] m m2 := ⟨Nat.le_trans h.len h2.len, fun i hi hs => by
  rw [h2.at_ i (Nat.lt_of_lt_of_le hi h.len) (by simp at hs ⊢; exact ⟨hs.1, hs.2.1, hs.2.2, by omega⟩), h.at_ i hi hs]⟩
theorem W_dictL {o fr : Bool} {ds : List D} {ks : List Key} {vs : List D} (h : pairsD ds [] [] = .ok (ks, vs)) : W (bi .dict fr m [.nd o .lst ds]) Q ↔ Q (fin fr (.dK ks) vs m) := by
  have e : bi .dict fr m [.nd o .lst ds] = .ok (fin fr (.dK ks) vs m) := by
    simp only [bi, biDict, view, nrm, h, R.bind, asN]
  rw [e, W_ok]
theorem f_lcall (Z : GoP Pg) {P : Pr} {pd : D} (hP : okPr P = true) (hpd : PrR pd P) {r a c most : Nat} (hm : most ≤ 300) : ∀ (n lo : Nat), most ≤ lo + n → LcOk Pg (k + 2 * n + 21) P pd r a c most lo (runF P most n)
  | 0, lo, hlo, m, st, g, fu, ads, as, Q, hR, hf, hads, hak, hal, hb, hcm, hl, hn, q => by
    obtain ⟨_, _, f3, f4, _⟩ := idx_law hR
    obtain ⟨cds, hc, hcl⟩ := hR.c_
    have hcc : cds.length = st.calls.length := by simpa using hcl.1.length
    have he : (cds.length : Int) = most := by omega
    rw [show k + 2 * 0 + 21 = k + 20 + 1 by omega, W_callN Z.call]
    simp [Cm._law_call_b, out, f4, f3, W_lenLoc hc, he, set_why hR]
    exact q _ _ _ ⟨rfl, by simp [Wy.p], by simp [ow, ows]⟩ hR.why (Frs.refl.set (by simp))
  | n + 1, lo, hlo, m, st, g, fu, ads, as, Q, hR, hf, hads, hak, hal, hb, hcm, hl, hn, q => by
    obtain ⟨f1, _, f3, f4, _⟩ := idx_law hR
    obtain ⟨cds, hc, hcl⟩ := hR.c_
    have hcc : cds.length = st.calls.length := by simpa using hcl.1.length
    rw [show k + 2 * (n + 1) + 21 = k + 2 * n + 22 + 1 by omega, W_callN Z.call]
    simp only [runF] at q
    by_cases he : st.calls.length = most
    · simp only [he, if_true] at q
      have he' : (cds.length : Int) = most := by omega
      simp [Cm._law_call_b, out, f4, f3, W_lenLoc hc, he', set_why hR]
      exact q _ _ _ ⟨rfl, by simp [Wy.p], by simp [ow, ows]⟩ hR.why (Frs.refl.set (by simp))
    · simp only [he, if_false] at q
      have he' : ¬ (cds.length : Int) = most := by omega
      have hP' := hP
      simp only [okPr, Bool.and_eq_true, List.all_eq_true] at hP'
      have hfo := hP'.2 fu (List.mem_of_getElem? hf)
      simp only [okFu, okHd, Bool.and_eq_true, decide_eq_true_eq, List.all_eq_true] at hfo
      have hP4 : ∀ f ∈ P, f.ps.length ≤ 4 := fun f hf => by
        have := hP'.2 f hf
        simp only [okFu, okHd, Bool.and_eq_true, decide_eq_true_eq] at this
        exact this.1.1
      have hfu : fuAt P g = fu := by unfold fuAt; rw [hf]; rfl
      rw [hfu] at q
      obtain ⟨o0, b0, pds, hpd0, hpds⟩ := hpd
      obtain ⟨fd, hfd1, o1, b1, o2, ds1, dt, hfd2, hr1, hdt⟩ := hpds.getP hf
      subst hpd0 hfd2
      have hat : L2.atI pds (g : Int) = some (T' o1 b1 [T' o2 true ds1, .str fu.k.s, dt]) := by rw [atI_nat, hfd1]
      simp [Cm._law_call_b, out, f4, f3, W_lenLoc hc, he', mtOk_loc hc (q := .append) (by decide), W_app hc (Nat.lt_of_lt_of_le (show cds.length < 100000 by omega) most_big)]
      have hR1 : LawC (m.set c ⟨.lst, cds ++ [T' true true [.int g, T' true true ads, .non]]⟩) r a c (T' o0 b0 pds) .non most { st with calls := st.calls ++ [⟨g, as, none⟩] } := by
        refine hR.calls ⟨?_, ?_⟩
        · rw [List.map_append]
          exact hcl.1.append (reps_cc.mpr ⟨by simp [Cl.p, optP, hads.reps], by simp⟩)
        · rw [ows_app, hcl.2]
          simp [ows, ow, hads.ows]
      have hF1 : Frs [a, c, r] m (m.set c ⟨.lst, cds ++ [T' true true [.int g, T' true true ads, .non]]⟩) := Frs.refl.set (by simp)
      generalize m.set c ⟨.lst, cds ++ [T' true true [.int g, T' true true ads, .non]]⟩ = m1 at hR1 hF1 ⊢
      obtain ⟨g1, _, _, _, _⟩ := idx_law hR1
      have hl1 : ds1.length = fu.ps.length := by simpa using hr1.length
      simp [g1, hat, small_nat (show ds1.length ≤ 1000000 by omega)]
      refine dict_args hr1 hads hak hfo.1.1 ?_
      have hla : as.length = fu.ps.length := by simpa using congrArg List.length hak
      have hpr := pairs_kv (kv := (fu.ps.map (·.1)).zip as) (ds := ads) (kv0 := []) (κ0 := []) (ds0 := []) rfl (kv_zip hak) (by simp [hads.length, hla]) (by simpa using hfo.1.2.2)
      have hz1 : ((fu.ps.map (·.1)).zip as).map (·.1) = fu.ps.map (·.1) := by
        rw [← List.unzip_fst, List.unzip_zip (by simp [hla])]
      rw [hz1] at hpr
      simp [kvK] at hpr
      simp [W_dictL hpr]
      have hkds := hads.nd hak
      obtain ⟨q1, q2, q3⟩ := hR1.fr
      have hb1 : StB { st with calls := st.calls ++ [⟨g, as, none⟩] } := fun c hc => by
        rcases List.mem_append.mp hc with hc | hc
        · exact hb c hc
        · rw [List.mem_singleton.mp hc]; exact ⟨(by show as.length ≤ 4; have e1 := congrArg List.length hak; have e2 := hfo.1.1; simp at e1; omega), hal, fun v hv => by cases hv⟩
      refine lc_loop Z (K := k + 2 * n + 1) (lo := lo + 1) hP4 hm (run_ok hP n) (f_lcall Z hP ⟨o0, b0, pds, rfl, hpds⟩ hm n (lo + 1) (by omega)) fu.t (w := 1) (place := 0) (st := { st with calls := st.calls ++ [⟨g, as, none⟩] }) hfo.2.1 hdt (by rw [app_self]; simp [kvK]) (kv_zip hak) hkds (by omega) (by omega) (by omega) hR1.app hb1 (by simp; omega) (by simp; omega) (zip_b hal) (by simp; omega) (by omega) (by simp; omega) ?_ ?_
      · intro v st' m' x e o b x9 x10 hg hR2 hF2 hi2 hv2
        simp only [hg] at q
        obtain ⟨_, _, _, f42, _⟩ := idx_law hR2
        obtain ⟨cds2, hc2, hcl2⟩ := hR2.c_
        have hcc2 : cds2.length = st'.calls.length := by simpa using hcl2.1.length
        have hKp := go_ok (run_ok (most := most) hP n) (f := g) (p := 0) hfo.2.1 (kv_zip hak) (st := { st with calls := st.calls ++ [⟨g, as, none⟩] }) hb1 (by simp; omega) (zip_b hal)
        rw [hg] at hKp
        have g3 := hKp.c
        simp at g3
        have hi2' : ∀ X, idxD (List.set m' c X) (.loc m1.length) (.str x) = .ok e := fun X => by
          have : (List.set m' c X)[m1.length]? = m'[m1.length]? := by rw [List.getElem?_set_ne (by omega)]
          simp only [idxD, view, this] at hi2 ⊢
          exact hi2
        simp [hi2, f42, W_setL hc2 (show cds.length < cds2.length by omega), hi2', out]
        refine q _ .non _ ⟨hv2, rfl⟩ ?_ (((hF1.app).trans3 hF2 hF1.len).set (by simp))
        rw [← hcc]
        refine hR2.calls ⟨?_, ?_⟩
        · rw [List.map_set]
          exact hcl2.1.set (by simp [Cl.p, optP, hads.reps, hv2.rep])
        · exact ows_set hcl2.2 (by simp [ows, ow, hads.ows, hv2.ow])
      · intro wy st' m' wd hg hR2 hF2 hd2
        simp only [hg] at q
        simp [out]
        exact q _ wd _ hd2 hR2 ((hF1.app).trans3 hF2 hF1.len)
end
end Mi
end
section
set_option linter.all false
set_option Elab.async false
set_option maxRecDepth 100000
set_option maxHeartbeats 4000000
/-! Mr11: what is handed to a run. -/
namespace Mi
open PySem Pm
structure ArgP (Pg : Prg) : Prop where
  whole : Has Pg "is_whole" Cm.is_whole_d
  worth : Has Pg "is_worth" Cm.is_worth_d
  items : Has Pg "is_items" Cm.is_items_d
  need : Has Pg "need_args" Cm.need_args_d
section
variable {Pg : Prg} {k : Nat} {m m' : Mem} {Q : D × Mem → Prop}
theorem f_is_worth (Z : ArgP Pg) {i : Int} (h : -1000000 ≤ i ∧ i ≤ 1000000) : W (callN Pg (k + 2) "is_worth" [.int i] m) Q ↔ Q (.bl true, m) := by
  refine W.iff ?_
  rw [W_callN Z.worth]
  have e := fun (Q : D × Mem → Prop) => f_is_whole (k := k) (m := []) (Q := Q) Z.whole (i := i) (lo := -1000000) (hi := 1000000)
  simp [Cm.is_worth_b, out, W_pc, lfs, lf, e, h]
theorem f_is_items (Z : ArgP Pg) {is : List Int} {o b : Bool} {n : Int} (h : ∀ i ∈ is, -1000000 ≤ i ∧ i ≤ 1000000) (hl : (is.length : Int) ≤ n) (hl2 : is.length ≤ 1000) : W (callN Pg (k + 3) "is_items" [T' o b (is.map D.int), .int n] m) Q ↔ Q (.bl true, m) := by
  refine W.iff ?_
  rw [W_callN Z.items]
  simp [Cm.is_items_b, out, hl]
  refine W_lcNone (reps_ints is) (fun d p hp hr => ?_) (by simp; exact Nat.le_trans hl2 (by decide)) ?_
  · obtain ⟨x, hx, rfl⟩ := List.mem_map.mp hp
    rw [Rep_int] at hr
    subst hr
    have e := fun (Q : D × Mem → Prop) => f_is_worth (k := k) (m := []) (Q := Q) Z (h x hx)
    simp [Put, wipe, W_pc, lfs, lf, e]
  · simp
/-- what may be handed in -/
def argOk : Vl → Prop
  | .int i => -1000000 ≤ i ∧ i ≤ 1000000
  | .lst is => (∀ i ∈ is, -1000000 ≤ i ∧ i ≤ 1000000) ∧ is.length ≤ 40
theorem f_need_args (Z : ArgP Pg) {P : Pr} {pd : D} {fu : Fu} {ads : List D} {as : List Vl} {o : Bool} (hpd : PrR pd P) (hf : P[0]? = some fu) (hads : VlDs ads as) (hak : as.map Vl.k = fu.ps.map (·.2)) (hok : ∀ v ∈ as, argOk v) : W (callN Pg (k + 4) "need_args" [pd, .nd o .lst ads] m) Q ↔ Q (.non, m) := by
  refine W.iff ?_
  rw [W_callN Z.need]
  obtain ⟨o0, b0, pds, rfl, hpds⟩ := hpd
  obtain ⟨fd, hfd1, o1, b1, o2, ds1, dt, rfl, hr1, hdt⟩ := hpds.getP hf
  have hat : L2.atI pds 0 = some (T' o1 b1 [T' o2 true ds1, .str fu.k.s, dt]) := by
    have := atI_nat (l := pds) (i := 0)
    rw [hfd1] at this
    exact this
  have hla : as.length = fu.ps.length := by simpa using congrArg List.length hak
  have hl1 : ds1.length = fu.ps.length := by simpa using hr1.length
  have hll : (ads.length : Int) = ds1.length := by rw [hads.length]; omega
  simp [Cm.need_args_b, out, hat, hll, zipOf]
  refine W_forS (fun i ρ m' => m' = m ∧ ∃ x3 x4 x5, ρ = [some (T' o0 b0 pds), some (.nd o .lst ads), some (T' o2 true ds1), x3, x4, x5]) _ _ _ ⟨rfl, _, _, _, rfl⟩ ?_ ?_
  · rintro i d ρ m' hi ⟨rfl, x3, x4, x5, rfl⟩
    obtain ⟨x, y, h1, h2, rfl⟩ := zipD_at hi
    obtain ⟨p, hp1, hp2⟩ := hr1.get h1
    rw [List.getElem?_map] at hp1
    cases hpi : fu.ps[i]? with
    | none => rw [hpi] at hp1; cases hp1
    | some pr =>
      rw [hpi] at hp1
      cases hp1
      obtain ⟨o3, b3, e1, e2, rfl, r1, r2⟩ := hp2.t2
      rw [Rep_str] at r1 r2
      subst r1 r2
      obtain ⟨v, hv1, hv2⟩ := hads.getD h2
      have hvk : v.k = pr.2 := by
        have := congrArg (·[i]?) hak
        simpa [hv1, hpi] using this
      have hvo := hok v (List.mem_of_getElem? hv1)
      cases v with
      | int j =>
        cases hv2
        rw [← hvk]
        have e := fun (Q : D × Mem → Prop) => f_is_worth (k := k + 1) (m := []) (Q := Q) Z hvo
        simp [Cm.need_args_b0, tupD, Kn.s, Vl.k, W_pc, lfs, lf, e]
        exact Opq.in ⟨rfl, _, _, _, rfl⟩
      | lst is =>
        obtain ⟨b, rfl⟩ := hv2
        rw [← hvk]
        have e := fun (Q : D × Mem → Prop) => f_is_items (k := k) (m := []) (Q := Q) (o := true) (b := b) (n := 40) Z hvo.1 (by have := hvo.2; omega) (by have := hvo.2; omega)
        simp [Cm.need_args_b0, tupD, Kn.s, Vl.k, W_pc, lfs, lf, lfs_ints, e]
        exact Opq.in ⟨rfl, _, _, _, rfl⟩
  · rintro ρ m' ⟨rfl, x3, x4, x5, rfl⟩
    simp
end
end Mi
end
section
set_option linter.all false
set_option Elab.async false
set_option maxRecDepth 100000
set_option maxHeartbeats 4000000
/-! Mr12: run. -/
namespace Mi
open PySem Pm
structure RunsP (Pg : Prg) : Prop where
  trees : TreesP Pg
  runp : RunP Pg
  argp : ArgP Pg
  cls : Has Pg "Run" .cls
  init : Has Pg "Run.__init__" Cm.RunD_initD_d
  run : Has Pg "run" Cm.run_d
section
variable {Pg : Prg} {k : Nat} {m m' : Mem} {Q : D × Mem → Prop}
theorem W_listL {o fr : Bool} {ds : List D} : W (bi .list fr m [.nd o .lst ds]) Q ↔ Q (fin fr .lst ds m) := by
  simp [bi, biList, asN, view, nrm]
theorem f_mkRun (Z : RunsP Pg) {pd : D} {o : Bool} {is : List Int} {most : Nat} : W (callN Pg (k + 2) "Run" [pd, .nd o .lst (is.map D.int), .int most] m) fun r => ∃ m', r = (.loc m.length, m') ∧ RunC m' m.length (m.length + 1) (m.length + 2) pd most ⟨is, [], 0⟩ ∧ m'.length = m.length + 3 ∧ ∀ n, n < m.length → m'[n]? = m[n]? := by
  rw [W_cls Z.cls]
  have := Z.init
  rw [show (Str.ofString "Run" ++ Str.ofString ".__init__") = Str.ofString "Run.__init__" from by simp, W_callN Z.init]
  simp [Cm.RunD_initD_b, out, setF, W_listL, fput]
  refine ⟨⟨by simp, by simp, ⟨[], by simp, by simp [ClDs, ows]⟩, by omega, by omega, by omega⟩, fun n hn => ?_⟩
  rw [List.getElem?_append_left hn]
def rsP : Rs → PyData
  | .told v => .tuple [.str "told", v.p]
  | .why w => w.p
/-- the plain run of all -/
def runP (P : Pr) (most : Nat) (as : List Vl) (is : List Int) : Rs × St := runF P most most 0 as ⟨is, [], 0⟩
theorem f_run (Z : RunsP Pg) {P : Pr} {pd : D} {fu : Fu} {ads : List D} {as : List Vl} {o o' : Bool} {is : List Int} {most K : Nat} (hP : okPr P = true) (hpd : PrR pd P) (hf : P[0]? = some fu) (hads : VlDs ads as) (hak : as.map Vl.k = fu.ps.map (·.2)) (hok : ∀ v ∈ as, argOk v) (his : ∀ i ∈ is, -1000000 ≤ i ∧ i ≤ 1000000) (hil : is.length ≤ 1000) (hm1 : 1 ≤ most) (hm : most ≤ 300) (hK : 2 * most + 22 ≤ K) (hK2 : 28 ≤ K)
    (q : ∀ d c ds m', Rep d (rsP (runP P most as is).1) → ow d = true → m'[c]? = some ⟨.lst, ds⟩ → ClDs ds (runP P most as is).2.calls → m.length ≤ c → Frs [] m m' → Q (T' true true [d, .loc c], m')) :
    W (callN Pg K "run" [pd, .nd o .lst ads, .nd o' .lst (is.map D.int), .int most] m) Q := by
  obtain ⟨j, rfl⟩ : ∃ j, K = j + 1 := ⟨K - 1, by omega⟩
  rw [W_callN Z.run]
  have e1 := f_need_program (k := j - 27) (m := []) Z.trees hpd (okPr_shaped hP) hP
  rw [show j - 27 + 27 = j by omega] at e1
  have e2 := fun (Q : D × Mem → Prop) => f_need_args (k := j - 4) (m := []) (Q := Q) (o := o) Z.argp hpd hf hads hak hok
  rw [show j - 4 + 4 = j by omega] at e2
  have e3 := fun (Q : D × Mem → Prop) => f_is_items (k := j - 3) (m := []) (Q := Q) (o := true) (b := true) (n := is.length) Z.argp his (by omega) hil
  rw [show j - 3 + 3 = j by omega] at e3
  have e4 := fun (Q : D × Mem → Prop) => f_is_whole (k := j - 1) (m := []) (Q := Q) Z.argp.whole (i := most) (lo := 1) (hi := 300)
  rw [show j - 1 + 1 = j by omega] at e4
  have e5 := f_mkRun (k := j - 2) (m := m) (o := o') (is := is) (most := most) (pd := pd) Z
  rw [show j - 2 + 2 = j by omega] at e5
  simp [Cm.run_b, out, W_pc, lfs, lf, hpd.rep.lf]
  refine W.mono e1 fun r hr => ?_
  obtain ⟨r1, r2⟩ := r
  simp only at hr
  subst hr
  have hm1' : (1 : Int) ≤ most := by omega
  have hm' : (most : Int) ≤ 300 := by omega
  simp [W_pc, lfs, lf, hpd.rep.lf, lfs_of_ows hads.ows, lfs_ints, e2, e3, e4, hm1', hm']
  refine W.mono e5 fun r ⟨m1, hr, hR, hl, hF⟩ => ?_
  subst hr
  simp [(cls_run hR).2]
  have e6 := f_rcall (k := j - (2 * most + 21)) Z.runp hP hpd (r := m.length) (a := m.length + 1) (c := m.length + 2) hm most 0 (by omega)
  rw [show j - (2 * most + 21) + 2 * most + 21 = j by omega] at e6
  have hlen : ∀ v ∈ as, v.len ≤ 40 := fun v hv => by
    have := hok v hv
    cases v with
    | int i => simp [Vl.len, Vl.l]
    | lst is => exact this.2
  refine e6 m1 ⟨is, [], 0⟩ 0 fu ads as _ o hR hf hads hak (by simpa using hlen) (fun c hc => by cases hc) (by simp) (by simp) (by simp) fun d m2 hd hR2 hF2 => ?_
  have hF3 : Frs [] m m2 := ⟨by have := hF2.len; omega, fun n hn _ => by rw [hF2.at_ n (by omega) (by simp; omega), hF n hn]⟩
  obtain ⟨ds, hc, hcl⟩ := hR2.c_
  obtain ⟨_, _, _, f4⟩ := fld_run hR2
  change RsD d (runP P most as is).1 at hd
  change ClDs ds (runP P most as is).2.calls at hcl
  generalize hres : (runP P most as is).1 = res at hd q
  cases res with
  | told v =>
    obtain ⟨o1, b1, e, rfl, hv⟩ := hd
    simp [isNon, f4]
    exact q _ _ ds m2 (by simpa [rsP] using hv.rep) (by simp [ow, ows, hv.ow]) hc hcl (by omega) hF3
  | why w =>
    obtain ⟨o1, b1, e, rfl, hv, ho⟩ := hd
    simp [why_non hv, f4]
    exact q _ _ ds m2 hv ho hc hcl (by omega) hF3
end
end Mi
end
section
set_option linter.all false
set_option Elab.async false
set_option maxRecDepth 100000
set_option maxHeartbeats 4000000
/-! Mr13: the law's own run; what both tell. -/
namespace Mi
open PySem Pm
section
variable {Pg : Prg} {k : Nat} {m m' : Mem} {Q : D × Mem → Prop}
theorem puts_law {p a n c : D} : putsC [.str "program", p, .str "answers", a, .str "most", n, .str "calls", c, .str "why", .non] (.dK [], []) = .ok (.dK lawK, [p, a, n, c, .non]) := by
  have hb : ∀ i, i < 1000 → i < most := fun i hi => Nat.lt_of_lt_of_le (show i < 100000 by omega) most_big
  simp [putsC, putC, emptyK, keyOf, kput, R.bind, lawK, hb]
theorem f_lrun (Z : GoP Pg) (hz : Has Pg "_law_run" Cm._law_run_d) {P : Pr} {pd : D} {fu : Fu} {ads : List D} {as : List Vl} {o o' : Bool} {is : List Int} {most K : Nat} (hP : okPr P = true) (hpd : PrR pd P) (hf : P[0]? = some fu) (hads : VlDs ads as) (hak : as.map Vl.k = fu.ps.map (·.2)) (hok : ∀ v ∈ as, argOk v) (hm : most ≤ 300) (hK : 2 * most + 22 ≤ K)
    (q : ∀ d c ds m', Rep d (rsP (runP P most as is).1) → ow d = true → m'[c]? = some ⟨.lst, ds⟩ → ClDs ds (runP P most as is).2.calls → m.length ≤ c → Frs [] m m' → Q (T' true true [d, .loc c], m')) :
    W (callN Pg K "_law_run" [pd, .nd o .lst ads, .nd o' .lst (is.map D.int), .int most] m) Q := by
  obtain ⟨j, rfl⟩ : ∃ j, K = j + 1 := ⟨K - 1, by omega⟩
  rw [W_callN hz]
  simp [Cm._law_run_b, out, W_listL, puts_law]
  have e6 := f_lcall (k := j - (2 * most + 21)) Z hP hpd (r := m.length + 2) (a := m.length) (c := m.length + 1) hm most 0 (by omega)
  rw [show j - (2 * most + 21) + 2 * most + 21 = j by omega] at e6
  have hlen : ∀ v ∈ as, v.len ≤ 40 := fun v hv => by
    have := hok v hv
    cases v with
    | int i => simp [Vl.len, Vl.l]
    | lst is => exact this.2
  have hR : LawC (m ++ [⟨.lst, is.map D.int⟩, ⟨.lst, []⟩, ⟨.dK lawK, [pd, .loc m.length, .int most, .loc (m.length + 1), .non]⟩]) (m.length + 2) m.length (m.length + 1) pd .non most ⟨is, [], 0⟩ := ⟨by simp, by simp, ⟨[], by simp, by simp [ClDs, ows]⟩, by omega, by omega, by omega⟩
  refine e6 _ ⟨is, [], 0⟩ 0 fu ads as _ hR hf hads hak (by simpa using hlen) (fun c hc => by cases hc) (by simp) (by simp) (by simp) fun d wd m2 hd hR2 hF2 => ?_
  have hF3 : Frs [] m m2 := ⟨by have := hF2.len; simp at this; omega, fun n hn _ => by rw [hF2.at_ n (by simp; omega) (by simp; omega), List.getElem?_append_left hn]⟩
  obtain ⟨ds, hc, hcl⟩ := hR2.c_
  obtain ⟨_, _, _, f4, f5⟩ := idx_law hR2
  change WyD d wd (runP P most as is).1 at hd
  change ClDs ds (runP P most as is).2.calls at hcl
  generalize hres : (runP P most as is).1 = res at hd q
  cases res with
  | told v =>
    obtain ⟨hv, rfl⟩ := hd
    simp [isNon, f4, f5]
    exact q _ _ ds m2 (by simpa [rsP] using hv.rep) (by simp [ow, ows, hv.ow]) hc hcl (by omega) hF3
  | why w =>
    obtain ⟨rfl, hv, ho⟩ := hd
    simp [why_non hv, f4, f5]
    exact q _ _ ds m2 hv ho hc hcl (by omega) hF3
/-! ### the plain form of both -/
def resP (r : Rs × St) : PyData := .tuple [rsP r.1, .list (r.2.calls.map Cl.p)]
theorem okWs_all : ∀ {ps : List PyData}, (∀ p ∈ ps, okW p = true) → okWs ps = true
  | [], _ => rfl
  | p :: ps, h => by
    simp only [okWs, Bool.and_eq_true]
    exact ⟨h p (List.mem_cons_self ..), okWs_all fun q hq => h q (List.mem_cons_of_mem _ hq)⟩
theorem vl_fine {v : Vl} {b : Nat} (h : v.len ≤ b) (hb : b ≤ 1000000) : okW v.p = true ∧ v.p.canLay0 = true ∧ v.p.depth ≤ 1 := by
  cases v with
  | int i => simp [Vl.p, okW, PyData.canLay0, PyData.depth]
  | lst is =>
    refine ⟨?_, ?_, ?_⟩
    · simp only [Vl.p, okW, Bool.and_eq_true, decide_eq_true_eq, List.length_map]
      refine ⟨by simp [Vl.len, Vl.l] at h; omega, okWs_all fun p hp => ?_⟩
      obtain ⟨i, _, rfl⟩ := List.mem_map.mp hp
      rfl
    · simp only [Vl.p, PyData.canLay0]
      exact canLay_map PyData.int is fun x hx => by simp [PyData.canLay0]
    · simp only [Vl.p, PyData.depth]
      have := depth_map PyData.int 0 is fun x _ => by simp [PyData.depth]
      omega
theorem cl_fine {c : Cl} {b : Nat} (h : ClB b c) (hb : b ≤ 1000000) : okW c.p = true ∧ c.p.canLay0 = true ∧ c.p.depth ≤ 3 := by
  have ho : okW (optP c.r) = true ∧ (optP c.r).canLay0 = true ∧ (optP c.r).depth ≤ 1 := by
    cases hr : c.r with
    | none => simp [optP, okW, PyData.canLay0, PyData.depth]
    | some v => exact vl_fine (h.2.2 v hr) hb
  have hv := fun v hv => vl_fine (h.2.1 v hv) hb
  refine ⟨?_, ?_, ?_⟩
  · have h1 := h.1
    have h2 : okWs (c.as.map Vl.p) = true := okWs_all fun p hp => by
      obtain ⟨v, hv', rfl⟩ := List.mem_map.mp hp
      exact (hv v hv').1
    simp [Cl.p, okW, okWs, ho.1, h2]
    omega
  · have := canLay_map Vl.p c.as fun v hv' => (hv v hv').2.1
    simp [Cl.p, PyData.canLay0, PyData.canLayAll0, ho.2.1, this]
  · have := depth_map Vl.p 1 c.as fun v hv' => (hv v hv').2.2
    simp only [Cl.p, PyData.depth, PyData.depthAll]
    omega
theorem wy_fine (w : Wy) : okW w.p = true ∧ w.p.canLay0 = true ∧ w.p.depth ≤ 1 := by
  cases w <;> simp [Wy.p, okW, okWs, PyData.canLay0, PyData.canLayAll0, PyData.depth, PyData.depthAll]
theorem res_fine {P : Pr} {fu : Fu} {as : List Vl} {is : List Int} {most : Nat} (hP : okPr P = true) (hf : P[0]? = some fu) (hak : as.map Vl.k = fu.ps.map (·.2)) (hok : ∀ v ∈ as, argOk v) (hm : most ≤ 300) : okW (resP (runP P most as is)) = true ∧ SeqAt.shaped (resP (runP P most as is)) = true ∧ (resP (runP P most as is)).depth ≤ 5 ∧ (runP P most as is).2.calls.length ≤ most := by
  have hlen : ∀ v ∈ as, v.len ≤ 40 := fun v hv => by
    have := hok v hv
    cases v with
    | int i => simp [Vl.len, Vl.l]
    | lst is => exact this.2
  have hKp : Kp most 0 fu.k ⟨is, [], 0⟩ (runP P most as is) := run_ok (most := most) hP most 0 fu as ⟨is, [], 0⟩ hf hak (by simpa using hlen) (fun c hc => by cases hc) (by simp)
  generalize runP P most as is = res at hKp
  obtain ⟨r, st⟩ := res
  have g1 := hKp.g
  have g2 := hKp.m
  simp at g1 g2
  have hr : okW (rsP r) = true ∧ (rsP r).canLay0 = true ∧ (rsP r).depth ≤ 2 := by
    cases r with
    | told v =>
      have := (hKp.told v rfl).2
      simp at this
      obtain ⟨a, b, c⟩ := vl_fine this (by omega)
      refine ⟨by simp [rsP, okW, okWs, a], by simp [rsP, PyData.canLay0, PyData.canLayAll0, b], ?_⟩
      simp only [rsP, PyData.depth, PyData.depthAll]
      omega
    | why w =>
      obtain ⟨a, b, c⟩ := wy_fine w
      exact ⟨a, b, by simp only [rsP]; omega⟩
  have hc := fun c hc => cl_fine (hKp.b c hc) (by simp; omega)
  have c1 : okWs (st.calls.map Cl.p) = true := okWs_all fun p hp => by
    obtain ⟨c, hc', rfl⟩ := List.mem_map.mp hp
    exact (hc c hc').1
  have c2 := canLay_map Cl.p st.calls fun c hc' => (hc c hc').2.1
  have c3 := depth_map Cl.p 3 st.calls fun c hc' => (hc c hc').2.2
  have hd : (resP (r, st)).depth ≤ 5 := by
    simp only [resP, PyData.depth, PyData.depthAll]
    omega
  refine ⟨?_, ?_, hd, g2⟩
  · simp [resP, okW, okWs, hr.1, c1]
    omega
  · unfold SeqAt.shaped
    rw [Bool.and_eq_true]
    refine ⟨by simp [resP, PyData.canLay0, PyData.canLayAll0, hr.2.1, c2], decide_eq_true (by omega)⟩
end
end Mi
end
section
set_option linter.all false
set_option Elab.async false
set_option maxRecDepth 100000
set_option maxHeartbeats 4000000
/-! Mr14: what is handed in is drawn. -/
namespace Mi
open PySem Pm
section
variable {Pg : Prg} {k : Nat} {m m' : Mem} {Q : D × Mem → Prop}
/-- numbers are drawn -/
theorem lc_draws (h : Has Pg "_law_drawn" Cm._law_drawn_d) {s i v : Nat} {ρ : Env} {P : Acc × Mem → Prop} (hm : StOk m s) (hi : ∀ d, ((ρ.set i (some d))[0]?).join = some (.loc s)) (hv : v ≤ 1000)
    (q : ∀ (is : List Int) m', is.length = v → (∀ x ∈ is, -2 ≤ x ∧ x ≤ 4) → StOk m' s → Fr0 s m m' → P ((.lst, is.map D.int), m')) :
    W (goSt (lcT (callN Pg (k + 1)) (.bin .sub (.call "_law_drawn" [(.var 0), (.cst (.int 7))]) (.cst (.int 2))) [i] (.var i) [] .nil ρ) (rngD 0 v) (.lst, []) m) P := by
  refine W_goSt (fun j acc m' => ∃ is : List Int, acc = (.lst, is.map D.int) ∧ is.length = j ∧ (∀ x ∈ is, -2 ≤ x ∧ x ≤ 4) ∧ StOk m' s ∧ Fr0 s m m') (rngD 0 v) _ m 0 ⟨[], rfl, rfl, (by simp), hm, Fr0.refl⟩ (fun j d acc m' hd ⟨is, ea, hk, hr, hst, hfr⟩ => ?_) (fun acc m2 ⟨is, ea, hk, hr, hst, hfr⟩ => ?_)
  · subst ea
    have hj := (rng_at hd).2
    simp [wipe, hi]
    refine d_drawn (k := k) h hst (by omega) (by omega) fun w m2 hw hm2 f2 => ?_
    have hpl : is.length < most := Nat.lt_of_lt_of_le (show is.length < 100000 by omega) most_big
    simp [putL, hpl]
    refine ⟨is ++ [(w : Int) - 2], by simp, by simp [hk], fun x hx => ?_, hm2, hfr.trans f2⟩
    rcases List.mem_append.mp hx with hx | hx
    · exact hr x hx
    · have : x = (w : Int) - 2 := by simpa using hx
      omega
  · subst ea
    rw [rngD_len] at hk
    exact q is m2 (by omega) hr hst hfr
theorem f_answers (h : Has Pg "_law_drawn" Cm._law_drawn_d) (h2 : Has Pg "_law_answers" Cm._law_answers_d) {s : Nat} (hm : StOk m s) (q : ∀ (is : List Int) m', is.length ≤ 3 → (∀ x ∈ is, -2 ≤ x ∧ x ≤ 4) → StOk m' s → Fr0 s m m' → Q (.nd true .lst (is.map D.int), m')) :
    W (callN Pg (k + 2) "_law_answers" [.loc s] m) Q := by
  rw [W_callN h2]
  simp [Cm._law_answers_b, out]
  refine d_drawn (k := k) h hm (by omega) (by omega) fun v m1 hv hm1 f1 => ?_
  simp [small_nat (show v ≤ 1000000 by omega)]
  refine lc_draws h hm1 (fun _ => rfl) (by omega) fun is m2 hl hr hst hfr => ?_
  simp
  exact q is m2 (by omega) hr hst (f1.trans hfr)
theorem args_turn (h : Has Pg "_law_drawn" Cm._law_drawn_d) {s n : Nat} {ads : List D} {j : Kn} {x1 x3 x5 x6 : Option D} {P : Fl × Mem → Prop} (hm : StOk m s) (hn : n ≠ s) (hc : m[n]? = some ⟨.lst, ads⟩) (hl : ads.length ≤ 1000)
    (q : ∀ d v x5 x6 m', VlD d v → v.k = j → argOk v → StOk (m'.set n ⟨.lst, ads ++ [d]⟩) s → Fr0 s m m' → P (.nx [some (.loc s), x1, some (.loc n), x3, some (.str j.s), x5, x6], m'.set n ⟨.lst, ads ++ [d]⟩)) :
    W (evSs (callN Pg (k + 1)) Cm._law_args_b0 [some (.loc s), x1, some (.loc n), x3, some (.str j.s), x5, x6] m) P := by
  simp [Cm._law_args_b0]
  refine d_drawn (k := k) h hm (by omega) (by omega) fun v m1 hv hm1 f1 => ?_
  simp [small_nat (show v ≤ 1000000 by omega)]
  refine lc_draws h hm1 (fun _ => rfl) (by omega) fun is m2 hil hr hst hfr => ?_
  have hc2 : m2[n]? = some ⟨.lst, ads⟩ := by rw [hfr.at_ n hn, f1.at_ n hn]; exact hc
  have hlt : ads.length < most := Nat.lt_of_lt_of_le (show ads.length < 100000 by omega) most_big
  simp [mtOk_loc hc2 (q := .append) (by decide)]
  cases j with
  | nu =>
    simp [Kn.s]
    refine d_drawn (k := k) h hst (by omega) (by omega) fun w m3 hw hm3 f3 => ?_
    have hc3 : m3[n]? = some ⟨.lst, ads⟩ := by rw [f3.at_ n hn]; exact hc2
    simp [W_app hc3 hlt]
    exact q _ (.int ((w : Int) - 3)) _ _ m3 rfl rfl (by simp only [argOk]; omega) (hm3.set_ne hn) ((f1.trans hfr).trans f3)
  | li =>
    simp [Kn.s, W_app hc2 hlt]
    exact q _ (.lst is) _ _ m2 ⟨true, rfl⟩ rfl ⟨fun i hi => by have := hr i hi; omega, by omega⟩ (hst.set_ne hn) (f1.trans hfr)
theorem f_args (h : Has Pg "_law_drawn" Cm._law_drawn_d) (h2 : Has Pg "_law_args" Cm._law_args_d) {s : Nat} {pd : D} {P : Pr} {fu : Fu} (hm : StOk m s) (hpd : PrR pd P) (hf : P[0]? = some fu) (hf4 : fu.ps.length ≤ 4)
    (q : ∀ ads as m', m'[m.length]? = some ⟨.lst, ads⟩ → VlDs ads as → as.map Vl.k = fu.ps.map (·.2) → (∀ v ∈ as, argOk v) → StOk m' s → Fr1 s m m' → Q (.loc m.length, m')) :
    W (callN Pg (k + 2) "_law_args" [.loc s, pd] m) Q := by
  rw [W_callN h2]
  obtain ⟨o0, b0, pds, rfl, hpds⟩ := hpd
  obtain ⟨fd, hfd1, o1, b1, o2, ds1, dt, rfl, hr1, hdt⟩ := hpds.getP hf
  have hat : L2.atI pds 0 = some (T' o1 b1 [T' o2 true ds1, .str fu.k.s, dt]) := by
    have := atI_nat (l := pds) (i := 0)
    rw [hfd1] at this
    exact this
  have hl1 : ds1.length = fu.ps.length := by simpa using hr1.length
  have hns : m.length ≠ s := by have := hm.lt; omega
  simp [Cm._law_args_b, out, hat]
  refine W_forS (fun i ρ m' => ∃ x3 x4 x5 x6 ads as, ρ = [some (.loc s), some (T' o0 b0 pds), some (.loc m.length), x3, x4, x5, x6] ∧ m'[m.length]? = some ⟨.lst, ads⟩ ∧ VlDs ads as ∧ as.map Vl.k = (fu.ps.map (·.2)).take i ∧ (∀ v ∈ as, argOk v) ∧ StOk m' s ∧ Fr1 s m m') _ _ _ ⟨_, _, _, _, [], [], rfl, by simp, trivial, rfl, (by simp), hm.app, Fr1.refl.app⟩ ?_ ?_
  · rintro i d ρ m2 hi ⟨x3, x4, x5, x6, ads, as, rfl, e1, e2, e3, e4, e5, e6⟩
    obtain ⟨p, hp1, hp2⟩ := hr1.get hi
    rw [List.getElem?_map] at hp1
    cases hpi : fu.ps[i]? with
    | none => rw [hpi] at hp1; cases hp1
    | some pr =>
      rw [hpi] at hp1
      cases hp1
      obtain ⟨o3, b3, d1, d2, rfl, r1, r2⟩ := hp2.t2
      rw [Rep_str] at r1 r2
      subst r1 r2
      have hla : ads.length ≤ 1000 := by
        have h1 := e2.length
        have h2 := congrArg List.length e3
        simp at h2
        omega
      simp
      refine args_turn (k := k) h e5 hns e1 hla fun d v y5 y6 m3 hv hk ho hst hfr => ?_
      simp
      have hlt : m.length < m3.length := by rw [hfr.len]; exact (List.getElem?_eq_some_iff.mp e1).1
      refine Opq.in ⟨_, _, _, _, ads ++ [d], as ++ [v], rfl, by rw [List.getElem?_set_self hlt], e2.snoc hv, ?_, fun w hw => ?_, hst, (e6.trans hfr.one).set (Nat.le_refl _)⟩
      · rw [List.map_append, e3, List.take_add_one, List.getElem?_map, hpi]
        simp [hk]
      · rcases List.mem_append.mp hw with hw | hw
        · exact e4 w hw
        · rw [List.mem_singleton.mp hw]; exact ho
  · rintro ρ m2 ⟨x3, x4, x5, x6, ads, as, rfl, e1, e2, e3, e4, e5, e6⟩
    rw [List.take_of_length_le (by simp; omega)] at e3
    simp
    exact q ads as m2 e1 e2 e3 e4 e5 e6
end
end Mi
end
section
set_option linter.all false
set_option Elab.async false
set_option maxRecDepth 100000
set_option maxHeartbeats 4000000
/-! Mr15: programs that go over lists and numbers. -/
namespace Mi
open PySem Pm
def lp0 : Pr :=
  [⟨[("n", .nu)], .li, .let_ "x" (.call 1 ["n"]) (.tell "x")⟩,
    ⟨[("n", .nu)], .li, .if_ (.of "n") .zero 0 (.let_ "e" .nil (.tell "e")) (.let_ "a" (.sum "n" (-1)) (.let_ "b" (.call 1 ["a"]) (.let_ "c" (.put "n" "b") (.tell "c"))))⟩]
def lp1 (n i : Int) : Pr :=
  [⟨[("l", .li)], .nu, .let_ "i" (.num n) (.let_ "x" (.call 1 ["l", "i"]) (.tell "x"))⟩,
    ⟨[("l", .li), ("i", .nu)], .nu, .if_ (.len "l") (.of "i") i (.let_ "z" (.num 0) (.tell "z")) (.let_ "x" (.at "l" "i") (.let_ "j" (.sum "i" 1) (.let_ "y" (.call 1 ["l", "j"]) (.tell "y"))))⟩]
def lp2 (n i : Int) : Pr :=
  [⟨[("l", .li)], .li, .let_ "r" (.call 1 ["l"]) (.claim (.len "r") (.len "l") 0 (.tell "r"))⟩,
    ⟨[("l", .li)], .li, .if_ (.len "l") .zero i (.let_ "e" .nil (.tell "e")) (.let_ "h" (.head "l") (.let_ "t" (.tail "l") (.let_ "r" (.call 1 ["t"]) (.let_ "s" (.sum "h" n) (.let_ "o" (.put "s" "r") (.tell "o"))))))⟩]
def lp3 (i : Int) : Pr :=
  [⟨[("l", .li)], .nu, .if_ (.len "l") .zero 0 (.let_ "z" (.num 0) (.tell "z")) (.let_ "x" (.call 1 ["l"]) (.tell "x"))⟩,
    ⟨[("l", .li)], .nu, .if_ (.len "l") .zero 1 (.let_ "h" (.head "l") (.tell "h")) (.let_ "h" (.head "l") (.let_ "t" (.tail "l") (.let_ "r" (.call 1 ["t"]) (.if_ (.of "h") (.of "r") i (.tell "h") (.tell "r")))))⟩]
def loopsP (n i : Int) : List Pr := [lp0, lp1 n i, lp2 n i, lp3 i]
theorem loops_ok1 : ∀ v, v < 3 → ∀ w, w < 3 → ∀ P ∈ loopsP (v : Nat) ((w : Nat) - 1), okPr P = true := by decide +kernel
section
variable {Pg : Prg} {k : Nat} {m m' : Mem} {Q : D × Mem → Prop}
theorem W_addT1 {o b o' b' : Bool} {x y : D} {Q : D → Prop} : W (bin .add m (T' o b [x]) (T' o' b' [y])) Q ↔ Q (T' true false [x, y]) := by
  rw [W_addT (Nat.le_trans (show _ ≤ 100000 by simp) most_big)]
  rfl
theorem f_loops (h : Has Pg "_law_drawn" Cm._law_drawn_d) (h2 : Has Pg "_law_loops" Cm._law_loops_d) {s : Nat} (hm : StOk m s)
    (q : ∀ d P fu x j m', PrR d P → ow d = true → okPr P = true → P[0]? = some fu → fu.ps = [(x, j)] → StOk m' s → Fr0 s m m' → Q (d, m')) :
    W (callN Pg (k + 2) "_law_loops" [.loc s] m) Q := by
  rw [W_callN h2]
  simp [Cm._law_loops_b, out]
  refine d_drawn (k := k) h hm (by omega) (by omega) fun v m1 hv hm1 f1 => ?_
  simp
  refine d_drawn (k := k) h hm1 (by omega) (by omega) fun w m2 hw hm2 f2 => ?_
  simp [W_addT1]
  refine d_drawn (k := k) h hm2 (by omega) (by omega) fun u m3 hu hm3 f3 => ?_
  have hok := loops_ok1 v (by omega) w (by omega)
  have hu : u < 4 := by omega
  have hf := (f1.trans f2).trans f3
  have hcase : u = 0 ∨ u = 1 ∨ u = 2 ∨ u = 3 := by omega
  rcases hcase with rfl | rfl | rfl | rfl
  · simp
    refine q _ lp0 _ _ _ m3 ⟨_, _, _, rfl, ⟨_, _, _, _, _, rfl, ?_, ?_⟩, ⟨_, _, _, _, _, rfl, ?_, ?_⟩, trivial⟩ ?_ (hok _ (List.mem_of_getElem? (i := 0) rfl)) rfl rfl hm3 hf <;> simp [Tr.p, De.p, Me.p, parP, Kn.s, ow, ows]
  · simp
    refine q _ (lp1 v ((w : Int) - 1)) _ _ _ m3 ⟨_, _, _, rfl, ⟨_, _, _, _, _, rfl, ?_, ?_⟩, ⟨_, _, _, _, _, rfl, ?_, ?_⟩, trivial⟩ ?_ (hok _ (List.mem_of_getElem? (i := 1) rfl)) rfl rfl hm3 hf <;> simp [Tr.p, De.p, Me.p, parP, Kn.s, ow, ows]
  · simp
    refine q _ (lp2 v ((w : Int) - 1)) _ _ _ m3 ⟨_, _, _, rfl, ⟨_, _, _, _, _, rfl, ?_, ?_⟩, ⟨_, _, _, _, _, rfl, ?_, ?_⟩, trivial⟩ ?_ (hok _ (List.mem_of_getElem? (i := 2) rfl)) rfl rfl hm3 hf <;> simp [Tr.p, De.p, Me.p, parP, Kn.s, ow, ows]
  · simp
    refine q _ (lp3 ((w : Int) - 1)) _ _ _ m3 ⟨_, _, _, rfl, ⟨_, _, _, _, _, rfl, ?_, ?_⟩, ⟨_, _, _, _, _, rfl, ?_, ?_⟩, trivial⟩ ?_ (hok _ (List.mem_of_getElem? (i := 3) rfl)) rfl rfl hm3 hf <;> simp [Tr.p, De.p, Me.p, parP, Kn.s, ow, ows]
end
end Mi
end
section
set_option linter.all false
set_option Elab.async false
set_option maxRecDepth 100000
set_option maxHeartbeats 4000000
/-! Mr16: the same program with other numbers. -/
namespace Mi
open PySem Pm
def isCall : List PyData → Bool
  | .str x :: _ => decide (x = Str.ofString "call")
  | _ => false
def isCallD : List D → Bool
  | .str x :: _ => decide (x = Str.ofString "call")
  | _ => false
mutual
/-- the same, but for numbers that are not of a call -/
inductive Far : PyData → PyData → Prop
  | int {i j : Int} : -99 ≤ j → j ≤ 99 → Far (.int i) (.int j)
  | str {x : Str} : Far (.str x) (.str x)
  | call {ps : List PyData} : isCall ps = true → Far (.tuple ps) (.tuple ps)
  | tup {ps qs : List PyData} : isCall ps = false → FarS ps qs → Far (.tuple ps) (.tuple qs)
inductive FarS : List PyData → List PyData → Prop
  | nil : FarS [] []
  | cons {p q : PyData} {ps qs : List PyData} : Far p q → FarS ps qs → FarS (p :: ps) (q :: qs)
end
mutual
/-- numbers, texts and tuples -/
def okF : PyData → Bool
  | .int _ => true
  | .str _ => true
  | .tuple ps => decide (ps.length ≤ 1000) && okFs ps
  | _ => false
def okFs : List PyData → Bool
  | [] => true
  | p :: ps => okF p && okFs ps
end
mutual
def tt : D → Bool
  | .nd _ sh ds => isCallD ds || (decide (sh = .tupP) && tts ds)
  | _ => true
def tts : List D → Bool
  | [] => true
  | d :: ds => tt d && tts ds
end
theorem FarS.snoc {p q : PyData} : ∀ {ps qs : List PyData}, FarS ps qs → Far p q → FarS (ps ++ [p]) (qs ++ [q])
  | [], _, .nil, h => .cons h .nil
  | _ :: _, _, .cons h1 h2, h => .cons h1 (FarS.snoc h2 h)
theorem tts_app : ∀ {ds es : List D}, tts (ds ++ es) = (tts ds && tts es)
  | [], es => by simp [tts]
  | d :: ds, es => by simp [tts, tts_app (ds := ds), Bool.and_assoc]
theorem okFs_mem {p : PyData} : ∀ {ps : List PyData}, p ∈ ps → okFs ps = true → okF p = true
  | q :: ps, h, e => by
    simp only [okFs, Bool.and_eq_true] at e
    rcases List.mem_cons.mp h with rfl | h
    · exact e.1
    · exact okFs_mem h e.2
theorem okFs_all : ∀ {ps : List PyData}, (∀ p ∈ ps, okF p = true) → okFs ps = true
  | [], _ => rfl
  | p :: ps, h => by
    simp only [okFs, Bool.and_eq_true]
    exact ⟨h p (List.mem_cons_self ..), okFs_all fun q hq => h q (List.mem_cons_of_mem _ hq)⟩
theorem isCall_rep {ds : List D} {ps : List PyData} (h : Reps ds ps) : isCallD ds = isCall ps := by
  cases ps with
  | nil => rw [Reps_nil] at h; subst h; rfl
  | cons p ps =>
    obtain ⟨d, es, rfl, h1, h2⟩ := Reps_cons.mp h
    cases p with
    | str x => rw [Rep_str] at h1; subst h1; rfl
    | int x => rw [Rep_int] at h1; subst h1; rfl
    | bool x => rw [Rep_bool] at h1; subst h1; rfl
    | none => rw [Rep_none] at h1; subst h1; rfl
    | tuple x => obtain ⟨_, _, _, rfl, _⟩ := Rep_tuple.mp h1; rfl
    | list x => obtain ⟨_, _, rfl, _⟩ := Rep_list.mp h1; rfl
    | dict x =>
      cases d with
      | nd o sh ds => rfl
      | str x => simp [Rep, py] at h1
      | _ => rfl
theorem eqv_call {ps : List PyData} : PyData.eqv (.tuple (ps.take 1)) (.tuple [.str (Str.ofString "call")]) = isCall ps := by
  cases ps with
  | nil => rfl
  | cons p ps =>
    cases p <;> simp [PyData.eqv, PyData.eqvAll, isCall, beqD]
section
variable {Pg : Prg} {k : Nat} {m m' : Mem} {Q : D × Mem → Prop}
theorem f_far (h : Has Pg "_law_drawn" Cm._law_drawn_d) (hf : Has Pg "_law_far" Cm._law_far_d) {s : Nat} : ∀ (n : Nat) {p : PyData} {d : D} {k : Nat} {m : Mem} {Q : D × Mem → Prop}, p.depth ≤ n → okF p = true → SeqAt.shaped p = true → Rep d p → ow d = true → StOk m s →
    (∀ d' p' m', Far p p' → Rep d' p' → ow d' = true → tt d' = true → StOk m' s → Fr0 s m m' → Q (d', m')) → W (callN Pg (k + n + 2) "_law_far" [.loc s, d] m) Q := by
  intro n
  induction n with
  | zero =>
    intro p d k m Q hd ho hs hr hw hm q
    rw [W_callN hf]
    cases p with
    | int x =>
      rw [Rep_int] at hr; subst hr
      simp [Cm._law_far_b, out]
      refine d_drawn (k := k) h hm (by omega) (by omega) fun w m2 hw hm2 f2 => ?_
      simp
      exact q _ _ m2 (.int (j := (w : Int) - 99) (by omega) (by omega)) (by simp) rfl rfl hm2 f2
    | str x =>
      rw [Rep_str] at hr; subst hr
      simp [Cm._law_far_b, out]
      exact q _ _ m .str (by simp) rfl rfl hm Fr0.refl
    | tuple xs => simp [PyData.depth] at hd
    | _ => simp [okF] at ho
  | succ n ih =>
    intro p d k m Q hd ho hs hr hw hm q
    rw [show k + (n + 1) + 2 = (k + n + 2) + 1 by omega, W_callN hf]
    cases p with
    | int x =>
      rw [Rep_int] at hr; subst hr
      simp [Cm._law_far_b, out]
      refine d_drawn (k := k + n + 1) h hm (by omega) (by omega) fun w m2 hw hm2 f2 => ?_
      simp
      exact q _ _ m2 (.int (j := (w : Int) - 99) (by omega) (by omega)) (by simp) rfl rfl hm2 f2
    | str x =>
      rw [Rep_str] at hr; subst hr
      simp [Cm._law_far_b, out]
      exact q _ _ m .str (by simp) rfl rfl hm Fr0.refl
    | tuple ps =>
      simp only [PyData.depth] at hd
      simp only [okF, Bool.and_eq_true, decide_eq_true_eq] at ho
      obtain ⟨o1, b1, ds, rfl, r1⟩ := Rep_tuple.mp hr
      simp at hw
      have hst : SeqAt.shaped (.tuple (ps.take 1)) = true := by
        unfold SeqAt.shaped at hs ⊢
        cases ps with
        | nil => exact hs
        | cons p ps =>
          simp [PyData.canLay0, PyData.canLayAll0, PyData.depth, PyData.depthAll] at hs ⊢
          refine ⟨hs.1.1, by omega⟩
      have he := fun (P : Bool → Prop) => W_eq (m := m) (Q := P) (a := T' true false (ds.take 1)) (b := T' true true [.str (Str.ofString "call")]) (p := .tuple (ps.take 1)) (q := .tuple [.str (Str.ofString "call")]) (by simpa using r1.take 1) (by simp) hst (by decide +kernel)
      simp only [eqv_call] at he
      have c1 : cut ds none (some 1) = ds.take 1 := cut_U (show (0 : Int) ≤ 1 by omega)
      simp [Cm._law_far_b, out, c1, he]
      cases hc : isCall ps with
      | true =>
        simp
        exact q _ _ m (.call hc) (by simpa using r1) (by simp [hw.1, hw.2]) (by cases b1 <;> simp [tt, T', isCall_rep r1, hc, -tup_T', -tupP_T']) hm Fr0.refl
      | false =>
        simp
        refine W_goSt (fun j acc m' => ∃ es qs, acc = (.lst, es) ∧ Reps es qs ∧ ows es = true ∧ tts es = true ∧ FarS (ps.take j) qs ∧ StOk m' s ∧ Fr0 s m m') ds _ m 0 ⟨[], [], rfl, by simp, rfl, rfl, .nil, hm, Fr0.refl⟩ (fun j d acc m' hdj ⟨es, qs, ea, g1, g2, g3, g4, g5, g6⟩ => ?_) (fun acc m2 ⟨es, qs, ea, g1, g2, g3, g4, g5, g6⟩ => ?_)
        · subst ea
          rw [Nat.zero_add] at g4 ⊢
          obtain ⟨p, hp1, hp2⟩ := r1.get hdj
          have hpm := List.mem_of_getElem? hp1
          have hel : es.length = min j ps.length := by
            rw [g1.length]
            have : ∀ {a b : List PyData}, FarS a b → a.length = b.length := fun {a} => by
              induction a with
              | nil => intro b h; cases h; rfl
              | cons x a ih => intro b h; cases h with | cons _ h2 => simp [ih h2]
            have := this g4
            simpa using this.symm
          have hlt : es.length < most := Nat.lt_of_lt_of_le (show es.length < 100000 by omega) most_big
          simp [wipe]
          refine ih (k := k) (Nat.le_trans (depthAll_mem hpm) (by omega)) (okFs_mem hpm ho.2) (shaped_mem hs hpm) hp2 (ows_get hw.2 hdj) g5 fun d' p' m3 f1 f2 f3 f4 f5 f6 => ?_
          simp [putL, hlt]
          refine ⟨qs ++ [p'], g1.append (reps_cc.mpr ⟨f2, by simp⟩), by simp [ows_app, g2, ows, f3], by simp [tts_app, g3, tts, f4], ?_, f5, g6.trans f6⟩
          rw [List.take_add_one, hp1]
          exact g4.snoc f1
        · subst ea
          rw [Nat.zero_add, r1.length, List.take_length] at g4
          simp
          exact q _ (.tuple qs) m2 (.tup hc g4) (by simpa using g1) (by simpa using g2) (by simp [tt, T', g3, -tup_T', -tupP_T']) g5 g6
    | _ => simp [okF] at ho
end
end Mi
end
section
set_option linter.all false
set_option Elab.async false
set_option maxRecDepth 100000
set_option maxHeartbeats 4000000
/-! Mr17: a program with other numbers is a program. -/
namespace Mi
open PySem Pm
mutual
def noInt : PyData → Bool
  | .str _ => true
  | .tuple ps => noInts ps
  | _ => false
def noInts : List PyData → Bool
  | [] => true
  | p :: ps => noInt p && noInts ps
end
theorem far_str {x : Str} {q : PyData} (h : Far (.str x) q) : q = .str x := by cases h; rfl
theorem far_int {i : Int} {q : PyData} (h : Far (.int i) q) : ∃ j, q = .int j ∧ -99 ≤ j ∧ j ≤ 99 := by cases h with | int a b => exact ⟨_, rfl, a, b⟩
theorem far_tup {ps : List PyData} {q : PyData} (h : Far (.tuple ps) q) (hc : isCall ps = false) : ∃ qs, q = .tuple qs ∧ FarS ps qs := by
  cases h with
  | call h => rw [h] at hc; cases hc
  | tup _ h => exact ⟨_, rfl, h⟩
theorem far_call {ps : List PyData} {q : PyData} (h : Far (.tuple ps) q) (hc : isCall ps = true) : q = .tuple ps := by
  cases h with
  | call h => rfl
  | tup h _ => rw [h] at hc; cases hc
theorem fars_nil {qs : List PyData} (h : FarS [] qs) : qs = [] := by cases h; rfl
theorem fars_cons {p : PyData} {ps qs : List PyData} (h : FarS (p :: ps) qs) : ∃ q qs', qs = q :: qs' ∧ Far p q ∧ FarS ps qs' := by
  cases h with | cons a b => exact ⟨_, _, rfl, a, b⟩
mutual
theorem far_same : ∀ (p : PyData) {q : PyData}, noInt p = true → Far p q → q = p
  | .str x, q, h, hf => far_str hf
  | .tuple ps, q, h, hf => by
    cases hc : isCall ps with
    | true => exact far_call hf hc
    | false =>
      obtain ⟨qs, rfl, hs⟩ := far_tup hf hc
      rw [fars_same ps (by simpa [noInt] using h) hs]
  | .int _, _, h, _ => by simp [noInt] at h
  | .none, _, h, _ => by simp [noInt] at h
  | .bool _, _, h, _ => by simp [noInt] at h
  | .list _, _, h, _ => by simp [noInt] at h
  | .dict _, _, h, _ => by simp [noInt] at h
theorem fars_same : ∀ (ps : List PyData) {qs : List PyData}, noInts ps = true → FarS ps qs → qs = ps
  | [], qs, h, hf => fars_nil hf
  | p :: ps, qs, h, hf => by
    simp only [noInts, Bool.and_eq_true] at h
    obtain ⟨q, qs', rfl, h1, h2⟩ := fars_cons hf
    rw [far_same p h.1 h1, fars_same ps h.2 h2]
end
theorem noInts_strs : ∀ xs : List Str, noInts (xs.map PyData.str) = true
  | [] => rfl
  | x :: xs => by simp [noInts, noInt, noInts_strs xs]
theorem noInt_me (a : Me) : noInt a.p = true := by cases a <;> simp [Me.p, noInt, noInts]
theorem noInts_pars : ∀ l : List (Str × Kn), noInts (l.map parP) = true
  | [] => rfl
  | q :: l => by simp [noInts, noInt, parP, noInts_pars l]
theorem step_of {i : Int} (h1 : -99 ≤ i) (h2 : i ≤ 99) : isStep i = true := by simp [isStep, h1, h2]
theorem far_de {P : Pr} {κ : Kno} {j : Kn} {d : De} {q : PyData} (hk : kindOf P κ d = some j) (h : Far d.p q) : ∃ d' : De, q = d'.p ∧ kindOf P κ d' = some j := by
  cases d with
  | num n =>
    obtain ⟨qs, rfl, hs⟩ := far_tup h (by simp [isCall])
    obtain ⟨q1, qs, rfl, h1, hs⟩ := fars_cons hs
    obtain ⟨q2, qs, rfl, h2, hs⟩ := fars_cons hs
    have := fars_nil hs; subst this
    have := far_str h1; subst this
    obtain ⟨i, rfl, i1, i2⟩ := far_int h2
    refine ⟨.num i, rfl, ?_⟩
    simp only [kindOf, step_of i1 i2, if_true] at hk ⊢
    split at hk
    · exact hk
    · cases hk
  | sum x n =>
    obtain ⟨qs, rfl, hs⟩ := far_tup h (by simp [isCall])
    obtain ⟨q1, qs, rfl, h1, hs⟩ := fars_cons hs
    obtain ⟨q2, qs, rfl, h2, hs⟩ := fars_cons hs
    obtain ⟨q3, qs, rfl, h3, hs⟩ := fars_cons hs
    have := fars_nil hs; subst this
    have := far_str h1; subst this
    have := far_str h2; subst this
    obtain ⟨i, rfl, i1, i2⟩ := far_int h3
    refine ⟨.sum x i, rfl, ?_⟩
    simp only [kindOf, step_of i1 i2, Bool.and_true] at hk ⊢
    split at hk
    · rename_i hh
      rw [Bool.and_eq_true] at hh
      rw [if_pos hh.1]; exact hk
    · cases hk
  | call f xs => exact ⟨.call f xs, far_call h (by simp [isCall]), hk⟩
  | len x => exact ⟨.len x, far_same _ (by simp [De.p, noInt, noInts]) h, hk⟩
  | nil => exact ⟨.nil, far_same _ (by simp [De.p, noInt, noInts]) h, hk⟩
  | put x y => exact ⟨.put x y, far_same _ (by simp [De.p, noInt, noInts]) h, hk⟩
  | head x => exact ⟨.head x, far_same _ (by simp [De.p, noInt, noInts]) h, hk⟩
  | tail x => exact ⟨.tail x, far_same _ (by simp [De.p, noInt, noInts]) h, hk⟩
  | «at» x y => exact ⟨.at x y, far_same _ (by simp [De.p, noInt, noInts]) h, hk⟩
  | ask => exact ⟨.ask, far_same _ (by simp [De.p, noInt, noInts]) h, hk⟩
theorem far_tr {P : Pr} {k : Kn} : ∀ (t : Tr) {κ : Kno} {w : Nat} {q : PyData}, okTr P k κ w t = true → Far t.p q → ∃ t' : Tr, q = t'.p ∧ okTr P k κ w t' = true ∧ t'.size = t.size
  | .tell x, κ, w, q, ho, h => ⟨.tell x, far_same _ (by simp [Tr.p, noInt, noInts]) h, ho, rfl⟩
  | .let_ x d t, κ, w, q, ho, h => by
    simp only [okTr, Bool.and_eq_true, decide_eq_true_eq] at ho
    obtain ⟨o1, o2, o3, o4⟩ := ho
    split at o4
    · rename_i j hj
      obtain ⟨qs, rfl, hs⟩ := far_tup h (by simp [isCall])
      obtain ⟨q1, qs, rfl, h1, hs⟩ := fars_cons hs
      obtain ⟨q2, qs, rfl, h2, hs⟩ := fars_cons hs
      obtain ⟨q3, qs, rfl, h3, hs⟩ := fars_cons hs
      obtain ⟨q4, qs, rfl, h4, hs⟩ := fars_cons hs
      have := fars_nil hs; subst this
      have := far_str h1; subst this
      have := far_str h2; subst this
      obtain ⟨d', rfl, hd'⟩ := far_de hj h3
      obtain ⟨t', rfl, ht1, ht2⟩ := far_tr t o4 h4
      refine ⟨.let_ x d' t', rfl, ?_, by simp [Tr.size, ht2]⟩
      simp [okTr, o1, o2, o3, hd', ht1]
    · cases o4
  | .claim a b n t, κ, w, q, ho, h => by
    simp only [okTr, Bool.and_eq_true, decide_eq_true_eq] at ho
    obtain ⟨o1, o2, o3, o4, o5⟩ := ho
    obtain ⟨qs, rfl, hs⟩ := far_tup h (by simp [isCall])
    obtain ⟨q1, qs, rfl, h1, hs⟩ := fars_cons hs
    obtain ⟨q2, qs, rfl, h2, hs⟩ := fars_cons hs
    obtain ⟨q3, qs, rfl, h3, hs⟩ := fars_cons hs
    obtain ⟨q4, qs, rfl, h4, hs⟩ := fars_cons hs
    obtain ⟨q5, qs, rfl, h5, hs⟩ := fars_cons hs
    have := fars_nil hs; subst this
    have := far_str h1; subst this
    have := far_same _ (noInt_me a) h2; subst this
    have := far_same _ (noInt_me b) h3; subst this
    obtain ⟨i, rfl, i1, i2⟩ := far_int h4
    obtain ⟨t', rfl, ht1, ht2⟩ := far_tr t o5 h5
    exact ⟨.claim a b i t', rfl, by simp [okTr, o1, o2, o3, step_of i1 i2, ht1], by simp [Tr.size, ht2]⟩
  | .if_ a b n t u, κ, w, q, ho, h => by
    simp only [okTr, Bool.and_eq_true, decide_eq_true_eq] at ho
    obtain ⟨o1, o2, o3, o4, o5, o6⟩ := ho
    obtain ⟨qs, rfl, hs⟩ := far_tup h (by simp [isCall])
    obtain ⟨q1, qs, rfl, h1, hs⟩ := fars_cons hs
    obtain ⟨q2, qs, rfl, h2, hs⟩ := fars_cons hs
    obtain ⟨q3, qs, rfl, h3, hs⟩ := fars_cons hs
    obtain ⟨q4, qs, rfl, h4, hs⟩ := fars_cons hs
    obtain ⟨q5, qs, rfl, h5, hs⟩ := fars_cons hs
    obtain ⟨q6, qs, rfl, h6, hs⟩ := fars_cons hs
    have := fars_nil hs; subst this
    have := far_str h1; subst this
    have := far_same _ (noInt_me a) h2; subst this
    have := far_same _ (noInt_me b) h3; subst this
    obtain ⟨i, rfl, i1, i2⟩ := far_int h4
    obtain ⟨t', rfl, ht1, ht2⟩ := far_tr t o5 h5
    obtain ⟨u', rfl, hu1, hu2⟩ := far_tr u o6 h6
    exact ⟨.if_ a b i t' u', rfl, by simp [okTr, o1, o2, o3, step_of i1 i2, ht1, hu1], by simp [Tr.size, ht2, hu2]⟩
theorem far_fus {P0 : Pr} : ∀ (P : Pr) {qs : List PyData}, (∀ f ∈ P, okFu P0 f = true) → FarS (P.map Fu.p) qs → ∃ P' : Pr, qs = P'.map Fu.p ∧ P'.map (fun f => (f.ps, f.k)) = P.map (fun f => (f.ps, f.k)) ∧ ∀ f ∈ P', okFu P0 f = true
  | [], qs, ho, h => ⟨[], fars_nil h, rfl, fun f hf => by cases hf⟩
  | f :: P, qs, ho, h => by
    rw [List.map_cons] at h
    obtain ⟨q, qs, rfl, h1, h2⟩ := fars_cons h
    obtain ⟨P', rfl, e1, e2⟩ := far_fus P (fun g hg => ho g (List.mem_cons_of_mem _ hg)) h2
    have hf := ho f (List.mem_cons_self ..)
    simp only [okFu, Bool.and_eq_true, decide_eq_true_eq] at hf
    obtain ⟨qs, rfl, hs⟩ := far_tup h1 (by simp [isCall])
    obtain ⟨q1, qs, rfl, g1, hs⟩ := fars_cons hs
    obtain ⟨q2, qs, rfl, g2, hs⟩ := fars_cons hs
    obtain ⟨q3, qs, rfl, g3, hs⟩ := fars_cons hs
    have := fars_nil hs; subst this
    have := far_same _ (by simpa [noInt] using noInts_pars f.ps) g1; subst this
    have := far_str g2; subst this
    obtain ⟨t', rfl, t1, t2⟩ := far_tr f.t hf.2.1 g3
    refine ⟨⟨f.ps, f.k, t'⟩ :: P', rfl, by simp [e1], fun g hg => ?_⟩
    rcases List.mem_cons.mp hg with rfl | hg
    · simp only [okFu, Bool.and_eq_true, decide_eq_true_eq]
      exact ⟨by simpa [okHd] using hf.1, t1, by omega⟩
    · exact e2 g hg
theorem far_pr {P : Pr} {q : PyData} (ho : okPr P = true) (h : Far (Pr.p P) q) : ∃ P' : Pr, q = Pr.p P' ∧ okPr P' = true ∧ P'.map (fun f => (f.ps, f.k)) = P.map (fun f => (f.ps, f.k)) := by
  simp only [okPr, Bool.and_eq_true, decide_eq_true_eq, List.all_eq_true] at ho
  obtain ⟨qs, rfl, hs⟩ := far_tup h (by
    cases P with
    | nil => rfl
    | cons f P => rfl)
  obtain ⟨P', rfl, e1, e2⟩ := far_fus P ho.2 hs
  refine ⟨P', rfl, ?_, e1⟩
  have hl : P'.length = P.length := by simpa using congrArg List.length e1
  simp only [okPr, Bool.and_eq_true, decide_eq_true_eq, List.all_eq_true]
  refine ⟨by omega, fun f hf => ?_⟩
  have := e2 f hf
  simp only [okFu, Bool.and_eq_true, decide_eq_true_eq] at this ⊢
  refine ⟨this.1, ?_, this.2.2⟩
  rw [← okTr_heads (P := P') e1, okTr_heads (P := P) rfl]
  exact this.2.1
/-! ### the shape of what comes of it -/
theorem tts_get : ∀ {ds : List D} {d : D}, tts ds = true → d ∈ ds → tt d = true
  | e :: ds, d, h, hd => by
    simp only [tts, Bool.and_eq_true] at h
    rcases List.mem_cons.mp hd with rfl | hd
    · exact h.1
    · exact tts_get h.2 hd
theorem tt_T' {o b : Bool} {ds : List D} (h : tt (T' o b ds) = true) (hc : isCallD ds = false) : b = true ∧ tts ds = true := by
  cases b with
  | true => simpa [T', tt, hc, -tup_T', -tupP_T'] using h
  | false => simp [T', tt, hc, -tup_T', -tupP_T'] at h
theorem tt_fu {d : D} {f : Fu} (hr : Rep d f.p) (ht : tt d = true) : FuR d f := by
  unfold Fu.p at hr
  obtain ⟨o, b, e1, e2, e3, rfl, r1, r2, r3⟩ := hr.t3
  obtain ⟨o1, b1, ds1, rfl, r1'⟩ := Rep_tuple.mp r1
  rw [Rep_str] at r2
  subst r2
  have hc : isCallD [T' o1 b1 ds1, .str f.k.s, e3] = false := by cases b1 <;> rfl
  obtain ⟨_, h2⟩ := tt_T' ht hc
  have h3 := tts_get h2 (List.mem_cons_self ..)
  have hc1 : isCallD ds1 = false := by
    rw [isCall_rep r1']
    cases f.ps with
    | nil => rfl
    | cons q l => rfl
  obtain ⟨h4, _⟩ := tt_T' h3 hc1
  subst h4
  exact ⟨o, b, o1, ds1, e3, rfl, r1', r3⟩
theorem tt_fus : ∀ {ds : List D} {P : Pr}, Reps ds (P.map Fu.p) → tts ds = true → FuRs ds P
  | ds, [], hr, ht => by
    simp at hr
    subst hr
    trivial
  | ds, f :: P, hr, ht => by
    rw [List.map_cons] at hr
    obtain ⟨d, es, rfl, h1, h2⟩ := Reps_cons.mp hr
    simp only [tts, Bool.and_eq_true] at ht
    exact ⟨tt_fu h1 ht.1, tt_fus h2 ht.2⟩
theorem tt_pr {d : D} {P : Pr} (hr : Rep d (Pr.p P)) (ht : tt d = true) : PrR d P := by
  obtain ⟨o, b, ds, rfl, h⟩ := Rep_tuple.mp hr
  have hc : isCallD ds = false := by
    rw [isCall_rep h]
    cases P with
    | nil => rfl
    | cons q l => rfl
  obtain ⟨_, h2⟩ := tt_T' ht hc
  exact ⟨o, b, ds, rfl, tt_fus h h2⟩
/-! ### programs are fit for it -/
theorem okF_de {P : Pr} {κ : Kno} {j : Kn} (hP4 : ∀ f ∈ P, f.ps.length ≤ 4) {d : De} (h : kindOf P κ d = some j) : okF d.p = true := by
  cases d with
  | call f xs =>
    simp only [kindOf] at h
    split at h
    · split at h
      · rename_i g hg
        split at h
        · rename_i har
          have h1 := areOf_len har
          have h2 := hP4 g (List.mem_of_getElem? hg)
          simp at h1
          have h3 : okFs (xs.map PyData.str) = true := okFs_all fun p hp => by
            obtain ⟨x, _, rfl⟩ := List.mem_map.mp hp
            rfl
          simp [De.p, okF, okFs, h3]
          omega
        · cases h
      · cases h
    · cases h
  | _ => simp [De.p, okF, okFs]
theorem okF_me (a : Me) : okF a.p = true := by cases a <;> simp [Me.p, okF, okFs]
theorem okF_tr {P : Pr} {k : Kn} (hP4 : ∀ f ∈ P, f.ps.length ≤ 4) : ∀ (t : Tr) {κ : Kno} {w : Nat}, okTr P k κ w t = true → okF t.p = true
  | .tell x, κ, w, h => by simp [Tr.p, okF, okFs]
  | .let_ x d t, κ, w, h => by
    simp only [okTr, Bool.and_eq_true, decide_eq_true_eq] at h
    obtain ⟨o1, o2, o3, o4⟩ := h
    split at o4
    · rename_i j hj
      simp [Tr.p, okF, okFs, okF_de hP4 hj, okF_tr hP4 t o4]
    · cases o4
  | .claim a b n t, κ, w, h => by
    simp only [okTr, Bool.and_eq_true, decide_eq_true_eq] at h
    simp [Tr.p, okF, okFs, okF_me, okF_tr hP4 t h.2.2.2.2]
  | .if_ a b n t u, κ, w, h => by
    simp only [okTr, Bool.and_eq_true, decide_eq_true_eq] at h
    simp [Tr.p, okF, okFs, okF_me, okF_tr hP4 t h.2.2.2.2.1, okF_tr hP4 u h.2.2.2.2.2]
theorem okF_pr {P : Pr} (h : okPr P = true) : okF (Pr.p P) = true ∧ (Pr.p P).depth ≤ 31 := by
  simp only [okPr, Bool.and_eq_true, decide_eq_true_eq, List.all_eq_true] at h
  have hP4 : ∀ f ∈ P, f.ps.length ≤ 4 := fun f hf => by
    have := h.2 f hf
    simp only [okFu, okHd, Bool.and_eq_true, decide_eq_true_eq] at this
    exact this.1.1
  have key : ∀ f ∈ P, okF f.p = true ∧ f.p.depth ≤ 30 := fun f hf => by
    have h1 := h.2 f hf
    simp only [okFu, okHd, Bool.and_eq_true, List.all_eq_true, decide_eq_true_eq] at h1
    obtain ⟨⟨p1, p2, p3⟩, p4, p5⟩ := h1
    obtain ⟨a1, a2⟩ := okTr_lay p4
    have a3 := okTr_dep p4
    have d1 := depth_map parP 1 f.ps fun q _ => by simp [parP, PyData.depth, PyData.depthAll]
    have c1 : okFs (f.ps.map parP) = true := okFs_all fun p hp => by
      obtain ⟨x, _, rfl⟩ := List.mem_map.mp hp
      simp [parP, okF, okFs]
    refine ⟨?_, ?_⟩
    · simp [Fu.p, okF, okFs, c1, okF_tr hP4 f.t p4]
      omega
    · simp only [Fu.p, PyData.depth, PyData.depthAll]
      omega
  refine ⟨?_, ?_⟩
  · have c1 : okFs (P.map Fu.p) = true := okFs_all fun p hp => by
      obtain ⟨x, hx, rfl⟩ := List.mem_map.mp hp
      exact (key x hx).1
    simp [Pr.p, okF, c1]
    omega
  · have := depth_map Fu.p 30 P fun f hf => (key f hf).2
    simp only [Pr.p, PyData.depth]
    omega
section
variable {Pg : Prg} {k : Nat} {m m' : Mem} {Q : D × Mem → Prop}
theorem f_farP (h : Has Pg "_law_drawn" Cm._law_drawn_d) (hf : Has Pg "_law_far" Cm._law_far_d) {s : Nat} {d : D} {P : Pr} (hm : StOk m s) (hd : PrR d P) (hw : ow d = true) (hP : okPr P = true)
    (q : ∀ d' P' m', PrR d' P' → ow d' = true → okPr P' = true → P'.map (fun f => (f.ps, f.k)) = P.map (fun f => (f.ps, f.k)) → StOk m' s → Fr0 s m m' → Q (d', m')) : W (callN Pg (k + 33) "_law_far" [.loc s, d] m) Q := by
  obtain ⟨h1, h2⟩ := okF_pr hP
  refine f_far h hf 31 (k := k) h2 h1 (okPr_shaped hP) hd.rep hw hm fun d' p' m' e1 e2 e3 e4 e5 e6 => ?_
  obtain ⟨P', rfl, g1, g2⟩ := far_pr hP e1
  exact q d' P' m' (tt_pr e2 e4) e3 g1 g2 e5 e6
end
end Mi
end
section
set_option Elab.async false
set_option linter.all false
set_option maxRecDepth 100000
set_option maxHeartbeats 0
namespace K01
open PySem Mi
def law_b0 : List S := [.asg (.var 12) (.call "run" [(.var 3), (.idx (.var 10) (.cst (.int 0))), (.idx (.var 10) (.cst (.int 1))), (.var 9)]),
  .ifs (.or (.not (.pcall true "_law_same" [(.var 12), (.pcall true "_law_run" [(.var 3), (.var 4), (.var 5), (.var 9)])])) (.cmp .ne (.var 10) (.lst true [(.var 4), (.var 5)]))) [.ret (.cst (.bl false))] [],
  .exp (.mt .append (.idx (.var 12) (.cst (.int 1))) [(.tup [])])]
def law_b1 : List S := [.asg (.var 3) (.call "_law_program" [(.var 1), (.cst (.int 4)), (.bin .add (.cst (.int 3)) (.call "_law_drawn" [(.var 1), (.cst (.int 3))]))]),
  .par [4, 5] [(.call "_law_args" [(.var 1), (.var 3)]), (.call "_law_answers" [(.var 1)])],
  .ifs (.cmp .eq (.var 2) (.cst (.int 1))) [.asg (.var 3) (.call "_law_far" [(.var 1), (.var 3)])] [],
  .ifs (.cmp .eq (.var 2) (.cst (.int 2))) [.asg (.var 6) (.tup [(.cst (.str "let")), (.cst (.str "x")), (.tup [(.cst (.str "sum")), (.cst (.str "a")), (.bin .sub (.call "_law_drawn" [(.var 1), (.cst (.int 199))]) (.cst (.int 99)))]), (.tup [(.cst (.str "tell")), (.cst (.str "x"))])]),
  .par [3, 4] [(.tup [(.tup [(.tup [(.tup [(.cst (.str "a")), (.cst (.str "number"))])]), (.cst (.str "number")), (.var 6)])]), (.lst true [(.call "_law_drawn" [(.var 1), (.cst (.int 9))])])]] [],
  .ifs (.cmp .eq (.var 2) (.cst (.int 0))) [.asg (.var 3) (.call "_law_loops" [(.var 1)]),
  .asg (.var 7) (.call "_law_drawn" [(.var 1), (.cst (.int 40))]),
  .asg (.var 4) (.lst true [(.ite (.cmp .eq (.idx (.idx (.idx (.idx (.var 3) (.cst (.int 0))) (.cst (.int 0))) (.cst (.int 0))) (.cst (.int 1))) (.cst (.str "number"))) (.var 7) (.bi .tuple true [(.lc true (.bin .sub (.bin .mod (.bin .mul (.var 8) (.cst (.int 7))) (.cst (.int 11))) (.cst (.int 3))) [8] (.var 8) (.rng1 (.var 7)) [] .nil)]))])] [],
  .asg (.var 9) (.idx (.lst true [(.cst (.int 40)), (.bin .add (.cst (.int 1)) (.call "_law_drawn" [(.var 1), (.cst (.int 30))]))]) (.call "_law_drawn" [(.var 1), (.cst (.int 2))])),
  .asg (.var 10) (.lst true [(.bi .list true [(.var 4)]), (.bi .list true [(.var 5)])]),
  .for_ (.var 11) (.rng1 (.cst (.int 2))) law_b0,
  .asg (.var 13) (.pcall true "_law_run" [(.var 3), (.var 4), (.var 5), (.cst (.int 100))]),
  .ifs (.and (.cmp .lt (.bi .len true [(.idx (.var 13) (.cst (.int 1)))]) (.cst (.int 50))) (.not (.pcall true "_law_same" [(.pcall true "run" [(.var 3), (.var 4), (.var 5), (.cst (.int 100))]), (.var 13)]))) [.ret (.cst (.bl false))] []]
/-- law: 0 _law_script 1 _law_state 2 _law_turn 3 _law_program_here 4 _law_args_here 5 _law_answers_here 6 _law_tree_here 7 _law_many 8 _law_k 9 _law_bound 10 _law_handed 11 _law_again 12 _law_found 13 _law_due -/
def law_b : List S := [.asg (.var 1) (.call "_law_start" [(.var 0)]),
  .for_ (.var 2) (.rng1 (.cst (.int 5))) law_b1,
  .ret (.cst (.bl true))]
def law_d : Df := .fn 1 14 law_b
def Pg0 : List (Str × Df) := [("law", law_d),
  ("_law_start", Cm._law_start_d),
  ("_law_program", Cm._law_program_d),
  ("_law_drawn", Cm._law_drawn_d),
  ("_law_args", Cm._law_args_d),
  ("_law_answers", Cm._law_answers_d),
  ("_law_far", Cm._law_far_d),
  ("_law_loops", Cm._law_loops_d),
  ("run", Cm.run_d),
  ("_law_same", Cm._law_same_d),
  ("_law_run", Cm._law_run_d),
  ("_law_tree", Cm._law_tree_d),
  ("need_program", Cm.need_program_d),
  ("need_args", Cm.need_args_d),
  ("is_items", Cm.is_items_d),
  ("is_whole", Cm.is_whole_d),
  ("Run", .cls),
  ("_law_call", Cm._law_call_d),
  ("_law_of", Cm._law_of_d),
  ("_law_deed", Cm._law_deed_d),
  ("_law_measure", Cm._law_measure_d),
  ("need_heads", Cm.need_heads_d),
  ("Checker", .cls),
  ("is_worth", Cm.is_worth_d),
  ("Run.__init__", Cm.RunD_initD_d)]
def Pg1 : List (Str × Df) := [("Run.call", Cm.Run_call_d),
  ("Run.deed", Cm.Run_deed_d),
  ("_law_did", Cm._law_did_d),
  ("_law_worth", Cm._law_worth_d),
  ("_law_size", Cm._law_size_d),
  ("is_head", Cm.is_head_d),
  ("Checker.__init__", Cm.CheckerD_initD_d),
  ("Checker.need", Cm.Checker_need_d),
  ("Checker.look", Cm.Checker_look_d),
  ("Checker.kind_of", Cm.Checker_kind_of_d),
  ("Checker.called", Cm.Checker_called_d),
  ("worth_of", Cm.worth_of_d),
  ("size_of", Cm.size_of_d),
  ("is_param", Cm.is_param_d),
  ("is_kind", Cm.is_kind_d),
  ("is_name", Cm.is_name_d),
  ("is_measure", Cm.is_measure_d),
  ("is_step", Cm.is_step_d),
  ("are_of", Cm.are_of_d)]
def Pg : List (Str × Df) := Pg0 ++ Pg1
end K01
end
section
set_option linter.all false
set_option Elab.async false
set_option maxRecDepth 100000
set_option maxHeartbeats 4000000
/-! K01P1: runs are told alike. -/
namespace K01
open PySem Mi Pm
structure LawP (Pg : Prg) : Prop where
  runs : RunsP Pg
  go : GoP Pg
  draw : DrawP Pg
  same : Has Pg "_law_same" Cm._law_same_d
  start : Has Pg "_law_start" Cm._law_start_d
  lrun : Has Pg "_law_run" Cm._law_run_d
  args : Has Pg "_law_args" Cm._law_args_d
  answers : Has Pg "_law_answers" Cm._law_answers_d
  loops : Has Pg "_law_loops" Cm._law_loops_d
  far : Has Pg "_law_far" Cm._law_far_d
/-- a list, as a value or as a cell -/
def LsD (m : Mem) (d : D) (ds : List D) : Prop := d = .nd true .lst ds ∨ ∃ n, n ≠ 0 ∧ d = .loc n ∧ m[n]? = some ⟨.lst, ds⟩
/-- a case that is looked at -/
structure Cs (m : Mem) (pd ad : D) (is : List Int) (P : Pr) (fu : Fu) (ads : List D) (as : List Vl) : Prop where
  hP : okPr P = true
  hpd : PrR pd P
  how : ow pd = true
  hf : P[0]? = some fu
  hads : VlDs ads as
  hak : as.map Vl.k = fu.ps.map (·.2)
  hok : ∀ v ∈ as, argOk v
  his : ∀ x ∈ is, -1000000 ≤ x ∧ x ≤ 1000000
  hil : is.length ≤ 1000
  had : LsD m ad ads
section
variable {Pg : Prg} {k : Nat} {m m' : Mem} {Q : D × Mem → Prop}
theorem LsD.list {d : D} {ds : List D} (h : LsD m d ds) : W (bi .list true m [d]) Q ↔ Q (.nd true .lst ds, m) := by
  rcases h with rfl | ⟨n, _, rfl, h⟩
  · exact W_listL
  · simp [bi, biList, asN, view, h]
theorem LsD.lend {d : D} {ds : List D} (h : LsD m d ds) (hl : lfs ds = true) : ∃ o, snap false true 4 m d = some (.nd o .lst ds) := by
  rcases h with rfl | ⟨n, _, rfl, h⟩
  · exact ⟨true, lend_lf 4 (by simpa [lf] using hl)⟩
  · exact ⟨false, lend_loc h hl⟩
theorem LsD.fr {d : D} {ds : List D} (h : LsD m d ds) (hf : Frs [0] m m') : LsD m' d ds := by
  rcases h with rfl | ⟨n, hn, rfl, h⟩
  · exact .inl rfl
  · exact .inr ⟨n, hn, rfl, hf.cell h (by simpa using hn)⟩
theorem Cs.fr {pd ad : D} {is : List Int} {P : Pr} {fu : Fu} {ads : List D} {as : List Vl} (h : Cs m pd ad is P fu ads as) (hf : Frs [0] m m') : Cs m' pd ad is P fu ads as := ⟨h.hP, h.hpd, h.how, h.hf, h.hads, h.hak, h.hok, h.his, h.hil, h.had.fr hf⟩
theorem Cs.lend {pd ad : D} {is : List Int} {P : Pr} {fu : Fu} {ads : List D} {as : List Vl} (h : Cs m pd ad is P fu ads as) (b : Int) : ∃ o, lends m [pd, ad, .nd true .lst (is.map D.int), .int b] = some [pd, .nd o .lst ads, .nd true .lst (is.map D.int), .int b] := by
  obtain ⟨o, ho⟩ := h.had.lend (lfs_of_ows h.hads.ows)
  exact ⟨o, snaps_cons (lend_lf 4 h.hpd.rep.lf) (snaps_cons ho (snaps_cons (lend_lf 4 (by simpa [lf] using lfs_ints is)) (snaps_cons (lend_lf 4 rfl) snaps_nil)))⟩
theorem frz_res {d : D} {c : Nat} {ds : List D} (hd : ow d = true) (hc : m[c]? = some ⟨.lst, ds⟩) (ho : ows ds = true) : snap true false 4 m (T' true true [d, .loc c]) = some (T' true true [d, .nd true .lst ds]) := by
  refine frz_T' (snaps_cons (frz_ow 4 hd) (snaps_cons ?_ snaps_nil))
  rw [snap, hc]
  simp only [frzs_ow 3 ho, Option.map_some]
theorem lend_res {d e : D} {c : Nat} {ds : List D} (hd : lf d = true) (hc : m[c]? = some ⟨.lst, ds⟩) (ho : lfs ds = true) (he : lf e = true) : lends m [T' true true [d, .loc c], e] = some [T' true true [d, .nd false .lst ds], e] := by
  exact snaps_cons (snap_T' (snaps_cons (lend_lf 4 hd) (snaps_cons (lend_loc hc ho) snaps_nil))) (snaps_cons (lend_lf 4 he) snaps_nil)
/-- what is handed in stays -/
theorem ne_args {pd ad : D} {is : List Int} {P : Pr} {fu : Fu} {ads : List D} {as : List Vl} {B : Bool → Prop} (h : Cs m pd ad is P fu ads as) : W (cmpB .ne m (.nd true .lst [.nd true .lst ads, .nd true .lst (is.map D.int)]) (.nd true .lst [ad, .nd true .lst (is.map D.int)])) B ↔ B false := by
  obtain ⟨o, ho⟩ := h.had.lend (lfs_of_ows h.hads.ows)
  have hlen : ∀ v ∈ as, v.len ≤ 40 := fun v hv => by
    have := h.hok v hv
    cases v with
    | int i => simp [Vl.len, Vl.l]
    | lst is => exact this.2
  have hfine := fun v hv => vl_fine (hlen v hv) (by omega)
  have hv : val m (.nd true .lst [ad, .nd true .lst (is.map D.int)]) = some (.nd true .lst [.nd o .lst ads, .nd true .lst (is.map D.int)]) ∨ (val m (.nd true .lst [ad, .nd true .lst (is.map D.int)]) = some (.nd true .lst [ad, .nd true .lst (is.map D.int)]) ∧ ad = .nd true .lst ads) := by
    rcases h.had with rfl | ⟨n, _, rfl, hn⟩
    · right
      exact ⟨val_lf (by simp [lf, lfs, lfs_of_ows h.hads.ows, lfs_ints]), rfl⟩
    · left
      unfold val
      rw [if_neg (by simp [lf, lfs])]
      exact snap_nd (c := true) (snaps_cons ho (snaps_cons (lend_lf 4 (by simpa [lf] using lfs_ints is)) snaps_nil))
  have c1 : PyData.canLayAll0 (as.map Vl.p) = true := canLay_map Vl.p as fun v hv => (hfine v hv).2.1
  have c2 : PyData.canLayAll0 (is.map PyData.int) = true := canLay_map PyData.int is fun x hx => by simp [PyData.canLay0]
  have d1 := depth_map Vl.p 1 as fun v hv => (hfine v hv).2.2
  have d2 := depth_map PyData.int 0 is fun x _ => by simp [PyData.depth]
  have hc : (PyData.list [.list (as.map Vl.p), .list (is.map PyData.int)]).canLay0 = true := by simp [PyData.canLay0, PyData.canLayAll0, c1, c2]
  have hsh : SeqAt.shaped (.list [.list (as.map Vl.p), .list (is.map PyData.int)]) = true := by
    unfold SeqAt.shaped
    rw [hc]
    simp [PyData.depth, PyData.depthAll]
    omega
  have hrep : ∀ o, Rep (.nd true .lst [.nd o .lst ads, .nd true .lst (is.map D.int)]) (.list [.list (as.map Vl.p), .list (is.map PyData.int)]) := fun o => by simp [h.hads.reps, reps_ints]
  have key : ∀ o, cmpEq m (.nd true .lst [.nd true .lst ads, .nd true .lst (is.map D.int)]) (.nd true .lst [.nd o .lst ads, .nd true .lst (is.map D.int)]) = .ok true := fun o => by
    rw [cmpEq_rep (hrep true) (hrep o) hsh hsh, SeqAt.eqv_refl _ hc]
  have e : cmpEq m (.nd true .lst [.nd true .lst ads, .nd true .lst (is.map D.int)]) (.nd true .lst [ad, .nd true .lst (is.map D.int)]) = .ok true := by
    rcases hv with hv | ⟨hv, rfl⟩
    · rw [← key o]
      unfold cmpEq
      rw [hv, val_lf (hrep o).lf]
    · exact key true
  unfold cmpB
  rw [e]
  simp [R.bind]
theorem same_res (Z : LawP Pg) {P : Pr} {fu : Fu} {as : List Vl} {is : List Int} {most K : Nat} {d d2 : D} {ds ds2 : List D} {o o2 : Bool} {m0 : Mem} (hP : okPr P = true) (hf : P[0]? = some fu) (hak : as.map Vl.k = fu.ps.map (·.2)) (hok : ∀ v ∈ as, argOk v) (hm : most ≤ 300) (hK : 6 ≤ K)
    (h1 : Rep d (rsP (runP P most as is).1)) (h2 : ClDs ds (runP P most as is).2.calls) (g1 : Rep d2 (rsP (runP P most as is).1)) (g2 : ClDs ds2 (runP P most as is).2.calls) :
    W (callN Pg K "_law_same" [T' true true [d, .nd o .lst ds], T' true true [d2, .nd o2 .lst ds2]] m0) Q ↔ Q (.bl true, m0) := by
  obtain ⟨f1, f2, f3, f4⟩ := res_fine (is := is) hP hf hak hok hm
  have := f_same Z.same 5 (k := K - 6) (p := resP (runP P most as is)) (a := T' true true [d, .nd o .lst ds]) (b := T' true true [d2, .nd o2 .lst ds2]) (m := m0) f3 f1 f2 (by simp [resP, h1, h2.1]) (by simp [resP, g1, g2.1])
  rw [show K - 6 + 5 + 1 = K by omega] at this
  exact W.iff this
theorem t_b0 (Z : LawP Pg) {K b : Nat} {x0 x2 x6 x7 x8 x11 x12 x13 : Option D} {pd ad : D} {is : List Int} {P : Pr} {fu : Fu} {ads : List D} {as : List Vl} {B : Fl × Mem → Prop} (C : Cs m pd ad is P fu ads as) (hb1 : 1 ≤ b) (hb : b ≤ 100) (hK : 222 ≤ K)
    (q : ∀ x12 m', Frs [] m m' → B (.nx [x0, some (.loc 0), x2, some pd, some ad, some (.nd true .lst (is.map D.int)), x6, x7, x8, some (.int b), some (.nd true .lst [.nd true .lst ads, .nd true .lst (is.map D.int)]), x11, x12, x13], m')) :
    W (evSs (callN Pg K) law_b0 [x0, some (.loc 0), x2, some pd, some ad, some (.nd true .lst (is.map D.int)), x6, x7, x8, some (.int b), some (.nd true .lst [.nd true .lst ads, .nd true .lst (is.map D.int)]), x11, x12, x13] m) B := by
  simp [law_b0]
  refine f_run Z.runs C.hP C.hpd C.hf C.hads C.hak C.hok C.his C.hil hb1 (by omega) (by omega) (by omega) fun d c ds m1 h1 h2 h3 h4 h5 h6 => ?_
  have C1 := C.fr (m' := m1) (h6.wk (by simp))
  obtain ⟨o, hl⟩ := C1.lend b
  obtain ⟨f1, f2, f3, f4⟩ := res_fine (is := is) C.hP C.hf C.hak C.hok (show b ≤ 300 by omega)
  have hlen : ds.length = (runP P b as is).2.calls.length := by simpa using h4.1.length
  have hlt : ds.length < most := Nat.lt_of_lt_of_le (show ds.length < 100000 by omega) most_big
  simp [hl, W_pc]
  refine f_lrun Z.go Z.lrun C.hP C.hpd C.hf C.hads C.hak C.hok (show b ≤ 300 by omega) (by omega) fun d2 c2 ds2 m2 g1 g2 g3 g4 g5 g6 => ?_
  simp [frz_res g2 g3 g4.2, lend_res (lf_of_ow h2) h3 (lfs_of_ows h4.2) (show lf (T' true true [d2, .nd true .lst ds2]) = true by simp [lf, lfs, lf_of_ow g2, lfs_of_ows g4.2]), W_pc, same_res Z C.hP C.hf C.hak C.hok (show b ≤ 300 by omega) (show 6 ≤ K by omega) h1 h4 g1 g4, ne_args C1, mtOk_loc h3 (q := .append) (by decide), W_app h3 hlt]
  exact q _ _ (h6.setN h5)
end
end K01
end
section
set_option linter.all false
set_option Elab.async false
set_option maxRecDepth 100000
set_option maxHeartbeats 4000000
/-! K01P2: a turn of the law. -/
namespace K01
open PySem Mi Pm
section
variable {Pg : Prg} {k : Nat} {m m' : Mem} {Q : D × Mem → Prop}
theorem fr1_frs {s : Nat} (h : Fr1 s m m') : Frs [s] m m' := ⟨h.len, fun n hn hs => h.at_ n hn (by simpa using hs)⟩
theorem fr0_frs {s : Nat} (h : Fr0 s m m') : Frs [s] m m' := fr1_frs h.one
theorem StOk.frs {s : Nat} (h : StOk m s) (hf : Frs [] m m') : StOk m' s := by
  obtain ⟨ns, i, x, l, h1, h2⟩ := h
  exact ⟨ns, i, x, l, hf.cell h1 (by simp), h2⟩
theorem bound_at {v w : Nat} (hv : v < 30) (hw : w < 2) : ∃ b : Nat, 1 ≤ b ∧ b ≤ 100 ∧ L2.atI [D.int 40, D.int (1 + (v : Int))] (w : Int) = some (.int b) := by
  match w, hw with
  | 0, _ => exact ⟨40, by omega, by omega, rfl⟩
  | 1, _ => exact ⟨1 + v, by omega, by omega, by
      have : L2.atI [D.int 40, D.int (1 + (v : Int))] ((1 : Nat) : Int) = some (.int (1 + (v : Int))) := rfl
      rw [this]; simp⟩
def law_t : List S := law_b1.drop 5
def law_p : List S := law_b1.take 5
theorem law_b1_eq : law_b1 = law_p ++ law_t := rfl
theorem t_tail (Z : LawP Pg) {K : Nat} {x0 x2 x6 x7 x8 x9 x10 x11 x12 x13 : Option D} {pd ad : D} {is : List Int} {P : Pr} {fu : Fu} {ads : List D} {as : List Vl} {B : Fl × Mem → Prop} (C : Cs m pd ad is P fu ads as) (hst : StOk m 0) (hK : 222 ≤ K)
    (q : ∀ y9 y10 y11 y12 y13 m', StOk m' 0 → B (.nx [x0, some (.loc 0), x2, some pd, some ad, some (.nd true .lst (is.map D.int)), x6, x7, x8, y9, y10, y11, y12, y13], m')) :
    W (evSs (callN Pg K) law_t [x0, some (.loc 0), x2, some pd, some ad, some (.nd true .lst (is.map D.int)), x6, x7, x8, x9, x10, x11, x12, x13] m) B := by
  obtain ⟨j, rfl⟩ : ∃ j, K = j + 1 := ⟨K - 1, by omega⟩
  simp [law_t, law_b1]
  refine d_drawn (k := j) Z.draw.drawn hst (by omega) (by omega) fun v m1 hv hm1 f1 => ?_
  simp
  refine d_drawn (k := j) Z.draw.drawn hm1 (by omega) (by omega) fun w m2 hw hm2 f2 => ?_
  obtain ⟨b, hb1, hb2, hat⟩ := bound_at (show v < 30 by omega) (show w < 2 by omega)
  have C2 := C.fr (fr0_frs (f1.trans f2))
  have hs2 : small 2 = true := by decide
  simp [hat, C2.had.list, W_listL, hs2]
  refine W_forS (fun i ρ m' => ∃ y11 y12, ρ = [x0, some (.loc 0), x2, some pd, some ad, some (.nd true .lst (is.map D.int)), x6, x7, x8, some (.int b), some (.nd true .lst [.nd true .lst ads, .nd true .lst (is.map D.int)]), y11, y12, x13] ∧ Frs [] m2 m') _ _ _ ⟨_, _, rfl, Frs.refl⟩ ?_ ?_
  · rintro i d ρ m3 hi ⟨y11, y12, rfl, hF⟩
    simp
    refine t_b0 Z (C2.fr (hF.wk (by simp))) hb1 hb2 hK fun y12 m4 hF2 => ?_
    simp
    exact Opq.in ⟨_, _, rfl, hF.trans hF2⟩
  · rintro ρ m3 ⟨y11, y12, rfl, hF⟩
    have C3 := C2.fr (hF.wk (by simp))
    have hst3 := StOk.frs hm2 hF
    obtain ⟨o, hl⟩ := C3.lend 100
    simp [hl, W_pc]
    refine f_lrun (most := 100) Z.go Z.lrun C.hP C.hpd C.hf C.hads C.hak C.hok (by omega) (by omega) fun d2 c2 ds2 m4 g1 g2 g3 g4 g5 g6 => ?_
    simp [frz_res g2 g3 g4.2]
    refine Br.mk (fun hc => ?_) (fun hc => ?_)
    · simp [hl, W_pc]
      refine f_run (most := 100) Z.runs C.hP C.hpd C.hf C.hads C.hak C.hok C.his C.hil (by omega) (by omega) (by omega) (by omega) fun d c ds m5 h1 h2 h3 h4 h5 h6 => ?_
      have hl2 : lends m3 [T' true true [d, .nd true .lst ds], T' true true [d2, .nd true .lst ds2]] = some [T' true true [d, .nd true .lst ds], T' true true [d2, .nd true .lst ds2]] := lends_lf 4 (by simp [lf, lfs, lf_of_ow g2, lfs_of_ows g4.2, lf_of_ow h2, lfs_of_ows h4.2])
      simp [frz_res h2 h3 h4.2, hl2, W_pc, same_res (most := 100) Z C.hP C.hf C.hak C.hok (by omega) (show 6 ≤ j + 1 by omega) h1 h4 g1 g4]
      exact q _ _ _ _ _ _ hst3
    · simp
      exact q _ _ _ _ _ _ hst3
theorem one_ok (n : Int) (h1 : -99 ≤ n) (h2 : n ≤ 99) : okPr [⟨[("a", .nu)], .nu, .let_ "x" (.sum "a" n) (.tell "x")⟩] = true := by
  have e1 : isName "a" = true := by decide +kernel
  have e2 : isName "x" = true := by decide +kernel
  simp [okPr, okFu, okHd, okTr, kindOf, areOf, kgets, isStep, Tr.size, e1, e2, h1, h2]
/-- numbers told -/
theorem lc_seven {cal : Cal} {v : Nat} {x0 x1 x2 x3 x4 x5 x6 x7 x8 x9 x10 x11 x12 x13 : Option D} {B : Acc × Mem → Prop} (hv : v ≤ 1000) (q : ∀ is : List Int, is.length = v → (∀ x ∈ is, -3 ≤ x ∧ x ≤ 7) → B ((.lst, is.map D.int), m)) :
    W (goSt (lcT cal (.bin .sub (.bin .mod (.bin .mul (.var 8) (.cst (.int 7))) (.cst (.int 11))) (.cst (.int 3))) [8] (.var 8) [] .nil [x0, x1, x2, x3, x4, x5, x6, x7, x8, x9, x10, x11, x12, x13]) (rngD 0 v) (.lst, []) m) B := by
  refine W_goSt (fun j acc m' => ∃ is : List Int, acc = (.lst, is.map D.int) ∧ is.length = j ∧ (∀ x ∈ is, -3 ≤ x ∧ x ≤ 7) ∧ m' = m) (rngD 0 v) _ m 0 ⟨[], rfl, rfl, (by simp), rfl⟩ (fun j d acc m' hd ⟨is, ea, hk, hr, em⟩ => ?_) (fun acc m2 ⟨is, ea, hk, hr, em⟩ => ?_)
  · subst ea em
    obtain ⟨rfl, hj⟩ := rng_at hd
    have hpl : is.length < most := Nat.lt_of_lt_of_le (show is.length < 100000 by omega) most_big
    simp [wipe, putL, hpl]
    refine ⟨is ++ [(j : Int) * 7 % 11 - 3], by simp, by simp [hk], fun x hx => ?_⟩
    rcases List.mem_append.mp hx with hx | hx
    · exact hr x hx
    · have : x = (j : Int) * 7 % 11 - 3 := by simpa using hx
      omega
  · subst ea em
    rw [rngD_len] at hk
    exact q is (by omega) hr
theorem t_pre (Z : LawP Pg) {K i : Nat} {x0 x3 x4 x5 x6 x7 x8 x9 x10 x11 x12 x13 : Option D} {B : Fl × Mem → Prop} (hst : StOk m 0) (hi : i < 5) (hK : 222 ≤ K)
    (q : ∀ pd ad is P fu ads as y6 y7 y8 m', Cs m' pd ad is P fu ads as → StOk m' 0 → B (.nx [x0, some (.loc 0), some (.int i), some pd, some ad, some (.nd true .lst (is.map D.int)), y6, y7, y8, x9, x10, x11, x12, x13], m')) :
    W (evSs (callN Pg K) law_p [x0, some (.loc 0), some (.int i), x3, x4, x5, x6, x7, x8, x9, x10, x11, x12, x13] m) B := by
  obtain ⟨j, rfl⟩ : ∃ j, K = j + 33 := ⟨K - 33, by omega⟩
  simp [law_p, law_b1]
  refine d_drawn (k := j + 32) Z.draw.drawn hst (by omega) (by omega) fun v m1 hv hm1 f1 => ?_
  simp
  refine f_program (k := j + 24) (n := 5) (many := 4) (deep := 3 + v) Z.draw hm1 (by omega) (by omega) (by omega) (by omega) fun pd P m2 p1 p2 p3 p4 hm2 f2 => ?_
  have hP1 : 1 ≤ P.length := by
    simp only [okPr, Bool.and_eq_true, decide_eq_true_eq] at p3
    omega
  have hf : P[0]? = some P[0] := List.getElem?_eq_getElem (by omega)
  generalize P[0] = fu at hf
  have hf2 := p4 fu (List.mem_of_getElem? hf)
  simp
  refine f_args (k := j + 31) Z.draw.drawn Z.args hm2 p1 hf (by omega) fun ads as m3 a1 a2 a3 a4 hm3 f3 => ?_
  simp
  refine f_answers (k := j + 31) Z.draw.drawn Z.answers hm3 fun is m4 i1 i2 hm4 f4 => ?_
  have hne : m2.length ≠ 0 := by have := hm2.lt; omega
  have C : Cs m4 pd (.loc m2.length) is P fu ads as := ⟨p3, p1, p2, hf, a2, a3, a4, fun x hx => by have := i2 x hx; omega, by omega, .inr ⟨_, hne, rfl, by rw [f4.at_ _ hne]; exact a1⟩⟩
  have hcase : i = 0 ∨ i = 1 ∨ i = 2 ∨ (i = 3 ∨ i = 4) := by omega
  rcases hcase with rfl | rfl | rfl | h34
  · simp
    refine f_loops (k := j + 31) Z.draw.drawn Z.loops hm4 fun pd' P' fu' x κ m5 b1 b2 b3 b4 b5 hm5 f5 => ?_
    simp
    refine d_drawn (k := j + 32) Z.draw.drawn hm5 (by omega) (by omega) fun w m6 hw hm6 f6 => ?_
    obtain ⟨o0, b0, pds, e0, hpds⟩ := id b1
    obtain ⟨fd, hfd1, o1, b1', o2, ds1, dt, rfl, hr1, hdt⟩ := hpds.getP b4
    have hat : L2.atI pds 0 = some (T' o1 b1' [T' o2 true ds1, .str fu'.k.s, dt]) := by
      have := atI_nat (l := pds) (i := 0)
      rw [hfd1] at this
      exact this
    rw [b5] at hr1
    simp only [List.map_cons, List.map_nil] at hr1
    obtain ⟨e, es, rfl, r1, r2⟩ := Reps_cons.mp hr1
    rw [Reps_nil] at r2
    subst r2
    unfold parP at r1
    obtain ⟨o3, b3', e1, e2, rfl, r1, r2⟩ := r1.t2
    rw [Rep_str] at r1 r2
    subst r1 r2
    cases κ with
    | nu =>
      have C2 : Cs m6 pd' (.nd true .lst [.int w]) is P' fu' [.int w] [.int w] := ⟨b3, b1, b2, b4, ⟨rfl, trivial⟩, by simp [b5, Vl.k], (by simp only [List.mem_singleton, forall_eq, argOk]; omega), C.his, C.hil, .inl rfl⟩
      subst e0
      simp [hat, Kn.s]
      exact q _ _ _ _ _ _ _ _ _ _ m6 C2 hm6
    | li =>
      subst e0
      simp [hat, Kn.s, small_nat (show w ≤ 1000000 by omega)]
      refine lc_seven (by omega) fun js j1 j2 => ?_
      have C2 : Cs m6 (T' o0 b0 pds) (.nd true .lst [T' true true (js.map D.int)]) is P' fu' [T' true true (js.map D.int)] [.lst js] := ⟨b3, b1, b2, b4, ⟨⟨_, rfl⟩, trivial⟩, by simp [b5, Vl.k], (by simp only [List.mem_singleton, forall_eq, argOk]; exact ⟨fun i hi => by have := j2 i hi; omega, by omega⟩), C.his, C.hil, .inl rfl⟩
      simp
      exact q _ _ _ _ _ _ _ _ _ _ m6 C2 hm6
  · simp
    refine f_farP (k := j) Z.draw.drawn Z.far hm4 p1 p2 p3 fun pd' P' m5 b1 b2 b3 b4 hm5 f5 => ?_
    simp
    have hl : P'.length = P.length := by simpa using congrArg List.length b4
    have hf' : P'[0]? = some P'[0] := List.getElem?_eq_getElem (by omega)
    generalize P'[0] = fu' at hf'
    have hps : fu'.ps = fu.ps := by
      have := congrArg (·[0]?) b4
      simp [hf', hf] at this
      exact this.1
    have C2 : Cs m5 pd' (.loc m2.length) is P' fu' ads as := ⟨b3, b1, b2, hf', a2, by rw [hps]; exact a3, a4, C.his, C.hil, C.had.fr (fr0_frs f5)⟩
    exact q _ _ _ _ _ _ _ _ _ _ m5 C2 hm5
  · simp
    refine d_drawn (k := j + 32) Z.draw.drawn hm4 (by omega) (by omega) fun w m5 hw hm5 f5 => ?_
    simp
    refine d_drawn (k := j + 32) Z.draw.drawn hm5 (by omega) (by omega) fun u m6 hu hm6 f6 => ?_
    simp
    refine q _ _ _ [⟨[("a", .nu)], .nu, .let_ "x" (.sum "a" ((w : Int) - 99)) (.tell "x")⟩] _ [.int u] [.int u] _ _ _ m6 ⟨one_ok _ (by omega) (by omega), ⟨_, _, _, rfl, ⟨_, _, _, _, _, rfl, by simp [parP, Kn.s], by simp [Tr.p, De.p]⟩, trivial⟩, by simp [ow, ows], rfl, ⟨rfl, trivial⟩, by simp [Vl.k], (by simp only [List.mem_singleton, forall_eq, argOk]; omega), C.his, C.hil, .inl rfl⟩ hm6
  · have n0 : ¬ (i : Int) = 0 := by omega
    have n1 : ¬ (i : Int) = 1 := by omega
    have n2 : ¬ (i : Int) = 2 := by omega
    have n0' : ¬ i = 0 := by omega
    simp [n0, n1, n2, n0']
    exact q _ _ _ _ _ _ _ _ _ _ m4 C hm4
theorem t_law (Z : LawP Pg) (hlaw : Has Pg "law" law_d) (ns : List Int) : W (callN Pg (k + 223) "law" [.nd false .scr (ns.map D.int)] []) fun r => r.1 = .bl true := by
  rw [show k + 223 = (k + 222) + 1 from rfl, W_callN hlaw]
  simp [law_b, out]
  refine (f_start (k := k + 221) Z.start).mono fun r ⟨x, e⟩ => ?_
  subst e
  have hs5 : small 5 = true := by decide
  simp [hs5]
  refine W_forS (fun j ρ m' => (∃ y2 y3 y4 y5 y6 y7 y8 y9 y10 y11 y12 y13, ρ = [some (.nd false .scr (ns.map D.int)), some (.loc 0), y2, y3, y4, y5, y6, y7, y8, y9, y10, y11, y12, y13]) ∧ StOk m' 0) (rngD 0 5) _ _ ⟨⟨_, _, _, _, _, _, _, _, _, _, _, _, rfl⟩, ns, 0, x, 0, rfl, by omega⟩ (fun i d ρ m' hi ⟨⟨y2, y3, y4, y5, y6, y7, y8, y9, y10, y11, y12, y13, hρ⟩, hst⟩ => ?_) (fun ρ m' ⟨⟨y2, y3, y4, y5, y6, y7, y8, y9, y10, y11, y12, y13, hρ⟩, hst⟩ => ?_)
  · subst hρ
    obtain ⟨rfl, hi5⟩ := rng_at hi
    simp only [W_forT, W_tvar, List.set_cons_succ, List.set_cons_zero]
    rw [law_b1_eq, W_ssApp]
    refine t_pre Z hst (by omega) (by omega) fun pd ad is P fu ads as z6 z7 z8 m2 C h2 => ?_
    rw [Then_nx]
    refine t_tail Z C h2 (by omega) fun z9 z10 z11 z12 z13 m3 h3 => ?_
    simp
    exact .in ⟨⟨_, _, _, _, _, _, _, _, _, _, _, _, rfl⟩, h3⟩
  · subst hρ
    simp
end
theorem all : LawP Pg where
  runs := ⟨⟨by rfl, by rfl, by rfl, by rfl, by rfl, by rfl, by rfl, by rfl, by rfl, by rfl, by rfl, by rfl, by rfl, by rfl, by rfl, by rfl⟩, ⟨by rfl, by rfl, by rfl, by rfl⟩, ⟨by rfl, by rfl, by rfl, by rfl⟩, by rfl, by rfl, by rfl⟩
  go := ⟨by rfl, by rfl, by rfl, by rfl⟩
  draw := ⟨by rfl, by rfl, by rfl, by rfl, by rfl, by rfl⟩
  same := by rfl
  start := by rfl
  lrun := by rfl
  args := by rfl
  answers := by rfl
  loops := by rfl
  far := by rfl
theorem law_ok (ns : List Int) : ∃ m', callN Pg 223 "law" [.nd false .scr (ns.map D.int)] [] = .ok (.bl true, m') := by
  obtain ⟨⟨d, m'⟩, e, h⟩ := t_law (k := 0) all (show Has Pg "law" law_d by rfl) ns
  have h : d = .bl true := h
  subst h
  exact ⟨m', e⟩
end K01
end
section
set_option Elab.async false
set_option linter.all false
set_option maxRecDepth 100000
set_option maxHeartbeats 0
namespace K01
open PySem PySem.Spec PyProof.Rows Mi L2
def top (i : Nat) : Stmt := PySem.Challenge.pw_claimsieve_k01_runs_by_own_going.main.body.getD i (.Pass ⟨0, 0, 0, 0⟩)
def clsS : Stmt → Nat → Stmt
  | .ClassDef _ _ _ b _ _ _ _ _ _ _, j => b.getD j (.Pass ⟨0, 0, 0, 0⟩)
  | s, _ => s
def law_i : DefI := ⟨⟨("law", none), "law", "law", defArgs (top 59), defBody (top 59), defScope (top 59), [], []⟩, "law", ["_law_script"], ["_law_script", "_law_state", "_law_turn", "_law_program_here", "_law_args_here", "_law_answers_here", "_law_tree_here", "_law_many", "_law_k", "_law_bound", "_law_handed", "_law_again", "_law_found", "_law_due"], 1⟩
def _law_start_i : DefI := ⟨⟨("_law_start", none), "_law_start", "_law_start", defArgs (top 42), defBody (top 42), defScope (top 42), [], []⟩, "_law_start", ["_law_script"], ["_law_script", "_law_mixed", "_law_cell"], 1⟩
def _law_program_i : DefI := ⟨⟨("_law_program", none), "_law_program", "_law_program", defArgs (top 49), defBody (top 49), defScope (top 49), [], []⟩, "_law_program", ["_law_state", "_law_many", "_law_deep"], ["_law_state", "_law_many", "_law_deep", "_law_heads", "_law_number", "_law_kinds", "_law_k", "_law_params", "_law_head"], 3⟩
def _law_drawn_i : DefI := ⟨⟨("_law_drawn", none), "_law_drawn", "_law_drawn", defArgs (top 43), defBody (top 43), defScope (top 43), [], []⟩, "_law_drawn", ["_law_state", "_law_many"], ["_law_state", "_law_many", "_law_found", "_law_cell"], 2⟩
def _law_args_i : DefI := ⟨⟨("_law_args", none), "_law_args", "_law_args", defArgs (top 56), defBody (top 56), defScope (top 56), [], []⟩, "_law_args", ["_law_state", "_law_program_here"], ["_law_state", "_law_program_here", "_law_found", "_law_name", "_law_kind", "_law_items", "_law_k"], 2⟩
def _law_answers_i : DefI := ⟨⟨("_law_answers", none), "_law_answers", "_law_answers", defArgs (top 57), defBody (top 57), defScope (top 57), [], []⟩, "_law_answers", ["_law_state"], ["_law_state", "_law_k"], 1⟩
def _law_far_i : DefI := ⟨⟨("_law_far", none), "_law_far", "_law_far", defArgs (top 58), defBody (top 58), defScope (top 58), [], []⟩, "_law_far", ["_law_state", "_law_thing"], ["_law_state", "_law_thing", "_law_part"], 2⟩
def _law_loops_i : DefI := ⟨⟨("_law_loops", none), "_law_loops", "_law_loops", defArgs (top 50), defBody (top 50), defScope (top 50), [], []⟩, "_law_loops", ["_law_state"], ["_law_state", "_law_n", "_law_m", "_law_down", "_law_range_of", "_law_go", "_law_begun", "_law_over", "_law_copy", "_law_copies", "_law_least", "_law_leasts"], 1⟩
def run_i : DefI := ⟨⟨("run", none), "run", "run", defArgs (top 40), defBody (top 40), defScope (top 40), [], [("most", .int 100)]⟩, "run", ["program", "args", "answers", "most"], ["program", "args", "answers", "most", "one", "worth", "why"], 3⟩
def _law_same_i : DefI := ⟨⟨("_law_same", none), "_law_same", "_law_same", defArgs (top 44), defBody (top 44), defScope (top 44), [], []⟩, "_law_same", ["_law_found", "_law_due"], ["_law_found", "_law_due", "_law_k", "_law_alike"], 2⟩
def _law_run_i : DefI := ⟨⟨("_law_run", none), "_law_run", "_law_run", defArgs (top 55), defBody (top 55), defScope (top 55), [], []⟩, "_law_run", ["_law_program_here", "_law_args_here", "_law_answers_here", "_law_bound"], ["_law_program_here", "_law_args_here", "_law_answers_here", "_law_bound", "_law_r", "_law_worth_here"], 4⟩
def _law_tree_i : DefI := ⟨⟨("_law_tree", none), "_law_tree", "_law_tree", defArgs (top 48), defBody (top 48), defScope (top 48), [], []⟩, "_law_tree", ["_law_state", "_law_heads", "_law_kind", "_law_known", "_law_deep"], ["_law_state", "_law_heads", "_law_kind", "_law_known", "_law_deep", "_law_some", "_law_name", "_law_way", "_law_deed_here", "_law_sort", "_law_head", "_law_trees", "_law_k"], 5⟩
def need_program_i : DefI := ⟨⟨("need_program", none), "need_program", "need_program", defArgs (top 28), defBody (top 28), defScope (top 28), [], []⟩, "need_program", ["program"], ["program", "number", "params", "kind", "tree"], 1⟩
def need_args_i : DefI := ⟨⟨("need_args", none), "need_args", "need_args", defArgs (top 37), defBody (top 37), defScope (top 37), [], []⟩, "need_args", ["program", "args"], ["program", "args", "params", "name", "kind", "arg"], 2⟩
def is_items_i : DefI := ⟨⟨("is_items", none), "is_items", "is_items", defArgs (top 36), defBody (top 36), defScope (top 36), [], []⟩, "is_items", ["thing", "most"], ["thing", "most", "one"], 2⟩
def is_whole_i : DefI := ⟨⟨("is_whole", none), "is_whole", "is_whole", defArgs (top 18), defBody (top 18), defScope (top 18), [], []⟩, "is_whole", ["thing", "low", "high"], ["thing", "low", "high"], 3⟩
def _law_call_i : DefI := ⟨⟨("_law_call", none), "_law_call", "_law_call", defArgs (top 54), defBody (top 54), defScope (top 54), [], []⟩, "_law_call", ["_law_r", "_law_number", "_law_args_here"], ["_law_r", "_law_number", "_law_args_here", "_law_at", "_law_params", "_law_kind", "_law_tree_here", "_law_known", "_law_k", "_law_place", "_law_more"], 3⟩
def _law_of_i : DefI := ⟨⟨("_law_of", none), "_law_of", "_law_of", defArgs (top 45), defBody (top 45), defScope (top 45), [], []⟩, "_law_of", ["_law_known", "_law_kind"], ["_law_known", "_law_kind", "_law_name", "_law_sort"], 2⟩
def _law_deed_i : DefI := ⟨⟨("_law_deed", none), "_law_deed", "_law_deed", defArgs (top 47), defBody (top 47), defScope (top 47), [], []⟩, "_law_deed", ["_law_state", "_law_heads", "_law_known"], ["_law_state", "_law_heads", "_law_known", "_law_those", "_law_lists", "_law_n", "_law_some", "_law_name", "_law_items", "_law_number", "_law_names", "_law_kind"], 3⟩
def _law_measure_i : DefI := ⟨⟨("_law_measure", none), "_law_measure", "_law_measure", defArgs (top 46), defBody (top 46), defScope (top 46), [], []⟩, "_law_measure", ["_law_state", "_law_known"], ["_law_state", "_law_known", "_law_some", "_law_name"], 2⟩
def need_heads_i : DefI := ⟨⟨("need_heads", none), "need_heads", "need_heads", defArgs (top 24), defBody (top 24), defScope (top 24), [], []⟩, "need_heads", ["program"], ["program", "number", "function"], 1⟩
def is_worth_i : DefI := ⟨⟨("is_worth", none), "is_worth", "is_worth", defArgs (top 35), defBody (top 35), defScope (top 35), [], []⟩, "is_worth", ["thing"], ["thing"], 1⟩
def RunD_initD_i : DefI := ⟨⟨("Run", some "__init__"), "__init__", "Run.__init__", defArgs (clsS (top 38) 0), defBody (clsS (top 38) 0), defScope (clsS (top 38) 0), [], []⟩, "Run.__init__", ["self", "program", "answers", "most"], ["self", "program", "answers", "most"], 4⟩
def Run_call_i : DefI := ⟨⟨("Run", some "call"), "call", "Run.call", defArgs (clsS (top 38) 1), defBody (clsS (top 38) 1), defScope (clsS (top 38) 1), [], []⟩, "Run.call", ["self", "number", "args"], ["self", "number", "args", "at", "params", "kind", "tree", "known", "name", "sort", "arg", "place", "after", "why"], 3⟩
def Run_deed_i : DefI := ⟨⟨("Run", some "deed"), "deed", "Run.deed", defArgs (clsS (top 38) 2), defBody (clsS (top 38) 2), defScope (clsS (top 38) 2), [], []⟩, "Run.deed", ["self", "deed", "known", "spot"], ["self", "deed", "known", "spot", "word", "rest", "name", "first"], 4⟩
def _law_did_i : DefI := ⟨⟨("_law_did", none), "_law_did", "_law_did", defArgs (top 53), defBody (top 53), defScope (top 53), [], []⟩, "_law_did", ["_law_r", "_law_deed_here", "_law_known", "_law_spot"], ["_law_r", "_law_deed_here", "_law_known", "_law_spot", "_law_word", "_law_parts", "_law_part", "_law_name"], 4⟩
def _law_worth_i : DefI := ⟨⟨("_law_worth", none), "_law_worth", "_law_worth", defArgs (top 52), defBody (top 52), defScope (top 52), [], []⟩, "_law_worth", ["_law_measure_here", "_law_known"], ["_law_measure_here", "_law_known"], 2⟩
def _law_size_i : DefI := ⟨⟨("_law_size", none), "_law_size", "_law_size", defArgs (top 51), defBody (top 51), defScope (top 51), [], []⟩, "_law_size", ["_law_tree_here"], ["_law_tree_here", "_law_part"], 1⟩
def is_head_i : DefI := ⟨⟨("is_head", none), "is_head", "is_head", defArgs (top 23), defBody (top 23), defScope (top 23), [], []⟩, "is_head", ["function"], ["function", "params", "kind", "tree", "param", "name", "sort"], 1⟩
def CheckerD_initD_i : DefI := ⟨⟨("Checker", some "__init__"), "__init__", "Checker.__init__", defArgs (clsS (top 25) 0), defBody (clsS (top 25) 0), defScope (clsS (top 25) 0), [], []⟩, "Checker.__init__", ["self", "program", "number"], ["self", "program", "number"], 3⟩
def Checker_need_i : DefI := ⟨⟨("Checker", some "need"), "need", "Checker.need", defArgs (clsS (top 25) 1), defBody (clsS (top 25) 1), defScope (clsS (top 25) 1), [], []⟩, "Checker.need", ["self", "good", "place"], ["self", "good", "place"], 3⟩
def Checker_look_i : DefI := ⟨⟨("Checker", some "look"), "look", "Checker.look", defArgs (clsS (top 25) 2), defBody (clsS (top 25) 2), defScope (clsS (top 25) 2), [], []⟩, "Checker.look", ["self", "tree", "known", "within"], ["self", "tree", "known", "within", "place", "word", "kind", "part"], 4⟩
def Checker_kind_of_i : DefI := ⟨⟨("Checker", some "kind_of"), "kind_of", "Checker.kind_of", defArgs (clsS (top 25) 3), defBody (clsS (top 25) 3), defScope (clsS (top 25) 3), [], []⟩, "Checker.kind_of", ["self", "deed", "known"], ["self", "deed", "known", "word", "rest", "wants"], 3⟩
def Checker_called_i : DefI := ⟨⟨("Checker", some "called"), "called", "Checker.called", defArgs (clsS (top 25) 4), defBody (clsS (top 25) 4), defScope (clsS (top 25) 4), [], []⟩, "Checker.called", ["self", "number", "names", "known"], ["self", "number", "names", "known", "params", "kind", "tree", "name", "sort"], 4⟩
def worth_of_i : DefI := ⟨⟨("worth_of", none), "worth_of", "worth_of", defArgs (top 39), defBody (top 39), defScope (top 39), [], []⟩, "worth_of", ["measure", "known"], ["measure", "known"], 2⟩
def size_of_i : DefI := ⟨⟨("size_of", none), "size_of", "size_of", defArgs (top 29), defBody (top 29), defScope (top 29), [], []⟩, "size_of", ["tree"], ["tree", "part"], 1⟩
def is_param_i : DefI := ⟨⟨("is_param", none), "is_param", "is_param", defArgs (top 22), defBody (top 22), defScope (top 22), [], []⟩, "is_param", ["thing"], ["thing"], 1⟩
def is_kind_i : DefI := ⟨⟨("is_kind", none), "is_kind", "is_kind", defArgs (top 21), defBody (top 21), defScope (top 21), [], []⟩, "is_kind", ["thing"], ["thing"], 1⟩
def is_name_i : DefI := ⟨⟨("is_name", none), "is_name", "is_name", defArgs (top 20), defBody (top 20), defScope (top 20), [], []⟩, "is_name", ["thing"], ["thing", "sign"], 1⟩
def is_measure_i : DefI := ⟨⟨("is_measure", none), "is_measure", "is_measure", defArgs (top 27), defBody (top 27), defScope (top 27), [], []⟩, "is_measure", ["thing", "known"], ["thing", "known"], 2⟩
def is_step_i : DefI := ⟨⟨("is_step", none), "is_step", "is_step", defArgs (top 19), defBody (top 19), defScope (top 19), [], []⟩, "is_step", ["thing"], ["thing"], 1⟩
def are_of_i : DefI := ⟨⟨("are_of", none), "are_of", "are_of", defArgs (top 26), defBody (top 26), defScope (top 26), [], []⟩, "are_of", ["names", "kinds", "known"], ["names", "kinds", "known", "k", "name"], 3⟩
def fa0 : List _root_.He.Fa := [.glo "is_whole",
  .glo "is_step",
  .glo "is_name",
  .glo "is_kind",
  .glo "is_param",
  .glo "is_head",
  .glo "need_heads",
  .glo "are_of",
  .glo "is_measure",
  .glo "need_program",
  .glo "size_of",
  .glo "is_worth",
  .glo "is_items",
  .glo "need_args",
  .glo "worth_of",
  .glo "run",
  .glo "_law_start",
  .glo "_law_drawn",
  .glo "_law_same",
  .glo "_law_of",
  .glo "_law_measure",
  .glo "_law_deed",
  .glo "_law_tree",
  .glo "_law_program",
  .glo "_law_loops"]
def fa1 : List _root_.He.Fa := [.glo "_law_size",
  .glo "_law_worth",
  .glo "_law_did",
  .glo "_law_call",
  .glo "_law_run",
  .glo "_law_args",
  .glo "_law_answers",
  .glo "_law_far",
  .glo "law",
  .glo "Run",
  .glo "Checker",
  .str "NUMBER" "number",
  .str "LIST" "list",
  .glo "KINDS",
  .int "MOST_FUNCTIONS" 6,
  .int "MOST_PARAMS" 4,
  .int "MOST_TREES" 60,
  .int "MOST_WITHIN" 20,
  .int "MOST_NUMBER" 99,
  .int "MOST_NAME" 8,
  .str "LETTERS" "abcdefghijklmnopqrstuvwxyz",
  .int "MOST_TOLD" 300,
  .int "MOST_WORTH" 1000000,
  .int "MOST_ITEMS" 40,
  .glo "SIZES"]
def fa2 : List _root_.He.Fa := [.glo "DEEDS",
  .free "bool",
  .free "dict",
  .free "enumerate",
  .free "int",
  .free "isinstance",
  .free "len",
  .free "list",
  .free "max",
  .free "range",
  .free "str",
  .free "sum",
  .free "tuple",
  .free "zip",
  .cls "Run",
  .mkr "Run",
  .noat "Run" "answers",
  .noat "Run" "calls",
  .noat "Run" "count",
  .noat "Run" "functions",
  .noat "Run" "most",
  .noat "Run" "which",
  .meth "Run" "__init__",
  .meth "Run" "call",
  .meth "Run" "deed"]
def fa3 : List _root_.He.Fa := [.cls "Checker",
  .mkr "Checker",
  .noat "Checker" "answers",
  .noat "Checker" "calls",
  .noat "Checker" "count",
  .noat "Checker" "functions",
  .noat "Checker" "most",
  .noat "Checker" "which",
  .meth "Checker" "__init__",
  .meth "Checker" "need",
  .meth "Checker" "look",
  .meth "Checker" "kind_of",
  .meth "Checker" "called"]
def fa : List _root_.He.Fa := fa0 ++ fa1 ++ fa2 ++ fa3
def defs0 : List DefI := [law_i,
  _law_start_i,
  _law_program_i,
  _law_drawn_i,
  _law_args_i,
  _law_answers_i,
  _law_far_i,
  _law_loops_i,
  run_i,
  _law_same_i,
  _law_run_i,
  _law_tree_i,
  need_program_i,
  need_args_i,
  is_items_i,
  is_whole_i,
  _law_call_i,
  _law_of_i,
  _law_deed_i,
  _law_measure_i,
  need_heads_i,
  is_worth_i,
  RunD_initD_i,
  Run_call_i,
  Run_deed_i]
def defs1 : List DefI := [_law_did_i,
  _law_worth_i,
  _law_size_i,
  is_head_i,
  CheckerD_initD_i,
  Checker_need_i,
  Checker_look_i,
  Checker_kind_of_i,
  Checker_called_i,
  worth_of_i,
  size_of_i,
  is_param_i,
  is_kind_i,
  is_name_i,
  is_measure_i,
  is_step_i,
  are_of_i]
def defs : List DefI := defs0 ++ defs1
def gs0 : List (Str × Gk) := [("is_whole", .fn "is_whole"),
  ("is_step", .fn "is_step"),
  ("is_name", .fn "is_name"),
  ("is_kind", .fn "is_kind"),
  ("is_param", .fn "is_param"),
  ("is_head", .fn "is_head"),
  ("need_heads", .fn "need_heads"),
  ("are_of", .fn "are_of"),
  ("is_measure", .fn "is_measure"),
  ("need_program", .fn "need_program"),
  ("size_of", .fn "size_of"),
  ("is_worth", .fn "is_worth"),
  ("is_items", .fn "is_items"),
  ("need_args", .fn "need_args"),
  ("worth_of", .fn "worth_of"),
  ("run", .fnk "run" ["most"] [(.int 100)]),
  ("_law_start", .fn "_law_start"),
  ("_law_drawn", .fn "_law_drawn"),
  ("_law_same", .fn "_law_same"),
  ("_law_of", .fn "_law_of"),
  ("_law_measure", .fn "_law_measure"),
  ("_law_deed", .fn "_law_deed"),
  ("_law_tree", .fn "_law_tree"),
  ("_law_program", .fn "_law_program"),
  ("_law_loops", .fn "_law_loops")]
def gs1 : List (Str × Gk) := [("_law_size", .fn "_law_size"),
  ("_law_worth", .fn "_law_worth"),
  ("_law_did", .fn "_law_did"),
  ("_law_call", .fn "_law_call"),
  ("_law_run", .fn "_law_run"),
  ("_law_args", .fn "_law_args"),
  ("_law_answers", .fn "_law_answers"),
  ("_law_far", .fn "_law_far"),
  ("Run", .fn "Run"),
  ("Checker", .fn "Checker"),
  ("NUMBER", .cst (.str "number")),
  ("LIST", .cst (.str "list")),
  ("KINDS", .cst (.nd true .tup [(.str "number"), (.str "list")])),
  ("MOST_FUNCTIONS", .cst (.int 6)),
  ("MOST_PARAMS", .cst (.int 4)),
  ("MOST_TREES", .cst (.int 60)),
  ("MOST_WITHIN", .cst (.int 20)),
  ("MOST_NUMBER", .cst (.int 99)),
  ("MOST_NAME", .cst (.int 8)),
  ("LETTERS", .cst (.str "abcdefghijklmnopqrstuvwxyz")),
  ("MOST_TOLD", .cst (.int 300)),
  ("MOST_WORTH", .cst (.int 1000000)),
  ("MOST_ITEMS", .cst (.int 40)),
  ("SIZES", .tab ["let", "if", "claim", "tell"] [.int 4, .int 6, .int 5, .int 2]),
  ("DEEDS", .tab ["num", "sum", "len", "nil", "put", "head", "tail", "at", "ask", "call"] [.int 2, .int 3, .int 2, .int 1, .int 3, .int 2, .int 2, .int 3, .int 1, .int 3])]
def gs2 : List (Str × Gk) := [("bool", .blt),
  ("dict", .blt),
  ("enumerate", .blt),
  ("int", .blt),
  ("isinstance", .blt),
  ("len", .blt),
  ("list", .blt),
  ("max", .blt),
  ("range", .blt),
  ("str", .blt),
  ("sum", .blt),
  ("tuple", .blt),
  ("zip", .blt)]
def gs : List (Str × Gk) := gs0 ++ gs1 ++ gs2
def tups : List (Str × List _root_.He.Dv) := [("KINDS", [.str "number", .str "list"])]
def tabs : List (Str × List (Str × _root_.He.Dv)) := [("SIZES", [("let", .int 4), ("if", .int 6), ("claim", .int 5), ("tell", .int 2)]),
  ("DEEDS", [("num", .int 2), ("sum", .int 3), ("len", .int 2), ("nil", .int 1), ("put", .int 3), ("head", .int 2), ("tail", .int 2), ("at", .int 3), ("ask", .int 1), ("call", .int 3)])]
def L : LawD := ⟨Pg, gs, ["answers", "calls", "count", "functions", "most", "which"], ["Run", "Checker"], fa, defs, tups, tabs⟩
theorem law_y : BindI law_i := fun _ _ _ _ => fun _ _ _ _ _ _ us hl => match us, hl with | [_], _ => rfl
theorem _law_start_y : BindI _law_start_i := fun _ _ _ _ => fun _ _ _ _ _ _ us hl => match us, hl with | [_], _ => rfl
theorem _law_program_y : BindI _law_program_i := fun _ _ _ _ => fun _ _ _ _ _ _ us hl => match us, hl with | [_, _, _], _ => rfl
theorem _law_drawn_y : BindI _law_drawn_i := fun _ _ _ _ => fun _ _ _ _ _ _ us hl => match us, hl with | [_, _], _ => rfl
theorem _law_args_y : BindI _law_args_i := fun _ _ _ _ => fun _ _ _ _ _ _ us hl => match us, hl with | [_, _], _ => rfl
theorem _law_answers_y : BindI _law_answers_i := fun _ _ _ _ => fun _ _ _ _ _ _ us hl => match us, hl with | [_], _ => rfl
theorem _law_far_y : BindI _law_far_i := fun _ _ _ _ => fun _ _ _ _ _ _ us hl => match us, hl with | [_, _], _ => rfl
theorem _law_loops_y : BindI _law_loops_i := fun _ _ _ _ => fun _ _ _ _ _ _ us hl => match us, hl with | [_], _ => rfl
theorem run_y : BindI run_i := fun _ _ _ _ => ⟨fun _ _ _ _ _ _ us ks h1 h2 => match us, ks, h1, h2 with | [_, _, _], [_], _, _ => ⟨_, _, _, _, _, _, rfl, rfl, rfl⟩, fun _ _ _ _ _ _ us ks h1 h2 => match us, ks, h1, h2 with | [_, _, _], [_], _, _ => rfl⟩
theorem _law_same_y : BindI _law_same_i := fun _ _ _ _ => fun _ _ _ _ _ _ us hl => match us, hl with | [_, _], _ => rfl
theorem _law_run_y : BindI _law_run_i := fun _ _ _ _ => fun _ _ _ _ _ _ us hl => match us, hl with | [_, _, _, _], _ => rfl
theorem _law_tree_y : BindI _law_tree_i := fun _ _ _ _ => fun _ _ _ _ _ _ us hl => match us, hl with | [_, _, _, _, _], _ => rfl
theorem need_program_y : BindI need_program_i := fun _ _ _ _ => fun _ _ _ _ _ _ us hl => match us, hl with | [_], _ => rfl
theorem need_args_y : BindI need_args_i := fun _ _ _ _ => fun _ _ _ _ _ _ us hl => match us, hl with | [_, _], _ => rfl
theorem is_items_y : BindI is_items_i := fun _ _ _ _ => fun _ _ _ _ _ _ us hl => match us, hl with | [_, _], _ => rfl
theorem is_whole_y : BindI is_whole_i := fun _ _ _ _ => fun _ _ _ _ _ _ us hl => match us, hl with | [_, _, _], _ => rfl
theorem _law_call_y : BindI _law_call_i := fun _ _ _ _ => fun _ _ _ _ _ _ us hl => match us, hl with | [_, _, _], _ => rfl
theorem _law_of_y : BindI _law_of_i := fun _ _ _ _ => fun _ _ _ _ _ _ us hl => match us, hl with | [_, _], _ => rfl
theorem _law_deed_y : BindI _law_deed_i := fun _ _ _ _ => fun _ _ _ _ _ _ us hl => match us, hl with | [_, _, _], _ => rfl
theorem _law_measure_y : BindI _law_measure_i := fun _ _ _ _ => fun _ _ _ _ _ _ us hl => match us, hl with | [_, _], _ => rfl
theorem need_heads_y : BindI need_heads_i := fun _ _ _ _ => fun _ _ _ _ _ _ us hl => match us, hl with | [_], _ => rfl
theorem is_worth_y : BindI is_worth_i := fun _ _ _ _ => fun _ _ _ _ _ _ us hl => match us, hl with | [_], _ => rfl
theorem RunD_initD_y : BindI RunD_initD_i := fun _ _ _ _ => fun _ _ _ _ _ _ us hl => match us, hl with | [_, _, _, _], _ => rfl
theorem Run_call_y : BindI Run_call_i := fun _ _ _ _ => fun _ _ _ _ _ _ us hl => match us, hl with | [_, _, _], _ => rfl
theorem Run_deed_y : BindI Run_deed_i := fun _ _ _ _ => fun _ _ _ _ _ _ us hl => match us, hl with | [_, _, _, _], _ => rfl
theorem _law_did_y : BindI _law_did_i := fun _ _ _ _ => fun _ _ _ _ _ _ us hl => match us, hl with | [_, _, _, _], _ => rfl
theorem _law_worth_y : BindI _law_worth_i := fun _ _ _ _ => fun _ _ _ _ _ _ us hl => match us, hl with | [_, _], _ => rfl
theorem _law_size_y : BindI _law_size_i := fun _ _ _ _ => fun _ _ _ _ _ _ us hl => match us, hl with | [_], _ => rfl
theorem is_head_y : BindI is_head_i := fun _ _ _ _ => fun _ _ _ _ _ _ us hl => match us, hl with | [_], _ => rfl
theorem CheckerD_initD_y : BindI CheckerD_initD_i := fun _ _ _ _ => fun _ _ _ _ _ _ us hl => match us, hl with | [_, _, _], _ => rfl
theorem Checker_need_y : BindI Checker_need_i := fun _ _ _ _ => fun _ _ _ _ _ _ us hl => match us, hl with | [_, _, _], _ => rfl
theorem Checker_look_y : BindI Checker_look_i := fun _ _ _ _ => fun _ _ _ _ _ _ us hl => match us, hl with | [_, _, _, _], _ => rfl
theorem Checker_kind_of_y : BindI Checker_kind_of_i := fun _ _ _ _ => fun _ _ _ _ _ _ us hl => match us, hl with | [_, _, _], _ => rfl
theorem Checker_called_y : BindI Checker_called_i := fun _ _ _ _ => fun _ _ _ _ _ _ us hl => match us, hl with | [_, _, _, _], _ => rfl
theorem worth_of_y : BindI worth_of_i := fun _ _ _ _ => fun _ _ _ _ _ _ us hl => match us, hl with | [_, _], _ => rfl
theorem size_of_y : BindI size_of_i := fun _ _ _ _ => fun _ _ _ _ _ _ us hl => match us, hl with | [_], _ => rfl
theorem is_param_y : BindI is_param_i := fun _ _ _ _ => fun _ _ _ _ _ _ us hl => match us, hl with | [_], _ => rfl
theorem is_kind_y : BindI is_kind_i := fun _ _ _ _ => fun _ _ _ _ _ _ us hl => match us, hl with | [_], _ => rfl
theorem is_name_y : BindI is_name_i := fun _ _ _ _ => fun _ _ _ _ _ _ us hl => match us, hl with | [_], _ => rfl
theorem is_measure_y : BindI is_measure_i := fun _ _ _ _ => fun _ _ _ _ _ _ us hl => match us, hl with | [_, _], _ => rfl
theorem is_step_y : BindI is_step_i := fun _ _ _ _ => fun _ _ _ _ _ _ us hl => match us, hl with | [_], _ => rfl
theorem are_of_y : BindI are_of_i := fun _ _ _ _ => fun _ _ _ _ _ _ us hl => match us, hl with | [_, _, _], _ => rfl
theorem binds : ∀ i ∈ L.defs, BindI i := by
  intro i hi
  have hi : i ∈ [law_i, _law_start_i, _law_program_i, _law_drawn_i, _law_args_i, _law_answers_i, _law_far_i, _law_loops_i, run_i, _law_same_i, _law_run_i, _law_tree_i, need_program_i, need_args_i, is_items_i, is_whole_i, _law_call_i, _law_of_i, _law_deed_i, _law_measure_i, need_heads_i, is_worth_i, RunD_initD_i, Run_call_i, Run_deed_i, _law_did_i, _law_worth_i, _law_size_i, is_head_i, CheckerD_initD_i, Checker_need_i, Checker_look_i, Checker_kind_of_i, Checker_called_i, worth_of_i, size_of_i, is_param_i, is_kind_i, is_name_i, is_measure_i, is_step_i, are_of_i] := hi
  simp only [List.mem_cons, List.not_mem_nil, or_false] at hi
  rcases hi with rfl | rfl | rfl | rfl | rfl | rfl | rfl | rfl | rfl | rfl | rfl | rfl | rfl | rfl | rfl | rfl | rfl | rfl | rfl | rfl | rfl | rfl | rfl | rfl | rfl | rfl | rfl | rfl | rfl | rfl | rfl | rfl | rfl | rfl | rfl | rfl | rfl | rfl | rfl | rfl | rfl | rfl
  · exact law_y
  · exact _law_start_y
  · exact _law_program_y
  · exact _law_drawn_y
  · exact _law_args_y
  · exact _law_answers_y
  · exact _law_far_y
  · exact _law_loops_y
  · exact run_y
  · exact _law_same_y
  · exact _law_run_y
  · exact _law_tree_y
  · exact need_program_y
  · exact need_args_y
  · exact is_items_y
  · exact is_whole_y
  · exact _law_call_y
  · exact _law_of_y
  · exact _law_deed_y
  · exact _law_measure_y
  · exact need_heads_y
  · exact is_worth_y
  · exact RunD_initD_y
  · exact Run_call_y
  · exact Run_deed_y
  · exact _law_did_y
  · exact _law_worth_y
  · exact _law_size_y
  · exact is_head_y
  · exact CheckerD_initD_y
  · exact Checker_need_y
  · exact Checker_look_y
  · exact Checker_kind_of_y
  · exact Checker_called_y
  · exact worth_of_y
  · exact size_of_y
  · exact is_param_y
  · exact is_kind_y
  · exact is_name_y
  · exact is_measure_y
  · exact is_step_y
  · exact are_of_y
def loose0 : List PySem.Str := ["ClaimError",
  "BadProgram",
  "BadArgs",
  "BadCount",
  "NUMBER",
  "LIST",
  "KINDS",
  "MOST_FUNCTIONS",
  "MOST_PARAMS",
  "MOST_TREES",
  "MOST_WITHIN",
  "MOST_NUMBER",
  "MOST_NAME",
  "LETTERS",
  "SIZES",
  "DEEDS",
  "is_whole",
  "is_step",
  "is_name",
  "is_kind",
  "is_param",
  "is_head",
  "need_heads",
  "Checker",
  "are_of"]
def loose1 : List PySem.Str := ["is_measure",
  "need_program",
  "size_of",
  "MOST_CALLS",
  "MOST_TOLD",
  "MOST_WORTH",
  "MOST_ITEMS",
  "is_worth",
  "is_items",
  "need_args",
  "Run",
  "worth_of",
  "run",
  "_law_start",
  "_law_drawn",
  "_law_same",
  "_law_of",
  "_law_measure",
  "_law_deed",
  "_law_tree",
  "_law_program",
  "_law_loops",
  "_law_size",
  "_law_worth",
  "_law_did"]
def loose2 : List PySem.Str := ["_law_call",
  "_law_run",
  "_law_args",
  "_law_answers",
  "_law_far"]
def loose : List PySem.Str := loose0 ++ loose1 ++ loose2
end K01
end
section
set_option Elab.async false
set_option linter.all false
set_option maxRecDepth 100000
set_option maxHeartbeats 0
namespace K01
open PySem PySem.Spec PyProof.Rows Mi L2
theorem ok : L.ok = true := by decide +kernel
abbrev R : PySem.W.OpenRow := PySem.W.OpenLaw.row PySem.Challenge.rw_claimsieve_k01_runs_by_own_going
abbrev hk : PySem.W.Hook := He.hookX 5 L.fa L.fn L.ts [] L.ex
def ob (s : PySem.W.SharedT) : He.AlX := He.obsX 5 L.fa L.fn L.ts [] L.ex (HandSHeadRun.getT s)
theorem ob_eq (s : PySem.W.SharedT) : ob s = hk.obs s.abs := He.obsX_eq (HandSHeadRun.getT_eq s)
def RunP (w : World) : Prop := HandSHeadRun.RunEq R (PySem.W.view R.prog [59]) hk ob 3000 loose w
theorem run0 (w : World) : RunP (w.withFollow "special-get-raises" false) := by
  intro os
  kernel_rfl
theorem run1 (w : World) : RunP (w.withFollow "special-get-raises" true) := by
  intro os
  kernel_rfl
theorem run (w : World) : RunP w := PySem.W.byRow2 "special-get-raises" run0 run1 w
end K01
end
section
set_option Elab.async false
set_option linter.all false
set_option maxRecDepth 100000
set_option maxHeartbeats 0
open PySem PySem.W PySem.Calls PyProof.Rows
theorem K01.holds_of (k : Nat) (hk : k ≤ 226) (hlaw : ∀ ns : List Int, ns.length ≤ 63 → ∃ m', Mi.callN K01.Pg k "law" [.nd false .scr (ns.map Mi.D.int)] [] = .ok (.bl true, m')) : PySem.Challenge.rw_claimsieve_k01_runs_by_own_going.Holds := by
  w_on; o_law
  refine HandSHeadRun.head_any (r := OpenLaw.row PySem.Challenge.rw_claimsieve_k01_runs_by_own_going) (q := view (OpenLaw.row PySem.Challenge.rw_claimsieve_k01_runs_by_own_going).prog [59]) (H := K01.hk) (ob := K01.ob) (M := 3000) (loose := K01.loose) (d := HandSHeadRun.topDef (OpenLaw.row PySem.Challenge.rw_claimsieve_k01_runs_by_own_going).prog 59) (kwd := []) K01.ob_eq
    (by kernel_rfl) (fun s => by kernel_rfl) K01.run (by kernel_rfl) (by kernel_rfl) (by kernel_rfl) (by rfl) (by first | assumption | decide +kernel) (by decide +kernel) ⟨rfl, rfl, rfl, rfl, rfl, by decide +kernel⟩ ?hw ?hc
  case hw => w_witness2
  case hc =>
    refine L2.walk_ofE (l := PySem.Challenge.rw_claimsieve_k01_runs_by_own_going) (n := 63) (k := k + 1) (x := "_law_script") (CX := L2.CX0) rfl (by decide) (by kernel_rfl) (L2.Room.mono (k := 227) ⟨rfl, by decide, by decide⟩ (by omega)) ?F (fun _ _ _ _ z => z)
    intro w mg fa h Y G hmg0
    obtain ⟨K, KX, c⟩ := Y
    have hmg : mg ("law" : PySem.Str) = some (.ref fa) := by
      have e : (HandSHeadRun.topDef (OpenLaw.row PySem.Challenge.rw_claimsieve_k01_runs_by_own_going).prog 59).name = ("law" : PySem.Str) := by kernel_rfl
      rw [← e]
      exact hmg0
    exact Mi.law_F K01.L K01.ok K01.binds (i := K01.law_i) (List.mem_of_getElem? (i := 0) rfl) rfl rfl rfl rfl (Mi.hasF_mem (by decide +kernel)) k 63 hlaw KX G hmg c
end
theorem PySem.Challenge.cw_claimsieve_k01_runs_by_own_going_holds : PySem.Challenge.rw_claimsieve_k01_runs_by_own_going.Holds :=
  K01.holds_of 223 (by decide) fun ns _ => K01.law_ok ns
