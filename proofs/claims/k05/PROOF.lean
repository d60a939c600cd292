import PyProof.Rows.All
import Wide.All
import OpenK.AllK
import Wide.FinOn
import HandS.ForMost
import HandS.ForExc
import KE.KDictKeyed
import HandS.Lambda
import HandS.ExcIs
import HandS.ExcCtx
import HandS.Defaults
import HandS.HeadHook1
import HandS.CallSlots
import HandS.IsInst
import HandS.TupAny
import HandS.Wide
import HandS.Style
import HandS.Walk
import HandS.Zip
import HandS.Conv
import HandS.Exc
import HandS.WordsExc
import HandS.Hot
import HandS.HotCalls
import HandS.TupMul
import HandS.Deep
import HandS.SortRule
import KE.LtSeq
import HandS.SortInts
import KE.GoesEnum
import HandS.DictComp
import KE.KDictOf
import KE.KDictCopyH
import KE.DataFind
import HandS.Remove
import HandS.Head0
import HandS.Head1
import HandS.Head2
import HandS.HeadEnd
import HandS.HeadHook2
import HandS.HeadHook3
import HandS.HeadHook4
import HandS.EndTab
import PySem.Challenge.RW_coachtally_k05_whole_manners
set_option Elab.async false
set_option linter.all false
set_option maxRecDepth 100000
set_option maxHeartbeats 4000000
namespace Mn
open PySem

/-! ## data -/
inductive D where
  | non
  | bl (b : Bool)
  | int (i : Int)
  | str (x : Str)
  | tup (ds : List D)
  | lst (ds : List D)
  | scr (ns : List Int)
  | dic (kvs : List (D × D))
  | ref (n : Nat)
  | exn (c : Nat)
  | opq

mutual
def D.beq : D → D → Bool
  | .non, .non => true
  | .bl a, .bl b => a == b
  | .int a, .int b => a == b
  | .str a, .str b => decide (a = b)
  | .tup a, .tup b => D.beqL a b
  | .lst a, .lst b => D.beqL a b
  | .scr a, .scr b => a == b
  | .dic a, .dic b => D.beqP a b
  | .ref a, .ref b => a == b
  | .exn a, .exn b => a == b
  | .opq, .opq => true
  | _, _ => false
def D.beqL : List D → List D → Bool
  | [], [] => true
  | a :: as, b :: bs => D.beq a b && D.beqL as bs
  | _, _ => false
def D.beqP : List (D × D) → List (D × D) → Bool
  | [], [] => true
  | (a, x) :: as, (b, y) :: bs => D.beq a b && D.beq x y && D.beqP as bs
  | _, _ => false
end
mutual
theorem D.beq_self : ∀ a : D, D.beq a a = true
  | .non => rfl
  | .bl a => by simp [D.beq]
  | .int a => by simp [D.beq]
  | .str a => by simp [D.beq]
  | .tup a => by rw [D.beq]; exact D.beqL_self a
  | .lst a => by rw [D.beq]; exact D.beqL_self a
  | .scr a => by simp [D.beq]
  | .dic a => by rw [D.beq]; exact D.beqP_self a
  | .ref a => by simp [D.beq]
  | .exn a => by simp [D.beq]
  | .opq => by simp [D.beq]
theorem D.beqL_self : ∀ a : List D, D.beqL a a = true
  | [] => rfl
  | a :: as => by rw [D.beqL, D.beq_self a, D.beqL_self as]; rfl
theorem D.beqP_self : ∀ a : List (D × D), D.beqP a a = true
  | [] => rfl
  | (a, x) :: as => by rw [D.beqP, D.beq_self a, D.beq_self x, D.beqP_self as]; rfl
end
mutual
theorem D.eq_of_beq : ∀ a b : D, D.beq a b = true → a = b
  | .non, b, h => by cases b <;> simp_all [D.beq]
  | .bl a, b, h => by cases b <;> simp_all [D.beq]
  | .int a, b, h => by cases b <;> simp_all [D.beq]
  | .str a, b, h => by cases b <;> simp_all [D.beq]
  | .tup a, .tup b, h => by rw [D.beq] at h; rw [D.eq_of_beqL a b h]
  | .lst a, .lst b, h => by rw [D.beq] at h; rw [D.eq_of_beqL a b h]
  | .scr a, b, h => by cases b <;> simp_all [D.beq]
  | .dic a, .dic b, h => by rw [D.beq] at h; rw [D.eq_of_beqP a b h]
  | .ref a, b, h => by cases b <;> simp_all [D.beq]
  | .exn a, b, h => by cases b <;> simp_all [D.beq]
  | .opq, b, h => by cases b <;> simp_all [D.beq]
  | .tup a, .non, h | .tup a, .bl _, h | .tup a, .int _, h | .tup a, .str _, h | .tup a, .lst _, h | .tup a, .scr _, h | .tup a, .dic _, h | .tup a, .ref _, h | .tup a, .exn _, h | .tup a, .opq, h => by simp [D.beq] at h
  | .lst a, .non, h | .lst a, .bl _, h | .lst a, .int _, h | .lst a, .str _, h | .lst a, .tup _, h | .lst a, .scr _, h | .lst a, .dic _, h | .lst a, .ref _, h | .lst a, .exn _, h | .lst a, .opq, h => by simp [D.beq] at h
  | .dic a, .non, h | .dic a, .bl _, h | .dic a, .int _, h | .dic a, .str _, h | .dic a, .tup _, h | .dic a, .scr _, h | .dic a, .lst _, h | .dic a, .ref _, h | .dic a, .exn _, h | .dic a, .opq, h => by simp [D.beq] at h
theorem D.eq_of_beqL : ∀ a b : List D, D.beqL a b = true → a = b
  | [], [], _ => rfl
  | a :: as, b :: bs, h => by
    rw [D.beqL, Bool.and_eq_true] at h
    rw [D.eq_of_beq a b h.1, D.eq_of_beqL as bs h.2]
  | [], _ :: _, h => by simp [D.beqL] at h
  | _ :: _, [], h => by simp [D.beqL] at h
theorem D.eq_of_beqP : ∀ a b : List (D × D), D.beqP a b = true → a = b
  | [], [], _ => rfl
  | (a, x) :: as, (b, y) :: bs, h => by
    rw [D.beqP, Bool.and_eq_true, Bool.and_eq_true] at h
    rw [D.eq_of_beq a b h.1.1, D.eq_of_beq x y h.1.2, D.eq_of_beqP as bs h.2]
  | [], _ :: _, h => by simp [D.beqP] at h
  | _ :: _, [], h => by simp [D.beqP] at h
end
instance : DecidableEq D := fun a b => if h : D.beq a b = true then .isTrue (D.eq_of_beq a b h) else .isFalse fun e => h (e ▸ D.beq_self a)

mutual
def D.rb (b : Nat) : D → Bool
  | .tup ds => D.rbL b ds
  | .lst ds => D.rbL b ds
  | .dic kvs => D.rbP b kvs
  | .ref n => decide (n < b)
  | _ => true
def D.rbL (b : Nat) : List D → Bool
  | [] => true
  | d :: ds => D.rb b d && D.rbL b ds
def D.rbP (b : Nat) : List (D × D) → Bool
  | [] => true
  | (k, d) :: ds => D.rb b k && (D.rb b d && D.rbP b ds)
end

mutual
def D.py : D → Option PyData
  | .non => some .none
  | .bl b => some (.bool b)
  | .int i => some (.int i)
  | .str x => some (.str x)
  | .tup ds => (D.pyL ds).map .tuple
  | .lst ds => (D.pyL ds).map .list
  | .scr ns => some (.list (ns.map .int))
  | _ => none
def D.pyL : List D → Option (List PyData)
  | [] => some []
  | d :: ds => match D.py d, D.pyL ds with
    | some x, some xs => some (x :: xs)
    | _, _ => none
end

inductive Cell where
  | lst (ds : List D)
  | dic (kvs : List (D × D))
  | ins (c : Nat) (fs : List (Nat × D))
abbrev Store := List Cell

inductive Out (α : Type) where
  | ok (a : α) (st : Store)
  | exc (c : Nat) (st : Store)
  | bad
def Out.bind {α β : Type} (o : Out α) (f : α → Store → Out β) : Out β :=
  match o with
  | .ok a st => f a st
  | .exc c st => .exc c st
  | .bad => .bad
@[simp] theorem Out.bind_ok {α β : Type} (a : α) (st : Store) (f : α → Store → Out β) : (Out.ok a st).bind f = f a st := by rw [Out.bind]
@[simp] theorem Out.bind_exc {α β : Type} (c : Nat) (st : Store) (f : α → Store → Out β) : (Out.exc c st : Out α).bind f = .exc c st := by rw [Out.bind]
@[simp] theorem Out.bind_bad {α β : Type} (f : α → Store → Out β) : (Out.bad : Out α).bind f = .bad := by rw [Out.bind]
/-- a pure step -/
def Out.of {α : Type} (o : Option α) (st : Store) : Out α := match o with
  | some a => .ok a st
  | none => .bad
@[simp] theorem Out.of_some {α : Type} (a : α) (st : Store) : Out.of (some a) st = .ok a st := by rw [Out.of]
@[simp] theorem Out.of_none {α : Type} (st : Store) : (Out.of (none : Option α) st) = .bad := by rw [Out.of]

/-- a local's slot: nothing, a value, an owned list, an owned dict -/
inductive Sl where
  | un
  | val (d : D)
  | ol (ds : List D)
  | od (kvs : List (D × D))

/-! ## operators -/
inductive Op where | add | sub | mul | fdiv | mod | pow
inductive Cm where | eq | ne | lt | le | gt | ge | isN | notN | isB | notB | inn | nin
inductive Ty where | int | bool | tuple | list | dict | str
/-- built-in calls of plain arguments -/
inductive Bi where | len | all | any | sum | max1 | min1 | max2 | min2 | tuple | list | int | str | sorted | listRng | dictOf

def szOk (n : Nat) : Bool := decide (n ≤ 16777216)
def mulOk (i j : Int) : Bool := decide (i.natAbs < 2 ^ 64) || (decide (j.natAbs < 2 ^ 64) || (decide (i.natAbs < 2 ^ 200) && decide (j.natAbs < 2 ^ 200)))
def divOk (j : Int) : Bool := decide (0 < j) && decide (j < 2 ^ 200)

def opD : Op → D → D → Option D
  | .add, .int i, .int j => some (.int (i + j))
  | .add, .lst xs, .lst ys => if szOk (xs.length + ys.length) then some (.lst (xs ++ ys)) else none
  | .add, .tup xs, .tup ys => if szOk (xs.length + ys.length) then some (.tup (xs ++ ys)) else none
  | .add, .str x, .str y => if szOk (x.length + y.length) then some (.str (x ++ y)) else none
  | .sub, .int i, .int j => some (.int (i - j))
  | .mul, .int i, .int j => if mulOk i j then some (.int (i * j)) else none
  | .mul, .lst xs, .int k => if decide (-(2 ^ 63) ≤ k) && (decide (k < 2 ^ 63) && szOk (xs.length * k.toNat)) then some (.lst (List.replicate k.toNat xs).flatten) else none
  | .mul, .tup xs, .int k => if decide (0 ≤ k) && (decide (k ≤ 1000) && (decide (xs.length ≤ 1000) && !xs.isEmpty)) then some (.tup (List.replicate k.toNat xs).flatten) else none
  | .fdiv, .int i, .int j => if divOk j then some (.int (i / j)) else none
  | .mod, .int i, .int j => if decide (0 < j) then some (.int (i % j)) else none
  | .pow, .int i, .int j => if decide (0 ≤ j) && (decide (j ≤ 1000) && decide (i.natAbs < 2 ^ 64)) then some (.int (i ^ j.toNat)) else none
  | _, _, _ => none

def eqD (a b : D) : Option Bool := match D.py a, D.py b with
  | some x, some y => if SeqAt.shaped x && SeqAt.shaped y then some (PyData.eqv x y) else none
  | _, _ => none
/-- whether a thing is in a list -/
def inD (x y : D) : Option Bool := match y with
  | .lst ys => match D.py x, D.pyL ys with
    | some d, some ds => if SeqAt.shaped d && SeqAt.shaped (.list ds) then some (ds.any fun z => PyData.eqv z d) else none
    | _, _ => none
  | _ => none
def cmD : Cm → D → D → Option Bool
  | .eq, a, b => eqD a b
  | .ne, a, b => (eqD a b).map (!·)
  | .lt, .int i, .int j => some (decide (i < j))
  | .le, .int i, .int j => some (decide (i ≤ j))
  | .gt, .int i, .int j => some (decide (j < i))
  | .ge, .int i, .int j => some (decide (j ≤ i))
  | .isN, .opq, _ => none
  | .notN, .opq, _ => none
  | .isN, a, .non => some (decide (a = .non))
  | .notN, a, .non => some (!decide (a = .non))
  | .isB, .bl a, .bl b => some (decide (a = b))
  | .notB, .bl a, .bl b => some (!decide (a = b))
  | .inn, a, b => inD a b
  | .nin, a, b => (inD a b).map (!·)
  | _, _, _ => none

def tyD : Ty → D → Option Bool
  | t, .non => some false
  | t, .bl _ => match t with | .int | .bool => some true | _ => some false
  | t, .int _ => match t with | .int => some true | _ => some false
  | t, .str _ => match t with | .str => some true | _ => some false
  | t, .tup _ => match t with | .tuple => some true | _ => some false
  | t, .lst _ => match t with | .list => some true | _ => some false
  | _, _ => none

def ixN (n : Nat) (i : Int) : Option Nat := L2.ixN n i
def idxD : D → D → Option D
  | .lst xs, .int i => (ixN xs.length i).bind fun j => xs[j]?
  | .tup xs, .int i => (ixN xs.length i).bind fun j => xs[j]?
  | .scr ns, .int i => (ixN ns.length i).bind fun j => (ns[j]?).map .int
  | _, _ => none
/-- a slice's end -/
def sIx (len dflt : Nat) : Option Int → Nat := HT.sIx len dflt
def cut {α : Type} (xs : List α) (lo hi : Option Int) : List α := (xs.drop (sIx xs.length 0 lo)).take (sIx xs.length xs.length hi - sIx xs.length 0 lo)
def slcD : D → Option Int → Option Int → Option D
  | .lst xs, lo, hi => some (.lst (cut xs lo hi))
  | .tup xs, lo, hi => some (.tup (cut xs lo hi))
  | _, _, _ => none
def intD : D → Option Int
  | .int i => some i
  | _ => none
def blD : D → Option Bool
  | .bl b => some b
  | _ => none
def seqD : D → Option (List D)
  | .lst xs => some xs
  | .tup xs => some xs
  | _ => none
def intsD : List D → Option (List Int)
  | [] => some []
  | .int i :: r => (intsD r).map (i :: ·)
  | _ :: _ => none
def blsD : List D → Option (List Bool)
  | [] => some []
  | .bl i :: r => (blsD r).map (i :: ·)
  | _ :: _ => none
def maxI : List Int → Option Int
  | [] => none
  | x :: xs => some (xs.foldl (fun a b => if b > a then b else a) x)
def minI : List Int → Option Int
  | [] => none
  | x :: xs => some (xs.foldl (fun a b => if b < a then b else a) x)
end Mn
set_option maxHeartbeats 4000000
namespace Mn
open PySem
/-! ## the small language -/
/-- constants -/
inductive C where | non | bl (b : Bool) | int (i : Int) | str (x : Str)
def C.d : C → D
  | .non => .non
  | .bl b => .bl b
  | .int i => .int i
  | .str x => .str x
/-- targets: one name, several names (slots) -/
inductive Tg where | nm (i : Nat) | tp (is : List Nat)

/-- a lambda's arguments: names, constants -/
inductive Ar where
  | v (i : Nat)
  | c (c : C)
/-- what a lambda calls: a def, a class whose __init__ refuses -/
inductive Tk where
  | fn (f : Nat)
  | mk (f : Nat)
mutual
inductive E where
  | hole
  | var (i : Nat)
  | con (c : C)
  | glb (x : Str) (d : D)
  | bin (o : Op) (a b : E)
  | neg (a : E)
  | not (a : E)
  | and (es : Es)
  | or (es : Es)
  | cmp (o : Cm) (a b : E)
  | chn (o p : Cm) (a b c : E)
  | ite (c a b : E)
  | tup (es : Es)
  | lst (es : Es)
  | idx (a i : E)
  | slc (a : E) (lo hi : Eo)
  | call (f : Nat) (es : Es)
  | bi (b : Bi) (es : Es)
  | isi (a : E) (t : Ty)
  | get2 (a k d : E)
  | odx (i : Nat) (k : E)
  | lc (own : List Nat) (tg : Tg) (it : It) (el : E)
  | lcf (own : List Nat) (tg : Tg) (it : It) (el cnd : E)
  | cel (es : Es)
  | emd
  | told (k : Tk) (as : List Ar)
  | bor (i : Nat) (e : E)
  | cnt (a e : E)
  | rev (a : E)
inductive Es where
  | nil
  | cons (e : E) (es : Es)
inductive Eo where
  | no
  | so (e : E)
/-- what is walked -/
inductive It where
  | ov (e : E)
  | r1 (a : E)
  | r2 (a b : E)
  | r3 (a b c : E)
  | zp (a b : E)
  | en (a : E)
end
/-- right sides -/
inductive R where
  | pl (e : E)
  | nl (es : Es)
  | nd
  | ndc (own : List Nat) (tg : Tg) (it : It) (k v : E)
  | ncp (e : E)
  | cat (i : Nat) (e : E)
inductive S where
  | hole
  | frz (i : Nat)
  | asg (i : Nat) (r : R)
  | asgC (i : Nat) (r : R)
  | asgP (is : List Nat) (rs : List R)
  | asgQ (is : List Nat) (rs : List R)
  | asgT (is : List Nat) (e : E)
  | app (i : Nat) (e : E)
  | setR (i : Nat) (k e : E)
  | setD (i : Nat) (k e : E)
  | popT (i j : Nat) (e : E)
  | rem (i : Nat) (e : E)
  | ex (e : E)
  | ret (e : E)
  | ifs (c : E) (a b : List S)
  | for_ (tg : Tg) (it : It) (b : List S)
  | whl (c : E) (b : List S)
  | brk
  | pass
  | raise (c : Nat)

structure Fn where
  np : Nat
  ns : Nat
  keep : Bool
  body : List S

/-! ## its meaning -/
mutual
/-- data that no one can change and that lie in no list -/
def D.plain : D → Bool
  | .non => true
  | .bl _ => true
  | .int _ => true
  | .str _ => true
  | .tup ds => D.plainL ds
  | _ => false
def D.plainL : List D → Bool
  | [] => true
  | d :: ds => D.plain d && D.plainL ds
end
def Cell.plain : Cell → Bool
  | .lst ds => D.plainL ds
  | _ => false
/-- an owned thing as a value -/
def Sl.frz : Sl → Option D
  | .ol ds => some (.lst ds)
  | _ => none
def borFin (o : Out D) : Out D := match o with
  | .ok d st1 => if d.plain && st1.all Cell.plain then .ok d st1 else .bad
  | _ => .bad
/-- how often a thing is in a list -/
def cntD (xs : List D) (y : D) : Option D := match D.pyL xs, D.py y with
  | some ds, some d => if SeqAt.shaped (.list ds) && SeqAt.shaped d then some (.int ((ds.countP fun z => PyData.eqv z d : Nat) : Int)) else none
  | _, _ => none
def revD : D → Option D
  | .lst xs => some (.lst xs.reverse)
  | _ => none
def setAll (σ : List Sl) : List Nat → List D → List Sl
  | i :: is, d :: ds => setAll (σ.set i (.val d)) is ds
  | _, _ => σ
def bindT (σ : List Sl) : Tg → D → Option (List Sl)
  | .nm i, d => some (σ.set i (.val d))
  | .tp is, .tup ds => if is.length = ds.length then some (setAll σ is ds) else none
  | _, _ => none
def wipeS (σ : List Sl) : List Nat → List Sl
  | [] => σ
  | i :: is => wipeS (σ.set i .un) is
def rngL (lo : Int) (n : Nat) : List D := (List.range n).map fun (k : Nat) => D.int (lo + (k : Int))
def rng3L (lo c : Int) (n : Nat) : List D := (List.range n).map fun (k : Nat) => D.int (lo + (k : Int) * c)
def rngOk (i : Int) : Bool := decide (-(2 ^ 62) ≤ i) && decide (i < 2 ^ 62)
/-- how many of range(a, b, c) -/
def rngN (a b c : Int) : Nat := if 0 < c then ((b - a + c - 1) / c).toNat else if c < 0 then ((a - b + (-c) - 1) / (-c)).toNat else 0
def zipD (xs ys : List D) : List D := (xs.zip ys).map fun p => .tup [p.1, p.2]
def enumD (xs : List D) : List D := (xs.zipIdx).map fun p => .tup [.int (p.2 : Int), p.1]
def pairD : List D → Option (List (D × D))
  | [] => some []
  | .tup [k, v] :: r => (pairD r).map ((k, v) :: ·)
  | _ :: _ => none
mutual
def D.nkey : D → Option NestedKey
  | .non => some .none
  | .int i => some (.num i)
  | .str x => some (.text x)
  | .tup ds => (D.nkeys ds).map .tup
  | _ => none
def D.nkeys : List D → Option (List NestedKey)
  | [] => some []
  | d :: ds => match D.nkey d, D.nkeys ds with
    | some x, some xs => some (x :: xs)
    | _, _ => none
end

/-- a key of a dict: a tuple of plain things -/
def keyOk (d : D) : Bool := match d with
  | .tup ds => match D.nkey (.tup ds) with
    | some k => decide (k.depth ≤ 8)
    | none => false
  | _ => false
def getD (kvs : List (D × D)) (k : D) : Option D := (kvs.find? fun kv => decide (kv.1 = k)).map (·.2)
def putD (kvs : List (D × D)) (k v : D) : List (D × D) := if (getD kvs k).isSome then kvs.map fun kv => if kv.1 = k then (kv.1, v) else kv else kvs ++ [(k, v)]
mutual
def D.ih : D → Option Int
  | .int i => some (hashInt i)
  | .tup ds => (D.ihL ds).map fun hs => reduceHash (Builtin.Tuple.tupleHashOf hs)
  | _ => none
def D.ihL : List D → Option (List Int)
  | [] => some []
  | d :: ds => match D.ih d, D.ihL ds with
    | some x, some xs => some (x :: xs)
    | _, _ => none
end
/-- no two keys hash alike -/
def hashOk (kvs : List (D × D)) : Bool := match D.ihL (kvs.map (·.1)) with
  | some hs => decide hs.Nodup
  | none => false
/-- tables: rows of numbers -/
def lexI : List Int → List Int → Bool
  | [], [] => false
  | [], _ :: _ => true
  | _ :: _, [] => false
  | a :: as, b :: bs => if a = b then lexI as bs else decide (a < b)
def lexT : List (List Int) → List (List Int) → Bool
  | [], [] => false
  | [], _ :: _ => true
  | _ :: _, [] => false
  | a :: as, b :: bs => if a = b then lexT as bs else lexI a b
def rowI : D → Option (List Int)
  | .tup ds => intsD ds
  | _ => none
def rowsI : List D → Option (List (List Int))
  | [] => some []
  | d :: ds => match rowI d, rowsI ds with
    | some x, some xs => some (x :: xs)
    | _, _ => none
def tabI : D → Option (List (List Int))
  | .tup (d :: ds) => rowsI (d :: ds)
  | _ => none
def tabsI : List D → Option (List (List (List Int)))
  | [] => some []
  | d :: ds => match tabI d, tabsI ds with
    | some x, some xs => some (x :: xs)
    | _, _ => none
def tabD (t : List (List Int)) : D := .tup (t.map fun r => .tup (r.map .int))
def sortT (ts : List (List (List Int))) : List (List (List Int)) := ts.mergeSort fun a b => !lexT b a
def sortI (ns : List Int) : List Int := ns.mergeSort fun a b => decide (a ≤ b)
def biD : Bi → List D → Option D
  | .sorted, [.lst xs] => match intsD xs with
    | some ns => some (.lst ((sortI ns).map .int))
    | none => (tabsI xs).map fun ts => .lst ((sortT ts).map tabD)
  | .len, [.lst xs] => some (.int (xs.length : Int))
  | .len, [.tup xs] => some (.int (xs.length : Int))
  | .len, [.scr xs] => some (.int (xs.length : Int))
  | .all, [.lst xs] => (blsD xs).map fun bs => .bl (bs.all id)
  | .any, [.lst xs] => (blsD xs).map fun bs => .bl (bs.any id)
  | .sum, [x] => (seqD x).bind fun xs => (intsD xs).map fun is => .int is.sum
  | .max1, [x] => (seqD x).bind fun xs => (intsD xs).bind fun is => (maxI is).map .int
  | .min1, [x] => (seqD x).bind fun xs => (intsD xs).bind fun is => (minI is).map .int
  | .max2, [.int i, .int j] => some (.int (if j > i then j else i))
  | .min2, [.int i, .int j] => some (.int (if j < i then j else i))
  | .tuple, [.lst xs] => some (.tup xs)
  | .tuple, [.tup xs] => some (.tup xs)
  | .list, [.lst xs] => some (.lst xs)
  | .list, [.tup xs] => some (.lst xs)
  | .int, [.bl b] => some (.int (if b then 1 else 0))
  | .int, [.int i] => some (.int i)
  | .listRng, [.int i] => if rngOk i && szOk i.toNat then some (.lst (rngL 0 i.toNat)) else none
  | .listRng, [.int i, .int j] => if rngOk i && (rngOk j && szOk (j - i).toNat) then some (.lst (rngL i (j - i).toNat)) else none
  | _, _ => none

def idxS (x y : D) (st : Store) : Out D := match x, y with
  | .ref n, .int i => match st[n]? with
    | some (.lst xs) => .of ((ixN xs.length i).bind fun j => xs[j]?) st
    | _ => .bad
  | .dic kvs, k => if keyOk k then .of (getD kvs k) st else .bad
  | x, y => .of (idxD x y) st
def rg1D : D → Option (List D)
  | .int i => if rngOk i then some (rngL 0 i.toNat) else none
  | _ => none
def rg2D : D → D → Option (List D)
  | .int i, .int j => if rngOk i && rngOk j then some (rngL i (j - i).toNat) else none
  | _, _ => none
def rg3D : D → D → D → Option (List D)
  | .int i, .int j, .int k => if rngOk i && (rngOk j && (rngOk k && decide (k ≠ 0))) then some (rng3L i k (rngN i j k)) else none
  | _, _, _ => none
def zpD : D → D → Option (List D)
  | .tup xs, .tup ys => some (zipD xs ys)
  | .lst xs, .lst ys => some (zipD xs ys)
  | _, _ => none
def exNames : List Str := ["BadLine", "BadTally", "BadTable", "BadWay", "BadNumber", "BadFares", "BadPrices", "BadHeights", "BadTickets", "BadStop", "Nothing", "Full", "BadText"]
def exN (c : Nat) : Str := exNames.getD c ""
def evAr (σ : List Sl) : Ar → Option D
  | .v i => match σ[i]? with
    | some (.val d) => some d
    | _ => none
  | .c c => some c.d
def evArs (σ : List Sl) : List Ar → Option (List D)
  | [] => some []
  | a :: as => match evAr σ a, evArs σ as with
    | some d, some ds => some (d :: ds)
    | _, _ => none
/-- what a deed tells, or how it is refused -/
def toldO (o : Out D) : Out D := match o with
  | .ok d st => .ok d st
  | .exc c st => if c < 13 then .ok (.tup [.str "refused", .str (exN c)]) st else .bad
  | .bad => .bad
def mkO (o : Out D) : Out D := match o with
  | .ok _ _ => .bad
  | .exc c st => .exc c st
  | .bad => .bad
section
variable (cf : Nat → Nat → List D → Store → Out D) (bs : Nat)
/-- the turns of a comprehension -/
def compL (σ : List Sl) (tg : Tg) (cnd el : List Sl → Store → Out D) : List D → List D → Store → Out D
  | [], acc, st => .ok (.lst acc) st
  | x :: xs, acc, st => match bindT σ tg x with
    | none => .bad
    | some σ1 => match cnd σ1 st with
      | .ok (.bl true) st1 => match el σ1 st1 with
        | .ok y st2 => if szOk (acc.length + 1) then compL σ tg cnd el xs (acc ++ [y]) st2 else .bad
        | _ => .bad
      | .ok (.bl false) st1 => compL σ tg cnd el xs acc st1
      | _ => .bad
mutual
def evE (σ : List Sl) (st : Store) : E → Out D
  | .hole => .bad
  | .var i => match σ[i]? with
    | some (.val d) => .ok d st
    | _ => .bad
  | .con c => .ok c.d st
  | .glb _ d => .ok d st
  | .bin o a b => (evE σ st a).bind fun x st => (evE σ st b).bind fun y st => .of (opD o x y) st
  | .neg a => (evE σ st a).bind fun x st => match x with
    | .int i => .ok (.int (-i)) st
    | _ => .bad
  | .not a => (evE σ st a).bind fun x st => match x with
    | .bl b => .ok (.bl (!b)) st
    | _ => .bad
  | .and es => evAnd σ st es
  | .or es => evOr σ st es
  | .cmp o a b => (evE σ st a).bind fun x st => (evE σ st b).bind fun y st => .of ((cmD o x y).map .bl) st
  | .chn o p a b c => (evE σ st a).bind fun x st => (evE σ st b).bind fun y st => match cmD o x y with
    | some true => (evE σ st c).bind fun z st => .of ((cmD p y z).map .bl) st
    | some false => .ok (.bl false) st
    | none => .bad
  | .ite c a b => (evE σ st c).bind fun x st => match x with
    | .bl true => evE σ st a
    | .bl false => evE σ st b
    | _ => .bad
  | .tup es => (evEs σ st es).bind fun xs st => if szOk xs.length then .ok (.tup xs) st else .bad
  | .lst es => (evEs σ st es).bind fun xs st => if szOk xs.length then .ok (.lst xs) st else .bad
  | .idx a i => (evE σ st a).bind fun x st => (evE σ st i).bind fun y st => idxS x y st
  | .slc a lo hi => (evE σ st a).bind fun x st => (evO σ st lo).bind fun l st => (evO σ st hi).bind fun h st => .of (slcD x l h) st
  | .call f es => (evEs σ st es).bind fun xs st => cf bs f xs st
  | .bi b es => (evEs σ st es).bind fun xs st => .of (biD b xs) st
  | .isi a t => (evE σ st a).bind fun x st => .of ((tyD t x).map .bl) st
  | .get2 a k d => (evE σ st a).bind fun x st => match x with
    | .dic kvs => (evE σ st k).bind fun y st => (evE σ st d).bind fun z st => if keyOk y then .ok ((getD kvs y).getD z) st else .bad
    | _ => .bad
  | .odx i k => match σ[i]? with
    | some (.od kvs) => (evE σ st k).bind fun y st => if keyOk y then .of (getD kvs y) st else .bad
    | _ => .bad
  | .lc own tg it el => (evI σ st it).bind fun xs st => compL (wipeS σ own) tg (fun _ st => .ok (.bl true) st) (fun σ st => evE σ st el) xs [] st
  | .lcf own tg it el cnd => (evI σ st it).bind fun xs st => compL (wipeS σ own) tg (fun σ st => evE σ st cnd) (fun σ st => evE σ st el) xs [] st
  | .cel es => (evEs σ st es).bind fun xs st => if szOk xs.length && D.rbL 0 xs then .ok (.ref st.length) (st ++ [.lst xs]) else .bad
  | .emd => .ok (.dic []) st
  | .told k as => match evArs σ as with
    | some ds => match k with
      | .fn f => toldO (cf bs f ds st)
      | .mk f => toldO (mkO (cf bs f (.opq :: ds) st))
    | none => .bad
  | .bor i e => match (σ[i]?).bind Sl.frz with
    | some d => borFin (evE (σ.set i (.val d)) st e)
    | none => .bad
  | .cnt a e => (evE σ st a).bind fun x st => match x with
    | .lst xs => (evE σ st e).bind fun y st => .of (cntD xs y) st
    | _ => .bad
  | .rev a => (evE σ st a).bind fun x st => .of (revD x) st
def evO (σ : List Sl) (st : Store) : Eo → Out (Option Int)
  | .no => .ok none st
  | .so e => (evE σ st e).bind fun x st => match x with
    | .int i => .ok (some i) st
    | _ => .bad
def evAnd (σ : List Sl) (st : Store) : Es → Out D
  | .nil => .bad
  | .cons e .nil => evE σ st e
  | .cons e es => (evE σ st e).bind fun x st => match x with
    | .bl true => evAnd σ st es
    | .bl false => .ok (.bl false) st
    | _ => .bad
def evOr (σ : List Sl) (st : Store) : Es → Out D
  | .nil => .bad
  | .cons e .nil => evE σ st e
  | .cons e es => (evE σ st e).bind fun x st => match x with
    | .bl true => .ok (.bl true) st
    | .bl false => evOr σ st es
    | _ => .bad
def evEs (σ : List Sl) (st : Store) : Es → Out (List D)
  | .nil => .ok [] st
  | .cons e es => (evE σ st e).bind fun x st => (evEs σ st es).bind fun xs st => .ok (x :: xs) st
def evI (σ : List Sl) (st : Store) : It → Out (List D)
  | .ov e => (evE σ st e).bind fun x st => .of (seqD x) st
  | .r1 a => (evE σ st a).bind fun x st => .of (rg1D x) st
  | .r2 a b => (evE σ st a).bind fun x st => (evE σ st b).bind fun y st => .of (rg2D x y) st
  | .r3 a b c => (evE σ st a).bind fun x st => (evE σ st b).bind fun y st => (evE σ st c).bind fun z st => .of (rg3D x y z) st
  | .zp a b => (evE σ st a).bind fun x st => (evE σ st b).bind fun y st => .of (zpD x y) st
  | .en a => (evE σ st a).bind fun x st => .of ((seqD x).map enumD) st
end
/-- a dict comprehension's turns -/
def dcompL (σ : List Sl) (tg : Tg) (kx vx : List Sl → Store → Out D) : List D → List (D × D) → Store → Out (List (D × D))
  | [], acc, st => .ok acc st
  | x :: xs, acc, st => match bindT σ tg x with
    | none => .bad
    | some σ1 => match kx σ1 st with
      | .ok k st1 => match vx σ1 st1 with
        | .ok v st2 => if keyOk k && szOk (acc.length + 1) then dcompL σ tg kx vx xs (putD acc k v) st2 else .bad
        | _ => .bad
      | _ => .bad
def evR (σ : List Sl) (st : Store) : R → Out Sl
  | .pl e => (evE cf bs σ st e).bind fun d st => .ok (.val d) st
  | .nl es => (evEs cf bs σ st es).bind fun ds st => if szOk ds.length then .ok (.ol ds) st else .bad
  | .nd => .ok (.od []) st
  | .ndc own tg it k v => (evI cf bs σ st it).bind fun xs st => (dcompL (wipeS σ own) tg (fun σ st => evE cf bs σ st k) (fun σ st => evE cf bs σ st v) xs [] st).bind fun kvs st => .ok (.od kvs) st
  | .ncp e => (evE cf bs σ st e).bind fun d st => match d with
    | .dic kvs => if hashOk kvs && szOk kvs.length then .ok (.od kvs) st else .bad
    | _ => .bad
  | .cat i e => match σ[i]? with
    | some (.ol ds) => (evE cf bs σ st e).bind fun d st => match d with
      | .lst xs => if szOk (ds.length + xs.length) then .ok (.ol (ds ++ xs)) st else .bad
      | _ => .bad
    | _ => .bad
def evRs (σ : List Sl) (st : Store) : List R → Out (List Sl)
  | [] => .ok [] st
  | r :: rs => (evR cf bs σ st r).bind fun x st => (evRs σ st rs).bind fun xs st => .ok (x :: xs) st
def setSl (σ : List Sl) : List Nat → List Sl → List Sl
  | i :: is, d :: ds => setSl (σ.set i d) is ds
  | _, _ => σ
end
/-- behind a statement -/
inductive Fl where
  | nx (σ : List Sl) (st : Store)
  | rt (d : D) (st : Store)
  | bk (σ : List Sl) (st : Store)
  | exc (c : Nat) (st : Store)
  | bad
def Out.fl {α : Type} (o : Out α) (f : α → Store → Fl) : Fl := match o with
  | .ok a st => f a st
  | .exc c st => .exc c st
  | .bad => .bad
@[simp] theorem Out.fl_ok {α : Type} (a : α) (st : Store) (f : α → Store → Fl) : (Out.ok a st).fl f = f a st := by rw [Out.fl]
@[simp] theorem Out.fl_exc {α : Type} (c : Nat) (st : Store) (f : α → Store → Fl) : (Out.exc c st : Out α).fl f = .exc c st := by rw [Out.fl]
@[simp] theorem Out.fl_bad {α : Type} (f : α → Store → Fl) : (Out.bad : Out α).fl f = .bad := by rw [Out.fl]
def Fl.seq (r : Fl) (f : List Sl → Store → Fl) : Fl := match r with
  | .nx σ st => f σ st
  | r => r
@[simp] theorem Fl.seq_nx (σ : List Sl) (st : Store) (f : List Sl → Store → Fl) : (Fl.nx σ st).seq f = f σ st := by rw [Fl.seq]
@[simp] theorem Fl.seq_rt (d : D) (st : Store) (f : List Sl → Store → Fl) : (Fl.rt d st).seq f = .rt d st := by
  rw [Fl.seq]
  intro _ _ h; cases h
@[simp] theorem Fl.seq_bk (σ : List Sl) (st : Store) (f : List Sl → Store → Fl) : (Fl.bk σ st).seq f = .bk σ st := by
  rw [Fl.seq]
  intro _ _ h; cases h
@[simp] theorem Fl.seq_exc (c : Nat) (st : Store) (f : List Sl → Store → Fl) : (Fl.exc c st).seq f = .exc c st := by
  rw [Fl.seq]
  intro _ _ h; cases h
@[simp] theorem Fl.seq_bad (f : List Sl → Store → Fl) : Fl.bad.seq f = .bad := by
  rw [Fl.seq]
  intro _ _ h; cases h
/-- the turns of a for -/
def forL (tg : Tg) (body : List Sl → Store → Fl) : List D → List Sl → Store → Fl
  | [], σ, st => .nx σ st
  | x :: xs, σ, st => match bindT σ tg x with
    | none => .bad
    | some σ1 => match body σ1 st with
      | .nx σ2 st2 => forL tg body xs σ2 st2
      | .bk σ2 st2 => .nx σ2 st2
      | r => r
/-- the turns of a while, at most n -/
def whlL (cnd : List Sl → Store → Out D) (body : List Sl → Store → Fl) : Nat → List Sl → Store → Fl
  | 0, _, _ => .bad
  | n + 1, σ, st => (cnd σ st).fl fun x st => match x with
    | .bl true => match body σ st with
      | .nx σ2 st2 => whlL cnd body n σ2 st2
      | .bk σ2 st2 => .nx σ2 st2
      | r => r
    | .bl false => .nx σ st
    | _ => .bad
def appS (i : Nat) (f : List Sl → Store → Out D) (σ : List Sl) (st : Store) : Fl := match σ[i]? with
  | some (.ol ds) => (f σ st).fl fun d st => if szOk (ds.length + 1) then .nx (σ.set i (.ol (ds ++ [d]))) st else .bad
  | _ => .bad
/-- what stands in the store is changed -/
def putCell (n : Nat) (y d : D) (σ : List Sl) (st : Store) : Fl := match st[n]?, y with
  | some (.lst xs), .int j => match ixN xs.length j with
    | some m => if d.rb 0 then .nx σ (st.set n (.lst (xs.set m d))) else .bad
    | none => .bad
  | _, _ => .bad
def setRS (i : Nat) (k e : List Sl → Store → Out D) (σ : List Sl) (st : Store) : Fl := match σ[i]? with
  | some (.val (.ref n)) => (e σ st).fl fun d st => (k σ st).fl fun y st => putCell n y d σ st
  | _ => .bad
def setDS (i : Nat) (k e : List Sl → Store → Out D) (σ : List Sl) (st : Store) : Fl := match σ[i]? with
  | some (.od kvs) => (e σ st).fl fun d st => (k σ st).fl fun y st => if keyOk y && szOk (kvs.length + 1) then .nx (σ.set i (.od (putD kvs y d))) st else .bad
  | _ => .bad
def popS (i j : Nat) (e : List Sl → Store → Out D) (σ : List Sl) (st : Store) : Fl := match σ[j]? with
  | some (.ol ds) => (e σ st).fl fun y st => match y with
    | .int k => match ixN ds.length k with
      | some m => match ds[m]? with
        | some d => if szOk ds.length then .nx ((σ.set j (.ol (ds.eraseIdx m))).set i (.val d)) st else .bad
        | none => .bad
      | none => .bad
    | _ => .bad
  | _ => .bad
/-- an owned list of numbers loses one -/
def remS (i : Nat) (e : List Sl → Store → Out D) (σ : List Sl) (st : Store) : Fl := match σ[i]? with
  | some (.ol ds) => (e σ st).fl fun y st => match y with
    | .int k => match intsD ds with
      | some ns => if ns.contains k then .nx (σ.set i (.ol ((ns.erase k).map .int))) st else .bad
      | none => .bad
    | _ => .bad
  | _ => .bad
section
variable (cf : Nat → Nat → List D → Store → Out D) (wf : Nat) (bs : Nat)
def distinctN : List Nat → Bool
  | [] => true
  | i :: is => !is.contains i && distinctN is
mutual
def evS (σ : List Sl) (st : Store) : S → Fl
  | .hole => .bad
  | .frz i => match σ[i]? with
    | some (.ol ds) => .nx (σ.set i (.val (.lst ds))) st
    | some (.od kvs) => .nx (σ.set i (.val (.dic kvs))) st
    | _ => .bad
  | .asg i r => (evR cf bs σ st r).fl fun x st => .nx (σ.set i x) st
  | .asgC i r => (evR cf bs σ st r).fl fun x st => .nx (σ.set i x) st
  | .asgP is rs => (evRs cf bs σ st rs).fl fun xs st => if is.length = xs.length then .nx (setSl σ is xs) st else .bad
  | .asgQ is rs => (evRs cf bs σ st rs).fl fun xs st => if is.length = xs.length && decide (xs.length ≤ 100) then .nx (setSl σ is xs) st else .bad
  | .asgT is e => (evE cf bs σ st e).fl fun d st => match bindT σ (.tp is) d with
    | some σ1 => .nx σ1 st
    | none => .bad
  | .app i e => appS i (fun σ st => evE cf bs σ st e) σ st
  | .setR i k e => setRS i (fun σ st => evE cf bs σ st k) (fun σ st => evE cf bs σ st e) σ st
  | .setD i k e => setDS i (fun σ st => evE cf bs σ st k) (fun σ st => evE cf bs σ st e) σ st
  | .popT i j e => popS i j (fun σ st => evE cf bs σ st e) σ st
  | .rem i e => remS i (fun σ st => evE cf bs σ st e) σ st
  | .ex e => (evE cf bs σ st e).fl fun _ st => .nx σ st
  | .ret e => (evE cf bs σ st e).fl fun d st => .rt d st
  | .ifs c a b => (evE cf bs σ st c).fl fun x st => match x with
    | .bl true => evSs σ st a
    | .bl false => evSs σ st b
    | _ => .bad
  | .for_ tg it b => (evI cf bs σ st it).fl fun xs st => forL tg (fun σ st => evSs σ st b) xs σ st
  | .whl c b => whlL (fun σ st => evE cf bs σ st c) (fun σ st => evSs σ st b) wf σ st
  | .brk => .bk σ st
  | .pass => .nx σ st
  | .raise c => .exc c st
def evSs (σ : List Sl) (st : Store) : List S → Fl
  | [] => .nx σ st
  | s :: ss => (evS σ st s).seq fun σ st => evSs σ st ss
end
end
def fin (base : Nat) (keep : Bool) : Fl → Out D
  | .rt d st => if keep then .ok d st else if d.rb base then .ok d (st.take base) else .bad
  | .nx _ st => if keep then .ok .non st else .ok .non (st.take base)
  | .exc c st => if keep then .exc c st else .exc c (st.take base)
  | _ => .bad
/-- a program: its defs by number -/
abbrev Prg := Nat → Option Fn
def run (G : Prg) (wf : Nat) : Nat → Nat → Nat → List D → Store → Out D
  | 0, _, _, _, _ => .bad
  | n + 1, bs, f, ds, st => match G f with
    | none => .bad
    | some fn => if ds.length = fn.np then
        fin st.length fn.keep (evSs (run G wf n) wf (if fn.keep then bs else st.length) (ds.map .val ++ List.replicate (fn.ns - fn.np) .un) st fn.body)
      else .bad
end Mn
set_option maxHeartbeats 4000000
namespace Mn
open PySem PySem.Spec PyProof.Rows L2
/-! ## how data lie in the abstract heap -/
/-- a dict at a: its keys (tuples at addresses), its values -/
def DictO (P : Program) (w : World) (a : Addr) (es : List (NestedKey × Addr × V)) : HO := .ext fun h => (a == sysModules) = false ∧ ∃ xs : List (NestedKey × Addr × Value),
  Paired (fun (p : NestedKey × Addr × V) (q : NestedKey × Addr × Value) => p.1 = q.1 ∧ p.2.1 = q.2.1 ∧ RelV p.2.2 q.2.2) es xs ∧
  ∃ o es' ep, h.get? a = some o ∧ o.ExactDict ∧ o.data = .dict es' ep ∧ es'.toList = xs.map (entryOfKey (nestedKind P w)) ∧ (xs.map (·.1)).Nodup
/-- what may stand in the store: lists, dicts, instances -/
def Mt : HO → Prop
  | .lst _ => True
  | .ext _ => True
  | .ins _ _ _ => True
  | _ => False
theorem Mt.mut {o : HO} (h : Mt o) : Mut (some o) := by cases o <;> first | exact True.intro | exact h.elim
theorem Mt.tbl {o : HO} (h : Mt o) : ∀ ps, o ≠ .tbl ps := by rintro ps rfl; exact h
/-- a tuple: tracked, or of the module's text -/
def TupAt (K : PySem.W.Frag) (H : Hp) (a : Addr) (xs : List V) : Prop :=
  H a = some (.tup xs) ∨ ∃ (o : Obj) (its : Array Value) (n : Nat), K.lookup a = some o ∧ o.cls = .type "tuple" ∧ o.data = .seq its n ∧ its.size ≤ sizeLine ∧ Vals xs its.toList
theorem TupAt.sq {K : PySem.W.Frag} {H : Hp} {a : Addr} {xs : List V} (h : TupAt K H a xs) : SqT K H a xs := h.elim (fun h => .inl (.inl h)) .inr
/-- the script: frozen, or of the module's text, or nobody changes it -/
def ScrAt (K : PySem.W.Frag) (F : Addr → Prop) (H : Hp) (a : Addr) (xs : List V) : Prop :=
  (∃ o, H a = some (.frz o (.lst xs))) ∨ (∃ (o : Obj) (its : Array Value) (n : Nat), K.lookup a = some o ∧ o.cls = .type "list" ∧ o.dict = none ∧ o.data = .seq its n ∧ its.size ≤ sizeLine ∧ Vals xs its.toList) ∨ (F a ∧ H a = some (.lst xs))
theorem ScrAt.sq {K : PySem.W.Frag} {F : Addr → Prop} {H : Hp} {a : Addr} {xs : List V} (h : ScrAt K F H a xs) : SqL K H a xs := h.elim (fun h => .inl (.inr h)) fun h => h.elim .inr fun h => .inl (.inl h.2)
section
variable (P : Program) (w : World) (K : PySem.W.Frag)
mutual
inductive Rel (F : Addr → Prop) (H : Hp) (m : List Addr) : D → V → Prop where
  | non : Rel F H m .non .non
  | bl (b : Bool) : Rel F H m (.bl b) (.bl b)
  | int (i : Int) : Rel F H m (.int i) (.int i)
  | str (x : Str) : Rel F H m (.str x) (.str x)
  | tup {a : Addr} {vs : List V} {ds : List D} : TupAt K H a vs → RelL F H m ds vs → Rel F H m (.tup ds) (.ref a)
  | lst {a : Addr} {vs : List V} {ds : List D} : F a → H a = some (.lst vs) → RelL F H m ds vs → Rel F H m (.lst ds) (.ref a)
  | scr {a : Addr} {ns : List Int} : ScrAt K F H a (ns.map V.int) → Rel F H m (.scr ns) (.ref a)
  | dic {a : Addr} {kvs : List (D × D)} {es : List (NestedKey × Addr × V)} : F a → H a = some (DictO P w a es) → RelP F H m kvs es → Rel F H m (.dic kvs) (.ref a)
  | ref {n : Nat} {a : Addr} : m[n]? = some a → Rel F H m (.ref n) (.ref a)
  | opq (v : V) : Rel F H m .opq v
inductive RelL (F : Addr → Prop) (H : Hp) (m : List Addr) : List D → List V → Prop where
  | nil : RelL F H m [] []
  | cons {d : D} {v : V} {ds : List D} {vs : List V} : Rel F H m d v → RelL F H m ds vs → RelL F H m (d :: ds) (v :: vs)
inductive RelP (F : Addr → Prop) (H : Hp) (m : List Addr) : List (D × D) → List (NestedKey × Addr × V) → Prop where
  | nil : RelP F H m [] []
  | cons {k d : D} {nk : NestedKey} {b : Addr} {v : V} {kvs : List (D × D)} {es : List (NestedKey × Addr × V)} : D.nkey k = some nk → nk.depth ≤ 8 → Rel F H m k (.ref b) → Rel F H m d v → RelP F H m kvs es →
      RelP F H m ((k, d) :: kvs) ((nk, b, v) :: es)
end
def CellAt (F : Addr → Prop) (H : Hp) (m : List Addr) (c : Cell) (a : Addr) : Prop := match c with
  | .lst ds => D.rbL 0 ds = true ∧ ∃ vs, H a = some (.lst vs) ∧ RelL P w K F H m ds vs
  | .dic kvs => D.rbP 0 kvs = true ∧ ∃ es, H a = some (DictO P w a es) ∧ RelP P w K F H m kvs es
  | .ins _ _ => False
/-- the store -/
structure SR (T : List (Addr × Str)) (F : Addr → Prop) (H : Hp) (m : List Addr) (st : Store) : Prop where
  len : m.length = st.length
  cell : ∀ (n : Nat) c a, st[n]? = some c → m[n]? = some a → CellAt P w K F H m c a
  nd : m.Nodup
  live : ∀ a, F a → ∃ o, H a = some o ∧ Mt o
  apart : ∀ a ∈ m, ¬ F a
  tabs : LamX.Tabs T H
  codes : ∀ p ∈ T, ∀ ps, H p.1 = some (.tbl ps) → ∀ pos c, codeAmong pos ps.toList = some (.ref c) → F c
end
/-- how the heap goes on: what is frozen stays so, the store's addresses stay and grow by new ones, all else stays -/
structure Evo (F : Addr → Prop) (m : List Addr) (H : Hp) (F' : Addr → Prop) (m' : List Addr) (H' : Hp) : Prop where
  fz : ∀ a, F a → F' a
  pre : ∃ r, m' = m ++ r
  keep : ∀ a o, H a = some o → a ∉ m → (∀ ps, o ≠ .tbl ps) → H' a = some o
  new : ∀ a ∈ m', a ∈ m ∨ H a = none
  newF : ∀ a, F' a → F a ∨ H a = none
  live : ∀ a o, H a = some o → ∃ o', H' a = some o'
theorem Evo.refl {F : Addr → Prop} {m : List Addr} {H : Hp} : Evo F m H F m H := ⟨fun _ h => h, ⟨[], by simp⟩, fun _ _ h _ _ => h, fun _ h => .inl h, fun _ h => .inl h, fun _ o h => ⟨o, h⟩⟩
theorem Evo.none {F F' : Addr → Prop} {m m' : List Addr} {H H' : Hp} (e : Evo F m H F' m' H') {a : Addr} (h : H' a = Option.none) : H a = Option.none := by
  cases q : H a with
  | none => rfl
  | some o => obtain ⟨o', z⟩ := e.live a o q; rw [h] at z; cases z
theorem Evo.trans {F F1 F2 : Addr → Prop} {m m1 m2 : List Addr} {H H1 H2 : Hp} (a : Evo F m H F1 m1 H1) (b : Evo F1 m1 H1 F2 m2 H2) : Evo F m H F2 m2 H2 where
  fz := fun c h => b.fz c (a.fz c h)
  pre := by obtain ⟨r, h⟩ := a.pre; obtain ⟨s, h'⟩ := b.pre; exact ⟨r ++ s, by rw [h', h, List.append_assoc]⟩
  keep := fun c o h n t => b.keep c o (a.keep c o h n t) (fun hm => by
    rcases a.new c hm with z | z
    · exact n z
    · rw [h] at z; cases z) t
  new := fun c h => by
    rcases b.new c h with z | z
    · exact a.new c z
    · exact .inr (a.none z)
  newF := fun c h => by
    rcases b.newF c h with z | z
    · exact a.newF c z
    · exact .inr (a.none z)
  live := fun c o h => by obtain ⟨o1, h1⟩ := a.live c o h; exact b.live c o1 h1
section
variable {P : Program} {w : World} {K : PySem.W.Frag} {T : List (Addr × Str)} {F F' : Addr → Prop} {H H' : Hp} {m m' : List Addr} {st : Store}
theorem SR.mt (S : SR P w K T F H m st) {a : Addr} (ha : a ∈ m) : ∃ o, H a = some o ∧ Mt o := by
  obtain ⟨n, hn, e⟩ := List.getElem_of_mem ha
  have h1 : m[n]? = some a := by rw [← e]; simp [hn]
  have hn' : n < st.length := by rw [← S.len]; exact hn
  have q := S.cell n st[n] a (by simp [hn']) h1
  cases hc : st[n] with
  | lst ds => rw [hc] at q; obtain ⟨_, vs, z, _⟩ := q; exact ⟨_, z, True.intro⟩
  | dic kvs => rw [hc] at q; obtain ⟨_, vs, z, _⟩ := q; exact ⟨_, z, True.intro⟩
  | ins c fs => rw [hc] at q; exact q.elim
theorem SR.nomem (S : SR P w K T F H m st) {a : Addr} {o : HO} (h : H a = some o) (n : ¬ Mt o) : a ∉ m := fun ha => by
  obtain ⟨o', h', t⟩ := S.mt ha
  rw [h] at h'; cases h'; exact n t
/-- relations go on -/
structure Mono (F : Addr → Prop) (m : List Addr) (H : Hp) (F' : Addr → Prop) (m' : List Addr) (H' : Hp) : Prop where
  fz : ∀ a, F a → F' a
  fh : ∀ a o, F a → H a = some o → H' a = some o
  tp : ∀ a xs, H a = some (.tup xs) → H' a = some (.tup xs)
  fr : ∀ a o u, H a = some (.frz o u) → H' a = some (.frz o u)
  pre : ∃ r, m' = m ++ r
theorem Evo.mono (e : Evo F m H F' m' H') (S : SR P w K T F H m st) : Mono F m H F' m' H' where
  fz := e.fz
  fh := fun a o hF h => e.keep a o h (fun hm => S.apart a hm hF) (fun ps z => by
    obtain ⟨o', h', t⟩ := S.live a hF
    rw [h] at h'; cases h'; rw [z] at t; exact t)
  tp := fun a xs h => e.keep a _ h (S.nomem h id) (fun ps z => nomatch z)
  fr := fun a o u h => e.keep a _ h (S.nomem h id) (fun ps z => nomatch z)
  pre := e.pre
theorem Mono.sqT (M : Mono F m H F' m' H') {a : Addr} {vs : List V} (h : TupAt K H a vs) : TupAt K H' a vs := by
  rcases h with h | h
  · exact .inl (M.tp a vs h)
  · exact .inr h
mutual
theorem Rel.mono (M : Mono F m H F' m' H') : ∀ {d : D} {v : V}, Rel P w K F H m d v → Rel P w K F' H' m' d v
  | _, _, .non => .non
  | _, _, .bl b => .bl b
  | _, _, .int i => .int i
  | _, _, .str x => .str x
  | _, _, .tup h r => .tup (M.sqT h) (RelL.mono M r)
  | _, _, .lst hF h r => .lst (M.fz _ hF) (M.fh _ _ hF h) (RelL.mono M r)
  | _, _, .scr h => .scr (h.elim (fun ⟨o, h⟩ => .inl ⟨o, M.fr _ _ _ h⟩) fun h => .inr (h.elim .inl fun h => .inr ⟨M.fz _ h.1, M.fh _ _ h.1 h.2⟩))
  | _, _, .dic hF h r => .dic (M.fz _ hF) (M.fh _ _ hF h) (RelP.mono M r)
  | _, _, .ref h => .ref (by
      obtain ⟨r, e⟩ := M.pre
      rw [e, List.getElem?_append_left (List.getElem?_eq_some_iff.mp h).1]; exact h)
  | _, _, .opq v => .opq v
theorem RelL.mono (M : Mono F m H F' m' H') : ∀ {ds : List D} {vs : List V}, RelL P w K F H m ds vs → RelL P w K F' H' m' ds vs
  | _, _, .nil => .nil
  | _, _, .cons h r => .cons (Rel.mono M h) (RelL.mono M r)
theorem RelP.mono (M : Mono F m H F' m' H') : ∀ {ds : List (D × D)} {vs : List (NestedKey × Addr × V)}, RelP P w K F H m ds vs → RelP P w K F' H' m' ds vs
  | _, _, .nil => .nil
  | _, _, .cons h1 h2 h3 h4 r => .cons h1 h2 (Rel.mono M h3) (Rel.mono M h4) (RelP.mono M r)
end
theorem CellAt.mono (M : Mono F m H F' m' H') {c : Cell} {a : Addr} (hh : H' a = H a) (h : CellAt P w K F H m c a) : CellAt P w K F' H' m' c a := by
  cases c with
  | lst ds => obtain ⟨nb, vs, z, r⟩ := h; exact ⟨nb, vs, by rw [hh]; exact z, r.mono M⟩
  | dic ds => obtain ⟨nb, vs, z, r⟩ := h; exact ⟨nb, vs, by rw [hh]; exact z, r.mono M⟩
  | ins c fs => exact h.elim
theorem RelL.length : ∀ {ds : List D} {vs : List V}, RelL P w K F H m ds vs → ds.length = vs.length
  | _, _, .nil => rfl
  | _, _, .cons _ r => by simp [r.length]
theorem RelL.get : ∀ {ds : List D} {vs : List V} {i : Nat} {d : D}, RelL P w K F H m ds vs → ds[i]? = some d → ∃ v, vs[i]? = some v ∧ Rel P w K F H m d v
  | _, _, _, _, .nil, e => by simp at e
  | _, _, 0, _, .cons r _, e => by simp at e; subst e; exact ⟨_, rfl, r⟩
  | _, _, i + 1, _, .cons _ t, e => by
    obtain ⟨u, h1, h2⟩ := RelL.get (i := i) t (by simpa using e)
    exact ⟨u, by simpa using h1, h2⟩
theorem RelL.append : ∀ {xs ys : List D} {us ws : List V}, RelL P w K F H m xs us → RelL P w K F H m ys ws → RelL P w K F H m (xs ++ ys) (us ++ ws)
  | _, _, _, _, .nil, s => s
  | _, _, _, _, .cons r t, s => .cons r (RelL.append t s)
theorem RelL.take : ∀ {xs : List D} {us : List V} (n : Nat), RelL P w K F H m xs us → RelL P w K F H m (xs.take n) (us.take n)
  | _, _, 0, _ => by simp; exact .nil
  | _, _, _ + 1, .nil => by simp; exact .nil
  | _, _, n + 1, .cons r t => by simp; exact .cons r (RelL.take n t)
theorem RelL.drop : ∀ {xs : List D} {us : List V} (n : Nat), RelL P w K F H m xs us → RelL P w K F H m (xs.drop n) (us.drop n)
  | _, _, 0, r => by simpa using r
  | _, _, _ + 1, .nil => by simp; exact .nil
  | _, _, n + 1, .cons _ t => by simp; exact RelL.drop n t
theorem RelL.set {d : D} {v : V} (h : Rel P w K F H m d v) : ∀ {xs : List D} {us : List V} (n : Nat), RelL P w K F H m xs us → RelL P w K F H m (xs.set n d) (us.set n v)
  | _, _, _, .nil => by simp; exact .nil
  | _, _, 0, .cons r t => by simp; exact .cons h t
  | _, _, n + 1, .cons r t => by simp; exact .cons r (RelL.set h n t)
theorem RelL.eraseIdx : ∀ {xs : List D} {us : List V} (n : Nat), RelL P w K F H m xs us → RelL P w K F H m (xs.eraseIdx n) (us.eraseIdx n)
  | _, _, _, .nil => by simp; exact .nil
  | _, _, 0, .cons r t => by simpa using t
  | _, _, n + 1, .cons r t => by simp; exact .cons r (RelL.eraseIdx n t)
theorem RelL.replicate {xs : List D} {us : List V} (h : RelL P w K F H m xs us) : ∀ n : Nat, RelL P w K F H m (List.replicate n xs).flatten (List.replicate n us).flatten
  | 0 => by simp; exact .nil
  | n + 1 => by simp only [List.replicate_succ, List.flatten_cons]; exact h.append (RelL.replicate h n)
mutual
theorem Rel.any {F : Addr → Prop} {H : Hp} {m m' : List Addr} {b : Nat} (hm : ∀ n a, n < b → m[n]? = some a → m'[n]? = some a) : ∀ {d : D} {v : V}, Rel P w K F H m d v → D.rb b d = true → Rel P w K F H m' d v
  | _, _, .non, _ => .non
  | _, _, .bl b, _ => .bl b
  | _, _, .int i, _ => .int i
  | _, _, .str x, _ => .str x
  | _, _, .tup h r, q => .tup h (RelL.any hm r (by rw [D.rb] at q; exact q))
  | _, _, .lst hF h r, q => .lst hF h (RelL.any hm r (by rw [D.rb] at q; exact q))
  | _, _, .scr h, _ => .scr h
  | _, _, .dic hF h r, q => .dic hF h (RelP.any hm r (by rw [D.rb] at q; exact q))
  | _, _, .ref (n := n) h, q => .ref (hm n _ (by rw [D.rb] at q; exact of_decide_eq_true q) h)
  | _, _, .opq v, _ => .opq v
theorem RelL.any {F : Addr → Prop} {H : Hp} {m m' : List Addr} {b : Nat} (hm : ∀ n a, n < b → m[n]? = some a → m'[n]? = some a) : ∀ {ds : List D} {vs : List V}, RelL P w K F H m ds vs → D.rbL b ds = true → RelL P w K F H m' ds vs
  | _, _, .nil, _ => .nil
  | _, _, .cons h r, q => by
    rw [D.rbL, Bool.and_eq_true] at q
    exact .cons (Rel.any hm h q.1) (RelL.any hm r q.2)
theorem RelP.any {F : Addr → Prop} {H : Hp} {m m' : List Addr} {b : Nat} (hm : ∀ n a, n < b → m[n]? = some a → m'[n]? = some a) : ∀ {ds : List (D × D)} {vs : List (NestedKey × Addr × V)}, RelP P w K F H m ds vs → D.rbP b ds = true → RelP P w K F H m' ds vs
  | _, _, .nil, _ => .nil
  | _, _, .cons h1 h2 h3 h4 r, q => by
    rw [D.rbP, Bool.and_eq_true, Bool.and_eq_true] at q
    exact .cons h1 h2 (Rel.any hm h3 q.1) (Rel.any hm h4 q.2.1) (RelP.any hm r q.2.2)
end
theorem any0 {m m' : List Addr} : ∀ (n : Nat) (a : Addr), n < 0 → m[n]? = some a → m'[n]? = some a := fun n _ h => absurd h (Nat.not_lt_zero n)
/-- a new object that is not of the store -/
theorem SR.grow {p : Addr} {o : HO} (S : SR P w K T F H m st) (hp : H p = none) (hF : ∀ a, F' a ↔ F a ∨ (a = p ∧ Mt o ∧ F' p)) : Evo F m H F' m (upd H p o) ∧ SR P w K T F' (upd H p o) m st := by
  have ne : ∀ a o', H a = some o' → a ≠ p := fun a o' h => ne_of_none h hp
  have nm : p ∉ m := fun hm => by obtain ⟨o', h, _⟩ := S.mt hm; rw [hp] at h; cases h
  have e : Evo F m H F' m (upd H p o) := by
    refine ⟨fun a h => (hF a).mpr (.inl h), ⟨[], by simp⟩, fun a o' h _ _ => by rw [upd_ne (ne a o' h)]; exact h, fun a h => .inl h, fun a h => ?_, fun a o' h => ⟨o', by rw [upd_ne (ne a o' h)]; exact h⟩⟩
    rcases (hF a).mp h with z | ⟨z, _⟩
    · exact .inl z
    · rw [z]; exact .inr hp
  refine ⟨e, S.len, fun n c a h1 h2 => ?_, S.nd, fun a h => ?_, fun a ha h => ?_, S.tabs.ext fun b o' h => by rw [upd_ne (ne b o' h)]; exact h, fun q hq ps hps pos c hc => ?_⟩
  · have ha : a ∈ m := List.mem_of_getElem? h2
    exact (S.cell n c a h1 h2).mono (e.mono S) (upd_ne fun z => nm (z ▸ ha))
  · rcases (hF a).mp h with z | ⟨z, t, _⟩
    · obtain ⟨o', h', t⟩ := S.live a z
      exact ⟨o', by rw [upd_ne (ne a o' h')]; exact h', t⟩
    · rw [z]; exact ⟨o, upd_same, t⟩
  · rcases (hF a).mp h with z | ⟨z, _⟩
    · exact S.apart a ha z
    · exact nm (z ▸ ha)
  · obtain ⟨qs, h1, _⟩ := S.tabs q hq
    rw [upd_ne (ne _ _ h1), h1] at hps
    cases hps
    exact e.fz c (S.codes q hq _ h1 pos c hc)
theorem SR.newT {p : Addr} {ds : List D} {vs : List V} (S : SR P w K T F H m st) (hp : H p = none) (r : RelL P w K F H m ds vs) :
    Evo F m H F m (upd H p (.tup vs)) ∧ SR P w K T F (upd H p (.tup vs)) m st ∧ Rel P w K F (upd H p (.tup vs)) m (.tup ds) (.ref p) := by
  obtain ⟨e, s⟩ := S.grow (F' := F) (o := .tup vs) hp (fun a => ⟨.inl, fun h => h.elim id fun z => z.2.1.elim⟩)
  exact ⟨e, s, .tup (.inl upd_same) (r.mono (e.mono S))⟩
def addF (F : Addr → Prop) (p : Addr) : Addr → Prop := fun a => F a ∨ a = p
theorem SR.newL {p : Addr} {ds : List D} {vs : List V} (S : SR P w K T F H m st) (hp : H p = none) (r : RelL P w K F H m ds vs) :
    Evo F m H (addF F p) m (upd H p (.lst vs)) ∧ SR P w K T (addF F p) (upd H p (.lst vs)) m st ∧ Rel P w K (addF F p) (upd H p (.lst vs)) m (.lst ds) (.ref p) := by
  obtain ⟨e, s⟩ := S.grow (F' := addF F p) (o := .lst vs) hp (fun a => ⟨fun h => h.elim .inl fun z => .inr ⟨z, True.intro, .inr rfl⟩, fun h => h.elim .inl fun z => .inr z.1⟩)
  exact ⟨e, s, .lst (.inr rfl) upd_same (r.mono (e.mono S))⟩
/-- a new object that nobody shares -/
theorem SR.newO {p : Addr} {o : HO} (S : SR P w K T F H m st) (hp : H p = none) : Evo F m H F m (upd H p o) ∧ SR P w K T F (upd H p o) m st :=
  S.grow (F' := F) hp (fun a => ⟨.inl, fun h => h.elim id fun z => by
    obtain ⟨o', h', _⟩ := S.live p z.2.2
    rw [hp] at h'; cases h'⟩)
/-- an object that nobody shares is changed -/
theorem Mono.own {a : Addr} {o o' : HO} (h : H a = some o) (t : Mt o) (nF : ¬ F a) : Mono F m H F m (upd H a o') where
  fz := fun _ h => h
  fh := fun b u hF hb => by rw [upd_ne (show b ≠ a from fun z => nF (z ▸ hF))]; exact hb
  tp := fun b xs hb => by rw [upd_ne (show b ≠ a from fun z => by rw [z, h] at hb; cases hb; exact t)]; exact hb
  fr := fun b u v hb => by rw [upd_ne (show b ≠ a from fun z => by rw [z, h] at hb; cases hb; exact t)]; exact hb
  pre := ⟨[], by simp⟩
theorem SR.own {a : Addr} {o o' : HO} (S : SR P w K T F H m st) (h : H a = some o) (t : Mt o) (nm : a ∉ m) (nF : ¬ F a) : SR P w K T F (upd H a o') m st := by
  have M := Mono.own (F := F) (m := m) (o' := o') h t nF
  have tb : ∀ p ∈ T, ∀ ps, H p.1 = some (.tbl ps) → p.1 ≠ a := fun p hp ps hps z => by rw [z, h] at hps; cases hps; exact t
  refine ⟨S.len, fun n c b h1 h2 => (S.cell n c b h1 h2).mono M (upd_ne fun z => nm (z ▸ List.mem_of_getElem? h2)), S.nd, fun b hF => ?_, S.apart, fun p hp => ?_, fun p hp ps hps pos c hc => ?_⟩
  · obtain ⟨u, hu, tu⟩ := S.live b hF
    exact ⟨u, by rw [upd_ne (show b ≠ a from fun z => nF (z ▸ hF))]; exact hu, tu⟩
  · obtain ⟨ps, h1, h2, h3⟩ := S.tabs p hp
    refine ⟨ps, by rw [upd_ne (tb p hp ps h1)]; exact h1, h2, fun pos cv hc => ?_⟩
    obtain ⟨c, rfl, e2⟩ := h3 pos cv hc
    exact ⟨c, rfl, by rw [upd_ne (show c ≠ a from fun z => nF (z ▸ S.codes p hp ps h1 pos c hc))]; exact e2⟩
  · obtain ⟨qs, h1, _⟩ := S.tabs p hp
    rw [upd_ne (tb p hp qs h1)] at hps
    exact S.codes p hp ps hps pos c hc
end
end Mn
set_option maxHeartbeats 4000000
namespace Mn
open PySem PySem.Spec PyProof.Rows L2
/-! ## refusals: the classes, _law_term, _law_told -/
def isE (c : Str) (e : Expr) : Bool := match e with
  | .Call (.Name x _) [.Name y _, .Name z _] [] _ => decide (x = "isinstance") && (decide (y = "e") && decide (z = c))
  | _ => false
def isEs : List Nat → List Expr → Bool
  | [], [] => true
  | j :: js, e :: es => isE (exN j) e && isEs js es
  | _, _ => false
def strEs : List Nat → List Expr → Bool
  | [], [] => true
  | j :: js, .Constant (.str x) _ _ :: es => decide (x = exN j) && strEs js es
  | _, _ => false
def fnK (sc : Scope) : Bool := match sc.kind with
  | .function => true
  | _ => false
theorem fnK_ok {sc : Scope} (h : fnK sc = true) : sc.kind = .function := by
  unfold fnK at h
  split at h
  · assumption
  · cases h
def flagSc (sc : Scope) : Bool := fnK sc && decide (sc.names = [((".0" : Str), NameKind.local), (("flag" : Str), NameKind.local), (("int" : Str), NameKind.globalImplicit)])
/-- the body of _law_term -/
def mTerm (b : List Stmt) : Bool := match b with
  | [.Assign [.Name f1 _] (.List e1 _) _, .Assign [.Name f2 _] (.BinOp (.Name f3 _) .Add (.List e2 _) _) _, .Assign [.Name f4 _] (.BinOp (.Name f5 _) .Add (.List e3 _) _) _, .Assign [.Name f6 _] (.BinOp (.Name f7 _) .Add (.List e4 _) _) _,
      .Assign [.Name k1 _] (.List l1 _) _, .Assign [.Name k2 _] (.BinOp (.Name k3 _) .Add (.List l2 _) _) _,
      .If (.BoolOp .Or [.Compare (.Call (.Name sm _) [.ListComp (.Call (.Name it _) [.Name fl _] [] _) [⟨.Name fl2 _, .Name f8 _, [], 0⟩] sc _] [] _) [.NotEq] [.Constant (.int one) _ _] _, .UnaryOp .Not iv _] _) [.Return (some _) _] [] _,
      .Return (some (.Tuple [.Constant (.str rf) _ _, .Subscript (.Name k4 _) (.Call (.Attribute (.Name f9 _) ix ap) [.Constant (.bool true) _ _] [] cp) _] _ _)) _] =>
    decide (f1 = "flags") && (decide (f2 = "flags") && (decide (f3 = "flags") && (decide (f4 = "flags") && (decide (f5 = "flags") && (decide (f6 = "flags") && (decide (f7 = "flags") && (decide (f8 = "flags") && (decide (f9 = "flags") && (decide (k1 = "kinds") && (decide (k2 = "kinds") && (decide (k3 = "kinds") && (decide (k4 = "kinds") &&
    (isEs [0, 1, 2, 3] e1 && (isEs [4, 5, 6] e2 && (isEs [7, 8, 9] e3 && (isEs [10, 11, 12] e4 && (strEs [0, 1, 2, 3, 4, 5, 6, 7] l1 && (strEs [8, 9, 10, 11, 12] l2 && (decide (sm = "sum") && (decide (it = "int") && (decide (fl = "flag") && (decide (fl2 = "flag") && (decide (one = 1) && (isE "ValueError" iv && (flagSc sc && (decide (rf = "refused") && (decide (ix = "index") && (ap.endLine == cp.line))))))))))))))))))))))))))))
  | _ => false
/-- what the refusals' classes say -/
structure ClsF (K : PySem.W.Frag) (mg : Str → Option Value) (cl : Nat → Addr) (ce : Addr) : Prop where
  gl : ∀ j, j < 13 → mg (exN j) = some (.ref (cl j))
  me : mg "CoachError" = some (.ref ce)
  exc : ∀ j, j < 13 → PySem.W.excIn K (cl j) He.veBase "ValueError.__new__" = true
  kp : ∀ j, j < 13 → PySem.W.keepIn K (.ref (cl j)) = true
  sb : ∀ j, j < 13 → PySem.W.subIn K (.ref (cl j)) (.type "BaseException") = some true
  ty : ∀ j, j < 13 → PySem.W.typeIn K (.ref (cl j)) = some (.type "type")
  ec : ∀ j, j < 13 → ExcC K (cl j)
  kit : ∀ i, i < 13 → ∀ j, j < 13 → PySem.W.kitOne K (.ref (cl i)) (.ref (cl j)) = some (decide (j = i))
  ve : ∀ i, i < 13 → PySem.W.kitOne K (.ref (cl i)) (.type "ValueError") = some true
  exm : ∀ i, i < 13 → PySem.W.exmOne K (.ref (cl i)) (.ref ce) = some true
  fi : mg "isinstance" = none
  fs : mg "sum" = none
  ft : mg "int" = none
  fv : mg "ValueError" = none
def glB2 (sc : Scope) (x : Str) : Bool := decide (sc.names.lookup x = some .globalImplicit)
/-- the scope of _law_term -/
def termSc (sc : Scope) : Bool := decide (sc.names.lookup ("e" : Str) = some .local) && (decide (sc.names.lookup ("flags" : Str) = some .local) && (decide (sc.names.lookup ("kinds" : Str) = some .local) && ((List.range 13).all (fun j => glB2 sc (exN j)) && (glB2 sc "isinstance" && (glB2 sc "sum" && glB2 sc "ValueError")))))
/-- the def _law_term -/
structure TermD (K : PySem.W.Frag) (mg : Str → Option Value) (f : Addr) (fd : FuncData) (params : Arguments) (body : List Stmt) (scope : Scope) : Prop where
  gl : mg "_law_term" = some (.ref f)
  fn : FunD K "_law_term" "_law_term" params body scope [] [] f fd
  sc : FnScope [("e" : Str), "flags", "kinds"] [("e" : Str)] scope
  ts : termSc scope = true
  bd : Binds K fd [("e" : Str)] []
  mt : mTerm body = true
/-- the body of _law_told -/
def mTold (b : List Stmt) : Bool := match b with
  | [.Try [.Return (some (.Call (.Name d1 _) [] [] _)) _] [.ExceptHandler (some (.Name ce _)) (some e1) [.Return (some (.Call (.Name tm _) [.Name e2 _] [] _)) _] _] [] [] _] =>
    decide (d1 = "deed") && (decide (ce = "CoachError") && (decide (e1 = "e") && (decide (tm = "_law_term") && decide (e2 = "e"))))
  | _ => false
def toldSc (sc : Scope) : Bool := decide (sc.names.lookup ("deed" : Str) = some .local) && (decide (sc.names.lookup ("e" : Str) = some .local) && (glB2 sc "CoachError" && glB2 sc "_law_term"))
structure ToldD (K : PySem.W.Frag) (mg : Str → Option Value) (g : Addr) (fd : FuncData) (params : Arguments) (body : List Stmt) (scope : Scope) : Prop where
  gl : mg "_law_told" = some (.ref g)
  fn : FunD K "_law_told" "_law_told" params body scope [] [] g fd
  sc : FnScope [("deed" : Str), "e"] [("deed" : Str)] scope
  ts : toldSc scope = true
  bd : Binds K fd [("deed" : Str)] []
  mt : mTold body = true
end Mn
set_option maxHeartbeats 4000000
namespace Mn
open PySem PySem.Spec PyProof.Rows L2
/-- what links the small program with the text -/
structure Lk where
  G : Prg
  wf : Nat
  on : Nat → Bool
  nm : Nat → Str
  ad : Nat → Addr
  fd : Nat → FuncData
  ps : Nat → List Str
  cl : Nat → Addr
  ex : Bool
  tc : Bool
  tb : Nat → Addr
  ql : Nat → Str
  om : Nat → Bool
  cn : Nat → Str
  gl : List (Str × D)
  T : List (Addr × Str)
section
variable (L : Lk) (P : Program) (w : World) (K : PySem.W.Frag)
/-- what is wanted behind a piece of the evaluator -/
def Post {α : Type} (o : Out α) (F : Addr → Prop) (m : List Addr) (H : Hp) (Z : α → Store → (Addr → Prop) → List Addr → Hp → Prop) (E : XK) : Prop := match o with
  | .ok a st => ∀ H' F' m', Evo F m H F' m' H' → SR P w K L.T F' H' m' st → Z a st F' m' H'
  | .exc c st => ∀ H' F' m', Evo F m H F' m' H' → SR P w K L.T F' H' m' st → E (.ref (L.cl c)) none H'
  | .bad => False
def PostV (o : Out D) (F : Addr → Prop) (m : List Addr) (H : Hp) (Q : VK) (E : XK) : Prop := Post L P w K o F m H (fun d _ F' m' H' => ∀ v, Rel P w K F' H' m' d v → Q v H') E
/-- a def's promise -/
def spF (n f : Nat) : Sp := fun vs H Q E => ∃ ds F m st bs, RelL P w K F H m ds vs ∧ SR P w K L.T F H m st ∧ ds.length = (L.ps f).length ∧ PostV L P w K (run L.G L.wf n bs f ds st) F m H Q E
structure LinkOk (mg : Str → Option Value) (base : Heap) (n : Nat) : Prop where
  fn : ∀ f, L.on f = true → mg (L.nm f) = some (.ref (L.ad f)) ∧ PySem.W.keepIn K (.ref (L.ad f)) = true ∧ Binds K (L.fd f) (L.ps f) [] ∧ FnOk P w K mg base (L2N.CX P w) (4 * n) (L.ad f) (L.fd f) (L.ps f) (spF L P w K n f)
  gl : ∀ x d, (x, d) ∈ L.gl → ∃ u v, mg x = some u ∧ RelV v u ∧ ∀ F H m, Rel P w K F H m d v
  free : ∀ x ∈ ["isinstance", "int", "bool", "tuple", "list", "dict", "str", "len", "all", "any", "sum", "max", "min", "range", "zip", "enumerate", "sorted", "set"], mg (Str.ofString x) = none
  cls : L.ex = true → ∃ ce, ClsF K mg L.cl ce
  told : L.tc = true → ∃ ce ft fdt pt bt st g fdg pg bg sg, ClsF K mg L.cl ce ∧ TermD K mg ft fdt pt bt st ∧ ToldD K mg g fdg pg bg sg
  mak : ∀ f, L.om f = true → ∃ C, mg (L.cn f) = some (.ref C) ∧ Mk K C (L.ad f) ∧ Binds K (L.fd f) (L.ps f) [] ∧ FnOk P w K mg base (L2N.CX P w) (4 * n) (L.ad f) (L.fd f) (L.ps f) (spF L P w K n f)
  tab : L.tc = true → ∀ f, (L.on f || L.om f) = true → ∃ c, (L.fd f).code = .ref c ∧ LamX.TabB base mg c (L.tb f) ∧ (L.tb f, L.ql f ++ ".<locals>." ++ "<lambda>") ∈ L.T ∧ ∀ p ∈ L.T, p.1 = L.tb f → p.2 = L.ql f ++ ".<locals>." ++ "<lambda>"
end
/-- the slots -/
def SlotAt (P : Program) (w : World) (K : PySem.W.Frag) (H0 : Hp) (F : Addr → Prop) (H : Hp) (m : List Addr) (s : Sl) (v : Option (Option V)) : Prop := match s with
  | .un => True
  | .val d => ∃ x, v = some (some x) ∧ Rel P w K F H m d x
  | .ol ds => ∃ a vs, v = some (some (.ref a)) ∧ H a = some (.lst vs) ∧ RelL P w K F H m ds vs ∧ H0 a = none ∧ a ∉ m ∧ ¬ F a
  | .od kvs => ∃ a es, v = some (some (.ref a)) ∧ H a = some (DictO P w a es) ∧ RelP P w K F H m kvs es ∧ H0 a = none ∧ a ∉ m ∧ ¬ F a
def Sl.own : Sl → Bool
  | .ol _ => true
  | .od _ => true
  | _ => false
structure FR (P : Program) (w : World) (K : PySem.W.Frag) (H0 : Hp) (F : Addr → Prop) (H : Hp) (m : List Addr) (sa : List Sl) (σ : L2.St) : Prop where
  len : sa.length = σ.length
  slot : ∀ (i : Nat) s, sa[i]? = some s → SlotAt P w K H0 F H m s (σ[i]?)
  apart : ∀ (i j : Nat) s t a, sa[i]? = some s → sa[j]? = some t → s.own = true → t.own = true → σ[i]? = some (some (.ref a)) → σ[j]? = some (some (.ref a)) → i = j
section
variable {L : Lk} {P : Program} {w : World} {K : PySem.W.Frag} {T : List (Addr × Str)} {F F' : Addr → Prop} {H H' H0 : Hp} {m m' : List Addr} {st : Store} {sa : List Sl} {σ : L2.St}
theorem SlotAt.evo (e : Evo F m H F' m' H') (S : SR P w K T F H m st) {s : Sl} {v : Option (Option V)} (h : SlotAt P w K H0 F H m s v) : SlotAt P w K H0 F' H' m' s v := by
  have M := e.mono S
  have own : ∀ {a : Addr} {o : HO}, H a = some o → (∀ ps, o ≠ .tbl ps) → a ∉ m → ¬ F a → H' a = some o ∧ a ∉ m' ∧ ¬ F' a := fun {a o} h1 h2 h3 h4 => by
    refine ⟨e.keep a o h1 h3 h2, fun hm => ?_, fun hF => ?_⟩
    · rcases e.new a hm with z | z
      · exact h3 z
      · rw [h1] at z; cases z
    · rcases e.newF a hF with z | z
      · exact h4 z
      · rw [h1] at z; cases z
  cases s with
  | un => exact True.intro
  | val d => obtain ⟨x, h1, r⟩ := h; exact ⟨x, h1, r.mono M⟩
  | ol ds =>
    obtain ⟨a, vs, h1, h2, r, h3, h4, h5⟩ := h
    obtain ⟨q1, q2, q3⟩ := own h2 (fun ps z => nomatch z) h4 h5
    exact ⟨a, vs, h1, q1, r.mono M, h3, q2, q3⟩
  | od ds =>
    obtain ⟨a, vs, h1, h2, r, h3, h4, h5⟩ := h
    obtain ⟨q1, q2, q3⟩ := own h2 (fun ps z => nomatch z) h4 h5
    exact ⟨a, vs, h1, q1, r.mono M, h3, q2, q3⟩
theorem FR.evo (f : FR P w K H0 F H m sa σ) (e : Evo F m H F' m' H') (S : SR P w K T F H m st) : FR P w K H0 F' H' m' sa σ := ⟨f.len, fun i s h => (f.slot i s h).evo e S, f.apart⟩
theorem FR.un (f : FR P w K H0 F H m sa σ) (i : Nat) : FR P w K H0 F H m (sa.set i .un) σ := by
  refine ⟨by simpa using f.len, fun j s h => ?_, fun j k s t a h1 h2 o1 o2 h3 h4 => ?_⟩
  · rw [List.getElem?_set] at h
    split at h
    · split at h
      · cases h; exact True.intro
      · cases h
    · exact f.slot j s h
  · have g : ∀ {j : Nat} {s : Sl}, (sa.set i .un)[j]? = some s → s.own = true → sa[j]? = some s := fun {j s} h o => by
      rw [List.getElem?_set] at h
      split at h
      · split at h
        · cases h; cases o
        · cases h
      · exact h
    exact f.apart j k s t a (g h1 o1) (g h2 o2) o1 o2 h3 h4
theorem FR.set {i : Nat} {d : D} {v : V} (f : FR P w K H0 F H m sa σ) (r : Rel P w K F H m d v) : FR P w K H0 F H m (sa.set i (.val d)) (σ.set i (some v)) := by
  refine ⟨by simpa using f.len, fun j s h => ?_, fun j k s t a h1 h2 o1 o2 h3 h4 => ?_⟩
  · rw [List.getElem?_set] at h
    by_cases e : i = j
    · subst e
      rw [if_pos rfl] at h
      split at h
      · rename_i hl
        cases h
        exact ⟨v, by rw [List.getElem?_set_self (by rw [← f.len]; exact hl)], r⟩
      · cases h
    · rw [if_neg e] at h
      rw [List.getElem?_set_ne e]
      exact f.slot j s h
  · have g : ∀ {j : Nat} {s : Sl}, (sa.set i (.val d))[j]? = some s → s.own = true → i ≠ j ∧ sa[j]? = some s := fun {j s} h o => by
      rw [List.getElem?_set] at h
      by_cases e : i = j
      · rw [if_pos e] at h
        split at h
        · cases h; cases o
        · cases h
      · rw [if_neg e] at h
        exact ⟨e, h⟩
    obtain ⟨n1, g1⟩ := g h1 o1
    obtain ⟨n2, g2⟩ := g h2 o2
    rw [List.getElem?_set_ne n1] at h3
    rw [List.getElem?_set_ne n2] at h4
    exact f.apart j k s t a g1 g2 o1 o2 h3 h4
theorem FR.wipe (f : FR P w K H0 F H m sa σ) : ∀ is : List Nat, FR P w K H0 F H m (wipeS sa is) σ := by
  intro is
  induction is generalizing sa with
  | nil => exact f
  | cons i is ih => exact ih (f.un i)
/-- slots that are none in σ may be forgotten -/
theorem Post.bind {α β : Type} {o : Out α} {f : α → Store → Out β} {Z : β → Store → (Addr → Prop) → List Addr → Hp → Prop} {E : XK} (h : Post L P w K (o.bind f) F m H Z E) :
    Post L P w K o F m H (fun a st F1 m1 H1 => Post L P w K (f a st) F1 m1 H1 Z E) E := by
  cases o with
  | bad => exact h
  | exc c st => exact h
  | ok a st =>
    intro H1 F1 m1 e1 s1
    have h : Post L P w K (f a st) F m H Z E := h
    show Post L P w K (f a st) F1 m1 H1 Z E
    cases hf : f a st with
    | bad => rw [hf] at h; exact h
    | exc c st2 => rw [hf] at h; exact fun H2 F2 m2 e2 s2 => h H2 F2 m2 (e1.trans e2) s2
    | ok b st2 => rw [hf] at h; exact fun H2 F2 m2 e2 s2 => h H2 F2 m2 (e1.trans e2) s2
theorem Post.imp {α : Type} {o : Out α} {Z Z' : α → Store → (Addr → Prop) → List Addr → Hp → Prop} {E : XK} (h : Post L P w K o F m H Z E)
    (f : ∀ a st F' m' H', Evo F m H F' m' H' → SR P w K L.T F' H' m' st → Z a st F' m' H' → Z' a st F' m' H') : Post L P w K o F m H Z' E := by
  cases o with
  | bad => exact h
  | exc c st => exact h
  | ok a st => exact fun H1 F1 m1 e1 s1 => f a st F1 m1 H1 e1 s1 (h H1 F1 m1 e1 s1)
theorem Post.of {α : Type} {o : Option α} {st : Store} {Z : α → Store → (Addr → Prop) → List Addr → Hp → Prop} {E : XK} (h : Post L P w K (.of o st) F m H Z E) :
    ∃ a, o = some a ∧ ∀ H' F' m', Evo F m H F' m' H' → SR P w K L.T F' H' m' st → Z a st F' m' H' := by
  cases o with
  | none => exact h.elim
  | some a => exact ⟨a, rfl, h⟩
end
/-- a place where evaluation goes on -/
structure Good0 (L : Lk) (X : Cx) (n : Nat) (W : WX) : Prop where
  room : Room (4 * n) X.A
  calm : X.calm = true
  nd : X.N.Nodup
  tk : L2N.Takes X W
  link : LinkOk L X.prog X.w X.K X.mg X.base n
/-- where a lambda may be made -/
structure Cap (L : Lk) (X : Cx) (n : Nat) : Prop where
  room : Room (4 * n + 3) X.A
  tab : ∃ c P, LamX.TabB X.base X.mg c P ∧ X.env.code = .ref c ∧ (P, X.env.qual ++ "<lambda>") ∈ L.T ∧ ∀ p ∈ L.T, p.1 = P → p.2 = X.env.qual ++ "<lambda>"
structure Good (L : Lk) (X : Cx) (n : Nat) (W : WX) : Prop extends Good0 L X n W where
  cap : L.tc = true → Cap L X n
def WE (X : Cx) (e : Expr) : TE := fun σ H Q => ∀ pins s, Inv X pins σ H s → wpAny (model X.prog X.w) X.A (eval e X.env) (EP X pins σ Q) X.xe s
theorem pe_WE (X : Cx) (e : Expr) : PE X e (WE X e) := ⟨fun pins s σ H Q I h => h pins s I⟩
theorem PE.we {X : Cx} {e : Expr} {t : TE} (h : PE X e t) {σ : L2.St} {H : Hp} {Q : VK} (q : t σ H Q) : WE X e σ H Q := fun pins s I => h.run pins s σ H Q I q
def WT (X : Cx) (e : Expr) : TT := fun σ H Q => ∀ pins s, Inv X pins σ H s → wpAny (model X.prog X.w) X.A (isTrue e X.env (eval e X.env)) (TP X pins σ Q) X.xe s
theorem pt_WT (X : Cx) (e : Expr) : PT X e (WT X e) := ⟨fun pins s σ H Q I h => h pins s I⟩
theorem PT.wt {X : Cx} {e : Expr} {t : TT} (h : PT X e t) {σ : L2.St} {H : Hp} {Q : Bool → Hp → Prop} (q : t σ H Q) : WT X e σ H Q := fun pins s I => h.run pins s σ H Q I q
def WA (X : Cx) (es : List Expr) : TA := fun σ H Q => ∀ pos pins s, Inv X pins σ H s → wpAny (model X.prog X.w) X.A (spliced (backTo pos (starEach es X.env))) (AP X pins σ Q) X.xe s
theorem pa_WA (X : Cx) (es : List Expr) : PA X es (WA X es) := ⟨fun pos pins s σ H Q I h => h pos pins s I⟩
theorem PA.wa {X : Cx} {es : List Expr} {t : TA} (h : PA X es t) {σ : L2.St} {H : Hp} {Q : List V → Hp → Prop} (q : t σ H Q) : WA X es σ H Q := fun pos pins s I => h.run pos pins s σ H Q I q
section
variable (L : Lk) (X : Cx) (W : WX)
abbrev FRx (H0 : Hp) (F : Addr → Prop) (H : Hp) (m : List Addr) (sa : List Sl) (σ : L2.St) : Prop := FR X.prog X.w X.K H0 F H m sa σ
abbrev SRx (F : Addr → Prop) (H : Hp) (m : List Addr) (st : Store) : Prop := SR X.prog X.w X.K L.T F H m st
abbrev Relx (F : Addr → Prop) (H : Hp) (m : List Addr) (d : D) (v : V) : Prop := Rel X.prog X.w X.K F H m d v
/-- the expression e is read by o -/
def SndE (e : Expr) (o : List Sl → Store → Out D) : Prop := ∀ (sa : List Sl) (st : Store) (σ : L2.St) (H H0 : Hp) (F : Addr → Prop) (m : List Addr) (Q : VK), FRx X H0 F H m sa σ → SRx L X F H m st →
  PostV L X.prog X.w X.K (o sa st) F m H Q (fun c d H' => W c d σ H') → WE X e σ H Q
def SndT (e : Expr) (o : List Sl → Store → Out D) : Prop := ∀ (sa : List Sl) (st : Store) (σ : L2.St) (H H0 : Hp) (F : Addr → Prop) (m : List Addr) (Q : Bool → Hp → Prop), FRx X H0 F H m sa σ → SRx L X F H m st →
  Post L X.prog X.w X.K (o sa st) F m H (fun d _ F' m' H' => ∃ b, d = .bl b ∧ Q b H') (fun c d H' => W c d σ H') → WT X e σ H Q
def SndA (es : List Expr) (o : List Sl → Store → Out (List D)) : Prop := ∀ (sa : List Sl) (st : Store) (σ : L2.St) (H H0 : Hp) (F : Addr → Prop) (m : List Addr) (Q : List V → Hp → Prop), FRx X H0 F H m sa σ → SRx L X F H m st →
  Post L X.prog X.w X.K (o sa st) F m H (fun ds _ F' m' H' => ∀ vs, RelL X.prog X.w X.K F' H' m' ds vs → Q vs H') (fun c d H' => W c d σ H') → WA X es σ H Q
end
section
variable {L : Lk} {X : Cx} {W : WX} {n : Nat}
def isStar : Expr → Bool
  | .Starred _ _ => true
  | _ => false
theorem starEach_cons {e : Expr} {es : List Expr} {env : Env} (h : isStar e = false) : starEach (e :: es) env = (false, eval e env) :: starEach es env := by
  cases e <;> first | rfl | cases h
theorem s_nil : SndA L X W [] (fun _ st => .ok [] st) := fun sa st σ H H0 F m Q fr sr h => PA.wa pa_nil (h H F m Evo.refl sr [] .nil)
theorem s_cons {e : Expr} {es : List Expr} {o : List Sl → Store → Out D} {os : List Sl → Store → Out (List D)} (he : SndE L X W e o) (hes : SndA L X W es os) (hst : isStar e = false) :
    SndA L X W (e :: es) (fun sa st => (o sa st).bind fun x st => (os sa st).bind fun xs st => .ok (x :: xs) st) := fun sa st σ H H0 F m Q fr sr h => by
  refine PA.wa (pa_cons (pe_WE X e) (pa_WA X es) (starEach_cons hst)) ?_
  refine he sa st σ H H0 F m _ fr sr (h.bind.imp fun d st1 F1 m1 H1 e1 s1 h1 v r => ?_)
  refine hes sa st1 σ H1 H0 F1 m1 _ (fr.evo e1 sr) s1 (h1.bind.imp fun ds st2 F2 m2 H2 e2 s2 h2 vs rs => ?_)
  exact h2 H2 F2 m2 Evo.refl s2 _ (.cons (r.mono (e2.mono s1)) rs)
/-! ### names, constants -/
theorem s_var {i : Nat} {x : Str} {pos : Pos} (hN : X.N[i]? = some x) (hv : Vis X.env.scope x) (hd : (x == ("__debug__" : Str)) = false) (hcd : (x == ("__classdict__" : Str)) = false) :
    SndE L X W (.Name x pos) (fun sa st => match sa[i]? with | some (.val d) => .ok d st | _ => .bad) := fun sa st σ H H0 F m Q fr sr h => by
  dsimp only at h
  cases e : sa[i]? with
  | none => rw [e] at h; exact h.elim
  | some s =>
    rw [e] at h
    cases s with
    | un => exact h.elim
    | ol ds => exact h.elim
    | od ds => exact h.elim
    | val d =>
      obtain ⟨v, hv', r⟩ := fr.slot i _ e
      exact PE.we (pe_var hN hv hd hcd) ⟨v, hv', h H F m Evo.refl sr v r⟩
theorem s_con {c : C} {e : Expr} (h : ∃ j pos, e = match c with | .non => Expr.Constant .none j pos | .bl b => .Constant (.bool b) j pos | .int i => .Constant (.int i) j pos | .str x => .Constant (.str x) j pos) : SndE L X W e (fun _ st => .ok c.d st) := fun sa st σ H H0 F m Q fr sr q => by
  obtain ⟨j, pos, rfl⟩ := h
  cases c with
  | non => exact PE.we pe_non (q H F m Evo.refl sr _ .non)
  | bl b => exact PE.we pe_bl (q H F m Evo.refl sr _ (.bl b))
  | int b => exact PE.we pe_int (q H F m Evo.refl sr _ (.int b))
  | str b => exact PE.we pe_str (q H F m Evo.refl sr _ (.str b))
theorem s_glb {x : Str} {d : D} {pos : Pos} (g : Good L X n W) (hg : Gl X x) (hx : (x, d) ∈ L.gl) (hd : (x == ("__debug__" : Str)) = false) : SndE L X W (.Name x pos) (fun _ st => .ok d st) := fun sa st σ H H0 F m Q fr sr q => by
  obtain ⟨u, v, hm, rv, r⟩ := g.link.gl x d hx
  exact PE.we (pe_glob hg hm rv hd) (q H F m Evo.refl sr v (r F H m))
end
end Mn
set_option maxHeartbeats 4000000
namespace Mn
open PySem PySem.Spec PyProof.Rows L2 HotX L2H
/-! ## where an exception is handled -/
section
variable {prog : Program} {w : World} {A : Around} {E : Value → Shared → Prop} {s : Shared}
theorem next_end_hot {it l x1 : Addr} {i : Nat} {items : Array Value} {Q : Option Value → Shared → Prop} (hot : HotAt A x1 s.heap) (hxi : x1 ≠ it) (hit : s.heap.IsListIter it l i) (hl : s.heap.IsList l items) (hx : items[i]? = none)
    (hQ : ∀ h', Heap.ExtBut it s.heap h' → Q none { s with heap := h' }) : wpAny (model prog w) A (pyNext (.ref it)) Q E s := by
  obtain ⟨hh, o1, vs1, h1, d1, c1⟩ := hot
  obtain ⟨o, ho, hc, hd⟩ := id hit
  obtain ⟨ol, hol, _, nl, hdl⟩ := hl
  unfold pyNext
  refine wpAny_bind (wpAny_attempt (wpAny_callSpecial?_slot (name := Str.ofString "__next__") hit.typeIs slot_listiter_next
    (wpAny_call_entry slot_listiter_next hit.typeIs entry_listiter_next ?_ (args_listiter_next _))))
  show wpAny _ _ (field (.ref it) 0 >>= _) _ _ s
  refine wpAny_bind (wpAny_field ho hd (x := .ref l) rfl ?_)
  show wpAny _ _ (if (Value.ref l == Value.none) = true then _ else _) _ _ s
  rw [if_neg (show ¬ ((Value.ref l == Value.none) = true) from Bool.false_ne_true)]
  show wpAny _ _ (field (.ref it) 1 >>= _) _ _ s
  refine wpAny_bind (wpAny_field ho hd (x := .int i 0) rfl ?_)
  show wpAny _ _ (seqItems? (.ref l) >>= _) _ _ s
  refine wpAny_bind (wpAny_seqItems hol hdl ?_)
  simp only [Int.toNat_natCast, hx]
  refine wpAny_bind (wpAny_rule (wpAny_bind (wpAny_setField ho hd (by simp) ?_)))
  show wpAny _ _ (newExc (.type "StopIteration") [] >>= _) _ _ _
  refine wpAny_bind ?_
  simp only [newExc, newTuple]
  refine wpAny_bind (wpAny_newObj_type ?_ (by size_fits))
  refine wpAny_bind (m := firstArgMember _ _) (wpAny_of_eq (a := Value.none) (by first | rfl | (simp only [firstArgMember]; rfl)) ?_)
  refine wpAny_newObj_type ?_ (by size_fits)
  have g1 : (s.heap.update it (Obj.mapFields (·.setIfInBounds 0 .none))).get? x1 = some o1 := by
    rw [Heap.get?_update_other _ _ (fun z => hxi z.symm)]
    exact h1
  refine raiseNew_hot ⟨hh, o1, vs1, Heap.get?_push_of_some _ (Heap.get?_push_of_some _ g1), d1, c1⟩ (Nat.ne_of_lt (Heap.lt_size (Heap.get?_push_of_some _ g1))) (Heap.get?_push_size _ rfl) rfl (by first | (simp; done) | (simp; omega) | (simp only [Array.size_append]; simp; omega)) ?_
  refine wpAny_bind (wpAny_isInstance (T := "StopIteration") (b := true) ⟨_, Heap.get?_update_self _ (Heap.get?_push_size _ rfl) rfl, rfl⟩ isSubtype_stop ?_)
  refine wpAny_pure (hQ _ fun b o hb e => ?_)
  have e1 : (s.heap.update it (Obj.mapFields (·.setIfInBounds 0 .none))).get? b = some o := by
    rw [Heap.get?_update_other _ _ (fun z => hb z.symm)]
    exact e
  rw [Heap.get?_update_other _ _ (Nat.ne_of_gt (Heap.lt_size (Heap.get?_push_of_some _ e1)))]
  exact Heap.get?_push_of_some _ (Heap.get?_push_of_some _ e1)
theorem walks_hot {x1 : Addr} {o1 : Obj} {vs1 : Array Value} (hh : A.handled = some (.ref x1)) (hd : o1.data = .fields vs1) (hc : vs1[2]? = some .none) (I ax : Addr) (hne : ax ≠ I) (hx : x1 ≠ I) (items : Array Value) :
    Walks prog w A I [I, ax, x1] [I] items.size (fun i v => items[i]? = some v) (fun i h => h.IsListIter I ax i ∧ h.IsList ax items ∧ h.get? x1 = some o1) where
  sub := fun b hb => by simp at hb; simp [hb]
  frame := fun _ _ _ st hk => ⟨st.1.at fun o e => hk I (by simp) o e, st.2.1.at fun o e => hk ax (by simp) o e, hk x1 (by simp) _ st.2.2⟩
  item := fun i s Q E hi st hQ => by
    refine wpAny_pyNext_list_item st.1 st.2.1 (x := items[i]) (by simp [hi]) fun h' hit' hs' => ?_
    exact hQ _ h' s.toks (by simp [hi]) ⟨hit', st.2.1.extBut hs'.extBut hne, hs'.extBut x1 _ hx st.2.2⟩ fun b o hb e => hs'.extBut b o (fun h => hb (by simp [h])) e
  done := fun s Q E st hQ => next_end_hot ⟨hh, o1, vs1, st.2.2, hd, hc⟩ hx st.1 st.2.1 (by simp) fun h' he' => hQ h' s.toks fun b o hb e => he' b o (fun h => hb (by simp [h])) e
  self := fun _ _ _ _ st hQ => wpAny_pyIter_listiter st.1 hQ
end
section
variable {X : Cx}
/-- sum(xs) of a list of ints -/
theorem cr_sumH (hc : HotC X) : CallR X (.builtin "sum") (rSum X.K) := by
  intro pins s σ H vs us Q I r h
  obtain ⟨a, ns, rfl, hs, q⟩ := h
  obtain ⟨p, ⟨hh, v1, e1, c1⟩, hp⟩ := hc
  have P1 := (I.pin p (List.mem_append_left _ hp)).1
  obtain ⟨its, rv, hl, _⟩ := I.list hs
  rw [Vals.ref1 r]
  obtain ⟨xs, e⟩ := rv.ints.allInts.items
  have hn : numsOf (intItems xs).toList = ns := by rw [← e]; exact rv.ints.numsOf
  rw [nums_intItems] at hn
  have hl : s.heap.IsList a (intItems xs) := by rw [← e]; exact hl.isList
  refine call_sum_walkG (wpAny_pyIter_list hl ?_)
  have lt1 := Heap.lt_size P1
  have lt2 : a < s.heap.objs.size := by obtain ⟨_, z, _⟩ := hl; exact Heap.lt_size z
  refine ⟨s.heap.objs.size, _, _, _, _, _, numAt xs, rfl, walks_hot (A := X.A.in1) (x1 := p.1) (o1 := p.2) hh e1 c1 s.heap.objs.size a (Nat.ne_of_lt lt2) (Nat.ne_of_lt lt1) (intItems xs), ⟨⟨_, Heap.get?_push_size _ rfl, rfl, rfl⟩, hl.at fun o z => Heap.get?_push_of_some _ z, Heap.get?_push_of_some _ P1⟩, fun b hb => ?_, fun _ _ => intItems_at, fun h' tk t' hk => ?_⟩
  · show b < (s.heap.push _).objs.size
    rw [Heap.size_push]
    simp at hb
    rcases hb with rfl | rfl | rfl
    · exact Nat.lt_succ_self _
    · exact Nat.lt_succ_of_lt lt2
    · exact Nat.lt_succ_of_lt lt1
  · have old : ∀ b o, s.heap.get? b = some o → h'.get? b = some o := fun b o z => hk b o (by simp; exact Nat.ne_of_lt (Heap.lt_size z)) (Heap.get?_push_of_some _ z)
    refine ⟨.int ns.sum, H, I.kept old, ⟨t', ?_⟩, q⟩
    rw [preSum_eq, List.take_of_length_le (by simp [intItems]), hn]
end
end Mn
set_option maxHeartbeats 4000000
namespace Mn
open PySem PySem.Spec PyProof.Rows L2 HotX L2H
section
variable {prog : Program} {w : World} {A : Around} {E : Value → Shared → Prop} {env : Env}
/-- a comprehension's block over any walk; the new list's address is told -/
theorem block_hot {elt iter : Expr} {x : Str} {px : Pos} {scope : Scope} {pos : Pos} {s₂ : Shared} {I : Addr} {fp wr : List Addr} {n : Nat} {P : Nat → Value → Prop} {St : Nat → Heap → Prop}
    (W : Walks prog w A I fp wr n P St) (hsz : n ≤ sizeLine) (F : Value → Value → Prop) {RR : Value → Env → Result → Shared → Prop}
    (hcell : ∀ y ∈ scope.names, y.2 ≠ .cell) (hkind : scope.kind = .function) (hx : scope.names.lookup x = some .local) (hst : St 0 s₂.heap) (hfp : ∀ b ∈ fp, b < s₂.heap.objs.size)
    (hq : QuietOn prog w A env scope x [] elt wr P (fun _ => true) F s₂)
    (hRR : ∀ C h' tk m' ys (vs : List Value), s₂.heap.objs.size < C → h'.Ns C m' → h'.PlainList s₂.heap.objs.size ys → vs.length = n → (∀ j v, vs[j]? = some v → P j v) → Paired F vs ys.toList →
      (∀ b o, b ∉ wr → s₂.heap.get? b = some o → h'.get? b = some o) → RR (.ref s₂.heap.objs.size) (compEnv scope C env) (.ok .next) { s₂ with heap := h', toks := tk }) :
    wpAny (model prog w) A (newList []) (fun acc s₃ => wpAny (model prog w) A (newFunctionEnv scope env.globals [] [] env.qual none .none (some env)) (fun cenv s₄ =>
      codeAny (model prog w) A (.compStart (.ListComp elt [⟨.Name x px, iter, [], 0⟩] scope pos) 0 (.ref I) acc { cenv with scope := scope }) (RR acc { cenv with scope := scope }) s₄) E s₃) E s₂ := by
  refine wpAny_newObj_type (wpAny_newFunctionEnv hcell (by intro y hy; simp at hy) (fun h₁ hns₁ hsb₁ => ?_) hkind)
  dsimp only at hns₁ hsb₁ ⊢
  generalize hH2 : s₂.heap.push { cls := .type "list", dict := none, data := .seq ([] : List Value).toArray } = H2 at hns₁ hsb₁ ⊢
  have hC : H2.objs.size = s₂.heap.objs.size + 1 := by rw [← hH2, Heap.size_push]
  have hDC : s₂.heap.objs.size ≠ H2.objs.size := by rw [hC]; exact Nat.ne_of_lt (Nat.lt_succ_self _)
  have below : ∀ b, b < s₂.heap.objs.size → b ≠ H2.objs.size ∧ b ≠ s₂.heap.objs.size := fun b hb => ⟨by rw [hC]; exact Nat.ne_of_lt (Nat.lt_succ_of_lt hb), Nat.ne_of_lt hb⟩
  have hDf : s₂.heap.objs.size ∉ fp := fun hm => Nat.lt_irrefl _ (hfp _ hm)
  have hCf : H2.objs.size ∉ fp := fun hm => by have := hfp _ hm; rw [hC] at this; exact Nat.lt_irrefl _ (Nat.lt_of_succ_lt this)
  have old : ∀ b o, s₂.heap.get? b = some o → h₁.get? b = some o := fun b o e => hsb₁.extBut b o (below b (Heap.lt_size e)).1 (Heap.get?_push_of_some _ (hH2 ▸ Heap.get?_push_of_some _ e))
  have hacc : h₁.PlainList s₂.heap.objs.size #[] := ⟨_, hsb₁.extBut _ _ hDC (Heap.get?_push_of_some _ (hH2 ▸ Heap.get?_push_size _ rfl))⟩
  have hst₁ : St 0 h₁ := W.frame _ _ _ hst fun b _ o e => old b o e
  have loop : ∀ s₃ : Shared, s₃ = { s₂ with heap := h₁, toks := s₂.toks + ([] : List (Str × Value)).length } →
      codeAny (model prog w) A (.compLoop (.ListComp elt [⟨.Name x px, iter, [], 0⟩] scope pos) 0 (.ref I) (.ref s₂.heap.objs.size) (compEnv scope H2.objs.size env))
        (RR (.ref s₂.heap.objs.size) (compEnv scope H2.objs.size env)) s₃ := by
    rintro s₃ rfl
    refine codeAny_compLoop_walk (hsz := hsz) (cenv := compEnv scope H2.objs.size env) W (fun _ => true) F hx (by simp [compEnv, hkind]) hDC hDf hCf hst₁ hacc hns₁
      (fun i v s₃ m₃ hv hn hm hk htk => hq.tests _ i v s₃ m₃ _ hv hn hm (fun b o hbf e => hk b o (below b (Heap.lt_size e)).1 hbf (below b (Heap.lt_size e)).2 (old b o e)) htk)
      (fun i v s₃ m₃ hv hpv hn hm hk htk => hq.elt _ i v s₃ m₃ _ hv hpv hn hm (fun b o hbf e => hk b o (below b (Heap.lt_size e)).1 hbf (below b (Heap.lt_size e)).2 (old b o e)) htk) fun h' tk m' ys vs hn ha hpl hlen hP hF hk => ?_
    have hfil : vs.filter (fun _ => true) = vs := by simp
    rw [hfil] at hF
    exact hRR _ h' tk m' ys vs (by rw [hC]; exact Nat.lt_succ_self _) hn hpl hlen hP hF fun b o hbf e =>
      hk b o (below b (Heap.lt_size e)).1 hbf (below b (Heap.lt_size e)).2 (old b o e)
  exact codeAny_compStart_list (loop _ rfl) (W.self 0 _ _ _ hst₁ (loop _ rfl))
end
/-- [int(flag) for flag in flags] -/
def tFlags (K : PySem.W.Frag) (i : Nat) : TE := fun σ H Q => ∃ (a : Addr) (bs : List Bool), σ[i]? = some (some (.ref a)) ∧ SqL K H a (bs.map V.bl) ∧ ∀ D, H D = none → Q (.ref D) (upd H D (.lst (bs.map fun b => V.int (if b then 1 else 0))))
theorem vals_bl {bs : List Bool} : ∀ {us : List Value}, Vals (bs.map V.bl) us → us = bs.map Value.bool := by
  induction bs with
  | nil => intro us h; cases h; rfl
  | cons b bs ih =>
    intro us h
    cases h with
    | cons r rr =>
      have e : _ = Value.bool b := r
      rw [e, ih rr]; rfl
theorem paired_ints {bs : List Bool} : ∀ {vs ys : List Value}, vs = bs.map Value.bool → Paired (fun v y => ∃ b t, v = Value.bool b ∧ y = Value.int (if b then 1 else 0) t) vs ys → Vals (bs.map fun b => V.int (if b then 1 else 0)) ys := by
  induction bs with
  | nil =>
    intro vs ys e h
    subst e
    cases h
    exact .nil
  | cons b bs ih =>
    intro vs ys e h
    subst e
    cases h with
    | cons r rr =>
      obtain ⟨c, t, e1, e2⟩ := r
      cases e1
      exact .cons ⟨t, e2⟩ (ih rfl rr)
section
variable {X : Cx}
theorem pe_flagsH (hc : HotC X) {i : Nat} {px p1 p2 p3 p4 pos : Pos} {scope : Scope} (hN : X.N[i]? = some ("flags" : Str)) (hv : Vis X.env.scope "flags") (hint : X.mg "int" = none) (sk : scope.kind = .function) (hn : scope.names = [((".0" : Str), NameKind.local), (("flag" : Str), NameKind.local), (("int" : Str), NameKind.globalImplicit)]) :
    PE X (.ListComp (.Call (.Name "int" p1) [.Name "flag" p2] [] p3) [⟨.Name "flag" px, .Name "flags" p4, [], 0⟩] scope pos) (tFlags X.K i) := by
  refine ⟨fun pins s σ H Q I h => ?_⟩
  obtain ⟨a, bs, ha, hs, q⟩ := h
  obtain ⟨p, ⟨hh, v1, e1, c1⟩, hp⟩ := hc
  refine wpAny_ListComp (fun y hy => ?_) sk (fun y hy e => ?_) ?_ (by intro _; rfl)
  · rw [hn] at hy
    simp at hy
    rcases hy with rfl | rfl | rfl <;> decide
  · rw [hn] at hy ⊢
    simp at hy
    rcases hy with rfl | rfl | rfl
    · rfl
    · rfl
    · cases e
  refine thn ((pe_var (pos := p4) (i := i) hN hv (by decide) (by decide)).run pins s σ H (fun v H1 => v = .ref a ∧ H1 = H) I ⟨.ref a, ha, rfl, rfl⟩) fun u s1 ⟨v, H1, I1, r1, ev, eH⟩ => ?_
  subst ev
  rw [eH] at I1
  obtain rfl : u = Value.ref a := r1
  have P1 := (I1.pin p (List.mem_append_left _ hp)).1
  obtain ⟨its, rv, hl, hz⟩ := I1.list hs
  have ei := vals_bl rv
  have hl := hl.isList
  have lt1 := Heap.lt_size P1
  have lt2 : a < s1.heap.objs.size := by obtain ⟨_, z, _⟩ := hl; exact Heap.lt_size z
  refine wpAny_pyIter_list hl ?_
  have push : ∀ b o, s1.heap.get? b = some o → (s1.heap.push { cls := .type "list_iterator", data := .fields #[.ref a, .int 0 0] }).get? b = some o := fun b o z => Heap.get?_push_of_some _ z
  have W := walks_hot (prog := X.prog) (w := X.w) (A := X.A) (x1 := p.1) (o1 := p.2) hh e1 c1 s1.heap.objs.size a (Nat.ne_of_lt lt2) (Nat.ne_of_lt lt1) its.toArray
  have notw : ∀ b o, s1.heap.get? b = some o → b ∉ [s1.heap.objs.size] := fun b o z => by simp; exact Nat.ne_of_lt (Heap.lt_size z)
  refine block_hot (env := X.env) (RR := fun acc cenv r s' => ∃ m, s'.heap.Ns cenv.locals m ∧ ∀ h', Heap.SameBut cenv.locals s'.heap h' →
    match r with | .ok _ => EP X pins σ Q acc { s' with heap := h' } | .error x => wpAny (model X.prog X.w) X.A (PySem.passOn "comprehension.variables-let-go" x cenv) (EP X pins σ Q) X.xe { s' with heap := h' }) (x := ("flag" : Str)) (s₂ := { s1 with heap := s1.heap.push { cls := .type "list_iterator", data := .fields #[.ref a, .int 0 0] } }) W (by simp; rw [← rv.length]; simpa using hz) (fun v y => ∃ b t, v = Value.bool b ∧ y = Value.int (if b then 1 else 0) t) (fun y hy => ?_) sk (by rw [hn]; rfl) ⟨⟨_, Heap.get?_push_size _ rfl, rfl, rfl⟩, hl.at fun o z => push _ _ z, push _ _ P1⟩ (fun b hb => ?_) ⟨?_, ?_⟩ ?_
  · rw [hn] at hy
    simp at hy
    rcases hy with rfl | rfl | rfl <;> decide
  · show b < (s1.heap.push _).objs.size
    rw [Heap.size_push]
    simp at hb
    rcases hb with rfl | rfl | rfl
    · exact Nat.lt_succ_self _
    · exact Nat.lt_succ_of_lt lt2
    · exact Nat.lt_succ_of_lt lt1
  · intro C k v s3 m3 E' hv _ _ _ _
    exact wpAny_tests_nil ⟨rfl, s3.heap, s3.toks, rfl, fun _ _ z => z⟩
  · intro C k v s3 m3 E' hv _ hns hm hk _
    have old : ∀ b o, s1.heap.get? b = some o → s3.heap.get? b = some o := fun b o z => hk b o (notw b o z) (push b o z)
    obtain ⟨mb, h1, h2⟩ := I1.mod.blt
    have sh : (compEnv scope C X.env).scope.kind = .function := sk
    have kf : (compEnv scope C X.env).kindOf "flag" = some .local := by
      show scope.names.lookup _ = _
      rw [hn]; rfl
    have ki : (compEnv scope C X.env).kindOf "int" = some .globalImplicit := by
      show scope.names.lookup _ = _
      rw [hn]; rfl
    obtain ⟨b, hb⟩ : ∃ b, v = Value.bool b := by
      rw [ei] at hv
      have hv : (bs.map Value.bool)[k]? = some v := by simpa using hv
      rw [List.getElem?_map] at hv
      obtain ⟨b, _, e⟩ := Option.map_eq_some_iff.mp hv
      exact ⟨b, e.symm⟩
    subst hb
    refine Call_ (Calls.Name_function_global sh ki (Calls.loadGlobal_builtin (mg := X.mg) (mb := mb) ?_ hint ?_ ((h2 "int" (by decide)).trans boot_int) ?_) (by decide))
    · show s3.heap.Ns X.env.globals X.mg
      rw [I1.ok.glob]
      exact (I1.mod.glob.keeps I1.bk).keeps old
    · show s3.heap.Ns X.env.builtins mb
      rw [I1.ok.blt]
      exact (h1.keeps I1.bk).keeps old
    refine PyProof.Rows.callWith_type1 ?_
    refine Calls.spliced_cons (wpAny_Name (wpAny_loadName_local sh kf hns hm (Calls.spliced_nil ?_)) (by decide))
    exact call_int_bool ⟨⟨b, _, rfl, rfl⟩, _, _, rfl, fun _ _ z => z⟩
  · intro C h' tk m' ys vs hC hnC hpl hlen hP hF hk
    refine ⟨m', hnC, fun h'' sb => ?_⟩
    have eC : (compEnv scope C X.env).locals = C := rfl
    rw [eC] at sb
    have hvs : vs = bs.map Value.bool := by
      rw [← ei]
      refine List.ext_getElem? fun j => ?_
      cases e : vs[j]? with
      | none =>
        have : vs.length ≤ j := List.getElem?_eq_none_iff.mp e
        rw [hlen] at this
        exact (List.getElem?_eq_none (by simpa using this)).symm
      | some v => simpa using (hP j v e).symm
    have old : ∀ b o, s1.heap.get? b = some o → h'.get? b = some o := fun b o z => hk b o (notw b o z) (push b o z)
    have hsz : (s1.heap.push { cls := .type "list_iterator", data := .fields #[.ref a, .int 0 0] }).objs.size = s1.heap.objs.size + 1 := Heap.size_push ..
    have old2 : ∀ b o, s1.heap.get? b = some o → h''.get? b = some o := fun b o z => (sb.2 b (by
      have hC2 : (s1.heap.push { cls := .type "list_iterator", data := .fields #[.ref a, .int 0 0] }).objs.size < C := hC
      rw [hsz] at hC2
      exact Nat.ne_of_lt (Nat.lt_trans (Heap.lt_size z) (Nat.lt_of_succ_lt hC2)))).trans (old b o z)
    obtain ⟨n, hpl⟩ := hpl
    have fresh : s1.heap.objs.size ≤ (s1.heap.push { cls := .type "list_iterator", data := .fields #[.ref a, .int 0 0] }).objs.size := by rw [hsz]; exact Nat.le_succ _
    have hv2 := paired_ints hvs hF
    refine ⟨.ref _, _, I1.laid (o := .lst (bs.map fun b => V.int (if b then 1 else 0))) (t' := tk) old2 fresh ⟨?_, ys.toList, n, hv2, ?_⟩, rfl, q _ (I1.hok.fresh fresh)⟩
    · simpa using hz
    · rw [sb.2 _ (Nat.ne_of_lt hC), hpl]
end
end Mn
set_option maxHeartbeats 4000000
namespace Mn
open PySem PySem.Spec PyProof.Rows L2
section
variable {L : Lk} {X : Cx} {W : WX} {n : Nat}
/-! ### operators -/
def rAddU (K : PySem.W.Frag) : R2 := fun x y H Q => (rI0 fun i j => .int (i + j)) x y H Q ∨ rCat x y H Q ∨ rCatA K x y H Q ∨ (∃ i j, x = .str i ∧ y = .str j ∧ i.length + j.length ≤ sizeLine ∧ Q (.str (i ++ j)) H)
theorem op_addU : OpR X (binaryOp .Add) (rAddU X.K) := op_add.or (op_cat.or (op_catA.or op_add_str))
theorem tuple_mul1 (l : Addr) (items : Array Value) (n : Nat) (dd : Option Addr) (sl : Array (Option Value)) (u : Tok) :
    Meets (Builtin.«tuple.__mul__» ⟨[.ref l, .int 1 u], []⟩) (fun _ R s => s.heap.get? l = some { cls := .type "tuple", dict := dd, data := .seq items n, slots := sl } ∧ R (.ok (.ret (.ref l))) s) :=
  .of_wp fun prog w A R s h => by
    obtain ⟨hp, g, d, tk, os⟩ := s
    obtain ⟨hl, h⟩ := h
    have f1 := AutoSeq1.idx_int
    have c1 : (items.isEmpty || (1 : Int) == 1) = true := by cases items.isEmpty <;> rfl
    wp_walk using wpAny_loadPart' hl
    repeat (first
      | (refine wpAny_ite_false (decide_eq_false (by decide)) ?_; wp_walk using wpAny_loadPart' hl)
      | (refine wpAny_ite_true (decide_eq_true (by rw [c1])) ?_; wp_walk using wpAny_loadPart' hl))
    exact ⟨_, rfl, h⟩
theorem tuple_mul0 (l : Addr) (items : Array Value) (n : Nat) (dd : Option Addr) (sl : Array (Option Value)) (u : Tok) (hne : items.isEmpty = false) :
    Meets (Builtin.«tuple.__mul__» ⟨[.ref l, .int 0 u], []⟩) (fun _ R s => s.heap.get? l = some { cls := .type "tuple", dict := dd, data := .seq items n, slots := sl } ∧
      R (.ok (.ret (Value.ref s.heap.objs.size))) { s with heap := s.heap.push { cls := Value.type "tuple", data := Data.seq #[] }, toks := s.toks }) :=
  .of_wp fun prog w A R s h => by
    obtain ⟨hp, g, d, tk, os⟩ := s
    obtain ⟨hl, h⟩ := h
    have f1 := AutoSeq1.idx_int
    have c1 : (items.isEmpty || (0 : Int) == 1) = false := by rw [hne]; rfl
    have c2 : (decide ((0 : Int) ≤ 0) || items.isEmpty) = true := by rfl
    wp_walk using wpAny_loadPart' hl
    repeat (first
      | (refine wpAny_ite_false (decide_eq_false (by decide)) ?_; wp_walk using wpAny_loadPart' hl)
      | (refine wpAny_ite_false (decide_eq_false (by rw [c1]; exact Bool.false_ne_true)) ?_; wp_walk using wpAny_loadPart' hl)
      | (refine wpAny_ite_true (decide_eq_true (by rw [c2])) ?_; wp_walk using wpAny_loadPart' hl))
    exact ⟨_, rfl, h⟩
/-- tuple * int, none or once -/
def rRepT01 (K : PySem.W.Frag) : R2 := fun x y H Q => ∃ l k xs, x = .ref l ∧ y = .int k ∧ SqT K H l xs ∧ xs ≠ [] ∧ ((k = 1 ∧ Q (.ref l) H) ∨ (k = 0 ∧ ∀ p, H p = none → Q (.ref p) (upd H p (.tup []))))
theorem op_repT01 : OpR X (binaryOp .Mult) (rRepT01 X.K) := by
  intro pins s σ H x y v u Q I rx ry h
  obtain ⟨l, k, xs, rfl, rfl, hT, hne, q⟩ := h
  cases rx
  obtain ⟨t, rfl⟩ := ry
  obtain ⟨its, r, ⟨⟨cls, dd, data, sl⟩, ho, hc, n, hd⟩, hs⟩ := I.tuple hT
  simp only at hc hd
  subst hc hd
  have hle : its.length = xs.length := r.length.symm
  have hn : its ≠ [] := fun e => hne (by
    rw [e] at hle
    exact List.eq_nil_of_length_eq_zero hle.symm)
  have hi : its.toArray.isEmpty = false := by
    cases its with
    | nil => exact absurd rfl hn
    | cons a b => rfl
  rcases q with ⟨rfl, q⟩ | ⟨rfl, q⟩
  · exact wpAny_binaryOp_repeat_ref (T := "tuple") (U := "int") (by decide) ⟨_, ho, rfl⟩ (fun s' => typeIs_int s' 1 t) noFill_tuple_mul F.fills_int_mul F.slot_int_rmul repeat_tuple F.slot_int_index.lookup
      (call_meets F.slot_int_rmul (typeIs_int s 1 t) F.entry_int_rmul (F.args_int_rmul_2 _ _) (int_rmul_tuple 1 t l its.toArray n dd sl)
        ⟨ho, rfl, ⟨_, ho, rfl⟩, call_meets F.slot_tuple_mul ⟨_, ho, rfl⟩ F.entry_tuple_mul (F.args_tuple_mul_2 _ _) (tuple_mul1 l its.toArray n dd sl t) ⟨ho, ⟨.ref l, H, I, rfl, q⟩⟩⟩)
  · refine wpAny_binaryOp_repeat_ref (T := "tuple") (U := "int") (by decide) ⟨_, ho, rfl⟩ (fun s' => typeIs_int s' 0 t) noFill_tuple_mul F.fills_int_mul F.slot_int_rmul repeat_tuple F.slot_int_index.lookup
      (call_meets F.slot_int_rmul (typeIs_int s 0 t) F.entry_int_rmul (F.args_int_rmul_2 _ _) (int_rmul_tuple 0 t l its.toArray n dd sl)
        ⟨ho, rfl, ⟨_, ho, rfl⟩, call_meets F.slot_tuple_mul ⟨_, ho, rfl⟩ F.entry_tuple_mul (F.args_tuple_mul_2 _ _) (tuple_mul0 l its.toArray n dd sl t hi) ⟨ho, ?_⟩⟩)
    refine ⟨.ref s.heap.objs.size, _, I.laid (t' := s.toks) (o := .tup []) (fun b ob q => Heap.get?_push_of_some _ q) (Nat.le_refl _) ?_, rfl, q _ (I.hok.fresh (Nat.le_refl _))⟩
    exact ⟨Nat.zero_le _, [], .nil, IsTup.new _ _⟩
def rMulU (K : PySem.W.Frag) : R2 := fun x y H Q => (rI CMul fun i j => .int (i * j)) x y H Q ∨ (rI CMulW fun i j => .int (i * j)) x y H Q ∨ rRep x y H Q ∨ rRepT K x y H Q ∨ rRepT01 K x y H Q
theorem op_mulU : OpR X (binaryOp .Mult) (rMulU X.K) := op_mul.or (op_mulW.or (op_rep.or (op_repT.or op_repT01)))
def opM : Op → Operator → Bool
  | .add, .Add => true
  | .sub, .Sub => true
  | .mul, .Mult => true
  | .fdiv, .FloorDiv => true
  | .mod, .Mod => true
  | .pow, .Pow => true
  | _, _ => false
theorem sz_le {n : Nat} (h : szOk n = true) : n ≤ sizeLine := by rw [sizeLine_eq]; exact of_decide_eq_true h
theorem lt64 {i : Int} (h : i.natAbs < 2 ^ 64) : -(2 ^ 64) < i ∧ i < 2 ^ 64 := by
  have e : (2 : Nat) ^ 64 = 18446744073709551616 := by decide
  have e2 : (2 : Int) ^ 64 = 18446744073709551616 := by decide
  rw [e] at h; rw [e2]; omega
theorem abs_lt {j : Int} (h0 : 0 < j) (h : j < 2 ^ 200) : j.natAbs < 2 ^ 200 := by
  have e : ((2 ^ 200 : Nat) : Int) = (2 : Int) ^ 200 := by simp
  have : (j.natAbs : Int) < ((2 ^ 200 : Nat) : Int) := by rw [e]; omega
  exact Int.ofNat_lt.mp this
theorem bin_ok {o : Op} {x y : D} {d : D} {vx vy : V} {F : Addr → Prop} {H : Hp} {m : List Addr} {st : Store} {Q : VK} (S : SRx L X F H m st) (rx : Relx X F H m x vx) (ry : Relx X F H m y vy) (he : opD o x y = some d)
    (q : ∀ H' F' m', Evo F m H F' m' H' → SRx L X F' H' m' st → ∀ v, Relx X F' H' m' d v → Q v H') :
    match o with
    | .add => rAddU X.K vx vy H Q
    | .sub => (rI0 fun i j => .int (i - j)) vx vy H Q
    | .mul => rMulU X.K vx vy H Q
    | .fdiv => (rI CDivW fun i j => .int (i / j)) vx vy H Q
    | .mod => (rI (fun _ j => 0 < j) fun i j => .int (i % j)) vx vy H Q
    | .pow => (rI CPow fun i j => .int (i ^ j.toNat)) vx vy H Q := by
  have pure : ∀ i : Int, d = .int i → Q (.int i) H := fun i e => q H F m Evo.refl S _ (by rw [e]; exact .int i)
  cases o with
  | add =>
    cases x <;> cases y <;> simp only [opD, reduceCtorEq] at he
    · cases he; cases rx; cases ry
      exact .inl ⟨_, _, rfl, rfl, pure _ rfl⟩
    · split at he
      · rename_i hs; cases he; cases rx; cases ry
        exact .inr (.inr (.inr ⟨_, _, rfl, rfl, sz_le hs, q H F m Evo.refl S _ (.str _)⟩))
      · cases he
    · split at he
      · rename_i hs; cases he
        cases rx with
        | tup h1 r1 =>
          cases ry with
          | tup h2 r2 =>
            have l1 := r1.length
            have l2 := r2.length
            refine .inr (.inr (.inl ⟨_, _, _, _, rfl, rfl, h1.sq, h2.sq, by rw [← l1, ← l2]; exact sz_le hs, fun e => ?_, fun _ e => ?_, fun _ _ p hp => ?_⟩))
            · subst e; cases r1
              exact q H F m Evo.refl S _ (.tup h2 r2)
            · subst e; cases r2
              rw [List.append_nil] at q
              exact q H F m Evo.refl S _ (.tup h1 r1)
            · obtain ⟨e, s, r⟩ := S.newT hp (r1.append r2)
              exact q _ _ _ e s _ r
      · cases he
    · split at he
      · rename_i hs; cases he
        cases rx with
        | lst f1 h1 r1 =>
          cases ry with
          | lst f2 h2 r2 =>
            refine .inr (.inl ⟨_, _, _, _, rfl, rfl, h1, h2, by rw [← r1.length, ← r2.length]; exact sz_le hs, fun p hp => ?_⟩)
            obtain ⟨e, s, r⟩ := S.newL hp (r1.append r2)
            exact q _ _ _ e s _ r
      · cases he
  | sub =>
    cases x <;> cases y <;> simp only [opD, reduceCtorEq] at he
    cases he; cases rx; cases ry
    exact ⟨_, _, rfl, rfl, pure _ rfl⟩
  | mul =>
    cases x <;> cases y <;> simp only [opD, reduceCtorEq] at he
    · split at he
      · rename_i hs; cases he; cases rx; cases ry
        simp only [mulOk, Bool.or_eq_true, Bool.and_eq_true, decide_eq_true_eq] at hs
        rcases hs with h | h | ⟨h1, h2⟩
        · exact .inl ⟨_, _, rfl, rfl, .inl (lt64 h), pure _ rfl⟩
        · exact .inl ⟨_, _, rfl, rfl, .inr (lt64 h), pure _ rfl⟩
        · exact .inr (.inl ⟨_, _, rfl, rfl, wide_mul h1 h2 (by decide) (by decide) (by decide), pure _ rfl⟩)
      · cases he
    · split at he
      · rename_i xs k _ hs; cases he
        simp only [Bool.and_eq_true, decide_eq_true_eq] at hs
        obtain ⟨z1, z2, z3, z4⟩ := hs
        cases ry
        cases rx with
        | tup h1 r1 =>
          have hne : xs ≠ [] := fun z => by subst z; simp at z4
          rename_i a vs
          have hnv : vs ≠ [] := fun z => by subst z; cases r1; exact hne rfl
          by_cases k1 : k = 1
          · subst k1
            refine .inr (.inr (.inr (.inr ⟨_, _, _, rfl, rfl, h1.sq, hnv, .inl ⟨rfl, ?_⟩⟩)))
            have e : (List.replicate (1 : Int).toNat xs).flatten = xs := by simp
            rw [e] at q
            exact q H F m Evo.refl S _ (.tup h1 r1)
          · by_cases k0 : k = 0
            · subst k0
              refine .inr (.inr (.inr (.inr ⟨_, _, _, rfl, rfl, h1.sq, hnv, .inr ⟨rfl, fun p hp => ?_⟩⟩)))
              obtain ⟨e, s, r⟩ := S.newT hp (RelL.nil)
              exact q _ _ _ e s _ r
            · refine .inr (.inr (.inr (.inl ⟨_, _, _, rfl, rfl, h1.sq, hnv, by omega, z2, by rw [← r1.length]; exact z3, fun p hp => ?_⟩)))
              obtain ⟨e, s, r⟩ := S.newT hp (r1.replicate _)
              exact q _ _ _ e s _ r
      · cases he
    · split at he
      · rename_i hs; cases he
        simp only [Bool.and_eq_true, decide_eq_true_eq] at hs
        cases ry
        cases rx with
        | lst f1 h1 r1 =>
          refine .inr (.inr (.inl ⟨_, _, _, rfl, rfl, h1, hs.1, hs.2.1, by rw [← r1.length]; exact sz_le hs.2.2, fun p hp => ?_⟩))
          obtain ⟨e, s, r⟩ := S.newL hp (r1.replicate _)
          exact q _ _ _ e s _ r
      · cases he
  | fdiv =>
    cases x <;> cases y <;> simp only [opD, reduceCtorEq] at he
    split at he
    · rename_i hs; cases he; cases rx; cases ry
      simp only [divOk, Bool.and_eq_true, decide_eq_true_eq] at hs
      exact ⟨_, _, rfl, rfl, wide_div (b := 200) hs.1 (abs_lt hs.1 hs.2) (by decide) (by decide), pure _ rfl⟩
    · cases he
  | mod =>
    cases x <;> cases y <;> simp only [opD, reduceCtorEq] at he
    split at he
    · rename_i hs; cases he; cases rx; cases ry
      exact ⟨_, _, rfl, rfl, of_decide_eq_true hs, pure _ rfl⟩
    · cases he
  | pow =>
    cases x <;> cases y <;> simp only [opD, reduceCtorEq] at he
    split at he
    · rename_i hs; cases he; cases rx; cases ry
      simp only [Bool.and_eq_true, decide_eq_true_eq] at hs
      exact ⟨_, _, rfl, rfl, ⟨hs.1, by omega, hs.2.2⟩, pure _ rfl⟩
    · cases he
theorem two {a b : Expr} {f g : List Sl → Store → Out D} {h : D → D → Store → Out D} {sa : List Sl} {st : Store} {σ : L2.St} {H H0 : Hp} {F : Addr → Prop} {m : List Addr} {Q : VK} {R : V → V → Hp → Prop} (ha : SndE L X W a f) (hb : SndE L X W b g)
    (fr : FRx X H0 F H m sa σ) (sr : SRx L X F H m st) (p : PostV L X.prog X.w X.K ((f sa st).bind fun x st => (g sa st).bind fun y st => h x y st) F m H Q (fun c d H' => W c d σ H'))
    (k : ∀ x y st F m H vx vy, FRx X H0 F H m sa σ → SRx L X F H m st → Relx X F H m x vx → Relx X F H m y vy → PostV L X.prog X.w X.K (h x y st) F m H Q (fun c d H' => W c d σ H') → R vx vy H) :
    WE X a σ H fun x H1 => WE X b σ H1 fun y H2 => R x y H2 := by
  refine ha sa st σ H H0 F m _ fr sr (p.bind.imp fun x st1 F1 m1 H1 e1 s1 h1 vx rx => ?_)
  refine hb sa st1 σ H1 H0 F1 m1 _ (fr.evo e1 sr) s1 (h1.bind.imp fun y st2 F2 m2 H2 e2 s2 h2 vy ry => ?_)
  exact k x y st2 F2 m2 H2 vx vy ((fr.evo e1 sr).evo e2 s1) s2 (rx.mono (e2.mono s1)) ry h2
theorem s_bin {a b : Expr} {f g : List Sl → Store → Out D} {o : Op} {op : Operator} {pos : Pos} (ho : opM o op = true) (ha : SndE L X W a f) (hb : SndE L X W b g) :
    SndE L X W (.BinOp a op b pos) (fun sa st => (f sa st).bind fun x st => (g sa st).bind fun y st => .of (opD o x y) st) := fun sa st σ H H0 F m Q fr sr p => by
  have key : ∀ {r : R2}, OpR X (binaryOp op) r → (∀ x y st F m H vx vy, SRx L X F H m st → Relx X F H m x vx → Relx X F H m y vy → PostV L X.prog X.w X.K (.of (opD o x y) st) F m H Q (fun c d H' => W c d σ H') → r vx vy H Q) → WE X (.BinOp a op b pos) σ H Q := fun ho k =>
    PE.we (pe_op ho (pe_WE X a) (pe_WE X b)) (two ha hb fr sr p fun x y st F m H vx vy _ s1 rx ry h => k x y st F m H vx vy s1 rx ry h)
  have fin : ∀ (x y : D) st F m H vx vy, SRx L X F H m st → Relx X F H m x vx → Relx X F H m y vy → PostV L X.prog X.w X.K (.of (opD o x y) st) F m H Q (fun c d H' => W c d σ H') →
    ∃ d, opD o x y = some d ∧ (∀ H' F' m', Evo F m H F' m' H' → SRx L X F' H' m' st → ∀ v, Relx X F' H' m' d v → Q v H') := fun x y st F m H vx vy s1 rx ry h => by
    obtain ⟨d, hd, q⟩ := Post.of h
    exact ⟨d, hd, q⟩
  cases o <;> cases op <;> first | (cases ho; done) | skip
  · refine key op_addU fun x y st F m H vx vy s1 rx ry h => ?_
    obtain ⟨d, hd, q⟩ := fin x y st F m H vx vy s1 rx ry h
    exact bin_ok (o := .add) s1 rx ry hd q
  · refine key op_sub fun x y st F m H vx vy s1 rx ry h => ?_
    obtain ⟨d, hd, q⟩ := fin x y st F m H vx vy s1 rx ry h
    exact bin_ok (o := .sub) s1 rx ry hd q
  · refine key op_mulU fun x y st F m H vx vy s1 rx ry h => ?_
    obtain ⟨d, hd, q⟩ := fin x y st F m H vx vy s1 rx ry h
    exact bin_ok (o := .mul) s1 rx ry hd q
  · refine key op_fdivW fun x y st F m H vx vy s1 rx ry h => ?_
    obtain ⟨d, hd, q⟩ := fin x y st F m H vx vy s1 rx ry h
    exact bin_ok (o := .fdiv) s1 rx ry hd q
  · refine key op_mod fun x y st F m H vx vy s1 rx ry h => ?_
    obtain ⟨d, hd, q⟩ := fin x y st F m H vx vy s1 rx ry h
    exact bin_ok (o := .mod) s1 rx ry hd q
  · refine key op_pow fun x y st F m H vx vy s1 rx ry h => ?_
    obtain ⟨d, hd, q⟩ := fin x y st F m H vx vy s1 rx ry h
    exact bin_ok (o := .pow) s1 rx ry hd q
theorem s_neg {a : Expr} {f : List Sl → Store → Out D} {pos : Pos} (ha : SndE L X W a f) :
    SndE L X W (.UnaryOp .USub a pos) (fun sa st => (f sa st).bind fun x st => match x with | .int i => .ok (.int (-i)) st | _ => .bad) := fun sa st σ H H0 F m Q fr sr p => by
  refine PE.we (pe_un un_neg (pe_WE X a)) (ha sa st σ H H0 F m _ fr sr (p.bind.imp fun x st1 F1 m1 H1 e1 s1 h1 vx rx => ?_))
  cases x <;> try exact h1.elim
  cases rx
  exact ⟨_, rfl, h1 H1 F1 m1 Evo.refl s1 _ (.int _)⟩
theorem s_not {a : Expr} {f : List Sl → Store → Out D} {pos : Pos} (ha : SndE L X W a f) :
    SndE L X W (.UnaryOp .Not a pos) (fun sa st => (f sa st).bind fun x st => match x with | .bl i => .ok (.bl (!i)) st | _ => .bad) := fun sa st σ H H0 F m Q fr sr p => by
  refine PE.we (pe_not (pe_WE X a)) (ha sa st σ H H0 F m _ fr sr (p.bind.imp fun x st1 F1 m1 H1 e1 s1 h1 vx rx => ?_))
  cases x <;> try exact h1.elim
  cases rx
  exact ⟨_, rfl, h1 H1 F1 m1 Evo.refl s1 _ (.bl _)⟩
theorem t_not {a : Expr} {f : List Sl → Store → Out D} {pos : Pos} (ha : SndT L X W a f) :
    SndT L X W (.UnaryOp .Not a pos) (fun sa st => (f sa st).bind fun x st => match x with | .bl i => .ok (.bl (!i)) st | _ => .bad) := fun sa st σ H H0 F m Q fr sr p => by
  refine PT.wt (pt_not (pt_WT X a)) (ha sa st σ H H0 F m _ fr sr (p.bind.imp fun x st1 F1 m1 H1 e1 s1 h1 => ?_))
  cases x <;> try exact h1.elim
  obtain ⟨b, e, q⟩ := h1 H1 F1 m1 Evo.refl s1
  cases e
  exact ⟨_, rfl, q⟩
end
end Mn
set_option maxHeartbeats 4000000
namespace Mn
open PySem PySem.Spec PyProof.Rows L2
section
variable {P : Program} {w : World} {K : PySem.W.Frag} {F : Addr → Prop} {H : Hp} {m : List Addr}
/-! ### comparisons -/
mutual
theorem Rel.dp : ∀ {d : D} {v : V} {y : PyData}, Rel P w K F H m d v → D.py d = some y → Dp K H v y
  | _, _, _, .non, h => by simp only [D.py, Option.some.injEq] at h; subst h; exact .non
  | _, _, _, .bl b, h => by simp only [D.py, Option.some.injEq] at h; subst h; exact .bl b
  | _, _, _, .int b, h => by simp only [D.py, Option.some.injEq] at h; subst h; exact .int b
  | _, _, _, .str b, h => by simp only [D.py, Option.some.injEq] at h; subst h; exact .str b
  | _, _, _, .tup h1 r, h => by
    rw [D.py] at h
    obtain ⟨ys, e, rfl⟩ := Option.map_eq_some_iff.mp h
    exact .tup h1.sq (RelL.dp r e)
  | _, _, _, .lst h0 h1 r, h => by
    rw [D.py] at h
    obtain ⟨ys, e, rfl⟩ := Option.map_eq_some_iff.mp h
    exact .lst (SqL.of h1) (RelL.dp r e)
  | _, _, _, .scr h1, h => by
    simp only [D.py, Option.some.injEq] at h
    subst h
    refine .lst h1.sq ?_
    exact dp_ints _
  | _, _, _, .dic _ _ _, h => by simp [D.py] at h
  | _, _, _, .ref _, h => by simp [D.py] at h
theorem RelL.dp : ∀ {d : List D} {v : List V} {y : List PyData}, RelL P w K F H m d v → D.pyL d = some y → DpAll K H v y
  | _, _, _, .nil, h => by simp only [D.pyL, Option.some.injEq] at h; subst h; exact .nil
  | _, _, _, .cons (d := d) (ds := ds) r t, h => by
    rw [D.pyL] at h
    cases e1 : D.py d with
    | none => rw [e1] at h; simp at h
    | some x =>
      cases e2 : D.pyL ds with
      | none => rw [e1, e2] at h; simp at h
      | some xs =>
        rw [e1, e2] at h
        simp only [Option.some.injEq] at h
        subst h
        exact .cons (Rel.dp r e1) (RelL.dp t e2)
theorem dp_ints : ∀ ns : List Int, DpAll K H (ns.map V.int) (ns.map PyData.int)
  | [] => .nil
  | i :: r => .cons (.int i) (dp_ints r)
end
theorem Rel.non_iff {d : D} {v : V} (hd : d ≠ .opq) (r : Rel P w K F H m d v) : decide (v = .non) = decide (d = .non) := by
  cases r <;> first | (simp; done) | exact absurd rfl hd
end
section
variable {L : Lk} {X : Cx} {W : WX} {n : Nat}
def cmM : Cm → CmpOp → Bool
  | .eq, .Eq => true
  | .ne, .NotEq => true
  | .lt, .Lt => true
  | .le, .LtE => true
  | .gt, .Gt => true
  | .ge, .GtE => true
  | .isN, .Is => true
  | .notN, .IsNot => true
  | .isB, .Is => true
  | .notB, .IsNot => true
  | .inn, .In => true
  | .nin, .NotIn => true
  | _, _ => false
def rCm (K : PySem.W.Frag) (op : CmpOp) : R2 := match op with
  | .Eq => rEqD K
  | .NotEq => rNeD K
  | .Lt => rI0 fun i j => .bl (decide (i < j))
  | .LtE => rI0 fun i j => .bl (decide (i ≤ j))
  | .Gt => rI0 fun i j => .bl (decide (j < i))
  | .GtE => rI0 fun i j => .bl (decide (j ≤ i))
  | .Is => fun x y H Q => (y = .non ∧ Q (.bl (decide (x = .non))) H) ∨ rIsB x y H Q
  | .IsNot => fun x y H Q => (y = .non ∧ Q (.bl (!decide (x = .non))) H) ∨ rNotB x y H Q
  | .In => rInD K
  | .NotIn => rNotInD K
theorem op_cm (g : Good L X n W) (op : CmpOp) : OpR X (compareOp op) (rCm X.K op) := by
  cases op
  case Eq => exact op_eqD g.room.units
  case NotEq => exact op_neD g.room.units
  case Lt => exact op_lt
  case LtE => exact op_le
  case Gt => exact op_gt
  case GtE => exact op_ge
  case Is => exact op_isN.or op_isBl
  case IsNot => exact op_notN.or op_notBl
  case In => exact op_inD (by have := g.room.un; omega)
  case NotIn => exact op_notInD (by have := g.room.un; omega)
theorem cm_ok {o : Cm} {op : CmpOp} {x y : D} {b : Bool} {vx vy : V} {F : Addr → Prop} {H : Hp} {m : List Addr} {Q : VK} (ho : cmM o op = true) (rx : Relx X F H m x vx) (ry : Relx X F H m y vy) (he : cmD o x y = some b) (q : Q (.bl b) H) : rCm X.K op vx vy H Q := by
  have eqc : ∀ {b : Bool}, eqD x y = some b → ∃ d e, Dp X.K H vx d ∧ Dp X.K H vy e ∧ SeqAt.shaped d = true ∧ SeqAt.shaped e = true ∧ PyData.eqv d e = b := fun {b} h => by
    unfold eqD at h
    cases e1 : D.py x with
    | none => rw [e1] at h; simp at h
    | some d =>
      cases e2 : D.py y with
      | none => rw [e1, e2] at h; simp at h
      | some e =>
        rw [e1, e2] at h
        simp only at h
        split at h
        · rename_i hs
          rw [Bool.and_eq_true] at hs
          cases h
          exact ⟨d, e, rx.dp e1, ry.dp e2, hs.1, hs.2, rfl⟩
        · cases h
  have inc : ∀ {b : Bool}, inD x y = some b → ∃ d ds, Dp X.K H vx d ∧ Dp X.K H vy (.list ds) ∧ SeqAt.shaped d = true ∧ SeqAt.shaped (.list ds) = true ∧ (ds.any fun z => PyData.eqv z d) = b := fun {b} h => by
    unfold inD at h
    split at h
    · rename_i ys
      cases e1 : D.py x with
      | none => rw [e1] at h; simp at h
      | some d =>
        cases e2 : D.pyL ys with
        | none => rw [e1, e2] at h; simp at h
        | some e =>
          rw [e1, e2] at h
          simp only at h
          split at h
          · rename_i hs
            rw [Bool.and_eq_true] at hs
            cases h
            exact ⟨d, e, rx.dp e1, ry.dp (by rw [D.py, e2]; rfl), hs.1, hs.2, rfl⟩
          · cases h
    · cases h
  cases o <;> cases op <;> first | (cases ho; done) | skip
  · obtain ⟨d, e, h1, h2, h3, h4, h5⟩ := eqc he
    exact ⟨d, e, h1, h2, h3, h4, by rw [h5]; exact q⟩
  · rw [cmD] at he
    obtain ⟨c, hc, rfl⟩ := Option.map_eq_some_iff.mp he
    obtain ⟨d, e, h1, h2, h3, h4, h5⟩ := eqc hc
    exact ⟨d, e, h1, h2, h3, h4, by rw [h5]; exact q⟩
  iterate 4
    · cases x <;> cases y <;> simp only [cmD, reduceCtorEq] at he
      cases he; cases rx; cases ry
      exact ⟨_, _, rfl, rfl, q⟩
  · have hx : x ≠ .opq := fun z => by subst z; simp [cmD] at he
    cases y <;> first | (exfalso; cases x <;> simp [cmD] at he; done) | skip
    have e := rx.non_iff hx
    cases ry
    refine .inl ⟨rfl, ?_⟩
    rw [e]
    cases x <;> first | exact absurd rfl hx | (simp only [cmD] at he; cases he; exact q)
  · have hx : x ≠ .opq := fun z => by subst z; simp [cmD] at he
    cases y <;> first | (exfalso; cases x <;> simp [cmD] at he; done) | skip
    have e := rx.non_iff hx
    cases ry
    refine .inl ⟨rfl, ?_⟩
    rw [e]
    cases x <;> first | exact absurd rfl hx | (simp only [cmD] at he; cases he; exact q)
  · cases x <;> cases y <;> simp only [cmD, reduceCtorEq] at he
    cases he; cases rx; cases ry
    exact .inr ⟨_, _, rfl, rfl, q⟩
  · cases x <;> cases y <;> simp only [cmD, reduceCtorEq] at he
    cases he; cases rx; cases ry
    exact .inr ⟨_, _, rfl, rfl, q⟩
  · have he : inD x y = some b := by rw [← he]; cases x <;> cases y <;> rfl
    obtain ⟨d, e, h1, h2, h3, h4, h5⟩ := inc he
    exact ⟨d, e, h1, h2, h3, h4, by rw [h5]; exact q⟩
  · have he : (inD x y).map (!·) = some b := by rw [← he]; cases x <;> cases y <;> rfl
    obtain ⟨c, hc, rfl⟩ := Option.map_eq_some_iff.mp he
    obtain ⟨d, e, h1, h2, h3, h4, h5⟩ := inc hc
    exact ⟨d, e, h1, h2, h3, h4, by rw [h5]; exact q⟩
theorem s_cmp {a b : Expr} {f g : List Sl → Store → Out D} {o : Cm} {op : CmpOp} {pos : Pos} (G : Good L X n W) (ho : cmM o op = true) (hm : behindInMarks op b = false) (ha : SndE L X W a f) (hb : SndE L X W b g) :
    SndE L X W (.Compare a [op] [b] pos) (fun sa st => (f sa st).bind fun x st => (g sa st).bind fun y st => .of ((cmD o x y).map .bl) st) := fun sa st σ H H0 F m Q fr sr p => by
  refine PE.we (pe_cmpR (op_cm G op) (pe_WE X a) (pe_WE X b) hm) (two ha hb fr sr p fun x y st F m H vx vy _ s1 rx ry h => ?_)
  obtain ⟨d, hd, q⟩ := Post.of h
  obtain ⟨b, hb, rfl⟩ := Option.map_eq_some_iff.mp hd
  exact cm_ok ho rx ry hb (q H F m Evo.refl s1 _ (.bl b))
theorem twoT {a b : Expr} {f g : List Sl → Store → Out D} {h : D → D → Store → Out D} {sa : List Sl} {st : Store} {σ : L2.St} {H H0 : Hp} {F : Addr → Prop} {m : List Addr} {Z : D → Store → (Addr → Prop) → List Addr → Hp → Prop} {R : V → V → Hp → Prop} (ha : SndE L X W a f) (hb : SndE L X W b g)
    (fr : FRx X H0 F H m sa σ) (sr : SRx L X F H m st) (p : Post L X.prog X.w X.K ((f sa st).bind fun x st => (g sa st).bind fun y st => h x y st) F m H Z (fun c d H' => W c d σ H'))
    (k : ∀ x y st F m H vx vy, FRx X H0 F H m sa σ → SRx L X F H m st → Relx X F H m x vx → Relx X F H m y vy → Post L X.prog X.w X.K (h x y st) F m H Z (fun c d H' => W c d σ H') → R vx vy H) :
    WE X a σ H fun x H1 => WE X b σ H1 fun y H2 => R x y H2 := by
  refine ha sa st σ H H0 F m _ fr sr (p.bind.imp fun x st1 F1 m1 H1 e1 s1 h1 vx rx => ?_)
  refine hb sa st1 σ H1 H0 F1 m1 _ (fr.evo e1 sr) s1 (h1.bind.imp fun y st2 F2 m2 H2 e2 s2 h2 vy ry => ?_)
  exact k x y st2 F2 m2 H2 vx vy ((fr.evo e1 sr).evo e2 s1) s2 (rx.mono (e2.mono s1)) ry h2
theorem t_cmp {a b : Expr} {f g : List Sl → Store → Out D} {o : Cm} {op : CmpOp} {pos : Pos} (G : Good L X n W) (ho : cmM o op = true) (hm : behindInMarks op b = false) (ha : SndE L X W a f) (hb : SndE L X W b g) :
    SndT L X W (.Compare a [op] [b] pos) (fun sa st => (f sa st).bind fun x st => (g sa st).bind fun y st => .of ((cmD o x y).map .bl) st) := fun sa st σ H H0 F m Q fr sr p => by
  refine PT.wt (pt_cmpR (op_cm G op) (pe_WE X a) (pe_WE X b) hm) (twoT ha hb fr sr p fun x y st F m H vx vy _ s1 rx ry h => ?_)
  obtain ⟨d, hd, q⟩ := Post.of h
  obtain ⟨b, hb, rfl⟩ := Option.map_eq_some_iff.mp hd
  obtain ⟨c, hc, q⟩ := q H F m Evo.refl s1
  cases hc
  exact cm_ok ho rx ry hb ⟨b, rfl, q⟩
def chnO (o p : Cm) (f g h : List Sl → Store → Out D) : List Sl → Store → Out D := fun sa st => (f sa st).bind fun x st => (g sa st).bind fun y st => match cmD o x y with
    | some true => (h sa st).bind fun z st => .of ((cmD p y z).map .bl) st
    | some false => .ok (.bl false) st
    | none => .bad
theorem s_chn {a b c : Expr} {f g h : List Sl → Store → Out D} {o o' : Cm} {op op' : CmpOp} {pos : Pos} (G : Good L X n W) (ho : cmM o op = true) (ho' : cmM o' op' = true) (hm : behindInMarks op' c = false) (ha : SndE L X W a f) (hb : SndE L X W b g) (hc : SndE L X W c h) :
    SndE L X W (.Compare a [op, op'] [b, c] pos) (chnO o o' f g h) := fun sa st σ H H0 F m Q fr sr p => by
  refine PE.we (pe_chain (op_cm G op) (op_cm G op') (pe_WE X a) (pe_WE X b) (pe_WE X c) (show lastMarks [op, op'] [b, c] = false from hm)) (two ha hb fr sr p fun x y st F m H vx vy fr1 s1 rx ry q => ?_)
  cases e : cmD o x y with
  | none => rw [e] at q; exact q.elim
  | some k =>
    rw [e] at q
    cases k with
    | false => exact cm_ok ho rx ry e ⟨false, rfl, iteF (q H F m Evo.refl s1 _ (.bl _))⟩
    | true =>
      refine cm_ok ho rx ry e ⟨true, rfl, iteT ?_⟩
      refine hc sa st σ H H0 F m _ fr1 s1 (q.bind.imp fun z st2 F2 m2 H2 e2 s2 h2 vz rz => ?_)
      obtain ⟨d, hd, q⟩ := Post.of h2
      obtain ⟨b, hb, rfl⟩ := Option.map_eq_some_iff.mp hd
      exact cm_ok ho' (ry.mono (e2.mono s1)) rz hb (q H2 F2 m2 Evo.refl s2 _ (.bl b))
theorem t_chn {a b c : Expr} {f g h : List Sl → Store → Out D} {o o' : Cm} {op op' : CmpOp} {pos : Pos} (G : Good L X n W) (ho : cmM o op = true) (ho' : cmM o' op' = true) (hm : behindInMarks op' c = false) (ha : SndE L X W a f) (hb : SndE L X W b g) (hc : SndE L X W c h) :
    SndT L X W (.Compare a [op, op'] [b, c] pos) (chnO o o' f g h) := fun sa st σ H H0 F m Q fr sr p => by
  refine PT.wt (pt_chain (op_cm G op) (op_cm G op') (pe_WE X a) (pe_WE X b) (pe_WE X c) (show lastMarks [op, op'] [b, c] = false from hm)) (twoT ha hb fr sr p fun x y st F m H vx vy fr1 s1 rx ry q => ?_)
  cases e : cmD o x y with
  | none => rw [e] at q; exact q.elim
  | some k =>
    rw [e] at q
    cases k with
    | false =>
      obtain ⟨b, e1, q⟩ := q H F m Evo.refl s1
      cases e1
      exact cm_ok ho rx ry e ⟨false, rfl, iteF ⟨false, rfl, q⟩⟩
    | true =>
      refine cm_ok ho rx ry e ⟨true, rfl, iteT ?_⟩
      refine hc sa st σ H H0 F m _ fr1 s1 (q.bind.imp fun z st2 F2 m2 H2 e2 s2 h2 vz rz => ?_)
      obtain ⟨d, hd, q⟩ := Post.of h2
      obtain ⟨b, hb, rfl⟩ := Option.map_eq_some_iff.mp hd
      obtain ⟨c, hc, q⟩ := q H2 F2 m2 Evo.refl s2
      cases hc
      exact cm_ok ho' (ry.mono (e2.mono s1)) rz hb ⟨b, rfl, q⟩
/-! ### tests, and, or, if -/
def plainTest : Expr → Bool
  | .UnaryOp .Not _ _ => false
  | .BoolOp _ _ _ => false
  | .IfExp _ _ _ _ => false
  | .Compare _ _ _ _ => false
  | _ => true
theorem isTrue_plain {e : Expr} {env : Env} (h : plainTest e = true) : ∀ whole, isTrue e env whole = (do let v ← whole; standAt e.pos; holding [v] (truthy v)) := by
  intro whole
  cases e with
  | UnaryOp op x pos => cases op <;> first | rfl | cases h
  | _ => first | rfl | cases h
theorem t_val {e : Expr} {o : List Sl → Store → Out D} (h : plainTest e = true) (he : SndE L X W e o) : SndT L X W e o := fun sa st σ H H0 F m Q fr sr p => by
  refine PT.wt (pt_val (pe_WE X e) (isTrue_plain h)) (he sa st σ H H0 F m _ fr sr (p.imp fun d st1 F1 m1 H1 e1 s1 h1 v r => ?_))
  obtain ⟨b, rfl, q⟩ := h1
  cases r
  exact ⟨b, rfl, q⟩
def andO (f g : List Sl → Store → Out D) : List Sl → Store → Out D := fun sa st => (f sa st).bind fun x st => match x with
    | .bl true => g sa st
    | .bl false => .ok (.bl false) st
    | _ => .bad
def orO (f g : List Sl → Store → Out D) : List Sl → Store → Out D := fun sa st => (f sa st).bind fun x st => match x with
    | .bl true => .ok (.bl true) st
    | .bl false => g sa st
    | _ => .bad
theorem s_one {a : Expr} {op : BoolOp} {pos : Pos} {f : List Sl → Store → Out D} (ha : SndE L X W a f) : SndE L X W (.BoolOp op [a] pos) f := fun sa st σ H H0 F m Q fr sr p =>
  PE.we (pe_one (pe_WE X a)) (ha sa st σ H H0 F m Q fr sr p)
theorem s_and {a b : Expr} {rest : List Expr} {pos : Pos} {f g : List Sl → Store → Out D} (ha : SndE L X W a f) (hb : SndE L X W (.BoolOp .And (b :: rest) pos) g) : SndE L X W (.BoolOp .And (a :: b :: rest) pos) (andO f g) := fun sa st σ H H0 F m Q fr sr p => by
  refine PE.we (pe_and (pe_WE X a) (pe_WE X _)) (ha sa st σ H H0 F m _ fr sr (p.bind.imp fun x st1 F1 m1 H1 e1 s1 h1 v r => ?_))
  cases x <;> try exact h1.elim
  rename_i b
  cases r
  cases b with
  | true => exact ⟨true, rfl, iteT (hb sa st1 σ H1 H0 F1 m1 Q (fr.evo e1 sr) s1 h1)⟩
  | false => exact ⟨false, rfl, iteF (h1 H1 F1 m1 Evo.refl s1 _ (.bl _))⟩
theorem s_or {a b : Expr} {rest : List Expr} {pos : Pos} {f g : List Sl → Store → Out D} (ha : SndE L X W a f) (hb : SndE L X W (.BoolOp .Or (b :: rest) pos) g) : SndE L X W (.BoolOp .Or (a :: b :: rest) pos) (orO f g) := fun sa st σ H H0 F m Q fr sr p => by
  refine PE.we (pe_or (pe_WE X a) (pe_WE X _)) (ha sa st σ H H0 F m _ fr sr (p.bind.imp fun x st1 F1 m1 H1 e1 s1 h1 v r => ?_))
  cases x <;> try exact h1.elim
  rename_i b
  cases r
  cases b with
  | true => exact ⟨true, rfl, iteT (h1 H1 F1 m1 Evo.refl s1 _ (.bl _))⟩
  | false => exact ⟨false, rfl, iteF (hb sa st1 σ H1 H0 F1 m1 Q (fr.evo e1 sr) s1 h1)⟩
/-- as a test: whatever the whole is -/
def SndW (L : Lk) (X : Cx) (W : WX) (e : Expr) (o : List Sl → Store → Out D) : Prop := ∀ (sa : List Sl) (st : Store) (σ : L2.St) (H H0 : Hp) (F : Addr → Prop) (m : List Addr) (Q : Bool → Hp → Prop), FRx X H0 F H m sa σ → SRx L X F H m st →
  Post L X.prog X.w X.K (o sa st) F m H (fun d _ F' m' H' => ∃ b, d = .bl b ∧ Q b H') (fun c d H' => W c d σ H') → ∀ (whole : Sem Value) pins s, Inv X pins σ H s → wpAny (model X.prog X.w) X.A (isTrue e X.env whole) (TP X pins σ Q) X.xe s
def WW (X : Cx) (e : Expr) : TT := fun σ H Q => ∀ (whole : Sem Value) pins s, Inv X pins σ H s → wpAny (model X.prog X.w) X.A (isTrue e X.env whole) (TP X pins σ Q) X.xe s
theorem pw_WW (X : Cx) (e : Expr) : PW X e (WW X e) := ⟨fun whole pins s σ H Q I h => h whole pins s I⟩
theorem SndW.t {e : Expr} {o : List Sl → Store → Out D} (h : SndW L X W e o) : SndT L X W e o := fun sa st σ H H0 F m Q fr sr p pins s I => h sa st σ H H0 F m Q fr sr p _ pins s I
theorem w_and1 {a : Expr} {pos : Pos} {f : List Sl → Store → Out D} (ha : SndT L X W a f) : SndW L X W (.BoolOp .And [a] pos) f := fun sa st σ H H0 F m Q fr sr p whole pins s I =>
  (pw_and1 (pt_WT X a)).run whole pins s σ H Q I (ha sa st σ H H0 F m Q fr sr p)
theorem w_or1 {a : Expr} {pos : Pos} {f : List Sl → Store → Out D} (ha : SndT L X W a f) : SndW L X W (.BoolOp .Or [a] pos) f := fun sa st σ H H0 F m Q fr sr p whole pins s I =>
  (pw_or1 (pt_WT X a)).run whole pins s σ H Q I (ha sa st σ H H0 F m Q fr sr p)
theorem w_and {a b : Expr} {rest : List Expr} {pos : Pos} {f g : List Sl → Store → Out D} (ha : SndT L X W a f) (hb : SndW L X W (.BoolOp .And (b :: rest) pos) g) : SndW L X W (.BoolOp .And (a :: b :: rest) pos) (andO f g) := fun sa st σ H H0 F m Q fr sr p whole pins s I => by
  refine (pw_and (pt_WT X a) (pw_WW X _)).run whole pins s σ H Q I (ha sa st σ H H0 F m _ fr sr (p.bind.imp fun x st1 F1 m1 H1 e1 s1 h1 => ?_))
  cases x <;> try exact h1.elim
  rename_i b
  cases b with
  | true => exact ⟨true, rfl, iteT (hb sa st1 σ H1 H0 F1 m1 Q (fr.evo e1 sr) s1 h1)⟩
  | false =>
    obtain ⟨c, e, q⟩ := h1 H1 F1 m1 Evo.refl s1
    cases e
    exact ⟨false, rfl, iteF q⟩
theorem w_or {a b : Expr} {rest : List Expr} {pos : Pos} {f g : List Sl → Store → Out D} (ha : SndT L X W a f) (hb : SndW L X W (.BoolOp .Or (b :: rest) pos) g) : SndW L X W (.BoolOp .Or (a :: b :: rest) pos) (orO f g) := fun sa st σ H H0 F m Q fr sr p whole pins s I => by
  refine (pw_or (pt_WT X a) (pw_WW X _)).run whole pins s σ H Q I (ha sa st σ H H0 F m _ fr sr (p.bind.imp fun x st1 F1 m1 H1 e1 s1 h1 => ?_))
  cases x <;> try exact h1.elim
  rename_i b
  cases b with
  | false => exact ⟨false, rfl, iteF (hb sa st1 σ H1 H0 F1 m1 Q (fr.evo e1 sr) s1 h1)⟩
  | true =>
    obtain ⟨c, e, q⟩ := h1 H1 F1 m1 Evo.refl s1
    cases e
    exact ⟨true, rfl, iteT q⟩
def iteO (c f g : List Sl → Store → Out D) : List Sl → Store → Out D := fun sa st => (c sa st).bind fun x st => match x with
    | .bl true => f sa st
    | .bl false => g sa st
    | _ => .bad
theorem s_ite {c a b : Expr} {pos : Pos} {h f g : List Sl → Store → Out D} (hc : SndT L X W c h) (ha : SndE L X W a f) (hb : SndE L X W b g) : SndE L X W (.IfExp c a b pos) (iteO h f g) := fun sa st σ H H0 F m Q fr sr p => by
  refine PE.we (pe_ifExp (pt_WT X c) (pe_WE X a) (pe_WE X b)) (hc sa st σ H H0 F m _ fr sr (p.bind.imp fun x st1 F1 m1 H1 e1 s1 h1 => ?_))
  cases x <;> try exact h1.elim
  rename_i b
  cases b with
  | true => exact ⟨true, rfl, iteT (ha sa st1 σ H1 H0 F1 m1 Q (fr.evo e1 sr) s1 h1)⟩
  | false => exact ⟨false, rfl, iteF (hb sa st1 σ H1 H0 F1 m1 Q (fr.evo e1 sr) s1 h1)⟩
/-! ### displays, subscripts -/
theorem s_tup {es : List Expr} {os : List Sl → Store → Out (List D)} {k : Nat} {pos : Pos} (h : SndA L X W es os) : SndE L X W (.Tuple es k pos) (fun sa st => (os sa st).bind fun xs st => if szOk xs.length then .ok (.tup xs) st else .bad) := fun sa st σ H H0 F m Q fr sr p => by
  refine PE.we (pe_tup (pa_WA X es)) (h sa st σ H H0 F m _ fr sr (p.bind.imp fun ds st1 F1 m1 H1 e1 s1 h1 vs r => ?_))
  split at h1
  · rename_i hs
    refine ⟨by rw [← r.length]; exact sz_le hs, fun q hq => ?_⟩
    obtain ⟨e, s, rr⟩ := s1.newT hq r
    exact h1 _ _ _ e s _ rr
  · exact h1.elim
theorem s_lst {es : List Expr} {os : List Sl → Store → Out (List D)} {pos : Pos} (h : SndA L X W es os) : SndE L X W (.List es pos) (fun sa st => (os sa st).bind fun xs st => if szOk xs.length then .ok (.lst xs) st else .bad) := fun sa st σ H H0 F m Q fr sr p => by
  refine PE.we (pe_lst (pa_WA X es)) (h sa st σ H H0 F m _ fr sr (p.bind.imp fun ds st1 F1 m1 H1 e1 s1 h1 vs r => ?_))
  split at h1
  · rename_i hs
    refine ⟨by rw [← r.length]; exact sz_le hs, fun q hq => ?_⟩
    obtain ⟨e, s, rr⟩ := s1.newL hq r
    exact h1 _ _ _ e s _ rr
  · exact h1.elim
end
end Mn
set_option maxHeartbeats 4000000
namespace Mn
open PySem PySem.Spec PyProof.Rows L2
/-! ## dicts -/
mutual
theorem nkey_inj : ∀ {a b : D} {k : NestedKey}, D.nkey a = some k → D.nkey b = some k → a = b
  | .non, b, k, h1, h2 => by
    simp only [D.nkey, Option.some.injEq] at h1; subst h1
    cases b <;> simp [D.nkey] at h2
    · rfl
  | .int i, b, k, h1, h2 => by
    simp only [D.nkey, Option.some.injEq] at h1; subst h1
    cases b <;> simp [D.nkey] at h2
    · rw [h2]
  | .str i, b, k, h1, h2 => by
    simp only [D.nkey, Option.some.injEq] at h1; subst h1
    cases b <;> simp [D.nkey] at h2
    · rw [h2]
  | .tup ds, b, k, h1, h2 => by
    rw [D.nkey] at h1
    obtain ⟨ks, e1, rfl⟩ := Option.map_eq_some_iff.mp h1
    cases b with
    | tup es =>
      rw [D.nkey] at h2
      obtain ⟨ls, e2, e3⟩ := Option.map_eq_some_iff.mp h2
      cases e3
      rw [nkeys_inj e1 e2]
    | _ => simp [D.nkey] at h2
  | .bl _, _, _, h1, _ => by simp [D.nkey] at h1
  | .lst _, _, _, h1, _ => by simp [D.nkey] at h1
  | .scr _, _, _, h1, _ => by simp [D.nkey] at h1
  | .dic _, _, _, h1, _ => by simp [D.nkey] at h1
  | .ref _, _, _, h1, _ => by simp [D.nkey] at h1
  | .exn _, _, _, h1, _ => by simp [D.nkey] at h1
theorem nkeys_inj : ∀ {a b : List D} {k : List NestedKey}, D.nkeys a = some k → D.nkeys b = some k → a = b
  | [], b, k, h1, h2 => by
    simp only [D.nkeys, Option.some.injEq] at h1; subst h1
    cases b with
    | nil => rfl
    | cons y ys =>
      rw [D.nkeys] at h2
      cases e3 : D.nkey y <;> cases e4 : D.nkeys ys <;> simp [e3, e4] at h2
  | x :: xs, b, k, h1, h2 => by
    rw [D.nkeys] at h1
    cases e1 : D.nkey x with
    | none => rw [e1] at h1; simp at h1
    | some kx =>
      cases e2 : D.nkeys xs with
      | none => rw [e1, e2] at h1; simp at h1
      | some kxs =>
        rw [e1, e2] at h1
        simp only [Option.some.injEq] at h1
        subst h1
        cases b with
        | nil => simp [D.nkeys] at h2
        | cons y ys =>
          rw [D.nkeys] at h2
          cases e3 : D.nkey y with
          | none => rw [e3] at h2; simp at h2
          | some ky =>
            cases e4 : D.nkeys ys with
            | none => rw [e3, e4] at h2; simp at h2
            | some kys =>
              rw [e3, e4] at h2
              simp only [Option.some.injEq, List.cons.injEq] at h2
              obtain ⟨rfl, rfl⟩ := h2
              rw [nkey_inj e1 e3, nkeys_inj e2 e4]
end
section
variable {X : Cx} {pins : List (Addr × Obj)} {σ : L2.St} {H : Hp} {s : Shared} {F : Addr → Prop} {m : List Addr}
mutual
theorem nested_of (I : Inv X pins σ H s) : ∀ {d : D} {v : V} {u : Value} {k : NestedKey}, Rel X.prog X.w X.K F H m d v → RelV v u → D.nkey d = some k → NestedIs s.heap k u
  | _, _, _, _, .non, ru, h => by simp only [D.nkey, Option.some.injEq] at h; subst h; cases ru; exact .none
  | _, _, _, _, .int i, ru, h => by simp only [D.nkey, Option.some.injEq] at h; subst h; obtain ⟨t, rfl⟩ := ru; exact .int i t
  | _, _, _, _, .str i, ru, h => by simp only [D.nkey, Option.some.injEq] at h; subst h; obtain ⟨t, rfl⟩ := ru; exact .text i t
  | _, _, _, _, .tup h1 r, ru, h => by
    rw [D.nkey] at h
    obtain ⟨ks, e, rfl⟩ := Option.map_eq_some_iff.mp h
    cases ru
    obtain ⟨its, rv, ⟨o, e1, e2, c, e3⟩, hz⟩ := I.tuple h1.sq
    exact .tup e1 e2 e3 (by simpa using nestedAll_of I r rv e)
  | _, _, _, _, .bl _, _, h => by simp [D.nkey] at h
  | _, _, _, _, .lst _ _ _, _, h => by simp [D.nkey] at h
  | _, _, _, _, .scr _, _, h => by simp [D.nkey] at h
  | _, _, _, _, .dic _ _ _, _, h => by simp [D.nkey] at h
  | _, _, _, _, .ref _, _, h => by simp [D.nkey] at h
theorem nestedAll_of (I : Inv X pins σ H s) : ∀ {d : List D} {v : List V} {u : List Value} {k : List NestedKey}, RelL X.prog X.w X.K F H m d v → Vals v u → D.nkeys d = some k → NestedAll s.heap k u
  | _, _, _, _, .nil, ru, h => by simp only [D.nkeys, Option.some.injEq] at h; subst h; cases ru; exact .nil
  | _, _, _, _, .cons (d := x) (ds := xs) r t, ru, h => by
    rw [D.nkeys] at h
    cases e1 : D.nkey x with
    | none => rw [e1] at h; simp at h
    | some kx =>
      cases e2 : D.nkeys xs with
      | none => rw [e1, e2] at h; simp at h
      | some kxs =>
        rw [e1, e2] at h
        simp only [Option.some.injEq] at h
        subst h
        cases ru with
        | cons r1 t1 => exact .cons (nested_of I r r1 e1) (nestedAll_of I t t1 e2)
end
abbrev EsP := Paired (fun (p : NestedKey × Addr × V) (q : NestedKey × Addr × Value) => p.1 = q.1 ∧ p.2.1 = q.2.1 ∧ RelV p.2.2 q.2.2)
theorem is_all (I : Inv X pins σ H s) : ∀ {kvs : List (D × D)} {es : List (NestedKey × Addr × V)} {xs : List (NestedKey × Addr × Value)}, RelP X.prog X.w X.K F H m kvs es → EsP es xs → ∀ x ∈ xs, (nestedKind X.prog X.w).is s.heap x.1 x.2.1
  | _, _, _, .nil, .nil, x, hx => nomatch hx
  | _, _, _, .cons h1 h2 h3 h4 r, .cons q t, x, hx => by
    rcases List.mem_cons.mp hx with e | hx
    · subst e
      obtain ⟨q1, q2, q3⟩ := q
      rw [← q1, ← q2]
      exact ⟨nested_of I h3 rfl h1, h2⟩
    · exact is_all I r t x hx
theorem dict_of {a : Addr} {kvs : List (D × D)} {es : List (NestedKey × Addr × V)} (I : Inv X pins σ H s) (hH : H a = some (DictO X.prog X.w a es)) (r : RelP X.prog X.w X.K F H m kvs es) :
    ∃ xs, EsP es xs ∧ s.heap.DictOfH (nestedKind X.prog X.w) a xs ∧ (a == sysModules) = false := by
  obtain ⟨⟨hs, xs, p, o, es', ep, h1, h2, h3, h4, h5⟩, _⟩ := I.hok a _ hH
  exact ⟨xs, p, ⟨o, es', ep, h1, h2, h3, h4, is_all I r p, h5⟩, hs⟩
theorem get_of {P : Program} {w : World} {K : PySem.W.Frag} {k : D} {nk : NestedKey} (hk : D.nkey k = some nk) : ∀ {kvs : List (D × D)} {es : List (NestedKey × Addr × V)} {xs : List (NestedKey × Addr × Value)}, RelP P w K F H m kvs es → EsP es xs →
    (∀ d, getD kvs k = some d → ∃ b u v, atKey xs nk = some (b, u) ∧ RelV v u ∧ Rel P w K F H m d v) ∧ (getD kvs k = none → atKey xs nk = none)
  | _, _, _, .nil, .nil => ⟨fun d h => by simp [getD] at h, fun _ => rfl⟩
  | _, _, _, .cons (k := k') (d := d') (nk := nk') (b := b') (v := v') (kvs := kvs) h1 h2 h3 h4 r, .cons (b := q') (l₂ := xs') q t => by
    obtain ⟨i1, i2⟩ := get_of hk r t
    obtain ⟨q1, q2, q3⟩ := q
    by_cases e : k' = k
    · have e2 : nk' = nk := by subst e; rw [hk] at h1; exact (Option.some.inj h1).symm
      have e3 : q'.1 = nk := q1.symm.trans e2
      refine ⟨fun d h => ?_, fun h => ?_⟩
      · simp only [getD, List.find?_cons, e, decide_true, Option.map_some, Option.some.injEq] at h
        subst h
        exact ⟨q'.2.1, q'.2.2, v', by simp [atKey, e3], q3, h4⟩
      · simp [getD, List.find?_cons, e] at h
    · have e2 : nk' ≠ nk := fun z => e (nkey_inj h1 (by rw [z]; exact hk))
      have e3 : ¬ q'.1 = nk := fun z => e2 (q1.trans z)
      have g : getD ((k', d') :: kvs) k = getD kvs k := by simp [getD, List.find?_cons, e]
      have a : atKey (q' :: xs') nk = atKey xs' nk := by simp [atKey, List.find?_cons, e3]
      rw [g, a]
      exact ⟨i1, i2⟩
def putE (es : List (NestedKey × Addr × V)) (nk : NestedKey) (b : Addr) (v : V) : List (NestedKey × Addr × V) := if es.any (fun e => decide (e.1 = nk)) then es.map fun e => if e.1 = nk then (e.1, e.2.1, v) else e else es ++ [(nk, b, v)]
theorem any_of {P : Program} {w : World} {K : PySem.W.Frag} {k : D} {nk : NestedKey} (hk : D.nkey k = some nk) : ∀ {kvs : List (D × D)} {es : List (NestedKey × Addr × V)}, RelP P w K F H m kvs es → (getD kvs k).isSome = es.any (fun e => decide (e.1 = nk))
  | _, _, .nil => rfl
  | _, _, .cons (k := k') (d := d') (nk := nk') (b := b') (v := v') (kvs := kvs) h1 h2 h3 h4 r => by
    have i := any_of hk r
    by_cases e : k' = k
    · have e2 : nk' = nk := by subst e; rw [hk] at h1; exact (Option.some.inj h1).symm
      simp [getD, List.find?_cons, e, e2]
    · have e2 : nk' ≠ nk := fun z => e (nkey_inj h1 (by rw [z]; exact hk))
      have g : getD ((k', d') :: kvs) k = getD kvs k := by simp [getD, List.find?_cons, e]
      rw [g, i]
      simp [e2]
theorem RelP.append {P : Program} {w : World} {K : PySem.W.Frag} : ∀ {xs ys : List (D × D)} {us ws : List (NestedKey × Addr × V)}, RelP P w K F H m xs us → RelP P w K F H m ys ws → RelP P w K F H m (xs ++ ys) (us ++ ws)
  | _, _, _, _, .nil, s => s
  | _, _, _, _, .cons h1 h2 h3 h4 r, s => .cons h1 h2 h3 h4 (RelP.append r s)
theorem RelP.length {P : Program} {w : World} {K : PySem.W.Frag} : ∀ {xs : List (D × D)} {us : List (NestedKey × Addr × V)}, RelP P w K F H m xs us → xs.length = us.length
  | _, _, .nil => rfl
  | _, _, .cons h1 h2 h3 h4 r => by simp [r.length]
theorem map_of {P : Program} {w : World} {K : PySem.W.Frag} {k d : D} {nk : NestedKey} {v : V} (hk : D.nkey k = some nk) (rd : Rel P w K F H m d v) : ∀ {kvs : List (D × D)} {es : List (NestedKey × Addr × V)}, RelP P w K F H m kvs es →
    RelP P w K F H m (kvs.map fun kv => if kv.1 = k then (kv.1, d) else kv) (es.map fun e => if e.1 = nk then (e.1, e.2.1, v) else e)
  | _, _, .nil => .nil
  | _, _, .cons (k := k') (d := d') (nk := nk') (b := b') (v := v') (kvs := kvs) h1 h2 h3 h4 r => by
    have i := map_of hk rd r
    simp only [List.map_cons]
    by_cases e : k' = k
    · have e2 : nk' = nk := by subst e; rw [hk] at h1; exact (Option.some.inj h1).symm
      rw [if_pos e, if_pos e2]
      exact .cons h1 h2 h3 rd i
    · have e2 : nk' ≠ nk := fun z => e (nkey_inj h1 (by rw [z]; exact hk))
      rw [if_neg e, if_neg e2]
      exact .cons h1 h2 h3 h4 i
theorem put_of {P : Program} {w : World} {K : PySem.W.Frag} {k d : D} {nk : NestedKey} {b : Addr} {v : V} (hk : D.nkey k = some nk) (hd : nk.depth ≤ 8) (rk : Rel P w K F H m k (.ref b)) (rd : Rel P w K F H m d v) {kvs : List (D × D)} {es : List (NestedKey × Addr × V)} (r : RelP P w K F H m kvs es) :
    RelP P w K F H m (putD kvs k d) (putE es nk b v) := by
  unfold putD putE
  rw [any_of hk r]
  split
  · exact map_of hk rd r
  · exact r.append (.cons hk hd rk rd .nil)
theorem esP_any {nk : NestedKey} : ∀ {es : List (NestedKey × Addr × V)} {xs : List (NestedKey × Addr × Value)}, EsP es xs → es.any (fun e => decide (e.1 = nk)) = (atKey xs nk).isSome
  | _, _, .nil => rfl
  | _, _, .cons (a := p) (b := q) h t => by
    have i := esP_any (nk := nk) t
    obtain ⟨h1, _⟩ := h
    by_cases e : q.1 = nk
    · simp [atKey, List.find?_cons, e, h1]
    · simp only [List.any_cons, h1, e, decide_false, Bool.false_or, i]
      simp [atKey, List.find?_cons, e]
theorem esP_app : ∀ {es fs : List (NestedKey × Addr × V)} {xs ys : List (NestedKey × Addr × Value)}, EsP es xs → EsP fs ys → EsP (es ++ fs) (xs ++ ys)
  | _, _, _, _, .nil, s => s
  | _, _, _, _, .cons h t, s => .cons h (esP_app t s)
theorem esP_map {nk : NestedKey} {v : V} {u : Value} (rv : RelV v u) : ∀ {es : List (NestedKey × Addr × V)} {xs : List (NestedKey × Addr × Value)}, EsP es xs → EsP (es.map fun e => if e.1 = nk then (e.1, e.2.1, v) else e) (xs.map (putAt nk u))
  | _, _, .nil => .nil
  | _, _, .cons (a := p) (b := q) h t => by
    have i := esP_map (nk := nk) rv t
    obtain ⟨h1, h2, h3⟩ := h
    refine .cons ?_ i
    unfold putAt
    dsimp only
    by_cases e : q.1 = nk
    · rw [if_pos e, if_pos (h1.trans e)]; exact ⟨h1, h2, rv⟩
    · rw [if_neg e, if_neg (fun z => e (h1.symm.trans z))]; exact ⟨h1, h2, h3⟩
theorem esP_put {nk : NestedKey} {b : Addr} {v : V} {u : Value} (rv : RelV v u) {es : List (NestedKey × Addr × V)} {xs : List (NestedKey × Addr × Value)} (p : EsP es xs) : EsP (putE es nk b v) (storedH xs nk b u) := by
  unfold putE storedH
  rw [esP_any p]
  split
  · exact esP_map rv p
  · exact esP_app p (.cons ⟨rfl, rfl, rv⟩ .nil)
theorem esP_length : ∀ {es : List (NestedKey × Addr × V)} {xs : List (NestedKey × Addr × Value)}, EsP es xs → es.length = xs.length
  | _, _, .nil => rfl
  | _, _, .cons h t => by simp [esP_length t]
theorem dictO_new {P : Program} {w : World} {h : Heap} {H : Hp} {a : Addr} {es : List (NestedKey × Addr × V)} {xs : List (NestedKey × Addr × Value)} (p : EsP es xs) (hs : (a == sysModules) = false) (d : h.DictOfH (nestedKind P w) a xs) : ObjOk P w H h a (DictO P w a es) := by
  obtain ⟨o, es', ep, h1, h2, h3, h4, _, h5⟩ := d
  exact ⟨⟨hs, xs, p, o, es', ep, h1, h2, h3, h4, h5⟩, ⟨o, h1⟩, fun g1 g2 ⟨hs, xs, p, o, es', ep, h1, r⟩ st => ⟨hs, xs, p, o, es', ep, st _ h1, r⟩⟩
theorem keyOk_of {k : D} (h : keyOk k = true) : ∃ ds nk, k = .tup ds ∧ D.nkey k = some nk ∧ nk.depth ≤ 8 := by
  unfold keyOk at h
  cases k with
  | tup ds =>
    simp only at h
    split at h
    · rename_i nk e
      exact ⟨ds, nk, rfl, e, of_decide_eq_true h⟩
    · cases h
  | _ => cases h
theorem room8 {k : Nat} {A : Around} (r : Room k A) : (nestedKind X.prog X.w).room A.in1 := by
  show A.units + 1 + 8 < cLine
  have := r.un; omega
end
section
variable {L : Lk} {X : Cx} {W : WX} {n : Nat}
/-- d[k] by values -/
def rIxDic (X : Cx) : R2 := fun x y H Q => ∃ (a b : Addr) (F : Addr → Prop) (m : List Addr) (kvs : List (D × D)) (es : List (NestedKey × Addr × V)) (k d : D), x = .ref a ∧ y = .ref b ∧ H a = some (DictO X.prog X.w a es) ∧ RelP X.prog X.w X.K F H m kvs es ∧ Relx X F H m k (.ref b) ∧ keyOk k = true ∧ getD kvs k = some d ∧ ∀ v, Relx X F H m d v → Q v H
theorem ix_dic (G : Good L X n W) : IxR X (rIxDic X) := by
  rintro value slice pins s σ H x y v u Q I rx ry ⟨a, b, F, m, kvs, es, k, d, rfl, rfl, hH, r, rk, hk, hd, q⟩ hs
  cases rx; cases ry
  obtain ⟨ds, nk, rfl, e1, e2⟩ := keyOk_of hk
  obtain ⟨xs, p, dd, hsys⟩ := dict_of I hH r
  obtain ⟨b', u', v', g1, g2, g3⟩ := (get_of e1 r p).1 d hd
  have key : (nestedKind X.prog X.w).is s.heap nk b := ⟨nested_of I rk rfl e1, e2⟩
  unfold subscriptTail
  refine wpAny_bind ?_
  rw [getitemInPython_of_ne dd.typeIs.not_modules]
  refine wpAny_bind (wpAny_specialOf dd.typeIs PySem.F.slot_dict_getitem.lookup ?_)
  have fin : wpAny (model X.prog X.w) X.A (subscripted slice false (.ref a) (.ref b)) (fun r s₃ => wpAny (model X.prog X.w) X.A (letTemporaryGo value (.ref a) r >>= fun _ => pure r) (EP X pins σ Q) X.xe s₃) X.xe s := by
    rw [hs]
    refine wpAny_operating (wpAny_getItem_heap (room8 G.room) key dd g1 (wpAny_bind (wpAny_letTemporaryGo (wpAny_pure ?_))))
    exact ⟨v', H, I.tok _, g2, q v' g3⟩
  first
    | exact wpAny_pure (wpAny_bind fin)
    | exact wpAny_bind (wpAny_pure (wpAny_bind fin))
    | exact wpAny_bind fin
end
end Mn
set_option maxHeartbeats 4000000
namespace Mn
open PySem PySem.Spec PyProof.Rows L2
section
variable {L : Lk} {X : Cx} {W : WX} {n : Nat}
def isSlice : Expr → Bool
  | .Slice _ _ _ _ => true
  | _ => false
theorem plainIx_of {b : Expr} (h : isSlice b = false) : PlainIx b := by
  intro o i
  cases b <;> first | rfl | cases h
theorem RelL.atI {P : Program} {w : World} {K : PySem.W.Frag} {F : Addr → Prop} {H : Hp} {m : List Addr} {ds : List D} {vs : List V} {i : Int} {d : D} (r : RelL P w K F H m ds vs) (h : ((ixN ds.length i).bind fun j => ds[j]?) = some d) : ∃ v, L2.atI vs i = some v ∧ Rel P w K F H m d v := by
  unfold L2.atI
  rw [← r.length]
  unfold ixN at h
  cases e : L2.ixN ds.length i with
  | none => rw [e] at h; cases h
  | some j => rw [e] at h; exact r.get h
theorem idxD_ok {x y d : D} {vx vy : V} {F : Addr → Prop} {H : Hp} {m : List Addr} {Q : VK} (rx : Relx X F H m x vx) (ry : Relx X F H m y vy) (he : idxD x y = some d) (qq : ∀ v, Relx X F H m d v → Q v H) : rIx X.K vx vy H Q := by
  unfold idxD at he
  split at he
  · cases ry
    cases rx with
    | lst f1 h1 r1 =>
      obtain ⟨v, e, r⟩ := r1.atI he
      exact .inl ⟨_, _, _, v, rfl, rfl, SqL.of h1, e, qq v r⟩
  · cases ry
    cases rx with
    | tup h1 r1 =>
      obtain ⟨v, e, r⟩ := r1.atI he
      exact .inr (.inl ⟨_, _, _, v, rfl, rfl, h1.sq, e, qq v r⟩)
  · rename_i ns i
    cases ry
    cases rx with
    | scr h1 =>
      cases e : L2.ixN ns.length i with
      | none => rw [show ixN ns.length i = L2.ixN ns.length i from rfl, e] at he; cases he
      | some j =>
        rw [show ixN ns.length i = L2.ixN ns.length i from rfl, e] at he
        obtain ⟨z, hz, rfl⟩ := Option.map_eq_some_iff.mp (show (ns[j]?).map D.int = some d from he)
        exact .inl ⟨_, _, _, .int z, rfl, rfl, h1.sq, by unfold L2.atI; rw [List.length_map, e]; show (ns.map V.int)[j]? = _; rw [List.getElem?_map, hz]; rfl, qq _ (.int z)⟩
  · cases he
theorem idx_ok {x y : D} {vx vy : V} {F : Addr → Prop} {H : Hp} {m : List Addr} {st : Store} {Q : VK} {E : XK} (S : SRx L X F H m st) (rx : Relx X F H m x vx) (ry : Relx X F H m y vy)
    (q : PostV L X.prog X.w X.K (idxS x y st) F m H Q E) : (rIx X.K vx vy H Q) ∨ rIxDic X vx vy H Q := by
  have go : PostV L X.prog X.w X.K (.of (idxD x y) st) F m H Q E → (rIx X.K vx vy H Q) ∨ rIxDic X vx vy H Q := fun q => by
    obtain ⟨d, hd, q⟩ := Post.of q
    exact .inl (idxD_ok rx ry hd (q H F m Evo.refl S))
  unfold idxS at q
  split at q
  · rename_i k i
    cases rx with
    | ref hn =>
      cases ry
      cases e : st[k]? with
      | none => rw [e] at q; exact q.elim
      | some c =>
        rw [e] at q
        cases c with
        | lst xs =>
          obtain ⟨d, hd, q⟩ := Post.of q
          obtain ⟨_, vs, h1, r1⟩ := S.cell k _ _ e hn
          obtain ⟨v, e', r⟩ := r1.atI hd
          exact .inl (.inl ⟨_, _, _, v, rfl, rfl, SqL.of h1, e', q H F m Evo.refl S v r⟩)
        | dic kvs => exact q.elim
        | ins c fs => exact q.elim
  · rename_i kvs
    split at q
    · rename_i hk
      obtain ⟨d, hd, qq⟩ := Post.of q
      cases rx with
      | dic f1 h1 r1 =>
        obtain ⟨ds, nk, rfl, _, _⟩ := keyOk_of hk
        cases ry with
        | tup h2 r2 => exact .inr ⟨_, _, F, m, kvs, _, _, d, rfl, rfl, h1, r1, .tup h2 r2, hk, hd, qq H F m Evo.refl S⟩
    · exact q.elim
  · exact go q
theorem s_idx {a b : Expr} {f g : List Sl → Store → Out D} {pos : Pos} (G : Good L X n W) (hs : isSlice b = false) (ha : SndE L X W a f) (hb : SndE L X W b g) :
    SndE L X W (.Subscript a b pos) (fun sa st => (f sa st).bind fun x st => (g sa st).bind fun y st => idxS x y st) := fun sa st σ H H0 F m Q fr sr p =>
  PE.we (pe_ix (ix_seq.or (ix_dic G)) (pe_WE X a) (pe_WE X b) (plainIx_of hs)) (two ha hb fr sr p fun x y st F m H vx vy _ s1 rx ry h => idx_ok s1 rx ry h)
/-! ### slices -/
def WO (X : Cx) (e : Option Expr) : TO := fun σ H Q => ∀ pins s, Inv X pins σ H s → wpAny (model X.prog X.w) X.A (evalPart e X.env) (fun u s' => ∃ o H', Inv X pins σ H' s' ∧ IsPart u o ∧ Q o H') X.xe s
theorem po_WO (X : Cx) (e : Option Expr) : PO X e (WO X e) := ⟨fun pins s σ H Q I h => h pins s I⟩
theorem PO.wo {X : Cx} {e : Option Expr} {t : TO} (h : PO X e t) {σ : L2.St} {H : Hp} {Q : Option Int → Hp → Prop} (q : t σ H Q) : WO X e σ H Q := fun pins s I => h.run pins s σ H Q I q
def SndO (L : Lk) (X : Cx) (W : WX) (e : Option Expr) (o : List Sl → Store → Out (Option Int)) : Prop := ∀ (sa : List Sl) (st : Store) (σ : L2.St) (H H0 : Hp) (F : Addr → Prop) (m : List Addr) (Q : Option Int → Hp → Prop), FRx X H0 F H m sa σ → SRx L X F H m st →
  Post L X.prog X.w X.K (o sa st) F m H (fun z _ F' m' H' => Q z H') (fun c d H' => W c d σ H') → WO X e σ H Q
theorem o_no : SndO L X W none (fun _ st => .ok none st) := fun sa st σ H H0 F m Q fr sr p => PO.wo po_none (p H F m Evo.refl sr)
theorem o_so {e : Expr} {f : List Sl → Store → Out D} (h : SndE L X W e f) : SndO L X W (some e) (fun sa st => (f sa st).bind fun x st => match x with | .int i => .ok (some i) st | _ => .bad) := fun sa st σ H H0 F m Q fr sr p => by
  refine PO.wo (po_some (pe_WE X e)) (h sa st σ H H0 F m _ fr sr (p.bind.imp fun x st1 F1 m1 H1 e1 s1 h1 v r => ?_))
  cases x <;> try exact h1.elim
  cases r
  exact ⟨_, rfl, h1 H1 F1 m1 Evo.refl s1⟩
theorem RelL.cut {P : Program} {w : World} {K : PySem.W.Frag} {F : Addr → Prop} {H : Hp} {m : List Addr} {ds : List D} {vs : List V} (r : RelL P w K F H m ds vs) (lo hi : Option Int) : RelL P w K F H m (cut ds lo hi) (cutV vs lo hi) := by
  unfold Mn.cut cutV
  rw [← r.length]
  exact (r.drop _).take _
theorem cut_all {α : Type} {ds : List α} {lo hi : Option Int} (h : HT.sIx ds.length 0 lo = 0 ∧ HT.sIx ds.length ds.length hi = ds.length) : cut ds lo hi = ds := by
  unfold cut sIx
  rw [h.1, h.2]
  simp
theorem s_slc {a : Expr} {lo hi : Option Expr} {f : List Sl → Store → Out D} {g h : List Sl → Store → Out (Option Int)} {p2 pos : Pos} (ha : SndE L X W a f) (hl : SndO L X W lo g) (hh : SndO L X W hi h) :
    SndE L X W (.Subscript a (.Slice lo hi none p2) pos) (fun sa st => (f sa st).bind fun x st => (g sa st).bind fun l st => (h sa st).bind fun r st => .of (slcD x l r) st) := fun sa st σ H H0 F m Q fr sr p => by
  refine PE.we (pe_slice (sl_list.or sl_tupA) (pe_WE X a) (po_WO X lo) (po_WO X hi)) ?_
  refine ha sa st σ H H0 F m _ fr sr (p.bind.imp fun x st1 F1 m1 H1 e1 s1 h1 v r => ?_)
  refine hl sa st1 σ H1 H0 F1 m1 _ (fr.evo e1 sr) s1 (h1.bind.imp fun l st2 F2 m2 H2 e2 s2 h2 => ?_)
  refine hh sa st2 σ H2 H0 F2 m2 _ ((fr.evo e1 sr).evo e2 s1) s2 (h2.bind.imp fun u st3 F3 m3 H3 e3 s3 h3 => ?_)
  obtain ⟨d, hd, q⟩ := Post.of h3
  have r3 := (r.mono (e2.mono s1)).mono (e3.mono s2)
  cases x <;> simp only [slcD, reduceCtorEq] at hd
  · cases hd
    cases r3 with
    | tup h1 r1 =>
      refine .inr ⟨_, _, rfl, h1.sq, fun e => ?_, fun _ p hp => ?_⟩
      · rw [← r1.length] at e
        rw [cut_all e] at q
        exact q H3 F3 m3 Evo.refl s3 _ (.tup h1 r1)
      · obtain ⟨e, s, rr⟩ := s3.newT hp (r1.cut l u)
        exact q _ _ _ e s _ rr
  · cases hd
    cases r3 with
    | lst f1 h1 r1 =>
      refine .inl ⟨_, _, rfl, SqL.of h1, fun p hp => ?_⟩
      obtain ⟨e, s, rr⟩ := s3.newL hp (r1.cut l u)
      exact q _ _ _ e s _ rr
/-! ### calls of built-ins -/
theorem backTo_any {pos : Pos} {env : Env} : ∀ {es : List Expr}, (∀ e ∈ es, isStar e = false) → (backTo pos (starEach es env)).any (·.1) = false
  | [], _ => rfl
  | e :: es, h => by
    rw [starEach_cons (h e List.mem_cons_self)]
    show (false || (backTo pos (starEach es env)).any (·.1)) = false
    rw [backTo_any fun e he => h e (List.mem_cons_of_mem _ he)]
    rfl
theorem s_callB {x : Str} {id : String} {e : Expr} {es : List Expr} {os : List Sl → Store → Out (List D)} {h : List D → Option D} {r : List V → Hp → VK → Prop} {p pos : Pos} (hc : CallR X (.builtin id) r) (hg : Gl X x) (hm : X.mg x = none) (hv : bootBuiltins x = some (.builtin id)) (hn : x ≠ "__name__") (hdb : (x == ("__debug__" : Str)) = false)
    (hst : ∀ a ∈ e :: es, isStar a = false) (ha : SndA L X W (e :: es) os)
    (k : ∀ ds d vs F m H st Q, SRx L X F H m st → RelL X.prog X.w X.K F H m ds vs → h ds = some d → (∀ H' F' m', Evo F m H F' m' H' → SRx L X F' H' m' st → ∀ v, Relx X F' H' m' d v → Q v H') → r vs H Q) :
    SndE L X W (.Call (.Name x p) (e :: es) [] pos) (fun sa st => (os sa st).bind fun ds st => .of (h ds) st) := fun sa st σ H H0 F m Q fr sr q => by
  refine PE.we (pe_callB hc hg hm hv (pa_WA X _) hn hdb (starEach_cons (hst e List.mem_cons_self)) (backTo_any fun a h => hst a (List.mem_cons_of_mem _ h))) (ha sa st σ H H0 F m _ fr sr (q.bind.imp fun ds st1 F1 m1 H1 e1 s1 h1 vs rs => ?_))
  obtain ⟨d, hd, q⟩ := Post.of h1
  exact k ds d vs F1 m1 H1 st1 Q s1 rs hd q
theorem s_callTy {x : Str} {id : String} {e : Expr} {es : List Expr} {os : List Sl → Store → Out (List D)} {h : List D → Option D} {r : List V → Hp → VK → Prop} {p pos : Pos} (hc : CallR X (.type id) r) (hg : Gl X x) (hm : X.mg x = none) (hv : bootBuiltins x = some (.type id)) (hn : x ≠ "__name__") (hdb : (x == ("__debug__" : Str)) = false)
    (hst : ∀ a ∈ e :: es, isStar a = false) (ha : SndA L X W (e :: es) os)
    (k : ∀ ds d vs F m H st Q, SRx L X F H m st → RelL X.prog X.w X.K F H m ds vs → h ds = some d → (∀ H' F' m', Evo F m H F' m' H' → SRx L X F' H' m' st → ∀ v, Relx X F' H' m' d v → Q v H') → r vs H Q) :
    SndE L X W (.Call (.Name x p) (e :: es) [] pos) (fun sa st => (os sa st).bind fun ds st => .of (h ds) st) := fun sa st σ H H0 F m Q fr sr q => by
  refine PE.we (pe_callTy hc hg hm hv (pa_WA X _) hn hdb (starEach_cons (hst e List.mem_cons_self)) (backTo_any fun a h => hst a (List.mem_cons_of_mem _ h))) (ha sa st σ H H0 F m _ fr sr (q.bind.imp fun ds st1 F1 m1 H1 e1 s1 h1 vs rs => ?_))
  obtain ⟨d, hd, q⟩ := Post.of h1
  exact k ds d vs F1 m1 H1 st1 Q s1 rs hd q
end
end Mn
set_option maxHeartbeats 4000000
namespace Mn
open PySem PySem.Spec PyProof.Rows L2
/-! ## sorted of tables -/
structure Sto {α : Type} (lt : α → α → Bool) : Prop where
  asym : ∀ x y, lt x y = true → lt y x = false
  tri : ∀ x y, lt x y = false → lt y x = false → x = y
  tr : ∀ x y z, lt x y = true → lt y z = true → lt x z = true
theorem Sto.irr {α : Type} {lt : α → α → Bool} (O : Sto lt) (x : α) : lt x x = false := by
  cases h : lt x x with
  | false => rfl
  | true => have := O.asym x x h; rw [h] at this; cases this
theorem Sto.swo {α : Type} {lt : α → α → Bool} (O : Sto lt) : SrtO.Swo lt := by
  refine ⟨O.asym, fun x y z h1 h2 => ?_⟩
  cases h : lt z x with
  | false => rfl
  | true =>
    cases h3 : lt x y with
    | true => rw [O.tr z x y h h3] at h2; cases h2
    | false => rw [O.tri x y h3 h1] at h; rw [h] at h2; cases h2
theorem sto_int : Sto (fun a b : Int => decide (a < b)) := by
  refine ⟨fun x y h => ?_, fun x y h1 h2 => ?_, fun x y z h1 h2 => ?_⟩ <;> simp_all <;> omega
theorem sto_lexI : Sto lexI := by
  refine ⟨?_, ?_, ?_⟩
  · intro x
    induction x with
    | nil => intro y h; cases y <;> simp_all [lexI]
    | cons a as ih =>
      intro y h
      cases y with
      | nil => simp [lexI] at h
      | cons b bs =>
        simp only [lexI] at h ⊢
        by_cases e : a = b
        · rw [if_pos e] at h; rw [if_pos e.symm]; exact ih bs h
        · rw [if_neg e] at h; rw [if_neg (Ne.symm e)]; simp at h ⊢; omega
  · intro x
    induction x with
    | nil => intro y h1 h2; cases y <;> simp_all [lexI]
    | cons a as ih =>
      intro y h1 h2
      cases y with
      | nil => simp [lexI] at h2
      | cons b bs =>
        simp only [lexI] at h1 h2
        by_cases e : a = b
        · rw [if_pos e] at h1; rw [if_pos e.symm] at h2; rw [e, ih bs h1 h2]
        · rw [if_neg e] at h1; rw [if_neg (Ne.symm e)] at h2; simp at h1 h2; omega
  · intro x
    induction x with
    | nil => intro y z h1 h2; cases y <;> cases z <;> simp_all [lexI]
    | cons a as ih =>
      intro y z h1 h2
      cases y with
      | nil => simp [lexI] at h1
      | cons b bs =>
        cases z with
        | nil => simp [lexI] at h2
        | cons c cs =>
          simp only [lexI] at h1 h2 ⊢
          by_cases e : a = b
          · rw [if_pos e] at h1
            by_cases e2 : b = c
            · rw [if_pos e2] at h2; rw [if_pos (e.trans e2)]; exact ih bs cs h1 h2
            · rw [if_neg e2] at h2; rw [if_neg (by rw [e]; exact e2), e]; exact h2
          · rw [if_neg e] at h1
            by_cases e2 : b = c
            · rw [if_neg (by rw [← e2]; exact e), ← e2]; exact h1
            · rw [if_neg e2] at h2
              simp at h1 h2
              rw [if_neg (by omega)]; simp; omega
theorem sto_lexT : Sto lexT := by
  refine ⟨?_, ?_, ?_⟩
  · intro x
    induction x with
    | nil => intro y h; cases y <;> simp_all [lexT]
    | cons a as ih =>
      intro y h
      cases y with
      | nil => simp [lexT] at h
      | cons b bs =>
        simp only [lexT] at h ⊢
        by_cases e : a = b
        · rw [if_pos e] at h; rw [if_pos e.symm]; exact ih bs h
        · rw [if_neg e] at h; rw [if_neg (Ne.symm e)]; exact sto_lexI.asym a b h
  · intro x
    induction x with
    | nil => intro y h1 h2; cases y <;> simp_all [lexT]
    | cons a as ih =>
      intro y h1 h2
      cases y with
      | nil => simp [lexT] at h2
      | cons b bs =>
        simp only [lexT] at h1 h2
        by_cases e : a = b
        · rw [if_pos e] at h1; rw [if_pos e.symm] at h2; rw [e, ih bs h1 h2]
        · rw [if_neg e] at h1; rw [if_neg (Ne.symm e)] at h2; exact absurd (sto_lexI.tri a b h1 h2) e
  · intro x
    induction x with
    | nil => intro y z h1 h2; cases y <;> cases z <;> simp_all [lexT]
    | cons a as ih =>
      intro y z h1 h2
      cases y with
      | nil => simp [lexT] at h1
      | cons b bs =>
        cases z with
        | nil => simp [lexT] at h2
        | cons c cs =>
          simp only [lexT] at h1 h2 ⊢
          by_cases e : a = b
          · rw [if_pos e] at h1
            by_cases e2 : b = c
            · rw [if_pos e2] at h2; rw [if_pos (e.trans e2)]; exact ih bs cs h1 h2
            · rw [if_neg e2] at h2; rw [if_neg (by rw [e]; exact e2), e]; exact h2
          · rw [if_neg e] at h1
            by_cases e2 : b = c
            · rw [if_neg (by rw [← e2]; exact e), ← e2]; exact h1
            · rw [if_neg e2] at h2
              have h3 := sto_lexI.tr a b c h1 h2
              rw [if_neg (fun z => by rw [z, sto_lexI.irr c] at h3; cases h3)]
              exact h3
theorem perm_uniq {α : Type} {lt : α → α → Bool} (O : Sto lt) : ∀ {l m : List α}, l.Pairwise (fun x y => lt y x = false) → m.Pairwise (fun x y => lt y x = false) → l.Perm m → l = m
  | [], m, _, _, h => (List.Perm.eq_nil h.symm).symm
  | x :: l, [], _, _, h => absurd h.length_eq (by simp)
  | x :: l, y :: m, hl, hm, h => by
    have h1 : lt x y = false := by
      rcases List.mem_cons.mp (h.mem_iff.mp (List.mem_cons_self (a := x) (l := l))) with e | hx
      · rw [e]; exact O.irr y
      · exact (List.pairwise_cons.mp hm).1 x hx
    have h2 : lt y x = false := by
      rcases List.mem_cons.mp (h.mem_iff.mpr (List.mem_cons_self (a := y) (l := m))) with e | hx
      · rw [e]; exact O.irr x
      · exact (List.pairwise_cons.mp hl).1 y hx
    have e := O.tri x y h1 h2
    subst e
    rw [perm_uniq O (List.pairwise_cons.mp hl).2 (List.pairwise_cons.mp hm).2 h.cons_inv]
theorem sortT_perm (ts : List (List (List Int))) : (sortT ts).Perm ts := List.mergeSort_perm _ _
theorem sortT_srt (ts : List (List (List Int))) : (sortT ts).Pairwise (fun x y => lexT y x = false) := by
  have := List.pairwise_mergeSort (le := fun a b => !lexT b a) (fun a b c h1 h2 => by
    simp only [Bool.not_eq_true'] at h1 h2 ⊢
    exact sto_lexT.swo.tr a b c h1 h2) (fun a b => by
    cases h : lexT b a with
    | false => simp
    | true => simp [sto_lexT.asym b a h]) ts
  exact this.imp fun h => by simpa using h
/-! ### in the heap -/
def IsRowH (h : Heap) (v : Value) (r : List Int) : Prop := ∃ a items, v = .ref a ∧ h.IsTuple a items ∧ IntsAre items.toList r
def IsTabH (h : Heap) (v : Value) (t : List (List Int)) : Prop := ∃ a items, v = .ref a ∧ h.IsTuple a items ∧ Paired (IsRowH h) items.toList t
theorem ints_fun : ∀ {vs : List Value} {r r' : List Int}, IntsAre vs r → IntsAre vs r' → r = r'
  | _, _, _, .nil, .nil => rfl
  | _, _, _, .cons n t h, .cons _ _ h' => by rw [ints_fun h h']
theorem tup_fun {h : Heap} {a : Addr} {xs ys : Array Value} (h1 : h.IsTuple a xs) (h2 : h.IsTuple a ys) : xs = ys := by
  obtain ⟨o, e1, e2, n, e3⟩ := h1
  obtain ⟨o', e1', e2', n', e3'⟩ := h2
  rw [e1] at e1'; cases e1'
  rw [e3] at e3'; cases e3'; rfl
theorem row_fun {h : Heap} {v : Value} {r r' : List Int} (h1 : IsRowH h v r) (h2 : IsRowH h v r') : r = r' := by
  obtain ⟨a, xs, rfl, t, i⟩ := h1
  obtain ⟨a', xs', e, t', i'⟩ := h2
  cases e
  rw [tup_fun t t'] at i
  exact ints_fun i i'
theorem rows_fun {h : Heap} : ∀ {vs : List Value} {r r' : List (List Int)}, Paired (IsRowH h) vs r → Paired (IsRowH h) vs r' → r = r'
  | _, _, _, .nil, .nil => rfl
  | _, _, _, .cons a b, .cons a' b' => by rw [row_fun a a', rows_fun b b']
theorem tab_fun {h : Heap} {v : Value} {r r' : List (List Int)} (h1 : IsTabH h v r) (h2 : IsTabH h v r') : r = r' := by
  obtain ⟨a, xs, rfl, t, i⟩ := h1
  obtain ⟨a', xs', e, t', i'⟩ := h2
  cases e
  rw [tup_fun t t'] at i
  exact rows_fun i i'
theorem tup_keeps {h h' : Heap} {a : Addr} {xs : Array Value} (k : ∀ o, h.get? a = some o → o.cls = .type "tuple" → h'.get? a = some o) (t : h.IsTuple a xs) : h'.IsTuple a xs := by
  obtain ⟨o, e1, e2, n, e3⟩ := t
  exact ⟨o, k o e1 e2, e2, n, e3⟩
theorem row_keeps {h h' : Heap} (k : ∀ b o, h.get? b = some o → o.cls = .type "tuple" → h'.get? b = some o) {v : Value} {r : List Int} (t : IsRowH h v r) : IsRowH h' v r := by
  obtain ⟨a, xs, e, t, i⟩ := t
  exact ⟨a, xs, e, tup_keeps (k a) t, i⟩
theorem rows_keeps {h h' : Heap} (k : ∀ b o, h.get? b = some o → o.cls = .type "tuple" → h'.get? b = some o) : ∀ {vs : List Value} {r : List (List Int)}, Paired (IsRowH h) vs r → Paired (IsRowH h') vs r
  | _, _, .nil => .nil
  | _, _, .cons a b => .cons (row_keeps k a) (rows_keeps k b)
theorem tab_keeps {h h' : Heap} (k : ∀ b o, h.get? b = some o → o.cls = .type "tuple" → h'.get? b = some o) {v : Value} {r : List (List Int)} (t : IsTabH h v r) : IsTabH h' v r := by
  obtain ⟨a, xs, e, t, i⟩ := t
  exact ⟨a, xs, e, tup_keeps (k a) t, rows_keeps k i⟩
theorem ints_len : ∀ {vs : List Value} {r : List Int}, IntsAre vs r → vs.length = r.length
  | _, _, .nil => rfl
  | _, _, .cons _ _ h => by simp [ints_len h]
theorem ints_get0 : ∀ {vs : List Value} {r : List Int}, IntsAre vs r → ∀ (j : Nat), j < vs.length → ∃ t, vs[j]? = some (.int (r.getD j 0) t)
  | _, _, .nil, j, h => absurd h (by simp)
  | _, _, .cons n t _, 0, _ => ⟨t, by simp⟩
  | _, _, .cons n t r, j + 1, h => by
    obtain ⟨u, e⟩ := ints_get0 r j (by simpa using h)
    exact ⟨u, by simpa using e⟩
theorem ints_get {vs : Array Value} {r : List Int} (j : Nat) (h : j < vs.size) (i : IntsAre vs.toList r) : ∃ t, vs[j] = .int (r.getD j 0) t := by
  obtain ⟨t, e⟩ := ints_get0 i j (by simpa using h)
  refine ⟨t, ?_⟩
  have : vs[j]? = some (.int (r.getD j 0) t) := by simpa using e
  exact (Array.getElem?_eq_some_iff.mp this).2
theorem eq_range : ∀ (xs ys : List Int), ((List.range (min xs.length ys.length)).all (fun j => xs.getD j 0 == ys.getD j 0) && xs.length == ys.length) = decide (xs = ys) := by
  intro xs ys
  rw [Bool.eq_iff_iff]
  simp only [Bool.and_eq_true, List.all_eq_true, List.mem_range, beq_iff_eq, decide_eq_true_eq]
  constructor
  · rintro ⟨h1, h2⟩
    refine List.ext_getElem h2 fun i h3 h4 => ?_
    have := h1 i (by omega)
    simpa [h3, h4] using this
  · rintro rfl
    exact ⟨fun _ _ => rfl, rfl⟩
theorem lt_range : ∀ (xs ys : List Int) (k : Nat) (e r : Nat → Bool), (∀ j, e (k + j) = (xs.getD j 0 == ys.getD j 0)) → (∀ j, r (k + j) = decide (xs.getD j 0 < ys.getD j 0)) →
    SeqAt.firstLt e r (decide (xs.length < ys.length)) (List.range' k (min xs.length ys.length)) = lexI xs ys
  | [], [], _, _, _, _, _ => by simp [SeqAt.firstLt, lexI]
  | [], _ :: _, _, _, _, _, _ => by simp [SeqAt.firstLt, lexI]
  | _ :: _, [], _, _, _, _, _ => by simp [SeqAt.firstLt, lexI]
  | x :: xs, y :: ys, k, e, r, he, hr => by
    have e0 := he 0
    have r0 := hr 0
    simp only [Nat.add_zero, List.getD_cons_zero] at e0 r0
    have ih := lt_range xs ys (k + 1) e r (fun j => by have := he (j + 1); rw [show k + 1 + j = k + (j + 1) by omega, this]; simp) (fun j => by have := hr (j + 1); rw [show k + 1 + j = k + (j + 1) by omega, this]; simp)
    have em : min (x :: xs).length (y :: ys).length = min xs.length ys.length + 1 := by simp only [List.length_cons]; omega
    rw [em, List.range'_succ]
    have el : decide ((x :: xs).length < (y :: ys).length) = decide (xs.length < ys.length) := by simp
    rw [el]
    by_cases q : x = y
    · rw [SeqAt.firstLt_yes (by rw [e0]; simpa using q), ih]
      simp [lexI, q]
    · rw [SeqAt.firstLt_no (by rw [e0]; simpa using q), r0]
      simp [lexI, q]
section
variable {A : Around} {s : Shared}
theorem row_eq {u v : Value} {x y : List Int} (hu : A.units < cLine) (h1 : IsRowH s.heap u x) (h2 : IsRowH s.heap v y) : SeqAt.EqAt A s u v (decide (x = y)) := by
  have h1' := h1
  obtain ⟨a, xs, rfl, t1, i1⟩ := h1
  obtain ⟨b, ys, rfl, t2, i2⟩ := h2
  by_cases e : a = b
  · subst e
    rw [tup_fun t1 t2] at i1
    rw [ints_fun i1 i2]
    simp only [decide_true]
    exact SeqAt.EqAt.same _
  · have l1 : xs.size = x.length := by rw [← ints_len i1]; simp
    have l2 : ys.size = y.length := by rw [← ints_len i2]; simp
    have q := SeqAt.RcAt.tuples (e := fun j => x.getD j 0 == y.getD j 0) t1 t2 hu (fun j h1 h2 => by
      obtain ⟨t, e1⟩ := ints_get j h1 i1
      obtain ⟨t', e2⟩ := ints_get j h2 i2
      rw [e1, e2]
      exact SeqAt.EqAt.int_int _ _ _ _)
    rw [l1, l2, eq_range] at q
    exact SeqAt.EqAt.of_refs e q
theorem row_lt {u v : Value} {x y : List Int} (hu : A.units < cLine) (h1 : IsRowH s.heap u x) (h2 : IsRowH s.heap v y) : SeqAt.RcLt A s u v (lexI x y) := by
  obtain ⟨a, xs, rfl, t1, i1⟩ := h1
  obtain ⟨b, ys, rfl, t2, i2⟩ := h2
  have l1 : xs.size = x.length := by rw [← ints_len i1]; simp
  have l2 : ys.size = y.length := by rw [← ints_len i2]; simp
  have q := SeqAt.RcLt.tuples (e := fun j => x.getD j 0 == y.getD j 0) (r := fun j => decide (x.getD j 0 < y.getD j 0)) t1 t2 hu (fun j h1 h2 => by
      obtain ⟨t, e1⟩ := ints_get j h1 i1
      obtain ⟨t', e2⟩ := ints_get j h2 i2
      rw [e1, e2]
      exact SeqAt.EqAt.int_int _ _ _ _) (fun j h1 h2 _ => by
      obtain ⟨t, e1⟩ := ints_get j h1 i1
      obtain ⟨t', e2⟩ := ints_get j h2 i2
      rw [e1, e2]
      exact fun prog w E Q hq => lt_int (Q := Q) hq)
  rw [l1, l2, List.range_eq_range', lt_range x y 0 _ _ (fun j => by simp) (fun j => by simp)] at q
  exact q
theorem tab_lex {prog : Program} {w : World} {Q : Bool → Shared → Prop} (hu : A.units < cLine) : ∀ {xs ys : List Value} {ts us : List (List Int)} (i : Nat), Paired (IsRowH s.heap) xs ts → Paired (IsRowH s.heap) ys us → Q (lexT ts us) s →
    PySem.W.KatLex prog w A false (decide (xs.length < ys.length)) Q (xs.zip ys) i s
  | _, _, _, _, i, .nil, .nil, q => PySem.W.kat_nil (by simpa [lexT] using q)
  | _, _, _, _, i, .nil, .cons _ _, q => PySem.W.kat_nil (by simpa [lexT] using q)
  | _, _, _, _, i, .cons _ _, .nil, q => PySem.W.kat_nil (by simpa [lexT] using q)
  | _, _, _, _, i, .cons (b := t) a r, .cons (b := u) a' r', q => by
    refine PySem.W.kat_cons (row_eq hu a a' prog w _ _ ?_)
    simp only [List.length_cons, Nat.add_lt_add_iff_right]
    refine PySem.W.kat_go (fun e1 => ?_) (fun e1 => ?_)
    · have e : t = u := by simpa using e1
      refine PySem.W.kat_yes (tab_lex hu (i + 1) r r' ?_)
      simpa [lexT, e] using q
    · have e : ¬ t = u := by simpa using e1
      refine PySem.W.kat_no (PySem.W.kat_one _ _ (row_lt hu a a' prog w _ _ ?_))
      simpa [lexT, e, PySem.W.BoolBack] using q
end
section
variable {prog : Program} {w : World} {A : Around} {s : Shared}
noncomputable def keyH (h : Heap) (v : Value) : List (List Int) := open Classical in if e : ∃ t, IsTabH h v t then Classical.choose e else []
theorem keyH_of {h : Heap} {v : Value} {t : List (List Int)} (e : IsTabH h v t) : keyH h v = t := by
  unfold keyH
  rw [dif_pos ⟨t, e⟩]
  exact tab_fun (Classical.choose_spec (p := fun t => IsTabH h v t) ⟨t, e⟩) e
theorem firstsT {h : Heap} : ∀ {vs : List Value} {ts : List (List (List Int))}, Paired (IsTabH h) vs ts → (∀ t ∈ ts, t ≠ []) → ∃ fs, PySem.W.KatTups h vs fs ∧ fs.length = vs.length ∧ ∀ f ∈ fs, ∃ r, IsRowH h f r
  | _, _, .nil, _ => ⟨[], PySem.W.KatTups.nil, rfl, fun f hf => nomatch hf⟩
  | _, _, .cons (b := t) a r, hn => by
    obtain ⟨fs, k1, k2, k3⟩ := firstsT r fun t ht => hn t (List.mem_cons_of_mem _ ht)
    obtain ⟨b, items, rfl, ⟨o, e1, e2, n, e3⟩, p⟩ := a
    cases t with
    | nil => exact absurd rfl (hn [] List.mem_cons_self)
    | cons row rest =>
      generalize hl : items.toList = l at p
      cases p with
      | cons q q2 =>
        rename_i x xs
        refine ⟨x :: fs, PySem.W.KatTups.cons e1 e2 e3 (by rw [← Array.getElem?_toList, hl]; rfl) k1, by simp [k2], fun f hf => ?_⟩
        rcases List.mem_cons.mp hf with z | z
        · rw [z]; exact ⟨_, q⟩
        · exact k3 f z
theorem paired_get {α β : Type} {R : α → β → Prop} : ∀ {l : List α} {m : List β}, Paired R l m → ∀ x ∈ l, ∃ y ∈ m, R x y
  | _, _, .nil, x, hx => nomatch hx
  | _, _, .cons a r, x, hx => by
    rcases List.mem_cons.mp hx with z | z
    · rw [z]; exact ⟨_, List.mem_cons_self, a⟩
    · obtain ⟨y, h1, h2⟩ := paired_get r x z
      exact ⟨y, List.mem_cons_of_mem _ h1, h2⟩
theorem paired_imp {α β : Type} {R R' : α → β → Prop} (f : ∀ x y, R x y → R' x y) : ∀ {l : List α} {m : List β}, Paired R l m → Paired R' l m
  | _, _, .nil => .nil
  | _, _, .cons a r => .cons (f _ _ a) (paired_imp f r)
theorem sortable {a : Addr} {vs : List Value} {ts : List (List (List Int))} {k : Value → List (List Int)} (hu : A.units < cLine) (h0 : 0 < vs.length) (hp : Paired (IsTabH s.heap) vs ts) (hk : ∀ v ∈ vs, ∀ t, IsTabH s.heap v t → k v = t) (hn : ∀ t ∈ ts, t ≠ [])
    (ha : ∀ o, s.heap.get? a = some o → o.cls ≠ .type "tuple") : SrtO.SortableO prog w A s a vs fun v u => lexT (k v) (k u) := by
  intro h' keep
  have kp : ∀ b o, s.heap.get? b = some o → o.cls = .type "tuple" → h'.get? b = some o := fun b o e c => keep b o (fun z => by subst z; exact ha o e c) e
  have hp' : Paired (IsTabH h') vs ts := paired_imp (fun x y => tab_keeps kp) hp
  obtain ⟨fs, h1, h2, h3⟩ := firstsT hp' hn
  refine ⟨tuples' false, fun Q E hq => ?_, fun p q hm hm' => ?_⟩
  · refine PySem.W.kat_kind (T := .type "tuple") h1 (by omega) (fun f hm => ?_) (by rfl) ?_
    · obtain ⟨r, b, items, rfl, ⟨o, e1, e2, n, e3⟩, _⟩ := h3 f hm
      rw [← e2]
      exact (PySem.W.Looks.ld e1).andThen .now
    · have e : (Value.type "tuple" != Value.type "tuple") = false := by first | decide +kernel | rfl | decide
      rw [e]
      exact hq
  · obtain ⟨t, _, g1⟩ := paired_get hp p.1 hm
    obtain ⟨u, _, g2⟩ := paired_get hp q.1 hm'
    show wpAny (model prog w) A (keyLt' (tuples' false) p.1 q.1) (fun r s' => s' = { s with heap := h' } ∧ r = lexT (k p.1) (k q.1)) (fun _ _ => False) { s with heap := h' }
    rw [hk _ hm _ g1, hk _ hm' _ g2]
    obtain ⟨b, items, e, ⟨o, e1, e2, n, e3⟩, p1⟩ := tab_keeps kp g1
    obtain ⟨b', items', e', ⟨o', e1', e2', n', e3'⟩, p1'⟩ := tab_keeps kp g2
    rw [e, e']
    refine PySem.W.kat_lt e1 e3 e1' e3' ?_
    have := tab_lex (prog := prog) (w := w) (A := A) (s := { s with heap := h' }) (Q := fun r s' => s' = { s with heap := h' } ∧ r = lexT t u) hu 0 p1 p1' ⟨rfl, rfl⟩
    simpa using this
end
section
variable {L : Lk} {X : Cx} {W : WX} {n : Nat}
theorem rel_row {pins : List (Addr × Obj)} {σ : L2.St} {H : Hp} {s : Shared} {F : Addr → Prop} {m : List Addr} (I : Inv X pins σ H s) {r : List Int} {v : V} {u : Value} (h : Relx X F H m (.tup (r.map .int)) v) (ru : RelV v u) : IsRowH s.heap u r := by
  cases h with
  | tup h1 r1 =>
    cases ru
    obtain ⟨its, rv, ht, hz⟩ := I.tuple h1.sq
    refine ⟨_, its.toArray, rfl, ht, ?_⟩
    have : ∀ {r : List Int} {vs : List V} {us : List Value}, RelL X.prog X.w X.K F H m (r.map .int) vs → Vals vs us → IntsAre us r := by
      intro r
      induction r with
      | nil => intro vs us a b; cases a; cases b; exact .nil
      | cons x xs ih =>
        intro vs us a b
        cases a with
        | cons a1 a2 =>
          cases b with
          | cons b1 b2 =>
            cases a1
            obtain ⟨t, rfl⟩ := b1
            exact .cons _ t (ih a2 b2)
    simpa using this r1 rv
theorem rel_tab {pins : List (Addr × Obj)} {σ : L2.St} {H : Hp} {s : Shared} {F : Addr → Prop} {m : List Addr} (I : Inv X pins σ H s) {t : List (List Int)} {v : V} {u : Value} (h : Relx X F H m (tabD t) v) (ru : RelV v u) : IsTabH s.heap u t := by
  unfold tabD at h
  cases h with
  | tup h1 r1 =>
    cases ru
    obtain ⟨its, rv, ht, hz⟩ := I.tuple h1.sq
    refine ⟨_, its.toArray, rfl, ht, ?_⟩
    have : ∀ {t : List (List Int)} {vs : List V} {us : List Value}, RelL X.prog X.w X.K F H m (t.map fun r => .tup (r.map .int)) vs → Vals vs us → Paired (IsRowH s.heap) us t := by
      intro t
      induction t with
      | nil => intro vs us a b; cases a; cases b; exact .nil
      | cons x xs ih =>
        intro vs us a b
        cases a with
        | cons a1 a2 =>
          cases b with
          | cons b1 b2 => exact .cons (rel_row I a1 b1) (ih a2 b2)
    simpa using this r1 rv
theorem rel_tabs {pins : List (Addr × Obj)} {σ : L2.St} {H : Hp} {s : Shared} {F : Addr → Prop} {m : List Addr} (I : Inv X pins σ H s) : ∀ {ts : List (List (List Int))} {vs : List V} {us : List Value}, RelL X.prog X.w X.K F H m (ts.map tabD) vs → Vals vs us →
    Paired (IsTabH s.heap) us ts ∧ (∀ x ∈ vs, ∃ a, x = V.ref a) ∧ ∀ u ∈ us, ∀ t, IsTabH s.heap u t → Relx X F H m (tabD t) (L2.backV u)
  | [], _, _, .nil, .nil => ⟨.nil, fun x hx => (nomatch hx), fun u hu => (nomatch hu)⟩
  | t :: ts, _, _, .cons (v := v) a1 a2, .cons b1 b2 => by
    obtain ⟨i1, i2, i3⟩ := rel_tabs I a2 b2
    have q := rel_tab I a1 b1
    obtain ⟨a, items, e, _, _⟩ := id q
    have ev : ∃ b, v = V.ref b := by
      unfold tabD at a1
      cases a1 with
      | tup h1 r1 => exact ⟨_, rfl⟩
    obtain ⟨b, rfl⟩ := ev
    refine ⟨.cons q i1, fun x hx => ?_, fun u hu t' ht' => ?_⟩
    · rcases List.mem_cons.mp hx with z | z
      · exact ⟨b, z⟩
      · exact i2 x z
    · rcases List.mem_cons.mp hu with z | z
      · subst z
        rw [← tab_fun q ht']
        cases b1
        exact a1
      · exact i3 u z t' ht'
theorem paired_map {α β : Type} {R : α → β → Prop} {f : α → β} (hf : ∀ x y, R x y → f x = y) : ∀ {l : List α} {m : List β}, Paired R l m → l.map f = m
  | _, _, .nil => rfl
  | _, _, .cons a r => by rw [List.map_cons, hf _ _ a, paired_map hf r]
def rSrt (X : Cx) : List V → Hp → VK → Prop := fun vs H Q => ∃ (a : Addr) (xs : List V) (F : Addr → Prop) (m : List Addr) (ts : List (List (List Int))), vs = [V.ref a] ∧ SqL X.K H a xs ∧ RelL X.prog X.w X.K F H m (ts.map tabD) xs ∧ (∀ t ∈ ts, t ≠ []) ∧
  ∀ ys p, RelL X.prog X.w X.K F H m ((sortT ts).map tabD) ys → H p = none → Q (.ref p) (upd H p (.lst ys))
theorem cr_srt (hr : X.A.units + 2 < cLine) : CallR X (.builtin "sorted") (rSrt X) := by
  intro pins s σ H vs us Q I r h
  obtain ⟨a, xs, F, m, ts, rfl, hs, rl, hn, q⟩ := h
  obtain ⟨its, rv, hl, hz⟩ := I.list hs
  obtain ⟨u, rfl, ru⟩ := vals1 r
  obtain rfl : u = Value.ref a := ru
  obtain ⟨p1, p2, p3⟩ := rel_tabs I rl rv
  obtain ⟨e1, e2⟩ := refs_back rv p2
  have hk : ∀ v t, IsTabH s.heap v t → keyH s.heap v = t := fun v t => keyH_of
  refine SrtO.sorted_ord (ltv := fun v u => lexT (keyH s.heap v) (keyH s.heap u)) ⟨fun x y => sto_lexT.swo.asym _ _, fun x y z => sto_lexT.swo.tr _ _ _⟩ hl.isList (by rw [← rv.length]; exact hz) (fun h2 h₁ b hb kk => ?_) fun out hs hb => ?_
  · refine sortable (s := { s with heap := h₁ }) (show X.A.units + 1 + 1 < cLine by omega) (by omega) (paired_imp (fun x y => tab_keeps fun b o e _ => (kk b o e).2) p1) (fun v hv t ht => ?_) hn fun o e => ?_
    · obtain ⟨t0, _, h0⟩ := paired_get p1 v hv
      rw [hk v t0 h0]
      exact tab_fun (tab_keeps (fun b o e _ => (kk b o e).2) h0) ht
    · have e' : some o = some (seqObj "list" its.toArray 0) := e.symm.trans hb
      cases e'
      intro c
      exact absurd (Value.type.inj c) (by decide)
  · have perm := hb.perm
    have h3 : ∀ u ∈ out, ∃ a, u = Value.ref a := fun u hu => e2 u (perm.mem_iff.mp hu)
    have hmap : its.map (keyH s.heap) = ts := paired_map (fun x y => hk x y) p1
    have hout : out.map (keyH s.heap) = sortT ts := by
      refine perm_uniq sto_lexT (List.pairwise_map.mpr hs) (sortT_srt ts) ?_
      refine (perm.map _).trans ?_
      rw [hmap]
      exact (sortT_perm ts).symm
    have hrel : RelL X.prog X.w X.K F H m ((sortT ts).map tabD) (out.map L2.backV) := by
      rw [← hout, List.map_map]
      have : ∀ l : List Value, (∀ u ∈ l, u ∈ its) → RelL X.prog X.w X.K F H m (l.map (tabD ∘ keyH s.heap)) (l.map L2.backV) := by
        intro l
        induction l with
        | nil => intro _; exact .nil
        | cons x xs ih =>
          intro hl
          obtain ⟨t, _, ht⟩ := paired_get p1 x (hl x List.mem_cons_self)
          refine .cons ?_ (ih fun u hu => hl u (List.mem_cons_of_mem _ hu))
          show Relx X F H m (tabD (keyH s.heap x)) _
          rw [hk x t ht]
          exact p3 x (hl x List.mem_cons_self) t ht
      exact this out fun u hu => perm.mem_iff.mp hu
    obtain ⟨n, hn2⟩ := sortedAll_at s.heap its out.toArray
    refine ⟨.ref (s.heap.objs.size + 1), upd H (s.heap.objs.size + 1) (.lst (out.map L2.backV)), I.laid (t' := s.toks) (fun b o e => sortedAll_old e) (Nat.le_succ _) ⟨?_, out, n, vals_back h3, hn2⟩, rfl, q _ _ hrel (I.hok.fresh (Nat.le_succ _))⟩
    rw [List.length_map, perm.length_eq, ← rv.length]
    exact hz
end
end Mn
set_option maxHeartbeats 4000000
namespace Mn
open PySem PySem.Spec PyProof.Rows L2
/-! ### sums, greatest, least of tuples -/
section
variable {prog : Program} {w : World} {A : Around} {E : Value → Shared → Prop} {s : Shared} {l : Addr} {its : List Value} {ns : List Int} {Q : Value → Shared → Prop}
theorem iter_tupT {items : Array Value} (hl : s.heap.IsTuple l items)
    (h : ∀ s₂ : Shared, s₂ = { s with heap := s.heap.push { cls := .type "tuple_iterator", data := .fields #[.ref l, .int 0 0] } } →
      (s₂.heap.IsTupleIter s.heap.objs.size l 0 ∧ s₂.heap.IsTuple l items) → (∀ b ∈ [s.heap.objs.size, l], b < s₂.heap.objs.size) → l ≠ s.heap.objs.size → Q (.ref s.heap.objs.size) s₂) :
    wpAny (model prog w) A (pyIter (.ref l)) Q E s := by
  have hlt : l < s.heap.objs.size := by obtain ⟨_, e, _⟩ := hl; exact Heap.lt_size e
  refine wpAny_pyIter_tuple hl (h _ rfl ⟨⟨_, Heap.get?_push_size _ rfl, rfl, rfl⟩, hl.at fun o e => Heap.get?_push_of_some _ e⟩ (fun b hb => ?_) (Nat.ne_of_lt hlt))
  show b < (s.heap.push _).objs.size
  rw [Heap.size_push]
  rcases List.mem_cons.mp hb with rfl | hb
  · exact Nat.lt_succ_self _
  · rcases List.mem_cons.mp hb with rfl | hb
    · exact Nat.lt_succ_of_lt hlt
    · cases hb
theorem old_keptT {h' : Heap} (hk : ∀ b o, b ∉ [s.heap.objs.size] → (s.heap.push { cls := .type "tuple_iterator", data := .fields #[.ref l, .int 0 0] }).get? b = some o → h'.get? b = some o) :
    ∀ b o, s.heap.get? b = some o → h'.get? b = some o := fun b o e => by
  refine hk b o (fun hm => ?_) (Heap.get?_push_of_some _ e)
  rcases List.mem_cons.mp hm with e1 | hm
  · exact absurd (e1 ▸ Heap.lt_size e) (Nat.lt_irrefl _)
  · cases hm
theorem sum_rawT (hh : A.handled = none) (hl : s.heap.IsTuple l its.toArray) (hi : IntsAre its ns)
    (h : ∀ h' tk t', (∀ b o, s.heap.get? b = some o → h'.get? b = some o) → Q (.int ns.sum t') { s with heap := h', toks := tk }) : wpAny (model prog w) A (call (.builtin "sum") [.ref l]) Q E s := by
  obtain ⟨xs, e⟩ := hi.allInts.items
  have hn : numsOf (intItems xs).toList = ns := by rw [← e]; exact hi.numsOf
  rw [nums_intItems] at hn
  rw [e] at hl
  refine call_sum_walkG (iter_tupT hl fun s₂ e st hfp hlI => ?_)
  subst e
  refine ⟨_, _, _, _, _, _, numAt xs, rfl, Walks.tuple (A := A.in1) hh _ l hlI (intItems xs), st, hfp, (fun _ _ => intItems_at), fun h' tk t' hk => ?_⟩
  have := h h' tk t' (old_keptT hk)
  rw [preSum_eq, List.take_of_length_le (by simp [intItems]), hn]; exact this
theorem max_rawT (hh : A.handled = none) (hl : s.heap.IsTuple l its.toArray) (hi : IntsAre its ns) (hne : 0 < ns.length)
    (h : ∀ h' tk M t', (∀ b o, s.heap.get? b = some o → h'.get? b = some o) → M ∈ ns → (∀ a, a ∈ ns → a ≤ M) → Q (.int M t') { s with heap := h', toks := tk }) : wpAny (model prog w) A (call (.builtin "max") [.ref l]) Q E s := by
  obtain ⟨xs, e⟩ := hi.allInts.items
  have hn : numsOf (intItems xs).toList = ns := by rw [← e]; exact hi.numsOf
  rw [nums_intItems] at hn
  subst hn
  rw [e] at hl
  have hsz : 0 < xs.size := by simpa using hne
  refine call_max_walk (iter_tupT hl fun s₂ e st hfp hlI => ?_)
  subst e
  refine ⟨_, _, _, _, _, _, _, rfl, Walks.tuple (A := A.in1) hh _ l hlI (intItems xs), st, hfp, by simpa [intItems] using hsz, CmpOf.ints_gt (numAt xs) (fun _ _ => intItems_at), fun v h' tk hP hk => ?_⟩
  have hv : (intItems xs)[argBest (fun i j => decide (numAt xs i > numAt xs j)) (xs.size - 1)]? = some v := by simpa [intItems] using hP
  obtain ⟨t, rfl⟩ := intItems_at hv
  obtain ⟨h1, h2⟩ := argBest_gt (numAt xs) (xs.size - 1)
  refine h h' tk _ t (old_keptT hk) ?_ fun a ha => ?_
  · rw [numAt_eq]; exact PySem.getD_mem (by rw [List.length_map, Array.length_toList]; omega)
  · obtain ⟨j, hj, rfl⟩ := mem_getD ha
    rw [List.length_map, Array.length_toList] at hj
    rw [← numAt_eq]; exact h2 j (by omega)
theorem min_rawT (hh : A.handled = none) (hl : s.heap.IsTuple l its.toArray) (hi : IntsAre its ns) (hne : 0 < ns.length)
    (h : ∀ h' tk M t', (∀ b o, s.heap.get? b = some o → h'.get? b = some o) → M ∈ ns → (∀ a, a ∈ ns → M ≤ a) → Q (.int M t') { s with heap := h', toks := tk }) : wpAny (model prog w) A (call (.builtin "min") [.ref l]) Q E s := by
  obtain ⟨xs, e⟩ := hi.allInts.items
  have hn : numsOf (intItems xs).toList = ns := by rw [← e]; exact hi.numsOf
  rw [nums_intItems] at hn
  subst hn
  rw [e] at hl
  have hsz : 0 < xs.size := by simpa using hne
  refine call_min_walk (iter_tupT hl fun s₂ e st hfp hlI => ?_)
  subst e
  refine ⟨_, _, _, _, _, _, _, rfl, Walks.tuple (A := A.in1) hh _ l hlI (intItems xs), st, hfp, by simpa [intItems] using hsz, CmpOf.ints_lt (numAt xs) (fun _ _ => intItems_at), fun v h' tk hP hk => ?_⟩
  have hv : (intItems xs)[argBest (fun i j => decide (numAt xs i < numAt xs j)) (xs.size - 1)]? = some v := by simpa [intItems] using hP
  obtain ⟨t, rfl⟩ := intItems_at hv
  obtain ⟨h1, h2⟩ := argBest_lt (numAt xs) (xs.size - 1)
  refine h h' tk _ t (old_keptT hk) ?_ fun a ha => ?_
  · rw [numAt_eq]; exact PySem.getD_mem (by rw [List.length_map, Array.length_toList]; omega)
  · obtain ⟨j, hj, rfl⟩ := mem_getD ha
    rw [List.length_map, Array.length_toList] at hj
    rw [← numAt_eq]; exact h2 j (by omega)
end
section
variable {X : Cx}
def rSumT (K : PySem.W.Frag) : List V → Hp → VK → Prop := fun vs H Q => ∃ (a : Addr) (ns : List Int), vs = [V.ref a] ∧ SqT K H a (ns.map V.int) ∧ Q (.int ns.sum) H
def rMaxT (K : PySem.W.Frag) : List V → Hp → VK → Prop := fun vs H Q => ∃ (a : Addr) (ns : List Int), vs = [V.ref a] ∧ SqT K H a (ns.map V.int) ∧ 0 < ns.length ∧ ∀ m, m ∈ ns → (∀ y, y ∈ ns → y ≤ m) → Q (.int m) H
def rMinT (K : PySem.W.Frag) : List V → Hp → VK → Prop := fun vs H Q => ∃ (a : Addr) (ns : List Int), vs = [V.ref a] ∧ SqT K H a (ns.map V.int) ∧ 0 < ns.length ∧ ∀ m, m ∈ ns → (∀ y, y ∈ ns → m ≤ y) → Q (.int m) H
theorem cr_sumT (hc : X.calm = true) : CallR X (.builtin "sum") (rSumT X.K) := by
  intro pins s σ H vs us Q I r h
  obtain ⟨a, ns, rfl, hs, q⟩ := h
  obtain ⟨its, rv, hl, _⟩ := I.tuple hs
  rw [L2.Vals.ref1 r]
  exact sum_rawT (I.ok.hd hc) (show s.heap.IsTuple a its.toArray from hl) rv.ints fun h' tk t' hk => ⟨.int _, H, I.kept hk, ⟨_, rfl⟩, q⟩
theorem cr_maxT (hc : X.calm = true) : CallR X (.builtin "max") (rMaxT X.K) := by
  intro pins s σ H vs us Q I r h
  obtain ⟨a, ns, rfl, hs, hne, q⟩ := h
  obtain ⟨its, rv, hl, _⟩ := I.tuple hs
  rw [L2.Vals.ref1 r]
  exact max_rawT (I.ok.hd hc) (show s.heap.IsTuple a its.toArray from hl) rv.ints hne fun h' tk m t' hk h1 h2 => ⟨.int _, H, I.kept hk, ⟨_, rfl⟩, q m h1 h2⟩
theorem cr_minT (hc : X.calm = true) : CallR X (.builtin "min") (rMinT X.K) := by
  intro pins s σ H vs us Q I r h
  obtain ⟨a, ns, rfl, hs, hne, q⟩ := h
  obtain ⟨its, rv, hl, _⟩ := I.tuple hs
  rw [L2.Vals.ref1 r]
  exact min_rawT (I.ok.hd hc) (show s.heap.IsTuple a its.toArray from hl) rv.ints hne fun h' tk m t' hk h1 h2 => ⟨.int _, H, I.kept hk, ⟨_, rfl⟩, q m h1 h2⟩
theorem callR_or {f : Value} {r r' : List V → Hp → VK → Prop} (h : CallR X f r) (h' : CallR X f r') : CallR X f (fun xs H Q => r xs H Q ∨ r' xs H Q) := by
  intro pins s σ H vs us Q I rs q
  rcases q with q | q
  · exact h pins s σ H vs us Q I rs q
  · exact h' pins s σ H vs us Q I rs q
end
/-! ### numbers in lists -/
theorem maxI_spec : ∀ {xs : List Int} {x : Int}, maxI xs = some x → x ∈ xs ∧ ∀ y ∈ xs, y ≤ x := by
  have key : ∀ (l : List Int) (a : Int), (l.foldl (fun a b => if b > a then b else a) a = a ∨ l.foldl (fun a b => if b > a then b else a) a ∈ l) ∧ a ≤ l.foldl (fun a b => if b > a then b else a) a ∧ ∀ y ∈ l, y ≤ l.foldl (fun a b => if b > a then b else a) a := by
    intro l
    induction l with
    | nil => intro a; simp
    | cons b r ih =>
      intro a
      simp only [List.foldl_cons]
      obtain ⟨h1, h2, h3⟩ := ih (if b > a then b else a)
      refine ⟨?_, ?_, ?_⟩
      · rcases h1 with h | h
        · by_cases c : b > a
          · rw [if_pos c] at h ⊢; right; rw [h]; exact List.mem_cons_self
          · rw [if_neg c] at h ⊢; left; exact h
        · right; exact List.mem_cons_of_mem _ h
      · refine Int.le_trans ?_ h2; split <;> omega
      · intro y hy
        rcases List.mem_cons.mp hy with e | hy
        · refine Int.le_trans ?_ h2; subst e; split <;> omega
        · exact h3 y hy
  intro xs x h
  cases xs with
  | nil => simp [maxI] at h
  | cons a l =>
    simp only [maxI, Option.some.injEq] at h
    subst h
    obtain ⟨h1, h2, h3⟩ := key l a
    refine ⟨?_, fun y hy => ?_⟩
    · rcases h1 with h | h
      · rw [h]; exact List.mem_cons_self
      · exact List.mem_cons_of_mem _ h
    · rcases List.mem_cons.mp hy with e | hy
      · rw [e]; exact h2
      · exact h3 y hy
theorem minI_spec : ∀ {xs : List Int} {x : Int}, minI xs = some x → x ∈ xs ∧ ∀ y ∈ xs, x ≤ y := by
  have key : ∀ (l : List Int) (a : Int), (l.foldl (fun a b => if b < a then b else a) a = a ∨ l.foldl (fun a b => if b < a then b else a) a ∈ l) ∧ l.foldl (fun a b => if b < a then b else a) a ≤ a ∧ ∀ y ∈ l, l.foldl (fun a b => if b < a then b else a) a ≤ y := by
    intro l
    induction l with
    | nil => intro a; simp
    | cons b r ih =>
      intro a
      simp only [List.foldl_cons]
      obtain ⟨h1, h2, h3⟩ := ih (if b < a then b else a)
      refine ⟨?_, ?_, ?_⟩
      · rcases h1 with h | h
        · by_cases c : b < a
          · rw [if_pos c] at h ⊢; right; rw [h]; exact List.mem_cons_self
          · rw [if_neg c] at h ⊢; left; exact h
        · right; exact List.mem_cons_of_mem _ h
      · refine Int.le_trans h2 ?_; split <;> omega
      · intro y hy
        rcases List.mem_cons.mp hy with e | hy
        · refine Int.le_trans h2 ?_; subst e; split <;> omega
        · exact h3 y hy
  intro xs x h
  cases xs with
  | nil => simp [minI] at h
  | cons a l =>
    simp only [minI, Option.some.injEq] at h
    subst h
    obtain ⟨h1, h2, h3⟩ := key l a
    refine ⟨?_, fun y hy => ?_⟩
    · rcases h1 with h | h
      · rw [h]; exact List.mem_cons_self
      · exact List.mem_cons_of_mem _ h
    · rcases List.mem_cons.mp hy with e | hy
      · rw [e]; exact h2
      · exact h3 y hy
section
variable {P : Program} {w : World} {K : PySem.W.Frag} {F : Addr → Prop} {H : Hp} {m : List Addr}
theorem RelL.intv : ∀ {ds : List D} {vs : List V} {is : List Int}, RelL P w K F H m ds vs → intsD ds = some is → vs = is.map V.int
  | _, _, _, .nil, h => by simp only [intsD, Option.some.injEq] at h; subst h; rfl
  | _, _, _, .cons (d := d) (ds := ds) r t, h => by
    cases d <;> simp only [intsD, reduceCtorEq] at h
    obtain ⟨is, e, rfl⟩ := Option.map_eq_some_iff.mp h
    cases r
    rw [RelL.intv t e]; rfl
theorem RelL.blv : ∀ {ds : List D} {vs : List V} {is : List Bool}, RelL P w K F H m ds vs → blsD ds = some is → vs = is.map V.bl
  | _, _, _, .nil, h => by simp only [blsD, Option.some.injEq] at h; subst h; rfl
  | _, _, _, .cons (d := d) (ds := ds) r t, h => by
    cases d <;> simp only [blsD, reduceCtorEq] at h
    obtain ⟨is, e, rfl⟩ := Option.map_eq_some_iff.mp h
    cases r
    rw [RelL.blv t e]; rfl
theorem RelL.one {d : D} {vs : List V} (r : RelL P w K F H m [d] vs) : ∃ v, vs = [v] ∧ Rel P w K F H m d v := by
  cases r with
  | cons r t => cases t; exact ⟨_, rfl, r⟩
theorem RelL.two {d e : D} {vs : List V} (r : RelL P w K F H m [d, e] vs) : ∃ v u, vs = [v, u] ∧ Rel P w K F H m d v ∧ Rel P w K F H m e u := by
  cases r with
  | cons r t =>
    obtain ⟨u, rfl, ru⟩ := t.one
    exact ⟨_, _, rfl, r, ru⟩
/-- a list or a tuple of numbers -/
theorem Rel.seqInts {d : D} {v : V} {xs : List D} {is : List Int} (r : Rel P w K F H m d v) (h : seqD d = some xs) (hi : intsD xs = some is) : ∃ a, v = .ref a ∧ (SqL K H a (is.map V.int) ∨ SqT K H a (is.map V.int)) := by
  cases d <;> simp only [seqD, reduceCtorEq] at h
  · cases h
    cases r with
    | tup h1 r1 => rw [← r1.intv hi]; exact ⟨_, rfl, .inr h1.sq⟩
  · cases h
    cases r with
    | lst f1 h1 r1 => rw [← r1.intv hi]; exact ⟨_, rfl, .inl (SqL.of h1)⟩
end
section
variable {L : Lk} {X : Cx} {W : WX} {n : Nat}
def biT : Bi → Option (String × Bool)
  | .len => some ("len", false)
  | .all => some ("all", false)
  | .any => some ("any", false)
  | .sum => some ("sum", false)
  | .max1 => some ("max", false)
  | .min1 => some ("min", false)
  | .max2 => some ("max", false)
  | .min2 => some ("min", false)
  | .tuple => some ("tuple", true)
  | .list => some ("list", true)
  | .int => some ("int", true)
  | .sorted => some ("sorted", false)
  | _ => none
theorem ints_rel {P : Program} {w : World} {K : PySem.W.Frag} {F : Addr → Prop} {H : Hp} {m : List Addr} : ∀ ns : List Int, RelL P w K F H m (ns.map D.int) (ns.map V.int)
  | [] => .nil
  | a :: r => .cons (.int a) (ints_rel r)
theorem rowI_of : ∀ {d : D} {r : List Int}, rowI d = some r → d = .tup (r.map .int)
  | .tup ds, r, h => by
    unfold rowI at h
    have : ∀ {ds : List D} {r : List Int}, intsD ds = some r → ds = r.map .int := by
      intro ds
      induction ds with
      | nil => intro r h; simp only [intsD, Option.some.injEq] at h; subst h; rfl
      | cons d ds ih =>
        intro r h
        cases d <;> simp only [intsD, reduceCtorEq] at h
        obtain ⟨r2, e, rfl⟩ := Option.map_eq_some_iff.mp h
        rw [ih e]; rfl
    rw [this h]
  | .non, _, h | .bl _, _, h | .int _, _, h | .str _, _, h | .lst _, _, h | .scr _, _, h | .dic _, _, h | .ref _, _, h | .exn _, _, h => by simp [rowI] at h
theorem rowsI_of : ∀ {ds : List D} {t : List (List Int)}, rowsI ds = some t → ds = t.map fun r => .tup (r.map .int)
  | [], t, h => by simp only [rowsI, Option.some.injEq] at h; subst h; rfl
  | d :: ds, t, h => by
    unfold rowsI at h
    cases e1 : rowI d <;> cases e2 : rowsI ds <;> simp only [e1, e2, reduceCtorEq, Option.some.injEq] at h
    subst h
    rw [rowI_of e1, rowsI_of e2]; rfl
theorem tabI_of : ∀ {d : D} {t : List (List Int)}, tabI d = some t → d = tabD t ∧ t ≠ []
  | .tup (d :: ds), t, h => by
    unfold tabI at h
    refine ⟨by unfold tabD; rw [← rowsI_of h], fun z => ?_⟩
    subst z
    have := rowsI_of h
    simp at this
  | .tup [], _, h => by simp [tabI] at h
  | .non, _, h | .bl _, _, h | .int _, _, h | .str _, _, h | .lst _, _, h | .scr _, _, h | .dic _, _, h | .ref _, _, h | .exn _, _, h => by simp [tabI] at h
theorem tabsI_of : ∀ {ds : List D} {ts : List (List (List Int))}, tabsI ds = some ts → ds = ts.map tabD ∧ ∀ t ∈ ts, t ≠ []
  | [], t, h => by simp only [tabsI, Option.some.injEq] at h; subst h; exact ⟨rfl, fun t ht => nomatch ht⟩
  | d :: ds, t, h => by
    unfold tabsI at h
    cases e1 : tabI d <;> cases e2 : tabsI ds <;> simp only [e1, e2, reduceCtorEq, Option.some.injEq] at h
    subst h
    obtain ⟨q1, q2⟩ := tabI_of e1
    obtain ⟨q3, q4⟩ := tabsI_of e2
    refine ⟨by rw [q1, q3]; rfl, fun t ht => ?_⟩
    rcases List.mem_cons.mp ht with z | z
    · rw [z]; exact q2
    · exact q4 t z
variable {os : List Sl → Store → Out (List D)} {e : Expr} {es : List Expr} {p pos : Pos}
theorem s_bi {b : Bi} {nm : String} {ty : Bool} (G : Good L X n W) (hb : biT b = some (nm, ty)) (hg : Gl X (Str.ofString nm)) (hst : ∀ a ∈ e :: es, isStar a = false) (ha : SndA L X W (e :: es) os) :
    SndE L X W (.Call (.Name (Str.ofString nm) p) (e :: es) [] pos) (fun sa st => (os sa st).bind fun ds st => .of (biD b ds) st) := by
  cases b <;> simp only [biT, reduceCtorEq, Option.some.injEq, Prod.mk.injEq] at hb <;> obtain ⟨rfl, rfl⟩ := hb
  case sorted =>
    refine s_callB (callR_or cr_sortedI (cr_srt (by have := G.room.un; omega))) hg (G.link.free _ (by decide)) (by decide +kernel) (by decide) (by decide) hst ha fun ds d vs F m H st Q S r hd q => ?_
    unfold biD at hd
    split at hd
    all_goals first
      | contradiction
      | (split at hd
         · rename_i ns hns
           cases hd
           obtain ⟨v, rfl, rv⟩ := r.one
           cases rv with
           | lst f1 h1 r1 =>
             refine .inl ⟨_, ns, rfl, by rw [← r1.intv hns]; exact SqL.of h1, fun ns' p hp hs hn => ?_⟩
             have e : ns' = sortI ns := by
               refine perm_uniq sto_int ?_ ?_ (hp.trans (List.mergeSort_perm _ _).symm)
               · exact hs.imp fun h => by simpa using h
               · have z := List.pairwise_mergeSort (le := fun a b : Int => decide (a ≤ b)) (fun a b c h1 h2 => by simp at h1 h2 ⊢; omega) (fun a b => by simp; omega) ns
                 exact z.imp fun h => by simpa using h
             subst e
             obtain ⟨e3, s3, rr⟩ := S.newL hn (ints_rel (sortI ns))
             exact q _ _ _ e3 s3 _ rr
         · obtain ⟨ts, e, rfl⟩ := Option.map_eq_some_iff.mp hd
           obtain ⟨v, rfl, rv⟩ := r.one
           obtain ⟨e1, e2⟩ := tabsI_of e
           cases rv with
           | lst f1 h1 r1 =>
             rw [e1] at r1
             refine .inr ⟨_, _, F, m, ts, rfl, SqL.of h1, r1, e2, fun ys p hy hp => ?_⟩
             obtain ⟨e3, s3, rr⟩ := S.newL hp hy
             exact q _ _ _ e3 s3 _ rr)
      | (cases hd)
  case len =>
    refine s_callB call_len_seq hg (G.link.free _ (by decide)) (by decide +kernel) (by decide) (by decide) hst ha fun ds d vs F m H st Q S r hd q => ?_
    unfold biD at hd
    split at hd
    all_goals first
      | contradiction
      | (cases hd; obtain ⟨v, rfl, rv⟩ := r.one
         cases rv with
         | lst f1 h1 r1 => exact ⟨_, _, rfl, .inl (SqL.of h1), by rw [← r1.length]; exact q H F m Evo.refl S _ (.int _)⟩)
      | (cases hd; obtain ⟨v, rfl, rv⟩ := r.one
         cases rv with
         | tup h1 r1 => exact ⟨_, _, rfl, .inr h1.sq, by rw [← r1.length]; exact q H F m Evo.refl S _ (.int _)⟩)
      | (cases hd; obtain ⟨v, rfl, rv⟩ := r.one
         cases rv with
         | scr h1 => exact ⟨_, _, rfl, .inl h1.sq, by rw [List.length_map]; exact q H F m Evo.refl S _ (.int _)⟩)
      | (cases hd)
  case all =>
    refine s_callB (cr_all G.calm) hg (G.link.free _ (by decide)) (by decide +kernel) (by decide) (by decide) hst ha fun ds d vs F m H st Q S r hd q => ?_
    unfold biD at hd
    split at hd
    all_goals first
      | contradiction
      | (obtain ⟨bs, hb, rfl⟩ := Option.map_eq_some_iff.mp hd; obtain ⟨v, rfl, rv⟩ := r.one
         cases rv with
         | lst f1 h1 r1 => exact ⟨_, bs, rfl, by rw [← r1.blv hb]; exact SqL.of h1, q H F m Evo.refl S _ (.bl _)⟩)
      | (cases hd)
  case any =>
    refine s_callB (cr_any G.calm) hg (G.link.free _ (by decide)) (by decide +kernel) (by decide) (by decide) hst ha fun ds d vs F m H st Q S r hd q => ?_
    unfold biD at hd
    split at hd
    all_goals first
      | contradiction
      | (obtain ⟨bs, hb, rfl⟩ := Option.map_eq_some_iff.mp hd; obtain ⟨v, rfl, rv⟩ := r.one
         cases rv with
         | lst f1 h1 r1 => exact ⟨_, bs, rfl, by rw [← r1.blv hb]; exact SqL.of h1, q H F m Evo.refl S _ (.bl _)⟩)
      | (cases hd)
  case sum =>
    refine s_callB (callR_or (cr_sum G.calm) (cr_sumT G.calm)) hg (G.link.free _ (by decide)) (by decide +kernel) (by decide) (by decide) hst ha fun ds d vs F m H st Q S r hd q => ?_
    unfold biD at hd
    split at hd
    all_goals first
      | contradiction
      | (obtain ⟨xs, hx, hd⟩ := Option.bind_eq_some_iff.mp hd; obtain ⟨is, hi, rfl⟩ := Option.map_eq_some_iff.mp hd; obtain ⟨v, rfl, rv⟩ := r.one
         obtain ⟨a, rfl, h | h⟩ := rv.seqInts hx hi
         · exact .inl ⟨a, is, rfl, h, q H F m Evo.refl S _ (.int _)⟩
         · exact .inr ⟨a, is, rfl, h, q H F m Evo.refl S _ (.int _)⟩)
      | (cases hd)
  case max1 =>
    refine s_callB (callR_or (cr_max G.calm) (cr_maxT G.calm)) hg (G.link.free _ (by decide)) (by decide +kernel) (by decide) (by decide) hst ha fun ds d vs F m H st Q S r hd q => ?_
    unfold biD at hd
    split at hd
    all_goals first
      | contradiction
      | (obtain ⟨xs, hx, hd⟩ := Option.bind_eq_some_iff.mp hd; obtain ⟨is, hi, hd⟩ := Option.bind_eq_some_iff.mp hd; obtain ⟨z, hz, rfl⟩ := Option.map_eq_some_iff.mp hd; obtain ⟨v, rfl, rv⟩ := r.one
         obtain ⟨z1, z2⟩ := maxI_spec hz
         have fin : ∀ y, y ∈ is → (∀ u, u ∈ is → u ≤ y) → Q (.int y) H := fun y h1 h2 => by
           have e : y = z := Int.le_antisymm (z2 y h1) (h2 z z1)
           rw [e]; exact q H F m Evo.refl S _ (.int _)
         obtain ⟨a, rfl, h | h⟩ := rv.seqInts hx hi
         · exact .inl ⟨a, is, rfl, h, List.length_pos_of_mem z1, fin⟩
         · exact .inr ⟨a, is, rfl, h, List.length_pos_of_mem z1, fin⟩)
      | (cases hd)
  case min1 =>
    refine s_callB (callR_or (cr_min G.calm) (cr_minT G.calm)) hg (G.link.free _ (by decide)) (by decide +kernel) (by decide) (by decide) hst ha fun ds d vs F m H st Q S r hd q => ?_
    unfold biD at hd
    split at hd
    all_goals first
      | contradiction
      | (obtain ⟨xs, hx, hd⟩ := Option.bind_eq_some_iff.mp hd; obtain ⟨is, hi, hd⟩ := Option.bind_eq_some_iff.mp hd; obtain ⟨z, hz, rfl⟩ := Option.map_eq_some_iff.mp hd; obtain ⟨v, rfl, rv⟩ := r.one
         obtain ⟨z1, z2⟩ := minI_spec hz
         have fin : ∀ y, y ∈ is → (∀ u, u ∈ is → y ≤ u) → Q (.int y) H := fun y h1 h2 => by
           have e : y = z := Int.le_antisymm (h2 z z1) (z2 y h1)
           rw [e]; exact q H F m Evo.refl S _ (.int _)
         obtain ⟨a, rfl, h | h⟩ := rv.seqInts hx hi
         · exact .inl ⟨a, is, rfl, h, List.length_pos_of_mem z1, fin⟩
         · exact .inr ⟨a, is, rfl, h, List.length_pos_of_mem z1, fin⟩)
      | (cases hd)
  case max2 =>
    refine s_callB (call_max2 G.calm) hg (G.link.free _ (by decide)) (by decide +kernel) (by decide) (by decide) hst ha fun ds d vs F m H st Q S r hd q => ?_
    unfold biD at hd
    split at hd
    all_goals first
      | contradiction
      | (cases hd; obtain ⟨v, u, rfl, rv, ru⟩ := r.two; cases rv; cases ru
         exact ⟨_, _, rfl, q H F m Evo.refl S _ (.int _)⟩)
      | (cases hd)
  case min2 =>
    refine s_callB (call_min2 G.calm) hg (G.link.free _ (by decide)) (by decide +kernel) (by decide) (by decide) hst ha fun ds d vs F m H st Q S r hd q => ?_
    unfold biD at hd
    split at hd
    all_goals first
      | contradiction
      | (cases hd; obtain ⟨v, u, rfl, rv, ru⟩ := r.two; cases rv; cases ru
         exact ⟨_, _, rfl, q H F m Evo.refl S _ (.int _)⟩)
      | (cases hd)
  case tuple =>
    refine s_callTy call_tuple_of hg (G.link.free _ (by decide)) (by decide +kernel) (by decide) (by decide) hst ha fun ds d vs F m H st Q S r hd q => ?_
    unfold biD at hd
    split at hd
    all_goals first
      | contradiction
      | (cases hd; obtain ⟨v, rfl, rv⟩ := r.one
         cases rv with
         | lst f1 h1 r1 =>
           refine ⟨_, _, rfl, .inl ⟨SqL.of h1, fun l hl => ?_⟩⟩
           obtain ⟨e, s, rr⟩ := S.newT hl r1
           exact q _ _ _ e s _ rr)
      | (cases hd; obtain ⟨v, rfl, rv⟩ := r.one
         cases rv with
         | tup h1 r1 => exact ⟨_, _, rfl, .inr ⟨h1.sq, q H F m Evo.refl S _ (.tup h1 r1)⟩⟩)
      | (cases hd)
  case list =>
    refine s_callTy call_list_of hg (G.link.free _ (by decide)) (by decide +kernel) (by decide) (by decide) hst ha fun ds d vs F m H st Q S r hd q => ?_
    unfold biD at hd
    split at hd
    all_goals first
      | contradiction
      | (cases hd; obtain ⟨v, rfl, rv⟩ := r.one
         cases rv with
         | lst f1 h1 r1 =>
           refine ⟨_, _, rfl, .inl (SqL.of h1), fun l hl => ?_⟩
           obtain ⟨e, s, rr⟩ := S.newL hl r1
           exact q _ _ _ e s _ rr)
      | (cases hd; obtain ⟨v, rfl, rv⟩ := r.one
         cases rv with
         | tup h1 r1 =>
           refine ⟨_, _, rfl, .inr h1.sq, fun l hl => ?_⟩
           obtain ⟨e, s, rr⟩ := S.newL hl r1
           exact q _ _ _ e s _ rr)
      | (cases hd)
  case int =>
    refine s_callTy call_int1 hg (G.link.free _ (by decide)) (by decide +kernel) (by decide) (by decide) hst ha fun ds d vs F m H st Q S r hd q => ?_
    unfold biD at hd
    split at hd
    all_goals first
      | contradiction
      | (cases hd; obtain ⟨v, rfl, rv⟩ := r.one
         cases rv with
         | bl b => exact .inr ⟨_, rfl, q H F m Evo.refl S _ (.int _)⟩)
      | (cases hd; obtain ⟨v, rfl, rv⟩ := r.one
         cases rv with
         | int b => exact .inl ⟨_, rfl, q H F m Evo.refl S _ (.int _)⟩)
      | (cases hd)
/-! ### list(range(..)) -/
theorem rgV_rel {P : Program} {w : World} {K : PySem.W.Frag} {F : Addr → Prop} {H : Hp} {m : List Addr} (a b : Int) : RelL P w K F H m (rngL a (b - a).toNat) (rgV a b) := by
  unfold rngL rgV
  generalize (b - a).toNat = k
  have : ∀ l : List Nat, RelL P w K F H m (l.map fun (k : Nat) => D.int (a + (k : Int))) (l.map fun i => V.int (a + (i : Nat))) := by
    intro l
    induction l with
    | nil => exact .nil
    | cons x r ih => exact .cons (.int _) ih
  exact this _
theorem rngOk_iff {i : Int} (h : rngOk i = true) : -(2 ^ 62) ≤ i ∧ i < 2 ^ 62 := by
  unfold rngOk at h
  simpa using h
theorem s_listRng1 {a : Expr} {f : List Sl → Store → Out D} {p1 pos1 : Pos} (G : Good L X n W) (hg : Gl X "list") (hg2 : Gl X "range") (hst : isStar a = false) (ha : SndE L X W a f) :
    SndE L X W (.Call (.Name "list" p) [.Call (.Name "range" p1) [a] [] pos1] [] pos) (fun sa st => ((f sa st).bind fun x st => .ok [x] st).bind fun ds st => .of (biD .listRng ds) st) := fun sa st σ H H0 F m Q fr sr q => by
  refine PE.we (pe_listRg G.calm hg (G.link.free "list" (by decide)) (prg_1 hg2 (G.link.free "range" (by decide)) (pe_WE X a) (starEach_cons hst))) (ha sa st σ H H0 F m _ fr sr (q.bind.bind.imp fun x st1 F1 m1 H1 e1 s1 h1 v r => ?_))
  obtain ⟨d, hd, q⟩ := Post.of (h1 H1 F1 m1 Evo.refl s1)
  cases x <;> simp only [biD, reduceCtorEq] at hd
  rename_i i
  split at hd
  · rename_i hs
    rw [Bool.and_eq_true] at hs
    cases hd
    cases r
    obtain ⟨b1, b2⟩ := rngOk_iff hs.1
    have e : (i - 0).toNat = i.toNat := by rw [Int.sub_zero]
    refine ⟨i, rfl, ⟨by decide, by decide, b1, b2, ?_⟩, fun p hp => ?_⟩
    · rw [e]; exact of_decide_eq_true hs.2
    · have rr := rgV_rel (P := X.prog) (w := X.w) (K := X.K) (F := F1) (H := H1) (m := m1) 0 i
      rw [e] at rr
      obtain ⟨e, s, rr⟩ := s1.newL hp rr
      exact q _ _ _ e s _ rr
  · cases hd
theorem s_listRng2 {a b : Expr} {f g : List Sl → Store → Out D} {p1 pos1 : Pos} (G : Good L X n W) (hg : Gl X "list") (hg2 : Gl X "range") (hst : isStar a = false) (hst2 : isStar b = false) (ha : SndE L X W a f) (hb : SndE L X W b g) :
    SndE L X W (.Call (.Name "list" p) [.Call (.Name "range" p1) [a, b] [] pos1] [] pos) (fun sa st => ((f sa st).bind fun x st => (g sa st).bind fun y st => .ok [x, y] st).bind fun ds st => .of (biD .listRng ds) st) := fun sa st σ H H0 F m Q fr sr q => by
  refine PE.we (pe_listRg G.calm hg (G.link.free "list" (by decide)) (prg_2 hg2 (G.link.free "range" (by decide)) (pe_WE X a) (pe_WE X b) (starEach_cons hst) (starEach_cons hst2) (backTo_any fun e he => by simp at he; rw [he]; exact hst2))) ?_
  refine ha sa st σ H H0 F m _ fr sr (q.bind.bind.imp fun x st1 F1 m1 H1 e1 s1 h1 v r => ?_)
  refine hb sa st1 σ H1 H0 F1 m1 _ (fr.evo e1 sr) s1 (h1.bind.imp fun y st2 F2 m2 H2 e2 s2 h2 vy ry => ?_)
  have r2 := r.mono (e2.mono s1)
  obtain ⟨d, hd, q⟩ := Post.of (h2 H2 F2 m2 Evo.refl s2)
  cases x <;> cases y <;> simp only [biD, reduceCtorEq] at hd
  rename_i i j
  split at hd
  · rename_i hs
    rw [Bool.and_eq_true, Bool.and_eq_true] at hs
    cases hd
    cases r2
    cases ry
    obtain ⟨b1, b2⟩ := rngOk_iff hs.1
    obtain ⟨b3, b4⟩ := rngOk_iff hs.2.1
    refine ⟨i, j, rfl, rfl, ⟨b1, b2, b3, b4, of_decide_eq_true hs.2.2⟩, fun p hp => ?_⟩
    obtain ⟨e, s, rr⟩ := s2.newL hp (rgV_rel (P := X.prog) (w := X.w) (K := X.K) (F := F2) (H := H2) (m := m2) i j)
    exact q _ _ _ e s _ rr
  · cases hd
/-! ### isinstance -/
def tyN : Ty → String
  | .int => "int"
  | .bool => "bool"
  | .tuple => "tuple"
  | .list => "list"
  | .dict => "dict"
  | .str => "str"
theorem Rel.tyX {P : Program} {w : World} {K : PySem.W.Frag} {F : Addr → Prop} {H : Hp} {m : List Addr} {d : D} {v : V} {t : Ty} {b : Bool} (r : Rel P w K F H m d v) (h : tyD t d = some b) : ∃ a, TyX K H v (.type a) ∧ kitB a (tyN t) = some b := by
  cases r with
  | non => exact ⟨_, .base .non, by cases t <;> cases h <;> decide +kernel⟩
  | bl c => exact ⟨_, .base (.bl c), by cases t <;> cases h <;> decide +kernel⟩
  | int c => exact ⟨_, .base (.int c), by cases t <;> cases h <;> decide +kernel⟩
  | str c => exact ⟨_, .base (.str c), by cases t <;> cases h <;> decide +kernel⟩
  | tup h1 r1 =>
    rcases h1 with h1 | ⟨o, its, c, h1, h2, _⟩
    · exact ⟨_, .base (.tup h1), by cases t <;> cases h <;> decide +kernel⟩
    · exact ⟨_, .kTuple h1 h2, by cases t <;> cases h <;> decide +kernel⟩
  | lst f1 h1 r1 => exact ⟨_, .base (.lst h1), by cases t <;> cases h <;> decide +kernel⟩
  | scr h1 => cases h
  | dic f1 h1 r1 => cases h
  | ref h1 => cases h
  | opq v => cases h
theorem s_isi {a : Expr} {f : List Sl → Store → Out D} {t : Ty} {p2 : Pos} (G : Good L X n W) (hg : Gl X "isinstance") (hg2 : Gl X (Str.ofString (tyN t))) (hst : isStar a = false) (ha : SndE L X W a f) :
    SndE L X W (.Call (.Name "isinstance" p) [a, .Name (Str.ofString (tyN t)) p2] [] pos) (fun sa st => (f sa st).bind fun x st => .of ((tyD t x).map .bl) st) := fun sa st σ H H0 F m Q fr sr q => by
  have hm : X.mg (Str.ofString (tyN t)) = none := G.link.free (tyN t) (by cases t <;> decide)
  have hb : bootBuiltins (Str.ofString (tyN t)) = some (.type (tyN t)) := by cases t <;> decide +kernel
  have ht : PE X (.Name (Str.ofString (tyN t)) p2) (tC (.ty (tyN t))) := pe_bltn hg2 hm hb rfl (by cases t <;> decide) (by cases t <;> decide)
  refine PE.we (pe_callB call_isi hg (G.link.free "isinstance" (by decide)) (by decide +kernel) (pa_cons (pe_WE X a) (pa_cons ht pa_nil) (starEach_cons hst)) (by decide) (by decide) (starEach_cons hst) (backTo_any fun e he => by simp at he; rw [he]; rfl)) ?_
  refine ha sa st σ H H0 F m _ fr sr (q.bind.imp fun x st1 F1 m1 H1 e1 s1 h1 v r => ?_)
  obtain ⟨d, hd, q⟩ := Post.of h1
  obtain ⟨b, hb, rfl⟩ := Option.map_eq_some_iff.mp hd
  obtain ⟨a, h1, h2⟩ := r.tyX hb
  exact ⟨_, _, _, _, b, rfl, .ty _, h1, kit_ty h2, q H1 F1 m1 Evo.refl s1 _ (.bl b)⟩
/-! ### a def called -/
theorem passAt {X : Cx} {W : WX} (tk : L2N.Takes X W) (σ : L2.St) : PassesAt (L2N.CX X.prog X.w) X σ (fun c d H' => W c d σ H') := fun pins H s e s' I c => tk e s' (L2N.XE.of_call I (fun cls d H' h => h) c)
theorem s_call {x : Str} {fn bs : Nat} (G : Good0 L X n W) (hon : L.on fn = true) (hx : x = L.nm fn) (hg : Gl X x) (hdb : (x == ("__debug__" : Str)) = false) (hst : ∀ a ∈ e :: es, isStar a = false) (ha : SndA L X W (e :: es) os)
    (hlen : ∀ sa st ds st', os sa st = .ok ds st' → ds.length = (L.ps fn).length) :
    SndE L X W (.Call (.Name x p) (e :: es) [] pos) (fun sa st => (os sa st).bind fun ds st => run L.G L.wf n bs fn ds st) := fun sa st σ H H0 F m Q fr sr q => by
  subst hx
  obtain ⟨h1, h2, h3, h4⟩ := G.link.fn fn hon
  refine PE.we (pe_callSD (E := fun σ c d H' => W c d σ H') h4 G.room hg h1 h2 h3 .nil (fun σ => passAt G.tk σ) (pa_WA X _) hdb (starEach_cons (hst e List.mem_cons_self)) (backTo_any fun a h => hst a (List.mem_cons_of_mem _ h))) ?_
  have hl : ∀ ds st', os sa st = .ok ds st' → ds.length = (L.ps fn).length := hlen sa st
  refine ha sa st σ H H0 F m _ fr sr ?_
  have q' := q.bind
  cases ho : os sa st with
  | bad => rw [ho] at q'; exact q'
  | exc c st1 => rw [ho] at q'; exact q'
  | ok ds st1 =>
    rw [ho] at q'
    intro H1 F1 m1 e1 s1 vs rs
    rw [List.append_nil]
    exact ⟨ds, F1, m1, st1, bs, rs, s1, hl ds st1 ho, q' H1 F1 m1 e1 s1⟩
end
end Mn
set_option maxHeartbeats 4000000
namespace Mn
open PySem PySem.Spec PyProof.Rows L2
/-! ### enumerate over a tuple -/
theorem meets_enumT (t : Addr) (items : Array Value) :
    Meets (Builtin.«enumerate.__new__» ⟨[.type "enumerate", .ref t], []⟩) (fun _ R s => s.heap.IsTuple t items ∧
      R (.ok (.ret (.ref (s.heap.push { cls := .type "tuple_iterator", data := .fields #[.ref t, .int 0 0] }).objs.size)))
        { s with heap := (s.heap.push { cls := .type "tuple_iterator", data := .fields #[.ref t, .int 0 0] }).push { cls := .type "enumerate", data := .fields #[.none, .bool false, .ref s.heap.objs.size, rawInt 0, .none, .none] } }) :=
  .of_wp fun prog w A R s h => by
    obtain ⟨hp, g, d, tk, os⟩ := s; obtain ⟨hl, h⟩ := h
    have hsub := sub_enumerate
    have q1 : ∀ {A' : Around} {E : Value → Shared → Prop} {Q : Value → Shared → Prop}, Q (.ref hp.objs.size) ⟨hp.push { cls := .type "tuple_iterator", data := .fields #[.ref t, .int 0 0] }, g, d, tk, os⟩ → wpAny (model prog w) A' (pyIter (.ref t)) Q E ⟨hp, g, d, tk, os⟩ :=
      fun q => wpAny_pyIter_tuple (s := ⟨hp, g, d, tk, os⟩) hl q
    wp_walk using q1
    refine wpAny_stack_any fun st => wpAny_pure ?_
    split
    · rename_i c _ _ _ _ _
      cases (c == Value.type "enumerate") <;> (wp_walk using q1; exact ⟨_, rfl, h⟩)
    · wp_walk using q1
      exact ⟨_, rfl, h⟩
theorem call_enumT {prog : Program} {w : World} {A : Around} {E : Value → Shared → Prop} {s : Shared} {t : Addr} {items : Array Value} {Q : Value → Shared → Prop} (hL : s.heap.IsTuple t items)
    (h : ∀ h', IsEnum h' (s.heap.objs.size + 1) s.heap.objs.size 0 .none → h'.IsTupleIter s.heap.objs.size t 0 → h'.objs.size = s.heap.objs.size + 2 →
      (∀ b o, s.heap.get? b = some o → h'.get? b = some o) → Q (.ref (s.heap.objs.size + 1)) { s with heap := h' }) : wpAny (model prog w) A (call (.type "enumerate") [.ref t]) Q E s := by
  refine callType_new F.called_enumerate (by decide) (F.typeCall_enumerate_1 _) (F.newCall_enumerate_1 _) (fun obj => F.args_object_init_2 obj _) F.entry_enumerate_new
    (meets_enumT t items) ⟨hL, ?_⟩
  have hz : (s.heap.push { cls := .type "tuple_iterator", data := .fields #[.ref t, .int 0 0] }).objs.size = s.heap.objs.size + 1 := Heap.size_push ..
  show _ ∧ _
  rw [hz]
  have he : IsEnum ((s.heap.push { cls := .type "tuple_iterator", data := .fields #[.ref t, .int 0 0] }).push { cls := .type "enumerate", data := .fields #[.none, .bool false, .ref s.heap.objs.size, rawInt 0, .none, .none] }) (s.heap.objs.size + 1) s.heap.objs.size 0 .none := by
    have q := Heap.get?_push_size (s.heap.push { cls := .type "tuple_iterator", data := .fields #[.ref t, .int 0 0] }) (o := { cls := .type "enumerate", data := .fields #[.none, .bool false, .ref s.heap.objs.size, rawInt 0, .none, .none] }) rfl
    rw [hz] at q; exact q
  exact ⟨⟨_, he, rfl⟩, h _ he ⟨_, Heap.get?_push_of_some _ (Heap.get?_push_size _ rfl), rfl, rfl⟩ (by rw [Heap.size_push, hz]) fun b o x => Heap.get?_push_of_some _ (Heap.get?_push_of_some _ x)⟩
def IteT (K : PySem.W.Frag) (a : Addr) : L2.It :=
  ⟨fun i H => ∃ (xs : List V) (x : V), SqT K H a xs ∧ xs[i]? = some x, fun i H v H' => ∃ T x, v = .ref T ∧ H T = none ∧ H' = upd H T (.tup [.int (i : Nat), x]) ∧ ∀ xs, SqT K H a xs → xs[i]? = some x, fun i H => ∃ xs : List V, SqT K H a xs ∧ xs.length = i⟩
theorem turn_enumT {P : Program} {w : World} {K : PySem.W.Frag} {elts : List Expr} {kk : Nat} {tpos : Pos} (a e it : Addr) (hae : a ≠ it) :
    Turn P w K (.Tuple elts kk tpos) (IteT K a) [e, it] e (fun i h => (∃ old, IsEnum h e it ((i : Nat) : Int) old) ∧ h.IsTupleIter it a i ∧ e ≠ it ∧ e ≠ a) where
  mem := by simp
  obj := fun i h st b hb => by
    obtain ⟨⟨old, he⟩, ⟨o, ho, hc, hd⟩, _⟩ := st
    have e' : b = e ∨ b = it := by simpa using hb
    rcases e' with z | z
    · rw [z]; exact ⟨_, he, fun v q => nomatch q⟩
    · rw [z]; exact ⟨o, ho, fun v q => by rw [hd] at q; cases q⟩
  keep := fun i h h' st k => let ⟨⟨old, he⟩, hi, hne⟩ := st; ⟨⟨old, k e (by simp) _ he⟩, hi.at fun o q => k it (by simp) o q, hne⟩
  item := by
    intro X hP hw hK hc i pins s σ H E I hf st hg
    subst hP hw hK
    obtain ⟨⟨old, he⟩, hit, hne, hea⟩ := st
    obtain ⟨xs, x, hq, hx⟩ := hg
    obtain ⟨its, rv, p, hz⟩ := I.tuple hq
    obtain ⟨u, hu, ru⟩ := rv.get hx
    have hlt : i < its.toArray.size := by simp; exact (List.getElem?_eq_some_iff.mp hu).1
    have hel : e < s.heap.objs.size := Heap.lt_size he
    have hil : it < s.heap.objs.size := by obtain ⟨_, q, _⟩ := hit; exact Heap.lt_size q
    refine wpAny_pyNext_enum_itemD (Draws.tuple (A := X.A.in1) (I.ok.hd hc) it a hae its.toArray) he ⟨hit, show s.heap.IsTuple a its.toArray from p⟩ hlt hne (by simp [hne, hea]) fun u' h' tk hP ho hst hT hsz hk => ?_
    obtain rfl : u' = u := by
      have q : its[i]? = some u' := by simpa using hP
      rw [hu] at q; exact (Option.some.inj q).symm
    refine ⟨_, rfl, wpAny_letOwnedTupleGo_enum (s := { s with heap := h', toks := tk + 1 }) ho fun h'' he' sb => ?_⟩
    have hT2 : h''.get? s.heap.objs.size = some { cls := .type "tuple", data := .seq #[.int i tk, u'] } := (sb.2 _ (Nat.ne_of_gt hel)).trans hT
    have new : ObjOk X.prog X.w (upd H s.heap.objs.size (.tup [.int (i : Nat), x])) h'' s.heap.objs.size (.tup [.int (i : Nat), x]) :=
      ⟨by show 2 ≤ sizeLine; decide, [.int i tk, u'], .cons ⟨_, rfl⟩ (.cons ru .nil), ⟨_, hT2, rfl, _, rfl⟩⟩
    have I1 : Inv X pins σ (upd H s.heap.objs.size (.tup [.int (i : Nat), x])) { s with heap := h'', toks := tk + 1 } :=
      I.turnedNew (ch := [e, it]) (fun b ob hb q => (sb.2 b (fun z => hb (by simp [z]))).trans (hk b ob (fun z => hb (by simp [z])) (fun z => hb (by simp [z])) q)) hf (Nat.le_refl _) new
    refine ⟨.ref s.heap.objs.size, _, I1, rfl, ⟨_, x, rfl, I.hok.fresh (Nat.le_refl _), rfl, fun ys hy => by rw [I.tuple_inj hy hq]; exact hx⟩, ⟨⟨u', ?_⟩, hst.1.at fun o q => (sb.2 it (Ne.symm hne)).trans q, hne, hea⟩, fun b hb => ?_⟩
    · have e1 : ((i + 1 : Nat) : Int) = (i : Int) + 1 := by omega
      rw [e1]; exact he'
    · have hb' : b < s.heap.objs.size := by
        have e' : b = e ∨ b = it := by simpa using hb
        rcases e' with z | z
        · rw [z]; exact hel
        · rw [z]; exact hil
      rw [upd_ne (Nat.ne_of_lt hb')]
      exact (hf b hb).1
  done := by
    intro X hP hw hK hc i pins s σ H E I hf st hg
    subst hP hw hK
    obtain ⟨⟨old, he⟩, hit, hne, hea⟩ := st
    obtain ⟨xs, hq, hx⟩ := hg
    obtain ⟨its, rv, p, hz⟩ := I.tuple hq
    obtain ⟨f0, f1, f2, f3, f4, f5⟩ := hf it (by simp)
    have hl : i = its.toArray.size := by rw [List.size_toArray, ← rv.length, hx]
    subst hl
    exact wpAny_pyNext_enum_endD (Draws.tuple (A := X.A.in1) (I.ok.hd hc) it a hae its.toArray) he ⟨hit, show s.heap.IsTuple a its.toArray from p⟩ fun h' eb => ⟨rfl, I.turned (t' := s.toks) (fun b o hb q => eb b o hb q) f0 f1 f3 f4 f5⟩
  self := fun A i s Q E st h => let ⟨⟨_, he⟩, _⟩ := st; wpAny_pyIter_enum he h
def iEnumT (K : PySem.W.Frag) (ta : TA) : TI := fun σ H R => ta σ H fun vs H1 => ∃ a xs, vs = [.ref a] ∧ SqT K H1 a xs ∧ R (IteT K a) H1
theorem pi_enumT {X : Cx} {e : Expr} {ta : TA} {p pos tpos : Pos} {elts : List Expr} {kk : Nat} (hg : Gl X "enumerate") (hm : X.mg "enumerate" = none) (ha : PA X [e] ta) (hs : starEach [e] X.env = [(false, eval e X.env)]) :
    PI X (.Tuple elts kk tpos) (.Call (.Name "enumerate" p) [e] [] pos) (iEnumT X.K ta) := by
  refine ⟨fun pins s σ H R I h => ?_⟩
  refine Call_ (ld_blt I hg hm boot_enumerate (PyProof.Rows.callWith_type1 (thn (ha.run pos pins s σ H _ I h) fun us s1 ⟨vs, H1, I1, r1, q1⟩ => ?_) hs rfl))
  obtain ⟨a, xs, ex, hq, q⟩ := q1
  subst ex
  cases r1 with
  | cons r rr =>
    cases rr
    cases r
    obtain ⟨its, rv, p', hz⟩ := I1.tuple hq
    have hlt : a < s1.heap.objs.size := p'.lt
    refine call_enumT (show s1.heap.IsTuple a its.toArray from p') fun h' he hit hsz hk => wpAny_pyIter_enum he ?_
    have I2 : Inv X pins σ H1 { s1 with heap := h' } := I1.kept (t' := s1.toks) hk
    refine ⟨s1.heap.objs.size + 1, [s1.heap.objs.size + 1, s1.heap.objs.size], _, _, H1, rfl, I2, turn_enumT a (s1.heap.objs.size + 1) s1.heap.objs.size (Nat.ne_of_lt hlt), ⟨⟨.none, he⟩, hit, Nat.succ_ne_self _, Nat.ne_of_gt (Nat.lt_succ_of_lt hlt)⟩, fun b hb => ?_, q⟩
    have e' : b = s1.heap.objs.size + 1 ∨ b = s1.heap.objs.size := by simpa using hb
    have hle : s1.heap.objs.size ≤ b := by
      rcases e' with z | z
      · rw [z]; exact Nat.le_add_right _ _
      · rw [z]; exact Nat.le_refl _
    exact I1.fpOk hle (I1.hok.fresh hle)
theorem walk_enumT {K : PySem.W.Frag} {a : Addr} {xs : List V} : Walk (IteT K a) xs.length (fun H => SqT K H a xs) (YPair (fun i => some (.int (i : Nat))) (fun i => xs[i]?)) := by
  refine ⟨fun i _ hi q => ⟨xs, xs[i], q, by simp [hi]⟩, fun _ q => ⟨xs, q, rfl⟩, fun i H v H' _ q y => ?_⟩
  obtain ⟨T, x, h1, h2, h3, h4⟩ := y
  exact ⟨T, .int (i : Nat), x, h1, h2, h3, rfl, h4 xs q⟩
theorem walk_zipT {K : PySem.W.Frag} {a b : Addr} {xs ys : List V} : Walk (RZ.ItzT K a b) (min xs.length ys.length) (fun H => SqT K H a xs ∧ SqT K H b ys) (YPair (fun i => xs[i]?) (fun i => ys[i]?)) := by
  refine ⟨fun i _ hi q => ?_, fun _ q => ⟨xs, ys, q.1, q.2, by omega⟩, fun i H v H' _ q y => ?_⟩
  · have h1 : i < xs.length := by omega
    have h2 : i < ys.length := by omega
    exact ⟨xs, ys, xs[i], ys[i], q.1, q.2, by simp [h1], by simp [h2]⟩
  · obtain ⟨T, x, z, h1, h2, h3, h4, h5⟩ := y
    exact ⟨T, x, z, h1, h2, h3, h4 xs q.1, h5 ys q.2⟩
/-! ### what is walked gives data -/
theorem Mono.refl {F : Addr → Prop} {H : Hp} {m : List Addr} : Mono F m H F m H := ⟨fun _ h => h, fun _ _ _ h => h, fun _ _ h => h, fun _ _ _ h => h, ⟨[], by simp⟩⟩
theorem Mono.trans {F F1 F2 : Addr → Prop} {H H1 H2 : Hp} {m m1 m2 : List Addr} (a : Mono F m H F1 m1 H1) (b : Mono F1 m1 H1 F2 m2 H2) : Mono F m H F2 m2 H2 where
  fz := fun c h => b.fz c (a.fz c h)
  fh := fun c o hF h => b.fh c o (a.fz c hF) (a.fh c o hF h)
  tp := fun c xs h => b.tp c xs (a.tp c xs h)
  fr := fun c o u h => b.fr c o u (a.fr c o u h)
  pre := by obtain ⟨r, h⟩ := a.pre; obtain ⟨s, h'⟩ := b.pre; exact ⟨r ++ s, by rw [h', h, List.append_assoc]⟩
/-- the walk J gives the data ds, while what is frozen stays -/
def IterOk (L : Lk) (X : Cx) (J : L2.It) (ds : List D) (F : Addr → Prop) (m : List Addr) (H : Hp) : Prop :=
  ∃ (n : Nat) (G : Hp → Prop) (Y : Nat → Hp → V → Hp → Prop), Walk J n G Y ∧ n = ds.length ∧ ∀ H' F' m' st', Mono F m H F' m' H' → SRx L X F' H' m' st' → G H' ∧
    ∀ (i : Nat) x H'' d, Y i H' x H'' → ds[i]? = some d → Evo F' m' H' F' m' H'' ∧ SRx L X F' H'' m' st' ∧ Relx X F' H'' m' d x
def WI (X : Cx) (tg iter : Expr) : TI := fun σ H R => ∀ pins s, Inv X pins σ H s → wpAny (model X.prog X.w) X.A (eval iter X.env) (fun v s1 => wpAny (model X.prog X.w) X.A (pyIter v) (PIE X pins σ tg R) X.xe s1) X.xe s
theorem pi_WI (X : Cx) (tg iter : Expr) : PI X tg iter (WI X tg iter) := ⟨fun pins s σ H R I h => h pins s I⟩
theorem PI.wi {X : Cx} {tg iter : Expr} {t : TI} (h : PI X tg iter t) {σ : L2.St} {H : Hp} {R : L2.It → Hp → Prop} (q : t σ H R) : WI X tg iter σ H R := fun pins s I => h.run pins s σ H R I q
def SndI (L : Lk) (X : Cx) (W : WX) (tg iter : Expr) (o : List Sl → Store → Out (List D)) : Prop := ∀ (sa : List Sl) (st : Store) (σ : L2.St) (H H0 : Hp) (F : Addr → Prop) (m : List Addr) (R : L2.It → Hp → Prop), FRx X H0 F H m sa σ → SRx L X F H m st →
  Post L X.prog X.w X.K (o sa st) F m H (fun ds _ F' m' H' => ∀ J, IterOk L X J ds F' m' H' → R J H') (fun c d H' => W c d σ H') → WI X tg iter σ H R
section
variable {L : Lk} {X : Cx} {W : WX} {n : Nat} {F : Addr → Prop} {H : Hp} {m : List Addr}
theorem iterL {a : Addr} {vs : List V} {ds : List D} (hF : F a) (h : H a = some (.lst vs)) (r : RelL X.prog X.w X.K F H m ds vs) : IterOk L X (Itl X.K a) ds F m H := by
  refine ⟨_, _, _, walk_list (xs := vs), r.length.symm, fun H' F' m' st' M S => ⟨SqL.of (M.fh a _ hF h), fun i x H'' d y e => ?_⟩⟩
  obtain ⟨rfl, hx⟩ := y
  obtain ⟨v, hv, rv⟩ := (r.mono M).get e
  rw [hx] at hv; cases hv
  exact ⟨Evo.refl, S, rv⟩
theorem iterT {a : Addr} {vs : List V} {ds : List D} (h : TupAt X.K H a vs) (r : RelL X.prog X.w X.K F H m ds vs) : IterOk L X (Itt X.K a) ds F m H := by
  refine ⟨_, _, _, walk_tup (xs := vs), r.length.symm, fun H' F' m' st' M S => ⟨(M.sqT h).sq, fun i x H'' d y e => ?_⟩⟩
  obtain ⟨rfl, hx⟩ := y
  obtain ⟨v, hv, rv⟩ := (r.mono M).get e
  rw [hx] at hv; cases hv
  exact ⟨Evo.refl, S, rv⟩
theorem rngL_get {lo : Int} {k i : Nat} {d : D} (h : (rngL lo k)[i]? = some d) : d = .int (lo + (i : Int)) := by
  unfold rngL at h
  rw [List.getElem?_map] at h
  cases e : (List.range k)[i]? with
  | none => rw [e] at h; cases h
  | some j =>
    rw [e] at h
    obtain ⟨h1, h2⟩ := List.getElem?_eq_some_iff.mp e
    rw [List.getElem_range] at h2
    subst h2
    cases h; rfl
theorem iterR {lo : Int} {k : Nat} : IterOk L X (Itr lo k) (rngL lo k) F m H := by
  refine ⟨_, _, _, walk_range, by simp [rngL], fun H' F' m' st' M S => ⟨True.intro, fun i x H'' d y e => ?_⟩⟩
  obtain ⟨rfl, rfl⟩ := y
  rw [rngL_get e]
  exact ⟨Evo.refl, S, .int _⟩
theorem rng3L_get {lo c : Int} {k i : Nat} {d : D} (h : (rng3L lo c k)[i]? = some d) : d = .int (lo + (i : Int) * c) := by
  unfold rng3L at h
  rw [List.getElem?_map] at h
  cases e : (List.range k)[i]? with
  | none => rw [e] at h; cases h
  | some j =>
    rw [e] at h
    obtain ⟨h1, h2⟩ := List.getElem?_eq_some_iff.mp e
    rw [List.getElem_range] at h2
    subst h2
    cases h; rfl
theorem iterR3 {lo c : Int} {k : Nat} : IterOk L X (Itc lo c k) (rng3L lo c k) F m H := by
  refine ⟨_, _, _, walk_rangeC, by simp [rng3L], fun H' F' m' st' M S => ⟨True.intro, fun i x H'' d y e => ?_⟩⟩
  obtain ⟨rfl, rfl⟩ := y
  rw [rng3L_get e]
  exact ⟨Evo.refl, S, .int _⟩
theorem pairY {xs ys : Nat → Option V} {H' H'' : Hp} {F' : Addr → Prop} {m' : List Addr} {st' : Store} {i : Nat} {x : V} {d e : D} {vx vy : V} (S : SRx L X F' H' m' st') (y : YPair xs ys i H' x H'') (hx : xs i = some vx) (hy : ys i = some vy) (rx : Relx X F' H' m' d vx) (ry : Relx X F' H' m' e vy) :
    Evo F' m' H' F' m' H'' ∧ SRx L X F' H'' m' st' ∧ Relx X F' H'' m' (.tup [d, e]) x := by
  obtain ⟨T, u, v, rfl, hT, rfl, h1, h2⟩ := y
  rw [hx] at h1; rw [hy] at h2
  cases h1; cases h2
  exact S.newT hT (.cons rx (.cons ry .nil))
theorem zipD_get {xs ys : List D} {i : Nat} {d : D} (h : (zipD xs ys)[i]? = some d) : ∃ a b, xs[i]? = some a ∧ ys[i]? = some b ∧ d = .tup [a, b] := by
  unfold zipD at h
  rw [List.getElem?_map] at h
  obtain ⟨p, hp, rfl⟩ := Option.map_eq_some_iff.mp h
  obtain ⟨a, b⟩ := p
  rw [List.getElem?_zip_eq_some] at hp
  exact ⟨a, b, hp.1, hp.2, rfl⟩
theorem iterZL {a b : Addr} {vs us : List V} {ds es : List D} (f1 : F a) (h1 : H a = some (.lst vs)) (r1 : RelL X.prog X.w X.K F H m ds vs) (f2 : F b) (h2 : H b = some (.lst us)) (r2 : RelL X.prog X.w X.K F H m es us) : IterOk L X (Itz X.K a b) (zipD ds es) F m H := by
  refine ⟨_, _, _, walk_zip (xs := vs) (ys := us) rfl, by simp [zipD, r1.length, r2.length], fun H' F' m' st' M S => ⟨⟨SqL.of (M.fh a _ f1 h1), SqL.of (M.fh b _ f2 h2)⟩, fun i x H'' d y e => ?_⟩⟩
  obtain ⟨c, k, e1, e2, rfl⟩ := zipD_get e
  obtain ⟨v, hv, rv⟩ := (r1.mono M).get e1
  obtain ⟨u, hu, ru⟩ := (r2.mono M).get e2
  exact pairY S y hv hu rv ru
theorem iterZT {a b : Addr} {vs us : List V} {ds es : List D} (h1 : TupAt X.K H a vs) (r1 : RelL X.prog X.w X.K F H m ds vs) (h2 : TupAt X.K H b us) (r2 : RelL X.prog X.w X.K F H m es us) : IterOk L X (RZ.ItzT X.K a b) (zipD ds es) F m H := by
  refine ⟨_, _, _, walk_zipT (xs := vs) (ys := us), by simp [zipD, r1.length, r2.length], fun H' F' m' st' M S => ⟨⟨(M.sqT h1).sq, (M.sqT h2).sq⟩, fun i x H'' d y e => ?_⟩⟩
  obtain ⟨c, k, e1, e2, rfl⟩ := zipD_get e
  obtain ⟨v, hv, rv⟩ := (r1.mono M).get e1
  obtain ⟨u, hu, ru⟩ := (r2.mono M).get e2
  exact pairY S y hv hu rv ru
theorem enumD_get {xs : List D} {i : Nat} {d : D} (h : (enumD xs)[i]? = some d) : ∃ a, xs[i]? = some a ∧ d = .tup [.int (i : Int), a] := by
  unfold enumD at h
  rw [List.getElem?_map] at h
  obtain ⟨p, hp, rfl⟩ := Option.map_eq_some_iff.mp h
  rw [List.getElem?_zipIdx] at hp
  obtain ⟨a, ha, rfl⟩ := Option.map_eq_some_iff.mp hp
  exact ⟨a, ha, by simp⟩
theorem iterEL {a : Addr} {vs : List V} {ds : List D} (f1 : F a) (h1 : H a = some (.lst vs)) (r1 : RelL X.prog X.w X.K F H m ds vs) : IterOk L X (Ite X.K a) (enumD ds) F m H := by
  refine ⟨_, _, _, walk_enum (xs := vs), by simp [enumD, r1.length], fun H' F' m' st' M S => ⟨SqL.of (M.fh a _ f1 h1), fun i x H'' d y e => ?_⟩⟩
  obtain ⟨c, e1, rfl⟩ := enumD_get e
  obtain ⟨v, hv, rv⟩ := (r1.mono M).get e1
  exact pairY S y rfl hv (.int _) rv
theorem iterET {a : Addr} {vs : List V} {ds : List D} (h1 : TupAt X.K H a vs) (r1 : RelL X.prog X.w X.K F H m ds vs) : IterOk L X (IteT X.K a) (enumD ds) F m H := by
  refine ⟨_, _, _, walk_enumT (xs := vs), by simp [enumD, r1.length], fun H' F' m' st' M S => ⟨(M.sqT h1).sq, fun i x H'' d y e => ?_⟩⟩
  obtain ⟨c, e1, rfl⟩ := enumD_get e
  obtain ⟨v, hv, rv⟩ := (r1.mono M).get e1
  exact pairY S y rfl hv (.int _) rv
variable {tg : Expr} {p pos : Pos}
theorem pi_or {iter : Expr} {t u : TI} (h1 : PI X tg iter t) (h2 : PI X tg iter u) : PI X tg iter (fun σ H R => t σ H R ∨ u σ H R) := ⟨fun pins s σ H R I h => h.elim (h1.run pins s σ H R I) (h2.run pins s σ H R I)⟩
/-- a list's, a tuple's reading at once -/
def iSeq (K : PySem.W.Frag) (t : TE) : TI := fun σ H R => t σ H fun v H1 => (∃ a, v = .ref a ∧ (∃ xs, SqL K H1 a xs) ∧ R (Itl K a) H1) ∨ (∃ a, v = .ref a ∧ (∃ xs, SqT K H1 a xs) ∧ R (Itt K a) H1)
theorem i_ov {e : Expr} {f : List Sl → Store → Out D} (he : SndE L X W e f) : SndI L X W tg e (fun sa st => (f sa st).bind fun x st => .of (seqD x) st) := fun sa st σ H H0 F m R fr sr p => by
  intro pins s I
  refine wpAny_mono (he sa st σ H H0 F m (fun v H1 => (∃ a, v = .ref a ∧ (∃ xs, SqL X.K H1 a xs) ∧ R (Itl X.K a) H1) ∨ (∃ a, v = .ref a ∧ (∃ xs, SqT X.K H1 a xs) ∧ R (Itt X.K a) H1)) fr sr (p.bind.imp fun x st1 F1 m1 H1 e1 s1 h1 v r => ?_) pins s I) (fun u s1 h => ?_) fun _ _ h => h
  · obtain ⟨ds, hd, q⟩ := Post.of h1
    cases x <;> simp only [seqD, reduceCtorEq] at hd
    · cases hd
      cases r with
      | tup h1 r1 => exact .inr ⟨_, rfl, ⟨_, h1.sq⟩, q H1 F1 m1 Evo.refl s1 _ (iterT h1 r1)⟩
    · cases hd
      cases r with
      | lst f1 h1 r1 => exact .inl ⟨_, rfl, ⟨_, SqL.of h1⟩, q H1 F1 m1 Evo.refl s1 _ (iterL f1 h1 r1)⟩
  · obtain ⟨v, H1, I1, rv, ⟨a, rfl, ⟨xs, hx⟩, q⟩ | ⟨a, rfl, ⟨xs, hx⟩, q⟩⟩ := h
    · cases rv
      obtain ⟨its, rv, p', hz⟩ := I1.list hx
      refine wpAny_pyIter_list p'.isList ?_
      have I2 : Inv X pins σ H1 { s1 with heap := s1.heap.push { cls := .type "list_iterator", data := .fields #[.ref a, .int 0 0] } } := I1.kept (t' := s1.toks) fun b o e => Heap.get?_push_of_some _ e
      exact ⟨s1.heap.objs.size, [s1.heap.objs.size], _, _, H1, rfl, I2, turn_list a s1.heap.objs.size, ⟨_, Heap.get?_push_size _ rfl, rfl, rfl⟩, fun b hb => by
        have e : b = s1.heap.objs.size := by simpa using hb
        rw [e]; exact I1.fpOk (Nat.le_refl _) (I1.hok.fresh (Nat.le_refl _)), q⟩
    · cases rv
      obtain ⟨its, rv, p', hz⟩ := I1.tuple hx
      refine wpAny_pyIter_tuple (show s1.heap.IsTuple a its.toArray from p') ?_
      have I2 : Inv X pins σ H1 { s1 with heap := s1.heap.push { cls := .type "tuple_iterator", data := .fields #[.ref a, .int 0 0] } } := I1.kept (t' := s1.toks) fun b o e => Heap.get?_push_of_some _ e
      exact ⟨s1.heap.objs.size, [s1.heap.objs.size], _, _, H1, rfl, I2, turn_tuple a s1.heap.objs.size, ⟨_, Heap.get?_push_size _ rfl, rfl, rfl⟩, fun b hb => by
        have e : b = s1.heap.objs.size := by simpa using hb
        rw [e]; exact I1.fpOk (Nat.le_refl _) (I1.hok.fresh (Nat.le_refl _)), q⟩
end
end Mn
set_option maxHeartbeats 4000000
namespace Mn
open PySem PySem.Spec PyProof.Rows L2
section
variable {L : Lk} {X : Cx} {W : WX} {n : Nat} {tg : Expr} {p pos : Pos}
theorem s_two {a b : Expr} {f g : List Sl → Store → Out D} (ha : SndE L X W a f) (hb : SndE L X W b g) (h1 : isStar a = false) (h2 : isStar b = false) : SndA L X W [a, b] (fun sa st => (f sa st).bind fun x st => (g sa st).bind fun y st => .ok [x, y] st) := by
  have h := s_cons ha (s_cons hb s_nil h2) h1
  intro sa st σ H H0 F m Q fr sr q
  refine h sa st σ H H0 F m Q fr sr ?_
  have e : ((f sa st).bind fun x st => ((g sa st).bind fun x st => (Out.ok [] st).bind fun xs st => .ok (x :: xs) st).bind fun xs st => .ok (x :: xs) st) = ((f sa st).bind fun x st => (g sa st).bind fun y st => .ok [x, y] st) := by
    cases f sa st with
    | bad => rfl
    | exc c st => rfl
    | ok x st =>
      simp only [Out.bind_ok]
      cases g sa st <;> rfl
  dsimp only
  rw [e]
  exact q
theorem star1 {a : Expr} {env : Env} (h : isStar a = false) : starEach [a] env = [(false, eval a env)] := starEach_cons h
theorem i_r1 {a : Expr} {f : List Sl → Store → Out D} (G : Good L X n W) (hg : Gl X "range") (hst : isStar a = false) (ha : SndE L X W a f) : SndI L X W tg (.Call (.Name "range" p) [a] [] pos) (fun sa st => (f sa st).bind fun x st => .of (rg1D x) st) := fun sa st σ H H0 F m R fr sr q => by
  refine PI.wi (pi_range1 hg (G.link.free "range" (by decide)) (pa_cons (pe_WE X a) pa_nil (star1 hst)) (star1 hst)) (ha sa st σ H H0 F m _ fr sr (q.bind.imp fun x st1 F1 m1 H1 e1 s1 h1 v r => ?_))
  obtain ⟨ds, hd, q⟩ := Post.of h1
  cases x <;> simp only [rg1D, reduceCtorEq] at hd
  split at hd
  · rename_i hs
    cases hd
    cases r
    obtain ⟨b1, b2⟩ := rngOk_iff hs
    exact ⟨_, rfl, b1, b2, q H1 F1 m1 Evo.refl s1 _ iterR⟩
  · cases hd
theorem i_r2 {a b : Expr} {f g : List Sl → Store → Out D} (G : Good L X n W) (hg : Gl X "range") (hst : isStar a = false) (hst2 : isStar b = false) (ha : SndE L X W a f) (hb : SndE L X W b g) :
    SndI L X W tg (.Call (.Name "range" p) [a, b] [] pos) (fun sa st => (f sa st).bind fun x st => (g sa st).bind fun y st => .of (rg2D x y) st) := fun sa st σ H H0 F m R fr sr q => by
  refine PI.wi (pi_range2 hg (G.link.free "range" (by decide)) (pa_cons (pe_WE X a) (pa_cons (pe_WE X b) pa_nil (star1 hst2)) (starEach_cons hst)) (by rw [starEach_cons hst, star1 hst2]) (star1 hst2)) ?_
  refine ha sa st σ H H0 F m _ fr sr (q.bind.imp fun x st1 F1 m1 H1 e1 s1 h1 v r => ?_)
  refine hb sa st1 σ H1 H0 F1 m1 _ (fr.evo e1 sr) s1 (h1.bind.imp fun y st2 F2 m2 H2 e2 s2 h2 vy ry => ?_)
  have r2 := r.mono (e2.mono s1)
  obtain ⟨ds, hd, q⟩ := Post.of h2
  cases x <;> cases y <;> simp only [rg2D, reduceCtorEq] at hd
  split at hd
  · rename_i hs
    cases hd
    cases r2
    cases ry
    rw [Bool.and_eq_true] at hs
    obtain ⟨b1, b2⟩ := rngOk_iff hs.1
    obtain ⟨b3, b4⟩ := rngOk_iff hs.2
    exact ⟨_, _, rfl, ⟨b1, b2, b3, b4⟩, q H2 F2 m2 Evo.refl s2 _ iterR⟩
  · cases hd
theorem i_zp {a b : Expr} {f g : List Sl → Store → Out D} {elts : List Expr} {kk : Nat} {tpos : Pos} (G : Good L X n W) (hg : Gl X "zip") (hst : isStar a = false) (hst2 : isStar b = false) (ha : SndE L X W a f) (hb : SndE L X W b g) :
    SndI L X W (.Tuple elts kk tpos) (.Call (.Name "zip" p) [a, b] [] pos) (fun sa st => (f sa st).bind fun x st => (g sa st).bind fun y st => .of (zpD x y) st) := fun sa st σ H H0 F m R fr sr q => by
  refine PI.wi (RZ.pi_zipA hg (G.link.free "zip" (by decide)) (pa_cons (pe_WE X a) (pa_cons (pe_WE X b) pa_nil (star1 hst2)) (starEach_cons hst)) (starEach_cons hst) (backTo_any fun e he => by simp at he; rw [he]; exact hst2)) ?_
  refine ha sa st σ H H0 F m _ fr sr (q.bind.imp fun x st1 F1 m1 H1 e1 s1 h1 v r => ?_)
  refine hb sa st1 σ H1 H0 F1 m1 _ (fr.evo e1 sr) s1 (h1.bind.imp fun y st2 F2 m2 H2 e2 s2 h2 vy ry => ?_)
  have r2 := r.mono (e2.mono s1)
  obtain ⟨ds, hd, q⟩ := Post.of h2
  cases x <;> cases y <;> simp only [zpD, reduceCtorEq] at hd
  · cases hd
    cases r2 with
    | tup h1 r1 => cases ry with
      | tup h2 r2 => exact ⟨_, _, _, _, rfl, .inr ⟨h1.sq, h2.sq, q H2 F2 m2 Evo.refl s2 _ (iterZT h1 r1 h2 r2)⟩⟩
  · cases hd
    cases r2 with
    | lst f1 h1 r1 => cases ry with
      | lst f2 h2 r2 => exact ⟨_, _, _, _, rfl, .inl ⟨SqL.of h1, SqL.of h2, q H2 F2 m2 Evo.refl s2 _ (iterZL f1 h1 r1 f2 h2 r2)⟩⟩
theorem i_en {a : Expr} {f : List Sl → Store → Out D} {elts : List Expr} {kk : Nat} {tpos : Pos} (G : Good L X n W) (hg : Gl X "enumerate") (hst : isStar a = false) (ha : SndE L X W a f) :
    SndI L X W (.Tuple elts kk tpos) (.Call (.Name "enumerate" p) [a] [] pos) (fun sa st => (f sa st).bind fun x st => .of ((seqD x).map enumD) st) := fun sa st σ H H0 F m R fr sr q => by
  have pa : PA X [a] (tCons (WE X a) tNil) := pa_cons (pe_WE X a) pa_nil (star1 hst)
  have pi := pi_or (pi_enum (elts := elts) (kk := kk) (tpos := tpos) (p := p) (pos := pos) hg (G.link.free "enumerate" (by decide)) pa (star1 hst)) (pi_enumT (elts := elts) (kk := kk) (tpos := tpos) (p := p) (pos := pos) hg (G.link.free "enumerate" (by decide)) pa (star1 hst))
  have pi2 : PI X (.Tuple elts kk tpos) (.Call (.Name "enumerate" p) [a] [] pos) (fun σ H R => WE X a σ H fun v H1 => ∃ b xs, v = .ref b ∧ ((SqL X.K H1 b xs ∧ R (Ite X.K b) H1) ∨ (SqT X.K H1 b xs ∧ R (IteT X.K b) H1))) := by
    refine ⟨fun pins s σ H R I h => ?_⟩
    refine Call_ (ld_blt I hg (G.link.free "enumerate" (by decide)) boot_enumerate (PyProof.Rows.callWith_type1 (thn (pa.run pos pins s σ H (fun vs H1 => ∃ b xs, vs = [.ref b] ∧ ((SqL X.K H1 b xs ∧ R (Ite X.K b) H1) ∨ (SqT X.K H1 b xs ∧ R (IteT X.K b) H1))) I ?_) fun us s1 ⟨vs, H1, I1, r1, q1⟩ => ?_) (star1 hst) rfl))
    · intro pins2 s2 I2
      refine wpAny_mono (h pins2 s2 I2) (fun u s3 ⟨v, H1, I3, rv, b, xs, hv, q⟩ => ⟨v, H1, I3, rv, ?_⟩) fun _ _ z => z
      exact ⟨b, xs, by rw [hv], q⟩
    · obtain ⟨b, xs, ex, q1⟩ := q1
      subst ex
      cases r1 with
      | cons r rr =>
        cases rr
        cases r
        have fp2 : ∀ c ∈ [s1.heap.objs.size + 1, s1.heap.objs.size], FpOk X pins H1 c := fun c hc => by
          have e' : c = s1.heap.objs.size + 1 ∨ c = s1.heap.objs.size := by simpa using hc
          have hle : s1.heap.objs.size ≤ c := by
            rcases e' with z | z
            · rw [z]; exact Nat.le_add_right _ _
            · rw [z]; exact Nat.le_refl _
          exact I1.fpOk hle (I1.hok.fresh hle)
        rcases q1 with ⟨hq, q⟩ | ⟨hq, q⟩
        · obtain ⟨its, rv, p', hz⟩ := I1.list hq
          refine call_enumerate_list p'.isList fun h' he hit hsz hk => wpAny_pyIter_enum he ?_
          have I2 : Inv X pins σ H1 { s1 with heap := h' } := I1.kept (t' := s1.toks) hk
          exact ⟨s1.heap.objs.size + 1, [s1.heap.objs.size + 1, s1.heap.objs.size], _, _, H1, rfl, I2, turn_enum b (s1.heap.objs.size + 1) s1.heap.objs.size, ⟨⟨.none, he⟩, hit, Nat.succ_ne_self _⟩, fp2, q⟩
        · obtain ⟨its, rv, p', hz⟩ := I1.tuple hq
          have hlt : b < s1.heap.objs.size := p'.lt
          refine call_enumT (show s1.heap.IsTuple b its.toArray from p') fun h' he hit hsz hk => wpAny_pyIter_enum he ?_
          have I2 : Inv X pins σ H1 { s1 with heap := h' } := I1.kept (t' := s1.toks) hk
          exact ⟨s1.heap.objs.size + 1, [s1.heap.objs.size + 1, s1.heap.objs.size], _, _, H1, rfl, I2, turn_enumT b (s1.heap.objs.size + 1) s1.heap.objs.size (Nat.ne_of_lt hlt), ⟨⟨.none, he⟩, hit, Nat.succ_ne_self _, Nat.ne_of_gt (Nat.lt_succ_of_lt hlt)⟩, fp2, q⟩
  refine PI.wi pi2 (ha sa st σ H H0 F m _ fr sr (q.bind.imp fun x st1 F1 m1 H1 e1 s1 h1 v r => ?_))
  obtain ⟨ds, hd, q⟩ := Post.of h1
  obtain ⟨xs, hx, rfl⟩ := Option.map_eq_some_iff.mp hd
  cases x <;> simp only [seqD, reduceCtorEq] at hx
  · cases hx
    cases r with
    | tup h1 r1 => exact ⟨_, _, rfl, .inr ⟨h1.sq, q H1 F1 m1 Evo.refl s1 _ (iterET h1 r1)⟩⟩
  · cases hx
    cases r with
    | lst f1 h1 r1 => exact ⟨_, _, rfl, .inl ⟨SqL.of h1, q H1 F1 m1 Evo.refl s1 _ (iterEL f1 h1 r1)⟩⟩
end
end Mn
set_option maxHeartbeats 4000000
namespace Mn
open PySem PySem.Spec PyProof.Rows L2
/-! ## comprehensions -/
/-- targets -/
def gNames : List Nat → TGs
  | [] => gNil
  | i :: is => gCons (gName i) (gNames is)
def Tg.slots : Tg → List Nat
  | .nm i => [i]
  | .tp is => is
def gT (K : PySem.W.Frag) : Tg → TG
  | .nm i => gName i
  | .tp is => gTup K is.length (gNames is)
def setV (σ : L2.St) : List Nat → List V → L2.St
  | i :: is, v :: vs => setV (σ.set i (some v)) is vs
  | _, _ => σ
theorem gNames_of : ∀ {is : List Nat} {vs : List V} {σ : L2.St} {H : Hp} {Q : L2.St → Hp → Prop}, is.length = vs.length → Q (setV σ is vs) H → gNames is vs σ H Q
  | [], [], _, _, _, _, q => ⟨rfl, q⟩
  | i :: is, v :: vs, σ, H, Q, h, q => ⟨v, vs, rfl, gNames_of (by simpa using h) q⟩
  | [], _ :: _, _, _, _, h, _ => by simp at h
  | _ :: _, [], _, _, _, h, _ => by simp at h
section
variable {P : Program} {w : World} {K : PySem.W.Frag} {F : Addr → Prop} {H H0 : Hp} {m : List Addr}
theorem FR.setAll : ∀ {is : List Nat} {ds : List D} {vs : List V} {sa : List Sl} {σ : L2.St}, FR P w K H0 F H m sa σ → RelL P w K F H m ds vs → FR P w K H0 F H m (setAll sa is ds) (setV σ is vs)
  | [], _, _, _, _, f, _ => by
    unfold Mn.setAll setV
    exact f
  | i :: is, [], _, _, _, f, .nil => by
    unfold Mn.setAll setV
    exact f
  | i :: is, d :: ds, _, _, _, f, .cons r t => by
    unfold Mn.setAll setV
    exact FR.setAll (f.set r) t
/-- a target takes a value -/
theorem gT_of {t : Tg} {d : D} {v : V} {sa sa' : List Sl} {σ : L2.St} {Q : L2.St → Hp → Prop} (f : FR P w K H0 F H m sa σ) (r : Rel P w K F H m d v) (hb : bindT sa t d = some sa')
    (q : ∀ σ', FR P w K H0 F H m sa' σ' → (∃ is vs, σ' = setV σ is vs ∧ is = t.slots) → Q σ' H) : gT K t v σ H Q := by
  cases t with
  | nm i =>
    simp only [bindT, Option.some.injEq] at hb
    subst hb
    exact q _ (f.set r) ⟨[i], [v], rfl, rfl⟩
  | tp is =>
    cases d with
    | tup ds =>
      simp only [bindT] at hb
      split at hb
      · rename_i hl
        cases hb
        cases r with
        | tup h1 r1 =>
          refine ⟨_, _, rfl, h1.sq, by rw [← r1.length, hl], gNames_of (by rw [hl, r1.length]) ?_⟩
          exact q _ (f.setAll r1) ⟨is, _, rfl, rfl⟩
      · cases hb
    | _ => simp [bindT] at hb
theorem wipe_set {σ : L2.St} {i : Nat} {v : Option V} : ∀ {own : List Nat}, i ∈ own → L2.wipe (σ.set i v) own = L2.wipe σ own
  | [], h => nomatch h
  | j :: own, h => by
    unfold L2.wipe
    by_cases e : i ∈ own
    · rw [wipe_set e]
    · have e2 : i = j := (List.mem_cons.mp h).resolve_right e
      subst e2
      have : L2.wipe (σ.set i v) own = (L2.wipe σ own).set i v := by
        clear h
        induction own with
        | nil => rfl
        | cons k own ih =>
          unfold L2.wipe
          rw [ih fun h => e (List.mem_cons_of_mem _ h)]
          have hk : k ≠ i := fun z => e (z ▸ List.mem_cons_self)
          rw [List.set_comm _ _ hk]
      rw [this, List.set_set]
theorem wipe_setV : ∀ {is : List Nat} {vs : List V} {σ : L2.St} {own : List Nat}, (∀ i ∈ is, i ∈ own) → L2.wipe (setV σ is vs) own = L2.wipe σ own
  | [], _, _, _, _ => by unfold setV; rfl
  | i :: is, [], _, _, _ => by unfold setV; rfl
  | i :: is, v :: vs, σ, own, h => by
    unfold setV
    rw [wipe_setV fun j hj => h j (List.mem_cons_of_mem _ hj), wipe_set (h i List.mem_cons_self)]
theorem wipe_wipe {σ : L2.St} {own : List Nat} : L2.wipe (L2.wipe σ own) own = L2.wipe σ own := by
  have : ∀ l : List Nat, (∀ i ∈ l, i ∈ own) → L2.wipe (L2.wipe σ l) own = L2.wipe σ own := by
    intro l
    induction l with
    | nil => intro _; rfl
    | cons j l ih =>
      intro h
      have e : L2.wipe σ (j :: l) = (L2.wipe σ l).set j none := rfl
      rw [e, wipe_set (h j List.mem_cons_self), ih fun i hi => h i (List.mem_cons_of_mem _ hi)]
  exact this own fun i h => h
theorem wipeS_un : ∀ {own : List Nat} {sa : List Sl} {i : Nat} {s : Sl}, (wipeS sa own)[i]? = some s → (i ∈ own → s = .un) ∧ (i ∉ own → sa[i]? = some s)
  | [], sa, i, s, h => ⟨fun z => (nomatch z), fun _ => h⟩
  | j :: own, sa, i, s, h => by
    have g := wipeS_un (own := own) (sa := sa.set j .un) h
    by_cases hi : i ∈ own
    · exact ⟨fun _ => g.1 hi, fun z => absurd (List.mem_cons_of_mem _ hi) z⟩
    · have q := g.2 hi
      rw [List.getElem?_set] at q
      by_cases e : j = i
      · rw [if_pos e] at q
        split at q
        · cases q; exact ⟨fun _ => rfl, fun z => absurd (by rw [e]; exact List.mem_cons_self) z⟩
        · cases q
      · rw [if_neg e] at q
        exact ⟨fun z => absurd z (by simp [hi, Ne.symm e]), fun _ => q⟩
theorem FR.blk {sa : List Sl} {σ : L2.St} (f : FR P w K H0 F H m sa σ) (own : List Nat) : FR P w K H0 F H m (wipeS sa own) (L2.wipe σ own) := by
  refine ⟨?_, fun i s h => ?_, fun i j s t a h1 h2 o1 o2 h3 h4 => ?_⟩
  · have : ∀ (l : List Nat) (sa : List Sl), (wipeS sa l).length = sa.length := by
      intro l
      induction l with
      | nil => intro sa; rfl
      | cons j l ih => intro sa; unfold wipeS; rw [ih, List.length_set]
    rw [this, L2.wipe_length]; exact f.len
  · obtain ⟨g1, g2⟩ := wipeS_un h
    by_cases hi : i ∈ own
    · rw [g1 hi]; exact True.intro
    · rw [L2.wipe_out hi]; exact f.slot i s (g2 hi)
  · have k : ∀ {i : Nat} {s : Sl}, (wipeS sa own)[i]? = some s → s.own = true → i ∉ own ∧ sa[i]? = some s := fun {i s} h o => by
      obtain ⟨g1, g2⟩ := wipeS_un h
      by_cases hi : i ∈ own
      · rw [g1 hi] at o; cases o
      · exact ⟨hi, g2 hi⟩
    obtain ⟨n1, q1⟩ := k h1 o1
    obtain ⟨n2, q2⟩ := k h2 o2
    rw [L2.wipe_out n1] at h3
    rw [L2.wipe_out n2] at h4
    exact f.apart i j s t a q1 q2 o1 o2 h3 h4
end
abbrev W0 : WX := fun _ _ _ _ => False
section
variable {L : Lk} {X : Cx} {W : WX} {n : Nat}
/-- an expression's reading in every block -/
def WEb (X : Cx) (scope : Scope) (e : Expr) : TE := fun σ H Q => ∀ (s : Shared) (H' : Hp) (C : Addr) (cl : List (Str × Addr)) (fp : List Addr), WE (X.blk s H' scope (compEnvC scope cl C X.env) fp) e σ H Q
def WTb (X : Cx) (scope : Scope) (e : Expr) : TT := fun σ H Q => ∀ (s : Shared) (H' : Hp) (C : Addr) (cl : List (Str × Addr)) (fp : List Addr), WT (X.blk s H' scope (compEnvC scope cl C X.env) fp) e σ H Q
def Blk (X : Cx) (scope : Scope) (Z : Cx → Prop) : Prop := ∀ (s : Shared) (H : Hp) (C : Addr) (cl : List (Str × Addr)) (fp : List Addr), Z (X.blk s H scope (compEnvC scope cl C X.env) fp)
/-- the turns of a comprehension, the condition told by c, its reading by tt -/
theorem lc_ok {t : Tg} {c f : List Sl → Store → Out D} {scope : Scope} {own : List Nat} {elt : Expr} {tt : TT} {sa : List Sl} {σ : L2.St} {H0 : Hp} {Q : VK} {E : XK} (hE : ∀ c d H', E c d H' → True)
    (hown : ∀ i ∈ t.slots, i ∈ own) (he : Blk X scope fun Y => SndE L Y W0 elt f)
    (hc : ∀ (sa : List Sl) (st : Store) (σ : L2.St) (H : Hp) (F : Addr → Prop) (m : List Addr) (Q : Bool → Hp → Prop), FRx X H0 F H m sa σ → SRx L X F H m st →
      Post L X.prog X.w X.K (c sa st) F m H (fun d _ F' m' H' => ∃ b, d = .bl b ∧ Q b H') (fun _ _ _ => False) → tt σ H Q)
    {J : L2.It} {ds : List D} {st1 : Store} {F1 : Addr → Prop} {m1 : List Addr} {H1 : Hp} (fr : FRx X H0 F1 H1 m1 sa σ) (s1 : SRx L X F1 H1 m1 st1) (hJ : IterOk L X J ds F1 m1 H1)
    (q : PostV L X.prog X.w X.K (compL (wipeS sa own) t c f ds [] st1) F1 m1 H1 Q E) :
    ∀ D, H1 D = none → ∃ W : Nat → Nat → Hp → Prop, (∃ m, W 0 m (upd H1 D (.lst []))) ∧ ∀ i m H, W i m H →
      (J.stop i H ∧ Q (.ref D) H) ∨ (J.go i H ∧ ∃ Nx : Hp → Prop, (∀ H', Nx H' → ∃ m', m' < m ∧ W (i + 1) m' H') ∧ ∀ x H', J.yld i H x H' → gT X.K t x (L2.wipe σ own) H' fun σ2 H2 => L2.wipe σ2 own = L2.wipe σ own ∧ tt σ2 H2 fun b H3 =>
        if b = true then WEb X scope elt σ2 H3 fun y H4 => ∃ acc, H4 D = some (.lst acc) ∧ acc.length < sizeLine ∧ Nx (upd H4 D (.lst (acc ++ [y]))) else Nx H3) := by
  intro D hD
  obtain ⟨k, G, Y, walk, hk, hall⟩ := hJ
  generalize hres : compL (wipeS sa own) t c f ds [] st1 = res at q
  refine lc_it walk (fun i H => ∃ F m st acc vs, compL (wipeS sa own) t c f (ds.drop i) acc st = res ∧ Evo F1 m1 H1 F m H ∧ SRx L X F H m st ∧ H D = some (.lst vs) ∧ RelL X.prog X.w X.K F H m acc vs ∧ ¬ F D ∧ D ∉ m) ?_ ?_ ?_ ?_
  · obtain ⟨e, s⟩ := s1.newO (o := .lst []) hD
    refine ⟨F1, m1, st1, [], [], by rw [List.drop_zero]; exact hres, e, s, upd_same, .nil, fun hF => ?_, fun hm => ?_⟩
    · obtain ⟨o, ho, _⟩ := s1.live D hF; rw [hD] at ho; cases ho
    · obtain ⟨o, ho, _⟩ := s1.mt hm; rw [hD] at ho; cases ho
  · rintro i H hi ⟨F, m, st, acc, vs, _, e, s, _⟩
    exact (hall H F m st (e.mono s1) s).1
  · rintro i x H H' hi ⟨F, m, st, acc, vs, hcomp, e, s, hDv, racc, nF, nm⟩ y
    obtain ⟨d, hd⟩ : ∃ d, ds[i]? = some d := ⟨ds[i]'(by omega), by simp [show i < ds.length by omega]⟩
    obtain ⟨e2, s2, rd⟩ := (hall H F m st (e.mono s1) s).2 i x H' d y hd
    have hdrop : ds.drop i = d :: ds.drop (i + 1) := by
      rw [List.drop_eq_getElem_cons (by omega)]
      have : ds[i]'(by omega) = d := by
        have := List.getElem?_eq_some_iff.mp hd
        exact this.2
      rw [this]
    rw [hdrop, compL] at hcomp
    have e12 := e.trans e2
    have hD2 : H' D = some (.lst vs) := e2.keep D _ hDv nm (fun ps z => nomatch z)
    have racc2 := racc.mono (e2.mono s)
    cases hb : bindT (wipeS sa own) t d with
    | none => rw [hb] at hcomp; simp only at hcomp; rw [← hcomp] at q; exact q.elim
    | some sa' =>
      rw [hb] at hcomp
      simp only at hcomp
      have frb : FRx X H0 F H' m (wipeS sa own) (L2.wipe σ own) := ((fr.evo e12 s1).blk own)
      refine gT_of frb rd hb fun σ' fr' ⟨is, ws, hσ, his⟩ => ⟨?_, ?_⟩
      · rw [hσ, wipe_setV (by rw [his]; exact hown), wipe_wipe]
      · refine hc sa' st σ' H' F m _ fr' s2 ?_
        cases hcc : c sa' st with
        | bad => rw [hcc] at hcomp; simp only at hcomp; rw [← hcomp] at q; exact q.elim
        | exc z st2 => rw [hcc] at hcomp; simp only at hcomp; rw [← hcomp] at q; exact q.elim
        | ok z st2 =>
          rw [hcc] at hcomp
          intro H3 F3 m3 e3 s3
          have e13 := e12.trans e3
          have nF3 : ¬ F3 D := fun h => (e3.newF D h).elim nF fun z => by rw [hD2] at z; cases z
          have nm3 : D ∉ m3 := fun h => (e3.new D h).elim nm fun z => by rw [hD2] at z; cases z
          have hD3 : H3 D = some (.lst vs) := e3.keep D _ hD2 nm (fun ps z => nomatch z)
          have racc3 := racc2.mono (e3.mono s2)
          cases z with
          | bl b =>
            cases b with
            | false =>
              simp only at hcomp
              exact ⟨false, rfl, iteF ⟨F3, m3, st2, acc, vs, hcomp, e13, s3, hD3, racc3, nF3, nm3⟩⟩
            | true =>
              simp only at hcomp
              refine ⟨true, rfl, iteT fun s' Hb C cl fp => ?_⟩
              refine he s' Hb C cl fp sa' st2 σ' H3 H0 F3 m3 _ (fr'.evo e3 s2) s3 ?_
              cases hff : f sa' st2 with
              | bad => rw [hff] at hcomp; simp only at hcomp; rw [← hcomp] at q; exact q.elim
              | exc z st3 => rw [hff] at hcomp; simp only at hcomp; rw [← hcomp] at q; exact q.elim
              | ok yv st3 =>
                rw [hff] at hcomp
                simp only at hcomp
                split at hcomp
                · rename_i hsz
                  intro H4 F4 m4 e4 s4 v rv
                  have e14 := e13.trans e4
                  have nF4 : ¬ F4 D := fun h => (e4.newF D h).elim nF3 fun z => by rw [hD3] at z; cases z
                  have nm4 : D ∉ m4 := fun h => (e4.new D h).elim nm3 fun z => by rw [hD3] at z; cases z
                  have hD4 : H4 D = some (.lst vs) := e4.keep D _ hD3 nm3 (fun ps z => nomatch z)
                  have racc4 := racc3.mono (e4.mono s3)
                  have M := Mono.own (F := F4) (m := m4) (o' := .lst (vs ++ [v])) hD4 True.intro nF4
                  refine ⟨vs, hD4, ?_, F4, m4, st3, acc ++ [yv], vs ++ [v], hcomp, ?_, s4.own hD4 True.intro nm4 nF4, upd_same, (racc4.append (.cons rv .nil)).mono M, nF4, nm4⟩
                  · have := sz_le hsz
                    rw [racc4.length] at this
                    omega
                  · refine ⟨e14.fz, e14.pre, fun a o h1 h2 h3 => ?_, e14.new, e14.newF, fun a o h1 => ?_⟩
                    · rw [upd_ne (ne_of_none h1 hD)]; exact e14.keep a o h1 h2 h3
                    · obtain ⟨o', h'⟩ := e14.live a o h1
                      exact ⟨o', by rw [upd_ne (ne_of_none h1 hD)]; exact h'⟩
                · rw [← hcomp] at q; exact q.elim
          | _ => simp only at hcomp; rw [← hcomp] at q; exact q.elim
  · rintro H ⟨F, m, st, acc, vs, hcomp, e, s, hDv, racc, nF, nm⟩
    rw [List.drop_eq_nil_of_le (by omega), compL] at hcomp
    rw [← hcomp] at q
    have e2 : Evo F1 m1 H1 (addF F D) m H := ⟨fun a h => .inl (e.fz a h), e.pre, e.keep, e.new, fun a h => h.elim (e.newF a) fun z => by rw [z]; exact .inr hD, e.live⟩
    have M : Mono F m H (addF F D) m H := ⟨fun a h => .inl h, fun a o _ h => h, fun a xs h => h, fun a o u h => h, ⟨[], by simp⟩⟩
    have s2 : SRx L X (addF F D) H m st := by
      refine ⟨s.len, fun k c a h1 h2 => (s.cell k c a h1 h2).mono M rfl, s.nd, fun a h => ?_, fun a ha h => ?_, s.tabs, fun p hp ps hps pos c hc => .inl (s.codes p hp ps hps pos c hc)⟩
      · rcases h with h | h
        · exact s.live a h
        · rw [h]; exact ⟨_, hDv, True.intro⟩
      · rcases h with h | h
        · exact s.apart a ha h
        · exact nm (h ▸ ha)
    exact q H (addF F D) m e2 s2 _ (.lst (.inr rfl) hDv (racc.mono M))
def isSet : Expr → Bool
  | .Set _ _ _ => true
  | _ => false
theorem noSet {e : Expr} {env : Env} (h : isSet e = false) : ∀ x, foldedSetIterable e env x = pure x := by
  intro x
  cases e <;> first | rfl | cases h
theorem s_lc {t : Tg} {f : List Sl → Store → Out D} {oi : List Sl → Store → Out (List D)} {scope : Scope} {own : List (Str × Nat)} {elt tg iter : Expr} {pos : Pos} (G : Good L X n W) (hi : SndI L X W tg iter oi) (ok : BlkOk X.N X.env.scope scope own)
    (hg : Blk X scope fun Y => PG Y tg (gT X.K t)) (hown : ∀ i ∈ t.slots, i ∈ own.map (·.2)) (he : Blk X scope fun Y => SndE L Y W0 elt f) (hs : isSet iter = false) :
    SndE L X W (.ListComp elt [⟨tg, iter, [], 0⟩] scope pos) (fun sa st => (oi sa st).bind fun xs st => compL (wipeS sa (own.map (·.2))) t (fun _ st => .ok (.bl true) st) f xs [] st) := fun sa st σ H H0 F m Q fr sr q => by
  refine PE.we (pe_lc (tt := tYes) (te := WEb X scope elt) G.calm G.nd (pi_WI X tg iter) ok hg (fun _ _ _ _ _ => pts_nil) (fun s H C cl fp => ⟨fun pins s' σ H' Q I h => h s H C cl fp pins s' I⟩) (noSet hs)) ?_
  refine hi sa st σ H H0 F m _ fr sr (q.bind.imp fun ds st1 F1 m1 H1 e1 s1 h1 J hJ => ?_)
  exact lc_ok (fun _ _ _ _ => True.intro) hown he (fun sa st σ H F m Q fr sr p => by
    obtain ⟨b, e, q⟩ := p H F m Evo.refl sr
    cases e; exact q) (fr.evo e1 sr) s1 hJ h1
theorem s_lcf {t : Tg} {c f : List Sl → Store → Out D} {oi : List Sl → Store → Out (List D)} {scope : Scope} {own : List (Str × Nat)} {elt tg iter cnd : Expr} {pos : Pos} (G : Good L X n W) (hi : SndI L X W tg iter oi) (ok : BlkOk X.N X.env.scope scope own)
    (hg : Blk X scope fun Y => PG Y tg (gT X.K t)) (hown : ∀ i ∈ t.slots, i ∈ own.map (·.2)) (he : Blk X scope fun Y => SndE L Y W0 elt f) (hc : Blk X scope fun Y => SndT L Y W0 cnd c) (hs : isSet iter = false) :
    SndE L X W (.ListComp elt [⟨tg, iter, [cnd], 0⟩] scope pos) (fun sa st => (oi sa st).bind fun xs st => compL (wipeS sa (own.map (·.2))) t c f xs [] st) := fun sa st σ H H0 F m Q fr sr q => by
  refine PE.we (pe_lc (tt := WTb X scope cnd) (te := WEb X scope elt) G.calm G.nd (pi_WI X tg iter) ok hg (fun s H C cl fp => pts_one ⟨fun pins s' σ H' Q I h => h s H C cl fp pins s' I⟩) (fun s H C cl fp => ⟨fun pins s' σ H' Q I h => h s H C cl fp pins s' I⟩) (noSet hs)) ?_
  refine hi sa st σ H H0 F m _ fr sr (q.bind.imp fun ds st1 F1 m1 H1 e1 s1 h1 J hJ => ?_)
  exact lc_ok (fun _ _ _ _ => True.intro) hown he (fun sa st σ H F m Q fr sr p s Hb C cl fp => hc s Hb C cl fp sa st σ H H0 F m Q fr sr p) (fr.evo e1 sr) s1 hJ h1
end
end Mn
set_option maxHeartbeats 4000000
namespace Mn
open PySem PySem.Spec PyProof.Rows L2
/-! ## statements -/
/-- where the def was entered -/
structure Ent where
  F : Addr → Prop
  m : List Addr
  H : Hp
section
variable (L : Lk) (P : Program) (w : World) (K : PySem.W.Frag) (e0 : Ent)
def PostS (r : Fl) (F : Addr → Prop) (m : List Addr) (H : Hp) (Z : Ends) (W : WX) : Prop := match r with
  | .nx sa st => ∀ σ' H' F' m', FR P w K e0.H F' H' m' sa σ' → SR P w K L.T F' H' m' st → Evo e0.F e0.m e0.H F' m' H' → Mono F m H F' m' H' → Z.nx σ' H'
  | .rt d st => ∀ v H' F' m', SR P w K L.T F' H' m' st → Evo e0.F e0.m e0.H F' m' H' → Rel P w K F' H' m' d v → Z.rt v H'
  | .bk sa st => ∀ σ' H' F' m', FR P w K e0.H F' H' m' sa σ' → SR P w K L.T F' H' m' st → Evo e0.F e0.m e0.H F' m' H' → Mono F m H F' m' H' → Z.bk σ' H'
  | .exc c st => ∀ σ' H' F' m', SR P w K L.T F' H' m' st → Evo e0.F e0.m e0.H F' m' H' → W (.ref (L.cl c)) none σ' H'
  | .bad => False
end
def WSt (X : Cx) (st : Stmt) : TS := fun Z σ H => ∀ pins s, Inv X pins σ H s → wpAny (model X.prog X.w) X.A (exec st X.env) (SP X pins Z) X.xe s
theorem ps_WS (X : Cx) (st : Stmt) : PS X st (WSt X st) := ⟨fun pins s σ H Z I h => h pins s I⟩
theorem PS.ws {X : Cx} {st : Stmt} {t : TS} (h : PS X st t) {σ : L2.St} {H : Hp} {Z : Ends} (q : t Z σ H) : WSt X st Z σ H := fun pins s I => h.run pins s σ H Z I q
def WSs (X : Cx) (st : List Stmt) : TS := fun Z σ H => ∀ pins s, Inv X pins σ H s → wpAny (model X.prog X.w) X.A (execs st X.env) (SP X pins Z) X.xe s
theorem pss_WS (X : Cx) (st : List Stmt) : PSs X st (WSs X st) := ⟨fun pins s σ H Z I h => h pins s I⟩
theorem PSs.ws {X : Cx} {st : List Stmt} {t : TS} (h : PSs X st t) {σ : L2.St} {H : Hp} {Z : Ends} (q : t Z σ H) : WSs X st Z σ H := fun pins s I => h.run pins s σ H Z I q
section
variable (L : Lk) (X : Cx) (W : WX) (e0 : Ent)
def SndS (st : Stmt) (o : List Sl → Store → Fl) : Prop := ∀ (sa : List Sl) (sto : Store) (σ : L2.St) (H : Hp) (F : Addr → Prop) (m : List Addr) (Z : Ends), FRx X e0.H F H m sa σ → SRx L X F H m sto → Evo e0.F e0.m e0.H F m H →
  PostS L X.prog X.w X.K e0 (o sa sto) F m H Z W → WSt X st Z σ H
def SndSs (st : List Stmt) (o : List Sl → Store → Fl) : Prop := ∀ (sa : List Sl) (sto : Store) (σ : L2.St) (H : Hp) (F : Addr → Prop) (m : List Addr) (Z : Ends), FRx X e0.H F H m sa σ → SRx L X F H m sto → Evo e0.F e0.m e0.H F m H →
  PostS L X.prog X.w X.K e0 (o sa sto) F m H Z W → WSs X st Z σ H
/-- a right side -/
def SlV (H0 : Hp) (F : Addr → Prop) (H : Hp) (m : List Addr) (Hs : Hp) (s : Sl) (v : V) : Prop := SlotAt X.prog X.w X.K H0 F H m s (some (some v)) ∧ (s.own = true → ∃ a, v = .ref a ∧ Hs a = none)
def SndR (e : Expr) (o : List Sl → Store → Out Sl) : Prop := ∀ (sa : List Sl) (st : Store) (σ : L2.St) (H H0 : Hp) (F : Addr → Prop) (m : List Addr) (Q : VK), FRx X H0 F H m sa σ → SRx L X F H m st → (∀ a, H a = none → H0 a = none) →
  Post L X.prog X.w X.K (o sa st) F m H (fun s _ F' m' H' => ∀ v, SlV X H0 F' H' m' H s v → Q v H') (fun c d H' => W c d σ H') → WE X e σ H Q
end
section
variable {L : Lk} {X : Cx} {W : WX} {n : Nat} {e0 : Ent} {F : Addr → Prop} {m : List Addr} {H : Hp} {Z : Ends}
theorem PostS.fl {α : Type} {o : Out α} {f : α → Store → Fl} {sto : Store} (σ : L2.St) (S : SRx L X F H m sto) (E0 : Evo e0.F e0.m e0.H F m H) (h : PostS L X.prog X.w X.K e0 (o.fl f) F m H Z W) :
    Post L X.prog X.w X.K o F m H (fun a st F1 m1 H1 => Evo e0.F e0.m e0.H F1 m1 H1 ∧ PostS L X.prog X.w X.K e0 (f a st) F1 m1 H1 Z W) (fun c d H' => W c d σ H') := by
  cases o with
  | bad => exact h
  | exc c st => exact fun H1 F1 m1 e1 s1 => h σ H1 F1 m1 s1 (E0.trans e1)
  | ok a st =>
    intro H1 F1 m1 e1 s1
    refine ⟨E0.trans e1, ?_⟩
    have h : PostS L X.prog X.w X.K e0 (f a st) F m H Z W := h
    have M := e1.mono S
    cases hf : f a st with
    | bad => rw [hf] at h; exact h
    | exc c st2 => rw [hf] at h; exact h
    | rt d st2 => rw [hf] at h; exact h
    | nx sa st2 => rw [hf] at h; exact fun σ' H2 F2 m2 f2 s2 e2 M2 => h σ' H2 F2 m2 f2 s2 e2 (M.trans M2)
    | bk sa st2 => rw [hf] at h; exact fun σ' H2 F2 m2 f2 s2 e2 M2 => h σ' H2 F2 m2 f2 s2 e2 (M.trans M2)
/-- a later state of the same block -/
theorem PostS.from {r : Fl} {F1 : Addr → Prop} {m1 : List Addr} {H1 : Hp} (M : Mono F m H F1 m1 H1) (h : PostS L X.prog X.w X.K e0 r F m H Z W) : PostS L X.prog X.w X.K e0 r F1 m1 H1 Z W := by
  cases r with
  | bad => exact h
  | exc c st2 => exact h
  | rt d st2 => exact h
  | nx sa st2 => exact fun σ' H2 F2 m2 f2 s2 e2 M2 => h σ' H2 F2 m2 f2 s2 e2 (M.trans M2)
  | bk sa st2 => exact fun σ' H2 F2 m2 f2 s2 e2 M2 => h σ' H2 F2 m2 f2 s2 e2 (M.trans M2)
theorem b_nil : SndSs L X W e0 [] (fun sa st => .nx sa st) := fun sa sto σ H F m Z fr sr E h => PSs.ws pss_nil (h σ H F m fr sr E Mono.refl)
theorem b_cons {st : Stmt} {rest : List Stmt} {f g : List Sl → Store → Fl} (h1 : SndS L X W e0 st f) (h2 : SndSs L X W e0 rest g) : SndSs L X W e0 (st :: rest) (fun sa sto => (f sa sto).seq fun sa sto => g sa sto) := fun sa sto σ H F m Z fr sr E h => by
  refine PSs.ws (pss_cons (ps_WS X st) (pss_WS X rest)) (h1 sa sto σ H F m _ fr sr E ?_)
  dsimp only at h
  cases hf : f sa sto with
  | bad => rw [hf] at h; exact h
  | exc c st2 => rw [hf] at h; exact h
  | rt d st2 => rw [hf] at h; exact h
  | bk sa st2 => rw [hf] at h; exact h
  | nx sa1 st1 =>
    rw [hf] at h
    exact fun σ1 H1 F1 m1 f1 s1 E1 M1 => h2 sa1 st1 σ1 H1 F1 m1 Z f1 s1 E1 (PostS.from M1 h)
/-- freezing: no statement of the text -/
theorem FR.get {P : Program} {w : World} {K : PySem.W.Frag} {H0 : Hp} {sa : List Sl} {σ : L2.St} (f : FR P w K H0 F H m sa σ) {i : Nat} {s : Sl} (h : sa[i]? = some s) : SlotAt P w K H0 F H m s (σ[i]?) := f.slot i s h
theorem freeze {H0 : Hp} {sa : List Sl} {σ : L2.St} {sto : Store} {i : Nat} {s : Sl} {d : D} {a : Addr} {o : HO} (fr : FRx X H0 F H m sa σ) (sr : SRx L X F H m sto) (hi : sa[i]? = some s) (hs : s.own = true) (ha : σ[i]? = some (some (.ref a))) (hH : H a = some o) (t : Mt o) (h0 : H0 a = none) (nm : a ∉ m) (nF : ¬ F a)
    (r : Relx X (addF F a) H m d (.ref a)) : FRx X H0 (addF F a) H m (sa.set i (.val d)) σ ∧ SRx L X (addF F a) H m sto ∧ Mono F m H (addF F a) m H := by
  have M : Mono F m H (addF F a) m H := ⟨fun b h => .inl h, fun b o _ h => h, fun b xs h => h, fun b o u h => h, ⟨[], by simp⟩⟩
  refine ⟨⟨by simpa using fr.len, fun j s' h => ?_, fun j k s' t' b h1 h2 o1 o2 h3 h4 => ?_⟩, ⟨sr.len, fun k c b h1 h2 => (sr.cell k c b h1 h2).mono M rfl, sr.nd, fun b h => ?_, fun b hb h => ?_, sr.tabs, fun p hp ps hps pos c hc => .inl (sr.codes p hp ps hps pos c hc)⟩, M⟩
  · rw [List.getElem?_set] at h
    by_cases e : i = j
    · subst e
      rw [if_pos rfl] at h
      split at h
      · cases h; exact ⟨_, ha, r⟩
      · cases h
    · rw [if_neg e] at h
      have q := fr.slot j s' h
      have other : ∀ b, s'.own = true → σ[j]? = some (some (.ref b)) → b ≠ a := fun b o1 h3 z => e (fr.apart i j s s' a hi h hs o1 ha (z ▸ h3))
      cases s' with
      | un => exact True.intro
      | val d' => obtain ⟨x, h1, r1⟩ := q; exact ⟨x, h1, r1.mono M⟩
      | ol ds =>
        obtain ⟨b, vs, h1, h2, r1, h3, h4, h5⟩ := q
        exact ⟨b, vs, h1, h2, r1.mono M, h3, h4, fun z => z.elim h5 fun z => other b rfl h1 z⟩
      | od ds =>
        obtain ⟨b, vs, h1, h2, r1, h3, h4, h5⟩ := q
        exact ⟨b, vs, h1, h2, r1.mono M, h3, h4, fun z => z.elim h5 fun z => other b rfl h1 z⟩
  · have g : ∀ {j : Nat} {s' : Sl}, (sa.set i (.val d))[j]? = some s' → s'.own = true → sa[j]? = some s' := fun {j s'} h o => by
      rw [List.getElem?_set] at h
      by_cases e : i = j
      · rw [if_pos e] at h
        split at h
        · cases h; cases o
        · cases h
      · rw [if_neg e] at h; exact h
    exact fr.apart j k s' t' b (g h1 o1) (g h2 o2) o1 o2 h3 h4
  · rcases h with h | h
    · exact sr.live b h
    · rw [h]; exact ⟨o, hH, t⟩
  · rcases h with h | h
    · exact sr.apart b hb h
    · exact nm (h ▸ hb)
def frzO (i : Nat) : List Sl → Store → Fl := fun sa st => match sa[i]? with
    | some (.ol ds) => .nx (sa.set i (.val (.lst ds))) st
    | some (.od kvs) => .nx (sa.set i (.val (.dic kvs))) st
    | _ => .bad
theorem b_frz {i : Nat} {rest : List Stmt} {g : List Sl → Store → Fl} (h2 : SndSs L X W e0 rest g) : SndSs L X W e0 rest (fun sa sto => (frzO i sa sto).seq fun sa sto => g sa sto) := fun sa sto σ H F m Z fr sr E h => by
  unfold frzO at h
  dsimp only at h
  have evo : ∀ a, e0.H a = none → Evo e0.F e0.m e0.H (addF F a) m H := fun a ha => ⟨fun b hb => .inl (E.fz b hb), E.pre, E.keep, E.new, fun b hb => hb.elim (E.newF b) fun z => by rw [z]; exact .inr ha, E.live⟩
  cases hi : sa[i]? with
  | none => rw [hi] at h; exact h.elim
  | some s =>
    rw [hi] at h
    cases s with
    | un => exact h.elim
    | val d => exact h.elim
    | ol ds =>
      obtain ⟨a, vs, h1, hH, r, h0, nm, nF⟩ := fr.slot i _ hi
      have M : Mono F m H (addF F a) m H := ⟨fun b h => .inl h, fun b o _ h => h, fun b xs h => h, fun b o u h => h, ⟨[], by simp⟩⟩
      obtain ⟨f1, s1, M1⟩ := freeze (d := .lst ds) fr sr hi rfl h1 hH True.intro h0 nm nF (.lst (.inr rfl) hH (r.mono M))
      exact h2 _ sto σ H (addF F a) m Z f1 s1 (evo a h0) (PostS.from M1 h)
    | od ds =>
      obtain ⟨a, vs, h1, hH, r, h0, nm, nF⟩ := fr.slot i _ hi
      have M : Mono F m H (addF F a) m H := ⟨fun b h => .inl h, fun b o _ h => h, fun b xs h => h, fun b o u h => h, ⟨[], by simp⟩⟩
      obtain ⟨f1, s1, M1⟩ := freeze (d := .dic ds) fr sr hi rfl h1 hH True.intro h0 nm nF (.dic (.inr rfl) hH (r.mono M))
      exact h2 _ sto σ H (addF F a) m Z f1 s1 (evo a h0) (PostS.from M1 h)
/-! ### plain statements -/
def isComp : Expr → Bool
  | .ListComp _ _ _ _ => true
  | .SetComp _ _ _ _ => true
  | .DictComp _ _ _ _ _ => true
  | _ => false
theorem noSwap {e : Expr} {t : Option Expr} {l : Nat} {env : Env} (h : isComp e = false) : swapsWith e t l env = pure false := by
  cases e <;> first | rfl | cases h
theorem S_ex {e : Expr} {f : List Sl → Store → Out D} {pos : Pos} (hc : isComp e = false) (he : SndE L X W e f) : SndS L X W e0 (.Expr e pos) (fun sa st => (f sa st).fl fun _ st => .nx sa st) := fun sa sto σ H F m Z fr sr E h => by
  refine PS.ws (ps_expr (pe_WE X e) (noSwap hc)) (he sa sto σ H e0.H F m _ fr sr ((h.fl σ sr E).imp fun d st1 F1 m1 H1 e1 s1 h1 v r => ?_))
  exact h1.2 σ H1 F1 m1 (fr.evo e1 sr) s1 h1.1 Mono.refl
theorem S_ret {e : Expr} {f : List Sl → Store → Out D} {pos : Pos} (he : SndE L X W e f) : SndS L X W e0 (.Return (some e) pos) (fun sa st => (f sa st).fl fun d st => .rt d st) := fun sa sto σ H F m Z fr sr E h => by
  refine PS.ws (ps_ret (pe_WE X e)) (he sa sto σ H e0.H F m _ fr sr ((h.fl σ sr E).imp fun d st1 F1 m1 H1 e1 s1 h1 v r => ?_))
  exact h1.2 v H1 F1 m1 s1 h1.1 r
def ifO (c : List Sl → Store → Out D) (f g : List Sl → Store → Fl) : List Sl → Store → Fl := fun sa st => (c sa st).fl fun x st => match x with
    | .bl true => f sa st
    | .bl false => g sa st
    | _ => .bad
theorem S_if {c : Expr} {a b : List Stmt} {o : List Sl → Store → Out D} {f g : List Sl → Store → Fl} {pos : Pos} (hc : SndT L X W c o) (ha : SndSs L X W e0 a f) (hb : SndSs L X W e0 b g) : SndS L X W e0 (.If c a b pos) (ifO o f g) := fun sa sto σ H F m Z fr sr E h => by
  refine PS.ws (ps_if (pt_WT X c) (pss_WS X a) (pss_WS X b)) (hc sa sto σ H e0.H F m _ fr sr ((h.fl σ sr E).imp fun d st1 F1 m1 H1 e1 s1 h1 => ?_))
  obtain ⟨E1, h1⟩ := h1
  cases d <;> try exact h1.elim
  rename_i b
  cases b with
  | true => exact ⟨true, rfl, iteT (ha sa st1 σ H1 F1 m1 Z (fr.evo e1 sr) s1 E1 h1)⟩
  | false => exact ⟨false, rfl, iteF (hb sa st1 σ H1 F1 m1 Z (fr.evo e1 sr) s1 E1 h1)⟩
theorem S_brk {pos : Pos} : SndS L X W e0 (.Break pos) (fun sa st => .bk sa st) := fun sa sto σ H F m Z fr sr E h => PS.ws ps_break (h σ H F m fr sr E Mono.refl)
theorem S_pass {pos : Pos} : SndS L X W e0 (.Pass pos) (fun sa st => .nx sa st) := fun sa sto σ H F m Z fr sr E h => PS.ws ps_pass (h σ H F m fr sr E Mono.refl)
/-! ### loops -/
theorem S_for {t : Tg} {tg iter : Expr} {body : List Stmt} {oi : List Sl → Store → Out (List D)} {f : List Sl → Store → Fl} {pos : Pos} (G : Good L X n W) (hp : PassesOwn (model X.prog X.w) X.A X.env X.xe) (hi : SndI L X W tg iter oi) (hg : PG X tg (gT X.K t)) (hb : SndSs L X W e0 body f) (hs : isSet iter = false) :
    SndS L X W e0 (.For tg iter body [] pos) (fun sa st => (oi sa st).fl fun xs st => forL t f xs sa st) := fun sa sto σ H F m Z fr sr E h => by
  refine PS.ws (ps_for hp G.calm (pi_WI X tg iter) hg (pss_WS X body) (noSet hs)) ?_
  refine hi sa sto σ H e0.H F m _ fr sr ((h.fl σ sr E).imp fun ds st1 F1 m1 H1 e1 s1 h1 J hJ => ?_)
  obtain ⟨E1, h1⟩ := h1
  obtain ⟨k, Gd, Y, walk, hk, hall⟩ := hJ
  generalize hres : forL t f ds sa st1 = res at h1
  refine for_it walk (fun i σ H => ∃ sa F m st, forL t f (ds.drop i) sa st = res ∧ FRx X e0.H F H m sa σ ∧ SRx L X F H m st ∧ Evo e0.F e0.m e0.H F m H ∧ Mono F1 m1 H1 F m H) ?_ ?_ ?_ ?_
  · exact ⟨sa, F1, m1, st1, by rw [List.drop_zero]; exact hres, fr.evo e1 sr, s1, E1, Mono.refl⟩
  · rintro i σ H hi ⟨sa, F, m, st, _, _, s, _, M⟩
    exact (hall H F m st M s).1
  · rintro i x σ H H' hi ⟨sa, F, m, st, hf, fr2, s, E2, M⟩ y
    obtain ⟨d, hd⟩ : ∃ d, ds[i]? = some d := ⟨ds[i]'(by omega), by simp [show i < ds.length by omega]⟩
    obtain ⟨e3, s3, rd⟩ := (hall H F m st M s).2 i x H' d y hd
    have hdrop : ds.drop i = d :: ds.drop (i + 1) := by
      rw [List.drop_eq_getElem_cons (by omega)]
      have : ds[i]'(by omega) = d := (List.getElem?_eq_some_iff.mp hd).2
      rw [this]
    rw [hdrop, forL] at hf
    cases hb2 : bindT sa t d with
    | none => rw [hb2] at hf; simp only at hf; rw [← hf] at h1; exact h1.elim
    | some sa' =>
      rw [hb2] at hf
      simp only at hf
      refine gT_of (fr2.evo e3 s) rd hb2 fun σ' fr' _ => ?_
      refine hb sa' st σ' H' F m _ fr' s3 (E2.trans e3) ?_
      have M3 := M.trans (e3.mono s)
      cases hbody : f sa' st with
      | bad => rw [hbody] at hf; simp only at hf; rw [← hf] at h1; exact h1.elim
      | exc c st2 => rw [hbody] at hf; simp only at hf; rw [← hf] at h1; exact h1
      | rt d2 st2 => rw [hbody] at hf; simp only at hf; rw [← hf] at h1; exact h1
      | bk sa2 st2 =>
        rw [hbody] at hf; simp only at hf; rw [← hf] at h1
        exact fun σ4 H4 F4 m4 f4 s4 E4 M4 => h1 σ4 H4 F4 m4 f4 s4 E4 (M3.trans M4)
      | nx sa2 st2 =>
        rw [hbody] at hf; simp only at hf
        exact fun σ4 H4 F4 m4 f4 s4 E4 M4 => ⟨sa2, F4, m4, st2, hf, f4, s4, E4, M3.trans M4⟩
  · rintro σ H ⟨sa, F, m, st, hf, fr2, s, E2, M⟩
    rw [List.drop_eq_nil_of_le (by omega), forL] at hf
    rw [← hf] at h1
    exact h1 σ H F m fr2 s E2 M
theorem S_whl {c : Expr} {body : List Stmt} {o : List Sl → Store → Out D} {f : List Sl → Store → Fl} {pos : Pos} {wf : Nat} (hp : PassesOwn (model X.prog X.w) X.A X.env X.xe) (hc : SndT L X W c o) (hb : SndSs L X W e0 body f) :
    SndS L X W e0 (.While c body [] pos) (fun sa st => whlL o f wf sa st) := fun sa sto σ H F m Z fr sr E h => by
  refine PS.ws (ps_while hp (pt_WT X c) (pss_WS X body)) ?_
  dsimp only at h
  generalize hres : whlL o f wf sa sto = res at h
  refine ⟨fun k σ H' => ∃ sa F' m' st, whlL o f k sa st = res ∧ FRx X e0.H F' H' m' sa σ ∧ SRx L X F' H' m' st ∧ Evo e0.F e0.m e0.H F' m' H' ∧ Mono F m H F' m' H', ⟨wf, sa, F, m, sto, hres, fr, sr, E, Mono.refl⟩, ?_⟩
  rintro k σ H2 ⟨sa, F2, m2, st, hf, fr2, s2, E2, M2⟩
  cases k with
  | zero => rw [whlL] at hf; rw [← hf] at h; exact h.elim
  | succ k =>
    rw [whlL] at hf
    refine hc sa st σ H2 e0.H F2 m2 _ fr2 s2 ?_
    cases ho : o sa st with
    | bad => rw [ho] at hf; simp only [Out.fl_bad] at hf; rw [← hf] at h; exact h.elim
    | exc z st2 =>
      rw [ho] at hf; simp only [Out.fl_exc] at hf; rw [← hf] at h
      exact fun H3 F3 m3 e3 s3 => h σ H3 F3 m3 s3 (E2.trans e3)
    | ok x st2 =>
      rw [ho] at hf; simp only [Out.fl_ok] at hf
      intro H3 F3 m3 e3 s3
      have M3 := M2.trans (e3.mono s2)
      cases x <;> try (simp only at hf; rw [← hf] at h; exact h.elim)
      rename_i b
      cases b with
      | false =>
        simp only at hf; rw [← hf] at h
        exact ⟨false, rfl, iteF (h σ H3 F3 m3 (fr2.evo e3 s2) s3 (E2.trans e3) M3)⟩
      | true =>
        simp only at hf
        refine ⟨true, rfl, iteT ⟨fun σ' H' => ∃ sa F' m' st, whlL o f k sa st = res ∧ FRx X e0.H F' H' m' sa σ' ∧ SRx L X F' H' m' st ∧ Evo e0.F e0.m e0.H F' m' H' ∧ Mono F m H F' m' H', fun σ' H' q => ⟨k, Nat.lt_succ_self k, q⟩, ?_⟩⟩
        refine hb sa st2 σ H3 F3 m3 _ (fr2.evo e3 s2) s3 (E2.trans e3) ?_
        cases hbody : f sa st2 with
        | bad => rw [hbody] at hf; simp only at hf; rw [← hf] at h; exact h.elim
        | exc c st3 => rw [hbody] at hf; simp only at hf; rw [← hf] at h; exact h
        | rt d2 st3 => rw [hbody] at hf; simp only at hf; rw [← hf] at h; exact h
        | bk sa2 st3 =>
          rw [hbody] at hf; simp only at hf; rw [← hf] at h
          exact fun σ4 H4 F4 m4 f4 s4 E4 M4 => h σ4 H4 F4 m4 f4 s4 E4 (M3.trans M4)
        | nx sa2 st3 =>
          rw [hbody] at hf; simp only at hf
          exact fun σ4 H4 F4 m4 f4 s4 E4 M4 => ⟨sa2, F4, m4, st3, hf, f4, s4, E4, M3.trans M4⟩
end
end Mn
set_option maxHeartbeats 4000000
namespace Mn
open PySem PySem.Spec PyProof.Rows L2
/-! ## stores -/
section
variable {L : Lk} {X : Cx} {W : WX} {n : Nat} {e0 : Ent}
theorem SlV.evo {H0 Hs : Hp} {F F' : Addr → Prop} {H H' : Hp} {m m' : List Addr} {st : Store} {s : Sl} {v : V} (h : SlV X H0 F H m Hs s v) (e : Evo F m H F' m' H') (S : SRx L X F H m st) : SlV X H0 F' H' m' Hs s v := ⟨h.1.evo e S, h.2⟩
/-- a slot is set -/
theorem FR.put {H0 Hs : Hp} {F : Addr → Prop} {H : Hp} {m : List Addr} {sa : List Sl} {σ : L2.St} {i : Nat} {s : Sl} {v : V} (f : FRx X H0 F H m sa σ) (h : SlV X H0 F H m Hs s v) (tr : ∀ (j : Nat) (t : Sl) (b : Addr), sa[j]? = some t → t.own = true → σ[j]? = some (some (.ref b)) → Hs b ≠ none ∨ v ≠ .ref b) :
    FRx X H0 F H m (sa.set i s) (σ.set i (some v)) := by
  have nv : ∀ (j : Nat) (t : Sl) (b : Addr), sa[j]? = some t → t.own = true → σ[j]? = some (some (.ref b)) → s.own = true → v ≠ .ref b := fun j t b h1 h2 h3 h4 z => by
    obtain ⟨a, rfl, ha⟩ := h.2 h4
    cases z
    rcases tr j t _ h1 h2 h3 with q | q
    · exact q ha
    · exact q rfl
  refine ⟨by simpa using f.len, fun j t ht => ?_, fun j k t u a h1 h2 o1 o2 h3 h4 => ?_⟩
  · rw [List.getElem?_set] at ht
    by_cases e : i = j
    · subst e
      rw [if_pos rfl] at ht
      split at ht
      · rename_i hl
        cases ht
        rw [List.getElem?_set_self (by rw [← f.len]; exact hl)]
        exact h.1
      · cases ht
    · rw [if_neg e] at ht
      rw [List.getElem?_set_ne e]
      exact f.slot j t ht
  · have g : ∀ {j : Nat} {t : Sl}, (sa.set i s)[j]? = some t → t.own = true → (j = i ∧ t = s ∧ i < sa.length) ∨ (i ≠ j ∧ sa[j]? = some t) := fun {j t} h o => by
      rw [List.getElem?_set] at h
      by_cases e : i = j
      · rw [if_pos e] at h
        split at h
        · rename_i hl
          cases h; exact .inl ⟨e.symm, rfl, hl⟩
        · cases h
      · rw [if_neg e] at h; exact .inr ⟨e, h⟩
    rcases g h1 o1 with ⟨rfl, rfl, hl⟩ | ⟨n1, q1⟩
    · rcases g h2 o2 with ⟨rfl, rfl, _⟩ | ⟨n2, q2⟩
      · rfl
      · rw [List.getElem?_set_self (by rw [← f.len]; exact hl)] at h3
        rw [List.getElem?_set_ne n2] at h4
        cases h3
        exact absurd rfl (nv k u a q2 o2 h4 o1)
    · rcases g h2 o2 with ⟨rfl, rfl, hl⟩ | ⟨n2, q2⟩
      · rw [List.getElem?_set_self (by rw [← f.len]; exact hl)] at h4
        rw [List.getElem?_set_ne n1] at h3
        cases h4
        exact absurd rfl (nv j t a q1 o1 h3 o2)
      · rw [List.getElem?_set_ne n1] at h3
        rw [List.getElem?_set_ne n2] at h4
        exact f.apart j k t u a q1 q2 o1 o2 h3 h4
/-- owned slots are tracked -/
theorem FR.trk {H0 : Hp} {F : Addr → Prop} {H : Hp} {m : List Addr} {sa : List Sl} {σ : L2.St} (f : FRx X H0 F H m sa σ) {j : Nat} {t : Sl} {b : Addr} (h1 : sa[j]? = some t) (h2 : t.own = true) (h3 : σ[j]? = some (some (.ref b))) : H b ≠ none := by
  have q := f.slot j t h1
  cases t with
  | un => cases h2
  | val d => cases h2
  | ol ds => obtain ⟨a, vs, e1, e2, _⟩ := q; rw [h3] at e1; cases e1; rw [e2]; simp
  | od ds => obtain ⟨a, vs, e1, e2, _⟩ := q; rw [h3] at e1; cases e1; rw [e2]; simp
theorem R_pl {e : Expr} {f : List Sl → Store → Out D} (he : SndE L X W e f) : SndR L X W e (fun sa st => (f sa st).bind fun d st => .ok (.val d) st) := fun sa st σ H H0 F m Q fr sr hn q =>
  he sa st σ H H0 F m Q fr sr (q.bind.imp fun d st1 F1 m1 H1 e1 s1 h1 v r => h1 H1 F1 m1 Evo.refl s1 v ⟨⟨v, rfl, r⟩, fun z => nomatch z⟩)
theorem R_nl {es : List Expr} {os : List Sl → Store → Out (List D)} {pos : Pos} (h : SndA L X W es os) : SndR L X W (.List es pos) (fun sa st => (os sa st).bind fun ds st => if szOk ds.length then .ok (.ol ds) st else .bad) := fun sa st σ H H0 F m Q fr sr hn q => by
  refine PE.we (pe_lst (pa_WA X es)) (h sa st σ H H0 F m _ fr sr (q.bind.imp fun ds st1 F1 m1 H1 e1 s1 h1 vs r => ?_))
  split at h1
  · rename_i hs
    refine ⟨by rw [← r.length]; exact sz_le hs, fun p hp => ?_⟩
    obtain ⟨e2, s2⟩ := s1.newO (o := .lst vs) hp
    have nF : ¬ F1 p := fun hF => by obtain ⟨o, ho, _⟩ := s1.live p hF; rw [hp] at ho; cases ho
    have nm : p ∉ m1 := fun hm => by obtain ⟨o, ho, _⟩ := s1.mt hm; rw [hp] at ho; cases ho
    exact h1 _ _ _ e2 s2 _ ⟨⟨p, vs, rfl, upd_same, r.mono (e2.mono s1), hn p (e1.none hp), nm, nF⟩, fun _ => ⟨p, rfl, e1.none hp⟩⟩
  · exact h1.elim
/-- {} -/
theorem dictO_empty (h : Heap) {H : Hp} {P : Program} {w : World} (hb : sysModules < h.objs.size) : ObjOk P w H (h.push { cls := .type "dict", data := .dict #[] }) h.objs.size (DictO P w h.objs.size []) :=
  dictO_new .nil (by rw [beq_eq_false_iff_ne]; exact Nat.ne_of_gt hb) (Heap.DictOfH.new h)
theorem pe_dnewM {pos : Pos} : PE X (.Dict [] [] pos) (fun _ H Q => ∀ p, H p = none → Q (.ref p) (upd H p (DictO X.prog X.w p []))) := by
  refine ⟨fun pins s σ H Q I h => ?_⟩
  refine wpAny_Dict_empty ?_
  have hf : H s.heap.objs.size = none := I.hok.fresh (Nat.le_refl _)
  exact ⟨.ref s.heap.objs.size, upd H s.heap.objs.size (DictO X.prog X.w s.heap.objs.size []), I.laid (t' := s.toks) (fun b u e => Heap.get?_push_of_some _ e) (Nat.le_refl _) (dictO_empty s.heap I.big), rfl, h _ hf⟩
theorem R_nd {pos : Pos} : SndR L X W (.Dict [] [] pos) (fun _ st => .ok (.od []) st) := fun sa st σ H H0 F m Q fr sr hn q => by
  refine PE.we pe_dnewM fun p hp => ?_
  obtain ⟨e2, s2⟩ := sr.newO (o := DictO X.prog X.w p []) hp
  have nF : ¬ F p := fun hF => by obtain ⟨o, ho, _⟩ := sr.live p hF; rw [hp] at ho; cases ho
  have nm : p ∉ m := fun hm => by obtain ⟨o, ho, _⟩ := sr.mt hm; rw [hp] at ho; cases ho
  exact q _ _ _ e2 s2 _ ⟨⟨p, [], rfl, upd_same, .nil, hn p hp, nm, nF⟩, fun _ => ⟨p, rfl, hp⟩⟩
/-- name = right side -/
theorem S_asg {i : Nat} {x : Str} {e : Expr} {f : List Sl → Store → Out Sl} {pos' pos : Pos} (G : Good L X n W) (hi : X.N[i]? = some x) (hx : Loc X.env.scope x) (he : SndR L X W e f) (hs : swapsWith e (some (.Name x pos')) pos.line X.env = pure false) (hf : X.fn x = true ∨ X.env.scope.names.lookup x = some .local) :
    SndS L X W e0 (.Assign [.Name x pos'] e pos) (fun sa st => (f sa st).fl fun s st => .nx (sa.set i s) st) := fun sa sto σ H F m Z fr sr E h => by
  refine PS.ws (ps_set G.nd hi hx (pe_WE X e) hs hf) (he sa sto σ H e0.H F m _ fr sr (fun a ha => E.none ha) ((h.fl σ sr E).imp fun s st1 F1 m1 H1 e1 s1 h1 v r => ?_))
  exact h1.2 _ H1 F1 m1 ((fr.evo e1 sr).put r fun j t b q1 q2 q3 => .inl (fr.trk q1 q2 q3)) s1 h1.1 Mono.refl
/-! ### several right sides -/
def SndRs (L : Lk) (X : Cx) (W : WX) (es : List Expr) (is : List Nat) (o : List Sl → Store → Out (List Sl)) : Prop := ∀ (sa saT : List Sl) (st : Store) (σ σT : L2.St) (H H0 : Hp) (F : Addr → Prop) (m : List Addr) (Q : List V → Hp → Prop), FRx X H0 F H m sa σ → FRx X H0 F H m saT σT → SRx L X F H m st → (∀ a, H a = none → H0 a = none) →
  Post L X.prog X.w X.K (o sa st) F m H (fun ss _ F' m' H' => ∀ vs, ss.length = vs.length → FRx X H0 F' H' m' (setSl saT is ss) (setV σT is vs) → Q vs H') (fun c d H' => W c d σ H') → WA X es σ H Q
theorem Rs_nil {is : List Nat} : SndRs L X W [] is (fun _ st => .ok [] st) := fun sa saT st σ σT H H0 F m Q fr frT sr hn q => by
  refine PA.wa pa_nil (q H F m Evo.refl sr [] rfl ?_)
  have e1 : setSl saT is [] = saT := by cases is <;> rfl
  have e2 : setV σT is [] = σT := by cases is <;> rfl
  rw [e1, e2]; exact frT
theorem Rs_cons {e : Expr} {es : List Expr} {i : Nat} {is : List Nat} {f : List Sl → Store → Out Sl} {g : List Sl → Store → Out (List Sl)} (he : SndR L X W e f) (hes : SndRs L X W es is g) (hst : isStar e = false) :
    SndRs L X W (e :: es) (i :: is) (fun sa st => (f sa st).bind fun x st => (g sa st).bind fun xs st => .ok (x :: xs) st) := fun sa saT st σ σT H H0 F m Q fr frT sr hn q => by
  refine PA.wa (pa_cons (pe_WE X e) (pa_WA X es) (starEach_cons hst)) ?_
  refine he sa st σ H H0 F m _ fr sr hn (q.bind.imp fun s st1 F1 m1 H1 e1 s1 h1 v r => ?_)
  have frT1 : FRx X H0 F1 H1 m1 (saT.set i s) (σT.set i (some v)) := (frT.evo e1 sr).put r fun j t b q1 q2 q3 => .inl (frT.trk q1 q2 q3)
  refine hes sa (saT.set i s) st1 σ (σT.set i (some v)) H1 H0 F1 m1 _ (fr.evo e1 sr) frT1 s1 (fun a ha => hn a (e1.none ha)) (h1.bind.imp fun ss st2 F2 m2 H2 e2 s2 h2 vs hl fr2 => ?_)
  exact h2 H2 F2 m2 Evo.refl s2 (v :: vs) (by simp [hl]) fr2
theorem S_par2 {i j : Nat} {x y : Str} {a b : Expr} {o : List Sl → Store → Out (List Sl)} {px py pt pos : Pos} {kt k2 pt2} (G : Good L X n W) (hi : X.N[i]? = some x) (hj : X.N[j]? = some y) (hij : i ≠ j) (hx : X.env.scope.names.lookup x = some .local) (hy : X.env.scope.names.lookup y = some .local) (ha : SndRs L X W [a, b] [i, j] o)
    (hw : swappedStores [.Tuple [.Name x px, .Name y py] kt pt] (.Tuple [a, b] k2 pt2) X.env = pure (some [x, y])) :
    SndS L X W e0 (.Assign [.Tuple [.Name x px, .Name y py] kt pt] (.Tuple [a, b] k2 pt2) pos) (fun sa st => (o sa st).fl fun xs st => if [i, j].length = xs.length then .nx (setSl sa [i, j] xs) st else .bad) := fun sa sto σ H F m Z fr sr E h => by
  refine PS.ws (ps_par G.calm G.nd hi hj hij hx hy (pa_WA X _) hw) (ha sa sa sto σ σ H e0.H F m _ fr fr sr (fun a ha => E.none ha) ((h.fl σ sr E).imp fun xs st1 F1 m1 H1 e1 s1 h1 vs hl fr1 => ?_))
  obtain ⟨E1, h1⟩ := h1
  split at h1
  · rename_i hl2
    match vs, hl.symm.trans hl2.symm with
    | [v, u], _ => exact ⟨v, u, rfl, h1 _ H1 F1 m1 fr1 s1 E1 Mono.refl⟩
  · exact h1.elim
theorem S_par3 {i j l : Nat} {x y z : Str} {a b c : Expr} {o : List Sl → Store → Out (List Sl)} {px py pz pt pos : Pos} {kt k2 pt2} (G : Good L X n W) (hi : X.N[i]? = some x) (hj : X.N[j]? = some y) (hl : X.N[l]? = some z) (hij : i ≠ j) (hil : i ≠ l) (hjl : j ≠ l) (hx : X.env.scope.names.lookup x = some .local) (hy : X.env.scope.names.lookup y = some .local) (hz : X.env.scope.names.lookup z = some .local) (ha : SndRs L X W [a, b, c] [i, j, l] o)
    (hw : swappedStores [.Tuple [.Name x px, .Name y py, .Name z pz] kt pt] (.Tuple [a, b, c] k2 pt2) X.env = pure (some [x, y, z])) :
    SndS L X W e0 (.Assign [.Tuple [.Name x px, .Name y py, .Name z pz] kt pt] (.Tuple [a, b, c] k2 pt2) pos) (fun sa st => (o sa st).fl fun xs st => if [i, j, l].length = xs.length then .nx (setSl sa [i, j, l] xs) st else .bad) := fun sa sto σ H F m Z fr sr E h => by
  refine PS.ws (ps_par3 G.calm G.nd hi hj hl hij hil hjl hx hy hz (pa_WA X _) hw) (ha sa sa sto σ σ H e0.H F m _ fr fr sr (fun a ha => E.none ha) ((h.fl σ sr E).imp fun xs st1 F1 m1 H1 e1 s1 h1 vs hl fr1 => ?_))
  obtain ⟨E1, h1⟩ := h1
  split at h1
  · rename_i hl2
    match vs, hl.symm.trans hl2.symm with
    | [v, u, t], _ => exact ⟨v, u, t, rfl, h1 _ H1 F1 m1 fr1 s1 E1 Mono.refl⟩
  · exact h1.elim
/-- (a, b) = value -/
theorem S_asgT {is : List Nat} {tg e : Expr} {f : List Sl → Store → Out D} {pos : Pos} (he : SndE L X W e f) (hg : PG X tg (gT X.K (.tp is))) (hs : swapsWithSole [tg] e pos.line X.env = pure false) (hw : swappedStores [tg] e X.env = pure none) (h1 : (assignEach [tg] X.env).map (·.2) = [assign tg X.env]) :
    SndS L X W e0 (.Assign [tg] e pos) (fun sa st => (f sa st).fl fun d st => match bindT sa (.tp is) d with | some sa1 => .nx sa1 st | none => .bad) := fun sa sto σ H F m Z fr sr E h => by
  refine PS.ws (ps_asg (pe_WE X e) hg hs hw h1) (he sa sto σ H e0.H F m _ fr sr ((h.fl σ sr E).imp fun d st1 F1 m1 H1 e1 s1 h1 v r => ?_))
  obtain ⟨E1, h1⟩ := h1
  cases hb : bindT sa (.tp is) d with
  | none => rw [hb] at h1; exact h1.elim
  | some sa1 =>
    rw [hb] at h1
    exact gT_of (fr.evo e1 sr) r hb fun σ' fr' _ => h1 σ' H1 F1 m1 fr' s1 E1 Mono.refl
/-! ### owned lists grow, shrink -/
def isCallE : Expr → Bool
  | .Call _ _ _ _ => true
  | _ => false
theorem base_of {o : Expr} {a : Str} {env : Env} {w : Sem Value} (h : isCallE o = false) : attributeBase o a env w = w := by
  cases o <;> first | rfl | cases h
theorem FR.ol {H0 : Hp} {F : Addr → Prop} {H : Hp} {m : List Addr} {sa : List Sl} {σ : L2.St} {i : Nat} {a : Addr} {vs us : List V} {ds ds' : List D} (f : FRx X H0 F H m sa σ) (hi : sa[i]? = some (.ol ds)) (ha : σ[i]? = some (some (.ref a))) (hH : H a = some (.lst vs)) (h0 : H0 a = none) (nm : a ∉ m) (nF : ¬ F a) (r : RelL X.prog X.w X.K F H m ds' us) :
    FRx X H0 F (upd H a (.lst us)) m (sa.set i (.ol ds')) σ := by
  have M := Mono.own (F := F) (m := m) (o' := .lst us) hH True.intro nF
  have hlt : i < sa.length := (List.getElem?_eq_some_iff.mp hi).1
  refine ⟨by simpa using f.len, fun j t ht => ?_, fun j k t u b h1 h2 o1 o2 h3 h4 => ?_⟩
  · rw [List.getElem?_set] at ht
    by_cases e : i = j
    · subst e
      rw [if_pos rfl, if_pos hlt] at ht
      cases ht
      exact ⟨a, us, ha, upd_same, r.mono M, h0, nm, nF⟩
    · rw [if_neg e] at ht
      have q := f.slot j t ht
      have other : ∀ b, t.own = true → σ[j]? = some (some (.ref b)) → b ≠ a := fun b o1 h3 z => e (f.apart i j _ t a hi ht rfl o1 ha (z ▸ h3))
      cases t with
      | un => exact True.intro
      | val d' => obtain ⟨x, h1, r1⟩ := q; exact ⟨x, h1, r1.mono M⟩
      | ol ds =>
        obtain ⟨b, ws, h1, h2, r1, h3, h4, h5⟩ := q
        exact ⟨b, ws, h1, by rw [upd_ne (other b rfl h1)]; exact h2, r1.mono M, h3, h4, h5⟩
      | od ds =>
        obtain ⟨b, ws, h1, h2, r1, h3, h4, h5⟩ := q
        exact ⟨b, ws, h1, by rw [upd_ne (other b rfl h1)]; exact h2, r1.mono M, h3, h4, h5⟩
  · have g : ∀ {j : Nat} {t : Sl}, (sa.set i (.ol ds'))[j]? = some t → t.own = true → ∃ t', sa[j]? = some t' ∧ t'.own = true := fun {j t} h o => by
      rw [List.getElem?_set] at h
      by_cases e : i = j
      · subst e; exact ⟨_, hi, rfl⟩
      · rw [if_neg e] at h; exact ⟨t, h, o⟩
    obtain ⟨t', g1, p1⟩ := g h1 o1
    obtain ⟨u', g2, p2⟩ := g h2 o2
    exact f.apart j k t' u' b g1 g2 p1 p2 h3 h4
theorem Evo.own {F0 : Addr → Prop} {m0 : List Addr} {H0 : Hp} {F : Addr → Prop} {m : List Addr} {H : Hp} {a : Addr} {o : HO} (E : Evo F0 m0 H0 F m H) (h0 : H0 a = Option.none) : Evo F0 m0 H0 F m (upd H a o) := by
  refine ⟨E.fz, E.pre, fun b u h1 h2 h3 => ?_, E.new, E.newF, fun b u h1 => ?_⟩
  · rw [upd_ne (ne_of_none h1 h0)]; exact E.keep b u h1 h2 h3
  · obtain ⟨u', h'⟩ := E.live b u h1
    exact ⟨u', by rw [upd_ne (ne_of_none h1 h0)]; exact h'⟩
theorem few_of {cpos : Pos} {env : Env} {e : Expr} (h : isStar e = false) : ((backTo cpos (starEach [e] env)).all (fun x => !x.1) && (backToKw cpos (keywordEach [] env)).all (fun x => x.1.isSome)
      && decide ([e].length + ([] : List Keyword).length + (if ([] : List Keyword).isEmpty then 0 else 1) < 30)) = true := by
  rw [starEach_cons h]
  rfl
theorem S_app {i : Nat} {x : Str} {e : Expr} {f : List Sl → Store → Out D} {p apos cpos pos : Pos} (hN : X.N[i]? = some x) (hv : Vis X.env.scope x) (hd : (x == ("__debug__" : Str)) = false) (hcd : (x == ("__classdict__" : Str)) = false) (he : SndE L X W e f) (hst : isStar e = false) (hline : (apos.endLine == cpos.line) = true) :
    SndS L X W e0 (.Expr (.Call (.Attribute (.Name x p) "append" apos) [e] [] cpos) pos) (appS i f) := fun sa sto σ H F m Z fr sr E h => by
  refine PS.ws (ps_expr (pe_bm PySem.F.plainAttrs_list PySem.F.slot_list_append PySem.F.type_list_append mt_append (pe_var hN hv hd hcd) (pa_cons (pe_WE X e) pa_nil (star1 hst)) (base_of rfl) (few_of hst) hline (star1 hst) rfl) rfl) ?_
  unfold appS at h
  split at h
  · rename_i ds hi
    obtain ⟨a, vs, ha, hH, r, h0, nm, nF⟩ := fr.slot i _ hi
    refine ⟨_, ha, .inl ⟨rfl, _, SqL.of hH⟩, he sa sto σ H e0.H F m _ fr sr ((h.fl σ sr E).imp fun d st1 F1 m1 H1 e1 s1 h1 v rv => ?_)⟩
    obtain ⟨E1, h1⟩ := h1
    split at h1
    · rename_i hs
      have fr1 := fr.evo e1 sr
      obtain ⟨a', vs', ha', hH1, r1, h01, nm1, nF1⟩ := fr1.slot i _ hi
      rw [ha] at ha'; cases ha'
      refine ⟨a, vs', v, rfl, rfl, hH1, ?_, ?_⟩
      · have := sz_le hs
        rw [r1.length] at this
        omega
      · exact h1 σ _ F1 m1 (fr1.ol hi ha hH1 h01 nm1 nF1 (r1.append (.cons rv .nil))) (s1.own hH1 True.intro nm1 nF1) (E1.own h01) (Mono.own hH1 True.intro nF1)
    · exact h1.elim
  · exact h.elim
theorem S_popT {i j : Nat} {x y : Str} {e : Expr} {f : List Sl → Store → Out D} {p px apos cpos pos : Pos} (G : Good L X n W) (hi : X.N[i]? = some x) (hx : Loc X.env.scope x) (hf : X.fn x = true ∨ X.env.scope.names.lookup x = some .local) (hN : X.N[j]? = some y) (hv : Vis X.env.scope y) (hd : (y == ("__debug__" : Str)) = false) (hcd : (y == ("__classdict__" : Str)) = false) (he : SndE L X W e f) (hst : isStar e = false) (hline : (apos.endLine == cpos.line) = true) :
    SndS L X W e0 (.Assign [.Name x px] (.Call (.Attribute (.Name y p) "pop" apos) [e] [] cpos) pos) (popS i j f) := fun sa sto σ H F m Z fr sr E h => by
  refine PS.ws (ps_set G.nd hi hx (pe_bm PySem.F.plainAttrs_list PySem.F.slot_list_pop PySem.F.type_list_pop mt_popAt (pe_var hN hv hd hcd) (pa_cons (pe_WE X e) pa_nil (star1 hst)) (base_of rfl) (few_of hst) hline (star1 hst) rfl) rfl hf) ?_
  unfold popS at h
  split at h
  · rename_i ds hj
    obtain ⟨a, vs, ha, hH, r, h0, nm, nF⟩ := fr.slot j _ hj
    refine ⟨_, ha, .inl ⟨rfl, _, SqL.of hH⟩, he sa sto σ H e0.H F m _ fr sr ((h.fl σ sr E).imp fun d st1 F1 m1 H1 e1 s1 h1 v rv => ?_)⟩
    obtain ⟨E1, h1⟩ := h1
    have fr1 := fr.evo e1 sr
    obtain ⟨a', vs', ha', hH1, r1, h01, nm1, nF1⟩ := fr1.slot j _ hj
    rw [ha] at ha'; cases ha'
    split at h1
    · rename_i k
      split at h1
      · rename_i mm hm
        split at h1
        · rename_i dd hdd
          cases rv
          obtain ⟨q1, q2, q3, q4⟩ := L2.ixN_seq (show L2.ixN ds.length k = some mm from hm)
          obtain ⟨vv, hvv, rvv⟩ := r1.get hdd
          split at h1
          case isFalse => exact h1.elim
          rename_i hsz
          have hz : ds.length ≤ sizeLine := sz_le hsz
          refine ⟨a, vs', k, mm, vv, rfl, rfl, hH1, ?_, ?_, by rw [← r1.length]; exact q1, hvv, ?_⟩
          · rw [sizeLine_eq] at hz; omega
          · rw [sizeLine_eq] at hz; omega
          · have M := Mono.own (F := F1) (m := m1) (o' := .lst (vs'.eraseIdx mm)) hH1 True.intro nF1
            refine h1 _ _ F1 m1 ((fr1.ol hj ha hH1 h01 nm1 nF1 (r1.eraseIdx mm)).set (rvv.mono M)) (s1.own hH1 True.intro nm1 nF1) (E1.own h01) M
        · exact h1.elim
      · exact h1.elim
    · exact h1.elim
  · exact h.elim
/-! ### stores into the store, into owned dicts -/
theorem swSub {e o i : Expr} {p : Pos} {l : Nat} {env : Env} : swapsWithSole [.Subscript o i p] e l env = pure false := by
  show swapsWith e (some (.Subscript o i p)) l env = pure false
  cases e <;> rfl
theorem swStores {e o i : Expr} {p : Pos} {env : Env} : swappedStores [.Subscript o i p] e env = pure none := by
  cases e <;> rfl
theorem asgSub {o i : Expr} {pos : Pos} {env : Env} (h : isSlice i = false) : ∀ v, assign (.Subscript o i pos) env v = (do
      let ov ← holding [v] (eval o env)
      let iv ← holding [v, ov] (eval i env)
      standAt pos
      holding [v, ov, iv] (setItem ov iv v)
      release [v, ov, iv] []) := by
  intro v
  cases i <;> first | rfl | cases h
theorem SR.setCell {F : Addr → Prop} {H : Hp} {m : List Addr} {st : Store} {k : Nat} {a : Addr} {xs : List D} {vs us : List V} {xs' : List D} (S : SRx L X F H m st) (hk : st[k]? = some (.lst xs)) (ha : m[k]? = some a) (hH : H a = some (.lst vs)) (hb : D.rbL 0 xs' = true) (r : RelL X.prog X.w X.K F H m xs' us) :
    SRx L X F (upd H a (.lst us)) m (st.set k (.lst xs')) ∧ Evo F m H F m (upd H a (.lst us)) := by
  have nF : ¬ F a := S.apart a (List.mem_of_getElem? ha)
  have M := Mono.own (F := F) (m := m) (o' := .lst us) hH True.intro nF
  have hlt : k < st.length := (List.getElem?_eq_some_iff.mp hk).1
  have tb : ∀ p ∈ L.T, ∀ ps, H p.1 = some (.tbl ps) → p.1 ≠ a := fun p hp ps hps z => by rw [z, hH] at hps; cases hps
  refine ⟨⟨by rw [List.length_set]; exact S.len, fun j c b h1 h2 => ?_, S.nd, fun b hF => ?_, S.apart, fun p hp => ?_, fun p hp ps hps pos c hc => ?_⟩, ⟨fun _ h => h, ⟨[], by simp⟩, fun b o h1 h2 h3 => ?_, fun _ h => .inl h, fun _ h => .inl h, fun b o h1 => ?_⟩⟩
  · rw [List.getElem?_set] at h1
    by_cases e : k = j
    · subst e
      rw [if_pos rfl, if_pos hlt] at h1
      cases h1
      rw [ha] at h2; cases h2
      exact ⟨hb, us, upd_same, r.mono M⟩
    · rw [if_neg e] at h1
      have hba : b ≠ a := fun z => e ((List.getElem?_inj (List.getElem?_eq_some_iff.mp ha).1 S.nd).mp (ha.trans (z ▸ h2.symm)))
      exact (S.cell j c b h1 h2).mono M (upd_ne hba)
  · obtain ⟨u, hu, tu⟩ := S.live b hF
    exact ⟨u, by rw [upd_ne (show b ≠ a from fun z => nF (z ▸ hF))]; exact hu, tu⟩
  · obtain ⟨ps, h1, h2, h3⟩ := S.tabs p hp
    refine ⟨ps, by rw [upd_ne (tb p hp ps h1)]; exact h1, h2, fun pos cv hc => ?_⟩
    obtain ⟨c, rfl, e2⟩ := h3 pos cv hc
    exact ⟨c, rfl, by rw [upd_ne (show c ≠ a from fun z => nF (z ▸ S.codes p hp ps h1 pos c hc))]; exact e2⟩
  · obtain ⟨qs, h1, _⟩ := S.tabs p hp
    rw [upd_ne (tb p hp qs h1)] at hps
    exact S.codes p hp ps hps pos c hc
  · rw [upd_ne (show b ≠ a from fun z => h2 (z ▸ List.mem_of_getElem? ha))]; exact h1
  · by_cases z : b = a
    · exact ⟨_, by rw [z]; exact upd_same⟩
    · exact ⟨o, by rw [upd_ne z]; exact h1⟩
theorem rbL_set : ∀ {xs : List D} {k : Nat} {d : D}, D.rbL 0 xs = true → d.rb 0 = true → D.rbL 0 (xs.set k d) = true
  | [], _, _, _, _ => rfl
  | x :: xs, 0, d, h1, h2 => by
    rw [D.rbL, Bool.and_eq_true] at h1
    show D.rbL 0 (d :: xs) = true
    rw [D.rbL, h2, h1.2]; rfl
  | x :: xs, k + 1, d, h1, h2 => by
    rw [D.rbL, Bool.and_eq_true] at h1
    show D.rbL 0 (x :: xs.set k d) = true
    rw [D.rbL, h1.1, rbL_set h1.2 h2]; rfl
theorem S_setR {i : Nat} {x : Str} {k e : Expr} {f g : List Sl → Store → Out D} {p pos' pos : Pos} (hN : X.N[i]? = some x) (hv : Vis X.env.scope x) (hd : (x == ("__debug__" : Str)) = false) (hcd : (x == ("__classdict__" : Str)) = false) (hsl : isSlice k = false) (hk : SndE L X W k f) (he : SndE L X W e g) :
    SndS L X W e0 (.Assign [.Subscript (.Name x p) k pos'] e pos) (setRS i f g) := fun sa sto σ H F m Z fr sr E h => by
  refine PS.ws (ps_asg (pe_WE X e) (pg_sub (pe_var hN hv hd hcd) (pe_WE X k) set_list (asgSub hsl)) swSub swStores) ?_
  unfold setRS at h
  split at h
  · rename_i nn hi
    obtain ⟨v0, hv0, r0⟩ := fr.slot i _ hi
    refine he sa sto σ H e0.H F m _ fr sr ((h.fl σ sr E).imp fun d st1 F1 m1 H1 e1 s1 h1 v rv => ?_)
    obtain ⟨E1, h1⟩ := h1
    refine ⟨v0, hv0, ?_⟩
    refine hk sa st1 σ H1 e0.H F1 m1 _ (fr.evo e1 sr) s1 ((h1.fl σ s1 E1).imp fun y st2 F2 m2 H2 e2 s2 h2 vy ry => ?_)
    obtain ⟨E2, h2⟩ := h2
    have r02 := (r0.mono (e1.mono sr)).mono (e2.mono s1)
    unfold putCell at h2
    split at h2
    · rename_i xs j hc
      split at h2
      · rename_i mm hm
        split at h2
        · rename_i hrb
          cases ry
          cases r02 with
          | ref hn =>
            obtain ⟨hb, vs, hH, r⟩ := s2.cell nn _ _ hc hn
            obtain ⟨s3, e3⟩ := s2.setCell hc hn hH (rbL_set hb hrb) (r.set (rv.mono (e2.mono s1)) mm)
            exact ⟨_, vs, j, mm, rfl, rfl, hH, by rw [← r.length]; exact hm, h2 σ _ F2 m2 (((fr.evo e1 sr).evo e2 s1).evo e3 s2) s3 (E2.trans e3) (e3.mono s2)⟩
        · exact h2.elim
      · exact h2.elim
    · exact h2.elim
  · exact h.elim
/-- d[k] = v, d an owned dict -/
def rSetM (X : Cx) : TSet := fun o i v H Q => ∃ (a b : Addr) (F : Addr → Prop) (m : List Addr) (kvs : List (D × D)) (es : List (NestedKey × Addr × V)) (k : D) (nk : NestedKey), o = .ref a ∧ i = .ref b ∧ H a = some (DictO X.prog X.w a es) ∧ RelP X.prog X.w X.K F H m kvs es ∧ Relx X F H m k (.ref b) ∧ D.nkey k = some nk ∧ nk.depth ≤ 8 ∧ es.length ≤ sizeLine ∧ Q (upd H a (DictO X.prog X.w a (putE es nk b v)))
theorem set_M (G : Good L X n W) : PSet X (rSetM X) := by
  intro pins s σ H o i v ov iv u Q I ro ri rv h
  obtain ⟨a, b, F, m, kvs, es, k, nk, rfl, rfl, hH, r, rk, e1, e2, hz, q⟩ := h
  cases ro; cases ri
  obtain ⟨xs, p, dd, hsys⟩ := dict_of I hH r
  have key : (nestedKind X.prog X.w).is s.heap nk b := ⟨nested_of I rk rfl e1, e2⟩
  refine wpAny_setItem_heap (hsz := by rw [← esP_length p]; exact hz) (room8 G.room) key dd fun h' hm' hs => ?_
  refine ⟨_, ?_, q⟩
  have he : ∃ z, h'.get? a = some z := by obtain ⟨z, _, _, hz, _⟩ := hm'; exact ⟨z, hz⟩
  exact I.write (by rw [hH]; exact True.intro) (.inl rfl) (fun c o hc e => (hs.2 c hc).trans e) he (dictO_new (esP_put rv p) hsys hm')
theorem FR.od {H0 : Hp} {F : Addr → Prop} {H : Hp} {m : List Addr} {sa : List Sl} {σ : L2.St} {i : Nat} {a : Addr} {es es' : List (NestedKey × Addr × V)} {ds ds' : List (D × D)} (f : FRx X H0 F H m sa σ) (hi : sa[i]? = some (.od ds)) (ha : σ[i]? = some (some (.ref a))) (hH : H a = some (DictO X.prog X.w a es)) (h0 : H0 a = none) (nm : a ∉ m) (nF : ¬ F a) (r : RelP X.prog X.w X.K F H m ds' es') :
    FRx X H0 F (upd H a (DictO X.prog X.w a es')) m (sa.set i (.od ds')) σ := by
  have M := Mono.own (F := F) (m := m) (o' := DictO X.prog X.w a es') hH True.intro nF
  have hlt : i < sa.length := (List.getElem?_eq_some_iff.mp hi).1
  refine ⟨by simpa using f.len, fun j t ht => ?_, fun j k t u b h1 h2 o1 o2 h3 h4 => ?_⟩
  · rw [List.getElem?_set] at ht
    by_cases e : i = j
    · subst e
      rw [if_pos rfl, if_pos hlt] at ht
      cases ht
      exact ⟨a, es', ha, upd_same, r.mono M, h0, nm, nF⟩
    · rw [if_neg e] at ht
      have q := f.slot j t ht
      have other : ∀ b, t.own = true → σ[j]? = some (some (.ref b)) → b ≠ a := fun b o1 h3 z => e (f.apart i j _ t a hi ht rfl o1 ha (z ▸ h3))
      cases t with
      | un => exact True.intro
      | val d' => obtain ⟨x, h1, r1⟩ := q; exact ⟨x, h1, r1.mono M⟩
      | ol ds =>
        obtain ⟨b, ws, h1, h2, r1, h3, h4, h5⟩ := q
        exact ⟨b, ws, h1, by rw [upd_ne (other b rfl h1)]; exact h2, r1.mono M, h3, h4, h5⟩
      | od ds =>
        obtain ⟨b, ws, h1, h2, r1, h3, h4, h5⟩ := q
        exact ⟨b, ws, h1, by rw [upd_ne (other b rfl h1)]; exact h2, r1.mono M, h3, h4, h5⟩
  · have g : ∀ {j : Nat} {t : Sl}, (sa.set i (.od ds'))[j]? = some t → t.own = true → ∃ t', sa[j]? = some t' ∧ t'.own = true := fun {j t} h o => by
      rw [List.getElem?_set] at h
      by_cases e : i = j
      · subst e; exact ⟨_, hi, rfl⟩
      · rw [if_neg e] at h; exact ⟨t, h, o⟩
    obtain ⟨t', g1, p1⟩ := g h1 o1
    obtain ⟨u', g2, p2⟩ := g h2 o2
    exact f.apart j k t' u' b g1 g2 p1 p2 h3 h4
theorem S_setD {i : Nat} {x : Str} {k e : Expr} {f g : List Sl → Store → Out D} {p pos' pos : Pos} (G : Good L X n W) (hN : X.N[i]? = some x) (hv : Vis X.env.scope x) (hd : (x == ("__debug__" : Str)) = false) (hcd : (x == ("__classdict__" : Str)) = false) (hsl : isSlice k = false) (hk : SndE L X W k f) (he : SndE L X W e g) :
    SndS L X W e0 (.Assign [.Subscript (.Name x p) k pos'] e pos) (setDS i f g) := fun sa sto σ H F m Z fr sr E h => by
  refine PS.ws (ps_asg (pe_WE X e) (pg_sub (pe_var hN hv hd hcd) (pe_WE X k) (set_M G) (asgSub hsl)) swSub swStores) ?_
  unfold setDS at h
  split at h
  · rename_i kvs hi
    obtain ⟨a, es, ha, hH, r, h0, nm, nF⟩ := fr.slot i _ hi
    refine he sa sto σ H e0.H F m _ fr sr ((h.fl σ sr E).imp fun d st1 F1 m1 H1 e1 s1 h1 v rv => ?_)
    obtain ⟨E1, h1⟩ := h1
    refine ⟨_, ha, ?_⟩
    refine hk sa st1 σ H1 e0.H F1 m1 _ (fr.evo e1 sr) s1 ((h1.fl σ s1 E1).imp fun y st2 F2 m2 H2 e2 s2 h2 vy ry => ?_)
    obtain ⟨E2, h2⟩ := h2
    split at h2
    · rename_i hky
      rw [Bool.and_eq_true] at hky
      have fr2 := (fr.evo e1 sr).evo e2 s1
      obtain ⟨a', es2, ha', hH2, r2, h02, nm2, nF2⟩ := fr2.slot i _ hi
      rw [ha] at ha'; cases ha'
      obtain ⟨ds, nk, rfl, k1, k2⟩ := keyOk_of hky.1
      have hz := sz_le hky.2
      cases ry with
      | tup t1 t2 =>
        have rk : Relx X F2 H2 m2 (.tup ds) (.ref _) := .tup t1 t2
        refine ⟨a, _, F2, m2, kvs, es2, .tup ds, nk, rfl, rfl, hH2, r2, rk, k1, k2, by rw [r2.length] at hz; omega, ?_⟩
        exact h2 σ _ F2 m2 (fr2.od hi ha hH2 h02 nm2 nF2 (put_of k1 k2 rk (rv.mono (e2.mono s1)) r2)) (s2.own hH2 True.intro nm2 nF2) (E2.own h02) (Mono.own hH2 True.intro nF2)
    · exact h2.elim
  · exact h.elim
end
end Mn
set_option maxHeartbeats 4000000
namespace Mn
open PySem PySem.Spec PyProof.Rows L2 HotX L2H
/-! ## the law's word for a refusal -/
/-- what is known of the exception in hand, of the names -/
structure TermX (X : Cx) (a : Addr) (oe : Obj) (D : Addr) (cl : Nat → Addr) (c : Nat) : Prop where
  hot : HotC X
  pin : (a, oe) ∈ X.pn
  zc : Zc (.ref D) none oe
  hf : ∃ vs, oe.data = .fields vs
  exc : ExcC X.K D
  c13 : c < 13
  kit : ∀ j, j < 13 → PySem.W.kitOne X.K (.ref D) (.ref (cl j)) = some (decide (j = c))
  ve : PySem.W.kitOne X.K (.ref D) (.type "ValueError") = some true
  mg : ∀ j, j < 13 → X.mg (exN j) = some (.ref (cl j))
  fi : X.mg "isinstance" = none
  fs : X.mg "sum" = none
  ft : X.mg "int" = none
  fv : X.mg "ValueError" = none
  N : X.N = [("e" : Str), "flags", "kinds"]
  fn : ∀ x, X.fn x = true
  ve_ : Vis X.env.scope "e"
  lf : Loc X.env.scope "flags"
  lk : Loc X.env.scope "kinds"
  gj : ∀ j, j < 13 → Gl X (exN j)
  gi : Gl X "isinstance"
  gs : Gl X "sum"
  gv : Gl X "ValueError"
theorem Loc.vis {sc : Scope} {x : Str} (h : Loc sc x) : Vis sc x := h.elim .inl fun z => .inr (.inl z)
section
variable {X : Cx} {a : Addr} {oe : Obj} {D : Addr} {cl : Nat → Addr} {c : Nat} {σ : L2.St} {H : Hp}
theorem call_isP (T : TermX X a oe D cl c) : CallR X (.builtin "isinstance") (rIsE X.K D a) := by
  intro pins s σ H xs us Q I r h
  obtain ⟨k, cv, b, rfl, hcv, e, q⟩ := h
  cases r with
  | cons rx rr =>
    cases rr with
    | cons rt rr =>
      cases rr
      cases rx
      have ec := hcv _ rt
      subst ec
      obtain ⟨hget, _⟩ := I.pin (a, oe) (List.mem_append.mpr (.inl T.pin))
      obtain ⟨vs, hv⟩ := T.hf
      have J : PySem.W.InstAt s.heap a oe D none := by
        have hz := T.zc
        clear T
        obtain ⟨oc, od, oda, osl⟩ := oe
        obtain ⟨h1, h2⟩ := hz
        dsimp only at h1 h2 hv
        subst h1 h2 hv
        exact ⟨hget, rfl, rfl, trivial⟩
      have C := T.exc
      exact PySem.W.kia_one (PySem.W.handS_kitx_exc C.hg C.hk C.hs C.hd C.ha C.hn C.ht C.hm) I.kIn J e (fun z => nomatch z) fun tk => ⟨.bl b, H, I.kept (t' := tk) fun _ _ z => z, rfl, q⟩
theorem isE_form {x : Str} {e : Expr} (h : isE x e = true) : ∃ p1 p2 p3 p4, e = .Call (.Name "isinstance" p1) [.Name "e" p2, .Name x p3] [] p4 := by
  unfold isE at h
  split at h
  · simp only [Bool.and_eq_true, decide_eq_true_eq] at h
    obtain ⟨rfl, rfl, rfl⟩ := h
    exact ⟨_, _, _, _, rfl⟩
  · cases h
theorem exN_dbg : ∀ j, j < 13 → (exN j == ("__debug__" : Str)) = false := by decide +kernel
theorem w_is (T : TermX X a oe D cl c) {j : Nat} (hj : j < 13) {e : Expr} (h : isE (exN j) e = true) {Q : VK} (h0 : σ[0]? = some (some (.ref a))) (q : Q (.bl (decide (j = c))) H) : WE X e σ H Q := by
  obtain ⟨p1, p2, p3, p4, rfl⟩ := isE_form h
  refine PE.we (pe_callB (call_isP T) T.gi T.fi boot_isinstance (pa_cons (pe_var (i := 0) (by rw [T.N]; rfl) T.ve_ (by decide) (by decide)) (pa_cons (pe_glob (v := .ref (cl j)) (T.gj j hj) (T.mg j hj) rfl (exN_dbg j hj)) pa_nil))) ?_
  exact ⟨.ref a, h0, .ref (cl j), .ref (cl j), _, rfl, fun u r => r, T.kit j hj, q⟩
theorem w_isv (T : TermX X a oe D cl c) {e : Expr} (h : isE "ValueError" e = true) {Q : VK} (h0 : σ[0]? = some (some (.ref a))) (q : Q (.bl true) H) : WE X e σ H Q := by
  obtain ⟨p1, p2, p3, p4, rfl⟩ := isE_form h
  refine PE.we (pe_callB (call_isP T) T.gi T.fi boot_isinstance (pa_cons (pe_var (i := 0) (by rw [T.N]; rfl) T.ve_ (by decide) (by decide)) (pa_cons (pe_bltn (v := .ty "ValueError") (u := .type "ValueError") T.gv T.fv (by decide +kernel) rfl) pa_nil))) ?_
  exact ⟨.ref a, h0, .ty "ValueError", .type "ValueError", true, rfl, fun u r => r, T.ve, q⟩
theorem isE_star {x : Str} {e : Expr} (h : isE x e = true) : isStar e = false := by
  obtain ⟨p1, p2, p3, p4, rfl⟩ := isE_form h
  rfl
theorem w_iss (T : TermX X a oe D cl c) (h0 : σ[0]? = some (some (.ref a))) : ∀ (js : List Nat) (es : List Expr) {Q : List V → Hp → Prop}, isEs js es = true → (∀ j ∈ js, j < 13) → Q (js.map fun j => V.bl (decide (j = c))) H → WA X es σ H Q
  | [], [], Q, _, _, q => PA.wa pa_nil q
  | [], _ :: _, _, h, _, _ => by cases h
  | _ :: _, [], _, h, _, _ => by cases h
  | j :: js, e :: es, Q, h, hj, q => by
    unfold isEs at h
    simp only [Bool.and_eq_true] at h
    refine PA.wa (pa_cons (pe_WE X e) (pa_WA X es) (starEach_cons (isE_star h.1))) ?_
    exact w_is T (hj j List.mem_cons_self) h.1 h0 (w_iss T h0 js es h.2 (fun k hk => hj k (List.mem_cons_of_mem _ hk)) q)
theorem w_strs : ∀ (js : List Nat) (es : List Expr) {Q : List V → Hp → Prop}, strEs js es = true → Q (js.map fun j => V.str (exN j)) H → WA X es σ H Q
  | [], [], Q, _, q => PA.wa pa_nil q
  | [], _ :: _, _, h, _ => by cases h
  | _ :: _, [], _, h, _ => by simp [strEs] at h
  | j :: js, e :: es, Q, h, q => by
    unfold strEs at h
    split at h
    · rename_i z1 z2
      cases z1
    · rename_i j' js' x k p es' z1 z2
      cases z1
      cases z2
      simp only [Bool.and_eq_true, decide_eq_true_eq] at h
      obtain ⟨rfl, h⟩ := h
      exact PA.wa (pa_cons pe_str (pa_WA X es)) (w_strs js es h q)
    · cases h
end
end Mn
set_option maxHeartbeats 4000000
namespace Mn
open PySem PySem.Spec PyProof.Rows L2 HotX L2H
section
variable {X : Cx} {a : Addr} {oe : Obj} {D : Addr} {cl : Nat → Addr} {c : Nat} {σ : L2.St} {H : Hp}
theorem sz_small {n : Nat} (h : n ≤ 1000) : n ≤ sizeLine := by rw [sizeLine_eq]; omega
theorem ext_upd {H H1 : Hp} {p : Addr} {o : HO} (e : ∀ b u, H b = some u → H1 b = some u) (n : H1 p = none) : ∀ b u, H b = some u → upd H1 p o b = some u := fun b u z => by
  rw [upd_ne (ne_of_none (e b u z) n)]
  exact e b u z
/-- flags, kinds = [..], + [..] -/
theorem w_asgL {i : Nat} {x : Str} {es : List Expr} {p1 p2 p3 : Pos} {Z : Ends} {vs : List V} (hN : X.N.Nodup) (hi : X.N[i]? = some x) (hx : Loc X.env.scope x) (hf : X.fn x = true) (hl : vs.length ≤ 1000) (he : ∀ {Q : List V → Hp → Prop}, Q vs H → WA X es σ H Q)
    (q : ∀ p, H p = none → Z.nx (σ.set i (some (.ref p))) (upd H p (.lst vs))) : WSt X (.Assign [.Name x p1] (.List es p2) p3) Z σ H := by
  refine PS.ws (ps_set hN hi hx (pe_lst (pa_WA X es)) rfl (.inl hf)) ?_
  exact he ⟨sz_small hl, fun p np => q p np⟩
theorem w_asgC {i : Nat} {x : Str} {es : List Expr} {p1 p2 p3 p4 p5 : Pos} {Z : Ends} {vs ws : List V} {l : Addr} (hN : X.N.Nodup) (hi : X.N[i]? = some x) (hx : Loc X.env.scope x) (hf : X.fn x = true) (hd : (x == ("__debug__" : Str)) = false) (hcd : (x == ("__classdict__" : Str)) = false) (hl : ws.length + vs.length ≤ 1000)
    (hs : σ[i]? = some (some (.ref l))) (hH : H l = some (.lst ws)) (he : ∀ {Q : List V → Hp → Prop}, Q vs H → WA X es σ H Q)
    (q : ∀ p b, H b = none → upd H b (.lst vs) p = none → Z.nx (σ.set i (some (.ref p))) (upd (upd H b (.lst vs)) p (.lst (ws ++ vs)))) : WSt X (.Assign [.Name x p1] (.BinOp (.Name x p2) .Add (.List es p3) p4) p5) Z σ H := by
  refine PS.ws (ps_set hN hi hx (pe_op op_cat (pe_var hi (Loc.vis hx) hd hcd) (pe_lst (pa_WA X es))) rfl (.inl hf)) ?_
  refine ⟨.ref l, hs, he ⟨sz_small (by omega), fun b nb => ⟨l, b, ws, vs, rfl, rfl, ?_, upd_same, sz_small hl, fun p np => q p b nb np⟩⟩⟩
  rw [upd_ne (ne_of_none hH nb)]
  exact hH

theorem sum_one : ∀ c, c < 13 → (([0, 1, 2, 3, 4, 5, 6, 7, 8, 9, 10, 11, 12].map fun j => decide (j = c)).map fun b => if b = true then (1 : Int) else 0).sum = 1 := by decide +kernel
theorem at_flag : ∀ c, c < 13 → ([0, 1, 2, 3, 4, 5, 6, 7, 8, 9, 10, 11, 12].map fun j => V.bl (decide (j = c)))[c]? = some (V.bl true) := by
  intro c h
  have : ∀ c, c < 13 → ([0, 1, 2, 3, 4, 5, 6, 7, 8, 9, 10, 11, 12].map fun j => decide (j = c))[c]? = some true := by decide +kernel
  have q := this c h
  rw [List.getElem?_map] at q ⊢
  obtain ⟨j, hj, e⟩ := Option.map_eq_some_iff.mp q
  rw [hj]
  simp only [Option.map_some]
  rw [e]
theorem ahead_flag {c : Nat} (h : c < 13) {k : Nat} {z : V} (hk : k < c) (e : ([0, 1, 2, 3, 4, 5, 6, 7, 8, 9, 10, 11, 12].map fun j => V.bl (decide (j = c)))[k]? = some z) : eqV z (.bl true) = false := by
  have : ∀ c, c < 13 → ∀ k, k < c → ([0, 1, 2, 3, 4, 5, 6, 7, 8, 9, 10, 11, 12].map fun j => decide (j = c))[k]? = some false := by decide +kernel
  have q := this c h k hk
  rw [List.getElem?_map] at q e
  obtain ⟨j, hj, e1⟩ := Option.map_eq_some_iff.mp q
  rw [hj] at e
  cases e
  show eqV (V.bl (decide (j = c))) (.bl true) = false
  rw [e1]
  rfl
theorem term_body (T : TermX X a oe D cl c) {b : List Stmt} (hb : mTerm b = true) {Q : VK} {Z : Hp → Prop} (q : ∀ H' p, (∀ b o, H b = some o → H' b = some o) → H p = none → H' p = some (.tup [.str "refused", .str (exN c)]) → Q (.ref p) H') :
    WSs X b { nx := fun _ H' => Z H', rt := Q } [some (.ref a), none, none] H := by
  have hN : X.N.Nodup := by rw [T.N]; decide
  have h1 : X.N[1]? = some ("flags" : Str) := by rw [T.N]; rfl
  have h2 : X.N[2]? = some ("kinds" : Str) := by rw [T.N]; rfl
  unfold mTerm at hb
  split at hb
  case h_2 => cases hb
  simp only [Bool.and_eq_true, decide_eq_true_eq] at hb
  obtain ⟨rfl, rfl, rfl, rfl, rfl, rfl, rfl, rfl, rfl, rfl, rfl, rfl, rfl, he1, he2, he3, he4, hl1, hl2, rfl, rfl, rfl, rfl, rfl, hiv, hsc, rfl, rfl, hln⟩ := hb
  refine PSs.ws (pss_cons (ps_WS X _) (pss_WS X _)) ?_
  refine w_asgL hN h1 T.lf (T.fn _) (by simp) (fun {Q} z => w_iss T (by rfl) _ _ he1 (by decide) z) fun p1 n1 => ?_
  have x1 := ext_upd (H := H) (o := .lst ([0, 1, 2, 3].map fun j => V.bl (decide (j = c)))) (fun _ _ z => z) n1
  refine PSs.ws (pss_cons (ps_WS X _) (pss_WS X _)) ?_
  refine w_asgC hN h1 T.lf (T.fn _) (by decide) (by decide) (by simp) (l := p1) (by rfl) upd_same (fun {Q} z => w_iss T (by rfl) _ _ he2 (by decide) z) fun p2 b2 nb2 n2 => ?_
  have x2 := ext_upd (o := .lst (([0, 1, 2, 3].map fun j => V.bl (decide (j = c))) ++ ([4, 5, 6].map fun j => V.bl (decide (j = c))))) (ext_upd (o := .lst ([4, 5, 6].map fun j => V.bl (decide (j = c)))) x1 nb2) n2
  generalize hH2 : upd (upd (upd H p1 (.lst ([0, 1, 2, 3].map fun j => V.bl (decide (j = c))))) b2 (.lst ([4, 5, 6].map fun j => V.bl (decide (j = c))))) p2 (.lst (([0, 1, 2, 3].map fun j => V.bl (decide (j = c))) ++ ([4, 5, 6].map fun j => V.bl (decide (j = c))))) = H2 at x2
  have g2 : H2 p2 = some (.lst (([0, 1, 2, 3].map fun j => V.bl (decide (j = c))) ++ ([4, 5, 6].map fun j => V.bl (decide (j = c))))) := by rw [← hH2]; exact upd_same
  clear hH2 x1 nb2 n2
  refine PSs.ws (pss_cons (ps_WS X _) (pss_WS X _)) ?_
  refine w_asgC hN h1 T.lf (T.fn _) (by decide) (by decide) (by simp) (l := p2) (by rfl) g2 (fun {Q} z => w_iss T (by rfl) _ _ he3 (by decide) z) fun p3 b3 nb3 n3 => ?_
  have x3 := ext_upd (o := .lst ((([0, 1, 2, 3].map fun j => V.bl (decide (j = c))) ++ ([4, 5, 6].map fun j => V.bl (decide (j = c)))) ++ ([7, 8, 9].map fun j => V.bl (decide (j = c))))) (ext_upd (o := .lst ([7, 8, 9].map fun j => V.bl (decide (j = c)))) x2 nb3) n3
  generalize hH3 : upd (upd H2 b3 (.lst ([7, 8, 9].map fun j => V.bl (decide (j = c))))) p3 (.lst ((([0, 1, 2, 3].map fun j => V.bl (decide (j = c))) ++ ([4, 5, 6].map fun j => V.bl (decide (j = c)))) ++ ([7, 8, 9].map fun j => V.bl (decide (j = c))))) = H3 at x3
  have g3 : H3 p3 = some (.lst ((([0, 1, 2, 3].map fun j => V.bl (decide (j = c))) ++ ([4, 5, 6].map fun j => V.bl (decide (j = c)))) ++ ([7, 8, 9].map fun j => V.bl (decide (j = c))))) := by rw [← hH3]; exact upd_same
  clear hH3 nb3 n3 x2 g2
  refine PSs.ws (pss_cons (ps_WS X _) (pss_WS X _)) ?_
  refine w_asgC hN h1 T.lf (T.fn _) (by decide) (by decide) (by simp) (l := p3) (by rfl) g3 (fun {Q} z => w_iss T (by rfl) _ _ he4 (by decide) z) fun p4 b4 nb4 n4 => ?_
  have x4 := ext_upd (o := .lst (((([0, 1, 2, 3].map fun j => V.bl (decide (j = c))) ++ ([4, 5, 6].map fun j => V.bl (decide (j = c)))) ++ ([7, 8, 9].map fun j => V.bl (decide (j = c)))) ++ ([10, 11, 12].map fun j => V.bl (decide (j = c))))) (ext_upd (o := .lst ([10, 11, 12].map fun j => V.bl (decide (j = c)))) x3 nb4) n4
  generalize hH4 : upd (upd H3 b4 (.lst ([10, 11, 12].map fun j => V.bl (decide (j = c))))) p4 (.lst (((([0, 1, 2, 3].map fun j => V.bl (decide (j = c))) ++ ([4, 5, 6].map fun j => V.bl (decide (j = c)))) ++ ([7, 8, 9].map fun j => V.bl (decide (j = c)))) ++ ([10, 11, 12].map fun j => V.bl (decide (j = c))))) = H4 at x4
  have g4 : H4 p4 = some (.lst ([0, 1, 2, 3, 4, 5, 6, 7, 8, 9, 10, 11, 12].map fun j => V.bl (decide (j = c)))) := by rw [← hH4]; exact upd_same
  clear hH4 nb4 n4 x3 g3
  refine PSs.ws (pss_cons (ps_WS X _) (pss_WS X _)) ?_
  refine w_asgL hN h2 T.lk (T.fn _) (by simp) (fun {Q} z => w_strs _ _ hl1 z) fun p5 n5 => ?_
  have x5 := ext_upd (o := .lst ([0, 1, 2, 3, 4, 5, 6, 7].map fun j => V.str (exN j))) x4 n5
  have g5 : upd H4 p5 (.lst ([0, 1, 2, 3, 4, 5, 6, 7].map fun j => V.str (exN j))) p4 = some (.lst ([0, 1, 2, 3, 4, 5, 6, 7, 8, 9, 10, 11, 12].map fun j => V.bl (decide (j = c)))) := by rw [upd_ne (ne_of_none g4 n5)]; exact g4
  refine PSs.ws (pss_cons (ps_WS X _) (pss_WS X _)) ?_
  refine w_asgC hN h2 T.lk (T.fn _) (by decide) (by decide) (by simp) (l := p5) (by rfl) upd_same (fun {Q} z => w_strs _ _ hl2 z) fun p6 b6 nb6 n6 => ?_
  have x6 := ext_upd (o := .lst (([0, 1, 2, 3, 4, 5, 6, 7].map fun j => V.str (exN j)) ++ ([8, 9, 10, 11, 12].map fun j => V.str (exN j)))) (ext_upd (o := .lst ([8, 9, 10, 11, 12].map fun j => V.str (exN j))) x5 nb6) n6
  generalize hH6 : upd (upd (upd H4 p5 (.lst ([0, 1, 2, 3, 4, 5, 6, 7].map fun j => V.str (exN j)))) b6 (.lst ([8, 9, 10, 11, 12].map fun j => V.str (exN j)))) p6 (.lst (([0, 1, 2, 3, 4, 5, 6, 7].map fun j => V.str (exN j)) ++ ([8, 9, 10, 11, 12].map fun j => V.str (exN j)))) = H6 at x6
  have g6 : H6 p4 = some (.lst ([0, 1, 2, 3, 4, 5, 6, 7, 8, 9, 10, 11, 12].map fun j => V.bl (decide (j = c)))) := by
    rw [← hH6, upd_ne (ne_of_none (show upd (upd H4 p5 _) b6 _ p4 = some _ by rw [upd_ne (ne_of_none g5 nb6)]; exact g5) n6), upd_ne (ne_of_none g5 nb6)]
    exact g5
  have k6 : H6 p6 = some (.lst ([0, 1, 2, 3, 4, 5, 6, 7, 8, 9, 10, 11, 12].map fun j => V.str (exN j))) := by rw [← hH6]; exact upd_same
  clear hH6 nb6 n6 x5 g5 n5 g4 x4
  refine PSs.ws (pss_cons (ps_WS X _) (pss_WS X _)) ?_
  unfold flagSc at hsc
  simp only [Bool.and_eq_true, decide_eq_true_eq] at hsc
  refine PS.ws (ps_if (pw_or (pt_cmp (pc_neI (pe_callB (cr_sumH T.hot) T.gs T.fs boot_sum (pa_cons (pe_flagsH T.hot h1 (Loc.vis T.lf) T.ft (fnK_ok hsc.1) hsc.2) pa_nil)) pe_int)) (pw_or1 (pt_not (pt_val (pe_WE X _) ?_)))).pt (pss_WS X _) pss_nil) ?_
  · obtain ⟨q1, q2, q3, q4, rfl⟩ := isE_form hiv
    intro _; rfl
  refine ⟨p4, [0, 1, 2, 3, 4, 5, 6, 7, 8, 9, 10, 11, 12].map fun j => decide (j = c), rfl, .inl (.inl ?_), fun D7 n7 => ?_⟩
  · rw [g6, List.map_map]; rfl
  have x7 := ext_upd (o := .lst (([0, 1, 2, 3, 4, 5, 6, 7, 8, 9, 10, 11, 12].map fun j => decide (j = c)).map fun b => V.int (if b = true then 1 else 0))) x6 n7
  have g7 : upd H6 D7 (.lst (([0, 1, 2, 3, 4, 5, 6, 7, 8, 9, 10, 11, 12].map fun j => decide (j = c)).map fun b => V.int (if b = true then 1 else 0))) p4 = some (.lst ([0, 1, 2, 3, 4, 5, 6, 7, 8, 9, 10, 11, 12].map fun j => V.bl (decide (j = c)))) := by rw [upd_ne (ne_of_none g6 n7)]; exact g6
  have k7 : upd H6 D7 (.lst (([0, 1, 2, 3, 4, 5, 6, 7, 8, 9, 10, 11, 12].map fun j => decide (j = c)).map fun b => V.int (if b = true then 1 else 0))) p6 = some (.lst ([0, 1, 2, 3, 4, 5, 6, 7, 8, 9, 10, 11, 12].map fun j => V.str (exN j))) := by rw [upd_ne (ne_of_none k6 n7)]; exact k6
  have s7 : upd H6 D7 (.lst (([0, 1, 2, 3, 4, 5, 6, 7, 8, 9, 10, 11, 12].map fun j => decide (j = c)).map fun b => V.int (if b = true then 1 else 0))) D7 = some (.lst (([0, 1, 2, 3, 4, 5, 6, 7, 8, 9, 10, 11, 12].map fun j => decide (j = c)).map fun b => V.int (if b = true then 1 else 0))) := upd_same
  generalize upd H6 D7 (.lst (([0, 1, 2, 3, 4, 5, 6, 7, 8, 9, 10, 11, 12].map fun j => decide (j = c)).map fun b => V.int (if b = true then 1 else 0))) = H7 at x7 g7 k7 s7
  clear g6 k6 n7 x6
  refine ⟨D7, ([0, 1, 2, 3, 4, 5, 6, 7, 8, 9, 10, 11, 12].map fun j => decide (j = c)).map fun b => if b = true then (1 : Int) else 0, rfl, .inl (.inl ?_), ?_⟩
  · rw [s7]; simp only [List.map_map]; rfl
  rw [sum_one c T.c13]
  refine ⟨1, 1, rfl, rfl, _, rfl, ?_⟩
  simp only [decide_true, Bool.not_true, Bool.false_eq_true, if_false]
  refine w_isv T hiv (by rfl) ⟨true, rfl, ?_⟩
  simp only [Bool.not_true, Bool.false_eq_true, if_false]
  refine PSs.ws (pss_one (ps_ret (pe_tup (pa_cons pe_str (pa_cons (pe_ix ix_seq (pe_var h2 (Loc.vis T.lk) (by decide) (by decide)) (pe_bm PySem.F.plainAttrs_list PySem.F.slot_list_index PySem.F.type_list_index mt_index (pe_var h1 (Loc.vis T.lf) (by decide) (by decide)) (pa_cons pe_bl pa_nil) (base_of rfl) rfl hln rfl rfl) (plainIx_of rfl)) pa_nil))))) ?_
  refine ⟨.ref p6, rfl, .ref p4, rfl, ?_, p4, _, .bl true, c, .bl true, rfl, rfl, .inl (.inl g7), rfl, ?_, at_flag c T.c13, rfl, fun k z hk e => ahead_flag T.c13 hk e, .inl ⟨p6, _, (c : Int), .str (exN c), rfl, rfl, .inl (.inl k7), ?_, sz_small (by simp), fun p np => ?_⟩⟩
  · exact .inl ⟨rfl, _, .inl (.inl g7)⟩
  · simp [flatV]
  · have : ∀ c, c < 13 → [0, 1, 2, 3, 4, 5, 6, 7, 8, 9, 10, 11, 12][c]? = some c := by decide +kernel
    refine atI_nat ?_
    rw [List.getElem?_map, this c T.c13]
    rfl
  · exact q _ p (ext_upd x7 np) (by
      cases z : H p with
      | none => rfl
      | some u => rw [x7 p u z] at np; cases np) upd_same
end
end Mn
set_option maxHeartbeats 4000000
namespace Mn
open PySem PySem.Spec PyProof.Rows L2 HotX L2H
section
variable {P : Program} {w : World} {K : PySem.W.Frag} {mg : Str → Option Value} {base : Heap} {cl : Nat → Addr} {ce f : Addr} {fd : FuncData} {params : Arguments} {body : List Stmt} {scope : Scope}
/-- what is wanted behind _law_term(e) -/
def TQ (c : Nat) (H : Hp) (Q : VK) : Prop := ∀ H' p, (∀ b o, H b = some o → H' b = some o) → H p = none → H' p = some (.tup [.str "refused", .str (exN c)]) → Q (.ref p) H'
theorem term_run (C : ClsF K mg cl ce) (D0 : TermD K mg f fd params body scope) {A : Around} {outer : List Env} {s : Shared} {H : Hp} {Q : VK} {p : Addr × Obj} {c : Nat} {args : Args} (hr : RoomH 1 A) (hot : Hot1 A p) (hpin : PinOk outer H s p) (e0 : Env0 P w K mg base A outer s H)
    (hb : BindsTo s fd args ([("e" : Str)].zip [.ref p.1])) (hc : c < 13) (hz : L2N.Zn (.ref (cl c)) none p.2) (hq : TQ c H Q) :
    codeAny (model P w) A (.call (.ref f) args) (CR C8.CX0 outer P w H s Q C8.E0) s := by
  obtain ⟨oc, od, dV, kV, doc, pm, an, cdv, ct, osl, rfl, lk, hcd, _, _⟩ := D0.fn.ex
  have S := D0.sc
  have ts := D0.ts
  unfold termSc glB2 at ts
  simp only [Bool.and_eq_true, decide_eq_true_eq, List.all_eq_true, List.mem_range] at ts
  obtain ⟨t1, t2, t3, t4, t5, t6, t7⟩ := ts
  have KX : K.In s.heap := e0.mod.kin.keeps fun b o e => (e0.bs b o e).1
  have lim : s.heap.NoLimit := e0.mod.nolimit.keeps fun b o e => (e0.bs b o e).1
  have hkind : ∀ y ∈ [("e" : Str)].zip [Value.ref p.1], scope.names.lookup y.1 = some .local ∨ (scope.names.lookup y.1 = some .cell ∧ ((cellsFrom (s.heap.objs.size + 1) scope.names []).lookup y.1).isSome = true) := fun ⟨n, v⟩ hy => by
    rcases S.par n (List.of_mem_zip hy).1 with q | q
    · exact .inl q
    · exact .inr ⟨q, PySem.W.cellsFrom_some _ _ _ (.inl q)⟩
  refine codeAny_call_function hr.depth (KX _ _ lk) rfl S.co S.gen rfl (PySem.W.codeRec_of KX hcd) (hb _ _ _ _ ?_)
  refine wpAny_newFunctionEnv_cells S.kind hkind fun env he s1 x => ?_
  subst he
  refine ⟨lim.keeps x.toInCall.keep, codeAny_func ?_⟩
  generalize hX : cxH C8.CX0 P w K mg base [("e" : Str), "flags", "kinds"] "_law_term" scope f cdv A outer s H C8.E0 p = X
  have I : Inv X [] (L2.start [("e" : Str), "flags", "kinds"] [.ref p.1]) H s1 := by
    subst hX
    exact inv_startH S hpin e0 rfl (.cons rfl .nil) x
  have T : TermX X p.1 p.2 (cl c) cl c := by
    subst hX
    refine ⟨⟨p, hot, List.mem_singleton.mpr rfl⟩, List.mem_singleton.mpr rfl, hz.zc, ?_, C.ec c hc, hc, fun j hj => C.kit c hc j hj, C.ve c hc, C.gl, C.fi, C.fs, C.ft, C.fv, rfl, fun _ => rfl, .inl t1, .inl t2, .inl t3, fun j hj => t4 j hj, t5, t6, t7⟩
    obtain ⟨_, vs, e, _⟩ := hot
    exact ⟨vs, e⟩
  have hw := term_body (Z := fun H' => Q .non H') T D0.mt hq
  have hst : L2.start [("e" : Str), "flags", "kinds"] [V.ref p.1] = [some (.ref p.1), none, none] := rfl
  rw [hst] at I
  have run := hw [] s1 I
  have eA : X.A = A.deeper (envOfC "_law_term" scope s.heap.objs.size f cdv) := by subst hX; rfl
  have eE : X.env = envOfC "_law_term" scope s.heap.objs.size f cdv := by subst hX; rfl
  have eP : X.prog = P := by subst hX; rfl
  have ew : X.w = w := by subst hX; rfl
  rw [eA, eE, eP, ew] at run
  refine wpAny_mono run (fun fl s' hs => ?_) fun e s' hs => ?_
  · have fin : ∀ {σ' : L2.St} {H' : Hp} {v : V} {u : Value}, Inv X [] σ' H' s' → RelV v u → Q v H' → CE outer P w H s Q u s' := by
      subst hX
      exact fun {σ' H' v u} J rv q => ⟨v, H', J.os, J.bare, J.base, J.hok, rv, q⟩
    cases fl with
    | ret u =>
      obtain ⟨v, σ', H', J, rv, q⟩ := hs
      exact fin J rv q
    | next =>
      obtain ⟨σ', H', J, q⟩ := hs
      exact fin (v := V.non) (u := Value.none) J rfl q
    | brk =>
      obtain ⟨_, _, _, q⟩ := hs
      exact False.elim q
    | cont =>
      obtain ⟨_, _, _, q⟩ := hs
      exact False.elim q
  · subst hX
    exact hs
end
section
variable {X : Cx} {cl : Nat → Addr} {ce f : Addr} {fd : FuncData} {params : Arguments} {body : List Stmt} {scope : Scope} {σ : L2.St} {H : Hp}
/-- _law_term(e), e the exception in hand -/
theorem w_term (C : ClsF X.K X.mg cl ce) (D0 : TermD X.K X.mg f fd params body scope) {i : Nat} {x : Str} {p1 p2 p3 : Pos} {Q : VK} {p : Addr × Obj} {c : Nat} (hN : X.N[i]? = some x) (hv : Vis X.env.scope x) (hd : (x == ("__debug__" : Str)) = false) (hcd : (x == ("__classdict__" : Str)) = false)
    (hg : Gl X "_law_term") (hr : RoomH 1 X.A) (hot : Hot1 X.A p) (hp : p ∈ X.pn) (hc : c < 13) (hz : L2N.Zn (.ref (cl c)) none p.2) (h0 : σ[i]? = some (some (.ref p.1))) (q : TQ c H Q) : WE X (.Call (.Name "_law_term" p1) [.Name x p2] [] p3) σ H Q := by
  intro pins s I
  refine wpAny_Call_Name_kw (ld_glob I hg D0.gl ?_ (by decide))
  have ha : PA X [.Name x p2] (tCons (tVar i) tNil) := pa_cons (pe_var hN hv hd hcd) pa_nil
  refine PySem.W.callWith_K (h₀ := X.base) I.ok.mod.kin D0.fn.kp (thn (ha.run p3 pins s σ H (fun vs H1 => vs = [V.ref p.1] ∧ H1 = H) I ⟨.ref p.1, h0, rfl, rfl⟩) fun us s1 ⟨vs, H1, I1, r, ev, eH⟩ => ⟨I1.kIn, ?_⟩) rfl rfl
  subst ev
  rw [eH] at I1
  rw [Vals.ref1 r]
  have P1 := I1.pin p (List.mem_append_left _ hp)
  have hpin : PinOk X.stack H s1 p := ⟨P1.1, P1.2.1, fun hm => (List.mem_cons.mp (I1.stkSub p.1 hm)).elim P1.2.2.1 P1.2.2.2.1, P1.2.2.2.2⟩
  have b := D0.bd s1 [.ref p.1] I1.kIn rfl
  refine wpAny_call (codeAny_mono (term_run C D0 hr hot hpin I1.env0 b hc hz q) fun r s' hq => ?_)
  cases r with
  | error e => exact (show False from hq).elim
  | ok fl =>
    cases fl with
    | ret u => exact I1.after hq
    | next => exact False.elim hq
    | brk => exact False.elim hq
    | cont => exact False.elim hq
end
end Mn
set_option maxHeartbeats 4000000
namespace Mn
open PySem PySem.Spec PyProof.Rows L2 HotX L2H LamX
/-! ## _law_told(lambda: ..) -/
/-- how the making of a lambda leaves the heap: its code object was there, or it is new and noted in the table at P -/
def LamH (H H1 : Hp) (P : Addr) (q : Str) : Prop := H1 = H ∨ ∃ (ps more : Array Value) (c : Addr), H P = some (.tbl ps) ∧ H c = none ∧ H1 = upd (upd H P (.tbl (ps ++ more))) c (CodeO c q) ∧
  ∀ (pos : Pos) (cv : Value), codeAmong pos (ps ++ more).toList = some cv → codeAmong pos ps.toList = some cv ∨ cv = .ref c
section
variable {X : Cx} {pins : List (Addr × Obj)} {σ : L2.St} {H : Hp} {s : Shared}
theorem lam_make3 {T : List (Addr × Str)} {c P : Addr} {params : Arguments} {body : Expr} {scope : Scope} {pos : Pos} {E : Value → Shared → Prop} {Q : Value → Shared → Prop} (I : Inv X pins σ H s) (TB : TabB X.base X.mg c P) (hcode : X.env.code = .ref c)
    (hm : (P, X.env.qual ++ "<lambda>") ∈ T) (hu : ∀ p ∈ T, p.1 = P → p.2 = X.env.qual ++ "<lambda>") (hT : Tabs T H) (hdef : defaultsOf params X.env = ([], [])) (hfree : ∀ y ∈ scope.names, y.2 = .free → ∃ c, X.env.cells.lookup y.1 = some c)
    (h : ∀ (f c' : Addr) (pm ctv : Value) (H1 : Hp) (s' : Shared), Inv X pins σ H1 s' → LamH H H1 P (X.env.qual ++ "<lambda>") → Tabs T H1 →
      s'.heap.get? f = some (PySem.W.kla_obj "<lambda>" (X.env.qual ++ "<lambda>") params body scope (cloFrom X.env.cells scope.names []) pm c' ctv) → H1 f = none → f ∉ frs X.stack → H1 c' = some (CodeO c' (X.env.qual ++ "<lambda>")) → Q (.ref f) s') :
    wpAny (model X.prog X.w) X.A (eval (.Lambda params body scope pos) X.env) Q E s := by
  obtain ⟨ps, hP, ht, ha⟩ := hT _ hm
  refine PySem.W.kla_eval hdef ?_
  have bP : s.heap.BuiltinsAt X.mg P := TB.bm.keeps I.bk
  have hP' : s.heap.get? P = some { cls := .none, data := .fields ps } := I.hok P _ hP
  have nofr : ∀ f, s.heap.objs.size ≤ f → f ∉ frs X.stack := fun f hf z => by
    rcases List.mem_cons.mp (I.stkSub _ z) with e | e
    · have h1 := I.lt
      rw [← e] at h1
      exact Nat.lt_irrefl _ (Nat.lt_of_lt_of_le h1 hf)
    · exact I.nofs hf e
  cases hc : codeAmong pos ps.toList with
  | none =>
    refine PySem.W.kla_makeFunction (mg := X.mg) (c := c) (P := P) (ps := ps) (closure_ok hfree) I.ok.glob (I.mod.glob.keeps I.bk) hcode (TB.code.keeps I.bk) hP' ht hc TB.gP bP fun c' ctv h' tk hx hge hlt hrec htb => ?_
    obtain ⟨c2, oc, vs, t, e2, hoc, hd, hv⟩ := hrec
    cases e2
    have hsz : s.heap.objs.size ≤ h'.objs.size := Nat.le_trans hge (Nat.le_of_lt hlt)
    have nC : H c' = none := I.hok.fresh hge
    have I1 := inv_table (t' := tk) (more := #[rawInt pos.line, rawInt pos.col, .ref c']) (h' := h'.push (PySem.W.kla_obj "<lambda>" (X.env.qual ++ "<lambda>") params body scope (cloFrom X.env.cells scope.names []) ((X.mg "__name__").getD .none) c' ctv)) I hP
      (fun b o hb e => Heap.get?_push_of_some _ (hx b o hb e)) (Heap.get?_push_of_some _ htb) hge ⟨oc, vs, t, Heap.get?_push_of_some _ hoc, hd, hv⟩
    have hE : ExtN H (upd (upd H P (.tbl (ps ++ #[rawInt pos.line, rawInt pos.col, .ref c']))) c' (CodeO c' (X.env.qual ++ "<lambda>"))) := fun b o e n => by
      rw [upd_ne (ne_of_none e nC), upd_ne (fun z => n ps (Option.some.inj (e.symm.trans (by rw [z]; exact hP))))]
      exact e
    have eL : (ps ++ #[rawInt pos.line, rawInt pos.col, .ref c']).toList = ps.toList ++ [rawInt pos.line, rawInt pos.col, .ref c'] := by simp
    refine h h'.objs.size c' ((X.mg "__name__").getD .none) ctv _ _ I1 (.inr ⟨ps, _, c', hP, nC, rfl, fun pos' cv hcv => ?_⟩) (fun p hp => ?_) (Heap.get?_push_size _ rfl) ?_ (nofr _ hsz) upd_same
    · rw [eL] at hcv
      exact among_app _ ht hcv
    · by_cases hb : p.1 = P
      · rw [hu p hp hb, hb]
        refine ⟨_, by rw [upd_ne (ne_of_none hP nC), upd_same], by rw [eL]; exact PySem.TriplesOk_snoc _ _ _ _ ht, fun p' cv hcv => ?_⟩
        rw [eL] at hcv
        rcases among_app _ ht hcv with z | z
        · obtain ⟨c0, e1, e2⟩ := ha p' cv z
          exact ⟨c0, e1, hE _ _ e2 codeO_ne⟩
        · exact ⟨c', z, upd_same⟩
      · obtain ⟨ps', a1, a2, a3⟩ := hT p hp
        refine ⟨ps', by rw [upd_ne (ne_of_none a1 nC), upd_ne hb]; exact a1, a2, fun p' cv hcv => ?_⟩
        obtain ⟨c0, e1, e2⟩ := a3 p' cv hcv
        exact ⟨c0, e1, hE _ _ e2 codeO_ne⟩
    · have n1 : h'.objs.size ≠ c' := Nat.ne_of_gt hlt
      have n2 : h'.objs.size ≠ P := Nat.ne_of_gt (Nat.lt_of_lt_of_le (Heap.lt_size hP') hsz)
      rw [upd_ne n1, upd_ne n2]
      exact I.hok.fresh hsz
  | some cv =>
    obtain ⟨c', e, hco⟩ := ha pos cv hc
    subst e
    refine PySem.W.kla_makeFunctionHit (mg := X.mg) (c := c) (P := P) (ps := ps) (closure_ok hfree) I.ok.glob (I.mod.glob.keeps I.bk) hcode (TB.code.keeps I.bk) hP' ht hc bP fun ctv h' tk hx hsz => ?_
    have I1 : Inv X pins σ H { s with heap := h'.push (PySem.W.kla_obj "<lambda>" (X.env.qual ++ "<lambda>") params body scope (cloFrom X.env.cells scope.names []) ((X.mg "__name__").getD .none) c' ctv), toks := tk } := I.kept fun b o e => Heap.get?_push_of_some _ (hx b o e)
    exact h h'.objs.size c' ((X.mg "__name__").getD .none) ctv H _ I1 (.inl rfl) hT (Heap.get?_push_size _ rfl) (I.hok.fresh hsz) (nofr _ hsz) hco
end
/-- the lambda's context: what it lets out bears no context -/
def lamN (X : Cx) (A : Around) (outer : List Env) (s : Shared) (H : Hp) (E : XK) (scope : Scope) (f c' : Addr) : Cx :=
  (lamCx X A outer s H E scope f c').tr [] (fun e s' => wpAny (model X.prog X.w) (A.deeper (lamEnv X scope s.heap.objs.size f c')) (leaving (lamEnv X scope s.heap.objs.size f c') e) (fun _ s'' => L2N.CX X.prog X.w outer H s E e s'') (fun e' s'' => L2N.CX X.prog X.w outer H s E e' s'') s')
section
variable {X : Cx} {pins : List (Addr × Obj)} {σ : L2.St} {H : Hp} {s : Shared}
theorem w_act {Ng : List Str} {qg : Str} {sg : Scope} {g f c' : Addr} {cdg pm ctv : Value} {params : Arguments} {body : Expr} {scope : Scope} {k i : Nat} {a : Str} {pn : List (Addr × Obj)} {xe : Value → Shared → Prop} {W : WX} {E : XK} {p1 p2 : Pos}
    (I : Inv X pins σ H s) (L : LamS X.env.scope scope) (hf : s.heap.get? f = some (PySem.W.kla_obj "<lambda>" (X.env.qual ++ "<lambda>") params body scope (cloFrom X.env.cells scope.names []) pm c' ctv)) (hfn : H f = none) (hfr : f ∉ frs X.stack)
    (hbind : bindArgs (PySem.W.kla_fn "<lambda>" (X.env.qual ++ "<lambda>") params body scope (cloFrom X.env.cells scope.names []) pm (.ref c') ctv) ⟨[], []⟩ = pure [])
    (tk : L2N.Takes ((cxOf C8.CX0 X.prog X.w X.K X.mg X.base Ng qg sg g cdg X.A X.stack s H C8.E0).tr pn xe) W) (hW : ∀ cls d σ' H', E cls d H' → W cls d σ' H') (hr : Room (k + 1) (X.A.deeper (envOfC qg sg s.heap.objs.size g cdg)))
    (hN : Ng[i]? = some a) (hv : Vis sg a) (hd : (a == ("__debug__" : Str)) = false) (hcd : (a == ("__classdict__" : Str)) = false) {σZ : L2.St} {HZ : Hp} {Q : VK} (hs : σZ[i]? = some (some (.ref f))) (hc : HZ c' = some (CodeO c' (X.env.qual ++ "<lambda>")))
    (ht : ∀ (A : Around) (outer : List Env) (s : Shared), Room k (A.deeper (lamEnv X scope s.heap.objs.size f c')) → WE (lamN X A outer s HZ E scope f c') body σ HZ Q) :
    WE ((cxOf C8.CX0 X.prog X.w X.K X.mg X.base Ng qg sg g cdg X.A X.stack s H C8.E0).tr pn xe) (.Call (.Name a p1) [] [] p2) σZ HZ Q := by
  intro pinsZ sZ IZ
  refine wpAny_Call_Name_kw (thn ((pe_var (pos := p1) (i := i) hN hv hd hcd).run pinsZ sZ σZ HZ (fun v H1 => v = .ref f ∧ H1 = HZ) IZ ⟨.ref f, hs, rfl, rfl⟩) fun u s1 ⟨v, H1, I1, r1, q1⟩ => ?_)
  obtain ⟨ev, eH⟩ := q1
  subst ev
  rw [eH] at I1
  obtain rfl : u = Value.ref f := r1
  have of1 : s1.heap.get? f = some (PySem.W.kla_obj "<lambda>" (X.env.qual ++ "<lambda>") params body scope (cloFrom X.env.cells scope.names []) pm c' ctv) := I1.base.keep f _ hf hfn hfr (fun z => nomatch (show f ∈ ([] : List Addr) from z))
  refine PySem.W.callWith_F0 ⟨_, _, _, _, of1⟩ ?_
  have un : Un (frs X.stack) [] H HZ s.heap s1.heap := I1.base
  obtain ⟨⟨oc, vs, t, hoc, hdc, hvc⟩, _, _⟩ := I1.hok c' _ hc
  have rc : codeAny (model X.prog X.w) (X.A.deeper (envOfC qg sg s.heap.objs.size g cdg)) (.call (.ref f) ⟨[], []⟩) (CR (L2N.CX X.prog X.w) (envOfC qg sg s.heap.objs.size g cdg :: X.stack) X.prog X.w HZ s1 Q E) s1 := by
    refine PySem.W.kla_callFunE hr.depth of1 rfl L.co L.gen rfl ⟨c', oc, vs, t, rfl, hoc, hdc, hvc⟩ ?_
    rw [hbind]
    refine wpAny_pure (wpAny_newFunctionEnv (fun y hy => (L.own y hy).2) (fun y hy => absurd hy (by simp)) (fun h₁ hns hsb => ⟨I1.nolimit.fresh _ hsb, ?_⟩) L.kind)
    show codeAny _ _ (.expr body (lamEnv X scope s1.heap.objs.size f c')) _ _
    have kp : ∀ b o, s1.heap.get? b = some o → h₁.get? b = some o := fun b o e => hsb.extBut b o (Nat.ne_of_lt (Heap.lt_size e)) (Heap.get?_push_of_some _ e)
    have J0 : Inv (lamCx X (X.A.deeper (envOfC qg sg s.heap.objs.size g cdg)) (envOfC qg sg s.heap.objs.size g cdg :: X.stack) s1 HZ E scope f c') [] σ HZ { s1 with heap := h₁, toks := s1.toks + ([] : List (Str × Value)).length } :=
      lam_start2 I L I1.env0 hr.hd un hns kp
    have J : Inv (lamN X (X.A.deeper (envOfC qg sg s.heap.objs.size g cdg)) (envOfC qg sg s.heap.objs.size g cdg :: X.stack) s1 HZ E scope f c') [] σ HZ { s1 with heap := h₁, toks := s1.toks + ([] : List (Str × Value)).length } := J0.toTry _
    refine PySem.W.kla_codeExpr (wpAny_mono (ht _ _ s1 (hr.deeper _) [] _ J) (fun v s' hq => ?_) fun e s' hq => hq)
    obtain ⟨w', H', J', rv, q⟩ := hq
    exact ⟨w', H', J'.os, J'.bare, J'.base, J'.hok, rv, q⟩
  have hx : Passes (L2N.CX X.prog X.w) ((cxOf C8.CX0 X.prog X.w X.K X.mg X.base Ng qg sg g cdg X.A X.stack s H C8.E0).tr pn xe) E := L2N.passes_call tk hW
  refine wpAny_call (codeAny_mono rc fun r s' hq => ?_)
  cases r with
  | error e => exact hx pinsZ σZ HZ s1 e s' I1 hq
  | ok fl =>
    cases fl with
    | ret u => exact I1.after hq
    | next => exact False.elim hq
    | brk => exact False.elim hq
    | cont => exact False.elim hq
end
end Mn
set_option maxHeartbeats 4000000
namespace Mn
open PySem PySem.Spec PyProof.Rows L2 HotX L2H LamX
/-- the refusal is told -/
def EX (cl : Nat → Addr) (Q : VK) : XK := fun cls d H' => ∃ c, c < 13 ∧ cls = .ref (cl c) ∧ d = none ∧ TQ c H' Q
theorem takesN0 {X : Cx} : L2N.Takes X (fun _ _ _ _ => False) := fun _ _ x => by
  obtain ⟨_, _, _, _, _, _, _, _, _, _, _, _, _, _, _, _, z⟩ := x
  exact z.elim
def toldTb (X : Cx) (scope : Scope) (body : Expr) (σ : L2.St) (k : Nat) (f c' : Addr) (W : WX) : TS := fun D σ0 H0 => ∃ Ech : XK, (∀ cls d σ' H', Ech cls d H' → W cls d σ' H') ∧ σ0[0]? = some (some (V.ref f)) ∧ H0 c' = some (CodeO c' (X.env.qual ++ "<lambda>")) ∧
  ∀ (A : Around) (outer : List Env) (s : Shared), Room k (A.deeper (lamEnv X scope s.heap.objs.size f c')) → WE (lamN X A outer s H0 Ech scope f c') body σ H0 D.rt
def toldTs (cl : Nat → Addr) (a : Addr) (cls : Value) (d : Option Addr) : TS := fun D σ0 H0 => ∃ cc, cc < 13 ∧ cls = .ref (cl cc) ∧ d = none ∧ (∃ σb : L2.St, σ0 = σb.set 1 (some (V.ref a))) ∧ TQ cc H0 D.rt
section
variable {X : Cx} {σ : L2.St} {H : Hp} {cl : Nat → Addr} {ce ft g : Addr} {fdt fdg : FuncData} {pt pg : Arguments} {bt bg : List Stmt} {st sg : Scope}
theorem w_told {T : List (Addr × Str)} {c P : Addr} {k : Nat} {params : Arguments} {body : Expr} {scope : Scope} {p lpos pos : Pos} {Q : VK} (C : ClsF X.K X.mg cl ce) (TD : TermD X.K X.mg ft fdt pt bt st) (DD : ToldD X.K X.mg g fdg pg bg sg) (hg : Gl X "_law_told")
    (TB : TabB X.base X.mg c P) (hcode : X.env.code = .ref c) (hmT : (P, X.env.qual ++ "<lambda>") ∈ T) (hu : ∀ p ∈ T, p.1 = P → p.2 = X.env.qual ++ "<lambda>") (hr : Room (k + 2) X.A) (L : LamS X.env.scope scope) (hdef : defaultsOf params X.env = ([], []))
    (hbind : ∀ (q : Str) (cl : List (Str × Addr)) (pm cv ctv : Value), bindArgs (PySem.W.kla_fn "<lambda>" q params body scope cl pm cv ctv) ⟨[], []⟩ = pure []) (hT : Tabs T H)
    (h : ∀ H1, LamH H H1 P (X.env.qual ++ "<lambda>") → Tabs T H1 → ∀ (f c' : Addr) (A : Around) (outer : List Env) (s : Shared), Room k (A.deeper (lamEnv X scope s.heap.objs.size f c')) → WE (lamN X A outer s H1 (EX cl Q) scope f c') body σ H1 Q) :
    WE X (.Call (.Name "_law_told" p) [.Lambda params body scope lpos] [] pos) σ H Q := by
  intro pins s I
  obtain ⟨oc, od, dV, kV, doc, pm, an, cdv, ct, osl, efd, lk, hcg, _, _⟩ := DD.fn.ex
  subst efd
  have S := DD.sc
  have ts := DD.ts
  unfold toldSc glB2 at ts
  simp only [Bool.and_eq_true, decide_eq_true_eq] at ts
  obtain ⟨t1, t2, t3, t4⟩ := ts
  have mt := DD.mt
  unfold mTold at mt
  split at mt
  case h_2 => cases mt
  rename_i d1 q1 q2 q3 e0 q4 e1 tm q5 e2 q6 q7 q8 q9 q10
  simp only [Bool.and_eq_true, decide_eq_true_eq] at mt
  obtain ⟨rfl, rfl, rfl, rfl, rfl⟩ := mt
  refine wpAny_Call_Name_kw (ld_glob I hg DD.gl ?_ (by decide))
  refine PySem.W.callWith_K (h₀ := X.base) I.ok.mod.kin DD.fn.kp ?_ (by rfl) (by rfl)
  show wpAny _ _ (spliced ((false, eval (.Lambda params body scope lpos) X.env) :: backTo pos (starEach [] X.env))) _ _ s
  refine Calls.spliced_cons (lam_make3 I TB hcode hmT hu hT hdef (L.has I.ok) fun f c' pm' ctv H1 s' I1 lh T1 hf hfn hfr hco => ?_)
  refine Calls.spliced_nil ⟨I1.kIn, ?_⟩
  have hl := h H1 lh T1 f c'
  have rc : codeAny (model X.prog X.w) X.A (.call (.ref g) ⟨[.ref f], []⟩) (CR C8.CX0 X.stack X.prog X.w H1 s' Q C8.E0) s' := by
    refine run_ofS (N := [("deed" : Str), "e"]) (ps := [("deed" : Str)]) (us := [.ref f]) (vs := [.ref f]) lk hcg S hr I1.env0 (DD.bd s' [.ref f] I1.kIn rfl) (.cons rfl .nil) rfl fun hr' => ?_
    generalize hXt : cxOf C8.CX0 X.prog X.w X.K X.mg X.base [("deed" : Str), "e"] "_law_told" sg g cdv X.A X.stack s' H1 C8.E0 = Xt
    refine ⟨WSs Xt _, pss_WS Xt _, ?_⟩
    have main : PS Xt.nox (.Try [.Return (some (.Call (.Name ("deed" : Str) q1) [] [] q2)) q3] [.ExceptHandler (some (.Name ("CoachError" : Str) q4)) (some ("e" : Str)) [.Return (some (.Call (.Name ("_law_term" : Str) q5) [.Name ("e" : Str) q6] [] q7)) q8] q9] [] [] q10)
        (fun D σ0 H0 => toldTb X scope body σ k f c' (wAs Xt.nox.K (.ref ce) 1 (toldTs cl) (fun _ _ _ _ => False) D) D σ0 H0) := by
      subst hXt
      refine L2N.ps_try_as (X := (cxOf C8.CX0 X.prog X.w X.K X.mg X.base [("deed" : Str), "e"] "_law_told" sg g cdv X.A X.stack s' H1 C8.E0).nox) (i := 1) (n := ("e" : Str)) (x := ("CoachError" : Str)) (c := .ref ce) (tb := toldTb X scope body σ k f c') (ts := toldTs cl) rfl rfl S.nd rfl t2 ⟨t3, by decide, .inl C.me⟩ takesN0 (fun W pn xe tk _ => ?_) (fun a oe cls d pn hz hfl => ?_)
      · refine ⟨fun pins2 s2 σ2 H2 D2 I2 h2 => ?_⟩
        obtain ⟨Ech, hW, h21, h22, h23⟩ := h2
        have hp := w_act (p1 := q1) (p2 := q2) I1 L hf hfn hfr (hbind _ _ _ _ _) tk hW hr' (i := 0) (a := ("deed" : Str)) rfl (.inl t1) (by decide) (by decide) h21 h22 h23
        exact (pss_one (ps_ret (pos := q3) (pe_WE _ _))).run pins2 s2 σ2 H2 D2 I2 hp
      · refine ⟨fun pins2 s2 σ2 H2 D2 I2 h2 => ?_⟩
        obtain ⟨cc, hc13, e1, e2, ⟨σb, e3⟩, h22⟩ := h2
        subst e1 e2
        have h21 : σ2[1]? = some (some (V.ref a)) := by
          have hl2 : σ2.length = 2 := I2.len
          rw [e3] at hl2 ⊢
          rw [List.getElem?_set_self (by simp at hl2; omega)]
        obtain ⟨vs, hvs⟩ := hfl
        have hp : WE ((cxOf C8.CX0 X.prog X.w X.K X.mg X.base [("deed" : Str), "e"] "_law_told" sg g cdv X.A X.stack s' H1 C8.E0).nox.suite a ((a, oe) :: pn)) (.Call (.Name ("_law_term" : Str) q5) [.Name ("e" : Str) q6] [] q7) σ2 H2 D2.rt :=
          w_term (X := (cxOf C8.CX0 X.prog X.w X.K X.mg X.base [("deed" : Str), "e"] "_law_told" sg g cdv X.A X.stack s' H1 C8.E0).nox.suite a ((a, oe) :: pn)) (p := (a, oe)) (c := cc) C TD (i := 1) (x := ("e" : Str)) rfl (.inl t2) (by decide) (by decide) t4 (RoomH.mono (k := k + 1) ⟨hr'.dp, hr'.un⟩ (by omega)) ⟨rfl, vs, hvs, hz.2.2 vs hvs⟩ List.mem_cons_self hc13 hz h21 h22
        exact (pss_one (ps_ret (pos := q8) (pe_WE _ _))).run pins2 s2 σ2 H2 D2 I2 hp
    have eN : L2.start [("deed" : Str), "e"] [V.ref f] = [some (V.ref f), none] := rfl
    rw [eN]
    refine PSs.ws (pss_one main).nox ?_
    refine ⟨EX cl Q, fun cls d σ' H' ⟨cc, h1, e1, e2, h2⟩ => ?_, rfl, hco, hl⟩
    subst e1 e2
    have eK : Xt.nox.K = X.K := by subst hXt; rfl
    refine ⟨true, by rw [eK]; exact C.exm cc h1, fun _ a na => ⟨cc, h1, rfl, rfl, ⟨σ', rfl⟩, h2⟩, fun z => by cases z⟩
  refine wpAny_call (codeAny_mono rc fun r s2 hq => ?_)
  cases r with
  | error e => exact (show False from hq).elim
  | ok fl =>
    cases fl with
    | ret u => exact I1.after hq
    | next => exact False.elim hq
    | brk => exact False.elim hq
    | cont => exact False.elim hq
end
end Mn
set_option maxHeartbeats 4000000
namespace Mn
open PySem PySem.Spec PyProof.Rows L2
section
variable {L : Lk} {X : Cx} {W : WX} {n : Nat} {e0 : Ent}
/-! ### reading dicts -/
theorem s_odx {i : Nat} {x : Str} {k : Expr} {f : List Sl → Store → Out D} {p pos : Pos} (G : Good L X n W) (hN : X.N[i]? = some x) (hv : Vis X.env.scope x) (hd : (x == ("__debug__" : Str)) = false) (hcd : (x == ("__classdict__" : Str)) = false) (hsl : isSlice k = false) (hk : SndE L X W k f) :
    SndE L X W (.Subscript (.Name x p) k pos) (fun sa st => match sa[i]? with | some (.od kvs) => (f sa st).bind fun y st => if keyOk y then .of (getD kvs y) st else .bad | _ => .bad) := fun sa st σ H H0 F m Q fr sr q => by
  refine PE.we (pe_ix (ix_dic G) (pe_var hN hv hd hcd) (pe_WE X k) (plainIx_of hsl)) ?_
  dsimp only at q
  split at q
  · rename_i kvs hi
    obtain ⟨a, es, ha, hH, r, h0, nm, nF⟩ := fr.slot i _ hi
    refine ⟨_, ha, hk sa st σ H H0 F m _ fr sr (q.bind.imp fun y st1 F1 m1 H1 e1 s1 h1 vy ry => ?_)⟩
    obtain ⟨a', es1, ha', hH1, r1, h01, nm1, nF1⟩ := (fr.evo e1 sr).slot i _ hi
    rw [ha] at ha'; cases ha'
    split at h1
    · rename_i hky
      obtain ⟨d, hd, qq⟩ := Post.of h1
      obtain ⟨ds, nk, rfl, _, _⟩ := keyOk_of hky
      cases ry with
      | tup t1 t2 => exact ⟨a, _, F1, m1, kvs, es1, _, d, rfl, rfl, hH1, r1, .tup t1 t2, hky, hd, qq H1 F1 m1 Evo.refl s1⟩
    · exact h1.elim
  · exact q.elim
theorem trees2 {cpos : Pos} {env : Env} {e f : Expr} (h1 : isStar e = false) (h2 : isStar f = false) : backTo cpos (starEach [e, f] env) = [(false, eval e env), (false, eval f env)] := by
  rw [starEach_cons h1, star1 h2]; rfl
theorem few2 {cpos : Pos} {env : Env} {e f : Expr} (h1 : isStar e = false) (h2 : isStar f = false) : ((backTo cpos (starEach [e, f] env)).all (fun x => !x.1) && (backToKw cpos (keywordEach [] env)).all (fun x => x.1.isSome)
    && decide (([e, f] : List Expr).length + ([] : List Keyword).length + (if ([] : List Keyword).isEmpty then 0 else 1) < 30)) = true := by
  rw [trees2 h1 h2]; rfl
theorem s_get2 {o k d : Expr} {f g h : List Sl → Store → Out D} {apos cpos : Pos} (G : Good L X n W) (hb : isCallE o = false) (h1 : isStar k = false) (h2 : isStar d = false) (hline : (apos.endLine == cpos.line) = true) (ho : SndE L X W o f) (hk : SndE L X W k g) (hd : SndE L X W d h) :
    SndE L X W (.Call (.Attribute o "get" apos) [k, d] [] cpos) (fun sa st => (f sa st).bind fun x st => match x with | .dic kvs => (g sa st).bind fun y st => (h sa st).bind fun z st => if keyOk y then .ok ((getD kvs y).getD z) st else .bad | _ => .bad) := fun sa st σ H H0 F m Q fr sr q => by
  intro pins s I
  refine wpAny_Call_method (base_of hb) (few2 h1 h2) hline PySem.F.plainAttrs_dict PySem.F.slot_dict_get PySem.F.type_dict_get ?_
  refine wpAny_mono (ho sa st σ H H0 F m (fun v H1 => ∃ a es kvs F1 m1 st1, v = .ref a ∧ H1 a = some (DictO X.prog X.w a es) ∧ F1 a ∧ RelP X.prog X.w X.K F1 H1 m1 kvs es ∧ Evo F m H F1 m1 H1 ∧ SRx L X F1 H1 m1 st1 ∧
      PostV L X.prog X.w X.K ((g sa st1).bind fun y st => (h sa st).bind fun z st => if keyOk y then .ok ((getD kvs y).getD z) st else .bad) F1 m1 H1 Q (fun c d H' => W c d σ H')) fr sr (q.bind.imp fun x st1 F1 m1 H1 e1 s1 q1 v r => ?_) pins s I) (fun u s1 ⟨v, H1, I1, rv, a, es, kvs, F1, m1, st1, ev, hH, hF, r, e1, sr1, q1⟩ => ?_) fun _ _ z => z
  · cases r with
    | dic f1 h1 r1 => exact ⟨_, _, _, F1, m1, st1, rfl, h1, f1, r1, e1, s1, q1⟩
    | _ => exact q1.elim
  · subst ev
    cases rv
    obtain ⟨xs, p, dd, hsys⟩ := dict_of I1 hH r
    refine ⟨dd.typeIs, fun b hb => ?_, ?_⟩
    · cases hb
      obtain ⟨o, es', ep, h1, h2, h3, h4, _, h5⟩ := dd
      exact ⟨o, h1, h2.2.1⟩
    · rw [trees2 h1 h2]
      have fr1 := fr.evo e1 sr
      refine Calls.callWith_builtin rfl (Calls.evalArgs_plain (Calls.spliced_cons (thn (hk sa st1 σ H1 H0 F1 m1 (fun vy H2 => ∃ y F2 m2 st2, Relx X F2 H2 m2 y vy ∧ Evo F1 m1 H1 F2 m2 H2 ∧ SRx L X F2 H2 m2 st2 ∧
          PostV L X.prog X.w X.K ((h sa st2).bind fun z st => if keyOk y then .ok ((getD kvs y).getD z) st else .bad) F2 m2 H2 Q (fun c d H' => W c d σ H')) fr1 sr1 (q1.bind.imp fun y st2 F2 m2 H2 e2 s2 q2 v r => ⟨y, F2, m2, st2, r, e2, s2, q2⟩) pins s1 I1)
        fun iv s2 ⟨vy, H2, I2, ry, y, F2, m2, st2, ry2, e2, sr2, q2⟩ =>
        Calls.spliced_cons (thn (hd sa st2 σ H2 H0 F2 m2 (fun vz H3 => ∃ z F3 m3 st3, Relx X F3 H3 m3 z vz ∧ Evo F2 m2 H2 F3 m3 H3 ∧ SRx L X F3 H3 m3 st3 ∧
          PostV L X.prog X.w X.K (if keyOk y then .ok ((getD kvs y).getD z) st3 else .bad) F3 m3 H3 Q (fun c d H' => W c d σ H')) (fr1.evo e2 sr1) sr2 (q2.bind.imp fun z st3 F3 m3 H3 e3 s3 q3 v r => ⟨z, F3, m3, st3, r, e3, s3, q3⟩) pins s2 I2)
          fun fv s3 ⟨vz, H3, I3, rz, z, F3, m3, st3, rz3, e3, sr3, q3⟩ => Calls.spliced_nil ?_))))
      split at q3
      · rename_i hky
        obtain ⟨ds, nk, rfl, n1, n2⟩ := keyOk_of hky
        have M2 := e2.mono sr1
        have M3 := e3.mono sr2
        have hH3 : H3 a = some (DictO X.prog X.w a es) := M3.fh _ _ (M2.fz _ hF) (M2.fh _ _ hF hH)
        have r3 := (r.mono M2).mono M3
        have ry3 := ry2.mono M3
        cases ry2 with
        | tup t1 t2 =>
          cases ry
          obtain ⟨xs3, p3, dd3, hsys3⟩ := dict_of I3 hH3 r3
          refine getOr_keyed (knd := nestedKind X.prog X.w) (k := nk) (room8 G.room) ⟨nested_of I3 ry3 rfl n1, n2⟩ hsys3 ⟨xs3, dd3, rfl⟩ ?_
          obtain ⟨g1, g2⟩ := get_of n1 r3 p3
          rw [valueAt_pairsH]
          cases hg : getD kvs (.tup ds) with
          | none =>
            rw [g2 hg]
            rw [hg] at q3
            exact ⟨vz, H3, I3.tok _, rz, q3 H3 F3 m3 Evo.refl sr3 vz rz3⟩
          | some dv =>
            obtain ⟨b', u', v', a1, a2, a3⟩ := g1 dv hg
            rw [a1]
            rw [hg] at q3
            exact ⟨v', H3, I3.tok _, a2, q3 H3 F3 m3 Evo.refl sr3 v' a3⟩
      · exact q3.elim
end
end Mn
set_option maxHeartbeats 4000000
namespace Mn
open PySem PySem.Spec PyProof.Rows L2
section
variable {X : Cx}
theorem d_setM {pins : List (Addr × Obj)} {σ : L2.St} {H : Hp} {s : Shared} {E : Value → Shared → Prop} {D : Addr} {es : List (NestedKey × Addr × V)} {kvs : List (Mn.D × Mn.D)} {F : Addr → Prop} {m : List Addr} {k : Mn.D} {nk : NestedKey} {b : Addr} {v : V} {u : Value} {Q : Unit → Shared → Prop} (hu : (nestedKind X.prog X.w).room X.A) (I : Inv X pins σ H s) (hD : H D = some (DictO X.prog X.w D es)) (r : RelP X.prog X.w X.K F H m kvs es) (rk : Relx X F H m k (.ref b)) (e1 : Mn.D.nkey k = some nk) (e2 : nk.depth ≤ 8) (hz : es.length ≤ sizeLine) (rv : RelV v u)
    (h : ∀ s', Inv X pins σ (upd H D (DictO X.prog X.w D (putE es nk b v))) s' → Q () s') : wpAny (model X.prog X.w) X.A (dictSet D (.ref b) u) Q E s := by
  obtain ⟨xs, p, dd, hsys⟩ := dict_of I hD r
  have key : (nestedKind X.prog X.w).is s.heap nk b := ⟨nested_of I rk rfl e1, e2⟩
  refine wpAny_dictSet_heap (hsz := by rw [← esP_length p]; exact hz) hu key dd fun h' hm' hs => h _ ?_
  have he : ∃ z, h'.get? D = some z := by obtain ⟨z, _, _, hz, _⟩ := hm'; exact ⟨z, hz⟩
  exact I.write (by rw [hD]; exact True.intro) (.inl rfl) (fun c o hc e => (hs.2 c hc).trans e) he (dictO_new (esP_put rv p) hsys hm')
def tDcM (X : Cx) (wi : TI) (g : TG) (tt : TT) (tk tv : TE) (vs : List Nat) : TE := fun σ H Q => wi σ H fun J H1 => ∀ D, H1 D = none → ∃ W : Nat → Nat → Hp → Prop, (∃ m, W 0 m (upd H1 D (DictO X.prog X.w D []))) ∧ ∀ i m H, W i m H →
  (J.stop i H ∧ Q (.ref D) H) ∨ (J.go i H ∧ ∃ Nx : Hp → Prop, (∀ H', Nx H' → ∃ m', m' < m ∧ W (i + 1) m' H') ∧ ∀ x H', J.yld i H x H' → g x (L2.wipe σ vs) H' fun σ2 H2 => L2.wipe σ2 vs = L2.wipe σ vs ∧ tt σ2 H2 fun b H3 =>
    if b = true then tk σ2 H3 fun y H4 => tv σ2 H4 fun z H5 => ∃ (b : Addr) (F : Addr → Prop) (m : List Addr) (kvs : List (Mn.D × Mn.D)) (es : List (NestedKey × Addr × V)) (k : Mn.D) (nk : NestedKey), y = .ref b ∧ H5 D = some (DictO X.prog X.w D es) ∧ RelP X.prog X.w X.K F H5 m kvs es ∧ Relx X F H5 m k (.ref b) ∧ Mn.D.nkey k = some nk ∧ nk.depth ≤ 8 ∧ es.length ≤ sizeLine ∧ Nx (upd H5 D (DictO X.prog X.w D (putE es nk b z))) else Nx H3)
theorem dcM_core {pins : List (Addr × Obj)} {s : Shared} {σ : L2.St} {H : Hp} {Q : VK} {kx vx tg iter : Expr} {ifs : List Expr} {scope : Scope} {owd : List (Str × Nat)} {pos pos' : Pos} {wi : TI} {g : TG} {tt : TT} {tk tv : TE} {use : Option (Value → Sem Unit)} {Qf : Value → Shared → Prop}
    (hroom : (nestedKind X.prog X.w).room X.A) (hcalm : X.calm = true) (hnd : X.N.Nodup) (I : Inv X pins σ H s) (hi : PI X tg iter wi) (bok : BlkOk X.N X.env.scope scope owd)
    (hg : ∀ (s : Shared) (H : Hp) (C : Addr) (cel : List (Str × Addr)) (fq : List Addr), PG (X.blk s H scope (compEnvC scope cel C X.env) fq) tg g) (ht : ∀ (s : Shared) (H : Hp) (C : Addr) (cel : List (Str × Addr)) (fq : List Addr), PTs (X.blk s H scope (compEnvC scope cel C X.env) fq) ifs tt)
    (hk : ∀ (s : Shared) (H : Hp) (C : Addr) (cel : List (Str × Addr)) (fq : List Addr), PE (X.blk s H scope (compEnvC scope cel C X.env) fq) kx tk)
    (he : ∀ (s : Shared) (H : Hp) (C : Addr) (cel : List (Str × Addr)) (fq : List Addr), PE (X.blk s H scope (compEnvC scope cel C X.env) fq) vx tv) (hfold : ∀ x, foldedSetIterable iter X.env x = pure x)
    (h : tDcM X wi g tt tk tv (owd.map (·.2)) σ H Q)
    (hfin : ∀ D C s' m H', Inv X pins σ H' s' → Q (.ref D) H' → s'.heap.Ns C m → FpOk X pins H' C → compPost (model X.prog X.w) X.A X.xe use Qf (.ref D) C (.ok .next) s') :
    wpAny (model X.prog X.w) X.A (comprehension (.DictComp kx vx [⟨tg, iter, ifs, 0⟩] scope pos) scope X.env pos' newDict false (eval iter X.env) use) Qf X.xe s := by
  have hfr : ∀ y ∈ scope.names, y.2 = .free → ∃ c, X.env.cells.lookup y.1 = some c := fun y hy e => by
    rcases bok.free y hy e with k | k
    · exact I.ok.has _ (.inl k)
    · exact I.ok.has _ (.inr k)
  refine wpAny_comprehension_free (use := use) rfl hfold (closure_ok hfr) bok.kind (fun y hy e => by rw [bok.uniq y hy, e])
    (thn (hi.run pins s σ H _ I h) fun xv z1 hx => thn hx fun itv z2 k2 => ?_)
  obtain ⟨it, fq, tn, J, G2, e, V2, T, tt2, u2, q⟩ := k2
  subst e
  refine wpAny_newObj_type (newEnv_comp ?_)
  generalize hDD : z2.heap.objs.size = D
  have hDnew : G2 D = none := V2.hok.fresh (Nat.le_of_eq hDD)
  obtain ⟨W, ⟨m0, w0⟩, trn⟩ := q D hDnew
  -- the new list
  generalize hs3 : ({ z2 with heap := z2.heap.push { cls := .type "dict", data := .dict #[] } } : Shared) = z3
  have V3 : Inv X pins σ (upd G2 D (DictO X.prog X.w D [])) z3 := by
    rw [← hs3]
    refine V2.laid (t' := z2.toks) (fun b o e => Heap.get?_push_of_some _ e) (Nat.le_of_eq hDD) ?_
    rw [← hDD]
    exact dictO_empty z2.heap V2.big
  have k3 : z3.heap = z2.heap.push { cls := .type "dict", data := .dict #[] } := by rw [← hs3]
  have siz : ∀ b ∈ fq, b < z2.heap.objs.size := fun b hb => by
    obtain ⟨o, e, _⟩ := T.obj _ _ tt2 b hb
    exact Heap.lt_size e
  have u3 : ∀ b ∈ fq, FpOk X pins (upd G2 D (DictO X.prog X.w D [])) b ∧ b < z3.heap.objs.size := fun b hb => by
    have hlt := siz b hb
    refine ⟨⟨?_, (u2 b hb).2⟩, by rw [k3, Heap.size_push]; exact Nat.lt_succ_of_lt hlt⟩
    rw [upd_ne (by rw [← hDD]; exact Nat.ne_of_lt hlt)]
    exact (u2 b hb).1
  have tt3 : tn 0 z3.heap := T.keep _ _ _ tt2 fun b _ o e => by rw [k3]; exact Heap.get?_push_of_some _ e
  have V4 := block_start V3 bok hnd u3
  have pgo := hg z3 (upd G2 D (DictO X.prog X.w D [])) z3.heap.objs.size (cellsFrom (z3.heap.objs.size + 1) scope.names (cloFrom X.env.cells scope.names [])) fq
  have pto := ht z3 (upd G2 D (DictO X.prog X.w D [])) z3.heap.objs.size (cellsFrom (z3.heap.objs.size + 1) scope.names (cloFrom X.env.cells scope.names [])) fq
  have pko := hk z3 (upd G2 D (DictO X.prog X.w D [])) z3.heap.objs.size (cellsFrom (z3.heap.objs.size + 1) scope.names (cloFrom X.env.cells scope.names [])) fq
  have peo := he z3 (upd G2 D (DictO X.prog X.w D [])) z3.heap.objs.size (cellsFrom (z3.heap.objs.size + 1) scope.names (cloFrom X.env.cells scope.names [])) fq
  show codeAny _ _ (.compStart (.DictComp kx vx [⟨tg, iter, ifs, 0⟩] scope pos) 0 (.ref it) (.ref D) (compEnvC scope (cellsFrom (z3.heap.objs.size + 1) scope.names (cloFrom X.env.cells scope.names [])) z3.heap.objs.size X.env)) (compPost (model X.prog X.w) X.A X.xe use Qf (.ref D) z3.heap.objs.size) { z3 with heap := pushCells (z3.heap.push { cls := .type "dict", data := .dict #[] }) scope.names }
  have nfq : ∀ b ∈ fq, (upd G2 D (DictO X.prog X.w D [])) b = none := fun b hb => (u3 b hb).1.1
  generalize hce : compEnvC scope (cellsFrom (z3.heap.objs.size + 1) scope.names (cloFrom X.env.cells scope.names [])) z3.heap.objs.size X.env = cen at V4 pgo pto pko peo ⊢
  have cloc : cen.locals = z3.heap.objs.size := by subst hce; rfl
  generalize hH3 : upd G2 D (DictO X.prog X.w D []) = G3 at V3 V4 pgo pto pko peo w0 nfq u3
  generalize hs4 : ({ z3 with heap := pushCells (z3.heap.push { cls := .type "dict", data := .dict #[] }) scope.names } : Shared) = z4 at V4 ⊢
  have tt4 : tn 0 z4.heap := T.keep _ _ _ tt3 fun b _ o e => by rw [← hs4]; exact pushCells_keeps _ _ _ _ (Heap.get?_push_of_some _ e)
  have sta : ∀ {σ' : L2.St} {H' : Hp} {s' : Shared}, Inv (X.blk z3 G3 scope cen fq) [] σ' H' s' → (∀ b ∈ fq, H' b = none) → ∀ b ∈ fq, FpOk (X.blk z3 G3 scope cen fq) [] H' b := fun {σ' H' s'} I' hn b hb =>
    ⟨hn b hb, (I'.ok.exf b hb).1, I'.ok.exfs b hb, .inl hb, fun x c e => (I'.ok.exf b hb).2 x c e, fun p hp => absurd (show p ∈ ([] : List (Addr × Obj)) ++ [] from hp) (by simp)⟩
  have lp : codeAny (model X.prog X.w) X.A (.compLoop (.DictComp kx vx [⟨tg, iter, ifs, 0⟩] scope pos) 0 (.ref it) (.ref D) cen) (compPost (model X.prog X.w) X.A X.xe use Qf (.ref D) z3.heap.objs.size) z4 := by
    refine compLoop_anyD (fun n s' => ∃ i H', Inv (X.blk z3 G3 scope cen fq) [] (L2.wipe σ (owd.map (·.2))) H' s' ∧ tn i s'.heap ∧ (∀ b ∈ fq, H' b = none) ∧ W i n H') ?_ m0 ⟨0, G3, V4, tt4, nfq, w0⟩
    rintro n z5 ⟨i, G5, V5, tt5, nn5, ww5⟩
    rcases trn i n G5 ww5 with ⟨stop, qq⟩ | ⟨go, Nx, hNx, stp⟩
    · have td := T.done (X.blk z3 G3 scope cen fq) rfl rfl rfl hcalm i [] z5 _ G5 (fun _ _ => False) V5 (sta V5 nn5) tt5 stop
      refine thnF td fun r z6 ⟨hr, V6⟩ => ?_
      subst hr
      -- back in the def's context
      have V7 : Inv X pins σ G5 z6 := V3.call' (ch := fq) V6.os V6.base V6.hok V6.bare fun b hb => ⟨(u3 b hb).1.2.2.2.1, (u3 b hb).1.2.1, (u3 b hb).1.2.2.2.2.1, (u3 b hb).1.2.2.2.2.2⟩
      have nC : G5 z3.heap.objs.size = none := by
        have z : G5 cen.locals = none := V6.free
        rw [cloc] at z
        exact z
      obtain ⟨m, hn, _⟩ := V6.loc
      have hn : z6.heap.Ns cen.locals m := hn
      rw [cloc] at hn
      exact hfin D z3.heap.objs.size z6 m G5 V7 qq hn (V3.fpOk (Nat.le_refl _) nC)
    · have ti := T.item (X.blk z3 G3 scope cen fq) rfl rfl rfl hcalm i [] z5 _ G5 (fun _ _ => False) V5 (sta V5 nn5) tt5 go
      refine thnF ti fun r z6 ⟨u, hr, k6⟩ => ?_
      subst hr
      refine thnF k6 fun _ z7 ⟨x, G7, V7, e7, y7, tt7, nn7⟩ => ?_
      have I7' := V7.pinned (sta V7 nn7) (T.obj _ _ tt7)
      refine thnF (pgo.run _ z7 _ G7 x u _ I7' e7 (stp x G7 y7)) fun _ z8 ⟨τ8, G8, V8, hw8, p8⟩ => ?_
      refine thnF (pto.run _ z8 τ8 G8 _ V8 p8) fun b z9 ⟨G9, V9, p9⟩ => ?_
      -- the turn's end
      have endT : ∀ {s' : Shared} {H' : Hp}, Inv (X.blk z3 G3 scope cen fq) ([] ++ pinsAt fq z7.heap) τ8 H' s' → Nx H' → ∃ m, m < n ∧ ∃ i H', Inv (X.blk z3 G3 scope cen fq) [] (L2.wipe σ (owd.map (·.2))) H' s' ∧ tn i s'.heap ∧ (∀ b ∈ fq, H' b = none) ∧ W i m H' := fun {s' H'} I' nx => by
        obtain ⟨m', hm, w'⟩ := hNx H' nx
        have pinQ : ∀ b ∈ fq, ∀ o, z7.heap.get? b = some o → s'.heap.get? b = some o ∧ H' b = none := fun b hb o e =>
          let z := I'.pin (b, o) (List.mem_append_right _ (List.mem_append_right _ (mem_pinsAt hb e)))
          ⟨z.1, z.2.1⟩
        have hlen : (L2.wipe σ (owd.map (·.2))).length = τ8.length := by rw [← hw8, wipe_length]
        refine ⟨m', hm, i + 1, H', (I'.unpinned (pins := [])).weak hlen (fun j v e => ?_), T.keep _ _ _ tt7 fun b hb o e => (pinQ b hb o e).1, fun b hb => ?_, w'⟩
        · rw [← hw8] at e
          exact (wipe_some e).1
        · obtain ⟨o, e, _⟩ := T.obj _ _ tt7 b hb
          exact (pinQ b hb o e).2
      cases b with
      | false =>
        simp only [Bool.false_eq_true, if_false] at p9 ⊢
        exact endT V9 p9
      | true =>
        simp only [if_true] at p9 ⊢
        refine thnF (pko.run _ z9 τ8 G9 _ V9 p9) fun z z10 ⟨yk, G10, V10, e10, p10⟩ => ?_
        refine thnF (peo.run _ z10 τ8 G10 _ V10 p10) fun y2 z11 ⟨yv, G11, V11, e11, b, F, m, kvs, es, k, nk, ek, hD11, rP, rk, en, ed, hz11, nx⟩ => ?_
        subst ek
        cases e10
        exact d_setM (X := X.blk z3 G3 scope cen fq) hroom V11 hD11 rP rk en ed hz11 e11 fun z12 V12 => endT V12 nx
  exact codeAny_compStart_dict lp (T.self X.A 0 _ _ _ tt4 lp)
theorem pe_dcM {kx vx tg iter : Expr} {ifs : List Expr} {scope : Scope} {own : List (Str × Nat)} {pos : Pos} {wi : TI} {g : TG} {tt : TT} {tk tv : TE} (hroom : (nestedKind X.prog X.w).room X.A) (hcalm : X.calm = true) (hnd : X.N.Nodup) (hi : PI X tg iter wi) (bok : BlkOk X.N X.env.scope scope own)
    (hg : ∀ (s : Shared) (H : Hp) (C : Addr) (cel : List (Str × Addr)) (fq : List Addr), PG (X.blk s H scope (compEnvC scope cel C X.env) fq) tg g) (ht : ∀ (s : Shared) (H : Hp) (C : Addr) (cel : List (Str × Addr)) (fq : List Addr), PTs (X.blk s H scope (compEnvC scope cel C X.env) fq) ifs tt)
    (hk : ∀ (s : Shared) (H : Hp) (C : Addr) (cel : List (Str × Addr)) (fq : List Addr), PE (X.blk s H scope (compEnvC scope cel C X.env) fq) kx tk)
    (he : ∀ (s : Shared) (H : Hp) (C : Addr) (cel : List (Str × Addr)) (fq : List Addr), PE (X.blk s H scope (compEnvC scope cel C X.env) fq) vx tv) (hfold : ∀ x, foldedSetIterable iter X.env x = pure x) :
    PE X (.DictComp kx vx [⟨tg, iter, ifs, 0⟩] scope pos) (tDcM X wi g tt tk tv (own.map (·.2))) := by
  refine ⟨fun pins s σ H Q I hh => ?_⟩
  rw [arm_eval_DictComp]
  refine dcM_core hroom hcalm hnd I hi bok hg ht hk he hfold hh fun D C s' m H' I' q hn f => ⟨m, hn, fun hp sb => ?_⟩
  obtain ⟨f0, f1, f2, f3, f4, f5⟩ := f
  exact ⟨.ref D, H', I'.turned (t' := s'.toks) (fun b o hb e => (sb.2 b hb).trans e) f0 f1 f3 f4 f5, rfl, q⟩
end
end Mn
set_option maxHeartbeats 4000000
namespace Mn
open PySem PySem.Spec PyProof.Rows L2
section
variable {L : Lk} {X : Cx} {W : WX} {n : Nat} {e0 : Ent}
/-! ### dicts made -/
theorem s_emd {pos : Pos} : SndE L X W (.Dict [] [] pos) (fun _ st => .ok (.dic []) st) := fun sa st σ H H0 F m Q fr sr q => by
  refine PE.we pe_dnewM fun p hp => ?_
  have nm : p ∉ m := fun hm => by obtain ⟨o, ho, _⟩ := sr.mt hm; rw [hp] at ho; cases ho
  obtain ⟨e2, s2⟩ := sr.grow (F' := addF F p) (o := DictO X.prog X.w p []) hp (fun a => ⟨fun h => h.elim .inl fun z => .inr ⟨z, True.intro, .inr rfl⟩, fun h => h.elim .inl fun z => .inr z.1⟩)
  exact q _ _ _ e2 s2 _ (.dic (.inr rfl) upd_same .nil)
/-- the turns of a dict comprehension -/
theorem dc_ok {t : Tg} {fk fv : List Sl → Store → Out D} {scope : Scope} {own : List Nat} {kx vx : Expr} {sa : List Sl} {σ : L2.St} {H0 : Hp} {Q : VK} {E : XK}
    (hown : ∀ i ∈ t.slots, i ∈ own) (hk : Blk X scope fun Y => SndE L Y W0 kx fk) (hv : Blk X scope fun Y => SndE L Y W0 vx fv)
    {J : L2.It} {ds : List D} {st1 : Store} {F1 : Addr → Prop} {m1 : List Addr} {H1 : Hp} (fr : FRx X H0 F1 H1 m1 sa σ) (s1 : SRx L X F1 H1 m1 st1) (hJ : IterOk L X J ds F1 m1 H1)
    (q : Post L X.prog X.w X.K (dcompL (wipeS sa own) t fk fv ds [] st1) F1 m1 H1 (fun kvs _ F' m' H' => ∀ D es, H1 D = none → H' D = some (DictO X.prog X.w D es) → RelP X.prog X.w X.K F' H' m' kvs es → ¬ F' D → D ∉ m' → Q (.ref D) H') E) :
    ∀ D, H1 D = none → ∃ W : Nat → Nat → Hp → Prop, (∃ m, W 0 m (upd H1 D (DictO X.prog X.w D []))) ∧ ∀ i m H, W i m H →
      (J.stop i H ∧ Q (.ref D) H) ∨ (J.go i H ∧ ∃ Nx : Hp → Prop, (∀ H', Nx H' → ∃ m', m' < m ∧ W (i + 1) m' H') ∧ ∀ x H', J.yld i H x H' → gT X.K t x (L2.wipe σ own) H' fun σ2 H2 => L2.wipe σ2 own = L2.wipe σ own ∧ tYes σ2 H2 fun b H3 =>
        if b = true then WEb X scope kx σ2 H3 fun y H4 => WEb X scope vx σ2 H4 fun z H5 => ∃ (b : Addr) (F : Addr → Prop) (m : List Addr) (kvs : List (Mn.D × Mn.D)) (es : List (NestedKey × Addr × V)) (k : Mn.D) (nk : NestedKey), y = .ref b ∧ H5 D = some (DictO X.prog X.w D es) ∧ RelP X.prog X.w X.K F H5 m kvs es ∧ Relx X F H5 m k (.ref b) ∧ Mn.D.nkey k = some nk ∧ nk.depth ≤ 8 ∧ es.length ≤ sizeLine ∧ Nx (upd H5 D (DictO X.prog X.w D (putE es nk b z))) else Nx H3) := by
  intro D hD
  obtain ⟨k, G, Y, walk, hkk, hall⟩ := hJ
  generalize hres : dcompL (wipeS sa own) t fk fv ds [] st1 = res at q
  refine ⟨fun i mm H => mm = ds.length - i ∧ i ≤ ds.length ∧ ∃ F m st acc es, dcompL (wipeS sa own) t fk fv (ds.drop i) acc st = res ∧ Evo F1 m1 H1 F m H ∧ SRx L X F H m st ∧ H D = some (DictO X.prog X.w D es) ∧ RelP X.prog X.w X.K F H m acc es ∧ ¬ F D ∧ D ∉ m, ?_, ?_⟩
  · obtain ⟨e, s⟩ := s1.newO (o := DictO X.prog X.w D []) hD
    refine ⟨ds.length, by simp, Nat.zero_le _, F1, m1, st1, [], [], by rw [List.drop_zero]; exact hres, e, s, upd_same, .nil, fun hF => ?_, fun hm => ?_⟩
    · obtain ⟨o, ho, _⟩ := s1.live D hF; rw [hD] at ho; cases ho
    · obtain ⟨o, ho, _⟩ := s1.mt hm; rw [hD] at ho; cases ho
  · rintro i mm H ⟨rfl, hi, F, m, st, acc, es, hcomp, e, s, hDv, racc, nF, nm⟩
    obtain ⟨hG, hY⟩ := hall H F m st (e.mono s1) s
    by_cases hlt : i < ds.length
    · refine .inr ⟨walk.goes i H (by omega) hG, fun H' => i + 1 ≤ ds.length ∧ ∃ F m st acc es, dcompL (wipeS sa own) t fk fv (ds.drop (i + 1)) acc st = res ∧ Evo F1 m1 H1 F m H' ∧ SRx L X F H' m st ∧ H' D = some (DictO X.prog X.w D es) ∧ RelP X.prog X.w X.K F H' m acc es ∧ ¬ F D ∧ D ∉ m, fun H' p' => ⟨ds.length - (i + 1), by omega, rfl, p'.1, p'.2⟩, fun x H' y => ?_⟩
      have y := walk.yields i H x H' (by omega) hG y
      obtain ⟨d, hd⟩ : ∃ d, ds[i]? = some d := ⟨ds[i]'hlt, by simp [hlt]⟩
      obtain ⟨e2, s2, rd⟩ := hY i x H' d y hd
      have hdrop : ds.drop i = d :: ds.drop (i + 1) := by
        rw [List.drop_eq_getElem_cons hlt]
        have : ds[i]'hlt = d := (List.getElem?_eq_some_iff.mp hd).2
        rw [this]
      rw [hdrop, dcompL] at hcomp
      have e12 := e.trans e2
      have hD2 : H' D = some (DictO X.prog X.w D es) := e2.keep D _ hDv nm (fun ps z => nomatch z)
      have racc2 := racc.mono (e2.mono s)
      cases hb : bindT (wipeS sa own) t d with
      | none => rw [hb] at hcomp; simp only at hcomp; rw [← hcomp] at q; exact q.elim
      | some sa' =>
        rw [hb] at hcomp
        simp only at hcomp
        have frb : FRx X H0 F H' m (wipeS sa own) (L2.wipe σ own) := ((fr.evo e12 s1).blk own)
        refine gT_of frb rd hb fun σ' fr' ⟨is, ws, hσ, his⟩ => ⟨?_, ?_⟩
        · rw [hσ, wipe_setV (by rw [his]; exact hown), wipe_wipe]
        · unfold tYes
          dsimp only
          refine iteT fun s' Hb C cl fp => ?_
          refine hk s' Hb C cl fp sa' st σ' H' H0 F m _ fr' s2 ?_
          cases hkk' : fk sa' st with
          | bad => rw [hkk'] at hcomp; simp only at hcomp; rw [← hcomp] at q; exact q.elim
          | exc z st3 => rw [hkk'] at hcomp; simp only at hcomp; rw [← hcomp] at q; exact q.elim
          | ok yk st3 =>
            rw [hkk'] at hcomp
            simp only at hcomp
            intro H3 F3 m3 e3 s3 vk rk
            have e13 := e12.trans e3
            have nF3 : ¬ F3 D := fun h => (e3.newF D h).elim nF fun z => by rw [hD2] at z; cases z
            have nm3 : D ∉ m3 := fun h => (e3.new D h).elim nm fun z => by rw [hD2] at z; cases z
            have hD3 : H3 D = some (DictO X.prog X.w D es) := e3.keep D _ hD2 nm (fun ps z => nomatch z)
            have racc3 := racc2.mono (e3.mono s2)
            intro s'' Hb' C' cl' fp'
            refine hv s'' Hb' C' cl' fp' sa' st3 σ' H3 H0 F3 m3 _ (fr'.evo e3 s2) s3 ?_
            cases hvv : fv sa' st3 with
            | bad => rw [hvv] at hcomp; simp only at hcomp; rw [← hcomp] at q; exact q.elim
            | exc z st4 => rw [hvv] at hcomp; simp only at hcomp; rw [← hcomp] at q; exact q.elim
            | ok yv st4 =>
              rw [hvv] at hcomp
              simp only at hcomp
              split at hcomp
              · rename_i hsz
                rw [Bool.and_eq_true] at hsz
                intro H4 F4 m4 e4 s4 v rv
                have e14 := e13.trans e4
                have nF4 : ¬ F4 D := fun h => (e4.newF D h).elim nF3 fun z => by rw [hD3] at z; cases z
                have nm4 : D ∉ m4 := fun h => (e4.new D h).elim nm3 fun z => by rw [hD3] at z; cases z
                have hD4 : H4 D = some (DictO X.prog X.w D es) := e4.keep D _ hD3 nm3 (fun ps z => nomatch z)
                have racc4 := racc3.mono (e4.mono s3)
                have rk4 := rk.mono (e4.mono s3)
                obtain ⟨kds, nk, rfl, n1, n2⟩ := keyOk_of hsz.1
                cases rk with
                | tup t1 t2 =>
                  rename_i b _
                  have M := Mono.own (F := F4) (m := m4) (o' := DictO X.prog X.w D (putE es nk b v)) hD4 True.intro nF4
                  refine ⟨b, F4, m4, acc, es, _, nk, rfl, hD4, racc4, rk4, n1, n2, ?_, hlt, F4, m4, st4, _, _, hcomp, ?_, s4.own hD4 True.intro nm4 nF4, upd_same, (put_of n1 n2 rk4 rv racc4).mono M, nF4, nm4⟩
                  · have := sz_le hsz.2
                    rw [racc4.length] at this
                    omega
                  · refine ⟨e14.fz, e14.pre, fun a o h1 h2 h3 => ?_, e14.new, e14.newF, fun a o h1 => ?_⟩
                    · rw [upd_ne (ne_of_none h1 hD)]; exact e14.keep a o h1 h2 h3
                    · obtain ⟨o', h'⟩ := e14.live a o h1
                      exact ⟨o', by rw [upd_ne (ne_of_none h1 hD)]; exact h'⟩
              · rw [← hcomp] at q; exact q.elim
    · have hie : i = ds.length := by omega
      subst hie
      refine .inl ⟨?_, ?_⟩
      · have := walk.stops H hG
        rw [hkk] at this
        exact this
      · rw [List.drop_eq_nil_of_le (Nat.le_refl _), dcompL] at hcomp
        rw [← hcomp] at q
        exact q H F m e s D es hD hDv racc nF nm
theorem R_ndc {t : Tg} {fk fv : List Sl → Store → Out D} {oi : List Sl → Store → Out (List D)} {scope : Scope} {own : List (Str × Nat)} {kx vx tg iter : Expr} {pos : Pos} (G : Good L X n W) (hi : SndI L X W tg iter oi) (ok : BlkOk X.N X.env.scope scope own)
    (hg : Blk X scope fun Y => PG Y tg (gT X.K t)) (hown : ∀ i ∈ t.slots, i ∈ own.map (·.2)) (hk : Blk X scope fun Y => SndE L Y W0 kx fk) (hv : Blk X scope fun Y => SndE L Y W0 vx fv) (hs : isSet iter = false) :
    SndR L X W (.DictComp kx vx [⟨tg, iter, [], 0⟩] scope pos) (fun sa st => (oi sa st).bind fun xs st => (dcompL (wipeS sa (own.map (·.2))) t fk fv xs [] st).bind fun kvs st => .ok (.od kvs) st) := fun sa st σ H H0 F m Q fr sr hn q => by
  have hroom : (nestedKind X.prog X.w).room X.A := by
    show X.A.units + 8 < cLine
    have := G.room.un; omega
  refine PE.we (pe_dcM (tt := tYes) (tk := WEb X scope kx) (tv := WEb X scope vx) hroom G.calm G.nd (pi_WI X tg iter) ok hg (fun _ _ _ _ _ => pts_nil) (fun s H C cl fp => ⟨fun pins s' σ H' Q I h => h s H C cl fp pins s' I⟩) (fun s H C cl fp => ⟨fun pins s' σ H' Q I h => h s H C cl fp pins s' I⟩) (noSet hs)) ?_
  refine hi sa st σ H H0 F m _ fr sr (q.bind.imp fun ds st1 F1 m1 H1 e1 s1 h1 J hJ => ?_)
  refine dc_ok hown hk hv (fr.evo e1 sr) s1 hJ (h1.bind.imp fun kvs st2 F2 m2 H2 e2 s2 h2 D es hD hH rP nF nm => ?_)
  exact h2 H2 F2 m2 Evo.refl s2 _ ⟨⟨D, es, rfl, hH, rP, hn D (e1.none hD), nm, nF⟩, fun _ => ⟨D, rfl, e1.none hD⟩⟩
end
end Mn
set_option maxHeartbeats 4000000
namespace Mn
open PySem PySem.Spec PyProof.Rows L2
/-! ### hashes of keys -/
mutual
theorem ih_of (w : World) : ∀ {d : D} {k : NestedKey} {h : Int}, D.nkey d = some k → D.ih d = some h → k.hash w = h
  | .int i, k, h, h1, h2 => by
    simp only [D.nkey, Option.some.injEq] at h1
    simp only [D.ih, Option.some.injEq] at h2
    subst h1 h2; rfl
  | .tup ds, k, h, h1, h2 => by
    rw [D.nkey] at h1
    rw [D.ih] at h2
    obtain ⟨ks, e1, rfl⟩ := Option.map_eq_some_iff.mp h1
    obtain ⟨hs, e2, rfl⟩ := Option.map_eq_some_iff.mp h2
    show reduceHash (Builtin.Tuple.tupleHashOf (NestedKey.hashes w ks)) = _
    rw [ihL_of w e1 e2]
  | .non, _, _, _, h2 => by simp [D.ih] at h2
  | .str _, _, _, _, h2 => by simp [D.ih] at h2
  | .bl _, _, _, _, h2 => by simp [D.ih] at h2
  | .lst _, _, _, _, h2 => by simp [D.ih] at h2
  | .scr _, _, _, _, h2 => by simp [D.ih] at h2
  | .dic _, _, _, _, h2 => by simp [D.ih] at h2
  | .ref _, _, _, _, h2 => by simp [D.ih] at h2
  | .exn _, _, _, _, h2 => by simp [D.ih] at h2
theorem ihL_of (w : World) : ∀ {d : List D} {k : List NestedKey} {h : List Int}, D.nkeys d = some k → D.ihL d = some h → NestedKey.hashes w k = h
  | [], k, h, h1, h2 => by
    simp only [D.nkeys, Option.some.injEq] at h1
    simp only [D.ihL, Option.some.injEq] at h2
    subst h1 h2; rfl
  | d :: ds, k, h, h1, h2 => by
    rw [D.nkeys] at h1
    rw [D.ihL] at h2
    cases e1 : D.nkey d <;> cases e2 : D.nkeys ds <;> simp only [e1, e2, reduceCtorEq, Option.some.injEq] at h1
    cases e3 : D.ih d <;> cases e4 : D.ihL ds <;> simp only [e3, e4, reduceCtorEq, Option.some.injEq] at h2
    subst h1 h2
    show NestedKey.hash w _ :: NestedKey.hashes w _ = _
    rw [ih_of w e1 e3, ihL_of w e2 e4]
end
section
variable {P : Program} {w : World} {K : PySem.W.Frag} {F : Addr → Prop} {H : Hp} {m : List Addr}
theorem hashes_of : ∀ {kvs : List (D × D)} {es : List (NestedKey × Addr × V)} {xs : List (NestedKey × Addr × Value)} {hs : List Int}, RelP P w K F H m kvs es → EsP es xs → D.ihL (kvs.map (·.1)) = some hs → (xs.map fun x => (nestedKind P w).hash x.1) = hs
  | _, _, _, hs, .nil, .nil, h => by
    simp only [List.map_nil, D.ihL, Option.some.injEq] at h
    subst h; rfl
  | _, _, _, hs, .cons (k := k) (kvs := kvs) h1 h2 h3 h4 r, .cons q t, h => by
    simp only [List.map_cons, D.ihL] at h
    cases e3 : D.ih k <;> cases e4 : D.ihL (kvs.map (·.1)) <;> simp only [e3, e4, reduceCtorEq, Option.some.injEq] at h
    subst h
    rw [List.map_cons, hashes_of r t e4]
    obtain ⟨q1, q2, q3⟩ := q
    congr 1
    show NestedKey.hash w _ = _
    rw [← q1]
    exact ih_of w h1 e3
end
section
variable {L : Lk} {X : Cx} {W : WX} {n : Nat} {e0 : Ent}
theorem keys_tup {pins : List (Addr × Obj)} {σ : L2.St} {H : Hp} {s : Shared} {F : Addr → Prop} {m : List Addr} (I : Inv X pins σ H s) : ∀ {kvs : List (D × D)} {es : List (NestedKey × Addr × V)} {xs : List (NestedKey × Addr × Value)}, RelP X.prog X.w X.K F H m kvs es → EsP es xs → ∀ x ∈ xs, s.TypeIs (.ref x.2.1) "tuple"
  | _, _, _, .nil, .nil, x, hx => nomatch hx
  | _, _, _, .cons h1 h2 h3 h4 r, .cons q t, x, hx => by
    rcases List.mem_cons.mp hx with e | hx
    · subst e
      obtain ⟨q1, q2, q3⟩ := q
      rw [← q2]
      cases h3 with
      | tup g1 g2 =>
        obtain ⟨its, rv, ⟨o, e1, e2, c, e3⟩, hz⟩ := I.tuple g1.sq
        exact ⟨o, e1, e2⟩
      | _ => simp [D.nkey] at h1
    · exact keys_tup I r t x hx
/-- dict(d) -/
theorem cr_dcp (G : Good L X n W) : CallR X (.type "dict") (fun xs H Q => ∃ (a : Addr) (F : Addr → Prop) (m : List Addr) (kvs : List (D × D)) (es : List (NestedKey × Addr × V)), xs = [.ref a] ∧ H a = some (DictO X.prog X.w a es) ∧ RelP X.prog X.w X.K F H m kvs es ∧ hashOk kvs = true ∧ szOk kvs.length = true ∧ ∀ p, H p = none → Q (.ref p) (upd H p (DictO X.prog X.w p es))) := by
  rintro pins s σ H xs us Q I r ⟨a, F, m, kvs, es, rfl, hH, rP, hh, hz, q⟩
  obtain ⟨u, rfl, ru⟩ := vals1 r
  cases ru
  obtain ⟨xs, p, dd, hsys⟩ := dict_of I hH rP
  refine callType_codes (Q₁ := fun obj s₁ => obj = .ref s.heap.objs.size ∧ s₁ = { s with heap := s.heap.push { cls := .type "dict", data := .dict #[] } }) PySem.F.kt_called_dict (PySem.F.kt_typeCall_dict_1 _) PySem.F.entry_dict_init (kt_code_dict_new _ ⟨rfl, rfl⟩) ?_
  rintro obj s₁ ⟨rfl, rfl⟩
  have hnew : (s.heap.push { cls := .type "dict", data := .dict #[] }).DictOfH (nestedKind X.prog X.w) s.heap.objs.size [] := Heap.DictOfH.new s.heap
  have I1 : Inv X pins σ (upd H s.heap.objs.size (DictO X.prog X.w s.heap.objs.size [])) { s with heap := s.heap.push { cls := .type "dict", data := .dict #[] } } := I.laid (t' := s.toks) (fun b u e => Heap.get?_push_of_some _ e) (Nat.le_refl _) (dictO_empty s.heap I.big)
  have hf : H s.heap.objs.size = none := I.hok.fresh (Nat.le_refl _)
  have hne : a ≠ s.heap.objs.size := ne_of_none hH hf
  have nod : (xs.map fun x => (nestedKind X.prog X.w).hash x.1).Nodup := by
    unfold hashOk at hh
    cases e : D.ihL (kvs.map (·.1)) with
    | none => rw [e] at hh; cases hh
    | some hs =>
      rw [e] at hh
      rw [hashes_of rP p e]
      exact of_decide_eq_true hh
  have hlen : xs.length ≤ sizeLine := by rw [← esP_length p, ← rP.length]; exact sz_le hz
  have dd1 : (s.heap.push { cls := .type "dict", data := .dict #[] }).DictOfH (nestedKind X.prog X.w) a xs := by
    obtain ⟨o, es', ep, h1, h2, h3, h4, h5, h6⟩ := dd
    refine ⟨o, es', ep, Heap.get?_push_of_some _ h1, h2, h3, h4, fun x hx => ?_, h6⟩
    have M : Mono F m H F m (upd H s.heap.objs.size (DictO X.prog X.w s.heap.objs.size [])) := by
      refine ⟨fun _ h => h, fun b o _ h => ?_, fun b o h => ?_, fun b o u h => ?_, ⟨[], by simp⟩⟩ <;> (rw [upd_ne (ne_of_none h hf)]; exact h)
    exact is_all I1 (rP.mono M) p x hx
  refine ⟨hnew.typeIs, PySem.F.args_dict_init_2 _ _, ?_⟩
  unfold Builtin.«dict.__init__»
  refine wpAny_bind ?_
  unfold Builtin.Dict.selfAndRest
  refine wpAny_bind (wpAny_notOrdered_dict hnew.typeIs ?_)
  show wpAny _ _ (pure (s.heap.objs.size, [Value.ref a])) _ _ _
  refine wpAny_pure ?_
  show wpAny _ _ (Builtin.Dict.updateFrom "dict.__init__" s.heap.objs.size (.ref a) [] .none) _ _ _
  have tys : ∀ x ∈ xs, Shared.TypeIs { s with heap := s.heap.push { cls := .type "dict", data := .dict #[] } } (.ref x.2.1) "tuple" := fun x hx => by
    obtain ⟨o, h1, h2⟩ := keys_tup I rP p x hx
    exact ⟨o, Heap.get?_push_of_some _ h1, h2⟩
  refine updateFrom_dictH (knd := nestedKind X.prog X.w) (kvs := []) (more := xs) .none (show X.A.units + 1 + 1 + 8 < cLine from by have := G.room.un; omega) (Ne.symm hne) hsys hnew dd1 (.inr ⟨tys, nod⟩) (by simpa using hlen) fun h' hd' _ hs' => ?_
  rw [storedAllH_nil_of_nodup xs (by obtain ⟨_, _, _, _, _, _, _, _, h6⟩ := dd; exact h6)] at hd'
  refine ⟨rfl, .ref s.heap.objs.size, upd H s.heap.objs.size (DictO X.prog X.w s.heap.objs.size es), I.laid (t' := s.toks) (fun b u e => ?_) (Nat.le_refl _) (dictO_new p (by rw [beq_eq_false_iff_ne]; exact Nat.ne_of_gt I.big) hd'), rfl, q _ hf⟩
  exact (hs'.2 b (Nat.ne_of_lt (Heap.lt_size e))).trans (Heap.get?_push_of_some _ e)
theorem R_ncp {e : Expr} {f : List Sl → Store → Out D} {p pos : Pos} (G : Good L X n W) (hg : Gl X "dict") (hst : isStar e = false) (he : SndE L X W e f) :
    SndR L X W (.Call (.Name "dict" p) [e] [] pos) (fun sa st => (f sa st).bind fun d st => match d with | .dic kvs => if hashOk kvs && szOk kvs.length then .ok (.od kvs) st else .bad | _ => .bad) := fun sa st σ H H0 F m Q fr sr hn q => by
  refine PE.we (pe_callTy (cr_dcp G) hg (G.link.free "dict" (by simp)) (by rfl) (pa_cons (pe_WE X e) pa_nil (starEach_cons hst)) (by decide) (by decide) (starEach_cons hst) (by rfl)) (he sa st σ H H0 F m _ fr sr (q.bind.imp fun d st1 F1 m1 H1 e1 s1 h1 v r => ?_))
  cases r with
  | dic f1 h2 r1 =>
    simp only at h1
    split at h1
    · rename_i hh
      rw [Bool.and_eq_true] at hh
      refine ⟨_, F1, m1, _, _, rfl, h2, r1, hh.1, hh.2, fun p hp => ?_⟩
      obtain ⟨e2, s2⟩ := s1.newO (o := DictO X.prog X.w p _) hp
      have nF : ¬ F1 p := fun hF => by obtain ⟨o, ho, _⟩ := s1.live p hF; rw [hp] at ho; cases ho
      have nm : p ∉ m1 := fun hm => by obtain ⟨o, ho, _⟩ := s1.mt hm; rw [hp] at ho; cases ho
      exact h1 _ _ _ e2 s2 _ ⟨⟨p, _, rfl, upd_same, r1.mono (e2.mono s1), hn p (e1.none hp), nm, nF⟩, fun _ => ⟨p, rfl, e1.none hp⟩⟩
    · exact h1.elim
  | _ => exact h1.elim
/-- row + list, row owned -/
theorem R_cat {i : Nat} {x : Str} {e : Expr} {f : List Sl → Store → Out D} {p pos : Pos} (hN : X.N[i]? = some x) (hv : Vis X.env.scope x) (hd : (x == ("__debug__" : Str)) = false) (hcd : (x == ("__classdict__" : Str)) = false) (he : SndE L X W e f) :
    SndR L X W (.BinOp (.Name x p) .Add e pos) (fun sa st => match sa[i]? with | some (.ol ds) => ((f sa st).bind fun d st => match d with | .lst xs => if szOk (ds.length + xs.length) then .ok (.ol (ds ++ xs)) st else .bad | _ => .bad) | _ => .bad) := fun sa st σ H H0 F m Q fr sr hn q => by
  refine PE.we (pe_op op_addU (pe_var hN hv hd hcd) (pe_WE X e)) ?_
  dsimp only at q
  split at q
  · rename_i ds hi
    obtain ⟨a, vs, ha, hH, r, h0, nm, nF⟩ := fr.slot i _ hi
    refine ⟨_, ha, he sa st σ H H0 F m _ fr sr (q.bind.imp fun y st1 F1 m1 H1 e1 s1 h1 vy ry => ?_)⟩
    obtain ⟨a', vs1, ha', hH1, r1, h01, nm1, nF1⟩ := (fr.evo e1 sr).slot i _ hi
    rw [ha] at ha'; cases ha'
    cases ry with
    | lst f1 h2 r2 =>
      simp only at h1
      split at h1
      · rename_i hs
        refine .inr (.inl ⟨_, _, _, _, rfl, rfl, hH1, h2, by rw [← r1.length, ← r2.length]; exact sz_le hs, fun p hp => ?_⟩)
        obtain ⟨e2, s2⟩ := s1.newO (o := .lst (vs1 ++ _)) hp
        have nF : ¬ F1 p := fun hF => by obtain ⟨o, ho, _⟩ := s1.live p hF; rw [hp] at ho; cases ho
        have nm : p ∉ m1 := fun hm => by obtain ⟨o, ho, _⟩ := s1.mt hm; rw [hp] at ho; cases ho
        exact h1 _ _ _ e2 s2 _ ⟨⟨p, _, rfl, upd_same, (r1.append r2).mono (e2.mono s1), hn p (e1.none hp), nm, nF⟩, fun _ => ⟨p, rfl, e1.none hp⟩⟩
      · exact h1.elim
    | _ => exact h1.elim
  · exact q.elim
/-! ### a list of the store -/
theorem SR.newC {F : Addr → Prop} {H : Hp} {m : List Addr} {st : Store} {p : Addr} {ds : List D} {vs : List V} (S : SRx L X F H m st) (hp : H p = none) (hb : D.rbL 0 ds = true) (r : RelL X.prog X.w X.K F H m ds vs) :
    Evo F m H F (m ++ [p]) (upd H p (.lst vs)) ∧ SRx L X F (upd H p (.lst vs)) (m ++ [p]) (st ++ [.lst ds]) := by
  obtain ⟨e, s⟩ := S.newO (o := .lst vs) hp
  have nF : ¬ F p := fun hF => by obtain ⟨o, ho, _⟩ := S.live p hF; rw [hp] at ho; cases ho
  have nm : p ∉ m := fun hm => by obtain ⟨o, ho, _⟩ := S.mt hm; rw [hp] at ho; cases ho
  have M : Mono F m (upd H p (.lst vs)) F (m ++ [p]) (upd H p (.lst vs)) := ⟨fun _ h => h, fun _ _ _ h => h, fun _ _ h => h, fun _ _ _ h => h, ⟨[p], rfl⟩⟩
  refine ⟨⟨e.fz, ⟨[p], rfl⟩, e.keep, fun a ha => ?_, e.newF, e.live⟩, ?_⟩
  · rcases List.mem_append.mp ha with h | h
    · exact .inl h
    · rw [List.mem_singleton.mp h]; exact .inr hp
  · refine ⟨by simp [S.len], fun k c a h1 h2 => ?_, ?_, s.live, fun a ha => ?_, s.tabs, s.codes⟩
    · by_cases hk : k < st.length
      · rw [List.getElem?_append_left hk] at h1
        rw [List.getElem?_append_left (by rw [S.len]; exact hk)] at h2
        exact (s.cell k c a h1 h2).mono M rfl
      · have hk2 : k = st.length := by
          have := (List.getElem?_eq_some_iff.mp h1).1
          simp at this; omega
        subst hk2
        rw [List.getElem?_append_right (Nat.le_refl _)] at h1
        rw [List.getElem?_append_right (by rw [S.len]; exact Nat.le_refl _), S.len] at h2
        simp at h1 h2
        subst h1 h2
        exact ⟨hb, vs, upd_same, (r.mono (e.mono S)).mono M⟩
    · rw [List.nodup_append]
      refine ⟨S.nd, by simp, fun a ha b hb z => ?_⟩
      rw [List.mem_singleton.mp hb] at z
      exact nm (z ▸ ha)
    · rcases List.mem_append.mp ha with h | h
      · exact S.apart a h
      · rw [List.mem_singleton.mp h]; exact nF
theorem s_cel {es : List Expr} {os : List Sl → Store → Out (List D)} {pos : Pos} (h : SndA L X W es os) : SndE L X W (.List es pos) (fun sa st => (os sa st).bind fun xs st => if szOk xs.length && D.rbL 0 xs then .ok (.ref st.length) (st ++ [.lst xs]) else .bad) := fun sa st σ H H0 F m Q fr sr p => by
  refine PE.we (pe_lst (pa_WA X es)) (h sa st σ H H0 F m _ fr sr (p.bind.imp fun ds st1 F1 m1 H1 e1 s1 h1 vs r => ?_))
  split at h1
  · rename_i hs
    rw [Bool.and_eq_true] at hs
    refine ⟨by rw [← r.length]; exact sz_le hs.1, fun q hq => ?_⟩
    obtain ⟨e, s⟩ := SR.newC s1 hq hs.2 r
    exact h1 _ _ _ e s _ (.ref (by rw [← s1.len]; simp))
  · exact h1.elim
end
end Mn
set_option maxHeartbeats 4000000
namespace Mn
open PySem PySem.Spec PyProof.Rows L2
/-! ## the small program beside the text -/
/-- what is known of the module: the defs' names and how many parameters, the module's plain names -/
structure Sta where
  fn : Nat → Option (Str × Nat)
  gl : List (Str × D)
  ex : Bool
  tc : Bool
  mak : Nat → Option (Str × Nat)
def visB (sc : Scope) (x : Str) : Bool := match sc.names.lookup x with
  | some .local => true
  | some .cell => true
  | some .free => true
  | _ => false
def locB (sc : Scope) (x : Str) : Bool := match sc.names.lookup x with
  | some .local => true
  | some .cell => true
  | _ => false
def lclB (sc : Scope) (x : Str) : Bool := match sc.names.lookup x with
  | some .local => true
  | _ => false
def glB (sc : Scope) (x : Str) : Bool := match sc.names.lookup x with
  | some .globalImplicit => true
  | _ => false
def nodbg (x : Str) : Bool := !(x == ("__debug__" : Str)) && !(x == ("__classdict__" : Str))
def slotB (N : List Str) (sc : Scope) (i : Nat) (x : Str) : Bool := decide (N[i]? = some x) && (visB sc x && nodbg x)
def stoB (fn : Str → Bool) (N : List Str) (sc : Scope) (i : Nat) (x : Str) : Bool := decide (N[i]? = some x) && (locB sc x && (fn x || lclB sc x))
def conM : C → Const → Bool
  | .non, .none => true
  | .bl b, .bool c => b == c
  | .int i, .int j => i == j
  | .str x, .str y => decide (x = y)
  | _, _ => false
def mTgs (fn : Str → Bool) (N : List Str) (sc : Scope) : List Nat → List Expr → Bool
  | [], [] => true
  | i :: is, .Name x _ :: es => stoB fn N sc i x && mTgs fn N sc is es
  | _, _ => false
def mTg (fn : Str → Bool) (N : List Str) (sc : Scope) (t : Tg) (e : Expr) : Bool := match t, e with
  | .nm i, .Name x _ => stoB fn N sc i x
  | .tp is, .Tuple es _ _ => mTgs fn N sc is es
  | _, _ => false
def ownP (N : List Str) (own : List Nat) : List (Str × Nat) := own.map fun i => ((N[i]?).getD "", i)
def cellB (scope : Scope) (x : Str) : Bool := scope.names.lookup x == some .cell
def isTupE : Expr → Bool
  | .Tuple _ _ _ => true
  | _ => false
def blkM (N : List Str) (sc scope : Scope) (own : List Nat) (t : Tg) (tg iter : Expr) : Bool :=
  blkC N sc scope (ownP N own) && (mTg (cellB scope) N (relS scope sc) t tg && (t.slots.all (fun i => own.contains i) && !isSet iter))
/-- a test that has no form of its own -/
def tstOk (tst : Bool) : E → Expr → Bool
  | .bor _ a, e => tstOk tst a e
  | .hole, _ | .not _, _ | .and _, _ | .or _, _ | .cmp _ _ _, _ | .chn _ _ _ _ _, _ => true
  | _, e => !tst || plainTest e
/-- no parameter -/
def noPar : Arguments → Bool
  | ⟨[], [], none, [], [], none, []⟩ => true
  | _ => false
def mAr (N : List Str) (sc : Scope) (a : Ar) (e : Expr) : Bool := match a, e with
  | .v i, .Name x _ => slotB N sc i x
  | .c c, .Constant k _ _ => conM c k
  | _, _ => false
def mArs (N : List Str) (sc : Scope) : List Ar → List Expr → Bool
  | [], [] => true
  | a :: as, e :: es => mAr N sc a e && mArs N sc as es
  | _, _ => false
def mTk (Z : Sta) (N : List Str) (sc : Scope) (k : Tk) (as : List Ar) (e : Expr) : Bool := match e with
  | .Call (.Name x _) (a :: args) [] _ => (match k with
    | .fn f => decide (Z.fn f = some (x, (a :: args).length))
    | .mk f => decide (Z.mak f = some (x, (a :: args).length))) && (glB sc x && (nodbg x && mArs N sc as (a :: args)))
  | _ => false
section
variable (Z : Sta) (N : List Str)
mutual
def mE (tst : Bool) : E → Scope → Expr → Bool
  | .hole, _, _ => true
  | .var i, sc, e => match e with
    | .Name x _ => slotB N sc i x
    | _ => false
  | .con c, _, e => match e with
    | .Constant k _ _ => conM c k
    | _ => false
  | .glb x d, sc, e => match e with
    | .Name y _ => decide (x = y) && (glB sc y && (Z.gl.contains (x, d) && nodbg y))
    | _ => false
  | .bin o a b, sc, e => match e with
    | .BinOp x op y _ => opM o op && (mE false a sc x && mE false b sc y)
    | _ => false
  | .neg a, sc, e => match e with
    | .UnaryOp .USub x _ => mE false a sc x
    | _ => false
  | .not a, sc, e => match e with
    | .UnaryOp .Not x _ => tstOk tst a x && mE tst a sc x
    | _ => false
  | .and es, sc, e => match e with
    | .BoolOp .And (x :: xs) _ => mEs tst es sc (x :: xs)
    | _ => false
  | .or es, sc, e => match e with
    | .BoolOp .Or (x :: xs) _ => mEs tst es sc (x :: xs)
    | _ => false
  | .cmp o a b, sc, e => match e with
    | .Compare x [op] [y] _ => cmM o op && (!behindInMarks op y && (mE false a sc x && mE false b sc y))
    | _ => false
  | .chn o p a b c, sc, e => match e with
    | .Compare x [op, op2] [y, z] _ => cmM o op && (cmM p op2 && (!behindInMarks op2 z && (mE false a sc x && (mE false b sc y && mE false c sc z))))
    | _ => false
  | .ite c a b, sc, e => match e with
    | .IfExp x y z _ => !tst && ((tstOk true c x && mE true c sc x) && (mE false a sc y && mE false b sc z))
    | _ => false
  | .tup es, sc, e => match e with
    | .Tuple xs _ _ => mEs false es sc xs
    | _ => false
  | .lst es, sc, e => match e with
    | .List xs _ => mEs false es sc xs
    | _ => false
  | .cel es, sc, e => match e with
    | .List xs _ => mEs false es sc xs
    | _ => false
  | .idx a i, sc, e => match e with
    | .Subscript x y _ => !isSlice y && (mE false a sc x && mE false i sc y)
    | _ => false
  | .slc a lo hi, sc, e => match e with
    | .Subscript x (.Slice l h none _) _ => mE false a sc x && (mO lo sc l && mO hi sc h)
    | _ => false
  | .call f es, sc, e => match e with
    | .Call (.Name x _) (a :: args) [] _ => decide (Z.fn f = some (x, (a :: args).length)) && (glB sc x && (nodbg x && mEs false es sc (a :: args)))
    | _ => false
  | .bi b es, sc, e => match b with
    | .listRng => match e with
      | .Call (.Name x _) [.Call (.Name y _) args [] _] [] _ => decide (x = "list") && (decide (y = "range") && (glB sc x && (glB sc y && (mEs false es sc args && (args.length == 1 || args.length == 2)))))
      | _ => false
    | b => match e with
      | .Call (.Name x _) (a :: args) [] _ => match biT b with
        | some (nm, _) => decide (x = Str.ofString nm) && (glB sc x && mEs false es sc (a :: args))
        | none => false
      | _ => false
  | .isi a t, sc, e => match e with
    | .Call (.Name x _) [y, .Name z _] [] _ => decide (x = "isinstance") && (decide (z = Str.ofString (tyN t)) && (glB sc x && (glB sc z && (!isStar y && mE false a sc y))))
    | _ => false
  | .get2 a k d, sc, e => match e with
    | .Call (.Attribute o x apos) [y, z] [] cpos => decide (x = "get") && (!isCallE o && (!isStar y && (!isStar z && ((apos.endLine == cpos.line) && (mE false a sc o && (mE false k sc y && mE false d sc z))))))
    | _ => false
  | .odx i k, sc, e => match e with
    | .Subscript (.Name x _) y _ => slotB N sc i x && (!isSlice y && mE false k sc y)
    | _ => false
  | .lc own t it el, sc, e => match e with
    | .ListComp elt [⟨tg, iter, [], 0⟩] scope _ => blkM N sc scope own t tg iter && (mI it sc tg iter && mE false el (relS scope sc) elt)
    | _ => false
  | .lcf own t it el cnd, sc, e => match e with
    | .ListComp elt [⟨tg, iter, [c], 0⟩] scope _ => blkM N sc scope own t tg iter && (mI it sc tg iter && (mE false el (relS scope sc) elt && (tstOk true cnd c && mE true cnd (relS scope sc) c)))
    | _ => false
  | .emd, _, e => match e with
    | .Dict [] [] _ => true
    | _ => false
  | .told k as, sc, e => match e with
    | .Call (.Name x _) [.Lambda params body scope _] [] _ => decide (x = "_law_told") && (glB sc x && (Z.tc && (noPar params && (LamX.lamSB sc scope && mTk Z N scope k as body))))
    | _ => false
  | .bor _ a, sc, e => mE tst a sc e
  | .cnt a k, sc, e => match e with
    | .Call (.Attribute o x apos) [y] [] cpos => decide (x = "count") && (!isCallE o && (!isStar y && ((apos.endLine == cpos.line) && (mE false a sc o && mE false k sc y))))
    | _ => false
  | .rev a, sc, e => match e with
    | .Subscript x (.Slice none none (some (.UnaryOp .USub (.Constant (.int i) _ _) _)) _) _ => (i == 1) && mE false a sc x
    | _ => false
def mEs (tst : Bool) : Es → Scope → List Expr → Bool
  | .nil, _, xs => match xs with
    | [] => true
    | _ => false
  | .cons e es, sc, xs => match xs with
    | x :: xs => (tstOk tst e x && mE tst e sc x) && (!isStar x && mEs tst es sc xs)
    | [] => false
def mO : Eo → Scope → Option Expr → Bool
  | .no, _, e => match e with
    | none => true
    | _ => false
  | .so a, sc, e => match e with
    | some x => mE false a sc x
    | none => false
def mI : It → Scope → Expr → Expr → Bool
  | .ov a, sc, _, e => mE false a sc e
  | .r1 a, sc, _, e => match e with
    | .Call (.Name x _) [y] [] _ => decide (x = "range") && (glB sc x && (!isStar y && mE false a sc y))
    | _ => false
  | .r2 a b, sc, _, e => match e with
    | .Call (.Name x _) [y, z] [] _ => decide (x = "range") && (glB sc x && (!isStar y && (!isStar z && (mE false a sc y && mE false b sc z))))
    | _ => false
  | .r3 _ _ _, _, _, _ => false
  | .zp a b, sc, tg, e => match e with
    | .Call (.Name x _) [y, z] [] _ => decide (x = "zip") && (glB sc x && (isTupE tg && (!isStar y && (!isStar z && (mE false a sc y && mE false b sc z)))))
    | _ => false
  | .en a, sc, tg, e => match e with
    | .Call (.Name x _) [y] [] _ => decide (x = "enumerate") && (glB sc x && (isTupE tg && (!isStar y && mE false a sc y)))
    | _ => false
end
def mR : R → Scope → Expr → Bool
  | .pl a, sc, e => mE Z N false a sc e
  | .nl es, sc, e => match e with
    | .List xs _ => mEs Z N false es sc xs
    | _ => false
  | .nd, _, e => match e with
    | .Dict [] [] _ => true
    | _ => false
  | .ndc own t it k v, sc, e => match e with
    | .DictComp kx vx [⟨tg, iter, [], 0⟩] scope _ => blkM N sc scope own t tg iter && (mI Z N it sc tg iter && (mE Z N false k (relS scope sc) kx && mE Z N false v (relS scope sc) vx))
    | _ => false
  | .ncp a, sc, e => match e with
    | .Call (.Name x _) [y] [] _ => decide (x = "dict") && (glB sc x && (!isStar y && mE Z N false a sc y))
    | _ => false
  | .cat i a, sc, e => match e with
    | .BinOp (.Name x _) .Add y _ => slotB N sc i x && mE Z N false a sc y
    | _ => false
def mRs : List R → Scope → List Expr → Bool
  | [], _, [] => true
  | r :: rs, sc, x :: xs => mR Z N r sc x && (!isStar x && mRs rs sc xs)
  | _, _, _ => false
def S.isFrz : S → Bool
  | .frz _ => true
  | _ => false
def nmLine : Expr → Nat
  | .Name _ p => p.line
  | _ => 0
def swB (sc : Scope) (ts vs : List Expr) : Bool := !(vs.all (foldedForSure 8)) && (!(vs.all (constantsAlone 8)))
def swNone (e : Expr) : Bool := match e with
  | .Tuple vs _ _ => vs.all (foldedForSure 8)
  | _ => true
/-- a name that is no plain local, or many names: the tuple is made and parted -/
def swOut (sc : Scope) (ts : List Expr) : Bool := decide (3 < ts.length) || ts.any fun t => match t with
  | .Name x _ => cellB sc x
  | _ => false
mutual
def mS : S → Scope → Stmt → Bool
  | .hole, _, _ => true
  | .frz _, _, _ => false
  | .asg i r, sc, s => match s with
    | .Assign [.Name x _] e _ => stoB (fun _ => true) N sc i x && ((!isComp e || cellB sc x) && mR Z N r sc e)
    | _ => false
  | .asgC i r, sc, s => match r with
    | .pl (.lc own t it el) => match s with
      | .Assign [.Name x px] (.ListComp elt [⟨tg, iter, [], 0⟩] scope pos) _ => decide (N[i]? = some x) && (lclB sc x && ((px.line == pos.line) && (!(scope.names.any fun (n, k) => n == x && (k == .local || k == .cell)) && (blkM N sc scope own t tg iter && (mI Z N it sc tg iter && mE Z N false el (relS scope sc) elt)))))
      | _ => false
    | .pl (.lcf own t it el cnd) => match s with
      | .Assign [.Name x px] (.ListComp elt [⟨tg, iter, [c], 0⟩] scope pos) _ => decide (N[i]? = some x) && (lclB sc x && ((px.line == pos.line) && (!(scope.names.any fun (n, k) => n == x && (k == .local || k == .cell)) && (blkM N sc scope own t tg iter && (mI Z N it sc tg iter && (mE Z N false el (relS scope sc) elt && (tstOk true cnd c && mE Z N true cnd (relS scope sc) c)))))))
      | _ => false
    | _ => false
  | .asgP is rs, sc, s => match s with
    | .Assign [.Tuple ts _ _] (.Tuple es _ _) _ => match is, ts with
      | [i, j], [.Name x px, .Name y py] => decide (N[i]? = some x) && (decide (N[j]? = some y) && (!(i == j) && (!decide (x = y) && (lclB sc x && (lclB sc y && ((py.line == px.line) && (swB sc ts es && (es.length == 2 && mRs Z N rs sc es))))))))
      | [i, j, k], [.Name x px, .Name y py, .Name z pz] => decide (N[i]? = some x) && (decide (N[j]? = some y) && (decide (N[k]? = some z) && (!(i == j) && (!(i == k) && (!(j == k) && (!decide (x = y) && (!decide (x = z) && (!decide (y = z) && (lclB sc x && (lclB sc y && (lclB sc z && ((py.line == px.line) && ((pz.line == px.line) && (swB sc ts es && (es.length == 3 && mRs Z N rs sc es)))))))))))))))
      | _, _ => false
    | _ => false
  | .asgQ is rs, sc, s => match s with
    | .Assign [.Tuple ts k p] (.Tuple es _ _) _ => mTgs (fun _ => true) N sc is ts && (swOut sc ts && ((is.length == es.length) && mRs Z N rs sc es))
    | _ => false
  | .asgT is a, sc, s => match s with
    | .Assign [.Tuple ts k p] e _ => mTgs (fun _ => true) N sc is ts && (swNone e && mE Z N false a sc e)
    | _ => false
  | .app i a, sc, s => match s with
    | .Expr (.Call (.Attribute (.Name x _) y apos) [e] [] cpos) _ => decide (y = "append") && (slotB N sc i x && (!isStar e && ((apos.endLine == cpos.line) && mE Z N false a sc e)))
    | _ => false
  | .setR i k a, sc, s => match s with
    | .Assign [.Subscript (.Name x _) y _] e _ => slotB N sc i x && (!isSlice y && (mE Z N false k sc y && mE Z N false a sc e))
    | _ => false
  | .setD i k a, sc, s => match s with
    | .Assign [.Subscript (.Name x _) y _] e _ => slotB N sc i x && (!isSlice y && (mE Z N false k sc y && mE Z N false a sc e))
    | _ => false
  | .popT i j a, sc, s => match s with
    | .Assign [.Name x _] (.Call (.Attribute (.Name y _) z apos) [e] [] cpos) _ => decide (z = "pop") && (stoB (fun _ => true) N sc i x && (slotB N sc j y && (!isStar e && ((apos.endLine == cpos.line) && mE Z N false a sc e))))
    | _ => false
  | .rem i a, sc, s => match s with
    | .Expr (.Call (.Attribute (.Name x _) y apos) [e] [] cpos) _ => decide (y = "remove") && (slotB N sc i x && (!isStar e && ((apos.endLine == cpos.line) && mE Z N false a sc e)))
    | _ => false
  | .ex a, sc, s => match s with
    | .Expr e _ => !isComp e && mE Z N false a sc e
    | _ => false
  | .ret a, sc, s => match s with
    | .Return (some e) _ => mE Z N false a sc e
    | _ => false
  | .ifs c a b, sc, s => match s with
    | .If x y z _ => mE Z N true c sc x && (tstOk true c x && (mSs a sc y && mSs b sc z))
    | _ => false
  | .for_ t it b, sc, s => match s with
    | .For tg iter body [] _ => mTg (fun _ => true) N sc t tg && (mI Z N it sc tg iter && (!isSet iter && mSs b sc body))
    | _ => false
  | .whl c b, sc, s => match s with
    | .While x y [] _ => mE Z N true c sc x && (tstOk true c x && mSs b sc y)
    | _ => false
  | .brk, _, s => match s with
    | .Break _ => true
    | _ => false
  | .pass, _, s => match s with
    | .Pass _ => true
    | _ => false
  | .raise c, sc, s => match s with
    | .Raise (some (.Call (.Name x _) [.Constant (.str _) _ _] [] _)) none _ => Z.ex && (decide (c < 13) && (decide (x = exN c) && (glB sc x && nodbg x)))
    | _ => false
def mSs : List S → Scope → List Stmt → Bool
  | [], _, ss => match ss with
    | [] => true
    | _ => false
  | r :: rs, sc, ss => match r.isFrz with
    | true => mSs rs sc ss
    | false => match ss with
      | s :: ss => mS r sc s && mSs rs sc ss
      | [] => false
end
end
end Mn
set_option maxHeartbeats 4000000
namespace Mn
open PySem PySem.Spec PyProof.Rows L2 LamX
section
variable {P : Program} {w : World} {K : PySem.W.Frag} {T : List (Addr × Str)} {F : Addr → Prop} {H H1 : Hp} {m : List Addr} {st : Store}
theorem SR.lam {p : Addr} {q : Str} (S : SR P w K T F H m st) (lh : LamH H H1 p q) (T1 : Tabs T H1) : ∃ F1, Evo F m H F1 m H1 ∧ SR P w K T F1 H1 m st := by
  rcases lh with rfl | ⟨ps, more, c, hP, hc, rfl, hcode⟩
  · exact ⟨F, Evo.refl, S⟩
  have at_ : ∀ a o, H a = some o → (∀ ps, o ≠ .tbl ps) → upd (upd H p (.tbl (ps ++ more))) c (CodeO c q) a = some o := fun a o h n => by
    rw [upd_ne (ne_of_none h hc), upd_ne (fun z => n ps (Option.some.inj (h.symm.trans (by rw [z]; exact hP))))]
    exact h
  have e : Evo F m H (addF F c) m (upd (upd H p (.tbl (ps ++ more))) c (CodeO c q)) := by
    refine ⟨fun a h => .inl h, ⟨[], by simp⟩, fun a o h _ n => at_ a o h n, fun a h => .inl h, fun a h => h.elim .inl fun z => by rw [z]; exact .inr hc, fun a o h => ?_⟩
    rw [upd_ne (ne_of_none h hc)]
    by_cases z : a = p
    · subst z; exact ⟨_, upd_same⟩
    · exact ⟨o, by rw [upd_ne z]; exact h⟩
  refine ⟨addF F c, e, S.len, fun n cc a h1 h2 => ?_, S.nd, fun a h => ?_, fun a ha h => ?_, T1, fun r hr qs hqs pos d hd => ?_⟩
  · obtain ⟨o, ho, t⟩ := S.mt (List.mem_of_getElem? h2)
    exact (S.cell n cc a h1 h2).mono (e.mono S) (by rw [at_ a o ho t.tbl, ho])
  · rcases h with h | h
    · obtain ⟨o, ho, t⟩ := S.live a h
      exact ⟨o, at_ a o ho t.tbl, t⟩
    · rw [h]; exact ⟨_, upd_same, True.intro⟩
  · rcases h with h | h
    · exact S.apart a ha h
    · obtain ⟨o, ho, t⟩ := S.mt ha
      rw [h, hc] at ho; cases ho
  · by_cases z : r.1 = c
    · rw [z, upd_same] at hqs
      cases hqs
    · rw [upd_ne z] at hqs
      by_cases z2 : r.1 = p
      · rw [z2, upd_same] at hqs
        cases hqs
        rcases hcode pos _ hd with y | y
        · exact .inl (S.codes r hr ps (by rw [z2]; exact hP) pos d y)
        · cases y; exact .inr rfl
      · rw [upd_ne z2] at hqs
        exact .inl (S.codes r hr qs hqs pos d hd)
theorem SR.ext (S : SR P w K T F H m st) (h : ∀ b o, H b = some o → H1 b = some o) : Evo F m H F m H1 ∧ SR P w K T F H1 m st := by
  have e : Evo F m H F m H1 := ⟨fun _ h => h, ⟨[], by simp⟩, fun a o ha _ _ => h a o ha, fun a h => .inl h, fun a h => .inl h, fun a o ha => ⟨o, h a o ha⟩⟩
  refine ⟨e, S.len, fun n cc a h1 h2 => ?_, S.nd, fun a ha => ?_, S.apart, S.tabs.ext h, fun r hr qs hqs pos d hd => ?_⟩
  · obtain ⟨o, ho, t⟩ := S.mt (List.mem_of_getElem? h2)
    exact (S.cell n cc a h1 h2).mono (e.mono S) (by rw [h a o ho, ho])
  · obtain ⟨o, ho, t⟩ := S.live a ha
    exact ⟨o, h a o ho, t⟩
  · obtain ⟨ps, h1, _⟩ := S.tabs r hr
    rw [h _ _ h1] at hqs
    cases hqs
    exact S.codes r hr _ h1 pos d hd
end
section
variable {L : Lk} {X : Cx} {W : WX} {n : Nat}
/-- a lambda's reading in its own context -/
def LamR (L : Lk) (X : Cx) (n : Nat) (scope : Scope) (body : Expr) (o : List Sl → Store → Out D) : Prop := ∀ (A : Around) (outer : List Env) (s : Shared) (H1 : Hp) (E : XK) (f c' : Addr), Room (4 * n + 1) (A.deeper (lamEnv X scope s.heap.objs.size f c')) →
  SndE L (lamN X A outer s H1 E scope f c') (fun cls d _ H' => E cls d H') body o
theorem noPar_by {params : Arguments} (h : noPar params = true) : params = ⟨[], [], none, [], [], none, []⟩ := by
  unfold noPar at h
  split at h
  · rfl
  · cases h
theorem s_told {params : Arguments} {body : Expr} {scope : Scope} {p lpos pos : Pos} {o : List Sl → Store → Out D} (G : Good L X n W) (tc : L.tc = true) (hg : Gl X "_law_told") (hp : noPar params = true) (hs : lamSB X.env.scope scope = true) (hb : LamR L X n scope body o) :
    SndE L X W (.Call (.Name "_law_told" p) [.Lambda params body scope lpos] [] pos) (fun sa st => toldO (o sa st)) := fun sa st σ H H0 F m Q fr sr q => by
  have hp := noPar_by hp
  subst hp
  obtain ⟨ce, ft, fdt, pt, bt, sct, g, fdg, pg, bg, sg, C, TD, DD⟩ := G.link.told tc
  have cap := G.cap tc
  obtain ⟨c, P, TB, hcode, hmT, hu⟩ := cap.tab
  refine w_told (k := 4 * n + 1) C TD DD hg TB hcode hmT hu cap.room (lamS_by hs) rfl (fun _ _ _ _ _ => rfl) sr.tabs fun H1 lh T1 f c' A outer s hr => ?_
  obtain ⟨F1, e1, s1⟩ := sr.lam lh T1
  refine hb A outer s H1 (EX L.cl Q) f c' hr sa st σ H1 H0 F1 m Q (fr.evo e1 sr) s1 ?_
  dsimp only at q
  cases ho : o sa st with
  | bad => rw [ho] at q; exact q
  | ok d st2 => rw [ho] at q; exact fun H' F' m' e s2 v r => q H' F' m' (e1.trans e) s2 v r
  | exc c st2 =>
    rw [ho] at q
    unfold toldO at q
    dsimp only at q
    split at q
    · rename_i hc
      refine fun H' F' m' e s2 => ⟨c, hc, rfl, rfl, fun H'' t hx hn ht => ?_⟩
      obtain ⟨e3, s3⟩ := s2.ext hx
      exact q H'' F' m' ((e1.trans e).trans e3) s3 (.ref t) (.tup (.inl ht) (.cons (.str _) (.cons (.str _) .nil)))
    · exact q.elim
end
end Mn
set_option maxHeartbeats 4000000
namespace Mn
open PySem PySem.Spec PyProof.Rows L2
/-! ## what matches is read -/
structure StaOk (L : Lk) (Z : Sta) : Prop where
  fn : ∀ f x k, Z.fn f = some (x, k) → L.on f = true ∧ x = L.nm f ∧ (L.ps f).length = k
  gl : ∀ p ∈ Z.gl, p ∈ L.gl
  ex : Z.ex = true → L.ex = true
  tc : Z.tc = true → L.tc = true
  mak : ∀ f x k, Z.mak f = some (x, k) → L.om f = true ∧ x = L.cn f ∧ (L.ps f).length = k + 1
theorem glB_by {sc : Scope} {x : Str} (h : glB sc x = true) : sc.names.lookup x = some .globalImplicit := by
  unfold glB at h
  split at h
  · assumption
  · cases h
def SndB (tst : Bool) (L : Lk) (X : Cx) (W : WX) (e : Expr) (o : List Sl → Store → Out D) : Prop := match tst with
  | true => SndT L X W e o
  | false => SndE L X W e o
def Es.len : Es → Nat
  | .nil => 0
  | .cons _ es => es.len + 1
section
variable {L : Lk} {X : Cx} {W : WX} {n : Nat}
theorem SndE.of {e : Expr} {o o' : List Sl → Store → Out D} (h : SndE L X W e o) (k : ∀ sa st, o' sa st = o sa st) : SndE L X W e o' := by
  have : o' = o := funext fun sa => funext fun st => k sa st
  rw [this]; exact h
theorem SndT.of {e : Expr} {o o' : List Sl → Store → Out D} (h : SndT L X W e o) (k : ∀ sa st, o' sa st = o sa st) : SndT L X W e o' := by
  have : o' = o := funext fun sa => funext fun st => k sa st
  rw [this]; exact h
theorem SndA.of {e : List Expr} {o o' : List Sl → Store → Out (List D)} (h : SndA L X W e o) (k : ∀ sa st, o' sa st = o sa st) : SndA L X W e o' := by
  have : o' = o := funext fun sa => funext fun st => k sa st
  rw [this]; exact h
theorem SndO.of {e : Option Expr} {o o' : List Sl → Store → Out (Option Int)} (h : SndO L X W e o) (k : ∀ sa st, o' sa st = o sa st) : SndO L X W e o' := by
  have : o' = o := funext fun sa => funext fun st => k sa st
  rw [this]; exact h
theorem SndI.of {tg e : Expr} {o o' : List Sl → Store → Out (List D)} (h : SndI L X W tg e o) (k : ∀ sa st, o' sa st = o sa st) : SndI L X W tg e o' := by
  have : o' = o := funext fun sa => funext fun st => k sa st
  rw [this]; exact h
theorem SndR.of {e : Expr} {o o' : List Sl → Store → Out Sl} (h : SndR L X W e o) (k : ∀ sa st, o' sa st = o sa st) : SndR L X W e o' := by
  have : o' = o := funext fun sa => funext fun st => k sa st
  rw [this]; exact h
theorem SndS.of {e0 : Ent} {e : Stmt} {o o' : List Sl → Store → Fl} (h : SndS L X W e0 e o) (k : ∀ sa st, o' sa st = o sa st) : SndS L X W e0 e o' := by
  have : o' = o := funext fun sa => funext fun st => k sa st
  rw [this]; exact h
theorem SndSs.of {e0 : Ent} {e : List Stmt} {o o' : List Sl → Store → Fl} (h : SndSs L X W e0 e o) (k : ∀ sa st, o' sa st = o sa st) : SndSs L X W e0 e o' := by
  have : o' = o := funext fun sa => funext fun st => k sa st
  rw [this]; exact h
theorem SndB.plain {tst : Bool} {e : Expr} {o : List Sl → Store → Out D} (hp : (!tst || plainTest e) = true) (h : SndE L X W e o) : SndB tst L X W e o := by
  cases tst with
  | false => exact h
  | true => exact t_val (by simpa using hp) h
theorem vis_by {sc : Scope} {x : Str} (h : visB sc x = true) : Vis sc x := by
  unfold visB at h
  split at h <;> first | exact .inl (by assumption) | exact .inr (.inl (by assumption)) | exact .inr (.inr (by assumption)) | cases h
theorem loc_by {sc : Scope} {x : Str} (h : locB sc x = true) : Loc sc x := by
  unfold locB at h
  split at h <;> first | exact .inl (by assumption) | exact .inr (by assumption) | cases h
theorem lcl_by {sc : Scope} {x : Str} (h : lclB sc x = true) : sc.names.lookup x = some .local := by
  unfold lclB at h
  split at h <;> first | assumption | cases h
theorem gl_by {x : Str} (h : glB X.env.scope x = true) : Gl X x := by
  unfold glB at h
  split at h <;> first | assumption | cases h
theorem nodbg_by {x : Str} (h : nodbg x = true) : (x == ("__debug__" : Str)) = false ∧ (x == ("__classdict__" : Str)) = false := by
  unfold nodbg at h
  simpa using h
theorem slot_by {i : Nat} {x : Str} (h : slotB X.N X.env.scope i x = true) : X.N[i]? = some x ∧ Vis X.env.scope x ∧ (x == ("__debug__" : Str)) = false ∧ (x == ("__classdict__" : Str)) = false := by
  unfold slotB at h
  rw [Bool.and_eq_true, Bool.and_eq_true] at h
  obtain ⟨h1, h2, h3⟩ := h
  exact ⟨of_decide_eq_true h1, vis_by h2, nodbg_by h3⟩
theorem sto_by {i : Nat} {x : Str} (h : stoB X.fn X.N X.env.scope i x = true) : X.N[i]? = some x ∧ Loc X.env.scope x ∧ (X.fn x = true ∨ X.env.scope.names.lookup x = some .local) := by
  unfold stoB at h
  rw [Bool.and_eq_true, Bool.and_eq_true, Bool.or_eq_true] at h
  obtain ⟨h1, h2, h3⟩ := h
  exact ⟨of_decide_eq_true h1, loc_by h2, h3.imp id lcl_by⟩
theorem notStar {x : Expr} (h : (!isStar x) = true) : isStar x = false := by simpa using h
theorem asgEach_names {env : Env} : ∀ {is : List Nat} {es : List Expr} {fn : Str → Bool} {N : List Str} {sc : Scope}, mTgs fn N sc is es = true → (assignEach es env).length = is.length ∧ (assignEach es env).findIdx? (·.1) = none
  | [], [], _, _, _, _ => ⟨rfl, rfl⟩
  | i :: is, .Name x p :: es, fn, N, sc, h => by
    rw [mTgs, Bool.and_eq_true] at h
    obtain ⟨h1, h2⟩ := asgEach_names (env := env) h.2
    have e : assignEach (.Name x p :: es) env = (false, assign (.Name x p) env) :: assignEach es env := rfl
    rw [e]
    refine ⟨by simp [h1], ?_⟩
    rw [List.findIdx?_cons]
    simp [h2]
  | [], _ :: _, _, _, _, h => by simp [mTgs] at h
  | _ :: _, [], _, _, _, h => by simp [mTgs] at h
theorem pgs_by (hnd : X.N.Nodup) : ∀ {is : List Nat} {es : List Expr}, mTgs X.fn X.N X.env.scope is es = true → PGs X es (gNames is)
  | [], [], _ => pgs_nil
  | i :: is, .Name x p :: es, h => by
    rw [mTgs, Bool.and_eq_true] at h
    obtain ⟨h1, h2, h3⟩ := sto_by h.1
    exact pgs_cons (pg_name hnd h1 h2 h3) (pgs_by hnd h.2) rfl
  | [], _ :: _, h => by simp [mTgs] at h
  | _ :: _, [], h => by simp [mTgs] at h
theorem pg_by (hnd : X.N.Nodup) (hc : X.calm = true) {t : Tg} {e : Expr} (h : mTg X.fn X.N X.env.scope t e = true) : PG X e (gT X.K t) := by
  unfold mTg at h
  split at h
  · obtain ⟨h1, h2, h3⟩ := sto_by h
    exact pg_name hnd h1 h2 h3
  · obtain ⟨h1, h2⟩ := asgEach_names (env := X.env) h
    exact pg_tup hc (pgs_by hnd h) h1 h2
  · cases h
theorem Good.blk (G : Good L X n W) (s : Shared) (H : Hp) (scope : Scope) (ce : Env) (fp : List Addr) (hq : ce.qual = X.env.qual := by rfl) (hcd : ce.code = X.env.code := by rfl) : Good L (X.blk s H scope ce fp) n W0 :=
  ⟨⟨G.room, G.calm, G.nd, fun u s' ⟨a, B, sI, pins, σ, H, cls, d, e, I, nb, up, sky, na, os, ag, w⟩ => w, G.link⟩, fun z => ⟨(G.cap z).room, by
    obtain ⟨c, P, h1, h2, h3, h4⟩ := (G.cap z).tab
    exact ⟨c, P, h1, hcd.trans h2, by show (P, ce.qual ++ "<lambda>") ∈ L.T; rw [hq]; exact h3, by show ∀ p ∈ L.T, p.1 = P → p.2 = ce.qual ++ "<lambda>"; rw [hq]; exact h4⟩⟩⟩
end
end Mn
set_option maxHeartbeats 4000000
namespace Mn
open PySem PySem.Spec PyProof.Rows L2 LamX
section
variable {L : Lk} {X : Cx} {W : WX} {n : Nat}
theorem s_ar {a : Ar} {e : Expr} (h : mAr X.N X.env.scope a e = true) : SndE L X W e (fun sa st => .of (evAr sa a) st) := by
  unfold mAr at h
  split at h
  · obtain ⟨h1, h2, h3, h4⟩ := slot_by h
    refine (s_var h1 h2 h3 h4).of fun sa st => ?_
    rename_i i _ _
    show Out.of (match sa[i]? with | some (.val d) => some d | _ => none) st = _
    cases sa[i]? with
    | none => rfl
    | some z => cases z <;> rfl
  · rename_i c k j pos
    have hs : SndE L X W (.Constant k j pos) (fun _ st => .ok c.d st) := by
      refine s_con ⟨j, pos, ?_⟩
      cases c <;> cases k <;> simp_all [conM]
    exact hs.of fun sa st => rfl
  · cases h
theorem ar_star {N : List Str} {sc : Scope} {a : Ar} {e : Expr} (h : mAr N sc a e = true) : isStar e = false := by
  unfold mAr at h
  split at h
  · rfl
  · rfl
  · cases h
theorem s_ars : ∀ {as : List Ar} {es : List Expr}, mArs X.N X.env.scope as es = true → SndA L X W es (fun sa st => .of (evArs sa as) st) ∧ (∀ e ∈ es, isStar e = false) ∧ as.length = es.length
  | [], [], _ => ⟨s_nil.of fun sa st => rfl, fun e he => (nomatch he), rfl⟩
  | [], _ :: _, h => by cases h
  | _ :: _, [], h => by cases h
  | a :: as, e :: es, h => by
    unfold mArs at h
    simp only [Bool.and_eq_true] at h
    obtain ⟨h1, h2, h3⟩ := s_ars h.2
    refine ⟨(s_cons (s_ar h.1) h1 (ar_star h.1)).of fun sa st => ?_, fun x hx => ?_, by simp [h3]⟩
    · have eq : evArs sa (a :: as) = match evAr sa a, evArs sa as with
          | some d, some ds => some (d :: ds)
          | _, _ => none := by
        first
        | (rw [evArs]; done)
        | (rw [evArs]
           generalize evAr sa a = u
           generalize evArs sa as = v
           cases u <;> cases v <;> rfl)
      rw [eq]
      generalize evAr sa a = u
      generalize evArs sa as = v
      cases u <;> cases v <;> rfl
    · rcases List.mem_cons.mp hx with z | z
      · rw [z]; exact ar_star h.1
      · exact h2 x z
theorem evArs_len {sa : List Sl} : ∀ {as : List Ar} {ds : List D}, evArs sa as = some ds → ds.length = as.length
  | [], ds, h => by cases h; rfl
  | a :: as, ds, h => by
    unfold evArs at h
    split at h
    · rename_i d ds' h1 h2
      cases h
      simp [evArs_len h2]
    · cases h
theorem good_lam (G : Good L X n W) {scope : Scope} {A : Around} {outer : List Env} {s : Shared} {H1 : Hp} {E : XK} {f c' : Addr} (hr : Room (4 * n + 1) (A.deeper (lamEnv X scope s.heap.objs.size f c'))) : Good0 L (lamN X A outer s H1 E scope f c') n (fun cls d _ H' => E cls d H') :=
  ⟨hr.mono (by omega), rfl, G.nd, L2N.takes_of (E := E) rfl rfl rfl rfl, G.link⟩
theorem s_lamFn {scope : Scope} {x : Str} {p pos : Pos} {a : Expr} {args : List Expr} {f bs : Nat} {as : List Ar} (G : Good L X n W) (hon : L.on f = true) (hx : x = L.nm f) (hg : scope.names.lookup x = some .globalImplicit) (hdb : (x == ("__debug__" : Str)) = false) (hl : (L.ps f).length = (a :: args).length) (h : mArs X.N scope as (a :: args) = true) :
    LamR L X n scope (.Call (.Name x p) (a :: args) [] pos) (fun sa st => match evArs sa as with | some ds => run L.G L.wf n bs f ds st | none => .bad) := by
  intro A outer s H1 E f' c' hr
  have G0 := good_lam (E := E) (outer := outer) (H1 := H1) G hr
  obtain ⟨h1, h2, h3⟩ := s_ars (L := L) (X := lamN X A outer s H1 E scope f' c') (W := fun cls d _ H' => E cls d H') h
  refine (s_call (bs := bs) G0 hon hx hg hdb h2 h1 (fun sa st ds st' z => ?_)).of fun sa st => ?_
  · cases e : evArs sa as with
    | none => rw [e] at z; cases z
    | some ds' =>
      rw [e] at z
      cases z
      rw [evArs_len e, h3, hl]
  · cases evArs sa as with
    | none => rfl
    | some ds => rfl
theorem s_lamMk {scope : Scope} {x : Str} {p pos : Pos} {a : Expr} {args : List Expr} {f bs : Nat} {as : List Ar} (G : Good L X n W) (hon : L.om f = true) (hx : x = L.cn f) (hg : scope.names.lookup x = some .globalImplicit) (hdb : (x == ("__debug__" : Str)) = false) (hl : (L.ps f).length = (a :: args).length + 1) (h : mArs X.N scope as (a :: args) = true) :
    LamR L X n scope (.Call (.Name x p) (a :: args) [] pos) (fun sa st => match evArs sa as with | some ds => mkO (run L.G L.wf n bs f (.opq :: ds) st) | none => .bad) := by
  intro A outer s H1 E f' c' hr sa st σ H H0 F m Q fr sr q
  subst hx
  have G0 := good_lam (E := E) (outer := outer) (H1 := H1) G hr
  obtain ⟨h1, h2, h3⟩ := s_ars (L := L) (X := lamN X A outer s H1 E scope f' c') (W := fun cls d _ H' => E cls d H') h
  obtain ⟨C, m1, m2, m3, m4⟩ := G.link.mak f hon
  have hpass : Passes (L2N.CX X.prog X.w) (lamN X A outer s H1 E scope f' c') E := L2N.passes_call G0.tk (fun cls d σ H h => h)
  refine PE.we (pe_make (X := lamN X A outer s H1 E scope f' c') m2 m4 hr hg m1 m3 .nil hpass (pa_WA _ _) hdb (starEach_cons (h2 a List.mem_cons_self)) (backTo_any fun b hb => h2 b (List.mem_cons_of_mem _ hb))) ?_
  refine h1 sa st σ H H0 F m _ fr sr ?_
  dsimp only at q ⊢
  cases e : evArs sa as with
  | none => rw [e] at q; exact q.elim
  | some ds =>
    rw [e] at q
    dsimp only at q
    rw [Out.of_some]
    intro H2 F2 m2' e2 s2 vs rs x dx nx ndx hne
    have hlen : ds.length + 1 = (L.ps f).length := by rw [evArs_len e, h3, hl]
    obtain ⟨e3, s3⟩ := s2.newO (o := .own x) ndx
    obtain ⟨e4, s4⟩ := s3.newO (p := x) (o := .ins C dx []) (by rw [upd_ne (fun z => hne z.symm)]; exact nx)
    refine ⟨.opq :: ds, F2, m2', st, bs, .cons (.opq _) (by rw [List.append_nil]; exact (rs.mono (e3.mono s2)).mono (e4.mono s3)), s4, by simp [hlen], ?_⟩
    cases er : run L.G L.wf n bs f (.opq :: ds) st with
    | bad => rw [er] at q; exact q
    | ok d st2 => rw [er] at q; exact (show False from q).elim
    | exc c st2 => rw [er] at q; exact fun H' F' m' e5 s5 => q H' F' m' (((e2.trans e3).trans e4).trans e5) s5
/-! ### raise -/
theorem S_raise {e0 : Ent} {c : Nat} {x msg : Str} {j : Nat} {p p2 p3 pos : Pos} (G : Good L X n W) (hex : L.ex = true) (hc : c < 13) (hx : x = exN c) (hg : Gl X x) : SndS L X W e0 (.Raise (some (.Call (.Name x p) [.Constant (.str msg) j p2] [] p3)) none pos) (fun _ st => .exc c st) := fun sa sto σ H F m Z fr sr E h => by
  subst hx
  obtain ⟨ce, C⟩ := G.link.cls hex
  have r : Raises X (.ref (L.cl c)) := raises_own (C.sb c hc) (C.ty c hc)
  refine PS.ws (L2N.ps_raise G.calm G.tk (L2N.pmk_own PySem.F.excBase_ValueError (C.exc c hc) (C.gl c hc) (C.kp c hc) r hg (exN_dbg c hc))) ?_
  exact h σ H F m sr E
end
end Mn
set_option maxHeartbeats 4000000
namespace Mn
open PySem PySem.Spec PyProof.Rows L2
/-! ## an owned list is read and given back -/
section
variable {P : Program} {w : World} {K : PySem.W.Frag} {F F' : Addr → Prop} {H : Hp} {m : List Addr}
mutual
theorem Rel.plain : ∀ {d : D} {v : V}, Rel P w K F H m d v → D.plain d = true → Rel P w K F' H m d v
  | _, _, .non, _ => .non
  | _, _, .bl b, _ => .bl b
  | _, _, .int i, _ => .int i
  | _, _, .str x, _ => .str x
  | _, _, .tup h r, q => .tup h (RelL.plain r (by rw [D.plain] at q; exact q))
  | _, _, .lst hF h r, q => by simp [D.plain] at q
  | _, _, .scr h, q => by simp [D.plain] at q
  | _, _, .dic hF h r, q => by simp [D.plain] at q
  | _, _, .ref h, q => by simp [D.plain] at q
  | _, _, .opq v, q => by simp [D.plain] at q
theorem RelL.plain : ∀ {ds : List D} {vs : List V}, RelL P w K F H m ds vs → D.plainL ds = true → RelL P w K F' H m ds vs
  | _, _, .nil, _ => .nil
  | _, _, .cons h r, q => by
    rw [D.plainL, Bool.and_eq_true] at q
    exact .cons (Rel.plain h q.1) (RelL.plain r q.2)
end
theorem CellAt.plain {c : Cell} {a : Addr} (h : CellAt P w K F H m c a) (q : c.plain = true) : CellAt P w K F' H m c a := by
  cases c with
  | lst ds => obtain ⟨nb, vs, z, r⟩ := h; exact ⟨nb, vs, z, r.plain q⟩
  | dic ds => cases q
  | ins c fs => cases q
end
section
variable {L : Lk} {X : Cx} {W : WX} {n : Nat}
def borO (i : Nat) (f : List Sl → Store → Out D) : List Sl → Store → Out D := fun sa st => match (sa[i]?).bind Sl.frz with
  | some d => borFin (f (sa.set i (.val d)) st)
  | none => .bad
theorem bor_post {i : Nat} {f : List Sl → Store → Out D} {sa : List Sl} {st : Store} {σ : L2.St} {H H0 : Hp} {F : Addr → Prop} {m : List Addr} {Z : D → Store → (Addr → Prop) → List Addr → Hp → Prop} {E : XK}
    (fr : FRx X H0 F H m sa σ) (sr : SRx L X F H m st) (h : Post L X.prog X.w X.K (borO i f sa st) F m H Z E) :
    ∃ ds F0, sa[i]? = some (.ol ds) ∧ FRx X H0 F0 H m (sa.set i (.val (.lst ds))) σ ∧ SRx L X F0 H m st ∧
      Post L X.prog X.w X.K (f (sa.set i (.val (.lst ds))) st) F0 m H (fun d st1 F1 m1 H1 => d.plain = true ∧ ∃ F3, Z d st1 F3 m1 H1) E := by
  unfold borO at h
  cases hi : sa[i]? with
  | none => rw [hi] at h; exact h.elim
  | some s =>
    rw [hi] at h
    cases s with
    | un => exact h.elim
    | val d => exact h.elim
    | od ds => exact h.elim
    | ol ds =>
      obtain ⟨a, vs, h1, hH, r, h0, nm, nF⟩ := fr.slot i _ hi
      have M : Mono F m H (addF F a) m H := ⟨fun b h => .inl h, fun b o _ h => h, fun b xs h => h, fun b o u h => h, ⟨[], by simp⟩⟩
      obtain ⟨f1, s1, M1⟩ := freeze (d := .lst ds) fr sr hi rfl h1 hH True.intro h0 nm nF (.lst (.inr rfl) hH (r.mono M))
      refine ⟨ds, addF F a, rfl, f1, s1, ?_⟩
      simp only [Option.bind_some, Sl.frz, borFin] at h
      cases hf : f (sa.set i (.val (.lst ds))) st with
      | bad => rw [hf] at h; exact h.elim
      | exc c st1 => rw [hf] at h; exact h.elim
      | ok d st1 =>
        rw [hf] at h
        simp only at h
        split at h
        · rename_i hp
          rw [Bool.and_eq_true] at hp
          intro H1 F1 m1 e1 sr1
          have ha1 : H1 a = some (.lst vs) := e1.keep a _ hH nm (fun ps z => nomatch z)
          refine ⟨hp.1, fun x => F1 x ∧ x ≠ a, h H1 (fun x => F1 x ∧ x ≠ a) m1 ⟨fun b hb => ⟨e1.fz b (.inl hb), fun z => nF (z ▸ hb)⟩, e1.pre, e1.keep, e1.new, fun b hb => ?_, e1.live⟩ ⟨sr1.len, fun k c b q1 q2 => (sr1.cell k c b q1 q2).plain (List.all_eq_true.mp hp.2 c (List.mem_of_getElem? q1)), sr1.nd, fun b hb => sr1.live b hb.1, fun b hb z => sr1.apart b hb z.1, sr1.tabs, fun p hp ps hps pos c hc => ⟨sr1.codes p hp ps hps pos c hc, fun z => ?_⟩⟩⟩
          · rcases e1.newF b hb.1 with z | z
            · exact z.elim .inl fun z => (hb.2 z).elim
            · exact .inr z
          · obtain ⟨qs, t1, _, t3⟩ := sr1.tabs p hp
            rw [t1] at hps; cases hps
            obtain ⟨c', e', t4⟩ := t3 pos _ hc
            cases e'
            rw [z, ha1] at t4
            cases t4
        · exact h.elim
theorem s_bor {i : Nat} {e : Expr} {f : List Sl → Store → Out D} (he : SndE L X W e f) : SndE L X W e (borO i f) := fun sa st σ H H0 F m Q fr sr h => by
  obtain ⟨ds, F0, hi, f0, s0, q⟩ := bor_post fr sr h
  exact he _ st σ H H0 F0 m Q f0 s0 (q.imp fun d st1 F1 m1 H1 e1 s1 z v r => by
    obtain ⟨hp, F3, z⟩ := z
    exact z v (r.plain hp))
theorem t_bor {i : Nat} {e : Expr} {f : List Sl → Store → Out D} (he : SndT L X W e f) : SndT L X W e (borO i f) := fun sa st σ H H0 F m Q fr sr h => by
  obtain ⟨ds, F0, hi, f0, s0, q⟩ := bor_post fr sr h
  exact he _ st σ H H0 F0 m Q f0 s0 (q.imp fun d st1 F1 m1 H1 e1 s1 z => by
    obtain ⟨_, _, z⟩ := z
    exact z)
end
end Mn
set_option maxHeartbeats 4000000
namespace Mn
open PySem PySem.Spec PyProof.Rows L2
section
variable {L : Lk} {X : Cx} {W : WX} {n : Nat} {e0 : Ent}
/-! ### xs[::-1] -/
theorem RelL.reverse {P : Program} {w : World} {K : PySem.W.Frag} {F : Addr → Prop} {H : Hp} {m : List Addr} : ∀ {xs : List D} {us : List V}, RelL P w K F H m xs us → RelL P w K F H m xs.reverse us.reverse
  | _, _, .nil => .nil
  | _, _, .cons r t => by
    rw [List.reverse_cons, List.reverse_cons]
    exact (RelL.reverse t).append (.cons r .nil)
theorem s_rev {a : Expr} {f : List Sl → Store → Out D} {k : Nat} {p1 p2 p3 pos : Pos} (ha : SndE L X W a f) :
    SndE L X W (.Subscript a (.Slice none none (some (.UnaryOp .USub (.Constant (.int 1) k p1) p2)) p3) pos) (fun sa st => (f sa st).bind fun x st => .of (revD x) st) := fun sa st σ H H0 F m Q fr sr p => by
  refine PE.we (pe_revL (pe_WE X a)) (ha sa st σ H H0 F m _ fr sr (p.bind.imp fun x st1 F1 m1 H1 e1 s1 h1 vx rx => ?_))
  obtain ⟨d, hd, q⟩ := Post.of h1
  cases x <;> simp only [revD, reduceCtorEq] at hd
  cases hd
  cases rx with
  | lst f1 h1 r1 =>
    refine ⟨_, _, rfl, SqL.of h1, fun p hp => ?_⟩
    obtain ⟨e3, s3, rr⟩ := s1.newL hp r1.reverse
    exact q _ _ _ e3 s3 _ rr
/-! ### xs.count(x) -/
def rCountD (K : PySem.W.Frag) : V → List V → Hp → VK → Prop := fun x xs H Q => ∃ (a : Addr) (y : V) (d : PyData) (ds : List PyData), x = V.ref a ∧ xs = [y] ∧ Dp K H (V.ref a) (.list ds) ∧ Dp K H y d ∧
  SeqAt.shaped (.list ds) = true ∧ SeqAt.shaped d = true ∧ Q (.int ((ds.countP fun z => PyData.eqv z d : Nat) : Int)) H
theorem mt_countD (hu : X.A.units + 65 < cLine) : MtR X "list.count" (rCountD X.K) := by
  intro pins s σ H x xs v us Q I rx rxs h
  obtain ⟨a, y, d, ds, rfl, rfl, hl, hy, sl, sd, q⟩ := h
  cases rx
  cases rxs with
  | cons ry rt =>
    rename_i uy ut
    cases rt
    obtain ⟨bs, r1⟩ := Dp.reads I d y uy hy ry
    have hxs : PyData.canLayAll0 ds = true := SeqAt.canLay_of_shaped sl
    have hroom : X.A.units + 1 + min (PyData.depthAll ds) d.depth < cLine := room_in_shaped sd hu
    cases hl with
    | lst hs ha =>
      obtain ⟨its, rv, ⟨⟨cls, dd, data, sls⟩, n, ho, hc, hdn, hdt⟩, hlen⟩ := I.list hs
      simp only at hc hdt
      subst hc hdt
      obtain ⟨as, h4⟩ := Dp.readsAll I ds _ its ha rv
      have hmap : its.map (SeqAt.readOf s.heap) = ds := SeqAt.readsAll_map ds its as hxs h4
      refine call_meets PySem.F.slot_list_count ⟨_, ho, rfl⟩ PySem.F.entry_list_count (PySem.F.args_list_count_2 _ _)
        (SeqAt.list_countAt a its.toArray n dd sls uy (fun u => PyData.eqv (SeqAt.readOf s.heap u) d)) ⟨ho, SeqAt.items_eqAt (vs := its.toArray) (show ReadsAll s.heap its.toArray.toList ds as from h4) r1 hxs (SeqAt.canLay_of_shaped sd) hroom, ?_⟩
      have e : (its.toArray.toList.countP fun u => PyData.eqv (SeqAt.readOf s.heap u) d) = ds.countP fun z => PyData.eqv z d := by
        rw [← hmap, List.countP_map]; rfl
      rw [e]
      exact ⟨.int _, H, I.tok _, ⟨_, rfl⟩, q⟩
theorem s_cnt {o k : Expr} {f g : List Sl → Store → Out D} {apos cpos : Pos} (G : Good L X n W) (hb : isCallE o = false) (hst : isStar k = false) (hline : (apos.endLine == cpos.line) = true) (ho : SndE L X W o f) (hk : SndE L X W k g) :
    SndE L X W (.Call (.Attribute o "count" apos) [k] [] cpos) (fun sa st => (f sa st).bind fun x st => match x with | .lst xs => (g sa st).bind fun y st => .of (cntD xs y) st | _ => .bad) := fun sa st σ H H0 F m Q fr sr p => by
  refine PE.we (pe_bm PySem.F.plainAttrs_list PySem.F.slot_list_count PySem.F.type_list_count (mt_countD (by have := G.room.un; omega)) (pe_WE X o) (pa_cons (pe_WE X k) pa_nil (star1 hst)) (base_of hb) (few_of hst) hline (star1 hst) rfl) ?_
  refine ho sa st σ H H0 F m _ fr sr (p.bind.imp fun x st1 F1 m1 H1 e1 s1 h1 vx rx => ?_)
  cases rx with
  | lst f1 hH r1 =>
    rename_i a vs xs
    refine ⟨.inl ⟨rfl, _, SqL.of hH⟩, hk sa st1 σ H1 H0 F1 m1 _ (fr.evo e1 sr) s1 (h1.bind.imp fun y st2 F2 m2 H2 e2 s2 h2 vy ry => ?_)⟩
    obtain ⟨d, hd, q⟩ := Post.of h2
    have M := e2.mono s1
    have rl : Relx X F2 H2 m2 (.lst xs) (.ref a) := (Rel.lst f1 hH r1).mono M
    unfold cntD at hd
    cases c1 : D.pyL xs with
    | none => rw [c1] at hd; simp at hd
    | some ds =>
      cases c2 : D.py y with
      | none => rw [c1, c2] at hd; simp at hd
      | some dy =>
        rw [c1, c2] at hd
        simp only at hd
        split at hd
        · rename_i hs
          rw [Bool.and_eq_true] at hs
          cases hd
          exact ⟨_, _, dy, ds, rfl, rfl, rl.dp (by rw [D.py, c1]; rfl), ry.dp c2, hs.1, hs.2, q H2 F2 m2 Evo.refl s2 _ (.int _)⟩
        · cases hd
  | _ => exact h1.elim
/-! ### xs.remove(x) -/
def rRem : V → List V → Hp → VK → Prop := fun x xs H Q => ∃ (l : Addr) (ns : List Int) (k : Int), x = .ref l ∧ xs = [.int k] ∧ H l = some (.lst (ns.map V.int)) ∧ k ∈ ns ∧ Q .non (upd H l (.lst ((ns.erase k).map V.int)))
theorem mt_rem : MtR X "list.remove" rRem := by
  intro pins s σ H x xs v us Q I rx rxs h
  obtain ⟨l, ns, k, rfl, rfl, hH, hk, qy⟩ := h
  cases rx
  cases rxs with
  | cons ry rt =>
    rename_i uy ut
    cases rt
    obtain ⟨t, rfl⟩ := (show ∃ t, uy = Value.int k t from ry)
    obtain ⟨z, its, n, r, hl, e0⟩ := I.lstM hH
    have hi : IntsAre its ns := intsAre_of r
    have heq := eq_isInt k t hi
    have hnl : ns.length = its.length := by rw [← hl, List.length_map]
    have hsz : its.toArray.size ≤ sizeLine := by rw [List.size_toArray, ← hl]; exact z
    obtain ⟨j, j1, j2, j3, j4⟩ := L2.first_at hk
    have hj : j < its.length := by omega
    refine call_meets PySem.F.slot_list_remove ⟨_, e0, rfl⟩ PySem.F.entry_list_remove (PySem.F.args_list_remove_2 _ _)
      (MeetsSeq.list_remove l its.toArray n (.int k t) (isInt k) (fun y hy => heq y (by simpa using hy)) j (by rw [List.size_toArray]; exact hj) ?hit (fun i hi2 hlt => ?hno) hsz) ⟨e0, ?_⟩
    case hit =>
      show isInt k its[j] = true
      exact (L2.isInt_at k hi j hj).mpr j2
    case hno =>
      have hi3 : i < its.length := by rw [List.size_toArray] at hi2; exact hi2
      show isInt k its[i] = false
      rw [Bool.eq_false_iff]
      intro w
      exact j3 i hlt ((L2.isInt_at k hi i hi3).mp w)
    have r2 : Vals ((ns.erase k).map V.int) (its.eraseIdx j) := by
      have w := r.eraseIdx j
      rw [L2.map_eraseIdx', j4] at w
      exact w
    refine ⟨.non, _, I.lset (its' := its.eraseIdx j) hH e0 ?_ r2 ?_, rfl, qy⟩
    · show its.toArray.eraseIdxIfInBounds j = (its.eraseIdx j).toArray
      rw [List.eraseIdxIfInBounds_toArray]
    · rw [List.length_map]
      have := List.length_erase_le (a := k) (l := ns)
      rw [List.length_map] at z
      omega
theorem S_rem {i : Nat} {x : Str} {e : Expr} {f : List Sl → Store → Out D} {p apos cpos pos : Pos} (hN : X.N[i]? = some x) (hv : Vis X.env.scope x) (hd : (x == ("__debug__" : Str)) = false) (hcd : (x == ("__classdict__" : Str)) = false) (he : SndE L X W e f) (hst : isStar e = false) (hline : (apos.endLine == cpos.line) = true) :
    SndS L X W e0 (.Expr (.Call (.Attribute (.Name x p) "remove" apos) [e] [] cpos) pos) (remS i f) := fun sa sto σ H F m Z fr sr E h => by
  refine PS.ws (ps_expr (pe_bm PySem.F.plainAttrs_list PySem.F.slot_list_remove PySem.F.type_list_remove mt_rem (pe_var hN hv hd hcd) (pa_cons (pe_WE X e) pa_nil (star1 hst)) (base_of rfl) (few_of hst) hline (star1 hst) rfl) rfl) ?_
  unfold remS at h
  split at h
  · rename_i ds hi
    obtain ⟨a, vs, ha, hH, r, h0, nm, nF⟩ := fr.slot i _ hi
    refine ⟨_, ha, .inl ⟨rfl, _, SqL.of hH⟩, he sa sto σ H e0.H F m _ fr sr ((h.fl σ sr E).imp fun d st1 F1 m1 H1 e1 s1 h1 v rv => ?_)⟩
    obtain ⟨E1, h1⟩ := h1
    have fr1 := fr.evo e1 sr
    obtain ⟨a', vs', ha', hH1, r1, h01, nm1, nF1⟩ := fr1.slot i _ hi
    rw [ha] at ha'; cases ha'
    split at h1
    · rename_i k
      split at h1
      · rename_i ns hns
        split at h1
        · rename_i hc
          cases rv
          have ev := r1.intv hns
          subst ev
          refine ⟨a, ns, k, rfl, rfl, hH1, by simpa using hc, ?_⟩
          exact h1 σ _ F1 m1 (fr1.ol hi ha hH1 h01 nm1 nF1 (ints_rel _)) (s1.own hH1 True.intro nm1 nF1) (E1.own h01) (Mono.own hH1 True.intro nF1)
        · exact h1.elim
      · exact h1.elim
    · exact h1.elim
  · exact h.elim
/-! ### a tuple made and parted -/
theorem fm_lt {α β : Type} {f : α → Option β} : ∀ {l : List α}, (∃ x ∈ l, f x = none) → (l.filterMap f).length < l.length
  | [], h => by obtain ⟨x, hx, _⟩ := h; cases hx
  | a :: l, h => by
    have le := List.length_filterMap_le f l
    rw [List.filterMap_cons]
    cases ha : f a with
    | none => simp only [List.length_cons]; omega
    | some b =>
      obtain ⟨x, hx, hn⟩ := h
      rcases List.mem_cons.mp hx with z | z
      · subst z; rw [ha] at hn; cases hn
      · have := fm_lt ⟨x, z, hn⟩
        simp only [List.length_cons]; omega
theorem swOut_by {ts es : List Expr} {k k2 : Nat} {p p2 : Pos} {env : Env} (h : swOut env.scope ts = true) : swappedStores [.Tuple ts k p] (.Tuple es k2 p2) env = pure none := by
  unfold swappedStores
  simp only
  split
  · rfl
  · rename_i h1
    split
    · rfl
    · split
      · rfl
      · rename_i h3
        exfalso
        unfold swOut at h
        rw [Bool.or_eq_true] at h
        rcases h with h | h
        · have h := of_decide_eq_true h
          apply h1
          have e2 : (ts.length == 2) = false := by simp; omega
          have e3 : (ts.length == 3) = false := by simp; omega
          simp [e2, e3]
        · obtain ⟨t, ht, hx⟩ := List.any_eq_true.mp h
          apply h3
          have : ∀ line, (ts.filterMap fun t => match t with | .Name id pos => if env.kindOf id == some .local && pos.line == line then some id else none | _ => none).length < ts.length := fun line => by
            refine fm_lt ⟨t, ht, ?_⟩
            split at hx
            · rename_i x q
              unfold cellB at hx
              have e : env.scope.names.lookup x = some .cell := by simpa using hx
              have : (env.kindOf x == some NameKind.local) = false := by
                show (env.scope.names.lookup x == some NameKind.local) = false
                rw [e]; rfl
              simp [this]
            · cases hx
          have := this ((ts.head?.map (·.pos.line)).getD 0)
          rw [Bool.or_eq_true]
          exact .inl (by simp only [bne_iff_ne]; exact Nat.ne_of_lt this)
theorem S_parQ {is : List Nat} {ts es : List Expr} {o : List Sl → Store → Out (List Sl)} {k k2 : Nat} {pt p2 pos : Pos} (ha : SndRs L X W es is o) (hg : PG X (.Tuple ts k pt) (gT X.K (.tp is))) (hs : swapsWithSole [.Tuple ts k pt] (.Tuple es k2 p2) pos.line X.env = pure false) (hw : swappedStores [.Tuple ts k pt] (.Tuple es k2 p2) X.env = pure none) :
    SndS L X W e0 (.Assign [.Tuple ts k pt] (.Tuple es k2 p2) pos) (fun sa st => (o sa st).fl fun xs st => if is.length = xs.length && decide (xs.length ≤ 100) then .nx (setSl sa is xs) st else .bad) := fun sa sto σ H F m Z fr sr E h => by
  refine PS.ws (ps_asg (pe_tup (pa_WA X es)) hg hs hw rfl) (ha sa sa sto σ σ H e0.H F m _ fr fr sr (fun a ha => E.none ha) ((h.fl σ sr E).imp fun xs st1 F1 m1 H1 e1 s1 h1 vs hl fr1 => ?_))
  obtain ⟨E1, h1⟩ := h1
  split at h1
  · rename_i hc
    simp only [Bool.and_eq_true, decide_eq_true_eq] at hc
    refine ⟨by rw [← hl, sizeLine_eq]; omega, fun p hp => ?_⟩
    obtain ⟨e2, s2⟩ := s1.newO (o := .tup vs) hp
    refine ⟨_, _, rfl, .inl (.inl upd_same), by rw [hc.1, hl], gNames_of (by rw [hc.1, hl]) ?_⟩
    exact h1 _ _ F1 m1 (fr1.evo e2 s1) s2 (E1.trans e2) (e2.mono s1)
  · exact h1.elim
end
end Mn
set_option maxHeartbeats 4000000
namespace Mn
open PySem PySem.Spec PyProof.Rows L2
section
variable {L : Lk} {X : Cx} {W : WX} {n : Nat} {e0 : Ent}
/-! ### name = [..] on one line -/
theorem w_lc {t : Tg} {f : List Sl → Store → Out D} {oi : List Sl → Store → Out (List D)} {scope : Scope} {own : List (Str × Nat)} {elt tg iter : Expr} (hi : SndI L X W tg iter oi)
    (hown : ∀ i ∈ t.slots, i ∈ own.map (·.2)) (he : Blk X scope fun Y => SndE L Y W0 elt f) {sa : List Sl} {st : Store} {σ : L2.St} {H H0 : Hp} {F : Addr → Prop} {m : List Addr} {Q : VK} (fr : FRx X H0 F H m sa σ) (sr : SRx L X F H m st)
    (q : PostV L X.prog X.w X.K ((oi sa st).bind fun xs st => compL (wipeS sa (own.map (·.2))) t (fun _ st => .ok (.bl true) st) f xs [] st) F m H Q (fun c d H' => W c d σ H')) :
    tLc (WI X tg iter) (gT X.K t) tYes (WEb X scope elt) (own.map (·.2)) σ H Q := by
  refine hi sa st σ H H0 F m _ fr sr (q.bind.imp fun ds st1 F1 m1 H1 e1 s1 h1 J hJ => ?_)
  exact lc_ok (fun _ _ _ _ => True.intro) hown he (fun sa st σ H F m Q fr sr p => by
    obtain ⟨b, e, q⟩ := p H F m Evo.refl sr
    cases e; exact q) (fr.evo e1 sr) s1 hJ h1
theorem w_lcf {t : Tg} {c f : List Sl → Store → Out D} {oi : List Sl → Store → Out (List D)} {scope : Scope} {own : List (Str × Nat)} {elt tg iter cnd : Expr} (hi : SndI L X W tg iter oi)
    (hown : ∀ i ∈ t.slots, i ∈ own.map (·.2)) (he : Blk X scope fun Y => SndE L Y W0 elt f) (hc : Blk X scope fun Y => SndT L Y W0 cnd c) {sa : List Sl} {st : Store} {σ : L2.St} {H H0 : Hp} {F : Addr → Prop} {m : List Addr} {Q : VK} (fr : FRx X H0 F H m sa σ) (sr : SRx L X F H m st)
    (q : PostV L X.prog X.w X.K ((oi sa st).bind fun xs st => compL (wipeS sa (own.map (·.2))) t c f xs [] st) F m H Q (fun c d H' => W c d σ H')) :
    tLc (WI X tg iter) (gT X.K t) (WTb X scope cnd) (WEb X scope elt) (own.map (·.2)) σ H Q := by
  refine hi sa st σ H H0 F m _ fr sr (q.bind.imp fun ds st1 F1 m1 H1 e1 s1 h1 J hJ => ?_)
  exact lc_ok (fun _ _ _ _ => True.intro) hown he (fun sa st σ H F m Q fr sr p s Hb C cl fp => hc s Hb C cl fp sa st σ H H0 F m Q fr sr p) (fr.evo e1 sr) s1 hJ h1
def setD0 (i : Nat) (o : Out D) (sa : List Sl) : Fl := o.fl fun d st => .nx (sa.set i (.val d)) st
theorem S_setLc {i : Nat} {y : Str} {py pos spos : Pos} {t : Tg} {f : List Sl → Store → Out D} {oi : List Sl → Store → Out (List D)} {scope : Scope} {own : List (Str × Nat)} {elt tg iter : Expr} (G : Good L X n W) (hy : X.N[i]? = some y) (hyl : X.env.scope.names.lookup y = some .local)
    (hsw : swapsWith (.ListComp elt [⟨tg, iter, [], 0⟩] scope pos) (some (.Name y py)) spos.line X.env = pure true) (hi : SndI L X W tg iter oi) (ok : BlkOk X.N X.env.scope scope own)
    (hg : Blk X scope fun Y => PG Y tg (gT X.K t)) (hown : ∀ i ∈ t.slots, i ∈ own.map (·.2)) (he : Blk X scope fun Y => SndE L Y W0 elt f) (hs : isSet iter = false) :
    SndS L X W e0 (.Assign [.Name y py] (.ListComp elt [⟨tg, iter, [], 0⟩] scope pos) spos) (fun sa st => setD0 i ((oi sa st).bind fun xs st => compL (wipeS sa (own.map (·.2))) t (fun _ st => .ok (.bl true) st) f xs [] st) sa) := fun sa sto σ H F m Z fr sr E h => by
  refine PS.ws (ps_setLc (tt := tYes) (te := WEb X scope elt) G.calm G.nd hy hyl hsw (pi_WI X tg iter) ok hg (fun _ _ _ _ _ => pts_nil) (fun s H C cl fp => ⟨fun pins s' σ H' Q I h => h s H C cl fp pins s' I⟩) (noSet hs)) ?_
  refine w_lc hi hown he fr sr ((h.fl σ sr E).imp fun d st1 F1 m1 H1 e1 s1 h1 v r => ?_)
  exact h1.2 _ H1 F1 m1 ((fr.evo e1 sr).set r) s1 h1.1 Mono.refl
theorem S_setLcf {i : Nat} {y : Str} {py pos spos : Pos} {t : Tg} {c f : List Sl → Store → Out D} {oi : List Sl → Store → Out (List D)} {scope : Scope} {own : List (Str × Nat)} {elt tg iter cnd : Expr} (G : Good L X n W) (hy : X.N[i]? = some y) (hyl : X.env.scope.names.lookup y = some .local)
    (hsw : swapsWith (.ListComp elt [⟨tg, iter, [cnd], 0⟩] scope pos) (some (.Name y py)) spos.line X.env = pure true) (hi : SndI L X W tg iter oi) (ok : BlkOk X.N X.env.scope scope own)
    (hg : Blk X scope fun Y => PG Y tg (gT X.K t)) (hown : ∀ i ∈ t.slots, i ∈ own.map (·.2)) (he : Blk X scope fun Y => SndE L Y W0 elt f) (hc : Blk X scope fun Y => SndT L Y W0 cnd c) (hs : isSet iter = false) :
    SndS L X W e0 (.Assign [.Name y py] (.ListComp elt [⟨tg, iter, [cnd], 0⟩] scope pos) spos) (fun sa st => setD0 i ((oi sa st).bind fun xs st => compL (wipeS sa (own.map (·.2))) t c f xs [] st) sa) := fun sa sto σ H F m Z fr sr E h => by
  refine PS.ws (ps_setLc (tt := WTb X scope cnd) (te := WEb X scope elt) G.calm G.nd hy hyl hsw (pi_WI X tg iter) ok hg (fun s H C cl fp => pts_one ⟨fun pins s' σ H' Q I h => h s H C cl fp pins s' I⟩) (fun s H C cl fp => ⟨fun pins s' σ H' Q I h => h s H C cl fp pins s' I⟩) (noSet hs)) ?_
  refine w_lcf hi hown he hc fr sr ((h.fl σ sr E).imp fun d st1 F1 m1 H1 e1 s1 h1 v r => ?_)
  exact h1.2 _ H1 F1 m1 ((fr.evo e1 sr).set r) s1 h1.1 Mono.refl
theorem noSwapC {e : Expr} {x : Str} {px : Pos} {l : Nat} {env : Env} (h : cellB env.scope x = true) : swapsWith e (some (.Name x px)) l env = pure false := by
  unfold cellB at h
  have e1 : env.scope.names.lookup x = some .cell := by simpa using h
  have e2 : (env.kindOf x == some NameKind.local) = false := by
    show (env.scope.names.lookup x == some NameKind.local) = false
    rw [e1]; rfl
  unfold swapsWith
  cases e <;> first | rfl | (simp only [e2, Bool.and_false, Bool.false_and])
end
end Mn
set_option maxHeartbeats 4000000
namespace Mn
open PySem PySem.Spec PyProof.Rows L2
section
variable {L : Lk} {Z : Sta}
theorem ownP_snd {N : List Str} {own : List Nat} : (ownP N own).map (·.2) = own := by
  unfold ownP
  rw [List.map_map]
  exact List.map_id _
theorem evEs_len {cf : Nat → Nat → List D → Store → Out D} {bs : Nat} : ∀ {es : Es} {sa : List Sl} {st st' : Store} {ds : List D}, evEs cf bs sa st es = .ok ds st' → ds.length = es.len
  | .nil, sa, st, st', ds, h => by
    rw [evEs] at h
    cases h; rfl
  | .cons e es, sa, st, st', ds, h => by
    rw [evEs] at h
    cases h1 : evE cf bs sa st e with
    | bad => rw [h1] at h; cases h
    | exc c s => rw [h1] at h; cases h
    | ok x s =>
      rw [h1, Out.bind_ok] at h
      cases h2 : evEs cf bs sa s es with
      | bad => rw [h2] at h; cases h
      | exc c s => rw [h2] at h; cases h
      | ok xs s2 =>
        rw [h2, Out.bind_ok] at h
        cases h
        have := evEs_len h2
        simp [this, Es.len]
theorem mEs_len {N : List Str} {tst : Bool} {sc : Scope} : ∀ {es : Es} {xs : List Expr}, mEs Z N tst es sc xs = true → es.len = xs.length
  | .nil, xs, h => by
    unfold mEs at h
    split at h
    · rfl
    · cases h
  | .cons e es, xs, h => by
    unfold mEs at h
    split at h
    · simp only [Bool.and_eq_true] at h
      simp [Es.len, mEs_len h.2.2]
    · cases h
theorem mEs_star {N : List Str} {tst : Bool} {sc : Scope} : ∀ {es : Es} {xs : List Expr}, mEs Z N tst es sc xs = true → ∀ a ∈ xs, isStar a = false
  | .nil, xs, h, a, ha => by
    unfold mEs at h
    split at h
    · cases ha
    · cases h
  | .cons e es, xs, h, a, ha => by
    unfold mEs at h
    split at h
    · simp only [Bool.and_eq_true] at h
      rcases List.mem_cons.mp ha with z | z
      · rw [z]; exact notStar h.2.1
      · exact mEs_star h.2.2 a z
    · cases h
theorem s_con2 {X : Cx} {W : WX} {c : C} {k : Const} {j pos} (h : conM c k = true) : SndE L X W (.Constant k j pos) (fun _ st => .ok c.d st) := by
  refine s_con ⟨j, pos, ?_⟩
  cases c <;> cases k <;> simp_all [conM]
theorem blk_by {N : List Str} {sc scope : Scope} {own : List Nat} {t : Tg} {tg iter : Expr} (h : blkM N sc scope own t tg iter = true) : BlkOk N sc scope (ownP N own) ∧ mTg (cellB scope) N (relS scope sc) t tg = true ∧ (∀ i ∈ t.slots, i ∈ (ownP N own).map (·.2)) ∧ isSet iter = false := by
  unfold blkM at h
  simp only [Bool.and_eq_true, List.all_eq_true] at h
  obtain ⟨h1, h2, h3, h4⟩ := h
  exact ⟨blkOk_by h1, h2, fun i hi => by rw [ownP_snd]; simpa using h3 i hi, by simpa using h4⟩
theorem tup_by {e : Expr} (h : isTupE e = true) : ∃ es k p, e = .Tuple es k p := by
  cases e <;> first | exact ⟨_, _, _, rfl⟩ | cases h
theorem tst_false : ∀ (t : E) (e : Expr), tstOk false t e = true
  | .bor _ a, e => tst_false a e
  | .hole, _ | .var _, _ | .con _, _ | .glb _ _, _ | .bin _ _ _, _ | .neg _, _ | .not _, _ | .and _, _ | .or _, _ | .cmp _ _ _, _ | .chn _ _ _ _ _, _ | .ite _ _ _, _ | .tup _, _ | .lst _, _ | .idx _ _, _ | .slc _ _ _, _ | .call _ _, _ | .bi _ _, _ | .isi _ _, _ | .get2 _ _ _, _ | .odx _ _, _ | .lc _ _ _ _, _ | .lcf _ _ _ _ _, _ | .cel _, _ | .emd, _ | .told _ _, _ | .cnt _ _, _ | .rev _, _ => rfl
def SndC (op : BoolOp) (tst : Bool) (L : Lk) (X : Cx) (W : WX) (xs : List Expr) (o : List Sl → Store → Out D) : Prop := ∀ pos, match tst with
  | true => SndW L X W (.BoolOp op xs pos) o
  | false => SndE L X W (.BoolOp op xs pos) o
theorem SndC.b {op : BoolOp} {tst : Bool} {X : Cx} {W : WX} {xs : List Expr} {pos : Pos} {o : List Sl → Store → Out D} (h : SndC op tst L X W xs o) : SndB tst L X W (.BoolOp op xs pos) o := by
  cases tst with
  | true => exact (h pos).t
  | false => exact h pos
mutual
theorem snd_E (SO : StaOk L Z) : ∀ (t : E) {X : Cx} {W : WX} {n : Nat} (G : Good L X n W) (bs : Nat) {e : Expr} (tst : Bool), mE Z X.N tst t X.env.scope e = true → tstOk tst t e = true → SndB tst L X W e (fun sa st => evE (run L.G L.wf n) bs sa st t)
  | .hole, X, W, n, G, bs, e, tst, h, ht => by
    cases tst
    · exact fun sa st σ H H0 F m Q fr sr p => (show False from p).elim
    · exact fun sa st σ H H0 F m Q fr sr p => (show False from p).elim
  | .var i, X, W, n, G, bs, e, tst, h, ht => by
    unfold mE at h
    split at h
    · obtain ⟨h1, h2, h3, h4⟩ := slot_by h
      exact SndB.plain ht ((s_var h1 h2 h3 h4).of fun sa st => rfl)
    · cases h
  | .con c, X, W, n, G, bs, e, tst, h, ht => by
    unfold mE at h
    split at h
    · exact SndB.plain ht ((s_con2 h).of fun sa st => rfl)
    · cases h
  | .glb x d, X, W, n, G, bs, e, tst, h, ht => by
    unfold mE at h
    split at h
    · simp only [Bool.and_eq_true] at h
      obtain ⟨h1, h2, h3, h4⟩ := h
      have e1 := of_decide_eq_true h1
      subst e1
      exact SndB.plain ht ((s_glb G (gl_by h2) (SO.gl _ (by simpa using h3)) (nodbg_by h4).1).of fun sa st => rfl)
    · cases h
  | .bin o a b, X, W, n, G, bs, e, tst, h, ht => by
    unfold mE at h
    split at h
    · simp only [Bool.and_eq_true] at h
      obtain ⟨h1, h2, h3⟩ := h
      exact SndB.plain ht ((s_bin h1 (snd_E SO a G bs false h2 (tst_false _ _)) (snd_E SO b G bs false h3 (tst_false _ _))).of fun sa st => rfl)
    · cases h
  | .neg a, X, W, n, G, bs, e, tst, h, ht => by
    unfold mE at h
    split at h
    · exact SndB.plain ht ((s_neg (snd_E SO a G bs false h (tst_false _ _))).of fun sa st => rfl)
    · cases h
  | .not a, X, W, n, G, bs, e, tst, h, ht => by
    unfold mE at h
    split at h
    · simp only [Bool.and_eq_true] at h
      cases tst with
      | false => exact (s_not (snd_E SO a G bs false h.2 h.1)).of fun sa st => rfl
      | true => exact (t_not (snd_E SO a G bs true h.2 h.1)).of fun sa st => rfl
    · cases h
  | .and es, X, W, n, G, bs, e, tst, h, ht => by
    unfold mE at h
    split at h
    · exact (snd_And SO es G bs tst h).b
    · cases h
  | .or es, X, W, n, G, bs, e, tst, h, ht => by
    unfold mE at h
    split at h
    · exact (snd_Or SO es G bs tst h).b
    · cases h
  | .cmp o a b, X, W, n, G, bs, e, tst, h, ht => by
    unfold mE at h
    split at h
    · simp only [Bool.and_eq_true] at h
      obtain ⟨h1, h0, h2, h3⟩ := h
      have h0 := by simpa using h0
      cases tst with
      | false => exact (s_cmp G h1 h0 (snd_E SO a G bs false h2 (tst_false _ _)) (snd_E SO b G bs false h3 (tst_false _ _))).of fun sa st => rfl
      | true => exact (t_cmp G h1 h0 (snd_E SO a G bs false h2 (tst_false _ _)) (snd_E SO b G bs false h3 (tst_false _ _))).of fun sa st => rfl
    · cases h
  | .chn o p a b c, X, W, n, G, bs, e, tst, h, ht => by
    unfold mE at h
    split at h
    · simp only [Bool.and_eq_true] at h
      obtain ⟨h1, h2, h0, h3, h4, h5⟩ := h
      have h0 := by simpa using h0
      cases tst with
      | false => exact (s_chn G h1 h2 h0 (snd_E SO a G bs false h3 (tst_false _ _)) (snd_E SO b G bs false h4 (tst_false _ _)) (snd_E SO c G bs false h5 (tst_false _ _))).of fun sa st => rfl
      | true => exact (t_chn G h1 h2 h0 (snd_E SO a G bs false h3 (tst_false _ _)) (snd_E SO b G bs false h4 (tst_false _ _)) (snd_E SO c G bs false h5 (tst_false _ _))).of fun sa st => rfl
    · cases h
  | .ite c a b, X, W, n, G, bs, e, tst, h, ht => by
    unfold mE at h
    split at h
    · simp only [Bool.and_eq_true] at h
      obtain ⟨h0, ⟨h1, h2⟩, h3, h4⟩ := h
      cases tst with
      | false => exact (s_ite (snd_E SO c G bs true h2 h1) (snd_E SO a G bs false h3 (tst_false _ _)) (snd_E SO b G bs false h4 (tst_false _ _))).of fun sa st => rfl
      | true => cases h0
    · cases h
  | .tup es, X, W, n, G, bs, e, tst, h, ht => by
    unfold mE at h
    split at h
    · exact SndB.plain ht ((s_tup (snd_Es SO es G bs h)).of fun sa st => rfl)
    · cases h
  | .lst es, X, W, n, G, bs, e, tst, h, ht => by
    unfold mE at h
    split at h
    · exact SndB.plain ht ((s_lst (snd_Es SO es G bs h)).of fun sa st => rfl)
    · cases h
  | .cel es, X, W, n, G, bs, e, tst, h, ht => by
    unfold mE at h
    split at h
    · exact SndB.plain ht ((s_cel (snd_Es SO es G bs h)).of fun sa st => rfl)
    · cases h
  | .idx a i, X, W, n, G, bs, e, tst, h, ht => by
    unfold mE at h
    split at h
    · simp only [Bool.and_eq_true] at h
      obtain ⟨h1, h2, h3⟩ := h
      exact SndB.plain ht ((s_idx G (by simpa using h1) (snd_E SO a G bs false h2 (tst_false _ _)) (snd_E SO i G bs false h3 (tst_false _ _))).of fun sa st => rfl)
    · cases h
  | .slc a lo hi, X, W, n, G, bs, e, tst, h, ht => by
    unfold mE at h
    split at h
    · simp only [Bool.and_eq_true] at h
      obtain ⟨h1, h2, h3⟩ := h
      exact SndB.plain ht ((s_slc (snd_E SO a G bs false h1 (tst_false _ _)) (snd_O SO lo G bs h2) (snd_O SO hi G bs h3)).of fun sa st => rfl)
    · cases h
  | .call f es, X, W, n, G, bs, e, tst, h, ht => by
    unfold mE at h
    split at h
    · simp only [Bool.and_eq_true] at h
      obtain ⟨h1, h2, h3, h4⟩ := h
      obtain ⟨q1, q2, q3⟩ := SO.fn f _ _ (of_decide_eq_true h1)
      exact SndB.plain ht ((s_call (bs := bs) G.toGood0 q1 q2 (gl_by h2) (nodbg_by h3).1 (mEs_star h4) (snd_Es SO es G bs h4) (fun sa st ds st' z => by rw [evEs_len z, mEs_len h4, q3])).of fun sa st => rfl)
    · cases h
  | .bi b es, X, W, n, G, bs, e, tst, h, ht => by
    unfold mE at h
    split at h
    · split at h
      · simp only [Bool.and_eq_true] at h
        obtain ⟨h1, h2, h3, h4, h5, h6⟩ := h
        have e1 := of_decide_eq_true h1
        have e2 := of_decide_eq_true h2
        subst e1 e2
        cases es with
        | nil =>
          have := mEs_len h5
          simp only [Es.len] at this
          rw [← this] at h6
          simp at h6
        | cons a es2 =>
          unfold mEs at h5
          split at h5
          · simp only [Bool.and_eq_true] at h5
            obtain ⟨⟨_, g1⟩, g2, g3⟩ := h5
            cases es2 with
            | nil =>
              unfold mEs at g3
              split at g3
              · exact SndB.plain ht ((s_listRng1 G (gl_by h3) (gl_by h4) (notStar g2) (snd_E SO a G bs false g1 (tst_false _ _))).of fun sa st => rfl)
              · cases g3
            | cons b es3 =>
              unfold mEs at g3
              split at g3
              · simp only [Bool.and_eq_true] at g3
                obtain ⟨⟨_, g4⟩, g5, g6⟩ := g3
                cases es3 with
                | nil =>
                  unfold mEs at g6
                  split at g6
                  · exact SndB.plain ht ((s_listRng2 G (gl_by h3) (gl_by h4) (notStar g2) (notStar g5) (snd_E SO a G bs false g1 (tst_false _ _)) (snd_E SO b G bs false g4 (tst_false _ _))).of fun sa st => by
                      show ((evE (run L.G L.wf n) bs sa st a).bind fun x st => ((evE (run L.G L.wf n) bs sa st b).bind fun y st => .ok [y] st).bind fun xs st => .ok (x :: xs) st).bind _ = _
                      cases evE (run L.G L.wf n) bs sa st a with
                      | ok x s => simp only [Out.bind_ok]; cases evE (run L.G L.wf n) bs sa s b <;> rfl
                      | _ => rfl)
                  · cases g6
                | cons c es4 =>
                  have := mEs_len g6
                  simp only [Es.len] at this
                  simp [← this] at h6
              · cases g3
          · cases h5
      · cases h
    · split at h
      · split at h
        · rename_i hb
          simp only [Bool.and_eq_true] at h
          obtain ⟨h1, h2, h3⟩ := h
          have e1 := of_decide_eq_true h1
          subst e1
          exact SndB.plain ht ((s_bi G hb (gl_by h2) (mEs_star h3) (snd_Es SO es G bs h3)).of fun sa st => rfl)
        · cases h
      · cases h
  | .isi a t, X, W, n, G, bs, e, tst, h, ht => by
    unfold mE at h
    split at h
    · simp only [Bool.and_eq_true] at h
      obtain ⟨h1, h2, h3, h4, h5, h6⟩ := h
      have e1 := of_decide_eq_true h1
      have e2 := of_decide_eq_true h2
      subst e1 e2
      exact SndB.plain ht ((s_isi G (gl_by h3) (gl_by h4) (notStar h5) (snd_E SO a G bs false h6 (tst_false _ _))).of fun sa st => rfl)
    · cases h
  | .get2 a k d, X, W, n, G, bs, e, tst, h, ht => by
    unfold mE at h
    split at h
    · simp only [Bool.and_eq_true] at h
      obtain ⟨h1, h2, h3, h4, h5, h6, h7, h8⟩ := h
      have e1 := of_decide_eq_true h1
      subst e1
      exact SndB.plain ht ((s_get2 G (by simpa using h2) (notStar h3) (notStar h4) h5 (snd_E SO a G bs false h6 (tst_false _ _)) (snd_E SO k G bs false h7 (tst_false _ _)) (snd_E SO d G bs false h8 (tst_false _ _))).of fun sa st => rfl)
    · cases h
  | .odx i k, X, W, n, G, bs, e, tst, h, ht => by
    unfold mE at h
    split at h
    · simp only [Bool.and_eq_true] at h
      obtain ⟨h1, h2, h3⟩ := h
      obtain ⟨q1, q2, q3, q4⟩ := slot_by h1
      exact SndB.plain ht ((s_odx G q1 q2 q3 q4 (by simpa using h2) (snd_E SO k G bs false h3 (tst_false _ _))).of fun sa st => rfl)
    · cases h
  | .lc own t it el, X, W, n, G, bs, e, tst, h, ht => by
    unfold mE at h
    split at h
    · simp only [Bool.and_eq_true] at h
      obtain ⟨h1, h2, h3⟩ := h
      obtain ⟨b1, b2, b3, b4⟩ := blk_by h1
      refine SndB.plain ht ((s_lc (t := t) G (snd_I SO it G bs h2) b1 (fun s H C cl fp => pg_by (X := X.blk s H _ (compEnvC _ cl C X.env) fp) G.nd G.calm b2) b3 (fun s H C cl fp => snd_E SO el (G.blk s H _ (compEnvC _ cl C X.env) fp) bs false h3 (tst_false _ _)) b4).of fun sa st => ?_)
      rw [ownP_snd]; rfl
    · cases h
  | .lcf own t it el cnd, X, W, n, G, bs, e, tst, h, ht => by
    unfold mE at h
    split at h
    · simp only [Bool.and_eq_true] at h
      obtain ⟨h1, h2, h3, h4, h5⟩ := h
      obtain ⟨b1, b2, b3, b4⟩ := blk_by h1
      refine SndB.plain ht ((s_lcf (t := t) G (snd_I SO it G bs h2) b1 (fun s H C cl fp => pg_by (X := X.blk s H _ (compEnvC _ cl C X.env) fp) G.nd G.calm b2) b3 (fun s H C cl fp => snd_E SO el (G.blk s H _ (compEnvC _ cl C X.env) fp) bs false h3 (tst_false _ _)) (fun s H C cl fp => snd_E SO cnd (G.blk s H _ (compEnvC _ cl C X.env) fp) bs true h5 h4) b4).of fun sa st => ?_)
      rw [ownP_snd]; rfl
    · cases h
  | .emd, X, W, n, G, bs, e, tst, h, ht => by
    unfold mE at h
    split at h
    · exact SndB.plain ht (s_emd.of fun sa st => rfl)
    · cases h
  | .told k as, X, W, n, G, bs, e, tst, h, ht => by
    unfold mE at h
    split at h
    · simp only [Bool.and_eq_true] at h
      obtain ⟨h1, h2, h3, h4, h5, h6⟩ := h
      have e1 := of_decide_eq_true h1
      subst e1
      unfold mTk at h6
      split at h6
      · simp only [Bool.and_eq_true] at h6
        obtain ⟨k1, k2, k3, k4⟩ := h6
        cases k with
        | fn f =>
          obtain ⟨q1, q2, q3⟩ := SO.fn f _ _ (of_decide_eq_true k1)
          refine SndB.plain ht ((s_told G (SO.tc h3) (gl_by h2) h4 h5 (s_lamFn (bs := bs) G q1 q2 (glB_by k2) (nodbg_by k3).1 q3 k4)).of fun sa st => ?_)
          rw [evE]
          cases evArs sa as <;> rfl
        | mk f =>
          obtain ⟨q1, q2, q3⟩ := SO.mak f _ _ (of_decide_eq_true k1)
          refine SndB.plain ht ((s_told G (SO.tc h3) (gl_by h2) h4 h5 (s_lamMk (bs := bs) G q1 q2 (glB_by k2) (nodbg_by k3).1 q3 k4)).of fun sa st => ?_)
          rw [evE]
          cases evArs sa as <;> rfl
      · cases h6
    · cases h
  | .bor i a, X, W, n, G, bs, e, tst, h, ht => by
    unfold mE at h
    rw [tstOk] at ht
    cases tst with
    | false => exact (s_bor (i := i) (snd_E SO a G bs false h ht)).of fun sa st => by rw [evE]; rfl
    | true => exact (t_bor (i := i) (snd_E SO a G bs true h ht)).of fun sa st => by rw [evE]; rfl
  | .cnt a k, X, W, n, G, bs, e, tst, h, ht => by
    unfold mE at h
    split at h
    · simp only [Bool.and_eq_true] at h
      obtain ⟨h1, h2, h3, h4, h5, h6⟩ := h
      have e1 := of_decide_eq_true h1
      subst e1
      exact SndB.plain ht ((s_cnt G (by simpa using h2) (notStar h3) h4 (snd_E SO a G bs false h5 (tst_false _ _)) (snd_E SO k G bs false h6 (tst_false _ _))).of fun sa st => rfl)
    · cases h
  | .rev a, X, W, n, G, bs, e, tst, h, ht => by
    unfold mE at h
    split at h
    · simp only [Bool.and_eq_true] at h
      obtain ⟨h1, h2⟩ := h
      have e1 := eq_of_beq h1
      subst e1
      exact SndB.plain ht ((s_rev (snd_E SO a G bs false h2 (tst_false _ _))).of fun sa st => rfl)
    · cases h
theorem snd_And (SO : StaOk L Z) : ∀ (es : Es) {X : Cx} {W : WX} {n : Nat} (G : Good L X n W) (bs : Nat) {xs : List Expr} (tst : Bool), mEs Z X.N tst es X.env.scope xs = true → SndC .And tst L X W xs (fun sa st => evAnd (run L.G L.wf n) bs sa st es)
  | .nil, X, W, n, G, bs, xs, tst, h => by
    intro pos
    cases tst
    · exact fun sa st σ H H0 F m Q fr sr p => (show False from p).elim
    · exact fun sa st σ H H0 F m Q fr sr p => (show False from p).elim
  | .cons e .nil, X, W, n, G, bs, xs, tst, h => by
    unfold mEs at h
    split at h
    · simp only [Bool.and_eq_true] at h
      obtain ⟨⟨h1, h2⟩, h3, h4⟩ := h
      unfold mEs at h4
      split at h4
      · intro pos
        cases tst with
        | false => exact s_one (snd_E SO e G bs false h2 h1)
        | true => exact w_and1 (snd_E SO e G bs true h2 h1)
      · cases h4
    · cases h
  | .cons e (.cons e2 es), X, W, n, G, bs, xs, tst, h => by
    unfold mEs at h
    split at h
    · simp only [Bool.and_eq_true] at h
      obtain ⟨⟨h1, h2⟩, h3, h4⟩ := h
      have r := snd_And SO (.cons e2 es) G bs tst h4
      unfold mEs at h4
      split at h4
      · intro pos
        cases tst with
        | false => exact s_and (snd_E SO e G bs false h2 h1) (r pos)
        | true => exact w_and (snd_E SO e G bs true h2 h1) (r pos)
      · cases h4
    · cases h
theorem snd_Or (SO : StaOk L Z) : ∀ (es : Es) {X : Cx} {W : WX} {n : Nat} (G : Good L X n W) (bs : Nat) {xs : List Expr} (tst : Bool), mEs Z X.N tst es X.env.scope xs = true → SndC .Or tst L X W xs (fun sa st => evOr (run L.G L.wf n) bs sa st es)
  | .nil, X, W, n, G, bs, xs, tst, h => by
    intro pos
    cases tst
    · exact fun sa st σ H H0 F m Q fr sr p => (show False from p).elim
    · exact fun sa st σ H H0 F m Q fr sr p => (show False from p).elim
  | .cons e .nil, X, W, n, G, bs, xs, tst, h => by
    unfold mEs at h
    split at h
    · simp only [Bool.and_eq_true] at h
      obtain ⟨⟨h1, h2⟩, h3, h4⟩ := h
      unfold mEs at h4
      split at h4
      · intro pos
        cases tst with
        | false => exact s_one (snd_E SO e G bs false h2 h1)
        | true => exact w_or1 (snd_E SO e G bs true h2 h1)
      · cases h4
    · cases h
  | .cons e (.cons e2 es), X, W, n, G, bs, xs, tst, h => by
    unfold mEs at h
    split at h
    · simp only [Bool.and_eq_true] at h
      obtain ⟨⟨h1, h2⟩, h3, h4⟩ := h
      have r := snd_Or SO (.cons e2 es) G bs tst h4
      unfold mEs at h4
      split at h4
      · intro pos
        cases tst with
        | false => exact s_or (snd_E SO e G bs false h2 h1) (r pos)
        | true => exact w_or (snd_E SO e G bs true h2 h1) (r pos)
      · cases h4
    · cases h
theorem snd_Es (SO : StaOk L Z) : ∀ (es : Es) {X : Cx} {W : WX} {n : Nat} (G : Good L X n W) (bs : Nat) {xs : List Expr}, mEs Z X.N false es X.env.scope xs = true → SndA L X W xs (fun sa st => evEs (run L.G L.wf n) bs sa st es)
  | .nil, X, W, n, G, bs, xs, h => by
    unfold mEs at h
    split at h
    · exact s_nil.of fun sa st => rfl
    · cases h
  | .cons e es, X, W, n, G, bs, xs, h => by
    unfold mEs at h
    split at h
    · simp only [Bool.and_eq_true] at h
      exact (s_cons (snd_E SO e G bs false h.1.2 h.1.1) (snd_Es SO es G bs h.2.2) (notStar h.2.1)).of fun sa st => rfl
    · cases h
theorem snd_O (SO : StaOk L Z) : ∀ (t : Eo) {X : Cx} {W : WX} {n : Nat} (G : Good L X n W) (bs : Nat) {e : Option Expr}, mO Z X.N t X.env.scope e = true → SndO L X W e (fun sa st => evO (run L.G L.wf n) bs sa st t)
  | .no, X, W, n, G, bs, xs, h => by
    unfold mO at h
    split at h
    · exact o_no.of fun sa st => rfl
    · cases h
  | .so a, X, W, n, G, bs, xs, h => by
    unfold mO at h
    split at h
    · exact (o_so (snd_E SO a G bs false h (tst_false _ _))).of fun sa st => rfl
    · cases h
theorem snd_I (SO : StaOk L Z) : ∀ (t : It) {X : Cx} {W : WX} {n : Nat} (G : Good L X n W) (bs : Nat) {tg e : Expr}, mI Z X.N t X.env.scope tg e = true → SndI L X W tg e (fun sa st => evI (run L.G L.wf n) bs sa st t)
  | .ov a, X, W, n, G, bs, tg, e, h => by
    unfold mI at h
    exact (i_ov (snd_E SO a G bs false h (tst_false _ _))).of fun sa st => rfl
  | .r1 a, X, W, n, G, bs, tg, e, h => by
    unfold mI at h
    split at h
    · simp only [Bool.and_eq_true] at h
      obtain ⟨h1, h2, h3, h4⟩ := h
      have e1 := of_decide_eq_true h1
      subst e1
      exact (i_r1 G (gl_by h2) (notStar h3) (snd_E SO a G bs false h4 (tst_false _ _))).of fun sa st => rfl
    · cases h
  | .r2 a b, X, W, n, G, bs, tg, e, h => by
    unfold mI at h
    split at h
    · simp only [Bool.and_eq_true] at h
      obtain ⟨h1, h2, h3, h4, h5, h6⟩ := h
      have e1 := of_decide_eq_true h1
      subst e1
      exact (i_r2 G (gl_by h2) (notStar h3) (notStar h4) (snd_E SO a G bs false h5 (tst_false _ _)) (snd_E SO b G bs false h6 (tst_false _ _))).of fun sa st => rfl
    · cases h
  | .r3 a b c, X, W, n, G, bs, tg, e, h => by
    unfold mI at h
    cases h
  | .zp a b, X, W, n, G, bs, tg, e, h => by
    unfold mI at h
    split at h
    · simp only [Bool.and_eq_true] at h
      obtain ⟨h1, h2, hT, h3, h4, h5, h6⟩ := h
      have e1 := of_decide_eq_true h1
      subst e1
      obtain ⟨elts, kk, tpos, rfl⟩ := tup_by hT
      exact (i_zp G (gl_by h2) (notStar h3) (notStar h4) (snd_E SO a G bs false h5 (tst_false _ _)) (snd_E SO b G bs false h6 (tst_false _ _))).of fun sa st => rfl
    · cases h
  | .en a, X, W, n, G, bs, tg, e, h => by
    unfold mI at h
    split at h
    · simp only [Bool.and_eq_true] at h
      obtain ⟨h1, h2, hT, h3, h4⟩ := h
      have e1 := of_decide_eq_true h1
      subst e1
      obtain ⟨elts, kk, tpos, rfl⟩ := tup_by hT
      exact (i_en G (gl_by h2) (notStar h3) (snd_E SO a G bs false h4 (tst_false _ _))).of fun sa st => rfl
    · cases h
end
end
end Mn
set_option maxHeartbeats 4000000
namespace Mn
open PySem PySem.Spec PyProof.Rows L2
section
variable {L : Lk} {Z : Sta}
theorem snd_R (SO : StaOk L Z) (r : R) {X : Cx} {W : WX} {n : Nat} (G : Good L X n W) (bs : Nat) {e : Expr} (h : mR Z X.N r X.env.scope e = true) : SndR L X W e (fun sa st => evR (run L.G L.wf n) bs sa st r) := by
  cases r with
  | pl a => exact (R_pl (snd_E SO a G bs false h (tst_false _ _))).of fun sa st => rfl
  | nl es =>
    unfold mR at h
    dsimp only at h
    split at h
    · exact (R_nl (snd_Es SO es G bs h)).of fun sa st => rfl
    · cases h
  | nd =>
    unfold mR at h
    dsimp only at h
    split at h
    · exact R_nd.of fun sa st => rfl
    · cases h
  | ndc own t it k v =>
    unfold mR at h
    dsimp only at h
    split at h
    · simp only [Bool.and_eq_true] at h
      obtain ⟨h1, h2, h3, h4⟩ := h
      obtain ⟨b1, b2, b3, b4⟩ := blk_by h1
      refine (R_ndc (t := t) G (snd_I SO it G bs h2) b1 (fun s H C cl fp => pg_by (X := X.blk s H _ (compEnvC _ cl C X.env) fp) G.nd G.calm b2) b3 (fun s H C cl fp => snd_E SO k (G.blk s H _ (compEnvC _ cl C X.env) fp) bs false h3 (tst_false _ _)) (fun s H C cl fp => snd_E SO v (G.blk s H _ (compEnvC _ cl C X.env) fp) bs false h4 (tst_false _ _)) b4).of fun sa st => ?_
      rw [ownP_snd]; rfl
    · cases h
  | ncp a =>
    unfold mR at h
    dsimp only at h
    split at h
    · simp only [Bool.and_eq_true] at h
      obtain ⟨h1, h2, h3, h4⟩ := h
      have e1 := of_decide_eq_true h1
      subst e1
      exact (R_ncp G (gl_by h2) (notStar h3) (snd_E SO a G bs false h4 (tst_false _ _))).of fun sa st => rfl
    · cases h
  | cat i a =>
    unfold mR at h
    dsimp only at h
    split at h
    · simp only [Bool.and_eq_true] at h
      obtain ⟨h1, h2⟩ := h
      obtain ⟨q1, q2, q3, q4⟩ := slot_by h1
      exact (R_cat q1 q2 q3 q4 (snd_E SO a G bs false h2 (tst_false _ _))).of fun sa st => rfl
    · cases h
theorem snd_Rs (SO : StaOk L Z) {X : Cx} {W : WX} {n : Nat} (G : Good L X n W) (bs : Nat) : ∀ (rs : List R) (is : List Nat) {es : List Expr}, is.length = es.length → mRs Z X.N rs X.env.scope es = true → SndRs L X W es is (fun sa st => evRs (run L.G L.wf n) bs sa st rs)
  | [], is, es, hl, h => by
    cases es with
    | nil =>
      have : (fun sa st => evRs (run L.G L.wf n) bs sa st []) = fun (_ : List Sl) (st : Store) => (.ok [] st : Out (List Sl)) := funext fun sa => funext fun st => rfl
      rw [this]; exact Rs_nil
    | cons x xs => simp [mRs] at h
  | r :: rs, is, es, hl, h => by
    cases es with
    | nil => simp [mRs] at h
    | cons x xs =>
      cases is with
      | nil => simp at hl
      | cons i is =>
        unfold mRs at h
        simp only [Bool.and_eq_true] at h
        have q := Rs_cons (i := i) (snd_R SO r G bs h.1) (snd_Rs SO G bs rs is (by simpa using hl) h.2.2) (notStar h.2.1)
        have : (fun sa st => evRs (run L.G L.wf n) bs sa st (r :: rs)) = fun (sa : List Sl) (st : Store) => (evR (run L.G L.wf n) bs sa st r).bind fun x st => (evRs (run L.G L.wf n) bs sa st rs).bind fun xs st => .ok (x :: xs) st := funext fun sa => funext fun st => rfl
        rw [this]; exact q
theorem swNone_by {ts : List Expr} {k : Nat} {p : Pos} {e : Expr} {env : Env} (h : swNone e = true) : swappedStores [.Tuple ts k p] e env = pure none := by
  unfold swappedStores
  unfold swNone at h
  split at h
  · rename_i vs k2 p2
    simp only
    split
    · rfl
    · split
      · rfl
      · split
        · rfl
        · first | rfl | rw [if_pos h]
  · rename_i hn
    cases e <;> first | rfl | (exact absurd rfl (hn _ _ _))
theorem swTup {ts : List Expr} {k : Nat} {p : Pos} {e : Expr} {l : Nat} {env : Env} : swapsWithSole [.Tuple ts k p] e l env = pure false := by
  unfold swapsWithSole swapsWith
  cases e <;> rfl
theorem blockKind_fn {env : Env} (h : env.scope.kind = .function) : env.blockKind = .function := by
  unfold Env.blockKind
  rw [h]
  rfl
theorem lcl_beq {X : Cx} {x : Str} (h : lclB X.env.scope x = true) : (X.env.kindOf x == some NameKind.local) = true := by
  have := lcl_by h
  show (X.env.scope.names.lookup x == some NameKind.local) = true
  rw [this]; rfl
theorem sw2_by {X : Cx} {x y : Str} {px py pt p2 : Pos} {kt k2 : Nat} {a b : Expr} (hk : X.env.scope.kind = .function) (hx : lclB X.env.scope x = true) (hy : lclB X.env.scope y = true) (hxy : x ≠ y) (hl : (py.line == px.line) = true) (hs : swB X.env.scope [.Name x px, .Name y py] [a, b] = true) (h1 : isStar a = false) (h2 : isStar b = false) :
    swappedStores [.Tuple [.Name x px, .Name y py] kt pt] (.Tuple [a, b] k2 p2) X.env = pure (some [x, y]) := by
  unfold swB at hs
  simp only [Bool.and_eq_true, Bool.not_eq_true'] at hs
  have e1 := blockKind_fn hk
  have hl1 : (px.line == px.line) = true := by simp
  unfold swappedStores
  simp only [e1]
  split
  · rename_i hc; simp at hc
  · split
    · rename_i hc
      simp only [List.any_cons, List.any_nil, Bool.or_false, Bool.or_eq_true] at hc
      rcases hc with hc | hc
      · split at hc
        · cases h1
        · cases hc
      · split at hc
        · cases h2
        · cases hc
    · have k1 := lcl_beq hx
      have k2 := lcl_beq hy
      simp only [List.filterMap_cons, List.filterMap_nil, List.head?_cons, Option.map_some, Option.getD_some, Expr.pos, k1, k2, hl, hl1, Bool.and_self, if_true, hs.1, hs.2]
      have hn : ([x, y].eraseDups.length) = 2 := by
        have : (y == x) = false := by simpa using fun z => hxy z.symm
        simp [List.eraseDups_cons, this]
      rw [if_neg (by simp [hn])]
      rfl
theorem sw3_by {X : Cx} {x y z : Str} {px py pz pt p2 : Pos} {kt k2 : Nat} {a b c : Expr} (hk : X.env.scope.kind = .function) (hx : lclB X.env.scope x = true) (hy : lclB X.env.scope y = true) (hz : lclB X.env.scope z = true) (hxy : x ≠ y) (hxz : x ≠ z) (hyz : y ≠ z) (hl : (py.line == px.line) = true) (hl2 : (pz.line == px.line) = true) (hs : swB X.env.scope [.Name x px, .Name y py, .Name z pz] [a, b, c] = true) (h1 : isStar a = false) (h2 : isStar b = false) (h3 : isStar c = false) :
    swappedStores [.Tuple [.Name x px, .Name y py, .Name z pz] kt pt] (.Tuple [a, b, c] k2 p2) X.env = pure (some [x, y, z]) := by
  unfold swB at hs
  simp only [Bool.and_eq_true, Bool.not_eq_true'] at hs
  have e1 := blockKind_fn hk
  have hl1 : (px.line == px.line) = true := by simp
  unfold swappedStores
  simp only [e1]
  split
  · rename_i hc; simp at hc
  · split
    · rename_i hc
      simp only [List.any_cons, List.any_nil, Bool.or_false, Bool.or_eq_true] at hc
      rcases hc with hc | hc | hc
      · split at hc
        · cases h1
        · cases hc
      · split at hc
        · cases h2
        · cases hc
      · split at hc
        · cases h3
        · cases hc
    · have k1 := lcl_beq hx
      have k2 := lcl_beq hy
      have k3 := lcl_beq hz
      simp only [List.filterMap_cons, List.filterMap_nil, List.head?_cons, Option.map_some, Option.getD_some, Expr.pos, k1, k2, k3, hl, hl1, hl2, Bool.and_self, if_true, hs.1, hs.2]
      have hn : ([x, y, z].eraseDups.length) = 3 := by
        have q1 : (y == x) = false := by simpa using fun z => hxy z.symm
        have q2 : (z == x) = false := by simpa using fun w => hxz w.symm
        have q3 : (z == y) = false := by simpa using fun w => hyz w.symm
        simp [List.eraseDups_cons, q1, q2, q3]
      rw [if_neg (by simp [hn])]
      rfl
theorem mRs_star {N : List Str} {sc : Scope} : ∀ {rs : List R} {es : List Expr}, mRs Z N rs sc es = true → ∀ a ∈ es, isStar a = false
  | [], [], h, a, ha => nomatch ha
  | r :: rs, e :: es, h, a, ha => by
    unfold mRs at h
    simp only [Bool.and_eq_true] at h
    rcases List.mem_cons.mp ha with z | z
    · rw [z]; exact notStar h.2.1
    · exact mRs_star h.2.2 a z
  | [], _ :: _, h, _, _ => by simp [mRs] at h
  | _ :: _, [], h, _, _ => by simp [mRs] at h
/-- where a def's statements stand -/
structure GoodS (L : Lk) (X : Cx) (n : Nat) (W : WX) : Prop where
  g : Good L X n W
  fn : X.fn = fun _ => true
  kind : X.env.scope.kind = .function
  pass : PassesOwn (model X.prog X.w) X.A X.env X.xe
mutual
theorem snd_S (SO : StaOk L Z) : ∀ (t : S) {X : Cx} {W : WX} {n : Nat} {e0 : Ent} (G : GoodS L X n W) (bs : Nat) {s : Stmt}, mS Z X.N t X.env.scope s = true → SndS L X W e0 s (fun sa st => evS (run L.G L.wf n) L.wf bs sa st t)
  | .hole, X, W, n, e0, G, bs, s, h => fun sa st σ H F m Q fr sr E p => (show False from p).elim
  | .frz i, X, W, n, e0, G, bs, s, h => by
    unfold mS at h
    cases h
  | .asg i r, X, W, n, e0, G, bs, s, h => by
    unfold mS at h
    split at h
    · simp only [Bool.and_eq_true] at h
      obtain ⟨h1, h2, h3⟩ := h
      rw [← G.fn] at h1
      obtain ⟨q1, q2, q3⟩ := sto_by h1
      refine (S_asg G.g q1 q2 (snd_R SO r G.g bs h3) ?_ q3).of fun sa st => rfl
      rw [Bool.or_eq_true] at h2
      rcases h2 with h2 | h2
      · exact noSwap (by simpa using h2)
      · exact noSwapC h2
    · cases h
  | .asgC i r, X, W, n, e0, G, bs, s, h => by
    unfold mS at h
    have fl : ∀ (o : Out D) (sa : List Sl), setD0 i o sa = (o.bind fun d st => .ok (.val d) st : Out Sl).fl fun x st => .nx (sa.set i x) st := fun o sa => by cases o <;> rfl
    split at h
    · split at h
      · simp only [Bool.and_eq_true] at h
        obtain ⟨h1, h2, h3, h4, h5, h6, h7⟩ := h
        obtain ⟨b1, b2, b3, b4⟩ := blk_by h5
        refine (S_setLc G.g (of_decide_eq_true h1) (lcl_by h2) (sw_true G.kind (lcl_by h2) h3 (by simpa using h4)) (snd_I SO _ G.g bs h6) b1 (fun s H C cl fp => pg_by (X := X.blk s H _ (compEnvC _ cl C X.env) fp) G.g.nd G.g.calm b2) b3 (fun s H C cl fp => snd_E SO _ (G.g.blk s H _ (compEnvC _ cl C X.env) fp) bs false h7 (tst_false _ _)) b4).of fun sa st => ?_
        rw [fl, ownP_snd]; rfl
      · cases h
    · split at h
      · simp only [Bool.and_eq_true] at h
        obtain ⟨h1, h2, h3, h4, h5, h6, h7, h8, h9⟩ := h
        obtain ⟨b1, b2, b3, b4⟩ := blk_by h5
        refine (S_setLcf G.g (of_decide_eq_true h1) (lcl_by h2) (sw_true G.kind (lcl_by h2) h3 (by simpa using h4)) (snd_I SO _ G.g bs h6) b1 (fun s H C cl fp => pg_by (X := X.blk s H _ (compEnvC _ cl C X.env) fp) G.g.nd G.g.calm b2) b3 (fun s H C cl fp => snd_E SO _ (G.g.blk s H _ (compEnvC _ cl C X.env) fp) bs false h7 (tst_false _ _)) (fun s H C cl fp => snd_E SO _ (G.g.blk s H _ (compEnvC _ cl C X.env) fp) bs true h9 h8) b4).of fun sa st => ?_
        rw [fl, ownP_snd]; rfl
      · cases h
    · cases h
  | .asgP is rs, X, W, n, e0, G, bs, s, h => by
    unfold mS at h
    split at h
    · split at h
      · simp only [Bool.and_eq_true] at h
        obtain ⟨h1, h2, h3, h4, h5, h6, h7, h8, h9, h10⟩ := h
        rename_i es _ _ _ _ _ i j x px y py
        match es, (by simpa using h9 : es.length = 2) with
        | [a, b], _ =>
          have st := mRs_star h10
          exact (S_par2 G.g (of_decide_eq_true h1) (of_decide_eq_true h2) (by simpa using h3) (lcl_by h5) (lcl_by h6) (snd_Rs SO G.g bs rs [i, j] rfl h10) (sw2_by G.kind h5 h6 (by simpa using h4) h7 h8 (st a (by simp)) (st b (by simp)))).of fun sa st => rfl
      · simp only [Bool.and_eq_true] at h
        obtain ⟨h1, h2, h3, h4, h5, h6, h7, h8, h9, h10, h11, h12, h13, h14, h15, h16, h17⟩ := h
        rename_i es _ _ _ _ _ i j k x px y py z pz
        match es, (by simpa using h16 : es.length = 3) with
        | [a, b, c], _ =>
          have st := mRs_star h17
          exact (S_par3 G.g (of_decide_eq_true h1) (of_decide_eq_true h2) (of_decide_eq_true h3) (by simpa using h4) (by simpa using h5) (by simpa using h6) (lcl_by h10) (lcl_by h11) (lcl_by h12) (snd_Rs SO G.g bs rs [i, j, k] rfl h17) (sw3_by G.kind h10 h11 h12 (by simpa using h7) (by simpa using h8) (by simpa using h9) h13 h14 h15 (st a (by simp)) (st b (by simp)) (st c (by simp)))).of fun sa st => rfl
      · cases h
    · cases h
  | .asgQ is rs, X, W, n, e0, G, bs, s, h => by
    unfold mS at h
    split at h
    · simp only [Bool.and_eq_true] at h
      obtain ⟨h1, h2, h3, h4⟩ := h
      rw [← G.fn] at h1
      exact (S_parQ (snd_Rs SO G.g bs rs is (by simpa using h3) h4) (pg_by (t := .tp is) G.g.nd G.g.calm (by unfold mTg; exact h1)) swTup (swOut_by h2)).of fun sa st => rfl
    · cases h
  | .asgT is a, X, W, n, e0, G, bs, s, h => by
    unfold mS at h
    split at h
    · simp only [Bool.and_eq_true] at h
      obtain ⟨h1, h2, h3⟩ := h
      rw [← G.fn] at h1
      exact (S_asgT (snd_E SO a G.g bs false h3 (tst_false _ _)) (pg_by (t := .tp is) G.g.nd G.g.calm (by unfold mTg; exact h1)) swTup (swNone_by h2) rfl).of fun sa st => rfl
    · cases h
  | .app i a, X, W, n, e0, G, bs, s, h => by
    unfold mS at h
    split at h
    · simp only [Bool.and_eq_true] at h
      obtain ⟨h1, h2, h3, h4, h5⟩ := h
      obtain ⟨q1, q2, q3, q4⟩ := slot_by h2
      have e1 := of_decide_eq_true h1
      subst e1
      exact (S_app q1 q2 q3 q4 (snd_E SO a G.g bs false h5 (tst_false _ _)) (notStar h3) h4).of fun sa st => rfl
    · cases h
  | .setR i k a, X, W, n, e0, G, bs, s, h => by
    unfold mS at h
    split at h
    · simp only [Bool.and_eq_true] at h
      obtain ⟨h1, h2, h3, h4⟩ := h
      obtain ⟨q1, q2, q3, q4⟩ := slot_by h1
      exact (S_setR q1 q2 q3 q4 (by simpa using h2) (snd_E SO k G.g bs false h3 (tst_false _ _)) (snd_E SO a G.g bs false h4 (tst_false _ _))).of fun sa st => rfl
    · cases h
  | .setD i k a, X, W, n, e0, G, bs, s, h => by
    unfold mS at h
    split at h
    · simp only [Bool.and_eq_true] at h
      obtain ⟨h1, h2, h3, h4⟩ := h
      obtain ⟨q1, q2, q3, q4⟩ := slot_by h1
      exact (S_setD G.g q1 q2 q3 q4 (by simpa using h2) (snd_E SO k G.g bs false h3 (tst_false _ _)) (snd_E SO a G.g bs false h4 (tst_false _ _))).of fun sa st => rfl
    · cases h
  | .popT i j a, X, W, n, e0, G, bs, s, h => by
    unfold mS at h
    split at h
    · simp only [Bool.and_eq_true] at h
      obtain ⟨h1, h2, h3, h4, h5, h6⟩ := h
      rw [← G.fn] at h2
      obtain ⟨p1, p2, p3⟩ := sto_by h2
      obtain ⟨q1, q2, q3, q4⟩ := slot_by h3
      have e1 := of_decide_eq_true h1
      subst e1
      exact (S_popT G.g p1 p2 p3 q1 q2 q3 q4 (snd_E SO a G.g bs false h6 (tst_false _ _)) (notStar h4) h5).of fun sa st => rfl
    · cases h
  | .rem i a, X, W, n, e0, G, bs, s, h => by
    unfold mS at h
    split at h
    · simp only [Bool.and_eq_true] at h
      obtain ⟨h1, h2, h3, h4, h5⟩ := h
      obtain ⟨q1, q2, q3, q4⟩ := slot_by h2
      have e1 := of_decide_eq_true h1
      subst e1
      exact (S_rem q1 q2 q3 q4 (snd_E SO a G.g bs false h5 (tst_false _ _)) (notStar h3) h4).of fun sa st => rfl
    · cases h
  | .ex a, X, W, n, e0, G, bs, s, h => by
    unfold mS at h
    split at h
    · simp only [Bool.and_eq_true] at h
      exact (S_ex (by simpa using h.1) (snd_E SO a G.g bs false h.2 (tst_false _ _))).of fun sa st => rfl
    · cases h
  | .ret a, X, W, n, e0, G, bs, s, h => by
    unfold mS at h
    split at h
    · exact (S_ret (snd_E SO a G.g bs false h (tst_false _ _))).of fun sa st => rfl
    · cases h
  | .ifs c a b, X, W, n, e0, G, bs, s, h => by
    unfold mS at h
    split at h
    · simp only [Bool.and_eq_true] at h
      obtain ⟨h1, h2, h3, h4⟩ := h
      exact (S_if (snd_E SO c G.g bs true h1 h2) (snd_Ss SO a G bs h3) (snd_Ss SO b G bs h4)).of fun sa st => rfl
    · cases h
  | .for_ t it b, X, W, n, e0, G, bs, s, h => by
    unfold mS at h
    split at h
    · simp only [Bool.and_eq_true] at h
      obtain ⟨h1, h2, h3, h4⟩ := h
      rw [← G.fn] at h1
      exact (S_for G.g G.pass (snd_I SO it G.g bs h2) (pg_by G.g.nd G.g.calm h1) (snd_Ss SO b G bs h4) (by simpa using h3)).of fun sa st => rfl
    · cases h
  | .whl c b, X, W, n, e0, G, bs, s, h => by
    unfold mS at h
    split at h
    · simp only [Bool.and_eq_true] at h
      obtain ⟨h1, h2, h3⟩ := h
      exact (S_whl G.pass (snd_E SO c G.g bs true h1 h2) (snd_Ss SO b G bs h3)).of fun sa st => rfl
    · cases h
  | .brk, X, W, n, e0, G, bs, s, h => by
    unfold mS at h
    split at h
    · exact S_brk.of fun sa st => rfl
    · cases h
  | .pass, X, W, n, e0, G, bs, s, h => by
    unfold mS at h
    split at h
    · exact S_pass.of fun sa st => rfl
    · cases h
  | .raise c, X, W, n, e0, G, bs, s, h => by
    unfold mS at h
    split at h
    · simp only [Bool.and_eq_true, decide_eq_true_eq] at h
      obtain ⟨h1, h2, h3, h4, h5⟩ := h
      exact (S_raise G.g (SO.ex h1) h2 h3 (gl_by h4)).of fun sa st => rfl
    · cases h
theorem snd_Ss (SO : StaOk L Z) : ∀ (ts : List S) {X : Cx} {W : WX} {n : Nat} {e0 : Ent} (G : GoodS L X n W) (bs : Nat) {ss : List Stmt}, mSs Z X.N ts X.env.scope ss = true → SndSs L X W e0 ss (fun sa st => evSs (run L.G L.wf n) L.wf bs sa st ts)
  | [], X, W, n, e0, G, bs, ss, h => by
    unfold mSs at h
    split at h
    · exact b_nil.of fun sa st => rfl
    · cases h
  | t :: ts, X, W, n, e0, G, bs, ss, h => by
    unfold mSs at h
    split at h
    · rename_i hf
      have r := snd_Ss SO ts (e0 := e0) G bs h
      cases t <;> first | cases hf | skip
      exact (b_frz r).of fun sa st => rfl
    · split at h
      · simp only [Bool.and_eq_true] at h
        exact (b_cons (snd_S SO t G bs h.1) (snd_Ss SO ts G bs h.2)).of fun sa st => rfl
      · cases h
end
end
end Mn
set_option maxHeartbeats 4000000
namespace Mn
open PySem PySem.Spec PyProof.Rows L2
/-! ## defs -/
section
variable {L : Lk} {Z : Sta} {P : Program} {w : World} {K : PySem.W.Frag} {mg : Str → Option Value} {base : Heap}
theorem SR.cutS {T : List (Addr × Str)} {F F' : Addr → Prop} {H H' : Hp} {m m' : List Addr} {st st' : Store} (S : SR P w K T F H m st) (e : Evo F m H F' m' H') (S' : SR P w K T F' H' m' st') : SR P w K T F' H' m (st'.take st.length) ∧ Evo F m H F' m H' := by
  obtain ⟨r, hr⟩ := e.pre
  have hl : m'.length = st'.length := S'.len
  have hlen : m.length ≤ st'.length := by rw [← hl, hr]; simp
  refine ⟨⟨by rw [List.length_take, ← S.len]; omega, fun k c a h1 h2 => ?_, S.nd, S'.live, fun a ha => S'.apart a (by rw [hr]; exact List.mem_append_left _ ha), S'.tabs, S'.codes⟩, ⟨e.fz, ⟨[], by simp⟩, e.keep, fun a h => .inl h, e.newF, e.live⟩⟩
  have hk : k < m.length := (List.getElem?_eq_some_iff.mp h2).1
  have h1' : st'[k]? = some c := by
    rw [List.getElem?_take] at h1
    split at h1
    · exact h1
    · cases h1
  have h2' : m'[k]? = some a := by rw [hr, List.getElem?_append_left hk]; exact h2
  have q := S'.cell k c a h1' h2'
  cases c with
  | lst ds => obtain ⟨nb, vs, z, r⟩ := q; exact ⟨nb, vs, z, r.any any0 nb⟩
  | dic ds => obtain ⟨nb, vs, z, r⟩ := q; exact ⟨nb, vs, z, r.any any0 nb⟩
  | ins c fs => exact q.elim
theorem Rel.cutS {F F' : Addr → Prop} {H H' : Hp} {m m' : List Addr} {b : Nat} {d : D} {v : V} (e : Evo F m H F' m' H') (hb : b = m.length) (r : Rel P w K F' H' m' d v) (h : d.rb b = true) : Rel P w K F' H' m d v := by
  obtain ⟨r', hr⟩ := e.pre
  refine r.any (fun k a hk ha => ?_) h
  rw [hr, List.getElem?_append_left (by omega)] at ha
  exact ha
structure DefOk (L : Lk) (Z : Sta) (K : PySem.W.Frag) (mg : Str → Option Value) (f : Nat) (fn : Fn) (x qual : Str) (st : Stmt) (N : List Str) : Prop where
  g : L.G f = some fn
  ql : qual = L.ql f
  fd : FunD K x qual (defArgs st) (defBody st) (defScope st) [] [] (L.ad f) (L.fd f)
  bd : Binds K (L.fd f) (L.ps f) []
  sc : FnScope N (L.ps f) (defScope st)
  ns : N.length = fn.ns
  np : (L.ps f).length = fn.np
  le : fn.np ≤ fn.ns
  mt : mSs Z N fn.body (defScope st) (defBody st) = true
theorem FR.start {F : Addr → Prop} {H : Hp} {m : List Addr} {ds : List D} {vs : List V} {N : List Str} {ns : Nat} (hN : N.length = ns) (r : RelL P w K F H m ds vs) : FR P w K H F H m (ds.map .val ++ List.replicate (ns - ds.length) .un) (L2.start N vs) := by
  have hl := r.length
  unfold L2.start
  refine ⟨by simp [hl, hN], fun i s h => ?_, fun i j s t a h1 h2 o1 _ _ _ => ?_⟩
  · by_cases hi : i < ds.length
    · rw [List.getElem?_append_left (by simpa using hi), List.getElem?_map] at h
      obtain ⟨d, hd, rfl⟩ := Option.map_eq_some_iff.mp h
      obtain ⟨v, hv, rv⟩ := r.get hd
      refine ⟨v, ?_, rv⟩
      rw [List.getElem?_append_left (by simpa [← hl] using hi), List.getElem?_map, hv]
      rfl
    · rw [List.getElem?_append_right (by simpa using hi), List.getElem?_replicate] at h
      split at h
      · cases h; exact True.intro
      · cases h
  · have nown : ∀ (i : Nat) (s : Sl), (ds.map Sl.val ++ List.replicate (ns - ds.length) Sl.un)[i]? = some s → s.own = false := fun i s h => by
      have := List.mem_of_getElem? h
      rcases List.mem_append.mp this with q | q
      · obtain ⟨d, _, rfl⟩ := List.mem_map.mp q; rfl
      · rw [(List.mem_replicate.mp q).2]; rfl
    rw [nown i s h1] at o1
    cases o1
theorem funD_okC {CX : CXT} {N ps : List Str} {k : Nat} {sp : Sp} {x qual : Str} {params : Arguments} {body : List Stmt} {scope : Scope} {dvs : List V} {kws : List (Str × V)} {f : Addr} {fd : FuncData} (F : FunD K x qual params body scope dvs kws f fd) (S : FnScope N ps scope) (len : ∀ vs H Q E, sp vs H Q E → vs.length = ps.length)
    (hbody : ∀ (A : Around) (outer : List Env) (s : Shared) (H : Hp) (vs : List V) (Q : VK) (E : XK), Room k (A.deeper (envOfC qual scope s.heap.objs.size f fd.code)) → sp vs H Q E →
      ∃ t, PSs (cxOf CX P w K mg base N qual scope f fd.code A outer s H E) body t ∧ t { nx := fun _ H' => Q .non H', rt := Q } (L2.start N vs) H) : FnOk P w K mg base CX (k + 1) f fd ps sp := by
  obtain ⟨oc, od, dV, kV, doc, pm, an, cdv, ct, osl, rfl, lk, hcd, _, _⟩ := F.ex
  exact fn_of lk hcd S len fun A outer s H vs Q E hr hsp => hbody A outer s H vs Q E hr hsp
theorem def_ok {f n : Nat} {fn : Fn} {x qual : Str} {st : Stmt} {N : List Str} (SO : StaOk L Z) (D0 : DefOk L Z K mg f fn x qual st N) (hon : (L.on f || L.om f) = true) (LK : LinkOk L P w K mg base n) : FnOk P w K mg base (L2N.CX P w) (4 * (n + 1)) (L.ad f) (L.fd f) (L.ps f) (spF L P w K (n + 1) f) := by
  refine funD_okC (k := 4 * n + 3) D0.fd D0.sc (fun vs H Q E ⟨ds, F, m, sto, bs, r, s, hl, _⟩ => by rw [← r.length]; exact hl) fun A outer s H vs Q E hr ⟨ds, F, m, sto, bs, r, sr, hl, p⟩ => ?_
  generalize hX : cxOf (L2N.CX P w) P w K mg base N qual (defScope st) (L.ad f) (L.fd f).code A outer s H E = X
  refine ⟨WSs X (defBody st), pss_WS X _, ?_⟩
  have hds : ds.length = fn.np := by rw [hl, D0.np]
  rw [run, D0.g] at p
  simp only [hds, if_true] at p
  have G : GoodS L X n (fun cls d _ H' => E cls d H') := by
    subst hX
    refine ⟨⟨⟨hr.mono (by omega), rfl, D0.sc.nd, L2N.takes_of (E := E) rfl rfl rfl rfl, LK⟩, fun tc => ⟨hr, ?_⟩⟩, rfl, D0.sc.kind, passes_of (K := fun e s'' => L2N.CX P w outer H s E e s'') rfl⟩
    obtain ⟨c, h1, h2, h3, h4⟩ := LK.tab tc f hon
    rw [← D0.ql] at h3 h4
    refine ⟨c, L.tb f, h2, h1, ?_, ?_⟩
    · show (L.tb f, qual ++ ".<locals>." ++ "<lambda>") ∈ L.T
      exact h3
    · show ∀ p ∈ L.T, p.1 = L.tb f → p.2 = qual ++ ".<locals>." ++ "<lambda>"
      exact h4
  have hsc : X.env.scope = defScope st := by subst hX; rfl
  have hN : X.N = N := by subst hX; rfl
  have hP : X.prog = P := by subst hX; rfl
  have hw : X.w = w := by subst hX; rfl
  have hK : X.K = K := by subst hX; rfl
  have hm : mSs Z X.N fn.body X.env.scope (defBody st) = true := by rw [hsc, hN]; exact D0.mt
  clear hX
  subst hP hw hK
  have fr : FRx X H F H m (ds.map .val ++ List.replicate (fn.ns - fn.np) .un) (L2.start N vs) := by
    rw [← hds]; exact FR.start D0.ns r
  refine snd_Ss SO fn.body (e0 := ⟨F, m, H⟩) G (if fn.keep then bs else sto.length) hm _ sto _ H F m _ fr sr Evo.refl ?_
  dsimp only
  generalize evSs (run L.G L.wf n) L.wf (if fn.keep then bs else sto.length) (ds.map .val ++ List.replicate (fn.ns - fn.np) .un) sto fn.body = res at p ⊢
  have hb : sto.length = m.length := sr.len.symm
  cases res with
  | bad => exact p
  | bk sa s2 => exact p.elim
  | nx sa s2 =>
    intro σ' H' F' m' _ s' e' _
    unfold fin at p
    dsimp only at p
    split at p
    · exact p H' F' m' e' s' _ .non
    · obtain ⟨c1, c2⟩ := sr.cutS e' s'
      exact p H' F' m c2 c1 _ .non
  | exc c s2 =>
    intro σ' H' F' m' s' e'
    unfold fin at p
    dsimp only at p
    split at p
    · exact p H' F' m' e' s'
    · obtain ⟨c1, c2⟩ := sr.cutS e' s'
      exact p H' F' m c2 c1
  | rt d s2 =>
    intro v H' F' m' s' e' rv
    unfold fin at p
    dsimp only at p
    split at p
    · exact p H' F' m' e' s' v rv
    · split at p
      · rename_i hrb
        obtain ⟨c1, c2⟩ := sr.cutS e' s'
        exact p H' F' m c2 c1 v (rv.cutS e' hb hrb)
      · exact p.elim
/-- what does not hang on the depth -/
structure LinkC (L : Lk) (P : Program) (w : World) (K : PySem.W.Frag) (mg : Str → Option Value) (base : Heap) : Prop where
  gl : ∀ x d, (x, d) ∈ L.gl → ∃ u v, mg x = some u ∧ RelV v u ∧ ∀ F H m, Rel P w K F H m d v
  free : ∀ x ∈ ["isinstance", "int", "bool", "tuple", "list", "dict", "str", "len", "all", "any", "sum", "max", "min", "range", "zip", "enumerate", "sorted", "set"], mg (Str.ofString x) = none
  cls : L.ex = true → ∃ ce, ClsF K mg L.cl ce
  told : L.tc = true → ∃ ce ft fdt pt bt st g fdg pg bg sg, ClsF K mg L.cl ce ∧ TermD K mg ft fdt pt bt st ∧ ToldD K mg g fdg pg bg sg
  tab : L.tc = true → ∀ f, (L.on f || L.om f) = true → ∃ c, (L.fd f).code = .ref c ∧ LamX.TabB base mg c (L.tb f) ∧ (L.tb f, L.ql f ++ ".<locals>." ++ "<lambda>") ∈ L.T ∧ ∀ p ∈ L.T, p.1 = L.tb f → p.2 = L.ql f ++ ".<locals>." ++ "<lambda>"
theorem link_all (SO : StaOk L Z) (hd : ∀ f, L.on f = true → mg (L.nm f) = some (.ref (L.ad f)) ∧ ∃ fn x qual st N, DefOk L Z K mg f fn x qual st N)
    (hm : ∀ f, L.om f = true → (∃ C, mg (L.cn f) = some (.ref C) ∧ Mk K C (L.ad f)) ∧ ∃ fn x qual st N, DefOk L Z K mg f fn x qual st N) (C : LinkC L P w K mg base) : ∀ n, LinkOk L P w K mg base n
  | 0 => by
    have ok : ∀ f, FnOk P w K mg base (L2N.CX P w) (4 * 0) (L.ad f) (L.fd f) (L.ps f) (spF L P w K 0 f) := fun f =>
      ⟨fun vs H Q E ⟨ds, F, m, sto, bs, r, s, hl, _⟩ => by rw [← r.length]; exact hl, fun A outer s H args us vs Q E _ _ _ _ ⟨ds, F, m, sto, bs, r, sr, hl, p⟩ => by
        rw [run] at p
        exact p.elim⟩
    refine ⟨fun f hf => ?_, C.gl, C.free, C.cls, C.told, fun f hf => ?_, C.tab⟩
    · obtain ⟨h1, fn, x, qual, st, N, D0⟩ := hd f hf
      exact ⟨h1, D0.fd.kp, D0.bd, ok f⟩
    · obtain ⟨⟨c, h1, h2⟩, fn, x, qual, st, N, D0⟩ := hm f hf
      exact ⟨c, h1, h2, D0.bd, ok f⟩
  | n + 1 => by
    have ih := link_all SO hd hm C n
    refine ⟨fun f hf => ?_, C.gl, C.free, C.cls, C.told, fun f hf => ?_, C.tab⟩
    · obtain ⟨h1, fn, x, qual, st, N, D0⟩ := hd f hf
      exact ⟨h1, D0.fd.kp, D0.bd, def_ok SO D0 (by rw [hf]; rfl) ih⟩
    · obtain ⟨⟨c, h1, h2⟩, fn, x, qual, st, N, D0⟩ := hm f hf
      exact ⟨c, h1, h2, D0.bd, def_ok SO D0 (by rw [hf]; simp) ih⟩
end
end Mn
set_option maxHeartbeats 4000000
namespace Mn
open PySem PySem.Spec PyProof.Rows L2
/-! ## a law's end -/
structure Row where
  num : Nat
  nm : Str
  N : List Str
  ps : List Str
  fn : Fn
  st : Stmt
  at_ : Str × Option Str
  dn : Str
  ql : Str
/-- a statement of a class's body -/
def inCls (s : Stmt) (j : Nat) : Stmt := match s with
  | .ClassDef (body := b) .. => b.getD j (.Pass ⟨0, 0, 0, 0⟩)
  | s => s
def Row.d (r : Row) : He.DefD := ⟨r.at_, r.dn, r.ql, defArgs r.st, defBody r.st, defScope r.st, [], []⟩
def Row.isFn (r : Row) : Bool := match r.at_.2 with
  | none => decide (r.at_.1 = r.nm)
  | some _ => false
def Row.isMk (r : Row) : Bool := match r.at_.2 with
  | none => false
  | some m => decide (m = "__init__") && decide (r.at_.1 = r.nm)
def rowOf (rows : List Row) (f : Nat) : Option Row := rows.find? fun r => r.num == f
def staOf (rows : List Row) (gl : List (Str × D)) : Sta where
  fn := fun f => (rowOf rows f).bind fun r => if r.isFn then some (r.nm, r.ps.length) else none
  gl := gl
  ex := true
  tc := true
  mak := fun f => (rowOf rows f).bind fun r => if r.isMk then some (r.nm, r.ps.length - 1) else none
def scB (N P : List Str) (sc : Scope) : Bool := fnK sc && (!sc.isCoroutine && (!sc.isGenerator && (decide N.Nodup && (decide (N.take P.length = P) && (P.all (fun x => locB sc x) && sc.names.all fun y => match y.2 with | .free => false | _ => true)))))
theorem scB_ok {N P : List Str} {sc : Scope} (h : scB N P sc = true) : FnScope N P sc := by
  unfold scB at h
  simp only [Bool.and_eq_true, Bool.not_eq_true', decide_eq_true_eq, List.all_eq_true] at h
  obtain ⟨h1, h2, h3, h4, h5, h6, h7⟩ := h
  refine ⟨fnK_ok h1, h2, h3, h4, h5, fun x hx => loc_by (h6 x hx), fun y hy e => ?_⟩
  have := h7 y hy
  rw [e] at this
  cases this
def Row.ok (Z : Sta) (r : Row) : Bool := scB r.N r.ps (defScope r.st) && (r.N.length == r.fn.ns && (r.ps.length == r.fn.np && (decide (r.fn.np ≤ r.fn.ns) && (decide (r.isMk = true → 1 ≤ r.ps.length) && mSs Z r.N r.fn.body (defScope r.st) (defBody r.st)))))
/-! ### what the refusals' classes say, by a Bool -/
def excCB (K : PySem.W.Frag) (D : Addr) : Bool :=
  He.eqO (PySem.W.findIn K (.ref D) "__getattribute__") (some (some (.builtin "BaseException.__getattribute__"))) && (He.eqO (PySem.W.findIn K (.ref D) "__getattr__") (some none) && (decide (PySem.W.subIn K (.ref D) (.type "BaseException") = some true) && (PySem.W.hasDictIn K D &&
  (He.eqO (PySem.W.findIn K (.ref D) "__class__") (some (some (.builtin "object.__class__"))) && (He.eqO (PySem.W.specialIn K (.builtin "object.__class__") "__get__") (some (some (.builtin "getset_descriptor.__get__"))) && (decide (PySem.W.takesIn K (.builtin "object.__class__") = some true) && decide (PySem.W.mroIn K D (.type "object") = some true)))))))
theorem excCB_ok {K : PySem.W.Frag} {D : Addr} (h : excCB K D = true) : ExcC K D := by
  unfold excCB at h
  simp only [Bool.and_eq_true, decide_eq_true_eq] at h
  obtain ⟨h1, h2, h3, h4, h5, h6, h7, h8⟩ := h
  exact ⟨He.eqO_ok h1, He.eqO_ok h2, h3, h4, He.eqO_ok h5, He.eqO_ok h6, h7, h8⟩
def clA (K : PySem.W.Frag) (j : Nat) : Addr := He.ga K (exN j)
def exB1 (K : PySem.W.Frag) (j : Nat) : Bool := (He.Fa.glo (exN j)).ok K && ((He.Fa.exc (exN j)).ok K && (excCB K (clA K j) && (decide (PySem.W.kitOne K (.ref (clA K j)) (.type "ValueError") = some true) && ((He.Fa.exm (exN j) "CoachError" true).ok K && (List.range 13).all fun i => decide (PySem.W.kitOne K (.ref (clA K j)) (.ref (clA K i)) = some (decide (i = j)))))))
def exB (K : PySem.W.Frag) : Bool := (He.Fa.glo "CoachError").ok K && ((He.Fa.free "isinstance").ok K && ((He.Fa.free "sum").ok K && ((He.Fa.free "int").ok K && ((He.Fa.free "ValueError").ok K && (List.range 13).all fun j => exB1 K j))))
theorem exB_ok {K : PySem.W.Frag} {h : Heap} {mg : Str → Option Value} (X : K.In h) (G : h.Ns mainGlobals mg) (e : exB K = true) : ClsF K mg (clA K) (He.ga K "CoachError") := by
  unfold exB at e
  simp only [Bool.and_eq_true, List.all_eq_true, List.mem_range] at e
  obtain ⟨h1, h2, h3, h4, h5, h6⟩ := e
  have one : ∀ j, j < 13 → (He.Fa.glo (exN j)).ok K = true ∧ (He.Fa.exc (exN j)).ok K = true ∧ excCB K (clA K j) = true ∧ PySem.W.kitOne K (.ref (clA K j)) (.type "ValueError") = some true ∧ (He.Fa.exm (exN j) "CoachError" true).ok K = true ∧ ∀ i, i < 13 → PySem.W.kitOne K (.ref (clA K j)) (.ref (clA K i)) = some (decide (i = j)) := fun j hj => by
    have := h6 j hj
    unfold exB1 at this
    simpa only [Bool.and_eq_true, List.all_eq_true, List.mem_range, decide_eq_true_eq] using this
  exact ⟨fun j hj => He.glo_ok X G (one j hj).1, He.glo_ok X G h1, fun j hj => (He.exc_ok (one j hj).2.1).1, fun j hj => (He.exc_ok (one j hj).2.1).2.1, fun j hj => (He.exc_ok (one j hj).2.1).2.2.1, fun j hj => (He.exc_ok (one j hj).2.1).2.2.2, fun j hj => excCB_ok (one j hj).2.2.1,
    fun i hi j hj => (one i hi).2.2.2.2.2 j hj, fun i hi => (one i hi).2.2.2.1, fun i hi => He.exm_ok (one i hi).2.2.2.2.1, He.free_ok X G h2, He.free_ok X G h3, He.free_ok X G h4, He.free_ok X G h5⟩
def AllR (P : Row → Prop) : List Row → Prop
  | [] => True
  | r :: rs => P r ∧ AllR P rs
theorem AllR.mem {P : Row → Prop} : ∀ {rs : List Row}, AllR P rs → ∀ r ∈ rs, P r
  | _ :: _, h, r, hr => by
    rcases List.mem_cons.mp hr with e | e
    · rw [e]; exact h.1
    · exact AllR.mem h.2 r e
/-- its arguments bind -/
def Row.bnd (r : Row) : Prop := ∀ (kV doc pm : Value) (an : Option Addr) (cdv ct : Value) (us : List Value), us.length = r.ps.length → bindArgs (PySem.W.fnOf r.dn r.ql (defArgs r.st) (defBody r.st) (defScope r.st) .none kV doc pm an cdv ct) ⟨us, []⟩ = pure (r.ps.zip us)
def frees : List String := ["isinstance", "int", "bool", "tuple", "list", "dict", "str", "len", "all", "any", "sum", "max", "min", "range", "zip", "enumerate", "sorted", "set"]
def faOf (rows : List Row) (gi : List (Str × Int)) : List He.Fa := [.glo "_law_term", .glo "_law_told"] ++ (rows.flatMap (fun r => if r.isMk then [.glo r.nm, .mkr r.nm] else [.glo r.nm]) ++ (frees.map (fun x => .free (Str.ofString x)) ++ gi.map fun p => .int p.1 p.2))
/-- _law_term, _law_told -/
def exD (x : Str) (st : Stmt) : He.DefD := ⟨(x, none), x, x, defArgs st, defBody st, defScope st, [], []⟩
def fnOf (rows : List Row) (tm td : Stmt) : List He.DefD := exD "_law_term" tm :: exD "_law_told" td :: rows.map Row.d
def tfOf (rows : List Row) : List (Str × Option Str) := rows.map Row.at_
/-- the tables are apart, the classes as they should be -/
def moreB (rows : List Row) (K : PySem.W.Frag) : Bool := exB K && decide ((rows.map fun r => (He.cT K r.at_).2).Nodup)
def okTm (tm td : Stmt) : Bool := scB [("e" : Str), "flags", "kinds"] [("e" : Str)] (defScope tm) && (termSc (defScope tm) && (mTerm (defBody tm) && (scB [("deed" : Str), "e"] [("deed" : Str)] (defScope td) && (toldSc (defScope td) && mTold (defBody td)))))
def bnd1 (x p : Str) (st : Stmt) : Prop := ∀ (kV doc pm : Value) (an : Option Addr) (cdv ct : Value) (us : List Value), us.length = 1 → bindArgs (PySem.W.fnOf x x (defArgs st) (defBody st) (defScope st) .none kV doc pm an cdv ct) ⟨us, []⟩ = pure ([p].zip us)
section
variable {rows : List Row} {gi : List (Str × Int)} {G : Prg} {wf : Nat} {K : PySem.W.Frag} {mg : Str → Option Value} {h : Heap} {tm td : Stmt}
theorem nodup_pick {α β : Type} {f : α → β} : ∀ {l : List α}, (l.map f).Nodup → ∀ {a b : α}, a ∈ l → b ∈ l → f a = f b → a = b
  | [], _, a, _, ha, _, _ => nomatch ha
  | x :: l, h, a, b, ha, hb, e => by
    rw [List.map_cons, List.nodup_cons] at h
    rcases List.mem_cons.mp ha with rfl | ha
    · rcases List.mem_cons.mp hb with rfl | hb
      · rfl
      · exact absurd (List.mem_map.mpr ⟨b, hb, e.symm⟩) h.1
    · rcases List.mem_cons.mp hb with z | hb
      · rw [z] at e
        exact absurd (List.mem_map.mpr ⟨a, ha, e⟩) h.1
      · exact nodup_pick h.2 ha hb e
theorem facts_link {w0 : World} (P : Program) (w : World) (X : K.In h) (Gm : h.Ns mainGlobals mg) (c : He.SaysX (faOf rows gi) (fnOf rows tm td) [] (tfOf rows) (moreB rows) w0 h K) (hne : rows ≠ [])
    (hok : rows.all (Row.ok (staOf rows (gi.map fun p => (p.1, D.int p.2)))) = true) (hG : AllR (fun r => G r.num = some r.fn) rows) (hb : AllR Row.bnd rows) (htm : okTm tm td = true) (hb1 : bnd1 "_law_term" "e" tm) (hb2 : bnd1 "_law_told" "deed" td) :
    ∃ L : Lk, L.G = G ∧ L.wf = wf ∧ L.T = rows.map (fun (r : Row) => ((He.cT K r.at_).2, (r.ql ++ (".<locals>." : Str) ++ ("<lambda>" : Str) : Str))) ∧ (∀ r, rowOf rows r.num = some r → r.isFn = true → L.on r.num = true ∧ L.ps r.num = r.ps ∧ L.ad r.num = He.ga K r.nm ∧ mg r.nm = some (.ref (He.ga K r.nm)) ∧ ∀ (s : Shared) (us : List Value), us.length = r.ps.length → BindsTo s (L.fd r.num) ⟨us, []⟩ (r.ps.zip us)) ∧
      ∀ base n, K.In base → base.Ns mainGlobals mg → (∀ p ∈ rows.map (fun r => He.cT K r.at_), LamX.TabB base mg p.1 p.2) → LinkOk L P w K mg base n := by
  have cD : He.SaysD (faOf rows gi) (fnOf rows tm td) K := congrArg (fun z : He.AlT => z.1) c.t
  have fact : ∀ f ∈ faOf rows gi, f.ok K = true := fun f hf => cD.facts hf
  have glo : ∀ r ∈ rows, mg r.nm = some (.ref (He.ga K r.nm)) := fun r hr => He.glo_ok X Gm (fact _ (List.mem_append_right _ (List.mem_append_left _ (List.mem_flatMap.mpr ⟨r, hr, by
    split
    · exact List.mem_cons_self
    · exact List.mem_cons_self⟩))))
  have mkr : ∀ r ∈ rows, r.isMk = true → Mk K (He.ga K r.nm) (He.ma K (He.ga K r.nm) "__init__") := fun r hr hm => He.mkr_ok (fact _ (List.mem_append_right _ (List.mem_append_left _ (List.mem_flatMap.mpr ⟨r, hr, by
    rw [if_pos hm]
    exact List.mem_cons_of_mem _ List.mem_cons_self⟩))))
  have dfs : ∀ r ∈ rows, ∃ fd, FunD K r.dn r.ql (defArgs r.st) (defBody r.st) (defScope r.st) [] [] (He.fAd K r.at_) fd := fun r hr => by
    obtain ⟨fd, F⟩ := cD.defs (d := r.d) (List.mem_cons_of_mem _ (List.mem_cons_of_mem _ (List.mem_map.mpr ⟨r, hr, rfl⟩)))
    exact ⟨fd, F⟩
  have ex : ∀ f : Nat, ∃ fd : FuncData, ∀ r, rowOf rows f = some r → FunD K r.dn r.ql (defArgs r.st) (defBody r.st) (defScope r.st) [] [] (He.fAd K r.at_) fd := fun f => by
    cases e : rowOf rows f with
    | none =>
      cases rows with
      | nil => exact absurd rfl hne
      | cons r rs =>
        obtain ⟨fd, _⟩ := dfs r List.mem_cons_self
        exact ⟨fd, fun r' z => nomatch z⟩
    | some r =>
      obtain ⟨fd, F⟩ := dfs r (List.mem_of_find?_eq_some e)
      exact ⟨fd, fun r' z => by cases z; exact F⟩
  obtain ⟨fdF, hfd⟩ := Classical.axiomOfChoice ex
  have hmore := c.more
  unfold moreB at hmore
  rw [Bool.and_eq_true, decide_eq_true_eq] at hmore
  have CF := exB_ok X Gm hmore.1
  let L : Lk := { G := G, wf := wf, on := fun f => ((rowOf rows f).map Row.isFn).getD false, nm := fun f => ((rowOf rows f).map Row.nm).getD "", ad := fun f => He.fAd K (((rowOf rows f).map Row.at_).getD ("", none)), fd := fdF, ps := fun f => ((rowOf rows f).map Row.ps).getD [], cl := clA K, ex := true, tc := true, tb := fun f => (He.cT K (((rowOf rows f).map Row.at_).getD ("", none))).2, ql := fun f => ((rowOf rows f).map Row.ql).getD "", om := fun f => ((rowOf rows f).map Row.isMk).getD false, cn := fun f => ((rowOf rows f).map Row.nm).getD "", gl := gi.map fun p => (p.1, D.int p.2), T := rows.map (fun (r : Row) => ((He.cT K r.at_).2, (r.ql ++ (".<locals>." : Str) ++ ("<lambda>" : Str) : Str))) }
  have rowd : ∀ {f : Nat} {r : Row}, rowOf rows f = some r → L.on f = r.isFn ∧ L.nm f = r.nm ∧ L.ad f = He.fAd K r.at_ ∧ L.ps f = r.ps ∧ L.tb f = (He.cT K r.at_).2 ∧ L.ql f = r.ql ∧ L.om f = r.isMk ∧ L.cn f = r.nm := fun {f r} hr => by
    refine ⟨?_, ?_, ?_, ?_, ?_, ?_, ?_, ?_⟩
    · show ((rowOf rows f).map Row.isFn).getD false = _; rw [hr]; rfl
    · show ((rowOf rows f).map Row.nm).getD "" = _; rw [hr]; rfl
    · show He.fAd K (((rowOf rows f).map Row.at_).getD ("", none)) = _; rw [hr]; rfl
    · show ((rowOf rows f).map Row.ps).getD [] = _; rw [hr]; rfl
    · show (He.cT K (((rowOf rows f).map Row.at_).getD ("", none))).2 = _; rw [hr]; rfl
    · show ((rowOf rows f).map Row.ql).getD "" = _; rw [hr]; rfl
    · show ((rowOf rows f).map Row.isMk).getD false = _; rw [hr]; rfl
    · show ((rowOf rows f).map Row.nm).getD "" = _; rw [hr]; rfl
  have okr : ∀ r ∈ rows, scB r.N r.ps (defScope r.st) = true ∧ r.N.length = r.fn.ns ∧ r.ps.length = r.fn.np ∧ r.fn.np ≤ r.fn.ns ∧ (r.isMk = true → 1 ≤ r.ps.length) ∧ mSs (staOf rows (gi.map fun p => (p.1, D.int p.2))) r.N r.fn.body (defScope r.st) (defBody r.st) = true := fun r hr => by
    have o := List.all_eq_true.mp hok r hr
    unfold Row.ok at o
    simpa only [Bool.and_eq_true, beq_iff_eq, decide_eq_true_eq] using o
  have fnrow : ∀ {f : Nat} {x : Str} {k : Nat}, (staOf rows (gi.map fun p => (p.1, D.int p.2))).fn f = some (x, k) → ∃ r, rowOf rows f = some r ∧ r.isFn = true ∧ x = r.nm ∧ r.ps.length = k := fun {f x k} e => by
    obtain ⟨r, hr, e2⟩ := Option.bind_eq_some_iff.mp (show (rowOf rows f).bind (fun r => if r.isFn then some (r.nm, r.ps.length) else none) = some (x, k) from e)
    split at e2
    · rename_i hf
      cases e2
      exact ⟨r, hr, hf, rfl, rfl⟩
    · cases e2
  have mkrow : ∀ {f : Nat} {x : Str} {k : Nat}, (staOf rows (gi.map fun p => (p.1, D.int p.2))).mak f = some (x, k) → ∃ r, rowOf rows f = some r ∧ r.isMk = true ∧ x = r.nm ∧ r.ps.length - 1 = k := fun {f x k} e => by
    obtain ⟨r, hr, e2⟩ := Option.bind_eq_some_iff.mp (show (rowOf rows f).bind (fun r => if r.isMk then some (r.nm, r.ps.length - 1) else none) = some (x, k) from e)
    split at e2
    · rename_i hf
      cases e2
      exact ⟨r, hr, hf, rfl, rfl⟩
    · cases e2
  have SO : StaOk L (staOf rows (gi.map fun p => (p.1, D.int p.2))) := by
    refine ⟨fun f x k e => ?_, fun p hp => hp, fun _ => rfl, fun _ => rfl, fun f x k e => ?_⟩
    · obtain ⟨r, hr, h1, h2, h3⟩ := fnrow e
      obtain ⟨a1, a2, a3, a4, a5, a6, a7, a8⟩ := rowd hr
      exact ⟨a1.trans h1, h2.trans a2.symm, by rw [a4]; exact h3⟩
    · obtain ⟨r, hr, h1, h2, h3⟩ := mkrow e
      obtain ⟨a1, a2, a3, a4, a5, a6, a7, a8⟩ := rowd hr
      have := (okr r (List.mem_of_find?_eq_some hr)).2.2.2.2.1 h1
      exact ⟨a7.trans h1, h2.trans a8.symm, by rw [a4]; omega⟩
  have bnds : ∀ r ∈ rows, r.bnd := hb.mem
  have isfn_at : ∀ {r : Row}, r.isFn = true → r.at_ = (r.nm, none) := fun {r} z => by
    unfold Row.isFn at z
    split at z
    · rename_i e
      exact Prod.ext (of_decide_eq_true z) e
    · cases z
  have ismk_at : ∀ {r : Row}, r.isMk = true → r.at_ = (r.nm, some ("__init__" : Str)) := fun {r} z => by
    unfold Row.isMk at z
    split at z
    · cases z
    · rename_i m e
      rw [Bool.and_eq_true, decide_eq_true_eq, decide_eq_true_eq] at z
      exact Prod.ext z.2 (by rw [e, z.1])
  have dok : ∀ {f : Nat} {r : Row}, rowOf rows f = some r → DefOk L (staOf rows (gi.map fun p => (p.1, D.int p.2))) K mg f r.fn r.dn r.ql r.st r.N := fun {f r} hr => by
    have hm := List.mem_of_find?_eq_some hr
    have hnum : r.num = f := by
      have := List.find?_some hr
      simpa using this
    obtain ⟨a1, a2, a3, a4, a5, a6, a7, a8⟩ := rowd hr
    obtain ⟨o1, o2, o3, o4, o5, o6⟩ := okr r hm
    refine ⟨?_, a6.symm, ?_, ?_, ?_, o2, ?_, o4, o6⟩
    · rw [← hnum]; exact hG.mem r hm
    · rw [a3]; exact hfd f r hr
    · rw [a4]; exact (hfd f r hr).bindsN (bnds r hm)
    · rw [a4]; exact scB_ok o1
    · rw [a4]; exact o3
  have getrow : ∀ {f : Nat} {b : Row → Bool}, ((rowOf rows f).map b).getD false = true → ∃ r, rowOf rows f = some r ∧ b r = true := fun {f b} z => by
    cases e : rowOf rows f with
    | none => rw [e] at z; cases z
    | some r => rw [e] at z; exact ⟨r, rfl, z⟩
  refine ⟨L, rfl, rfl, rfl, fun r hr hf => ?_, fun base n Xb Gb TB => link_all SO (fun f hf => ?_) (fun f hf => ?_) ?_ n⟩
  · have hm := List.mem_of_find?_eq_some hr
    obtain ⟨a1, a2, a3, a4, a5, a6, a7, a8⟩ := rowd hr
    refine ⟨a1.trans hf, a4, ?_, glo r hm, fun s us hl => (hfd r.num r hr).bindsA (bnds r hm) s us hl⟩
    rw [a3, isfn_at hf]
    rfl
  · obtain ⟨r, hr, hf2⟩ := getrow (b := Row.isFn) hf
    obtain ⟨a1, a2, a3, a4, a5, a6, a7, a8⟩ := rowd hr
    refine ⟨?_, r.fn, r.dn, r.ql, r.st, r.N, dok hr⟩
    rw [a2, a3, isfn_at hf2]
    exact glo r (List.mem_of_find?_eq_some hr)
  · obtain ⟨r, hr, hf2⟩ := getrow (b := Row.isMk) hf
    obtain ⟨a1, a2, a3, a4, a5, a6, a7, a8⟩ := rowd hr
    have hm := List.mem_of_find?_eq_some hr
    refine ⟨⟨He.ga K r.nm, ?_, ?_⟩, r.fn, r.dn, r.ql, r.st, r.N, dok hr⟩
    · rw [a8]; exact glo r hm
    · rw [a3, ismk_at hf2]
      exact mkr r hm hf2
  · refine ⟨fun x d hx => ?_, fun x hx => ?_, fun _ => ⟨_, CF⟩, fun _ => ?_, fun _ f hf => ?_⟩
    · obtain ⟨p, hp, e⟩ := List.mem_map.mp (show (x, d) ∈ gi.map fun p => (p.1, D.int p.2) from hx)
      cases e
      obtain ⟨t, ht⟩ := He.int_ok X Gm (fact _ (List.mem_append_right _ (List.mem_append_right _ (List.mem_append_right _ (List.mem_map.mpr ⟨p, hp, rfl⟩)))))
      exact ⟨_, .int p.2, ht, ⟨t, rfl⟩, fun F H m => .int p.2⟩
    · exact He.free_ok X Gm (fact _ (List.mem_append_right _ (List.mem_append_right _ (List.mem_append_left _ (List.mem_map.mpr ⟨x, hx, rfl⟩)))))
    · unfold okTm at htm
      simp only [Bool.and_eq_true] at htm
      obtain ⟨t1, t2, t3, t4, t5, t6⟩ := htm
      obtain ⟨fd1, F1⟩ := cD.defs (d := exD "_law_term" tm) List.mem_cons_self
      obtain ⟨fd2, F2⟩ := cD.defs (d := exD "_law_told" td) (List.mem_cons_of_mem _ List.mem_cons_self)
      have F1' : FunD K "_law_term" "_law_term" (defArgs tm) (defBody tm) (defScope tm) [] [] (He.ga K "_law_term") fd1 := F1
      have F2' : FunD K "_law_told" "_law_told" (defArgs td) (defBody td) (defScope td) [] [] (He.ga K "_law_told") fd2 := F2
      exact ⟨_, _, fd1, _, _, _, _, fd2, _, _, _, CF, ⟨He.glo_ok X Gm (fact _ List.mem_cons_self), F1', scB_ok t1, t2, F1'.bindsN hb1, t3⟩, ⟨He.glo_ok X Gm (fact _ (List.mem_cons_of_mem _ List.mem_cons_self)), F2', scB_ok t4, t5, F2'.bindsN hb2, t6⟩⟩
    · obtain ⟨r, hr⟩ : ∃ r, rowOf rows f = some r := by
        cases e : rowOf rows f with
        | none =>
          have z : (((rowOf rows f).map Row.isFn).getD false || ((rowOf rows f).map Row.isMk).getD false) = true := hf
          rw [e] at z
          cases z
        | some r => exact ⟨r, rfl⟩
      obtain ⟨a1, a2, a3, a4, a5, a6, a7, a8⟩ := rowd hr
      have hm := List.mem_of_find?_eq_some hr
      obtain ⟨oc, od, dV, kV, doc, pm, an, cdv, ct, osl, efd, lk, hcd, _, _⟩ := (hfd f r hr).ex
      obtain ⟨cc, hcc⟩ := He.codeIn_ref hcd
      have ecode : (fdF f).code = .ref cc := by rw [efd]; exact hcc
      have eco : He.codeOf K r.at_ = cc := He.codeOf_eq lk ecode
      refine ⟨cc, ecode, ?_, ?_, ?_⟩
      · rw [a5, ← eco]
        exact TB _ (List.mem_map.mpr ⟨r, hm, rfl⟩)
      · rw [a5, a6]
        exact List.mem_map.mpr ⟨r, hm, rfl⟩
      · rw [a5, a6]
        intro p hp e
        obtain ⟨r', hr', rfl⟩ := List.mem_map.mp hp
        rw [nodup_pick (f := fun r : Row => (He.cT K r.at_).2) hmore.2 hr' hm e]
/-- the law's def -/
theorem law_of {w0 : World} {r : Row} {n : Nat} {f : Addr} (P : Program) (w : World) (X : K.In h) (Gm : h.Ns mainGlobals mg) (c : He.SaysX (faOf rows gi) (fnOf rows tm td) [] (tfOf rows) (moreB rows) w0 h K) (hr : rowOf rows r.num = some r) (hf : r.isFn = true) (hps : r.ps = [("script" : Str)]) (hnm : mg r.nm = some (.ref f))
    (hok : rows.all (Row.ok (staOf rows (gi.map fun p => (p.1, D.int p.2)))) = true) (hG : AllR (fun r => G r.num = some r.fn) rows) (hb : AllR Row.bnd rows) (htm : okTm tm td = true) (hb1 : bnd1 "_law_term" "e" tm) (hb2 : bnd1 "_law_told" "deed" td)
    (hrun : ∀ ns : List Int, ns.length ≤ 63 → ∃ st, run G wf n 0 r.num [.scr ns] [] = .ok (.bl true) st) :
    ∃ (fd : FuncData) (cs : List (Addr × Addr)) (sp : Sp), (∀ p ∈ cs, h.get? p.2 = some { cls := .none, data := .fields #[] }) ∧ (∀ p ∈ cs, K.lookup p.2 = none) ∧ (∀ p ∈ cs, PySem.W.CodeHd h p.1 p.2) ∧ (∀ (s : Shared) (u : Value), BindsTo s fd ⟨[u], []⟩ [("script", u)]) ∧
      (∀ (H : Hp) (a : Addr) (ns : List Int), ns.length ≤ 63 → (∀ p ∈ cs, H p.2 = some (.tbl #[])) → SqL K H a (ns.map V.int) → sp [.ref a] H (fun v _ => v = .bl true) fun _ _ _ => False) ∧
      ∀ base : Heap, K.In base → base.Ns mainGlobals mg → (∀ p ∈ cs, LamX.TabB base mg p.1 p.2) → FnOk P w K mg base (L2N.CX P w) (4 * n) f fd ["script"] sp := by
  have hm := List.mem_of_find?_eq_some hr
  obtain ⟨L, e1, e2, e3, e4, lk⟩ := facts_link (wf := wf) P w X Gm c (fun z => by rw [z] at hm; cases hm) hok hG hb htm hb1 hb2
  obtain ⟨q0, q1, q2, q3, q4⟩ := e4 r hr hf
  rw [hnm] at q3
  have ef : f = He.ga K r.nm := by cases q3; rfl
  have mem : ∀ p ∈ rows.map (fun r => He.cT K r.at_), ∃ d ∈ tfOf rows, He.cT K d = p := fun p hp => by
    obtain ⟨r', hr', rfl⟩ := List.mem_map.mp hp
    exact ⟨r'.at_, List.mem_map.mpr ⟨r', hr', rfl⟩, rfl⟩
  refine ⟨L.fd r.num, rows.map (fun r => He.cT K r.at_), spF L P w K n r.num, fun p hp => ?_, fun p hp => ?_, fun p hp => ?_, fun s u => ?_, fun H a ns hl hT hS => ?_, fun base Xb Gb TB => ?_⟩
  · obtain ⟨d, hd, rfl⟩ := mem p hp; exact c.empty d hd
  · obtain ⟨d, hd, rfl⟩ := mem p hp; exact c.out d hd
  · obtain ⟨d, hd, rfl⟩ := mem p hp; exact PySem.W.codeHd_of_K X (c.hd d hd)
  · have := q4 s [u] (by rw [hps]; rfl)
    rw [hps] at this
    exact this
  · obtain ⟨st, hst⟩ := hrun ns hl
    have nil : ∀ p ∈ L.T, H p.1 = some (.tbl #[]) := fun p hp => by
      rw [e3] at hp
      obtain ⟨r', hr', rfl⟩ := List.mem_map.mp hp
      exact hT _ (List.mem_map.mpr ⟨r', hr', rfl⟩)
    refine ⟨[.scr ns], fun b => b = a ∧ ∃ xs, H a = some (.lst xs), [], [], 0, .cons (.scr ?_) .nil, ⟨rfl, fun k c a h1 _ => by simp at h1, List.nodup_nil, fun b hb => ?_, fun a h => (nomatch h), fun p hp => LamX.TabS.nil (nil p hp), fun p hp ps hps pos c hc => ?_⟩, by rw [q1, hps]; rfl, ?_⟩
    · rcases hS with (h1 | h1) | h1
      · exact .inr (.inr ⟨⟨rfl, _, h1⟩, h1⟩)
      · exact .inl h1
      · exact .inr (.inl h1)
    · obtain ⟨rfl, xs, hx⟩ := hb
      exact ⟨_, hx, True.intro⟩
    · rw [nil p hp] at hps
      cases hps
      simp [codeAmong] at hc
    · rw [e1, e2, hst]
      intro H' F' m' _ _ v rv
      cases rv
      rfl
  · have F := ((lk base n Xb Gb TB).fn r.num q0).2.2.2
    rw [q2, q1, hps, ← ef] at F
    exact F
end
/-- the walk of a law with tables -/
theorem walk_w {l : PySem.W.OpenLaw} {n k : Nat} {q : Program} {loose : List Str} {XP : (Str → Option Value) → Heap → Prop} {YP : World → Heap → Prop} {d : DefRec} {x : Str}
    (hm : l.most = some n) (hz : n ≤ sizeLine) (hnd : d.params.defaults = []) (room : Room k callerA)
    (F : ∀ (w : World) (mg : Str → Option Value) (fa : Addr) (h : Heap), YP w h → h.Ns mainGlobals mg → mg d.name = some (.ref fa) →
      ∃ (K : PySem.W.Frag) (fd : FuncData) (cs : List (Addr × Addr)) (sp : Sp), K.In h ∧ (∀ p ∈ cs, h.get? p.2 = some { cls := .none, data := .fields #[] }) ∧ (∀ p ∈ cs, K.lookup p.2 = none) ∧ (∀ p ∈ cs, PySem.W.CodeHd h p.1 p.2) ∧ (∀ (s : Shared) (u : Value), BindsTo s fd ⟨[u], []⟩ [(x, u)]) ∧
        (∀ (H : Hp) (a : Addr) (ns : List Int), ns.length ≤ n → (∀ p ∈ cs, H p.2 = some (.tbl #[])) → SqL K H a (ns.map V.int) → sp [.ref a] H (fun v _ => v = .bl true) fun _ _ _ => False) ∧
        ∀ base : Heap, K.In base → base.Ns mainGlobals mg → (∀ p ∈ cs, LamX.TabB base mg p.1 p.2) → FnOk l.prog w K mg base (L2N.CX l.prog w) k fa fd [x] sp) :
    PySem.W.WalkO q loose XP YP l.row.toRowW d [] (fun f vs => PySem.call f vs) := by
  refine Att.attach_callB hm hnd fun w s₀ s₁ mg mb fa o pm cd doc a vs ns GG Y ho hd hcd hmg hobj hints hlen hbits hg => ?_
  obtain ⟨K, fd, cs, sp, KX, hT, nT, CH, bb, hsp, hF⟩ := F w mg fa _ Y GG.T.g hmg
  exact LamX.law_callTs KX GG.T.g GG.T.b GG.T.builtins GG.T.nolimit hg hT nT CH GG.T.bmain hobj hints (Nat.le_trans hlen hz) room hF bb (fun H hH hS => hsp H a ns hlen hH hS) fun H e s' ⟨_, _, _, _, _, _, _, _, _, _, _, _, z⟩ => z
end Mn
set_option maxHeartbeats 4000000
namespace Mn
/-- 1 is_whole: 0=thing 1=low 2=high -/
def f_is_whole : Fn := ⟨3, 3, false, [
    .ret (.and (.cons (.isi (.var 0) .int) (.cons (.not (.isi (.var 0) .bool)) (.cons (.chn .le .le (.var 1) (.var 0) (.var 2)) .nil))))]⟩
/-- 2 is_line: 0=thing -/
def f_is_line : Fn := ⟨1, 1, false, [
    .ret (.and (.cons (.isi (.var 0) .tuple) (.cons (.cmp .eq (.bi .len (.cons (.var 0) .nil)) (.con (.int 2))) (.cons (.call 1 (.cons (.idx (.var 0) (.con (.int 0))) (.cons (.con (.int 2)) (.cons (.con (.int 6)) .nil)))) (.cons (.call 1 (.cons (.idx (.var 0) (.con (.int 1))) (.cons (.con (.int 1)) (.cons (.glb "MOST" (.int 9)) .nil)))) .nil)))))]⟩
/-- 3 need_line: 0=thing -/
def f_need_line : Fn := ⟨1, 1, false, [
    .ifs (.not (.call 2 (.cons (.var 0) .nil))) [.raise 0] []]⟩
/-- 4 are_numbers: 0=thing 1=many 2=one -/
def f_are_numbers : Fn := ⟨2, 3, false, [
    .ret (.and (.cons (.isi (.var 0) .tuple) (.cons (.cmp .eq (.bi .len (.cons (.var 0) .nil)) (.var 1)) (.cons (.bi .all (.cons (.lc [2] (.nm 2) (.ov (.var 0)) (.call 1 (.cons (.var 2) (.cons (.con (.int 0)) (.cons (.glb "MOST" (.int 9)) .nil))))) .nil)) .nil))))]⟩
/-- 5 loads_of: 0=ons 1=offs 2=found 3=here 4=on 5=off -/
def f_loads_of : Fn := ⟨2, 6, false, [
    .asgP [2, 3] [(.nl .nil), (.pl (.con (.int 0)))],
    .for_ (.tp [4, 5]) (.zp (.var 0) (.var 1)) [.ifs (.cmp .gt (.var 5) (.var 3)) [.ret (.con .non)] [], .asg 3 (.pl (.bin .add (.bin .sub (.var 3) (.var 5)) (.var 4))), .app 2 (.var 3)],
    .frz 2,
    .ret (.bi .tuple (.cons (.var 2) .nil))]⟩
/-- 6 is_good_tally: 0=line 1=thing 2=found 3=row -/
def f_is_good_tally : Fn := ⟨2, 4, false, [
    .ifs (.or (.cons (.not (.isi (.var 1) .tuple)) (.cons (.cmp .ne (.bi .len (.cons (.var 1) .nil)) (.con (.int 2))) (.cons (.not (.bi .all (.cons (.lc [3] (.nm 3) (.ov (.var 1)) (.call 4 (.cons (.var 3) (.cons (.idx (.var 0) (.con (.int 0))) .nil)))) .nil))) .nil)))) [.ret (.con (.bl false))] [],
    .asg 2 (.pl (.call 5 (.cons (.idx (.var 1) (.con (.int 0))) (.cons (.idx (.var 1) (.con (.int 1))) .nil)))),
    .ret (.and (.cons (.cmp .notN (.var 2) (.con .non)) (.cons (.cmp .le (.bi .max1 (.cons (.var 2) .nil)) (.idx (.var 0) (.con (.int 1)))) (.cons (.cmp .eq (.idx (.var 2) (.neg (.con (.int 1)))) (.con (.int 0))) (.cons (.cmp .eq (.idx (.idx (.var 1) (.con (.int 0))) (.neg (.con (.int 1)))) (.con (.int 0))) .nil)))))]⟩
/-- 7 is_tally: 0=line 1=thing -/
def f_is_tally : Fn := ⟨2, 2, false, [
    .ex (.call 3 (.cons (.var 0) .nil)),
    .ret (.call 6 (.cons (.var 0) (.cons (.var 1) .nil)))]⟩
/-- 8 need_tally: 0=line 1=tally -/
def f_need_tally : Fn := ⟨2, 2, false, [
    .ex (.call 3 (.cons (.var 0) .nil)),
    .ifs (.not (.call 6 (.cons (.var 0) (.cons (.var 1) .nil)))) [.raise 1] []]⟩
/-- 9 loads: 0=line 1=tally -/
def f_loads : Fn := ⟨2, 2, false, [
    .ex (.call 8 (.cons (.var 0) (.cons (.var 1) .nil))),
    .ret (.call 5 (.cons (.idx (.var 1) (.con (.int 0))) (.cons (.idx (.var 1) (.con (.int 1))) .nil)))]⟩
/-- 10 all_ways: 0=line 1=found 2=one 3=other -/
def f_all_ways : Fn := ⟨1, 4, false, [
    .asg 1 (.pl (.lst .nil)),
    .for_ (.nm 2) (.r1 (.idx (.var 0) (.con (.int 0)))) [.asg 1 (.pl (.bin .add (.var 1) (.lc [3] (.nm 3) (.r2 (.bin .add (.var 2) (.con (.int 1))) (.idx (.var 0) (.con (.int 0)))) (.tup (.cons (.var 2) (.cons (.var 3) .nil))))))],
    .ret (.var 1)]⟩
/-- 11 as_table: 0=line 1=many 2=rows 3=one 4=other -/
def f_as_table : Fn := ⟨2, 5, false, [
    .asg 2 (.nl .nil),
    .for_ (.nm 3) (.r1 (.bin .sub (.idx (.var 0) (.con (.int 0))) (.con (.int 1)))) [.app 2 (.bi .tuple (.cons (.lc [4] (.nm 4) (.r2 (.bin .add (.var 3) (.con (.int 1))) (.idx (.var 0) (.con (.int 0)))) (.idx (.var 1) (.tup (.cons (.var 3) (.cons (.var 4) .nil))))) .nil))],
    .frz 2,
    .ret (.bi .tuple (.cons (.var 2) .nil))]⟩
/-- 12 choices: 0=many 1=some 2=found 3=one -/
def f_choices : Fn := ⟨2, 4, false, [
    .asg 2 (.pl (.con (.int 1))),
    .for_ (.nm 3) (.r1 (.var 1)) [.asg 2 (.pl (.bin .fdiv (.bin .mul (.var 2) (.bin .sub (.var 0) (.var 3))) (.bin .add (.var 3) (.con (.int 1)))))],
    .ret (.var 2)]⟩
/-- 13 all_named: 0=tally 1=found 2=here 3=on 4=off -/
def f_all_named : Fn := ⟨1, 5, false, [
    .asgT [1, 2] (.tup (.cons (.con (.int 1)) (.cons (.con (.int 0)) .nil))),
    .for_ (.tp [3, 4]) (.zp (.idx (.var 0) (.con (.int 0))) (.idx (.var 0) (.con (.int 1)))) [.asg 1 (.pl (.bin .mul (.var 1) (.call 12 (.cons (.var 2) (.cons (.var 4) .nil))))), .asg 2 (.pl (.bin .add (.bin .sub (.var 2) (.var 4)) (.var 3)))],
    .ret (.var 1)]⟩
/-- 14 named: 0=line 1=tally -/
def f_named : Fn := ⟨2, 2, false, [
    .ex (.call 8 (.cons (.var 0) (.cons (.var 1) .nil))),
    .ret (.call 13 (.cons (.var 1) .nil))]⟩
/-- 15 led_off: 0=line 1=tally 2=is_last 3=stop 4=many 5=row 6=turn 7=one 8=way -/
def f_led_off : Fn := ⟨3, 9, false, [
    .asgP [4, 5] [(.ndc [8] (.nm 8) (.ov (.call 10 (.cons (.var 0) .nil))) (.var 8) (.con (.int 0))), (.nl .nil)],
    .for_ (.nm 3) (.r1 (.idx (.var 0) (.con (.int 0)))) [.for_ (.nm 6) (.r1 (.idx (.idx (.var 1) (.con (.int 1))) (.var 3))) [.popT 7 5 (.ite (.var 2) (.neg (.con (.int 1))) (.con (.int 0))), .setD 4 (.tup (.cons (.var 7) (.cons (.var 3) .nil))) (.bin .add (.odx 4 (.tup (.cons (.var 7) (.cons (.var 3) .nil)))) (.con (.int 1)))], .asg 5 (.cat 5 (.bin .mul (.lst (.cons (.var 3) .nil)) (.idx (.idx (.var 1) (.con (.int 0))) (.var 3))))],
    .frz 4,
    .ret (.call 11 (.cons (.var 0) (.cons (.var 4) .nil)))]⟩
/-- 16 first_off: 0=line 1=tally -/
def f_first_off : Fn := ⟨2, 2, false, [
    .ex (.call 8 (.cons (.var 0) (.cons (.var 1) .nil))),
    .ret (.call 15 (.cons (.var 0) (.cons (.var 1) (.cons (.con (.bl false)) .nil))))]⟩
/-- 17 miles: 0=line 1=tally -/
def f_miles : Fn := ⟨2, 2, false, [
    .ex (.call 8 (.cons (.var 0) (.cons (.var 1) .nil))),
    .ret (.bi .sum (.cons (.call 5 (.cons (.idx (.var 1) (.con (.int 0))) (.cons (.idx (.var 1) (.con (.int 1))) .nil))) .nil))]⟩
/-- 19 how_many: 0=line 1=tally -/
def f_how_many : Fn := ⟨2, 2, false, [
    .ex (.call 8 (.cons (.var 0) (.cons (.var 1) .nil))),
    .hole]⟩
/-- 20 tally_text: 0=line 1=tally 2=on 3=off -/
def f_tally_text : Fn := ⟨2, 4, false, [
    .ex (.call 8 (.cons (.var 0) (.cons (.var 1) .nil))),
    .hole]⟩
/-- 21 line_text: 0=line -/
def f_line_text : Fn := ⟨1, 1, false, [
    .ex (.call 3 (.cons (.var 0) .nil)),
    .hole]⟩
/-- 22 _law_cell: 0=script 1=k -/
def f_law_cell : Fn := ⟨2, 2, false, [
    .ifs (.cmp .eq (.var 0) (.lst .nil)) [.ret (.bin .mul (.var 1) (.con (.int 7919)))] [],
    .ret (.bin .add (.idx (.var 0) (.bin .mod (.var 1) (.bi .len (.cons (.var 0) .nil)))) (.bin .mul (.bin .fdiv (.var 1) (.bi .len (.cons (.var 0) .nil))) (.con (.int 104729))))]⟩
/-- 23 _law_drawn: 0=cell 1=k 2=more -/
def f_law_drawn : Fn := ⟨2, 3, false, [
    .asg 2 (.pl (.bin .mod (.bin .add (.bin .mul (.var 0) (.con (.int 6364136223846793005))) (.bin .mul (.bin .add (.var 1) (.con (.int 1))) (.con (.int 1442695040888963407)))) (.con (.int 340282366920938463463374607431768211507)))),
    .asg 2 (.pl (.bin .mod (.bin .mul (.var 2) (.var 2)) (.con (.int 340282366920938463463374607431768211297)))),
    .asg 2 (.pl (.bin .mul (.bin .mul (.bin .add (.bin .mod (.var 2) (.con (.int 18446744073709551557))) (.con (.int 1))) (.bin .add (.bin .fdiv (.var 2) (.con (.int 18446744073709551557))) (.con (.int 1)))) (.var 2))),
    .ret (.bin .mod (.var 2) (.con (.int 340282366920938463463374607431768211507)))]⟩
/-- 24 _law_roll: 0=dice 1=many 2=told -/
def f_law_roll : Fn := ⟨2, 3, false, [
    .ifs (.cmp .ge (.idx (.var 0) (.con (.int 0))) (.bin .pow (.con (.int 10)) (.con (.int 18)))) [.asg 2 (.pl (.bin .mod (.idx (.var 0) (.con (.int 0))) (.var 1))), .setR 0 (.con (.int 0)) (.bin .fdiv (.idx (.var 0) (.con (.int 0))) (.var 1)), .ret (.var 2)] [],
    .setR 0 (.con (.int 1)) (.bin .add (.idx (.var 0) (.con (.int 1))) (.con (.int 1))),
    .ret (.bin .mod (.bin .fdiv (.call 23 (.cons (.idx (.var 0) (.con (.int 0))) (.cons (.idx (.var 0) (.con (.int 1))) .nil))) (.con (.int 8))) (.var 1))]⟩
/-- 25 _law_rounds: 0=script 1=high 2=k -/
def f_law_rounds : Fn := ⟨2, 3, true, [
    .ret (.lc [2] (.nm 2) (.r1 (.bi .max2 (.cons (.con (.int 1)) (.cons (.bi .min2 (.cons (.var 1) (.cons (.bi .len (.cons (.var 0) .nil)) .nil))) .nil)))) (.cel (.cons (.call 22 (.cons (.var 0) (.cons (.var 2) .nil))) (.cons (.con (.int 0)) .nil))))]⟩
/-- 28 _law_any_line: 0=dice 1=stops 2=seats -/
def f_law_any_line : Fn := ⟨3, 3, false, [
    .ret (.tup (.cons (.bin .add (.con (.int 2)) (.call 24 (.cons (.var 0) (.cons (.bin .sub (.var 1) (.con (.int 1))) .nil)))) (.cons (.bin .add (.con (.int 1)) (.call 24 (.cons (.var 0) (.cons (.var 2) .nil)))) .nil)))]⟩
/-- 29 _law_any_tally: 0=dice 1=line 2=stop 3=here 4=ons 5=offs 6=is_end 7=off 8=on -/
def f_law_any_tally : Fn := ⟨2, 9, false, [
    .asgP [3, 4, 5] [(.pl (.con (.int 0))), (.nl .nil), (.nl .nil)],
    .for_ (.nm 2) (.r1 (.idx (.var 1) (.con (.int 0)))) [.asg 6 (.pl (.cmp .eq (.var 2) (.bin .sub (.idx (.var 1) (.con (.int 0))) (.con (.int 1))))), .asg 7 (.pl (.ite (.var 6) (.var 3) (.call 24 (.cons (.var 0) (.cons (.bin .add (.var 3) (.con (.int 1))) .nil))))), .asg 8 (.pl (.ite (.var 6) (.con (.int 0)) (.call 24 (.cons (.var 0) (.cons (.bin .add (.bin .add (.bin .sub (.idx (.var 1) (.con (.int 1))) (.var 3)) (.var 7)) (.con (.int 1))) .nil))))), .asg 3 (.pl (.bin .add (.bin .sub (.var 3) (.var 7)) (.var 8))), .app 4 (.var 8), .app 5 (.var 7)],
    .frz 4,
    .frz 5,
    .ret (.tup (.cons (.bi .tuple (.cons (.var 4) .nil)) (.cons (.bi .tuple (.cons (.var 5) .nil)) .nil)))]⟩
/-- 30 _law_is_own_tally: 0=line 1=thing 2=here 3=on 4=off -/
def f_law_is_own_tally : Fn := ⟨2, 5, false, [
    .asg 2 (.pl (.con (.int 0))),
    .for_ (.tp [3, 4]) (.zp (.idx (.var 1) (.con (.int 0))) (.idx (.var 1) (.con (.int 1)))) [.ifs (.or (.cons (.cmp .gt (.var 4) (.var 2)) (.cons (.cmp .gt (.bin .add (.bin .sub (.var 2) (.var 4)) (.var 3)) (.idx (.var 0) (.con (.int 1)))) .nil))) [.ret (.con (.bl false))] [], .asg 2 (.pl (.bin .add (.bin .sub (.var 2) (.var 4)) (.var 3)))],
    .ret (.and (.cons (.cmp .eq (.var 2) (.con (.int 0))) (.cons (.cmp .eq (.idx (.idx (.var 1) (.con (.int 0))) (.neg (.con (.int 1)))) (.con (.int 0))) .nil)))]⟩
/-- 31 _law_tallies_refused: 0=line 1=tally 2=bad 3=short 4=cases 5=made -/
def f_law_tallies_refused : Fn := ⟨2, 6, false, [
    .for_ (.nm 2) (.ov (.lst (.cons (.con .non) (.cons (.con (.int 5)) (.cons (.tup .nil) (.cons (.tup (.cons (.con (.int 1)) (.cons (.con (.int 1)) .nil))) (.cons (.tup (.cons (.con (.int 7)) (.cons (.con (.int 1)) .nil))) (.cons (.tup (.cons (.con (.int 2)) (.cons (.con (.int 0)) .nil))) (.cons (.tup (.cons (.con (.int 2)) (.cons (.con (.int 10)) .nil))) (.cons (.tup (.cons (.con (.int 2)) .nil)) (.cons (.lst (.cons (.con (.int 2)) (.cons (.con (.int 1)) .nil))) (.cons (.tup (.cons (.con (.bl true)) (.cons (.con (.int 1)) .nil))) (.cons (.tup (.cons (.con (.int 2)) (.cons (.con (.int 1)) (.cons (.con (.int 1)) .nil)))) .nil))))))))))))) [.asg 5 (.nl (.cons (.told (.fn 7) [.v 2, .c .non]) .nil)), .app 5 (.told (.fn 9) [.v 2, .c .non]), .app 5 (.told (.mk 500) [.v 2]), .app 5 (.told (.fn 21) [.v 2]), .frz 5, .ifs (.or (.cons (.cmp .notB (.call 2 (.cons (.var 2) .nil)) (.con (.bl false))) (.cons (.cmp .ne (.var 5) (.bin .mul (.lst (.cons (.tup (.cons (.con (.str "refused")) (.cons (.con (.str "BadLine")) .nil))) .nil)) (.con (.int 4)))) .nil))) [.ret (.con (.bl false))] []],
    .asg 3 (.pl (.tup (.cons (.slc (.idx (.var 1) (.con (.int 0))) .no (.so (.neg (.con (.int 1))))) (.cons (.slc (.idx (.var 1) (.con (.int 1))) .no (.so (.neg (.con (.int 1))))) .nil)))),
    .asg 4 (.pl (.lst (.cons (.con .non) (.cons (.con (.int 5)) (.cons (.tup .nil) (.cons (.slc (.var 1) .no (.so (.con (.int 1)))) (.cons (.bi .list (.cons (.var 1) .nil)) (.cons (.bin .add (.var 1) (.slc (.var 1) .no (.so (.con (.int 1))))) (.cons (.var 3) .nil))))))))),
    .asg 4 (.pl (.bin .add (.var 4) (.lst (.cons (.tup (.cons (.bi .list (.cons (.idx (.var 1) (.con (.int 0))) .nil)) (.cons (.idx (.var 1) (.con (.int 1))) .nil))) (.cons (.tup (.cons (.idx (.var 1) (.con (.int 0))) (.cons (.bin .add (.tup (.cons (.con (.bl true)) .nil)) (.slc (.idx (.var 1) (.con (.int 1))) (.so (.con (.int 1))) .no)) .nil))) .nil))))),
    .for_ (.nm 2) (.ov (.var 4)) [.asg 5 (.nl (.cons (.told (.fn 9) [.v 0, .v 2]) .nil)), .app 5 (.told (.fn 19) [.v 0, .v 2]), .app 5 (.told (.fn 17) [.v 0, .v 2]), .app 5 (.told (.fn 16) [.v 0, .v 2]), .app 5 (.told (.fn 14) [.v 0, .v 2]), .app 5 (.told (.fn 20) [.v 0, .v 2]), .frz 5, .ifs (.or (.cons (.cmp .notB (.call 7 (.cons (.var 0) (.cons (.var 2) .nil))) (.con (.bl false))) (.cons (.cmp .ne (.var 5) (.bin .mul (.lst (.cons (.tup (.cons (.con (.str "refused")) (.cons (.con (.str "BadTally")) .nil))) .nil)) (.con (.int 6)))) .nil))) [.ret (.con (.bl false))] []],
    .ret (.con (.bl true))]⟩
/-- 32 rode: 0=table 1=way -/
def f_rode : Fn := ⟨2, 2, false, [
    .ret (.idx (.idx (.var 0) (.idx (.var 1) (.con (.int 0)))) (.bin .sub (.bin .sub (.idx (.var 1) (.con (.int 1))) (.idx (.var 1) (.con (.int 0)))) (.con (.int 1))))]⟩
/-- 33 is_form: 0=line 1=thing 2=stop 3=row -/
def f_is_form : Fn := ⟨2, 4, false, [
    .ifs (.or (.cons (.not (.isi (.var 1) .tuple)) (.cons (.cmp .ne (.bi .len (.cons (.var 1) .nil)) (.bin .sub (.idx (.var 0) (.con (.int 0))) (.con (.int 1)))) .nil))) [.ret (.con (.bl false))] [],
    .ret (.bi .all (.cons (.lc [2, 3] (.tp [2, 3]) (.en (.var 1)) (.call 4 (.cons (.var 3) (.cons (.bin .sub (.bin .sub (.idx (.var 0) (.con (.int 0))) (.con (.int 1))) (.var 2)) .nil)))) .nil))]⟩
/-- 34 is_good_table: 0=line 1=tally 2=thing 3=stop 4=row 5=one -/
def f_is_good_table : Fn := ⟨3, 6, false, [
    .ifs (.not (.call 33 (.cons (.var 0) (.cons (.var 2) .nil)))) [.ret (.con (.bl false))] [],
    .ifs (.bi .any (.cons (.lc [3, 4] (.tp [3, 4]) (.en (.var 2)) (.cmp .ne (.bi .sum (.cons (.var 4) .nil)) (.idx (.idx (.var 1) (.con (.int 0))) (.var 3)))) .nil)) [.ret (.con (.bl false))] [],
    .for_ (.nm 3) (.r1 (.idx (.var 0) (.con (.int 0)))) [.ifs (.cmp .ne (.bi .sum (.cons (.lc [5] (.nm 5) (.r1 (.var 3)) (.call 32 (.cons (.var 2) (.cons (.tup (.cons (.var 5) (.cons (.var 3) .nil))) .nil)))) .nil)) (.idx (.idx (.var 1) (.con (.int 1))) (.var 3))) [.ret (.con (.bl false))] []],
    .ret (.con (.bl true))]⟩
/-- 36 need_table: 0=line 1=tally 2=table -/
def f_need_table : Fn := ⟨3, 3, false, [
    .ex (.call 8 (.cons (.var 0) (.cons (.var 1) .nil))),
    .ifs (.not (.call 34 (.cons (.var 0) (.cons (.var 1) (.cons (.var 2) .nil))))) [.raise 2] []]⟩
/-- 46 choose_two: 0=many -/
def f_choose_two : Fn := ⟨1, 1, false, [
    .ret (.bin .fdiv (.bin .mul (.var 0) (.bin .sub (.var 0) (.con (.int 1)))) (.con (.int 2)))]⟩
/-- 47 miles_of: 0=line 1=tally 2=table 3=way -/
def f_miles_of : Fn := ⟨3, 4, false, [
    .ex (.call 36 (.cons (.var 0) (.cons (.var 1) (.cons (.var 2) .nil)))),
    .ret (.bi .sum (.cons (.lc [3] (.nm 3) (.ov (.call 10 (.cons (.var 0) .nil))) (.bin .mul (.bin .sub (.idx (.var 3) (.con (.int 1))) (.idx (.var 3) (.con (.int 0)))) (.call 32 (.cons (.var 2) (.cons (.var 3) .nil))))) .nil))]⟩
/-- 48 share_a_mile: 0=one 1=other -/
def f_share_a_mile : Fn := ⟨2, 2, false, [
    .ret (.cmp .lt (.bi .max2 (.cons (.idx (.var 0) (.con (.int 0))) (.cons (.idx (.var 1) (.con (.int 0))) .nil))) (.bi .min2 (.cons (.idx (.var 0) (.con (.int 1))) (.cons (.idx (.var 1) (.con (.int 1))) .nil))))]⟩
/-- 49 pairs_of: 0=line 1=tally 2=table 3=some 4=found 5=at 6=one 7=other -/
def f_pairs_of : Fn := ⟨3, 8, false, [
    .ex (.call 36 (.cons (.var 0) (.cons (.var 1) (.cons (.var 2) .nil)))),
    .asgP [3, 4] [(.pl (.call 10 (.cons (.var 0) .nil))), (.pl (.con (.int 0)))],
    .for_ (.tp [5, 6]) (.en (.var 3)) [.asg 4 (.pl (.bin .add (.var 4) (.call 46 (.cons (.call 32 (.cons (.var 2) (.cons (.var 6) .nil))) .nil)))), .for_ (.nm 7) (.ov (.slc (.var 3) (.so (.bin .add (.var 5) (.con (.int 1)))) .no)) [.asg 4 (.pl (.bin .add (.var 4) (.ite (.call 48 (.cons (.var 6) (.cons (.var 7) .nil))) (.bin .mul (.call 32 (.cons (.var 2) (.cons (.var 6) .nil))) (.call 32 (.cons (.var 2) (.cons (.var 7) .nil)))) (.con (.int 0)))))]],
    .ret (.var 4)]⟩
/-- 51 _law_rode: 0=table 1=way -/
def f_law_rode : Fn := ⟨2, 2, false, [
    .ret (.idx (.idx (.var 0) (.idx (.var 1) (.con (.int 0)))) (.bin .sub (.bin .sub (.idx (.var 1) (.con (.int 1))) (.idx (.var 1) (.con (.int 0)))) (.con (.int 1))))]⟩
/-- 52 _law_tables: 0=line 1=tally 2=work 3=stop 4=found 5=one 6=good 7=lots 8=many 9=rows 10=longer 11=left 12=off 13=own 14=rest 15=other -/
def f_law_tables : Fn := ⟨2, 16, false, [
    .asg 2 (.pl (.lst (.cons (.tup (.cons (.bin .mul (.lst (.cons (.con (.int 0)) .nil)) (.idx (.var 0) (.con (.int 0)))) (.cons .emd .nil))) .nil))),
    .for_ (.nm 3) (.r1 (.idx (.var 0) (.con (.int 0)))) [.for_ (.nm 5) (.r1 (.var 3)) [.asg 10 (.nl .nil), .for_ (.tp [7, 8]) (.ov (.var 2)) [.asg 11 (.pl (.bin .sub (.idx (.idx (.var 1) (.con (.int 1))) (.var 3)) (.bi .sum (.cons (.lc [15] (.nm 15) (.r1 (.var 5)) (.get2 (.var 8) (.tup (.cons (.var 15) (.cons (.var 3) .nil))) (.con (.int 0)))) .nil)))), .for_ (.nm 12) (.r1 (.bin .add (.bi .min2 (.cons (.idx (.var 7) (.var 5)) (.cons (.var 11) .nil))) (.con (.int 1)))) [.asg 13 (.ncp (.var 8)), .setD 13 (.tup (.cons (.var 5) (.cons (.var 3) .nil))) (.var 12), .asg 14 (.pl (.bin .add (.bin .add (.slc (.var 7) .no (.so (.var 5))) (.lst (.cons (.bin .sub (.idx (.var 7) (.var 5)) (.var 12)) .nil))) (.slc (.var 7) (.so (.bin .add (.var 5) (.con (.int 1)))) .no))), .frz 13, .app 10 (.tup (.cons (.var 14) (.cons (.var 13) .nil)))]], .frz 10, .asg 2 (.pl (.var 10))], .asg 6 (.nl .nil), .for_ (.tp [7, 8]) (.ov (.var 2)) [.ifs (.cmp .eq (.bi .sum (.cons (.lc [5] (.nm 5) (.r1 (.var 3)) (.get2 (.var 8) (.tup (.cons (.var 5) (.cons (.var 3) .nil))) (.con (.int 0)))) .nil)) (.idx (.idx (.var 1) (.con (.int 1))) (.var 3))) [.app 6 (.tup (.cons (.bin .add (.bin .add (.slc (.var 7) .no (.so (.var 3))) (.lst (.cons (.idx (.idx (.var 1) (.con (.int 0))) (.var 3)) .nil))) (.slc (.var 7) (.so (.bin .add (.var 3) (.con (.int 1)))) .no)) (.cons (.var 8) .nil)))] []], .frz 6, .asg 2 (.pl (.var 6))],
    .asg 4 (.nl .nil),
    .for_ (.tp [7, 8]) (.ov (.var 2)) [.asg 9 (.nl .nil), .for_ (.nm 5) (.r1 (.bin .sub (.idx (.var 0) (.con (.int 0))) (.con (.int 1)))) [.app 9 (.bi .tuple (.cons (.lc [15] (.nm 15) (.r2 (.bin .add (.var 5) (.con (.int 1))) (.idx (.var 0) (.con (.int 0)))) (.idx (.var 8) (.tup (.cons (.var 5) (.cons (.var 15) .nil))))) .nil))], .frz 9, .app 4 (.bi .tuple (.cons (.var 9) .nil))],
    .frz 4,
    .ret (.bi .sorted (.cons (.var 4) .nil))]⟩
/-- 68 _law_ways: 0=line 1=found 2=one 3=other -/
def f_law_ways : Fn := ⟨1, 4, false, [
    .asg 1 (.pl (.lst .nil)),
    .for_ (.nm 2) (.r1 (.idx (.var 0) (.con (.int 0)))) [.asg 1 (.pl (.bin .add (.var 1) (.lc [3] (.nm 3) (.r2 (.bin .add (.var 2) (.con (.int 1))) (.idx (.var 0) (.con (.int 0)))) (.tup (.cons (.var 2) (.cons (.var 3) .nil))))))],
    .ret (.var 1)]⟩
/-- 70 pairs: 0=line 1=tally 2=found 3=here 4=on 5=off -/
def f_pairs : Fn := ⟨2, 6, false, [
    .ex (.call 8 (.cons (.var 0) (.cons (.var 1) .nil))),
    .asgT [2, 3] (.tup (.cons (.con (.int 0)) (.cons (.con (.int 0)) .nil))),
    .for_ (.tp [4, 5]) (.zp (.idx (.var 1) (.con (.int 0))) (.idx (.var 1) (.con (.int 1)))) [.asg 3 (.pl (.bin .sub (.var 3) (.var 5))), .asg 2 (.pl (.bin .add (.bin .add (.var 2) (.bin .mul (.var 3) (.var 4))) (.call 46 (.cons (.var 4) .nil)))), .asg 3 (.pl (.bin .add (.var 3) (.var 4)))],
    .ret (.var 2)]⟩
/-- 71 last_off: 0=line 1=tally -/
def f_last_off : Fn := ⟨2, 2, false, [
    .ex (.call 8 (.cons (.var 0) (.cons (.var 1) .nil))),
    .ret (.call 15 (.cons (.var 0) (.cons (.var 1) (.cons (.con (.bl true)) .nil))))]⟩
/-- 72 _law_riders: 0=line 1=table 2=found 3=way -/
def f_law_riders : Fn := ⟨2, 4, false, [
    .asg 2 (.pl (.lst .nil)),
    .for_ (.nm 3) (.ov (.call 68 (.cons (.var 0) .nil))) [.asg 2 (.pl (.bin .add (.var 2) (.bin .mul (.lst (.cons (.var 3) .nil)) (.call 51 (.cons (.var 1) (.cons (.var 3) .nil))))))],
    .ret (.var 2)]⟩
/-- 73 need_fares: 0=line 1=fares 2=one -/
def f_need_fares : Fn := ⟨2, 3, false, [
    .ifs (.or (.cons (.not (.isi (.var 1) .tuple)) (.cons (.cmp .ne (.bi .len (.cons (.var 1) .nil)) (.bin .sub (.idx (.var 0) (.con (.int 0))) (.con (.int 1)))) (.cons (.not (.bi .all (.cons (.lc [2] (.nm 2) (.ov (.var 1)) (.call 1 (.cons (.var 2) (.cons (.con (.int 0)) (.cons (.con (.int 99)) .nil))))) .nil))) .nil)))) [.raise 5] []]⟩
/-- 74 paid: 0=line 1=tally 2=table 3=fares 4=way -/
def f_paid : Fn := ⟨4, 5, false, [
    .ex (.call 36 (.cons (.var 0) (.cons (.var 1) (.cons (.var 2) .nil)))),
    .ex (.call 73 (.cons (.var 0) (.cons (.var 3) .nil))),
    .ret (.bi .sum (.cons (.lc [4] (.nm 4) (.ov (.call 10 (.cons (.var 0) .nil))) (.bin .mul (.idx (.var 3) (.bin .sub (.bin .sub (.idx (.var 4) (.con (.int 1))) (.idx (.var 4) (.con (.int 0)))) (.con (.int 1)))) (.call 32 (.cons (.var 2) (.cons (.var 4) .nil))))) .nil))]⟩
/-- 75 steps_of: 0=fares 1=one 2=other -/
def f_steps_of : Fn := ⟨1, 3, false, [
    .ret (.lc [1, 2] (.tp [1, 2]) (.zp (.var 0) (.slc (.var 0) (.so (.con (.int 1))) .no)) (.bin .sub (.var 2) (.var 1)))]⟩
/-- 76 spread: 0=line 1=fares 2=steps 3=one 4=other -/
def f_spread : Fn := ⟨2, 5, false, [
    .ex (.call 3 (.cons (.var 0) .nil)),
    .ex (.call 73 (.cons (.var 0) (.cons (.var 1) .nil))),
    .asg 2 (.pl (.call 75 (.cons (.var 1) .nil))),
    .ret (.bi .all (.cons (.lc [3, 4] (.tp [3, 4]) (.zp (.var 2) (.slc (.var 2) (.so (.con (.int 1))) .no)) (.cmp .le (.var 3) (.var 4))) .nil))]⟩
/-- 77 flatten: 0=line 1=fares 2=steps 3=one 4=other -/
def f_flatten : Fn := ⟨2, 5, false, [
    .ex (.call 3 (.cons (.var 0) .nil)),
    .ex (.call 73 (.cons (.var 0) (.cons (.var 1) .nil))),
    .asg 2 (.pl (.call 75 (.cons (.var 1) .nil))),
    .ret (.bi .all (.cons (.lc [3, 4] (.tp [3, 4]) (.zp (.var 2) (.slc (.var 2) (.so (.con (.int 1))) .no)) (.cmp .ge (.var 3) (.var 4))) .nil))]⟩
/-- 78 _law_led: 0=line 1=tally 2=is_last 3=stop 4=rows 5=one 6=riders 7=gone 8=turn 9=other -/
def f_law_led : Fn := ⟨3, 10, false, [
    .asgQ [6, 7] [(.nl .nil), (.nl .nil)],
    .for_ (.nm 3) (.r1 (.idx (.var 0) (.con (.int 0)))) [.for_ (.nm 8) (.r1 (.idx (.idx (.var 1) (.con (.int 1))) (.var 3))) [.asg 5 (.pl (.bor 6 (.ite (.var 2) (.bi .max1 (.cons (.var 6) .nil)) (.bi .min1 (.cons (.var 6) .nil))))), .rem 6 (.var 5), .app 7 (.tup (.cons (.var 5) (.cons (.var 3) .nil)))], .asg 6 (.cat 6 (.bin .mul (.lst (.cons (.var 3) .nil)) (.idx (.idx (.var 1) (.con (.int 0))) (.var 3))))],
    .asg 4 (.nl .nil),
    .for_ (.nm 5) (.r1 (.bin .sub (.idx (.var 0) (.con (.int 0))) (.con (.int 1)))) [.app 4 (.bor 7 (.bi .tuple (.cons (.lc [9] (.nm 9) (.r2 (.bin .add (.var 5) (.con (.int 1))) (.idx (.var 0) (.con (.int 0)))) (.cnt (.var 7) (.tup (.cons (.var 5) (.cons (.var 9) .nil))))) .nil)))],
    .frz 4,
    .ret (.bi .tuple (.cons (.var 4) .nil))]⟩
/-- 79 _law_fares: 0=dice 1=many 2=act 3=steps 4=found 5=step 6=turn -/
def f_law_fares : Fn := ⟨3, 7, false, [
    .ifs (.cmp .eq (.var 2) (.con (.int 0))) [.ret (.bi .tuple (.cons (.lc [6] (.nm 6) (.r1 (.var 1)) (.call 24 (.cons (.var 0) (.cons (.con (.int 30)) .nil)))) .nil))] [],
    .asg 3 (.pl (.bi .sorted (.cons (.lc [6] (.nm 6) (.r1 (.var 1)) (.call 24 (.cons (.var 0) (.cons (.con (.int 9)) .nil)))) .nil))),
    .asg 3 (.pl (.ite (.cmp .eq (.var 2) (.con (.int 1))) (.var 3) (.rev (.var 3)))),
    .asg 4 (.nl .nil),
    .for_ (.nm 5) (.ov (.var 3)) [.app 4 (.bor 4 (.bin .add (.ite (.cmp .ne (.var 4) (.lst .nil)) (.idx (.var 4) (.neg (.con (.int 1)))) (.call 24 (.cons (.var 0) (.cons (.con (.int 5)) .nil)))) (.var 5)))],
    .ret (.bor 4 (.bi .tuple (.cons (.var 4) .nil)))]⟩
/-- 500 Coach.__init__: 0=self 1=line -/
def f_Coach_init : Fn := ⟨2, 2, false, [
    .ex (.call 3 (.cons (.var 1) .nil)),
    .hole,
    .hole]⟩
def G (lf : Fn) : Prg
  | 1 => some f_is_whole
  | 2 => some f_is_line
  | 3 => some f_need_line
  | 4 => some f_are_numbers
  | 5 => some f_loads_of
  | 6 => some f_is_good_tally
  | 7 => some f_is_tally
  | 8 => some f_need_tally
  | 9 => some f_loads
  | 10 => some f_all_ways
  | 11 => some f_as_table
  | 12 => some f_choices
  | 13 => some f_all_named
  | 14 => some f_named
  | 15 => some f_led_off
  | 16 => some f_first_off
  | 17 => some f_miles
  | 19 => some f_how_many
  | 20 => some f_tally_text
  | 21 => some f_line_text
  | 22 => some f_law_cell
  | 23 => some f_law_drawn
  | 24 => some f_law_roll
  | 25 => some f_law_rounds
  | 28 => some f_law_any_line
  | 29 => some f_law_any_tally
  | 30 => some f_law_is_own_tally
  | 31 => some f_law_tallies_refused
  | 32 => some f_rode
  | 33 => some f_is_form
  | 34 => some f_is_good_table
  | 36 => some f_need_table
  | 46 => some f_choose_two
  | 47 => some f_miles_of
  | 48 => some f_share_a_mile
  | 49 => some f_pairs_of
  | 51 => some f_law_rode
  | 52 => some f_law_tables
  | 68 => some f_law_ways
  | 70 => some f_pairs
  | 71 => some f_last_off
  | 72 => some f_law_riders
  | 73 => some f_need_fares
  | 74 => some f_paid
  | 75 => some f_steps_of
  | 76 => some f_spread
  | 77 => some f_flatten
  | 78 => some f_law_led
  | 79 => some f_law_fares
  | 500 => some f_Coach_init
  | 999 => some lf
  | _ => none
end Mn
set_option maxHeartbeats 4000000
namespace K05
open PySem PySem.Spec PyProof.Rows L2 Mn
/-- law: 0=script 1=dice 2=line 3=tally 4=every 5=act 6=cases 7=bad 8=one 9=other 10=fares 11=steps 12=sums 13=table 14=ends 15=made 16=first 17=second 18=way -/
def lf : Fn := ⟨1, 19, false, [
    .for_ (.nm 1) (.ov (.call 25 (.cons (.var 0) (.cons (.con (.int 2)) .nil)))) [.asg 2 (.pl (.call 28 (.cons (.var 1) (.cons (.con (.int 6)) (.cons (.con (.int 6)) .nil))))), .asg 3 (.pl (.call 29 (.cons (.var 1) (.cons (.var 2) .nil)))), .asg 4 (.pl (.call 52 (.cons (.var 2) (.cons (.var 3) .nil)))), .asgQ [8, 9] [(.pl (.call 16 (.cons (.var 2) (.cons (.var 3) .nil)))), (.pl (.call 71 (.cons (.var 2) (.cons (.var 3) .nil))))], .ifs (.or (.cons (.cmp .ne (.var 8) (.call 78 (.cons (.var 2) (.cons (.var 3) (.cons (.con (.bl false)) .nil))))) (.cons (.cmp .ne (.var 9) (.call 78 (.cons (.var 2) (.cons (.var 3) (.cons (.con (.bl true)) .nil))))) .nil))) [.ret (.con (.bl false))] [], .for_ (.nm 5) (.r1 (.con (.int 3))) [.asg 10 (.pl (.call 79 (.cons (.var 1) (.cons (.bin .sub (.idx (.var 2) (.con (.int 0))) (.con (.int 1))) (.cons (.var 5) .nil))))), .asgC 11 (.pl (.lc [16, 17] (.tp [16, 17]) (.zp (.var 10) (.slc (.var 10) (.so (.con (.int 1))) .no)) (.bin .sub (.var 17) (.var 16)))), .ifs (.cmp .ne (.call 76 (.cons (.var 2) (.cons (.var 10) .nil))) (.cmp .eq (.var 11) (.bi .sorted (.cons (.var 11) .nil)))) [.ret (.con (.bl false))] [], .ifs (.cmp .ne (.call 77 (.cons (.var 2) (.cons (.var 10) .nil))) (.cmp .eq (.var 11) (.rev (.bi .sorted (.cons (.var 11) .nil))))) [.ret (.con (.bl false))] [], .asg 12 (.nl .nil), .for_ (.nm 13) (.ov (.var 4)) [.app 12 (.bi .sum (.cons (.lc [18] (.nm 18) (.ov (.call 68 (.cons (.var 2) .nil))) (.bin .mul (.idx (.var 10) (.bin .sub (.bin .sub (.idx (.var 18) (.con (.int 1))) (.idx (.var 18) (.con (.int 0)))) (.con (.int 1)))) (.call 51 (.cons (.var 13) (.cons (.var 18) .nil))))) .nil))], .frz 12, .ifs (.cmp .ne (.lc [13] (.nm 13) (.ov (.slc (.var 4) .no (.so (.con (.int 30))))) (.call 74 (.cons (.var 2) (.cons (.var 3) (.cons (.var 13) (.cons (.var 10) .nil)))))) (.slc (.var 12) .no (.so (.con (.int 30))))) [.ret (.con (.bl false))] [], .asg 14 (.pl (.tup (.cons (.call 74 (.cons (.var 2) (.cons (.var 3) (.cons (.var 8) (.cons (.var 10) .nil))))) (.cons (.call 74 (.cons (.var 2) (.cons (.var 3) (.cons (.var 9) (.cons (.var 10) .nil))))) .nil)))), .ifs (.and (.cons (.call 76 (.cons (.var 2) (.cons (.var 10) .nil))) (.cons (.cmp .ne (.var 14) (.tup (.cons (.bi .min1 (.cons (.var 12) .nil)) (.cons (.bi .max1 (.cons (.var 12) .nil)) .nil)))) .nil))) [.ret (.con (.bl false))] [], .ifs (.and (.cons (.call 77 (.cons (.var 2) (.cons (.var 10) .nil))) (.cons (.cmp .ne (.var 14) (.tup (.cons (.bi .max1 (.cons (.var 12) .nil)) (.cons (.bi .min1 (.cons (.var 12) .nil)) .nil)))) .nil))) [.ret (.con (.bl false))] []], .asg 6 (.pl (.lst (.cons (.con .non) (.cons (.con (.int 5)) (.cons (.tup .nil) (.cons (.bi .list (.cons (.var 10) .nil)) (.cons (.bin .add (.var 10) (.tup (.cons (.con (.int 0)) .nil))) (.cons (.bin .mul (.tup (.cons (.con (.int 100)) .nil)) (.bi .len (.cons (.var 10) .nil))) .nil)))))))), .asg 6 (.pl (.bin .add (.var 6) (.lst (.cons (.bin .mul (.tup (.cons (.neg (.con (.int 1))) .nil)) (.bi .len (.cons (.var 10) .nil))) (.cons (.bin .mul (.tup (.cons (.con (.bl true)) .nil)) (.bi .len (.cons (.var 10) .nil))) .nil))))), .for_ (.nm 7) (.ov (.var 6)) [.asg 15 (.nl (.cons (.told (.fn 76) [.v 2, .v 7]) .nil)), .app 15 (.told (.fn 77) [.v 2, .v 7]), .app 15 (.told (.fn 74) [.v 2, .v 3, .v 8, .v 7]), .frz 15, .ifs (.cmp .ne (.var 15) (.bin .mul (.lst (.cons (.tup (.cons (.con (.str "refused")) (.cons (.con (.str "BadFares")) .nil))) .nil)) (.con (.int 3)))) [.ret (.con (.bl false))] []], .ifs (.cmp .ne (.told (.fn 74) [.v 2, .v 3, .c .non, .c .non]) (.tup (.cons (.con (.str "refused")) (.cons (.con (.str "BadTable")) .nil)))) [.ret (.con (.bl false))] []],
    .ret (.con (.bl true))]⟩
def top (i : Nat) : Stmt := PySem.Challenge.pw_coachtally_k05_whole_manners.main.body.getD i (.Pass ⟨0, 0, 0, 0⟩)
def rows0 : List Mn.Row := [⟨1, "is_whole", ["thing", "low", "high"], ["thing", "low", "high"], f_is_whole, top 17, ("is_whole", none), "is_whole", "is_whole"⟩,
  ⟨2, "is_line", ["thing"], ["thing"], f_is_line, top 18, ("is_line", none), "is_line", "is_line"⟩,
  ⟨3, "need_line", ["thing"], ["thing"], f_need_line, top 19, ("need_line", none), "need_line", "need_line"⟩,
  ⟨4, "are_numbers", ["thing", "many", "one"], ["thing", "many"], f_are_numbers, top 20, ("are_numbers", none), "are_numbers", "are_numbers"⟩,
  ⟨5, "loads_of", ["ons", "offs", "found", "here", "on", "off"], ["ons", "offs"], f_loads_of, top 21, ("loads_of", none), "loads_of", "loads_of"⟩,
  ⟨6, "is_good_tally", ["line", "thing", "found", "row"], ["line", "thing"], f_is_good_tally, top 22, ("is_good_tally", none), "is_good_tally", "is_good_tally"⟩,
  ⟨8, "need_tally", ["line", "tally"], ["line", "tally"], f_need_tally, top 23, ("need_tally", none), "need_tally", "need_tally"⟩,
  ⟨10, "all_ways", ["line", "found", "one", "other"], ["line"], f_all_ways, top 24, ("all_ways", none), "all_ways", "all_ways"⟩,
  ⟨32, "rode", ["table", "way"], ["table", "way"], f_rode, top 25, ("rode", none), "rode", "rode"⟩,
  ⟨33, "is_form", ["line", "thing", "stop", "row"], ["line", "thing"], f_is_form, top 26, ("is_form", none), "is_form", "is_form"⟩,
  ⟨34, "is_good_table", ["line", "tally", "thing", "stop", "row", "one"], ["line", "tally", "thing"], f_is_good_table, top 27, ("is_good_table", none), "is_good_table", "is_good_table"⟩,
  ⟨36, "need_table", ["line", "tally", "table"], ["line", "tally", "table"], f_need_table, top 28, ("need_table", none), "need_table", "need_table"⟩]
def rows1 : List Mn.Row := [⟨11, "as_table", ["line", "many", "rows", "one", "other"], ["line", "many"], f_as_table, top 29, ("as_table", none), "as_table", "as_table"⟩,
  ⟨15, "led_off", ["line", "tally", "is_last", "stop", "many", "row", "turn", "one", "way"], ["line", "tally", "is_last"], f_led_off, top 31, ("led_off", none), "led_off", "led_off"⟩,
  ⟨16, "first_off", ["line", "tally"], ["line", "tally"], f_first_off, top 32, ("first_off", none), "first_off", "first_off"⟩,
  ⟨71, "last_off", ["line", "tally"], ["line", "tally"], f_last_off, top 33, ("last_off", none), "last_off", "last_off"⟩,
  ⟨73, "need_fares", ["line", "fares", "one"], ["line", "fares"], f_need_fares, top 34, ("need_fares", none), "need_fares", "need_fares"⟩,
  ⟨74, "paid", ["line", "tally", "table", "fares", "way"], ["line", "tally", "table", "fares"], f_paid, top 35, ("paid", none), "paid", "paid"⟩,
  ⟨75, "steps_of", ["fares", "one", "other"], ["fares"], f_steps_of, top 36, ("steps_of", none), "steps_of", "steps_of"⟩,
  ⟨76, "spread", ["line", "fares", "steps", "one", "other"], ["line", "fares"], f_spread, top 37, ("spread", none), "spread", "spread"⟩,
  ⟨77, "flatten", ["line", "fares", "steps", "one", "other"], ["line", "fares"], f_flatten, top 38, ("flatten", none), "flatten", "flatten"⟩,
  ⟨22, "_law_cell", ["script", "k"], ["script", "k"], f_law_cell, top 40, ("_law_cell", none), "_law_cell", "_law_cell"⟩,
  ⟨23, "_law_drawn", ["cell", "k", "more"], ["cell", "k"], f_law_drawn, top 41, ("_law_drawn", none), "_law_drawn", "_law_drawn"⟩,
  ⟨24, "_law_roll", ["dice", "many", "told"], ["dice", "many"], f_law_roll, top 42, ("_law_roll", none), "_law_roll", "_law_roll"⟩]
def rows2 : List Mn.Row := [⟨25, "_law_rounds", ["script", "high", "k"], ["script", "high"], f_law_rounds, top 43, ("_law_rounds", none), "_law_rounds", "_law_rounds"⟩,
  ⟨28, "_law_any_line", ["dice", "stops", "seats"], ["dice", "stops", "seats"], f_law_any_line, top 46, ("_law_any_line", none), "_law_any_line", "_law_any_line"⟩,
  ⟨29, "_law_any_tally", ["dice", "line", "stop", "here", "ons", "offs", "is_end", "off", "on"], ["dice", "line"], f_law_any_tally, top 47, ("_law_any_tally", none), "_law_any_tally", "_law_any_tally"⟩,
  ⟨68, "_law_ways", ["line", "found", "one", "other"], ["line"], f_law_ways, top 48, ("_law_ways", none), "_law_ways", "_law_ways"⟩,
  ⟨51, "_law_rode", ["table", "way"], ["table", "way"], f_law_rode, top 49, ("_law_rode", none), "_law_rode", "_law_rode"⟩,
  ⟨52, "_law_tables", ["line", "tally", "work", "stop", "found", "one", "good", "lots", "many", "rows", "longer", "left", "off", "own", "rest", "other"], ["line", "tally"], f_law_tables, top 50, ("_law_tables", none), "_law_tables", "_law_tables"⟩,
  ⟨78, "_law_led", ["line", "tally", "is_last", "stop", "rows", "one", "riders", "gone", "turn", "other"], ["line", "tally", "is_last"], f_law_led, top 51, ("_law_led", none), "_law_led", "_law_led"⟩,
  ⟨79, "_law_fares", ["dice", "many", "act", "steps", "found", "step", "turn"], ["dice", "many", "act"], f_law_fares, top 52, ("_law_fares", none), "_law_fares", "_law_fares"⟩,
  ⟨999, "law", ["script", "dice", "line", "tally", "every", "act", "cases", "bad", "one", "other", "fares", "steps", "sums", "table", "ends", "made", "first", "second", "way"], ["script"], lf, top 53, ("law", none), "law", "law"⟩]
def rows : List Mn.Row := rows0 ++ (rows1 ++ (rows2))
def gi : List (Str × Int) := [("MOST", 9)]
def tm : Stmt := top 44
def td : Stmt := top 45
theorem rows_ok : rows.all (Mn.Row.ok (staOf rows (gi.map fun p => (p.1, D.int p.2)))) = true := by decide +kernel
theorem tm_ok : okTm tm td = true := by decide +kernel
theorem tm_bnd : bnd1 "_law_term" "e" tm := fun _ _ _ _ _ _ us hl => match us, hl with | [_], _ => rfl
theorem td_bnd : bnd1 "_law_told" "deed" td := fun _ _ _ _ _ _ us hl => match us, hl with | [_], _ => rfl
theorem rows_G : AllR (fun r => G lf r.num = some r.fn) rows := ⟨rfl, rfl, rfl, rfl, rfl, rfl, rfl, rfl, rfl, rfl, rfl, rfl, rfl, rfl, rfl, rfl, rfl, rfl, rfl, rfl, rfl, rfl, rfl, rfl, rfl, rfl, rfl, rfl, rfl, rfl, rfl, rfl, rfl, True.intro⟩
theorem rows_bnd : AllR Mn.Row.bnd rows := ⟨fun _ _ _ _ _ _ us hl => match us, hl with | [_, _, _], _ => rfl,
  fun _ _ _ _ _ _ us hl => match us, hl with | [_], _ => rfl,
  fun _ _ _ _ _ _ us hl => match us, hl with | [_], _ => rfl,
  fun _ _ _ _ _ _ us hl => match us, hl with | [_, _], _ => rfl,
  fun _ _ _ _ _ _ us hl => match us, hl with | [_, _], _ => rfl,
  fun _ _ _ _ _ _ us hl => match us, hl with | [_, _], _ => rfl,
  fun _ _ _ _ _ _ us hl => match us, hl with | [_, _], _ => rfl,
  fun _ _ _ _ _ _ us hl => match us, hl with | [_], _ => rfl,
  fun _ _ _ _ _ _ us hl => match us, hl with | [_, _], _ => rfl,
  fun _ _ _ _ _ _ us hl => match us, hl with | [_, _], _ => rfl,
  fun _ _ _ _ _ _ us hl => match us, hl with | [_, _, _], _ => rfl,
  fun _ _ _ _ _ _ us hl => match us, hl with | [_, _, _], _ => rfl,
  fun _ _ _ _ _ _ us hl => match us, hl with | [_, _], _ => rfl,
  fun _ _ _ _ _ _ us hl => match us, hl with | [_, _, _], _ => rfl,
  fun _ _ _ _ _ _ us hl => match us, hl with | [_, _], _ => rfl,
  fun _ _ _ _ _ _ us hl => match us, hl with | [_, _], _ => rfl,
  fun _ _ _ _ _ _ us hl => match us, hl with | [_, _], _ => rfl,
  fun _ _ _ _ _ _ us hl => match us, hl with | [_, _, _, _], _ => rfl,
  fun _ _ _ _ _ _ us hl => match us, hl with | [_], _ => rfl,
  fun _ _ _ _ _ _ us hl => match us, hl with | [_, _], _ => rfl,
  fun _ _ _ _ _ _ us hl => match us, hl with | [_, _], _ => rfl,
  fun _ _ _ _ _ _ us hl => match us, hl with | [_, _], _ => rfl,
  fun _ _ _ _ _ _ us hl => match us, hl with | [_, _], _ => rfl,
  fun _ _ _ _ _ _ us hl => match us, hl with | [_, _], _ => rfl,
  fun _ _ _ _ _ _ us hl => match us, hl with | [_, _], _ => rfl,
  fun _ _ _ _ _ _ us hl => match us, hl with | [_, _, _], _ => rfl,
  fun _ _ _ _ _ _ us hl => match us, hl with | [_, _], _ => rfl,
  fun _ _ _ _ _ _ us hl => match us, hl with | [_], _ => rfl,
  fun _ _ _ _ _ _ us hl => match us, hl with | [_, _], _ => rfl,
  fun _ _ _ _ _ _ us hl => match us, hl with | [_, _], _ => rfl,
  fun _ _ _ _ _ _ us hl => match us, hl with | [_, _, _], _ => rfl,
  fun _ _ _ _ _ _ us hl => match us, hl with | [_, _, _], _ => rfl,
  fun _ _ _ _ _ _ us hl => match us, hl with | [_], _ => rfl, True.intro⟩
abbrev R : PySem.W.OpenRow := PySem.W.OpenLaw.row PySem.Challenge.rw_coachtally_k05_whole_manners
abbrev hk : PySem.W.Hook := He.hookX 5 (faOf rows gi) (fnOf rows tm td) [] (tfOf rows) (moreB rows)
def ob (s : PySem.W.SharedT) : He.AlX := He.obsX 5 (faOf rows gi) (fnOf rows tm td) [] (tfOf rows) (moreB rows) (HandSHeadRun.getT s)
theorem ob_eq (s : PySem.W.SharedT) : ob s = hk.obs s.abs := He.obsX_eq (HandSHeadRun.getT_eq s)
def loose0 : List Str := ["CoachError",
  "BadLine",
  "BadTally",
  "BadTable",
  "BadWay",
  "BadNumber",
  "BadFares",
  "BadPrices",
  "BadHeights",
  "BadTickets",
  "BadStop",
  "Nothing",
  "Full",
  "BadText",
  "MOST",
  "is_whole",
  "is_line",
  "need_line",
  "are_numbers",
  "loads_of",
  "is_good_tally",
  "need_tally",
  "all_ways",
  "rode",
  "is_form",
  "is_good_table",
  "need_table",
  "as_table",
  "led_off",
  "first_off"]
def loose1 : List Str := ["last_off",
  "need_fares",
  "paid",
  "steps_of",
  "spread",
  "flatten",
  "_law_cell",
  "_law_drawn",
  "_law_roll",
  "_law_rounds",
  "_law_term",
  "_law_told",
  "_law_any_line",
  "_law_any_tally",
  "_law_ways",
  "_law_rode",
  "_law_tables",
  "_law_led",
  "_law_fares"]
def loose : List Str := loose0 ++ (loose1)
theorem run_top (w : World) : HandSHeadRun.RunEq R (PySem.W.view R.prog [53]) hk ob 8000 loose w := by
  intro os
  kernel_rfl
def lawix : Nat := 53
def rlaw : Mn.Row := ⟨999, "law", ["script", "dice", "line", "tally", "every", "act", "cases", "bad", "one", "other", "fares", "steps", "sums", "table", "ends", "made", "first", "second", "way"], ["script"], lf, top 53, ("law", none), "law", "law"⟩
def wf : Nat := 1000
def depth : Nat := 12
end K05
set_option maxHeartbeats 4000000
namespace Mn
open PySem
/-! ## reading the evaluator -/
theorem szOk_of {n : Nat} (h : n ≤ 16777216) : szOk n = true := decide_eq_true h
theorem eqD_int (a b : Int) : eqD (.int a) (.int b) = some (decide (a = b)) := by
  have h1 : SeqAt.shaped (.int a) = true := by simp [SeqAt.shaped, PyData.canLay0, PyData.depth]
  have h2 : SeqAt.shaped (.int b) = true := by simp [SeqAt.shaped, PyData.canLay0, PyData.depth]
  simp only [eqD, D.py, h1, h2, Bool.and_self, if_true]
  rfl
theorem cm_eq (a b : Int) : cmD .eq (.int a) (.int b) = some (decide (a = b)) := by simp only [cmD, eqD_int]
theorem cm_ne (a b : Int) : cmD .ne (.int a) (.int b) = some (!decide (a = b)) := by
  simp only [cmD, eqD_int]; rfl
theorem lay_ints : ∀ xs : List Int, PyData.canLayAll0 (xs.map .int) = true
  | [] => by simp [PyData.canLayAll0]
  | x :: xs => by simp [PyData.canLayAll0, PyData.canLay0, lay_ints xs]
theorem dep_ints : ∀ xs : List Int, PyData.depthAll (xs.map .int) ≤ 1
  | [] => by simp [PyData.depthAll]
  | x :: xs => by
    have := dep_ints xs
    simp [PyData.depthAll, PyData.depth]; omega
theorem sh_ints (xs : List Int) : SeqAt.shaped (.list (xs.map .int)) = true := by
  have := dep_ints xs
  simp [SeqAt.shaped, PyData.canLay0, lay_ints, PyData.depth]; omega
theorem pyL_ints : ∀ xs : List Int, D.pyL (xs.map .int) = some (xs.map .int)
  | [] => rfl
  | x :: xs => by simp [D.pyL, D.py, pyL_ints xs]
theorem eq_scr (ns : List Int) : cmD .eq (.scr ns) (.lst []) = some ns.isEmpty := by
  simp only [cmD]
  have h2 : SeqAt.shaped (.list []) = true := sh_ints []
  simp only [eqD, D.py, D.pyL, Option.map_some, sh_ints, h2, Bool.and_self, if_true]
  cases ns <;> rfl
theorem ne_ints (ns : List Int) : cmD .ne (.lst (ns.map .int)) (.lst []) = some (!ns.isEmpty) := by
  simp only [cmD]
  have h2 : SeqAt.shaped (.list []) = true := sh_ints []
  simp only [eqD, D.py, D.pyL, pyL_ints, Option.map_some, sh_ints, h2, Bool.and_self, if_true]
  cases ns <;> rfl
theorem ints_map (xs : List Int) : intsD (xs.map .int) = some xs := by
  induction xs with
  | nil => rfl
  | cons x xs ih => simp [intsD, ih]
theorem bls_map (xs : List Bool) : blsD (xs.map .bl) = some xs := by
  induction xs with
  | nil => rfl
  | cons x xs ih => simp [blsD, ih]
theorem ixN_nat {n k : Nat} (h : k < n) : ixN n (k : Int) = some k := by
  unfold ixN L2.ixN
  rw [if_pos (by omega), if_pos (by omega), Int.toNat_natCast]
theorem ixN_last {n : Nat} (h : 0 < n) : ixN n (-1) = some (n - 1) := by
  unfold ixN L2.ixN
  rw [if_neg (by omega), if_pos (by omega)]
  congr 1; omega
theorem ixN_zero {n : Nat} (h : 0 < n) : ixN n 0 = some 0 := ixN_nat h
/-- numbers by a function -/
def nl (f : Nat → Nat) (n : Nat) : List D := (List.range n).map fun k => D.int (f k : Int)
@[simp] theorem nl_len (f : Nat → Nat) (n : Nat) : (nl f n).length = n := by simp [nl]
theorem nl_get {f : Nat → Nat} {n k : Nat} (h : k < n) : (nl f n)[k]? = some (.int (f k : Int)) := by simp [nl, h]
theorem idx_nl {f : Nat → Nat} {n k : Nat} (h : k < n) : idxD (.tup (nl f n)) (.int (k : Int)) = some (.int (f k : Int)) := by
  simp only [idxD, nl_len, ixN_nat h, Option.bind_some, nl_get h]
theorem idx_tup {ds : List D} {k : Nat} {d : D} (h : ds[k]? = some d) : idxD (.tup ds) (.int (k : Int)) = some d := by
  have hl := (List.getElem?_eq_some_iff.mp h).1
  simp only [idxD, ixN_nat hl, Option.bind_some, h]
theorem idx_lst {ds : List D} {k : Nat} {d : D} (h : ds[k]? = some d) : idxD (.lst ds) (.int (k : Int)) = some d := by
  have hl := (List.getElem?_eq_some_iff.mp h).1
  simp only [idxD, ixN_nat hl, Option.bind_some, h]
theorem nl_map (f : Nat → Nat) (n : Nat) : nl f n = ((List.range n).map fun k => (f k : Int)).map .int := by simp [nl, List.map_map]
/-! ### comprehensions -/
section
variable {σ : List Sl} {tg : Tg} {el cnd : List Sl → Store → Out D} {st : Store}
theorem compL_map (f : D → D) : ∀ (xs acc : List D), (∀ x ∈ xs, ∃ s1, bindT σ tg x = some s1 ∧ el s1 st = .ok (f x) st) → acc.length + xs.length ≤ 16777216 →
    compL σ tg (fun _ st => .ok (.bl true) st) el xs acc st = .ok (.lst (acc ++ xs.map f)) st
  | [], acc, _, _ => by simp [compL]
  | x :: xs, acc, h, hs => by
    obtain ⟨s1, h1, h2⟩ := h x List.mem_cons_self
    simp only [compL, h1, h2]
    rw [if_pos (szOk_of (by simp at hs; omega)), compL_map f xs (acc ++ [f x]) (fun y hy => h y (List.mem_cons_of_mem _ hy)) (by simp at hs ⊢; omega)]
    simp
theorem compL_filter (f : D → D) (p : D → Bool) : ∀ (xs acc : List D), (∀ x ∈ xs, ∃ s1, bindT σ tg x = some s1 ∧ cnd s1 st = .ok (.bl (p x)) st ∧ el s1 st = .ok (f x) st) → acc.length + xs.length ≤ 16777216 →
    compL σ tg cnd el xs acc st = .ok (.lst (acc ++ (xs.filter p).map f)) st
  | [], acc, _, _ => by simp [compL]
  | x :: xs, acc, h, hs => by
    obtain ⟨s1, h1, h2, h3⟩ := h x List.mem_cons_self
    simp only [compL, h1, h2]
    cases hp : p x with
    | true =>
      simp only [h3]
      rw [if_pos (szOk_of (by simp at hs; omega)), compL_filter f p xs (acc ++ [f x]) (fun y hy => h y (List.mem_cons_of_mem _ hy)) (by simp at hs ⊢; omega)]
      simp [hp]
    | false =>
      simp only
      rw [compL_filter f p xs acc (fun y hy => h y (List.mem_cons_of_mem _ hy)) (by simp at hs ⊢; omega)]
      simp [hp]
end
/-! ### loops -/
theorem forL_inv {tg : Tg} {body : List Sl → Store → Fl} (I : Nat → List Sl → Store → Prop) : ∀ (xs : List D) (k : Nat) {σ : List Sl} {st : Store},
    (∀ (j : Nat) x σ st, xs[j]? = some x → I (k + j) σ st → ∃ s1 s2 st2, bindT σ tg x = some s1 ∧ body s1 st = .nx s2 st2 ∧ I (k + j + 1) s2 st2) → I k σ st → ∃ s' st', forL tg body xs σ st = .nx s' st' ∧ I (k + xs.length) s' st'
  | [], k, σ, st, _, h0 => ⟨σ, st, rfl, h0⟩
  | x :: xs, k, σ, st, h, h0 => by
    obtain ⟨s1, s2, st2, h1, h2, h3⟩ := h 0 x σ st rfl h0
    obtain ⟨s', st', h4, h5⟩ := forL_inv I xs (k + 1) (σ := s2) (st := st2) (fun j y σ' st' hy hi => by
      have := h (j + 1) y σ' st' (by simpa using hy) (by rw [show k + (j + 1) = k + 1 + j by omega]; exact hi)
      rw [show k + (j + 1) + 1 = k + 1 + j + 1 by omega] at this
      exact this) h3
    refine ⟨s', st', ?_, by rw [show k + (x :: xs).length = k + 1 + xs.length by simp; omega]; exact h5⟩
    rw [forL, h1]
    simp only [h2]
    exact h4
theorem forL_fold {tg : Tg} {body : List Sl → Store → Fl} {α : Type} (S : α → List Sl) (step : α → D → α) {st : Store} : ∀ (xs : List D) (a : α), (∀ a, ∀ x ∈ xs, ∃ s1, bindT (S a) tg x = some s1 ∧ body s1 st = .nx (S (step a x)) st) →
    forL tg body xs (S a) st = .nx (S (xs.foldl step a)) st
  | [], a, _ => rfl
  | x :: xs, a, h => by
    obtain ⟨s1, h1, h2⟩ := h a x List.mem_cons_self
    rw [forL, h1]
    simp only [h2]
    rw [forL_fold S step xs (step a x) fun a y hy => h a y (List.mem_cons_of_mem _ hy)]
    rfl
/-! ### equations -/
def getV (s : Option Sl) (st : Store) : Out D := match s with
  | some (.val d) => .ok d st
  | _ => .bad
@[simp] theorem getV_val (d : D) (st : Store) : getV (some (.val d)) st = .ok d st := by rw [getV]
@[simp] theorem cd_int (i : Int) : C.d (.int i) = .int i := by rw [C.d]
@[simp] theorem cd_bl (i : Bool) : C.d (.bl i) = .bl i := by rw [C.d]
@[simp] theorem cd_non : C.d .non = .non := by rw [C.d]
@[simp] theorem cd_str (x : Str) : C.d (.str x) = .str x := by rw [C.d]
section
variable {cf : Nat → Nat → List D → Store → Out D} {bs wf : Nat} {σ : List Sl} {st : Store}
@[simp] theorem ev_var (i : Nat) : evE cf bs σ st (.var i) = getV σ[i]? st := by first | (rw [evE]; done) | (rw [evE]; rfl) | (rw [evO]; done) | (rw [evO]; rfl) | (rw [evEs]; done) | (rw [evEs]; rfl) | (rw [evI]; done) | (rw [evI]; rfl) | (rw [evR]; done) | (rw [evR]; rfl) | (rw [evRs]; done) | (rw [evRs]; rfl) | (rw [evS]; done) | (rw [evS]; rfl) | (rw [evSs]; done) | (rw [evSs]; rfl) | (rw [evAnd]; done) | (rw [evOr]; done) | (rw [evAnd]; rfl; (intro h; cases h)) | (rw [evOr]; rfl; (intro h; cases h))
@[simp] theorem ev_con (c : C) : evE cf bs σ st (.con c) = .ok c.d st := by first | (rw [evE]; done) | (rw [evE]; rfl) | (rw [evO]; done) | (rw [evO]; rfl) | (rw [evEs]; done) | (rw [evEs]; rfl) | (rw [evI]; done) | (rw [evI]; rfl) | (rw [evR]; done) | (rw [evR]; rfl) | (rw [evRs]; done) | (rw [evRs]; rfl) | (rw [evS]; done) | (rw [evS]; rfl) | (rw [evSs]; done) | (rw [evSs]; rfl) | (rw [evAnd]; done) | (rw [evOr]; done) | (rw [evAnd]; rfl; (intro h; cases h)) | (rw [evOr]; rfl; (intro h; cases h))
@[simp] theorem ev_glb (x : Str) (d : D) : evE cf bs σ st (.glb x d) = .ok d st := by first | (rw [evE]; done) | (rw [evE]; rfl) | (rw [evO]; done) | (rw [evO]; rfl) | (rw [evEs]; done) | (rw [evEs]; rfl) | (rw [evI]; done) | (rw [evI]; rfl) | (rw [evR]; done) | (rw [evR]; rfl) | (rw [evRs]; done) | (rw [evRs]; rfl) | (rw [evS]; done) | (rw [evS]; rfl) | (rw [evSs]; done) | (rw [evSs]; rfl) | (rw [evAnd]; done) | (rw [evOr]; done) | (rw [evAnd]; rfl; (intro h; cases h)) | (rw [evOr]; rfl; (intro h; cases h))
@[simp] theorem ev_bin (o : Op) (a b : E) : evE cf bs σ st (.bin o a b) = (evE cf bs σ st a).bind fun x st => (evE cf bs σ st b).bind fun y st => .of (opD o x y) st := by first | (rw [evE]; done) | (rw [evE]; rfl) | (rw [evO]; done) | (rw [evO]; rfl) | (rw [evEs]; done) | (rw [evEs]; rfl) | (rw [evI]; done) | (rw [evI]; rfl) | (rw [evR]; done) | (rw [evR]; rfl) | (rw [evRs]; done) | (rw [evRs]; rfl) | (rw [evS]; done) | (rw [evS]; rfl) | (rw [evSs]; done) | (rw [evSs]; rfl) | (rw [evAnd]; done) | (rw [evOr]; done) | (rw [evAnd]; rfl; (intro h; cases h)) | (rw [evOr]; rfl; (intro h; cases h))
@[simp] theorem ev_neg (a : E) : evE cf bs σ st (.neg a) = (evE cf bs σ st a).bind fun x st => match x with
    | .int i => .ok (.int (-i)) st
    | _ => .bad := by first | (rw [evE]; done) | (rw [evE]; rfl) | (rw [evO]; done) | (rw [evO]; rfl) | (rw [evEs]; done) | (rw [evEs]; rfl) | (rw [evI]; done) | (rw [evI]; rfl) | (rw [evR]; done) | (rw [evR]; rfl) | (rw [evRs]; done) | (rw [evRs]; rfl) | (rw [evS]; done) | (rw [evS]; rfl) | (rw [evSs]; done) | (rw [evSs]; rfl) | (rw [evAnd]; done) | (rw [evOr]; done) | (rw [evAnd]; rfl; (intro h; cases h)) | (rw [evOr]; rfl; (intro h; cases h))
@[simp] theorem ev_not (a : E) : evE cf bs σ st (.not a) = (evE cf bs σ st a).bind fun x st => match x with
    | .bl b => .ok (.bl (!b)) st
    | _ => .bad := by first | (rw [evE]; done) | (rw [evE]; rfl) | (rw [evO]; done) | (rw [evO]; rfl) | (rw [evEs]; done) | (rw [evEs]; rfl) | (rw [evI]; done) | (rw [evI]; rfl) | (rw [evR]; done) | (rw [evR]; rfl) | (rw [evRs]; done) | (rw [evRs]; rfl) | (rw [evS]; done) | (rw [evS]; rfl) | (rw [evSs]; done) | (rw [evSs]; rfl) | (rw [evAnd]; done) | (rw [evOr]; done) | (rw [evAnd]; rfl; (intro h; cases h)) | (rw [evOr]; rfl; (intro h; cases h))
@[simp] theorem ev_and (es : Es) : evE cf bs σ st (.and es) = evAnd cf bs σ st es := by first | (rw [evE]; done) | (rw [evE]; rfl) | (rw [evO]; done) | (rw [evO]; rfl) | (rw [evEs]; done) | (rw [evEs]; rfl) | (rw [evI]; done) | (rw [evI]; rfl) | (rw [evR]; done) | (rw [evR]; rfl) | (rw [evRs]; done) | (rw [evRs]; rfl) | (rw [evS]; done) | (rw [evS]; rfl) | (rw [evSs]; done) | (rw [evSs]; rfl) | (rw [evAnd]; done) | (rw [evOr]; done) | (rw [evAnd]; rfl; (intro h; cases h)) | (rw [evOr]; rfl; (intro h; cases h))
@[simp] theorem ev_or (es : Es) : evE cf bs σ st (.or es) = evOr cf bs σ st es := by first | (rw [evE]; done) | (rw [evE]; rfl) | (rw [evO]; done) | (rw [evO]; rfl) | (rw [evEs]; done) | (rw [evEs]; rfl) | (rw [evI]; done) | (rw [evI]; rfl) | (rw [evR]; done) | (rw [evR]; rfl) | (rw [evRs]; done) | (rw [evRs]; rfl) | (rw [evS]; done) | (rw [evS]; rfl) | (rw [evSs]; done) | (rw [evSs]; rfl) | (rw [evAnd]; done) | (rw [evOr]; done) | (rw [evAnd]; rfl; (intro h; cases h)) | (rw [evOr]; rfl; (intro h; cases h))
@[simp] theorem ev_and1 (e : E) : evAnd cf bs σ st (.cons e .nil) = evE cf bs σ st e := by first | (rw [evE]; done) | (rw [evE]; rfl) | (rw [evO]; done) | (rw [evO]; rfl) | (rw [evEs]; done) | (rw [evEs]; rfl) | (rw [evI]; done) | (rw [evI]; rfl) | (rw [evR]; done) | (rw [evR]; rfl) | (rw [evRs]; done) | (rw [evRs]; rfl) | (rw [evS]; done) | (rw [evS]; rfl) | (rw [evSs]; done) | (rw [evSs]; rfl) | (rw [evAnd]; done) | (rw [evOr]; done) | (rw [evAnd]; rfl; (intro h; cases h)) | (rw [evOr]; rfl; (intro h; cases h))
@[simp] theorem ev_and2 (e f : E) (es : Es) : evAnd cf bs σ st (.cons e (.cons f es)) = (evE cf bs σ st e).bind fun x st => match x with
    | .bl true => evAnd cf bs σ st (.cons f es)
    | .bl false => .ok (.bl false) st
    | _ => .bad := by first | (rw [evAnd.eq_def]; done) | (rw [evAnd.eq_def]; rfl) | (rw [evAnd]; done) | (rw [evAnd]; all_goals first | rfl | (intro h; cases h))
@[simp] theorem ev_or1 (e : E) : evOr cf bs σ st (.cons e .nil) = evE cf bs σ st e := by first | (rw [evE]; done) | (rw [evE]; rfl) | (rw [evO]; done) | (rw [evO]; rfl) | (rw [evEs]; done) | (rw [evEs]; rfl) | (rw [evI]; done) | (rw [evI]; rfl) | (rw [evR]; done) | (rw [evR]; rfl) | (rw [evRs]; done) | (rw [evRs]; rfl) | (rw [evS]; done) | (rw [evS]; rfl) | (rw [evSs]; done) | (rw [evSs]; rfl) | (rw [evAnd]; done) | (rw [evOr]; done) | (rw [evAnd]; rfl; (intro h; cases h)) | (rw [evOr]; rfl; (intro h; cases h))
@[simp] theorem ev_or2 (e f : E) (es : Es) : evOr cf bs σ st (.cons e (.cons f es)) = (evE cf bs σ st e).bind fun x st => match x with
    | .bl true => .ok (.bl true) st
    | .bl false => evOr cf bs σ st (.cons f es)
    | _ => .bad := by first | (rw [evOr.eq_def]; done) | (rw [evOr.eq_def]; rfl) | (rw [evOr]; done) | (rw [evOr]; all_goals first | rfl | (intro h; cases h))
@[simp] theorem ev_cmp (o : Cm) (a b : E) : evE cf bs σ st (.cmp o a b) = (evE cf bs σ st a).bind fun x st => (evE cf bs σ st b).bind fun y st => .of ((cmD o x y).map .bl) st := by first | (rw [evE]; done) | (rw [evE]; rfl) | (rw [evO]; done) | (rw [evO]; rfl) | (rw [evEs]; done) | (rw [evEs]; rfl) | (rw [evI]; done) | (rw [evI]; rfl) | (rw [evR]; done) | (rw [evR]; rfl) | (rw [evRs]; done) | (rw [evRs]; rfl) | (rw [evS]; done) | (rw [evS]; rfl) | (rw [evSs]; done) | (rw [evSs]; rfl) | (rw [evAnd]; done) | (rw [evOr]; done) | (rw [evAnd]; rfl; (intro h; cases h)) | (rw [evOr]; rfl; (intro h; cases h))
@[simp] theorem ev_chn (o p : Cm) (a b c : E) : evE cf bs σ st (.chn o p a b c) = (evE cf bs σ st a).bind fun x st => (evE cf bs σ st b).bind fun y st => match cmD o x y with
    | some true => (evE cf bs σ st c).bind fun z st => .of ((cmD p y z).map .bl) st
    | some false => .ok (.bl false) st
    | none => .bad := by first | (rw [evE]; done) | (rw [evE]; rfl) | (rw [evO]; done) | (rw [evO]; rfl) | (rw [evEs]; done) | (rw [evEs]; rfl) | (rw [evI]; done) | (rw [evI]; rfl) | (rw [evR]; done) | (rw [evR]; rfl) | (rw [evRs]; done) | (rw [evRs]; rfl) | (rw [evS]; done) | (rw [evS]; rfl) | (rw [evSs]; done) | (rw [evSs]; rfl) | (rw [evAnd]; done) | (rw [evOr]; done) | (rw [evAnd]; rfl; (intro h; cases h)) | (rw [evOr]; rfl; (intro h; cases h))
@[simp] theorem ev_ite (c a b : E) : evE cf bs σ st (.ite c a b) = (evE cf bs σ st c).bind fun x st => match x with
    | .bl true => evE cf bs σ st a
    | .bl false => evE cf bs σ st b
    | _ => .bad := by first | (rw [evE]; done) | (rw [evE]; rfl) | (rw [evO]; done) | (rw [evO]; rfl) | (rw [evEs]; done) | (rw [evEs]; rfl) | (rw [evI]; done) | (rw [evI]; rfl) | (rw [evR]; done) | (rw [evR]; rfl) | (rw [evRs]; done) | (rw [evRs]; rfl) | (rw [evS]; done) | (rw [evS]; rfl) | (rw [evSs]; done) | (rw [evSs]; rfl) | (rw [evAnd]; done) | (rw [evOr]; done) | (rw [evAnd]; rfl; (intro h; cases h)) | (rw [evOr]; rfl; (intro h; cases h))
@[simp] theorem ev_tup (es : Es) : evE cf bs σ st (.tup es) = (evEs cf bs σ st es).bind fun xs st => if szOk xs.length then .ok (.tup xs) st else .bad := by first | (rw [evE]; done) | (rw [evE]; rfl) | (rw [evO]; done) | (rw [evO]; rfl) | (rw [evEs]; done) | (rw [evEs]; rfl) | (rw [evI]; done) | (rw [evI]; rfl) | (rw [evR]; done) | (rw [evR]; rfl) | (rw [evRs]; done) | (rw [evRs]; rfl) | (rw [evS]; done) | (rw [evS]; rfl) | (rw [evSs]; done) | (rw [evSs]; rfl) | (rw [evAnd]; done) | (rw [evOr]; done) | (rw [evAnd]; rfl; (intro h; cases h)) | (rw [evOr]; rfl; (intro h; cases h))
@[simp] theorem ev_lst (es : Es) : evE cf bs σ st (.lst es) = (evEs cf bs σ st es).bind fun xs st => if szOk xs.length then .ok (.lst xs) st else .bad := by first | (rw [evE]; done) | (rw [evE]; rfl) | (rw [evO]; done) | (rw [evO]; rfl) | (rw [evEs]; done) | (rw [evEs]; rfl) | (rw [evI]; done) | (rw [evI]; rfl) | (rw [evR]; done) | (rw [evR]; rfl) | (rw [evRs]; done) | (rw [evRs]; rfl) | (rw [evS]; done) | (rw [evS]; rfl) | (rw [evSs]; done) | (rw [evSs]; rfl) | (rw [evAnd]; done) | (rw [evOr]; done) | (rw [evAnd]; rfl; (intro h; cases h)) | (rw [evOr]; rfl; (intro h; cases h))
@[simp] theorem ev_idx (a i : E) : evE cf bs σ st (.idx a i) = (evE cf bs σ st a).bind fun x st => (evE cf bs σ st i).bind fun y st => idxS x y st := by first | (rw [evE]; done) | (rw [evE]; rfl) | (rw [evO]; done) | (rw [evO]; rfl) | (rw [evEs]; done) | (rw [evEs]; rfl) | (rw [evI]; done) | (rw [evI]; rfl) | (rw [evR]; done) | (rw [evR]; rfl) | (rw [evRs]; done) | (rw [evRs]; rfl) | (rw [evS]; done) | (rw [evS]; rfl) | (rw [evSs]; done) | (rw [evSs]; rfl) | (rw [evAnd]; done) | (rw [evOr]; done) | (rw [evAnd]; rfl; (intro h; cases h)) | (rw [evOr]; rfl; (intro h; cases h))
@[simp] theorem ev_slc (a : E) (lo hi : Eo) : evE cf bs σ st (.slc a lo hi) = (evE cf bs σ st a).bind fun x st => (evO cf bs σ st lo).bind fun l st => (evO cf bs σ st hi).bind fun h st => .of (slcD x l h) st := by first | (rw [evE]; done) | (rw [evE]; rfl) | (rw [evO]; done) | (rw [evO]; rfl) | (rw [evEs]; done) | (rw [evEs]; rfl) | (rw [evI]; done) | (rw [evI]; rfl) | (rw [evR]; done) | (rw [evR]; rfl) | (rw [evRs]; done) | (rw [evRs]; rfl) | (rw [evS]; done) | (rw [evS]; rfl) | (rw [evSs]; done) | (rw [evSs]; rfl) | (rw [evAnd]; done) | (rw [evOr]; done) | (rw [evAnd]; rfl; (intro h; cases h)) | (rw [evOr]; rfl; (intro h; cases h))
@[simp] theorem ev_call (f : Nat) (es : Es) : evE cf bs σ st (.call f es) = (evEs cf bs σ st es).bind fun xs st => cf bs f xs st := by first | (rw [evE]; done) | (rw [evE]; rfl) | (rw [evO]; done) | (rw [evO]; rfl) | (rw [evEs]; done) | (rw [evEs]; rfl) | (rw [evI]; done) | (rw [evI]; rfl) | (rw [evR]; done) | (rw [evR]; rfl) | (rw [evRs]; done) | (rw [evRs]; rfl) | (rw [evS]; done) | (rw [evS]; rfl) | (rw [evSs]; done) | (rw [evSs]; rfl) | (rw [evAnd]; done) | (rw [evOr]; done) | (rw [evAnd]; rfl; (intro h; cases h)) | (rw [evOr]; rfl; (intro h; cases h))
@[simp] theorem ev_bi (b : Bi) (es : Es) : evE cf bs σ st (.bi b es) = (evEs cf bs σ st es).bind fun xs st => .of (biD b xs) st := by first | (rw [evE]; done) | (rw [evE]; rfl) | (rw [evO]; done) | (rw [evO]; rfl) | (rw [evEs]; done) | (rw [evEs]; rfl) | (rw [evI]; done) | (rw [evI]; rfl) | (rw [evR]; done) | (rw [evR]; rfl) | (rw [evRs]; done) | (rw [evRs]; rfl) | (rw [evS]; done) | (rw [evS]; rfl) | (rw [evSs]; done) | (rw [evSs]; rfl) | (rw [evAnd]; done) | (rw [evOr]; done) | (rw [evAnd]; rfl; (intro h; cases h)) | (rw [evOr]; rfl; (intro h; cases h))
@[simp] theorem ev_isi (a : E) (t : Ty) : evE cf bs σ st (.isi a t) = (evE cf bs σ st a).bind fun x st => .of ((tyD t x).map .bl) st := by first | (rw [evE]; done) | (rw [evE]; rfl) | (rw [evO]; done) | (rw [evO]; rfl) | (rw [evEs]; done) | (rw [evEs]; rfl) | (rw [evI]; done) | (rw [evI]; rfl) | (rw [evR]; done) | (rw [evR]; rfl) | (rw [evRs]; done) | (rw [evRs]; rfl) | (rw [evS]; done) | (rw [evS]; rfl) | (rw [evSs]; done) | (rw [evSs]; rfl) | (rw [evAnd]; done) | (rw [evOr]; done) | (rw [evAnd]; rfl; (intro h; cases h)) | (rw [evOr]; rfl; (intro h; cases h))
@[simp] theorem ev_get2 (a k d : E) : evE cf bs σ st (.get2 a k d) = (evE cf bs σ st a).bind fun x st => match x with
    | .dic kvs => (evE cf bs σ st k).bind fun y st => (evE cf bs σ st d).bind fun z st => if keyOk y then .ok ((getD kvs y).getD z) st else .bad
    | _ => .bad := by first | (rw [evE]; done) | (rw [evE]; rfl) | (rw [evO]; done) | (rw [evO]; rfl) | (rw [evEs]; done) | (rw [evEs]; rfl) | (rw [evI]; done) | (rw [evI]; rfl) | (rw [evR]; done) | (rw [evR]; rfl) | (rw [evRs]; done) | (rw [evRs]; rfl) | (rw [evS]; done) | (rw [evS]; rfl) | (rw [evSs]; done) | (rw [evSs]; rfl) | (rw [evAnd]; done) | (rw [evOr]; done) | (rw [evAnd]; rfl; (intro h; cases h)) | (rw [evOr]; rfl; (intro h; cases h))
@[simp] theorem ev_emd : evE cf bs σ st .emd = .ok (.dic []) st := by first | (rw [evE]; done) | (rw [evE]; rfl) | (rw [evO]; done) | (rw [evO]; rfl) | (rw [evEs]; done) | (rw [evEs]; rfl) | (rw [evI]; done) | (rw [evI]; rfl) | (rw [evR]; done) | (rw [evR]; rfl) | (rw [evRs]; done) | (rw [evRs]; rfl) | (rw [evS]; done) | (rw [evS]; rfl) | (rw [evSs]; done) | (rw [evSs]; rfl) | (rw [evAnd]; done) | (rw [evOr]; done) | (rw [evAnd]; rfl; (intro h; cases h)) | (rw [evOr]; rfl; (intro h; cases h))
@[simp] theorem ev_no : evO cf bs σ st .no = .ok none st := by first | (rw [evE]; done) | (rw [evE]; rfl) | (rw [evO]; done) | (rw [evO]; rfl) | (rw [evEs]; done) | (rw [evEs]; rfl) | (rw [evI]; done) | (rw [evI]; rfl) | (rw [evR]; done) | (rw [evR]; rfl) | (rw [evRs]; done) | (rw [evRs]; rfl) | (rw [evS]; done) | (rw [evS]; rfl) | (rw [evSs]; done) | (rw [evSs]; rfl) | (rw [evAnd]; done) | (rw [evOr]; done) | (rw [evAnd]; rfl; (intro h; cases h)) | (rw [evOr]; rfl; (intro h; cases h))
@[simp] theorem ev_so (e : E) : evO cf bs σ st (.so e) = (evE cf bs σ st e).bind fun x st => match x with
    | .int i => .ok (some i) st
    | _ => .bad := by first | (rw [evE]; done) | (rw [evE]; rfl) | (rw [evO]; done) | (rw [evO]; rfl) | (rw [evEs]; done) | (rw [evEs]; rfl) | (rw [evI]; done) | (rw [evI]; rfl) | (rw [evR]; done) | (rw [evR]; rfl) | (rw [evRs]; done) | (rw [evRs]; rfl) | (rw [evS]; done) | (rw [evS]; rfl) | (rw [evSs]; done) | (rw [evSs]; rfl) | (rw [evAnd]; done) | (rw [evOr]; done) | (rw [evAnd]; rfl; (intro h; cases h)) | (rw [evOr]; rfl; (intro h; cases h))
@[simp] theorem ev_nil : evEs cf bs σ st .nil = .ok [] st := by first | (rw [evE]; done) | (rw [evE]; rfl) | (rw [evO]; done) | (rw [evO]; rfl) | (rw [evEs]; done) | (rw [evEs]; rfl) | (rw [evI]; done) | (rw [evI]; rfl) | (rw [evR]; done) | (rw [evR]; rfl) | (rw [evRs]; done) | (rw [evRs]; rfl) | (rw [evS]; done) | (rw [evS]; rfl) | (rw [evSs]; done) | (rw [evSs]; rfl) | (rw [evAnd]; done) | (rw [evOr]; done) | (rw [evAnd]; rfl; (intro h; cases h)) | (rw [evOr]; rfl; (intro h; cases h))
@[simp] theorem ev_cons (e : E) (es : Es) : evEs cf bs σ st (.cons e es) = (evE cf bs σ st e).bind fun x st => (evEs cf bs σ st es).bind fun xs st => .ok (x :: xs) st := by first | (rw [evE]; done) | (rw [evE]; rfl) | (rw [evO]; done) | (rw [evO]; rfl) | (rw [evEs]; done) | (rw [evEs]; rfl) | (rw [evI]; done) | (rw [evI]; rfl) | (rw [evR]; done) | (rw [evR]; rfl) | (rw [evRs]; done) | (rw [evRs]; rfl) | (rw [evS]; done) | (rw [evS]; rfl) | (rw [evSs]; done) | (rw [evSs]; rfl) | (rw [evAnd]; done) | (rw [evOr]; done) | (rw [evAnd]; rfl; (intro h; cases h)) | (rw [evOr]; rfl; (intro h; cases h))
@[simp] theorem ev_ov (e : E) : evI cf bs σ st (.ov e) = (evE cf bs σ st e).bind fun x st => .of (seqD x) st := by first | (rw [evE]; done) | (rw [evE]; rfl) | (rw [evO]; done) | (rw [evO]; rfl) | (rw [evEs]; done) | (rw [evEs]; rfl) | (rw [evI]; done) | (rw [evI]; rfl) | (rw [evR]; done) | (rw [evR]; rfl) | (rw [evRs]; done) | (rw [evRs]; rfl) | (rw [evS]; done) | (rw [evS]; rfl) | (rw [evSs]; done) | (rw [evSs]; rfl) | (rw [evAnd]; done) | (rw [evOr]; done) | (rw [evAnd]; rfl; (intro h; cases h)) | (rw [evOr]; rfl; (intro h; cases h))
@[simp] theorem ev_r1 (a : E) : evI cf bs σ st (.r1 a) = (evE cf bs σ st a).bind fun x st => .of (rg1D x) st := by first | (rw [evE]; done) | (rw [evE]; rfl) | (rw [evO]; done) | (rw [evO]; rfl) | (rw [evEs]; done) | (rw [evEs]; rfl) | (rw [evI]; done) | (rw [evI]; rfl) | (rw [evR]; done) | (rw [evR]; rfl) | (rw [evRs]; done) | (rw [evRs]; rfl) | (rw [evS]; done) | (rw [evS]; rfl) | (rw [evSs]; done) | (rw [evSs]; rfl) | (rw [evAnd]; done) | (rw [evOr]; done) | (rw [evAnd]; rfl; (intro h; cases h)) | (rw [evOr]; rfl; (intro h; cases h))
@[simp] theorem ev_r2 (a b : E) : evI cf bs σ st (.r2 a b) = (evE cf bs σ st a).bind fun x st => (evE cf bs σ st b).bind fun y st => .of (rg2D x y) st := by first | (rw [evE]; done) | (rw [evE]; rfl) | (rw [evO]; done) | (rw [evO]; rfl) | (rw [evEs]; done) | (rw [evEs]; rfl) | (rw [evI]; done) | (rw [evI]; rfl) | (rw [evR]; done) | (rw [evR]; rfl) | (rw [evRs]; done) | (rw [evRs]; rfl) | (rw [evS]; done) | (rw [evS]; rfl) | (rw [evSs]; done) | (rw [evSs]; rfl) | (rw [evAnd]; done) | (rw [evOr]; done) | (rw [evAnd]; rfl; (intro h; cases h)) | (rw [evOr]; rfl; (intro h; cases h))
@[simp] theorem ev_zp (a b : E) : evI cf bs σ st (.zp a b) = (evE cf bs σ st a).bind fun x st => (evE cf bs σ st b).bind fun y st => .of (zpD x y) st := by first | (rw [evE]; done) | (rw [evE]; rfl) | (rw [evO]; done) | (rw [evO]; rfl) | (rw [evEs]; done) | (rw [evEs]; rfl) | (rw [evI]; done) | (rw [evI]; rfl) | (rw [evR]; done) | (rw [evR]; rfl) | (rw [evRs]; done) | (rw [evRs]; rfl) | (rw [evS]; done) | (rw [evS]; rfl) | (rw [evSs]; done) | (rw [evSs]; rfl) | (rw [evAnd]; done) | (rw [evOr]; done) | (rw [evAnd]; rfl; (intro h; cases h)) | (rw [evOr]; rfl; (intro h; cases h))
@[simp] theorem ev_en (a : E) : evI cf bs σ st (.en a) = (evE cf bs σ st a).bind fun x st => .of ((seqD x).map enumD) st := by first | (rw [evE]; done) | (rw [evE]; rfl) | (rw [evO]; done) | (rw [evO]; rfl) | (rw [evEs]; done) | (rw [evEs]; rfl) | (rw [evI]; done) | (rw [evI]; rfl) | (rw [evR]; done) | (rw [evR]; rfl) | (rw [evRs]; done) | (rw [evRs]; rfl) | (rw [evS]; done) | (rw [evS]; rfl) | (rw [evSs]; done) | (rw [evSs]; rfl) | (rw [evAnd]; done) | (rw [evOr]; done) | (rw [evAnd]; rfl; (intro h; cases h)) | (rw [evOr]; rfl; (intro h; cases h))
@[simp] theorem ev_pl (e : E) : evR cf bs σ st (.pl e) = (evE cf bs σ st e).bind fun d st => .ok (.val d) st := by first | (rw [evE]; done) | (rw [evE]; rfl) | (rw [evO]; done) | (rw [evO]; rfl) | (rw [evEs]; done) | (rw [evEs]; rfl) | (rw [evI]; done) | (rw [evI]; rfl) | (rw [evR]; done) | (rw [evR]; rfl) | (rw [evRs]; done) | (rw [evRs]; rfl) | (rw [evS]; done) | (rw [evS]; rfl) | (rw [evSs]; done) | (rw [evSs]; rfl) | (rw [evAnd]; done) | (rw [evOr]; done) | (rw [evAnd]; rfl; (intro h; cases h)) | (rw [evOr]; rfl; (intro h; cases h))
@[simp] theorem ev_nl (es : Es) : evR cf bs σ st (.nl es) = (evEs cf bs σ st es).bind fun ds st => if szOk ds.length then .ok (.ol ds) st else .bad := by first | (rw [evE]; done) | (rw [evE]; rfl) | (rw [evO]; done) | (rw [evO]; rfl) | (rw [evEs]; done) | (rw [evEs]; rfl) | (rw [evI]; done) | (rw [evI]; rfl) | (rw [evR]; done) | (rw [evR]; rfl) | (rw [evRs]; done) | (rw [evRs]; rfl) | (rw [evS]; done) | (rw [evS]; rfl) | (rw [evSs]; done) | (rw [evSs]; rfl) | (rw [evAnd]; done) | (rw [evOr]; done) | (rw [evAnd]; rfl; (intro h; cases h)) | (rw [evOr]; rfl; (intro h; cases h))
@[simp] theorem ev_Rnil : evRs cf bs σ st [] = .ok [] st := by first | (rw [evE]; done) | (rw [evE]; rfl) | (rw [evO]; done) | (rw [evO]; rfl) | (rw [evEs]; done) | (rw [evEs]; rfl) | (rw [evI]; done) | (rw [evI]; rfl) | (rw [evR]; done) | (rw [evR]; rfl) | (rw [evRs]; done) | (rw [evRs]; rfl) | (rw [evS]; done) | (rw [evS]; rfl) | (rw [evSs]; done) | (rw [evSs]; rfl) | (rw [evAnd]; done) | (rw [evOr]; done) | (rw [evAnd]; rfl; (intro h; cases h)) | (rw [evOr]; rfl; (intro h; cases h))
@[simp] theorem ev_Rcons (r : R) (rs : List R) : evRs cf bs σ st (r :: rs) = (evR cf bs σ st r).bind fun x st => (evRs cf bs σ st rs).bind fun xs st => .ok (x :: xs) st := by first | (rw [evE]; done) | (rw [evE]; rfl) | (rw [evO]; done) | (rw [evO]; rfl) | (rw [evEs]; done) | (rw [evEs]; rfl) | (rw [evI]; done) | (rw [evI]; rfl) | (rw [evR]; done) | (rw [evR]; rfl) | (rw [evRs]; done) | (rw [evRs]; rfl) | (rw [evS]; done) | (rw [evS]; rfl) | (rw [evSs]; done) | (rw [evSs]; rfl) | (rw [evAnd]; done) | (rw [evOr]; done) | (rw [evAnd]; rfl; (intro h; cases h)) | (rw [evOr]; rfl; (intro h; cases h))
@[simp] theorem ev_asg (i : Nat) (r : R) : evS cf wf bs σ st (.asg i r) = (evR cf bs σ st r).fl fun x st => .nx (σ.set i x) st := by first | (rw [evE]; done) | (rw [evE]; rfl) | (rw [evO]; done) | (rw [evO]; rfl) | (rw [evEs]; done) | (rw [evEs]; rfl) | (rw [evI]; done) | (rw [evI]; rfl) | (rw [evR]; done) | (rw [evR]; rfl) | (rw [evRs]; done) | (rw [evRs]; rfl) | (rw [evS]; done) | (rw [evS]; rfl) | (rw [evSs]; done) | (rw [evSs]; rfl) | (rw [evAnd]; done) | (rw [evOr]; done) | (rw [evAnd]; rfl; (intro h; cases h)) | (rw [evOr]; rfl; (intro h; cases h))
@[simp] theorem ev_asgP (is : List Nat) (rs : List R) : evS cf wf bs σ st (.asgP is rs) = (evRs cf bs σ st rs).fl fun xs st => if is.length = xs.length then .nx (setSl σ is xs) st else .bad := by first | (rw [evE]; done) | (rw [evE]; rfl) | (rw [evO]; done) | (rw [evO]; rfl) | (rw [evEs]; done) | (rw [evEs]; rfl) | (rw [evI]; done) | (rw [evI]; rfl) | (rw [evR]; done) | (rw [evR]; rfl) | (rw [evRs]; done) | (rw [evRs]; rfl) | (rw [evS]; done) | (rw [evS]; rfl) | (rw [evSs]; done) | (rw [evSs]; rfl) | (rw [evAnd]; done) | (rw [evOr]; done) | (rw [evAnd]; rfl; (intro h; cases h)) | (rw [evOr]; rfl; (intro h; cases h))
@[simp] theorem ev_asgT (is : List Nat) (e : E) : evS cf wf bs σ st (.asgT is e) = (evE cf bs σ st e).fl fun d st => match bindT σ (.tp is) d with
    | some σ1 => .nx σ1 st
    | none => .bad := by first | (rw [evE]; done) | (rw [evE]; rfl) | (rw [evO]; done) | (rw [evO]; rfl) | (rw [evEs]; done) | (rw [evEs]; rfl) | (rw [evI]; done) | (rw [evI]; rfl) | (rw [evR]; done) | (rw [evR]; rfl) | (rw [evRs]; done) | (rw [evRs]; rfl) | (rw [evS]; done) | (rw [evS]; rfl) | (rw [evSs]; done) | (rw [evSs]; rfl) | (rw [evAnd]; done) | (rw [evOr]; done) | (rw [evAnd]; rfl; (intro h; cases h)) | (rw [evOr]; rfl; (intro h; cases h))
@[simp] theorem ev_app (i : Nat) (e : E) : evS cf wf bs σ st (.app i e) = appS i (fun σ st => evE cf bs σ st e) σ st := by first | (rw [evE]; done) | (rw [evE]; rfl) | (rw [evO]; done) | (rw [evO]; rfl) | (rw [evEs]; done) | (rw [evEs]; rfl) | (rw [evI]; done) | (rw [evI]; rfl) | (rw [evR]; done) | (rw [evR]; rfl) | (rw [evRs]; done) | (rw [evRs]; rfl) | (rw [evS]; done) | (rw [evS]; rfl) | (rw [evSs]; done) | (rw [evSs]; rfl) | (rw [evAnd]; done) | (rw [evOr]; done) | (rw [evAnd]; rfl; (intro h; cases h)) | (rw [evOr]; rfl; (intro h; cases h))
@[simp] theorem ev_ex (e : E) : evS cf wf bs σ st (.ex e) = (evE cf bs σ st e).fl fun _ st => .nx σ st := by first | (rw [evE]; done) | (rw [evE]; rfl) | (rw [evO]; done) | (rw [evO]; rfl) | (rw [evEs]; done) | (rw [evEs]; rfl) | (rw [evI]; done) | (rw [evI]; rfl) | (rw [evR]; done) | (rw [evR]; rfl) | (rw [evRs]; done) | (rw [evRs]; rfl) | (rw [evS]; done) | (rw [evS]; rfl) | (rw [evSs]; done) | (rw [evSs]; rfl) | (rw [evAnd]; done) | (rw [evOr]; done) | (rw [evAnd]; rfl; (intro h; cases h)) | (rw [evOr]; rfl; (intro h; cases h))
@[simp] theorem ev_ret (e : E) : evS cf wf bs σ st (.ret e) = (evE cf bs σ st e).fl fun d st => .rt d st := by first | (rw [evE]; done) | (rw [evE]; rfl) | (rw [evO]; done) | (rw [evO]; rfl) | (rw [evEs]; done) | (rw [evEs]; rfl) | (rw [evI]; done) | (rw [evI]; rfl) | (rw [evR]; done) | (rw [evR]; rfl) | (rw [evRs]; done) | (rw [evRs]; rfl) | (rw [evS]; done) | (rw [evS]; rfl) | (rw [evSs]; done) | (rw [evSs]; rfl) | (rw [evAnd]; done) | (rw [evOr]; done) | (rw [evAnd]; rfl; (intro h; cases h)) | (rw [evOr]; rfl; (intro h; cases h))
@[simp] theorem ev_ifs (c : E) (a b : List S) : evS cf wf bs σ st (.ifs c a b) = (evE cf bs σ st c).fl fun x st => match x with
    | .bl true => evSs cf wf bs σ st a
    | .bl false => evSs cf wf bs σ st b
    | _ => .bad := by first | (rw [evE]; done) | (rw [evE]; rfl) | (rw [evO]; done) | (rw [evO]; rfl) | (rw [evEs]; done) | (rw [evEs]; rfl) | (rw [evI]; done) | (rw [evI]; rfl) | (rw [evR]; done) | (rw [evR]; rfl) | (rw [evRs]; done) | (rw [evRs]; rfl) | (rw [evS]; done) | (rw [evS]; rfl) | (rw [evSs]; done) | (rw [evSs]; rfl) | (rw [evAnd]; done) | (rw [evOr]; done) | (rw [evAnd]; rfl; (intro h; cases h)) | (rw [evOr]; rfl; (intro h; cases h))
@[simp] theorem ev_Snil : evSs cf wf bs σ st [] = .nx σ st := by first | (rw [evE]; done) | (rw [evE]; rfl) | (rw [evO]; done) | (rw [evO]; rfl) | (rw [evEs]; done) | (rw [evEs]; rfl) | (rw [evI]; done) | (rw [evI]; rfl) | (rw [evR]; done) | (rw [evR]; rfl) | (rw [evRs]; done) | (rw [evRs]; rfl) | (rw [evS]; done) | (rw [evS]; rfl) | (rw [evSs]; done) | (rw [evSs]; rfl) | (rw [evAnd]; done) | (rw [evOr]; done) | (rw [evAnd]; rfl; (intro h; cases h)) | (rw [evOr]; rfl; (intro h; cases h))
@[simp] theorem ev_Scons (s : S) (ss : List S) : evSs cf wf bs σ st (s :: ss) = (evS cf wf bs σ st s).seq fun σ st => evSs cf wf bs σ st ss := by first | (rw [evE]; done) | (rw [evE]; rfl) | (rw [evO]; done) | (rw [evO]; rfl) | (rw [evEs]; done) | (rw [evEs]; rfl) | (rw [evI]; done) | (rw [evI]; rfl) | (rw [evR]; done) | (rw [evR]; rfl) | (rw [evRs]; done) | (rw [evRs]; rfl) | (rw [evS]; done) | (rw [evS]; rfl) | (rw [evSs]; done) | (rw [evSs]; rfl) | (rw [evAnd]; done) | (rw [evOr]; done) | (rw [evAnd]; rfl; (intro h; cases h)) | (rw [evOr]; rfl; (intro h; cases h))
theorem ev_for (tg : Tg) (it : It) (b : List S) : evS cf wf bs σ st (.for_ tg it b) = (evI cf bs σ st it).fl fun xs st => forL tg (fun σ st => evSs cf wf bs σ st b) xs σ st := by first | (rw [evE]; done) | (rw [evE]; rfl) | (rw [evO]; done) | (rw [evO]; rfl) | (rw [evEs]; done) | (rw [evEs]; rfl) | (rw [evI]; done) | (rw [evI]; rfl) | (rw [evR]; done) | (rw [evR]; rfl) | (rw [evRs]; done) | (rw [evRs]; rfl) | (rw [evS]; done) | (rw [evS]; rfl) | (rw [evSs]; done) | (rw [evSs]; rfl) | (rw [evAnd]; done) | (rw [evOr]; done) | (rw [evAnd]; rfl; (intro h; cases h)) | (rw [evOr]; rfl; (intro h; cases h))
theorem ev_lc (own : List Nat) (tg : Tg) (it : It) (el : E) : evE cf bs σ st (.lc own tg it el) = (evI cf bs σ st it).bind fun xs st => compL (wipeS σ own) tg (fun _ st => .ok (.bl true) st) (fun σ st => evE cf bs σ st el) xs [] st := by first | (rw [evE]; done) | (rw [evE]; rfl) | (rw [evO]; done) | (rw [evO]; rfl) | (rw [evEs]; done) | (rw [evEs]; rfl) | (rw [evI]; done) | (rw [evI]; rfl) | (rw [evR]; done) | (rw [evR]; rfl) | (rw [evRs]; done) | (rw [evRs]; rfl) | (rw [evS]; done) | (rw [evS]; rfl) | (rw [evSs]; done) | (rw [evSs]; rfl) | (rw [evAnd]; done) | (rw [evOr]; done) | (rw [evAnd]; rfl; (intro h; cases h)) | (rw [evOr]; rfl; (intro h; cases h))
theorem ev_lcf (own : List Nat) (tg : Tg) (it : It) (el cnd : E) : evE cf bs σ st (.lcf own tg it el cnd) = (evI cf bs σ st it).bind fun xs st => compL (wipeS σ own) tg (fun σ st => evE cf bs σ st cnd) (fun σ st => evE cf bs σ st el) xs [] st := by first | (rw [evE]; done) | (rw [evE]; rfl) | (rw [evO]; done) | (rw [evO]; rfl) | (rw [evEs]; done) | (rw [evEs]; rfl) | (rw [evI]; done) | (rw [evI]; rfl) | (rw [evR]; done) | (rw [evR]; rfl) | (rw [evRs]; done) | (rw [evRs]; rfl) | (rw [evS]; done) | (rw [evS]; rfl) | (rw [evSs]; done) | (rw [evSs]; rfl) | (rw [evAnd]; done) | (rw [evOr]; done) | (rw [evAnd]; rfl; (intro h; cases h)) | (rw [evOr]; rfl; (intro h; cases h))
@[simp] theorem app_ol {i : Nat} {f : List Sl → Store → Out D} {ds : List D} (h : σ[i]? = some (.ol ds)) : appS i f σ st = (f σ st).fl fun d st => if szOk (ds.length + 1) then .nx (σ.set i (.ol (ds ++ [d]))) st else .bad := by
  simp only [appS, h]
@[simp] theorem ev_frz {i : Nat} : evS cf wf bs σ st (.frz i) = match σ[i]? with
    | some (.ol ds) => .nx (σ.set i (.val (.lst ds))) st
    | some (.od kvs) => .nx (σ.set i (.val (.dic kvs))) st
    | _ => .bad := by first | (rw [evE]; done) | (rw [evE]; rfl) | (rw [evO]; done) | (rw [evO]; rfl) | (rw [evEs]; done) | (rw [evEs]; rfl) | (rw [evI]; done) | (rw [evI]; rfl) | (rw [evR]; done) | (rw [evR]; rfl) | (rw [evRs]; done) | (rw [evRs]; rfl) | (rw [evS]; done) | (rw [evS]; rfl) | (rw [evSs]; done) | (rw [evSs]; rfl) | (rw [evAnd]; done) | (rw [evOr]; done) | (rw [evAnd]; rfl; (intro h; cases h)) | (rw [evOr]; rfl; (intro h; cases h))
/-- a list comprehension without a condition -/
theorem ev_lcM {own : List Nat} {tg : Tg} {it : It} {el : E} {xs : List D} (f : D → D) (hi : evI cf bs σ st it = .ok xs st) (h : ∀ x ∈ xs, ∃ s1, bindT (wipeS σ own) tg x = some s1 ∧ evE cf bs s1 st el = .ok (f x) st) (hs : xs.length ≤ 16777216) :
    evE cf bs σ st (.lc own tg it el) = .ok (.lst (xs.map f)) st := by
  rw [ev_lc, hi, Out.bind_ok, compL_map f xs [] h (by simpa using hs)]
  simp
theorem ev_lcF {own : List Nat} {tg : Tg} {it : It} {el cnd : E} {xs : List D} (f : D → D) (p : D → Bool) (hi : evI cf bs σ st it = .ok xs st) (h : ∀ x ∈ xs, ∃ s1, bindT (wipeS σ own) tg x = some s1 ∧ evE cf bs s1 st cnd = .ok (.bl (p x)) st ∧ evE cf bs s1 st el = .ok (f x) st) (hs : xs.length ≤ 16777216) :
    evE cf bs σ st (.lcf own tg it el cnd) = .ok (.lst ((xs.filter p).map f)) st := by
  rw [ev_lcf, hi, Out.bind_ok, compL_filter f p xs [] h (by simpa using hs)]
  simp
theorem ev_forI {tg : Tg} {it : It} {b : List S} {xs : List D} (I : Nat → List Sl → Store → Prop) (hi : evI cf bs σ st it = .ok xs st)
    (h : ∀ (j : Nat) x σ st, xs[j]? = some x → I j σ st → ∃ s1 s2 st2, bindT σ tg x = some s1 ∧ evSs cf wf bs s1 st b = .nx s2 st2 ∧ I (j + 1) s2 st2) (h0 : I 0 σ st) : ∃ s' st', evS cf wf bs σ st (.for_ tg it b) = .nx s' st' ∧ I xs.length s' st' := by
  obtain ⟨s', st', h1, h2⟩ := forL_inv (tg := tg) (body := fun σ st => evSs cf wf bs σ st b) I xs 0 (σ := σ) (st := st) (fun j x σ st hx hI => by
    obtain ⟨s1, s2, st2, a, b, c⟩ := h j x σ st hx (by simpa using hI)
    exact ⟨s1, s2, st2, a, b, by simpa using c⟩) h0
  exact ⟨s', st', by rw [ev_for, hi]; exact h1, by simpa using h2⟩
end
@[simp] theorem bi_len_t (xs : List D) : biD .len [.tup xs] = some (.int (xs.length : Int)) := by first | (rw [biD]; done) | (unfold biD; rfl) | simp only [biD]
@[simp] theorem bi_len_l (xs : List D) : biD .len [.lst xs] = some (.int (xs.length : Int)) := by first | (rw [biD]; done) | (unfold biD; rfl) | simp only [biD]
@[simp] theorem bi_len_s (xs : List Int) : biD .len [.scr xs] = some (.int (xs.length : Int)) := by first | (rw [biD]; done) | (unfold biD; rfl) | simp only [biD]
@[simp] theorem bi_all (xs : List D) : biD .all [.lst xs] = (blsD xs).map fun bs => .bl (bs.all id) := by first | (rw [biD]; done) | (unfold biD; rfl) | simp only [biD]
@[simp] theorem bi_any (xs : List D) : biD .any [.lst xs] = (blsD xs).map fun bs => .bl (bs.any id) := by first | (rw [biD]; done) | (unfold biD; rfl) | simp only [biD]
@[simp] theorem bi_sum (x : D) : biD .sum [x] = (seqD x).bind fun xs => (intsD xs).map fun is => .int is.sum := by first | (rw [biD]; done) | (unfold biD; rfl) | simp only [biD]
@[simp] theorem bi_max1 (x : D) : biD .max1 [x] = (seqD x).bind fun xs => (intsD xs).bind fun is => (maxI is).map .int := by first | (rw [biD]; done) | (unfold biD; rfl) | simp only [biD]
@[simp] theorem bi_max2 (i j : Int) : biD .max2 [.int i, .int j] = some (.int (if j > i then j else i)) := by first | (rw [biD]; done) | (unfold biD; rfl) | simp only [biD]
@[simp] theorem bi_min2 (i j : Int) : biD .min2 [.int i, .int j] = some (.int (if j < i then j else i)) := by first | (rw [biD]; done) | (unfold biD; rfl) | simp only [biD]
@[simp] theorem bi_tup_l (xs : List D) : biD .tuple [.lst xs] = some (.tup xs) := by first | (rw [biD]; done) | (unfold biD; rfl) | simp only [biD]
@[simp] theorem bi_int_b (b : Bool) : biD .int [.bl b] = some (.int (if b then 1 else 0)) := by first | (rw [biD]; done) | (unfold biD; rfl) | simp only [biD]
@[simp] theorem seq_l (xs : List D) : seqD (.lst xs) = some xs := by first | (rw [seqD]; done) | (unfold seqD; rfl) | simp only [seqD]
@[simp] theorem seq_t (xs : List D) : seqD (.tup xs) = some xs := by first | (rw [seqD]; done) | (unfold seqD; rfl) | simp only [seqD]
@[simp] theorem op_add_i (i j : Int) : opD .add (.int i) (.int j) = some (.int (i + j)) := by first | (rw [opD]; done) | (unfold opD; rfl) | simp only [opD]
@[simp] theorem op_sub_i (i j : Int) : opD .sub (.int i) (.int j) = some (.int (i - j)) := by first | (rw [opD]; done) | (unfold opD; rfl) | simp only [opD]
@[simp] theorem cm_lt (i j : Int) : cmD .lt (.int i) (.int j) = some (decide (i < j)) := by first | (rw [cmD]; done) | (unfold cmD; rfl) | simp only [cmD]
@[simp] theorem cm_le (i j : Int) : cmD .le (.int i) (.int j) = some (decide (i ≤ j)) := by first | (rw [cmD]; done) | (unfold cmD; rfl) | simp only [cmD]
@[simp] theorem cm_gt (i j : Int) : cmD .gt (.int i) (.int j) = some (decide (j < i)) := by first | (rw [cmD]; done) | (unfold cmD; rfl) | simp only [cmD]
@[simp] theorem cm_ge (i j : Int) : cmD .ge (.int i) (.int j) = some (decide (j ≤ i)) := by first | (rw [cmD]; done) | (unfold cmD; rfl) | simp only [cmD]
@[simp] theorem ty_it (i : Int) : tyD .int (.int i) = some true := by first | (rw [tyD]; done) | (unfold tyD; rfl) | simp only [tyD]
@[simp] theorem ty_ib (i : Int) : tyD .bool (.int i) = some false := by first | (rw [tyD]; done) | (unfold tyD; rfl) | simp only [tyD]
@[simp] theorem ty_tt (xs : List D) : tyD .tuple (.tup xs) = some true := by first | (rw [tyD]; done) | (unfold tyD; rfl) | simp only [tyD]
theorem op_mul {i j : Int} (h : mulOk i j = true) : opD .mul (.int i) (.int j) = some (.int (i * j)) := by simp [opD, h]
theorem rg1_nat {k : Nat} (h : k ≤ 1000) : rg1D (.int (k : Int)) = some (rngL 0 k) := by
  have : rngOk (k : Int) = true := by unfold rngOk; simp; omega
  simp [rg1D, this]
theorem rngE_get {lo : Int} {n k : Nat} {x : D} (h : (rngL lo n)[k]? = some x) : k < n ∧ x = .int (lo + (k : Int)) := by
  have hk : k < n := by have := (List.getElem?_eq_some_iff.mp h).1; simpa [rngL] using this
  simp [rngL, hk] at h
  exact ⟨hk, h.symm⟩
theorem rngE_len (lo : Int) (n : Nat) : (rngL lo n).length = n := by simp [rngL]
end Mn
set_option maxHeartbeats 4000000
namespace Mn
open PySem
theorem rbL_all {b : Nat} : ∀ {ds : List D}, (∀ d ∈ ds, D.rb b d = true) → D.rbL b ds = true
  | [], _ => by simp [D.rbL]
  | d :: ds, h => by
    rw [D.rbL, h d List.mem_cons_self, rbL_all fun e he => h e (List.mem_cons_of_mem _ he)]; rfl
theorem rb_nl (b : Nat) (f : Nat → Nat) (n : Nat) : D.rbL b (nl f n) = true := rbL_all fun d hd => by
  obtain ⟨k, _, rfl⟩ := List.mem_map.mp hd
  simp [D.rb]
theorem run_pure {G : Prg} {wf n bs f : Nat} {fn : Fn} {ds : List D} {d : D} {st st' : Store} (hG : G f = some fn) (hl : ds.length = fn.np) (hk : fn.keep = false)
    (hb : evSs (run G wf n) wf st.length (ds.map .val ++ List.replicate (fn.ns - fn.np) .un) st fn.body = .rt d st') (hr : d.rb st.length = true) (hs : st'.length = st.length) : run G wf (n + 1) bs f ds st = .ok d st' := by
  rw [run, hG]
  simp only [hl, if_true, hk]
  simp only [Bool.false_eq_true, if_false, hb, fin, hr, if_true]
  rw [← hs, List.take_length]
theorem run_none {G : Prg} {wf n bs f : Nat} {fn : Fn} {ds : List D} {σ : List Sl} {st st' : Store} (hG : G f = some fn) (hl : ds.length = fn.np) (hk : fn.keep = false)
    (hb : evSs (run G wf n) wf st.length (ds.map .val ++ List.replicate (fn.ns - fn.np) .un) st fn.body = .nx σ st') (hs : st'.length = st.length) : run G wf (n + 1) bs f ds st = .ok .non st' := by
  rw [run, hG]
  simp only [hl, if_true, hk]
  simp only [Bool.false_eq_true, if_false, hb, fin]
  rw [← hs, List.take_length]
abbrev ln (n s : Nat) : D := .tup [.int (n : Int), .int (s : Int)]
abbrev tl (on off : Nat → Nat) (n : Nat) : D := .tup [.tup (nl on n), .tup (nl off n)]
theorem idx0 (a b : D) : idxD (.tup [a, b]) (.int 0) = some a := rfl
theorem idx1 (a b : D) : idxD (.tup [a, b]) (.int 1) = some b := rfl
theorem idxS_tup {ds : List D} {i : Int} {d : D} {st : Store} (h : idxD (.tup ds) (.int i) = some d) : idxS (.tup ds) (.int i) st = .ok d st := by
  simp only [idxS, h]; rfl
theorem idxS_lst {ds : List D} {i : Int} {d : D} {st : Store} (h : idxD (.lst ds) (.int i) = some d) : idxS (.lst ds) (.int i) st = .ok d st := by
  simp only [idxS, h]; rfl
theorem idxS0 (a b : D) (st : Store) : idxS (.tup [a, b]) (.int 0) st = .ok a st := by rw [idxS_tup (idx0 a b)]
theorem idxS1 (a b : D) (st : Store) : idxS (.tup [a, b]) (.int 1) st = .ok b st := by rw [idxS_tup (idx1 a b)]
section
variable {lf : Fn} {wf bs n : Nat} {st : Store}
theorem run_is_whole (i lo hi : Int) : run (G lf) wf (n + 1) bs 1 [.int i, .int lo, .int hi] st = .ok (.bl (decide (lo ≤ i) && decide (i ≤ hi))) st := by
  refine run_pure rfl rfl rfl ?_ rfl rfl
  simp [f_is_whole, evSs, evS, evE, evAnd, tyD, cmD]
  by_cases h1 : lo ≤ i <;> by_cases h2 : i ≤ hi <;> simp [h1, h2]
theorem run_is_line {m s : Nat} (h1 : 2 ≤ m) (h2 : m ≤ 6) (h3 : 1 ≤ s) (h4 : s ≤ 9) : run (G lf) wf (n + 2) bs 2 [ln m s] st = .ok (.bl true) st := by
  refine run_pure rfl rfl rfl ?_ rfl rfl
  have a1 : (2 : Int) ≤ m := by omega
  have a2 : (m : Int) ≤ 6 := by omega
  have a3 : (1 : Int) ≤ s := by omega
  have a4 : (s : Int) ≤ 9 := by omega
  simp [f_is_line, cm_eq, idxS0, idxS1, run_is_whole, a1, a2, a3, a4]
theorem run_need_line {m s : Nat} (h1 : 2 ≤ m) (h2 : m ≤ 6) (h3 : 1 ≤ s) (h4 : s ≤ 9) : run (G lf) wf (n + 3) bs 3 [ln m s] st = .ok .non st := by
  refine run_none (σ := [.val (ln m s)]) rfl rfl rfl ?_ rfl
  simp [f_need_line, run_is_line h1 h2 h3 h4]
theorem bls_true {α : Type} (l : List α) : blsD (l.map fun _ => D.bl true) = some (List.replicate l.length true) := by
  induction l with
  | nil => rfl
  | cons x xs ih => simp [blsD, ih, List.replicate_succ]
theorem all_true (k : Nat) : (List.replicate k true).all id = true := by simp
theorem run_are_numbers {f : Nat → Nat} {m : Nat} (hm : m ≤ 1000) (h : ∀ k < m, f k ≤ 9) : run (G lf) wf (n + 2) bs 4 [.tup (nl f m), .int (m : Int)] st = .ok (.bl true) st := by
  refine run_pure rfl rfl rfl ?_ rfl rfl
  have key := ev_lcM (cf := run (G lf) wf (n + 1)) (bs := st.length) (σ := [.val (.tup (nl f m)), .val (.int (m : Int)), .un]) (st := st) (own := [2]) (tg := .nm 2) (it := .ov (.var 0)) (el := .call 1 (.cons (.var 2) (.cons (.con (.int 0)) (.cons (.glb "MOST" (.int 9)) .nil)))) (xs := nl f m) (fun _ => .bl true) (by simp) (fun x hx => by
      obtain ⟨k, hk, rfl⟩ := List.mem_map.mp hx
      have := h k (by simpa using hk)
      have a1 : (0 : Int) ≤ f k := by omega
      have a2 : (f k : Int) ≤ 9 := by omega
      refine ⟨_, rfl, ?_⟩
      simp [wipeS, run_is_whole, a1, a2]) (by rw [nl_len]; omega)
  simp only [f_are_numbers]
  simp [cm_eq, key, bls_true]
/-! ### tallies -/
structure Tal (m s : Nat) (on off L : Nat → Nat) : Prop where
  m2 : 2 ≤ m
  m6 : m ≤ 6
  s1 : 1 ≤ s
  s9 : s ≤ 9
  off0 : off 0 = 0
  l0 : L 0 = on 0
  step : ∀ k, k + 1 < m → L (k + 1) + off (k + 1) = L k + on (k + 1)
  le : ∀ k, k + 1 < m → off (k + 1) ≤ L k
  cap : ∀ k, k < m → L k ≤ s
  lend : L (m - 1) = 0
  onend : on (m - 1) = 0
theorem Tal.on9 {m s : Nat} {on off L : Nat → Nat} (T : Tal m s on off L) {k : Nat} (h : k < m) : on k ≤ s := by
  cases k with
  | zero => have := T.cap 0 h; have := T.l0; omega
  | succ k => have := T.step k h; have := T.le k h; have := T.cap (k + 1) h; omega
theorem Tal.off9 {m s : Nat} {on off L : Nat → Nat} (T : Tal m s on off L) {k : Nat} (h : k < m) : off k ≤ s := by
  cases k with
  | zero => have := T.off0; omega
  | succ k => have := T.le k h; have := T.cap k (by omega); omega
theorem zip_nl (f g : Nat → Nat) (m : Nat) : zipD (nl f m) (nl g m) = (List.range m).map fun k => D.tup [.int (f k : Int), .int (g k : Int)] := by
  unfold zipD nl
  rw [List.zip_map', List.map_map]
  rfl
theorem run_loads_of {m s : Nat} {on off L : Nat → Nat} (T : Tal m s on off L) : run (G lf) wf (n + 1) bs 5 [.tup (nl on m), .tup (nl off m)] st = .ok (.tup (nl L m)) st := by
  refine run_pure rfl rfl rfl ?_ (by simp [D.rb, rb_nl]) rfl
  have m6 := T.m6
  have key := ev_forI (cf := run (G lf) wf n) (wf := wf) (bs := st.length) (σ := [.val (.tup (nl on m)), .val (.tup (nl off m)), .ol [], .val (.int 0), .un, .un]) (st := st) (tg := .tp [4, 5]) (it := .zp (.var 0) (.var 1))
    (b := [.ifs (.cmp .gt (.var 5) (.var 3)) [.ret (.con .non)] [], .asg 3 (.pl (.bin .add (.bin .sub (.var 3) (.var 5)) (.var 4))), .app 2 (.var 3)]) (xs := (List.range m).map fun k => D.tup [.int (on k : Int), .int (off k : Int)])
    (fun j σ st' => st' = st ∧ ∃ x y h : D, (h = .int (if j = 0 then 0 else (L (j - 1) : Int))) ∧ ∃ sx sy, σ = [.val (.tup (nl on m)), .val (.tup (nl off m)), .ol (nl L j), .val h, sx, sy])
    (by simp [zpD, zip_nl]) (fun j x σ st' hx ⟨e, _, _, h, hh, sx, sy, es⟩ => by
      subst e es
      have hj : j < m := by have := (List.getElem?_eq_some_iff.mp hx).1; simpa using this
      simp [hj] at hx
      subst hx
      refine ⟨[.val (.tup (nl on m)), .val (.tup (nl off m)), .ol (nl L j), .val h, .val (.int (on j)), .val (.int (off j))], [.val (.tup (nl on m)), .val (.tup (nl off m)), .ol (nl L (j + 1)), .val (.int (L j)), .val (.int (on j)), .val (.int (off j))], st', ?_, ?_, rfl, .non, .non, _, ?_, _, _, rfl⟩
      · simp [bindT, setAll]
      · subst hh
        have c : ¬ ((if j = 0 then 0 else (L (j - 1) : Int)) < (off j : Int)) := by
          cases j with
          | zero => simp [T.off0]
          | succ k => have := T.le k hj; simp; omega
        have v : (if j = 0 then 0 else (L (j - 1) : Int)) - (off j : Int) + (on j : Int) = (L j : Int) := by
          cases j with
          | zero => simp [T.off0, T.l0]
          | succ k => have := T.step k hj; simp; omega
        have hsz : szOk (j + 1) = true := szOk_of (by omega)
        simp only [ev_Scons, ev_ifs, ev_cmp, ev_var]
        simp [c, v, hsz, nl, List.range_succ]
      · simp) ⟨rfl, .non, .non, _, by simp, _, _, rfl⟩
  obtain ⟨s', st', k1, e, _, _, h, hh, sx, sy, es⟩ := key
  subst e es
  simp only [List.length_map, List.length_range] at hh k1
  simp only [f_loads_of]
  simp [szOk_of, setSl, k1]
end
end Mn
set_option maxHeartbeats 4000000
namespace Mn
open PySem
theorem ints_nl (f : Nat → Nat) (m : Nat) : intsD (nl f m) = some ((List.range m).map fun k => (f k : Int)) := by rw [nl_map, ints_map]
theorem max_nl {f : Nat → Nat} {m s : Nat} (h : 0 < m) (hf : ∀ k < m, f k ≤ s) : ∃ x : Nat, maxI ((List.range m).map fun k => (f k : Int)) = some (x : Int) ∧ x ≤ s := by
  cases e : maxI ((List.range m).map fun k => (f k : Int)) with
  | none =>
    cases m with
    | zero => omega
    | succ m => rw [List.range_succ_eq_map] at e; simp [maxI] at e
  | some x =>
    obtain ⟨h1, _⟩ := maxI_spec e
    obtain ⟨k, hk, rfl⟩ := List.mem_map.mp h1
    exact ⟨f k, rfl, hf k (by simpa using hk)⟩
theorem idxS_nl {f : Nat → Nat} {n k : Nat} {st : Store} (h : k < n) : idxS (.tup (nl f n)) (.int (k : Int)) st = .ok (.int (f k : Int)) st := idxS_tup (idx_nl h)
theorem idxS_end {f : Nat → Nat} {n : Nat} {st : Store} (h : 0 < n) : idxS (.tup (nl f n)) (.int (-1)) st = .ok (.int (f (n - 1) : Int)) st := by
  refine idxS_tup ?_
  simp only [idxD, nl_len, ixN_last h, Option.bind_some, nl_get (show n - 1 < n by omega)]
section
variable {lf : Fn} {wf bs n : Nat} {st : Store} {m s : Nat} {on off L : Nat → Nat}
theorem run_is_good_tally (T : Tal m s on off L) : run (G lf) wf (n + 3) bs 6 [ln m s, tl on off m] st = .ok (.bl true) st := by
  refine run_pure rfl rfl rfl ?_ rfl rfl
  have m2 := T.m2
  have m6 := T.m6
  have s9 := T.s9
  obtain ⟨x, hx, hxs⟩ := max_nl (f := L) (m := m) (s := s) (by omega) T.cap
  have q1 := @run_are_numbers lf wf st.length n st on m (by omega) (fun k hk => by have := T.on9 hk; omega)
  have q2 := @run_are_numbers lf wf st.length n st off m (by omega) (fun k hk => by have := T.off9 hk; omega)
  have key := ev_lcM (cf := run (G lf) wf (n + 2)) (bs := st.length) (σ := [.val (ln m s), .val (tl on off m), .un, .un]) (st := st) (own := [3]) (tg := .nm 3) (it := .ov (.var 1)) (el := .call 4 (.cons (.var 3) (.cons (.idx (.var 0) (.con (.int 0))) .nil))) (xs := [.tup (nl on m), .tup (nl off m)]) (fun _ => .bl true) (by simp) (fun x hx => by
      refine ⟨_, rfl, ?_⟩
      simp at hx
      rcases hx with rfl | rfl
      · simp [wipeS, idxS0, q1]
      · simp [wipeS, idxS0, q2]) (by simp)
  have c1 : cmD .notN (.tup (nl L m)) .non = some true := by simp [cmD]
  have c2 : (x : Int) ≤ s := by omega
  simp only [f_is_good_tally]
  simp [cm_ne, key, bls_true, blsD, idxS0, idxS1, run_loads_of T, c1, ints_nl, hx, c2, idxS_end (show 0 < m by omega), T.lend, T.onend, cm_eq]
theorem run_need_tally (T : Tal m s on off L) : run (G lf) wf (n + 4) bs 8 [ln m s, tl on off m] st = .ok .non st := by
  refine run_none (σ := [.val (ln m s), .val (tl on off m)]) rfl rfl rfl ?_ rfl
  simp [f_need_tally, run_need_line T.m2 T.m6 T.s1 T.s9, run_is_good_tally T]
theorem run_loads (T : Tal m s on off L) : run (G lf) wf (n + 5) bs 9 [ln m s, tl on off m] st = .ok (.tup (nl L m)) st := by
  refine run_pure rfl rfl rfl ?_ (by simp [D.rb, rb_nl]) rfl
  simp [f_loads, run_need_tally T, idxS0, idxS1, run_loads_of T]
def sumN (f : Nat → Nat) (m : Nat) : Nat := ((List.range m).map f).sum
theorem sum_cast (f : Nat → Nat) (l : List Nat) : (l.map fun k => (f k : Int)).sum = ((l.map f).sum : Nat) := by
  induction l with
  | nil => rfl
  | cons x xs ih => simp [ih]
theorem run_miles (T : Tal m s on off L) : run (G lf) wf (n + 5) bs 17 [ln m s, tl on off m] st = .ok (.int (sumN L m : Int)) st := by
  refine run_pure rfl rfl rfl ?_ rfl rfl
  simp [f_miles, run_need_tally T, idxS0, idxS1, run_loads_of T, ints_nl, sum_cast, sumN]
theorem mulOk_small {i j : Int} (h : i.natAbs < 2 ^ 64) : mulOk i j = true := by
  unfold mulOk
  simp [h]
def c2 (k : Nat) : Nat := k * (k - 1) / 2
theorem run_choose_two (k : Nat) (h : k < 2 ^ 64) : run (G lf) wf (n + 1) bs 46 [.int (k : Int)] st = .ok (.int (c2 k : Int)) st := by
  refine run_pure rfl rfl rfl ?_ rfl rfl
  have hm := @op_mul (k : Int) ((k : Int) - 1) (mulOk_small (by simpa using h))
  have hd : opD .fdiv (.int ((k : Int) * ((k : Int) - 1))) (.int 2) = some (.int (c2 k : Int)) := by
    have : divOk 2 = true := by decide
    simp only [opD, this, if_true]
    cases k with
    | zero => rfl
    | succ k => simp [c2]
  simp only [f_choose_two]
  simp [hm, hd]
/-- what pairs adds up -/
def prs (on off L : Nat → Nat) : Nat → Nat
  | 0 => 0
  | k + 1 => prs on off L k + ((if k = 0 then 0 else L (k - 1)) - off k) * on k + c2 (on k)
theorem run_pairs (T : Tal m s on off L) : run (G lf) wf (n + 5) bs 70 [ln m s, tl on off m] st = .ok (.int (prs on off L m : Int)) st := by
  refine run_pure (d := .int (prs on off L m : Int)) rfl rfl rfl ?_ rfl rfl
  have m6 := T.m6
  have s9 := T.s9
  have key := ev_forI (cf := run (G lf) wf (n + 4)) (wf := wf) (bs := st.length) (σ := [.val (ln m s), .val (tl on off m), .val (.int 0), .val (.int 0), .un, .un]) (st := st) (tg := .tp [4, 5]) (it := .zp (.idx (.var 1) (.con (.int 0))) (.idx (.var 1) (.con (.int 1))))
    (b := [.asg 3 (.pl (.bin .sub (.var 3) (.var 5))), .asg 2 (.pl (.bin .add (.bin .add (.var 2) (.bin .mul (.var 3) (.var 4))) (.call 46 (.cons (.var 4) .nil)))), .asg 3 (.pl (.bin .add (.var 3) (.var 4)))]) (xs := (List.range m).map fun k => D.tup [.int (on k : Int), .int (off k : Int)])
    (fun j σ st' => st' = st ∧ ∃ sx sy, σ = [.val (ln m s), .val (tl on off m), .val (.int (prs on off L j : Int)), .val (.int (if j = 0 then 0 else (L (j - 1) : Int))), sx, sy])
    (by simp [idxS0, idxS1, zpD, zip_nl]) (fun j x σ st' hx ⟨e, sx, sy, es⟩ => by
      subst e es
      have hj : j < m := by have := (List.getElem?_eq_some_iff.mp hx).1; simpa using this
      simp [hj] at hx
      subst hx
      refine ⟨[.val (ln m s), .val (tl on off m), .val (.int (prs on off L j : Int)), .val (.int (if j = 0 then 0 else (L (j - 1) : Int))), .val (.int (on j)), .val (.int (off j))],
        [.val (ln m s), .val (tl on off m), .val (.int (prs on off L (j + 1) : Int)), .val (.int (L j : Int)), .val (.int (on j)), .val (.int (off j))], st', ?_, ?_, rfl, .val (.int (on j)), .val (.int (off j)), by simp⟩
      · simp [bindT, setAll]
      · have le : off j ≤ (if j = 0 then 0 else L (j - 1)) := by
          cases j with
          | zero => simp [T.off0]
          | succ k => have := T.le k hj; simp; omega
        have lo : (if j = 0 then 0 else (L (j - 1) : Int)) = ((if j = 0 then 0 else L (j - 1) : Nat) : Int) := by split <;> simp
        have on9 := T.on9 hj
        have v : (if j = 0 then 0 else (L (j - 1) : Int)) - (off j : Int) + (on j : Int) = (L j : Int) := by
          cases j with
          | zero => simp [T.off0, T.l0]
          | succ k => have := T.step k hj; simp; omega
        have small : (if j = 0 then 0 else L (j - 1)) ≤ 9 := by
          cases j with
          | zero => simp
          | succ k => have := T.cap k (by omega); simp; omega
        have hm := @op_mul ((if j = 0 then 0 else (L (j - 1) : Int)) - (off j : Int)) (on j : Int) (mulOk_small (by rw [lo]; omega))
        have hc := @run_choose_two lf wf st'.length (n + 3) st' (on j) (by omega)
        have pv : (prs on off L j : Int) + ((if j = 0 then 0 else (L (j - 1) : Int)) - (off j : Int)) * (on j : Int) + (c2 (on j) : Int) = (prs on off L (j + 1) : Int) := by
          rw [prs, lo]
          have : ((if j = 0 then 0 else L (j - 1) : Nat) : Int) - (off j : Int) = (((if j = 0 then 0 else L (j - 1)) - off j : Nat) : Int) := by omega
          rw [this]; push_cast; rfl
        simp only [ev_Scons, ev_asg, ev_pl, ev_bin, ev_var]
        simp [hm, hc, v, pv]) ⟨rfl, .un, .un, by simp [prs]⟩
  obtain ⟨s', st', k1, e, sx, sy, es⟩ := key
  subst e es
  simp only [List.length_map, List.length_range] at k1
  simp only [f_pairs]
  simp [run_need_tally T, bindT, setAll, szOk_of, k1]
end
end Mn
set_option maxHeartbeats 4000000
namespace Mn
open PySem
theorem sz0 : szOk 0 = true := szOk_of (by omega)
theorem sz1 : szOk 1 = true := szOk_of (by omega)
theorem sz2 : szOk 2 = true := szOk_of (by omega)
/-! ### ways -/
def wD (w : Nat × Nat) : D := .tup [.int (w.1 : Int), .int (w.2 : Int)]
def rowW (m i : Nat) : List (Nat × Nat) := (List.range (m - (i + 1))).map fun d => (i, i + 1 + d)
def waysT (m k : Nat) : List (Nat × Nat) := (List.range k).flatMap (rowW m)
theorem waysT_succ (m k : Nat) : waysT m (k + 1) = waysT m k ++ rowW m k := by simp [waysT, List.range_succ]
theorem waysT_len (m : Nat) : ∀ k, (waysT m k).length ≤ k * m
  | 0 => by simp [waysT]
  | k + 1 => by
    rw [waysT_succ, List.length_append, Nat.succ_mul]
    have := waysT_len m k
    have : (rowW m k).length ≤ m := by simp [rowW]
    omega
theorem mem_rowW {m i : Nat} {w : Nat × Nat} (h : w ∈ rowW m i) : w.1 = i ∧ i < w.2 ∧ w.2 < m := by
  obtain ⟨d, hd, rfl⟩ := List.mem_map.mp h
  simp at hd ⊢; omega
theorem mem_ways {m k : Nat} {w : Nat × Nat} (h : w ∈ waysT m k) : w.1 < k ∧ w.1 < w.2 ∧ w.2 < m := by
  obtain ⟨i, hi, hw⟩ := List.mem_flatMap.mp h
  have := mem_rowW hw
  simp at hi; omega
theorem rg2_nat {a b : Nat} (h1 : a ≤ 1000) (h2 : b ≤ 1000) : rg2D (.int (a : Int)) (.int (b : Int)) = some (rngL a (b - a)) := by
  have r1 : rngOk (a : Int) = true := by unfold rngOk; simp; omega
  have r2 : rngOk (b : Int) = true := by unfold rngOk; simp; omega
  have e : ((b : Int) - (a : Int)).toNat = b - a := by omega
  simp [rg2D, r1, r2, e]
theorem add_lst {xs ys : List D} (h : xs.length + ys.length ≤ 16777216) : opD .add (.lst xs) (.lst ys) = some (.lst (xs ++ ys)) := by simp [opD, szOk_of h]
theorem rb_w (b : Nat) (w : Nat × Nat) : D.rb b (wD w) = true := by simp [wD, D.rb, D.rbL]
theorem rb_ws (b : Nat) (ws : List (Nat × Nat)) : D.rbL b (ws.map wD) = true := rbL_all fun d hd => by
  obtain ⟨w, _, rfl⟩ := List.mem_map.mp hd
  exact rb_w b w
section
variable {lf : Fn} {wf bs n : Nat} {st : Store} {m s : Nat} {on off L : Nat → Nat}
theorem ways_body (f : Nat) {fn : Fn} (hf : fn = f_all_ways) (hG : G lf f = some fn) (h6 : m ≤ 6) : run (G lf) wf (n + 1) bs f [ln m s] st = .ok (.lst ((waysT m m).map wD)) st := by
  subst hf
  refine run_pure hG rfl rfl ?_ (by simp [D.rb, rb_ws]) rfl
  have key := ev_forI (cf := run (G lf) wf n) (wf := wf) (bs := st.length) (σ := [.val (ln m s), .val (.lst []), .un, .un]) (st := st) (tg := .nm 2) (it := .r1 (.idx (.var 0) (.con (.int 0))))
    (b := [.asg 1 (.pl (.bin .add (.var 1) (.lc [3] (.nm 3) (.r2 (.bin .add (.var 2) (.con (.int 1))) (.idx (.var 0) (.con (.int 0)))) (.tup (.cons (.var 2) (.cons (.var 3) .nil))))))]) (xs := rngL 0 m)
    (fun j σ st' => st' = st ∧ ∃ sx, σ = [.val (ln m s), .val (.lst ((waysT m j).map wD)), sx, .un])
    (by simp [idxS0, rg1_nat (show m ≤ 1000 by omega)]) (fun j x σ st' hx ⟨e, sx, es⟩ => by
      subst es
      obtain ⟨hj, rfl⟩ := rngE_get hx
      simp only [Int.zero_add]
      refine ⟨[.val (ln m s), .val (.lst ((waysT m j).map wD)), .val (.int (j : Int)), .un], [.val (ln m s), .val (.lst ((waysT m (j + 1)).map wD)), .val (.int (j : Int)), .un], st', by simp [bindT], ?_, e, .val (.int (j : Int)), rfl⟩
      have lc := ev_lcM (cf := run (G lf) wf n) (bs := st.length) (σ := [.val (ln m s), .val (.lst ((waysT m j).map wD)), .val (.int (j : Int)), .un]) (st := st') (own := [3]) (tg := .nm 3) (it := .r2 (.bin .add (.var 2) (.con (.int 1))) (.idx (.var 0) (.con (.int 0)))) (el := .tup (.cons (.var 2) (.cons (.var 3) .nil))) (xs := rngL ((j + 1 : Nat) : Int) (m - (j + 1))) (fun x => .tup [.int (j : Int), x])
        (by have := rg2_nat (a := j + 1) (b := m) (by omega) (by omega); push_cast at this; simp [idxS0, this]) (fun x hx => ⟨_, rfl, by simp [wipeS, sz2]⟩) (by rw [rngE_len]; omega)
      have em : (rngL ((j + 1 : Nat) : Int) (m - (j + 1))).map (fun x => D.tup [.int (j : Int), x]) = (rowW m j).map wD := by
        simp [rngL, rowW, wD, List.map_map]
      rw [em] at lc
      have l1 := waysT_len m j
      have l2 : (rowW m j).length ≤ m := by simp [rowW]
      have l3 : j * m ≤ 36 := Nat.le_trans (Nat.mul_le_mul (show j ≤ 6 by omega) h6) (by omega)
      have ad := add_lst (xs := (waysT m j).map wD) (ys := (rowW m j).map wD) (by simp; omega)
      rw [waysT_succ, List.map_append]
      simp [lc, ad]) ⟨rfl, .un, by simp [waysT]⟩
  obtain ⟨s', st', k1, e, sx, es⟩ := key
  subst e es
  rw [rngE_len] at k1
  simp only [f_all_ways]
  simp [sz0, k1]
theorem run_all_ways (h6 : m ≤ 6) : run (G lf) wf (n + 1) bs 10 [ln m s] st = .ok (.lst ((waysT m m).map wD)) st := ways_body 10 rfl rfl h6
theorem run_law_ways (h6 : m ≤ 6) : run (G lf) wf (n + 1) bs 68 [ln m s] st = .ok (.lst ((waysT m m).map wD)) st := ways_body 68 (fn := f_law_ways) rfl rfl h6
/-! ### tables -/
def rowD (t : Nat → Nat → Nat) (m i : Nat) : D := .tup (nl (fun d => t i (i + 1 + d)) (m - 1 - i))
def tb (t : Nat → Nat → Nat) (m : Nat) : D := .tup ((List.range (m - 1)).map (rowD t m))
theorem rb_row (b : Nat) (t : Nat → Nat → Nat) (m i : Nat) : D.rb b (rowD t m i) = true := by simp [rowD, D.rb, rb_nl]
theorem rb_tb (b : Nat) (t : Nat → Nat → Nat) (m : Nat) : D.rb b (tb t m) = true := by
  simp only [tb, D.rb]
  exact rbL_all fun d hd => by
    obtain ⟨i, _, rfl⟩ := List.mem_map.mp hd
    exact rb_row b t m i
theorem rode_body (f : Nat) {fn : Fn} (hf : fn = f_rode) (hG : G lf f = some fn) {t : Nat → Nat → Nat} {i j : Nat} (h1 : i < j) (h2 : j < m) : run (G lf) wf (n + 1) bs f [tb t m, wD (i, j)] st = .ok (.int (t i j : Int)) st := by
  subst hf
  refine run_pure hG rfl rfl ?_ rfl rfl
  have e1 : idxS (tb t m) (.int (i : Int)) st = .ok (rowD t m i) st := idxS_tup (idx_tup (by simp [show i < m - 1 by omega]))
  have e2 : (j : Int) - (i : Int) - 1 = ((j - i - 1 : Nat) : Int) := by omega
  have e3 : idxS (rowD t m i) (.int ((j - i - 1 : Nat) : Int)) st = .ok (.int (t i j : Int)) st := by
    have := idxS_nl (f := fun d => t i (i + 1 + d)) (n := m - 1 - i) (k := j - i - 1) (st := st) (by omega)
    rw [show i + 1 + (j - i - 1) = j by omega] at this
    exact this
  simp only [f_rode, wD]
  simp [idxS0, idxS1, e1, e2, e3]
theorem run_rode {t : Nat → Nat → Nat} {i j : Nat} (h1 : i < j) (h2 : j < m) : run (G lf) wf (n + 1) bs 32 [tb t m, wD (i, j)] st = .ok (.int (t i j : Int)) st := rode_body 32 rfl rfl h1 h2
theorem run_law_rode {t : Nat → Nat → Nat} {i j : Nat} (h1 : i < j) (h2 : j < m) : run (G lf) wf (n + 1) bs 51 [tb t m, wD (i, j)] st = .ok (.int (t i j : Int)) st := rode_body 51 (fn := f_law_rode) rfl rfl h1 h2
structure Tab (m : Nat) (on off : Nat → Nat) (t : Nat → Nat → Nat) : Prop where
  row : ∀ i, i < m - 1 → sumN (fun d => t i (i + 1 + d)) (m - 1 - i) = on i
  col : ∀ j, j < m → sumN (fun i => t i j) j = off j
theorem le_sumN {f : Nat → Nat} {k m : Nat} (h : k < m) : f k ≤ sumN f m := by
  unfold sumN
  induction m with
  | zero => omega
  | succ m ih =>
    rw [List.range_succ, List.map_append, List.sum_append]
    by_cases e : k = m
    · subst e; simp
    · have := ih (by omega); omega
theorem enum_rows (t : Nat → Nat → Nat) (m k : Nat) : enumD ((List.range k).map (rowD t m)) = (List.range k).map fun (i : Nat) => .tup [.int (i : Int), rowD t m i] := by
  unfold enumD
  refine List.ext_getElem (by simp) fun i h1 h2 => ?_
  simp
theorem run_is_form (T : Tal m s on off L) {t : Nat → Nat → Nat} (B : Tab m on off t) : run (G lf) wf (n + 3) bs 33 [ln m s, tb t m] st = .ok (.bl true) st := by
  refine run_pure rfl rfl rfl ?_ rfl rfl
  have m2 := T.m2
  have m6 := T.m6
  have s9 := T.s9
  have key := ev_lcM (cf := run (G lf) wf (n + 2)) (bs := st.length) (σ := [.val (ln m s), .val (tb t m), .un, .un]) (st := st) (own := [2, 3]) (tg := .tp [2, 3]) (it := .en (.var 1)) (el := .call 4 (.cons (.var 3) (.cons (.bin .sub (.bin .sub (.idx (.var 0) (.con (.int 0))) (.con (.int 1))) (.var 2)) .nil))) (xs := (List.range (m - 1)).map fun (i : Nat) => .tup [.int (i : Int), rowD t m i]) (fun _ => .bl true) (by simp [tb, enum_rows]) (fun x hx => by
      obtain ⟨i, hi, rfl⟩ := List.mem_map.mp hx
      have hi : i < m - 1 := by simpa using hi
      refine ⟨[.val (ln m s), .val (tb t m), .val (.int (i : Int)), .val (rowD t m i)], by simp [wipeS, bindT, setAll], ?_⟩
      have e : (m : Int) - 1 - (i : Int) = ((m - 1 - i : Nat) : Int) := by omega
      have q := @run_are_numbers lf wf st.length n st (fun d => t i (i + 1 + d)) (m - 1 - i) (by omega) (fun k hk => by
        have h1 := le_sumN (f := fun d => t i (i + 1 + d)) hk
        have h2 := B.row i hi
        have h3 := T.on9 (k := i) (by omega)
        omega)
      simp [idxS0, e]
      exact q) (by simp; omega)
  have el : (tb t m) = .tup ((List.range (m - 1)).map (rowD t m)) := rfl
  have e2 : (((m - 1 : Nat) : Int)) = (m : Int) - 1 := by omega
  have ty : tyD .tuple (tb t m) = some true := rfl
  have ln' : biD .len [tb t m] = some (.int ((m : Int) - 1)) := by rw [el, bi_len_t]; simp [e2]
  simp only [f_is_form]
  have hb := bls_true ((List.range (m - 1)).map fun (i : Nat) => D.tup [.int (i : Int), rowD t m i])
  generalize ((List.range (m - 1)).map fun (i : Nat) => D.tup [.int (i : Int), rowD t m i]) = l at key hb
  generalize (l.map fun _ => D.bl true) = l2 at key hb
  simp [ty, ln', idxS0, cm_ne, key, hb]
theorem bls_false {α : Type} (l : List α) : blsD (l.map fun _ => D.bl false) = some (List.replicate l.length false) := by
  induction l with
  | nil => rfl
  | cons x xs ih => simp [blsD, ih, List.replicate_succ]
theorem sum_range_cast (f : Nat → Nat) (k : Nat) : intsD ((List.range k).map fun (i : Nat) => D.int (f i : Int)) = some ((List.range k).map fun (i : Nat) => (f i : Int)) := ints_nl f k
theorem run_is_good_table (T : Tal m s on off L) {t : Nat → Nat → Nat} (B : Tab m on off t) : run (G lf) wf (n + 4) bs 34 [ln m s, tl on off m, tb t m] st = .ok (.bl true) st := by
  refine run_pure rfl rfl rfl ?_ rfl rfl
  have m2 := T.m2
  have m6 := T.m6
  have s9 := T.s9
  have key := ev_lcM (cf := run (G lf) wf (n + 3)) (bs := st.length) (σ := [.val (ln m s), .val (tl on off m), .val (tb t m), .un, .un, .un]) (st := st) (own := [3, 4]) (tg := .tp [3, 4]) (it := .en (.var 2)) (el := .cmp .ne (.bi .sum (.cons (.var 4) .nil)) (.idx (.idx (.var 1) (.con (.int 0))) (.var 3))) (xs := (List.range (m - 1)).map fun (i : Nat) => .tup [.int (i : Int), rowD t m i]) (fun _ => .bl false) (by simp [tb, enum_rows]) (fun x hx => by
      obtain ⟨i, hi, rfl⟩ := List.mem_map.mp hx
      have hi : i < m - 1 := by simpa using hi
      refine ⟨[.val (ln m s), .val (tl on off m), .val (tb t m), .val (.int (i : Int)), .val (rowD t m i), .un], by simp [wipeS, bindT, setAll], ?_⟩
      have hr := B.row i hi
      unfold sumN at hr
      simp [idxS0, rowD, ints_nl, sum_cast, idxS_nl (show i < m by omega), cm_ne, hr]) (by simp; omega)
  have loop := ev_forI (cf := run (G lf) wf (n + 3)) (wf := wf) (bs := st.length) (σ := [.val (ln m s), .val (tl on off m), .val (tb t m), .un, .un, .un]) (st := st) (tg := .nm 3) (it := .r1 (.idx (.var 0) (.con (.int 0))))
    (b := [.ifs (.cmp .ne (.bi .sum (.cons (.lc [5] (.nm 5) (.r1 (.var 3)) (.call 32 (.cons (.var 2) (.cons (.tup (.cons (.var 5) (.cons (.var 3) .nil))) .nil)))) .nil)) (.idx (.idx (.var 1) (.con (.int 1))) (.var 3))) [.ret (.con (.bl false))] []]) (xs := rngL 0 m)
    (fun j σ st' => st' = st ∧ ∃ sx, σ = [.val (ln m s), .val (tl on off m), .val (tb t m), sx, .un, .un])
    (by simp [idxS0, rg1_nat (show m ≤ 1000 by omega)]) (fun j x σ st' hx ⟨e, sx, es⟩ => by
      subst es
      obtain ⟨hj, rfl⟩ := rngE_get hx
      simp only [Int.zero_add]
      refine ⟨[.val (ln m s), .val (tl on off m), .val (tb t m), .val (.int (j : Int)), .un, .un], [.val (ln m s), .val (tl on off m), .val (tb t m), .val (.int (j : Int)), .un, .un], st', by simp [bindT], ?_, e, .val (.int (j : Int)), rfl⟩
      have lc := ev_lcM (cf := run (G lf) wf (n + 3)) (bs := st.length) (σ := [.val (ln m s), .val (tl on off m), .val (tb t m), .val (.int (j : Int)), .un, .un]) (st := st') (own := [5]) (tg := .nm 5) (it := .r1 (.var 3)) (el := .call 32 (.cons (.var 2) (.cons (.tup (.cons (.var 5) (.cons (.var 3) .nil))) .nil))) (xs := rngL 0 j) (fun x => match x with | .int i => .int (t i.toNat j : Int) | _ => .non)
        (by simp [rg1_nat (show j ≤ 1000 by omega)]) (fun x hx => by
          obtain ⟨k, hk, rfl⟩ := List.mem_map.mp hx
          have hk : k < j := by simpa using hk
          refine ⟨[.val (ln m s), .val (tl on off m), .val (tb t m), .val (.int (j : Int)), .un, .val (.int (k : Int))], by simp [wipeS, bindT], ?_⟩
          have := @run_rode lf wf st.length (n + 2) st' m t k j hk hj
          unfold wD at this
          simp [sz2, this]) (by rw [rngE_len]; omega)
      have em : (rngL 0 j).map (fun x => match x with | .int i => D.int (t i.toNat j : Int) | _ => .non) = nl (fun i => t i j) j := by
        simp [rngL, nl, List.map_map]
      rw [em] at lc
      have hc := B.col j hj
      unfold sumN at hc
      simp [lc, ints_nl, sum_cast, idxS1, idxS_nl hj, cm_ne, hc]) ⟨rfl, .un, rfl⟩
  obtain ⟨s', st', k1, e, sx, es⟩ := loop
  subst e es
  have hb : blsD (((List.range (m - 1)).map fun (i : Nat) => D.tup [.int (i : Int), rowD t m i]).map fun _ => D.bl false) = some (List.replicate (m - 1) false) := by
    rw [bls_false]
    simp
  generalize (((List.range (m - 1)).map fun (i : Nat) => D.tup [.int (i : Int), rowD t m i]).map fun _ => D.bl false) = l2 at key hb
  simp only [f_is_good_table]
  simp [run_is_form T B, key, hb, k1]
theorem run_need_table (T : Tal m s on off L) {t : Nat → Nat → Nat} (B : Tab m on off t) : run (G lf) wf (n + 5) bs 36 [ln m s, tl on off m, tb t m] st = .ok .non st := by
  refine run_none (σ := [.val (ln m s), .val (tl on off m), .val (tb t m)]) rfl rfl rfl ?_ rfl
  simp [f_need_table, run_need_tally T, run_is_good_table T B]
/-! ### sums over ways -/
def sumW (f : Nat × Nat → Nat) (ws : List (Nat × Nat)) : Nat := (ws.map f).sum
theorem sumW_cast (f : Nat × Nat → Nat) (ws : List (Nat × Nat)) : (ws.map fun w => (f w : Int)).sum = (sumW f ws : Int) := by
  unfold sumW
  induction ws with
  | nil => rfl
  | cons x xs ih => simp [ih]
theorem run_miles_of (T : Tal m s on off L) {t : Nat → Nat → Nat} (B : Tab m on off t) : run (G lf) wf (n + 6) bs 47 [ln m s, tl on off m, tb t m] st = .ok (.int (sumW (fun w => (w.2 - w.1) * t w.1 w.2) (waysT m m) : Int)) st := by
  refine run_pure (d := .int (sumW (fun w => (w.2 - w.1) * t w.1 w.2) (waysT m m) : Int)) rfl rfl rfl ?_ rfl rfl
  have m6 := T.m6
  have l1 := waysT_len m m
  have l3 : m * m ≤ 36 := Nat.le_trans (Nat.mul_le_mul m6 m6) (by omega)
  have key := ev_lcM (cf := run (G lf) wf (n + 5)) (bs := st.length) (σ := [.val (ln m s), .val (tl on off m), .val (tb t m), .un]) (st := st) (own := [3]) (tg := .nm 3) (it := .ov (.call 10 (.cons (.var 0) .nil))) (el := .bin .mul (.bin .sub (.idx (.var 3) (.con (.int 1))) (.idx (.var 3) (.con (.int 0)))) (.call 32 (.cons (.var 2) (.cons (.var 3) .nil)))) (xs := (waysT m m).map wD)
    (fun x => match x with | .tup [.int i, .int j] => .int (((j.toNat - i.toNat) * t i.toNat j.toNat : Nat) : Int) | _ => .non) (by simp [run_all_ways m6]) (fun x hx => by
      obtain ⟨w, hw, rfl⟩ := List.mem_map.mp hx
      obtain ⟨i, j⟩ := w
      obtain ⟨h1, h2, h3⟩ := mem_ways hw
      refine ⟨[.val (ln m s), .val (tl on off m), .val (tb t m), .val (wD (i, j))], by simp [wipeS, bindT], ?_⟩
      have r := @run_rode lf wf st.length (n + 4) st m t i j h2 h3
      have mu := @op_mul ((j : Int) - (i : Int)) (t i j : Int) (mulOk_small (by simp at h2 h3; omega))
      have e : ((j : Int) - (i : Int)) = ((j - i : Nat) : Int) := by simp at h2; omega
      have i0 : idxS (wD (i, j)) (.int 0) st = .ok (.int (i : Int)) st := by unfold wD; exact idxS0 _ _ _
      have i1 : idxS (wD (i, j)) (.int 1) st = .ok (.int (j : Int)) st := by unfold wD; exact idxS1 _ _ _
      rw [e] at mu
      show evE _ _ _ _ _ = .ok (.int (((j - i) * t i j : Nat) : Int)) st
      simp [i0, i1, r, e, mu]) (by simp; omega)
  have em : ((waysT m m).map wD).map (fun x => match x with | .tup [.int i, .int j] => D.int (((j.toNat - i.toNat) * t i.toNat j.toNat : Nat) : Int) | _ => .non) = ((waysT m m).map fun w => (((w.2 - w.1) * t w.1 w.2 : Nat) : Int)).map .int := by
    rw [List.map_map, List.map_map]
    refine List.map_congr_left fun w _ => ?_
    simp [wD]
  rw [em] at key
  have hs := sumW_cast (fun w => (w.2 - w.1) * t w.1 w.2) (waysT m m)
  generalize ((waysT m m).map fun w => (((w.2 - w.1) * t w.1 w.2 : Nat) : Int)) = l at key hs
  simp only [f_miles_of]
  simp [run_need_table T B, key, ints_map, hs]
end
end Mn
set_option maxHeartbeats 4000000
namespace Mn
open PySem
def share (w v : Nat × Nat) : Bool := decide (max w.1 v.1 < min w.2 v.2)
def pOf (t : Nat × Nat → Nat) : List (Nat × Nat) → Nat
  | [] => 0
  | w :: ws => c2 (t w) + (ws.map fun v => if share w v then t w * t v else 0).sum + pOf t ws
theorem cut_from {α : Type} (xs : List α) (k : Nat) : cut xs (some (k : Int)) none = xs.drop k := by
  unfold cut sIx
  rw [HT.sIx_nat, HT.sIx_none]
  by_cases h : k ≤ xs.length
  · rw [Nat.min_eq_left h, List.take_of_length_le (by simp)]
  · rw [Nat.min_eq_right (by omega), List.drop_of_length_le (by omega), List.drop_of_length_le (by omega)]
    simp
theorem cut_to {α : Type} (xs : List α) (k : Nat) : cut xs none (some (k : Int)) = xs.take k := by
  unfold cut sIx
  rw [HT.sIx_nat, HT.sIx_none]
  simp
theorem slc_from (xs : List D) (k : Nat) : slcD (.lst xs) (some (k : Int)) none = some (.lst (xs.drop k)) := by rw [slcD, cut_from]
theorem slc_to (xs : List D) (k : Nat) : slcD (.lst xs) none (some (k : Int)) = some (.lst (xs.take k)) := by rw [slcD, cut_to]
theorem wD0 (w : Nat × Nat) (st : Store) : idxS (wD w) (.int 0) st = .ok (.int (w.1 : Int)) st := by unfold wD; exact idxS0 _ _ _
theorem wD1 (w : Nat × Nat) (st : Store) : idxS (wD w) (.int 1) st = .ok (.int (w.2 : Int)) st := by unfold wD; exact idxS1 _ _ _
theorem enum_ws (ws : List (Nat × Nat)) : enumD (ws.map wD) = (List.range ws.length).map fun (i : Nat) => .tup [.int (i : Int), wD (ws.getD i (0, 0))] := by
  unfold enumD
  refine List.ext_getElem (by simp) fun i h1 h2 => ?_
  simp at h1 h2
  simp [h1]
section
variable {lf : Fn} {wf bs n : Nat} {st : Store} {m s : Nat} {on off L : Nat → Nat}
theorem run_share (w v : Nat × Nat) : run (G lf) wf (n + 1) bs 48 [wD w, wD v] st = .ok (.bl (share w v)) st := by
  refine run_pure rfl rfl rfl ?_ rfl rfl
  have e : decide ((if (v.1 : Int) > (w.1 : Int) then (v.1 : Int) else (w.1 : Int)) < (if (v.2 : Int) < (w.2 : Int) then (v.2 : Int) else (w.2 : Int))) = share w v := by
    unfold share
    congr 1
    rw [eq_iff_iff]
    split <;> split <;> omega
  simp only [f_share_a_mile]
  simp [wD0, wD1]
  simpa using e
theorem run_rode_w {t : Nat → Nat → Nat} {w : Nat × Nat} (h1 : w.1 < w.2) (h2 : w.2 < m) : run (G lf) wf (n + 1) bs 32 [tb t m, wD w] st = .ok (.int (t w.1 w.2 : Int)) st := run_rode h1 h2
theorem drop_cons_of {α : Type} {l : List α} {j : Nat} {w : α} (h : l[j]? = some w) : l.drop j = w :: l.drop (j + 1) := by
  obtain ⟨h1, h2⟩ := List.getElem?_eq_some_iff.mp h
  rw [List.drop_eq_getElem_cons h1, h2]
theorem run_pairs_of (T : Tal m s on off L) {t : Nat → Nat → Nat} (B : Tab m on off t) (ht : ∀ i j, i < j → j < m → t i j ≤ 9) : run (G lf) wf (n + 6) bs 49 [ln m s, tl on off m, tb t m] st = .ok (.int (pOf (fun w => t w.1 w.2) (waysT m m) : Int)) st := by
  refine run_pure (d := .int (pOf (fun w => t w.1 w.2) (waysT m m) : Int)) rfl rfl rfl ?_ rfl rfl
  have m6 := T.m6
  have hws : ∀ w ∈ waysT m m, w.1 < w.2 ∧ w.2 < m := fun w hw => (mem_ways hw).2
  have haw := @run_all_ways lf wf st.length (n + 4) st m s m6
  generalize waysT m m = ws at hws haw
  have loop := ev_forI (cf := run (G lf) wf (n + 5)) (wf := wf) (bs := st.length) (σ := [.val (ln m s), .val (tl on off m), .val (tb t m), .val (.lst (ws.map wD)), .val (.int 0), .un, .un, .un]) (st := st) (tg := .tp [5, 6]) (it := .en (.var 3))
    (b := [.asg 4 (.pl (.bin .add (.var 4) (.call 46 (.cons (.call 32 (.cons (.var 2) (.cons (.var 6) .nil))) .nil)))), .for_ (.nm 7) (.ov (.slc (.var 3) (.so (.bin .add (.var 5) (.con (.int 1)))) .no)) [.asg 4 (.pl (.bin .add (.var 4) (.ite (.call 48 (.cons (.var 6) (.cons (.var 7) .nil))) (.bin .mul (.call 32 (.cons (.var 2) (.cons (.var 6) .nil))) (.call 32 (.cons (.var 2) (.cons (.var 7) .nil)))) (.con (.int 0)))))]])
    (xs := (List.range ws.length).map fun (i : Nat) => .tup [.int (i : Int), wD (ws.getD i (0, 0))])
    (fun j σ st' => st' = st ∧ ∃ (x : Nat) (sx sy sz : Sl), σ = [.val (ln m s), .val (tl on off m), .val (tb t m), .val (.lst (ws.map wD)), .val (.int (x : Int)), sx, sy, sz] ∧ x + pOf (fun w => t w.1 w.2) (ws.drop j) = pOf (fun w => t w.1 w.2) ws)
    (by simp [enum_ws]) (fun j y σ st' hx ⟨e, x, sx, sy, sz, es, hp⟩ => by
      subst es
      have hj : j < ws.length := by have := (List.getElem?_eq_some_iff.mp hx).1; simpa using this
      obtain ⟨w, hw⟩ : ∃ w, ws[j]? = some w := ⟨ws[j], by simp [hj]⟩
      have hgd : ws.getD j (0, 0) = w := by simp [List.getD, hw]
      have hx : y = .tup [.int (j : Int), wD w] := by
        simp [hj] at hx
        rw [← hx, ← hgd]; simp [List.getD, hj]
      subst hx
      have hwm := hws w (List.mem_of_getElem? hw)
      have hdrop := drop_cons_of hw
      rw [hdrop, pOf] at hp
      have r := @run_rode_w lf wf st.length (n + 4) st' m t w hwm.1 hwm.2
      have c := @run_choose_two lf wf st.length (n + 4) st' (t w.1 w.2) (by have := ht w.1 w.2 hwm.1 hwm.2; omega)
      have inner := ev_forI (cf := run (G lf) wf (n + 5)) (wf := wf) (bs := st.length) (σ := [.val (ln m s), .val (tl on off m), .val (tb t m), .val (.lst (ws.map wD)), .val (.int ((x + c2 (t w.1 w.2) : Nat) : Int)), .val (.int (j : Int)), .val (wD w), sz]) (st := st') (tg := .nm 7) (it := .ov (.slc (.var 3) (.so (.bin .add (.var 5) (.con (.int 1)))) .no))
        (b := [.asg 4 (.pl (.bin .add (.var 4) (.ite (.call 48 (.cons (.var 6) (.cons (.var 7) .nil))) (.bin .mul (.call 32 (.cons (.var 2) (.cons (.var 6) .nil))) (.call 32 (.cons (.var 2) (.cons (.var 7) .nil)))) (.con (.int 0)))))])
        (xs := (ws.drop (j + 1)).map wD)
        (fun k σ st2 => st2 = st' ∧ ∃ (z : Nat) (sw : Sl), σ = [.val (ln m s), .val (tl on off m), .val (tb t m), .val (.lst (ws.map wD)), .val (.int (z : Int)), .val (.int (j : Int)), .val (wD w), sw] ∧ z + (((ws.drop (j + 1)).drop k).map fun v => if share w v then t w.1 w.2 * t v.1 v.2 else 0).sum = x + c2 (t w.1 w.2) + ((ws.drop (j + 1)).map fun v => if share w v then t w.1 w.2 * t v.1 v.2 else 0).sum)
        (by have := slc_from (ws.map wD) (j + 1); push_cast at this; simp [this, List.map_drop]) (fun k y σ st2 hy ⟨e2, z, sw, es2, hz⟩ => by
          subst es2 e2
          rw [List.getElem?_map] at hy
          obtain ⟨v, hv, rfl⟩ := Option.map_eq_some_iff.mp hy
          have hvm := hws v (List.mem_of_mem_drop (List.mem_of_getElem? hv))
          rw [drop_cons_of hv, List.map_cons, List.sum_cons] at hz
          have r1 := @run_rode_w lf wf st.length (n + 4) st2 m t w hwm.1 hwm.2
          have r2 := @run_rode_w lf wf st.length (n + 4) st2 m t v hvm.1 hvm.2
          have sh := @run_share lf wf st.length (n + 4) st2 w v
          have mu := @op_mul (t w.1 w.2 : Int) (t v.1 v.2 : Int) (mulOk_small (by have := ht w.1 w.2 hwm.1 hwm.2; simp; omega))
          refine ⟨[.val (ln m s), .val (tl on off m), .val (tb t m), .val (.lst (ws.map wD)), .val (.int (z : Int)), .val (.int (j : Int)), .val (wD w), .val (wD v)],
            [.val (ln m s), .val (tl on off m), .val (tb t m), .val (.lst (ws.map wD)), .val (.int ((z + (if share w v then t w.1 w.2 * t v.1 v.2 else 0) : Nat) : Int)), .val (.int (j : Int)), .val (wD w), .val (wD v)], st2, by simp [bindT], ?_, rfl, _, _, rfl, by omega⟩
          simp only [ev_Scons, ev_asg, ev_pl, ev_bin, ev_ite, ev_var]
          cases hs : share w v with
          | true => simp [sh, hs, r1, r2, mu]
          | false => simp [sh, hs]) ⟨rfl, _, _, rfl, by simp⟩
      obtain ⟨s3, st3, k3, e3, z, sw, es3, hz⟩ := inner
      subst e3 es3
      rw [List.length_map, List.drop_length, List.map_nil, List.sum_nil, Nat.add_zero] at hz
      refine ⟨[.val (ln m s), .val (tl on off m), .val (tb t m), .val (.lst (ws.map wD)), .val (.int (x : Int)), .val (.int (j : Int)), .val (wD w), sz], [.val (ln m s), .val (tl on off m), .val (tb t m), .val (.lst (ws.map wD)), .val (.int (z : Int)), .val (.int (j : Int)), .val (wD w), sw], st3, by simp [bindT, setAll], ?_, e, z, _, _, _, rfl, ?_⟩
      · simp only [ev_Scons, ev_asg, ev_pl, ev_bin, ev_var]
        push_cast at k3
        simp [r, c, k3]
      · rw [hz]; omega) ⟨rfl, 0, .un, .un, .un, rfl, by simp⟩
  obtain ⟨s', st', k1, e, x, sx, sy, sz, es, hp⟩ := loop
  subst e es
  have hx : x = pOf (fun w => t w.1 w.2) ws := by simpa [pOf] using hp
  subst hx
  simp only [f_pairs_of]
  simp [run_need_table T B, haw, setSl, k1]
end
end Mn
set_option maxHeartbeats 4000000
namespace Mn
open PySem
theorem op_mod {i j : Int} (h : 0 < j) : opD .mod (.int i) (.int j) = some (.int (i % j)) := by simp [opD, h]
theorem op_div {i j : Int} (h : 0 < j) (h2 : j < 2 ^ 200) : opD .fdiv (.int i) (.int j) = some (.int (i / j)) := by
  have : divOk j = true := by unfold divOk; simp [h]; exact h2
  simp [opD, this]
theorem mulOk_r {i j : Int} (h : j.natAbs < 2 ^ 64) : mulOk i j = true := by
  unfold mulOk
  simp [h]
theorem mulOk_b {i j : Int} (h : i.natAbs < 2 ^ 200) (h2 : j.natAbs < 2 ^ 200) : mulOk i j = true := by
  unfold mulOk
  rw [decide_eq_true h, decide_eq_true h2]
  simp
theorem idx_scr {ns : List Int} {k : Nat} (h : k < ns.length) : idxD (.scr ns) (.int (k : Int)) = some (.int ns[k]) := by
  simp only [idxD, ixN_nat h, Option.bind_some]
  simp [h]
section
variable {lf : Fn} {wf bs n : Nat} {st : Store}
theorem run_cell (ns : List Int) (hns63 : ns.length ≤ 63) (k : Nat) : ∃ v : Int, run (G lf) wf (n + 1) bs 22 [.scr ns, .int (k : Int)] st = .ok (.int v) st := by
  cases hn : ns with
  | nil =>
    refine ⟨(k : Int) * 7919, run_pure rfl rfl rfl ?_ rfl rfl⟩
    have mu := @op_mul (k : Int) 7919 (mulOk_r (by decide))
    have z : szOk 0 = true := sz0
    simp only [f_law_cell]
    simp [sz0, eq_scr, mu]
  | cons x xs =>
    have hl : 0 < (x :: xs).length := by simp
    generalize hns : x :: xs = ms at hl
    have he : ms.isEmpty = false := by rw [← hns]; rfl
    have e : (k : Int) % (ms.length : Int) = ((k % ms.length : Nat) : Int) := by simp
    have hlt : k % ms.length < ms.length := Nat.mod_lt _ hl
    have ix := idx_scr hlt
    refine ⟨ms[k % ms.length] + (k : Int) / (ms.length : Int) * 104729, run_pure rfl rfl rfl ?_ rfl rfl⟩
    have h0 : (0 : Int) < (ms.length : Int) := by omega
    have ixs : idxS (.scr ms) (.int ((k % ms.length : Nat) : Int)) st = .ok (.int ms[k % ms.length]) st := by
      unfold idxS
      simp only [ix, Out.of_some]
    rw [← e] at ixs
    have h63 : ms.length ≤ 63 := by rw [← hns, ← hn]; exact hns63
    have q1 := @op_mod (k : Int) (ms.length : Int) h0
    have q2 := @op_div (k : Int) (ms.length : Int) h0 (by
      have : (2 : Int) ^ 200 = 1606938044258990275541962092341162602522202993782792835301376 := by decide
      omega)
    have mu := @op_mul ((k : Int) / (ms.length : Int)) 104729 (mulOk_r (by decide))
    simp only [f_law_cell]
    simp [sz0, eq_scr, he, q1, ixs, q2, mu]
theorem pow18 : opD .pow (.int 10) (.int 18) = some (.int 1000000000000000000) := by decide +kernel
theorem run_drawn (c k : Int) : ∃ v : Int, 0 ≤ v ∧ run (G lf) wf (n + 1) bs 23 [.int c, .int k] st = .ok (.int v) st := by
  have p1 := @op_mul c 6364136223846793005 (mulOk_r (by decide))
  have p2 := @op_mul (k + 1) 1442695040888963407 (mulOk_r (by decide))
  have q1 := @op_mod (c * 6364136223846793005 + (k + 1) * 1442695040888963407) 340282366920938463463374607431768211507 (by decide)
  generalize hm1 : (c * 6364136223846793005 + (k + 1) * 1442695040888963407) % 340282366920938463463374607431768211507 = m1 at q1
  have b1 : 0 ≤ m1 ∧ m1 < 340282366920938463463374607431768211507 := by omega
  have p3 := @op_mul m1 m1 (mulOk_b (by have : (2 : Nat) ^ 200 = 1606938044258990275541962092341162602522202993782792835301376 := by decide
                                        omega) (by have : (2 : Nat) ^ 200 = 1606938044258990275541962092341162602522202993782792835301376 := by decide
                                                   omega))
  have q2 := @op_mod (m1 * m1) 340282366920938463463374607431768211297 (by decide)
  have b2 : 0 ≤ m1 * m1 % 340282366920938463463374607431768211297 ∧ m1 * m1 % 340282366920938463463374607431768211297 < 340282366920938463463374607431768211297 := by
    exact ⟨Int.emod_nonneg _ (by decide), Int.emod_lt_of_pos _ (by decide)⟩
  generalize m1 * m1 % 340282366920938463463374607431768211297 = m2 at q2 b2
  have q3 := @op_mod m2 18446744073709551557 (by decide)
  have q4 := @op_div m2 18446744073709551557 (by decide) (by decide)
  have b3 : 0 ≤ m2 % 18446744073709551557 ∧ m2 % 18446744073709551557 < 18446744073709551557 := by omega
  have b4 : 0 ≤ m2 / 18446744073709551557 ∧ m2 / 18446744073709551557 ≤ 18446744073709551675 := by omega
  generalize m2 % 18446744073709551557 = m3 at q3 b3
  generalize m2 / 18446744073709551557 = m4 at q4 b4
  have p4 := @op_mul (m3 + 1) (m4 + 1) (mulOk_small (by omega))
  have b5 : ((m3 + 1) * (m4 + 1)).natAbs < 2 ^ 200 := by
    rw [Int.natAbs_mul]
    have h1 : (m3 + 1).natAbs ≤ 18446744073709551557 := by omega
    have h2 : (m4 + 1).natAbs ≤ 18446744073709551676 := by omega
    exact Nat.lt_of_le_of_lt (Nat.mul_le_mul h1 h2) (by decide)
  have p5 := @op_mul ((m3 + 1) * (m4 + 1)) m2 (mulOk_b b5 (by
    have : (2 : Nat) ^ 200 = 1606938044258990275541962092341162602522202993782792835301376 := by decide
    omega))
  have q5 := @op_mod ((m3 + 1) * (m4 + 1) * m2) 340282366920938463463374607431768211507 (by decide)
  have b6 : 0 ≤ (m3 + 1) * (m4 + 1) * m2 % 340282366920938463463374607431768211507 := Int.emod_nonneg _ (by decide)
  refine ⟨_, b6, run_pure rfl rfl rfl ?_ rfl rfl⟩
  simp only [f_law_drawn]
  simp [p1, p2, q1, p3, q2, q3, q4, p4, p5, q5]
/-- a dice lies there -/
def Dice (st : Store) (r : Nat) : Prop := ∃ a b : Int, st[r]? = some (.lst [.int a, .int b])
structure Rolled (r : Nat) (st st' : Store) : Prop where
  len : st'.length = st.length
  dice : Dice st' r
  oth : ∀ q, q ≠ r → st'[q]? = st[q]?
theorem Rolled.trans {r : Nat} {a b c : Store} (h : Rolled r a b) (k : Rolled r b c) : Rolled r a c := ⟨k.len.trans h.len, k.dice, fun q hq => (k.oth q hq).trans (h.oth q hq)⟩
theorem Rolled.set {r : Nat} {st : Store} {a b : Int} (h : Dice st r) : Rolled r st (st.set r (.lst [.int a, .int b])) := by
  obtain ⟨x, y, h⟩ := h
  have hl := (List.getElem?_eq_some_iff.mp h).1
  refine ⟨by simp, ⟨a, b, by simp [hl]⟩, fun q hq => ?_⟩
  rw [List.getElem?_set_ne (Ne.symm hq)]
theorem idx_ref0 {r : Nat} {a b : Int} (h : st[r]? = some (.lst [.int a, .int b])) : idxS (.ref r) (.int 0) st = .ok (.int a) st := by
  unfold idxS
  simp only [h]
  rfl
theorem idx_ref1 {r : Nat} {a b : Int} (h : st[r]? = some (.lst [.int a, .int b])) : idxS (.ref r) (.int 1) st = .ok (.int b) st := by
  unfold idxS
  simp only [h]
  rfl
theorem ev_setR {cf : Nat → Nat → List D → Store → Out D} {σ : List Sl} {i r : Nat} {k e : E} (h : σ[i]? = some (.val (.ref r))) : evS cf wf bs σ st (.setR i k e) = (evE cf bs σ st e).fl fun d st => (evE cf bs σ st k).fl fun y st => putCell r y d σ st := by
  rw [evS]
  simp only [setRS, h]
theorem put0 {σ : List Sl} {r : Nat} {a b v : Int} (h : st[r]? = some (.lst [.int a, .int b])) : putCell r (.int 0) (.int v) σ st = .nx σ (st.set r (.lst [.int v, .int b])) := by
  unfold putCell
  simp only [h]
  rfl
theorem put1 {σ : List Sl} {r : Nat} {a b v : Int} (h : st[r]? = some (.lst [.int a, .int b])) : putCell r (.int 1) (.int v) σ st = .nx σ (st.set r (.lst [.int a, .int v])) := by
  unfold putCell
  simp only [h]
  rfl
theorem run_roll {r M : Nat} (hd : Dice st r) (hM : 0 < M) (hM2 : M ≤ 1000) : ∃ (v : Nat) (st' : Store), v < M ∧ Rolled r st st' ∧ run (G lf) wf (n + 2) bs 24 [.ref r, .int (M : Int)] st = .ok (.int (v : Int)) st' := by
  obtain ⟨a, b, h⟩ := id hd
  have hM' : (0 : Int) < (M : Int) := by omega
  have hl := (List.getElem?_eq_some_iff.mp h).1
  by_cases hc : (1000000000000000000 : Int) ≤ a
  · have b1 : 0 ≤ a % (M : Int) ∧ a % (M : Int) < (M : Int) := ⟨Int.emod_nonneg _ (by omega), Int.emod_lt_of_pos _ hM'⟩
    have hv : a % (M : Int) = ((a % (M : Int)).toNat : Int) := by omega
    refine ⟨(a % (M : Int)).toNat, st.set r (.lst [.int (a / (M : Int)), .int b]), by omega, Rolled.set hd, ?_⟩
    rw [← hv]
    refine run_pure rfl rfl rfl ?_ rfl (by simp)
    have q1 := @op_mod a (M : Int) hM'
    have q2 := @op_div a (M : Int) hM' (by have : (2 : Int) ^ 200 = 1606938044258990275541962092341162602522202993782792835301376 := by decide
                                           omega)
    simp only [f_law_roll]
    simp [idx_ref0 h, pow18, hc, q1, ev_setR, q2, put0 h]
  · have h2 : (st.set r (.lst [.int a, .int (b + 1)]))[r]? = some (.lst [.int a, .int (b + 1)]) := by simp [hl]
    obtain ⟨w, hw, hr⟩ := @run_drawn lf wf st.length n (st.set r (.lst [.int a, .int (b + 1)])) a (b + 1)
    have b1 : 0 ≤ w / 8 % (M : Int) ∧ w / 8 % (M : Int) < (M : Int) := ⟨Int.emod_nonneg _ (by omega), Int.emod_lt_of_pos _ hM'⟩
    have hv : w / 8 % (M : Int) = ((w / 8 % (M : Int)).toNat : Int) := by omega
    refine ⟨(w / 8 % (M : Int)).toNat, st.set r (.lst [.int a, .int (b + 1)]), by omega, Rolled.set hd, ?_⟩
    rw [← hv]
    refine run_pure rfl rfl rfl ?_ rfl (by simp)
    have q1 := @op_mod (w / 8) (M : Int) hM'
    have q2 := @op_div w 8 (by decide) (by decide)
    simp only [f_law_roll]
    simp [idx_ref0 h, idx_ref1 h, pow18, hc, ev_setR, put1 h, idx_ref0 h2, idx_ref1 h2, hr, q1, q2]
end
end Mn
set_option maxHeartbeats 4000000
namespace Mn
open PySem
theorem nl_succ (f : Nat → Nat) (j : Nat) : nl f (j + 1) = nl f j ++ [.int (f j : Int)] := by simp [nl, List.range_succ]
theorem nl_congr {f g : Nat → Nat} {j : Nat} (h : ∀ k < j, f k = g k) : nl f j = nl g j := by
  unfold nl
  refine List.map_congr_left fun k hk => ?_
  rw [h k (by simpa using hk)]
def upN (f : Nat → Nat) (j v : Nat) : Nat → Nat := fun k => if k = j then v else f k
theorem nl_up (f : Nat → Nat) (j v : Nat) : nl (upN f j v) (j + 1) = nl f j ++ [.int (v : Int)] := by
  rw [nl_succ, nl_congr (g := f) fun k hk => by unfold upN; rw [if_neg (by omega)]]
  simp [upN]
section
variable {lf : Fn} {wf bs n : Nat} {st : Store}
theorem run_any_line {r : Nat} (hd : Dice st r) : ∃ (m s : Nat) (st' : Store), 2 ≤ m ∧ m ≤ 6 ∧ 1 ≤ s ∧ s ≤ 6 ∧ Rolled r st st' ∧ run (G lf) wf (n + 3) bs 28 [.ref r, .int 6, .int 6] st = .ok (ln m s) st' := by
  obtain ⟨v, st1, hv, r1, e1⟩ := @run_roll lf wf st.length n st r 5 hd (by omega) (by omega)
  obtain ⟨u, st2, hu, r2, e2⟩ := @run_roll lf wf st.length n st1 r 6 r1.dice (by omega) (by omega)
  refine ⟨2 + v, 1 + u, st2, by omega, by omega, by omega, by omega, r1.trans r2, run_pure rfl rfl rfl ?_ rfl (r1.trans r2).len⟩
  push_cast at e1 e2
  simp only [f_law_any_line]
  simp [e1, e2, sz2]
structure PTal (m s j : Nat) (on off L : Nat → Nat) : Prop where
  z : 0 < j → off 0 = 0 ∧ L 0 = on 0
  step : ∀ k, k + 1 < j → L (k + 1) + off (k + 1) = L k + on (k + 1) ∧ off (k + 1) ≤ L k
  cap : ∀ k, k < j → L k ≤ s
  fin : j = m → L (m - 1) = 0 ∧ on (m - 1) = 0
theorem PTal.next {m s j h v u : Nat} {on off L : Nat → Nat} (P : PTal m s j on off L) (hm : 2 ≤ m) (hj : j < m) (hh : h = if j = 0 then 0 else L (j - 1)) (hv : v ≤ h) (hu : h - v + u ≤ s) (hend : j + 1 = m → v = h ∧ u = 0) :
    PTal m s (j + 1) (upN on j u) (upN off j v) (upN L j (h - v + u)) := by
  refine ⟨fun _ => ?_, fun k hk => ?_, fun k hk => ?_, fun e => ?_⟩
  · cases j with
    | zero => simp [upN]; simp at hh; omega
    | succ j => have := P.z (by omega); simpa [upN] using this
  · by_cases e : k + 1 = j
    · subst e
      simp at hh
      simp [upN]
      omega
    · have := P.step k (by omega)
      have h1 : k ≠ j := by omega
      simp [upN, e, h1]; exact this
  · by_cases e : k = j
    · subst e; simp [upN]; exact hu
    · have := P.cap k (by omega); simp [upN, e]; exact this
  · have := hend e
    have e1 : m - 1 = j := by omega
    rw [e1]
    simp [upN]; omega
theorem run_any_tally {r m s : Nat} (hd : Dice st r) (h2 : 2 ≤ m) (h6 : m ≤ 6) (h1 : 1 ≤ s) (hs : s ≤ 9) : ∃ (on off L : Nat → Nat) (st' : Store), Tal m s on off L ∧ Rolled r st st' ∧ run (G lf) wf (n + 3) bs 29 [.ref r, ln m s] st = .ok (tl on off m) st' := by
  have loop := ev_forI (cf := run (G lf) wf (n + 2)) (wf := wf) (bs := st.length) (σ := [.val (.ref r), .val (ln m s), .un, .val (.int 0), .ol [], .ol [], .un, .un, .un]) (st := st) (tg := .nm 2) (it := .r1 (.idx (.var 1) (.con (.int 0))))
    (b := [.asg 6 (.pl (.cmp .eq (.var 2) (.bin .sub (.idx (.var 1) (.con (.int 0))) (.con (.int 1))))), .asg 7 (.pl (.ite (.var 6) (.var 3) (.call 24 (.cons (.var 0) (.cons (.bin .add (.var 3) (.con (.int 1))) .nil))))), .asg 8 (.pl (.ite (.var 6) (.con (.int 0)) (.call 24 (.cons (.var 0) (.cons (.bin .add (.bin .add (.bin .sub (.idx (.var 1) (.con (.int 1))) (.var 3)) (.var 7)) (.con (.int 1))) .nil))))), .asg 3 (.pl (.bin .add (.bin .sub (.var 3) (.var 7)) (.var 8))), .app 4 (.var 8), .app 5 (.var 7)]) (xs := rngL 0 m)
    (fun j σ st' => Rolled r st st' ∧ ∃ (on off L : Nat → Nat) (h : Nat) (s2 s6 s7 s8 : Sl), σ = [.val (.ref r), .val (ln m s), s2, .val (.int (h : Int)), .ol (nl on j), .ol (nl off j), s6, s7, s8] ∧ (h = if j = 0 then 0 else L (j - 1)) ∧ PTal m s j on off L)
    (by simp [idxS0, rg1_nat (show m ≤ 1000 by omega)]) (fun j x σ st' hx ⟨hR, on, off, L, h, t2, t6, t7, t8, es, hh, P⟩ => by
      subst es
      obtain ⟨hj, rfl⟩ := rngE_get hx
      simp only [Int.zero_add]
      have hle : h ≤ s := by
        rw [hh]; split
        · omega
        · exact P.cap (j - 1) (by omega)
      have hsz : szOk (j + 1) = true := szOk_of (by omega)
      by_cases he : j + 1 = m
      · have hc : (j : Int) = (m : Int) - 1 := by omega
        have P2 := P.next (v := h) (u := 0) h2 hj hh (by omega) (by omega) (fun _ => ⟨rfl, rfl⟩)
        refine ⟨[.val (.ref r), .val (ln m s), .val (.int (j : Int)), .val (.int (h : Int)), .ol (nl on j), .ol (nl off j), t6, t7, t8],
          [.val (.ref r), .val (ln m s), .val (.int (j : Int)), .val (.int ((h - h + 0 : Nat) : Int)), .ol (nl (upN on j 0) (j + 1)), .ol (nl (upN off j h) (j + 1)), .val (.bl true), .val (.int (h : Int)), .val (.int 0)], st', by simp [bindT], ?_, hR, upN on j 0, upN off j h, upN L j (h - h + 0), h - h + 0, _, _, _, _, rfl, by simp [upN], P2⟩
        rw [nl_up, nl_up]
        simp only [ev_Scons, ev_asg, ev_pl, ev_cmp, ev_var]
        simp [idxS0, cm_eq, hc, hsz]
      · have hc : ¬ (j : Int) = (m : Int) - 1 := by omega
        obtain ⟨v, st1, hv, r1, e1⟩ := @run_roll lf wf st.length n st' r (h + 1) hR.dice (by omega) (by omega)
        obtain ⟨u, st2, hu, r2, e2⟩ := @run_roll lf wf st.length n st1 r (s - h + v + 1) r1.dice (by omega) (by omega)
        have P2 := P.next (v := v) (u := u) h2 hj hh (by omega) (by omega) (fun z => absurd z he)
        refine ⟨[.val (.ref r), .val (ln m s), .val (.int (j : Int)), .val (.int (h : Int)), .ol (nl on j), .ol (nl off j), t6, t7, t8],
          [.val (.ref r), .val (ln m s), .val (.int (j : Int)), .val (.int ((h - v + u : Nat) : Int)), .ol (nl (upN on j u) (j + 1)), .ol (nl (upN off j v) (j + 1)), .val (.bl false), .val (.int (v : Int)), .val (.int (u : Int))], st2, by simp [bindT], ?_, hR.trans (r1.trans r2), upN on j u, upN off j v, upN L j (h - v + u), h - v + u, _, _, _, _, rfl, by simp [upN], P2⟩
        rw [nl_up, nl_up]
        have c1 : ((h + 1 : Nat) : Int) = (h : Int) + 1 := by omega
        have c2' : ((s - h + v + 1 : Nat) : Int) = (s : Int) - (h : Int) + (v : Int) + 1 := by omega
        have c3 : ((h - v + u : Nat) : Int) = (h : Int) - (v : Int) + (u : Int) := by omega
        rw [c1] at e1
        rw [c2'] at e2
        rw [c3]
        simp only [ev_Scons, ev_asg, ev_pl, ev_cmp, ev_var]
        simp [idxS0, idxS1, cm_eq, hc, hsz, e1, e2]) ⟨⟨rfl, hd, fun _ _ => rfl⟩, fun _ => 0, fun _ => 0, fun _ => 0, 0, .un, .un, .un, .un, rfl, rfl, ⟨fun h => by omega, fun k h => by omega, fun k h => by omega, fun h => by omega⟩⟩
  obtain ⟨s', st', k1, hR, on, off, L, h, t2, t6, t7, t8, es, hh, P⟩ := loop
  subst es
  rw [rngE_len] at k1 hh P
  refine ⟨on, off, L, st', ⟨h2, h6, h1, by omega, (P.z (by omega)).1, (P.z (by omega)).2, fun k hk => (P.step k hk).1, fun k hk => (P.step k hk).2, P.cap, (P.fin rfl).1, (P.fin rfl).2⟩, hR, run_pure rfl rfl rfl ?_ (by simp [D.rb, D.rbL, rb_nl]) hR.len⟩
  simp only [f_law_any_tally]
  simp [sz0, sz2, setSl, k1]
theorem run_keep {G : Prg} {wf n bs f : Nat} {fn : Fn} {ds : List D} {d : D} {st st' : Store} (hG : G f = some fn) (hl : ds.length = fn.np) (hk : fn.keep = true)
    (hb : evSs (run G wf n) wf bs (ds.map .val ++ List.replicate (fn.ns - fn.np) .un) st fn.body = .rt d st') : run G wf (n + 1) bs f ds st = .ok d st' := by
  rw [run, hG]
  simp only [hl, if_true, hk]
  simp only [hb, fin, if_true]
theorem ev_cel {cf : Nat → Nat → List D → Store → Out D} {σ : List Sl} (es : Es) : evE cf bs σ st (.cel es) = (evEs cf bs σ st es).bind fun xs st => if szOk xs.length && D.rbL 0 xs then .ok (.ref st.length) (st ++ [.lst xs]) else .bad := by rw [evE]
theorem rb2 (a b : Int) : D.rbL 0 [.int a, .int b] = true := by simp [D.rbL, D.rb]
/-- the dices -/
theorem run_rounds (ns : List Int) (h : ns.length ≤ 63) : ∃ (c : Nat) (st' : Store), (c = 1 ∨ c = 2) ∧ st'.length = c ∧ (∀ r < c, Dice st' r) ∧ run (G lf) wf (n + 2) bs 25 [.scr ns, .int 2] [] = .ok (.lst ((List.range c).map .ref)) st' := by
  obtain ⟨v0, e0⟩ := @run_cell lf wf bs n [] ns h 0
  simp only [Int.natCast_zero] at e0
  by_cases h2 : 2 ≤ ns.length
  · obtain ⟨v1, e1⟩ := @run_cell lf wf bs n [.lst [.int v0, .int 0]] ns h 1
    simp only [Int.natCast_one] at e1
    refine ⟨2, [.lst [.int v0, .int 0], .lst [.int v1, .int 0]], .inr rfl, rfl, fun r hr => ?_, run_keep rfl rfl rfl ?_⟩
    · match r, hr with
      | 0, _ => exact ⟨v0, 0, rfl⟩
      | 1, _ => exact ⟨v1, 0, rfl⟩
    · have hm : ¬ ((ns.length : Int) < 2) := by omega
      have hr : rg1D (.int 2) = some [.int 0, .int 1] := by decide +kernel
      simp only [f_law_rounds]
      simp [ev_lc, hm, hr, compL, bindT, wipeS, ev_cel, e0, e1, sz1, sz2, rb2]
      rfl
  · refine ⟨1, [.lst [.int v0, .int 0]], .inl rfl, rfl, fun r hr => ?_, run_keep rfl rfl rfl ?_⟩
    · match r, hr with
      | 0, _ => exact ⟨v0, 0, rfl⟩
    · have hm : ((ns.length : Int) < 2) := by omega
      have hm2 : ¬ (1 : Int) < (ns.length : Int) := by omega
      have hr : rg1D (.int 1) = some [.int 0] := by decide +kernel
      simp only [f_law_rounds]
      simp [ev_lc, hm, hm2, hr, compL, bindT, wipeS, ev_cel, e0, sz1, sz2, rb2]
end
end Mn
set_option maxHeartbeats 4000000
namespace Mn
open PySem
def ridersT (t : Nat × Nat → Nat) (ws : List (Nat × Nat)) : List (Nat × Nat) := ws.flatMap fun w => List.replicate (t w) w
theorem flat_one {α : Type} (x : α) (k : Nat) : (List.replicate k [x]).flatten = List.replicate k x := by
  induction k with
  | zero => rfl
  | succ k ih => simp [List.replicate_succ, ih]
theorem mul_lst1 {x : D} {k : Nat} (h : k ≤ 1000) : opD .mul (.lst [x]) (.int (k : Int)) = some (.lst (List.replicate k x)) := by
  have h1 : -(2 ^ 63) ≤ (k : Int) := by have : (2 : Int) ^ 63 = 9223372036854775808 := by decide
                                        omega
  have h2 : (k : Int) < 2 ^ 63 := by have : (2 : Int) ^ 63 = 9223372036854775808 := by decide
                                     omega
  have h3 : szOk k = true := szOk_of (by omega)
  simp only [opD, h1, h2, decide_true, Bool.true_and, List.length_singleton, Nat.one_mul, Int.toNat_natCast, h3, if_true, flat_one]
section
variable {lf : Fn} {wf bs n : Nat} {st : Store} {m s : Nat} {on off L : Nat → Nat}
theorem riders_len (t : Nat × Nat → Nat) (ht : ∀ w, t w ≤ 9 ∨ True) : ∀ ws : List (Nat × Nat), (∀ w ∈ ws, t w ≤ 9) → (ridersT t ws).length ≤ 9 * ws.length
  | [], _ => by simp [ridersT]
  | w :: ws, h => by
    have := riders_len t ht ws fun v hv => h v (List.mem_cons_of_mem _ hv)
    have h1 := h w List.mem_cons_self
    simp [ridersT] at this ⊢
    omega
theorem run_riders (h6 : m ≤ 6) {t : Nat → Nat → Nat} (ht : ∀ i j, i < j → j < m → t i j ≤ 9) : run (G lf) wf (n + 2) bs 72 [ln m s, tb t m] st = .ok (.lst ((ridersT (fun w => t w.1 w.2) (waysT m m)).map wD)) st := by
  refine run_pure rfl rfl rfl ?_ (by simp [D.rb, rb_ws]) rfl
  have hws : ∀ w ∈ waysT m m, w.1 < w.2 ∧ w.2 < m := fun w hw => (mem_ways hw).2
  have haw := @run_law_ways lf wf st.length n st m s h6
  have hl := waysT_len m m
  have l3 : m * m ≤ 36 := Nat.le_trans (Nat.mul_le_mul h6 h6) (by omega)
  have hl36 : (waysT m m).length ≤ 36 := by omega
  generalize waysT m m = ws at hws haw hl36
  have loop := ev_forI (cf := run (G lf) wf (n + 1)) (wf := wf) (bs := st.length) (σ := [.val (ln m s), .val (tb t m), .val (.lst []), .un]) (st := st) (tg := .nm 3) (it := .ov (.call 68 (.cons (.var 0) .nil)))
    (b := [.asg 2 (.pl (.bin .add (.var 2) (.bin .mul (.lst (.cons (.var 3) .nil)) (.call 51 (.cons (.var 1) (.cons (.var 3) .nil))))))]) (xs := ws.map wD)
    (fun j σ st' => st' = st ∧ ∃ sx, σ = [.val (ln m s), .val (tb t m), .val (.lst ((ridersT (fun w => t w.1 w.2) (ws.take j)).map wD)), sx])
    (by simp [haw]) (fun j x σ st' hx ⟨e, sx, es⟩ => by
      subst es
      rw [List.getElem?_map] at hx
      obtain ⟨w, hw, rfl⟩ := Option.map_eq_some_iff.mp hx
      have hm := hws w (List.mem_of_getElem? hw)
      have r := @run_law_rode lf wf st.length n st' m t w.1 w.2 hm.1 hm.2
      have h9 := ht w.1 w.2 hm.1 hm.2
      have mu := @mul_lst1 (wD w) (t w.1 w.2) (by omega)
      have hlen := riders_len (fun w => t w.1 w.2) (fun _ => .inr trivial) (ws.take j) (fun v hv => by
        have := hws v (List.mem_of_mem_take hv)
        exact ht v.1 v.2 this.1 this.2)
      have hlt : (ws.take j).length ≤ 36 := by simp; omega
      have ad := @add_lst ((ridersT (fun w => t w.1 w.2) (ws.take j)).map wD) (List.replicate (t w.1 w.2) (wD w)) (by simp at hlen ⊢; omega)
      have et : ws.take (j + 1) = ws.take j ++ [w] := by rw [List.take_succ, hw]; rfl
      refine ⟨[.val (ln m s), .val (tb t m), .val (.lst ((ridersT (fun w => t w.1 w.2) (ws.take j)).map wD)), .val (wD w)],
        [.val (ln m s), .val (tb t m), .val (.lst ((ridersT (fun w => t w.1 w.2) (ws.take (j + 1))).map wD)), .val (wD w)], st', by simp [bindT], ?_, e, _, rfl⟩
      have er : (ridersT (fun w => t w.1 w.2) (ws.take (j + 1))).map wD = (ridersT (fun w => t w.1 w.2) (ws.take j)).map wD ++ List.replicate (t w.1 w.2) (wD w) := by
        rw [et]; simp [ridersT]
      rw [er]
      simp only [ev_Scons, ev_asg, ev_pl, ev_bin, ev_lst, ev_var]
      simp [sz1, r, mu, ad]) ⟨rfl, .un, by simp [ridersT]⟩
  obtain ⟨s', st', k1, e, sx, es⟩ := loop
  subst e es
  rw [List.length_map, List.take_length] at k1
  simp only [f_law_riders]
  simp [sz0, k1]
end
end Mn
set_option maxHeartbeats 4000000
namespace Mn
open PySem
theorem keyOk_w (w : Nat × Nat) : keyOk (wD w) = true := by
  simp [keyOk, wD, D.nkey, D.nkeys, NestedKey.depth, NestedKey.depthAll]
theorem wD_inj {w v : Nat × Nat} (h : wD w = wD v) : w = v := by
  unfold wD at h
  simp at h
  exact Prod.ext (by omega) (by omega)
theorem getD_put (kvs : List (D × D)) (k v k' : D) : getD (putD kvs k v) k' = if k' = k then some v else getD kvs k' := by
  have map_get : ∀ l : List (D × D), getD (l.map fun kv => if kv.1 = k then (kv.1, v) else kv) k' = if k' = k then (getD l k').map (fun _ => v) else getD l k' := by
    intro l
    induction l with
    | nil => simp [getD]
    | cons p ps ih =>
      by_cases e : p.1 = k
      · by_cases e2 : k' = k
        · subst e2
          simp [getD, List.find?_cons, e]
        · have e3 : ¬ p.1 = k' := fun z => e2 (by rw [← z]; exact e)
          simp only [if_neg e2] at ih ⊢
          have : getD ((p :: ps).map fun kv => if kv.1 = k then (kv.1, v) else kv) k' = getD (ps.map fun kv => if kv.1 = k then (kv.1, v) else kv) k' := by
            simp only [List.map_cons, getD, List.find?_cons]
            simp [e, show ¬ k = k' from fun z => e2 z.symm]
          rw [this, ih]
          simp [getD, List.find?_cons, e3]
      · by_cases e3 : p.1 = k'
        · have e2 : ¬ k' = k := fun z => e (by rw [e3]; exact z)
          simp [getD, List.find?_cons, e, e2, e3]
        · have : getD ((p :: ps).map fun kv => if kv.1 = k then (kv.1, v) else kv) k' = getD (ps.map fun kv => if kv.1 = k then (kv.1, v) else kv) k' := by
            simp only [List.map_cons, getD, List.find?_cons]
            simp [e, e3]
          rw [this, ih]
          simp [getD, List.find?_cons, e3]
  unfold putD
  split
  · rename_i h
    rw [map_get]
    by_cases e : k' = k
    · subst e
      rw [if_pos rfl, if_pos rfl]
      obtain ⟨z, hz⟩ := Option.isSome_iff_exists.mp h
      rw [hz]; rfl
    · rw [if_neg e, if_neg e]
  · rename_i h
    by_cases e : k' = k
    · subst e
      rw [if_pos rfl]
      have hn : getD kvs k' = none := by simpa using h
      unfold getD at hn ⊢
      rw [List.find?_append]
      have : kvs.find? (fun kv => decide (kv.1 = k')) = none := by simpa using hn
      simp [this]
    · rw [if_neg e]
      unfold getD
      rw [List.find?_append]
      have : ([(k, v)] : List (D × D)).find? (fun kv => decide (kv.1 = k')) = none := by simp [show ¬ k = k' from fun z => e z.symm]
      rw [this]; simp
theorem put_len (kvs : List (D × D)) (k v : D) : (putD kvs k v).length = if (getD kvs k).isSome then kvs.length else kvs.length + 1 := by
  unfold putD
  split <;> simp
section
variable {lf : Fn} {wf bs n : Nat} {st : Store} {m s : Nat} {on off L : Nat → Nat}
theorem run_as_table (h2 : 2 ≤ m) (h6 : m ≤ 6) {t : Nat → Nat → Nat} {kvs : List (D × D)} (hk : ∀ i j, i < j → j < m → getD kvs (wD (i, j)) = some (.int (t i j : Int))) : run (G lf) wf (n + 1) bs 11 [ln m s, .dic kvs] st = .ok (tb t m) st := by
  refine run_pure rfl rfl rfl ?_ (rb_tb _ _ _) rfl
  have e1 : (m : Int) - 1 = ((m - 1 : Nat) : Int) := by omega
  have rg := rg1_nat (show m - 1 ≤ 1000 by omega)
  rw [← e1] at rg
  have loop := ev_forI (cf := run (G lf) wf n) (wf := wf) (bs := st.length) (σ := [.val (ln m s), .val (.dic kvs), .ol [], .un, .un]) (st := st) (tg := .nm 3) (it := .r1 (.bin .sub (.idx (.var 0) (.con (.int 0))) (.con (.int 1))))
    (b := [.app 2 (.bi .tuple (.cons (.lc [4] (.nm 4) (.r2 (.bin .add (.var 3) (.con (.int 1))) (.idx (.var 0) (.con (.int 0)))) (.idx (.var 1) (.tup (.cons (.var 3) (.cons (.var 4) .nil))))) .nil))]) (xs := rngL 0 (m - 1))
    (fun j σ st' => st' = st ∧ ∃ sx, σ = [.val (ln m s), .val (.dic kvs), .ol ((List.range j).map (rowD t m)), sx, .un])
    (by simp [idxS0, rg]) (fun j x σ st' hx ⟨e, sx, es⟩ => by
      subst es
      obtain ⟨hj, rfl⟩ := rngE_get hx
      simp only [Int.zero_add]
      refine ⟨[.val (ln m s), .val (.dic kvs), .ol ((List.range j).map (rowD t m)), .val (.int (j : Int)), .un], [.val (ln m s), .val (.dic kvs), .ol ((List.range (j + 1)).map (rowD t m)), .val (.int (j : Int)), .un], st', by simp [bindT], ?_, e, .val (.int (j : Int)), rfl⟩
      have lc := ev_lcM (cf := run (G lf) wf n) (bs := st.length) (σ := [.val (ln m s), .val (.dic kvs), .ol ((List.range j).map (rowD t m)), .val (.int (j : Int)), .un]) (st := st') (own := [4]) (tg := .nm 4) (it := .r2 (.bin .add (.var 3) (.con (.int 1))) (.idx (.var 0) (.con (.int 0)))) (el := .idx (.var 1) (.tup (.cons (.var 3) (.cons (.var 4) .nil)))) (xs := rngL ((j + 1 : Nat) : Int) (m - (j + 1))) (fun x => match x with | .int i => .int (t j i.toNat : Int) | _ => .non)
        (by have := rg2_nat (a := j + 1) (b := m) (by omega) (by omega); push_cast at this; simp [idxS0, this]) (fun x hx => by
          obtain ⟨d, hd, rfl⟩ := List.mem_map.mp hx
          have hd : d < m - (j + 1) := by simpa using hd
          have hg := hk j (j + 1 + d) (by omega) (by omega)
          refine ⟨[.val (ln m s), .val (.dic kvs), .ol ((List.range j).map (rowD t m)), .val (.int (j : Int)), .val (.int ((j + 1 + d : Nat) : Int))], by simp [wipeS, bindT], ?_⟩
          have hi : idxS (.dic kvs) (.tup [.int (j : Int), .int ((j + 1 + d : Nat) : Int)]) st' = .ok (.int (t j (j + 1 + d) : Int)) st' := by
            have hk2 := keyOk_w (j, j + 1 + d)
            unfold wD at hk2 hg
            simp only [idxS, hk2, if_true]
            simp only at hg
            rw [hg]; simp
          show evE _ _ _ _ _ = .ok (.int (t j (((j + 1 : Nat) : Int) + (d : Int)).toNat : Int)) st'
          have et : (((j + 1 : Nat) : Int) + (d : Int)).toNat = j + 1 + d := by omega
          rw [et]
          push_cast at hi
          simp [sz2]
          exact hi) (by rw [rngE_len]; omega)
      have em : (rngL ((j + 1 : Nat) : Int) (m - (j + 1))).map (fun x => match x with | .int i => D.int (t j i.toNat : Int) | _ => .non) = nl (fun d => t j (j + 1 + d)) (m - 1 - j) := by
        rw [show m - 1 - j = m - (j + 1) by omega]
        simp only [rngL, nl, List.map_map]
        refine List.map_congr_left fun d _ => ?_
        simp only [Function.comp]
        rw [show (((j + 1 : Nat) : Int) + (d : Int)).toNat = j + 1 + d by omega]
      rw [em] at lc
      have hsz : szOk (j + 1) = true := szOk_of (by omega)
      simp only [ev_Scons, ev_app, ev_bi, ev_var]
      simp [lc, hsz, List.range_succ, rowD]) ⟨rfl, .un, rfl⟩
  obtain ⟨s', st', k1, e, sx, es⟩ := loop
  subst e es
  rw [rngE_len] at k1
  simp only [f_as_table]
  simp [sz0, k1, tb]
end
end Mn
set_option maxHeartbeats 4000000
namespace Mn
open PySem
section
variable {cf : Nat → Nat → List D → Store → Out D} {bs wf : Nat} {σ : List Sl} {st : Store}
theorem ev_ndc (own : List Nat) (tg : Tg) (it : It) (k v : E) : evR cf bs σ st (.ndc own tg it k v) = (evI cf bs σ st it).bind fun xs st => (dcompL (wipeS σ own) tg (fun σ st => evE cf bs σ st k) (fun σ st => evE cf bs σ st v) xs [] st).bind fun kvs st => .ok (.od kvs) st := by rw [evR]
theorem ev_pop {i j : Nat} {e : E} {ds : List D} {k : Int} {p : Nat} {d : D} (h : σ[j]? = some (.ol ds)) (he : evE cf bs σ st e = .ok (.int k) st) (hp : ixN ds.length k = some p) (hd : ds[p]? = some d) (hs : ds.length ≤ 16777216) : evS cf wf bs σ st (.popT i j e) = .nx ((σ.set j (.ol (ds.eraseIdx p))).set i (.val d)) st := by
  rw [evS]
  simp only [popS, h, he, Out.fl_ok, hp, hd, szOk_of hs, if_true]
theorem ev_setD {i : Nat} {k e : E} {kvs : List (D × D)} {d y : D} (h : σ[i]? = some (.od kvs)) (he : evE cf bs σ st e = .ok d st) (hk : evE cf bs σ st k = .ok y st) (hy : keyOk y = true) (hs : kvs.length + 1 ≤ 16777216) : evS cf wf bs σ st (.setD i k e) = .nx (σ.set i (.od (putD kvs y d))) st := by
  rw [evS]
  simp only [setDS, h, he, hk, Out.fl_ok, hy, szOk_of hs, Bool.and_self, if_true]
theorem ev_odx {i : Nat} {k : E} {kvs : List (D × D)} {y d : D} (h : σ[i]? = some (.od kvs)) (hk : evE cf bs σ st k = .ok y st) (hy : keyOk y = true) (hg : getD kvs y = some d) : evE cf bs σ st (.odx i k) = .ok d st := by
  rw [evE]
  simp only [h, hk, Out.bind_ok, hy, if_true, hg, Out.of_some]
theorem ev_cat {i : Nat} {e : E} {ds xs : List D} (h : σ[i]? = some (.ol ds)) (he : evE cf bs σ st e = .ok (.lst xs) st) (hs : ds.length + xs.length ≤ 16777216) : evR cf bs σ st (.cat i e) = .ok (.ol (ds ++ xs)) st := by
  rw [evR]
  simp only [h, he, Out.bind_ok, szOk_of hs, if_true]
end
theorem dcomp_zero {σ : List Sl} {st : Store} {cf : Nat → Nat → List D → Store → Out D} {bs : Nat} (hσ : 8 < σ.length) : ∀ (ws : List (Nat × Nat)) (acc : List (D × D)), acc.length + ws.length ≤ 1000 → ∃ kvs, dcompL σ (.nm 8) (fun σ st => evE cf bs σ st (.var 8)) (fun σ st => evE cf bs σ st (.con (.int 0))) (ws.map wD) acc st = .ok kvs st ∧ kvs.length ≤ acc.length + ws.length ∧
    ∀ w, (w ∈ ws ∨ getD acc (wD w) = some (.int 0)) → getD kvs (wD w) = some (.int 0)
  | [], acc, _ => ⟨acc, by simp [dcompL], by simp, fun w h => h.elim (fun z => (nomatch z)) id⟩
  | w :: ws, acc, hl => by
    have hp := put_len acc (wD w) (.int 0)
    have hpl : (putD acc (wD w) (.int 0)).length ≤ acc.length + 1 := by rw [hp]; split <;> omega
    obtain ⟨kvs, h1, h2, h3⟩ := dcomp_zero (cf := cf) (bs := bs) (st := st) hσ ws (putD acc (wD w) (.int 0)) (by simp at hl; omega)
    refine ⟨kvs, ?_, by simp; omega, fun v hv => ?_⟩
    · have hz : szOk (acc.length + 1) = true := szOk_of (by simp at hl; omega)
      simp only [List.map_cons, dcompL, bindT]
      simp [hσ, keyOk_w, hz]
      simpa using h1
    · refine h3 v ?_
      rw [getD_put]
      by_cases e : v = w
      · right; rw [e, if_pos rfl]
      · rcases hv with hv | hv
        · rcases List.mem_cons.mp hv with z | z
          · exact absurd z e
          · exact .inl z
        · right; rw [if_neg (fun z => e (wD_inj z))]; exact hv
theorem sumN_succ (f : Nat → Nat) (k : Nat) : sumN f (k + 1) = sumN f k + f k := by simp [sumN, List.range_succ]
theorem sumN_up (f : Nat → Nat) (a : Nat) : ∀ k, sumN (fun d => f d + if d = a then 1 else 0) k = sumN f k + if a < k then 1 else 0
  | 0 => by simp [sumN]
  | k + 1 => by
    rw [sumN_succ, sumN_succ, sumN_up f a k]
    by_cases h : k = a
    · subst h; simp; omega
    · by_cases h2 : a < k
      · simp [h, h2, show a < k + 1 by omega]; omega
      · simp [h, h2, show ¬ a < k + 1 by omega]
theorem sumN_congr {f g : Nat → Nat} {k : Nat} (h : ∀ d < k, f d = g d) : sumN f k = sumN g k := by
  unfold sumN
  congr 1
  exact List.map_congr_left fun d hd => h d (by simpa using hd)
theorem sumN_zero {f : Nat → Nat} {k : Nat} (h : ∀ d < k, f d = 0) : sumN f k = 0 := by
  induction k with
  | zero => rfl
  | succ k ih => rw [sumN_succ, ih fun d hd => h d (by omega), h k (by omega)]
theorem count_erase : ∀ (l : List Nat) (p i : Nat) (x : Nat), l[p]? = some x → (l.eraseIdx p).count i + (if i = x then 1 else 0) = l.count i
  | [], p, i, x, h => by simp at h
  | y :: l, 0, i, x, h => by
    simp at h; subst h
    simp only [List.eraseIdx_cons_zero, List.count_cons]
    by_cases e : i = y
    · simp [e]
    · simp [e, show ¬ y = i from fun z => e z.symm]
  | y :: l, p + 1, i, x, h => by
    have := count_erase l p i x (by simpa using h)
    simp only [List.eraseIdx_cons_succ, List.count_cons]
    omega
/-- what stands behind q offs at stop j -/
structure Led (m : Nat) (on off : Nat → Nat) (j q : Nat) (row : List Nat) (t : Nat → Nat → Nat) : Prop where
  rows : ∀ i, i < j → row.count i + sumN (fun d => t i (i + 1 + d)) (m - 1 - i) = on i
  cols : ∀ k, k < j → sumN (fun i => t i k) k = off k
  here : sumN (fun i => t i j) j = q
  zero : ∀ i k, j < k → t i k = 0
  mem : ∀ x ∈ row, x < j
theorem Led.pop {m : Nat} {on off : Nat → Nat} {j q : Nat} {row : List Nat} {t : Nat → Nat → Nat} (D0 : Led m on off j q row t) (hj : j < m) {p x : Nat} (h : row[p]? = some x) : Led m on off j (q + 1) (row.eraseIdx p) (fun i k => t i k + if i = x ∧ k = j then 1 else 0) := by
  have hx : x < j := D0.mem x (List.mem_of_getElem? h)
  refine ⟨fun i hi => ?_, fun k hk => ?_, ?_, fun i k hk => ?_, fun y hy => D0.mem y (List.mem_of_mem_eraseIdx hy)⟩
  · have c := count_erase row p i x h
    have r := D0.rows i hi
    by_cases e : i = x
    · subst e
      have : sumN (fun d => t i (i + 1 + d) + if i = i ∧ i + 1 + d = j then 1 else 0) (m - 1 - i) = sumN (fun d => t i (i + 1 + d) + if d = j - i - 1 then 1 else 0) (m - 1 - i) := sumN_congr fun d hd => by
        congr 1
        by_cases z : d = j - i - 1
        · rw [if_pos z, if_pos ⟨rfl, by omega⟩]
        · rw [if_neg z, if_neg (by omega)]
      rw [this, sumN_up, if_pos (show j - i - 1 < m - 1 - i by omega)]
      simp at c
      omega
    · have : sumN (fun d => t i (i + 1 + d) + if i = x ∧ i + 1 + d = j then 1 else 0) (m - 1 - i) = sumN (fun d => t i (i + 1 + d)) (m - 1 - i) := sumN_congr fun d hd => by simp [e]
      rw [this]
      simp [e] at c
      omega
  · rw [← D0.cols k hk]
    exact sumN_congr fun d hd => by simp [show ¬ k = j by omega]
  · have : sumN (fun i => t i j + if i = x ∧ j = j then 1 else 0) j = sumN (fun i => t i j + if i = x then 1 else 0) j := sumN_congr fun d hd => by simp
    rw [this, sumN_up, if_pos hx, D0.here]
  · simp [D0.zero i k hk, show ¬ k = j by omega]
theorem Led.next {m : Nat} {on off : Nat → Nat} {j : Nat} {row : List Nat} {t : Nat → Nat → Nat} (D0 : Led m on off j (off j) row t) (hj : j < m) : Led m on off (j + 1) 0 (row ++ List.replicate (on j) j) t := by
  refine ⟨fun i hi => ?_, fun k hk => ?_, ?_, fun i k hk => D0.zero i k (by omega), fun x hx => ?_⟩
  · rw [List.count_append, List.count_replicate]
    by_cases e : i = j
    · subst e
      have h0 : row.count i = 0 := by
        rw [List.count_eq_zero]
        intro z; have := D0.mem i z; omega
      rw [h0, sumN_zero fun d hd => D0.zero i (i + 1 + d) (by omega)]
      simp
    · have := D0.rows i (by omega)
      simp [show ¬ j = i from fun z => e z.symm]
      exact this
  · by_cases e : k = j
    · subst e; exact D0.here
    · exact D0.cols k (by omega)
  · exact sumN_zero fun d hd => D0.zero d (j + 1) (by omega)
  · rcases List.mem_append.mp hx with z | z
    · have := D0.mem x z; omega
    · have := (List.mem_replicate.mp z).2; omega
end Mn
set_option maxHeartbeats 4000000
namespace Mn
open PySem
theorem erase_map {α β : Type} (f : α → β) : ∀ (l : List α) (p : Nat), (l.map f).eraseIdx p = (l.eraseIdx p).map f
  | [], p => by simp
  | x :: l, 0 => by simp
  | x :: l, p + 1 => by simp [erase_map f l p]
def iD (row : List Nat) : List D := row.map fun (i : Nat) => D.int (i : Int)
section
variable {lf : Fn} {wf bs n : Nat} {st : Store} {m s : Nat} {on off L : Nat → Nat}
theorem mem_waysT {m i j : Nat} (h1 : i < j) (h2 : j < m) : (i, j) ∈ waysT m m := by
  unfold waysT
  refine List.mem_flatMap.mpr ⟨i, by simp; omega, List.mem_map.mpr ⟨j - i - 1, by simp; omega, ?_⟩⟩
  rw [show i + 1 + (j - i - 1) = j by omega]
theorem run_led_off (T : Tal m s on off L) (b : Bool) : ∃ t, Tab m on off t ∧ run (G lf) wf (n + 2) bs 15 [ln m s, tl on off m, .bl b] st = .ok (tb t m) st := by
  have m2 := T.m2
  have m6 := T.m6
  have s9 := T.s9
  have haw := @run_all_ways lf wf st.length n st m s m6
  have hl := waysT_len m m
  have l3 : m * m ≤ 36 := Nat.le_trans (Nat.mul_le_mul m6 m6) (by omega)
  obtain ⟨kvs0, z1, z2, z3⟩ := dcomp_zero (σ := [.val (ln m s), .val (tl on off m), .val (.bl b), .un, .un, .un, .un, .un, .un]) (st := st) (cf := run (G lf) wf (n + 1)) (bs := st.length) (by simp) (waysT m m) [] (by simp; omega)
  have loop := ev_forI (cf := run (G lf) wf (n + 1)) (wf := wf) (bs := st.length) (σ := [.val (ln m s), .val (tl on off m), .val (.bl b), .un, .od kvs0, .ol [], .un, .un, .un]) (st := st) (tg := .nm 3) (it := .r1 (.idx (.var 0) (.con (.int 0))))
    (b := [.for_ (.nm 6) (.r1 (.idx (.idx (.var 1) (.con (.int 1))) (.var 3))) [.popT 7 5 (.ite (.var 2) (.neg (.con (.int 1))) (.con (.int 0))), .setD 4 (.tup (.cons (.var 7) (.cons (.var 3) .nil))) (.bin .add (.odx 4 (.tup (.cons (.var 7) (.cons (.var 3) .nil)))) (.con (.int 1)))], .asg 5 (.cat 5 (.bin .mul (.lst (.cons (.var 3) .nil)) (.idx (.idx (.var 1) (.con (.int 0))) (.var 3))))]) (xs := rngL 0 m)
    (fun j σ st' => st' = st ∧ ∃ (t : Nat → Nat → Nat) (row : List Nat) (kvs : List (D × D)) (s3 s6 s7 s8 : Sl), σ = [.val (ln m s), .val (tl on off m), .val (.bl b), s3, .od kvs, .ol (iD row), s6, s7, s8] ∧ (∀ i k, i < k → k < m → getD kvs (wD (i, k)) = some (.int (t i k : Int))) ∧ kvs.length ≤ 36 ∧ row.length = (if j = 0 then 0 else L (j - 1)) ∧ Led m on off j 0 row t)
    (by simp [idxS0, rg1_nat (show m ≤ 1000 by omega)]) (fun j x σ st' hx ⟨e, t, row, kvs, t3, t6, t7, t8, es, hk, hkl, hr, D0⟩ => by
      subst es
      obtain ⟨hj, rfl⟩ := rngE_get hx
      simp only [Int.zero_add]
      have hoff : off j ≤ row.length := by
        rw [hr]
        cases j with
        | zero => simp [T.off0]
        | succ k => have := T.le k hj; simpa using this
      have hoff9 := T.off9 hj
      have hrl : row.length ≤ 9 := by
        rw [hr]
        cases j with
        | zero => simp
        | succ k => have := T.cap k (by omega); simp; omega
      have inner := ev_forI (cf := run (G lf) wf (n + 1)) (wf := wf) (bs := st.length) (σ := [.val (ln m s), .val (tl on off m), .val (.bl b), .val (.int (j : Int)), .od kvs, .ol (iD row), t6, t7, t8]) (st := st') (tg := .nm 6) (it := .r1 (.idx (.idx (.var 1) (.con (.int 1))) (.var 3)))
        (b := [.popT 7 5 (.ite (.var 2) (.neg (.con (.int 1))) (.con (.int 0))), .setD 4 (.tup (.cons (.var 7) (.cons (.var 3) .nil))) (.bin .add (.odx 4 (.tup (.cons (.var 7) (.cons (.var 3) .nil)))) (.con (.int 1)))]) (xs := rngL 0 (off j))
        (fun q σ st2 => st2 = st' ∧ ∃ (t : Nat → Nat → Nat) (row2 : List Nat) (kvs : List (D × D)) (s6 s7 : Sl), σ = [.val (ln m s), .val (tl on off m), .val (.bl b), .val (.int (j : Int)), .od kvs, .ol (iD row2), s6, s7, t8] ∧ (∀ i k, i < k → k < m → getD kvs (wD (i, k)) = some (.int (t i k : Int))) ∧ kvs.length ≤ 36 ∧ row2.length + q = row.length ∧ Led m on off j q row2 t)
        (by simp [idxS1, idxS_nl hj, rg1_nat (show off j ≤ 1000 by omega)]) (fun q y σ st2 hy ⟨e2, t, row2, kvs, u6, u7, es2, hk, hkl, hq, D1⟩ => by
          subst es2 e2
          obtain ⟨hqo, rfl⟩ := rngE_get hy
          simp only [Int.zero_add]
          have hpos : 0 < row2.length := by omega
          obtain ⟨p, k, x, hp, hpk, hx⟩ : ∃ (p : Nat) (k : Int) (x : Nat), ixN (iD row2).length k = some p ∧ k = (if b then -1 else 0) ∧ row2[p]? = some x := by
            cases b with
            | true => exact ⟨row2.length - 1, -1, row2[row2.length - 1], by rw [iD, List.length_map]; exact ixN_last hpos, rfl, by simp [show row2.length - 1 < row2.length by omega]⟩
            | false => exact ⟨0, 0, row2[0], by rw [iD, List.length_map]; exact ixN_zero hpos, rfl, by simp [hpos]⟩
          have hxj : x < j := D1.mem x (List.mem_of_getElem? hx)
          have D2 := D1.pop hj hx
          have hg := hk x j hxj hj
          have pop := ev_pop (cf := run (G lf) wf (n + 1)) (wf := wf) (bs := st.length) (st := st2) (σ := [.val (ln m s), .val (tl on off m), .val (.bl b), .val (.int (j : Int)), .od kvs, .ol (iD row2), .val (.int (q : Int)), u7, t8]) (i := 7) (j := 5) (e := .ite (.var 2) (.neg (.con (.int 1))) (.con (.int 0))) (ds := iD row2) (k := k) (p := p) (d := .int (x : Int)) rfl (by cases b <;> simp [hpk]) hp (by simp [iD, hx]) (by rw [iD, List.length_map]; omega)
          have ie : (iD row2).eraseIdx p = iD (row2.eraseIdx p) := by unfold iD; exact erase_map _ _ _
          rw [ie] at pop
          have key : ∀ σ' : List Sl, σ'[7]? = some (.val (.int (x : Int))) → σ'[3]? = some (.val (.int (j : Int))) → evE (run (G lf) wf (n + 1)) st.length σ' st2 (.tup (.cons (.var 7) (.cons (.var 3) .nil))) = .ok (wD (x, j)) st2 := fun σ' a1 a2 => by
            simp [a1, a2, sz2, wD]
          have od := ev_odx (cf := run (G lf) wf (n + 1)) (bs := st.length) (st := st2) (σ := [.val (ln m s), .val (tl on off m), .val (.bl b), .val (.int (j : Int)), .od kvs, .ol (iD (row2.eraseIdx p)), .val (.int (q : Int)), .val (.int (x : Int)), t8]) (i := 4) (k := .tup (.cons (.var 7) (.cons (.var 3) .nil))) rfl (key _ rfl rfl) (keyOk_w _) hg
          have sd := ev_setD (cf := run (G lf) wf (n + 1)) (wf := wf) (bs := st.length) (st := st2) (σ := [.val (ln m s), .val (tl on off m), .val (.bl b), .val (.int (j : Int)), .od kvs, .ol (iD (row2.eraseIdx p)), .val (.int (q : Int)), .val (.int (x : Int)), t8]) (i := 4) (k := .tup (.cons (.var 7) (.cons (.var 3) .nil))) (e := .bin .add (.odx 4 (.tup (.cons (.var 7) (.cons (.var 3) .nil)))) (.con (.int 1))) (d := .int ((t x j + 1 : Nat) : Int)) rfl (by simp [od]) (key _ rfl rfl) (keyOk_w _) (by omega)
          refine ⟨[.val (ln m s), .val (tl on off m), .val (.bl b), .val (.int (j : Int)), .od kvs, .ol (iD row2), .val (.int (q : Int)), u7, t8], [.val (ln m s), .val (tl on off m), .val (.bl b), .val (.int (j : Int)), .od (putD kvs (wD (x, j)) (.int ((t x j + 1 : Nat) : Int))), .ol (iD (row2.eraseIdx p)), .val (.int (q : Int)), .val (.int (x : Int)), t8], st2, by simp [bindT], ?_, rfl, (fun i k => t i k + if i = x ∧ k = j then 1 else 0), row2.eraseIdx p, putD kvs (wD (x, j)) (.int ((t x j + 1 : Nat) : Int)), _, _, rfl, fun i k h1 h2 => ?_, ?_, ?_, D2⟩
          · rw [ev_Scons, pop]
            simp only [Fl.seq_nx, ev_Scons, ev_Snil]
            simp only [List.set_cons_succ, List.set_cons_zero]
            rw [sd]
            simp
          · rw [getD_put]
            by_cases e : (i, k) = (x, j)
            · simp at e
              rw [e.1, e.2]; simp
            · rw [if_neg (fun z => e (wD_inj z)), hk i k h1 h2]
              simp at e
              have : ¬ (i = x ∧ k = j) := fun z => e z.1 z.2
              simp [this]
          · rw [put_len, hg]; simpa using hkl
          · rw [List.length_eraseIdx_of_lt (List.getElem?_eq_some_iff.mp hx).1]; omega) ⟨rfl, t, row, kvs, _, _, rfl, hk, hkl, by simp, D0⟩
      obtain ⟨s2, st2, k2, e2, t2, row2, kvs2, u6, u7, es2, hk2, hkl2, hq, D1⟩ := inner
      subst e2 es2
      rw [rngE_len] at hq D1
      have on9 := T.on9 hj
      have mu := @mul_lst1 (.int (j : Int)) (on j) (by omega)
      have ct := ev_cat (cf := run (G lf) wf (n + 1)) (bs := st.length) (st := st2) (σ := [.val (ln m s), .val (tl on off m), .val (.bl b), .val (.int (j : Int)), .od kvs2, .ol (iD row2), u6, u7, t8]) (i := 5) (e := .bin .mul (.lst (.cons (.var 3) .nil)) (.idx (.idx (.var 1) (.con (.int 0))) (.var 3))) (ds := iD row2) (xs := List.replicate (on j) (.int (j : Int))) rfl (by simp [sz1, idxS0, idxS_nl hj, mu]) (by simp [iD]; omega)
      have ic : iD row2 ++ List.replicate (on j) (.int (j : Int)) = iD (row2 ++ List.replicate (on j) j) := by simp [iD]
      rw [ic] at ct
      refine ⟨[.val (ln m s), .val (tl on off m), .val (.bl b), .val (.int (j : Int)), .od kvs, .ol (iD row), t6, t7, t8], [.val (ln m s), .val (tl on off m), .val (.bl b), .val (.int (j : Int)), .od kvs2, .ol (iD (row2 ++ List.replicate (on j) j)), u6, u7, t8], st2, by simp [bindT], ?_, e, t2, row2 ++ List.replicate (on j) j, kvs2, _, _, _, _, rfl, hk2, hkl2, ?_, D1.next hj⟩
      · rw [ev_Scons, k2]
        simp only [Fl.seq_nx, ev_Scons, ev_asg, ct]
        simp
      · rw [List.length_append, List.length_replicate]
        cases j with
        | zero => have h1 := T.off0; have h2 := T.l0; rw [if_pos rfl] at hr; rw [if_neg (by omega)]; show _ = L 0; omega
        | succ k => have := T.step k hj; rw [if_neg (by omega)] at hr; rw [if_neg (by omega)]; show _ = L (k + 1); have e9 : L (k + 1 - 1) = L k := rfl; omega) ⟨rfl, fun _ _ => 0, [], kvs0, .un, .un, .un, .un, rfl, fun i k h1 h2 => by simpa using z3 (i, k) (.inl (mem_waysT h1 h2)), by simp at z2; omega, rfl, ⟨fun i h => by omega, fun k h => by omega, sumN_zero fun _ _ => rfl, fun _ _ _ => rfl, fun x h => (nomatch h)⟩⟩
  obtain ⟨s', st', k1, e, t, row, kvs, t3, t6, t7, t8, es, hk, hkl, hr, D0⟩ := loop
  subst e es
  rw [rngE_len] at hr D0
  have hrow : row = [] := by
    rw [if_neg (by omega), T.lend] at hr
    exact List.length_eq_zero_iff.mp hr
  subst hrow
  refine ⟨t, ⟨fun i hi => by have := D0.rows i (by omega); simpa using this, D0.cols⟩, run_pure rfl rfl rfl ?_ (rb_tb _ _ _) rfl⟩
  have at_ := @run_as_table lf wf st'.length n st' m s m2 m6 t kvs hk
  have ndc : evR (run (G lf) wf (n + 1)) st'.length [.val (ln m s), .val (tl on off m), .val (.bl b), .un, .un, .un, .un, .un, .un] st' (.ndc [8] (.nm 8) (.ov (.call 10 (.cons (.var 0) .nil))) (.var 8) (.con (.int 0))) = .ok (.od kvs0) st' := by
    have hi : evI (run (G lf) wf (n + 1)) st'.length [.val (ln m s), .val (tl on off m), .val (.bl b), .un, .un, .un, .un, .un, .un] st' (.ov (.call 10 (.cons (.var 0) .nil))) = .ok ((waysT m m).map wD) st' := by simp [haw]
    have hw : wipeS [.val (ln m s), .val (tl on off m), .val (.bl b), .un, .un, .un, .un, .un, .un] [8] = [.val (ln m s), .val (tl on off m), .val (.bl b), .un, .un, .un, .un, .un, .un] := rfl
    rw [ev_ndc, hi, Out.bind_ok, hw, z1, Out.bind_ok]
  simp only [f_led_off]
  simp [ndc, sz0, setSl, k1, at_]
theorem run_first_off (T : Tal m s on off L) : ∃ t, Tab m on off t ∧ run (G lf) wf (n + 5) bs 16 [ln m s, tl on off m] st = .ok (tb t m) st := by
  obtain ⟨t, B, e⟩ := @run_led_off lf wf st.length (n + 2) st m s on off L T false
  refine ⟨t, B, run_pure rfl rfl rfl ?_ (rb_tb _ _ _) rfl⟩
  simp only [f_first_off]
  simp [run_need_tally T, e]
theorem run_last_off (T : Tal m s on off L) : ∃ t, Tab m on off t ∧ run (G lf) wf (n + 5) bs 71 [ln m s, tl on off m] st = .ok (tb t m) st := by
  obtain ⟨t, B, e⟩ := @run_led_off lf wf st.length (n + 2) st m s on off L T true
  refine ⟨t, B, run_pure rfl rfl rfl ?_ (rb_tb _ _ _) rfl⟩
  simp only [f_last_off]
  simp [run_need_tally T, e]
end
end Mn
set_option maxHeartbeats 4000000
namespace Mn
/-! ## the plain law: riders -/
abbrev Ri := List (Nat × Nat)
def sR (f : Nat × Nat → Nat) (R : Ri) : Nat := (R.map f).sum
@[simp] theorem sR_nil (f : Nat × Nat → Nat) : sR f [] = 0 := rfl
@[simp] theorem sR_cons (f : Nat × Nat → Nat) (w : Nat × Nat) (R : Ri) : sR f (w :: R) = f w + sR f R := by simp [sR]
theorem sR_app (f : Nat × Nat → Nat) (R S : Ri) : sR f (R ++ S) = sR f R + sR f S := by simp [sR]
theorem sR_congr {f g : Nat × Nat → Nat} {R : Ri} (h : ∀ w ∈ R, f w = g w) : sR f R = sR g R := by
  unfold sR
  congr 1
  exact List.map_congr_left h
theorem sR_add (f g : Nat × Nat → Nat) (R : Ri) : sR (fun w => f w + g w) R = sR f R + sR g R := by
  induction R with
  | nil => rfl
  | cons w R ih => simp [ih]; omega
def bit (b : Bool) : Nat := if b then 1 else 0
def onR (R : Ri) (k : Nat) : Nat := sR (fun v => bit (decide (v.1 = k))) R
def offR (R : Ri) (k : Nat) : Nat := sR (fun v => bit (decide (v.2 = k))) R
def heR (R : Ri) (k : Nat) : Nat := sR (fun v => bit (decide (v.1 < k) && decide (k < v.2))) R
def loR (R : Ri) (k : Nat) : Nat := sR (fun v => bit (decide (v.1 ≤ k) && decide (k < v.2))) R
def tog : Ri → Nat
  | [] => 0
  | w :: R => sR (fun v => bit (share w v)) R + tog R
theorem sumN_add (f g : Nat → Nat) : ∀ m, sumN (fun k => f k + g k) m = sumN f m + sumN g m
  | 0 => rfl
  | m + 1 => by rw [sumN_succ, sumN_succ, sumN_succ, sumN_add f g m]; omega
theorem sumN_one (f : Nat → Nat) (c : Nat) : ∀ m, sumN (fun k => if k = c then f k else 0) m = if c < m then f c else 0
  | 0 => by simp [sumN]
  | m + 1 => by
    rw [sumN_succ, sumN_one f c m]
    by_cases h : m = c
    · subst h; simp
    · by_cases h2 : c < m
      · simp [h, h2, show c < m + 1 by omega]
      · simp [h, h2, show ¬ c < m + 1 by omega]
theorem c2_succ (k : Nat) : c2 (k + 1) = c2 k + k := by
  unfold c2
  cases k with
  | zero => rfl
  | succ k =>
    have : (k + 1 + 1) * (k + 1 + 1 - 1) = (k + 1) * (k + 1 - 1) + 2 * (k + 1) := by
      simp only [Nat.add_sub_cancel]
      rw [show k + 1 + 1 = k + 2 by rfl, Nat.mul_comm (k + 2) (k + 1), Nat.mul_add, Nat.mul_comm 2 (k + 1)]
    rw [this, Nat.add_mul_div_left _ _ (by omega)]
/-- what one more rider adds at stop k -/
def addK (R : Ri) (w : Nat × Nat) (k : Nat) : Nat := (if k = w.1 then heR R k + onR R k else 0) + (if w.1 < k ∧ k < w.2 then onR R k else 0)
def fml (R : Ri) (k : Nat) : Nat := heR R k * onR R k + c2 (onR R k)
theorem fml_cons (R : Ri) (w : Nat × Nat) (k : Nat) : fml (w :: R) k = fml R k + addK R w k := by
  unfold fml addK
  have e1 : onR (w :: R) k = bit (decide (w.1 = k)) + onR R k := by simp [onR]
  have e2 : heR (w :: R) k = bit (decide (w.1 < k) && decide (k < w.2)) + heR R k := by simp [heR]
  rw [e1, e2]
  by_cases h1 : k = w.1
  · subst h1
    simp [bit]
    rw [Nat.add_comm 1, c2_succ, Nat.mul_add]
    omega
  · by_cases h2 : w.1 < k ∧ k < w.2
    · simp [bit, h1, h2, show ¬ w.1 = k from fun z => h1 z.symm]
      rw [Nat.add_comm 1, Nat.add_mul]
      omega
    · have h3 : (decide (w.1 < k) && decide (k < w.2)) = false := by
        rw [Bool.eq_false_iff]
        simpa using h2
      simp [bit, h1, h2, h3, show ¬ w.1 = k from fun z => h1 z.symm]
theorem addK_cons (R : Ri) (w v : Nat × Nat) (k : Nat) : addK (v :: R) w k = addK R w k + ((if k = w.1 then bit (decide (v.1 < k) && decide (k < v.2)) + bit (decide (v.1 = k)) else 0) + (if k = v.1 then bit (decide (w.1 < k) && decide (k < w.2)) else 0)) := by
  unfold addK
  have e1 : onR (v :: R) k = bit (decide (v.1 = k)) + onR R k := by simp [onR]
  have e2 : heR (v :: R) k = bit (decide (v.1 < k) && decide (k < v.2)) + heR R k := by simp [heR]
  rw [e1, e2]
  by_cases h1 : k = w.1
  · subst h1; simp [bit]; omega
  · by_cases h2 : w.1 < k ∧ k < w.2
    · by_cases h3 : k = v.1
      · subst h3; simp [bit, h1, h2]; omega
      · simp [bit, h1, h2, h3, show ¬ v.1 = k from fun z => h3 z.symm]
    · have h4 : (decide (w.1 < k) && decide (k < w.2)) = false := by
        rw [Bool.eq_false_iff]
        simpa using h2
      simp [bit, h1, h2, h4]
theorem add_sum (m : Nat) (w : Nat × Nat) (hw : w.1 < w.2 ∧ w.2 < m) : ∀ R : Ri, (∀ v ∈ R, v.1 < v.2 ∧ v.2 < m) → sumN (addK R w) m = sR (fun v => bit (share w v)) R
  | [], _ => by
    rw [sR_nil]
    exact sumN_zero fun d _ => by simp [addK, heR, onR]
  | v :: R, h => by
    have ih := add_sum m w hw R fun u hu => h u (List.mem_cons_of_mem _ hu)
    have hv := h v List.mem_cons_self
    rw [sumN_congr (fun k _ => addK_cons R w v k), sumN_add, sumN_add, ih, sR_cons, sumN_one (fun k => bit (decide (v.1 < k) && decide (k < v.2)) + bit (decide (v.1 = k))), sumN_one (fun k => bit (decide (w.1 < k) && decide (k < w.2))), if_pos (show w.1 < m by omega), if_pos (show v.1 < m by omega)]
    have key : bit (decide (v.1 < w.1) && decide (w.1 < v.2)) + bit (decide (v.1 = w.1)) + bit (decide (w.1 < v.1) && decide (v.1 < w.2)) = bit (share w v) := by
      unfold bit share
      by_cases a : v.1 < w.1
      · by_cases b : w.1 < v.2
        · simp [a, b, show ¬ v.1 = w.1 by omega, show ¬ w.1 < v.1 by omega]; omega
        · simp [a, b, show ¬ v.1 = w.1 by omega, show ¬ w.1 < v.1 by omega]; omega
      · by_cases b : v.1 = w.1
        · simp [b]; omega
        · by_cases c : v.1 < w.2
          · simp [a, b, c, show w.1 < v.1 by omega]; omega
          · simp [a, b, c]; omega
    omega
/-- B1 -/
theorem tog_fml (m : Nat) : ∀ R : Ri, (∀ v ∈ R, v.1 < v.2 ∧ v.2 < m) → tog R = sumN (fml R) m
  | [], _ => by
    rw [tog]
    exact (sumN_zero fun d _ => by simp [fml, heR, onR, c2]).symm
  | w :: R, h => by
    rw [tog, tog_fml m R fun u hu => h u (List.mem_cons_of_mem _ hu), sumN_congr (fun k _ => fml_cons R w k), sumN_add, add_sum m w (h w List.mem_cons_self) R fun u hu => h u (List.mem_cons_of_mem _ hu)]
    omega
end Mn
set_option maxHeartbeats 4000000
namespace Mn
theorem sR_rep (f : Nat × Nat → Nat) (w : Nat × Nat) : ∀ c, sR f (List.replicate c w) = c * f w
  | 0 => by simp
  | c + 1 => by rw [List.replicate_succ, sR_cons, sR_rep f w c, Nat.succ_mul]; omega
theorem riders_cons (t : Nat × Nat → Nat) (w : Nat × Nat) (ws : Ri) : ridersT t (w :: ws) = List.replicate (t w) w ++ ridersT t ws := by simp [ridersT]
theorem sR_riders (f t : Nat × Nat → Nat) : ∀ ws : Ri, sR f (ridersT t ws) = sR (fun w => t w * f w) ws
  | [] => rfl
  | w :: ws => by rw [riders_cons, sR_app, sR_rep, sR_riders f t ws, sR_cons]
theorem tog_rep (w : Nat × Nat) (hw : w.1 < w.2) (R : Ri) : ∀ c, tog (List.replicate c w ++ R) = c2 c + c * sR (fun v => bit (share w v)) R + tog R
  | 0 => by simp [c2]
  | c + 1 => by
    have hs : share w w = true := by unfold share; simp; exact hw
    rw [List.replicate_succ, List.cons_append, tog, sR_app, sR_rep, tog_rep w hw R c, c2_succ, hs, Nat.succ_mul]
    simp [bit]
    omega
/-- B2 -/
theorem pOf_tog (t : Nat × Nat → Nat) : ∀ ws : Ri, (∀ w ∈ ws, w.1 < w.2) → pOf t ws = tog (ridersT t ws)
  | [], _ => rfl
  | w :: ws, h => by
    rw [pOf, riders_cons, tog_rep w (h w List.mem_cons_self), pOf_tog t ws fun v hv => h v (List.mem_cons_of_mem _ hv), sR_riders]
    have : (ws.map fun v => if share w v then t w * t v else 0).sum = t w * sR (fun v => t v * bit (share w v)) ws := by
      clear h
      induction ws with
      | nil => rfl
      | cons v vs ih =>
        rw [List.map_cons, List.sum_cons, ih, sR_cons, Nat.mul_add]
        cases hs : share w v <;> simp [bit]
    rw [this]
theorem lo_zero (R : Ri) (h : ∀ v ∈ R, v.1 < v.2) : loR R 0 = onR R 0 := sR_congr fun v hv => by
  have := h v hv
  unfold bit
  by_cases e : v.1 = 0
  · simp [e]; omega
  · simp [e]
theorem lo_step (R : Ri) (h : ∀ v ∈ R, v.1 < v.2) (k : Nat) : loR R (k + 1) + offR R (k + 1) = loR R k + onR R (k + 1) := by
  unfold loR offR onR
  rw [← sR_add, ← sR_add]
  refine sR_congr fun v hv => ?_
  have := h v hv
  unfold bit
  by_cases a : v.1 ≤ k
  · by_cases b : k + 1 < v.2
    · simp [a, b, show v.1 ≤ k + 1 by omega, show ¬ v.2 = k + 1 by omega, show k < v.2 by omega, show ¬ v.1 = k + 1 by omega]
    · by_cases c : v.2 = k + 1
      · simp [a, c, show ¬ v.1 = k + 1 by omega]
      · simp [a, b, c, show ¬ k < v.2 by omega, show ¬ v.1 = k + 1 by omega]
  · by_cases b : v.1 = k + 1
    · simp [b, show k + 1 < v.2 by omega, show ¬ v.2 = k + 1 by omega]; omega
    · simp [a, b, show ¬ v.1 ≤ k + 1 by omega, show ¬ v.2 = k + 1 by omega]
theorem he_step (R : Ri) (h : ∀ v ∈ R, v.1 < v.2) (k : Nat) : heR R (k + 1) + offR R (k + 1) = loR R k := by
  unfold heR offR loR
  rw [← sR_add]
  refine sR_congr fun v hv => ?_
  have := h v hv
  unfold bit
  by_cases a : v.1 ≤ k
  · by_cases b : k + 1 < v.2
    · simp [a, b, show v.1 < k + 1 by omega, show ¬ v.2 = k + 1 by omega, show k < v.2 by omega]
    · by_cases c : v.2 = k + 1
      · simp [a, c]
      · simp [a, b, c, show ¬ k < v.2 by omega]
  · simp [a, show ¬ v.1 < k + 1 by omega, show ¬ v.2 = k + 1 by omega]
theorem he_zero (R : Ri) : heR R 0 = 0 := by
  unfold heR
  rw [sR_congr (g := fun _ => 0) fun v _ => by simp [bit]]
  induction R with
  | nil => rfl
  | cons v R ih => simp [ih]
theorem sumN_swap (f : Nat → Nat × Nat → Nat) (m : Nat) : ∀ R : Ri, sumN (fun k => sR (f k) R) m = sR (fun v => sumN (fun k => f k v) m) R
  | [] => sumN_zero fun _ _ => rfl
  | v :: R => by
    rw [sR_cons, ← sumN_swap f m R, ← sumN_add]
    exact sumN_congr fun k _ => by rw [sR_cons]
theorem sum_ind (a b : Nat) (h : a ≤ b) : ∀ m, b ≤ m → sumN (fun k => bit (decide (a ≤ k) && decide (k < b))) m = b - a := by
  have gen : ∀ m, sumN (fun k => bit (decide (a ≤ k) && decide (k < b))) m = min b m - min a m := by
    intro m
    induction m with
    | zero => simp [sumN]
    | succ m ih =>
      rw [sumN_succ, ih]
      unfold bit
      by_cases h1 : a ≤ m
      · by_cases h2 : m < b
        · simp [h1, h2]; omega
        · simp [h1, h2]; omega
      · simp [h1]; omega
  intro m hm
  rw [gen]; omega
/-- A: all loads together are all miles -/
theorem lo_sum (m : Nat) (R : Ri) (h : ∀ v ∈ R, v.1 < v.2 ∧ v.2 < m) : sumN (loR R) m = sR (fun w => w.2 - w.1) R := by
  unfold loR
  rw [sumN_swap]
  exact sR_congr fun v hv => sum_ind v.1 v.2 (by have := h v hv; omega) m (by have := h v hv; omega)
/-! ### a table's riders -/
section
variable {m s : Nat} {on off L : Nat → Nat} {t : Nat → Nat → Nat}
theorem sR_ways (f : Nat × Nat → Nat) (m : Nat) : ∀ k, sR f (waysT m k) = sumN (fun i => sumN (fun d => f (i, i + 1 + d)) (m - (i + 1))) k
  | 0 => rfl
  | k + 1 => by
    rw [waysT_succ, sR_app, sR_ways f m k, sumN_succ]
    congr 1
    simp [sR, rowW, sumN, List.map_map]
    rfl
theorem on_riders (B : Tab m on off t) {i : Nat} (hi : i < m - 1) : onR (ridersT (fun w => t w.1 w.2) (waysT m m)) i = on i := by
  unfold onR
  rw [sR_riders, sR_ways, ← B.row i hi]
  have : ∀ a, sumN (fun d => t (a, a + 1 + d).1 (a, a + 1 + d).2 * bit (decide ((a, a + 1 + d).1 = i))) (m - (a + 1)) = if a = i then sumN (fun d => t i (i + 1 + d)) (m - 1 - i) else 0 := fun a => by
    by_cases e : a = i
    · subst e
      rw [if_pos rfl, show m - 1 - a = m - (a + 1) by omega]
      exact sumN_congr fun d _ => by simp [bit]
    · rw [if_neg e]
      exact sumN_zero fun d _ => by simp [bit, e]
  rw [sumN_congr (fun a _ => this a), sumN_one (fun _ => sumN (fun d => t i (i + 1 + d)) (m - 1 - i)), if_pos (by omega)]
theorem off_riders (B : Tab m on off t) {j : Nat} (hj : j < m) : offR (ridersT (fun w => t w.1 w.2) (waysT m m)) j = off j := by
  unfold offR
  rw [sR_riders, sR_ways, ← B.col j hj]
  have : ∀ a, a < m → sumN (fun d => t (a, a + 1 + d).1 (a, a + 1 + d).2 * bit (decide ((a, a + 1 + d).2 = j))) (m - (a + 1)) = if a < j then t a j else 0 := fun a ha => by
    have e : sumN (fun d => t (a, a + 1 + d).1 (a, a + 1 + d).2 * bit (decide ((a, a + 1 + d).2 = j))) (m - (a + 1)) = sumN (fun d => if d = j - a - 1 then (if a < j then t a (a + 1 + d) else 0) else 0) (m - (a + 1)) := sumN_congr fun d _ => by
      by_cases z : a < j
      · by_cases y : a + 1 + d = j
        · have hd : d = j - a - 1 := by omega
          rw [if_pos hd, if_pos z]
          simp [bit, y]
        · simp [bit, y, show ¬ d = j - a - 1 by omega]
      · simp [bit, z, show ¬ a + 1 + d = j by omega]
    rw [e, sumN_one (fun d => if a < j then t a (a + 1 + d) else 0)]
    by_cases z : a < j
    · rw [if_pos (by omega), if_pos z, if_pos z, show a + 1 + (j - a - 1) = j by omega]
    · rw [if_neg z]; split <;> rfl
  rw [sumN_congr this]
  have cut : ∀ k, j ≤ k → sumN (fun a => if a < j then t a j else 0) k = sumN (fun i => t i j) j := by
    intro k hk
    induction k with
    | zero => have : j = 0 := by omega
              subst this; rfl
    | succ k ih =>
      by_cases e : j = k + 1
      · subst e; exact sumN_congr fun d hd => by simp [hd]
      · rw [sumN_succ, ih (by omega), if_neg (by omega)]; rfl
  exact cut m (by omega)
theorem riders_ok (m : Nat) (f : Nat × Nat → Nat) : ∀ v ∈ ridersT f (waysT m m), v.1 < v.2 ∧ v.2 < m := fun v hv => by
  obtain ⟨w, hw, h⟩ := List.mem_flatMap.mp hv
  have := (List.mem_replicate.mp h).2
  subst this
  exact (mem_ways hw).2
theorem on_last (R : Ri) (h : ∀ v ∈ R, v.1 < v.2 ∧ v.2 < m) : onR R (m - 1) = 0 := by
  unfold onR
  rw [sR_congr (g := fun _ => 0) fun v hv => by have := h v hv; simp [bit]; omega]
  clear h
  induction R with
  | nil => rfl
  | cons v R ih => simp [ih]
theorem load_riders (T : Tal m s on off L) (B : Tab m on off t) : ∀ k, k < m → loR (ridersT (fun w => t w.1 w.2) (waysT m m)) k = L k := by
  have hv := riders_ok m (fun w => t w.1 w.2)
  have hv1 : ∀ v ∈ ridersT (fun w => t w.1 w.2) (waysT m m), v.1 < v.2 := fun v h => (hv v h).1
  have m2 := T.m2
  have hon : ∀ i, i < m → onR (ridersT (fun w => t w.1 w.2) (waysT m m)) i = on i := fun i hi => by
    by_cases e : i = m - 1
    · subst e; rw [on_last _ hv, T.onend]
    · exact on_riders B (by omega)
  intro k
  induction k with
  | zero => intro _; rw [lo_zero _ hv1, hon 0 (by omega), T.l0]
  | succ k ih =>
    intro hk
    have h1 := lo_step _ hv1 k
    rw [ih (by omega), hon (k + 1) hk, off_riders B hk] at h1
    have := T.step k hk
    omega
/-- all that the law asks of a table -/
theorem law_miles (T : Tal m s on off L) (B : Tab m on off t) : sumN L m = sR (fun w => w.2 - w.1) (ridersT (fun w => t w.1 w.2) (waysT m m)) := by
  rw [← lo_sum m _ (riders_ok m _)]
  exact sumN_congr fun k hk => (load_riders T B k hk).symm
theorem law_pairs (T : Tal m s on off L) (B : Tab m on off t) : prs on off L m = tog (ridersT (fun w => t w.1 w.2) (waysT m m)) := by
  have hv := riders_ok m (fun w => t w.1 w.2)
  have hv1 : ∀ v ∈ ridersT (fun w => t w.1 w.2) (waysT m m), v.1 < v.2 := fun v h => (hv v h).1
  have m2 := T.m2
  rw [tog_fml m _ hv]
  have : ∀ k, k ≤ m → prs on off L k = sumN (fml (ridersT (fun w => t w.1 w.2) (waysT m m))) k := by
    intro k
    induction k with
    | zero => intro _; rfl
    | succ k ih =>
      intro hk
      rw [prs, ih (by omega), sumN_succ, fml]
      have hon : onR (ridersT (fun w => t w.1 w.2) (waysT m m)) k = on k := by
        by_cases e : k = m - 1
        · subst e; rw [on_last _ hv, T.onend]
        · exact on_riders B (by omega)
      have hhe : heR (ridersT (fun w => t w.1 w.2) (waysT m m)) k = (if k = 0 then 0 else L (k - 1)) - off k := by
        cases k with
        | zero => rw [he_zero]; simp
        | succ k =>
          have h1 := he_step _ hv1 k
          rw [load_riders T B k (by omega), off_riders B (by omega)] at h1
          simp; omega
      rw [hon, hhe]
      omega
  exact this m (by omega)
end
end Mn
set_option maxHeartbeats 4000000
namespace Mn
open PySem
/-! ### riders who stay aboard for k miles more -/
/-- how many ride in all of the miles p .. p + k -/
def stR (R : Ri) (p k : Nat) : Nat := sR (fun v => bit (decide (v.1 ≤ p) && decide (p + k < v.2))) R
/-- miles beyond k, all together -/
def ovR (R : Ri) (k : Nat) : Nat := sR (fun v => (v.2 - v.1) - k) R
theorem sumN_bit {a b : Nat} : ∀ m, b ≤ m → sumN (fun p => bit (decide (a ≤ p) && decide (p < b))) m = b - a := by
  intro m hm
  by_cases h : a ≤ b
  · exact sum_ind a b h m hm
  · rw [show b - a = 0 by omega]
    refine sumN_zero fun p _ => ?_
    have : ¬ (a ≤ p ∧ p < b) := by omega
    by_cases h1 : a ≤ p
    · have h2 : ¬ p < b := fun z => this ⟨h1, z⟩
      simp [bit, h1, h2]
    · simp [bit, h1]
theorem ov_st (m : Nat) (R : Ri) (h : ∀ v ∈ R, v.1 < v.2 ∧ v.2 < m) (k : Nat) : ovR R k = sumN (fun p => stR R p k) m := by
  unfold stR
  rw [sumN_swap]
  unfold ovR
  refine sR_congr fun v hv => ?_
  have hv := h v hv
  have := sumN_bit (a := v.1) (b := v.2 - k) m (by omega)
  rw [show v.2 - v.1 - k = v.2 - k - v.1 by omega, ← this]
  refine sumN_congr fun p _ => ?_
  have : decide (p + k < v.2) = decide (p < v.2 - k) := by rw [decide_eq_decide]; omega
  rw [this]
theorem sR_mono {f g : Nat × Nat → Nat} : ∀ {R : Ri}, (∀ v ∈ R, f v ≤ g v) → sR f R ≤ sR g R
  | [], _ => Nat.le_refl _
  | v :: R, h => by
    rw [sR_cons, sR_cons]
    have := h v List.mem_cons_self
    have := sR_mono (R := R) fun u hu => h u (List.mem_cons_of_mem _ hu)
    omega
theorem sR_zero {f : Nat × Nat → Nat} : ∀ {R : Ri}, (∀ v ∈ R, f v = 0) → sR f R = 0
  | [], _ => rfl
  | v :: R, h => by
    rw [sR_cons, h v List.mem_cons_self, sR_zero fun u hu => h u (List.mem_cons_of_mem _ hu)]
theorem sR_pos {f : Nat × Nat → Nat} : ∀ {R : Ri}, 0 < sR f R → ∃ v ∈ R, 0 < f v
  | [], h => by simp at h
  | v :: R, h => by
    rw [sR_cons] at h
    by_cases z : 0 < f v
    · exact ⟨v, List.mem_cons_self, z⟩
    · obtain ⟨u, hu, hz⟩ := sR_pos (R := R) (f := f) (by omega)
      exact ⟨u, List.mem_cons_of_mem _ hu, hz⟩
theorem bit_pos {b : Bool} (h : 0 < bit b) : b = true := by cases b <;> simp_all [bit]
/-- who gets off at one of the stops p + 1 .. p + k -/
def goR (R : Ri) (p k : Nat) : Nat := sumN (fun q => offR R (p + 1 + q)) k
theorem go_bit (v : Nat × Nat) (p k : Nat) : sumN (fun q => bit (decide (v.2 = p + 1 + q))) k = bit (decide (p < v.2) && decide (v.2 ≤ p + k)) := by
  have e : sumN (fun q => bit (decide (v.2 = p + 1 + q))) k = sumN (fun q => if q = v.2 - (p + 1) then (if p + 1 ≤ v.2 then 1 else 0) else 0) k := by
    refine sumN_congr fun q _ => ?_
    by_cases z : v.2 = p + 1 + q
    · simp [bit, z]
    · by_cases z2 : q = v.2 - (p + 1)
      · have : ¬ p + 1 ≤ v.2 := by omega
        rw [if_pos z2, if_neg this]
        simp [bit, z]
      · simp [bit, z, z2]
  rw [e, sumN_one]
  by_cases h1 : p < v.2
  · by_cases h2 : v.2 ≤ p + k
    · have : v.2 - (p + 1) < k := by omega
      simp [bit, h1, h2, this, show p + 1 ≤ v.2 by omega]
    · have : ¬ v.2 - (p + 1) < k := by omega
      simp [bit, h2, this]
  · by_cases h2 : v.2 - (p + 1) < k
    · simp [bit, h1, h2, show ¬ p + 1 ≤ v.2 by omega]
    · simp [bit, h1, h2]
theorem go_eq (R : Ri) (p k : Nat) : goR R p k = sR (fun v => bit (decide (p < v.2) && decide (v.2 ≤ p + k))) R := by
  unfold goR offR
  rw [sumN_swap]
  exact sR_congr fun v _ => go_bit v p k
/-- no more stay than were aboard, less who got off -/
theorem st_low (R : Ri) (p k : Nat) : loR R p ≤ stR R p k + goR R p k := by
  rw [go_eq]
  unfold loR stR
  rw [← sR_add]
  refine sR_mono fun v _ => ?_
  by_cases h1 : v.1 ≤ p
  · by_cases h2 : p < v.2
    · by_cases h3 : p + k < v.2
      · simp [bit, h1, h2, h3]
      · simp [bit, h1, h2, h3, show v.2 ≤ p + k by omega]
    · simp [bit, h2]
  · simp [bit, h1]
/-- first on, first off -/
def Fifo (R : Ri) : Prop := ∀ v ∈ R, ∀ w ∈ R, v.1 < w.1 → v.2 ≤ w.2
theorem st_fifo {R : Ri} (F : Fifo R) (p k : Nat) (h : 0 < stR R p k) : stR R p k + goR R p k = loR R p := by
  obtain ⟨v, hv, hb⟩ := sR_pos h
  have hb := bit_pos hb
  simp only [Bool.and_eq_true, decide_eq_true_eq] at hb
  rw [go_eq]
  unfold loR stR
  rw [← sR_add]
  refine sR_congr fun w hw => ?_
  have key : ¬ (p < w.1 ∧ w.2 ≤ p + k) := fun ⟨h1, h2⟩ => by
    have := F v hv w hw (by omega)
    omega
  by_cases h1 : w.1 ≤ p
  · by_cases h2 : p < w.2
    · by_cases h3 : p + k < w.2
      · simp [bit, h1, h2, h3, show ¬ w.2 ≤ p + k by omega]
      · simp [bit, h1, h2, h3, show w.2 ≤ p + k by omega]
    · simp [bit, h1, h2, show ¬ p + k < w.2 by omega]
  · have h3 : ¬ w.2 ≤ p + k := fun z => key ⟨by omega, z⟩
    simp [bit, h1, h3]
/-- last on, first off -/
def Lifo (R : Ri) : Prop := ∀ v ∈ R, ∀ w ∈ R, v.1 < w.1 → w.1 < v.2 → w.2 ≤ v.2
theorem st_le_lo (R : Ri) (p k : Nat) : stR R p k ≤ loR R p := sR_mono fun v _ => by
  by_cases h1 : v.1 ≤ p
  · by_cases h3 : p + k < v.2
    · simp [bit, h1, h3, show p < v.2 by omega]
    · simp [bit, h3]
  · simp [bit, h1]
theorem st_le_he (R : Ri) (p k r : Nat) (h1 : p < r) (h2 : r ≤ p + k) : stR R p k ≤ heR R r := sR_mono fun v _ => by
  by_cases h3 : v.1 ≤ p
  · by_cases h4 : p + k < v.2
    · simp [bit, h3, h4, show v.1 < r by omega, show r < v.2 by omega]
    · simp [bit, h4]
  · simp [bit, h3]
theorem last_of {R : Ri} {p k : Nat} (h : ∃ v ∈ R, v.1 ≤ p ∧ p < v.2 ∧ v.2 ≤ p + k) : ∃ v ∈ R, v.1 ≤ p ∧ p < v.2 ∧ v.2 ≤ p + k ∧ ∀ u ∈ R, u.1 ≤ p → p < u.2 → u.2 ≤ p + k → u.2 ≤ v.2 := by
  induction R with
  | nil => obtain ⟨v, hv, _⟩ := h; cases hv
  | cons x R ih =>
    by_cases hR : ∃ v ∈ R, v.1 ≤ p ∧ p < v.2 ∧ v.2 ≤ p + k
    · obtain ⟨v, hv, h1, h2, h3, h4⟩ := ih hR
      by_cases hx : x.1 ≤ p ∧ p < x.2 ∧ x.2 ≤ p + k ∧ v.2 < x.2
      · refine ⟨x, List.mem_cons_self, hx.1, hx.2.1, hx.2.2.1, fun u hu a b c => ?_⟩
        rcases List.mem_cons.mp hu with rfl | hu
        · exact Nat.le_refl _
        · have := h4 u hu a b c; omega
      · refine ⟨v, List.mem_cons_of_mem _ hv, h1, h2, h3, fun u hu a b c => ?_⟩
        rcases List.mem_cons.mp hu with rfl | hu
        · refine Nat.le_of_not_lt fun z => hx ⟨a, b, c, z⟩
        · exact h4 u hu a b c
    · obtain ⟨v, hv, h1, h2, h3⟩ := h
      rcases List.mem_cons.mp hv with rfl | hv
      · refine ⟨v, List.mem_cons_self, h1, h2, h3, fun u hu a b c => ?_⟩
        rcases List.mem_cons.mp hu with rfl | hu
        · exact Nat.le_refl _
        · exact absurd ⟨u, hu, a, b, c⟩ hR
      · exact absurd ⟨v, hv, h1, h2, h3⟩ hR
theorem st_lifo {R : Ri} (F : Lifo R) (p k : Nat) : stR R p k = loR R p ∨ ∃ r, p < r ∧ r ≤ p + k ∧ stR R p k = heR R r := by
  by_cases h : ∃ v ∈ R, v.1 ≤ p ∧ p < v.2 ∧ v.2 ≤ p + k
  · obtain ⟨v, hv, h1, h2, h3, h4⟩ := last_of h
    refine .inr ⟨v.2, h2, h3, sR_congr fun u hu => ?_⟩
    by_cases a1 : u.1 ≤ p
    · by_cases a2 : p + k < u.2
      · simp [bit, a1, a2, show u.1 < v.2 by omega, show v.2 < u.2 by omega]
      · have : ¬ (v.2 < u.2) := fun z => by
          have := h4 u hu a1 (by omega) (by omega)
          omega
        simp [bit, a2, this]
    · have : ¬ (u.1 < v.2 ∧ v.2 < u.2) := fun ⟨z1, z2⟩ => by
        have := F v hv u hu (by omega) z1
        omega
      by_cases b1 : u.1 < v.2
      · have b2 : ¬ v.2 < u.2 := fun z => this ⟨b1, z⟩
        simp [bit, a1, b2]
      · simp [bit, a1, b1]
  · refine .inl (sR_congr fun u hu => ?_)
    by_cases a1 : u.1 ≤ p
    · by_cases a2 : p < u.2
      · have : p + k < u.2 := Nat.lt_of_not_le fun z => h ⟨u, hu, a1, a2, z⟩
        simp [bit, a1, a2, this]
      · simp [bit, a2, show ¬ p + k < u.2 by omega]
    · simp [bit, a1]
/-- the same loads, and who gets off where -/
structure Alike (m : Nat) (R S : Ri) : Prop where
  off : ∀ q, offR R q = offR S q
  lo : ∀ q, loR R q = loR S q
  he : ∀ q, heR R q = heR S q
theorem go_alike {m : Nat} {R S : Ri} (A : Alike m R S) (p k : Nat) : goR R p k = goR S p k := sumN_congr fun q _ => A.off _
theorem fifo_least {m : Nat} {R S : Ri} (A : Alike m R S) (F : Fifo R) (p k : Nat) : stR R p k ≤ stR S p k := by
  by_cases h : 0 < stR R p k
  · have h1 := st_fifo F p k h
    have h2 := st_low S p k
    rw [go_alike A, A.lo] at h1
    omega
  · omega
theorem lifo_most {m : Nat} {R S : Ri} (A : Alike m R S) (F : Lifo R) (p k : Nat) : stR S p k ≤ stR R p k := by
  rcases st_lifo F p k with h | ⟨r, h1, h2, h⟩
  · rw [h, A.lo]; exact st_le_lo S p k
  · rw [h, A.he]; exact st_le_he S p k r h1 h2
theorem ov_fifo {m : Nat} {R S : Ri} (A : Alike m R S) (hR : ∀ v ∈ R, v.1 < v.2 ∧ v.2 < m) (hS : ∀ v ∈ S, v.1 < v.2 ∧ v.2 < m) (F : Fifo R) (k : Nat) : ovR R k ≤ ovR S k := by
  rw [ov_st m R hR, ov_st m S hS]
  unfold sumN
  have : ∀ l : List Nat, (l.map fun p => stR R p k).sum ≤ (l.map fun p => stR S p k).sum := fun l => by
    induction l with
    | nil => exact Nat.le_refl _
    | cons x xs ih =>
      have := fifo_least A F x k
      simp only [List.map_cons, List.sum_cons]
      omega
  exact this _
theorem ov_lifo {m : Nat} {R S : Ri} (A : Alike m R S) (hR : ∀ v ∈ R, v.1 < v.2 ∧ v.2 < m) (hS : ∀ v ∈ S, v.1 < v.2 ∧ v.2 < m) (F : Lifo R) (k : Nat) : ovR S k ≤ ovR R k := by
  rw [ov_st m R hR, ov_st m S hS]
  unfold sumN
  have : ∀ l : List Nat, (l.map fun p => stR S p k).sum ≤ (l.map fun p => stR R p k).sum := fun l => by
    induction l with
    | nil => exact Nat.le_refl _
    | cons x xs ih =>
      have := lifo_most A F x k
      simp only [List.map_cons, List.sum_cons]
      omega
  exact this _
end Mn
set_option maxHeartbeats 4000000
namespace Mn
open PySem
/-! ### fares that spread, that flatten -/
def sumI (g : Nat → Int) : Nat → Int
  | 0 => 0
  | n + 1 => sumI g n + g n
theorem sumI_add (g h : Nat → Int) : ∀ n, sumI (fun k => g k + h k) n = sumI g n + sumI h n
  | 0 => rfl
  | n + 1 => by simp only [sumI, sumI_add g h n]; omega
theorem sumI_congr {g h : Nat → Int} : ∀ {n : Nat}, (∀ k < n, g k = h k) → sumI g n = sumI h n
  | 0, _ => rfl
  | n + 1, e => by simp only [sumI, sumI_congr fun k hk => e k (Nat.lt_succ_of_lt hk), e n (Nat.lt_succ_self n)]
theorem sumI_mono {g h : Nat → Int} : ∀ {n : Nat}, (∀ k < n, g k ≤ h k) → sumI g n ≤ sumI h n
  | 0, _ => Int.le_refl _
  | n + 1, e => by
    have := sumI_mono (n := n) fun k hk => e k (Nat.lt_succ_of_lt hk)
    have := e n (Nat.lt_succ_self n)
    simp only [sumI]; omega
def dlF (f : Nat → Int) (d : Nat) : Int := f (d + 1) - f d
def ddF (f : Nat → Int) (k : Nat) : Int := dlF f (k + 2) - dlF f (k + 1)
/-- f by its differences -/
def byD (f : Nat → Int) (N len : Nat) : Int := f 1 + ((len : Int) - 1) * dlF f 1 + sumI (fun k => ddF f k * ((len - (k + 2) : Nat) : Int)) N
theorem tele (f : Nat → Int) (len : Nat) (h : 1 ≤ len) : ∀ N, sumI (fun k => if k + 2 ≤ len then ddF f k else 0) N = dlF f (min len (N + 1)) - dlF f 1
  | 0 => by
    rw [show min len (0 + 1) = 1 by omega]
    simp [sumI]
  | N + 1 => by
    rw [sumI, tele f len h N]
    by_cases z : N + 2 ≤ len
    · rw [if_pos z, show min len (N + 1) = N + 1 by omega, show min len (N + 1 + 1) = N + 2 by omega]
      unfold ddF; omega
    · rw [if_neg z, show min len (N + 1 + 1) = min len (N + 1) by omega]; omega
theorem byD_eq (f : Nat → Int) (N : Nat) : ∀ len, 1 ≤ len → len ≤ N + 2 → byD f N len = f len
  | 0, h, _ => by omega
  | 1, _, _ => by
    unfold byD
    have : sumI (fun k => ddF f k * ((1 - (k + 2) : Nat) : Int)) N = 0 := by
      have e : sumI (fun k => ddF f k * ((1 - (k + 2) : Nat) : Int)) N = sumI (fun _ => 0) N := sumI_congr fun k _ => by
        rw [show 1 - (k + 2) = 0 by omega]; simp
      rw [e]
      have z : ∀ n, sumI (fun _ => 0) n = 0 := fun n => by
        induction n with
        | zero => rfl
        | succ n ih => simp only [sumI, ih]; omega
      exact z N
    rw [this]
    simp
  | len + 2, _, h => by
    have ih := byD_eq f N (len + 1) (by omega) (by omega)
    have t := tele f (len + 1) (by omega) N
    rw [show min (len + 1) (N + 1) = len + 1 by omega] at t
    have e : sumI (fun k => ddF f k * ((len + 2 - (k + 2) : Nat) : Int)) N = sumI (fun k => ddF f k * ((len + 1 - (k + 2) : Nat) : Int)) N + sumI (fun k => if k + 2 ≤ len + 1 then ddF f k else 0) N := by
      rw [← sumI_add]
      refine sumI_congr fun k _ => ?_
      by_cases z : k + 2 ≤ len + 1
      · rw [if_pos z, show len + 2 - (k + 2) = len + 1 - (k + 2) + 1 by omega]
        push_cast
        rw [Int.mul_add, Int.mul_one]
      · rw [if_neg z, show len + 2 - (k + 2) = 0 by omega, show len + 1 - (k + 2) = 0 by omega]
        simp
    unfold byD at ih ⊢
    rw [e, t]
    have d : dlF f (len + 1) = f (len + 2) - f (len + 1) := rfl
    have e2 : (((len + 2 : Nat) : Int) - 1) * dlF f 1 = (((len + 1 : Nat) : Int) - 1) * dlF f 1 + dlF f 1 := by
      rw [show (((len + 2 : Nat) : Int) - 1) = (((len + 1 : Nat) : Int) - 1) + 1 by omega, Int.add_mul, Int.one_mul]
    rw [e2]
    omega
/-- what all riders pay -/
def payR (f : Nat → Int) (R : Ri) : Int := (R.map fun v => f (v.2 - v.1)).sum
def lenR (R : Ri) : Nat := sR (fun v => v.2 - v.1) R
theorem pay_byD (f : Nat → Int) (N : Nat) : ∀ R : Ri, (∀ v ∈ R, v.1 < v.2 ∧ v.2 - v.1 ≤ N + 2) → payR f R = (R.length : Int) * f 1 + ((lenR R : Int) - (R.length : Int)) * dlF f 1 + sumI (fun k => ddF f k * (ovR R (k + 2) : Int)) N
  | [], _ => by
    have z : ∀ n, sumI (fun k => ddF f k * (ovR [] (k + 2) : Int)) n = 0 := fun n => by
      induction n with
      | zero => rfl
      | succ n ih =>
        rw [sumI, ih]
        simp [ovR]
    rw [z]
    simp [payR, lenR]
  | v :: R, h => by
    have ih := pay_byD f N R fun u hu => h u (List.mem_cons_of_mem _ hu)
    have hv := h v List.mem_cons_self
    have e := byD_eq f N (v.2 - v.1) (by omega) hv.2
    have e1 : payR f (v :: R) = f (v.2 - v.1) + payR f R := by simp [payR]
    have e2 : lenR (v :: R) = (v.2 - v.1) + lenR R := by simp [lenR]
    have e3 : sumI (fun k => ddF f k * (ovR (v :: R) (k + 2) : Int)) N = sumI (fun k => ddF f k * ((v.2 - v.1 - (k + 2) : Nat) : Int)) N + sumI (fun k => ddF f k * (ovR R (k + 2) : Int)) N := by
      rw [← sumI_add]
      refine sumI_congr fun k _ => ?_
      unfold ovR
      rw [sR_cons]
      push_cast
      rw [Int.mul_add]
    rw [e1, ih, e2, e3, ← e]
    unfold byD
    generalize sumI (fun k => ddF f k * ((v.2 - v.1 - (k + 2) : Nat) : Int)) N = A
    generalize sumI (fun k => ddF f k * (ovR R (k + 2) : Int)) N = B
    generalize hx : ((v.2 - v.1 : Nat) : Int) = x
    simp only [List.length_cons]
    push_cast
    rw [show (((v.2 - v.1 : Nat) : Int)) = x from hx]
    have q1 : ((R.length : Int) + 1) * f 1 = (R.length : Int) * f 1 + f 1 := by rw [Int.add_mul, Int.one_mul]
    have q2 : (x + (lenR R : Int) - ((R.length : Int) + 1)) * dlF f 1 = (x - 1) * dlF f 1 + ((lenR R : Int) - (R.length : Int)) * dlF f 1 := by
      rw [← Int.add_mul]; congr 1; omega
    rw [q1, q2]
    omega
theorem pay_le {f : Nat → Int} {N : Nat} {R S : Ri} (hR : ∀ v ∈ R, v.1 < v.2 ∧ v.2 - v.1 ≤ N + 2) (hS : ∀ v ∈ S, v.1 < v.2 ∧ v.2 - v.1 ≤ N + 2) (h1 : R.length = S.length) (h2 : lenR R = lenR S) (h : ∀ k < N, ddF f k * (ovR R (k + 2) : Int) ≤ ddF f k * (ovR S (k + 2) : Int)) : payR f R ≤ payR f S := by
  rw [pay_byD f N R hR, pay_byD f N S hS, h1, h2]
  have := sumI_mono h
  omega
theorem pay_spread {f : Nat → Int} {N : Nat} {R S : Ri} (hR : ∀ v ∈ R, v.1 < v.2 ∧ v.2 - v.1 ≤ N + 2) (hS : ∀ v ∈ S, v.1 < v.2 ∧ v.2 - v.1 ≤ N + 2) (h1 : R.length = S.length) (h2 : lenR R = lenR S) (hd : ∀ k < N, 0 ≤ ddF f k) (h : ∀ k, ovR R k ≤ ovR S k) : payR f R ≤ payR f S :=
  pay_le hR hS h1 h2 fun k hk => Int.mul_le_mul_of_nonneg_left (by have := h (k + 2); omega) (hd k hk)
theorem pay_flatten {f : Nat → Int} {N : Nat} {R S : Ri} (hR : ∀ v ∈ R, v.1 < v.2 ∧ v.2 - v.1 ≤ N + 2) (hS : ∀ v ∈ S, v.1 < v.2 ∧ v.2 - v.1 ≤ N + 2) (h1 : R.length = S.length) (h2 : lenR R = lenR S) (hd : ∀ k < N, ddF f k ≤ 0) (h : ∀ k, ovR S k ≤ ovR R k) : payR f R ≤ payR f S :=
  pay_le hR hS h1 h2 fun k hk => Int.mul_le_mul_of_nonpos_left (hd k hk) (by have := h (k + 2); omega)
end Mn
set_option maxHeartbeats 4000000
namespace Mn
open PySem
/-! ### the row of those aboard, by a manner -/
def upT (t : Nat → Nat → Nat) (x j : Nat) : Nat → Nat → Nat := fun i k => t i k + if i = x ∧ k = j then 1 else 0
structure LedF (j : Nat) (row : List Nat) (t : Nat → Nat → Nat) : Prop where
  srt : row.Pairwise (· ≤ ·)
  mem : ∀ x ∈ row, x < j
  tim : ∀ i k, 0 < t i k → i < k ∧ k ≤ j
  low : ∀ i k, 0 < t i k → ∀ x ∈ row, i ≤ x
  fif : ∀ i k i' k', 0 < t i k → 0 < t i' k' → i < i' → k ≤ k'
theorem upT_pos {t : Nat → Nat → Nat} {x j i k : Nat} (h : 0 < upT t x j i k) : 0 < t i k ∨ (i = x ∧ k = j) := by
  unfold upT at h
  by_cases z : i = x ∧ k = j
  · exact .inr z
  · rw [if_neg z] at h; exact .inl h
theorem LedF.pop {j x : Nat} {row : List Nat} {t : Nat → Nat → Nat} (F : LedF j (x :: row) t) : LedF j row (upT t x j) := by
  have hx : x < j := F.mem x List.mem_cons_self
  have hs := List.pairwise_cons.mp F.srt
  refine ⟨hs.2, fun y hy => F.mem y (List.mem_cons_of_mem _ hy), fun i k h => ?_, fun i k h y hy => ?_, fun i k i' k' h h' hi => ?_⟩
  · rcases upT_pos h with z | ⟨rfl, rfl⟩
    · exact F.tim i k z
    · exact ⟨hx, Nat.le_refl _⟩
  · rcases upT_pos h with z | ⟨rfl, rfl⟩
    · exact F.low i k z y (List.mem_cons_of_mem _ hy)
    · exact hs.1 y hy
  · rcases upT_pos h with z | ⟨rfl, rfl⟩
    · rcases upT_pos h' with z' | ⟨rfl, rfl⟩
      · exact F.fif i k i' k' z z' hi
      · exact (F.tim i k z).2
    · rcases upT_pos h' with z' | ⟨rfl, rfl⟩
      · have := F.low i' k' z' _ List.mem_cons_self; omega
      · omega
theorem srt_rep {j n : Nat} {row : List Nat} (h : row.Pairwise (· ≤ ·)) (hm : ∀ x ∈ row, x < j) : (row ++ List.replicate n j).Pairwise (· ≤ ·) := by
  rw [List.pairwise_append]
  refine ⟨h, ?_, fun a ha b hb => ?_⟩
  · rw [List.pairwise_replicate]; exact .inr (Nat.le_refl _)
  · rw [(List.mem_replicate.mp hb).2]; exact Nat.le_of_lt (hm a ha)
theorem mem_rep {j n : Nat} {row : List Nat} (hm : ∀ x ∈ row, x < j) : ∀ x ∈ row ++ List.replicate n j, x < j + 1 := fun x hx => by
  rcases List.mem_append.mp hx with z | z
  · have := hm x z; omega
  · rw [(List.mem_replicate.mp z).2]; exact Nat.lt_succ_self _
theorem LedF.next {j n : Nat} {row : List Nat} {t : Nat → Nat → Nat} (F : LedF j row t) : LedF (j + 1) (row ++ List.replicate n j) t := by
  refine ⟨srt_rep F.srt F.mem, mem_rep F.mem, fun i k h => ?_, fun i k h x hx => ?_, F.fif⟩
  · have := F.tim i k h; omega
  · rcases List.mem_append.mp hx with z | z
    · exact F.low i k h x z
    · rw [(List.mem_replicate.mp z).2]
      have := F.tim i k h; omega
structure LedL (j : Nat) (row : List Nat) (t : Nat → Nat → Nat) : Prop where
  srt : row.Pairwise (· ≤ ·)
  mem : ∀ x ∈ row, x < j
  tim : ∀ i k, 0 < t i k → i < k ∧ k ≤ j
  cap : ∀ i k, 0 < t i k → ∀ y ∈ row, y < k → y ≤ i
  lif : ∀ i k i' k', 0 < t i k → 0 < t i' k' → i < i' → i' < k → k' ≤ k
theorem LedL.pop {j x : Nat} {row : List Nat} {t : Nat → Nat → Nat} (F : LedL j (row ++ [x]) t) : LedL j row (upT t x j) := by
  have hx : x < j := F.mem x (List.mem_append_right _ (List.mem_singleton.mpr rfl))
  have hs := List.pairwise_append.mp F.srt
  refine ⟨hs.1, fun y hy => F.mem y (List.mem_append_left _ hy), fun i k h => ?_, fun i k h y hy hk => ?_, fun i k i' k' h h' hi hk => ?_⟩
  · rcases upT_pos h with z | ⟨rfl, rfl⟩
    · exact F.tim i k z
    · exact ⟨hx, Nat.le_refl _⟩
  · rcases upT_pos h with z | ⟨rfl, rfl⟩
    · exact F.cap i k z y (List.mem_append_left _ hy) hk
    · exact hs.2.2 y hy _ (List.mem_singleton.mpr rfl)
  · rcases upT_pos h with z | ⟨rfl, rfl⟩
    · rcases upT_pos h' with z' | ⟨rfl, rfl⟩
      · exact F.lif i k i' k' z z' hi hk
      · have := F.cap i k z _ (List.mem_append_right _ (List.mem_singleton.mpr rfl)) hk; omega
    · rcases upT_pos h' with z' | ⟨rfl, rfl⟩
      · exact (F.tim i' k' z').2
      · omega
theorem LedL.next {j n : Nat} {row : List Nat} {t : Nat → Nat → Nat} (F : LedL j row t) : LedL (j + 1) (row ++ List.replicate n j) t := by
  refine ⟨srt_rep F.srt F.mem, mem_rep F.mem, fun i k h => ?_, fun i k h y hy hk => ?_, F.lif⟩
  · have := F.tim i k h; omega
  · rcases List.mem_append.mp hy with z | z
    · exact F.cap i k h y z hk
    · rw [(List.mem_replicate.mp z).2] at hk
      have := F.tim i k h; omega
end Mn
set_option maxHeartbeats 4000000
namespace Mn
open PySem
/-! ### the manners, purely -/
def pxB (b : Bool) (row : List Nat) : Nat := if b then row.getLastD 0 else row.headD 0
def prB (b : Bool) (row : List Nat) : List Nat := if b then row.dropLast else row.tail
abbrev LS := List Nat × (Nat → Nat → Nat)
def lpop (b : Bool) (j : Nat) : Nat → LS → LS
  | 0, p => p
  | q + 1, p => (prB b (lpop b j q p).1, upT (lpop b j q p).2 (pxB b (lpop b j q p).1) j)
def lstB (b : Bool) (on off : Nat → Nat) : Nat → LS
  | 0 => ([], fun _ _ => 0)
  | j + 1 => ((lpop b j (off j) (lstB b on off j)).1 ++ List.replicate (on j) j, (lpop b j (off j) (lstB b on off j)).2)
def ledT (b : Bool) (on off : Nat → Nat) (m : Nat) : Nat → Nat → Nat := (lstB b on off m).2
theorem pop_at (b : Bool) {row : List Nat} (h : 0 < row.length) : ∃ p, ixN row.length (if b then -1 else 0) = some p ∧ row[p]? = some (pxB b row) ∧ row.eraseIdx p = prB b row := by
  cases b with
  | true =>
    refine ⟨row.length - 1, by simpa using ixN_last h, ?_, ?_⟩
    · simp only [pxB, if_true]
      rw [List.getLastD_eq_getLast?, List.getLast?_eq_getElem?]
      rw [List.getElem?_eq_getElem (by omega)]; rfl
    · simp only [prB, if_true]
      rw [List.eraseIdx_eq_take_drop_succ, List.dropLast_eq_take, show row.length - 1 + 1 = row.length by omega, List.drop_length, List.append_nil]
  | false =>
    refine ⟨0, by simpa using ixN_zero h, ?_, ?_⟩
    · cases row with
      | nil => simp at h
      | cons x r => rfl
    · cases row with
      | nil => simp at h
      | cons x r => rfl
theorem prB_len (b : Bool) (row : List Nat) : (prB b row).length = row.length - 1 := by cases b <;> simp [prB]
theorem lpop_len (b : Bool) (j : Nat) (p : LS) : ∀ q, (lpop b j q p).1.length = p.1.length - q
  | 0 => rfl
  | q + 1 => by
    have := lpop_len b j p q
    simp only [lpop, prB_len]; omega
section
variable {m s : Nat} {on off L : Nat → Nat}
theorem lst_len (T : Tal m s on off L) (b : Bool) : ∀ j, j ≤ m → (lstB b on off j).1.length = if j = 0 then 0 else L (j - 1)
  | 0, _ => rfl
  | j + 1, h => by
    have ih := lst_len T b j (by omega)
    simp only [lstB, List.length_append, lpop_len, List.length_replicate]
    rw [ih, if_neg (Nat.succ_ne_zero j)]
    cases j with
    | zero =>
      have h1 := T.off0; have h2 := T.l0
      show 0 - off 0 + on 0 = L 0
      omega
    | succ k =>
      have := T.step k (by omega); have := T.le k (by omega)
      rw [if_neg (Nat.succ_ne_zero k)]
      show L k - off (k + 1) + on (k + 1) = L (k + 1)
      omega
theorem lst_off (T : Tal m s on off L) (b : Bool) {j : Nat} (h : j < m) : off j ≤ (lstB b on off j).1.length := by
  rw [lst_len T b j (by omega)]
  cases j with
  | zero => simp [T.off0]
  | succ k => have := T.le k h; simpa using this
theorem lst_cap (T : Tal m s on off L) (b : Bool) {j : Nat} (h : j ≤ m) : (lstB b on off j).1.length ≤ 9 := by
  rw [lst_len T b j h]
  have := T.s9
  cases j with
  | zero => simp
  | succ k => have := T.cap k (by omega); simp; omega
theorem lpop_led {b : Bool} {j : Nat} {p : LS} (hj : j < m) (D0 : Led m on off j 0 p.1 p.2) : ∀ q, q ≤ p.1.length → Led m on off j q (lpop b j q p).1 (lpop b j q p).2
  | 0, _ => D0
  | q + 1, h => by
    have ih := lpop_led (b := b) hj D0 q (by omega)
    obtain ⟨k, _, h2, h3⟩ := pop_at b (row := (lpop b j q p).1) (by rw [lpop_len]; omega)
    have := ih.pop hj h2
    rw [h3] at this
    exact this
theorem lst_led (T : Tal m s on off L) (b : Bool) : ∀ j, j ≤ m → Led m on off j 0 (lstB b on off j).1 (lstB b on off j).2
  | 0, _ => ⟨fun i h => by omega, fun k h => by omega, sumN_zero fun _ _ => rfl, fun _ _ _ => rfl, fun x h => (nomatch h)⟩
  | j + 1, h => (lpop_led (by omega) (lst_led T b j (by omega)) (off j) (lst_off T b (by omega))).next (by omega)
theorem lst_end (T : Tal m s on off L) (b : Bool) : (lstB b on off m).1 = [] := by
  have h := lst_len T b m (Nat.le_refl _)
  have := T.m2
  rw [if_neg (by omega), T.lend] at h
  exact List.length_eq_zero_iff.mp h
theorem led_tab (T : Tal m s on off L) (b : Bool) : Tab m on off (ledT b on off m) := by
  have D0 := lst_led T b m (Nat.le_refl _)
  have := T.m2
  refine ⟨fun i hi => ?_, D0.cols⟩
  have := D0.rows i (by omega)
  rw [lst_end T b] at this
  simpa [ledT] using this
theorem lpop_F {j : Nat} {p : LS} (D0 : LedF j p.1 p.2) : ∀ q, q ≤ p.1.length → LedF j (lpop false j q p).1 (lpop false j q p).2
  | 0, _ => D0
  | q + 1, h => by
    have ih := lpop_F D0 q (by omega)
    have hl := lpop_len false j p q
    simp only [lpop]
    cases e : (lpop false j q p).1 with
    | nil => rw [e] at hl; simp at hl; omega
    | cons x r =>
      rw [e] at ih
      exact ih.pop
theorem lpop_L {j : Nat} {p : LS} (D0 : LedL j p.1 p.2) : ∀ q, q ≤ p.1.length → LedL j (lpop true j q p).1 (lpop true j q p).2
  | 0, _ => D0
  | q + 1, h => by
    have ih := lpop_L D0 q (by omega)
    have hl := lpop_len true j p q
    have hne : (lpop true j q p).1 ≠ [] := fun z => by rw [z] at hl; simp at hl; omega
    have e := (List.dropLast_concat_getLast hne).symm
    rw [e] at ih
    have k := ih.pop
    simp only [lpop]
    have e2 : pxB true (lpop true j q p).1 = (lpop true j q p).1.getLast hne := by
      simp only [pxB, if_true]
      rw [List.getLastD_eq_getLast?, List.getLast?_eq_some_getLast hne]; rfl
    rw [e2]
    exact k
theorem lst_F (T : Tal m s on off L) : ∀ j, j ≤ m → LedF j (lstB false on off j).1 (lstB false on off j).2
  | 0, _ => ⟨.nil, fun x h => (nomatch h), fun i k h => by simp [lstB] at h, fun i k h => by simp [lstB] at h, fun i k i' k' h => by simp [lstB] at h⟩
  | j + 1, h => (lpop_F (lst_F T j (by omega)) (off j) (lst_off T false (by omega))).next
theorem lst_L (T : Tal m s on off L) : ∀ j, j ≤ m → LedL j (lstB true on off j).1 (lstB true on off j).2
  | 0, _ => ⟨.nil, fun x h => (nomatch h), fun i k h => by simp [lstB] at h, fun i k h => by simp [lstB] at h, fun i k i' k' h => by simp [lstB] at h⟩
  | j + 1, h => (lpop_L (lst_L T j (by omega)) (off j) (lst_off T true (by omega))).next
theorem lpop_srt (T : Tal m s on off L) (b : Bool) {j q : Nat} (hj : j < m) (hq : q ≤ off j) : (lpop b j q (lstB b on off j)).1.Pairwise (· ≤ ·) := by
  have := lst_off T b hj
  cases b with
  | false => exact (lpop_F (lst_F T j (by omega)) q (by omega)).srt
  | true => exact (lpop_L (lst_L T j (by omega)) q (by omega)).srt
end
end Mn
set_option maxHeartbeats 4000000
namespace Mn
open PySem
section
variable {lf : Fn} {wf bs n : Nat} {st : Store} {m s : Nat} {on off L : Nat → Nat}
theorem run_led_off2 (T : Tal m s on off L) (b : Bool) : run (G lf) wf (n + 2) bs 15 [ln m s, tl on off m, .bl b] st = .ok (tb (ledT b on off m) m) st := by
  have m2 := T.m2
  have m6 := T.m6
  have s9 := T.s9
  have haw := @run_all_ways lf wf st.length n st m s m6
  have hl := waysT_len m m
  have l3 : m * m ≤ 36 := Nat.le_trans (Nat.mul_le_mul m6 m6) (by omega)
  obtain ⟨kvs0, z1, z2, z3⟩ := dcomp_zero (σ := [.val (ln m s), .val (tl on off m), .val (.bl b), .un, .un, .un, .un, .un, .un]) (st := st) (cf := run (G lf) wf (n + 1)) (bs := st.length) (by simp) (waysT m m) [] (by simp; omega)
  have loop := ev_forI (cf := run (G lf) wf (n + 1)) (wf := wf) (bs := st.length) (σ := [.val (ln m s), .val (tl on off m), .val (.bl b), .un, .od kvs0, .ol [], .un, .un, .un]) (st := st) (tg := .nm 3) (it := .r1 (.idx (.var 0) (.con (.int 0))))
    (b := [.for_ (.nm 6) (.r1 (.idx (.idx (.var 1) (.con (.int 1))) (.var 3))) [.popT 7 5 (.ite (.var 2) (.neg (.con (.int 1))) (.con (.int 0))), .setD 4 (.tup (.cons (.var 7) (.cons (.var 3) .nil))) (.bin .add (.odx 4 (.tup (.cons (.var 7) (.cons (.var 3) .nil)))) (.con (.int 1)))], .asg 5 (.cat 5 (.bin .mul (.lst (.cons (.var 3) .nil)) (.idx (.idx (.var 1) (.con (.int 0))) (.var 3))))]) (xs := rngL 0 m)
    (fun j σ st' => st' = st ∧ ∃ (t : Nat → Nat → Nat) (row : List Nat) (kvs : List (D × D)) (s3 s6 s7 s8 : Sl), σ = [.val (ln m s), .val (tl on off m), .val (.bl b), s3, .od kvs, .ol (iD row), s6, s7, s8] ∧ (∀ i k, i < k → k < m → getD kvs (wD (i, k)) = some (.int (t i k : Int))) ∧ kvs.length ≤ 36 ∧ (row, t) = lstB b on off j)
    (by simp [idxS0, rg1_nat (show m ≤ 1000 by omega)]) (fun j x σ st' hx ⟨e, t, row, kvs, t3, t6, t7, t8, es, hk, hkl, hr⟩ => by
      subst es
      obtain ⟨hj, rfl⟩ := rngE_get hx
      simp only [Int.zero_add]
      have hoff : off j ≤ row.length := by
        have := lst_off T b hj; rw [← hr] at this; exact this
      have hoff9 := T.off9 hj
      have hrl : row.length ≤ 9 := by
        have := lst_cap T b (Nat.le_of_lt hj); rw [← hr] at this; exact this
      have inner := ev_forI (cf := run (G lf) wf (n + 1)) (wf := wf) (bs := st.length) (σ := [.val (ln m s), .val (tl on off m), .val (.bl b), .val (.int (j : Int)), .od kvs, .ol (iD row), t6, t7, t8]) (st := st') (tg := .nm 6) (it := .r1 (.idx (.idx (.var 1) (.con (.int 1))) (.var 3)))
        (b := [.popT 7 5 (.ite (.var 2) (.neg (.con (.int 1))) (.con (.int 0))), .setD 4 (.tup (.cons (.var 7) (.cons (.var 3) .nil))) (.bin .add (.odx 4 (.tup (.cons (.var 7) (.cons (.var 3) .nil)))) (.con (.int 1)))]) (xs := rngL 0 (off j))
        (fun q σ st2 => st2 = st' ∧ ∃ (t : Nat → Nat → Nat) (row2 : List Nat) (kvs : List (D × D)) (s6 s7 : Sl), σ = [.val (ln m s), .val (tl on off m), .val (.bl b), .val (.int (j : Int)), .od kvs, .ol (iD row2), s6, s7, t8] ∧ (∀ i k, i < k → k < m → getD kvs (wD (i, k)) = some (.int (t i k : Int))) ∧ kvs.length ≤ 36 ∧ (row2, t) = lpop b j q (lstB b on off j))
        (by simp [idxS1, idxS_nl hj, rg1_nat (show off j ≤ 1000 by omega)]) (fun q y σ st2 hy ⟨e2, t, row2, kvs, u6, u7, es2, hk, hkl, hq⟩ => by
          subst es2 e2
          obtain ⟨hqo, rfl⟩ := rngE_get hy
          simp only [Int.zero_add]
          have hr1 : row = (lstB b on off j).1 := by rw [← hr]
          have hr2 : row2 = (lpop b j q (lstB b on off j)).1 := by rw [← hq]
          have ht2 : t = (lpop b j q (lstB b on off j)).2 := by rw [← hq]
          have hl2 : row2.length = row.length - q := by rw [hr2, lpop_len, hr1]
          have hpos : 0 < row2.length := by omega
          obtain ⟨p, hp, hx, her⟩ := pop_at b hpos
          generalize hxx : pxB b row2 = x at hx
          have D1 : Led m on off j q row2 t := by
            have := lpop_led (b := b) hj (lst_led T b j (by omega)) q (by rw [← hr1]; omega)
            rw [← hq] at this; exact this
          have hxj : x < j := D1.mem x (List.mem_of_getElem? hx)
          have hp : ixN (iD row2).length (if b then -1 else 0) = some p := by rw [iD, List.length_map]; exact hp
          have hg := hk x j hxj hj
          have pop := ev_pop (cf := run (G lf) wf (n + 1)) (wf := wf) (bs := st.length) (st := st2) (σ := [.val (ln m s), .val (tl on off m), .val (.bl b), .val (.int (j : Int)), .od kvs, .ol (iD row2), .val (.int (q : Int)), u7, t8]) (i := 7) (j := 5) (e := .ite (.var 2) (.neg (.con (.int 1))) (.con (.int 0))) (ds := iD row2) (k := if b then -1 else 0) (p := p) (d := .int (x : Int)) rfl (by cases b <;> simp) hp (by simp [iD, hx]) (by rw [iD, List.length_map]; omega)
          have ie : (iD row2).eraseIdx p = iD (row2.eraseIdx p) := by unfold iD; exact erase_map _ _ _
          rw [ie] at pop
          have key : ∀ σ' : List Sl, σ'[7]? = some (.val (.int (x : Int))) → σ'[3]? = some (.val (.int (j : Int))) → evE (run (G lf) wf (n + 1)) st.length σ' st2 (.tup (.cons (.var 7) (.cons (.var 3) .nil))) = .ok (wD (x, j)) st2 := fun σ' a1 a2 => by
            simp [a1, a2, sz2, wD]
          have od := ev_odx (cf := run (G lf) wf (n + 1)) (bs := st.length) (st := st2) (σ := [.val (ln m s), .val (tl on off m), .val (.bl b), .val (.int (j : Int)), .od kvs, .ol (iD (row2.eraseIdx p)), .val (.int (q : Int)), .val (.int (x : Int)), t8]) (i := 4) (k := .tup (.cons (.var 7) (.cons (.var 3) .nil))) rfl (key _ rfl rfl) (keyOk_w _) hg
          have sd := ev_setD (cf := run (G lf) wf (n + 1)) (wf := wf) (bs := st.length) (st := st2) (σ := [.val (ln m s), .val (tl on off m), .val (.bl b), .val (.int (j : Int)), .od kvs, .ol (iD (row2.eraseIdx p)), .val (.int (q : Int)), .val (.int (x : Int)), t8]) (i := 4) (k := .tup (.cons (.var 7) (.cons (.var 3) .nil))) (e := .bin .add (.odx 4 (.tup (.cons (.var 7) (.cons (.var 3) .nil)))) (.con (.int 1))) (d := .int ((t x j + 1 : Nat) : Int)) rfl (by simp [od]) (key _ rfl rfl) (keyOk_w _) (by omega)
          refine ⟨[.val (ln m s), .val (tl on off m), .val (.bl b), .val (.int (j : Int)), .od kvs, .ol (iD row2), .val (.int (q : Int)), u7, t8], [.val (ln m s), .val (tl on off m), .val (.bl b), .val (.int (j : Int)), .od (putD kvs (wD (x, j)) (.int ((t x j + 1 : Nat) : Int))), .ol (iD (row2.eraseIdx p)), .val (.int (q : Int)), .val (.int (x : Int)), t8], st2, by simp [bindT], ?_, rfl, (fun i k => t i k + if i = x ∧ k = j then 1 else 0), row2.eraseIdx p, putD kvs (wD (x, j)) (.int ((t x j + 1 : Nat) : Int)), _, _, rfl, fun i k h1 h2 => ?_, ?_, ?_⟩
          · rw [ev_Scons, pop]
            simp only [Fl.seq_nx, ev_Scons, ev_Snil]
            simp only [List.set_cons_succ, List.set_cons_zero]
            rw [sd]
            simp
          · rw [getD_put]
            by_cases e : (i, k) = (x, j)
            · simp at e
              rw [e.1, e.2]; simp
            · rw [if_neg (fun z => e (wD_inj z)), hk i k h1 h2]
              simp at e
              have : ¬ (i = x ∧ k = j) := fun z => e z.1 z.2
              simp [this]
          · rw [put_len, hg]; simpa using hkl
          · simp only [lpop, ← hr2, ← ht2, hxx, her]; rfl) ⟨rfl, t, row, kvs, _, _, rfl, hk, hkl, hr⟩
      obtain ⟨s2, st2, k2, e2, t2, row2, kvs2, u6, u7, es2, hk2, hkl2, hq⟩ := inner
      subst e2 es2
      rw [rngE_len] at hq
      have hr2 : row2 = (lpop b j (off j) (lstB b on off j)).1 := by rw [← hq]
      have ht2 : t2 = (lpop b j (off j) (lstB b on off j)).2 := by rw [← hq]
      have hl2 : row2.length = row.length - off j := by rw [hr2, lpop_len, ← hr]
      have on9 := T.on9 hj
      have mu := @mul_lst1 (.int (j : Int)) (on j) (by omega)
      have ct := ev_cat (cf := run (G lf) wf (n + 1)) (bs := st.length) (st := st2) (σ := [.val (ln m s), .val (tl on off m), .val (.bl b), .val (.int (j : Int)), .od kvs2, .ol (iD row2), u6, u7, t8]) (i := 5) (e := .bin .mul (.lst (.cons (.var 3) .nil)) (.idx (.idx (.var 1) (.con (.int 0))) (.var 3))) (ds := iD row2) (xs := List.replicate (on j) (.int (j : Int))) rfl (by simp [sz1, idxS0, idxS_nl hj, mu]) (by simp [iD]; omega)
      have ic : iD row2 ++ List.replicate (on j) (.int (j : Int)) = iD (row2 ++ List.replicate (on j) j) := by simp [iD]
      rw [ic] at ct
      refine ⟨[.val (ln m s), .val (tl on off m), .val (.bl b), .val (.int (j : Int)), .od kvs, .ol (iD row), t6, t7, t8], [.val (ln m s), .val (tl on off m), .val (.bl b), .val (.int (j : Int)), .od kvs2, .ol (iD (row2 ++ List.replicate (on j) j)), u6, u7, t8], st2, by simp [bindT], ?_, e, t2, row2 ++ List.replicate (on j) j, kvs2, _, _, _, _, rfl, hk2, hkl2, ?_⟩
      · rw [ev_Scons, k2]
        simp only [Fl.seq_nx, ev_Scons, ev_asg, ct]
        simp
      · rw [lstB, ← hr2, ← ht2]) ⟨rfl, fun _ _ => 0, [], kvs0, .un, .un, .un, .un, rfl, fun i k h1 h2 => by simpa using z3 (i, k) (.inl (mem_waysT h1 h2)), by simp at z2; omega, rfl⟩
  obtain ⟨s', st', k1, e, t, row, kvs, t3, t6, t7, t8, es, hk, hkl, hr⟩ := loop
  subst e es
  rw [rngE_len] at hr
  have ht : ledT b on off m = t := by unfold ledT; rw [← hr]
  rw [ht]
  refine run_pure rfl rfl rfl ?_ (rb_tb _ _ _) rfl
  have at_ := @run_as_table lf wf st'.length n st' m s m2 m6 t kvs hk
  have ndc : evR (run (G lf) wf (n + 1)) st'.length [.val (ln m s), .val (tl on off m), .val (.bl b), .un, .un, .un, .un, .un, .un] st' (.ndc [8] (.nm 8) (.ov (.call 10 (.cons (.var 0) .nil))) (.var 8) (.con (.int 0))) = .ok (.od kvs0) st' := by
    have hi : evI (run (G lf) wf (n + 1)) st'.length [.val (ln m s), .val (tl on off m), .val (.bl b), .un, .un, .un, .un, .un, .un] st' (.ov (.call 10 (.cons (.var 0) .nil))) = .ok ((waysT m m).map wD) st' := by simp [haw]
    have hw : wipeS [.val (ln m s), .val (tl on off m), .val (.bl b), .un, .un, .un, .un, .un, .un] [8] = [.val (ln m s), .val (tl on off m), .val (.bl b), .un, .un, .un, .un, .un, .un] := rfl
    rw [ev_ndc, hi, Out.bind_ok, hw, z1, Out.bind_ok]
  simp only [f_led_off]
  simp [ndc, sz0, setSl, k1, at_]
theorem run_first_off2 (T : Tal m s on off L) : run (G lf) wf (n + 5) bs 16 [ln m s, tl on off m] st = .ok (tb (ledT false on off m) m) st := by
  have e := @run_led_off2 lf wf st.length (n + 2) st m s on off L T false
  refine run_pure rfl rfl rfl ?_ (rb_tb _ _ _) rfl
  simp only [f_first_off]
  simp [run_need_tally T, e]
theorem run_last_off2 (T : Tal m s on off L) : run (G lf) wf (n + 5) bs 71 [ln m s, tl on off m] st = .ok (tb (ledT true on off m) m) st := by
  have e := @run_led_off2 lf wf st.length (n + 2) st m s on off L T true
  refine run_pure rfl rfl rfl ?_ (rb_tb _ _ _) rfl
  simp only [f_last_off]
  simp [run_need_tally T, e]
end
end Mn
set_option maxHeartbeats 4000000
namespace Mn
open PySem
section
variable {cf : Nat → Nat → List D → Store → Out D} {wf bs : Nat} {σ : List Sl} {st : Store}
theorem ev_bor {i : Nat} {e : E} {d : D} {ds : List D} {st1 : Store} (h : σ[i]? = some (.ol ds)) (he : evE cf bs (σ.set i (.val (.lst ds))) st e = .ok d st1) (hd : d.plain = true) (hs : st1.all Cell.plain = true) : evE cf bs σ st (.bor i e) = .ok d st1 := by
  rw [evE, h]
  simp only [Option.bind_some, Sl.frz, he, borFin, hd, hs, Bool.and_self, if_true]
theorem ev_rem {i : Nat} {e : E} {ns : List Int} {k : Int} (h : σ[i]? = some (.ol (ns.map .int))) (he : evE cf bs σ st e = .ok (.int k) st) (hk : k ∈ ns) : evS cf wf bs σ st (.rem i e) = .nx (σ.set i (.ol ((ns.erase k).map .int))) st := by
  rw [evS]
  unfold remS
  rw [h]
  simp [he, ints_map, hk]
theorem ev_asgQ (is : List Nat) (rs : List R) : evS cf wf bs σ st (.asgQ is rs) = (evRs cf bs σ st rs).fl fun xs st => if is.length = xs.length && decide (xs.length ≤ 100) then .nx (setSl σ is xs) st else .bad := by rw [evS]
theorem ev_asgC (i : Nat) (r : R) : evS cf wf bs σ st (.asgC i r) = (evR cf bs σ st r).fl fun x st => .nx (σ.set i x) st := by rw [evS]
theorem ev_cnt (a e : E) : evE cf bs σ st (.cnt a e) = (evE cf bs σ st a).bind fun x st => match x with
    | .lst xs => (evE cf bs σ st e).bind fun y st => .of (cntD xs y) st
    | _ => .bad := by first | (rw [evE]; done) | (rw [evE]; rfl)
theorem ev_rev (a : E) : evE cf bs σ st (.rev a) = (evE cf bs σ st a).bind fun x st => .of (revD x) st := by rw [evE]
end
/-! ### greatest, least of a rising row -/
theorem max_of {xs : List Int} {x : Int} (h : x ∈ xs) (hm : ∀ y ∈ xs, y ≤ x) : maxI xs = some x := by
  cases e : maxI xs with
  | none =>
    cases xs with
    | nil => cases h
    | cons a r => simp [maxI] at e
  | some z =>
    obtain ⟨z1, z2⟩ := maxI_spec e
    have := z2 x h; have := hm z z1
    congr 1; omega
theorem min_of {xs : List Int} {x : Int} (h : x ∈ xs) (hm : ∀ y ∈ xs, x ≤ y) : minI xs = some x := by
  cases e : minI xs with
  | none =>
    cases xs with
    | nil => cases h
    | cons a r => simp [minI] at e
  | some z =>
    obtain ⟨z1, z2⟩ := minI_spec e
    have := z2 x h; have := hm z z1
    congr 1; omega
def iI (row : List Nat) : List Int := row.map fun (i : Nat) => (i : Int)
theorem iD_iI (row : List Nat) : iD row = (iI row).map .int := by simp [iD, iI]
theorem pick_srt (b : Bool) {row : List Nat} (h : 0 < row.length) (hs : row.Pairwise (· ≤ ·)) : pxB b row ∈ row ∧ (if b then maxI (iI row) else minI (iI row)) = some (pxB b row : Int) ∧ (iI row).erase (pxB b row : Int) = iI (prB b row) := by
  obtain ⟨p, _, h2, h3⟩ := pop_at b h
  have hm := List.mem_of_getElem? h2
  refine ⟨hm, ?_, ?_⟩
  · have hmi : (pxB b row : Int) ∈ iI row := List.mem_map.mpr ⟨_, hm, rfl⟩
    cases b with
    | true =>
      simp only [if_true]
      refine max_of hmi fun y hy => ?_
      obtain ⟨z, hz, rfl⟩ := List.mem_map.mp hy
      have hne : row ≠ [] := fun e => by rw [e] at h; simp at h
      have e := (List.dropLast_concat_getLast hne).symm
      have e2 : pxB true row = row.getLast hne := by
        simp only [pxB, if_true]
        rw [List.getLastD_eq_getLast?, List.getLast?_eq_some_getLast hne]; rfl
      rw [e2]
      rw [e] at hs hz
      have hs := List.pairwise_append.mp hs
      rcases List.mem_append.mp hz with q | q
      · exact Int.ofNat_le.mpr (hs.2.2 z q _ (List.mem_singleton.mpr rfl))
      · rw [List.mem_singleton.mp q]; exact Int.le_refl _
    | false =>
      simp only [Bool.false_eq_true, if_false]
      refine min_of hmi fun y hy => ?_
      obtain ⟨z, hz, rfl⟩ := List.mem_map.mp hy
      cases row with
      | nil => simp at h
      | cons x r =>
        rcases List.mem_cons.mp hz with q | q
        · rw [q]; exact Int.le_refl _
        · exact Int.ofNat_le.mpr ((List.pairwise_cons.mp hs).1 z q)
  · cases b with
    | false =>
      cases row with
      | nil => simp at h
      | cons x r => simp [iI, pxB, prB]
    | true =>
      have hne : row ≠ [] := fun e => by rw [e] at h; simp at h
      have e := (List.dropLast_concat_getLast hne).symm
      have e2 : pxB true row = row.getLast hne := by
        simp only [pxB, if_true]
        rw [List.getLastD_eq_getLast?, List.getLast?_eq_some_getLast hne]; rfl
      have hp : ((iI row).erase (pxB true row : Int)).Perm (iI (prB true row)) := by
        have a1 : (iI row).Perm ((pxB true row : Int) :: iI (prB true row)) := by
          have : iI row = iI (prB true row) ++ [(pxB true row : Int)] := by
            rw [e2]
            conv => lhs; rw [e]
            simp [iI, prB]
          rw [this]
          exact List.perm_append_singleton _ _
        have a2 := a1.erase (pxB true row : Int)
        simpa using a2
      have hsI : (iI row).Pairwise (fun x y => decide (y < x) = false) := by
        unfold iI
        rw [List.pairwise_map]
        exact hs.imp fun h => by simp; omega
      refine perm_uniq sto_int ?_ ?_ hp
      · exact hsI.sublist List.erase_sublist
      · have : (iI (prB true row)).Sublist (iI row) := by
          unfold iI prB
          exact (List.dropLast_sublist _).map _
        exact hsI.sublist this
end Mn
set_option maxHeartbeats 4000000
namespace Mn
open PySem
/-! ### counting pairs -/
def wP (w : Nat × Nat) : PyData := .tuple [.int (w.1 : Int), .int (w.2 : Int)]
theorem py_w (w : Nat × Nat) : D.py (wD w) = some (wP w) := by simp [wD, wP, D.py, D.pyL]
theorem pyL_ws : ∀ ws : List (Nat × Nat), D.pyL (ws.map wD) = some (ws.map wP)
  | [] => rfl
  | w :: ws => by simp [D.pyL, py_w, pyL_ws ws]
theorem sh_w (w : Nat × Nat) : SeqAt.shaped (wP w) = true := by
  simp [SeqAt.shaped, wP, PyData.canLay0, PyData.canLayAll0, PyData.depth, PyData.depthAll]
theorem lay_ws : ∀ ws : List (Nat × Nat), PyData.canLayAll0 (ws.map wP) = true
  | [] => by simp [PyData.canLayAll0]
  | w :: ws => by simp [PyData.canLayAll0, wP, PyData.canLay0, lay_ws ws]
theorem dep_ws : ∀ ws : List (Nat × Nat), PyData.depthAll (ws.map wP) ≤ 2
  | [] => by simp [PyData.depthAll]
  | w :: ws => by
    have := dep_ws ws
    simp [PyData.depthAll, wP, PyData.depth]
    omega
theorem sh_ws (ws : List (Nat × Nat)) : SeqAt.shaped (.list (ws.map wP)) = true := by
  have := dep_ws ws
  simp [SeqAt.shaped, PyData.canLay0, lay_ws, PyData.depth]; omega
theorem eqv_w (v w : Nat × Nat) : PyData.eqv (wP v) (wP w) = decide (v = w) := by
  have e1 : ((v.1 : Int) = (w.1 : Int)) ↔ v.1 = w.1 := by omega
  have e2 : ((v.2 : Int) = (w.2 : Int)) ↔ v.2 = w.2 := by omega
  obtain ⟨a, b⟩ := v
  obtain ⟨c, d⟩ := w
  simp only [wP, PyData.eqv, PyData.eqvAll, Prod.mk.injEq] at *
  by_cases h1 : a = c <;> by_cases h2 : b = d <;> simp [h1, h2, e1, e2]
theorem cnt_w (ws : List (Nat × Nat)) (w : Nat × Nat) : cntD (ws.map wD) (wD w) = some (.int (ws.count w : Int)) := by
  unfold cntD
  rw [pyL_ws, py_w]
  simp only [sh_ws, sh_w, Bool.and_self, if_true]
  congr 3
  rw [List.countP_map, List.count]
  refine List.countP_congr fun v _ => ?_
  simp [eqv_w]
theorem plain_ws : ∀ ws : List (Nat × Nat), D.plainL (ws.map wD) = true
  | [] => rfl
  | w :: ws => by simp [D.plainL, wD, D.plain, plain_ws ws]
theorem plain_nl (f : Nat → Nat) (n : Nat) : D.plainL (nl f n) = true := by
  unfold nl
  generalize List.range n = l
  induction l with
  | nil => rfl
  | cons a l ih => simp [D.plainL, D.plain, ih]
section
variable {lf : Fn} {wf bs n : Nat} {st : Store} {m s : Nat} {on off L : Nat → Nat}
theorem run_law_led (T : Tal m s on off L) (b : Bool) (hst : st.all Cell.plain = true) : run (G lf) wf (n + 1) bs 78 [ln m s, tl on off m, .bl b] st = .ok (tb (ledT b on off m) m) st := by
  have m2 := T.m2
  have m6 := T.m6
  have s9 := T.s9
  have loop := ev_forI (cf := run (G lf) wf n) (wf := wf) (bs := st.length) (σ := [.val (ln m s), .val (tl on off m), .val (.bl b), .un, .un, .un, .ol [], .ol [], .un, .un]) (st := st) (tg := .nm 3) (it := .r1 (.idx (.var 0) (.con (.int 0))))
    (b := [.for_ (.nm 8) (.r1 (.idx (.idx (.var 1) (.con (.int 1))) (.var 3))) [.asg 5 (.pl (.bor 6 (.ite (.var 2) (.bi .max1 (.cons (.var 6) .nil)) (.bi .min1 (.cons (.var 6) .nil))))), .rem 6 (.var 5), .app 7 (.tup (.cons (.var 5) (.cons (.var 3) .nil)))], .asg 6 (.cat 6 (.bin .mul (.lst (.cons (.var 3) .nil)) (.idx (.idx (.var 1) (.con (.int 0))) (.var 3))))]) (xs := rngL 0 m)
    (fun j σ st' => st' = st ∧ ∃ (t : Nat → Nat → Nat) (row : List Nat) (gone : List (Nat × Nat)) (s3 s5 s8 : Sl), σ = [.val (ln m s), .val (tl on off m), .val (.bl b), s3, .un, s5, .ol (iD row), .ol (gone.map wD), s8, .un] ∧ (∀ i k, gone.count (i, k) = t i k) ∧ gone.length ≤ 9 * j ∧ (row, t) = lstB b on off j)
    (by simp [idxS0, rg1_nat (show m ≤ 1000 by omega)]) (fun j x σ st' hx ⟨e, t, row, gone, t3, t5, t8, es, hk, hkl, hr⟩ => by
      subst es
      obtain ⟨hj, rfl⟩ := rngE_get hx
      simp only [Int.zero_add]
      have hoff : off j ≤ row.length := by
        have := lst_off T b hj; rw [← hr] at this; exact this
      have hoff9 := T.off9 hj
      have hrl : row.length ≤ 9 := by
        have := lst_cap T b (Nat.le_of_lt hj); rw [← hr] at this; exact this
      have inner := ev_forI (cf := run (G lf) wf n) (wf := wf) (bs := st.length) (σ := [.val (ln m s), .val (tl on off m), .val (.bl b), .val (.int (j : Int)), .un, t5, .ol (iD row), .ol (gone.map wD), t8, .un]) (st := st') (tg := .nm 8) (it := .r1 (.idx (.idx (.var 1) (.con (.int 1))) (.var 3)))
        (b := [.asg 5 (.pl (.bor 6 (.ite (.var 2) (.bi .max1 (.cons (.var 6) .nil)) (.bi .min1 (.cons (.var 6) .nil))))), .rem 6 (.var 5), .app 7 (.tup (.cons (.var 5) (.cons (.var 3) .nil)))]) (xs := rngL 0 (off j))
        (fun q σ st2 => st2 = st' ∧ ∃ (t : Nat → Nat → Nat) (row2 : List Nat) (gone : List (Nat × Nat)) (s5 s8 : Sl), σ = [.val (ln m s), .val (tl on off m), .val (.bl b), .val (.int (j : Int)), .un, s5, .ol (iD row2), .ol (gone.map wD), s8, .un] ∧ (∀ i k, gone.count (i, k) = t i k) ∧ gone.length ≤ 9 * j + q ∧ (row2, t) = lpop b j q (lstB b on off j))
        (by simp [idxS1, idxS_nl hj, rg1_nat (show off j ≤ 1000 by omega)]) (fun q y σ st2 hy ⟨e2, t, row2, gone, u5, u8, es2, hk, hkl, hq⟩ => by
          subst es2 e2
          obtain ⟨hqo, rfl⟩ := rngE_get hy
          simp only [Int.zero_add]
          have hr1 : row = (lstB b on off j).1 := by rw [← hr]
          have hr2 : row2 = (lpop b j q (lstB b on off j)).1 := by rw [← hq]
          have ht2 : t = (lpop b j q (lstB b on off j)).2 := by rw [← hq]
          have hl2 : row2.length = row.length - q := by rw [hr2, lpop_len, hr1]
          have hpos : 0 < row2.length := by omega
          have hsrt : row2.Pairwise (· ≤ ·) := by rw [hr2]; exact lpop_srt T b hj (by omega)
          obtain ⟨p1, p2, p3⟩ := pick_srt b hpos hsrt
          generalize hxx : pxB b row2 = x at p1 p2 p3
          have bor := ev_bor (cf := run (G lf) wf n) (bs := st.length) (σ := [.val (ln m s), .val (tl on off m), .val (.bl b), .val (.int (j : Int)), .un, u5, .ol (iD row2), .ol (gone.map wD), .val (.int (q : Int)), .un]) (st := st2) (i := 6) (e := .ite (.var 2) (.bi .max1 (.cons (.var 6) .nil)) (.bi .min1 (.cons (.var 6) .nil))) (d := .int (x : Int)) (ds := iD row2) (st1 := st2) rfl (by
            cases b with
            | true =>
              simp only [if_true] at p2
              simp [iD_iI, ints_map, p2]
            | false =>
              simp only [Bool.false_eq_true, if_false] at p2
              have : biD .min1 [.lst (iD row2)] = some (.int (x : Int)) := by
                rw [biD]; simp [iD_iI, ints_map, p2]
              simp [this]) rfl (by rw [e]; exact hst)
          have rem := ev_rem (cf := run (G lf) wf n) (wf := wf) (bs := st.length) (σ := [.val (ln m s), .val (tl on off m), .val (.bl b), .val (.int (j : Int)), .un, .val (.int (x : Int)), .ol (iD row2), .ol (gone.map wD), .val (.int (q : Int)), .un]) (st := st2) (i := 6) (e := .var 5) (ns := iI row2) (k := (x : Int)) (by rw [← iD_iI]; rfl) (by simp) (List.mem_map.mpr ⟨x, p1, rfl⟩)
          rw [p3, ← iD_iI] at rem
          refine ⟨[.val (ln m s), .val (tl on off m), .val (.bl b), .val (.int (j : Int)), .un, u5, .ol (iD row2), .ol (gone.map wD), .val (.int (q : Int)), .un], [.val (ln m s), .val (tl on off m), .val (.bl b), .val (.int (j : Int)), .un, .val (.int (x : Int)), .ol (iD (prB b row2)), .ol ((gone ++ [(x, j)]).map wD), .val (.int (q : Int)), .un], st2, by simp [bindT], ?_, rfl, upT t x j, prB b row2, gone ++ [(x, j)], _, _, rfl, fun i k => ?_, ?_, ?_⟩
          · rw [ev_Scons, ev_asg, ev_pl, bor]
            simp only [Out.bind_ok, Out.fl_ok, Fl.seq_nx, List.set_cons_succ, List.set_cons_zero]
            rw [ev_Scons, rem]
            simp only [Fl.seq_nx, List.set_cons_succ, List.set_cons_zero]
            have hz : szOk ((gone.map wD).length + 1) = true := szOk_of (by rw [List.length_map]; omega)
            rw [ev_Scons, ev_app, app_ol (ds := gone.map wD) rfl]
            rw [List.length_map] at hz
            simp [sz2, hz, wD]
          · rw [List.count_append, hk i k]
            unfold upT
            by_cases z : i = x ∧ k = j
            · rw [if_pos z, z.1, z.2]; simp
            · rw [if_neg z]
              have : ¬ ((x, j) = (i, k)) := fun w => z ⟨(Prod.mk.inj w).1.symm, (Prod.mk.inj w).2.symm⟩
              simp [List.count_cons, this]
          · simp; omega
          · simp only [lpop, ← hr2, ← ht2, hxx]) ⟨rfl, t, row, gone, _, _, rfl, hk, by omega, hr⟩
      obtain ⟨s2, st2, k2, e2, t2, row2, gone2, u5, u8, es2, hk2, hkl2, hq⟩ := inner
      subst e2 es2
      rw [rngE_len] at hq hkl2
      have hr2 : row2 = (lpop b j (off j) (lstB b on off j)).1 := by rw [← hq]
      have ht2 : t2 = (lpop b j (off j) (lstB b on off j)).2 := by rw [← hq]
      have hl2 : row2.length = row.length - off j := by rw [hr2, lpop_len, ← hr]
      have on9 := T.on9 hj
      have mu := @mul_lst1 (.int (j : Int)) (on j) (by omega)
      have ct := ev_cat (cf := run (G lf) wf n) (bs := st.length) (st := st2) (σ := [.val (ln m s), .val (tl on off m), .val (.bl b), .val (.int (j : Int)), .un, u5, .ol (iD row2), .ol (gone2.map wD), u8, .un]) (i := 6) (e := .bin .mul (.lst (.cons (.var 3) .nil)) (.idx (.idx (.var 1) (.con (.int 0))) (.var 3))) (ds := iD row2) (xs := List.replicate (on j) (.int (j : Int))) rfl (by simp [sz1, idxS0, idxS_nl hj, mu]) (by simp [iD]; omega)
      have ic : iD row2 ++ List.replicate (on j) (.int (j : Int)) = iD (row2 ++ List.replicate (on j) j) := by simp [iD]
      rw [ic] at ct
      refine ⟨[.val (ln m s), .val (tl on off m), .val (.bl b), .val (.int (j : Int)), .un, t5, .ol (iD row), .ol (gone.map wD), t8, .un], [.val (ln m s), .val (tl on off m), .val (.bl b), .val (.int (j : Int)), .un, u5, .ol (iD (row2 ++ List.replicate (on j) j)), .ol (gone2.map wD), u8, .un], st2, by simp [bindT], ?_, e, t2, row2 ++ List.replicate (on j) j, gone2, _, _, _, rfl, hk2, by omega, ?_⟩
      · rw [ev_Scons, k2]
        simp only [Fl.seq_nx, ev_Scons, ev_asg, ct]
        simp
      · rw [lstB, ← hr2, ← ht2]) ⟨rfl, fun _ _ => 0, [], [], .un, .un, .un, rfl, fun i k => rfl, by simp, rfl⟩
  obtain ⟨s', st', k1, e, t, row, gone, t3, t5, t8, es, hk, hkl, hr⟩ := loop
  subst e es
  rw [rngE_len] at hr hkl
  have ht : ledT b on off m = t := by unfold ledT; rw [← hr]
  rw [ht]
  refine run_pure rfl rfl rfl ?_ (rb_tb _ _ _) rfl
  have loop2 := ev_forI (cf := run (G lf) wf n) (wf := wf) (bs := st'.length) (σ := [.val (ln m s), .val (tl on off m), .val (.bl b), t3, .ol [], t5, .ol (iD row), .ol (gone.map wD), t8, .un]) (st := st') (tg := .nm 5) (it := .r1 (.bin .sub (.idx (.var 0) (.con (.int 0))) (.con (.int 1))))
    (b := [.app 4 (.bor 7 (.bi .tuple (.cons (.lc [9] (.nm 9) (.r2 (.bin .add (.var 5) (.con (.int 1))) (.idx (.var 0) (.con (.int 0)))) (.cnt (.var 7) (.tup (.cons (.var 5) (.cons (.var 9) .nil))))) .nil)))]) (xs := rngL 0 (m - 1))
    (fun j σ st2 => st2 = st' ∧ ∃ s5, σ = [.val (ln m s), .val (tl on off m), .val (.bl b), t3, .ol ((List.range j).map (rowD t m)), s5, .ol (iD row), .ol (gone.map wD), t8, .un])
    (by
      have : ((m : Int) - 1) = ((m - 1 : Nat) : Int) := by omega
      simp [idxS0, this, rg1_nat (show m - 1 ≤ 1000 by omega)]) (fun j x σ st2 hx ⟨e2, u5, es2⟩ => by
      subst es2 e2
      obtain ⟨hj, rfl⟩ := rngE_get hx
      simp only [Int.zero_add]
      have lc := ev_lcM (cf := run (G lf) wf n) (bs := st2.length) (σ := [.val (ln m s), .val (tl on off m), .val (.bl b), t3, .ol ((List.range j).map (rowD t m)), .val (.int (j : Int)), .ol (iD row), .val (.lst (gone.map wD)), t8, .un]) (st := st2) (own := [9]) (tg := .nm 9) (it := .r2 (.bin .add (.var 5) (.con (.int 1))) (.idx (.var 0) (.con (.int 0)))) (el := .cnt (.var 7) (.tup (.cons (.var 5) (.cons (.var 9) .nil)))) (xs := rngL ((j + 1 : Nat) : Int) (m - (j + 1)))
        (fun x => match x with | .int k => .int (t j k.toNat : Int) | _ => .non) (by
          have r2 := rg2_nat (show j + 1 ≤ 1000 by omega) (show m ≤ 1000 by omega)
          rw [show ((j + 1 : Nat) : Int) = (j : Int) + 1 by omega] at r2
          simp [idxS0, r2]) (fun x hx => by
          obtain ⟨k, hk1, rfl⟩ := List.mem_map.mp hx
          refine ⟨_, rfl, ?_⟩
          have hc := cnt_w gone (j, (j + 1 + k))
          rw [hk] at hc
          have e1 : (((j + 1 : Nat) : Int) + (k : Int)) = ((j + 1 + k : Nat) : Int) := by omega
          rw [ev_cnt]
          simp only [wD] at hc
          rw [e1]
          simp only [Int.toNat_natCast]
          generalize ((j + 1 + k : Nat) : Int) = z at hc ⊢
          simp [wipeS, sz2, hc]) (by rw [rngE_len]; omega)
      have hmap : (rngL ((j + 1 : Nat) : Int) (m - (j + 1))).map (fun x => match x with | .int k => D.int (t j k.toNat : Int) | _ => .non) = nl (fun d => t j (j + 1 + d)) (m - 1 - j) := by
        unfold rngL nl
        rw [List.map_map, show m - (j + 1) = m - 1 - j by omega]
        refine List.map_congr_left fun k _ => ?_
        have e1 : (((j + 1 : Nat) : Int) + (k : Int)) = ((j + 1 + k : Nat) : Int) := by omega
        simp only [Function.comp, e1, Int.toNat_natCast]
      rw [hmap] at lc
      have bor := ev_bor (cf := run (G lf) wf n) (bs := st2.length) (σ := [.val (ln m s), .val (tl on off m), .val (.bl b), t3, .ol ((List.range j).map (rowD t m)), .val (.int (j : Int)), .ol (iD row), .ol (gone.map wD), t8, .un]) (st := st2) (i := 7) (e := .bi .tuple (.cons (.lc [9] (.nm 9) (.r2 (.bin .add (.var 5) (.con (.int 1))) (.idx (.var 0) (.con (.int 0)))) (.cnt (.var 7) (.tup (.cons (.var 5) (.cons (.var 9) .nil))))) .nil)) (d := rowD t m j) (ds := gone.map wD) (st1 := st2) rfl (by
        simp only [List.set_cons_succ, List.set_cons_zero]
        rw [ev_bi, ev_cons, lc]
        simp [rowD]) (by simp [rowD, D.plain, plain_nl]) hst
      refine ⟨[.val (ln m s), .val (tl on off m), .val (.bl b), t3, .ol ((List.range j).map (rowD t m)), .val (.int (j : Int)), .ol (iD row), .ol (gone.map wD), t8, .un], [.val (ln m s), .val (tl on off m), .val (.bl b), t3, .ol ((List.range (j + 1)).map (rowD t m)), .val (.int (j : Int)), .ol (iD row), .ol (gone.map wD), t8, .un], st2, by simp [bindT], ?_, rfl, _, rfl⟩
      have hz : szOk (((List.range j).map (rowD t m)).length + 1) = true := szOk_of (by simp; omega)
      rw [ev_Scons, ev_app, app_ol (ds := (List.range j).map (rowD t m)) rfl, bor]
      simp only [Out.fl_ok, hz, if_true, Fl.seq_nx, ev_Snil]
      simp [List.range_succ]) ⟨rfl, t5, rfl⟩
  obtain ⟨s2, st2, k2, e2, u5, es2⟩ := loop2
  subst e2 es2
  rw [rngE_len] at k2
  simp only [f_law_led]
  rw [ev_Scons, ev_asgQ]
  simp [sz0, setSl, k1, k2, tb]
end
end Mn
set_option maxHeartbeats 4000000
namespace Mn
open PySem
/-! ### the law's own pairs -/
theorem mile_filter (w v : Nat × Nat) : (((List.range (w.2 - w.1)).map fun (k : Nat) => ((w.1 : Int) + (k : Int))).filter fun q => decide ((v.1 : Int) ≤ q) && decide (q < (v.2 : Int))).isEmpty = !share w v := by
  rw [Bool.eq_iff_iff]
  unfold share
  simp only [List.isEmpty_iff, List.filter_eq_nil_iff, List.mem_map, List.mem_range, Bool.not_eq_true', decide_eq_false_iff_not, Bool.and_eq_true, decide_eq_true_eq]
  constructor
  · intro h z
    refine h ((w.1 : Int) + ((max w.1 v.1 - w.1 : Nat) : Int)) ⟨max w.1 v.1 - w.1, by omega, rfl⟩ ⟨by omega, by omega⟩
  · rintro h q ⟨k, hk, rfl⟩ ⟨h1, h2⟩
    omega
theorem int_bit (b : Bool) : (if b = true then (1 : Int) else 0) = (bit b : Int) := by cases b <;> rfl
section
variable {cf : Nat → Nat → List D → Store → Out D} {bs wf : Nat} {st : Store} {a0 a1 a2 a3 a4 a5 b8 b9 b10 b11 b12 : Sl}
theorem ev_tog (R : Ri) (hR : ∀ v ∈ R, v.1 < v.2 ∧ v.2 < 1000) (hl : R.length ≤ 1000) : ∃ s8 s9 s10 s11 s12, evS cf wf bs [a0, a1, a2, a3, a4, a5, .val (.lst (R.map wD)), .val (.int 0), b8, b9, b10, b11, b12] st
    (.for_ (.tp [8, 9]) (.en (.var 6)) [.asg 10 (.pl (.bi .listRng (.cons (.idx (.var 9) (.con (.int 0))) (.cons (.idx (.var 9) (.con (.int 1))) .nil)))), .for_ (.nm 11) (.ov (.slc (.var 6) (.so (.bin .add (.var 8) (.con (.int 1)))) .no)) [.asg 7 (.pl (.bin .add (.var 7) (.bi .int (.cons (.cmp .ne (.lcf [12] (.nm 12) (.ov (.var 10)) (.var 12) (.chn .le .lt (.idx (.var 11) (.con (.int 0))) (.var 12) (.idx (.var 11) (.con (.int 1))))) (.lst .nil)) .nil))))]])
    = .nx [a0, a1, a2, a3, a4, a5, .val (.lst (R.map wD)), .val (.int (tog R : Int)), s8, s9, s10, s11, s12] st := by
  have loop := ev_forI (cf := cf) (wf := wf) (bs := bs) (σ := [a0, a1, a2, a3, a4, a5, .val (.lst (R.map wD)), .val (.int 0), b8, b9, b10, b11, b12]) (st := st) (tg := .tp [8, 9]) (it := .en (.var 6))
    (b := [.asg 10 (.pl (.bi .listRng (.cons (.idx (.var 9) (.con (.int 0))) (.cons (.idx (.var 9) (.con (.int 1))) .nil)))), .for_ (.nm 11) (.ov (.slc (.var 6) (.so (.bin .add (.var 8) (.con (.int 1)))) .no)) [.asg 7 (.pl (.bin .add (.var 7) (.bi .int (.cons (.cmp .ne (.lcf [12] (.nm 12) (.ov (.var 10)) (.var 12) (.chn .le .lt (.idx (.var 11) (.con (.int 0))) (.var 12) (.idx (.var 11) (.con (.int 1))))) (.lst .nil)) .nil))))]])
    (xs := (List.range R.length).map fun (i : Nat) => .tup [.int (i : Int), wD (R.getD i (0, 0))])
    (fun j σ st' => st' = st ∧ ∃ (x : Nat) (s8 s9 s10 s11 s12 : Sl), σ = [a0, a1, a2, a3, a4, a5, .val (.lst (R.map wD)), .val (.int (x : Int)), s8, s9, s10, s11, s12] ∧ x + tog (R.drop j) = tog R)
    (by simp [enum_ws]) (fun j y σ st' hx ⟨e, x, s8, s9, s10, s11, s12, es, hp⟩ => by
      subst es
      have hj : j < R.length := by have := (List.getElem?_eq_some_iff.mp hx).1; simpa using this
      obtain ⟨w, hw⟩ : ∃ w, R[j]? = some w := ⟨R[j], by simp [hj]⟩
      have hgd : R.getD j (0, 0) = w := by simp [List.getD, hw]
      have hx : y = .tup [.int (j : Int), wD w] := by
        simp [hj] at hx
        rw [← hx, ← hgd]; simp [List.getD, hj]
      subst hx
      have hwm := hR w (List.mem_of_getElem? hw)
      rw [drop_cons_of hw, tog] at hp
      have lr : biD .listRng [.int (w.1 : Int), .int (w.2 : Int)] = some (.lst (rngL (w.1 : Int) (w.2 - w.1))) := by
        have r1 : rngOk (w.1 : Int) = true := by unfold rngOk; simp; omega
        have r2 : rngOk (w.2 : Int) = true := by unfold rngOk; simp; omega
        have e : ((w.2 : Int) - (w.1 : Int)).toNat = w.2 - w.1 := by omega
        have z : szOk (w.2 - w.1) = true := szOk_of (by omega)
        simp only [biD, r1, r2, e, z, Bool.and_self, if_true]
      have inner := ev_forI (cf := cf) (wf := wf) (bs := bs) (σ := [a0, a1, a2, a3, a4, a5, .val (.lst (R.map wD)), .val (.int (x : Int)), .val (.int (j : Int)), .val (wD w), .val (.lst (rngL (w.1 : Int) (w.2 - w.1))), s11, s12]) (st := st') (tg := .nm 11) (it := .ov (.slc (.var 6) (.so (.bin .add (.var 8) (.con (.int 1)))) .no))
        (b := [.asg 7 (.pl (.bin .add (.var 7) (.bi .int (.cons (.cmp .ne (.lcf [12] (.nm 12) (.ov (.var 10)) (.var 12) (.chn .le .lt (.idx (.var 11) (.con (.int 0))) (.var 12) (.idx (.var 11) (.con (.int 1))))) (.lst .nil)) .nil))))])
        (xs := (R.drop (j + 1)).map wD)
        (fun k σ st2 => st2 = st' ∧ ∃ (z : Nat) (s11 : Sl), σ = [a0, a1, a2, a3, a4, a5, .val (.lst (R.map wD)), .val (.int (z : Int)), .val (.int (j : Int)), .val (wD w), .val (.lst (rngL (w.1 : Int) (w.2 - w.1))), s11, s12] ∧ z + sR (fun v => bit (share w v)) ((R.drop (j + 1)).drop k) = x + sR (fun v => bit (share w v)) (R.drop (j + 1)))
        (by have := slc_from (R.map wD) (j + 1); push_cast at this; simp [this, List.map_drop]) (fun k y σ st2 hy ⟨e2, z, s11, es2, hz⟩ => by
          subst es2
          rw [List.getElem?_map] at hy
          obtain ⟨v, hv, rfl⟩ := Option.map_eq_some_iff.mp hy
          rw [drop_cons_of hv, sR_cons] at hz
          have lc := ev_lcF (cf := cf) (bs := bs) (st := st2) (σ := [a0, a1, a2, a3, a4, a5, .val (.lst (R.map wD)), .val (.int (z : Int)), .val (.int (j : Int)), .val (wD w), .val (.lst (rngL (w.1 : Int) (w.2 - w.1))), .val (wD v), s12]) (own := [12]) (tg := .nm 12) (it := .ov (.var 10)) (el := .var 12) (cnd := .chn .le .lt (.idx (.var 11) (.con (.int 0))) (.var 12) (.idx (.var 11) (.con (.int 1)))) (xs := rngL (w.1 : Int) (w.2 - w.1)) (fun x => x) (fun x => match x with | .int q => decide ((v.1 : Int) ≤ q) && decide (q < (v.2 : Int)) | _ => false)
            (by simp) (fun x hx => by
              obtain ⟨c, hc, rfl⟩ := List.mem_map.mp hx
              refine ⟨[a0, a1, a2, a3, a4, a5, .val (.lst (R.map wD)), .val (.int (z : Int)), .val (.int (j : Int)), .val (wD w), .val (.lst (rngL (w.1 : Int) (w.2 - w.1))), .val (wD v), .val (.int ((w.1 : Int) + (c : Int)))], by simp [wipeS, bindT], ?_, by simp⟩
              by_cases h1 : (v.1 : Int) ≤ (w.1 : Int) + (c : Int)
              · simp [wD0, wD1, h1]
              · simp [wD0, wD1, h1]) (by rw [rngE_len]; omega)
          have ef : ((rngL (w.1 : Int) (w.2 - w.1)).filter (fun x => match x with | .int q => decide ((v.1 : Int) ≤ q) && decide (q < (v.2 : Int)) | _ => false)).map (fun x => x) = (((List.range (w.2 - w.1)).map fun (k : Nat) => ((w.1 : Int) + (k : Int))).filter fun q => decide ((v.1 : Int) ≤ q) && decide (q < (v.2 : Int))).map .int := by
            have er : rngL (w.1 : Int) (w.2 - w.1) = ((List.range (w.2 - w.1)).map fun (k : Nat) => ((w.1 : Int) + (k : Int))).map .int := by simp [rngL, List.map_map]
            rw [er, List.filter_map, List.map_id']
            rfl
          rw [ef] at lc
          have ne := ne_ints (((List.range (w.2 - w.1)).map fun (k : Nat) => ((w.1 : Int) + (k : Int))).filter fun q => decide ((v.1 : Int) ≤ q) && decide (q < (v.2 : Int)))
          rw [mile_filter, Bool.not_not] at ne
          refine ⟨[a0, a1, a2, a3, a4, a5, .val (.lst (R.map wD)), .val (.int (z : Int)), .val (.int (j : Int)), .val (wD w), .val (.lst (rngL (w.1 : Int) (w.2 - w.1))), .val (wD v), s12],
            [a0, a1, a2, a3, a4, a5, .val (.lst (R.map wD)), .val (.int ((z + bit (share w v) : Nat) : Int)), .val (.int (j : Int)), .val (wD w), .val (.lst (rngL (w.1 : Int) (w.2 - w.1))), .val (wD v), s12], st2, by simp [bindT], ?_, e2, _, _, rfl, by omega⟩
          generalize (((List.range (w.2 - w.1)).map fun (k : Nat) => ((w.1 : Int) + (k : Int))).filter fun q => decide ((v.1 : Int) ≤ q) && decide (q < (v.2 : Int))).map D.int = l at lc ne
          simp only [ev_Scons, ev_asg, ev_pl, ev_bin, ev_bi, ev_cmp, ev_var]
          simp [lc, ne, sz0, int_bit]) ⟨rfl, x, _, rfl, by simp⟩
      obtain ⟨s3, st3, k3, e3, z, u11, es3, hz⟩ := inner
      subst e3 es3
      rw [List.length_map, List.drop_length, sR_nil, Nat.add_zero] at hz
      refine ⟨[a0, a1, a2, a3, a4, a5, .val (.lst (R.map wD)), .val (.int (x : Int)), .val (.int (j : Int)), .val (wD w), s10, s11, s12], [a0, a1, a2, a3, a4, a5, .val (.lst (R.map wD)), .val (.int (z : Int)), .val (.int (j : Int)), .val (wD w), .val (.lst (rngL (w.1 : Int) (w.2 - w.1))), u11, s12], st3, by simp [bindT, setAll], ?_, e, z, _, _, _, _, _, rfl, by omega⟩
      simp only [ev_Scons, ev_asg, ev_pl, ev_bi, ev_cons, ev_nil, ev_idx, ev_var]
      simp [wD0, wD1, lr, k3]) ⟨rfl, 0, _, _, _, _, _, rfl, by simp⟩
  obtain ⟨s', st', k1, e, x, s8, s9, s10, s11, s12, es, hp⟩ := loop
  subst e es
  have hx : x = tog R := by
    simp [tog] at hp
    exact hp
  subst hx
  exact ⟨s8, s9, s10, s11, s12, k1⟩
end
end Mn
set_option maxHeartbeats 4000000
namespace Mn
open PySem
theorem Tab.le9 {m s : Nat} {on off L : Nat → Nat} {t : Nat → Nat → Nat} (T : Tal m s on off L) (B : Tab m on off t) : ∀ i j, i < j → j < m → t i j ≤ 9 := fun i j h1 h2 => by
  have a := le_sumN (f := fun d => t i (i + 1 + d)) (k := j - i - 1) (m := m - 1 - i) (by omega)
  rw [B.row i (by omega)] at a
  have b := T.on9 (k := i) (by omega)
  have := T.s9
  have e : i + 1 + (j - i - 1) = j := by omega
  simp only [e] at a
  omega
theorem len_on (m : Nat) : ∀ R : Ri, (∀ v ∈ R, v.1 < v.2 ∧ v.2 < m) → sumN (onR R) m = R.length
  | [], _ => sumN_zero fun _ _ => rfl
  | w :: R, h => by
    have e : ∀ k, onR (w :: R) k = (if k = w.1 then 1 else 0) + onR R k := fun k => by
      unfold onR
      rw [sR_cons]
      by_cases z : k = w.1
      · simp [bit, z]
      · simp [bit, z, show ¬ w.1 = k from fun y => z y.symm]
    rw [sumN_congr (fun k _ => e k), sumN_add, len_on m R fun u hu => h u (List.mem_cons_of_mem _ hu), sumN_one (fun _ => 1), if_pos (by have := h w List.mem_cons_self; omega)]
    simp; omega
theorem law_len {m s : Nat} {on off L : Nat → Nat} {t : Nat → Nat → Nat} (T : Tal m s on off L) (B : Tab m on off t) : (ridersT (fun w => t w.1 w.2) (waysT m m)).length = sumN on m := by
  have hv := riders_ok m (fun w => t w.1 w.2)
  have m2 := T.m2
  rw [← len_on m _ hv]
  exact sumN_congr fun k hk => by
    by_cases e : k = m - 1
    · subst e; rw [on_last _ hv, T.onend]
    · exact on_riders B (by omega)
theorem sR_cast (R : Ri) : (R.map fun w => (((w.2 - w.1 : Nat)) : Int)).sum = (sR (fun w => w.2 - w.1) R : Int) := by
  induction R with
  | nil => rfl
  | cons w R ih => simp [ih]
section
variable {lf : Fn} {wf bs n : Nat} {st : Store} {m s : Nat} {on off L : Nat → Nat} {t : Nat → Nat → Nat} {a0 a1 c5 c6 c7 c8 c9 c10 c11 c12 : Sl}
theorem ev_ridden (R : Ri) (hR : ∀ v ∈ R, v.1 < v.2 ∧ v.2 < m) (hl : R.length ≤ 1000) {cf : Nat → Nat → List D → Store → Out D} {σ : List Sl} (h6 : σ[6]? = some (.val (.lst (R.map wD)))) (hσ : σ.length = 13) : evE cf bs σ st (.bi .sum (.cons (.lc [9, 11] (.tp [9, 11]) (.ov (.var 6)) (.bin .sub (.var 11) (.var 9))) .nil)) = .ok (.int (sR (fun w => w.2 - w.1) R : Int)) st := by
  have lc := ev_lcM (cf := cf) (bs := bs) (st := st) (σ := σ) (own := [9, 11]) (tg := .tp [9, 11]) (it := .ov (.var 6)) (el := .bin .sub (.var 11) (.var 9)) (xs := R.map wD) (fun x => match x with | .tup [.int i, .int j] => .int (j - i) | _ => .non)
    (by simp [h6]) (fun x hx => by
      obtain ⟨w, hw, rfl⟩ := List.mem_map.mp hx
      refine ⟨_, by simp only [wD, bindT, setAll, List.length_cons, List.length_nil, if_true]; rfl, ?_⟩
      show evE _ _ _ _ _ = .ok (.int ((w.2 : Int) - (w.1 : Int))) st
      simp [wipeS, setAll, hσ]) (by simp; omega)
  have em : (R.map wD).map (fun x => match x with | .tup [.int i, .int j] => D.int (j - i) | _ => .non) = (R.map fun w => (((w.2 - w.1 : Nat)) : Int)).map .int := by
    rw [List.map_map, List.map_map]
    refine List.map_congr_left fun w hw => ?_
    have := hR w hw
    simp [wD]
    omega
  rw [em] at lc
  have hs := sR_cast R
  generalize (R.map fun w => (((w.2 - w.1 : Nat)) : Int)) = l at lc hs
  simp [lc, ints_map, hs]
end
end Mn
set_option maxHeartbeats 4000000
namespace Mn
open PySem
section
variable {lf : Fn} {wf bs n : Nat} {st : Store} {m s : Nat} {on off L : Nat → Nat} {t : Nat → Nat → Nat} {a0 a1 c5 c6 c7 c8 c9 c10 c11 c12 : Sl}
def body1 : List S := [.asgP [6, 7] [(.pl (.call 72 (.cons (.var 2) (.cons (.var 4) .nil)))), (.pl (.con (.int 0)))], .for_ (.tp [8, 9]) (.en (.var 6)) [.asg 10 (.pl (.bi .listRng (.cons (.idx (.var 9) (.con (.int 0))) (.cons (.idx (.var 9) (.con (.int 1))) .nil)))), .for_ (.nm 11) (.ov (.slc (.var 6) (.so (.bin .add (.var 8) (.con (.int 1)))) .no)) [.asg 7 (.pl (.bin .add (.var 7) (.bi .int (.cons (.cmp .ne (.lcf [12] (.nm 12) (.ov (.var 10)) (.var 12) (.chn .le .lt (.idx (.var 11) (.con (.int 0))) (.var 12) (.idx (.var 11) (.con (.int 1))))) (.lst .nil)) .nil))))]], .asg 5 (.pl (.bi .sum (.cons (.lc [9, 11] (.tp [9, 11]) (.ov (.var 6)) (.bin .sub (.var 11) (.var 9))) .nil))), .ifs (.or (.cons (.cmp .ne (.call 17 (.cons (.var 2) (.cons (.var 3) .nil))) (.var 5)) (.cons (.cmp .ne (.call 47 (.cons (.var 2) (.cons (.var 3) (.cons (.var 4) .nil)))) (.var 5)) .nil))) [.ret (.con (.bl false))] [], .ifs (.or (.cons (.cmp .ne (.call 70 (.cons (.var 2) (.cons (.var 3) .nil))) (.var 7)) (.cons (.cmp .ne (.call 49 (.cons (.var 2) (.cons (.var 3) (.cons (.var 4) .nil)))) (.var 7)) .nil))) [.ret (.con (.bl false))] [], .ifs (.or (.cons (.cmp .ne (.bi .sum (.cons (.call 9 (.cons (.var 2) (.cons (.var 3) .nil))) .nil)) (.var 5)) (.cons (.cmp .ne (.bi .len (.cons (.var 6) .nil)) (.bi .sum (.cons (.idx (.var 3) (.con (.int 0))) .nil))) .nil))) [.ret (.con (.bl false))] []]
def body2 : List S := [.ifs (.cmp .ne (.call 47 (.cons (.var 2) (.cons (.var 3) (.cons (.var 4) .nil)))) (.call 17 (.cons (.var 2) (.cons (.var 3) .nil)))) [.ret (.con (.bl false))] [], .ifs (.cmp .ne (.call 49 (.cons (.var 2) (.cons (.var 3) (.cons (.var 4) .nil)))) (.call 70 (.cons (.var 2) (.cons (.var 3) .nil)))) [.ret (.con (.bl false))] []]
theorem one_table (T : Tal m s on off L) (B : Tab m on off t) : ∃ s5 s6 s7 s8 s9 s10 s11 s12, evSs (run (G lf) wf (n + 6)) wf bs [a0, a1, .val (ln m s), .val (tl on off m), .val (tb t m), c5, c6, c7, c8, c9, c10, c11, c12] st body1 = .nx [a0, a1, .val (ln m s), .val (tl on off m), .val (tb t m), s5, s6, s7, s8, s9, s10, s11, s12] st := by
  have m6 := T.m6
  have h9 := Tab.le9 T B
  have rd := @run_riders lf wf bs (n + 4) st m s m6 t h9
  have e1 := law_miles T B
  have e2 := law_pairs T B
  have e3 := law_len T B
  have p1 := pOf_tog (fun w => t w.1 w.2) (waysT m m) (fun w hw => (mem_ways hw).2.1)
  have q1 := @run_miles lf wf bs (n + 1) st m s on off L T
  have q2 := @run_miles_of lf wf bs n st m s on off L T t B
  have q3 := @run_pairs lf wf bs (n + 1) st m s on off L T
  have q4 := @run_pairs_of lf wf bs n st m s on off L T t B h9
  have q5 := @run_loads lf wf bs (n + 1) st m s on off L T
  have w1 : sumW (fun w => (w.2 - w.1) * t w.1 w.2) (waysT m m) = sumN L m := by
    rw [e1, sR_riders]
    show sR _ _ = sR _ _
    exact sR_congr fun w _ => Nat.mul_comm _ _
  have hok := riders_ok m (fun w => t w.1 w.2)
  have hlen : (ridersT (fun w => t w.1 w.2) (waysT m m)).length ≤ 1000 := by
    have := riders_len (fun w => t w.1 w.2) (fun _ => .inr trivial) (waysT m m) (fun w hw => h9 w.1 w.2 (mem_ways hw).2.1 (mem_ways hw).2.2)
    have l1 := waysT_len m m
    have l3 : m * m ≤ 36 := Nat.le_trans (Nat.mul_le_mul m6 m6) (by omega)
    omega
  rw [p1, ← e2] at q4
  rw [w1] at q2
  generalize ridersT (fun w => t w.1 w.2) (waysT m m) = R at rd e1 e2 e3 hok hlen
  obtain ⟨s8, s9, s10, s11, s12, lp⟩ := @ev_tog (run (G lf) wf (n + 6)) bs wf st a0 a1 (.val (ln m s)) (.val (tl on off m)) (.val (tb t m)) c5 c8 c9 c10 c11 c12 R (fun v hv => by have := hok v hv; omega) hlen
  have rid := @ev_ridden bs st m R hok hlen (run (G lf) wf (n + 6)) [a0, a1, .val (ln m s), .val (tl on off m), .val (tb t m), c5, .val (.lst (R.map wD)), .val (.int (tog R : Int)), s8, s9, s10, s11, s12] rfl rfl
  rw [← e1] at rid
  rw [← e2] at lp rid
  have son : ((List.range m).map fun k => (on k : Int)).sum = (R.length : Int) := by rw [sum_cast, e3]; rfl
  have sL : ((List.range m).map fun k => (L k : Int)).sum = (sumN L m : Int) := by rw [sum_cast]; rfl
  refine ⟨.val (.int (sumN L m : Int)), .val (.lst (R.map wD)), .val (.int (prs on off L m : Int)), s8, s9, s10, s11, s12, ?_⟩
  unfold body1
  rw [ev_Scons]
  have st1 : evS (run (G lf) wf (n + 6)) wf bs [a0, a1, .val (ln m s), .val (tl on off m), .val (tb t m), c5, c6, c7, c8, c9, c10, c11, c12] st (.asgP [6, 7] [(.pl (.call 72 (.cons (.var 2) (.cons (.var 4) .nil)))), (.pl (.con (.int 0)))]) = .nx [a0, a1, .val (ln m s), .val (tl on off m), .val (tb t m), c5, .val (.lst (R.map wD)), .val (.int 0), c8, c9, c10, c11, c12] st := by
    simp [rd, setSl]
  rw [st1, Fl.seq_nx, ev_Scons, lp, Fl.seq_nx, ev_Scons, ev_asg, ev_pl, rid]
  simp [q1, q2, q3, q4, q5, cm_ne, ints_nl, sL, son, idxS0]
theorem one_led (T : Tal m s on off L) (B : Tab m on off t) : evSs (run (G lf) wf (n + 6)) wf bs [a0, a1, .val (ln m s), .val (tl on off m), .val (tb t m), c5, c6, c7, c8, c9, c10, c11, c12] st body2 = .nx [a0, a1, .val (ln m s), .val (tl on off m), .val (tb t m), c5, c6, c7, c8, c9, c10, c11, c12] st := by
  have h9 := Tab.le9 T B
  have e1 := law_miles T B
  have e2 := law_pairs T B
  have p1 := pOf_tog (fun w => t w.1 w.2) (waysT m m) (fun w hw => (mem_ways hw).2.1)
  have q1 := @run_miles lf wf bs (n + 1) st m s on off L T
  have q2 := @run_miles_of lf wf bs n st m s on off L T t B
  have q3 := @run_pairs lf wf bs (n + 1) st m s on off L T
  have q4 := @run_pairs_of lf wf bs n st m s on off L T t B h9
  have w1 : sumW (fun w => (w.2 - w.1) * t w.1 w.2) (waysT m m) = sumN L m := by
    rw [e1, sR_riders]
    show sR _ _ = sR _ _
    exact sR_congr fun w _ => Nat.mul_comm _ _
  rw [p1, ← e2] at q4
  rw [w1] at q2
  unfold body2
  simp [q1, q2, q3, q4, cm_ne]
end
end Mn
set_option maxHeartbeats 4000000
namespace Mn
open PySem
/-- what _law_tables gives -/
def TabsOk (lf : Fn) (wf : Nat) : Prop := ∀ (n bs : Nat) (st : Store) (m s : Nat) (on off L : Nat → Nat), s ≤ 6 → Tal m s on off L → ∃ ts : List (Nat → Nat → Nat), (∀ t ∈ ts, Tab m on off t) ∧ run (G lf) wf (n + 1) bs 52 [ln m s, tl on off m] st = .ok (.lst (ts.map fun t => tb t m)) st
section
variable {lf : Fn} {wf bs n : Nat} {st : Store} {m s : Nat} {on off L : Nat → Nat} {a0 a1 c4 c5 c6 c7 c8 c9 c10 c11 c12 : Sl}
theorem loop1 (H : TabsOk lf wf) (hs : s ≤ 6) (T : Tal m s on off L) : ∃ s4 s5 s6 s7 s8 s9 s10 s11 s12, evS (run (G lf) wf (n + 6)) wf bs [a0, a1, .val (ln m s), .val (tl on off m), c4, c5, c6, c7, c8, c9, c10, c11, c12] st
    (.for_ (.nm 4) (.ov (.slc (.call 52 (.cons (.var 2) (.cons (.var 3) .nil))) .no (.so (.con (.int 40))))) body1) = .nx [a0, a1, .val (ln m s), .val (tl on off m), s4, s5, s6, s7, s8, s9, s10, s11, s12] st := by
  obtain ⟨ts, hts, e⟩ := H (n + 5) bs st m s on off L hs T
  have sl := slc_to (ts.map fun t => tb t m) 40
  have loop := ev_forI (cf := run (G lf) wf (n + 6)) (wf := wf) (bs := bs) (σ := [a0, a1, .val (ln m s), .val (tl on off m), c4, c5, c6, c7, c8, c9, c10, c11, c12]) (st := st) (tg := .nm 4) (it := .ov (.slc (.call 52 (.cons (.var 2) (.cons (.var 3) .nil))) .no (.so (.con (.int 40))))) (b := body1) (xs := (ts.take 40).map fun t => tb t m)
    (fun j σ st' => st' = st ∧ ∃ s4 s5 s6 s7 s8 s9 s10 s11 s12, σ = [a0, a1, .val (ln m s), .val (tl on off m), s4, s5, s6, s7, s8, s9, s10, s11, s12])
    (by simp [e]; have := sl; simp at this; rw [this]; simp [List.map_take]) (fun j x σ st' hx ⟨e, s4, s5, s6, s7, s8, s9, s10, s11, s12, es⟩ => by
      subst es
      rw [List.getElem?_map] at hx
      obtain ⟨t, ht, rfl⟩ := Option.map_eq_some_iff.mp hx
      obtain ⟨u5, u6, u7, u8, u9, u10, u11, u12, k⟩ := @one_table lf wf bs n st' m s on off L t a0 a1 s5 s6 s7 s8 s9 s10 s11 s12 T (hts t (List.mem_of_mem_take (List.mem_of_getElem? ht)))
      exact ⟨[a0, a1, .val (ln m s), .val (tl on off m), .val (tb t m), s5, s6, s7, s8, s9, s10, s11, s12], _, st', by simp [bindT], k, e, _, _, _, _, _, _, _, _, _, rfl⟩) ⟨rfl, _, _, _, _, _, _, _, _, _, rfl⟩
  obtain ⟨s', st', k1, e, s4, s5, s6, s7, s8, s9, s10, s11, s12, es⟩ := loop
  subst e es
  exact ⟨s4, s5, s6, s7, s8, s9, s10, s11, s12, k1⟩
theorem loop2 (T : Tal m s on off L) : ∃ s4 s5 s6 s7 s8 s9 s10 s11 s12, evS (run (G lf) wf (n + 6)) wf bs [a0, a1, .val (ln m s), .val (tl on off m), c4, c5, c6, c7, c8, c9, c10, c11, c12] st
    (.for_ (.nm 4) (.ov (.lst (.cons (.call 16 (.cons (.var 2) (.cons (.var 3) .nil))) (.cons (.call 71 (.cons (.var 2) (.cons (.var 3) .nil))) .nil)))) body2) = .nx [a0, a1, .val (ln m s), .val (tl on off m), s4, s5, s6, s7, s8, s9, s10, s11, s12] st := by
  obtain ⟨t1, B1, e1⟩ := @run_first_off lf wf bs (n + 1) st m s on off L T
  obtain ⟨t2, B2, e2⟩ := @run_last_off lf wf bs (n + 1) st m s on off L T
  have loop := ev_forI (cf := run (G lf) wf (n + 6)) (wf := wf) (bs := bs) (σ := [a0, a1, .val (ln m s), .val (tl on off m), c4, c5, c6, c7, c8, c9, c10, c11, c12]) (st := st) (tg := .nm 4) (it := .ov (.lst (.cons (.call 16 (.cons (.var 2) (.cons (.var 3) .nil))) (.cons (.call 71 (.cons (.var 2) (.cons (.var 3) .nil))) .nil)))) (b := body2) (xs := [t1, t2].map fun t => tb t m)
    (fun j σ st' => st' = st ∧ ∃ s4 s5 s6 s7 s8 s9 s10 s11 s12, σ = [a0, a1, .val (ln m s), .val (tl on off m), s4, s5, s6, s7, s8, s9, s10, s11, s12])
    (by simp [e1, e2, sz2]) (fun j x σ st' hx ⟨e, s4, s5, s6, s7, s8, s9, s10, s11, s12, es⟩ => by
      subst es
      rw [List.getElem?_map] at hx
      obtain ⟨t, ht, rfl⟩ := Option.map_eq_some_iff.mp hx
      have hm := List.mem_of_getElem? ht
      have B : Tab m on off t := by
        simp at hm
        rcases hm with rfl | rfl
        · exact B1
        · exact B2
      exact ⟨[a0, a1, .val (ln m s), .val (tl on off m), .val (tb t m), s5, s6, s7, s8, s9, s10, s11, s12], _, st', by simp [bindT], one_led T B, e, _, _, _, _, _, _, _, _, _, rfl⟩) ⟨rfl, _, _, _, _, _, _, _, _, _, rfl⟩
  obtain ⟨s', st', k1, e, s4, s5, s6, s7, s8, s9, s10, s11, s12, es⟩ := loop
  subst e es
  exact ⟨s4, s5, s6, s7, s8, s9, s10, s11, s12, k1⟩
end
end Mn
set_option maxHeartbeats 4000000
namespace Mn
open PySem
/-! ### the law's own tables: entries -/
def colT (j : Nat) : Ri := (List.range j).flatMap fun k => (List.range k).map fun i => (i, k)
def keysT (j a : Nat) : Ri := colT j ++ (List.range a).map fun i => (i, j)
def kvT (ks : Ri) (t : Nat → Nat → Nat) : List (D × D) := ks.map fun w => (wD w, .int (t w.1 w.2 : Int))
theorem colT_succ (j : Nat) : colT (j + 1) = keysT j j := by simp [colT, keysT, List.range_succ]
theorem keysT_zero (j : Nat) : keysT j 0 = colT j := by simp [keysT]
theorem keysT_succ (j a : Nat) : keysT j (a + 1) = keysT j a ++ [(a, j)] := by simp [keysT, List.range_succ]
theorem mem_colT {j : Nat} {w : Nat × Nat} : w ∈ colT j ↔ w.1 < w.2 ∧ w.2 < j := by
  unfold colT
  simp only [List.mem_flatMap, List.mem_range, List.mem_map]
  constructor
  · rintro ⟨k, hk, i, hi, rfl⟩; exact ⟨hi, hk⟩
  · rintro ⟨h1, h2⟩; exact ⟨w.2, h2, w.1, h1, rfl⟩
theorem mem_keysT {j a : Nat} {w : Nat × Nat} : w ∈ keysT j a ↔ (w.1 < w.2 ∧ w.2 < j) ∨ (w.1 < a ∧ w.2 = j) := by
  unfold keysT
  rw [List.mem_append, mem_colT]
  simp only [List.mem_map, List.mem_range]
  constructor
  · rintro (h | ⟨i, hi, rfl⟩)
    · exact .inl h
    · exact .inr ⟨hi, rfl⟩
  · rintro (h | ⟨h1, h2⟩)
    · exact .inl h
    · exact .inr ⟨w.1, h1, by rw [← h2]⟩
theorem get_kvT {t : Nat → Nat → Nat} {w : Nat × Nat} : ∀ {ks : Ri}, w ∈ ks → getD (kvT ks t) (wD w) = some (.int (t w.1 w.2 : Int))
  | [], h => nomatch h
  | v :: ks, h => by
    by_cases e : v = w
    · subst e; simp [kvT, getD, List.find?_cons]
    · have ih := get_kvT (t := t) (ks := ks) ((List.mem_cons.mp h).resolve_left fun z => e z.symm)
      have : ¬ wD v = wD w := fun z => e (wD_inj z)
      simp only [kvT, getD, List.map_cons, List.find?_cons, this, decide_false] at ih ⊢
      exact ih
theorem get_kvN {t : Nat → Nat → Nat} {w : Nat × Nat} : ∀ {ks : Ri}, w ∉ ks → getD (kvT ks t) (wD w) = none
  | [], h => rfl
  | v :: ks, h => by
    have e : ¬ v = w := fun z => h (z ▸ List.mem_cons_self)
    have ih := get_kvN (t := t) (ks := ks) fun z => h (List.mem_cons_of_mem _ z)
    have : ¬ wD v = wD w := fun z => e (wD_inj z)
    simp only [kvT, getD, List.map_cons, List.find?_cons, this, decide_false] at ih ⊢
    exact ih
def up2 (t : Nat → Nat → Nat) (a j x : Nat) : Nat → Nat → Nat := fun i k => if i = a ∧ k = j then x else t i k
theorem kvT_congr {t u : Nat → Nat → Nat} {ks : Ri} (h : ∀ w ∈ ks, t w.1 w.2 = u w.1 w.2) : kvT ks t = kvT ks u := List.map_congr_left fun w hw => by rw [h w hw]
theorem put_kvT (t : Nat → Nat → Nat) (j a x : Nat) (ha : a < j) : putD (kvT (keysT j a) t) (wD (a, j)) (.int (x : Int)) = kvT (keysT j (a + 1)) (up2 t a j x) := by
  have hn : (a, j) ∉ keysT j a := by rw [mem_keysT]; simp
  unfold putD
  rw [get_kvN hn]
  simp only [Option.isSome_none, Bool.false_eq_true, if_false]
  rw [keysT_succ]
  have e1 : kvT (keysT j a ++ [(a, j)]) (up2 t a j x) = kvT (keysT j a) (up2 t a j x) ++ [(wD (a, j), .int (x : Int))] := by simp [kvT, up2]
  rw [e1]
  congr 1
  refine kvT_congr fun w hw => ?_
  have : ¬ (w.1 = a ∧ w.2 = j) := by
    rintro ⟨h1, h2⟩
    rw [mem_keysT] at hw
    omega
  simp [up2, this]
theorem kvT_len (ks : Ri) (t : Nat → Nat → Nat) : (kvT ks t).length = ks.length := by simp [kvT]
theorem keys_hash : ∀ j < 6, ∀ a < j + 1, (match D.ihL ((keysT j a).map wD) with | some hs => decide hs.Nodup | none => false) = true := by decide +kernel
theorem kvT_hash {j a : Nat} (hj : j < 6) (ha : a ≤ j) (t : Nat → Nat → Nat) : hashOk (kvT (keysT j a) t) = true := by
  unfold hashOk
  have e : (kvT (keysT j a) t).map (·.1) = (keysT j a).map wD := by simp [kvT, List.map_map]
  rw [e]
  exact keys_hash j hj a (by omega)
theorem keys_len : ∀ j < 6, ∀ a < j + 1, (keysT j a).length ≤ 100 := by decide +kernel
/-! ### how many -/
def nN : Nat → Nat → Nat
  | 0, _ => 1
  | c + 1, l => sumN (fun x => nN c (l - x)) (l + 1)
def nM : Nat → Nat → Nat
  | 0, l => if l = 0 then 1 else 0
  | c + 1, l => sumN (fun x => nM c (l - x)) (l + 1)
theorem nN_pos : ∀ c l, 1 ≤ nN c l
  | 0, _ => Nat.le_refl _
  | c + 1, l => by
    rw [nN, sumN_succ]
    have := nN_pos c (l - l)
    omega
theorem sumN_mono (f : Nat → Nat) {a b : Nat} (h : a ≤ b) : sumN f a ≤ sumN f b := by
  induction b with
  | zero => have : a = 0 := by omega
            subst this; exact Nat.le_refl _
  | succ b ih =>
    by_cases e : a = b + 1
    · subst e; exact Nat.le_refl _
    · have := ih (by omega)
      rw [sumN_succ]; omega
theorem nN_le : ∀ c < 6, ∀ l < 7, nN c l ≤ [1, 7, 28, 84, 210, 462].getD c 0 := by decide +kernel
theorem nM_le : ∀ c < 6, ∀ l < 7, nM c l ≤ [1, 1, 7, 28, 84, 210].getD c 0 := by decide +kernel
end Mn
set_option maxHeartbeats 4000000
namespace Mn
open PySem
/-! ### the law's own tables: the lists, plainly -/
/-- an entry: what is left of each lot, and the rides so far -/
structure Ten where
  l : Nat → Nat
  t : Nat → Nat → Nat
def entD (m j a : Nat) (e : Ten) : D := .tup [.lst (nl e.l m), .dic (kvT (keysT j a) e.t)]
def upl (l : Nat → Nat) (a x : Nat) : Nat → Nat := fun i => if i = a then x else l i
def lft (off : Nat → Nat) (j a : Nat) (e : Ten) : Nat := off j - sumN (fun i => e.t i j) a
def stepE (j a : Nat) (e : Ten) (x : Nat) : Ten := ⟨upl e.l a (e.l a - x), up2 e.t a j x⟩
def stepA (off : Nat → Nat) (j a : Nat) (e : Ten) : List Ten := (List.range (min (e.l a) (lft off j a e) + 1)).map (stepE j a e)
def colW (off : Nat → Nat) (j : Nat) (w : List Ten) : Nat → List Ten
  | 0 => w
  | a + 1 => (colW off j w a).flatMap (stepA off j a)
def goodE (off : Nat → Nat) (j : Nat) (e : Ten) : Bool := decide (sumN (fun i => e.t i j) j = off j)
def nextE (on : Nat → Nat) (j : Nat) (e : Ten) : Ten := ⟨upl e.l j (on j), e.t⟩
def colF (on off : Nat → Nat) (j : Nat) (w : List Ten) : List Ten := ((colW off j w j).filter (goodE off j)).map (nextE on j)
def allW (on off : Nat → Nat) : Nat → List Ten
  | 0 => [⟨fun _ => 0, fun _ _ => 0⟩]
  | j + 1 => colF on off j (allW on off j)
theorem sum_up2 (t : Nat → Nat → Nat) (a j x : Nat) : sumN (fun i => up2 t a j x i j) (a + 1) = sumN (fun i => t i j) a + x := by
  rw [sumN_succ]
  congr 1
  · exact sumN_congr fun d hd => by simp [up2, show ¬ d = a by omega]
  · simp [up2]
theorem sum_upl (l : Nat → Nat) (a v : Nat) : ∀ k, sumN (upl l a v) k + (if a < k then l a else 0) = sumN l k + (if a < k then v else 0)
  | 0 => by simp [sumN]
  | k + 1 => by
    have ih := sum_upl l a v k
    rw [sumN_succ, sumN_succ]
    by_cases e : k = a
    · subst e
      simp [upl] at ih ⊢
      omega
    · have h1 : upl l a v k = l k := by simp [upl, e]
      rw [h1]
      by_cases h : a < k
      · simp [h, show a < k + 1 by omega] at ih ⊢; omega
      · simp [h, show ¬ a < k + 1 by omega] at ih ⊢; omega
theorem lft_step (off : Nat → Nat) (j a : Nat) (e : Ten) (x : Nat) : lft off j (a + 1) (stepE j a e x) = lft off j a e - x := by
  unfold lft stepE
  simp only
  rw [sum_up2, Nat.sub_sub]
/-! ### how many there are -/
def pot (off : Nat → Nat) (j a : Nat) (g : Nat → Nat) (w : List Ten) : Nat := (w.map fun e => g (lft off j a e)).sum
theorem pot_app (off : Nat → Nat) (j a : Nat) (g : Nat → Nat) (w v : List Ten) : pot off j a g (w ++ v) = pot off j a g w + pot off j a g v := by simp [pot]
theorem pot_step (off : Nat → Nat) (j a c : Nat) (g : Nat → Nat → Nat) (hg : ∀ l, g (c + 1) l = sumN (fun x => g c (l - x)) (l + 1)) (e : Ten) : pot off j (a + 1) (g c) (stepA off j a e) ≤ g (c + 1) (lft off j a e) := by
  have e1 : pot off j (a + 1) (g c) (stepA off j a e) = sumN (fun x => g c (lft off j a e - x)) (min (e.l a) (lft off j a e) + 1) := by
    unfold pot stepA sumN
    rw [List.map_map]
    congr 1
    refine List.map_congr_left fun x _ => ?_
    simp only [Function.comp, lft_step]
  rw [e1, hg]
  exact sumN_mono _ (by omega)
theorem pot_flat (off : Nat → Nat) (j a c : Nat) (g : Nat → Nat → Nat) (hg : ∀ l, g (c + 1) l = sumN (fun x => g c (l - x)) (l + 1)) : ∀ w : List Ten, pot off j (a + 1) (g c) (w.flatMap (stepA off j a)) ≤ pot off j a (g (c + 1)) w
  | [] => by simp [pot]
  | e :: w => by
    have ih := pot_flat off j a c g hg w
    have h1 := pot_step off j a c g hg e
    rw [List.flatMap_cons, pot_app]
    have : pot off j a (g (c + 1)) (e :: w) = g (c + 1) (lft off j a e) + pot off j a (g (c + 1)) w := by simp [pot]
    omega
theorem pot_col (off : Nat → Nat) (j : Nat) (g : Nat → Nat → Nat) (hg : ∀ c l, g (c + 1) l = sumN (fun x => g c (l - x)) (l + 1)) (w : List Ten) : ∀ a, a ≤ j → pot off j a (g (j - a)) (colW off j w a) ≤ w.length * g j (off j)
  | 0, _ => by
    refine Nat.le_of_eq ?_
    unfold pot colW
    have : (fun e => g (j - 0) (lft off j 0 e)) = fun _ : Ten => g j (off j) := by
      funext e; simp [lft, sumN]
    rw [this]
    induction w with
    | nil => simp
    | cons x xs ih => simp [ih, Nat.succ_mul]; omega
  | a + 1, h => by
    have ih := pot_col off j g hg w a (by omega)
    have h1 := pot_flat off j a (j - (a + 1)) g (hg _) (colW off j w a)
    rw [show j - (a + 1) + 1 = j - a by omega] at h1
    exact Nat.le_trans h1 ih
theorem len_pot (off : Nat → Nat) (j a : Nat) (g : Nat → Nat) (hg : ∀ l, 1 ≤ g l) : ∀ w : List Ten, w.length ≤ pot off j a g w
  | [] => by simp
  | e :: w => by
    have := len_pot off j a g hg w
    have h1 := hg (lft off j a e)
    have : pot off j a g (e :: w) = g (lft off j a e) + pot off j a g w := by simp [pot]
    simp; omega
theorem len_good (off : Nat → Nat) (j : Nat) : ∀ w : List Ten, (w.filter (goodE off j)).length ≤ pot off j j (nM 0) w
  | [] => by simp
  | e :: w => by
    have ih := len_good off j w
    have : pot off j j (nM 0) (e :: w) = nM 0 (lft off j j e) + pot off j j (nM 0) w := by simp [pot]
    rw [this, List.filter_cons]
    split
    · rename_i h
      have h2 : sumN (fun i => e.t i j) j = off j := of_decide_eq_true h
      have : nM 0 (lft off j j e) = 1 := by simp [nM, lft, h2]
      simp; omega
    · omega
theorem colW_len (off : Nat → Nat) (j : Nat) (w : List Ten) (a : Nat) (h : a ≤ j) : (colW off j w a).length ≤ w.length * nN j (off j) :=
  Nat.le_trans (len_pot off j a (nN (j - a)) (nN_pos _) _) (pot_col off j nN (fun c l => by rw [nN]) w a h)
theorem colF_len (on off : Nat → Nat) (j : Nat) (w : List Ten) : (colF on off j w).length ≤ w.length * nM j (off j) := by
  unfold colF
  rw [List.length_map]
  have := pot_col off j nM (fun c l => by rw [nM]) w j (Nat.le_refl _)
  rw [Nat.sub_self] at this
  exact Nat.le_trans (len_good off j _) this
def bndW (j : Nat) : Nat := [1, 1, 1, 7, 196, 16464, 3457440].getD j 0
theorem allW_len (on off : Nat → Nat) (m : Nat) (hm : m ≤ 6) (ho : ∀ j < m, off j ≤ 6) : ∀ j, j ≤ m → (allW on off j).length ≤ bndW j
  | 0, _ => by simp [allW, bndW]
  | j + 1, h => by
    have ih := allW_len on off m hm ho j (by omega)
    have h1 := colF_len on off j (allW on off j)
    have h2 := nM_le j (by omega) (off j) (by have := ho j (by omega); omega)
    have h3 : (allW on off (j + 1)).length ≤ bndW j * [1, 1, 7, 28, 84, 210].getD j 0 := Nat.le_trans h1 (Nat.mul_le_mul ih h2)
    refine Nat.le_trans h3 ?_
    have hj : j < 6 := by omega
    have key : ∀ j < 6, bndW j * [1, 1, 7, 28, 84, 210].getD j 0 ≤ bndW (j + 1) := by decide
    exact key j hj
theorem colW_small (on off : Nat → Nat) (m : Nat) (hm : m ≤ 6) (ho : ∀ j < m, off j ≤ 6) (j a : Nat) (hj : j < m) (ha : a ≤ j) : (colW off j (allW on off j) a).length ≤ 7606368 := by
  have h1 := colW_len off j (allW on off j) a ha
  have h2 := allW_len on off m hm ho j (by omega)
  have h3 := nN_le j (by omega) (off j) (by have := ho j hj; omega)
  have h4 := Nat.le_trans h1 (Nat.mul_le_mul h2 h3)
  have key : ∀ j < 6, bndW j * [1, 7, 28, 84, 210, 462].getD j 0 ≤ 7606368 := by decide
  exact Nat.le_trans h4 (key j (by omega))
/-! ### what holds of each -/
structure TOk (on off L : Nat → Nat) (j a : Nat) (e : Ten) : Prop where
  row : ∀ i, i < j → e.l i + sumN (fun d => e.t i (i + 1 + d)) (j - 1 - i) + (if i < a then e.t i j else 0) = on i
  col : ∀ k, k < j → sumN (fun i => e.t i k) k = off k
  now : sumN (fun i => e.t i j) a ≤ off j
  tot : sumN e.l j + sumN (fun i => e.t i j) a = if j = 0 then 0 else L (j - 1)
theorem TOk.step {on off L : Nat → Nat} {j a : Nat} {e : Ten} (O : TOk on off L j a e) (ha : a < j) {x : Nat} (h1 : x ≤ e.l a) (h2 : x ≤ lft off j a e) : TOk on off L j (a + 1) (stepE j a e x) where
  row := fun i hi => by
    have h := O.row i hi
    have hs : sumN (fun d => up2 e.t a j x i (i + 1 + d)) (j - 1 - i) = sumN (fun d => e.t i (i + 1 + d)) (j - 1 - i) := sumN_congr fun d hd => by
      simp [up2, show ¬ i + 1 + d = j by omega]
    show upl e.l a (e.l a - x) i + sumN (fun d => up2 e.t a j x i (i + 1 + d)) (j - 1 - i) + (if i < a + 1 then up2 e.t a j x i j else 0) = on i
    rw [hs]
    by_cases ea : i = a
    · subst ea
      simp [upl, up2] at h ⊢
      omega
    · have : (i < a + 1) = (i < a) := by rw [eq_iff_iff]; omega
      simp [upl, up2, ea, this] at h ⊢
      omega
  col := fun k hk => by
    rw [← O.col k hk]
    exact sumN_congr fun d hd => by simp [stepE, up2, show ¬ k = j by omega]
  now := by
    show sumN (fun i => up2 e.t a j x i j) (a + 1) ≤ off j
    rw [sum_up2]
    have := O.now
    unfold lft at h2
    omega
  tot := by
    rw [← O.tot]
    show sumN (upl e.l a (e.l a - x)) j + sumN (fun i => up2 e.t a j x i j) (a + 1) = _
    rw [sum_up2]
    have := sum_upl e.l a (e.l a - x) j
    simp [ha] at this
    have h3 : e.l a ≤ sumN e.l j := le_sumN ha
    omega
theorem TOk.next {m s : Nat} {on off L : Nat → Nat} {j : Nat} {e : Ten} (T : Tal m s on off L) (hj : j < m) (O : TOk on off L j j e) (hg : sumN (fun i => e.t i j) j = off j) : TOk on off L (j + 1) 0 (nextE on j e) where
  row := fun i hi => by
    show upl e.l j (on j) i + sumN (fun d => e.t i (i + 1 + d)) (j + 1 - 1 - i) + (if i < 0 then e.t i (j + 1) else 0) = on i
    by_cases ea : i = j
    · subst ea
      simp [upl, sumN]
    · have h := O.row i (by omega)
      rw [show j + 1 - 1 - i = j - 1 - i + 1 by omega, sumN_succ, show i + 1 + (j - 1 - i) = j by omega]
      simp [show i < j by omega] at h
      simp [upl, ea]
      omega
  col := fun k hk => by
    by_cases ea : k = j
    · subst ea; exact hg
    · exact O.col k (by omega)
  now := by simp [sumN]
  tot := by
    show sumN (upl e.l j (on j)) (j + 1) + sumN _ 0 = _
    have h := O.tot
    rw [hg] at h
    have h1 : sumN (upl e.l j (on j)) (j + 1) = sumN e.l j + on j := by
      rw [sumN_succ]
      congr 1
      · exact sumN_congr fun d hd => by simp [upl, show ¬ d = j by omega]
      · simp [upl]
    rw [h1]
    have h0 : sumN (fun i => (nextE on j e).t i (j + 1)) 0 = 0 := by simp [sumN]
    simp only [h0]
    cases j with
    | zero => simp [sumN, T.l0]
    | succ k =>
      have := T.step k hj
      simp at h ⊢
      omega
theorem TOk.tab {m s : Nat} {on off L : Nat → Nat} {e : Ten} (T : Tal m s on off L) (O : TOk on off L m 0 e) : Tab m on off e.t where
  row := fun i hi => by
    have h := O.row i (by omega)
    have h0 := O.tot
    have m2 := T.m2
    rw [if_neg (by omega), T.lend] at h0
    have h1 : e.l i ≤ sumN e.l m := le_sumN (by omega)
    simp at h
    omega
  col := O.col
theorem colW_ok {on off L : Nat → Nat} {j : Nat} {w : List Ten} (hw : ∀ e ∈ w, TOk on off L j 0 e) : ∀ a, a ≤ j → ∀ e ∈ colW off j w a, TOk on off L j a e
  | 0, _, e, he => hw e he
  | a + 1, h, e, he => by
    obtain ⟨e0, h0, he⟩ := List.mem_flatMap.mp he
    obtain ⟨x, hx, rfl⟩ := List.mem_map.mp he
    have hx : x < min (e0.l a) (lft off j a e0) + 1 := by simpa using hx
    exact (colW_ok hw a (by omega) e0 h0).step (by omega) (by omega) (by omega)
theorem allW_ok {m s : Nat} {on off L : Nat → Nat} (T : Tal m s on off L) : ∀ j, j ≤ m → ∀ e ∈ allW on off j, TOk on off L j 0 e
  | 0, _, e, he => by
    simp [allW] at he
    subst he
    exact ⟨fun i hi => absurd hi (by omega), fun k hk => absurd hk (by omega), by simp [sumN], by simp [sumN]⟩
  | j + 1, h, e, he => by
    obtain ⟨e0, h0, rfl⟩ := List.mem_map.mp he
    obtain ⟨h1, h2⟩ := List.mem_filter.mp h0
    exact (colW_ok (allW_ok T j (by omega)) j (Nat.le_refl _) e0 h1).next T (by omega) (of_decide_eq_true h2)
end Mn
set_option maxHeartbeats 4000000
namespace Mn
open PySem
theorem ev_ncp {cf : Nat → Nat → List D → Store → Out D} {bs : Nat} {σ : List Sl} {st : Store} {e : E} {kvs : List (D × D)} (he : evE cf bs σ st e = .ok (.dic kvs) st) (hh : hashOk kvs = true) (hs : kvs.length ≤ 16777216) : evR cf bs σ st (.ncp e) = .ok (.od kvs) st := by
  rw [evR, he]
  simp [hh, szOk_of hs]
theorem ev_cells {cf : Nat → Nat → List D → Store → Out D} {bs : Nat} {σ : List Sl} {st : Store} {p q j a : Nat} {kvs : List (D × D)} {t : Nat → Nat} (hp : σ[p]? = some (.val (.int (a : Int)))) (h8 : σ[8]? = some (.val (.dic kvs))) (h3 : σ[3]? = some (.val (.int (j : Int)))) (q8 : q ≠ 8) (q3 : q ≠ 3) (hq : q < σ.length) (ha : a ≤ 1000)
    (hk : ∀ i < a, getD kvs (wD (i, j)) = some (.int (t i : Int))) :
    evE cf bs σ st (.lc [q] (.nm q) (.r1 (.var p)) (.get2 (.var 8) (.tup (.cons (.var q) (.cons (.var 3) .nil))) (.con (.int 0)))) = .ok (.lst (nl t a)) st := by
  have lc := ev_lcM (cf := cf) (bs := bs) (σ := σ) (st := st) (own := [q]) (tg := .nm q) (it := .r1 (.var p)) (el := .get2 (.var 8) (.tup (.cons (.var q) (.cons (.var 3) .nil))) (.con (.int 0))) (xs := rngL 0 a) (fun x => match x with | .int i => .int (t i.toNat : Int) | _ => .non)
    (by simp [hp, rg1_nat ha]) (fun x hx => by
      obtain ⟨i, hi, rfl⟩ := List.mem_map.mp hx
      have hi : i < a := by simpa using hi
      refine ⟨(σ.set q .un).set q (.val (.int (0 + (i : Int)))), by simp [wipeS, bindT], ?_⟩
      have g := hk i hi
      have k := keyOk_w (i, j)
      unfold wD at g k
      simp only at g k
      rw [Int.zero_add]
      have v8 : ((σ.set q .un).set q (.val (.int (i : Int))))[8]? = some (.val (.dic kvs)) := by
        rw [List.getElem?_set_ne q8, List.getElem?_set_ne q8, h8]
      have v3 : ((σ.set q .un).set q (.val (.int (i : Int))))[3]? = some (.val (.int (j : Int))) := by
        rw [List.getElem?_set_ne q3, List.getElem?_set_ne q3, h3]
      have vq : ((σ.set q .un).set q (.val (.int (i : Int))))[q]? = some (.val (.int (i : Int))) := by
        rw [List.getElem?_set_self (by simpa using hq)]
      simp only [ev_get2, ev_var, v8, getV_val, Out.bind_ok, ev_tup, ev_cons, ev_nil, vq, v3, List.length_cons, List.length_nil, show szOk (0 + 1 + 1) = true from sz2, ev_con, cd_int, k, g, if_true, Option.getD_some, Int.toNat_natCast]) (by rw [rngE_len]; omega)
  rw [lc]
  simp [rngL, nl, List.map_map]
def yOff : List S := [.asg 13 (.ncp (.var 8)), .setD 13 (.tup (.cons (.var 5) (.cons (.var 3) .nil))) (.var 12), .asg 14 (.pl (.bin .add (.bin .add (.slc (.var 7) .no (.so (.var 5))) (.lst (.cons (.bin .sub (.idx (.var 7) (.var 5)) (.var 12)) .nil))) (.slc (.var 7) (.so (.bin .add (.var 5) (.con (.int 1)))) .no))), .frz 13, .app 10 (.tup (.cons (.var 14) (.cons (.var 13) .nil)))]
def zOff : S := .for_ (.nm 12) (.r1 (.bin .add (.bi .min2 (.cons (.idx (.var 7) (.var 5)) (.cons (.var 11) .nil))) (.con (.int 1)))) yOff
def zLeft : S := .asg 11 (.pl (.bin .sub (.idx (.idx (.var 1) (.con (.int 1))) (.var 3)) (.bi .sum (.cons (.lc [15] (.nm 15) (.r1 (.var 5)) (.get2 (.var 8) (.tup (.cons (.var 15) (.cons (.var 3) .nil))) (.con (.int 0)))) .nil))))
def zEnt : S := .for_ (.tp [7, 8]) (.ov (.var 2)) [zLeft, zOff]
def zOne : S := .for_ (.nm 5) (.r1 (.var 3)) [.asg 10 (.nl .nil), zEnt, .frz 10, .asg 2 (.pl (.var 10))]
def yGood : List S := [.ifs (.cmp .eq (.bi .sum (.cons (.lc [5] (.nm 5) (.r1 (.var 3)) (.get2 (.var 8) (.tup (.cons (.var 5) (.cons (.var 3) .nil))) (.con (.int 0)))) .nil)) (.idx (.idx (.var 1) (.con (.int 1))) (.var 3))) [.app 6 (.tup (.cons (.bin .add (.bin .add (.slc (.var 7) .no (.so (.var 3))) (.lst (.cons (.idx (.idx (.var 1) (.con (.int 0))) (.var 3)) .nil))) (.slc (.var 7) (.so (.bin .add (.var 3) (.con (.int 1)))) .no)) (.cons (.var 8) .nil)))] []]
def zGood : S := .for_ (.tp [7, 8]) (.ov (.var 2)) yGood
def zStop : S := .for_ (.nm 3) (.r1 (.idx (.var 0) (.con (.int 0)))) [zOne, .asg 6 (.nl .nil), zGood, .frz 6, .asg 2 (.pl (.var 6))]
def zRow : S := .for_ (.nm 5) (.r1 (.bin .sub (.idx (.var 0) (.con (.int 0))) (.con (.int 1)))) [.app 9 (.bi .tuple (.cons (.lc [15] (.nm 15) (.r2 (.bin .add (.var 5) (.con (.int 1))) (.idx (.var 0) (.con (.int 0)))) (.idx (.var 8) (.tup (.cons (.var 5) (.cons (.var 15) .nil))))) .nil))]
def zTabs : S := .for_ (.tp [7, 8]) (.ov (.var 2)) [.asg 9 (.nl .nil), zRow, .frz 9, .app 4 (.bi .tuple (.cons (.var 9) .nil))]
theorem tables_body : f_law_tables.body = [.asg 2 (.pl (.lst (.cons (.tup (.cons (.bin .mul (.lst (.cons (.con (.int 0)) .nil)) (.idx (.var 0) (.con (.int 0)))) (.cons .emd .nil))) .nil))), zStop, .asg 4 (.nl .nil), zTabs, .frz 4, .ret (.bi .sorted (.cons (.var 4) .nil))] := rfl
theorem nl_upl (l : Nat → Nat) (m a v : Nat) (ha : a < m) : (nl l m).take a ++ [.int (v : Int)] ++ (nl l m).drop (a + 1) = nl (upl l a v) m := by
  refine List.ext_getElem? fun i => ?_
  by_cases h1 : i < a
  · rw [List.append_assoc, List.getElem?_append_left (by simp; omega), List.getElem?_take_of_lt h1, nl_get (by omega), nl_get (by omega)]
    simp [upl, show ¬ i = a by omega]
  · by_cases h2 : i = a
    · subst h2
      rw [nl_get ha, List.append_assoc, List.getElem?_append_right (by simp; omega)]
      simp [upl, Nat.min_eq_left (Nat.le_of_lt ha)]
    · rw [List.getElem?_append_right (by simp; omega)]
      simp only [List.length_append, List.length_take, nl_len, List.length_singleton, Nat.min_eq_left (Nat.le_of_lt ha), List.getElem?_drop]
      rw [show a + 1 + (i - (a + 1)) = i by omega]
      by_cases h3 : i < m
      · rw [nl_get h3, nl_get h3]; simp [upl, h2]
      · rw [List.getElem?_eq_none (by simp; omega), List.getElem?_eq_none (by simp; omega)]
section
variable {cf : Nat → Nat → List D → Store → Out D} {wf bs : Nat} {st : Store} {m s j a : Nat} {on off L : Nat → Nat} {w2 s3 s4 s5 s6 s7 s8 s9 s10 s11 s12 s13 s14 s15 : Sl}
theorem ev_bOff {e : Ten} {ds : List D} {x : Nat} (hm : m ≤ 6) (hj : j < m) (ha : a < j) (hx : x ≤ e.l a) (hd : ds.length + 1 ≤ 16777216) :
    ∃ u13 u14, evSs cf wf bs [.val (ln m s), .val (tl on off m), w2, .val (.int (j : Int)), s4, .val (.int (a : Int)), s6, .val (.lst (nl e.l m)), .val (.dic (kvT (keysT j a) e.t)), s9, .ol ds, s11, .val (.int (x : Int)), s13, s14, s15] st yOff
      = .nx [.val (ln m s), .val (tl on off m), w2, .val (.int (j : Int)), s4, .val (.int (a : Int)), s6, .val (.lst (nl e.l m)), .val (.dic (kvT (keysT j a) e.t)), s9, .ol (ds ++ [entD m j (a + 1) (stepE j a e x)]), s11, .val (.int (x : Int)), u13, u14, s15] st := by
  have hh := kvT_hash (j := j) (a := a) (by omega) (by omega) e.t
  have hl := keys_len j (by omega) a (by omega)
  have a1 : evS cf wf bs [.val (ln m s), .val (tl on off m), w2, .val (.int (j : Int)), s4, .val (.int (a : Int)), s6, .val (.lst (nl e.l m)), .val (.dic (kvT (keysT j a) e.t)), s9, .ol ds, s11, .val (.int (x : Int)), s13, s14, s15] st (.asg 13 (.ncp (.var 8)))
      = .nx [.val (ln m s), .val (tl on off m), w2, .val (.int (j : Int)), s4, .val (.int (a : Int)), s6, .val (.lst (nl e.l m)), .val (.dic (kvT (keysT j a) e.t)), s9, .ol ds, s11, .val (.int (x : Int)), .od (kvT (keysT j a) e.t), s14, s15] st := by
    rw [ev_asg, ev_ncp (kvs := kvT (keysT j a) e.t) (by simp) hh (by rw [kvT_len]; omega)]
    simp
  have pk := put_kvT e.t j a x ha
  have ko := keyOk_w (a, j)
  unfold wD at pk ko
  simp only at pk ko
  have a2 : evS cf wf bs [.val (ln m s), .val (tl on off m), w2, .val (.int (j : Int)), s4, .val (.int (a : Int)), s6, .val (.lst (nl e.l m)), .val (.dic (kvT (keysT j a) e.t)), s9, .ol ds, s11, .val (.int (x : Int)), .od (kvT (keysT j a) e.t), s14, s15] st (.setD 13 (.tup (.cons (.var 5) (.cons (.var 3) .nil))) (.var 12))
      = .nx [.val (ln m s), .val (tl on off m), w2, .val (.int (j : Int)), s4, .val (.int (a : Int)), s6, .val (.lst (nl e.l m)), .val (.dic (kvT (keysT j a) e.t)), s9, .ol ds, s11, .val (.int (x : Int)), .od (kvT (keysT j (a + 1)) (up2 e.t a j x)), s14, s15] st := by
    rw [ev_setD (kvs := kvT (keysT j a) e.t) (d := .int (x : Int)) (y := .tup [.int (a : Int), .int (j : Int)]) (by simp) (by simp) (by simp [sz2]) ko (by rw [kvT_len]; omega), pk]
    simp
  have t1 := slc_to (nl e.l m) a
  have t2 := slc_from (nl e.l m) (a + 1)
  push_cast at t2
  have ix : idxS (.lst (nl e.l m)) (.int (a : Int)) st = .ok (.int (e.l a : Int)) st := idxS_lst (idx_lst (nl_get (by omega)))
  have sb : (e.l a : Int) - (x : Int) = ((e.l a - x : Nat) : Int) := by omega
  have ad1 := add_lst (xs := (nl e.l m).take a) (ys := [.int ((e.l a - x : Nat) : Int)]) (by simp; omega)
  have ad2 := add_lst (xs := (nl e.l m).take a ++ [.int ((e.l a - x : Nat) : Int)]) (ys := (nl e.l m).drop (a + 1)) (by simp; omega)
  rw [nl_upl e.l m a (e.l a - x) (by omega)] at ad2
  have a3 : evS cf wf bs [.val (ln m s), .val (tl on off m), w2, .val (.int (j : Int)), s4, .val (.int (a : Int)), s6, .val (.lst (nl e.l m)), .val (.dic (kvT (keysT j a) e.t)), s9, .ol ds, s11, .val (.int (x : Int)), .od (kvT (keysT j (a + 1)) (up2 e.t a j x)), s14, s15] st (.asg 14 (.pl (.bin .add (.bin .add (.slc (.var 7) .no (.so (.var 5))) (.lst (.cons (.bin .sub (.idx (.var 7) (.var 5)) (.var 12)) .nil))) (.slc (.var 7) (.so (.bin .add (.var 5) (.con (.int 1)))) .no))))
      = .nx [.val (ln m s), .val (tl on off m), w2, .val (.int (j : Int)), s4, .val (.int (a : Int)), s6, .val (.lst (nl e.l m)), .val (.dic (kvT (keysT j a) e.t)), s9, .ol ds, s11, .val (.int (x : Int)), .od (kvT (keysT j (a + 1)) (up2 e.t a j x)), .val (.lst (nl (upl e.l a (e.l a - x)) m)), s15] st := by
    simp only [ev_asg, ev_pl, ev_bin, ev_slc, ev_var, ev_no, ev_so, ev_lst, ev_idx, ev_cons, ev_nil, ev_con, cd_int]
    simp [t1, t2, ix, sb, sz1, ad1, ad2]
  have a4 : evS cf wf bs [.val (ln m s), .val (tl on off m), w2, .val (.int (j : Int)), s4, .val (.int (a : Int)), s6, .val (.lst (nl e.l m)), .val (.dic (kvT (keysT j a) e.t)), s9, .ol ds, s11, .val (.int (x : Int)), .od (kvT (keysT j (a + 1)) (up2 e.t a j x)), .val (.lst (nl (upl e.l a (e.l a - x)) m)), s15] st (.frz 13)
      = .nx [.val (ln m s), .val (tl on off m), w2, .val (.int (j : Int)), s4, .val (.int (a : Int)), s6, .val (.lst (nl e.l m)), .val (.dic (kvT (keysT j a) e.t)), s9, .ol ds, s11, .val (.int (x : Int)), .val (.dic (kvT (keysT j (a + 1)) (up2 e.t a j x))), .val (.lst (nl (upl e.l a (e.l a - x)) m)), s15] st := by
    simp
  have a5 : evS cf wf bs [.val (ln m s), .val (tl on off m), w2, .val (.int (j : Int)), s4, .val (.int (a : Int)), s6, .val (.lst (nl e.l m)), .val (.dic (kvT (keysT j a) e.t)), s9, .ol ds, s11, .val (.int (x : Int)), .val (.dic (kvT (keysT j (a + 1)) (up2 e.t a j x))), .val (.lst (nl (upl e.l a (e.l a - x)) m)), s15] st (.app 10 (.tup (.cons (.var 14) (.cons (.var 13) .nil))))
      = .nx [.val (ln m s), .val (tl on off m), w2, .val (.int (j : Int)), s4, .val (.int (a : Int)), s6, .val (.lst (nl e.l m)), .val (.dic (kvT (keysT j a) e.t)), s9, .ol (ds ++ [entD m j (a + 1) (stepE j a e x)]), s11, .val (.int (x : Int)), .val (.dic (kvT (keysT j (a + 1)) (up2 e.t a j x))), .val (.lst (nl (upl e.l a (e.l a - x)) m)), s15] st := by
    rw [ev_app, app_ol (ds := ds) (by simp)]
    simp [sz2, szOk_of hd, entD, stepE]
  refine ⟨.val (.dic (kvT (keysT j (a + 1)) (up2 e.t a j x))), .val (.lst (nl (upl e.l a (e.l a - x)) m)), ?_⟩
  unfold yOff
  rw [ev_Scons, a1, Fl.seq_nx, ev_Scons, a2, Fl.seq_nx, ev_Scons, a3, Fl.seq_nx, ev_Scons, a4, Fl.seq_nx, ev_Scons, a5, Fl.seq_nx, ev_Snil]
theorem ev_sOff {e : Ten} {ds : List D} (O : TOk on off L j a e) (hm : m ≤ 6) (hj : j < m) (ha : a < j) (ho : off j ≤ 100) (hd : ds.length + (stepA off j a e).length ≤ 16777216) :
    ∃ u12 u13 u14, evS cf wf bs [.val (ln m s), .val (tl on off m), w2, .val (.int (j : Int)), s4, .val (.int (a : Int)), s6, .val (.lst (nl e.l m)), .val (.dic (kvT (keysT j a) e.t)), s9, .ol ds, .val (.int (lft off j a e : Int)), s12, s13, s14, s15] st zOff
      = .nx [.val (ln m s), .val (tl on off m), w2, .val (.int (j : Int)), s4, .val (.int (a : Int)), s6, .val (.lst (nl e.l m)), .val (.dic (kvT (keysT j a) e.t)), s9, .ol (ds ++ (stepA off j a e).map (entD m j (a + 1))), .val (.int (lft off j a e : Int)), u12, u13, u14, s15] st := by
  have hl : lft off j a e ≤ 100 := by unfold lft; omega
  have ix : idxS (.lst (nl e.l m)) (.int (a : Int)) st = .ok (.int (e.l a : Int)) st := idxS_lst (idx_lst (nl_get (by omega)))
  have mn : (if (lft off j a e : Int) < (e.l a : Int) then (lft off j a e : Int) else (e.l a : Int)) + 1 = ((min (e.l a) (lft off j a e) + 1 : Nat) : Int) := by
    split <;> omega
  have loop := ev_forI (cf := cf) (wf := wf) (bs := bs) (σ := [.val (ln m s), .val (tl on off m), w2, .val (.int (j : Int)), s4, .val (.int (a : Int)), s6, .val (.lst (nl e.l m)), .val (.dic (kvT (keysT j a) e.t)), s9, .ol ds, .val (.int (lft off j a e : Int)), s12, s13, s14, s15]) (st := st) (tg := .nm 12) (it := .r1 (.bin .add (.bi .min2 (.cons (.idx (.var 7) (.var 5)) (.cons (.var 11) .nil))) (.con (.int 1)))) (b := yOff) (xs := rngL 0 (min (e.l a) (lft off j a e) + 1))
    (fun k σ st' => st' = st ∧ ∃ u12 u13 u14, σ = [.val (ln m s), .val (tl on off m), w2, .val (.int (j : Int)), s4, .val (.int (a : Int)), s6, .val (.lst (nl e.l m)), .val (.dic (kvT (keysT j a) e.t)), s9, .ol (ds ++ ((List.range k).map (stepE j a e)).map (entD m j (a + 1))), .val (.int (lft off j a e : Int)), u12, u13, u14, s15])
    (by
      have rg := rg1_nat (k := min (e.l a) (lft off j a e) + 1) (by omega)
      rw [← mn] at rg
      simp only [Int.ofNat_lt] at rg
      simp [ix, rg]) (fun k y σ st' hy ⟨e0, u12, u13, u14, es⟩ => by
      subst e0 es
      obtain ⟨hk, rfl⟩ := rngE_get hy
      rw [Int.zero_add]
      have hd2 : (ds ++ ((List.range k).map (stepE j a e)).map (entD m j (a + 1))).length + 1 ≤ 16777216 := by
        simp [stepA] at hd ⊢
        omega
      obtain ⟨v13, v14, kk⟩ := ev_bOff (cf := cf) (wf := wf) (bs := bs) (st := st') (s := s) (on := on) (off := off) (w2 := w2) (s4 := s4) (s6 := s6) (s9 := s9) (s11 := .val (.int (lft off j a e : Int))) (s13 := u13) (s14 := u14) (s15 := s15) (e := e) (ds := ds ++ ((List.range k).map (stepE j a e)).map (entD m j (a + 1))) (x := k) hm hj ha (by omega) hd2
      refine ⟨_, _, st', by simp [bindT], kk, rfl, .val (.int (k : Int)), v13, v14, ?_⟩
      rw [List.range_succ]
      simp) ⟨rfl, s12, s13, s14, by simp⟩
  obtain ⟨s', st', k1, e0, u12, u13, u14, es⟩ := loop
  subst e0 es
  rw [rngE_len] at k1
  exact ⟨u12, u13, u14, k1⟩
end
end Mn
set_option maxHeartbeats 4000000
namespace Mn
open PySem
/-! ### every table is among the law's own -/
theorem sumN_le {f : Nat → Nat} {a b : Nat} (h : a ≤ b) : sumN f a ≤ sumN f b := sumN_mono f h
theorem sumN_lt_add {f : Nat → Nat} {a b : Nat} (h : a < b) : sumN f a + f a ≤ sumN f b := by
  rw [← sumN_succ]
  exact sumN_mono f h
structure Agr (t : Nat → Nat → Nat) (j a : Nat) (e : Ten) : Prop where
  old : ∀ k, k < j → ∀ i, i < k → e.t i k = t i k
  new : ∀ i, i < a → e.t i j = t i j
theorem Agr.step {t : Nat → Nat → Nat} {j a : Nat} {e : Ten} (A : Agr t j a e) : Agr t j (a + 1) (stepE j a e (t a j)) where
  old := fun k hk i hi => by
    show up2 e.t a j (t a j) i k = t i k
    unfold up2
    rw [if_neg (by omega)]
    exact A.old k hk i hi
  new := fun i hi => by
    show up2 e.t a j (t a j) i j = t i j
    unfold up2
    by_cases z : i = a
    · subst z; simp
    · rw [if_neg (by omega)]
      exact A.new i (by omega)
section
variable {m s : Nat} {on off L : Nat → Nat} {t : Nat → Nat → Nat}
theorem col_has (T : Tal m s on off L) (B : Tab m on off t) {j : Nat} (hj : j < m) (h0 : ∃ e ∈ allW on off j, Agr t j 0 e) : ∀ a, a ≤ j → ∃ e ∈ colW off j (allW on off j) a, Agr t j a e
  | 0, _ => h0
  | a + 1, h => by
    obtain ⟨e, he, A⟩ := col_has T B hj h0 a (by omega)
    have O := colW_ok (allW_ok T j (by omega)) a (by omega) e he
    have hrow := O.row a (by omega)
    rw [if_neg (Nat.lt_irrefl a), Nat.add_zero] at hrow
    have e1 : sumN (fun d => e.t a (a + 1 + d)) (j - 1 - a) = sumN (fun d => t a (a + 1 + d)) (j - 1 - a) := sumN_congr fun d hd => A.old (a + 1 + d) (by omega) a (by omega)
    have hB := B.row a (by omega)
    have h1 := sumN_lt_add (f := fun d => t a (a + 1 + d)) (a := j - 1 - a) (b := m - 1 - a) (by omega)
    rw [show a + 1 + (j - 1 - a) = j by omega] at h1
    have x1 : t a j ≤ e.l a := by omega
    have e2 : sumN (fun i => e.t i j) a = sumN (fun i => t i j) a := sumN_congr fun d hd => A.new d hd
    have h2 := sumN_lt_add (f := fun i => t i j) (a := a) (b := j) (by omega)
    rw [B.col j hj] at h2
    have x2 : t a j ≤ lft off j a e := by unfold lft; rw [e2]; omega
    refine ⟨stepE j a e (t a j), List.mem_flatMap.mpr ⟨e, he, List.mem_map.mpr ⟨t a j, ?_, rfl⟩⟩, A.step⟩
    rw [List.mem_range]
    omega
theorem all_has (T : Tal m s on off L) (B : Tab m on off t) : ∀ j, j ≤ m → ∃ e ∈ allW on off j, Agr t j 0 e
  | 0, _ => ⟨_, List.mem_singleton.mpr rfl, ⟨fun k hk => absurd hk (Nat.not_lt_zero k), fun i hi => absurd hi (Nat.not_lt_zero i)⟩⟩
  | j + 1, h => by
    obtain ⟨e, he, A⟩ := col_has T B (by omega) (all_has T B j (by omega)) j (Nat.le_refl _)
    refine ⟨nextE on j e, List.mem_map.mpr ⟨e, List.mem_filter.mpr ⟨he, ?_⟩, rfl⟩, fun k hk i hi => ?_, fun i hi => absurd hi (Nat.not_lt_zero i)⟩
    · unfold goodE
      rw [decide_eq_true_eq, ← B.col j (by omega)]
      exact sumN_congr fun d hd => A.new d hd
    · show e.t i k = t i k
      by_cases z : k = j
      · subst z; exact A.new i hi
      · exact A.old k (by omega) i hi
theorem tb_congr {u v : Nat → Nat → Nat} (h : ∀ i k, i < k → k < m → u i k = v i k) : tb u m = tb v m := by
  unfold tb rowD nl
  congr 1
  refine List.map_congr_left fun i hi => ?_
  have hi : i < m - 1 := by simpa using hi
  congr 1
  refine List.map_congr_left fun d hd => ?_
  have hd : d < m - 1 - i := by simpa using hd
  simp only []
  rw [h i (i + 1 + d) (by omega) (by omega)]
theorem all_tabs (T : Tal m s on off L) (B : Tab m on off t) : ∃ e ∈ allW on off m, tb e.t m = tb t m := by
  obtain ⟨e, he, A⟩ := all_has T B m (Nat.le_refl _)
  exact ⟨e, he, tb_congr fun i k h1 h2 => A.old k h2 i h1⟩
end
end Mn
set_option maxHeartbeats 4000000
namespace Mn
open PySem
theorem flat_take {α β : Type} (f : α → List β) {w : List α} {k : Nat} {e : α} (h : w[k]? = some e) : (w.take (k + 1)).flatMap f = (w.take k).flatMap f ++ f e := by
  rw [List.take_succ, h]
  simp
theorem flat_take_len {α β : Type} (f : α → List β) {w : List α} {k : Nat} {e : α} (h : w[k]? = some e) : ((w.take k).flatMap f).length + (f e).length ≤ (w.flatMap f).length := by
  have e1 : w = w.take (k + 1) ++ w.drop (k + 1) := (List.take_append_drop _ _).symm
  have e2 : (w.flatMap f).length = ((w.take (k + 1)).flatMap f).length + ((w.drop (k + 1)).flatMap f).length := by
    conv => lhs; rw [e1]
    rw [List.flatMap_append, List.length_append]
  rw [flat_take f h] at e2
  simp only [List.length_append] at e2
  omega
section
variable {cf : Nat → Nat → List D → Store → Out D} {wf bs : Nat} {st : Store} {m s j a : Nat} {on off L : Nat → Nat} {w2 s3 s4 s5 s6 s7 s8 s9 s10 s11 s12 s13 s14 s15 : Sl}
theorem ev_sEnt {w : List Ten} (hw : ∀ e ∈ w, TOk on off L j a e) (hm : m ≤ 6) (hj : j < m) (ha : a < j) (ho : off j ≤ 100) (hd : (w.flatMap (stepA off j a)).length ≤ 16777216) :
    ∃ u7 u8 u11 u12 u13 u14, evS cf wf bs [.val (ln m s), .val (tl on off m), .val (.lst (w.map (entD m j a))), .val (.int (j : Int)), s4, .val (.int (a : Int)), s6, s7, s8, s9, .ol [], s11, s12, s13, s14, s15] st zEnt
      = .nx [.val (ln m s), .val (tl on off m), .val (.lst (w.map (entD m j a))), .val (.int (j : Int)), s4, .val (.int (a : Int)), s6, u7, u8, s9, .ol ((w.flatMap (stepA off j a)).map (entD m j (a + 1))), u11, u12, u13, u14, s15] st := by
  have loop := ev_forI (cf := cf) (wf := wf) (bs := bs) (σ := [.val (ln m s), .val (tl on off m), .val (.lst (w.map (entD m j a))), .val (.int (j : Int)), s4, .val (.int (a : Int)), s6, s7, s8, s9, .ol [], s11, s12, s13, s14, s15]) (st := st) (tg := .tp [7, 8]) (it := .ov (.var 2)) (b := [zLeft, zOff]) (xs := w.map (entD m j a))
    (fun k σ st' => st' = st ∧ ∃ u7 u8 u11 u12 u13 u14, σ = [.val (ln m s), .val (tl on off m), .val (.lst (w.map (entD m j a))), .val (.int (j : Int)), s4, .val (.int (a : Int)), s6, u7, u8, s9, .ol (((w.take k).flatMap (stepA off j a)).map (entD m j (a + 1))), u11, u12, u13, u14, s15])
    (by simp) (fun k y σ st' hy ⟨e0, u7, u8, u11, u12, u13, u14, es⟩ => by
      subst e0 es
      rw [List.getElem?_map] at hy
      obtain ⟨e, he, rfl⟩ := Option.map_eq_some_iff.mp hy
      have O := hw e (List.mem_of_getElem? he)
      have fl := flat_take_len (stepA off j a) he
      have now := O.now
      have cells := ev_cells (cf := cf) (bs := bs) (st := st') (σ := [.val (ln m s), .val (tl on off m), .val (.lst (w.map (entD m j a))), .val (.int (j : Int)), s4, .val (.int (a : Int)), s6, .val (.lst (nl e.l m)), .val (.dic (kvT (keysT j a) e.t)), s9, .ol (((w.take k).flatMap (stepA off j a)).map (entD m j (a + 1))), u11, u12, u13, u14, s15]) (p := 5) (q := 15) (j := j) (a := a) (kvs := kvT (keysT j a) e.t) (t := fun i => e.t i j) (by simp) (by simp) (by simp) (by decide) (by decide) (by simp) (by omega) (fun i hi => get_kvT (w := (i, j)) (mem_keysT.mpr (.inr ⟨hi, rfl⟩)))
      have el : (off j : Int) - (sumN (fun i => e.t i j) a : Int) = (lft off j a e : Int) := by unfold lft; omega
      have b1 : evS cf wf bs [.val (ln m s), .val (tl on off m), .val (.lst (w.map (entD m j a))), .val (.int (j : Int)), s4, .val (.int (a : Int)), s6, .val (.lst (nl e.l m)), .val (.dic (kvT (keysT j a) e.t)), s9, .ol (((w.take k).flatMap (stepA off j a)).map (entD m j (a + 1))), u11, u12, u13, u14, s15] st' zLeft
          = .nx [.val (ln m s), .val (tl on off m), .val (.lst (w.map (entD m j a))), .val (.int (j : Int)), s4, .val (.int (a : Int)), s6, .val (.lst (nl e.l m)), .val (.dic (kvT (keysT j a) e.t)), s9, .ol (((w.take k).flatMap (stepA off j a)).map (entD m j (a + 1))), .val (.int (lft off j a e : Int)), u12, u13, u14, s15] st' := by
        unfold zLeft
        have sm : evE cf bs [.val (ln m s), .val (tl on off m), .val (.lst (w.map (entD m j a))), .val (.int (j : Int)), s4, .val (.int (a : Int)), s6, .val (.lst (nl e.l m)), .val (.dic (kvT (keysT j a) e.t)), s9, .ol (((w.take k).flatMap (stepA off j a)).map (entD m j (a + 1))), u11, u12, u13, u14, s15] st' (.bi .sum (.cons (.lc [15] (.nm 15) (.r1 (.var 5)) (.get2 (.var 8) (.tup (.cons (.var 15) (.cons (.var 3) .nil))) (.con (.int 0)))) .nil)) = .ok (.int (sumN (fun i => e.t i j) a : Int)) st' := by
          rw [ev_bi, ev_cons, cells]
          simp [ints_nl, sum_cast, sumN]
        have ix : evE cf bs [.val (ln m s), .val (tl on off m), .val (.lst (w.map (entD m j a))), .val (.int (j : Int)), s4, .val (.int (a : Int)), s6, .val (.lst (nl e.l m)), .val (.dic (kvT (keysT j a) e.t)), s9, .ol (((w.take k).flatMap (stepA off j a)).map (entD m j (a + 1))), u11, u12, u13, u14, s15] st' (.idx (.idx (.var 1) (.con (.int 1))) (.var 3)) = .ok (.int (off j : Int)) st' := by
          simp [idxS1, idxS_nl hj]
        rw [ev_asg, ev_pl, ev_bin, ix, Out.bind_ok, sm, Out.bind_ok, op_sub_i, el]
        simp
      obtain ⟨v12, v13, v14, b2⟩ := ev_sOff (cf := cf) (wf := wf) (bs := bs) (st := st') (s := s) (w2 := .val (.lst (w.map (entD m j a)))) (s4 := s4) (s6 := s6) (s9 := s9) (s12 := u12) (s13 := u13) (s14 := u14) (s15 := s15) (ds := ((w.take k).flatMap (stepA off j a)).map (entD m j (a + 1))) O hm hj ha ho (by rw [List.length_map]; omega)
      refine ⟨[.val (ln m s), .val (tl on off m), .val (.lst (w.map (entD m j a))), .val (.int (j : Int)), s4, .val (.int (a : Int)), s6, .val (.lst (nl e.l m)), .val (.dic (kvT (keysT j a) e.t)), s9, .ol (((w.take k).flatMap (stepA off j a)).map (entD m j (a + 1))), u11, u12, u13, u14, s15], _, st', by simp [bindT, entD, setAll], ?_, rfl, .val (.lst (nl e.l m)), .val (.dic (kvT (keysT j a) e.t)), .val (.int (lft off j a e : Int)), v12, v13, v14, rfl⟩
      rw [ev_Scons, b1, Fl.seq_nx, ev_Scons, b2, Fl.seq_nx, ev_Snil, flat_take _ he, List.map_append]) ⟨rfl, s7, s8, s11, s12, s13, s14, by simp⟩
  obtain ⟨s', st', k1, e0, u7, u8, u11, u12, u13, u14, es⟩ := loop
  subst e0 es
  rw [List.length_map, List.take_length] at k1
  exact ⟨u7, u8, u11, u12, u13, u14, k1⟩
theorem ev_sOne {w : List Ten} (hw : ∀ e ∈ w, TOk on off L j 0 e) (hm : m ≤ 6) (hj : j < m) (ho : off j ≤ 100) (hd : ∀ a, a ≤ j → (colW off j w a).length ≤ 16777216) :
    ∃ u5 u7 u8 u10 u11 u12 u13 u14, evS cf wf bs [.val (ln m s), .val (tl on off m), .val (.lst (w.map (entD m j 0))), .val (.int (j : Int)), s4, s5, s6, s7, s8, s9, s10, s11, s12, s13, s14, s15] st zOne
      = .nx [.val (ln m s), .val (tl on off m), .val (.lst ((colW off j w j).map (entD m j j))), .val (.int (j : Int)), s4, u5, s6, u7, u8, s9, u10, u11, u12, u13, u14, s15] st := by
  have loop := ev_forI (cf := cf) (wf := wf) (bs := bs) (σ := [.val (ln m s), .val (tl on off m), .val (.lst (w.map (entD m j 0))), .val (.int (j : Int)), s4, s5, s6, s7, s8, s9, s10, s11, s12, s13, s14, s15]) (st := st) (tg := .nm 5) (it := .r1 (.var 3)) (b := [.asg 10 (.nl .nil), zEnt, .frz 10, .asg 2 (.pl (.var 10))]) (xs := rngL 0 j)
    (fun a σ st' => st' = st ∧ ∃ u5 u7 u8 u10 u11 u12 u13 u14, σ = [.val (ln m s), .val (tl on off m), .val (.lst ((colW off j w a).map (entD m j a))), .val (.int (j : Int)), s4, u5, s6, u7, u8, s9, u10, u11, u12, u13, u14, s15])
    (by simp [rg1_nat (show j ≤ 1000 by omega)]) (fun a y σ st' hy ⟨e0, u5, u7, u8, u10, u11, u12, u13, u14, es⟩ => by
      subst e0 es
      obtain ⟨ha, rfl⟩ := rngE_get hy
      rw [Int.zero_add]
      obtain ⟨v7, v8, v11, v12, v13, v14, b2⟩ := ev_sEnt (cf := cf) (wf := wf) (bs := bs) (st := st') (s := s) (s4 := s4) (s6 := s6) (s7 := u7) (s8 := u8) (s9 := s9) (s11 := u11) (s12 := u12) (s13 := u13) (s14 := u14) (s15 := s15) (w := colW off j w a) (colW_ok hw a (by omega)) hm hj ha ho (hd (a + 1) (by omega))
      refine ⟨[.val (ln m s), .val (tl on off m), .val (.lst ((colW off j w a).map (entD m j a))), .val (.int (j : Int)), s4, .val (.int (a : Int)), s6, u7, u8, s9, u10, u11, u12, u13, u14, s15], [.val (ln m s), .val (tl on off m), .val (.lst ((colW off j w (a + 1)).map (entD m j (a + 1)))), .val (.int (j : Int)), s4, .val (.int (a : Int)), s6, v7, v8, s9, .val (.lst ((colW off j w (a + 1)).map (entD m j (a + 1)))), v11, v12, v13, v14, s15], st', by simp [bindT], ?_, rfl, _, _, _, _, _, _, _, _, rfl⟩
      have b1 : evS cf wf bs [.val (ln m s), .val (tl on off m), .val (.lst ((colW off j w a).map (entD m j a))), .val (.int (j : Int)), s4, .val (.int (a : Int)), s6, u7, u8, s9, u10, u11, u12, u13, u14, s15] st' (.asg 10 (.nl .nil))
          = .nx [.val (ln m s), .val (tl on off m), .val (.lst ((colW off j w a).map (entD m j a))), .val (.int (j : Int)), s4, .val (.int (a : Int)), s6, u7, u8, s9, .ol [], u11, u12, u13, u14, s15] st' := by simp [sz0]
      rw [ev_Scons, b1, Fl.seq_nx, ev_Scons, b2, Fl.seq_nx]
      simp only [ev_Scons, ev_frz, ev_asg, ev_pl, ev_var, ev_Snil]
      simp [colW]) ⟨rfl, s5, s7, s8, s10, s11, s12, s13, s14, rfl⟩
  obtain ⟨s', st', k1, e0, u5, u7, u8, u10, u11, u12, u13, u14, es⟩ := loop
  subst e0 es
  rw [rngE_len] at k1
  exact ⟨u5, u7, u8, u10, u11, u12, u13, u14, k1⟩
theorem filter_take_len {α : Type} (p : α → Bool) {w : List α} {k : Nat} {e : α} (h : w[k]? = some e) : ((w.take k).filter p).length + 1 ≤ w.length := by
  have h1 : ((w.take k).filter p).length ≤ (w.take k).length := List.length_filter_le _ _
  have h2 := (List.getElem?_eq_some_iff.mp h).1
  have h3 : (w.take k).length = k := by simp; omega
  omega
theorem ev_sGood {w : List Ten} (hm : m ≤ 6) (hj : j < m) (hd : w.length ≤ 16777216) :
    ∃ u7 u8, evS cf wf bs [.val (ln m s), .val (tl on off m), .val (.lst (w.map (entD m j j))), .val (.int (j : Int)), s4, s5, .ol [], s7, s8, s9, s10, s11, s12, s13, s14, s15] st zGood
      = .nx [.val (ln m s), .val (tl on off m), .val (.lst (w.map (entD m j j))), .val (.int (j : Int)), s4, s5, .ol (((w.filter (goodE off j)).map (nextE on j)).map (entD m (j + 1) 0)), u7, u8, s9, s10, s11, s12, s13, s14, s15] st := by
  have loop := ev_forI (cf := cf) (wf := wf) (bs := bs) (σ := [.val (ln m s), .val (tl on off m), .val (.lst (w.map (entD m j j))), .val (.int (j : Int)), s4, s5, .ol [], s7, s8, s9, s10, s11, s12, s13, s14, s15]) (st := st) (tg := .tp [7, 8]) (it := .ov (.var 2)) (b := yGood) (xs := w.map (entD m j j))
    (fun k σ st' => st' = st ∧ ∃ u7 u8, σ = [.val (ln m s), .val (tl on off m), .val (.lst (w.map (entD m j j))), .val (.int (j : Int)), s4, s5, .ol ((((w.take k).filter (goodE off j)).map (nextE on j)).map (entD m (j + 1) 0)), u7, u8, s9, s10, s11, s12, s13, s14, s15])
    (by simp) (fun k y σ st' hy ⟨e0, u7, u8, es⟩ => by
      subst e0 es
      rw [List.getElem?_map] at hy
      obtain ⟨e, he, rfl⟩ := Option.map_eq_some_iff.mp hy
      have fl := filter_take_len (goodE off j) he
      have tk : w.take (k + 1) = w.take k ++ [e] := by rw [List.take_succ, he]; rfl
      have hA : (((w.take k).filter (goodE off j)).map (nextE on j)).map (entD m (j + 1) 0) = (((w.take k).filter (goodE off j)).map (nextE on j)).map (entD m (j + 1) 0) := rfl
      have hAl : ((((w.take k).filter (goodE off j)).map (nextE on j)).map (entD m (j + 1) 0)).length + 1 ≤ 16777216 := by simp only [List.length_map]; omega
      have nxt : (((w.take (k + 1)).filter (goodE off j)).map (nextE on j)).map (entD m (j + 1) 0) = (((w.take k).filter (goodE off j)).map (nextE on j)).map (entD m (j + 1) 0) ++ (if goodE off j e then [entD m (j + 1) 0 (nextE on j e)] else []) := by
        rw [tk, List.filter_append]
        by_cases g : goodE off j e = true
        · simp [g]
        · simp [g]
      generalize hg : (((w.take k).filter (goodE off j)).map (nextE on j)).map (entD m (j + 1) 0) = A at *
      have cells := ev_cells (cf := cf) (bs := bs) (st := st') (σ := [.val (ln m s), .val (tl on off m), .val (.lst (w.map (entD m j j))), .val (.int (j : Int)), s4, s5, .ol A, .val (.lst (nl e.l m)), .val (.dic (kvT (keysT j j) e.t)), s9, s10, s11, s12, s13, s14, s15]) (p := 3) (q := 5) (j := j) (a := j) (kvs := kvT (keysT j j) e.t) (t := fun i => e.t i j) (by simp) (by simp) (by simp) (by decide) (by decide) (by simp) (by omega) (fun i hi => get_kvT (w := (i, j)) (mem_keysT.mpr (.inr ⟨hi, rfl⟩)))
      have cnd : evE cf bs [.val (ln m s), .val (tl on off m), .val (.lst (w.map (entD m j j))), .val (.int (j : Int)), s4, s5, .ol A, .val (.lst (nl e.l m)), .val (.dic (kvT (keysT j j) e.t)), s9, s10, s11, s12, s13, s14, s15] st' (.cmp .eq (.bi .sum (.cons (.lc [5] (.nm 5) (.r1 (.var 3)) (.get2 (.var 8) (.tup (.cons (.var 5) (.cons (.var 3) .nil))) (.con (.int 0)))) .nil)) (.idx (.idx (.var 1) (.con (.int 1))) (.var 3))) = .ok (.bl (goodE off j e)) st' := by
        rw [ev_cmp, ev_bi, ev_cons, cells]
        have : decide ((sumN (fun i => e.t i j) j : Int) = (off j : Int)) = goodE off j e := by
          unfold goodE
          simp only [Int.natCast_inj]
        unfold sumN at this
        simp [idxS1, idxS_nl hj, ints_nl, sum_cast, cm_eq, ← this]
      refine ⟨[.val (ln m s), .val (tl on off m), .val (.lst (w.map (entD m j j))), .val (.int (j : Int)), s4, s5, .ol A, .val (.lst (nl e.l m)), .val (.dic (kvT (keysT j j) e.t)), s9, s10, s11, s12, s13, s14, s15], [.val (ln m s), .val (tl on off m), .val (.lst (w.map (entD m j j))), .val (.int (j : Int)), s4, s5, .ol (A ++ (if goodE off j e then [entD m (j + 1) 0 (nextE on j e)] else [])), .val (.lst (nl e.l m)), .val (.dic (kvT (keysT j j) e.t)), s9, s10, s11, s12, s13, s14, s15], st', by simp [bindT, entD, setAll], ?_, rfl, _, _, by rw [nxt]⟩
      unfold yGood
      rw [ev_Scons, ev_ifs, cnd]
      simp only [Out.fl_ok]
      by_cases g : goodE off j e = true
      · simp only [g, if_true]
        have t1 := slc_to (nl e.l m) j
        have t2 := slc_from (nl e.l m) (j + 1)
        push_cast at t2
        have ad1 := add_lst (xs := (nl e.l m).take j) (ys := [.int (on j : Int)]) (by simp; omega)
        have ad2 := add_lst (xs := (nl e.l m).take j ++ [.int (on j : Int)]) (ys := (nl e.l m).drop (j + 1)) (by simp; omega)
        rw [nl_upl e.l m j (on j) hj] at ad2
        have ee : entD m (j + 1) 0 (nextE on j e) = .tup [.lst (nl (upl e.l j (on j)) m), .dic (kvT (keysT j j) e.t)] := by
          unfold entD nextE
          rw [keysT_zero, colT_succ]
        rw [ee, ev_Scons, ev_app, app_ol (ds := A) (by simp)]
        simp only [ev_tup, ev_cons, ev_nil, ev_bin, ev_slc, ev_var, ev_no, ev_so, ev_lst, ev_idx, ev_con, cd_int]
        simp [t1, t2, idxS0, idxS_nl hj, sz1, sz2, ad1, ad2, szOk_of hAl]
      · have g' : goodE off j e = false := by simpa using g
        simp [g']) ⟨rfl, s7, s8, by simp⟩
  obtain ⟨s', st', k1, e0, u7, u8, es⟩ := loop
  subst e0 es
  rw [List.length_map, List.take_length] at k1
  exact ⟨u7, u8, k1⟩
theorem ev_sStop (T : Tal m s on off L) (hs : s ≤ 6) :
    ∃ u3 u5 u6 u7 u8 u10 u11 u12 u13 u14, evS cf wf bs [.val (ln m s), .val (tl on off m), .val (.lst ((allW on off 0).map (entD m 0 0))), s3, s4, s5, s6, s7, s8, s9, s10, s11, s12, s13, s14, s15] st zStop
      = .nx [.val (ln m s), .val (tl on off m), .val (.lst ((allW on off m).map (entD m m 0))), u3, s4, u5, u6, u7, u8, s9, u10, u11, u12, u13, u14, s15] st := by
  have m6 := T.m6
  have ho : ∀ j < m, off j ≤ 6 := fun j hj => by have := T.off9 hj; omega
  have loop := ev_forI (cf := cf) (wf := wf) (bs := bs) (σ := [.val (ln m s), .val (tl on off m), .val (.lst ((allW on off 0).map (entD m 0 0))), s3, s4, s5, s6, s7, s8, s9, s10, s11, s12, s13, s14, s15]) (st := st) (tg := .nm 3) (it := .r1 (.idx (.var 0) (.con (.int 0)))) (b := [zOne, .asg 6 (.nl .nil), zGood, .frz 6, .asg 2 (.pl (.var 6))]) (xs := rngL 0 m)
    (fun j σ st' => st' = st ∧ ∃ u3 u5 u6 u7 u8 u10 u11 u12 u13 u14, σ = [.val (ln m s), .val (tl on off m), .val (.lst ((allW on off j).map (entD m j 0))), u3, s4, u5, u6, u7, u8, s9, u10, u11, u12, u13, u14, s15])
    (by simp [idxS0, rg1_nat (show m ≤ 1000 by omega)]) (fun j y σ st' hy ⟨e0, u3, u5, u6, u7, u8, u10, u11, u12, u13, u14, es⟩ => by
      subst e0 es
      obtain ⟨hj, rfl⟩ := rngE_get hy
      rw [Int.zero_add]
      have oj := ho j hj
      have sm : ∀ a, a ≤ j → (colW off j (allW on off j) a).length ≤ 16777216 := fun a ha => by
        have := colW_small on off m m6 ho j a hj ha
        omega
      obtain ⟨v5, v7, v8, v10, v11, v12, v13, v14, b1⟩ := ev_sOne (cf := cf) (wf := wf) (bs := bs) (st := st') (s := s) (s4 := s4) (s5 := u5) (s6 := u6) (s7 := u7) (s8 := u8) (s9 := s9) (s10 := u10) (s11 := u11) (s12 := u12) (s13 := u13) (s14 := u14) (s15 := s15) (allW_ok T j (by omega)) m6 hj (by omega) sm
      obtain ⟨x7, x8, b3⟩ := ev_sGood (cf := cf) (wf := wf) (bs := bs) (st := st') (s := s) (on := on) (off := off) (s4 := s4) (s5 := v5) (s7 := v7) (s8 := v8) (s9 := s9) (s10 := v10) (s11 := v11) (s12 := v12) (s13 := v13) (s14 := v14) (s15 := s15) (w := colW off j (allW on off j) j) m6 hj (sm j (Nat.le_refl _))
      refine ⟨[.val (ln m s), .val (tl on off m), .val (.lst ((allW on off j).map (entD m j 0))), .val (.int (j : Int)), s4, u5, u6, u7, u8, s9, u10, u11, u12, u13, u14, s15], [.val (ln m s), .val (tl on off m), .val (.lst ((allW on off (j + 1)).map (entD m (j + 1) 0))), .val (.int (j : Int)), s4, v5, .val (.lst ((allW on off (j + 1)).map (entD m (j + 1) 0))), x7, x8, s9, v10, v11, v12, v13, v14, s15], st', by simp [bindT], ?_, rfl, _, _, _, _, _, _, _, _, _, _, rfl⟩
      have b2 : evS cf wf bs [.val (ln m s), .val (tl on off m), .val (.lst ((colW off j (allW on off j) j).map (entD m j j))), .val (.int (j : Int)), s4, v5, u6, v7, v8, s9, v10, v11, v12, v13, v14, s15] st' (.asg 6 (.nl .nil))
          = .nx [.val (ln m s), .val (tl on off m), .val (.lst ((colW off j (allW on off j) j).map (entD m j j))), .val (.int (j : Int)), s4, v5, .ol [], v7, v8, s9, v10, v11, v12, v13, v14, s15] st' := by simp [sz0]
      rw [ev_Scons, b1, Fl.seq_nx, ev_Scons, b2, Fl.seq_nx, ev_Scons, b3, Fl.seq_nx]
      simp only [ev_Scons, ev_frz, ev_asg, ev_pl, ev_var, ev_Snil]
      simp [allW, colF]) ⟨rfl, s3, s5, s6, s7, s8, s10, s11, s12, s13, s14, rfl⟩
  obtain ⟨s', st', k1, e0, u3, u5, u6, u7, u8, u10, u11, u12, u13, u14, es⟩ := loop
  subst e0 es
  rw [rngE_len] at k1
  exact ⟨u3, u5, u6, u7, u8, u10, u11, u12, u13, u14, k1⟩
theorem ev_sRow {kvs : List (D × D)} {t : Nat → Nat → Nat} (h2 : 2 ≤ m) (h6 : m ≤ 6) (hk : ∀ i j, i < j → j < m → getD kvs (wD (i, j)) = some (.int (t i j : Int))) :
    ∃ u5, evS cf wf bs [.val (ln m s), .val (tl on off m), w2, s3, s4, s5, s6, s7, .val (.dic kvs), .ol [], s10, s11, s12, s13, s14, s15] st zRow
      = .nx [.val (ln m s), .val (tl on off m), w2, s3, s4, u5, s6, s7, .val (.dic kvs), .ol ((List.range (m - 1)).map (rowD t m)), s10, s11, s12, s13, s14, s15] st := by
  have e1 : (m : Int) - 1 = ((m - 1 : Nat) : Int) := by omega
  have rg := rg1_nat (show m - 1 ≤ 1000 by omega)
  rw [← e1] at rg
  have loop := ev_forI (cf := cf) (wf := wf) (bs := bs) (σ := [.val (ln m s), .val (tl on off m), w2, s3, s4, s5, s6, s7, .val (.dic kvs), .ol [], s10, s11, s12, s13, s14, s15]) (st := st) (tg := .nm 5) (it := .r1 (.bin .sub (.idx (.var 0) (.con (.int 0))) (.con (.int 1))))
    (b := [.app 9 (.bi .tuple (.cons (.lc [15] (.nm 15) (.r2 (.bin .add (.var 5) (.con (.int 1))) (.idx (.var 0) (.con (.int 0)))) (.idx (.var 8) (.tup (.cons (.var 5) (.cons (.var 15) .nil))))) .nil))]) (xs := rngL 0 (m - 1))
    (fun j σ st' => st' = st ∧ ∃ u5, σ = [.val (ln m s), .val (tl on off m), w2, s3, s4, u5, s6, s7, .val (.dic kvs), .ol ((List.range j).map (rowD t m)), s10, s11, s12, s13, s14, s15])
    (by simp [idxS0, rg]) (fun j x σ st' hx ⟨e, sx, es⟩ => by
      subst es
      obtain ⟨hj, rfl⟩ := rngE_get hx
      simp only [Int.zero_add]
      refine ⟨[.val (ln m s), .val (tl on off m), w2, s3, s4, .val (.int (j : Int)), s6, s7, .val (.dic kvs), .ol ((List.range j).map (rowD t m)), s10, s11, s12, s13, s14, s15], [.val (ln m s), .val (tl on off m), w2, s3, s4, .val (.int (j : Int)), s6, s7, .val (.dic kvs), .ol ((List.range (j + 1)).map (rowD t m)), s10, s11, s12, s13, s14, s15], st', by simp [bindT], ?_, e, .val (.int (j : Int)), rfl⟩
      have lc := ev_lcM (cf := cf) (bs := bs) (σ := [.val (ln m s), .val (tl on off m), w2, s3, s4, .val (.int (j : Int)), s6, s7, .val (.dic kvs), .ol ((List.range j).map (rowD t m)), s10, s11, s12, s13, s14, s15]) (st := st') (own := [15]) (tg := .nm 15) (it := .r2 (.bin .add (.var 5) (.con (.int 1))) (.idx (.var 0) (.con (.int 0)))) (el := .idx (.var 8) (.tup (.cons (.var 5) (.cons (.var 15) .nil)))) (xs := rngL ((j + 1 : Nat) : Int) (m - (j + 1))) (fun x => match x with | .int i => .int (t j i.toNat : Int) | _ => .non)
        (by have := rg2_nat (a := j + 1) (b := m) (by omega) (by omega); push_cast at this; simp [idxS0, this]) (fun x hx => by
          obtain ⟨d, hd, rfl⟩ := List.mem_map.mp hx
          have hd : d < m - (j + 1) := by simpa using hd
          have hg := hk j (j + 1 + d) (by omega) (by omega)
          refine ⟨[.val (ln m s), .val (tl on off m), w2, s3, s4, .val (.int (j : Int)), s6, s7, .val (.dic kvs), .ol ((List.range j).map (rowD t m)), s10, s11, s12, s13, s14, .val (.int ((j + 1 + d : Nat) : Int))], by simp [wipeS, bindT], ?_⟩
          have hi : idxS (.dic kvs) (.tup [.int (j : Int), .int ((j + 1 + d : Nat) : Int)]) st' = .ok (.int (t j (j + 1 + d) : Int)) st' := by
            have hk2 := keyOk_w (j, j + 1 + d)
            unfold wD at hk2 hg
            simp only [idxS, hk2, if_true]
            simp only at hg
            rw [hg]; simp
          show evE _ _ _ _ _ = .ok (.int (t j (((j + 1 : Nat) : Int) + (d : Int)).toNat : Int)) st'
          have et : (((j + 1 : Nat) : Int) + (d : Int)).toNat = j + 1 + d := by omega
          rw [et]
          push_cast at hi
          simp [sz2]
          exact hi) (by rw [rngE_len]; omega)
      have em : (rngL ((j + 1 : Nat) : Int) (m - (j + 1))).map (fun x => match x with | .int i => D.int (t j i.toNat : Int) | _ => .non) = nl (fun d => t j (j + 1 + d)) (m - 1 - j) := by
        rw [show m - 1 - j = m - (j + 1) by omega]
        simp only [rngL, nl, List.map_map]
        refine List.map_congr_left fun d _ => ?_
        simp only [Function.comp]
        rw [show (((j + 1 : Nat) : Int) + (d : Int)).toNat = j + 1 + d by omega]
      rw [em] at lc
      have hsz : szOk (j + 1) = true := szOk_of (by omega)
      simp only [ev_Scons, ev_app, ev_bi, ev_var]
      simp [lc, hsz, List.range_succ, rowD]) ⟨rfl, s5, rfl⟩
  obtain ⟨s', st', k1, e, sx, es⟩ := loop
  subst e es
  rw [rngE_len] at k1
  exact ⟨sx, k1⟩
theorem ev_sTabs {w : List Ten} (h2 : 2 ≤ m) (h6 : m ≤ 6) (hd : w.length ≤ 16777216) :
    ∃ u5 u7 u8 u9, evS cf wf bs [.val (ln m s), .val (tl on off m), .val (.lst (w.map (entD m m 0))), s3, .ol [], s5, s6, s7, s8, s9, s10, s11, s12, s13, s14, s15] st zTabs
      = .nx [.val (ln m s), .val (tl on off m), .val (.lst (w.map (entD m m 0))), s3, .ol (w.map fun e => tb e.t m), u5, s6, u7, u8, u9, s10, s11, s12, s13, s14, s15] st := by
  have loop := ev_forI (cf := cf) (wf := wf) (bs := bs) (σ := [.val (ln m s), .val (tl on off m), .val (.lst (w.map (entD m m 0))), s3, .ol [], s5, s6, s7, s8, s9, s10, s11, s12, s13, s14, s15]) (st := st) (tg := .tp [7, 8]) (it := .ov (.var 2)) (b := [.asg 9 (.nl .nil), zRow, .frz 9, .app 4 (.bi .tuple (.cons (.var 9) .nil))]) (xs := w.map (entD m m 0))
    (fun k σ st' => st' = st ∧ ∃ u5 u7 u8 u9, σ = [.val (ln m s), .val (tl on off m), .val (.lst (w.map (entD m m 0))), s3, .ol ((w.take k).map fun e => tb e.t m), u5, s6, u7, u8, u9, s10, s11, s12, s13, s14, s15])
    (by simp) (fun k y σ st' hy ⟨e0, u5, u7, u8, u9, es⟩ => by
      subst e0 es
      rw [List.getElem?_map] at hy
      obtain ⟨e, he, rfl⟩ := Option.map_eq_some_iff.mp hy
      have hkl := (List.getElem?_eq_some_iff.mp he).1
      have tk : w.take (k + 1) = w.take k ++ [e] := by rw [List.take_succ, he]; rfl
      obtain ⟨v5, b2⟩ := ev_sRow (cf := cf) (wf := wf) (bs := bs) (st := st') (s := s) (on := on) (off := off) (w2 := .val (.lst (w.map (entD m m 0)))) (s3 := s3) (s4 := .ol ((w.take k).map fun e => tb e.t m)) (s5 := u5) (s6 := s6) (s7 := .val (.lst (nl e.l m))) (s10 := s10) (s11 := s11) (s12 := s12) (s13 := s13) (s14 := s14) (s15 := s15) (kvs := kvT (keysT m 0) e.t) (t := e.t) h2 h6 (fun i j h1 h2 => get_kvT (w := (i, j)) (mem_keysT.mpr (.inl ⟨h1, h2⟩)))
      refine ⟨[.val (ln m s), .val (tl on off m), .val (.lst (w.map (entD m m 0))), s3, .ol ((w.take k).map fun e => tb e.t m), u5, s6, .val (.lst (nl e.l m)), .val (.dic (kvT (keysT m 0) e.t)), u9, s10, s11, s12, s13, s14, s15], [.val (ln m s), .val (tl on off m), .val (.lst (w.map (entD m m 0))), s3, .ol ((w.take (k + 1)).map fun e => tb e.t m), v5, s6, .val (.lst (nl e.l m)), .val (.dic (kvT (keysT m 0) e.t)), .val (.lst ((List.range (m - 1)).map (rowD e.t m))), s10, s11, s12, s13, s14, s15], st', by simp [bindT, entD, setAll], ?_, rfl, _, _, _, _, rfl⟩
      have b1 : evS cf wf bs [.val (ln m s), .val (tl on off m), .val (.lst (w.map (entD m m 0))), s3, .ol ((w.take k).map fun e => tb e.t m), u5, s6, .val (.lst (nl e.l m)), .val (.dic (kvT (keysT m 0) e.t)), u9, s10, s11, s12, s13, s14, s15] st' (.asg 9 (.nl .nil))
          = .nx [.val (ln m s), .val (tl on off m), .val (.lst (w.map (entD m m 0))), s3, .ol ((w.take k).map fun e => tb e.t m), u5, s6, .val (.lst (nl e.l m)), .val (.dic (kvT (keysT m 0) e.t)), .ol [], s10, s11, s12, s13, s14, s15] st' := by simp [sz0]
      have b3 : evS cf wf bs [.val (ln m s), .val (tl on off m), .val (.lst (w.map (entD m m 0))), s3, .ol ((w.take k).map fun e => tb e.t m), v5, s6, .val (.lst (nl e.l m)), .val (.dic (kvT (keysT m 0) e.t)), .ol ((List.range (m - 1)).map (rowD e.t m)), s10, s11, s12, s13, s14, s15] st' (.frz 9)
          = .nx [.val (ln m s), .val (tl on off m), .val (.lst (w.map (entD m m 0))), s3, .ol ((w.take k).map fun e => tb e.t m), v5, s6, .val (.lst (nl e.l m)), .val (.dic (kvT (keysT m 0) e.t)), .val (.lst ((List.range (m - 1)).map (rowD e.t m))), s10, s11, s12, s13, s14, s15] st' := by simp
      have hl : ((w.take k).map fun e => tb e.t m).length + 1 ≤ 16777216 := by
        simp only [List.length_map, List.length_take]; omega
      rw [ev_Scons, b1, Fl.seq_nx, ev_Scons, b2, Fl.seq_nx, ev_Scons, b3, Fl.seq_nx, ev_Scons, ev_app, app_ol (ds := (w.take k).map fun e => tb e.t m) (by simp), tk, List.map_append]
      generalize ((w.take k).map fun e => tb e.t m) = A at hl
      simp [szOk_of hl, tb]) ⟨rfl, s5, s7, s8, s9, by simp⟩
  obtain ⟨s', st', k1, e0, u5, u7, u8, u9, es⟩ := loop
  subst e0 es
  rw [List.length_map, List.take_length] at k1
  exact ⟨u5, u7, u8, u9, k1⟩
end
/-! ### sorted -/
def tabOf (t : Nat → Nat → Nat) (m : Nat) : List (List Int) := (List.range (m - 1)).map fun i => (List.range (m - 1 - i)).map fun d => (t i (i + 1 + d) : Int)
theorem tabOf_D (t : Nat → Nat → Nat) (m : Nat) : tabD (tabOf t m) = tb t m := by
  unfold tabD tabOf tb rowD nl
  simp only [List.map_map, Function.comp_def]
theorem rowsI_map (f : Nat → List Int) : ∀ l : List Nat, rowsI (l.map fun i => D.tup ((f i).map .int)) = some (l.map f)
  | [] => rfl
  | i :: l => by
    have ih := rowsI_map f l
    simp [rowsI, rowI, ints_map, ih]
theorem tabI_tb (t : Nat → Nat → Nat) {m : Nat} (h : 2 ≤ m) : tabI (tb t m) = some (tabOf t m) := by
  have e : tb t m = .tup ((List.range (m - 1)).map fun i => D.tup (((List.range (m - 1 - i)).map fun d => (t i (i + 1 + d) : Int)).map .int)) := by
    unfold tb rowD nl
    simp only [List.map_map, Function.comp_def]
  have r := rowsI_map (fun i => (List.range (m - 1 - i)).map fun d => (t i (i + 1 + d) : Int)) (List.range (m - 1))
  rw [e]
  unfold tabOf
  obtain ⟨k, hk⟩ : ∃ k, m - 1 = k + 1 := ⟨m - 2, by omega⟩
  rw [hk] at r ⊢
  rw [List.range_succ_eq_map] at r ⊢
  simp only [List.map_cons] at r ⊢
  rw [tabI]
  exact r
theorem tabsI_map {m : Nat} (h : 2 ≤ m) : ∀ w : List Ten, tabsI (w.map fun e => tb e.t m) = some (w.map fun e => tabOf e.t m)
  | [] => rfl
  | e :: w => by
    have ih := tabsI_map h w
    simp [tabsI, tabI_tb e.t h, ih]
theorem pick_tabs {P : (Nat → Nat → Nat) → Prop} {m : Nat} : ∀ l : List (List (List Int)), (∀ x ∈ l, ∃ t, P t ∧ tabD x = tb t m) → ∃ ts : List (Nat → Nat → Nat), (∀ t ∈ ts, P t) ∧ l.map tabD = ts.map fun t => tb t m
  | [], _ => ⟨[], by simp, rfl⟩
  | x :: l, h => by
    obtain ⟨t, h1, h2⟩ := h x List.mem_cons_self
    obtain ⟨ts, h3, h4⟩ := pick_tabs l fun y hy => h y (List.mem_cons_of_mem _ hy)
    refine ⟨t :: ts, fun u hu => ?_, by simp [h2, h4]⟩
    rcases List.mem_cons.mp hu with rfl | hu
    · exact h1
    · exact h3 u hu
theorem bi_sorted {xs : List D} {ts : List (List (List Int))} (h : tabsI xs = some ts) : biD .sorted [.lst xs] = some (.lst ((sortT ts).map tabD)) := by
  rw [biD]
  cases xs with
  | nil =>
    simp only [tabsI, Option.some.injEq] at h
    subst h
    have e1 : sortI [] = [] := by simp [sortI]
    have e2 : sortT [] = [] := by simp [sortT]
    rw [e2]
    simp [intsD, e1]
  | cons d ds =>
    have hi : intsD (d :: ds) = none := by
      cases d <;> first | rfl | (simp [tabsI, tabI] at h)
    rw [hi, h]; rfl
theorem tb_inj {u v : Nat → Nat → Nat} {m : Nat} (h : tb u m = tb v m) {i k : Nat} (h1 : i < k) (h2 : k < m) : u i k = v i k := by
  unfold tb at h
  have h := D.tup.inj h
  have e1 : ((List.range (m - 1)).map (rowD u m))[i]? = ((List.range (m - 1)).map (rowD v m))[i]? := by rw [h]
  simp only [List.getElem?_map, List.getElem?_range (show i < m - 1 by omega), Option.map_some, Option.some.injEq] at e1
  unfold rowD at e1
  have e2 := D.tup.inj e1
  have e3 : (nl (fun d => u i (i + 1 + d)) (m - 1 - i))[k - i - 1]? = (nl (fun d => v i (i + 1 + d)) (m - 1 - i))[k - i - 1]? := by rw [e2]
  rw [nl_get (by omega), nl_get (by omega)] at e3
  simp only [Option.some.injEq, D.int.injEq, show i + 1 + (k - i - 1) = k by omega] at e3
  omega
/-- all the law's tables: each has the tally, each that has it is among them -/
def TabsAll (lf : Fn) (wf : Nat) : Prop := ∀ (n bs : Nat) (st : Store) (m s : Nat) (on off L : Nat → Nat), s ≤ 6 → Tal m s on off L → ∃ ts : List (Nat → Nat → Nat), (∀ t ∈ ts, Tab m on off t) ∧ (∀ t, Tab m on off t → ∃ u ∈ ts, ∀ i k, i < k → k < m → u i k = t i k) ∧ ts.length ≤ 16777216 ∧ run (G lf) wf (n + 1) bs 52 [ln m s, tl on off m] st = .ok (.lst (ts.map fun t => tb t m)) st
theorem tabs_all (lf : Fn) (wf : Nat) : TabsAll lf wf := by
  intro n bs st m s on off L hs T
  have m2 := T.m2
  have m6 := T.m6
  have ho : ∀ j < m, off j ≤ 6 := fun j hj => by have := T.off9 hj; omega
  have hall := allW_ok T m (Nat.le_refl _)
  have hlen : (allW on off m).length ≤ 16777216 := by
    have h1 := allW_len on off m m6 ho m (Nat.le_refl _)
    have key : ∀ j < 7, bndW j ≤ 16777216 := by decide
    exact Nat.le_trans h1 (key m (by omega))
  obtain ⟨ts, h1, h2⟩ := pick_tabs (P := Tab m on off) (m := m) (sortT ((allW on off m).map fun e => tabOf e.t m)) (fun x hx => by
    have := (sortT_perm _).mem_iff.mp hx
    obtain ⟨e, he, rfl⟩ := List.mem_map.mp this
    exact ⟨e.t, (hall e he).tab T, tabOf_D e.t m⟩)
  refine ⟨ts, h1, fun t B => ?_, ?_, ?_⟩
  · obtain ⟨e, he, hb⟩ := all_tabs T B
    have m1 : tabOf e.t m ∈ sortT ((allW on off m).map fun e => tabOf e.t m) := (sortT_perm _).mem_iff.mpr (List.mem_map.mpr ⟨e, he, rfl⟩)
    have m2 : tabD (tabOf e.t m) ∈ ts.map fun t => tb t m := by rw [← h2]; exact List.mem_map.mpr ⟨_, m1, rfl⟩
    obtain ⟨u, hu, hub⟩ := List.mem_map.mp m2
    refine ⟨u, hu, fun i k q1 q2 => tb_inj ?_ q1 q2⟩
    rw [hub, tabOf_D, hb]
  · have := congrArg List.length h2
    simp only [List.length_map] at this
    rw [← this, (sortT_perm _).length_eq, List.length_map]
    exact hlen
  refine run_pure (fn := f_law_tables) (d := .lst (ts.map fun t => tb t m)) rfl rfl rfl ?_ ?_ rfl
  · rw [tables_body]
    obtain ⟨u3, u5, u6, u7, u8, u10, u11, u12, u13, u14, b2⟩ := ev_sStop (cf := run (G lf) wf n) (wf := wf) (bs := st.length) (st := st) (s3 := .un) (s4 := .un) (s5 := .un) (s6 := .un) (s7 := .un) (s8 := .un) (s9 := .un) (s10 := .un) (s11 := .un) (s12 := .un) (s13 := .un) (s14 := .un) (s15 := .un) T hs
    obtain ⟨v5, v7, v8, v9, b4⟩ := ev_sTabs (cf := run (G lf) wf n) (wf := wf) (bs := st.length) (st := st) (s := s) (on := on) (off := off) (s3 := u3) (s5 := u5) (s6 := u6) (s7 := u7) (s8 := u8) (s9 := .un) (s10 := u10) (s11 := u11) (s12 := u12) (s13 := u13) (s14 := u14) (s15 := .un) (w := allW on off m) m2 m6 hlen
    have hσ : ([ln m s, tl on off m].map Sl.val ++ List.replicate (f_law_tables.ns - f_law_tables.np) Sl.un) = [.val (ln m s), .val (tl on off m), .un, .un, .un, .un, .un, .un, .un, .un, .un, .un, .un, .un, .un, .un] := rfl
    rw [hσ]
    have mu := @mul_lst1 (.int 0) m (by omega)
    have rep : List.replicate m (D.int 0) = nl (fun _ => 0) m := by
      unfold nl
      simp only [List.map_const', List.length_range]
      rfl
    rw [rep] at mu
    have b1 : evS (run (G lf) wf n) wf st.length [.val (ln m s), .val (tl on off m), .un, .un, .un, .un, .un, .un, .un, .un, .un, .un, .un, .un, .un, .un] st (.asg 2 (.pl (.lst (.cons (.tup (.cons (.bin .mul (.lst (.cons (.con (.int 0)) .nil)) (.idx (.var 0) (.con (.int 0)))) (.cons .emd .nil))) .nil))))
        = .nx [.val (ln m s), .val (tl on off m), .val (.lst ((allW on off 0).map (entD m 0 0))), .un, .un, .un, .un, .un, .un, .un, .un, .un, .un, .un, .un, .un] st := by
      simp [idxS0, sz1, sz2, mu, allW, entD, kvT, keysT, colT]
    have b3 : evS (run (G lf) wf n) wf st.length [.val (ln m s), .val (tl on off m), .val (.lst ((allW on off m).map (entD m m 0))), u3, .un, u5, u6, u7, u8, .un, u10, u11, u12, u13, u14, .un] st (.asg 4 (.nl .nil))
        = .nx [.val (ln m s), .val (tl on off m), .val (.lst ((allW on off m).map (entD m m 0))), u3, .ol [], u5, u6, u7, u8, .un, u10, u11, u12, u13, u14, .un] st := by simp [sz0]
    rw [ev_Scons, b1, Fl.seq_nx, ev_Scons, b2, Fl.seq_nx, ev_Scons, b3, Fl.seq_nx, ev_Scons, b4, Fl.seq_nx]
    have so : biD .sorted [.lst ((allW on off m).map fun e => tb e.t m)] = some (.lst (ts.map fun t => tb t m)) := by
      rw [bi_sorted (tabsI_map m2 _), h2]
    generalize ((allW on off m).map fun e => tb e.t m) = X at so
    simp [so]
  · simp only [D.rb]
    exact rbL_all fun d hd => by
      obtain ⟨t, _, rfl⟩ := List.mem_map.mp hd
      exact rb_tb _ _ _
theorem tabs_ok (lf : Fn) (wf : Nat) : TabsOk lf wf := fun n bs st m s on off L hs T => by
  obtain ⟨ts, h1, _, _, h2⟩ := tabs_all lf wf n bs st m s on off L hs T
  exact ⟨ts, h1, h2⟩
end Mn
set_option maxHeartbeats 4000000
namespace Mn
open PySem
section
variable {cf : Nat → Nat → List D → Store → Out D} {bs : Nat} {σ : List Sl} {st : Store}
theorem ev_told_fn {f : Nat} {as : List Ar} {ds : List D} (h : evArs σ as = some ds) : evE cf bs σ st (.told (.fn f) as) = toldO (cf bs f ds st) := by
  rw [evE, h]
theorem ev_told_mk {f : Nat} {as : List Ar} {ds : List D} (h : evArs σ as = some ds) : evE cf bs σ st (.told (.mk f) as) = toldO (mkO (cf bs f (.opq :: ds) st)) := by
  rw [evE, h]
theorem toldO_exc {c : Nat} (h : c < 13) : toldO (.exc c st) = .ok (.tup [.str "refused", .str (exN c)]) st := by rw [toldO, if_pos h]
theorem toldO_ok {d : D} : toldO (.ok d st) = .ok d st := by rw [toldO]
theorem mkO_exc {c : Nat} : mkO (.exc c st) = .exc c st := by rw [mkO]
theorem evAr_v {i : Nat} {d : D} (h : σ[i]? = some (.val d)) : evAr σ (.v i) = some d := by rw [evAr, h]
theorem evAr_c {c : C} : evAr σ (.c c) = some c.d := by rw [evAr]
theorem evArs_nil : evArs σ [] = some [] := by rw [evArs]
theorem evArs_cons {a : Ar} {as : List Ar} {d : D} {ds : List D} (h1 : evAr σ a = some d) (h2 : evArs σ as = some ds) : evArs σ (a :: as) = some (d :: ds) := by rw [evArs, h1, h2]
@[simp] theorem ev_raise {wf c : Nat} : evS cf wf bs σ st (.raise c) = .exc c st := by rw [evS]
end
/-- a def that refuses -/
theorem run_exc {G : Prg} {wf n bs f : Nat} {fn : Fn} {ds : List D} {c : Nat} {st st' : Store} (hG : G f = some fn) (hl : ds.length = fn.np) (hk : fn.keep = false)
    (hb : evSs (run G wf n) wf st.length (ds.map .val ++ List.replicate (fn.ns - fn.np) .un) st fn.body = .exc c st') (hs : st'.length = st.length) : run G wf (n + 1) bs f ds st = .exc c st' := by
  rw [run, hG]
  simp only [hl, if_true, hk]
  simp only [Bool.false_eq_true, if_false, hb, fin]
  rw [← hs, List.take_length]
/-- a for that may end by a return -/
theorem forL_scan {tg : Tg} {body : List Sl → Store → Fl} {st : Store} (d : D) (ok : Nat → Bool) (S : Nat → List Sl → Prop) : ∀ (xs : List D) (k : Nat) (σ : List Sl), S k σ →
    (∀ (j : Nat) x σ, xs[j]? = some x → S (k + j) σ → ∃ s1, bindT σ tg x = some s1 ∧ (ok (k + j) = true → ∃ s2, body s1 st = .nx s2 st ∧ S (k + j + 1) s2) ∧ (ok (k + j) = false → body s1 st = .rt d st)) →
    ((∀ j < xs.length, ok (k + j) = true) → ∃ s', forL tg body xs σ st = .nx s' st ∧ S (k + xs.length) s') ∧ ((∃ j < xs.length, ok (k + j) = false) → forL tg body xs σ st = .rt d st)
  | [], k, σ, h0, _ => ⟨fun _ => ⟨σ, rfl, h0⟩, fun ⟨j, hj, _⟩ => absurd hj (Nat.not_lt_zero j)⟩
  | x :: xs, k, σ, h0, h => by
    obtain ⟨s1, h1, h2, h3⟩ := h 0 x σ rfl h0
    cases hk : ok (k + 0) with
    | false =>
      refine ⟨fun z => ?_, fun _ => ?_⟩
      · have := z 0 (Nat.succ_pos _)
        rw [hk] at this; cases this
      · rw [forL, h1]
        simp only [h3 hk]
    | true =>
      obtain ⟨s2, b1, b2⟩ := h2 hk
      have ih := forL_scan (tg := tg) (body := body) (st := st) d ok S xs (k + 1) s2 b2 (fun j y σ' hy hs => by
        have := h (j + 1) y σ' (by simpa using hy) (by rw [show k + (j + 1) = k + 1 + j by omega]; exact hs)
        rw [show k + (j + 1) = k + 1 + j by omega] at this
        exact this)
      refine ⟨fun z => ?_, fun ⟨j, hj, hz⟩ => ?_⟩
      · obtain ⟨s', c1, c2⟩ := ih.1 (fun j hj => by rw [show k + 1 + j = k + (j + 1) by omega]; exact z (j + 1) (by simp; omega))
        refine ⟨s', ?_, by rw [show k + (x :: xs).length = k + 1 + xs.length by simp; omega]; exact c2⟩
        rw [forL, h1]
        simp only [b1]
        exact c1
      · have hj0 : j ≠ 0 := fun z => by rw [z, hk] at hz; cases hz
        have := ih.2 ⟨j - 1, by simp at hj; omega, by rw [show k + 1 + (j - 1) = k + j by omega]; exact hz⟩
        rw [forL, h1]
        simp only [b1]
        exact this
section
variable {lf : Fn} {wf bs n : Nat} {st : Store}
theorem run_any_lineG {r S : Nat} (hd : Dice st r) (h1 : 1 ≤ S) (h2 : S ≤ 9) : ∃ (m s : Nat) (st' : Store), 2 ≤ m ∧ m ≤ 6 ∧ 1 ≤ s ∧ s ≤ S ∧ Rolled r st st' ∧ run (G lf) wf (n + 3) bs 28 [.ref r, .int 6, .int (S : Int)] st = .ok (ln m s) st' := by
  obtain ⟨v, st1, hv, r1, e1⟩ := @run_roll lf wf st.length n st r 5 hd (by omega) (by omega)
  obtain ⟨u, st2, hu, r2, e2⟩ := @run_roll lf wf st.length n st1 r S r1.dice (by omega) (by omega)
  refine ⟨2 + v, 1 + u, st2, by omega, by omega, by omega, by omega, r1.trans r2, run_pure rfl rfl rfl ?_ rfl (r1.trans r2).len⟩
  push_cast at e1 e2
  simp only [f_law_any_line]
  simp [e1, e2, sz2]
end
end Mn
set_option maxHeartbeats 4000000
namespace Mn
open PySem
section
variable {lf : Fn} {wf bs n : Nat} {st : Store}
def celE : E := .cel (.cons (.call 22 (.cons (.var 0) (.cons (.var 2) .nil))) (.cons (.con (.int 0)) .nil))
theorem rounds_go (ns : List Int) (h : ns.length ≤ 63) (H : D) : ∀ (r j : Nat) (st : Store), j + r ≤ 1000 → st.length = j → (∀ q < j, Dice st q) → ∃ st', st'.length = j + r ∧ (∀ q < j + r, Dice st' q) ∧
    compL [.val (.scr ns), .val H, .un] (.nm 2) (fun _ st => .ok (.bl true) st) (fun σ st => evE (run (G lf) wf (n + 1)) bs σ st celE) ((List.range r).map fun (k : Nat) => .int ((j : Int) + (k : Int))) ((List.range j).map .ref) st = .ok (.lst ((List.range (j + r)).map .ref)) st'
  | 0, j, st, _, hl, hd => ⟨st, by simpa using hl, by simpa using hd, by simp [compL]⟩
  | r + 1, j, st, hb, hl, hd => by
    obtain ⟨v, e⟩ := @run_cell lf wf bs n st ns h j
    obtain ⟨st', h1, h2, h3⟩ := rounds_go ns h H r (j + 1) (st ++ [.lst [.int v, .int 0]]) (by omega) (by simp [hl]) (fun q hq => by
      by_cases z : q < j
      · obtain ⟨a, b, hab⟩ := hd q z
        exact ⟨a, b, by rw [List.getElem?_append_left (by omega)]; exact hab⟩
      · have : q = st.length := by omega
        subst this
        exact ⟨v, 0, by simp⟩)
    refine ⟨st', by omega, fun q hq => h2 q (by omega), ?_⟩
    have el : evE (run (G lf) wf (n + 1)) bs [.val (.scr ns), .val H, .val (.int (j : Int))] st celE = .ok (.ref j) (st ++ [.lst [.int v, .int 0]]) := by
      unfold celE
      rw [ev_cel]
      simp [e, sz2, rb2, hl]
    have hx : ((List.range (r + 1)).map fun (k : Nat) => D.int ((j : Int) + (k : Int))) = .int (j : Int) :: ((List.range r).map fun (k : Nat) => D.int (((j + 1 : Nat) : Int) + (k : Int))) := by
      rw [List.range_succ_eq_map]
      simp only [List.map_cons, List.map_map]
      congr 1
      refine List.map_congr_left fun k _ => ?_
      simp only [Function.comp]
      congr 1
      push_cast
      omega
    rw [hx]
    have hb2 : bindT [.val (.scr ns), .val H, .un] (.nm 2) (.int (j : Int)) = some [.val (.scr ns), .val H, .val (.int (j : Int))] := by simp [bindT]
    have hz : szOk (((List.range j).map D.ref).length + 1) = true := szOk_of (by simp; omega)
    simp only [compL, hb2, el, hz, if_true]
    have er : (List.range j).map D.ref ++ [.ref j] = (List.range (j + 1)).map .ref := by simp [List.range_succ]
    rw [er, show j + (r + 1) = j + 1 + r by omega]
    exact h3
theorem run_roundsG (ns : List Int) (h : ns.length ≤ 63) {high : Nat} (h1 : 1 ≤ high) (h2 : high ≤ 63) : ∃ (c : Nat) (st' : Store), c ≤ high ∧ st'.length = c ∧ (∀ r < c, Dice st' r) ∧ run (G lf) wf (n + 2) bs 25 [.scr ns, .int (high : Int)] [] = .ok (.lst ((List.range c).map .ref)) st' := by
  obtain ⟨st', a1, a2, a3⟩ := rounds_go (lf := lf) (wf := wf) (bs := bs) (n := n) ns h (.int (high : Int)) (max 1 (min high ns.length)) 0 [] (by omega) rfl (fun q hq => absurd hq (Nat.not_lt_zero q))
  refine ⟨max 1 (min high ns.length), st', by omega, by simpa using a1, by simpa using a2, run_keep rfl rfl rfl ?_⟩
  have e1 : (if (if (ns.length : Int) < (high : Int) then (ns.length : Int) else (high : Int)) > 1 then (if (ns.length : Int) < (high : Int) then (ns.length : Int) else (high : Int)) else 1) = ((max 1 (min high ns.length) : Nat) : Int) := by
    split <;> split <;> omega
  have rg := rg1_nat (k := max 1 (min high ns.length)) (by omega)
  have lc : evE (run (G lf) wf (n + 1)) bs [.val (.scr ns), .val (.int (high : Int)), .un] [] (.lc [2] (.nm 2) (.r1 (.bi .max2 (.cons (.con (.int 1)) (.cons (.bi .min2 (.cons (.var 1) (.cons (.bi .len (.cons (.var 0) .nil)) .nil))) .nil)))) celE) = .ok (.lst ((List.range (max 1 (min high ns.length))).map .ref)) st' := by
    have it : evI (run (G lf) wf (n + 1)) bs [.val (.scr ns), .val (.int (high : Int)), .un] [] (.r1 (.bi .max2 (.cons (.con (.int 1)) (.cons (.bi .min2 (.cons (.var 1) (.cons (.bi .len (.cons (.var 0) .nil)) .nil))) .nil)))) = .ok (rngL 0 (max 1 (min high ns.length))) [] := by
      rw [← e1] at rg
      simp only [ev_r1, ev_bi, ev_cons, ev_nil, ev_con, cd_int, ev_var, List.getElem?_cons_succ, List.getElem?_cons_zero, getV_val, Out.bind_ok, bi_len_s, Out.of_some, bi_min2, bi_max2, rg]
    rw [ev_lc, it, Out.bind_ok]
    simpa [wipeS, rngL] using a3
  simp only [f_law_rounds]
  show evSs _ _ _ _ _ [.ret (.lc [2] (.nm 2) _ celE)] = _
  simp only [ev_Scons, ev_ret]
  show Fl.seq (Out.fl (evE (run (G lf) wf (n + 1)) bs [.val (.scr ns), .val (.int (high : Int)), .un] [] _) _) _ = _
  rw [lc]
  simp
/-! ### tallies of any numbers -/
def nlI (f : Nat → Int) (n : Nat) : List D := (List.range n).map fun k => D.int (f k)
/-- how many are aboard ahead of a stop, nothing asked -/
def hr (on off : Nat → Nat) : Nat → Int
  | 0 => 0
  | k + 1 => hr on off k - (off k : Int) + (on k : Int)
def okL (on off : Nat → Nat) (j : Nat) : Bool := decide ((off j : Int) ≤ hr on off j)
theorem bi_all_nl {m : Nat} : True := trivial
theorem zp_nl (f g : Nat → Nat) (m : Nat) : zpD (.tup (nl f m)) (.tup (nl g m)) = some ((List.range m).map fun k => D.tup [.int (f k : Int), .int (g k : Int)]) := by
  simp [zpD, zip_nl]
theorem run_loads_ofG {m : Nat} (hm : m ≤ 1000) (on off : Nat → Nat) : run (G lf) wf (n + 1) bs 5 [.tup (nl on m), .tup (nl off m)] st = .ok (if ∀ j < m, okL on off j = true then .tup (nlI (fun k => hr on off (k + 1)) m) else .non) st := by
  have key := forL_scan (tg := .tp [4, 5]) (st := st) (body := fun σ st' => evSs (run (G lf) wf n) wf st.length σ st' [.ifs (.cmp .gt (.var 5) (.var 3)) [.ret (.con .non)] [], .asg 3 (.pl (.bin .add (.bin .sub (.var 3) (.var 5)) (.var 4))), .app 2 (.var 3)]) .non (okL on off)
    (fun j σ => ∃ sx sy, σ = [.val (.tup (nl on m)), .val (.tup (nl off m)), .ol (nlI (fun k => hr on off (k + 1)) j), .val (.int (hr on off j)), sx, sy]) ((List.range m).map fun k => D.tup [.int (on k : Int), .int (off k : Int)]) 0
    [.val (.tup (nl on m)), .val (.tup (nl off m)), .ol [], .val (.int 0), .un, .un] ⟨.un, .un, rfl⟩ (fun j x σ hx ⟨sx, sy, es⟩ => by
      subst es
      have hj : j < m := by have := (List.getElem?_eq_some_iff.mp hx).1; simpa using this
      simp [hj] at hx
      subst hx
      rw [Nat.zero_add]
      refine ⟨[.val (.tup (nl on m)), .val (.tup (nl off m)), .ol (nlI (fun k => hr on off (k + 1)) j), .val (.int (hr on off j)), .val (.int (on j)), .val (.int (off j))], by simp [bindT, setAll], fun hk => ?_, fun hk => ?_⟩
      · have c : ¬ (hr on off j < (off j : Int)) := by unfold okL at hk; simp at hk; omega
        refine ⟨[.val (.tup (nl on m)), .val (.tup (nl off m)), .ol (nlI (fun k => hr on off (k + 1)) (j + 1)), .val (.int (hr on off (j + 1))), .val (.int (on j)), .val (.int (off j))], ?_, .val (.int (on j)), .val (.int (off j)), rfl⟩
        have hsz : szOk (j + 1) = true := szOk_of (by omega)
        have hl : (nlI (fun k => hr on off (k + 1)) j).length = j := by simp [nlI]
        have e : nlI (fun k => hr on off (k + 1)) (j + 1) = nlI (fun k => hr on off (k + 1)) j ++ [.int (hr on off (j + 1))] := by simp [nlI, List.range_succ]
        have hv : hr on off j - (off j : Int) + (on j : Int) = hr on off (j + 1) := rfl
        rw [e]
        simp only [ev_Scons, ev_ifs, ev_cmp, ev_var]
        simp [c, hsz, hl, hv]
      · have c : hr on off j < (off j : Int) := by unfold okL at hk; simp at hk; omega
        simp only [ev_Scons, ev_ifs, ev_cmp, ev_var]
        simp [c])
  simp only [List.length_map, List.length_range, Nat.zero_add] at key
  have it : evI (run (G lf) wf n) st.length [.val (.tup (nl on m)), .val (.tup (nl off m)), .ol [], .val (.int 0), .un, .un] st (.zp (.var 0) (.var 1)) = .ok ((List.range m).map fun k => D.tup [.int (on k : Int), .int (off k : Int)]) st := by
    simp [zp_nl]
  by_cases hall : ∀ j < m, okL on off j = true
  · obtain ⟨s', k1, sx, sy, es⟩ := key.1 hall
    subst es
    rw [if_pos hall]
    refine run_pure rfl rfl rfl ?_ (by
      simp only [D.rb]
      exact rbL_all fun d hd => by
        obtain ⟨k, _, rfl⟩ := List.mem_map.mp hd
        simp [D.rb]) rfl
    simp only [f_loads_of]
    have fl : evS (run (G lf) wf n) wf st.length [.val (.tup (nl on m)), .val (.tup (nl off m)), .ol [], .val (.int 0), .un, .un] st (.for_ (.tp [4, 5]) (.zp (.var 0) (.var 1)) [.ifs (.cmp .gt (.var 5) (.var 3)) [.ret (.con .non)] [], .asg 3 (.pl (.bin .add (.bin .sub (.var 3) (.var 5)) (.var 4))), .app 2 (.var 3)]) = .nx [.val (.tup (nl on m)), .val (.tup (nl off m)), .ol (nlI (fun k => hr on off (k + 1)) m), .val (.int (hr on off m)), sx, sy] st := by
      rw [ev_for, it]
      exact k1
    simp [szOk_of, setSl, fl]
  · have hex : ∃ j < m, okL on off j = false := by
      refine Classical.byContradiction fun z => hall fun j hj => ?_
      cases e : okL on off j with
      | true => rfl
      | false => exact absurd ⟨j, hj, e⟩ z
    have k1 := key.2 hex
    rw [if_neg hall]
    refine run_pure rfl rfl rfl ?_ rfl rfl
    simp only [f_loads_of]
    have fl : evS (run (G lf) wf n) wf st.length [.val (.tup (nl on m)), .val (.tup (nl off m)), .ol [], .val (.int 0), .un, .un] st (.for_ (.tp [4, 5]) (.zp (.var 0) (.var 1)) [.ifs (.cmp .gt (.var 5) (.var 3)) [.ret (.con .non)] [], .asg 3 (.pl (.bin .add (.bin .sub (.var 3) (.var 5)) (.var 4))), .app 2 (.var 3)]) = .rt .non st := by
      rw [ev_for, it]
      exact k1
    simp [szOk_of, setSl, fl]
end
end Mn
set_option maxHeartbeats 4000000
namespace Mn
open PySem
/-! ### equality -/
theorem sh_intsT (xs : List Int) : SeqAt.shaped (.tuple (xs.map .int)) = true := by
  have := dep_ints xs
  simp [SeqAt.shaped, PyData.canLay0, lay_ints, PyData.depth]; omega
theorem eqvAll_ints : ∀ xs : List Int, PyData.eqvAll (xs.map .int) (xs.map .int) = true
  | [] => by simp [PyData.eqvAll]
  | x :: xs => by simp [PyData.eqvAll, PyData.eqv, eqvAll_ints xs]
theorem eqD_intsT (xs : List Int) : eqD (.tup (xs.map .int)) (.tup (xs.map .int)) = some true := by
  simp only [eqD, D.py, pyL_ints, Option.map_some, sh_intsT, Bool.and_self, if_true]
  rw [PyData.eqv, eqvAll_ints]
theorem eqD_bl (a b : Bool) : eqD (.bl a) (.bl b) = some (a == b) := by
  have h1 : SeqAt.shaped (.bool a) = true := by simp [SeqAt.shaped, PyData.canLay0, PyData.depth]
  have h2 : SeqAt.shaped (.bool b) = true := by simp [SeqAt.shaped, PyData.canLay0, PyData.depth]
  simp only [eqD, D.py, h1, h2, Bool.and_self, if_true]
  rfl
theorem cm_ne_bl (a b : Bool) : cmD .ne (.bl a) (.bl b) = some (!(a == b)) := by
  simp only [cmD, eqD_bl]; rfl
theorem cm_notB (a b : Bool) : cmD .notB (.bl a) (.bl b) = some (!decide (a = b)) := by simp only [cmD]
/-! ### tallies of any numbers -/
def goodB (m s : Nat) (on off : Nat → Nat) : Bool := decide ((∀ j < m, okL on off j = true) ∧ (∀ j < m, hr on off (j + 1) ≤ (s : Int)) ∧ hr on off m = 0 ∧ on (m - 1) = 0)
theorem nlI_len (f : Nat → Int) (n : Nat) : (nlI f n).length = n := by simp [nlI]
theorem ints_nlI (f : Nat → Int) (m : Nat) : intsD (nlI f m) = some ((List.range m).map f) := by
  unfold nlI
  rw [show (List.range m).map (fun k => D.int (f k)) = ((List.range m).map f).map .int by rw [List.map_map]; rfl, ints_map]
theorem max_nlI (f : Nat → Int) {m : Nat} (h : 0 < m) : ∃ x, maxI ((List.range m).map f) = some x ∧ ∀ s : Int, decide (x ≤ s) = decide (∀ j < m, f j ≤ s) := by
  cases e : maxI ((List.range m).map f) with
  | none =>
    cases m with
    | zero => omega
    | succ m => rw [List.range_succ_eq_map] at e; simp [maxI] at e
  | some x =>
    obtain ⟨h1, h2⟩ := maxI_spec e
    refine ⟨x, rfl, fun s => ?_⟩
    rw [decide_eq_decide]
    constructor
    · intro hx j hj
      have := h2 (f j) (List.mem_map.mpr ⟨j, by simpa using hj, rfl⟩)
      omega
    · intro hall
      obtain ⟨k, hk, rfl⟩ := List.mem_map.mp h1
      exact hall k (by simpa using hk)
theorem idxS_endI {f : Nat → Int} {n : Nat} {st : Store} (h : 0 < n) : idxS (.tup (nlI f n)) (.int (-1)) st = .ok (.int (f (n - 1))) st := by
  refine idxS_tup ?_
  simp only [idxD, nlI_len, ixN_last h, Option.bind_some]
  simp [nlI, show n - 1 < n by omega]
section
variable {lf : Fn} {wf bs n : Nat} {st : Store} {m s : Nat} {on off : Nat → Nat}
theorem run_goodG (h1 : 1 ≤ m) (h6 : m ≤ 6) (ho : ∀ k < m, on k ≤ 9) (hf : ∀ k < m, off k ≤ 9) : run (G lf) wf (n + 3) bs 6 [ln m s, tl on off m] st = .ok (.bl (goodB m s on off)) st := by
  refine run_pure rfl rfl rfl ?_ rfl rfl
  have q1 := @run_are_numbers lf wf st.length n st on m (by omega) ho
  have q2 := @run_are_numbers lf wf st.length n st off m (by omega) hf
  have key := ev_lcM (cf := run (G lf) wf (n + 2)) (bs := st.length) (σ := [.val (ln m s), .val (tl on off m), .un, .un]) (st := st) (own := [3]) (tg := .nm 3) (it := .ov (.var 1)) (el := .call 4 (.cons (.var 3) (.cons (.idx (.var 0) (.con (.int 0))) .nil))) (xs := [.tup (nl on m), .tup (nl off m)]) (fun _ => .bl true) (by simp) (fun x hx => by
      refine ⟨_, rfl, ?_⟩
      simp at hx
      rcases hx with rfl | rfl
      · simp [wipeS, idxS0, q1]
      · simp [wipeS, idxS0, q2]) (by simp)
  have ld := run_loads_ofG (lf := lf) (wf := wf) (bs := st.length) (n := n + 1) (st := st) (m := m) (by omega) on off
  simp only [f_is_good_tally]
  by_cases hall : ∀ j < m, okL on off j = true
  · rw [if_pos hall] at ld
    obtain ⟨x, hx, hxs⟩ := max_nlI (fun k => hr on off (k + 1)) (show 0 < m by omega)
    have c1 : cmD .notN (.tup (nlI (fun k => hr on off (k + 1)) m)) .non = some true := by simp [cmD]
    have hm1 : m - 1 + 1 = m := by omega
    have e1 := hxs (s : Int)
    by_cases a1 : x ≤ (s : Int)
    · have b1 : ∀ j < m, hr on off (j + 1) ≤ (s : Int) := by
        have : decide (∀ j < m, hr on off (j + 1) ≤ (s : Int)) = true := by rw [← e1]; exact decide_eq_true a1
        exact of_decide_eq_true this
      by_cases a2 : hr on off m = 0
      · have eg : goodB m s on off = decide ((on (m - 1) : Int) = 0) := by
          unfold goodB
          rw [decide_eq_decide]
          constructor
          · rintro ⟨_, _, _, z⟩; omega
          · intro z; exact ⟨hall, b1, a2, by omega⟩
        rw [eg]
        simp [cm_ne, key, bls_true, blsD, idxS0, idxS1, ld, c1, ints_nlI, hx, a1, idxS_endI (f := fun k => hr on off (k + 1)) (show 0 < m by omega), hm1, a2, cm_eq, idxS_end (show 0 < m by omega)]
      · have eg : goodB m s on off = false := by
          unfold goodB
          rw [decide_eq_false_iff_not]
          rintro ⟨_, _, z, _⟩; exact a2 z
        rw [eg]
        simp [cm_ne, key, bls_true, blsD, idxS0, idxS1, ld, c1, ints_nlI, hx, a1, idxS_endI (f := fun k => hr on off (k + 1)) (show 0 < m by omega), hm1, a2, cm_eq]
    · have eg : goodB m s on off = false := by
        unfold goodB
        rw [decide_eq_false_iff_not]
        rintro ⟨_, z, _, _⟩
        have : decide (x ≤ (s : Int)) = true := by rw [e1]; exact decide_eq_true z
        exact a1 (of_decide_eq_true this)
      rw [eg]
      simp [cm_ne, key, bls_true, blsD, idxS0, idxS1, ld, c1, ints_nlI, hx, a1]
  · rw [if_neg hall] at ld
    have eg : goodB m s on off = false := by
      unfold goodB
      rw [decide_eq_false_iff_not]
      rintro ⟨z, _⟩; exact hall z
    have c1 : cmD .notN .non .non = some false := by simp [cmD]
    rw [eg]
    simp [cm_ne, key, bls_true, blsD, idxS0, idxS1, ld, c1]
def okO (s : Nat) (on off : Nat → Nat) (j : Nat) : Bool := okL on off j && decide (hr on off (j + 1) ≤ (s : Int))
theorem run_own (h1 : 1 ≤ m) (h6 : m ≤ 6) : run (G lf) wf (n + 1) bs 30 [ln m s, tl on off m] st = .ok (.bl (goodB m s on off)) st := by
  refine run_pure rfl rfl rfl ?_ rfl rfl
  have key := forL_scan (tg := .tp [3, 4]) (st := st) (body := fun σ st' => evSs (run (G lf) wf n) wf st.length σ st' [.ifs (.or (.cons (.cmp .gt (.var 4) (.var 2)) (.cons (.cmp .gt (.bin .add (.bin .sub (.var 2) (.var 4)) (.var 3)) (.idx (.var 0) (.con (.int 1)))) .nil))) [.ret (.con (.bl false))] [], .asg 2 (.pl (.bin .add (.bin .sub (.var 2) (.var 4)) (.var 3)))]) (.bl false) (okO s on off)
    (fun j σ => ∃ sx sy, σ = [.val (ln m s), .val (tl on off m), .val (.int (hr on off j)), sx, sy]) ((List.range m).map fun k => D.tup [.int (on k : Int), .int (off k : Int)]) 0
    [.val (ln m s), .val (tl on off m), .val (.int 0), .un, .un] ⟨.un, .un, rfl⟩ (fun j x σ hx ⟨sx, sy, es⟩ => by
      subst es
      have hj : j < m := by have := (List.getElem?_eq_some_iff.mp hx).1; simpa using this
      simp [hj] at hx
      subst hx
      rw [Nat.zero_add]
      have hv : hr on off j - (off j : Int) + (on j : Int) = hr on off (j + 1) := rfl
      refine ⟨[.val (ln m s), .val (tl on off m), .val (.int (hr on off j)), .val (.int (on j)), .val (.int (off j))], by simp [bindT, setAll], fun hk => ?_, fun hk => ?_⟩
      · unfold okO okL at hk
        simp only [Bool.and_eq_true, decide_eq_true_eq] at hk
        have c1 : ¬ (hr on off j < (off j : Int)) := by omega
        have c2 : ¬ ((s : Int) < hr on off (j + 1)) := by omega
        refine ⟨[.val (ln m s), .val (tl on off m), .val (.int (hr on off (j + 1))), .val (.int (on j)), .val (.int (off j))], ?_, .val (.int (on j)), .val (.int (off j)), rfl⟩
        simp only [ev_Scons, ev_ifs]
        simp [c1, hv, idxS1, c2]
      · unfold okO okL at hk
        simp only [ev_Scons, ev_ifs]
        by_cases c1 : hr on off j < (off j : Int)
        · simp [c1]
        · have c2 : (s : Int) < hr on off (j + 1) := by
            simp only [Bool.and_eq_false_iff, decide_eq_false_iff_not] at hk
            omega
          simp [c1, hv, idxS1, c2])
  simp only [List.length_map, List.length_range, Nat.zero_add] at key
  have it : evI (run (G lf) wf n) st.length [.val (ln m s), .val (tl on off m), .val (.int 0), .un, .un] st (.zp (.idx (.var 1) (.con (.int 0))) (.idx (.var 1) (.con (.int 1)))) = .ok ((List.range m).map fun k => D.tup [.int (on k : Int), .int (off k : Int)]) st := by
    simp [idxS0, idxS1, zp_nl]
  simp only [f_law_is_own_tally]
  by_cases hall : ∀ j < m, okO s on off j = true
  · obtain ⟨s', k1, sx, sy, es⟩ := key.1 hall
    subst es
    have fl : evS (run (G lf) wf n) wf st.length [.val (ln m s), .val (tl on off m), .val (.int 0), .un, .un] st (.for_ (.tp [3, 4]) (.zp (.idx (.var 1) (.con (.int 0))) (.idx (.var 1) (.con (.int 1)))) [.ifs (.or (.cons (.cmp .gt (.var 4) (.var 2)) (.cons (.cmp .gt (.bin .add (.bin .sub (.var 2) (.var 4)) (.var 3)) (.idx (.var 0) (.con (.int 1)))) .nil))) [.ret (.con (.bl false))] [], .asg 2 (.pl (.bin .add (.bin .sub (.var 2) (.var 4)) (.var 3)))]) = .nx [.val (ln m s), .val (tl on off m), .val (.int (hr on off m)), sx, sy] st := by
      rw [ev_for, it]
      exact k1
    have b0 : ∀ j < m, okL on off j = true := fun j hj => by have := hall j hj; unfold okO at this; simp only [Bool.and_eq_true] at this; exact this.1
    have b1 : ∀ j < m, hr on off (j + 1) ≤ (s : Int) := fun j hj => by have := hall j hj; unfold okO at this; simp only [Bool.and_eq_true, decide_eq_true_eq] at this; exact this.2
    by_cases a2 : hr on off m = 0
    · have eg : goodB m s on off = decide ((on (m - 1) : Int) = 0) := by
        unfold goodB
        rw [decide_eq_decide]
        constructor
        · rintro ⟨_, _, _, z⟩; omega
        · intro z; exact ⟨b0, b1, a2, by omega⟩
      rw [eg]
      simp [fl, a2, cm_eq, idxS0, idxS_end (show 0 < m by omega)]
    · have eg : goodB m s on off = false := by
        unfold goodB
        rw [decide_eq_false_iff_not]
        rintro ⟨_, _, z, _⟩; exact a2 z
      rw [eg]
      simp [fl, a2, cm_eq]
  · have hex : ∃ j < m, okO s on off j = false := by
      refine Classical.byContradiction fun z => hall fun j hj => ?_
      cases e : okO s on off j with
      | true => rfl
      | false => exact absurd ⟨j, hj, e⟩ z
    have k1 := key.2 hex
    have fl : evS (run (G lf) wf n) wf st.length [.val (ln m s), .val (tl on off m), .val (.int 0), .un, .un] st (.for_ (.tp [3, 4]) (.zp (.idx (.var 1) (.con (.int 0))) (.idx (.var 1) (.con (.int 1)))) [.ifs (.or (.cons (.cmp .gt (.var 4) (.var 2)) (.cons (.cmp .gt (.bin .add (.bin .sub (.var 2) (.var 4)) (.var 3)) (.idx (.var 0) (.con (.int 1)))) .nil))) [.ret (.con (.bl false))] [], .asg 2 (.pl (.bin .add (.bin .sub (.var 2) (.var 4)) (.var 3)))]) = .rt (.bl false) st := by
      rw [ev_for, it]
      exact k1
    have eg : goodB m s on off = false := by
      unfold goodB
      rw [decide_eq_false_iff_not]
      rintro ⟨z1, z2, _⟩
      exact hall fun j hj => by unfold okO; rw [z1 j hj, decide_eq_true (z2 j hj)]; rfl
    rw [eg]
    simp [fl]
theorem run_is_tallyG (h2 : 2 ≤ m) (h6 : m ≤ 6) (s1 : 1 ≤ s) (s9 : s ≤ 9) (ho : ∀ k < m, on k ≤ 9) (hf : ∀ k < m, off k ≤ 9) : run (G lf) wf (n + 4) bs 7 [ln m s, tl on off m] st = .ok (.bl (goodB m s on off)) st := by
  refine run_pure rfl rfl rfl ?_ rfl rfl
  simp only [f_is_tally]
  simp [run_need_line h2 h6 s1 s9, run_goodG (lf := lf) (wf := wf) (bs := st.length) (n := n) (st := st) (s := s) (show 1 ≤ m by omega) h6 ho hf]
end
end Mn
set_option maxHeartbeats 4000000
namespace Mn
open PySem
@[simp] theorem ty_t_non : tyD .tuple .non = some false := by first | (rw [tyD]; done) | (unfold tyD; rfl)
@[simp] theorem ty_t_int (i : Int) : tyD .tuple (.int i) = some false := by first | (rw [tyD]; done) | (unfold tyD; rfl)
@[simp] theorem ty_t_lst (xs : List D) : tyD .tuple (.lst xs) = some false := by first | (rw [tyD]; done) | (unfold tyD; rfl)
@[simp] theorem ty_i_bl (b : Bool) : tyD .int (.bl b) = some true := by first | (rw [tyD]; done) | (unfold tyD; rfl)
@[simp] theorem ty_b_bl (b : Bool) : tyD .bool (.bl b) = some true := by first | (rw [tyD]; done) | (unfold tyD; rfl)
def rfD (c : Nat) : D := .tup [.str "refused", .str (exN c)]
theorem ev_told {cf : Nat → Nat → List D → Store → Out D} {bs : Nat} {σ : List Sl} {st : Store} (k : Tk) (as : List Ar) : evE cf bs σ st (.told k as) = match evArs σ as with
    | some ds => match k with
      | .fn f => toldO (cf bs f ds st)
      | .mk f => toldO (mkO (cf bs f (.opq :: ds) st))
    | none => .bad := by
  first
  | (rw [evE]; done)
  | (rw [evE]
     generalize evArs σ as = u
     cases u with
     | none => rfl
     | some ds => cases k <;> rfl)
def badLines : List D := [.non, .int 5, .tup [], .tup [.int 1, .int 1], .tup [.int 7, .int 1], .tup [.int 2, .int 0], .tup [.int 2, .int 10], .tup [.int 2], .lst [.int 2, .int 1], .tup [.bl true, .int 1], .tup [.int 2, .int 1, .int 1]]
section
variable {lf : Fn} {wf bs n : Nat} {st : Store} {d : D}
theorem run_is_whole_bl (b : Bool) (lo hi : Int) : run (G lf) wf (n + 1) bs 1 [.bl b, .int lo, .int hi] st = .ok (.bl false) st := by
  refine run_pure rfl rfl rfl ?_ rfl rfl
  simp [f_is_whole]
theorem run_is_line_bad (h : d ∈ badLines) : run (G lf) wf (n + 2) bs 2 [d] st = .ok (.bl false) st := by
  unfold badLines at h
  simp only [List.mem_cons, List.not_mem_nil, or_false] at h
  refine run_pure rfl rfl rfl ?_ rfl rfl
  rcases h with rfl | rfl | rfl | rfl | rfl | rfl | rfl | rfl | rfl | rfl | rfl
  all_goals simp [f_is_line, cm_eq, idxS0, idxS1, run_is_whole, run_is_whole_bl]
theorem run_need_line_bad (h : d ∈ badLines) : run (G lf) wf (n + 3) bs 3 [d] st = .exc 0 st := by
  refine run_exc rfl rfl rfl ?_ rfl
  simp [f_need_line, run_is_line_bad h]
theorem run_is_tally_badL (h : d ∈ badLines) : run (G lf) wf (n + 4) bs 7 [d, .non] st = .exc 0 st := by
  refine run_exc rfl rfl rfl ?_ rfl
  simp [f_is_tally, run_need_line_bad h]
theorem run_loads_badL (h : d ∈ badLines) : run (G lf) wf (n + 5) bs 9 [d, .non] st = .exc 0 st := by
  refine run_exc rfl rfl rfl ?_ rfl
  have e : ∀ b, run (G lf) wf (n + 4) b 8 [d, .non] st = .exc 0 st := fun b => by
    refine run_exc rfl rfl rfl ?_ rfl
    simp [f_need_tally, run_need_line_bad h]
  simp [f_loads, e]
theorem run_coach_badL (h : d ∈ badLines) : run (G lf) wf (n + 4) bs 500 [.opq, d] st = .exc 0 st := by
  refine run_exc rfl rfl rfl ?_ rfl
  simp [f_Coach_init, run_need_line_bad h]
theorem run_line_text_badL (h : d ∈ badLines) : run (G lf) wf (n + 4) bs 21 [d] st = .exc 0 st := by
  refine run_exc rfl rfl rfl ?_ rfl
  simp [f_line_text, run_need_line_bad h]
theorem sz3 : szOk 3 = true := szOk_of (by omega)
theorem sz4 : szOk 4 = true := szOk_of (by omega)
theorem sz5 : szOk 5 = true := szOk_of (by omega)
theorem sz6 : szOk 6 = true := szOk_of (by omega)
theorem ne_rf0 : cmD .ne (.lst [rfD 0, rfD 0, rfD 0, rfD 0]) (.lst [rfD 0, rfD 0, rfD 0, rfD 0]) = some false := by decide +kernel
theorem ne_rf1 : cmD .ne (.lst [rfD 1, rfD 1, rfD 1, rfD 1, rfD 1, rfD 1]) (.lst [rfD 1, rfD 1, rfD 1, rfD 1, rfD 1, rfD 1]) = some false := by decide +kernel
theorem mul_rf0 : opD .mul (.lst [.tup [.str "refused", .str "BadLine"]]) (.int 4) = some (.lst [rfD 0, rfD 0, rfD 0, rfD 0]) := @mul_lst1 (rfD 0) 4 (by omega)
theorem mul_rf1 : opD .mul (.lst [.tup [.str "refused", .str "BadTally"]]) (.int 6) = some (.lst [rfD 1, rfD 1, rfD 1, rfD 1, rfD 1, rfD 1]) := @mul_lst1 (rfD 1) 6 (by omega)
def bodyL : List S := [.asg 5 (.nl (.cons (.told (.fn 7) [.v 2, .c .non]) .nil)), .app 5 (.told (.fn 9) [.v 2, .c .non]), .app 5 (.told (.mk 500) [.v 2]), .app 5 (.told (.fn 21) [.v 2]), .frz 5, .ifs (.or (.cons (.cmp .notB (.call 2 (.cons (.var 2) .nil)) (.con (.bl false))) (.cons (.cmp .ne (.var 5) (.bin .mul (.lst (.cons (.tup (.cons (.con (.str "refused")) (.cons (.con (.str "BadLine")) .nil))) .nil)) (.con (.int 4)))) .nil))) [.ret (.con (.bl false))] []]
theorem ev_bodyL {a0 a1 a3 a4 a5 : Sl} (h : d ∈ badLines) : evSs (run (G lf) wf (n + 5)) wf bs [a0, a1, .val d, a3, a4, a5] st bodyL = .nx [a0, a1, .val d, a3, a4, .val (.lst [rfD 0, rfD 0, rfD 0, rfD 0])] st := by
  have t1 := run_is_tally_badL (lf := lf) (wf := wf) (bs := bs) (n := n + 1) (st := st) h
  have t2 := run_loads_badL (lf := lf) (wf := wf) (bs := bs) (n := n) (st := st) h
  have t3 := run_coach_badL (lf := lf) (wf := wf) (bs := bs) (n := n + 1) (st := st) h
  have t4 := run_line_text_badL (lf := lf) (wf := wf) (bs := bs) (n := n + 1) (st := st) h
  have t5 := run_is_line_bad (lf := lf) (wf := wf) (bs := bs) (n := n + 3) (st := st) h
  have r0 : ∀ s' : Store, toldO (.exc 0 s') = .ok (rfD 0) s' := fun s' => toldO_exc (by omega)
  have b1 : evS (run (G lf) wf (n + 5)) wf bs [a0, a1, .val d, a3, a4, a5] st (.asg 5 (.nl (.cons (.told (.fn 7) [.v 2, .c .non]) .nil))) = .nx [a0, a1, .val d, a3, a4, .ol [rfD 0]] st := by
    simp [ev_told, evArs, evAr, t1, r0, sz1]
  have b2 : evS (run (G lf) wf (n + 5)) wf bs [a0, a1, .val d, a3, a4, .ol [rfD 0]] st (.app 5 (.told (.fn 9) [.v 2, .c .non])) = .nx [a0, a1, .val d, a3, a4, .ol [rfD 0, rfD 0]] st := by
    rw [ev_app, app_ol (ds := [rfD 0]) (by simp)]
    simp [ev_told, evArs, evAr, t2, r0, sz2]
  have b3 : evS (run (G lf) wf (n + 5)) wf bs [a0, a1, .val d, a3, a4, .ol [rfD 0, rfD 0]] st (.app 5 (.told (.mk 500) [.v 2])) = .nx [a0, a1, .val d, a3, a4, .ol [rfD 0, rfD 0, rfD 0]] st := by
    rw [ev_app, app_ol (ds := [rfD 0, rfD 0]) (by simp)]
    simp [ev_told, evArs, evAr, t3, mkO_exc, r0, sz3]
  have b4 : evS (run (G lf) wf (n + 5)) wf bs [a0, a1, .val d, a3, a4, .ol [rfD 0, rfD 0, rfD 0]] st (.app 5 (.told (.fn 21) [.v 2])) = .nx [a0, a1, .val d, a3, a4, .ol [rfD 0, rfD 0, rfD 0, rfD 0]] st := by
    rw [ev_app, app_ol (ds := [rfD 0, rfD 0, rfD 0]) (by simp)]
    simp [ev_told, evArs, evAr, t4, r0, sz4]
  have b5 : evS (run (G lf) wf (n + 5)) wf bs [a0, a1, .val d, a3, a4, .ol [rfD 0, rfD 0, rfD 0, rfD 0]] st (.frz 5) = .nx [a0, a1, .val d, a3, a4, .val (.lst [rfD 0, rfD 0, rfD 0, rfD 0])] st := by simp
  unfold bodyL
  rw [ev_Scons, b1, Fl.seq_nx, ev_Scons, b2, Fl.seq_nx, ev_Scons, b3, Fl.seq_nx, ev_Scons, b4, Fl.seq_nx, ev_Scons, b5, Fl.seq_nx]
  simp only [ev_Scons, ev_ifs, ev_or, ev_or2, ev_or1]
  simp [t5, cm_notB, sz1, sz2, mul_rf0, ne_rf0]
end
end Mn
set_option maxHeartbeats 4000000
namespace Mn
open PySem
theorem cut_m1 {α : Type} (xs : List α) : cut xs none (some (-1)) = xs.take (xs.length - 1) := by
  unfold cut sIx HT.sIx
  simp
  omega
theorem slc_toT (xs : List D) (k : Nat) : slcD (.tup xs) none (some (k : Int)) = some (.tup (xs.take k)) := by rw [slcD, cut_to]
theorem slc_fromT (xs : List D) (k : Nat) : slcD (.tup xs) (some (k : Int)) none = some (.tup (xs.drop k)) := by rw [slcD, cut_from]
theorem slc_m1T (xs : List D) : slcD (.tup xs) none (some (-1)) = some (.tup (xs.take (xs.length - 1))) := by rw [slcD, cut_m1]
theorem nl_take {f : Nat → Nat} {m k : Nat} (h : k ≤ m) : (nl f m).take k = nl f k := by
  refine List.ext_getElem? fun i => ?_
  by_cases hi : i < k
  · rw [List.getElem?_take_of_lt hi, nl_get (by omega), nl_get hi]
  · rw [List.getElem?_eq_none (by simp; omega), List.getElem?_eq_none (by simp; omega)]
theorem add_tup {xs ys : List D} (h : xs.length + ys.length ≤ 16777216) : opD .add (.tup xs) (.tup ys) = some (.tup (xs ++ ys)) := by simp [opD, szOk_of h]
@[simp] theorem bi_list_t (xs : List D) : biD .list [.tup xs] = some (.lst xs) := by first | (rw [biD]; done) | (unfold biD; rfl) | simp only [biD]
def badTs (m : Nat) (on off : Nat → Nat) : List D := [.non, .int 5, .tup [], .tup [.tup (nl on m)], .lst [.tup (nl on m), .tup (nl off m)], .tup [.tup (nl on m), .tup (nl off m), .tup (nl on m)], .tup [.tup (nl on (m - 1)), .tup (nl off (m - 1))], .tup [.lst (nl on m), .tup (nl off m)], .tup [.tup (nl on m), .tup (.bl true :: (nl off m).drop 1)]]
section
variable {lf : Fn} {wf bs n : Nat} {st : Store} {d : D} {m s : Nat} {on off : Nat → Nat}
theorem are_len {xs : List D} (h : xs.length ≠ m) : run (G lf) wf (n + 2) bs 4 [.tup xs, .int (m : Int)] st = .ok (.bl false) st := by
  refine run_pure rfl rfl rfl ?_ rfl rfl
  have : ¬ ((xs.length : Int) = (m : Int)) := by omega
  simp [f_are_numbers, cm_eq, this]
theorem are_lst {xs : List D} : run (G lf) wf (n + 2) bs 4 [.lst xs, .int (m : Int)] st = .ok (.bl false) st := by
  refine run_pure rfl rfl rfl ?_ rfl rfl
  simp [f_are_numbers]
theorem are_bl (hm : 1 ≤ m) (h6 : m ≤ 6) (hf : ∀ k < m, off k ≤ 9) : run (G lf) wf (n + 2) bs 4 [.tup (.bl true :: (nl off m).drop 1), .int (m : Int)] st = .ok (.bl false) st := by
  refine run_pure rfl rfl rfl ?_ rfl rfl
  have hlen : (D.bl true :: (nl off m).drop 1).length = m := by simp; omega
  have key := ev_lcM (cf := run (G lf) wf (n + 1)) (bs := st.length) (σ := [.val (.tup (.bl true :: (nl off m).drop 1)), .val (.int (m : Int)), .un]) (st := st) (own := [2]) (tg := .nm 2) (it := .ov (.var 0)) (el := .call 1 (.cons (.var 2) (.cons (.con (.int 0)) (.cons (.glb "MOST" (.int 9)) .nil)))) (xs := .bl true :: (nl off m).drop 1) (fun x => match x with | .int _ => .bl true | _ => .bl false) (by simp) (fun x hx => by
      rcases List.mem_cons.mp hx with rfl | hx
      · exact ⟨_, rfl, by simp [wipeS, run_is_whole_bl]⟩
      · obtain ⟨k, hk, rfl⟩ := List.mem_map.mp (List.mem_of_mem_drop hx)
        have := hf k (by simpa using hk)
        have a1 : (0 : Int) ≤ off k := by omega
        have a2 : (off k : Int) ≤ 9 := by omega
        refine ⟨_, rfl, ?_⟩
        simp [wipeS, run_is_whole, a1, a2]) (by rw [hlen]; omega)
  have e0 : (D.bl true :: (nl off m).drop 1).map (fun x => match x with | .int _ => D.bl true | _ => .bl false) = .bl false :: ((nl off m).drop 1).map (fun _ => .bl true) := by
    rw [List.map_cons]
    congr 1
    refine List.map_congr_left fun x hx => ?_
    obtain ⟨k, hk, rfl⟩ := List.mem_map.mp (List.mem_of_mem_drop hx)
    rfl
  rw [e0] at key
  have hb : blsD (.bl false :: ((nl off m).drop 1).map (fun _ => D.bl true)) = some (false :: List.replicate ((nl off m).drop 1).length true) := by
    rw [blsD, bls_true]; rfl
  generalize ((nl off m).drop 1) = xs at key hb hlen
  generalize (xs.map fun _ => D.bl true) = l2 at key hb
  have hl2 : ((xs.length : Int) + 1 = (m : Int)) := by simp at hlen; omega
  simp only [f_are_numbers]
  simp [cm_eq, hl2, key, hb]
theorem good_two {r1 r2 : D} {b1 b2 : Bool} (h1 : ∀ b, run (G lf) wf (n + 2) b 4 [r1, .int (m : Int)] st = .ok (.bl b1) st) (h2 : ∀ b, run (G lf) wf (n + 2) b 4 [r2, .int (m : Int)] st = .ok (.bl b2) st) (hb : (b1 && b2) = false) : run (G lf) wf (n + 3) bs 6 [ln m s, .tup [r1, r2]] st = .ok (.bl false) st := by
  refine run_pure rfl rfl rfl ?_ rfl rfl
  have key : evE (run (G lf) wf (n + 2)) st.length [.val (ln m s), .val (.tup [r1, r2]), .un, .un] st (.lc [3] (.nm 3) (.ov (.var 1)) (.call 4 (.cons (.var 3) (.cons (.idx (.var 0) (.con (.int 0))) .nil)))) = .ok (.lst [.bl b1, .bl b2]) st := by
    rw [ev_lc]
    simp [compL, bindT, wipeS, idxS0, h1, h2, sz1, sz2]
  have hb2 : blsD [.bl b1, .bl b2] = some [b1, b2] := by simp [blsD]
  simp only [f_is_good_tally]
  cases b1 with
  | false => simp [cm_ne, key, hb2]
  | true =>
    cases b2 with
    | false => simp [cm_ne, key, hb2]
    | true => cases hb
theorem run_good_bad (h2 : 2 ≤ m) (h6 : m ≤ 6) (ho : ∀ k < m, on k ≤ 9) (hf : ∀ k < m, off k ≤ 9) (h : d ∈ badTs m on off) : run (G lf) wf (n + 3) bs 6 [ln m s, d] st = .ok (.bl false) st := by
  unfold badTs at h
  simp only [List.mem_cons, List.not_mem_nil, or_false] at h
  rcases h with rfl | rfl | rfl | rfl | rfl | rfl | rfl | rfl | rfl
  iterate 6
    · refine run_pure rfl rfl rfl ?_ rfl rfl
      simp [f_is_good_tally, cm_ne]
  · exact good_two (fun b => are_len (by simp; omega)) (fun b => are_len (by simp; omega)) rfl
  · exact good_two (fun b => are_lst) (fun b => run_are_numbers (by omega) hf) rfl
  · exact good_two (fun b => run_are_numbers (by omega) ho) (fun b => are_bl (by omega) h6 hf) rfl
theorem need_tally_bad (h2 : 2 ≤ m) (h6 : m ≤ 6) (s1 : 1 ≤ s) (s9 : s ≤ 9) (ho : ∀ k < m, on k ≤ 9) (hf : ∀ k < m, off k ≤ 9) (h : d ∈ badTs m on off) : run (G lf) wf (n + 4) bs 8 [ln m s, d] st = .exc 1 st := by
  refine run_exc rfl rfl rfl ?_ rfl
  simp [f_need_tally, run_need_line h2 h6 s1 s9, run_good_bad h2 h6 ho hf h]
/-- a def that first asks for a tally -/
theorem first_bad {f : Nat} {fn : Fn} {rest : List S} (hG : G lf f = some fn) (hp : fn.np = 2) (hk : fn.keep = false) (hn : 2 ≤ fn.ns) (hb : fn.body = .ex (.call 8 (.cons (.var 0) (.cons (.var 1) .nil))) :: rest) (h2 : 2 ≤ m) (h6 : m ≤ 6) (s1 : 1 ≤ s) (s9 : s ≤ 9) (ho : ∀ k < m, on k ≤ 9) (hf : ∀ k < m, off k ≤ 9) (h : d ∈ badTs m on off) :
    run (G lf) wf (n + 5) bs f [ln m s, d] st = .exc 1 st := by
  refine run_exc hG (by rw [hp]; rfl) hk ?_ rfl
  rw [hb, ev_Scons, ev_ex, ev_call]
  have e : evEs (run (G lf) wf (n + 4)) st.length ([ln m s, d].map Sl.val ++ List.replicate (fn.ns - fn.np) .un) st (.cons (.var 0) (.cons (.var 1) .nil)) = .ok [ln m s, d] st := by simp
  rw [e, Out.bind_ok, need_tally_bad h2 h6 s1 s9 ho hf h]
  simp
end
end Mn
set_option maxHeartbeats 4000000
namespace Mn
open PySem
def bodyT : List S := [.asg 5 (.nl (.cons (.told (.fn 9) [.v 0, .v 2]) .nil)), .app 5 (.told (.fn 19) [.v 0, .v 2]), .app 5 (.told (.fn 17) [.v 0, .v 2]), .app 5 (.told (.fn 16) [.v 0, .v 2]), .app 5 (.told (.fn 14) [.v 0, .v 2]), .app 5 (.told (.fn 20) [.v 0, .v 2]), .frz 5, .ifs (.or (.cons (.cmp .notB (.call 7 (.cons (.var 0) (.cons (.var 2) .nil))) (.con (.bl false))) (.cons (.cmp .ne (.var 5) (.bin .mul (.lst (.cons (.tup (.cons (.con (.str "refused")) (.cons (.con (.str "BadTally")) .nil))) .nil)) (.con (.int 6)))) .nil))) [.ret (.con (.bl false))] []]
section
variable {lf : Fn} {wf bs n : Nat} {st : Store} {d : D} {m s : Nat} {on off : Nat → Nat}
theorem ev_bodyT {a1 a3 a4 a5 : Sl} (h2 : 2 ≤ m) (h6 : m ≤ 6) (s1 : 1 ≤ s) (s9 : s ≤ 9) (ho : ∀ k < m, on k ≤ 9) (hf : ∀ k < m, off k ≤ 9) (h : d ∈ badTs m on off) :
    evSs (run (G lf) wf (n + 5)) wf bs [.val (ln m s), a1, .val d, a3, a4, a5] st bodyT = .nx [.val (ln m s), a1, .val d, a3, a4, .val (.lst [rfD 1, rfD 1, rfD 1, rfD 1, rfD 1, rfD 1])] st := by
  have t9 := first_bad (lf := lf) (wf := wf) (bs := bs) (n := n) (st := st) (f := 9) rfl rfl rfl (by decide) rfl h2 h6 s1 s9 ho hf h
  have t19 := first_bad (lf := lf) (wf := wf) (bs := bs) (n := n) (st := st) (f := 19) rfl rfl rfl (by decide) rfl h2 h6 s1 s9 ho hf h
  have t17 := first_bad (lf := lf) (wf := wf) (bs := bs) (n := n) (st := st) (f := 17) rfl rfl rfl (by decide) rfl h2 h6 s1 s9 ho hf h
  have t16 := first_bad (lf := lf) (wf := wf) (bs := bs) (n := n) (st := st) (f := 16) rfl rfl rfl (by decide) rfl h2 h6 s1 s9 ho hf h
  have t14 := first_bad (lf := lf) (wf := wf) (bs := bs) (n := n) (st := st) (f := 14) rfl rfl rfl (by decide) rfl h2 h6 s1 s9 ho hf h
  have t20 := first_bad (lf := lf) (wf := wf) (bs := bs) (n := n) (st := st) (f := 20) rfl rfl rfl (by decide) rfl h2 h6 s1 s9 ho hf h
  have t7 : run (G lf) wf (n + 5) bs 7 [ln m s, d] st = .ok (.bl false) st := by
    refine run_pure rfl rfl rfl ?_ rfl rfl
    simp [f_is_tally, run_need_line h2 h6 s1 s9, run_good_bad h2 h6 ho hf h]
  have r0 : ∀ s' : Store, toldO (.exc 1 s') = .ok (rfD 1) s' := fun s' => toldO_exc (by omega)
  have b1 : evS (run (G lf) wf (n + 5)) wf bs [.val (ln m s), a1, .val d, a3, a4, a5] st (.asg 5 (.nl (.cons (.told (.fn 9) [.v 0, .v 2]) .nil))) = .nx [.val (ln m s), a1, .val d, a3, a4, .ol [rfD 1]] st := by
    simp [ev_told, evArs, evAr, t9, r0, sz1]
  have b2 : evS (run (G lf) wf (n + 5)) wf bs [.val (ln m s), a1, .val d, a3, a4, .ol [rfD 1]] st (.app 5 (.told (.fn 19) [.v 0, .v 2])) = .nx [.val (ln m s), a1, .val d, a3, a4, .ol [rfD 1, rfD 1]] st := by
    rw [ev_app, app_ol (ds := [rfD 1]) (by simp)]
    simp [ev_told, evArs, evAr, t19, r0, sz2]
  have b3 : evS (run (G lf) wf (n + 5)) wf bs [.val (ln m s), a1, .val d, a3, a4, .ol [rfD 1, rfD 1]] st (.app 5 (.told (.fn 17) [.v 0, .v 2])) = .nx [.val (ln m s), a1, .val d, a3, a4, .ol [rfD 1, rfD 1, rfD 1]] st := by
    rw [ev_app, app_ol (ds := [rfD 1, rfD 1]) (by simp)]
    simp [ev_told, evArs, evAr, t17, r0, sz3]
  have b4 : evS (run (G lf) wf (n + 5)) wf bs [.val (ln m s), a1, .val d, a3, a4, .ol [rfD 1, rfD 1, rfD 1]] st (.app 5 (.told (.fn 16) [.v 0, .v 2])) = .nx [.val (ln m s), a1, .val d, a3, a4, .ol [rfD 1, rfD 1, rfD 1, rfD 1]] st := by
    rw [ev_app, app_ol (ds := [rfD 1, rfD 1, rfD 1]) (by simp)]
    simp [ev_told, evArs, evAr, t16, r0, sz4]
  have b5 : evS (run (G lf) wf (n + 5)) wf bs [.val (ln m s), a1, .val d, a3, a4, .ol [rfD 1, rfD 1, rfD 1, rfD 1]] st (.app 5 (.told (.fn 14) [.v 0, .v 2])) = .nx [.val (ln m s), a1, .val d, a3, a4, .ol [rfD 1, rfD 1, rfD 1, rfD 1, rfD 1]] st := by
    rw [ev_app, app_ol (ds := [rfD 1, rfD 1, rfD 1, rfD 1]) (by simp)]
    simp [ev_told, evArs, evAr, t14, r0, sz5]
  have b6 : evS (run (G lf) wf (n + 5)) wf bs [.val (ln m s), a1, .val d, a3, a4, .ol [rfD 1, rfD 1, rfD 1, rfD 1, rfD 1]] st (.app 5 (.told (.fn 20) [.v 0, .v 2])) = .nx [.val (ln m s), a1, .val d, a3, a4, .ol [rfD 1, rfD 1, rfD 1, rfD 1, rfD 1, rfD 1]] st := by
    rw [ev_app, app_ol (ds := [rfD 1, rfD 1, rfD 1, rfD 1, rfD 1]) (by simp)]
    simp [ev_told, evArs, evAr, t20, r0, sz6]
  have b7 : evS (run (G lf) wf (n + 5)) wf bs [.val (ln m s), a1, .val d, a3, a4, .ol [rfD 1, rfD 1, rfD 1, rfD 1, rfD 1, rfD 1]] st (.frz 5) = .nx [.val (ln m s), a1, .val d, a3, a4, .val (.lst [rfD 1, rfD 1, rfD 1, rfD 1, rfD 1, rfD 1])] st := by simp
  unfold bodyT
  rw [ev_Scons, b1, Fl.seq_nx, ev_Scons, b2, Fl.seq_nx, ev_Scons, b3, Fl.seq_nx, ev_Scons, b4, Fl.seq_nx, ev_Scons, b5, Fl.seq_nx, ev_Scons, b6, Fl.seq_nx, ev_Scons, b7, Fl.seq_nx]
  simp only [ev_Scons, ev_ifs, ev_or, ev_or2, ev_or1]
  simp [t7, cm_notB, sz1, sz2, mul_rf1, ne_rf1]
theorem sz11 : szOk 11 = true := szOk_of (by omega)
theorem sz7 : szOk 7 = true := szOk_of (by omega)
theorem run_refused (h2 : 2 ≤ m) (h6 : m ≤ 6) (s1 : 1 ≤ s) (s9 : s ≤ 9) (ho : ∀ k < m, on k ≤ 9) (hf : ∀ k < m, off k ≤ 9) : run (G lf) wf (n + 6) bs 31 [ln m s, tl on off m] st = .ok (.bl true) st := by
  refine run_pure rfl rfl rfl ?_ rfl rfl
  have itL : evI (run (G lf) wf (n + 5)) st.length [.val (ln m s), .val (tl on off m), .un, .un, .un, .un] st (.ov (.lst (.cons (.con .non) (.cons (.con (.int 5)) (.cons (.tup .nil) (.cons (.tup (.cons (.con (.int 1)) (.cons (.con (.int 1)) .nil))) (.cons (.tup (.cons (.con (.int 7)) (.cons (.con (.int 1)) .nil))) (.cons (.tup (.cons (.con (.int 2)) (.cons (.con (.int 0)) .nil))) (.cons (.tup (.cons (.con (.int 2)) (.cons (.con (.int 10)) .nil))) (.cons (.tup (.cons (.con (.int 2)) .nil)) (.cons (.lst (.cons (.con (.int 2)) (.cons (.con (.int 1)) .nil))) (.cons (.tup (.cons (.con (.bl true)) (.cons (.con (.int 1)) .nil))) (.cons (.tup (.cons (.con (.int 2)) (.cons (.con (.int 1)) (.cons (.con (.int 1)) .nil)))) .nil))))))))))))) = .ok badLines st := by
    simp [sz0, sz1, sz2, sz3, sz11, badLines]
  obtain ⟨sa, st1, k1, e1, x2, x5, es1⟩ := ev_forI (cf := run (G lf) wf (n + 5)) (wf := wf) (bs := st.length) (tg := .nm 2) (b := bodyL) (fun j σ st' => st' = st ∧ ∃ x2 x5, σ = [.val (ln m s), .val (tl on off m), x2, .un, .un, x5]) itL (fun j x σ st' hx ⟨e, x2, x5, es⟩ => by
      subst e es
      exact ⟨[.val (ln m s), .val (tl on off m), .val x, .un, .un, x5], _, st', by simp [bindT], ev_bodyL (List.mem_of_getElem? hx), rfl, _, _, rfl⟩) ⟨rfl, .un, .un, rfl⟩
  subst e1 es1
  have hl1 : (nl on m).length - 1 = m - 1 := by simp
  have hl2 : (nl off m).length - 1 = m - 1 := by simp
  have c3 : evS (run (G lf) wf (n + 5)) wf st1.length [.val (ln m s), .val (tl on off m), x2, .un, .un, x5] st1 (.asg 3 (.pl (.tup (.cons (.slc (.idx (.var 1) (.con (.int 0))) .no (.so (.neg (.con (.int 1))))) (.cons (.slc (.idx (.var 1) (.con (.int 1))) .no (.so (.neg (.con (.int 1))))) .nil)))))
      = .nx [.val (ln m s), .val (tl on off m), x2, .val (.tup [.tup (nl on (m - 1)), .tup (nl off (m - 1))]), .un, x5] st1 := by
    simp [idxS0, idxS1, slc_m1T, hl1, hl2, nl_take (show m - 1 ≤ m by omega), sz2]
  have q1 := slc_toT [.tup (nl on m), .tup (nl off m)] 1
  have q2 := add_tup (xs := [.tup (nl on m), .tup (nl off m)]) (ys := [.tup (nl on m)]) (by simp)
  have c4 : evS (run (G lf) wf (n + 5)) wf st1.length [.val (ln m s), .val (tl on off m), x2, .val (.tup [.tup (nl on (m - 1)), .tup (nl off (m - 1))]), .un, x5] st1 (.asg 4 (.pl (.lst (.cons (.con .non) (.cons (.con (.int 5)) (.cons (.tup .nil) (.cons (.slc (.var 1) .no (.so (.con (.int 1)))) (.cons (.bi .list (.cons (.var 1) .nil)) (.cons (.bin .add (.var 1) (.slc (.var 1) .no (.so (.con (.int 1))))) (.cons (.var 3) .nil))))))))))
      = .nx [.val (ln m s), .val (tl on off m), x2, .val (.tup [.tup (nl on (m - 1)), .tup (nl off (m - 1))]), .val (.lst ((badTs m on off).take 7)), x5] st1 := by
    simp at q1 q2
    simp [q1, q2, sz0, sz7, badTs]
  have q3 := slc_fromT (nl off m) 1
  have q4 := add_tup (xs := [.bl true]) (ys := (nl off m).drop 1) (by simp; omega)
  have q5 := add_lst (xs := (badTs m on off).take 7) (ys := (badTs m on off).drop 7) (by simp [badTs])
  rw [List.take_append_drop] at q5
  have c5 : evS (run (G lf) wf (n + 5)) wf st1.length [.val (ln m s), .val (tl on off m), x2, .val (.tup [.tup (nl on (m - 1)), .tup (nl off (m - 1))]), .val (.lst ((badTs m on off).take 7)), x5] st1 (.asg 4 (.pl (.bin .add (.var 4) (.lst (.cons (.tup (.cons (.bi .list (.cons (.idx (.var 1) (.con (.int 0))) .nil)) (.cons (.idx (.var 1) (.con (.int 1))) .nil))) (.cons (.tup (.cons (.idx (.var 1) (.con (.int 0))) (.cons (.bin .add (.tup (.cons (.con (.bl true)) .nil)) (.slc (.idx (.var 1) (.con (.int 1))) (.so (.con (.int 1))) .no)) .nil))) .nil))))))
      = .nx [.val (ln m s), .val (tl on off m), x2, .val (.tup [.tup (nl on (m - 1)), .tup (nl off (m - 1))]), .val (.lst (badTs m on off)), x5] st1 := by
    have ev2 : evE (run (G lf) wf (n + 5)) st1.length [.val (ln m s), .val (tl on off m), x2, .val (.tup [.tup (nl on (m - 1)), .tup (nl off (m - 1))]), .val (.lst ((badTs m on off).take 7)), x5] st1 (.lst (.cons (.tup (.cons (.bi .list (.cons (.idx (.var 1) (.con (.int 0))) .nil)) (.cons (.idx (.var 1) (.con (.int 1))) .nil))) (.cons (.tup (.cons (.idx (.var 1) (.con (.int 0))) (.cons (.bin .add (.tup (.cons (.con (.bl true)) .nil)) (.slc (.idx (.var 1) (.con (.int 1))) (.so (.con (.int 1))) .no)) .nil))) .nil))) = .ok (.lst ((badTs m on off).drop 7)) st1 := by
      simp at q3 q4
      simp [idxS0, idxS1, q3, q4, sz1, sz2, badTs]
    have ev4 : evE (run (G lf) wf (n + 5)) st1.length [.val (ln m s), .val (tl on off m), x2, .val (.tup [.tup (nl on (m - 1)), .tup (nl off (m - 1))]), .val (.lst ((badTs m on off).take 7)), x5] st1 (.var 4) = .ok (.lst ((badTs m on off).take 7)) st1 := by simp
    rw [ev_asg, ev_pl, ev_bin, ev4, Out.bind_ok, ev2, Out.bind_ok, q5]
    simp
  have itT : evI (run (G lf) wf (n + 5)) st1.length [.val (ln m s), .val (tl on off m), x2, .val (.tup [.tup (nl on (m - 1)), .tup (nl off (m - 1))]), .val (.lst (badTs m on off)), x5] st1 (.ov (.var 4)) = .ok (badTs m on off) st1 := by simp
  obtain ⟨sb, st2, k2, e2, y2, y5, es2⟩ := ev_forI (cf := run (G lf) wf (n + 5)) (wf := wf) (bs := st1.length) (tg := .nm 2) (b := bodyT) (fun j σ st' => st' = st1 ∧ ∃ x2 x5, σ = [.val (ln m s), .val (tl on off m), x2, .val (.tup [.tup (nl on (m - 1)), .tup (nl off (m - 1))]), .val (.lst (badTs m on off)), x5]) itT (fun j x σ st' hx ⟨e, x2, x5, es⟩ => by
      subst e es
      exact ⟨[.val (ln m s), .val (tl on off m), .val x, .val (.tup [.tup (nl on (m - 1)), .tup (nl off (m - 1))]), .val (.lst (badTs m on off)), x5], _, st', by simp [bindT], ev_bodyT h2 h6 s1 s9 ho hf (List.mem_of_getElem? hx), rfl, _, _, rfl⟩) ⟨rfl, x2, x5, rfl⟩
  subst e2 es2
  have hbody : f_law_tallies_refused.body = [.for_ (.nm 2) (.ov (.lst (.cons (.con .non) (.cons (.con (.int 5)) (.cons (.tup .nil) (.cons (.tup (.cons (.con (.int 1)) (.cons (.con (.int 1)) .nil))) (.cons (.tup (.cons (.con (.int 7)) (.cons (.con (.int 1)) .nil))) (.cons (.tup (.cons (.con (.int 2)) (.cons (.con (.int 0)) .nil))) (.cons (.tup (.cons (.con (.int 2)) (.cons (.con (.int 10)) .nil))) (.cons (.tup (.cons (.con (.int 2)) .nil)) (.cons (.lst (.cons (.con (.int 2)) (.cons (.con (.int 1)) .nil))) (.cons (.tup (.cons (.con (.bl true)) (.cons (.con (.int 1)) .nil))) (.cons (.tup (.cons (.con (.int 2)) (.cons (.con (.int 1)) (.cons (.con (.int 1)) .nil)))) .nil))))))))))))) bodyL,
      .asg 3 (.pl (.tup (.cons (.slc (.idx (.var 1) (.con (.int 0))) .no (.so (.neg (.con (.int 1))))) (.cons (.slc (.idx (.var 1) (.con (.int 1))) .no (.so (.neg (.con (.int 1))))) .nil)))),
      .asg 4 (.pl (.lst (.cons (.con .non) (.cons (.con (.int 5)) (.cons (.tup .nil) (.cons (.slc (.var 1) .no (.so (.con (.int 1)))) (.cons (.bi .list (.cons (.var 1) .nil)) (.cons (.bin .add (.var 1) (.slc (.var 1) .no (.so (.con (.int 1))))) (.cons (.var 3) .nil))))))))),
      .asg 4 (.pl (.bin .add (.var 4) (.lst (.cons (.tup (.cons (.bi .list (.cons (.idx (.var 1) (.con (.int 0))) .nil)) (.cons (.idx (.var 1) (.con (.int 1))) .nil))) (.cons (.tup (.cons (.idx (.var 1) (.con (.int 0))) (.cons (.bin .add (.tup (.cons (.con (.bl true)) .nil)) (.slc (.idx (.var 1) (.con (.int 1))) (.so (.con (.int 1))) .no)) .nil))) .nil))))),
      .for_ (.nm 2) (.ov (.var 4)) bodyT, .ret (.con (.bl true))] := rfl
  rw [hbody]
  have hσ : ([ln m s, tl on off m].map Sl.val ++ List.replicate (f_law_tallies_refused.ns - f_law_tallies_refused.np) Sl.un) = [.val (ln m s), .val (tl on off m), .un, .un, .un, .un] := rfl
  rw [hσ, ev_Scons, k1, Fl.seq_nx, ev_Scons, c3, Fl.seq_nx, ev_Scons, c4, Fl.seq_nx, ev_Scons, c5, Fl.seq_nx, ev_Scons, k2, Fl.seq_nx]
  simp
end
end Mn
set_option maxHeartbeats 4000000
namespace Mn
open PySem
/-! ### fares -/
section
variable {lf : Fn} {wf bs n : Nat} {st : Store} {m s : Nat} {on off L : Nat → Nat}
/-- a row of rolls -/
theorem compL_roll {r M : Nat} {σ : List Sl} (hσ : ∀ x : D, (σ.set 6 (.val x))[0]? = some (.val (.ref r))) (hM : 0 < M) (hM2 : M ≤ 1000) : ∀ (k lo : Nat) (acc : List Nat) (st : Store), Dice st r → acc.length + k ≤ 1000 →
    ∃ (f : List Nat) (st' : Store), f.length = acc.length + k ∧ (∀ x ∈ f, x ∈ acc ∨ x < M) ∧ Rolled r st st' ∧
      compL σ (.nm 6) (fun _ st => .ok (.bl true) st) (fun σ st => evE (run (G lf) wf (n + 2)) bs σ st (.call 24 (.cons (.var 0) (.cons (.con (.int (M : Int))) .nil)))) (rngL (lo : Int) k) (iD acc) st = .ok (.lst (iD f)) st'
  | 0, lo, acc, st, hd, _ => ⟨acc, st, rfl, fun x h => .inl h, ⟨rfl, hd, fun _ _ => rfl⟩, by simp [rngL, compL]⟩
  | k + 1, lo, acc, st, hd, hl => by
    obtain ⟨v, st1, hv, R1, e1⟩ := @run_roll lf wf bs n st r M hd hM hM2
    obtain ⟨f, st2, h1, h2, R2, e2⟩ := compL_roll hσ hM hM2 k (lo + 1) (acc ++ [v]) st1 R1.dice (by simp; omega)
    refine ⟨f, st2, by rw [h1]; simp; omega, fun x hx => ?_, R1.trans R2, ?_⟩
    · rcases h2 x hx with q | q
      · rcases List.mem_append.mp q with q | q
        · exact .inl q
        · rw [List.mem_singleton.mp q]; exact .inr hv
      · exact .inr q
    · have er : rngL (lo : Int) (k + 1) = .int (lo : Int) :: rngL ((lo + 1 : Nat) : Int) k := by
        unfold rngL
        rw [List.range_succ_eq_map, List.map_cons, List.map_map]
        refine congr (congrArg List.cons ?_) ?_
        · simp
        · refine List.map_congr_left fun j _ => ?_
          simp only [Function.comp, D.int.injEq]
          omega
      rw [er, compL]
      have hz : szOk ((iD acc).length + 1) = true := szOk_of (by simp [iD]; omega)
      have hb : bindT σ (.nm 6) (.int (lo : Int)) = some (σ.set 6 (.val (.int (lo : Int)))) := rfl
      rw [hb]
      simp only []
      have ev : evE (run (G lf) wf (n + 2)) bs (σ.set 6 (.val (.int (lo : Int)))) st (.call 24 (.cons (.var 0) (.cons (.con (.int (M : Int))) .nil))) = .ok (.int (v : Int)) st1 := by
        simp [hσ, e1]
      rw [ev]
      simp only [hz, if_true]
      have ea : iD acc ++ [.int (v : Int)] = iD (acc ++ [v]) := by simp [iD]
      rw [ea]
      exact e2
theorem iD_nl (f : List Nat) : iD f = nl (fun k => f.getD k 0) f.length := by
  unfold iD nl
  refine List.ext_getElem (by simp) fun i h1 h2 => ?_
  simp at h1
  simp [h1]
theorem plain_all (h : ∀ r < st.length, Dice st r) : st.all Cell.plain = true := by
  rw [List.all_eq_true]
  intro c hc
  obtain ⟨i, hi, rfl⟩ := List.getElem_of_mem hc
  obtain ⟨a, b, e⟩ := h i hi
  rw [List.getElem?_eq_getElem hi] at e
  rw [Option.some.inj e]
  rfl
theorem Rolled.all {r : Nat} {st st' : Store} (R : Rolled r st st') (h : ∀ r < st.length, Dice st r) : ∀ r < st'.length, Dice st' r := fun q hq => by
  by_cases e : q = r
  · subst e; exact R.dice
  · obtain ⟨a, b, hab⟩ := h q (by rw [← R.len]; exact hq)
    exact ⟨a, b, by rw [R.oth q e]; exact hab⟩
theorem sort_nat {f : List Nat} {M : Nat} (h : ∀ x ∈ f, x < M) : ∃ g : List Nat, sortI (iI f) = iI g ∧ g.length = f.length ∧ ∀ x ∈ g, x < M := by
  have hp : (sortI (iI f)).Perm (iI f) := List.mergeSort_perm _ _
  refine ⟨(sortI (iI f)).map Int.toNat, ?_, by rw [List.length_map, hp.length_eq]; simp [iI], fun x hx => ?_⟩
  · unfold iI
    rw [List.map_map]
    symm
    refine (List.map_congr_left fun x hx => ?_).trans (List.map_id _)
    obtain ⟨y, _, rfl⟩ := List.mem_map.mp (hp.mem_iff.mp hx)
    simp
  · obtain ⟨z, hz, rfl⟩ := List.mem_map.mp hx
    obtain ⟨y, hy, rfl⟩ := List.mem_map.mp (hp.mem_iff.mp hz)
    simpa using h y hy
theorem ne_iD (f : List Nat) : cmD .ne (.lst (iD f)) (.lst []) = some (!f.isEmpty) := by
  rw [iD_iI, ne_ints]
  cases f <;> rfl
theorem idx_last {f : List Nat} (h : f ≠ []) : idxS (.lst (iD f)) (.int (-1)) st = .ok (.int (f.getLast h : Int)) st := by
  refine idxS_lst ?_
  have hl : 0 < f.length := List.length_pos_iff.mpr h
  simp only [idxD]
  rw [show (iD f).length = f.length by simp [iD], ixN_last hl]
  simp only [Option.bind_some, iD, List.getElem?_map]
  rw [List.getElem?_eq_getElem (by omega), List.getLast_eq_getElem]
  rfl
theorem run_law_fares {r k a : Nat} (hD : ∀ r < st.length, Dice st r) (hr : r < st.length) (hk : k ≤ 5) (ha : a ≤ 2) : ∃ (f : List Nat) (st' : Store), f.length = k ∧ (∀ x ∈ f, x ≤ 99) ∧ Rolled r st st' ∧ run (G lf) wf (n + 3) bs 79 [.ref r, .int (k : Int), .int (a : Int)] st = .ok (.tup (iD f)) st' := by
  have hd := hD r hr
  have rg := rg1_nat (show k ≤ 1000 by omega)
  have rbf : ∀ f : List Nat, D.rb st.length (.tup (iD f)) = true := fun f => by
    rw [iD_nl]; simp [D.rb, rb_nl]
  by_cases a0 : a = 0
  · subst a0
    obtain ⟨f, st1, h1, h2, R, e⟩ := @compL_roll lf wf st.length n r 30 [.val (.ref r), .val (.int (k : Int)), .val (.int 0), .un, .un, .un, .un] (fun x => rfl) (by omega) (by omega) k 0 [] st hd (by simp; omega)
    refine ⟨f, st1, by simpa using h1, fun x hx => by have := h2 x hx; simp at this; omega, R, run_pure rfl rfl rfl ?_ (rbf f) R.len⟩
    simp only [f_law_fares]
    have lc : evE (run (G lf) wf (n + 2)) st.length [.val (.ref r), .val (.int (k : Int)), .val (.int 0), .un, .un, .un, .un] st (.lc [6] (.nm 6) (.r1 (.var 1)) (.call 24 (.cons (.var 0) (.cons (.con (.int 30)) .nil)))) = .ok (.lst (iD f)) st1 := by
      rw [ev_lc]
      simp only [ev_r1, ev_var]
      simp [rg, wipeS]
      simpa [iD] using e
    simp [lc, cm_eq]
  · obtain ⟨f, st1, h1, h2, R, e⟩ := @compL_roll lf wf st.length n r 9 [.val (.ref r), .val (.int (k : Int)), .val (.int (a : Int)), .un, .un, .un, .un] (fun x => rfl) (by omega) (by omega) k 0 [] st hd (by simp; omega)
    have h1 : f.length = k := by simpa using h1
    have lc : evE (run (G lf) wf (n + 2)) st.length [.val (.ref r), .val (.int (k : Int)), .val (.int (a : Int)), .un, .un, .un, .un] st (.lc [6] (.nm 6) (.r1 (.var 1)) (.call 24 (.cons (.var 0) (.cons (.con (.int 9)) .nil)))) = .ok (.lst (iD f)) st1 := by
      rw [ev_lc]
      simp only [ev_r1, ev_var]
      simp [rg, wipeS]
      simpa [iD] using e
    obtain ⟨g0, hg0, hgl, hgm⟩ := sort_nat (f := f) (M := 9) fun x hx => by have := h2 x hx; simpa using this
    have so : biD .sorted [.lst (iD f)] = some (.lst (iD g0)) := by
      rw [biD, iD_iI, ints_map, iD_iI, ← hg0]
    obtain ⟨g, hg1, hg2, hg3⟩ : ∃ g : List Nat, evE (run (G lf) wf (n + 2)) st.length [.val (.ref r), .val (.int (k : Int)), .val (.int (a : Int)), .val (.lst (iD g0)), .un, .un, .un] st1 (.ite (.cmp .eq (.var 2) (.con (.int 1))) (.var 3) (.rev (.var 3))) = .ok (.lst (iD g)) st1 ∧ g.length = k ∧ ∀ x ∈ g, x < 9 := by
      by_cases a1 : a = 1
      · subst a1
        exact ⟨g0, by simp [cm_eq], by omega, hgm⟩
      · refine ⟨g0.reverse, ?_, by simp; omega, fun x hx => hgm x (List.mem_reverse.mp hx)⟩
        have : ¬ ((a : Int) = 1) := by omega
        simp [cm_eq, this, ev_rev, revD, iD]
    have D1 := R.all hD
    have loop := ev_forI (cf := run (G lf) wf (n + 2)) (wf := wf) (bs := st.length) (σ := [.val (.ref r), .val (.int (k : Int)), .val (.int (a : Int)), .val (.lst (iD g)), .ol [], .un, .un]) (st := st1) (tg := .nm 5) (it := .ov (.var 3))
      (b := [.app 4 (.bor 4 (.bin .add (.ite (.cmp .ne (.var 4) (.lst .nil)) (.idx (.var 4) (.neg (.con (.int 1)))) (.call 24 (.cons (.var 0) (.cons (.con (.int 5)) .nil)))) (.var 5)))]) (xs := iD g)
      (fun j σ st2 => Rolled r st1 st2 ∧ ∃ (fl : List Nat) (s5 : Sl), σ = [.val (.ref r), .val (.int (k : Int)), .val (.int (a : Int)), .val (.lst (iD g)), .ol (iD fl), s5, .un] ∧ fl.length = j ∧ ∀ x ∈ fl, x ≤ 4 + 8 * j)
      (by simp) (fun j x σ st2 hx ⟨R2, fl, u5, es, hl, hm⟩ => by
        subst es
        have hjk : j < k := by have := (List.getElem?_eq_some_iff.mp hx).1; simp [iD] at this; omega
        obtain ⟨v, hv, rfl⟩ : ∃ v : Nat, v < 9 ∧ x = .int (v : Int) := by
          simp only [iD, List.getElem?_map] at hx
          obtain ⟨v, hv, rfl⟩ := Option.map_eq_some_iff.mp hx
          exact ⟨v, hg3 v (List.mem_of_getElem? hv), rfl⟩
        have D2 := R2.all D1
        obtain ⟨y, st3, hy, R3, ey⟩ : ∃ (y : Nat) (st3 : Store), y ≤ 4 + 8 * j ∧ Rolled r st2 st3 ∧ evE (run (G lf) wf (n + 2)) st.length [.val (.ref r), .val (.int (k : Int)), .val (.int (a : Int)), .val (.lst (iD g)), .val (.lst (iD fl)), .val (.int (v : Int)), .un] st2 (.ite (.cmp .ne (.var 4) (.lst .nil)) (.idx (.var 4) (.neg (.con (.int 1)))) (.call 24 (.cons (.var 0) (.cons (.con (.int 5)) .nil)))) = .ok (.int (y : Int)) st3 := by
          by_cases hf : fl = []
          · subst hf
            obtain ⟨w, st3, hw, R3, e3⟩ := @run_roll lf wf st.length n st2 r 5 R2.dice (by omega) (by omega)
            refine ⟨w, st3, by omega, R3, ?_⟩
            have := ne_iD []
            simp only [iD, List.map_nil] at this
            simp [iD, sz0, this]
            simpa using e3
          · refine ⟨fl.getLast hf, st2, hm _ (List.getLast_mem hf), ⟨rfl, R2.dice, fun _ _ => rfl⟩, ?_⟩
            have he : fl.isEmpty = false := by cases fl <;> simp_all
            simp [sz0, ne_iD, he, idx_last hf]
        have bor := ev_bor (cf := run (G lf) wf (n + 2)) (bs := st.length) (σ := [.val (.ref r), .val (.int (k : Int)), .val (.int (a : Int)), .val (.lst (iD g)), .ol (iD fl), .val (.int (v : Int)), .un]) (st := st2) (i := 4) (e := .bin .add (.ite (.cmp .ne (.var 4) (.lst .nil)) (.idx (.var 4) (.neg (.con (.int 1)))) (.call 24 (.cons (.var 0) (.cons (.con (.int 5)) .nil)))) (.var 5)) (d := .int ((y + v : Nat) : Int)) (ds := iD fl) (st1 := st3) rfl (by
          simp only [List.set_cons_succ, List.set_cons_zero]
          rw [ev_bin, ey]
          simp) rfl (plain_all (R3.all D2))
        refine ⟨[.val (.ref r), .val (.int (k : Int)), .val (.int (a : Int)), .val (.lst (iD g)), .ol (iD fl), .val (.int (v : Int)), .un], [.val (.ref r), .val (.int (k : Int)), .val (.int (a : Int)), .val (.lst (iD g)), .ol (iD (fl ++ [y + v])), .val (.int (v : Int)), .un], st3, by simp [bindT], ?_, R2.trans R3, fl ++ [y + v], _, rfl, by simp [hl], fun z hz => ?_⟩
        · have hz : szOk ((iD fl).length + 1) = true := szOk_of (by simp [iD]; omega)
          rw [ev_Scons, ev_app, app_ol (ds := iD fl) rfl, bor]
          simp only [Out.fl_ok, hz, if_true, Fl.seq_nx, ev_Snil]
          simp [iD]
        · rcases List.mem_append.mp hz with q | q
          · have := hm z q; omega
          · rw [List.mem_singleton.mp q]; omega) ⟨⟨rfl, R.dice, fun _ _ => rfl⟩, [], .un, rfl, rfl, fun x h => (nomatch h)⟩
    obtain ⟨s', st2, k1, R2, fl, u5, es, hl, hm⟩ := loop
    subst es
    have hgk : (iD g).length = k := by simp [iD, hg2]
    rw [hgk] at hl hm
    refine ⟨fl, st2, hl, fun x hx => by have := hm x hx; omega, R.trans R2, run_pure rfl rfl rfl ?_ (rbf fl) (R.trans R2).len⟩
    have na : ¬ ((a : Int) = 0) := by omega
    have bor := ev_bor (cf := run (G lf) wf (n + 2)) (bs := st.length) (σ := [.val (.ref r), .val (.int (k : Int)), .val (.int (a : Int)), .val (.lst (iD g)), .ol (iD fl), u5, .un]) (st := st2) (i := 4) (e := .bi .tuple (.cons (.var 4) .nil)) (d := .tup (iD fl)) (ds := iD fl) (st1 := st2) rfl (by simp) (by rw [iD_nl]; simp [D.plain, plain_nl]) (plain_all (R2.all D1))
    have i1 : evS (run (G lf) wf (n + 2)) wf st.length [.val (.ref r), .val (.int (k : Int)), .val (.int (a : Int)), .un, .un, .un, .un] st (.ifs (.cmp .eq (.var 2) (.con (.int 0))) [.ret (.bi .tuple (.cons (.lc [6] (.nm 6) (.r1 (.var 1)) (.call 24 (.cons (.var 0) (.cons (.con (.int 30)) .nil)))) .nil))] []) = .nx [.val (.ref r), .val (.int (k : Int)), .val (.int (a : Int)), .un, .un, .un, .un] st := by
      rw [ev_ifs]
      simp [cm_eq, a0]
    have i2 : evS (run (G lf) wf (n + 2)) wf st.length [.val (.ref r), .val (.int (k : Int)), .val (.int (a : Int)), .un, .un, .un, .un] st (.asg 3 (.pl (.bi .sorted (.cons (.lc [6] (.nm 6) (.r1 (.var 1)) (.call 24 (.cons (.var 0) (.cons (.con (.int 9)) .nil)))) .nil)))) = .nx [.val (.ref r), .val (.int (k : Int)), .val (.int (a : Int)), .val (.lst (iD g0)), .un, .un, .un] st1 := by
      rw [ev_asg, ev_pl, ev_bi, ev_cons, lc]
      simp [so]
    have i3 : evS (run (G lf) wf (n + 2)) wf st.length [.val (.ref r), .val (.int (k : Int)), .val (.int (a : Int)), .val (.lst (iD g0)), .un, .un, .un] st1 (.asg 3 (.pl (.ite (.cmp .eq (.var 2) (.con (.int 1))) (.var 3) (.rev (.var 3))))) = .nx [.val (.ref r), .val (.int (k : Int)), .val (.int (a : Int)), .val (.lst (iD g)), .un, .un, .un] st1 := by
      rw [ev_asg, ev_pl, hg1]
      simp
    show evSs (run (G lf) wf (n + 2)) wf st.length [.val (.ref r), .val (.int (k : Int)), .val (.int (a : Int)), .un, .un, .un, .un] st f_law_fares.body = _
    simp only [f_law_fares]
    rw [ev_Scons, i1, Fl.seq_nx, ev_Scons, i2, Fl.seq_nx, ev_Scons, i3, Fl.seq_nx]
    simp [sz0, k1, bor]
end
end Mn
set_option maxHeartbeats 4000000
namespace Mn
open PySem
/-! ### fares: need_fares, steps, spread, flatten, paid -/
/-- a list by a function -/
def rl (f : Nat → D) (n : Nat) : List D := (List.range n).map f
theorem rl_len (f : Nat → D) (n : Nat) : (rl f n).length = n := by simp [rl]
theorem zip_tail (f : Nat → D) (n : Nat) : zipD (rl f n) ((rl f n).drop 1) = rl (fun k => .tup [f k, f (k + 1)]) (n - 1) := by
  unfold zipD rl
  refine List.ext_getElem (by simp) fun i h1 h2 => ?_
  simp at h1 h2
  simp [Nat.add_comm]
theorem cut1 {α : Type} (xs : List α) : cut xs (some 1) none = xs.drop 1 := cut_from xs 1
theorem rl_map (g : D → D) (f : Nat → D) (n : Nat) : (rl f n).map g = rl (fun k => g (f k)) n := by simp [rl]
theorem mem_rl {f : Nat → D} {n : Nat} {x : D} (h : x ∈ rl f n) : ∃ k, k < n ∧ x = f k := by
  obtain ⟨k, hk, rfl⟩ := List.mem_map.mp h
  exact ⟨k, by simpa using hk, rfl⟩
theorem nl_rl (f : Nat → Nat) (n : Nat) : nl f n = rl (fun k => .int (f k : Int)) n := rfl
def fN (F : List Nat) (k : Nat) : Nat := F.getD k 0
theorem iD_rl (F : List Nat) : iD F = rl (fun k => .int (fN F k : Int)) F.length := iD_nl F
/-- the differences -/
def dI (F : List Nat) (k : Nat) : Int := (fN F (k + 1) : Int) - (fN F k : Int)
def dL (F : List Nat) : List Int := (List.range (F.length - 1)).map (dI F)
theorem dL_rl (F : List Nat) : (dL F).map D.int = rl (fun k => .int (dI F k)) (F.length - 1) := by simp [dL, rl]
theorem rb_ints (b : Nat) (xs : List Int) : D.rbL b (xs.map .int) = true := rbL_all fun d hd => by
  obtain ⟨k, _, rfl⟩ := List.mem_map.mp hd
  simp [D.rb]
theorem bls_rl (p : Nat → Bool) (n : Nat) : blsD (rl (fun k => .bl (p k)) n) = some ((List.range n).map p) := by
  have : rl (fun k => .bl (p k)) n = ((List.range n).map p).map .bl := by simp [rl]
  rw [this, bls_map]
section
variable {cf : Nat → Nat → List D → Store → Out D} {bs : Nat} {σ : List Sl} {st : Store}
/-- [.. for a, b in zip(xs, xs[1:])] -/
theorem ev_lcZ {own : List Nat} {tg : Tg} {x : E} {el : E} {f : Nat → D} {n : Nat} (g : Nat → D) (tu : Bool) (hx : evE cf bs σ st x = .ok (if tu then .tup (rl f n) else .lst (rl f n)) st)
    (h : ∀ k, k < n - 1 → ∃ s1, bindT (wipeS σ own) tg (.tup [f k, f (k + 1)]) = some s1 ∧ evE cf bs s1 st el = .ok (g k) st) (hn : n ≤ 1000) :
    evE cf bs σ st (.lc own tg (.zp x (.slc x (.so (.con (.int 1))) .no)) el) = .ok (.lst (rl g (n - 1))) st := by
  have hi : evI cf bs σ st (.zp x (.slc x (.so (.con (.int 1))) .no)) = .ok (rl (fun k => .tup [f k, f (k + 1)]) (n - 1)) st := by
    rw [ev_zp, hx]
    have sl : slcD (if tu then .tup (rl f n) else .lst (rl f n)) (some 1) none = some (if tu then .tup ((rl f n).drop 1) else .lst ((rl f n).drop 1)) := by
      cases tu <;> simp [slcD, cut1]
    have zp : zpD (if tu then .tup (rl f n) else .lst (rl f n)) (if tu then .tup ((rl f n).drop 1) else .lst ((rl f n).drop 1)) = some (rl (fun k => .tup [f k, f (k + 1)]) (n - 1)) := by
      cases tu <;> simp only [zpD, if_true, Bool.false_eq_true, if_false, zip_tail]
    simp only [Out.bind_ok, ev_slc, hx, ev_so, ev_con, cd_int, ev_no, sl, Out.of_some, zp]
  rw [ev_lc, hi, Out.bind_ok]
  have key : ∀ (l : List Nat) (acc : List D), (∀ k ∈ l, k < n - 1) → acc.length + l.length ≤ 1000 → compL (wipeS σ own) tg (fun _ st => .ok (.bl true) st) (fun σ st => evE cf bs σ st el) (l.map fun k => .tup [f k, f (k + 1)]) acc st = .ok (.lst (acc ++ l.map g)) st := by
    intro l
    induction l with
    | nil => intro acc _ _; simp [compL]
    | cons k l ih =>
      intro acc hl hz
      obtain ⟨s1, b1, b2⟩ := h k (hl k List.mem_cons_self)
      rw [List.map_cons, compL, b1]
      simp only [b2]
      rw [if_pos (szOk_of (by simp at hz; omega)), ih (acc ++ [g k]) (fun k hk => hl k (List.mem_cons_of_mem _ hk)) (by simp at hz ⊢; omega)]
      simp
  have := key (List.range (n - 1)) [] (fun k hk => by simpa using hk) (by simp; omega)
  simpa [rl] using this
end
section
variable {lf : Fn} {wf bs n : Nat} {st : Store} {m s : Nat} {on off L : Nat → Nat} {F : List Nat}
theorem run_need_fares (h2 : 2 ≤ m) (h6 : m ≤ 6) (hl : F.length = m - 1) (hF : ∀ x ∈ F, x ≤ 99) : run (G lf) wf (n + 2) bs 73 [ln m s, .tup (iD F)] st = .ok .non st := by
  refine run_none (σ := [.val (ln m s), .val (.tup (iD F)), .un]) rfl rfl rfl ?_ rfl
  have key := ev_lcM (cf := run (G lf) wf (n + 1)) (bs := st.length) (σ := [.val (ln m s), .val (.tup (iD F)), .un]) (st := st) (own := [2]) (tg := .nm 2) (it := .ov (.var 1)) (el := .call 1 (.cons (.var 2) (.cons (.con (.int 0)) (.cons (.con (.int 99)) .nil)))) (xs := iD F) (fun _ => .bl true) (by simp) (fun x hx => by
    obtain ⟨v, hv, rfl⟩ := List.mem_map.mp hx
    have := hF v hv
    refine ⟨[.val (ln m s), .val (.tup (iD F)), .val (.int (v : Int))], by simp [wipeS, bindT], ?_⟩
    have h1 : (0 : Int) ≤ v := by omega
    have h2 : (v : Int) ≤ 99 := by omega
    simp [run_is_whole, h1, h2]) (by simp [iD]; omega)
  have e : ((iD F).length : Int) = (m : Int) - 1 := by simp [iD, hl]; omega
  simp only [f_need_fares]
  simp [idxS0, key, e, cm_ne, bls_true]
theorem rb_iD (b : Nat) (F : List Nat) : D.rbL b (iD F) = true := by rw [iD_nl]; exact rb_nl _ _ _
theorem run_steps (h6 : F.length ≤ 5) : run (G lf) wf (n + 1) bs 75 [.tup (iD F)] st = .ok (.lst ((dL F).map .int)) st := by
  refine run_pure rfl rfl rfl ?_ (by simp [D.rb, rb_ints]) rfl
  have key := ev_lcZ (cf := run (G lf) wf n) (bs := st.length) (σ := [.val (.tup (iD F)), .un, .un]) (st := st) (own := [1, 2]) (tg := .tp [1, 2]) (x := .var 0) (el := .bin .sub (.var 2) (.var 1)) (f := fun k => .int (fN F k : Int)) (n := F.length) (fun k => .int (dI F k)) true (by simp [iD_rl]) (fun k hk => by
    refine ⟨[.val (.tup (iD F)), .val (.int (fN F k : Int)), .val (.int (fN F (k + 1) : Int))], by simp [wipeS, bindT, setAll], ?_⟩
    simp [dI]) (by omega)
  show evSs (run (G lf) wf n) wf st.length [.val (.tup (iD F)), .un, .un] st f_steps_of.body = _
  simp only [f_steps_of]
  rw [ev_Scons, ev_ret, key, dL_rl]
  simp
/-- no less with each step -/
def upB (F : List Nat) : Bool := (List.range (F.length - 1 - 1)).all fun k => decide (dI F k ≤ dI F (k + 1))
def dnB (F : List Nat) : Bool := (List.range (F.length - 1 - 1)).all fun k => decide (dI F (k + 1) ≤ dI F k)
theorem all_map (p : Nat → Bool) (l : List Nat) : (l.map p).all id = l.all p := by
  induction l with
  | nil => rfl
  | cons a l ih => simp
theorem run_spread (h2 : 2 ≤ m) (h6 : m ≤ 6) (s1 : 1 ≤ s) (s9 : s ≤ 9) (hl : F.length = m - 1) (hF : ∀ x ∈ F, x ≤ 99) : run (G lf) wf (n + 4) bs 76 [ln m s, .tup (iD F)] st = .ok (.bl (upB F)) st := by
  refine run_pure rfl rfl rfl ?_ rfl rfl
  have key := ev_lcZ (cf := run (G lf) wf (n + 3)) (bs := st.length) (σ := [.val (ln m s), .val (.tup (iD F)), .val (.lst ((dL F).map .int)), .un, .un]) (st := st) (own := [3, 4]) (tg := .tp [3, 4]) (x := .var 2) (el := .cmp .le (.var 3) (.var 4)) (f := fun k => .int (dI F k)) (n := F.length - 1) (fun k => .bl (decide (dI F k ≤ dI F (k + 1)))) false (by simp [dL_rl]) (fun k hk => by
    refine ⟨[.val (ln m s), .val (.tup (iD F)), .val (.lst ((dL F).map .int)), .val (.int (dI F k)), .val (.int (dI F (k + 1)))], by simp [wipeS, bindT, setAll], ?_⟩
    simp) (by omega)
  have st1 := @run_steps lf wf st.length (n + 2) st F (by omega)
  have nf := @run_need_fares lf wf st.length (n + 1) st m s F h2 h6 hl hF
  simp only [f_spread]
  simp [run_need_line h2 h6 s1 s9, nf, st1]
  rw [key]
  simp [bls_rl, upB, all_map]
theorem run_flatten (h2 : 2 ≤ m) (h6 : m ≤ 6) (s1 : 1 ≤ s) (s9 : s ≤ 9) (hl : F.length = m - 1) (hF : ∀ x ∈ F, x ≤ 99) : run (G lf) wf (n + 4) bs 77 [ln m s, .tup (iD F)] st = .ok (.bl (dnB F)) st := by
  refine run_pure rfl rfl rfl ?_ rfl rfl
  have key := ev_lcZ (cf := run (G lf) wf (n + 3)) (bs := st.length) (σ := [.val (ln m s), .val (.tup (iD F)), .val (.lst ((dL F).map .int)), .un, .un]) (st := st) (own := [3, 4]) (tg := .tp [3, 4]) (x := .var 2) (el := .cmp .ge (.var 3) (.var 4)) (f := fun k => .int (dI F k)) (n := F.length - 1) (fun k => .bl (decide (dI F (k + 1) ≤ dI F k))) false (by simp [dL_rl]) (fun k hk => by
    refine ⟨[.val (ln m s), .val (.tup (iD F)), .val (.lst ((dL F).map .int)), .val (.int (dI F k)), .val (.int (dI F (k + 1)))], by simp [wipeS, bindT, setAll], ?_⟩
    simp) (by omega)
  have st1 := @run_steps lf wf st.length (n + 2) st F (by omega)
  have nf := @run_need_fares lf wf st.length (n + 1) st m s F h2 h6 hl hF
  simp only [f_flatten]
  simp [run_need_line h2 h6 s1 s9, nf, st1]
  rw [key]
  simp [bls_rl, dnB, all_map]
/-- what riders of a table pay -/
def payW (F : List Nat) (t : Nat → Nat → Nat) (m : Nat) : Nat := sumW (fun w => fN F (w.2 - w.1 - 1) * t w.1 w.2) (waysT m m)
theorem pay_el {cf : Nat → Nat → List D → Store → Out D} {σ : List Sl} {a b f : Nat} {t : Nat → Nat → Nat} {w : Nat × Nat} (hl : F.length = m - 1) (hF : ∀ x ∈ F, x ≤ 99) (h1 : w.1 < w.2) (h2 : w.2 < m)
    (hr : cf bs f [tb t m, wD w] st = .ok (.int (t w.1 w.2 : Int)) st) {fa tt ww : Nat} (e1 : σ[fa]? = some (.val (.tup (iD F)))) (e2 : σ[tt]? = some (.val (tb t m))) (e3 : σ[ww]? = some (.val (wD w))) :
    evE cf bs σ st (.bin .mul (.idx (.var fa) (.bin .sub (.bin .sub (.idx (.var ww) (.con (.int 1))) (.idx (.var ww) (.con (.int 0)))) (.con (.int 1)))) (.call f (.cons (.var tt) (.cons (.var ww) .nil)))) = .ok (.int ((fN F (w.2 - w.1 - 1) * t w.1 w.2 : Nat) : Int)) st := by
  have hk : w.2 - w.1 - 1 < F.length := by omega
  have e : ((w.2 : Int) - (w.1 : Int) - 1) = ((w.2 - w.1 - 1 : Nat) : Int) := by omega
  have ix : idxS (.tup (iD F)) (.int ((w.2 - w.1 - 1 : Nat) : Int)) st = .ok (.int (fN F (w.2 - w.1 - 1) : Int)) st := by
    rw [iD_nl]; exact idxS_nl (f := fun k => F.getD k 0) hk
  have hle : fN F (w.2 - w.1 - 1) ≤ 99 := by
    unfold fN
    rw [List.getD_eq_getElem?_getD, List.getElem?_eq_getElem hk]
    exact hF _ (List.getElem_mem hk)
  have mu := @op_mul (fN F (w.2 - w.1 - 1) : Int) (t w.1 w.2 : Int) (mulOk_small (by simp; omega))
  rw [ev_bin, ev_idx]
  simp only [ev_var, e1, e3, getV_val, Out.bind_ok, ev_bin, ev_idx, wD0, wD1, ev_con, cd_int, op_sub_i, Out.of_some, e, ix, ev_call, ev_cons, e2, ev_nil, hr, mu]
  simp
theorem sum_pay {cf : Nat → Nat → List D → Store → Out D} {σ : List Sl} {own it f : Nat} {fa tt ww : Nat} {t : Nat → Nat → Nat} (h6 : m ≤ 6) (hl : F.length = m - 1) (hF : ∀ x ∈ F, x ≤ 99) (hlc : evI cf bs σ st (.ov (.call it (.cons (.var own) .nil))) = .ok ((waysT m m).map wD) st)
    (hr : ∀ w : Nat × Nat, w.1 < w.2 → w.2 < m → cf bs f [tb t m, wD w] st = .ok (.int (t w.1 w.2 : Int)) st) (e1 : ∀ x, ((wipeS σ [ww]).set ww x)[fa]? = some (.val (.tup (iD F)))) (e2 : ∀ x, ((wipeS σ [ww]).set ww x)[tt]? = some (.val (tb t m))) (e3 : ∀ x, ((wipeS σ [ww]).set ww x)[ww]? = some x) :
    evE cf bs σ st (.bi .sum (.cons (.lc [ww] (.nm ww) (.ov (.call it (.cons (.var own) .nil))) (.bin .mul (.idx (.var fa) (.bin .sub (.bin .sub (.idx (.var ww) (.con (.int 1))) (.idx (.var ww) (.con (.int 0)))) (.con (.int 1)))) (.call f (.cons (.var tt) (.cons (.var ww) .nil))))) .nil)) = .ok (.int (payW F t m : Int)) st := by
  have l1 := waysT_len m m
  have l3 : m * m ≤ 36 := Nat.le_trans (Nat.mul_le_mul h6 h6) (by omega)
  have key := ev_lcM (cf := cf) (bs := bs) (σ := σ) (st := st) (own := [ww]) (tg := .nm ww) (it := .ov (.call it (.cons (.var own) .nil))) (el := .bin .mul (.idx (.var fa) (.bin .sub (.bin .sub (.idx (.var ww) (.con (.int 1))) (.idx (.var ww) (.con (.int 0)))) (.con (.int 1)))) (.call f (.cons (.var tt) (.cons (.var ww) .nil)))) (xs := (waysT m m).map wD)
    (fun x => match x with | .tup [.int i, .int j] => .int ((fN F (j.toNat - i.toNat - 1) * t i.toNat j.toNat : Nat) : Int) | _ => .non) hlc (fun x hx => by
      obtain ⟨w, hw, rfl⟩ := List.mem_map.mp hx
      obtain ⟨h1, h2, h3⟩ := mem_ways hw
      refine ⟨_, rfl, ?_⟩
      rw [pay_el (a := 0) (b := 0) hl hF h2 h3 (hr w h2 h3) (e1 _) (e2 _) (e3 _)]
      obtain ⟨i, j⟩ := w
      simp [wD]) (by simp; omega)
  have em : ((waysT m m).map wD).map (fun x => match x with | .tup [.int i, .int j] => D.int ((fN F (j.toNat - i.toNat - 1) * t i.toNat j.toNat : Nat) : Int) | _ => .non) = ((waysT m m).map fun w => ((fN F (w.2 - w.1 - 1) * t w.1 w.2 : Nat) : Int)).map .int := by
    rw [List.map_map, List.map_map]
    refine List.map_congr_left fun w _ => ?_
    simp [wD]
  rw [em] at key
  have hs := sumW_cast (fun w => fN F (w.2 - w.1 - 1) * t w.1 w.2) (waysT m m)
  generalize ((waysT m m).map fun w => ((fN F (w.2 - w.1 - 1) * t w.1 w.2 : Nat) : Int)) = l at key hs
  rw [ev_bi, ev_cons, key]
  simp [ints_map, hs, payW]
theorem run_paid (T : Tal m s on off L) {t : Nat → Nat → Nat} (B : Tab m on off t) (hl : F.length = m - 1) (hF : ∀ x ∈ F, x ≤ 99) : run (G lf) wf (n + 6) bs 74 [ln m s, tl on off m, tb t m, .tup (iD F)] st = .ok (.int (payW F t m : Int)) st := by
  refine run_pure rfl rfl rfl ?_ rfl rfl
  have m2 := T.m2
  have m6 := T.m6
  have sp := @sum_pay st.length st m F (run (G lf) wf (n + 5)) [.val (ln m s), .val (tl on off m), .val (tb t m), .val (.tup (iD F)), .un] 0 10 32 3 2 4 t m6 hl hF (by simp [run_all_ways m6]) (fun w h1 h2 => run_rode_w h1 h2) (fun x => rfl) (fun x => rfl) (fun x => rfl)
  have nf := @run_need_fares lf wf st.length (n + 3) st m s F m2 m6 hl hF
  show evSs (run (G lf) wf (n + 5)) wf st.length [.val (ln m s), .val (tl on off m), .val (tb t m), .val (.tup (iD F)), .un] st f_paid.body = _
  simp only [f_paid]
  have i1 : evS (run (G lf) wf (n + 5)) wf st.length [.val (ln m s), .val (tl on off m), .val (tb t m), .val (.tup (iD F)), .un] st (.ex (.call 36 (.cons (.var 0) (.cons (.var 1) (.cons (.var 2) .nil))))) = .nx [.val (ln m s), .val (tl on off m), .val (tb t m), .val (.tup (iD F)), .un] st := by
    simp [run_need_table T B]
  have i2 : evS (run (G lf) wf (n + 5)) wf st.length [.val (ln m s), .val (tl on off m), .val (tb t m), .val (.tup (iD F)), .un] st (.ex (.call 73 (.cons (.var 0) (.cons (.var 3) .nil)))) = .nx [.val (ln m s), .val (tl on off m), .val (tb t m), .val (.tup (iD F)), .un] st := by
    simp [nf]
  rw [ev_Scons, i1, Fl.seq_nx, ev_Scons, i2, Fl.seq_nx, ev_Scons, ev_ret, sp]
  simp
end
end Mn
set_option maxHeartbeats 4000000
namespace Mn
open PySem
/-! ### of fares that spread, flatten -/
def riT (t : Nat → Nat → Nat) (m : Nat) : Ri := ridersT (fun w => t w.1 w.2) (waysT m m)
section
variable {m s : Nat} {on off L : Nat → Nat} {t u : Nat → Nat → Nat} {F : List Nat}
theorem riT_ok (t : Nat → Nat → Nat) (m : Nat) : ∀ v ∈ riT t m, v.1 < v.2 ∧ v.2 < m := riders_ok m _
theorem riT_pos {v : Nat × Nat} (h : v ∈ riT t m) : 0 < t v.1 v.2 := by
  obtain ⟨w, hw, h⟩ := List.mem_flatMap.mp h
  obtain ⟨h1, rfl⟩ := List.mem_replicate.mp h
  exact Nat.pos_of_ne_zero h1
theorem alike_tabs (T : Tal m s on off L) (B : Tab m on off t) (C : Tab m on off u) : Alike m (riT t m) (riT u m) := by
  have z : ∀ t : Nat → Nat → Nat, ∀ q, m ≤ q → offR (riT t m) q = 0 ∧ loR (riT t m) q = 0 := fun t q hq => by
    refine ⟨sR_zero fun v hv => ?_, sR_zero fun v hv => ?_⟩
    · have := riT_ok t m v hv
      simp [bit, show ¬ v.2 = q by omega]
    · have := riT_ok t m v hv
      simp [bit, show ¬ q < v.2 by omega]
  have ho : ∀ q, offR (riT t m) q = offR (riT u m) q := fun q => by
    by_cases hq : q < m
    · unfold riT; rw [off_riders B hq, off_riders C hq]
    · rw [(z t q (by omega)).1, (z u q (by omega)).1]
  have hl : ∀ q, loR (riT t m) q = loR (riT u m) q := fun q => by
    by_cases hq : q < m
    · unfold riT; rw [load_riders T B q hq, load_riders T C q hq]
    · rw [(z t q (by omega)).2, (z u q (by omega)).2]
  refine ⟨ho, hl, fun q => ?_⟩
  cases q with
  | zero => rw [he_zero, he_zero]
  | succ k =>
    have a := he_step (riT t m) (fun v hv => (riT_ok t m v hv).1) k
    have b := he_step (riT u m) (fun v hv => (riT_ok u m v hv).1) k
    rw [ho, hl] at a
    omega
theorem fifo_led (T : Tal m s on off L) : Fifo (riT (ledT false on off m) m) := fun v hv w hw h => (lst_F T m (Nat.le_refl _)).fif v.1 v.2 w.1 w.2 (riT_pos hv) (riT_pos hw) h
theorem lifo_led (T : Tal m s on off L) : Lifo (riT (ledT true on off m) m) := fun v hv w hw h h' => (lst_L T m (Nat.le_refl _)).lif v.1 v.2 w.1 w.2 (riT_pos hv) (riT_pos hw) h h'
def fF (F : List Nat) (d : Nat) : Int := (fN F (d - 1) : Int)
theorem payR_nat (g : Nat → Nat) : ∀ R : Ri, payR (fun d => (g d : Int)) R = (sR (fun v => g (v.2 - v.1)) R : Int)
  | [] => rfl
  | v :: R => by
    have ih := payR_nat g R
    unfold payR at ih ⊢
    unfold sR at ih ⊢
    simp only [List.map_cons, List.sum_cons]
    rw [ih]; omega
theorem pay_eq (F : List Nat) (t : Nat → Nat → Nat) (m : Nat) : (payW F t m : Int) = payR (fF F) (riT t m) := by
  unfold fF
  rw [payR_nat (fun d => fN F (d - 1))]
  unfold payW riT
  rw [sR_riders]
  congr 1
  show sR _ _ = _
  refine sR_congr fun w _ => ?_
  exact Nat.mul_comm _ _
theorem dd_eq (F : List Nat) (k : Nat) : ddF (fF F) k = dI F (k + 1) - dI F k := by
  unfold ddF dlF fF dI
  simp
theorem len_ok (h2 : 2 ≤ m) (t : Nat → Nat → Nat) : ∀ v ∈ riT t m, v.1 < v.2 ∧ v.2 - v.1 ≤ (m - 3) + 2 := fun v hv => by
  have := riT_ok t m v hv
  omega
theorem two_alike (T : Tal m s on off L) (B : Tab m on off t) (C : Tab m on off u) : (riT t m).length = (riT u m).length ∧ lenR (riT t m) = lenR (riT u m) := by
  refine ⟨by unfold riT; rw [law_len T B, law_len T C], ?_⟩
  unfold lenR riT
  rw [← law_miles T B, ← law_miles T C]
theorem up_dd (hl : F.length = m - 1) (h : upB F = true) : ∀ k < m - 3, 0 ≤ ddF (fF F) k := fun k hk => by
  rw [dd_eq]
  have := List.all_eq_true.mp h k (by simp; omega)
  have := of_decide_eq_true this
  omega
theorem dn_dd (hl : F.length = m - 1) (h : dnB F = true) : ∀ k < m - 3, ddF (fF F) k ≤ 0 := fun k hk => by
  rw [dd_eq]
  have := List.all_eq_true.mp h k (by simp; omega)
  have := of_decide_eq_true this
  omega
theorem spread_ends (T : Tal m s on off L) (B : Tab m on off t) (hl : F.length = m - 1) (h : upB F = true) : payW F (ledT false on off m) m ≤ payW F t m ∧ payW F t m ≤ payW F (ledT true on off m) m := by
  have m2 := T.m2
  have BF := led_tab T false
  have BL := led_tab T true
  have a := two_alike T BF B
  have b := two_alike T B BL
  have p := pay_spread (f := fF F) (N := m - 3) (len_ok m2 _) (len_ok m2 _) a.1 a.2 (up_dd hl h) (ov_fifo (alike_tabs T BF B) (riT_ok _ m) (riT_ok _ m) (fifo_led T))
  have q := pay_spread (f := fF F) (N := m - 3) (len_ok m2 _) (len_ok m2 _) b.1 b.2 (up_dd hl h) (ov_lifo (alike_tabs T BL B) (riT_ok _ m) (riT_ok _ m) (lifo_led T))
  rw [← pay_eq, ← pay_eq] at p q
  omega
theorem flatten_ends (T : Tal m s on off L) (B : Tab m on off t) (hl : F.length = m - 1) (h : dnB F = true) : payW F (ledT true on off m) m ≤ payW F t m ∧ payW F t m ≤ payW F (ledT false on off m) m := by
  have m2 := T.m2
  have BF := led_tab T false
  have BL := led_tab T true
  have a := two_alike T BL B
  have b := two_alike T B BF
  have p := pay_flatten (f := fF F) (N := m - 3) (len_ok m2 _) (len_ok m2 _) a.1 a.2 (dn_dd hl h) (ov_lifo (alike_tabs T BL B) (riT_ok _ m) (riT_ok _ m) (lifo_led T))
  have q := pay_flatten (f := fF F) (N := m - 3) (len_ok m2 _) (len_ok m2 _) b.1 b.2 (dn_dd hl h) (ov_fifo (alike_tabs T BF B) (riT_ok _ m) (riT_ok _ m) (fifo_led T))
  rw [← pay_eq, ← pay_eq] at p q
  omega
theorem pay_congr (h : ∀ i k, i < k → k < m → u i k = t i k) : payW F u m = payW F t m := by
  unfold payW sumW
  congr 1
  refine List.map_congr_left fun w hw => ?_
  obtain ⟨_, h1, h2⟩ := mem_ways hw
  rw [h _ _ h1 h2]
end
/-! ### rising lists -/
theorem sortI_perm (l : List Int) : (sortI l).Perm l := List.mergeSort_perm _ _
theorem sortI_srt (l : List Int) : (sortI l).Pairwise (· ≤ ·) := by
  have z := List.pairwise_mergeSort (le := fun a b : Int => decide (a ≤ b)) (fun a b c h1 h2 => by simp at h1 h2 ⊢; omega) (fun a b => by simp; omega) l
  exact z.imp fun h => by simpa using h
theorem srt_uniq {l k : List Int} (h1 : l.Pairwise (· ≤ ·)) (h2 : k.Pairwise (· ≤ ·)) (h : l.Perm k) : l = k :=
  perm_uniq sto_int (h1.imp fun h => by simpa using h) (h2.imp fun h => by simpa using h) h
theorem adj_mono {d : Nat → Int} {n : Nat} (h : ∀ k, k + 1 < n → d k ≤ d (k + 1)) : ((List.range n).map d).Pairwise (· ≤ ·) := by
  rw [List.pairwise_map]
  have mono : ∀ a b, a ≤ b → b < n → d a ≤ d b := fun a b hab => by
    induction b with
    | zero => intro _; rw [show a = 0 by omega]; exact Int.le_refl _
    | succ b ih =>
      intro hb
      by_cases e : a = b + 1
      · rw [e]; exact Int.le_refl _
      · exact Int.le_trans (ih (by omega) (by omega)) (h b hb)
  have := List.pairwise_lt_range (n := n)
  rw [List.pairwise_iff_getElem] at this ⊢
  intro i j hi hj hij
  simp at hi hj
  simp only [List.getElem_range]
  exact mono i j (by omega) hj
theorem adj_of {d : Nat → Int} {n : Nat} (h : ((List.range n).map d).Pairwise (· ≤ ·)) {k : Nat} (hk : k + 1 < n) : d k ≤ d (k + 1) := by
  rw [List.pairwise_iff_getElem] at h
  have := h k (k + 1) (by simp; omega) (by simp; omega) (by omega)
  simpa using this
theorem up_sort (F : List Nat) : upB F = decide (dL F = sortI (dL F)) := by
  rw [Bool.eq_iff_iff, decide_eq_true_iff]
  constructor
  · intro h
    refine srt_uniq (adj_mono fun k hk => ?_) (sortI_srt _) (sortI_perm _).symm
    exact of_decide_eq_true (List.all_eq_true.mp h k (by simp; omega))
  · intro h
    have hs := sortI_srt (dL F)
    rw [← h] at hs
    unfold upB
    rw [List.all_eq_true]
    intro k hk
    simp at hk
    exact decide_eq_true (adj_of hs (by omega))
theorem dn_sort (F : List Nat) : dnB F = decide (dL F = (sortI (dL F)).reverse) := by
  rw [Bool.eq_iff_iff, decide_eq_true_iff]
  constructor
  · intro h
    have hp : (dL F).reverse.Pairwise (· ≤ ·) := by
      rw [List.pairwise_reverse]
      have a : ((List.range (F.length - 1)).map fun k => - dI F k).Pairwise (· ≤ ·) := adj_mono fun k hk => by
        have := of_decide_eq_true (List.all_eq_true.mp h k (by simp; omega))
        omega
      unfold dL
      rw [List.pairwise_map] at a ⊢
      exact a.imp fun h => by omega
    have := srt_uniq hp (sortI_srt (dL F)) ((List.reverse_perm _).trans (sortI_perm _).symm)
    rw [← this, List.reverse_reverse]
  · intro h
    have hs := sortI_srt (dL F)
    have e : sortI (dL F) = (dL F).reverse := by
      have := congrArg List.reverse h
      rw [List.reverse_reverse] at this
      exact this.symm
    rw [e, List.pairwise_reverse] at hs
    unfold dnB
    rw [List.all_eq_true]
    intro k hk
    simp at hk
    have a : ((List.range (F.length - 1)).map fun k => - dI F k).Pairwise (· ≤ ·) := by
      unfold dL at hs
      rw [List.pairwise_map] at hs ⊢
      exact hs.imp fun h => by omega
    have := adj_of a (k := k) (by omega)
    exact decide_eq_true (by omega)
theorem eqvAll_int : ∀ xs ys : List Int, PyData.eqvAll (xs.map .int) (ys.map .int) = decide (xs = ys)
  | [], [] => by simp [PyData.eqvAll]
  | [], y :: ys => by simp [PyData.eqvAll]
  | x :: xs, [] => by simp [PyData.eqvAll]
  | x :: xs, y :: ys => by
    simp only [List.map_cons, PyData.eqvAll, PyData.eqv, eqvAll_int xs ys]
    by_cases h : x = y <;> simp [h]
theorem eq_lists (xs ys : List Int) : eqD (.lst (xs.map .int)) (.lst (ys.map .int)) = some (decide (xs = ys)) := by
  unfold eqD
  simp only [D.py, pyL_ints, Option.map_some]
  rw [sh_ints, sh_ints]
  simp only [Bool.and_self, if_true, PyData.eqv, eqvAll_int]
theorem eq_bls (a b : Bool) : eqD (.bl a) (.bl b) = some (decide (a = b)) := by
  cases a <;> cases b <;> decide +kernel
theorem eq_pairs (a b c d : Int) : eqD (.tup [.int a, .int b]) (.tup [.int c, .int d]) = some (decide (a = c) && decide (b = d)) := by
  have h1 : ∀ x y : Int, SeqAt.shaped (.tuple [.int x, .int y]) = true := fun x y => by simp [SeqAt.shaped, PyData.canLay0, PyData.canLayAll0, PyData.depth, PyData.depthAll]
  unfold eqD
  simp only [D.py, D.pyL, Option.map_some]
  rw [h1, h1]
  simp only [Bool.and_self, if_true, PyData.eqv, PyData.eqvAll]
  by_cases h : a = c <;> by_cases k : b = d <;> simp [h, k]
end Mn
set_option maxHeartbeats 4000000
namespace Mn
open PySem
/-! ### refusals of fares -/
def badF (F : List Nat) : List D := [.non, .int 5, .tup [], .lst (iD F), .tup (iD F ++ [.int 0]), .tup (List.replicate F.length (.int 100)), .tup (List.replicate F.length (.int (-1))), .tup (List.replicate F.length (.bl true))]
section
variable {lf : Fn} {wf bs n : Nat} {st : Store} {m s : Nat} {on off L : Nat → Nat} {F : List Nat} {d : D}
theorem nf_rep {x : D} {k : Nat} (hk : 1 ≤ k) (hk5 : k ≤ 5) (h2 : 2 ≤ m) (h6 : m ≤ 6) (hx : ∀ bs, run (G lf) wf (n + 1) bs 1 [x, .int 0, .int 99] st = .ok (.bl false) st) : run (G lf) wf (n + 2) bs 73 [ln m s, .tup (List.replicate k x)] st = .exc 5 st := by
  refine run_exc rfl rfl rfl ?_ rfl
  have key := ev_lcM (cf := run (G lf) wf (n + 1)) (bs := st.length) (σ := [.val (ln m s), .val (.tup (List.replicate k x)), .un]) (st := st) (own := [2]) (tg := .nm 2) (it := .ov (.var 1)) (el := .call 1 (.cons (.var 2) (.cons (.con (.int 0)) (.cons (.con (.int 99)) .nil)))) (xs := List.replicate k x) (fun _ => .bl false) (by simp) (fun y hy => by
    rw [(List.mem_replicate.mp hy).2]
    refine ⟨[.val (ln m s), .val (.tup (List.replicate k x)), .val x], by simp [wipeS, bindT], ?_⟩
    simp [hx]) (by simp; omega)
  have al : blsD (List.replicate k (D.bl false)) = some (List.replicate k false) := by
    have := bls_map (List.replicate k false)
    simpa using this
  have k0 : k ≠ 0 := by omega
  show evSs (run (G lf) wf (n + 1)) wf st.length [.val (ln m s), .val (.tup (List.replicate k x)), .un] st f_need_fares.body = _
  simp only [f_need_fares]
  by_cases e : (k : Int) = (m : Int) - 1
  · simp [idxS0, e, cm_ne, key, al, k0]
  · simp [idxS0, e, cm_ne]
theorem nf_bad (h2 : 2 ≤ m) (h6 : m ≤ 6) (hl : F.length = m - 1) (h : d ∈ badF F) : run (G lf) wf (n + 2) bs 73 [ln m s, d] st = .exc 5 st := by
  simp only [badF, List.mem_cons, List.mem_nil_iff, or_false] at h
  rcases h with rfl | rfl | rfl | rfl | rfl | rfl | rfl | rfl
  · refine run_exc rfl rfl rfl ?_ rfl
    simp [f_need_fares]
  · refine run_exc rfl rfl rfl ?_ rfl
    simp [f_need_fares]
  · refine run_exc rfl rfl rfl ?_ rfl
    have : ¬ ((0 : Int) = (m : Int) - 1) := by omega
    simp [f_need_fares, idxS0, cm_ne, this]
  · refine run_exc rfl rfl rfl ?_ rfl
    simp [f_need_fares]
  · refine run_exc rfl rfl rfl ?_ rfl
    have : ¬ (((iD F ++ [D.int 0]).length : Int) = (m : Int) - 1) := by simp [iD, hl]; omega
    generalize iD F ++ [D.int 0] = z at this
    simp [f_need_fares, idxS0, cm_ne, this]
  · exact nf_rep (by omega) (by omega) h2 h6 fun bs => by rw [run_is_whole]; rfl
  · exact nf_rep (by omega) (by omega) h2 h6 fun bs => by rw [run_is_whole]; rfl
  · exact nf_rep (by omega) (by omega) h2 h6 fun bs => run_is_whole_bl true 0 99
theorem spread_bad (h2 : 2 ≤ m) (h6 : m ≤ 6) (s1 : 1 ≤ s) (s9 : s ≤ 9) (hl : F.length = m - 1) (h : d ∈ badF F) : run (G lf) wf (n + 4) bs 76 [ln m s, d] st = .exc 5 st := by
  refine run_exc rfl rfl rfl ?_ rfl
  have nf := @nf_bad lf wf st.length (n + 1) st m s F d h2 h6 hl h
  simp [f_spread, run_need_line h2 h6 s1 s9, nf]
theorem flatten_bad (h2 : 2 ≤ m) (h6 : m ≤ 6) (s1 : 1 ≤ s) (s9 : s ≤ 9) (hl : F.length = m - 1) (h : d ∈ badF F) : run (G lf) wf (n + 4) bs 77 [ln m s, d] st = .exc 5 st := by
  refine run_exc rfl rfl rfl ?_ rfl
  have nf := @nf_bad lf wf st.length (n + 1) st m s F d h2 h6 hl h
  simp [f_flatten, run_need_line h2 h6 s1 s9, nf]
theorem paid_bad (T : Tal m s on off L) {t : Nat → Nat → Nat} (B : Tab m on off t) (hl : F.length = m - 1) (h : d ∈ badF F) : run (G lf) wf (n + 6) bs 74 [ln m s, tl on off m, tb t m, d] st = .exc 5 st := by
  refine run_exc rfl rfl rfl ?_ rfl
  have nf := @nf_bad lf wf st.length (n + 3) st m s F d T.m2 T.m6 hl h
  simp [f_paid, run_need_table T B, nf]
theorem good_non (d : D) (hd : d = .non ∨ ∃ i, d = .int i) : run (G lf) wf (n + 4) bs 34 [ln m s, tl on off m, d] st = .ok (.bl false) st := by
  refine run_pure rfl rfl rfl ?_ rfl rfl
  have f : run (G lf) wf (n + 3) st.length 33 [ln m s, d] st = .ok (.bl false) st := by
    refine run_pure rfl rfl rfl ?_ rfl rfl
    rcases hd with rfl | ⟨i, rfl⟩ <;> simp [f_is_form]
  simp [f_is_good_table, f]
theorem paid_none (T : Tal m s on off L) : run (G lf) wf (n + 6) bs 74 [ln m s, tl on off m, .non, .non] st = .exc 2 st := by
  refine run_exc rfl rfl rfl ?_ rfl
  have f : run (G lf) wf (n + 5) st.length 36 [ln m s, tl on off m, .non] st = .exc 2 st := by
    refine run_exc rfl rfl rfl ?_ rfl
    have g := @good_non lf wf st.length n st m s on off .non (.inl rfl)
    simp [f_need_table, run_need_tally T, g]
  simp [f_paid, f]
end
end Mn
set_option maxHeartbeats 4000000
namespace K05
open PySem Mn
def bSum : List S := [.app 12 (.bi .sum (.cons (.lc [18] (.nm 18) (.ov (.call 68 (.cons (.var 2) .nil))) (.bin .mul (.idx (.var 10) (.bin .sub (.bin .sub (.idx (.var 18) (.con (.int 1))) (.idx (.var 18) (.con (.int 0)))) (.con (.int 1)))) (.call 51 (.cons (.var 13) (.cons (.var 18) .nil))))) .nil))]
def sFares : S := .asg 10 (.pl (.call 79 (.cons (.var 1) (.cons (.bin .sub (.idx (.var 2) (.con (.int 0))) (.con (.int 1))) (.cons (.var 5) .nil)))))
def sSteps : S := .asgC 11 (.pl (.lc [16, 17] (.tp [16, 17]) (.zp (.var 10) (.slc (.var 10) (.so (.con (.int 1))) .no)) (.bin .sub (.var 17) (.var 16))))
def sSpread : S := .ifs (.cmp .ne (.call 76 (.cons (.var 2) (.cons (.var 10) .nil))) (.cmp .eq (.var 11) (.bi .sorted (.cons (.var 11) .nil)))) [.ret (.con (.bl false))] []
def sFlat : S := .ifs (.cmp .ne (.call 77 (.cons (.var 2) (.cons (.var 10) .nil))) (.cmp .eq (.var 11) (.rev (.bi .sorted (.cons (.var 11) .nil))))) [.ret (.con (.bl false))] []
def sPaid : S := .ifs (.cmp .ne (.lc [13] (.nm 13) (.ov (.slc (.var 4) .no (.so (.con (.int 30))))) (.call 74 (.cons (.var 2) (.cons (.var 3) (.cons (.var 13) (.cons (.var 10) .nil)))))) (.slc (.var 12) .no (.so (.con (.int 30))))) [.ret (.con (.bl false))] []
def sEnds : S := .asg 14 (.pl (.tup (.cons (.call 74 (.cons (.var 2) (.cons (.var 3) (.cons (.var 8) (.cons (.var 10) .nil))))) (.cons (.call 74 (.cons (.var 2) (.cons (.var 3) (.cons (.var 9) (.cons (.var 10) .nil))))) .nil))))
def sUp : S := .ifs (.and (.cons (.call 76 (.cons (.var 2) (.cons (.var 10) .nil))) (.cons (.cmp .ne (.var 14) (.tup (.cons (.bi .min1 (.cons (.var 12) .nil)) (.cons (.bi .max1 (.cons (.var 12) .nil)) .nil)))) .nil))) [.ret (.con (.bl false))] []
def sDn : S := .ifs (.and (.cons (.call 77 (.cons (.var 2) (.cons (.var 10) .nil))) (.cons (.cmp .ne (.var 14) (.tup (.cons (.bi .max1 (.cons (.var 12) .nil)) (.cons (.bi .min1 (.cons (.var 12) .nil)) .nil)))) .nil))) [.ret (.con (.bl false))] []
def bAct : List S := [sFares, sSteps, sSpread, sFlat, .asg 12 (.nl .nil), .for_ (.nm 13) (.ov (.var 4)) bSum, .frz 12, sPaid, sEnds, sUp, sDn]
def sCase1 : S := .asg 6 (.pl (.lst (.cons (.con .non) (.cons (.con (.int 5)) (.cons (.tup .nil) (.cons (.bi .list (.cons (.var 10) .nil)) (.cons (.bin .add (.var 10) (.tup (.cons (.con (.int 0)) .nil))) (.cons (.bin .mul (.tup (.cons (.con (.int 100)) .nil)) (.bi .len (.cons (.var 10) .nil))) .nil))))))))
def sCase2 : S := .asg 6 (.pl (.bin .add (.var 6) (.lst (.cons (.bin .mul (.tup (.cons (.neg (.con (.int 1))) .nil)) (.bi .len (.cons (.var 10) .nil))) (.cons (.bin .mul (.tup (.cons (.con (.bl true)) .nil)) (.bi .len (.cons (.var 10) .nil))) .nil)))))
def bBad : List S := [.asg 15 (.nl (.cons (.told (.fn 76) [.v 2, .v 7]) .nil)), .app 15 (.told (.fn 77) [.v 2, .v 7]), .app 15 (.told (.fn 74) [.v 2, .v 3, .v 8, .v 7]), .frz 15, .ifs (.cmp .ne (.var 15) (.bin .mul (.lst (.cons (.tup (.cons (.con (.str "refused")) (.cons (.con (.str "BadFares")) .nil))) .nil)) (.con (.int 3)))) [.ret (.con (.bl false))] []]
def sNone : S := .ifs (.cmp .ne (.told (.fn 74) [.v 2, .v 3, .c .non, .c .non]) (.tup (.cons (.con (.str "refused")) (.cons (.con (.str "BadTable")) .nil)))) [.ret (.con (.bl false))] []
def sOne : S := .asgQ [8, 9] [(.pl (.call 16 (.cons (.var 2) (.cons (.var 3) .nil)))), (.pl (.call 71 (.cons (.var 2) (.cons (.var 3) .nil))))]
def sLed : S := .ifs (.or (.cons (.cmp .ne (.var 8) (.call 78 (.cons (.var 2) (.cons (.var 3) (.cons (.con (.bl false)) .nil))))) (.cons (.cmp .ne (.var 9) (.call 78 (.cons (.var 2) (.cons (.var 3) (.cons (.con (.bl true)) .nil))))) .nil))) [.ret (.con (.bl false))] []
def sLine : S := .asg 2 (.pl (.call 28 (.cons (.var 1) (.cons (.con (.int 6)) (.cons (.con (.int 6)) .nil)))))
def sTally : S := .asg 3 (.pl (.call 29 (.cons (.var 1) (.cons (.var 2) .nil))))
def sEvery : S := .asg 4 (.pl (.call 52 (.cons (.var 2) (.cons (.var 3) .nil))))
def bAll : List S := [sLine, sTally, sEvery, sOne, sLed, .for_ (.nm 5) (.r1 (.con (.int 3))) bAct, sCase1, sCase2, .for_ (.nm 7) (.ov (.var 6)) bBad, sNone]
theorem lf_body : lf.body = [.for_ (.nm 1) (.ov (.call 25 (.cons (.var 0) (.cons (.con (.int 2)) .nil)))) bAll, .ret (.con (.bl true))] := rfl
section
variable {lf : Fn} {wf bs n : Nat} {st : Store} {m s : Nat} {on off L : Nat → Nat} {F : List Nat} {ts : List (Nat → Nat → Nat)} {a0 a1 a5 a6 a7 a11 a12 a13 a14 a15 a16 a17 a18 : Sl} {r : Nat} {tF tL : Nat → Nat → Nat}
def paysD (F : List Nat) (ts : List (Nat → Nat → Nat)) (m : Nat) : List Int := ts.map fun t => (payW F t m : Int)
theorem ev_sums (h6 : m ≤ 6) (hl : F.length = m - 1) (hF : ∀ x ∈ F, x ≤ 99) (ht : ts.length ≤ 16777216) : ∃ u13, evS (run (Mn.G lf) wf (n + 1)) wf bs [a0, a1, .val (ln m s), .val (tl on off m), .val (.lst (ts.map fun t => tb t m)), a5, a6, a7, .val (tb tF m), .val (tb tL m), .val (.tup (iD F)), a11, .ol [], a13, a14, a15, a16, a17, a18] st (.for_ (.nm 13) (.ov (.var 4)) bSum)
    = .nx [a0, a1, .val (ln m s), .val (tl on off m), .val (.lst (ts.map fun t => tb t m)), a5, a6, a7, .val (tb tF m), .val (tb tL m), .val (.tup (iD F)), a11, .ol ((paysD F ts m).map .int), u13, a14, a15, a16, a17, a18] st := by
  obtain ⟨s', st', k, e, u13, es⟩ := ev_forI (cf := run (Mn.G lf) wf (n + 1)) (wf := wf) (bs := bs) (σ := [a0, a1, .val (ln m s), .val (tl on off m), .val (.lst (ts.map fun t => tb t m)), a5, a6, a7, .val (tb tF m), .val (tb tL m), .val (.tup (iD F)), a11, .ol [], a13, a14, a15, a16, a17, a18]) (st := st) (tg := .nm 13) (it := .ov (.var 4)) (b := bSum) (xs := ts.map fun t => tb t m)
    (fun j σ st' => st' = st ∧ ∃ u13, σ = [a0, a1, .val (ln m s), .val (tl on off m), .val (.lst (ts.map fun t => tb t m)), a5, a6, a7, .val (tb tF m), .val (tb tL m), .val (.tup (iD F)), a11, .ol ((paysD F (ts.take j) m).map .int), u13, a14, a15, a16, a17, a18]) (by simp) (fun j x σ st' hx ⟨e, u13, es⟩ => by
      subst e es
      rw [List.getElem?_map] at hx
      obtain ⟨t, ht', rfl⟩ := Option.map_eq_some_iff.mp hx
      have hj := (List.getElem?_eq_some_iff.mp ht').1
      have sp := @sum_pay bs st' m F (run (Mn.G lf) wf (n + 1)) [a0, a1, .val (ln m s), .val (tl on off m), .val (.lst (ts.map fun t => tb t m)), a5, a6, a7, .val (tb tF m), .val (tb tL m), .val (.tup (iD F)), a11, .ol ((paysD F (ts.take j) m).map .int), .val (tb t m), a14, a15, a16, a17, a18] 2 68 51 10 13 18 t h6 hl hF (by simp [run_law_ways h6]) (fun w h1 h2 => run_law_rode h1 h2) (fun x => rfl) (fun x => rfl) (fun x => rfl)
      refine ⟨[a0, a1, .val (ln m s), .val (tl on off m), .val (.lst (ts.map fun t => tb t m)), a5, a6, a7, .val (tb tF m), .val (tb tL m), .val (.tup (iD F)), a11, .ol ((paysD F (ts.take j) m).map .int), .val (tb t m), a14, a15, a16, a17, a18], _, st', by simp [bindT], ?_, rfl, .val (tb t m), rfl⟩
      unfold bSum
      have hz : szOk (((paysD F (ts.take j) m).map D.int).length + 1) = true := szOk_of (by simp [paysD]; omega)
      rw [ev_Scons, ev_app, app_ol (ds := (paysD F (ts.take j) m).map .int) rfl, sp]
      simp only [Out.fl_ok, hz, if_true, Fl.seq_nx, ev_Snil]
      rw [List.take_add_one, ht']
      simp [paysD]) ⟨rfl, a13, by simp [paysD]⟩
  subst e es
  refine ⟨u13, ?_⟩
  rw [k, List.length_map, List.take_length]
theorem ev_case (T : Tal m s on off L) (hTs : ∀ t ∈ ts, Tab m on off t) (hall : ∀ t, Tab m on off t → ∃ u ∈ ts, ∀ i k, i < k → k < m → u i k = t i k) (ht : ts.length ≤ 16777216) (hD : ∀ r < st.length, Dice st r) (hr : r < st.length) {a : Nat} (ha : a ≤ 2) {a10 : Sl} :
    ∃ (F : List Nat) (st' : Store) (u11 u12 u13 u14 : Sl), F.length = m - 1 ∧ (∀ x ∈ F, x ≤ 99) ∧ Rolled r st st' ∧ evSs (run (Mn.G lf) wf (n + 6)) wf bs [a0, .val (.ref r), .val (ln m s), .val (tl on off m), .val (.lst (ts.map fun t => tb t m)), .val (.int (a : Int)), a6, a7, .val (tb (ledT false on off m) m), .val (tb (ledT true on off m) m), a10, a11, a12, a13, a14, a15, a16, a17, a18] st bAct
      = .nx [a0, .val (.ref r), .val (ln m s), .val (tl on off m), .val (.lst (ts.map fun t => tb t m)), .val (.int (a : Int)), a6, a7, .val (tb (ledT false on off m) m), .val (tb (ledT true on off m) m), .val (.tup (iD F)), u11, u12, u13, u14, a15, a16, a17, a18] st' := by
  have m2 := T.m2
  have m6 := T.m6
  have s1 := T.s1
  have s9 := T.s9
  obtain ⟨F, st', hl, hF, R, ef⟩ := @run_law_fares lf wf bs (n + 3) st r (m - 1) a hD hr (by omega) ha
  have em : ((m : Int) - 1) = ((m - 1 : Nat) : Int) := by omega
  have i1 : evS (run (Mn.G lf) wf (n + 6)) wf bs [a0, .val (.ref r), .val (ln m s), .val (tl on off m), .val (.lst (ts.map fun t => tb t m)), .val (.int (a : Int)), a6, a7, .val (tb (ledT false on off m) m), .val (tb (ledT true on off m) m), a10, a11, a12, a13, a14, a15, a16, a17, a18] st sFares
      = .nx [a0, .val (.ref r), .val (ln m s), .val (tl on off m), .val (.lst (ts.map fun t => tb t m)), .val (.int (a : Int)), a6, a7, .val (tb (ledT false on off m) m), .val (tb (ledT true on off m) m), .val (.tup (iD F)), a11, a12, a13, a14, a15, a16, a17, a18] st' := by
    unfold sFares
    simp [idxS0, em, ef]
  have key := ev_lcZ (cf := run (Mn.G lf) wf (n + 6)) (bs := bs) (σ := [a0, .val (.ref r), .val (ln m s), .val (tl on off m), .val (.lst (ts.map fun t => tb t m)), .val (.int (a : Int)), a6, a7, .val (tb (ledT false on off m) m), .val (tb (ledT true on off m) m), .val (.tup (iD F)), a11, a12, a13, a14, a15, a16, a17, a18]) (st := st') (own := [16, 17]) (tg := .tp [16, 17]) (x := .var 10) (el := .bin .sub (.var 17) (.var 16)) (f := fun k => .int (fN F k : Int)) (n := F.length) (fun k => .int (dI F k)) true (by simp [iD_rl]) (fun k hk => by
    refine ⟨[a0, .val (.ref r), .val (ln m s), .val (tl on off m), .val (.lst (ts.map fun t => tb t m)), .val (.int (a : Int)), a6, a7, .val (tb (ledT false on off m) m), .val (tb (ledT true on off m) m), .val (.tup (iD F)), a11, a12, a13, a14, a15, .val (.int (fN F k : Int)), .val (.int (fN F (k + 1) : Int)), a18], by simp [wipeS, bindT, setAll], ?_⟩
    simp [dI]) (by omega)
  have i2 : evS (run (Mn.G lf) wf (n + 6)) wf bs [a0, .val (.ref r), .val (ln m s), .val (tl on off m), .val (.lst (ts.map fun t => tb t m)), .val (.int (a : Int)), a6, a7, .val (tb (ledT false on off m) m), .val (tb (ledT true on off m) m), .val (.tup (iD F)), a11, a12, a13, a14, a15, a16, a17, a18] st' sSteps
      = .nx [a0, .val (.ref r), .val (ln m s), .val (tl on off m), .val (.lst (ts.map fun t => tb t m)), .val (.int (a : Int)), a6, a7, .val (tb (ledT false on off m) m), .val (tb (ledT true on off m) m), .val (.tup (iD F)), .val (.lst ((dL F).map .int)), a12, a13, a14, a15, a16, a17, a18] st' := by
    unfold sSteps
    rw [ev_asgC, ev_pl, key, dL_rl]
    simp
  have so : biD .sorted [.lst ((dL F).map .int)] = some (.lst ((sortI (dL F)).map .int)) := by rw [biD, ints_map]
  have q1 := @run_spread lf wf bs (n + 2) st' m s F m2 m6 s1 s9 hl hF
  have q2 := @run_flatten lf wf bs (n + 2) st' m s F m2 m6 s1 s9 hl hF
  have e1 : cmD .eq (.lst ((dL F).map .int)) (.lst ((sortI (dL F)).map .int)) = some (upB F) := by rw [up_sort, cmD, eq_lists]
  have e2 : cmD .eq (.lst ((dL F).map .int)) (.lst (((sortI (dL F)).map .int).reverse)) = some (dnB F) := by rw [dn_sort, cmD, ← List.map_reverse, eq_lists]
  have eb : ∀ b : Bool, cmD .ne (.bl b) (.bl b) = some false := fun b => by cases b <;> decide +kernel
  have i3 : evS (run (Mn.G lf) wf (n + 6)) wf bs [a0, .val (.ref r), .val (ln m s), .val (tl on off m), .val (.lst (ts.map fun t => tb t m)), .val (.int (a : Int)), a6, a7, .val (tb (ledT false on off m) m), .val (tb (ledT true on off m) m), .val (.tup (iD F)), .val (.lst ((dL F).map .int)), a12, a13, a14, a15, a16, a17, a18] st' sSpread
      = .nx [a0, .val (.ref r), .val (ln m s), .val (tl on off m), .val (.lst (ts.map fun t => tb t m)), .val (.int (a : Int)), a6, a7, .val (tb (ledT false on off m) m), .val (tb (ledT true on off m) m), .val (.tup (iD F)), .val (.lst ((dL F).map .int)), a12, a13, a14, a15, a16, a17, a18] st' := by
    unfold sSpread
    rw [ev_ifs]
    simp [q1, so, e1, eb]
  have i4 : evS (run (Mn.G lf) wf (n + 6)) wf bs [a0, .val (.ref r), .val (ln m s), .val (tl on off m), .val (.lst (ts.map fun t => tb t m)), .val (.int (a : Int)), a6, a7, .val (tb (ledT false on off m) m), .val (tb (ledT true on off m) m), .val (.tup (iD F)), .val (.lst ((dL F).map .int)), a12, a13, a14, a15, a16, a17, a18] st' sFlat
      = .nx [a0, .val (.ref r), .val (ln m s), .val (tl on off m), .val (.lst (ts.map fun t => tb t m)), .val (.int (a : Int)), a6, a7, .val (tb (ledT false on off m) m), .val (tb (ledT true on off m) m), .val (.tup (iD F)), .val (.lst ((dL F).map .int)), a12, a13, a14, a15, a16, a17, a18] st' := by
    unfold sFlat
    rw [ev_ifs]
    have rv : revD (.lst ((sortI (dL F)).map .int)) = some (.lst (((sortI (dL F)).map .int).reverse)) := rfl
    rw [ev_cmp, ev_call]
    simp only [ev_cons, ev_var, ev_nil, List.getElem?_cons_zero, List.getElem?_cons_succ, getV_val, Out.bind_ok, q2, ev_cmp, ev_rev, ev_bi, so, Out.of_some, rv, e2, Option.map_some, eb, Out.fl_ok]
    simp
  obtain ⟨u13, i6⟩ := @ev_sums lf wf bs (n + 5) st' m s on off F ts a0 (.val (.ref r)) (.val (.int (a : Int))) a6 a7 (.val (.lst ((dL F).map .int))) a13 a14 a15 a16 a17 a18 (ledT false on off m) (ledT true on off m) m6 hl hF ht
  have pd : ∀ (b : Nat) (t : Nat → Nat → Nat), Tab m on off t → run (Mn.G lf) wf (n + 6) b 74 [ln m s, tl on off m, tb t m, .tup (iD F)] st' = .ok (.int (payW F t m : Int)) st' := fun b t B => run_paid T B hl hF
  have BF := led_tab T false
  have BL := led_tab T true
  have i8 : evS (run (Mn.G lf) wf (n + 6)) wf bs [a0, .val (.ref r), .val (ln m s), .val (tl on off m), .val (.lst (ts.map fun t => tb t m)), .val (.int (a : Int)), a6, a7, .val (tb (ledT false on off m) m), .val (tb (ledT true on off m) m), .val (.tup (iD F)), .val (.lst ((dL F).map .int)), .val (.lst ((paysD F ts m).map .int)), u13, a14, a15, a16, a17, a18] st' sPaid
      = .nx [a0, .val (.ref r), .val (ln m s), .val (tl on off m), .val (.lst (ts.map fun t => tb t m)), .val (.int (a : Int)), a6, a7, .val (tb (ledT false on off m) m), .val (tb (ledT true on off m) m), .val (.tup (iD F)), .val (.lst ((dL F).map .int)), .val (.lst ((paysD F ts m).map .int)), u13, a14, a15, a16, a17, a18] st' := by
    have sl : slcD (.lst (ts.map fun t => tb t m)) none (some 30) = some (.lst ((ts.take 30).map fun t => tb t m)) := by
      have := slc_to (ts.map fun t => tb t m) 30
      rw [List.map_take]
      exact this
    have sl2 : slcD (.lst ((paysD F ts m).map .int)) none (some 30) = some (.lst ((paysD F (ts.take 30) m).map .int)) := by
      have := slc_to ((paysD F ts m).map .int) 30
      unfold paysD at this ⊢
      rw [List.map_take, List.map_take]
      exact this
    have lc : evE (run (Mn.G lf) wf (n + 6)) bs [a0, .val (.ref r), .val (ln m s), .val (tl on off m), .val (.lst (ts.map fun t => tb t m)), .val (.int (a : Int)), a6, a7, .val (tb (ledT false on off m) m), .val (tb (ledT true on off m) m), .val (.tup (iD F)), .val (.lst ((dL F).map .int)), .val (.lst ((paysD F ts m).map .int)), u13, a14, a15, a16, a17, a18] st' (.lc [13] (.nm 13) (.ov (.slc (.var 4) .no (.so (.con (.int 30))))) (.call 74 (.cons (.var 2) (.cons (.var 3) (.cons (.var 13) (.cons (.var 10) .nil)))))) = .ok (.lst ((paysD F (ts.take 30) m).map .int)) st' := by
      have hi : evI (run (Mn.G lf) wf (n + 6)) bs [a0, .val (.ref r), .val (ln m s), .val (tl on off m), .val (.lst (ts.map fun t => tb t m)), .val (.int (a : Int)), a6, a7, .val (tb (ledT false on off m) m), .val (tb (ledT true on off m) m), .val (.tup (iD F)), .val (.lst ((dL F).map .int)), .val (.lst ((paysD F ts m).map .int)), u13, a14, a15, a16, a17, a18] st' (.ov (.slc (.var 4) .no (.so (.con (.int 30))))) = .ok ((ts.take 30).map fun t => tb t m) st' := by
        simp only [ev_ov, ev_slc, ev_var, List.getElem?_cons_zero, List.getElem?_cons_succ, getV_val, Out.bind_ok, ev_no, ev_so, ev_con, cd_int, sl, Out.of_some, seq_l]
      rw [ev_lc, hi, Out.bind_ok]
      have key : ∀ (l : List (Nat → Nat → Nat)) (acc : List D), (∀ t ∈ l, Tab m on off t) → acc.length + l.length ≤ 1000 → compL (wipeS [a0, .val (.ref r), .val (ln m s), .val (tl on off m), .val (.lst (ts.map fun t => tb t m)), .val (.int (a : Int)), a6, a7, .val (tb (ledT false on off m) m), .val (tb (ledT true on off m) m), .val (.tup (iD F)), .val (.lst ((dL F).map .int)), .val (.lst ((paysD F ts m).map .int)), u13, a14, a15, a16, a17, a18] [13]) (.nm 13) (fun _ st => .ok (.bl true) st) (fun σ st => evE (run (Mn.G lf) wf (n + 6)) bs σ st (.call 74 (.cons (.var 2) (.cons (.var 3) (.cons (.var 13) (.cons (.var 10) .nil)))))) (l.map fun t => tb t m) acc st' = .ok (.lst (acc ++ (paysD F l m).map .int)) st' := by
        intro l
        induction l with
        | nil => intro acc _ _; simp [compL, paysD]
        | cons t l ih =>
          intro acc hB hz
          rw [List.map_cons, compL]
          simp only [bindT, wipeS, List.set_cons_succ, List.set_cons_zero, ev_call, ev_cons, ev_var, ev_nil, List.getElem?_cons_zero, List.getElem?_cons_succ, getV_val, Out.bind_ok, pd bs t (hB t List.mem_cons_self)]
          rw [if_pos (szOk_of (by simp at hz; omega))]
          have := ih (acc ++ [.int (payW F t m : Int)]) (fun t ht => hB t (List.mem_cons_of_mem _ ht)) (by simp at hz ⊢; omega)
          simp only [wipeS, List.set_cons_succ, List.set_cons_zero, ev_call, ev_cons, ev_var, ev_nil, Out.bind_ok] at this
          rw [this]
          simp [paysD]
      exact key (ts.take 30) [] (fun t ht => hTs t (List.mem_of_mem_take ht)) (by simp; omega)
    have ne : cmD .ne (.lst ((paysD F (ts.take 30) m).map .int)) (.lst ((paysD F (ts.take 30) m).map .int)) = some false := by
      rw [cmD, eq_lists]; simp
    unfold sPaid
    rw [ev_ifs, ev_cmp, lc]
    simp only [Out.bind_ok, ev_slc, ev_var, List.getElem?_cons_zero, List.getElem?_cons_succ, getV_val, ev_no, ev_so, ev_con, cd_int, sl2, Out.of_some, ne, Option.map_some, Out.fl_ok]
    simp
  have i9 : evS (run (Mn.G lf) wf (n + 6)) wf bs [a0, .val (.ref r), .val (ln m s), .val (tl on off m), .val (.lst (ts.map fun t => tb t m)), .val (.int (a : Int)), a6, a7, .val (tb (ledT false on off m) m), .val (tb (ledT true on off m) m), .val (.tup (iD F)), .val (.lst ((dL F).map .int)), .val (.lst ((paysD F ts m).map .int)), u13, a14, a15, a16, a17, a18] st' sEnds
      = .nx [a0, .val (.ref r), .val (ln m s), .val (tl on off m), .val (.lst (ts.map fun t => tb t m)), .val (.int (a : Int)), a6, a7, .val (tb (ledT false on off m) m), .val (tb (ledT true on off m) m), .val (.tup (iD F)), .val (.lst ((dL F).map .int)), .val (.lst ((paysD F ts m).map .int)), u13, .val (.tup [.int (payW F (ledT false on off m) m : Int), .int (payW F (ledT true on off m) m : Int)]), a15, a16, a17, a18] st' := by
    unfold sEnds
    simp [pd bs _ BF, pd bs _ BL, sz2]
  have inT : ∀ t, Tab m on off t → (payW F t m : Int) ∈ paysD F ts m := fun t B => by
    obtain ⟨u, hu, hc⟩ := hall t B
    exact List.mem_map.mpr ⟨u, hu, by rw [pay_congr hc]⟩
  have mx : ∀ t, Tab m on off t → (∀ u ∈ ts, payW F u m ≤ payW F t m) → biD .max1 [.lst ((paysD F ts m).map .int)] = some (.int (payW F t m : Int)) := fun t B h => by
    rw [bi_max1, seq_l]
    simp only [Option.bind_some, ints_map]
    rw [max_of (inT t B) fun y hy => ?_]
    · rfl
    · obtain ⟨u, hu, rfl⟩ := List.mem_map.mp hy
      exact Int.ofNat_le.mpr (h u hu)
  have mn : ∀ t, Tab m on off t → (∀ u ∈ ts, payW F t m ≤ payW F u m) → biD .min1 [.lst ((paysD F ts m).map .int)] = some (.int (payW F t m : Int)) := fun t B h => by
    rw [biD, seq_l]
    simp only [Option.bind_some, ints_map]
    rw [min_of (inT t B) fun y hy => ?_]
    · rfl
    · obtain ⟨u, hu, rfl⟩ := List.mem_map.mp hy
      exact Int.ofNat_le.mpr (h u hu)
  have nep : ∀ x y : Int, cmD .ne (.tup [.int x, .int y]) (.tup [.int x, .int y]) = some false := fun x y => by rw [cmD, eq_pairs]; simp
  have i10 : evS (run (Mn.G lf) wf (n + 6)) wf bs [a0, .val (.ref r), .val (ln m s), .val (tl on off m), .val (.lst (ts.map fun t => tb t m)), .val (.int (a : Int)), a6, a7, .val (tb (ledT false on off m) m), .val (tb (ledT true on off m) m), .val (.tup (iD F)), .val (.lst ((dL F).map .int)), .val (.lst ((paysD F ts m).map .int)), u13, .val (.tup [.int (payW F (ledT false on off m) m : Int), .int (payW F (ledT true on off m) m : Int)]), a15, a16, a17, a18] st' sUp
      = .nx [a0, .val (.ref r), .val (ln m s), .val (tl on off m), .val (.lst (ts.map fun t => tb t m)), .val (.int (a : Int)), a6, a7, .val (tb (ledT false on off m) m), .val (tb (ledT true on off m) m), .val (.tup (iD F)), .val (.lst ((dL F).map .int)), .val (.lst ((paysD F ts m).map .int)), u13, .val (.tup [.int (payW F (ledT false on off m) m : Int), .int (payW F (ledT true on off m) m : Int)]), a15, a16, a17, a18] st' := by
    unfold sUp
    rw [ev_ifs]
    cases hb : upB F with
    | false => rw [hb] at q1; simp [q1]
    | true =>
      rw [hb] at q1
      have x1 := mn _ BF fun u hu => (spread_ends T (hTs u hu) hl hb).1
      have x2 := mx _ BL fun u hu => (spread_ends T (hTs u hu) hl hb).2
      generalize (paysD F ts m).map D.int = pp at x1 x2
      simp only [ev_and, ev_and2, ev_and1, ev_call, ev_cons, ev_var, ev_nil, List.getElem?_cons_zero, List.getElem?_cons_succ, getV_val, Out.bind_ok, q1, ev_cmp, ev_tup, ev_bi, x1, x2, Out.of_some, List.length_cons, List.length_nil, Nat.zero_add, Nat.reduceAdd, sz2, if_true, nep, Option.map_some, Out.fl_ok, ev_Snil]
  have i11 : evS (run (Mn.G lf) wf (n + 6)) wf bs [a0, .val (.ref r), .val (ln m s), .val (tl on off m), .val (.lst (ts.map fun t => tb t m)), .val (.int (a : Int)), a6, a7, .val (tb (ledT false on off m) m), .val (tb (ledT true on off m) m), .val (.tup (iD F)), .val (.lst ((dL F).map .int)), .val (.lst ((paysD F ts m).map .int)), u13, .val (.tup [.int (payW F (ledT false on off m) m : Int), .int (payW F (ledT true on off m) m : Int)]), a15, a16, a17, a18] st' sDn
      = .nx [a0, .val (.ref r), .val (ln m s), .val (tl on off m), .val (.lst (ts.map fun t => tb t m)), .val (.int (a : Int)), a6, a7, .val (tb (ledT false on off m) m), .val (tb (ledT true on off m) m), .val (.tup (iD F)), .val (.lst ((dL F).map .int)), .val (.lst ((paysD F ts m).map .int)), u13, .val (.tup [.int (payW F (ledT false on off m) m : Int), .int (payW F (ledT true on off m) m : Int)]), a15, a16, a17, a18] st' := by
    unfold sDn
    rw [ev_ifs]
    cases hb : dnB F with
    | false => rw [hb] at q2; simp [q2]
    | true =>
      rw [hb] at q2
      have x1 := mn _ BL fun u hu => (flatten_ends T (hTs u hu) hl hb).1
      have x2 := mx _ BF fun u hu => (flatten_ends T (hTs u hu) hl hb).2
      generalize (paysD F ts m).map D.int = pp at x1 x2
      simp only [ev_and, ev_and2, ev_and1, ev_call, ev_cons, ev_var, ev_nil, List.getElem?_cons_zero, List.getElem?_cons_succ, getV_val, Out.bind_ok, q2, ev_cmp, ev_tup, ev_bi, x1, x2, Out.of_some, List.length_cons, List.length_nil, Nat.zero_add, Nat.reduceAdd, sz2, if_true, nep, Option.map_some, Out.fl_ok, ev_Snil]
  refine ⟨F, st', .val (.lst ((dL F).map .int)), .val (.lst ((paysD F ts m).map .int)), u13, .val (.tup [.int (payW F (ledT false on off m) m : Int), .int (payW F (ledT true on off m) m : Int)]), hl, hF, R, ?_⟩
  unfold bAct
  rw [ev_Scons, i1, Fl.seq_nx, ev_Scons, i2, Fl.seq_nx, ev_Scons, i3, Fl.seq_nx, ev_Scons, i4, Fl.seq_nx, ev_Scons]
  simp only [ev_asg, ev_nl, ev_nil, Out.bind_ok, List.length_nil, sz0, if_true, Out.fl_ok, List.set_cons_succ, List.set_cons_zero, Fl.seq_nx]
  rw [ev_Scons, i6, Fl.seq_nx, ev_Scons]
  simp only [ev_frz, List.getElem?_cons_zero, List.getElem?_cons_succ, List.set_cons_succ, List.set_cons_zero, Fl.seq_nx]
  rw [ev_Scons, i8, Fl.seq_nx, ev_Scons, i9, Fl.seq_nx, ev_Scons, i10, Fl.seq_nx, ev_Scons, i11, Fl.seq_nx, ev_Snil]
theorem mul_f : opD .mul (.lst [.tup [.str "refused", .str "BadFares"]]) (.int 3) = some (.lst [rfD 5, rfD 5, rfD 5]) := @mul_lst1 (rfD 5) 3 (by omega)
theorem ne_f : cmD .ne (.lst [rfD 5, rfD 5, rfD 5]) (.lst [rfD 5, rfD 5, rfD 5]) = some false := by decide +kernel
theorem ne_t : cmD .ne (rfD 2) (.tup [.str "refused", .str "BadTable"]) = some false := by decide +kernel
theorem ev_bad (T : Tal m s on off L) (hl : F.length = m - 1) {d : D} (h : d ∈ badF F) {a4 a9 a10 : Sl} : ∃ u15, evSs (run (Mn.G lf) wf (n + 6)) wf bs [a0, a1, .val (ln m s), .val (tl on off m), a4, a5, a6, .val d, .val (tb (ledT false on off m) m), a9, a10, a11, a12, a13, a14, a15, a16, a17, a18] st bBad
    = .nx [a0, a1, .val (ln m s), .val (tl on off m), a4, a5, a6, .val d, .val (tb (ledT false on off m) m), a9, a10, a11, a12, a13, a14, u15, a16, a17, a18] st := by
  have q1 := @spread_bad lf wf bs (n + 2) st m s F d T.m2 T.m6 T.s1 T.s9 hl h
  have q2 := @flatten_bad lf wf bs (n + 2) st m s F d T.m2 T.m6 T.s1 T.s9 hl h
  have q3 := @paid_bad lf wf bs n st m s on off L F d T _ (led_tab T false) hl h
  have r1 : toldO (.exc 5 st) = .ok (rfD 5) st := toldO_exc (by decide)
  refine ⟨.val (.lst [rfD 5, rfD 5, rfD 5]), ?_⟩
  unfold bBad
  have i1 : evS (run (Mn.G lf) wf (n + 6)) wf bs [a0, a1, .val (ln m s), .val (tl on off m), a4, a5, a6, .val d, .val (tb (ledT false on off m) m), a9, a10, a11, a12, a13, a14, a15, a16, a17, a18] st (.asg 15 (.nl (.cons (.told (.fn 76) [.v 2, .v 7]) .nil)))
      = .nx [a0, a1, .val (ln m s), .val (tl on off m), a4, a5, a6, .val d, .val (tb (ledT false on off m) m), a9, a10, a11, a12, a13, a14, .ol [rfD 5], a16, a17, a18] st := by
    rw [ev_asg, ev_nl, ev_cons, ev_told_fn (ds := [ln m s, d]) rfl, q1, r1]
    simp [sz1]
  have i2 : evS (run (Mn.G lf) wf (n + 6)) wf bs [a0, a1, .val (ln m s), .val (tl on off m), a4, a5, a6, .val d, .val (tb (ledT false on off m) m), a9, a10, a11, a12, a13, a14, .ol [rfD 5], a16, a17, a18] st (.app 15 (.told (.fn 77) [.v 2, .v 7]))
      = .nx [a0, a1, .val (ln m s), .val (tl on off m), a4, a5, a6, .val d, .val (tb (ledT false on off m) m), a9, a10, a11, a12, a13, a14, .ol [rfD 5, rfD 5], a16, a17, a18] st := by
    rw [ev_app, app_ol (ds := [rfD 5]) rfl, ev_told_fn (ds := [ln m s, d]) rfl, q2, r1]
    simp [sz2]
  have i3 : evS (run (Mn.G lf) wf (n + 6)) wf bs [a0, a1, .val (ln m s), .val (tl on off m), a4, a5, a6, .val d, .val (tb (ledT false on off m) m), a9, a10, a11, a12, a13, a14, .ol [rfD 5, rfD 5], a16, a17, a18] st (.app 15 (.told (.fn 74) [.v 2, .v 3, .v 8, .v 7]))
      = .nx [a0, a1, .val (ln m s), .val (tl on off m), a4, a5, a6, .val d, .val (tb (ledT false on off m) m), a9, a10, a11, a12, a13, a14, .ol [rfD 5, rfD 5, rfD 5], a16, a17, a18] st := by
    rw [ev_app, app_ol (ds := [rfD 5, rfD 5]) rfl, ev_told_fn (ds := [ln m s, tl on off m, tb (ledT false on off m) m, d]) rfl, q3, r1]
    simp [sz3]
  rw [ev_Scons, i1, Fl.seq_nx, ev_Scons, i2, Fl.seq_nx, ev_Scons, i3, Fl.seq_nx, ev_Scons]
  simp only [ev_frz, List.getElem?_cons_zero, List.getElem?_cons_succ, List.set_cons_succ, List.set_cons_zero, Fl.seq_nx]
  rw [ev_Scons, ev_ifs]
  simp only [ev_cmp, ev_var, List.getElem?_cons_zero, List.getElem?_cons_succ, getV_val, Out.bind_ok, ev_bin, ev_lst, ev_cons, ev_tup, ev_con, cd_str, cd_int, ev_nil, List.length_cons, List.length_nil, Nat.zero_add, Nat.reduceAdd, sz1, sz2, if_true, mul_f, Out.of_some, ne_f, Option.map_some, Out.fl_ok, ev_Snil, Fl.seq_nx]
theorem mul_t1 {x : D} {k : Nat} (h : k ≤ 1000) : opD .mul (.tup [x]) (.int (k : Int)) = some (.tup (List.replicate k x)) := by
  unfold opD
  simp only [List.length_cons, List.length_nil, flat_one, Int.toNat_natCast]
  rw [if_pos]
  simp; omega
theorem eq_tabs (t : Nat → Nat → Nat) (m : Nat) : eqD (tb t m) (tb t m) = some true := by
  have h : ∃ y, D.py (tb t m) = some y ∧ SeqAt.shaped y = true ∧ PyData.eqv y y = true := by
    have rows : ∀ l : List Nat, D.pyL (l.map (rowD t m)) = some (l.map fun i => PyData.tuple (((List.range (m - 1 - i)).map fun d => (t i (i + 1 + d) : Int)).map .int)) := by
      intro l
      induction l with
      | nil => rfl
      | cons i l ih =>
        have : D.py (rowD t m i) = some (.tuple (((List.range (m - 1 - i)).map fun d => (t i (i + 1 + d) : Int)).map .int)) := by
          unfold rowD
          rw [nl_map, D.py, pyL_ints]; rfl
        simp [D.pyL, this, ih]
    refine ⟨.tuple ((List.range (m - 1)).map fun i => PyData.tuple (((List.range (m - 1 - i)).map fun d => (t i (i + 1 + d) : Int)).map .int)), by unfold tb; rw [D.py, rows]; rfl, ?_, ?_⟩
    · have lay : ∀ l : List Nat, PyData.canLayAll0 (l.map fun i => PyData.tuple (((List.range (m - 1 - i)).map fun d => (t i (i + 1 + d) : Int)).map .int)) = true := fun l => by
        induction l with
        | nil => simp [PyData.canLayAll0]
        | cons i l ih => simp only [List.map_cons, PyData.canLayAll0, PyData.canLay0, ih, lay_ints, Bool.and_self]
      have dep : ∀ l : List Nat, PyData.depthAll (l.map fun i => PyData.tuple (((List.range (m - 1 - i)).map fun d => (t i (i + 1 + d) : Int)).map .int)) ≤ 2 := fun l => by
        induction l with
        | nil => simp [PyData.depthAll]
        | cons i l ih =>
          have := dep_ints ((List.range (m - 1 - i)).map fun d => (t i (i + 1 + d) : Int))
          simp only [List.map_cons, PyData.depthAll, PyData.depth]
          omega
      have := dep (List.range (m - 1))
      simp only [SeqAt.shaped, PyData.canLay0, lay, PyData.depth, Bool.true_and]
      exact decide_eq_true (by omega)
    · have al : ∀ l : List Nat, PyData.eqvAll (l.map fun i => PyData.tuple (((List.range (m - 1 - i)).map fun d => (t i (i + 1 + d) : Int)).map .int)) (l.map fun i => PyData.tuple (((List.range (m - 1 - i)).map fun d => (t i (i + 1 + d) : Int)).map .int)) = true := fun l => by
        induction l with
        | nil => simp [PyData.eqvAll]
        | cons i l ih => simp only [List.map_cons, PyData.eqvAll, PyData.eqv, ih, eqvAll_ints, Bool.and_self]
      rw [PyData.eqv, al]
  obtain ⟨y, h1, h2, h3⟩ := h
  unfold eqD
  rw [h1]
  simp [h2, h3]
end
end K05
set_option maxHeartbeats 4000000
namespace K05
open PySem Mn
theorem ev_round {st : Store} {r bs n : Nat} {a0 a2 a3 a4 a5 a6 a7 a8 a9 a10 a11 a12 a13 a14 a15 a16 a17 a18 : Sl} (hD : ∀ r < st.length, Dice st r) (hr : r < st.length) :
    ∃ (st' : Store) (b2 b3 b4 b5 b6 b7 b8 b9 b10 b11 b12 b13 b14 b15 b16 b17 b18 : Sl), Rolled r st st' ∧ evSs (run (Mn.G lf) wf (n + 6)) wf bs [a0, .val (.ref r), a2, a3, a4, a5, a6, a7, a8, a9, a10, a11, a12, a13, a14, a15, a16, a17, a18] st bAll = .nx [a0, .val (.ref r), b2, b3, b4, b5, b6, b7, b8, b9, b10, b11, b12, b13, b14, b15, b16, b17, b18] st' := by
  obtain ⟨m, s, st1, m2, m6, s1, s6, R1, e1⟩ := @run_any_line lf wf bs (n + 3) st r (hD r hr)
  obtain ⟨on, off, L, st2, T, R2, e2⟩ := @run_any_tally lf wf bs (n + 3) st1 r m s R1.dice m2 m6 s1 (by omega)
  obtain ⟨ts, hTs, hall, ht, e3⟩ := tabs_all lf wf (n + 5) bs st2 m s on off L s6 T
  have D2 := R2.all (R1.all hD)
  have l2 : st2.length = st.length := R2.len.trans R1.len
  have f1 := @run_first_off2 lf wf bs (n + 1) st2 m s on off L T
  have f2 := @run_last_off2 lf wf bs (n + 1) st2 m s on off L T
  have g1 := @run_law_led lf wf bs (n + 5) st2 m s on off L T false (plain_all D2)
  have g2 := @run_law_led lf wf bs (n + 5) st2 m s on off L T true (plain_all D2)
  have net : ∀ t, cmD .ne (tb t m) (tb t m) = some false := fun t => by rw [cmD, eq_tabs]; rfl
  have i1 : evS (run (Mn.G lf) wf (n + 6)) wf bs [a0, .val (.ref r), a2, a3, a4, a5, a6, a7, a8, a9, a10, a11, a12, a13, a14, a15, a16, a17, a18] st sLine = .nx [a0, .val (.ref r), .val (ln m s), a3, a4, a5, a6, a7, a8, a9, a10, a11, a12, a13, a14, a15, a16, a17, a18] st1 := by
    unfold sLine; simp [e1]
  have i2 : evS (run (Mn.G lf) wf (n + 6)) wf bs [a0, .val (.ref r), .val (ln m s), a3, a4, a5, a6, a7, a8, a9, a10, a11, a12, a13, a14, a15, a16, a17, a18] st1 sTally = .nx [a0, .val (.ref r), .val (ln m s), .val (tl on off m), a4, a5, a6, a7, a8, a9, a10, a11, a12, a13, a14, a15, a16, a17, a18] st2 := by
    unfold sTally; simp [e2]
  have i3 : evS (run (Mn.G lf) wf (n + 6)) wf bs [a0, .val (.ref r), .val (ln m s), .val (tl on off m), a4, a5, a6, a7, a8, a9, a10, a11, a12, a13, a14, a15, a16, a17, a18] st2 sEvery = .nx [a0, .val (.ref r), .val (ln m s), .val (tl on off m), .val (.lst (ts.map fun t => tb t m)), a5, a6, a7, a8, a9, a10, a11, a12, a13, a14, a15, a16, a17, a18] st2 := by
    unfold sEvery; simp [e3]
  have i4 : evS (run (Mn.G lf) wf (n + 6)) wf bs [a0, .val (.ref r), .val (ln m s), .val (tl on off m), .val (.lst (ts.map fun t => tb t m)), a5, a6, a7, a8, a9, a10, a11, a12, a13, a14, a15, a16, a17, a18] st2 sOne = .nx [a0, .val (.ref r), .val (ln m s), .val (tl on off m), .val (.lst (ts.map fun t => tb t m)), a5, a6, a7, .val (tb (ledT false on off m) m), .val (tb (ledT true on off m) m), a10, a11, a12, a13, a14, a15, a16, a17, a18] st2 := by
    unfold sOne
    rw [ev_asgQ]
    simp [f1, f2, setSl]
  have i5 : evS (run (Mn.G lf) wf (n + 6)) wf bs [a0, .val (.ref r), .val (ln m s), .val (tl on off m), .val (.lst (ts.map fun t => tb t m)), a5, a6, a7, .val (tb (ledT false on off m) m), .val (tb (ledT true on off m) m), a10, a11, a12, a13, a14, a15, a16, a17, a18] st2 sLed = .nx [a0, .val (.ref r), .val (ln m s), .val (tl on off m), .val (.lst (ts.map fun t => tb t m)), a5, a6, a7, .val (tb (ledT false on off m) m), .val (tb (ledT true on off m) m), a10, a11, a12, a13, a14, a15, a16, a17, a18] st2 := by
    unfold sLed
    rw [ev_ifs]
    simp [g1, g2, net]
  have it5 : evI (run (Mn.G lf) wf (n + 6)) bs [a0, .val (.ref r), .val (ln m s), .val (tl on off m), .val (.lst (ts.map fun t => tb t m)), a5, a6, a7, .val (tb (ledT false on off m) m), .val (tb (ledT true on off m) m), a10, a11, a12, a13, a14, a15, a16, a17, a18] st2 (.r1 (.con (.int 3))) = .ok (rngL 0 3) st2 := by
    have := rg1_nat (k := 3) (by omega)
    push_cast at this
    simp [this]
  obtain ⟨sb, st3, k6, R3, y5, y10, y11, y12, y13, y14, es6, hF⟩ := ev_forI (cf := run (Mn.G lf) wf (n + 6)) (wf := wf) (bs := bs) (tg := .nm 5) (b := bAct)
    (fun j σ st' => Rolled r st2 st' ∧ ∃ y5 y10 y11 y12 y13 y14, σ = [a0, .val (.ref r), .val (ln m s), .val (tl on off m), .val (.lst (ts.map fun t => tb t m)), y5, a6, a7, .val (tb (ledT false on off m) m), .val (tb (ledT true on off m) m), y10, y11, y12, y13, y14, a15, a16, a17, a18] ∧ (0 < j → ∃ F : List Nat, F.length = m - 1 ∧ y10 = .val (.tup (iD F)))) it5 (fun j x σ st' hx ⟨R, y5, y10, y11, y12, y13, y14, es, _⟩ => by
      subst es
      obtain ⟨hj, rfl⟩ := rngE_get hx
      rw [Int.zero_add]
      obtain ⟨F, st'', u11, u12, u13, u14, hl, hF, R', k⟩ := @ev_case lf wf bs n st' m s on off L ts a0 a6 a7 y11 y12 y13 y14 a15 a16 a17 a18 r T hTs hall ht (R.all D2) (by rw [R.len, l2]; exact hr) j (by omega) y10
      exact ⟨[a0, .val (.ref r), .val (ln m s), .val (tl on off m), .val (.lst (ts.map fun t => tb t m)), .val (.int (j : Int)), a6, a7, .val (tb (ledT false on off m) m), .val (tb (ledT true on off m) m), y10, y11, y12, y13, y14, a15, a16, a17, a18], _, st'', by simp [bindT], k, R.trans R', _, _, _, _, _, _, rfl, fun _ => ⟨F, hl, rfl⟩⟩) ⟨⟨rfl, R2.dice, fun _ _ => rfl⟩, _, _, _, _, _, _, rfl, fun h => absurd h (Nat.lt_irrefl 0)⟩
  subst es6
  obtain ⟨F, hl, rfl⟩ := hF (by rw [rngE_len]; omega)
  have hlen : F.length ≤ 5 := by omega
  have c1 : evS (run (Mn.G lf) wf (n + 6)) wf bs [a0, .val (.ref r), .val (ln m s), .val (tl on off m), .val (.lst (ts.map fun t => tb t m)), y5, a6, a7, .val (tb (ledT false on off m) m), .val (tb (ledT true on off m) m), .val (.tup (iD F)), y11, y12, y13, y14, a15, a16, a17, a18] st3 sCase1
      = .nx [a0, .val (.ref r), .val (ln m s), .val (tl on off m), .val (.lst (ts.map fun t => tb t m)), y5, .val (.lst ((badF F).take 6)), a7, .val (tb (ledT false on off m) m), .val (tb (ledT true on off m) m), .val (.tup (iD F)), y11, y12, y13, y14, a15, a16, a17, a18] st3 := by
    have q1 := add_tup (xs := iD F) (ys := [.int 0]) (by simp [iD]; omega)
    have q2 := @mul_t1 (.int 100) F.length (by omega)
    have e : (iD F).length = F.length := by simp [iD]
    unfold sCase1
    simp [q1, q2, e, sz0, sz1, sz6, badF]
  have c2 : evS (run (Mn.G lf) wf (n + 6)) wf bs [a0, .val (.ref r), .val (ln m s), .val (tl on off m), .val (.lst (ts.map fun t => tb t m)), y5, .val (.lst ((badF F).take 6)), a7, .val (tb (ledT false on off m) m), .val (tb (ledT true on off m) m), .val (.tup (iD F)), y11, y12, y13, y14, a15, a16, a17, a18] st3 sCase2
      = .nx [a0, .val (.ref r), .val (ln m s), .val (tl on off m), .val (.lst (ts.map fun t => tb t m)), y5, .val (.lst (badF F)), a7, .val (tb (ledT false on off m) m), .val (tb (ledT true on off m) m), .val (.tup (iD F)), y11, y12, y13, y14, a15, a16, a17, a18] st3 := by
    have q2 := @mul_t1 (.int (-1)) F.length (by omega)
    have q3 := @mul_t1 (.bl true) F.length (by omega)
    have e : (iD F).length = F.length := by simp [iD]
    have q5 := add_lst (xs := (badF F).take 6) (ys := (badF F).drop 6) (by simp [badF])
    rw [List.take_append_drop] at q5
    have e2 : (badF F).drop 6 = [.tup (List.replicate F.length (.int (-1))), .tup (List.replicate F.length (.bl true))] := rfl
    rw [e2] at q5
    generalize (badF F).take 6 = z at q5
    unfold sCase2
    simp [q2, q3, e, sz1, sz2, q5]
  have it7 : evI (run (Mn.G lf) wf (n + 6)) bs [a0, .val (.ref r), .val (ln m s), .val (tl on off m), .val (.lst (ts.map fun t => tb t m)), y5, .val (.lst (badF F)), a7, .val (tb (ledT false on off m) m), .val (tb (ledT true on off m) m), .val (.tup (iD F)), y11, y12, y13, y14, a15, a16, a17, a18] st3 (.ov (.var 6)) = .ok (badF F) st3 := by simp
  obtain ⟨sc, st4, k7, e7, z7, z15, es7⟩ := ev_forI (cf := run (Mn.G lf) wf (n + 6)) (wf := wf) (bs := bs) (tg := .nm 7) (b := bBad)
    (fun j σ st' => st' = st3 ∧ ∃ z7 z15, σ = [a0, .val (.ref r), .val (ln m s), .val (tl on off m), .val (.lst (ts.map fun t => tb t m)), y5, .val (.lst (badF F)), z7, .val (tb (ledT false on off m) m), .val (tb (ledT true on off m) m), .val (.tup (iD F)), y11, y12, y13, y14, z15, a16, a17, a18]) it7 (fun j x σ st' hx ⟨e, z7, z15, es⟩ => by
      subst e es
      obtain ⟨u15, k⟩ := @ev_bad lf wf bs n st' m s on off L F a0 (.val (.ref r)) y5 (.val (.lst (badF F))) y11 y12 y13 y14 z15 a16 a17 a18 T hl x (List.mem_of_getElem? hx) (.val (.lst (ts.map fun t => tb t m))) (.val (tb (ledT true on off m) m)) (.val (.tup (iD F)))
      exact ⟨[a0, .val (.ref r), .val (ln m s), .val (tl on off m), .val (.lst (ts.map fun t => tb t m)), y5, .val (.lst (badF F)), .val x, .val (tb (ledT false on off m) m), .val (tb (ledT true on off m) m), .val (.tup (iD F)), y11, y12, y13, y14, z15, a16, a17, a18], _, st', by simp [bindT], k, rfl, _, _, rfl⟩) ⟨rfl, _, _, rfl⟩
  subst e7 es7
  have pn := @paid_none lf wf bs n st4 m s on off L T
  have r1 : toldO (.exc 2 st4) = .ok (rfD 2) st4 := toldO_exc (by decide)
  have i9 : evS (run (Mn.G lf) wf (n + 6)) wf bs [a0, .val (.ref r), .val (ln m s), .val (tl on off m), .val (.lst (ts.map fun t => tb t m)), y5, .val (.lst (badF F)), z7, .val (tb (ledT false on off m) m), .val (tb (ledT true on off m) m), .val (.tup (iD F)), y11, y12, y13, y14, z15, a16, a17, a18] st4 sNone = .nx [a0, .val (.ref r), .val (ln m s), .val (tl on off m), .val (.lst (ts.map fun t => tb t m)), y5, .val (.lst (badF F)), z7, .val (tb (ledT false on off m) m), .val (tb (ledT true on off m) m), .val (.tup (iD F)), y11, y12, y13, y14, z15, a16, a17, a18] st4 := by
    unfold sNone
    rw [ev_ifs, ev_cmp, ev_told_fn (ds := [ln m s, tl on off m, .non, .non]) rfl, pn, r1]
    simp [sz2, ne_t]
  refine ⟨st4, .val (ln m s), .val (tl on off m), .val (.lst (ts.map fun t => tb t m)), y5, .val (.lst (badF F)), z7, .val (tb (ledT false on off m) m), .val (tb (ledT true on off m) m), .val (.tup (iD F)), y11, y12, y13, y14, z15, a16, a17, a18, (R1.trans R2).trans R3, ?_⟩
  unfold bAll
  rw [ev_Scons, i1, Fl.seq_nx, ev_Scons, i2, Fl.seq_nx, ev_Scons, i3, Fl.seq_nx, ev_Scons, i4, Fl.seq_nx, ev_Scons, i5, Fl.seq_nx, ev_Scons, k6, Fl.seq_nx, ev_Scons, c1, Fl.seq_nx, ev_Scons, c2, Fl.seq_nx, ev_Scons, k7, Fl.seq_nx, ev_Scons, i9, Fl.seq_nx, ev_Snil]
theorem law_run (ns : List Int) (h : ns.length ≤ 63) : ∃ st, run (Mn.G lf) wf depth 0 rlaw.num [.scr ns] [] = .ok (.bl true) st := by
  obtain ⟨c, st0, hc, hl, hd, e0⟩ := @run_roundsG lf wf 0 9 ns h 2 (by omega) (by omega)
  push_cast at e0
  have it : evI (run (Mn.G lf) wf 11) 0 [.val (.scr ns), .un, .un, .un, .un, .un, .un, .un, .un, .un, .un, .un, .un, .un, .un, .un, .un, .un, .un] [] (.ov (.call 25 (.cons (.var 0) (.cons (.con (.int 2)) .nil)))) = .ok ((List.range c).map .ref) st0 := by
    simp [e0]
  have loop := Mn.forL_inv (tg := .nm 1) (body := fun σ st => evSs (run (Mn.G lf) wf 11) wf 0 σ st bAll)
    (fun _ σ st => st.length = c ∧ (∀ r < st.length, Dice st r) ∧ ∃ s1 s2 s3 s4 s5 s6 s7 s8 s9 s10 s11 s12 s13 s14 s15 s16 s17 s18, σ = [.val (.scr ns), s1, s2, s3, s4, s5, s6, s7, s8, s9, s10, s11, s12, s13, s14, s15, s16, s17, s18]) ((List.range c).map .ref) 0 (σ := [.val (.scr ns), .un, .un, .un, .un, .un, .un, .un, .un, .un, .un, .un, .un, .un, .un, .un, .un, .un, .un]) (st := st0) (fun j x σ st hx ⟨hlc, hD, s1, s2, s3, s4, s5, s6, s7, s8, s9, s10, s11, s12, s13, s14, s15, s16, s17, s18, es⟩ => by
      subst es
      rw [List.getElem?_map] at hx
      obtain ⟨r, hr, rfl⟩ := Option.map_eq_some_iff.mp hx
      have hrc : r < c := by have := List.mem_of_getElem? hr; simpa using this
      obtain ⟨st', b2, b3, b4, b5, b6, b7, b8, b9, b10, b11, b12, b13, b14, b15, b16, b17, b18, R, k⟩ := @ev_round st r 0 5 (.val (.scr ns)) s2 s3 s4 s5 s6 s7 s8 s9 s10 s11 s12 s13 s14 s15 s16 s17 s18 hD (by omega)
      exact ⟨[.val (.scr ns), .val (.ref r), s2, s3, s4, s5, s6, s7, s8, s9, s10, s11, s12, s13, s14, s15, s16, s17, s18], _, st', by simp [bindT], k, R.len.trans hlc, R.all hD, _, _, _, _, _, _, _, _, _, _, _, _, _, _, _, _, _, _, rfl⟩) ⟨hl, by rw [hl]; exact hd, _, _, _, _, _, _, _, _, _, _, _, _, _, _, _, _, _, _, rfl⟩
  obtain ⟨s', st', k, _⟩ := loop
  refine ⟨st'.take 0, ?_⟩
  show run (Mn.G lf) wf (11 + 1) 0 999 [.scr ns] [] = _
  rw [Mn.run, show Mn.G lf 999 = some lf from rfl]
  simp only []
  rw [if_pos (show [D.scr ns].length = lf.np from rfl), lf_body]
  have hσ : ([D.scr ns].map Sl.val ++ List.replicate (lf.ns - lf.np) Sl.un) = [.val (.scr ns), .un, .un, .un, .un, .un, .un, .un, .un, .un, .un, .un, .un, .un, .un, .un, .un, .un, .un] := rfl
  rw [hσ]
  show fin 0 false (evSs _ wf 0 _ [] _) = _
  rw [ev_Scons, ev_for, it, Out.fl_ok, k]
  simp [fin, D.rb]
end K05
set_option maxHeartbeats 0
open PySem PySem.W PySem.Calls PyProof.Rows
theorem PySem.Challenge.cw_coachtally_k05_whole_manners_holds : PySem.Challenge.rw_coachtally_k05_whole_manners.Holds := by
  w_on; o_law
  refine HandSHeadRun.head_any (r := OpenLaw.row PySem.Challenge.rw_coachtally_k05_whole_manners) (q := view (OpenLaw.row PySem.Challenge.rw_coachtally_k05_whole_manners).prog [K05.lawix]) (H := K05.hk) (ob := K05.ob) (M := 8000) (loose := K05.loose) (d := HandSHeadRun.topDef (OpenLaw.row PySem.Challenge.rw_coachtally_k05_whole_manners).prog K05.lawix) (kwd := []) K05.ob_eq
    (by kernel_rfl) (fun s => by kernel_rfl) K05.run_top (by kernel_rfl) (by kernel_rfl) (by kernel_rfl) (by rfl) (by first | assumption | decide +kernel) (by decide +kernel) ⟨rfl, rfl, rfl, rfl, rfl, by decide +kernel⟩ ?hw ?hc
  case hw => w_witness2
  case hc =>
    refine Mn.walk_w (l := PySem.Challenge.rw_coachtally_k05_whole_manners) (n := 63) (k := 4 * K05.depth) (x := "script") rfl (by decide) (by kernel_rfl) ⟨rfl, by decide, by decide⟩ ?F
    intro w mg fa h Y Gm hmg0
    obtain ⟨K, KX, c⟩ := Y
    have hmg : mg K05.rlaw.nm = some (.ref fa) := by
      have e : (HandSHeadRun.topDef (OpenLaw.row PySem.Challenge.rw_coachtally_k05_whole_manners).prog K05.lawix).name = K05.rlaw.nm := by kernel_rfl
      rw [← e]
      exact hmg0
    obtain ⟨fd, cs, sp, h1, h2, h3, h4, h5, h6⟩ := Mn.law_of (r := K05.rlaw) (n := K05.depth) (G := Mn.G K05.lf) (wf := K05.wf) (PySem.Challenge.rw_coachtally_k05_whole_manners).prog w KX Gm c rfl rfl rfl hmg K05.rows_ok K05.rows_G K05.rows_bnd K05.tm_ok K05.tm_bnd K05.td_bnd K05.law_run
    exact ⟨K, fd, cs, sp, KX, h1, h2, h3, h4, h5, h6⟩
