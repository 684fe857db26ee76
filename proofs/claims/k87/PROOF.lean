import PyProof.Rows.All
import Wide.All
import OpenK.AllK
import Wide.FinOn
import HandS.ForMost
import HandS.TupAny
import HandS.TupLe
import HandS.Deep
import HandS.More
import HandS.TupMul
import HandS.IsInst
import HandS.SortInts
import HandS.Zip
import KE.GoesEnum
import KE.GoesMore
import HandS.NoneIn
import HandS.Defaults
import HandS.Codes
import HandS.Small
import HandS.Text
import OpenK.KMore
import HandS.Style
import KE.KStateDown
import HandS.Ends
import HandS.HeadHook1
import HandS.HeadHook2
import HandS.Head0
import HandS.Head1
import HandS.Head2
import HandS.HeadEnd
import HandS.Evl
import PySem.Challenge.RW_anyiron_k87_whole_texts_that_are_told_an
set_option Elab.async false
set_option linter.all false
set_option maxRecDepth 100000
set_option maxHeartbeats 0
/-! PD1: data, memory, the own syntax and its evaluator -/
namespace PD
open PySem

/-- data: lists and dicts within are values that nobody changes any more; ref i: the i-th thing of the memory, that may be changed -/
inductive D where
  | non | bl (b : Bool) | int (i : Int) | str (x : Str)
  | tup (xs : List D) | lst (xs : List D) | lok (xs : List D) | dct (ks vs : List D) | ref (i : Nat)

namespace D
mutual
def beq : D → D → Bool
  | .non, .non => true
  | .bl a, .bl b => a == b
  | .int a, .int b => decide (a = b)
  | .str a, .str b => decide (a = b)
  | .tup a, .tup b => beqs a b
  | .lst a, .lst b => beqs a b
  | .lok a, .lok b => beqs a b
  | .dct a b, .dct c d => beqs a c && beqs b d
  | .ref a, .ref b => decide (a = b)
  | _, _ => false
def beqs : List D → List D → Bool
  | [], [] => true
  | x :: xs, y :: ys => beq x y && beqs xs ys
  | _, _ => false
end
mutual
theorem eq_of_beq : ∀ a b : D, beq a b = true → a = b
  | .non, b, h => by cases b <;> simp_all [beq]
  | .bl a, b, h => by cases b <;> simp_all [beq]
  | .int a, b, h => by cases b <;> simp_all [beq]
  | .str a, b, h => by cases b <;> simp_all [beq]
  | .ref a, b, h => by cases b <;> simp_all [beq]
  | .tup a, b, h => by
    cases b with
    | tup c => simp only [beq] at h; rw [eqs_of_beqs a c h]
    | _ => simp [beq] at h
  | .lst a, b, h => by
    cases b with
    | lst c => simp only [beq] at h; rw [eqs_of_beqs a c h]
    | _ => simp [beq] at h
  | .lok a, b, h => by
    cases b with
    | lok c => simp only [beq] at h; rw [eqs_of_beqs a c h]
    | _ => simp [beq] at h
  | .dct a a', b, h => by
    cases b with
    | dct c c' => simp only [beq, Bool.and_eq_true] at h; rw [eqs_of_beqs a c h.1, eqs_of_beqs a' c' h.2]
    | _ => simp [beq] at h
theorem eqs_of_beqs : ∀ a b : List D, beqs a b = true → a = b
  | [], [], _ => rfl
  | x :: xs, y :: ys, h => by
    simp only [beqs, Bool.and_eq_true] at h
    rw [eq_of_beq x y h.1, eqs_of_beqs xs ys h.2]
  | [], _ :: _, h => by simp [beqs] at h
  | _ :: _, [], h => by simp [beqs] at h
end
mutual
theorem beq_self : ∀ a : D, beq a a = true
  | .non => rfl
  | .bl a => by simp [beq]
  | .int a => by simp [beq]
  | .str a => by simp [beq]
  | .ref a => by simp [beq]
  | .tup a => by simp only [beq]; exact beqs_self a
  | .lst a => by simp only [beq]; exact beqs_self a
  | .lok a => by simp only [beq]; exact beqs_self a
  | .dct a b => by simp only [beq, beqs_self a, beqs_self b]; rfl
theorem beqs_self : ∀ a : List D, beqs a a = true
  | [] => rfl
  | x :: xs => by simp only [beqs, beq_self x, beqs_self xs]; rfl
end
instance : DecidableEq D := fun a b => if h : beq a b = true then .isTrue (eq_of_beq a b h) else .isFalse fun e => h (e ▸ beq_self a)

mutual
/-- no ref within -/
def noref : D → Bool
  | .tup xs => norefs xs
  | .lst xs => norefs xs
  | .lok xs => norefs xs
  | .dct ks vs => norefs ks && norefs vs
  | .ref _ => false
  | _ => true
def norefs : List D → Bool
  | [] => true
  | x :: xs => noref x && norefs xs
end
mutual
/-- as the library's data -/
def py : D → PyData
  | .non => .none
  | .bl b => .bool b
  | .int i => .int i
  | .str x => .str x
  | .tup xs => .tuple (pys xs)
  | .lst xs => .list (pys xs)
  | .lok _ => .dict []
  | .dct _ _ => .dict []
  | .ref _ => .dict []
def pys : List D → List PyData
  | [] => []
  | x :: xs => py x :: pys xs
end
mutual
def depth : D → Nat
  | .tup xs => depths xs + 1
  | .lst xs => depths xs + 1
  | .lok _ => 1
  | .dct _ _ => 1
  | .ref _ => 1
  | _ => 0
def depths : List D → Nat
  | [] => 0
  | x :: xs => max (depth x) (depths xs)
end
mutual
/-- only None, bools, ints, texts, tuples, lists within -/
def plain : D → Bool
  | .tup xs => plains xs
  | .lst xs => plains xs
  | .lok _ => false
  | .dct _ _ => false
  | .ref _ => false
  | _ => true
def plains : List D → Bool
  | [] => true
  | x :: xs => plain x && plains xs
end
mutual
/-- Python's == of plain data -/
def eqv : D → D → Bool
  | .non, .non => true
  | .bl a, .bl b => a == b
  | .bl a, .int j => (if a then 1 else 0) == j
  | .int i, .bl b => i == (if b then 1 else 0)
  | .int i, .int j => i == j
  | .str x, .str y => x == y
  | .lst xs, .lst ys => eqvs xs ys
  | .tup xs, .tup ys => eqvs xs ys
  | _, _ => false
def eqvs : List D → List D → Bool
  | [], [] => true
  | x :: xs, y :: ys => eqv x y && eqvs xs ys
  | _, _ => false
end
mutual
theorem eqv_py : ∀ a b : D, plain a = true → plain b = true → PyData.eqv (py a) (py b) = eqv a b
  | .non, b, _, hb => by cases b <;> simp_all [py, PyData.eqv, eqv, plain]
  | .bl _, b, _, hb => by cases b <;> simp_all [py, PyData.eqv, eqv, plain]
  | .int _, b, _, hb => by cases b <;> simp_all [py, PyData.eqv, eqv, plain]
  | .str _, b, _, hb => by cases b <;> simp_all [py, PyData.eqv, eqv, plain]
  | .ref _, b, ha, _ => by simp [plain] at ha
  | .dct _ _, b, ha, _ => by simp [plain] at ha
  | .lok _, b, ha, _ => by simp [plain] at ha
  | .tup xs, b, ha, hb => by
    cases b with
    | tup ys => simp only [py, PyData.eqv, eqv]; exact eqvs_pys xs ys (by simpa [plain] using ha) (by simpa [plain] using hb)
    | dct _ _ => simp [plain] at hb
    | lok _ => simp [plain] at hb
    | ref _ => simp [plain] at hb
    | _ => simp only [py, PyData.eqv, eqv]
  | .lst xs, b, ha, hb => by
    cases b with
    | lst ys => simp only [py, PyData.eqv, eqv]; exact eqvs_pys xs ys (by simpa [plain] using ha) (by simpa [plain] using hb)
    | dct _ _ => simp [plain] at hb
    | lok _ => simp [plain] at hb
    | ref _ => simp [plain] at hb
    | _ => simp only [py, PyData.eqv, eqv]
theorem eqvs_pys : ∀ a b : List D, plains a = true → plains b = true → PyData.eqvAll (pys a) (pys b) = eqvs a b
  | [], [], _, _ => by simp only [pys, PyData.eqvAll, eqvs]
  | [], _ :: _, _, _ => by simp only [pys, PyData.eqvAll, eqvs]
  | _ :: _, [], _, _ => by simp only [pys, PyData.eqvAll, eqvs]
  | x :: xs, y :: ys, ha, hb => by
    simp only [plains, Bool.and_eq_true] at ha hb
    simp only [pys, PyData.eqvAll, eqvs]
    rw [eqv_py x y ha.1 hb.1, eqvs_pys xs ys ha.2 hb.2]
end
end D

abbrev Mem := List D
abbrev Env := List (Option D)
/-- what comes of an expression: a value and the memory, an exception (class, what it holds), or nothing is known -/
inductive R (α : Type) where
  | ok (a : α) (M : Mem) | ex (c : Str) (p : D) (M : Mem) | no
@[simp] def R.bind {α β : Type} : R α → (α → Mem → R β) → R β
  | .ok a M, f => f a M
  | .ex c p M, _ => .ex c p M
  | .no, _ => .no
@[simp] def R.of {α : Type} (M : Mem) : Option α → R α
  | some a => .ok a M
  | none => .no

/-- what stands there, told as a value -/
@[simp] def D.val (M : Mem) : D → D
  | .ref i => M.getD i .non
  | d => d

/-! ### operations on values -/
inductive Op where
  | add | sub | mul | fdiv | mod | pow | xor
  | eq | ne | lt | le | gt | ge | isin | notin | ix
  deriving DecidableEq
inductive Ty where
  | int | bool | str | tuple | list | dict
  deriving DecidableEq

def small64 (i : Int) : Bool := decide (-(2 ^ 64) < i) && decide (i < 2 ^ 64)
/-- the i-th of a row, from behind if i is negative -/
def atD {α : Type} (xs : List α) (i : Int) : Option α := L2.atI xs i
def strIn (a b : Str) : Bool := if a.length = 1 then decide (a.cps.getD 0 0 ∈ b.cps.toList) else !(Builtin.Str.occurrences b a 0 b.length 1).isEmpty
/-- what may be a dict's key here: an int, a text -/
def keyOk : D → Bool
  | .int _ => true
  | .str _ => true
  | _ => false
/-- the value of a key -/
def dGet (k : D) : List D → List D → Option D
  | a :: ks, v :: vs => if a = k then some v else dGet k ks vs
  | _, _ => none
def dHas (k : D) (ks : List D) : Bool := ks.any fun a => decide (a = k)
def dPut (k v : D) (ks vs : List D) : List D × List D :=
  if dHas k ks then (ks, List.zipWith (fun a b => if a = k then v else b) ks vs) else (ks ++ [k], vs ++ [v])
def eqOk (x y : D) : Bool := x.plain && y.plain && decide (min x.depth y.depth ≤ 64)
def inList (x : D) (xs : List D) : Option Bool := if x.plain && D.plains xs && decide (x.depth ≤ 64) then some (xs.any fun z => D.eqv z x) else none

def opAdd : D → D → Option D
  | .int i, .int j => some (.int (i + j))
  | .str a, .str b => if a.length + b.length ≤ sizeLine then some (.str (a ++ b)) else none
  | .tup a, .tup b => if a.length + b.length ≤ sizeLine then some (.tup (a ++ b)) else none
  | .lst a, .lst b => if a.length + b.length ≤ sizeLine then some (.lst (a ++ b)) else none
  | _, _ => none
def opMul : D → D → Option D
  | .int i, .int j => if small64 i || small64 j then some (.int (i * j)) else none
  | .str a, .int j => if decide (0 ≤ j) && decide (j.toNat ≤ sizeLine) && decide (a.length * j.toNat ≤ sizeLine) then some (.str (Txt.mul a j)) else none
  | .lst a, .int j => if decide (a.length * j.toNat ≤ sizeLine) && decide (j.natAbs < 2 ^ 62) then some (.lst (List.replicate j.toNat a).flatten) else none
  | .tup a, .int j => if decide (2 ≤ j) && decide (j ≤ 1000) && decide (a.length ≤ 1000) && !a.isEmpty then some (.tup (List.replicate j.toNat a).flatten) else none
  | _, _ => none
def opCmp (f : Int → Int → Bool) : D → D → Option D
  | .int i, .int j => some (.bl (f i j))
  | _, _ => none
def opIx : D → D → Option D
  | .tup xs, .int i => atD xs i
  | .lst xs, .int i => atD xs i
  | .lok xs, .int i => atD xs i
  | .str x, .int i => (atD x.cps.toList i).map fun c => .str ⟨#[c]⟩
  | .dct ks vs, k => if keyOk k then dGet k ks vs else none
  | _, _ => none
def opIn (x : D) : D → Option Bool
  | .lst xs => inList x xs
  | .tup xs => inList x xs
  | .str b => match x with
    | .str a => some (strIn a b)
    | _ => none
  | .dct ks _ => if keyOk x then some (dHas x ks) else none
  | _ => none
def op2 : Op → D → D → Option D
  | .add, x, y => opAdd x y
  | .sub, .int i, .int j => some (.int (i - j))
  | .mul, x, y => opMul x y
  | .fdiv, .int i, .int j => if decide (0 < j) && decide (j < 1073741824) then some (.int (i / j)) else none
  | .mod, .int i, .int j => if 0 < j then some (.int (i % j)) else none
  | .pow, .int i, .int j => if decide (0 ≤ j) && decide (j ≤ 1000) && decide (i.natAbs < 2 ^ 64) then some (.int (i ^ j.toNat)) else none
  | .xor, .int i, .int j => some (.int (Builtin.bitXor i j))
  | .eq, x, y => if eqOk x y then some (.bl (D.eqv x y)) else none
  | .ne, x, y => if eqOk x y then some (.bl (!D.eqv x y)) else none
  | .lt, x, y => opCmp (fun i j => decide (i < j)) x y
  | .le, x, y => opCmp (fun i j => decide (i ≤ j)) x y
  | .gt, x, y => opCmp (fun i j => decide (j < i)) x y
  | .ge, x, y => opCmp (fun i j => decide (j ≤ i)) x y
  | .isin, x, y => (opIn x y).map .bl
  | .notin, x, y => (opIn x y).map fun b => .bl (!b)
  | .ix, x, y => opIx x y
  | _, _, _ => none
def isTy : Ty → D → Option Bool
  | .int, .int _ => some true
  | .int, .bl _ => some true
  | .bool, .bl _ => some true
  | .str, .str _ => some true
  | .tuple, .tup _ => some true
  | .list, .lst _ => some true
  | .list, .lok _ => some true
  | .dict, .dct _ _ => some true
  | _, .ref _ => none
  | _, _ => some false
/-- a slice's bound -/
def part : D → Option (Option Int)
  | .non => some none
  | .int i => some (some i)
  | _ => none
def cut {α : Type} (xs : List α) (lo hi : Option Int) : List α := (xs.drop (HT.sIx xs.length 0 lo)).take (HT.sIx xs.length xs.length hi - HT.sIx xs.length 0 lo)
def opSl : D → Option Int → Option Int → Option D
  | .tup xs, lo, hi => some (.tup (cut xs lo hi))
  | .lst xs, lo, hi => some (.lst (cut xs lo hi))
  | .str x, lo, hi => some (.str ⟨(cut x.cps.toList lo hi).toArray⟩)
  | _, _, _ => none
/-- built-in functions of values -/
inductive Bi where
  | len | tup | lst | sorted | all | any | min | max | abs | int | sum
  deriving DecidableEq
def ints? : List D → Option (List Int)
  | [] => some []
  | .int i :: r => (ints? r).map (i :: ·)
  | _ :: _ => none
def bools? : List D → Option (List Bool)
  | [] => some []
  | .bl i :: r => (bools? r).map (i :: ·)
  | _ :: _ => none
def insI (x : Int) : List Int → List Int
  | [] => [x]
  | y :: ys => if x ≤ y then x :: y :: ys else y :: insI x ys
def sortI : List Int → List Int
  | [] => []
  | x :: xs => insI x (sortI xs)
def rowOf : D → Option (List D)
  | .tup xs => some xs
  | .lst xs => some xs
  | .lok xs => some xs
  | _ => none
def bi1 : Bi → D → Option D
  | .len, .str x => some (.int x.length)
  | .len, .tup xs => some (.int xs.length)
  | .len, .lst xs => some (.int xs.length)
  | .len, .lok xs => some (.int xs.length)
  | .len, .dct ks _ => some (.int ks.length)
  | .tup, .tup xs => some (.tup xs)
  | .tup, .lst xs => some (.tup xs)
  | .lst, .tup xs => some (.lst xs)
  | .lst, .lst xs => some (.lst xs)
  | .lst, .dct ks _ => some (.lst ks)
  | .sorted, d => (rowOf d).bind fun xs => (ints? xs).map fun ns => .lst ((sortI ns).map .int)
  | .all, .lst xs => (bools? xs).map fun bs => .bl (bs.all id)
  | .any, .lst xs => (bools? xs).map fun bs => .bl (bs.any id)
  | .abs, .int i => some (.int (if i < 0 then -i else i))
  | .int, .int i => some (.int i)
  | .sum, .lst xs => (ints? xs).map fun ns => .int ns.sum
  | _, _ => none
def bi : Bi → List D → Option D
  | .min, [.int i, .int j] => some (.int (if j < i then j else i))
  | .max, [.int i, .int j] => some (.int (if i < j then j else i))
  | f, [x] => bi1 f x
  | _, _ => none
/-- methods -/
inductive Me where
  | append | extend | pop | get | setdefault | split | items | keys
  deriving DecidableEq
end PD
/-! PD2: the own syntax and its evaluator -/
namespace PD
open PySem

/-- a text that data may hold -/
def sok (x : Str) : Bool := x.cps.all (fun c => decide (c < 0x110000)) && decide (x.length ≤ sizeLine)

mutual
/-- a target: a name's slot, or a tuple of targets -/
inductive Tg where
  | nm (i : Nat) | tp (ts : Tgs)
inductive Tgs where
  | nil | cons (t : Tg) (ts : Tgs)
end
mutual
inductive E where
  | v (i : Nat) | c (d : D) | g (d : D)
  | tup (es : Es) | ls (m : Bool) (es : Es)
  | op (o : Op) (a b : E)
  | isN (neg : Bool) (a : E)
  | not (a : E) | neg (a : E)
  | and (es : Es) | or (es : Es)
  | ite (c a b : E)
  | cmp2 (o1 o2 : Op) (a b c : E)
  | isi (t : Ty) (a : E)
  | bi (m : Bool) (f : Bi) (es : Es)
  | me (f : Me) (o : E) (es : Es)
  | sl (m : Bool) (a lo hi : E) | nul
  | call (keep : Bool) (f : Nat) (es : Es) (ds : List D)
  | lc (m : Bool) (own : List Nat) (elt : E) (t : Tg) (it : Iq) (ifs : Es)
  | dd (m : Bool)
inductive Es where
  | nil | cons (e : E) (es : Es)
inductive Iq where
  | val (e : E) | rng (es : Es) | enum (e : E) | zip (a b : E)
end
def Es.length : Es → Nat
  | .nil => 0
  | .cons _ es => es.length + 1
mutual
inductive S where
  | asg (t : Tg) (e : E)
  | aug (i : Nat) (o : Op) (e : E)
  | sti (o i e : E)
  | ex (e : E)
  | ite (c : E) (a b : Ss)
  | for (t : Tg) (it : Iq) (b : Ss)
  | whl (n : Nat) (c : E) (b : Ss)
  | ret (e : E) | retn | brk | cnt | pas
inductive Ss where
  | nil | cons (s : S) (ss : Ss)
end

/-! ### targets -/
mutual
def setT : Tg → D → Env → Option Env
  | .nm i, d, s => some (s.set i (some d))
  | .tp ts, .tup ds, s => setTs ts ds s
  | .tp ts, .lst ds, s => setTs ts ds s
  | .tp _, _, _ => none
def setTs : Tgs → List D → Env → Option Env
  | .nil, [], s => some s
  | .cons t ts, d :: ds, s => (setT t d s).bind fun s' => setTs ts ds s'
  | _, _, _ => none
end
def wipe (s : Env) : List Nat → Env
  | [] => s
  | v :: vs => (wipe s vs).set v none

/-- a list, a dict -/
def D.box : D → Bool
  | .lst _ => true
  | .dct _ _ => true
  | _ => false
/-- a new thing: put into the memory, or a value -/
@[simp] def alloc (m : Bool) (d : D) (M : Mem) : R D := if m then (if d.box then .ok (.ref M.length) (M ++ [d]) else .no) else .ok d M
def setM (M : Mem) (i : Nat) (d : D) : Mem := M.set i d

/-- what a call gives back: what it made is no more to be changed, or (keep) the one new thing is kept in the memory -/
def fz (n : Nat) (M : Mem) : D → Option D
  | .ref i => if i < n then some (.ref i) else (M[i]?).bind fun d => if d.noref then some d else none
  | d => if d.noref then some d else none
mutual
/-- it refers to things below n alone -/
def D.rb (n : Nat) : D → Bool
  | .tup xs => D.rbs n xs
  | .lst xs => D.rbs n xs
  | .lok xs => D.rbs n xs
  | .dct ks vs => D.rbs n ks && D.rbs n vs
  | .ref i => decide (i < n)
  | _ => true
def D.rbs (n : Nat) : List D → Bool
  | [] => true
  | x :: xs => x.rb n && D.rbs n xs
end
def post (keep : Bool) (n : Nat) : R D → R D
  | .ok d M => if (D.rbs n (M.take n)) = false then .no else if keep then (match d with
      | .ref i => if n ≤ i then (match M[i]? with
        | some d => if d.noref then .ok (.ref n) (M.take n ++ [d]) else .no
        | none => .no) else .no
      | _ => .no)
    else (match fz n M d with
      | some d' => .ok d' (M.take n)
      | none => .no)
  | .ex c p M => if p.noref then .ex c p (M.take n) else .no
  | .no => .no

/-! ### what is walked: items, and the thing in the memory that must stay as it is meanwhile -/
abbrev Gd := Option (Nat × D)
def gok (g : Gd) (M : Mem) : Bool := match g with
  | none => true
  | some (i, d) => decide (M[i]? = some d)
def gdOf (M : Mem) : D → Gd
  | .ref i => some (i, M.getD i .non)
  | _ => none
def itemsOf : D → Option (List D)
  | .tup xs => some xs
  | .lst xs => some xs
  | .lok xs => some xs
  | .str x => some (x.cps.toList.map fun c => .str ⟨#[c]⟩)
  | _ => none
def enumFrom (n : Int) : List D → List D
  | [] => []
  | x :: xs => .tup [.int n, x] :: enumFrom (n + 1) xs
def zipD : List D → List D → List D
  | x :: xs, y :: ys => .tup [x, y] :: zipD xs ys
  | _, _ => []
def rngD (lo : Int) : Nat → List D
  | 0 => []
  | n + 1 => .int lo :: rngD (lo + 1) n
def rngOk (i : Int) : Bool := decide (-(2 ^ 62) ≤ i) && decide (i < 2 ^ 62)
def rngOf : List D → Option (List D)
  | [.int j] => if rngOk j && decide (j.toNat ≤ sizeLine) then some (rngD 0 j.toNat) else none
  | [.int i, .int j] => if rngOk i && rngOk j && decide ((j - i).toNat ≤ sizeLine) then some (rngD i (j - i).toNat) else none
  | _ => none

/-- a comprehension's turns: what each of the items gives, if it is kept -/
def lcLoop (step : D → Mem → R (Option D)) (g : Gd) : List D → Mem → R (List D)
  | [], M => if gok g M then .ok [] M else .no
  | x :: xs, M => if gok g M then (match step x M with
    | .ok o M1 => (match lcLoop step g xs M1 with
        | .ok ys M2 => .ok (o.toList ++ ys) M2
        | _ => .no)
    | _ => .no) else .no

/-! ### methods -/
def meRun : Me → D → List D → Mem → R D
  | .append, .ref i, [d], M => match M[i]? with
    | some (.lst xs) => if xs.length < sizeLine then .ok .non (setM M i (.lst (xs ++ [d]))) else .no
    | _ => .no
  | .pop, .ref i, [], M => match M[i]? with
    | some (.lst xs) => (match xs[xs.length - 1]? with
      | some d => .ok d (setM M i (.lst xs.dropLast))
      | none => .no)
    | _ => .no
  | .split, .str a, [.str b], M => if b.length = 0 || decide (sizeLine < a.length + 2) then .no else if (Txt.split a b).all sok then .ok (.lst ((Txt.split a b).map .str)) M else .no
  | _, _, _, _ => .no

/-- what a method's object must be -/
def meTy : Me → D → Bool
  | .append, .lst _ => true
  | .pop, .lst _ => true
  | .split, .str _ => true
  | _, _ => false
/-- a slice's part: left out, or an int -/
def partOf : E → D → Option (Option Int)
  | .nul, _ => some none
  | _, .int i => some (some i)
  | _, _ => none
/-- the meaning of the defs, by number: keep, arguments, memory -/
abbrev Tbl := Nat → Bool → List D → Mem → R D

/-- a call: where no argument stands in the memory, the callee sees none of it -/
def callT (T : Tbl) (keep : Bool) (f : Nat) (ys : List D) (M : Mem) : R D :=
  if D.norefs ys then (match T f keep ys [] with
    | .ok d M2 => if keep then (match d, M2 with
        | .ref 0, [e] => if e.noref then .ok (.ref M.length) (M ++ [e]) else .no
        | _, _ => .no)
      else (match M2 with
        | [] => if d.noref then .ok d M else .no
        | _ => .no)
    | _ => .no)
  else T f keep ys M
mutual
def ev (T : Tbl) : E → Env → Mem → R D
  | .v i, s, M => match s[i]? with
    | some (some d) => .ok d M
    | _ => .no
  | .c d, _, M => .ok d M
  | .g d, _, M => .ok d M
  | .tup es, s, M => (evs T es s M).bind fun ds M1 => .ok (.tup ds) M1
  | .ls m es, s, M => (evs T es s M).bind fun ds M1 => alloc m (.lst ds) M1
  | .op o a b, s, M => (ev T a s M).bind fun x M1 => (ev T b s M1).bind fun y M2 => .of M2 (op2 o (x.val M2) (y.val M2))
  | .isN neg a, s, M => (ev T a s M).bind fun x M1 => .ok (.bl (match x with | .non => !neg | _ => neg)) M1
  | .not a, s, M => (ev T a s M).bind fun x M1 => match x with | .bl b => .ok (.bl (!b)) M1 | _ => .no
  | .neg a, s, M => (ev T a s M).bind fun x M1 => match x with | .int i => .ok (.int (-i)) M1 | _ => .no
  | .and es, s, M => evAnd T es s M
  | .or es, s, M => evOr T es s M
  | .ite c a b, s, M => (ev T c s M).bind fun x M1 => match x with | .bl true => ev T a s M1 | .bl false => ev T b s M1 | _ => .no
  | .cmp2 o1 o2 a b c, s, M => (ev T a s M).bind fun x M1 => (ev T b s M1).bind fun y M2 => match op2 o1 (x.val M2) (y.val M2) with
    | some (.bl true) => (ev T c s M2).bind fun z M3 => .of M3 (op2 o2 (y.val M3) (z.val M3))
    | some (.bl false) => .ok (.bl false) M2
    | _ => .no
  | .isi t a, s, M => (ev T a s M).bind fun x M1 => .of M1 ((isTy t (x.val M1)).map .bl)
  | .bi m f es, s, M => (evs T es s M).bind fun ds M1 => match bi f (ds.map fun d => d.val M1) with
    | some d => alloc m d M1
    | none => .no
  | .me f o es, s, M => (ev T o s M).bind fun x M1 => if meTy f (x.val M1) then (evs T es s M1).bind fun ds M2 => meRun f x ds M2 else .no
  | .sl m a lo hi, s, M => (ev T a s M).bind fun x M1 => (ev T lo s M1).bind fun l M2 => (ev T hi s M2).bind fun h M3 =>
    match partOf lo l, partOf hi h with
    | some l, some h => (match opSl (x.val M3) l h with
      | some d => alloc m d M3
      | none => .no)
    | _, _ => .no
  | .nul, _, M => .ok .non M
  | .call keep f es ds, s, M => (evs T es s M).bind fun xs M1 => callT T keep f (xs ++ ds) M1
  | .lc m own elt t it ifs, s, M => (evIt T it s M).bind fun xg M1 => if sizeLine < xg.1.length then .no else
    match lcLoop (fun x M => match setT t x (wipe s own) with
      | some s' => (evAnd T ifs s' M).bind fun b M2 => (match b with
        | .bl true => (ev T elt s' M2).bind fun y M3 => .ok (some y) M3
        | .bl false => .ok none M2
        | _ => .no)
      | none => .no) xg.2 xg.1 M1 with
    | .ok ys M2 => alloc m (.lst ys) M2
    | _ => .no
  | .dd m, _, M => alloc m (.dct [] []) M
def evs (T : Tbl) : Es → Env → Mem → R (List D)
  | .nil, _, M => .ok [] M
  | .cons e es, s, M => (ev T e s M).bind fun x M1 => (evs T es s M1).bind fun xs M2 => .ok (x :: xs) M2
def evAnd (T : Tbl) : Es → Env → Mem → R D
  | .nil, _, M => .ok (.bl true) M
  | .cons e es, s, M => (ev T e s M).bind fun x M1 => match x with | .bl true => evAnd T es s M1 | .bl false => .ok (.bl false) M1 | _ => .no
def evOr (T : Tbl) : Es → Env → Mem → R D
  | .nil, _, M => .ok (.bl false) M
  | .cons e es, s, M => (ev T e s M).bind fun x M1 => match x with | .bl false => evOr T es s M1 | .bl true => .ok (.bl true) M1 | _ => .no
def evIt (T : Tbl) : Iq → Env → Mem → R (List D × Gd)
  | .val e, s, M => (ev T e s M).bind fun x M1 => .of M1 ((itemsOf (x.val M1)).map fun xs => (xs, gdOf M1 x))
  | .rng es, s, M => (evs T es s M).bind fun ds M1 => .of M1 ((rngOf ds).map fun xs => (xs, none))
  | .enum e, s, M => (ev T e s M).bind fun x M1 => .of M1 ((rowOf (x.val M1)).map fun xs => (enumFrom 0 xs, gdOf M1 x))
  | .zip a b, s, M => (ev T a s M).bind fun x M1 => (ev T b s M1).bind fun y M2 => match x, y with
    | .tup xs, .tup ys => .ok (zipD xs ys, none) M2
    | .lst xs, .lst ys => .ok (zipD xs ys, none) M2
    | _, _ => .no
end

/-! ### statements -/
inductive O where
  | nx (s : Env) (M : Mem) | rt (d : D) (M : Mem) | bk (s : Env) (M : Mem) | ct (s : Env) (M : Mem) | ex (c : Str) (p : D) (M : Mem) | no
@[simp] def O.then : O → (Env → Mem → O) → O
  | .nx s M, f => f s M
  | r, _ => r
@[simp] def R.O {α : Type} : R α → (α → Mem → O) → O
  | .ok a M, f => f a M
  | .ex c p M, _ => .ex c p M
  | .no, _ => .no
def forLoop (body : D → Env → Mem → O) (g : Gd) : List D → Env → Mem → O
  | [], s, M => if gok g M then .nx s M else .no
  | x :: xs, s, M => if gok g M then (match body x s M with
    | .nx s' M' => forLoop body g xs s' M'
    | .ct s' M' => forLoop body g xs s' M'
    | .bk s' M' => .nx s' M'
    | r => r) else .no
def whlLoop (c : Env → Mem → R D) (body : Env → Mem → O) : Nat → Env → Mem → O
  | 0, _, _ => .no
  | n + 1, s, M => (c s M).O fun x M1 => match x with
    | .bl true => (match body s M1 with
      | .nx s' M' => whlLoop c body n s' M'
      | .ct s' M' => whlLoop c body n s' M'
      | .bk s' M' => .nx s' M'
      | r => r)
    | .bl false => .nx s M1
    | _ => .no
mutual
def exec (T : Tbl) : S → Env → Mem → O
  | .asg t e, s, M => (ev T e s M).O fun x M1 => match setT t (match t with | .nm _ => x | .tp _ => x.val M1) s with
    | some s' => .nx s' M1
    | none => .no
  | .aug i o e, s, M => match s[i]? with
    | some (some x) => (ev T e s M).O fun y M1 => (match x, y with
      | .int a, .int b => (match o with
        | .add => .nx (s.set i (some (.int (a + b)))) M1
        | .sub => .nx (s.set i (some (.int (a - b)))) M1
        | _ => .no)
      | _, _ => .no)
    | _ => .no
  | .sti o i e, s, M => (ev T e s M).O fun x M1 => (ev T o s M1).O fun y M2 => (ev T i s M2).O fun k M3 => match y with
    | .ref a => (match M3[a]?, k with
      | some (.lst xs), .int j => (match L2.ixN xs.length j with
        | some n => .nx s (setM M3 a (.lst (xs.set n x)))
        | none => .no)
      | some (.dct ks vs), k => if keyOk k && decide (ks.length < sizeLine) then .nx s (setM M3 a (.dct (dPut k x ks vs).1 (dPut k x ks vs).2)) else .no
      | _, _ => .no)
    | _ => .no
  | .ex e, s, M => (ev T e s M).O fun _ M1 => .nx s M1
  | .ite c a b, s, M => (ev T c s M).O fun x M1 => match x with | .bl true => execs T a s M1 | .bl false => execs T b s M1 | _ => .no
  | .for t it b, s, M => (evIt T it s M).O fun xg M1 => forLoop (fun x s M => match setT t x s with
      | some s' => execs T b s' M
      | none => .no) xg.2 xg.1 s M1
  | .whl n c b, s, M => whlLoop (ev T c) (execs T b) n s M
  | .ret e, s, M => (ev T e s M).O fun x M1 => .rt x M1
  | .retn, _, M => .rt .non M
  | .brk, s, M => .bk s M
  | .cnt, s, M => .ct s M
  | .pas, s, M => .nx s M
def execs (T : Tbl) : Ss → Env → Mem → O
  | .nil, s, M => .nx s M
  | .cons a r, s, M => (exec T a s M).then fun s' M' => execs T r s' M'
end

/-- a def: how many parameters, how many names, its body -/
structure Fn where
  np : Nat
  ns : Nat
  body : Ss
def O.out : O → R D
  | .rt d M => .ok d M
  | .nx _ M => .ok .non M
  | .ex c p M => .ex c p M
  | _ => .no
def runFn (T : Tbl) (f : Fn) (keep : Bool) (ds : List D) (M : Mem) : R D :=
  if ds.length = f.np then post keep M.length (execs T f.body (ds.map some ++ List.replicate (f.ns - f.np) none) M).out else .no
end PD
/-! PD3: how data stand in the heap; what is kept -/
namespace PD
open PySem PySem.Spec PyProof.Rows L2

theorem sok_len {x : Str} (h : sok x = true) : x.length ≤ sizeLine := by
  unfold sok at h; simp only [Bool.and_eq_true, decide_eq_true_eq] at h; exact h.2

/-- where the memory's things stand; what nobody else may lean on (lists that are still being made) -/
structure Kt where
  ι : List Addr
  γ : List Addr
def Kt.bad (κ : Kt) (a : Addr) : Prop := a ∈ κ.ι ∨ a ∈ κ.γ
def Kt.more (κ : Kt) (p : Addr) : Kt := ⟨κ.ι ++ [p], κ.γ⟩
def KL (K : PySem.W.Frag) (a : Addr) (xs : List V) : Prop := ∃ (o : Obj) (its : Array Value) (n : Nat), K.lookup a = some o ∧ o.cls = .type "list" ∧ o.dict = none ∧ o.data = .seq its n ∧ its.size ≤ sizeLine ∧ Vals xs its.toList
def KT (K : PySem.W.Frag) (a : Addr) (xs : List V) : Prop := ∃ (o : Obj) (its : Array Value) (n : Nat), K.lookup a = some o ∧ o.cls = .type "tuple" ∧ o.data = .seq its n ∧ its.size ≤ sizeLine ∧ Vals xs its.toList
def LsV (K : PySem.W.Frag) (ι : Kt) (H : Hp) (a : Addr) (xs : List V) : Prop := ((∃ o, H a = some (.frz o (.lst xs))) ∧ ¬ ι.bad a) ∨ KL K a xs
def TpV (K : PySem.W.Frag) (ι : Kt) (H : Hp) (a : Addr) (xs : List V) : Prop := (Rd H a (.tup xs) ∧ ¬ ι.bad a) ∨ KT K a xs
theorem LsV.sq {K : PySem.W.Frag} {ι : Kt} {H : Hp} {a : Addr} {xs : List V} (h : LsV K ι H a xs) : SqL K H a xs := by
  rcases h with ⟨h, _⟩ | h
  · exact .inl (.inr h)
  · exact .inr h
theorem TpV.sq {K : PySem.W.Frag} {ι : Kt} {H : Hp} {a : Addr} {xs : List V} (h : TpV K ι H a xs) : SqT K H a xs := by
  rcases h with ⟨h, _⟩ | h
  · exact .inl h
  · exact .inr h

mutual
/-- the value v stands for d -/
inductive Rp (K : PySem.W.Frag) (ι : Kt) (H : Hp) : V → D → Prop
  | non : Rp K ι H .non .non
  | bl (b : Bool) : Rp K ι H (.bl b) (.bl b)
  | int (i : Int) : Rp K ι H (.int i) (.int i)
  | str {x : Str} (h : sok x = true) : Rp K ι H (.str x) (.str x)
  | tup {a : Addr} {vs : List V} {ds : List D} : TpV K ι H a vs → Rps K ι H vs ds → Rp K ι H (.ref a) (.tup ds)
  | lst {a : Addr} {vs : List V} {ds : List D} : H a = some (.lst vs) → ¬ ι.bad a → Rps K ι H vs ds → Rp K ι H (.ref a) (.lst ds)
  | lok {a : Addr} {vs : List V} {ds : List D} : LsV K ι H a vs → Rps K ι H vs ds → Rp K ι H (.ref a) (.lok ds)
  | dct {a : Addr} {kvs : List (Key × V)} {ks vs : List D} : Rd H a (.dK kvs) → ¬ ι.bad a → Rps K ι H (kvs.map fun p => kV p.1) ks → Rps K ι H (kvs.map (·.2)) vs → Rp K ι H (.ref a) (.dct ks vs)
  | ref {i : Nat} {a : Addr} : ι.ι[i]? = some a → Rp K ι H (.ref a) (.ref i)
inductive Rps (K : PySem.W.Frag) (ι : Kt) (H : Hp) : List V → List D → Prop
  | nil : Rps K ι H [] []
  | cons {v : V} {vs : List V} {d : D} {ds : List D} : Rp K ι H v d → Rps K ι H vs ds → Rps K ι H (v :: vs) (d :: ds)
end
/-- what stands in the memory -/
inductive Cl (K : PySem.W.Frag) (ι : Kt) (H : Hp) (a : Addr) : D → Prop
  | lst {vs : List V} {ds : List D} : H a = some (.lst vs) → Rps K ι H vs ds → Cl K ι H a (.lst ds)
  | dct {kvs : List (Key × V)} {ks vs : List D} : H a = some (.dK kvs) → Rps K ι H (kvs.map fun p => kV p.1) ks → Rps K ι H (kvs.map (·.2)) vs → Cl K ι H a (.dct ks vs)
structure Mr (K : PySem.W.Frag) (ι : Kt) (M : Mem) (H : Hp) : Prop where
  len : ι.ι.length = M.length
  cell : ∀ (i : Nat) (a : Addr) (d : D), ι.ι[i]? = some a → M[i]? = some d → Cl K ι H a d
  nd : ι.ι.Nodup
  gh : ∀ a ∈ ι.γ, a ∉ ι.ι ∧ ∃ o, H a = some o
/-- from one state to a later one: more things in the memory, all others kept -/
structure Ext (ι : Kt) (H : Hp) (ι' : Kt) (H' : Hp) : Prop where
  pre : ∃ t, ι'.ι = ι.ι ++ t
  keep : ∀ a o, H a = some o → a ∉ ι.ι → H' a = some o
  new : ∀ a, a ∈ ι'.ι → a ∈ ι.ι ∨ H a = none
  gh : ∀ a ∈ ι.γ, a ∈ ι'.γ
  gn : ∀ a ∈ ι'.γ, a ∈ ι.γ ∨ H a = none
  there : ∀ a o, H a = some o → ∃ o', H' a = some o'
theorem Ext.refl (ι : Kt) (H : Hp) : Ext ι H ι H := ⟨⟨[], by simp⟩, fun _ _ h _ => h, fun _ h => .inl h, fun _ h => h, fun _ h => .inl h, fun _ o h => ⟨o, h⟩⟩
theorem Ext.out {ι ι' : Kt} {H H' : Hp} (e : Ext ι H ι' H') {a : Addr} {o : HO} (h : H a = some o) (n : ¬ ι.bad a) : ¬ ι'.bad a := fun z => by
  rcases z with z | z
  · rcases e.new a z with q | q
    · exact n (.inl q)
    · rw [h] at q; cases q
  · rcases e.gn a z with q | q
    · exact n (.inr q)
    · rw [h] at q; cases q
theorem Ext.kept {ι ι' : Kt} {H H' : Hp} (e : Ext ι H ι' H') {a : Addr} {o : HO} (h : H a = some o) (n : ¬ ι.bad a) : H' a = some o := e.keep a o h fun z => n (.inl z)
theorem Ext.trans {ι ι1 ι2 : Kt} {H H1 H2 : Hp} (e : Ext ι H ι1 H1) (f : Ext ι1 H1 ι2 H2) : Ext ι H ι2 H2 := by
  have none_of : ∀ a, H1 a = none → H a = none := fun a q => by
    cases h : H a with
    | none => rfl
    | some o =>
      obtain ⟨o', h'⟩ := e.there a o h
      rw [h'] at q; cases q
  have out : ∀ a o, H a = some o → a ∉ ι.ι → a ∉ ι1.ι := fun a o h n z => by
    rcases e.new a z with q | q
    · exact n q
    · rw [h] at q; cases q
  refine ⟨?_, fun a o h n => f.keep a o (e.keep a o h n) (out a o h n), fun a z => ?_, fun a z => f.gh a (e.gh a z), fun a z => ?_, fun a o h => ?_⟩
  · obtain ⟨t, h1⟩ := e.pre
    obtain ⟨u, h2⟩ := f.pre
    exact ⟨t ++ u, by rw [h2, h1]; simp⟩
  · rcases f.new a z with q | q
    · exact e.new a q
    · exact .inr (none_of a q)
  · rcases f.gn a z with q | q
    · exact e.gn a q
    · exact .inr (none_of a q)
  · obtain ⟨o', h'⟩ := e.there a o h
    exact f.there a o' h'
theorem Ext.get {ι ι' : Kt} {H H' : Hp} (e : Ext ι H ι' H') {i : Nat} {a : Addr} (h : ι.ι[i]? = some a) : ι'.ι[i]? = some a := by
  obtain ⟨t, h1⟩ := e.pre
  rw [h1, List.getElem?_append_left (List.getElem?_eq_some_iff.mp h).1]
  exact h
theorem Ext.rd {ι ι' : Kt} {H H' : Hp} (e : Ext ι H ι' H') {a : Addr} {u : HO} (h : Rd H a u) (n : ¬ ι.bad a) : Rd H' a u ∧ ¬ ι'.bad a := by
  rcases h with h | ⟨o, h⟩
  · exact ⟨.inl (e.kept h n), e.out h n⟩
  · exact ⟨.inr ⟨o, e.kept h n⟩, e.out h n⟩
section
variable {K : PySem.W.Frag} {ι ι' : Kt} {H H' : Hp}
theorem TpV.ext (e : Ext ι H ι' H') {a : Addr} {vs : List V} (h : TpV K ι H a vs) : TpV K ι' H' a vs := by
  rcases h with ⟨h, n⟩ | h
  · exact .inl (e.rd h n)
  · exact .inr h
theorem LsV.ext (e : Ext ι H ι' H') {a : Addr} {vs : List V} (h : LsV K ι H a vs) : LsV K ι' H' a vs := by
  rcases h with ⟨⟨o, h⟩, n⟩ | h
  · exact .inl ⟨⟨o, e.kept h n⟩, e.out h n⟩
  · exact .inr h
mutual
theorem Rp.ext (e : Ext ι H ι' H') : ∀ (d : D) (v : V), Rp K ι H v d → Rp K ι' H' v d
  | .non, _, h => by cases h; exact .non
  | .bl _, _, h => by cases h; exact .bl _
  | .int _, _, h => by cases h; exact .int _
  | .str _, _, h => by cases h with | str h => exact .str h
  | .tup ds, _, h => by cases h with | tup h1 h2 => exact .tup (h1.ext e) (Rps.ext e ds _ h2)
  | .lst ds, _, h => by cases h with | lst h1 n h2 => exact .lst (e.kept h1 n) (e.out h1 n) (Rps.ext e ds _ h2)
  | .lok ds, _, h => by cases h with | lok h1 h2 => exact .lok (h1.ext e) (Rps.ext e ds _ h2)
  | .dct ks vs, _, h => by
    cases h with
    | dct h1 n h2 h3 => exact .dct (e.rd h1 n).1 (e.rd h1 n).2 (Rps.ext e ks _ h2) (Rps.ext e vs _ h3)
  | .ref _, _, h => by cases h with | ref h => exact .ref (e.get h)
theorem Rps.ext (e : Ext ι H ι' H') : ∀ (ds : List D) (vs : List V), Rps K ι H vs ds → Rps K ι' H' vs ds
  | [], _, h => by cases h; exact .nil
  | d :: ds, _, h => by cases h with | cons h1 h2 => exact .cons (Rp.ext e d _ h1) (Rps.ext e ds _ h2)
end
theorem Rps.length : ∀ {ds : List D} {vs : List V}, Rps K ι H vs ds → vs.length = ds.length
  | [], _, h => by cases h; rfl
  | d :: ds, _, h => by cases h with | cons h1 h2 => simp [Rps.length h2]
theorem Rps.get : ∀ {ds : List D} {vs : List V} {i : Nat} {d : D}, Rps K ι H vs ds → ds[i]? = some d → ∃ v, vs[i]? = some v ∧ Rp K ι H v d
  | [], _, i, d, h, e => by simp at e
  | d :: ds, _, 0, d', h, e => by
    cases h with
    | cons h1 h2 => simp at e; subst e; exact ⟨_, rfl, h1⟩
  | d :: ds, _, i + 1, d', h, e => by
    cases h with
    | cons h1 h2 =>
      obtain ⟨v, e1, r⟩ := Rps.get (i := i) h2 (by simpa using e)
      exact ⟨v, by simpa using e1, r⟩
theorem Rps.at : ∀ {ds : List D} {vs : List V} {i : Nat} {v : V}, Rps K ι H vs ds → vs[i]? = some v → ∃ d, ds[i]? = some d ∧ Rp K ι H v d
  | [], _, i, d, h, e => by cases h; simp at e
  | d :: ds, _, 0, d', h, e => by
    cases h with
    | cons h1 h2 => simp at e; subst e; exact ⟨_, rfl, h1⟩
  | d :: ds, _, i + 1, d', h, e => by
    cases h with
    | cons h1 h2 =>
      obtain ⟨v, e1, r⟩ := Rps.at (i := i) h2 (by simpa using e)
      exact ⟨v, by simpa using e1, r⟩
theorem Rps.append : ∀ {ds es : List D} {vs us : List V}, Rps K ι H vs ds → Rps K ι H us es → Rps K ι H (vs ++ us) (ds ++ es)
  | [], _, _, _, h, k => by cases h; exact k
  | d :: ds, _, _, _, h, k => by cases h with | cons h1 h2 => exact .cons h1 (h2.append k)
theorem Rps.drop : ∀ {ds : List D} {vs : List V} (n : Nat), Rps K ι H vs ds → Rps K ι H (vs.drop n) (ds.drop n)
  | _, _, 0, h => h
  | [], _, n + 1, h => by cases h; exact .nil
  | d :: ds, _, n + 1, h => by cases h with | cons h1 h2 => exact h2.drop n
theorem Rps.take : ∀ {ds : List D} {vs : List V} (n : Nat), Rps K ι H vs ds → Rps K ι H (vs.take n) (ds.take n)
  | _, _, 0, h => by simpa using .nil
  | [], _, n + 1, h => by cases h; exact .nil
  | d :: ds, _, n + 1, h => by cases h with | cons h1 h2 => exact .cons h1 (h2.take n)
theorem Rps.set {d : D} {v : V} (r : Rp K ι H v d) : ∀ {ds : List D} {vs : List V} (i : Nat), Rps K ι H vs ds → Rps K ι H (vs.set i v) (ds.set i d)
  | [], _, _, h => by cases h; exact .nil
  | _ :: _, _, 0, h => by cases h with | cons h1 h2 => exact .cons r h2
  | _ :: _, _, i + 1, h => by cases h with | cons h1 h2 => exact .cons h1 (h2.set r i)
theorem Rps.rep {ds : List D} {vs : List V} (h : Rps K ι H vs ds) : ∀ k : Nat, Rps K ι H (List.replicate k vs).flatten (List.replicate k ds).flatten
  | 0 => .nil
  | k + 1 => by
    rw [List.replicate_succ, List.replicate_succ, List.flatten_cons, List.flatten_cons]
    exact h.append (Rps.rep h k)
theorem Rps.cut {ds : List D} {vs : List V} (h : Rps K ι H vs ds) (lo hi : Option Int) : Rps K ι H (cutV vs lo hi) (cut ds lo hi) := by
  unfold cutV PD.cut
  rw [h.length]
  exact (h.drop _).take _
end
/-- the names' values -/
structure Er (K : PySem.W.Frag) (ι : Kt) (s : Env) (σ : L2.St) (H : Hp) : Prop where
  len : s.length = σ.length
  get : ∀ (i : Nat) (d : D), s[i]? = some (some d) → ∃ v, σ[i]? = some (some v) ∧ Rp K ι H v d
structure Rl (K : PySem.W.Frag) (ι : Kt) (s : Env) (M : Mem) (σ : L2.St) (H : Hp) : Prop where
  env : Er K ι s σ H
  mem : Mr K ι M H
section
variable {K : PySem.W.Frag} {ι ι' : Kt} {H H' : Hp} {s : Env} {σ : L2.St} {M : Mem}
theorem Er.ext (e : Ext ι H ι' H') (h : Er K ι s σ H) : Er K ι' s σ H' := ⟨h.len, fun i d q => let ⟨v, a, b⟩ := h.get i d q; ⟨v, a, Rp.ext e _ _ b⟩⟩
theorem Er.set (h : Er K ι s σ H) {v : V} {d : D} (r : Rp K ι H v d) (i : Nat) : Er K ι (s.set i (some d)) (σ.set i (some v)) H := by
  refine ⟨by simp [h.len], fun j d' q => ?_⟩
  by_cases e : i = j
  · subst e
    rw [List.getElem?_set] at q
    simp only [↓reduceIte] at q
    split at q
    · rename_i hl
      cases q
      refine ⟨v, ?_, r⟩
      rw [List.getElem?_set]
      simp [← h.len, hl]
    · cases q
  · rw [List.getElem?_set_ne e] at q ⊢
    exact h.get j d' q
theorem Er.forget (h : Er K ι s σ H) (i : Nat) : Er K ι (s.set i none) (σ.set i none) H := by
  refine ⟨by simp [h.len], fun j d' q => ?_⟩
  by_cases e : i = j
  · subst e
    rw [List.getElem?_set] at q
    simp only [↓reduceIte] at q
    split at q <;> cases q
  · rw [List.getElem?_set_ne e] at q ⊢
    exact h.get j d' q
theorem Er.wipe (h : Er K ι s σ H) : ∀ vs : List Nat, Er K ι (PD.wipe s vs) (L2.wipe σ vs) H
  | [] => h
  | v :: vs => (h.wipe vs).forget v
theorem Mr.there (m : Mr K ι M H) {a : Addr} (h : a ∈ ι.ι) : ∃ o, H a = some o := by
  obtain ⟨i, hi, e⟩ := List.getElem_of_mem h
  have e1 : ι.ι[i]? = some a := by rw [List.getElem?_eq_getElem hi, e]
  have hl : i < M.length := by rw [← m.len]; exact hi
  obtain ⟨d, e2⟩ : ∃ d, M[i]? = some d := ⟨_, List.getElem?_eq_getElem hl⟩
  cases m.cell i a d e1 e2 with
  | lst h _ => exact ⟨_, h⟩
  | dct h _ _ => exact ⟨_, h⟩
theorem Mr.free (m : Mr K ι M H) {p : Addr} (h : H p = none) : ¬ ι.bad p := fun z => by
  rcases z with z | z
  · obtain ⟨o, e⟩ := m.there z
    rw [h] at e; cases e
  · obtain ⟨_, o, e⟩ := m.gh p z
    rw [h] at e; cases e
theorem Ext.upd (m : Mr K ι M H) {p : Addr} {o : HO} (h : H p = none) : Ext ι H ι (upd H p o) :=
  ⟨⟨[], by simp⟩, fun a q e _ => by rw [upd_ne (ne_of_none e h)]; exact e, fun _ z => .inl z, fun _ z => z, fun _ z => .inl z, fun a q e => ⟨q, by rw [upd_ne (ne_of_none e h)]; exact e⟩⟩
theorem Cl.ext (e : Ext ι H ι' H') {a : Addr} {d : D} (k : ∀ o, H a = some o → H' a = some o) (h : Cl K ι H a d) : Cl K ι' H' a d := by
  cases h with
  | lst h1 h2 => exact .lst (k _ h1) (Rps.ext e _ _ h2)
  | dct h1 h2 h3 => exact .dct (k _ h1) (Rps.ext e _ _ h2) (Rps.ext e _ _ h3)
theorem Mr.upd (m : Mr K ι M H) {p : Addr} {o : HO} (h : H p = none) : Mr K ι M (upd H p o) :=
  ⟨m.len, fun i a d h1 h2 => (m.cell i a d h1 h2).ext (Ext.upd m h) fun q e => by rw [upd_ne (ne_of_none e h)]; exact e, m.nd, fun a z => ⟨(m.gh a z).1, (Ext.upd m h).there a _ (m.gh a z).2.choose_spec⟩⟩
theorem Rl.upd (r : Rl K ι s M σ H) {p : Addr} {o : HO} (h : H p = none) : Rl K ι s M σ (L2.upd H p o) := ⟨r.env.ext (Ext.upd r.mem h), r.mem.upd h⟩
/-- a new thing in the memory -/
theorem Ext.more (m : Mr K ι M H) {p : Addr} {o : HO} (h : H p = none) : Ext ι H (ι.more p) (L2.upd H p o) :=
  ⟨⟨[p], rfl⟩, fun a q e _ => by rw [upd_ne (ne_of_none e h)]; exact e, fun a z => by
    rcases List.mem_append.mp z with z | z
    · exact .inl z
    · have : a = p := by simpa using z
      subst this
      exact .inr h, fun _ z => z, fun _ z => .inl z, fun a q e => ⟨q, by rw [upd_ne (ne_of_none e h)]; exact e⟩⟩
theorem Mr.more (m : Mr K ι M H) {p : Addr} {o : HO} {d : D} (h : H p = none) (c : Cl K (ι.more p) (L2.upd H p o) p d) : Mr K (ι.more p) (M ++ [d]) (L2.upd H p o) := by
  refine ⟨by simp [Kt.more, m.len], fun i a d' h1 h2 => ?_, ?_, fun a z => ?_⟩
  · have h1 : (ι.ι ++ [p])[i]? = some a := h1
    by_cases hi : i < ι.ι.length
    · rw [List.getElem?_append_left hi] at h1
      rw [List.getElem?_append_left (by rw [← m.len]; exact hi)] at h2
      exact (m.cell i a d' h1 h2).ext (Ext.more m h) fun q e => by rw [upd_ne (ne_of_none e h)]; exact e
    · rw [List.getElem?_append_right (by omega)] at h1
      rw [List.getElem?_append_right (by rw [← m.len]; omega)] at h2
      have e1 : i - ι.ι.length = 0 := by
        have := (List.getElem?_eq_some_iff.mp h1).1
        simp at this
        omega
      rw [e1] at h1
      rw [← m.len, e1] at h2
      simp at h1 h2
      subst h1 h2
      exact c
  · show (ι.ι ++ [p]).Nodup
    rw [List.nodup_append]
    refine ⟨m.nd, by simp, fun x hx y hy => ?_⟩
    have : y = p := by simpa using hy
    subst this
    intro z
    subst z
    exact m.free h (.inl hx)
  · obtain ⟨h1, o', h2⟩ := m.gh a z
    refine ⟨fun q => ?_, (Ext.more m h).there a _ h2⟩
    rcases List.mem_append.mp q with q | q
    · exact h1 q
    · have : a = p := by simpa using q
      subst this
      rw [h] at h2; cases h2
theorem Rl.more (r : Rl K ι s M σ H) {p : Addr} {o : HO} {d : D} (h : H p = none) (c : Cl K (ι.more p) (L2.upd H p o) p d) : Rl K (ι.more p) s (M ++ [d]) σ (L2.upd H p o) :=
  ⟨r.env.ext (Ext.more r.mem h), r.mem.more h c⟩
/-- a thing in the memory is changed -/
theorem Ext.put (m : Mr K ι M H) {p : Addr} {o : HO} (h : p ∈ ι.ι) : Ext ι H ι (L2.upd H p o) :=
  ⟨⟨[], by simp⟩, fun a q e n => by rw [upd_ne (fun z => n (by rw [z]; exact h))]; exact e, fun _ z => .inl z, fun _ z => z, fun _ z => .inl z, fun a q e => by
    by_cases z : a = p
    · exact ⟨o, by rw [z]; exact upd_same⟩
    · exact ⟨q, by rw [upd_ne z]; exact e⟩⟩
theorem Mr.put (m : Mr K ι M H) {i : Nat} {p : Addr} {o : HO} {d : D} (hi : ι.ι[i]? = some p) (c : Cl K ι (L2.upd H p o) p d) : Mr K ι (setM M i d) (L2.upd H p o) := by
  have hm : p ∈ ι.ι := List.mem_of_getElem? hi
  refine ⟨by simp [setM, m.len], fun j a d' h1 h2 => ?_, m.nd, fun a z => ⟨(m.gh a z).1, (Ext.put m hm).there a _ (m.gh a z).2.choose_spec⟩⟩
  unfold setM at h2
  by_cases e : i = j
  · subst e
    rw [hi] at h1; cases h1
    rw [List.getElem?_set] at h2
    simp only [↓reduceIte] at h2
    split at h2
    · cases h2; exact c
    · cases h2
  · rw [List.getElem?_set_ne e] at h2
    refine (m.cell j a d' h1 h2).ext (Ext.put m hm) fun q eq => ?_
    rw [upd_ne]
    · exact eq
    · intro z
      subst z
      have a1 := (List.getElem?_eq_some_iff.mp h1)
      have a2 := (List.getElem?_eq_some_iff.mp hi)
      obtain ⟨b1, c1⟩ := a1
      obtain ⟨b2, c2⟩ := a2
      exact e ((List.getElem_inj m.nd).mp (c2.trans c1.symm))
theorem Rl.put (r : Rl K ι s M σ H) {i : Nat} {p : Addr} {o : HO} {d : D} (hi : ι.ι[i]? = some p) (c : Cl K ι (L2.upd H p o) p d) : Rl K ι s (setM M i d) σ (L2.upd H p o) :=
  ⟨r.env.ext (Ext.put r.mem (List.mem_of_getElem? hi)), r.mem.put hi c⟩
/-! ### a list that is being made -/
def Kt.ghost (κ : Kt) (p : Addr) : Kt := ⟨κ.ι, p :: κ.γ⟩
theorem Ext.ghost (m : Mr K ι M H) {p : Addr} {o : HO} (h : H p = none) : Ext ι H (ι.ghost p) (L2.upd H p o) :=
  ⟨⟨[], by simp [Kt.ghost]⟩, fun a q e _ => by rw [upd_ne (ne_of_none e h)]; exact e, fun _ z => .inl z, fun _ z => List.mem_cons_of_mem _ z, fun a z => by
    rcases List.mem_cons.mp z with rfl | z
    · exact .inr h
    · exact .inl z, fun a q e => ⟨q, by rw [upd_ne (ne_of_none e h)]; exact e⟩⟩
theorem Mr.ghost (m : Mr K ι M H) {p : Addr} {o : HO} (h : H p = none) : Mr K (ι.ghost p) M (L2.upd H p o) := by
  refine ⟨m.len, fun i a d h1 h2 => (m.cell i a d h1 h2).ext (Ext.ghost m h) fun q e => by rw [upd_ne (ne_of_none e h)]; exact e, m.nd, fun a z => ?_⟩
  rcases List.mem_cons.mp z with rfl | z
  · exact ⟨fun q => m.free h (.inl q), o, upd_same⟩
  · exact ⟨(m.gh a z).1, (Ext.ghost m h).there a _ (m.gh a z).2.choose_spec⟩
theorem Rl.ghost (r : Rl K ι s M σ H) {p : Addr} {o : HO} (h : H p = none) : Rl K (ι.ghost p) s M σ (L2.upd H p o) := ⟨r.env.ext (Ext.ghost r.mem h), r.mem.ghost h⟩
/-- it grows: nobody leans on it -/
structure Grow (p : Addr) (ι : Kt) (H H' : Hp) : Prop where
  bad : p ∈ ι.γ
  same : ∀ a o, a ≠ p → H a = some o → H' a = some o
  there : ∃ o, H' p = some o
theorem Grow.rd {p : Addr} (g : Grow p ι H H') {a : Addr} {u : HO} (h : Rd H a u) (n : ¬ ι.bad a) : Rd H' a u := by
  have ne : a ≠ p := fun z => n (.inr (z ▸ g.bad))
  rcases h with h | ⟨o, h⟩
  · exact .inl (g.same _ _ ne h)
  · exact .inr ⟨o, g.same _ _ ne h⟩
mutual
theorem Rp.grow {p : Addr} (g : Grow p ι H H') : ∀ (d : D) (v : V), Rp K ι H v d → Rp K ι H' v d
  | .non, _, h => by cases h; exact .non
  | .bl _, _, h => by cases h; exact .bl _
  | .int _, _, h => by cases h; exact .int _
  | .str _, _, h => by cases h with | str h => exact .str h
  | .tup ds, _, h => by
    cases h with
    | tup h1 h2 =>
      refine .tup ?_ (Rps.grow g ds _ h2)
      rcases h1 with ⟨h1, n⟩ | h1
      · exact .inl ⟨g.rd h1 n, n⟩
      · exact .inr h1
  | .lst ds, _, h => by
    cases h with
    | lst h1 n h2 => exact .lst (g.same _ _ (fun z => n (.inr (z ▸ g.bad))) h1) n (Rps.grow g ds _ h2)
  | .lok ds, _, h => by
    cases h with
    | lok h1 h2 =>
      refine .lok ?_ (Rps.grow g ds _ h2)
      rcases h1 with ⟨⟨o, h1⟩, n⟩ | h1
      · exact .inl ⟨⟨o, g.same _ _ (fun z => n (.inr (z ▸ g.bad))) h1⟩, n⟩
      · exact .inr h1
  | .dct ks vs, _, h => by
    cases h with
    | dct h1 n h2 h3 => exact .dct (g.rd h1 n) n (Rps.grow g ks _ h2) (Rps.grow g vs _ h3)
  | .ref _, _, h => by cases h with | ref h => exact .ref h
theorem Rps.grow {p : Addr} (g : Grow p ι H H') : ∀ (ds : List D) (vs : List V), Rps K ι H vs ds → Rps K ι H' vs ds
  | [], _, h => by cases h; exact .nil
  | d :: ds, _, h => by cases h with | cons h1 h2 => exact .cons (Rp.grow g d _ h1) (Rps.grow g ds _ h2)
end
theorem Rl.grow {p : Addr} (g : Grow p ι H H') (r : Rl K ι s M σ H) : Rl K ι s M σ H' := by
  refine ⟨⟨r.env.len, fun i d e => let ⟨v, a, b⟩ := r.env.get i d e; ⟨v, a, Rp.grow g _ _ b⟩⟩, r.mem.len, fun i a d h1 h2 => ?_, r.mem.nd, fun a z => ⟨(r.mem.gh a z).1, ?_⟩⟩
  · have ne : a ≠ p := fun z => (r.mem.gh p g.bad).1 (z ▸ List.mem_of_getElem? h1)
    cases r.mem.cell i a d h1 h2 with
    | lst q1 q2 => exact .lst (g.same _ _ ne q1) (Rps.grow g _ _ q2)
    | dct q1 q2 q3 => exact .dct (g.same _ _ ne q1) (Rps.grow g _ _ q2) (Rps.grow g _ _ q3)
  · by_cases e : a = p
    · rw [e]; exact g.there
    · exact ⟨_, g.same _ _ e (r.mem.gh a z).2.choose_spec⟩
/-- the same heap, other books: what may be leant on still may -/
structure Lay (ι ι' : Kt) : Prop where
  get : ∀ {i : Nat} {a : Addr}, ι.ι[i]? = some a → ι'.ι[i]? = some a
  nb : ∀ {a : Addr}, ¬ ι.bad a → ¬ ι'.bad a
mutual
theorem Rp.lay' (l : Lay ι ι') : ∀ (d : D) (v : V), Rp K ι H v d → Rp K ι' H v d
  | .non, _, h => by cases h; exact .non
  | .bl _, _, h => by cases h; exact .bl _
  | .int _, _, h => by cases h; exact .int _
  | .str _, _, h => by cases h with | str h => exact .str h
  | .tup ds, _, h => by
    cases h with
    | tup h1 h2 =>
      refine .tup ?_ (Rps.lay' l ds _ h2)
      rcases h1 with ⟨h1, n⟩ | h1
      · exact .inl ⟨h1, l.nb n⟩
      · exact .inr h1
  | .lst ds, _, h => by
    cases h with
    | lst h1 n h2 => exact .lst h1 (l.nb n) (Rps.lay' l ds _ h2)
  | .lok ds, _, h => by
    cases h with
    | lok h1 h2 =>
      refine .lok ?_ (Rps.lay' l ds _ h2)
      rcases h1 with ⟨h1, n⟩ | h1
      · exact .inl ⟨h1, l.nb n⟩
      · exact .inr h1
  | .dct ks vs, _, h => by
    cases h with
    | dct h1 n h2 h3 => exact .dct h1 (l.nb n) (Rps.lay' l ks _ h2) (Rps.lay' l vs _ h3)
  | .ref _, _, h => by cases h with | ref h => exact .ref (l.get h)
theorem Rps.lay' (l : Lay ι ι') : ∀ (ds : List D) (vs : List V), Rps K ι H vs ds → Rps K ι' H vs ds
  | [], _, h => by cases h; exact .nil
  | d :: ds, _, h => by cases h with | cons h1 h2 => exact .cons (Rp.lay' l d _ h1) (Rps.lay' l ds _ h2)
end
theorem Er.lay' (l : Lay ι ι') (r : Er K ι s σ H) : Er K ι' s σ H := ⟨r.len, fun i d e => let ⟨v, a, b⟩ := r.get i d e; ⟨v, a, Rp.lay' l _ _ b⟩⟩
theorem Cl.lay' (l : Lay ι ι') {a : Addr} {d : D} (h : Cl K ι H a d) : Cl K ι' H a d := by
  cases h with
  | lst q1 q2 => exact .lst q1 (Rps.lay' l _ _ q2)
  | dct q1 q2 q3 => exact .dct q1 (Rps.lay' l _ _ q2) (Rps.lay' l _ _ q3)
/-- a list that was being made is a value now -/
def Kt.made (κ : Kt) (p : Addr) : Kt := ⟨κ.ι, κ.γ.filter fun a => decide (a ≠ p)⟩
theorem Lay.made (p : Addr) : Lay ι (ι.made p) := ⟨fun h => h, fun n z => n (z.imp (fun q => q) fun q => (List.mem_filter.mp q).1)⟩
theorem Rl.made (p : Addr) (r : Rl K ι s M σ H) : Rl K (ι.made p) s M σ H :=
  ⟨r.env.lay' (.made p), r.mem.len, fun i a d h1 h2 => (r.mem.cell i a d h1 h2).lay' (.made p), r.mem.nd, fun a z => r.mem.gh a (List.mem_filter.mp z).1⟩
/-- .. or stands in the memory now -/
def Kt.kept (κ : Kt) (p : Addr) : Kt := ⟨κ.ι ++ [p], κ.γ.filter fun a => decide (a ≠ p)⟩
theorem Lay.kept {p : Addr} (hp : p ∈ ι.γ) : Lay ι (ι.kept p) := ⟨fun h => by
    show (ι.ι ++ [p])[_]? = _
    rw [List.getElem?_append_left (List.getElem?_eq_some_iff.mp h).1]
    exact h, fun n z => n (by
    rcases z with z | z
    · rcases List.mem_append.mp z with q | q
      · exact .inl q
      · rw [List.mem_singleton.mp q]
        exact .inr hp
    · exact .inr (List.mem_filter.mp z).1)⟩
theorem Rl.kept {p : Addr} {d : D} (hp : p ∈ ι.γ) (c : Cl K ι H p d) (r : Rl K ι s M σ H) : Rl K (ι.kept p) s (M ++ [d]) σ H := by
  refine ⟨r.env.lay' (.kept hp), by simp [Kt.kept, r.mem.len], fun i a d' h1 h2 => ?_, ?_, fun a z => ?_⟩
  · have h1 : (ι.ι ++ [p])[i]? = some a := h1
    by_cases hi : i < ι.ι.length
    · rw [List.getElem?_append_left hi] at h1
      rw [List.getElem?_append_left (by rw [← r.mem.len]; exact hi)] at h2
      exact (r.mem.cell i a d' h1 h2).lay' (.kept hp)
    · rw [List.getElem?_append_right (by omega)] at h1
      rw [List.getElem?_append_right (by rw [← r.mem.len]; omega)] at h2
      have e1 : i - ι.ι.length = 0 := by
        have := (List.getElem?_eq_some_iff.mp h1).1
        simp at this
        omega
      rw [e1] at h1
      rw [← r.mem.len, e1] at h2
      simp at h1 h2
      subst h1 h2
      exact c.lay' (.kept hp)
  · show (ι.ι ++ [p]).Nodup
    rw [List.nodup_append]
    refine ⟨r.mem.nd, by simp, fun x hx y hy => ?_⟩
    have : y = p := by simpa using hy
    subst this
    intro z
    subst z
    exact (r.mem.gh _ hp).1 hx
  · obtain ⟨h1, h2⟩ := List.mem_filter.mp z
    have h2 := of_decide_eq_true h2
    refine ⟨fun q => ?_, (r.mem.gh a h1).2⟩
    rcases List.mem_append.mp q with q | q
    · exact (r.mem.gh a h1).1 q
    · exact h2 (by simpa using q)
/-- from the state ahead of the list -/
theorem Ext.write {p : Addr} {o : HO} (e : Ext ι H ι' H') (h : H p = none) : Ext ι H ι' (L2.upd H' p o) := by
  refine ⟨e.pre, fun a q h1 h2 => ?_, e.new, e.gh, e.gn, fun a q h1 => ?_⟩
  · rw [upd_ne (ne_of_none h1 h)]; exact e.keep a q h1 h2
  · rw [upd_ne (ne_of_none h1 h)]; exact e.there a q h1
theorem Ext.made {p : Addr} (m : Mr K ι M H) (e : Ext ι H ι' H') (h : H p = none) : Ext ι H (ι'.made p) H' := by
  refine ⟨e.pre, e.keep, e.new, fun a z => List.mem_filter.mpr ⟨e.gh a z, decide_eq_true ?_⟩, fun a z => e.gn a (List.mem_filter.mp z).1, e.there⟩
  rintro rfl
  obtain ⟨_, o, q⟩ := m.gh _ z
  rw [h] at q; cases q
theorem Ext.keptP {p : Addr} (m : Mr K ι M H) (e : Ext ι H ι' H') (h : H p = none) : Ext ι H (ι'.kept p) H' := by
  refine ⟨?_, e.keep, fun a z => ?_, fun a z => List.mem_filter.mpr ⟨e.gh a z, decide_eq_true ?_⟩, fun a z => e.gn a (List.mem_filter.mp z).1, e.there⟩
  · obtain ⟨t, q⟩ := e.pre
    exact ⟨t ++ [p], by simp [Kt.kept, q]⟩
  · rcases List.mem_append.mp z with q | q
    · exact e.new a q
    · have : a = p := by simpa using q
      rw [this]
      exact .inr h
  · rintro rfl
    obtain ⟨_, o, q⟩ := m.gh _ z
    rw [h] at q; cases q
/-! ### looking at a value -/
theorem Mr.cellOf (m : Mr K ι M H) {v : V} {i : Nat} (r : Rp K ι H v (.ref i)) : ∃ a d, v = .ref a ∧ ι.ι[i]? = some a ∧ M[i]? = some d ∧ (D.ref i).val M = d ∧ Cl K ι H a d := by
  cases r with
  | @ref _ a h =>
    have hl : i < M.length := by rw [← m.len]; exact (List.getElem?_eq_some_iff.mp h).1
    have e2 : M[i]? = some M[i] := List.getElem?_eq_getElem hl
    exact ⟨a, M[i], rfl, h, e2, by simp [D.val, List.getD, e2], m.cell i a _ h e2⟩
theorem val_lst (m : Mr K ι M H) {v : V} {d : D} {ds : List D} (r : Rp K ι H v d) (e : d.val M = .lst ds) : ∃ a vs, v = .ref a ∧ H a = some (.lst vs) ∧ Rps K ι H vs ds := by
  cases d with
  | ref i =>
    obtain ⟨a, d', rfl, h1, h2, h3, c⟩ := m.cellOf r
    rw [h3] at e; subst e
    cases c with
    | lst h q => exact ⟨a, _, rfl, h, q⟩
  | lst xs =>
    simp only [D.val] at e; cases e
    cases r with
    | lst h n q => exact ⟨_, _, rfl, h, q⟩
  | _ => simp [D.val] at e
theorem val_lok (m : Mr K ι M H) {v : V} {d : D} {ds : List D} (r : Rp K ι H v d) (e : d.val M = .lok ds) : d = .lok ds ∧ ∃ a vs, v = .ref a ∧ LsV K ι H a vs ∧ Rps K ι H vs ds := by
  cases d with
  | ref i =>
    obtain ⟨a, d', rfl, h1, h2, h3, c⟩ := m.cellOf r
    rw [h3] at e; subst e
    cases c
  | lok xs =>
    simp only [D.val] at e; cases e
    cases r with
    | lok h q => exact ⟨rfl, _, _, rfl, h, q⟩
  | _ => simp [D.val] at e
theorem val_tup (m : Mr K ι M H) {v : V} {d : D} {ds : List D} (r : Rp K ι H v d) (e : d.val M = .tup ds) : d = .tup ds ∧ ∃ a vs, v = .ref a ∧ TpV K ι H a vs ∧ Rps K ι H vs ds := by
  cases d with
  | ref i =>
    obtain ⟨a, d', rfl, h1, h2, h3, c⟩ := m.cellOf r
    rw [h3] at e; subst e
    cases c
  | tup xs =>
    simp only [D.val] at e; cases e
    cases r with
    | tup h q => exact ⟨rfl, _, _, rfl, h, q⟩
  | _ => simp [D.val] at e
theorem val_dct (m : Mr K ι M H) {v : V} {d : D} {ks ws : List D} (r : Rp K ι H v d) (e : d.val M = .dct ks ws) : ∃ a kvs, v = .ref a ∧ Rd H a (.dK kvs) ∧ Rps K ι H (kvs.map fun p => kV p.1) ks ∧ Rps K ι H (kvs.map (·.2)) ws := by
  cases d with
  | ref i =>
    obtain ⟨a, d', rfl, h1, h2, h3, c⟩ := m.cellOf r
    rw [h3] at e; subst e
    cases c with
    | dct h q q2 => exact ⟨a, _, rfl, .inl h, q, q2⟩
  | dct xs ys =>
    simp only [D.val] at e; cases e
    cases r with
    | dct h n q q2 => exact ⟨_, _, rfl, h, q, q2⟩
  | _ => simp [D.val] at e
theorem val_flat (m : Mr K ι M H) {v : V} {d d' : D} (r : Rp K ι H v d) (e : d.val M = d') (f : (match d' with | .lst _ => false | .lok _ => false | .dct _ _ => false | .ref _ => false | .tup _ => false | _ => true) = true) : d = d' := by
  cases d with
  | ref i =>
    obtain ⟨a, d2, rfl, h1, h2, h3, c⟩ := m.cellOf r
    rw [h3] at e; subst e
    cases c <;> cases f
  | _ => simpa [D.val] using e
theorem val_int (m : Mr K ι M H) {v : V} {d : D} {i : Int} (r : Rp K ι H v d) (e : d.val M = .int i) : v = .int i := by
  have := val_flat m r e rfl
  subst this
  cases r; rfl
theorem val_bl (m : Mr K ι M H) {v : V} {d : D} {i : Bool} (r : Rp K ι H v d) (e : d.val M = .bl i) : v = .bl i := by
  have := val_flat m r e rfl
  subst this
  cases r; rfl
theorem val_str (m : Mr K ι M H) {v : V} {d : D} {i : Str} (r : Rp K ι H v d) (e : d.val M = .str i) : v = .str i ∧ sok i = true := by
  have := val_flat m r e rfl
  subst this
  cases r with
  | str h => exact ⟨rfl, h⟩
theorem val_non (m : Mr K ι M H) {v : V} {d : D} (r : Rp K ι H v d) (e : d.val M = .non) : v = .non := by
  have := val_flat m r e rfl
  subst this
  cases r; rfl
theorem val_ref (m : Mr K ι M H) {v : V} {d : D} {i : Nat} (r : Rp K ι H v d) (e : d.val M = .ref i) : False := by
  cases d with
  | ref j =>
    obtain ⟨a, d2, rfl, h1, h2, h3, c⟩ := m.cellOf r
    rw [h3] at e; subst e
    cases c
  | _ => simp [D.val] at e
end
end PD
/-! PD4: operations on values -/
namespace PD
open PySem PySem.Spec PyProof.Rows L2

/-- what is wanted of an old or new value, by which nothing is changed -/
def Fin (K : PySem.W.Frag) (ι : Kt) (H : Hp) (d : D) (Q : VK) : Prop := ∀ v H', Same H H' → Rp K ι H' v d → Q v H'
/-- .. of a value that, where it is a list, is a new one -/
inductive Res (K : PySem.W.Frag) (ι : Kt) (H : Hp) : V → D → Hp → Prop
  | old {v : V} {d : D} {H' : Hp} : d.box = false → Same H H' → Rp K ι H' v d → Res K ι H v d H'
  | lst {p : Addr} {vs : List V} {ds : List D} : H p = none → Rps K ι H vs ds → Res K ι H (.ref p) (.lst ds) (upd H p (.lst vs))
  | dct {p : Addr} {kvs : List (Key × V)} {ks vs : List D} : H p = none → Rps K ι H (kvs.map fun p => kV p.1) ks → Rps K ι H (kvs.map (·.2)) vs → Res K ι H (.ref p) (.dct ks vs) (upd H p (.dK kvs))
def FinN (K : PySem.W.Frag) (ι : Kt) (H : Hp) (d : D) (Q : VK) : Prop := ∀ v H', Res K ι H v d H' → Q v H'

section
variable {K : PySem.W.Frag} {ι ι' : Kt} {H H' : Hp} {s : Env} {σ : L2.St} {M : Mem}
theorem same_upd {p : Addr} {o : HO} (h : H p = none) : Same H (upd H p o) := fun b u e => by rw [upd_ne (ne_of_none e h)]; exact e
theorem Ext.same (m : Mr K ι M H) (h : Same H H') : Ext ι H ι H' := ⟨⟨[], by simp⟩, fun a o e _ => h a o e, fun _ z => .inl z, fun _ z => z, fun _ z => .inl z, fun a o e => ⟨o, h a o e⟩⟩
theorem Mr.same (m : Mr K ι M H) (h : Same H H') : Mr K ι M H' := ⟨m.len, fun i a d h1 h2 => (m.cell i a d h1 h2).ext (Ext.same m h) fun o e => h a o e, m.nd, fun a z => ⟨(m.gh a z).1, _, h a _ (m.gh a z).2.choose_spec⟩⟩
theorem Rl.same (r : Rl K ι s M σ H) (h : Same H H') : Rl K ι s M σ H' := ⟨r.env.ext (Ext.same r.mem h), r.mem.same h⟩
theorem Fin.self {d : D} {Q : VK} (f : Fin K ι H d Q) {v : V} (r : Rp K ι H v d) : Q v H := f v H (Same.refl H) r
theorem Fin.tup {ds : List D} {Q : VK} (m : Mr K ι M H) (f : Fin K ι H (.tup ds) Q) {vs : List V} (r : Rps K ι H vs ds) {p : Addr} (h : H p = none) : Q (.ref p) (upd H p (.tup vs)) :=
  f _ _ (same_upd h) (.tup (.inl ⟨.inl upd_same, m.free h⟩) (Rps.ext (Ext.upd m h) _ _ r))
theorem Fin.lst {ds : List D} {Q : VK} (m : Mr K ι M H) (f : Fin K ι H (.lst ds) Q) {vs : List V} (r : Rps K ι H vs ds) {p : Addr} (h : H p = none) : Q (.ref p) (upd H p (.lst vs)) :=
  f _ _ (same_upd h) (.lst upd_same (m.free h) (Rps.ext (Ext.upd m h) _ _ r))
theorem FinN.lst {ds : List D} {Q : VK} (f : FinN K ι H (.lst ds) Q) {vs : List V} (r : Rps K ι H vs ds) {p : Addr} (h : H p = none) : Q (.ref p) (upd H p (.lst vs)) := f _ _ (.lst h r)
theorem FinN.tup {ds : List D} {Q : VK} (m : Mr K ι M H) (f : FinN K ι H (.tup ds) Q) {vs : List V} (r : Rps K ι H vs ds) {p : Addr} (h : H p = none) : Q (.ref p) (upd H p (.tup vs)) :=
  f _ _ (.old rfl (same_upd h) (.tup (.inl ⟨.inl upd_same, m.free h⟩) (Rps.ext (Ext.upd m h) _ _ r)))
end

/-! ### data as the library reads it -/
section
variable {K : PySem.W.Frag} {ι : Kt} {H : Hp}
mutual
theorem Rp.dp : ∀ (d : D) (v : V), Rp K ι H v d → d.plain = true → Dp K H v d.py
  | .non, _, h, _ => by cases h; simp only [D.py]; exact .non
  | .bl _, _, h, _ => by cases h; simp only [D.py]; exact .bl _
  | .int _, _, h, _ => by cases h; simp only [D.py]; exact .int _
  | .str _, _, h, _ => by cases h; simp only [D.py]; exact .str _
  | .tup ds, _, h, p => by
    cases h with
    | tup h1 h2 => simp only [D.py]; exact .tup h1.sq (Rps.dp ds _ h2 (by simpa [D.plain] using p))
  | .lst ds, _, h, p => by
    cases h with
    | lst h1 n h2 => simp only [D.py]; exact .lst (SqL.of h1) (Rps.dp ds _ h2 (by simpa [D.plain] using p))
  | .lok _, _, _, p => by simp [D.plain] at p
  | .dct _ _, _, _, p => by simp [D.plain] at p
  | .ref _, _, _, p => by simp [D.plain] at p
theorem Rps.dp : ∀ (ds : List D) (vs : List V), Rps K ι H vs ds → D.plains ds = true → DpAll K H vs (D.pys ds)
  | [], _, h, _ => by cases h; simp only [D.pys]; exact .nil
  | d :: ds, _, h, p => by
    cases h with
    | cons h1 h2 =>
      simp only [D.plains, Bool.and_eq_true] at p
      simp only [D.pys]
      exact .cons (Rp.dp d _ h1 p.1) (Rps.dp ds _ h2 p.2)
end
mutual
theorem Rp.lay : ∀ (d : D) (v : V), Rp K ι H v d → d.plain = true → d.py.canLay0 = true
  | .non, _, h, _ => by simp [D.py, PyData.canLay0]
  | .bl _, _, h, _ => by simp [D.py, PyData.canLay0]
  | .int _, _, h, _ => by simp [D.py, PyData.canLay0]
  | .str x, _, h, _ => by
    cases h with
    | str h =>
      simp only [D.py, PyData.canLay0]
      unfold sok at h
      simp only [Bool.and_eq_true] at h
      exact h.1
  | .tup ds, _, h, p => by
    cases h with
    | tup h1 h2 => simp only [D.py, PyData.canLay0]; exact Rps.lay ds _ h2 (by simpa [D.plain] using p)
  | .lst ds, _, h, p => by
    cases h with
    | lst h1 n h2 => simp only [D.py, PyData.canLay0]; exact Rps.lay ds _ h2 (by simpa [D.plain] using p)
  | .lok _, _, _, p => by simp [D.plain] at p
  | .dct _ _, _, _, p => by simp [D.plain] at p
  | .ref _, _, _, p => by simp [D.plain] at p
theorem Rps.lay : ∀ (ds : List D) (vs : List V), Rps K ι H vs ds → D.plains ds = true → PyData.canLayAll0 (D.pys ds) = true
  | [], _, h, _ => by simp [D.pys, PyData.canLayAll0]
  | d :: ds, _, h, p => by
    cases h with
    | cons h1 h2 =>
      simp only [D.plains, Bool.and_eq_true] at p
      simp only [D.pys, PyData.canLayAll0, Bool.and_eq_true]
      exact ⟨Rp.lay d _ h1 p.1, Rps.lay ds _ h2 p.2⟩
end
mutual
theorem depth_py : ∀ d : D, d.plain = true → d.py.depth = d.depth
  | .non, _ => by simp [D.py, PyData.depth, D.depth]
  | .bl _, _ => by simp [D.py, PyData.depth, D.depth]
  | .int _, _ => by simp [D.py, PyData.depth, D.depth]
  | .str _, _ => by simp [D.py, PyData.depth, D.depth]
  | .tup ds, p => by simp only [D.py, PyData.depth, D.depth]; rw [depths_pys ds (by simpa [D.plain] using p)]
  | .lst ds, p => by simp only [D.py, PyData.depth, D.depth]; rw [depths_pys ds (by simpa [D.plain] using p)]
  | .lok _, p => by simp [D.plain] at p
  | .dct _ _, p => by simp [D.plain] at p
  | .ref _, p => by simp [D.plain] at p
theorem depths_pys : ∀ ds : List D, D.plains ds = true → PyData.depthAll (D.pys ds) = D.depths ds
  | [], _ => by simp [D.pys, PyData.depthAll, D.depths]
  | d :: ds, p => by
    simp only [D.plains, Bool.and_eq_true] at p
    simp only [D.pys, PyData.depthAll, D.depths]
    rw [depth_py d p.1, depths_pys ds p.2]
end
/-- a value looked at as plain data -/
theorem val_plain {M : Mem} (m : Mr K ι M H) {v : V} {d : D} (r : Rp K ι H v d) (p : (d.val M).plain = true) : Dp K H v (d.val M).py ∧ (d.val M).py.canLay0 = true := by
  cases d with
  | ref i =>
    obtain ⟨a, d', rfl, h1, h2, h3, c⟩ := m.cellOf r
    rw [h3] at p ⊢
    cases c with
    | @lst vs ds h q =>
      have p' : D.plains ds = true := by simpa [D.plain] using p
      simp only [D.py, PyData.canLay0]
      exact ⟨.lst (SqL.of h) (Rps.dp ds _ q p'), Rps.lay ds _ q p'⟩
    | dct _ _ _ => simp [D.plain] at p
  | non => exact ⟨Rp.dp _ _ r p, Rp.lay _ _ r p⟩
  | bl _ => exact ⟨Rp.dp _ _ r p, Rp.lay _ _ r p⟩
  | int _ => exact ⟨Rp.dp _ _ r p, Rp.lay _ _ r p⟩
  | str _ => exact ⟨Rp.dp _ _ r p, Rp.lay _ _ r p⟩
  | tup _ => exact ⟨Rp.dp _ _ r p, Rp.lay _ _ r p⟩
  | lst _ => exact ⟨Rp.dp _ _ r p, Rp.lay _ _ r p⟩
  | lok _ => exact ⟨Rp.dp _ _ r p, Rp.lay _ _ r p⟩
  | dct _ _ => exact ⟨Rp.dp _ _ r p, Rp.lay _ _ r p⟩
end

/-- two values, by a function of data -/
def rB (K : PySem.W.Frag) (g : D → D → Option D) : R2 := fun x y H Q => ∃ (ι : Kt) (M : Mem) (dx dy d : D), Mr K ι M H ∧ Rp K ι H x dx ∧ Rp K ι H y dy ∧ g (dx.val M) (dy.val M) = some d ∧ Fin K ι H d Q
section
variable {X : Cx}
theorem sok_add {a b : Str} (h1 : sok a = true) (h2 : sok b = true) (hz : a.length + b.length ≤ sizeLine) : sok (a ++ b) = true := by
  unfold sok at *
  simp only [Bool.and_eq_true, decide_eq_true_eq, Array.all_eq_true_iff_forall_mem] at *
  refine ⟨fun x hx => ?_, ?_⟩
  · have : x ∈ (a.cps ++ b.cps) := hx
    rcases Array.mem_append.mp this with q | q
    · exact h1.1 x q
    · exact h2.1 x q
  · show (a.cps ++ b.cps).size ≤ sizeLine
    rw [Array.size_append]
    exact hz
theorem or_add : OpR X (binaryOp .Add) (rB X.K opAdd) := by
  intro pins s σ H x y v u Q I rx ry h
  obtain ⟨ι, M, dx, dy, d, m, r1, r2, e, f⟩ := h
  generalize e1 : dx.val M = wx at e
  generalize e2 : dy.val M = wy at e
  unfold opAdd at e
  split at e
  · cases e
    rename_i i j
    have a1 := val_int m r1 e1
    have a2 := val_int m r2 e2
    exact op_add pins s σ H x y v u Q I rx ry ⟨i, j, a1, a2, f.self (.int _)⟩
  · split at e <;> cases e
    rename_i a b hz
    obtain ⟨a1, k1⟩ := val_str m r1 e1
    obtain ⟨a2, k2⟩ := val_str m r2 e2
    exact op_add_str pins s σ H x y v u Q I rx ry ⟨a, b, a1, a2, hz, f.self (.str (sok_add k1 k2 hz))⟩
  · split at e <;> cases e
    rename_i a b hz
    obtain ⟨_, p, vs, a1, t1, k1⟩ := val_tup m r1 e1
    obtain ⟨_, q, us, a2, t2, k2⟩ := val_tup m r2 e2
    refine op_catA pins s σ H x y v u Q I rx ry ⟨p, q, vs, us, a1, a2, t1.sq, t2.sq, by rw [k1.length, k2.length]; exact hz, fun z => ?_, fun _ z => ?_, fun _ _ p' hp => ?_⟩
    · subst z
      cases k1
      exact f.self (.tup t2 (by simpa using k2))
    · subst z
      cases k2
      exact f.self (.tup t1 (by simpa using k1))
    · exact f.tup m (k1.append k2) hp
  · split at e <;> cases e
    rename_i a b hz
    obtain ⟨p, vs, a1, t1, k1⟩ := val_lst m r1 e1
    obtain ⟨q, us, a2, t2, k2⟩ := val_lst m r2 e2
    exact op_cat pins s σ H x y v u Q I rx ry ⟨p, q, vs, us, a1, a2, t1, t2, by rw [k1.length, k2.length]; exact hz, fun p' hp => f.lst m (k1.append k2) hp⟩
  · cases e
theorem or_sub : OpR X (binaryOp .Sub) (rB X.K (op2 .sub)) := by
  intro pins s σ H x y v u Q I rx ry h
  obtain ⟨ι, M, dx, dy, d, m, r1, r2, e, f⟩ := h
  generalize e1 : dx.val M = wx at e
  generalize e2 : dy.val M = wy at e
  cases wx <;> cases wy <;> simp only [op2] at e <;> cases e
  rename_i i j
  exact op_sub pins s σ H x y v u Q I rx ry ⟨i, j, val_int m r1 e1, val_int m r2 e2, f.self (.int _)⟩
theorem or_xor : OpR X (binaryOp .BitXor) (rB X.K (op2 .xor)) := by
  intro pins s σ H x y v u Q I rx ry h
  obtain ⟨ι, M, dx, dy, d, m, r1, r2, e, f⟩ := h
  generalize e1 : dx.val M = wx at e
  generalize e2 : dy.val M = wy at e
  cases wx <;> cases wy <;> simp only [op2] at e <;> cases e
  rename_i i j
  exact op_xor pins s σ H x y v u Q I rx ry ⟨i, j, val_int m r1 e1, val_int m r2 e2, f.self (.int _)⟩
theorem or_fdiv : OpR X (binaryOp .FloorDiv) (rB X.K (op2 .fdiv)) := by
  intro pins s σ H x y v u Q I rx ry h
  obtain ⟨ι, M, dx, dy, d, m, r1, r2, e, f⟩ := h
  generalize e1 : dx.val M = wx at e
  generalize e2 : dy.val M = wy at e
  cases wx <;> cases wy <;> simp only [op2] at e <;> try cases e
  rename_i i j
  split at e <;> cases e
  rename_i hz
  simp only [Bool.and_eq_true, decide_eq_true_eq] at hz
  exact op_fdiv pins s σ H x y v u Q I rx ry ⟨i, j, val_int m r1 e1, val_int m r2 e2, hz, f.self (.int _)⟩
theorem or_mod : OpR X (binaryOp .Mod) (rB X.K (op2 .mod)) := by
  intro pins s σ H x y v u Q I rx ry h
  obtain ⟨ι, M, dx, dy, d, m, r1, r2, e, f⟩ := h
  generalize e1 : dx.val M = wx at e
  generalize e2 : dy.val M = wy at e
  cases wx <;> cases wy <;> simp only [op2] at e <;> try cases e
  rename_i i j
  split at e <;> cases e
  rename_i hz
  exact op_mod pins s σ H x y v u Q I rx ry ⟨i, j, val_int m r1 e1, val_int m r2 e2, hz, f.self (.int _)⟩
theorem or_pow : OpR X (binaryOp .Pow) (rB X.K (op2 .pow)) := by
  intro pins s σ H x y v u Q I rx ry h
  obtain ⟨ι, M, dx, dy, d, m, r1, r2, e, f⟩ := h
  generalize e1 : dx.val M = wx at e
  generalize e2 : dy.val M = wy at e
  cases wx <;> cases wy <;> simp only [op2] at e <;> try cases e
  rename_i i j
  split at e <;> cases e
  rename_i hz
  simp only [Bool.and_eq_true, decide_eq_true_eq] at hz
  exact op_pow pins s σ H x y v u Q I rx ry ⟨i, j, val_int m r1 e1, val_int m r2 e2, ⟨hz.1.1, by omega, hz.2⟩, f.self (.int _)⟩
theorem small64_iff {i : Int} (h : small64 i = true) : -(2 ^ 64) < i ∧ i < 2 ^ 64 := by
  unfold small64 at h
  simpa only [Bool.and_eq_true, decide_eq_true_eq] using h
theorem mul_cps (a : Str) (j : Int) (h : 0 ≤ j) : (Txt.mul a j).cps.toList = (List.replicate j.toNat a.cps.toList).flatten := by
  have f0 : ∀ (m : Nat) (acc : Array Nat), (List.foldl (fun x1 x2 => x1 ++ x2) acc (List.replicate m a.cps)).toList = acc.toList ++ (List.replicate m a.cps.toList).flatten := by
    intro m
    induction m with
    | zero => intro acc; simp
    | succ m ih => intro acc; rw [List.replicate_succ, List.foldl_cons, ih, List.replicate_succ, List.flatten_cons, Array.toList_append, List.append_assoc]
  unfold Txt.mul
  split
  · rename_i h1
    have : j.toNat = 0 := by omega
    rw [this]; rfl
  · split
    · rename_i h1 h2
      rcases Bool.or_eq_true_iff.mp h2 with q | q
      · have : j = 1 := by simpa using q
        subst this
        simp
      · have : a.cps.toList = [] := by
          have q' : a.cps.size = 0 := by simpa [Str.length] using q
          simpa using q'
        rw [this]; simp
    · show (List.foldl (fun x1 x2 => x1 ++ x2) #[] (List.replicate j.toNat a.cps)).toList = _
      rw [f0]; simp
theorem len_rep {α : Type} (xs : List α) : ∀ m : Nat, (List.replicate m xs).flatten.length = m * xs.length := fun m => by simp
theorem sok_mul {a : Str} {j : Int} (h1 : sok a = true) (h0 : 0 ≤ j) (hz : a.length * j.toNat ≤ sizeLine) : sok (Txt.mul a j) = true := by
  have e := mul_cps a j h0
  unfold sok at *
  simp only [Bool.and_eq_true, decide_eq_true_eq, Array.all_eq_true_iff_forall_mem] at *
  refine ⟨fun x hx => ?_, ?_⟩
  · have hx' : x ∈ (Txt.mul a j).cps.toList := by simpa using hx
    rw [e, List.mem_flatten] at hx'
    obtain ⟨l, hl, hm⟩ := hx'
    have := (List.mem_replicate.mp hl).2
    subst this
    exact h1.1 x (by simpa using hm)
  · show (Txt.mul a j).cps.size ≤ sizeLine
    rw [← Array.length_toList, e, len_rep, Array.length_toList, Nat.mul_comm]
    exact hz
theorem or_mul : OpR X (binaryOp .Mult) (rB X.K opMul) := by
  intro pins s σ H x y v u Q I rx ry h
  obtain ⟨ι, M, dx, dy, d, m, r1, r2, e, f⟩ := h
  generalize e1 : dx.val M = wx at e
  generalize e2 : dy.val M = wy at e
  unfold opMul at e
  split at e
  · split at e <;> cases e
    rename_i i j hz
    refine op_mul pins s σ H x y v u Q I rx ry ⟨i, j, val_int m r1 e1, val_int m r2 e2, ?_, f.self (.int _)⟩
    rcases Bool.or_eq_true_iff.mp hz with q | q
    · exact .inl (small64_iff q)
    · exact .inr (small64_iff q)
  · split at e <;> cases e
    rename_i a j hz
    simp only [Bool.and_eq_true, decide_eq_true_eq] at hz
    obtain ⟨a1, k1⟩ := val_str m r1 e1
    have a2 := val_int m r2 e2
    subst a1 a2
    obtain ⟨t, rfl⟩ := rx
    obtain ⟨t', rfl⟩ := ry
    have hs := sizeLine_eq
    refine SB.mul (mulOk_of a.length j.toNat (Nat.le_refl _) (by omega) (by omega) (by omega) (by omega)) fun t2 k2 => ?_
    exact ⟨.str _, H, I.tok k2, ⟨_, rfl⟩, f.self (.str (sok_mul k1 hz.1.1 hz.2))⟩
  · split at e <;> cases e
    rename_i a j hz
    simp only [Bool.and_eq_true, decide_eq_true_eq] at hz
    obtain ⟨p, vs, a1, t1, k1⟩ := val_lst m r1 e1
    have a2 := val_int m r2 e2
    exact op_rep pins s σ H x y v u Q I rx ry ⟨p, j, vs, a1, a2, t1, by omega, by omega, by rw [k1.length]; exact hz.1, fun p' hp => f.lst m (k1.rep _) hp⟩
  · split at e <;> cases e
    rename_i a j hz
    simp only [Bool.and_eq_true, decide_eq_true_eq] at hz
    obtain ⟨_, p, vs, a1, t1, k1⟩ := val_tup m r1 e1
    have a2 := val_int m r2 e2
    have hl := k1.length
    refine op_repT pins s σ H x y v u Q I rx ry ⟨p, j, vs, a1, a2, t1.sq, fun z => ?_, hz.1.1.1, hz.1.1.2, by omega, fun p' hp => f.tup m (k1.rep _) hp⟩
    have h2 := hz.2
    subst z
    have : a = [] := List.eq_nil_of_length_eq_zero (by simpa using hl.symm)
    subst this
    cases h2
  · cases e
theorem or_eq (hu : X.A.units + 64 < cLine) : OpR X (compareOp .Eq) (rB X.K (op2 .eq)) := by
  intro pins s σ H x y v u Q I rx ry h
  obtain ⟨ι, M, dx, dy, d, m, r1, r2, e, f⟩ := h
  simp only [op2] at e
  split at e <;> cases e
  rename_i hz
  unfold eqOk at hz
  simp only [Bool.and_eq_true, decide_eq_true_eq] at hz
  obtain ⟨⟨p1, p2⟩, p3⟩ := hz
  obtain ⟨q1, l1⟩ := val_plain m r1 p1
  obtain ⟨q2, l2⟩ := val_plain m r2 p2
  obtain ⟨as, rd1⟩ := Dp.reads I _ x v q1 rx
  obtain ⟨bs, rd2⟩ := Dp.reads I _ y u q2 ry
  refine SeqAt.compareEq_reads rd1 rd2 l1 l2 (by rw [depth_py _ p1, depth_py _ p2]; omega) ?_
  rw [D.eqv_py _ _ p1 p2]
  exact ⟨.bl _, H, I, rfl, f.self (.bl _)⟩
theorem or_ne (hu : X.A.units + 64 < cLine) : OpR X (compareOp .NotEq) (rB X.K (op2 .ne)) := by
  intro pins s σ H x y v u Q I rx ry h
  obtain ⟨ι, M, dx, dy, d, m, r1, r2, e, f⟩ := h
  simp only [op2] at e
  split at e <;> cases e
  rename_i hz
  unfold eqOk at hz
  simp only [Bool.and_eq_true, decide_eq_true_eq] at hz
  obtain ⟨⟨p1, p2⟩, p3⟩ := hz
  obtain ⟨q1, l1⟩ := val_plain m r1 p1
  obtain ⟨q2, l2⟩ := val_plain m r2 p2
  obtain ⟨as, rd1⟩ := Dp.reads I _ x v q1 rx
  obtain ⟨bs, rd2⟩ := Dp.reads I _ y u q2 ry
  refine SeqAt.compareNe_reads rd1 rd2 l1 l2 (by rw [depth_py _ p1, depth_py _ p2]; omega) ?_
  rw [D.eqv_py _ _ p1 p2]
  exact ⟨.bl _, H, I, rfl, f.self (.bl _)⟩
theorem or_cmp {op : CmpOp} {p : Int → Int → Bool} (ho : OpR X (compareOp op) (rI0 fun i j => .bl (p i j))) : OpR X (compareOp op) (rB X.K (opCmp p)) := by
  intro pins s σ H x y v u Q I rx ry h
  obtain ⟨ι, M, dx, dy, d, m, r1, r2, e, f⟩ := h
  generalize e1 : dx.val M = wx at e
  generalize e2 : dy.val M = wy at e
  cases wx <;> cases wy <;> simp only [opCmp] at e <;> cases e
  rename_i i j
  exact ho pins s σ H x y v u Q I rx ry ⟨i, j, val_int m r1 e1, val_int m r2 e2, f.self (.bl _)⟩
end
section
variable {K : PySem.W.Frag}
mutual
theorem noref_rb (n : Nat) : ∀ d : D, d.noref = true → d.rb n = true
  | .non, _ => by simp [D.rb]
  | .bl _, _ => by simp [D.rb]
  | .int _, _ => by simp [D.rb]
  | .str _, _ => by simp [D.rb]
  | .tup xs, h => by simp only [D.rb]; exact norefs_rb n xs (by simpa [D.noref] using h)
  | .lst xs, h => by simp only [D.rb]; exact norefs_rb n xs (by simpa [D.noref] using h)
  | .lok xs, h => by simp only [D.rb]; exact norefs_rb n xs (by simpa [D.noref] using h)
  | .dct ks vs, h => by
    simp only [D.noref, Bool.and_eq_true] at h
    simp only [D.rb, Bool.and_eq_true]
    exact ⟨norefs_rb n ks h.1, norefs_rb n vs h.2⟩
  | .ref _, h => by simp [D.noref] at h
theorem norefs_rb (n : Nat) : ∀ ds : List D, D.norefs ds = true → D.rbs n ds = true
  | [], _ => by simp [D.rbs]
  | d :: ds, h => by
    simp only [D.norefs, Bool.and_eq_true] at h
    simp only [D.rbs, Bool.and_eq_true]
    exact ⟨noref_rb n d h.1, norefs_rb n ds h.2⟩
end
/-- fewer things in the memory: what refers to the others alone stays -/
structure Cut (n : Nat) (ι ι' : Kt) : Prop where
  get : ∀ {i : Nat} {a : Addr}, i < n → ι.ι[i]? = some a → ι'.ι[i]? = some a
  nb : ∀ {a : Addr}, ¬ ι.bad a → ¬ ι'.bad a
section
variable {n : Nat} {ι ι' : Kt} {H : Hp}
mutual
theorem Rp.cutT (l : Cut n ι ι') : ∀ (d : D) (v : V), Rp K ι H v d → d.rb n = true → Rp K ι' H v d
  | .non, _, h, _ => by cases h; exact .non
  | .bl _, _, h, _ => by cases h; exact .bl _
  | .int _, _, h, _ => by cases h; exact .int _
  | .str _, _, h, _ => by cases h with | str h => exact .str h
  | .tup ds, _, h, b => by
    simp only [D.rb] at b
    cases h with
    | tup h1 h2 =>
      refine .tup ?_ (Rps.cutT l ds _ h2 b)
      rcases h1 with ⟨h1, n⟩ | h1
      · exact .inl ⟨h1, l.nb n⟩
      · exact .inr h1
  | .lst ds, _, h, b => by
    simp only [D.rb] at b
    cases h with
    | lst h1 n h2 => exact .lst h1 (l.nb n) (Rps.cutT l ds _ h2 b)
  | .lok ds, _, h, b => by
    simp only [D.rb] at b
    cases h with
    | lok h1 h2 =>
      refine .lok ?_ (Rps.cutT l ds _ h2 b)
      rcases h1 with ⟨h1, n⟩ | h1
      · exact .inl ⟨h1, l.nb n⟩
      · exact .inr h1
  | .dct ks vs, _, h, b => by
    simp only [D.rb, Bool.and_eq_true] at b
    cases h with
    | dct h1 n h2 h3 => exact .dct h1 (l.nb n) (Rps.cutT l ks _ h2 b.1) (Rps.cutT l vs _ h3 b.2)
  | .ref _, _, h, b => by
    simp only [D.rb, decide_eq_true_eq] at b
    cases h with | ref h => exact .ref (l.get b h)
theorem Rps.cutT (l : Cut n ι ι') : ∀ (ds : List D) (vs : List V), Rps K ι H vs ds → D.rbs n ds = true → Rps K ι' H vs ds
  | [], _, h, _ => by cases h; exact .nil
  | d :: ds, _, h, b => by
    simp only [D.rbs, Bool.and_eq_true] at b
    cases h with | cons h1 h2 => exact .cons (Rp.cutT l d _ h1 b.1) (Rps.cutT l ds _ h2 b.2)
end
theorem rbs_get : ∀ {ds : List D} {i : Nat} {d : D}, D.rbs n ds = true → ds[i]? = some d → d.rb n = true
  | [], i, d, _, e => by simp at e
  | x :: ds, 0, d, h, e => by
    simp only [D.rbs, Bool.and_eq_true] at h
    simp at e; subst e; exact h.1
  | x :: ds, i + 1, d, h, e => by
    simp only [D.rbs, Bool.and_eq_true] at h
    exact rbs_get h.2 (by simpa using e)
theorem Cl.cutT (l : Cut n ι ι') {a : Addr} {d : D} (h : Cl K ι H a d) (b : d.rb n = true) : Cl K ι' H a d := by
  cases h with
  | lst q1 q2 =>
    simp only [D.rb] at b
    exact .lst q1 (Rps.cutT l _ _ q2 b)
  | dct q1 q2 q3 =>
    simp only [D.rb, Bool.and_eq_true] at b
    exact .dct q1 (Rps.cutT l _ _ q2 b.1) (Rps.cutT l _ _ q3 b.2)
end
end
end PD
/-! PD5: in, subscripts, slices, built-in functions, isinstance -/
namespace PD
open PySem PySem.Spec PyProof.Rows L2
section
variable {X : Cx}
/-! ### in -/
/-! ### dicts -/
def keyD : Key → D
  | .inl i => .int i
  | .inr x => .str x
theorem keyOk_of {d : D} (h : keyOk d = true) : ∃ k, d = keyD k := by
  cases d <;> simp only [keyOk] at h <;> first | cases h | skip
  · exact ⟨.inl _, rfl⟩
  · exact ⟨.inr _, rfl⟩
theorem keyD_inj {a b : Key} (h : keyD a = keyD b) : a = b := by
  cases a <;> cases b <;> simp only [keyD] at h <;> cases h <;> rfl
theorem Rp.key {K : PySem.W.Frag} {ι : Kt} {H : Hp} {k : Key} {d : D} (h : Rp K ι H (kV k) d) : d = keyD k := by
  cases k <;> cases h <;> rfl
theorem Rps.keys {K : PySem.W.Frag} {ι : Kt} {H : Hp} : ∀ {kvs : List (Key × V)} {ks : List D}, Rps K ι H (kvs.map fun p => kV p.1) ks → ks = kvs.map fun p => keyD p.1
  | [], _, h => by cases h; rfl
  | p :: kvs, _, h => by
    cases h with
    | cons h1 h2 => rw [h1.key, Rps.keys h2]; rfl
theorem Rp.ofKey {K : PySem.W.Frag} {ι : Kt} {H : Hp} {v : V} {k : Key} (h : Rp K ι H v (keyD k)) : v = kV k := by
  cases k <;> cases h <;> rfl
theorem val_key {K : PySem.W.Frag} {ι : Kt} {H : Hp} {M : Mem} (m : Mr K ι M H) {v : V} {d : D} (r : Rp K ι H v d) (h : keyOk (d.val M) = true) : ∃ k, d.val M = keyD k ∧ v = kV k := by
  obtain ⟨k, e⟩ := keyOk_of h
  refine ⟨k, e, ?_⟩
  cases k with
  | inl i => exact val_int m r e
  | inr x => exact (val_str m r e).1
theorem has_keys (k : Key) : ∀ kvs : List (Key × V), dHas (keyD k) (kvs.map fun p => keyD p.1) = (valV kvs k).isSome
  | [] => rfl
  | p :: kvs => by
    have ih := has_keys k kvs
    unfold dHas at ih ⊢
    rw [List.map_cons, List.any_cons, ih]
    by_cases e : p.1 = k
    · rw [valV_pos e, e]; simp
    · rw [valV_neg e, decide_eq_false (fun z => e (keyD_inj z))]; simp
theorem get_keys {K : PySem.W.Frag} {ι : Kt} {H : Hp} (k : Key) : ∀ {kvs : List (Key × V)} {vs : List D} {d : D}, Rps K ι H (kvs.map (·.2)) vs → dGet (keyD k) (kvs.map fun p => keyD p.1) vs = some d → ∃ v, valV kvs k = some v ∧ Rp K ι H v d
  | [], _, _, h, e => by cases h; simp [dGet] at e
  | p :: kvs, _, d, h, e => by
    cases h with
    | cons h1 h2 =>
      simp only [List.map_cons, dGet] at e
      by_cases q : p.1 = k
      · rw [if_pos (by rw [q])] at e
        cases e
        exact ⟨_, valV_pos q, h1⟩
      · rw [if_neg (fun z => q (keyD_inj z))] at e
        obtain ⟨v, e1, r⟩ := get_keys k h2 e
        exact ⟨v, by rw [valV_neg q]; exact e1, r⟩
theorem any_py {x : D} (hx : x.plain = true) : ∀ ds : List D, D.plains ds = true → ((D.pys ds).any fun z => PyData.eqv z x.py) = ds.any fun z => D.eqv z x
  | [], _ => by simp [D.pys]
  | d :: ds, h => by
    simp only [D.plains, Bool.and_eq_true] at h
    simp only [D.pys, List.any_cons]
    rw [D.eqv_py _ _ h.1 hx, any_py hx ds h.2]
theorem or_in (hu : X.A.units + 66 < cLine) : OpR X (compareOp .In) (rB X.K (op2 .isin)) := by
  intro pins s σ H x y v u Q I rx ry h
  obtain ⟨ι, M, dx, dy, d, m, r1, r2, e, f⟩ := h
  simp only [op2] at e
  cases he : opIn (dx.val M) (dy.val M) with
  | none => rw [he] at e; cases e
  | some b =>
    rw [he] at e; cases e
    generalize e2 : dy.val M = wy at he
    cases wy with
    | lst ds =>
      simp only [opIn, inList] at he
      split at he <;> cases he
      rename_i hz
      simp only [Bool.and_eq_true, decide_eq_true_eq] at hz
      obtain ⟨⟨p1, p2⟩, p3⟩ := hz
      obtain ⟨q1, l1⟩ := val_plain m r1 p1
      obtain ⟨a, vs, rfl, t2, k2⟩ := val_lst m r2 e2
      obtain ⟨as, rd1⟩ := Dp.reads I _ x v q1 rx
      obtain ⟨bs, rd2⟩ := Dp.reads I (.list (D.pys ds)) (.ref a) u (.lst (SqL.of t2) (Rps.dp _ _ k2 p2)) ry
      refine SeqAt.in_list_reads rd2 rd1 (Rps.lay _ _ k2 p2) l1 (by rw [depth_py _ p1]; have := Nat.min_le_right (PyData.depthAll (D.pys ds)) (D.depth (dx.val M)); omega) ?_
      rw [any_py p1 _ p2]
      exact ⟨.bl _, H, I, rfl, f.self (.bl _)⟩
    | tup ds =>
      simp only [opIn, inList] at he
      split at he <;> cases he
      rename_i hz
      simp only [Bool.and_eq_true, decide_eq_true_eq] at hz
      obtain ⟨⟨p1, p2⟩, p3⟩ := hz
      obtain ⟨q1, l1⟩ := val_plain m r1 p1
      obtain ⟨_, a, vs, rfl, t2, k2⟩ := val_tup m r2 e2
      obtain ⟨as, rd1⟩ := Dp.reads I _ x v q1 rx
      obtain ⟨bs, rd2⟩ := Dp.reads I (.tuple (D.pys ds)) (.ref a) u (.tup t2.sq (Rps.dp _ _ k2 p2)) ry
      refine SeqAt.in_tuple_reads rd2 rd1 (Rps.lay _ _ k2 p2) l1 (by rw [depth_py _ p1]; have := Nat.min_le_right (PyData.depthAll (D.pys ds)) (D.depth (dx.val M)); omega) ?_
      rw [any_py p1 _ p2]
      exact ⟨.bl _, H, I, rfl, f.self (.bl _)⟩
    | str b2 =>
      generalize e1 : dx.val M = wx at he
      cases wx <;> simp only [opIn] at he <;> cases he
      rename_i a
      obtain ⟨a1, k1⟩ := val_str m r1 e1
      obtain ⟨a2, k2⟩ := val_str m r2 e2
      unfold strIn at f
      split at f
      · rename_i h1
        obtain ⟨c, rfl⟩ : ∃ c, a = ⟨#[c]⟩ := by
          obtain ⟨⟨l⟩⟩ := a
          have : l.length = 1 := h1
          match l, this with
          | [c], _ => exact ⟨c, rfl⟩
        exact op_in_sign pins s σ H x y v u Q I rx ry ⟨c, b2, a1, a2, f.self (.bl _)⟩
      · exact op_in_str pins s σ H x y v u Q I rx ry ⟨a, b2, a1, a2, f.self (.bl _)⟩
    | dct ks vs =>
      simp only [opIn] at he
      split at he <;> cases he
      rename_i hk
      obtain ⟨a, kvs, rfl, t2, k2, k3⟩ := val_dct m r2 e2
      obtain ⟨k, ek, rfl⟩ := val_key m r1 hk
      cases (show u = Value.ref a from ry)
      rw [ek, k2.keys, has_keys] at f
      exact d_in (by omega) I (.inl ⟨kvs, k, t2, rfl, rfl⟩) rx fun s' I' => ⟨.bl _, H, I', rfl, f.self (.bl _)⟩
    | _ => simp only [opIn] at he <;> cases he
theorem or_notin (hu : X.A.units + 66 < cLine) : OpR X (compareOp .NotIn) (rB X.K (op2 .notin)) := by
  intro pins s σ H x y v u Q I rx ry h
  obtain ⟨ι, M, dx, dy, d, m, r1, r2, e, f⟩ := h
  simp only [op2] at e
  cases he : opIn (dx.val M) (dy.val M) with
  | none => rw [he] at e; cases e
  | some b =>
    rw [he] at e; cases e
    generalize e2 : dy.val M = wy at he
    cases wy with
    | lst ds =>
      simp only [opIn, inList] at he
      split at he <;> cases he
      rename_i hz
      simp only [Bool.and_eq_true, decide_eq_true_eq] at hz
      obtain ⟨⟨p1, p2⟩, p3⟩ := hz
      obtain ⟨q1, l1⟩ := val_plain m r1 p1
      obtain ⟨a, vs, rfl, t2, k2⟩ := val_lst m r2 e2
      obtain ⟨as, rd1⟩ := Dp.reads I _ x v q1 rx
      obtain ⟨bs, rd2⟩ := Dp.reads I (.list (D.pys ds)) (.ref a) u (.lst (SqL.of t2) (Rps.dp _ _ k2 p2)) ry
      refine SeqAt.notIn_list_reads rd2 rd1 (Rps.lay _ _ k2 p2) l1 (by rw [depth_py _ p1]; have := Nat.min_le_right (PyData.depthAll (D.pys ds)) (D.depth (dx.val M)); omega) ?_
      rw [any_py p1 _ p2]
      exact ⟨.bl _, H, I, rfl, f.self (.bl _)⟩
    | tup ds =>
      simp only [opIn, inList] at he
      split at he <;> cases he
      rename_i hz
      simp only [Bool.and_eq_true, decide_eq_true_eq] at hz
      obtain ⟨⟨p1, p2⟩, p3⟩ := hz
      obtain ⟨q1, l1⟩ := val_plain m r1 p1
      obtain ⟨_, a, vs, rfl, t2, k2⟩ := val_tup m r2 e2
      obtain ⟨as, rd1⟩ := Dp.reads I _ x v q1 rx
      obtain ⟨bs, rd2⟩ := Dp.reads I (.tuple (D.pys ds)) (.ref a) u (.tup t2.sq (Rps.dp _ _ k2 p2)) ry
      refine SeqAt.notIn_tuple_reads rd2 rd1 (Rps.lay _ _ k2 p2) l1 (by rw [depth_py _ p1]; have := Nat.min_le_right (PyData.depthAll (D.pys ds)) (D.depth (dx.val M)); omega) ?_
      rw [any_py p1 _ p2]
      exact ⟨.bl _, H, I, rfl, f.self (.bl _)⟩
    | str b2 =>
      generalize e1 : dx.val M = wx at he
      cases wx <;> simp only [opIn] at he <;> cases he
      rename_i a
      obtain ⟨a1, k1⟩ := val_str m r1 e1
      obtain ⟨a2, k2⟩ := val_str m r2 e2
      unfold strIn at f
      split at f
      · rename_i h1
        obtain ⟨c, rfl⟩ : ∃ c, a = ⟨#[c]⟩ := by
          obtain ⟨⟨l⟩⟩ := a
          have : l.length = 1 := h1
          match l, this with
          | [c], _ => exact ⟨c, rfl⟩
        exact op_notIn_sign pins s σ H x y v u Q I rx ry ⟨c, b2, a1, a2, f.self (.bl _)⟩
      · exact op_notin_str pins s σ H x y v u Q I rx ry ⟨a, b2, a1, a2, f.self (.bl _)⟩
    | dct ks vs =>
      simp only [opIn] at he
      split at he <;> cases he
      rename_i hk
      obtain ⟨a, kvs, rfl, t2, k2, k3⟩ := val_dct m r2 e2
      obtain ⟨k, ek, rfl⟩ := val_key m r1 hk
      cases (show u = Value.ref a from ry)
      rw [ek, k2.keys, has_keys] at f
      exact d_notIn (by omega) I (.inl ⟨kvs, k, t2, rfl, rfl⟩) rx fun s' I' => ⟨.bl _, H, I', rfl, f.self (.bl _)⟩
    | _ => simp only [opIn] at he <;> cases he

/-! ### subscripts -/
theorem atD_map {α β : Type} (g : α → β) (xs : List α) (i : Int) : atI (xs.map g) i = (atI xs i).map g := by
  unfold atI
  rw [List.length_map]
  cases ixN xs.length i with
  | none => rfl
  | some j => simp
theorem Rps.atI {K : PySem.W.Frag} {ι : Kt} {H : Hp} {ds : List D} {vs : List V} {i : Int} {d : D} (h : Rps K ι H vs ds) (e : atD ds i = some d) : ∃ v, L2.atI vs i = some v ∧ Rp K ι H v d := by
  unfold atD L2.atI at e
  unfold L2.atI
  rw [h.length]
  cases q : ixN ds.length i with
  | none => rw [q] at e; cases e
  | some j =>
    rw [q] at e
    exact h.get e
theorem sok_at {z : Str} {c : Nat} (h : sok z = true) (m : c ∈ z.cps.toList) : sok ⟨#[c]⟩ = true := by
  unfold sok at *
  simp only [Bool.and_eq_true, decide_eq_true_eq, Array.all_eq_true_iff_forall_mem] at *
  refine ⟨fun x hx => ?_, ?_⟩
  · have : x = c := by simpa using hx
    subst this
    exact h.1 x (by simpa using m)
  · show 1 ≤ sizeLine
    rw [sizeLine_eq]; decide
theorem atI_mem {α : Type} {xs : List α} {i : Int} {c : α} (h : L2.atI xs i = some c) : c ∈ xs := by
  obtain ⟨j, _, h2, _⟩ := atI_get h
  exact List.mem_of_getElem? h2
theorem or_ix (hu : X.A.units + 2 < cLine) : IxR X (rB X.K (op2 .ix)) := by
  intro value slice pins s σ H x y v u Q I rx ry h hs
  obtain ⟨ι, M, dx, dy, d, m, r1, r2, e, f⟩ := h
  simp only [op2] at e
  generalize e1 : dx.val M = wx at e
  generalize e2 : dy.val M = wy at e
  unfold opIx at e
  split at e
  · obtain ⟨_, a, vs, a1, t1, k1⟩ := val_tup m r1 e1
    have a2 := val_int m r2 e2
    obtain ⟨w, q1, q2⟩ := k1.atI e
    exact ix_tup value slice pins s σ H x y v u Q I rx ry ⟨a, vs, _, w, a1, a2, t1.sq, q1, f.self q2⟩ hs
  · obtain ⟨a, vs, a1, t1, k1⟩ := val_lst m r1 e1
    have a2 := val_int m r2 e2
    obtain ⟨w, q1, q2⟩ := k1.atI e
    exact ix_list value slice pins s σ H x y v u Q I rx ry ⟨a, vs, _, w, a1, a2, SqL.of t1, q1, f.self q2⟩ hs
  · obtain ⟨_, a, vs, a1, t1, k1⟩ := val_lok m r1 e1
    have a2 := val_int m r2 e2
    obtain ⟨w, q1, q2⟩ := k1.atI e
    exact ix_list value slice pins s σ H x y v u Q I rx ry ⟨a, vs, _, w, a1, a2, t1.sq, q1, f.self q2⟩ hs
  · rename_i z i
    cases q : atD z.cps.toList i with
    | none => rw [q] at e; cases e
    | some c =>
      rw [q] at e; cases e
      obtain ⟨a1, k1⟩ := val_str m r1 e1
      have a2 := val_int m r2 e2
      exact ix_str value slice pins s σ H x y v u Q I rx ry ⟨z, i, c, a1, a2, sok_len k1, q, f.self (.str (sok_at k1 (atI_mem q)))⟩ hs
  · split at e
    · rename_i ks vs _ hk
      obtain ⟨a, kvs, rfl, t1, k1, k2⟩ := val_dct m r1 e1
      rw [← e2] at hk e
      obtain ⟨k, ek, rfl⟩ := val_key m r2 hk
      rw [ek, k1.keys] at e
      obtain ⟨w, q1, q2⟩ := get_keys k k2 e
      cases (show v = Value.ref a from rx)
      exact tail_any (ops := [.ref a, u]) (dict_typeIs (o := some w) I (.inl ⟨kvs, k, t1, rfl, q1.symm⟩)) PySem.F.slot_dict_getitem.lookup
        (d_getItem (by omega) I (.inl ⟨kvs, k, t1, rfl, q1.symm⟩) ry fun w' s' I' rw' => ⟨w, H, I', rw', f.self q2⟩) hs
    · cases e
  · cases e
end
end PD
/-! PD6: slices, built-in functions, isinstance -/
namespace PD
open PySem PySem.Spec PyProof.Rows L2

section
variable {X : Cx}
/-! ### slices -/
def rSD (K : PySem.W.Frag) : V → Option Int → Option Int → Hp → VK → Prop := fun x lo hi H Q => ∃ (ι : Kt) (M : Mem) (dx d : D), Mr K ι M H ∧ Rp K ι H x dx ∧ opSl (dx.val M) lo hi = some d ∧ FinN K ι H d Q
theorem cut_all {α : Type} (xs : List α) (lo hi : Option Int) (h : HT.sIx xs.length 0 lo = 0 ∧ HT.sIx xs.length xs.length hi = xs.length) : PD.cut xs lo hi = xs := by
  unfold PD.cut
  rw [h.1, h.2]
  simp
theorem sok_cut {z : Str} (lo hi : Option Int) (h : sok z = true) : sok ⟨(PD.cut z.cps.toList lo hi).toArray⟩ = true := by
  unfold sok at *
  simp only [Bool.and_eq_true, decide_eq_true_eq, Array.all_eq_true_iff_forall_mem] at *
  refine ⟨fun x hx => h.1 x ?_, ?_⟩
  · have hx' : x ∈ PD.cut z.cps.toList lo hi := by simpa using hx
    unfold PD.cut at hx'
    have := List.mem_of_mem_drop (List.mem_of_mem_take hx')
    simpa using this
  · have h2 : z.cps.size ≤ sizeLine := h.2
    show (PD.cut z.cps.toList lo hi).toArray.size ≤ sizeLine
    rw [List.size_toArray]
    unfold PD.cut
    rw [List.length_take, List.length_drop, Array.length_toList]
    omega
theorem or_sl : SlR X (rSD X.K) := by
  intro pins s σ H x v vl vu lo hi sl Q I rx hs pl pu h
  obtain ⟨ι, M, dx, d, m, r1, e, f⟩ := h
  generalize e1 : dx.val M = wx at e
  cases wx <;> simp only [opSl] at e <;> cases e
  · rename_i z
    obtain ⟨a1, k1⟩ := val_str m r1 e1
    refine sl_str pins s σ H x v vl vu lo hi sl Q I rx hs pl pu ⟨z, a1, sok_len k1, ?_⟩
    have e2 : cutS z lo hi = ⟨(PD.cut z.cps.toList lo hi).toArray⟩ := by
      unfold cutS PD.cut
      simp [Str.length]
    rw [e2]
    exact f _ _ (.old rfl (Same.refl H) (.str (sok_cut lo hi k1)))
  · rename_i ds
    obtain ⟨_, a, vs, a1, t1, k1⟩ := val_tup m r1 e1
    refine sl_tupA pins s σ H x v vl vu lo hi sl Q I rx hs pl pu ⟨a, vs, a1, t1.sq, fun hw => ?_, fun _ p hp => ?_⟩
    · rw [cut_all _ _ _ (by rw [← k1.length]; exact hw)] at f
      exact f _ _ (.old rfl (Same.refl H) (.tup t1 k1))
    · exact f.tup m (k1.cut lo hi) hp
  · rename_i ds
    obtain ⟨a, vs, a1, t1, k1⟩ := val_lst m r1 e1
    exact sl_list pins s σ H x v vl vu lo hi sl Q I rx hs pl pu ⟨a, vs, a1, SqL.of t1, fun p hp => f.lst (k1.cut lo hi) hp⟩

/-! ### built-in functions -/
def rC (K : PySem.W.Frag) (g : List D → Option D) : List V → Hp → VK → Prop := fun xs H Q => ∃ (ι : Kt) (M : Mem) (ds : List D) (d : D), Mr K ι M H ∧ Rps K ι H xs ds ∧ g (ds.map fun d => d.val M) = some d ∧ FinN K ι H d Q
theorem FinN.self {K : PySem.W.Frag} {ι : Kt} {H : Hp} {d : D} {Q : VK} (f : FinN K ι H d Q) (c : d.box = false) {v : V} (r : Rp K ι H v d) : Q v H := f v H (.old c (Same.refl H) r)
/-- a function of one value -/
theorem rC_one {K : PySem.W.Frag} {f : Bi} {xs : List V} {H : Hp} {Q : VK} (h2 : f ≠ .min ∧ f ≠ .max) (h : rC K (bi f) xs H Q) :
    ∃ (ι : Kt) (M : Mem) (x : V) (dx d : D), xs = [x] ∧ Mr K ι M H ∧ Rp K ι H x dx ∧ bi1 f (dx.val M) = some d ∧ FinN K ι H d Q := by
  obtain ⟨ι, M, ds, d, m, r, e, fn⟩ := h
  cases ds with
  | nil => cases f <;> simp [bi] at e
  | cons d1 ds =>
    cases ds with
    | nil =>
      cases r with
      | cons r1 r2 =>
        cases r2
        refine ⟨ι, M, _, d1, d, rfl, m, r1, ?_, fn⟩
        cases f <;> simp_all [bi]
    | cons d2 ds =>
      cases f <;> simp_all [bi]
theorem or_len : CallR X (.builtin "len") (rC X.K (bi .len)) := by
  intro pins s σ H xs us Q I r h
  obtain ⟨ι, M, x, dx, d, rfl, m, r1, e, f⟩ := rC_one (by decide) h
  generalize e1 : dx.val M = wx at e
  cases wx <;> simp only [bi1] at e <;> cases e
  · rename_i z
    obtain ⟨rfl, k1⟩ := val_str m r1 e1
    exact call_len_str pins s σ H _ us Q I r ⟨z, rfl, sok_len k1, f.self rfl (.int _)⟩
  · obtain ⟨_, a, vs, rfl, t1, k1⟩ := val_tup m r1 e1
    exact call_len_seq pins s σ H _ us Q I r ⟨a, vs, rfl, .inr t1.sq, by rw [k1.length]; exact f.self rfl (.int _)⟩
  · obtain ⟨a, vs, rfl, t1, k1⟩ := val_lst m r1 e1
    exact call_len_seq pins s σ H _ us Q I r ⟨a, vs, rfl, .inl (SqL.of t1), by rw [k1.length]; exact f.self rfl (.int _)⟩
  · obtain ⟨_, a, vs, rfl, t1, k1⟩ := val_lok m r1 e1
    exact call_len_seq pins s σ H _ us Q I r ⟨a, vs, rfl, .inl t1.sq, by rw [k1.length]; exact f.self rfl (.int _)⟩
  · obtain ⟨a, kvs, rfl, t1, k1, k2⟩ := val_dct m r1 e1
    obtain ⟨u, rfl, ru⟩ := vals1 r
    cases (show u = Value.ref a from ru)
    have hl := k1.length
    rw [List.length_map] at hl
    exact d_len I t1 fun t s' I' => ⟨.int _, H, I', ⟨t, rfl⟩, by rw [hl]; exact f.self rfl (.int _)⟩
theorem or_abs : CallR X (.builtin "abs") (rC X.K (bi .abs)) := by
  intro pins s σ H xs us Q I r h
  obtain ⟨ι, M, x, dx, d, rfl, m, r1, e, f⟩ := rC_one (by decide) h
  generalize e1 : dx.val M = wx at e
  cases wx <;> simp only [bi1] at e <;> cases e
  rename_i i
  exact call_abs pins s σ H _ us Q I r ⟨i, by rw [val_int m r1 e1], f.self rfl (.int _)⟩
theorem or_int : CallR X (.type "int") (rC X.K (bi .int)) := by
  intro pins s σ H xs us Q I r h
  obtain ⟨ι, M, x, dx, d, rfl, m, r1, e, f⟩ := rC_one (by decide) h
  generalize e1 : dx.val M = wx at e
  cases wx <;> simp only [bi1] at e <;> cases e
  rename_i i
  exact call_int1 pins s σ H _ us Q I r (.inl ⟨i, by rw [val_int m r1 e1], f.self rfl (.int _)⟩)
theorem or_tuple : CallR X (.type "tuple") (rC X.K (bi .tup)) := by
  intro pins s σ H xs us Q I r h
  obtain ⟨ι, M, x, dx, d, rfl, m, r1, e, f⟩ := rC_one (by decide) h
  generalize e1 : dx.val M = wx at e
  cases wx <;> simp only [bi1] at e <;> cases e
  · obtain ⟨_, a, vs, rfl, t1, k1⟩ := val_tup m r1 e1
    exact call_tuple_of pins s σ H _ us Q I r ⟨a, vs, rfl, .inr ⟨t1.sq, f.self rfl (.tup t1 k1)⟩⟩
  · obtain ⟨a, vs, rfl, t1, k1⟩ := val_lst m r1 e1
    exact call_tuple_of pins s σ H _ us Q I r ⟨a, vs, rfl, .inl ⟨SqL.of t1, fun p hp => f.tup m k1 hp⟩⟩
theorem or_list (hc : X.calm = true) : CallR X (.type "list") (rC X.K (bi .lst)) := by
  intro pins s σ H xs us Q I r h
  obtain ⟨ι, M, x, dx, d, rfl, m, r1, e, f⟩ := rC_one (by decide) h
  generalize e1 : dx.val M = wx at e
  cases wx <;> simp only [bi1] at e <;> cases e
  · obtain ⟨_, a, vs, rfl, t1, k1⟩ := val_tup m r1 e1
    exact call_list_of pins s σ H _ us Q I r ⟨a, vs, rfl, .inr t1.sq, fun p hp => f.lst k1 hp⟩
  · obtain ⟨a, vs, rfl, t1, k1⟩ := val_lst m r1 e1
    exact call_list_of pins s σ H _ us Q I r ⟨a, vs, rfl, .inl (SqL.of t1), fun p hp => f.lst k1 hp⟩
  · obtain ⟨a, kvs, rfl, t1, k1, k2⟩ := val_dct m r1 e1
    exact call_listD hc pins s σ H _ us Q I r ⟨a, kvs, rfl, t1, fun p hp => f.lst k1 hp⟩
theorem bools_map : ∀ {ds : List D} {bs : List Bool}, bools? ds = some bs → ds = bs.map .bl
  | [], _, h => by simp only [bools?] at h; cases h; rfl
  | .bl b :: r, _, h => by
    simp only [bools?] at h
    cases e : bools? r with
    | none => rw [e] at h; cases h
    | some q => rw [e] at h; cases h; rw [bools_map e]; rfl
  | .non :: _, _, h => by simp [bools?] at h
  | .int _ :: _, _, h => by simp [bools?] at h
  | .str _ :: _, _, h => by simp [bools?] at h
  | .tup _ :: _, _, h => by simp [bools?] at h
  | .lst _ :: _, _, h => by simp [bools?] at h
  | .lok _ :: _, _, h => by simp [bools?] at h
  | .dct _ _ :: _, _, h => by simp [bools?] at h
  | .ref _ :: _, _, h => by simp [bools?] at h
theorem ints_map : ∀ {ds : List D} {bs : List Int}, ints? ds = some bs → ds = bs.map .int
  | [], _, h => by simp only [ints?] at h; cases h; rfl
  | .int b :: r, _, h => by
    simp only [ints?] at h
    cases e : ints? r with
    | none => rw [e] at h; cases h
    | some q => rw [e] at h; cases h; rw [ints_map e]; rfl
  | .non :: _, _, h => by simp [ints?] at h
  | .bl _ :: _, _, h => by simp [ints?] at h
  | .str _ :: _, _, h => by simp [ints?] at h
  | .tup _ :: _, _, h => by simp [ints?] at h
  | .lst _ :: _, _, h => by simp [ints?] at h
  | .lok _ :: _, _, h => by simp [ints?] at h
  | .dct _ _ :: _, _, h => by simp [ints?] at h
  | .ref _ :: _, _, h => by simp [ints?] at h
theorem Rps.bls {K : PySem.W.Frag} {ι : Kt} {H : Hp} : ∀ {bs : List Bool} {vs : List V}, Rps K ι H vs (bs.map .bl) → vs = bs.map V.bl
  | [], _, h => by cases h; rfl
  | b :: bs, _, h => by cases h with | cons h1 h2 => cases h1; rw [Rps.bls h2]; rfl
theorem Rps.ints {K : PySem.W.Frag} {ι : Kt} {H : Hp} : ∀ {bs : List Int} {vs : List V}, Rps K ι H vs (bs.map .int) → vs = bs.map V.int
  | [], _, h => by cases h; rfl
  | b :: bs, _, h => by cases h with | cons h1 h2 => cases h1; rw [Rps.ints h2]; rfl
theorem Rps.ofInts {K : PySem.W.Frag} {ι : Kt} {H : Hp} : ∀ (bs : List Int), Rps K ι H (bs.map V.int) (bs.map .int)
  | [] => .nil
  | b :: bs => .cons (.int b) (Rps.ofInts bs)
theorem or_all (hc : X.calm = true) : CallR X (.builtin "all") (rC X.K (bi .all)) := by
  intro pins s σ H xs us Q I r h
  obtain ⟨ι, M, x, dx, d, rfl, m, r1, e, f⟩ := rC_one (by decide) h
  generalize e1 : dx.val M = wx at e
  cases wx <;> simp only [bi1] at e <;> try cases e
  rename_i ds
  cases q : bools? ds with
  | none => rw [q] at e; cases e
  | some bs =>
    rw [q] at e; cases e
    have := bools_map q
    subst this
    obtain ⟨a, vs, rfl, t1, k1⟩ := val_lst m r1 e1
    have := k1.bls
    subst this
    exact cr_all hc pins s σ H _ us Q I r ⟨a, bs, rfl, SqL.of t1, f.self rfl (.bl _)⟩
theorem or_any (hc : X.calm = true) : CallR X (.builtin "any") (rC X.K (bi .any)) := by
  intro pins s σ H xs us Q I r h
  obtain ⟨ι, M, x, dx, d, rfl, m, r1, e, f⟩ := rC_one (by decide) h
  generalize e1 : dx.val M = wx at e
  cases wx <;> simp only [bi1] at e <;> try cases e
  rename_i ds
  cases q : bools? ds with
  | none => rw [q] at e; cases e
  | some bs =>
    rw [q] at e; cases e
    have := bools_map q
    subst this
    obtain ⟨a, vs, rfl, t1, k1⟩ := val_lst m r1 e1
    have := k1.bls
    subst this
    exact cr_any hc pins s σ H _ us Q I r ⟨a, bs, rfl, SqL.of t1, f.self rfl (.bl _)⟩
theorem or_sum (hc : X.calm = true) : CallR X (.builtin "sum") (rC X.K (bi .sum)) := by
  intro pins s σ H xs us Q I r h
  obtain ⟨ι, M, x, dx, d, rfl, m, r1, e, f⟩ := rC_one (by decide) h
  generalize e1 : dx.val M = wx at e
  cases wx <;> simp only [bi1] at e <;> try cases e
  rename_i ds
  cases q : ints? ds with
  | none => rw [q] at e; cases e
  | some bs =>
    rw [q] at e; cases e
    have := ints_map q
    subst this
    obtain ⟨a, vs, rfl, t1, k1⟩ := val_lst m r1 e1
    have := k1.ints
    subst this
    exact cr_sum hc pins s σ H _ us Q I r ⟨a, bs, rfl, SqL.of t1, f.self rfl (.int _)⟩
theorem or_two {f : Bi} {g : Int → Int → Int} {nm : String} (h0 : f = .min ∨ f = .max) (hg : ∀ i j, bi f [.int i, .int j] = some (.int (g i j)))
    (hc : CallR X (.builtin nm) (fun xs H Q => ∃ i j, xs = [.int i, .int j] ∧ Q (.int (g i j)) H)) : CallR X (.builtin nm) (rC X.K (bi f)) := by
  intro pins s σ H xs us Q I r h
  obtain ⟨ι, M, ds, d, m, r0, e, fn⟩ := h
  have two : ∃ d1 d2, ds = [d1, d2] ∧ ∃ i j, d1.val M = .int i ∧ d2.val M = .int j := by
    rcases h0 with rfl | rfl
    all_goals
      match ds, e with
      | [], e => simp [bi] at e
      | [d1], e => simp [bi, bi1] at e
      | [d1, d2], e =>
        refine ⟨d1, d2, rfl, ?_⟩
        simp only [List.map_cons, List.map_nil] at e
        generalize D.val M d1 = w1 at e ⊢
        generalize D.val M d2 = w2 at e ⊢
        cases w1 <;> cases w2 <;> simp [bi] at e ⊢
      | _ :: _ :: _ :: _, e => simp [bi] at e
  obtain ⟨d1, d2, rfl, i, j, e1, e2⟩ := two
  cases r0 with
  | cons r1 r2 =>
    cases r2 with
    | cons r2 r3 =>
      cases r3
      simp only [List.map_cons, List.map_nil, e1, e2] at e
      rw [hg] at e; cases e
      refine hc pins s σ H _ us Q I r ⟨i, j, by rw [val_int m r1 e1, val_int m r2 e2], fn.self rfl (.int _)⟩
theorem or_max (hc : X.calm = true) : CallR X (.builtin "max") (rC X.K (bi .max)) := or_two (.inr rfl) (fun _ _ => rfl) (call_max2 hc)
theorem or_min (hc : X.calm = true) : CallR X (.builtin "min") (rC X.K (bi .min)) := or_two (.inl rfl) (fun _ _ => rfl) (call_min2 hc)

/-! ### sorted -/
theorem insI_perm (x : Int) : ∀ xs : List Int, (insI x xs).Perm (x :: xs)
  | [] => List.Perm.refl _
  | y :: ys => by
    unfold insI
    split
    · exact List.Perm.refl _
    · exact (List.Perm.cons y (insI_perm x ys)).trans (List.Perm.swap x y ys)
theorem sortI_perm : ∀ xs : List Int, (sortI xs).Perm xs
  | [] => List.Perm.refl _
  | x :: xs => (insI_perm x _).trans (List.Perm.cons x (sortI_perm xs))
theorem insI_sorted (x : Int) : ∀ {xs : List Int}, xs.Pairwise (· ≤ ·) → (insI x xs).Pairwise (· ≤ ·)
  | [], _ => by simp [insI]
  | y :: ys, h => by
    unfold insI
    have h' := List.pairwise_cons.mp h
    split
    · rename_i hle
      refine List.pairwise_cons.mpr ⟨fun z hz => ?_, h⟩
      rcases List.mem_cons.mp hz with rfl | hz
      · exact hle
      · exact Int.le_trans hle (h'.1 z hz)
    · rename_i hle
      refine List.pairwise_cons.mpr ⟨fun z hz => ?_, insI_sorted x h'.2⟩
      rcases List.mem_cons.mp ((insI_perm x ys).mem_iff.mp hz) with rfl | hz
      · omega
      · exact h'.1 z hz
theorem sortI_sorted : ∀ xs : List Int, (sortI xs).Pairwise (· ≤ ·)
  | [] => .nil
  | x :: xs => insI_sorted x (sortI_sorted xs)
theorem sorted_uniq {xs ys : List Int} (p : xs.Perm ys) (h1 : xs.Pairwise (· ≤ ·)) (h2 : ys.Pairwise (· ≤ ·)) : xs = ys :=
  p.eq_of_pairwise (fun a b _ _ h k => by omega) h1 h2
section
variable {prog : Program} {w : World} {A : Around} {E : Value → Shared → Prop} {s : Shared}
theorem collect_tup {l : Addr} {vs : List Value} {Q : List Value → Shared → Prop} (hl : IsTup s.heap l vs.toArray)
    (h : Q vs { s with heap := (s.heap.push (seqObj "list" #[] 0)).update s.heap.objs.size (Obj.mapSeq (· ++ vs.toArray)) }) (hsz : vs.length ≤ sizeLine := by size_fits) :
    wpAny (model prog w) A (collect (.ref l)) Q E s := by
  obtain ⟨o, ho, hc, n, hd⟩ := id hl
  unfold collect
  refine wpAny_bind (wpAny_runValue (codeAny_builtin entry_proto_collect' ?_))
  show wpAny _ _ (do again (.builtin "list.__iadd__" ⟨[← newList [], .ref l], []⟩)) _ _ s
  refine wpAny_bind (wpAny_newList (wpAny_pure ⟨Code.quiet_builtin _ (by decide +kernel), codeAny_builtin entry_list_iadd' ?_⟩))
  show wpAny _ _ (Builtin.List.listExtendWith (.ref s.heap.objs.size) (.ref l) (.ref s.heap.objs.size)) _ _ { s with heap := s.heap.push (seqObj "list" #[] 0) }
  unfold Builtin.List.listExtendWith
  have ho' : (s.heap.push (seqObj "list" #[] 0)).get? l = some o := Heap.get?_push_of_some _ ho
  refine wpAny_bind (wpAny_typeOf (T := "tuple") ⟨o, ho', hc⟩ ?_)
  have ht : (Value.type "tuple" == Value.type "tuple") = true := by rfl
  rw [if_pos (by rw [ht]; simp)]
  refine wpAny_bind (listItems_at ho' hd ?_)
  refine wpAny_bind (listItems_at (xs := #[]) (n := 0) (Heap.get?_push_size _ rfl) rfl ?_)
  rw [if_neg (by simp)]
  refine wpAny_bind (listUpdate_at (xs := #[]) (n := 0) (Heap.get?_push_size _ rfl) rfl ?_ (Nat.zero_le _) (by show (#[] ++ vs.toArray).size ≤ sizeLine + 1; simp only [Array.size_append, List.size_toArray, List.length_nil]; omega))
  refine wpAny_pure ?_
  show wpAny (model prog w) A (do
      let o ← load s.heap.objs.size
      match o.data with
      | .seq xs _ => pure xs.toList
      | _ => unsupported "internal:collect") Q E { s with heap := (s.heap.push (seqObj "list" #[] 0)).update s.heap.objs.size (Obj.mapSeq (· ++ vs.toArray)) }
  refine wpAny_bind (wpAny_load (get?_update_seq (Heap.get?_push_size _ rfl) _) ?_)
  show wpAny _ _ (pure ((#[] : Array Value) ++ vs.toArray).toList) Q E _
  rw [show ((#[] : Array Value) ++ vs.toArray).toList = vs by simp]
  exact wpAny_pure h
open SrtO in
theorem sorted_ordT {l : Addr} {vs : List Value} {ltv : Value → Value → Bool} {Q : Value → Shared → Prop} (O : Swo ltv) (hl : IsTup s.heap l vs.toArray) (hz : vs.length ≤ sizeLine)
    (hS : 2 ≤ vs.length → ∀ (h₁ : Heap) (a : Addr), h₁.get? a = some (seqObj "list" vs.toArray 0) → (∀ b o, s.heap.get? b = some o → b ≠ a ∧ h₁.get? b = some o) → SortableO prog w A.in1.in1 { s with heap := h₁ } a vs ltv)
    (h : ∀ out : List Value, Srtd ltv out → Stb ltv out vs → Q (.ref (s.heap.objs.size + 1)) { s with heap := sortedAll s.heap vs out.toArray }) :
    wpAny (model prog w) A (call (.builtin "sorted") [.ref l]) Q E s := by
  refine Calls.call_function_entry kind_sorted plain_sorted entry_sorted (args_sorted1 _) ?_
  unfold Builtin.«sorted»
  refine wpAny_bind (m := checkCount "sorted" 1 1 _) (wpAny_pure ?_)
  refine wpAny_bind (collect_tup hl ?_ hz)
  refine wpAny_bind (wpAny_newList ?_ hz)
  have hsz : ((s.heap.push (seqObj "list" #[] 0)).update s.heap.objs.size (Obj.mapSeq (· ++ vs.toArray))).objs.size = s.heap.objs.size + 1 := by
    rw [Heap.size_update, size_push']
  have hoL : (((s.heap.push (seqObj "list" #[] 0)).update s.heap.objs.size (Obj.mapSeq (· ++ vs.toArray))).push (seqObj "list" vs.toArray 0)).get? (s.heap.objs.size + 1) = some (seqObj "list" vs.toArray 0) := by
    rw [← hsz]; exact Heap.get?_push_size _ rfl
  have keep : ∀ b o, s.heap.get? b = some o → b ≠ s.heap.objs.size + 1 ∧ (((s.heap.push (seqObj "list" #[] 0)).update s.heap.objs.size (Obj.mapSeq (· ++ vs.toArray))).push (seqObj "list" vs.toArray 0)).get? b = some o := fun b o q => by
    have hlt : b < s.heap.objs.size := Heap.lt_size q
    refine ⟨Nat.ne_of_lt (Nat.lt_succ_of_lt hlt), Heap.get?_push_of_some _ ?_⟩
    rw [Heap.get?_update_ne _ _ _ _ (Nat.ne_of_lt hlt)]
    exact Heap.get?_push_of_some _ q
  show wpAny _ _ _ _ _ { s with heap := ((s.heap.push (seqObj "list" #[] 0)).update s.heap.objs.size (Obj.mapSeq (· ++ vs.toArray))).push (seqObj "list" vs.toArray 0) }
  rw [hsz]
  refine wpAny_bind (wpAny_holding (wpAny_call_entry slot_list_sort ⟨_, hoL, rfl⟩ entry_list_sort (list_sort_ord O hoL hz (fun h2 => hS h2 _ _ hoL keep) fun out hs hb => ⟨_, rfl, ?_⟩) (args_list_sort _)))
  exact wpAny_pure ⟨_, rfl, h out hs hb⟩
end
theorem or_sorted : CallR X (.builtin "sorted") (rC X.K (bi .sorted)) := by
  intro pins s σ H xs us Q I r h
  obtain ⟨ι, M, x, dx, d, rfl, m, r1, e, f⟩ := rC_one (by decide) h
  generalize e1 : dx.val M = wx at e
  simp only [bi1] at e
  cases q0 : rowOf wx with
  | none => rw [q0] at e; cases e
  | some ds =>
    rw [q0] at e
    simp only [Option.bind_some] at e
    cases q : ints? ds with
    | none => rw [q] at e; cases e
    | some bs =>
      rw [q] at e; cases e
      have := ints_map q
      subst this
      have fin : ∀ (ns' : List Int) (p : Addr), ns'.Perm bs → ns'.Pairwise (· ≤ ·) → H p = none → Q (.ref p) (upd H p (.lst (ns'.map V.int))) := fun ns' p h1 h2 h3 => by
        have : ns' = sortI bs := sorted_uniq (h1.trans (sortI_perm bs).symm) h2 (sortI_sorted bs)
        subst this
        exact f.lst (Rps.ofInts _) h3
      cases wx <;> simp only [rowOf] at q0 <;> cases q0
      · obtain ⟨_, a, vs, rfl, t1, k1⟩ := val_tup m r1 e1
        have := k1.ints
        subst this
        obtain ⟨its, rv, hl, hz⟩ := I.tuple t1.sq
        rw [Vals.ref1 r]
        have hi := rv.ints
        refine sorted_ordT SrtO.swo_int hl (by rw [← rv.length]; exact hz) (fun h2 h₁ a' _ _ => SrtO.ints_sortable hi h2) fun out h1 h2 => ?_
        obtain ⟨c1, c2, c3⟩ := SrtO.ints_out hi h1 h2
        obtain ⟨ep, he'⟩ := PyProof.Rows.sortedAll_at s.heap its out.toArray
        have hlen : ((out.map SrtO.iv).map V.int).length ≤ sizeLine := by
          rw [List.length_map, c2.length_eq]
          rw [List.length_map] at hz
          exact hz
        exact ⟨.ref _, upd H (s.heap.objs.size + 1) (.lst ((out.map SrtO.iv).map V.int)), I.laid (t' := s.toks) (fun _ _ => PyProof.Rows.sortedAll_old) (Nat.le_succ _) ⟨hlen, out, ep, vals_of_ints c1, he'⟩, rfl, fin _ _ c2 c3 (I.hok.fresh (Nat.le_succ _))⟩
      · obtain ⟨a, vs, rfl, t1, k1⟩ := val_lst m r1 e1
        have := k1.ints
        subst this
        exact cr_sortedI pins s σ H _ us Q I r ⟨a, bs, rfl, SqL.of t1, fin⟩
      · obtain ⟨_, a, vs, rfl, t1, k1⟩ := val_lok m r1 e1
        have := k1.ints
        subst this
        exact cr_sortedI pins s σ H _ us Q I r ⟨a, bs, rfl, t1.sq, fin⟩

/-! ### isinstance -/
def tyN : Ty → String
  | .int => "int" | .bool => "bool" | .str => "str" | .tuple => "tuple" | .list => "list" | .dict => "dict"
def dTy : D → String
  | .non => "NoneType" | .bl _ => "bool" | .int _ => "int" | .str _ => "str" | .tup _ => "tuple" | .lst _ => "list" | .lok _ => "list" | .dct _ _ => "dict" | .ref _ => "object"
theorem kit_all (t : Ty) (d : D) (b : Bool) (h : isTy t d = some b) : kitB (dTy d) (tyN t) = some b := by
  cases t <;> cases d <;> simp only [isTy] at h <;> cases h <;> (simp only [dTy, tyN]; decide +kernel)
theorem or_isi (t : Ty) : CallR X (.builtin "isinstance") (fun xs H Q => ∃ (ι : Kt) (M : Mem) (x : V) (dx : D) (b : Bool), xs = [x, .ty (tyN t)] ∧ Mr X.K ι M H ∧ Rp X.K ι H x dx ∧ isTy t (dx.val M) = some b ∧ Fin X.K ι H (.bl b) Q) := by
  intro pins s σ H xs us Q I r h
  obtain ⟨ι, M, x, dx, b, rfl, m, r1, e, f⟩ := h
  have fin : Q (.bl b) H := f.self (.bl b)
  generalize e1 : dx.val M = wx at e
  have hk := kit_all t wx b e
  refine call_isi pins s σ H _ us Q I r ⟨x, _, .type (dTy wx), .type (tyN t), b, rfl, .ty _, ?_, kit_ty hk, fin⟩
  cases wx with
  | non => rw [val_non m r1 e1]; exact .base .non
  | bl b => rw [val_bl m r1 e1]; exact .base (.bl _)
  | int i => rw [val_int m r1 e1]; exact .base (.int _)
  | str x => rw [(val_str m r1 e1).1]; exact .base (.str _)
  | tup ds =>
    obtain ⟨_, a, vs, rfl, t1, k1⟩ := val_tup m r1 e1
    rcases t1 with ⟨t1 | ⟨o, t1⟩, _⟩ | ⟨o, its, n, q1, q2, _⟩
    · exact .base (.tup t1)
    · exact .fTuple t1
    · exact .kTuple q1 q2
  | lst ds =>
    obtain ⟨a, vs, rfl, t1, k1⟩ := val_lst m r1 e1
    exact .base (.lst t1)
  | lok ds =>
    obtain ⟨_, a, vs, rfl, t1, k1⟩ := val_lok m r1 e1
    rcases t1 with ⟨⟨o, t1⟩, _⟩ | ⟨o, its, n, q1, q2, _⟩
    · exact .base (.frz t1)
    · exact .kList q1 q2
  | dct ks vs =>
    obtain ⟨a, kvs, rfl, t1, k1, k2⟩ := val_dct m r1 e1
    rcases t1 with t1 | ⟨o, t1⟩
    · exact .base (.dK t1)
    · exact .fDict t1
  | ref i => exact (val_ref m r1 e1).elim
end
end PD
/-! PD7: readings of the evaluator; what is walked -/
namespace PD
open PySem PySem.Spec PyProof.Rows L2

/-! ### readings -/
/-- what is wanted behind a result -/
def Pr {α : Type} (K : PySem.W.Frag) (ι : Kt) (s : Env) (σ : L2.St) (H : Hp) (r : R α) (k : α → Kt → Hp → Prop) : Prop := match r with
  | .ok a M' => ∀ ι' H', Ext ι H ι' H' → Rl K ι' s M' σ H' → k a ι' H'
  | _ => False
def kE (K : PySem.W.Frag) (Q : VK) : D → Kt → Hp → Prop := fun d ι' H' => ∀ v, Rp K ι' H' v d → Q v H'
def kT (Q : Bool → Hp → Prop) : D → Kt → Hp → Prop := fun d _ H' => ∃ b, d = .bl b ∧ Q b H'
def kA (K : PySem.W.Frag) (Q : List V → Hp → Prop) : List D → Kt → Hp → Prop := fun ds ι' H' => ∀ vs, Rps K ι' H' vs ds → Q vs H'
def tE (K : PySem.W.Frag) (T : Tbl) (e : E) : TE := fun σ H Q => ∃ ι s M, Rl K ι s M σ H ∧ Pr K ι s σ H (ev T e s M) (kE K Q)
def tT (K : PySem.W.Frag) (T : Tbl) (e : E) : TT := fun σ H Q => ∃ ι s M, Rl K ι s M σ H ∧ Pr K ι s σ H (ev T e s M) (kT Q)
def tA (K : PySem.W.Frag) (T : Tbl) (es : Es) : TA := fun σ H Q => ∃ ι s M, Rl K ι s M σ H ∧ Pr K ι s σ H (evs T es s M) (kA K Q)

section
variable {K : PySem.W.Frag} {ι ι' : Kt} {H H' : Hp} {s : Env} {σ : L2.St} {M : Mem} {α β : Type}
/-- one result, then another -/
theorem Pr.bind {r : R α} {f : α → Mem → R β} {k : β → Kt → Hp → Prop} (h : Pr K ι s σ H (r.bind f) k) : Pr K ι s σ H r fun a ι1 H1 => ∃ M1, Ext ι H ι1 H1 ∧ Rl K ι1 s M1 σ H1 ∧ r = .ok a M1 ∧ Pr K ι1 s σ H1 (f a M1) fun b ι2 H2 => k b ι2 H2 := by
  cases r with
  | ok a M1 =>
    intro ι1 H1 e1 rl1
    refine ⟨M1, e1, rl1, rfl, ?_⟩
    simp only [R.bind] at h
    cases q : f a M1 with
    | ok b M2 =>
      rw [q] at h
      exact fun ι2 H2 e2 rl2 => h ι2 H2 (e1.trans e2) rl2
    | ex _ _ _ => rw [q] at h; exact h
    | no => rw [q] at h; exact h
  | ex _ _ _ => exact h
  | no => exact h
theorem Pr.imp {r : R α} {k k' : α → Kt → Hp → Prop} (h : Pr K ι s σ H r k) (i : ∀ a ι' H', k a ι' H' → k' a ι' H') : Pr K ι s σ H r k' := by
  cases r with
  | ok a M1 => exact fun ι1 H1 e1 rl1 => i _ _ _ (h ι1 H1 e1 rl1)
  | ex _ _ _ => exact h
  | no => exact h
theorem Pr.of {o : Option α} {k : α → Kt → Hp → Prop} (h : Pr K ι s σ H (R.of M o) k) : ∃ a, o = some a ∧ Pr K ι s σ H (.ok a M) k := by
  cases o with
  | some a => exact ⟨a, rfl, h⟩
  | none => exact h.elim
theorem Pr.self {a : α} {k : α → Kt → Hp → Prop} (rl : Rl K ι s M σ H) (h : Pr K ι s σ H (.ok a M) k) : k a ι H := h ι H (Ext.refl ι H) rl
/-- a pure value -/
theorem Pr.fin {d : D} {Q : VK} (rl : Rl K ι s M σ H) (h : Pr K ι s σ H (.ok d M) (kE K Q)) : Fin K ι H d Q := fun v H' sm rp => h ι H' (Ext.same rl.mem sm) (rl.same sm) v rp
/-- a value that may be put into the memory -/
theorem Pr.finN {m : Bool} {d : D} {Q : VK} (rl : Rl K ι s M σ H) (h : Pr K ι s σ H (alloc m d M) (kE K Q)) : FinN K ι H d Q := by
  intro v H' r
  cases m with
  | false =>
    simp only [alloc, Bool.false_eq_true, if_false] at h
    cases r with
    | old c sm rp => exact Pr.fin rl h v H' sm rp
    | lst hp rps => exact Fin.lst rl.mem (Pr.fin rl h) rps hp
    | dct hp r1 r2 => exact Pr.fin rl h _ _ (same_upd hp) (.dct (.inl upd_same) (rl.mem.free hp) (Rps.ext (Ext.upd rl.mem hp) _ _ r1) (Rps.ext (Ext.upd rl.mem hp) _ _ r2))
  | true =>
    simp only [alloc, if_true] at h
    have hm : d.box = true := by
      cases q : d.box with
      | true => rfl
      | false => rw [q] at h; exact h.elim
    rw [if_pos hm] at h
    cases r with
    | old c sm rp => rw [hm] at c; cases c
    | @lst p vs ds hp rps =>
      have e := Ext.more rl.mem (o := HO.lst vs) hp
      refine h (ι.more p) _ e (rl.more hp (.lst upd_same (Rps.ext e _ _ rps))) _ (.ref ?_)
      show (ι.ι ++ [p])[M.length]? = some p
      rw [← rl.mem.len]
      simp
    | @dct p kvs ks vs hp r1 r2 =>
      have e := Ext.more rl.mem (o := HO.dK kvs) hp
      refine h (ι.more p) _ e (rl.more hp (.dct upd_same (Rps.ext e _ _ r1) (Rps.ext e _ _ r2))) _ (.ref ?_)
      show (ι.ι ++ [p])[M.length]? = some p
      rw [← rl.mem.len]
      simp
end

/-! ### weaker readings -/
section
variable {X : Cx}
theorem PE.imp {e : Expr} {t t' : TE} (h : PE X e t) (i : ∀ σ H Q, t' σ H Q → t σ H Q) : PE X e t' := ⟨fun pins s σ H Q I q => h.run pins s σ H Q I (i σ H Q q)⟩
theorem PT.imp {e : Expr} {t t' : TT} (h : PT X e t) (i : ∀ σ H Q, t' σ H Q → t σ H Q) : PT X e t' := ⟨fun pins s σ H Q I q => h.run pins s σ H Q I (i σ H Q q)⟩
theorem PW.imp {e : Expr} {t t' : TT} (h : PW X e t) (i : ∀ σ H Q, t' σ H Q → t σ H Q) : PW X e t' := ⟨fun wh pins s σ H Q I q => h.run wh pins s σ H Q I (i σ H Q q)⟩
theorem PA.imp {es : List Expr} {t t' : TA} (h : PA X es t) (i : ∀ σ H Q, t' σ H Q → t σ H Q) : PA X es t' := ⟨fun p pins s σ H Q I q => h.run p pins s σ H Q I (i σ H Q q)⟩
theorem PI.imp {tg it : Expr} {t t' : TI} (h : PI X tg it t) (i : ∀ σ H R, t' σ H R → t σ H R) : PI X tg it t' := ⟨fun pins s σ H R I q => h.run pins s σ H R I (i σ H R q)⟩
theorem PS.imp {st : Stmt} {t t' : TS} (h : PS X st t) (i : ∀ D σ H, t' D σ H → t D σ H) : PS X st t' := ⟨fun pins s σ H D I q => h.run pins s σ H D I (i D σ H q)⟩
theorem PSs.imp {st : List Stmt} {t t' : TS} (h : PSs X st t) (i : ∀ D σ H, t' D σ H → t D σ H) : PSs X st t' := ⟨fun pins s σ H D I q => h.run pins s σ H D I (i D σ H q)⟩
end

/-! ### what is walked -/
/-- the iterator J gives the items ds, while the guard g holds -/
def Wk (K : PySem.W.Frag) (J : It) (ds : List D) (g : Gd) (ι0 : Kt) (H0 : Hp) : Prop :=
  ∀ (ι : Kt) (M : Mem) (H : Hp) (i : Nat), Ext ι0 H0 ι H → Mr K ι M H → gok g M = true → (i = ds.length → J.stop i H) ∧ ∀ d, ds[i]? = some d → J.go i H ∧ ∀ x H', J.yld i H x H' → Same H H' ∧ Rp K ι H' x d
def tI (K : PySem.W.Frag) (T : Tbl) (it : Iq) : TI := fun σ H Rr => ∃ ι s M, Rl K ι s M σ H ∧ Pr K ι s σ H (evIt T it s M) fun xg ι' H' => ∀ J, Wk K J xg.1 xg.2 ι' H' → Rr J H'
section
variable {K : PySem.W.Frag} {ι ι' : Kt} {H H' : Hp} {s : Env} {σ : L2.St} {M : Mem}
/-- two looks at one list: what stands there now -/
theorem wk_list {a : Addr} {ds : List D} {g : Gd} (h : ∀ (ι' : Kt) (M : Mem) (H' : Hp), Ext ι H ι' H' → Mr K ι' M H' → gok g M = true → ∃ vs, SqL K H' a vs ∧ Rps K ι' H' vs ds) : Wk K (Itl K a) ds g ι H := by
  intro ι1 M1 H1 i e m gk
  obtain ⟨vs, h1, h2⟩ := h ι1 M1 H1 e m gk
  refine ⟨fun z => ⟨vs, h1, by rw [h2.length]; omega⟩, fun d hd => ?_⟩
  obtain ⟨v, hv, rp⟩ := h2.get hd
  refine ⟨⟨vs, v, h1, hv⟩, fun x H' y => ?_⟩
  obtain ⟨rfl, y⟩ := y
  have := y vs h1
  rw [hv] at this
  cases this
  exact ⟨Same.refl _, rp⟩
theorem wk_tup {a : Addr} {vs : List V} {ds : List D} {g : Gd} (h1 : TpV K ι H a vs) (h2 : Rps K ι H vs ds) : Wk K (Itt K a) ds g ι H := by
  intro ι1 M1 H1 i e m gk
  have h1 := (h1.ext e).sq
  have h2 := Rps.ext e _ _ h2
  refine ⟨fun z => ⟨vs, h1, by rw [h2.length]; omega⟩, fun d hd => ?_⟩
  obtain ⟨v, hv, rp⟩ := h2.get hd
  refine ⟨⟨vs, v, h1, hv⟩, fun x H' y => ?_⟩
  obtain ⟨rfl, y⟩ := y
  have := y vs h1
  rw [hv] at this
  cases this
  exact ⟨Same.refl _, rp⟩
theorem wk_str {x : Str} (h : sok x = true) {g : Gd} : Wk K (Its x) (x.cps.toList.map fun c => .str ⟨#[c]⟩) g ι H := by
  intro ι1 M1 H1 i e m gk
  refine ⟨fun z => ?_, fun d hd => ?_⟩
  · show x.cps.size ≤ i
    rw [z]; simp
  · rw [List.getElem?_map] at hd
    cases q : x.cps.toList[i]? with
    | none => rw [q] at hd; cases hd
    | some c =>
      rw [q] at hd
      cases hd
      have hc : x.cps[i]? = some c := by simpa using q
      refine ⟨(Array.getElem?_eq_some_iff.mp hc).1, fun v H' y => ?_⟩
      obtain ⟨rfl, c', e1, rfl⟩ := y
      rw [hc] at e1; cases e1
      exact ⟨Same.refl _, .str (sok_at h (List.mem_of_getElem? q))⟩
theorem rngD_get : ∀ (n : Nat) (lo : Int) (i : Nat) (d : D), (rngD lo n)[i]? = some d → i < n ∧ d = .int (lo + i)
  | 0, lo, i, d, h => by simp [rngD] at h
  | n + 1, lo, 0, d, h => by simp [rngD] at h; subst h; simp
  | n + 1, lo, i + 1, d, h => by
    simp only [rngD, List.getElem?_cons_succ] at h
    obtain ⟨h1, h2⟩ := rngD_get n (lo + 1) i d h
    refine ⟨by omega, ?_⟩
    rw [h2]
    congr 1
    omega
theorem rngD_len : ∀ (n : Nat) (lo : Int), (rngD lo n).length = n
  | 0, _ => rfl
  | n + 1, lo => by simp [rngD, rngD_len n]
theorem wk_rng {lo : Int} {n : Nat} {g : Gd} : Wk K (Itr lo n) (rngD lo n) g ι H := by
  intro ι1 M1 H1 i e m gk
  refine ⟨fun z => ?_, fun d hd => ?_⟩
  · show n ≤ i
    rw [z, rngD_len]; exact Nat.le_refl _
  · obtain ⟨h1, rfl⟩ := rngD_get n lo i d hd
    refine ⟨h1, fun v H' y => ?_⟩
    obtain ⟨rfl, rfl⟩ := y
    exact ⟨Same.refl _, .int _⟩
theorem enumFrom_get : ∀ (xs : List D) (n : Int) (i : Nat) (d : D), (enumFrom n xs)[i]? = some d → ∃ x, xs[i]? = some x ∧ d = .tup [.int (n + i), x]
  | [], n, i, d, h => by simp [enumFrom] at h
  | x :: xs, n, 0, d, h => by simp [enumFrom] at h; subst h; exact ⟨x, rfl, by simp⟩
  | x :: xs, n, i + 1, d, h => by
    simp only [enumFrom, List.getElem?_cons_succ] at h
    obtain ⟨y, h1, h2⟩ := enumFrom_get xs (n + 1) i d h
    refine ⟨y, by simpa using h1, ?_⟩
    rw [h2]
    have : n + 1 + (i : Int) = n + ((i + 1 : Nat) : Int) := by omega
    rw [this]
theorem enumFrom_len : ∀ (xs : List D) (n : Int), (enumFrom n xs).length = xs.length
  | [], _ => rfl
  | x :: xs, n => by simp [enumFrom, enumFrom_len xs]
theorem rp_pair {p : Addr} {x y : V} {a b : D} (m : Mr K ι M H) (hp : H p = none) (r1 : Rp K ι H x a) (r2 : Rp K ι H y b) : Same H (upd H p (.tup [x, y])) ∧ Rp K ι (upd H p (.tup [x, y])) (.ref p) (.tup [a, b]) :=
  ⟨same_upd hp, .tup (.inl ⟨.inl upd_same, m.free hp⟩) (Rps.ext (Ext.upd m hp) _ _ (.cons r1 (.cons r2 .nil)))⟩
theorem wk_enum {a : Addr} {ds : List D} {g : Gd} (h : ∀ (ι' : Kt) (M : Mem) (H' : Hp), Ext ι H ι' H' → Mr K ι' M H' → gok g M = true → ∃ vs, SqL K H' a vs ∧ Rps K ι' H' vs ds) : Wk K (Ite K a) (enumFrom 0 ds) g ι H := by
  intro ι1 M1 H1 i e m gk
  obtain ⟨vs, h1, h2⟩ := h ι1 M1 H1 e m gk
  refine ⟨fun z => ⟨vs, h1, by rw [h2.length, z, enumFrom_len]; exact Nat.le_refl _⟩, fun d hd => ?_⟩
  obtain ⟨x, hx, rfl⟩ := enumFrom_get ds 0 i d hd
  obtain ⟨v, hv, rp⟩ := h2.get hx
  refine ⟨⟨vs, v, h1, hv⟩, fun y H' yy => ?_⟩
  obtain ⟨p, z, rfl, hp, rfl, hz⟩ := yy
  have := hz vs h1
  rw [hv] at this
  cases this
  have e0 : (0 : Int) + (i : Int) = (i : Int) := by omega
  rw [e0]
  exact rp_pair m hp (.int _) rp
theorem zipD_get : ∀ (xs ys : List D) (i : Nat) (d : D), (zipD xs ys)[i]? = some d → ∃ x y, xs[i]? = some x ∧ ys[i]? = some y ∧ d = .tup [x, y]
  | [], _, i, d, h => by simp [zipD] at h
  | _ :: _, [], i, d, h => by simp [zipD] at h
  | x :: xs, y :: ys, 0, d, h => by simp [zipD] at h; subst h; exact ⟨x, y, rfl, rfl, rfl⟩
  | x :: xs, y :: ys, i + 1, d, h => by
    simp only [zipD, List.getElem?_cons_succ] at h
    obtain ⟨a, b, h1, h2, h3⟩ := zipD_get xs ys i d h
    exact ⟨a, b, by simpa using h1, by simpa using h2, h3⟩
theorem zipD_len : ∀ (xs ys : List D), (zipD xs ys).length = min xs.length ys.length
  | [], _ => by simp [zipD]
  | _ :: _, [] => by simp [zipD]
  | x :: xs, y :: ys => by simp only [zipD, List.length_cons, zipD_len xs ys]; omega
theorem wk_zipL {a b : Addr} {xs ys : List D} {vs us : List V} {g : Gd} (h : ∀ (ι' : Kt) (H' : Hp), Ext ι H ι' H' → SqL K H' a vs ∧ SqL K H' b us) (r1 : Rps K ι H vs xs) (r2 : Rps K ι H us ys) : Wk K (Itz K a b) (zipD xs ys) g ι H := by
  intro ι1 M1 H1 i e m gk
  obtain ⟨h1, h2⟩ := h ι1 H1 e
  have r1 := Rps.ext e _ _ r1
  have r2 := Rps.ext e _ _ r2
  refine ⟨fun z => ⟨vs, us, h1, h2, by rw [r1.length, r2.length]; rw [zipD_len] at z; omega⟩, fun d hd => ?_⟩
  obtain ⟨x, y, hx, hy, rfl⟩ := zipD_get xs ys i d hd
  obtain ⟨v, hv, rp⟩ := r1.get hx
  obtain ⟨u, hu, rp2⟩ := r2.get hy
  refine ⟨⟨vs, us, v, u, h1, h2, hv, hu⟩, fun z H' zz => ?_⟩
  obtain ⟨p, v', u', rfl, hp, rfl, k1, k2⟩ := zz
  have := k1 vs h1
  rw [hv] at this; cases this
  have := k2 us h2
  rw [hu] at this; cases this
  exact rp_pair m hp rp rp2
theorem wk_zipT {a b : Addr} {xs ys : List D} {vs us : List V} {g : Gd} (h1 : TpV K ι H a vs) (h2 : TpV K ι H b us) (r1 : Rps K ι H vs xs) (r2 : Rps K ι H us ys) : Wk K (RZ.ItzT K a b) (zipD xs ys) g ι H := by
  intro ι1 M1 H1 i e m gk
  have h1 := (h1.ext e).sq
  have h2 := (h2.ext e).sq
  have r1 := Rps.ext e _ _ r1
  have r2 := Rps.ext e _ _ r2
  refine ⟨fun z => ⟨vs, us, h1, h2, by rw [r1.length, r2.length]; rw [zipD_len] at z; omega⟩, fun d hd => ?_⟩
  obtain ⟨x, y, hx, hy, rfl⟩ := zipD_get xs ys i d hd
  obtain ⟨v, hv, rp⟩ := r1.get hx
  obtain ⟨u, hu, rp2⟩ := r2.get hy
  refine ⟨⟨vs, us, v, u, h1, h2, hv, hu⟩, fun z H' zz => ?_⟩
  obtain ⟨p, v', u', rfl, hp, rfl, k1, k2⟩ := zz
  have := k1 vs h1
  rw [hv] at this; cases this
  have := k2 us h2
  rw [hu] at this; cases this
  exact rp_pair m hp rp rp2
end

/-! ### enumerate(tuple) -/
def IteT (K : PySem.W.Frag) (a : Addr) : It :=
  ⟨fun i H => ∃ (xs : List V) (x : V), SqT K H a xs ∧ xs[i]? = some x, fun i H v H' => ∃ T x, v = .ref T ∧ H T = none ∧ H' = upd H T (.tup [.int (i : Nat), x]) ∧ ∀ xs, SqT K H a xs → xs[i]? = some x, fun i H => ∃ xs : List V, SqT K H a xs ∧ xs.length ≤ i⟩
theorem turn_enumT {P : Program} {w : World} {K : PySem.W.Frag} {elts : List Expr} {kk : Nat} {tpos : Pos} (a e it : Addr) (hat : a ≠ it) (hae : e ≠ a) :
    Turn P w K (.Tuple elts kk tpos) (IteT K a) [e, it] e (fun i h => (∃ old, IsEnum h e it ((i : Nat) : Int) old) ∧ h.IsTupleIter it a i ∧ e ≠ it) where
  mem := by simp
  obj := fun i h st b hb => by
    obtain ⟨⟨old, he⟩, ⟨o, ho, hc, hd⟩, _⟩ := st
    have e' : b = e ∨ b = it := by simpa using hb
    rcases e' with z | z
    · rw [z]; exact ⟨_, he, fun v q => nomatch q⟩
    · rw [z]; exact ⟨o, ho, fun v q => by rw [hd] at q; cases q⟩
  keep := fun i h h' st k => let ⟨⟨old, he⟩, hi, hne⟩ := st; ⟨⟨old, k e (by simp) _ he⟩, hi.at fun o q => k it (by simp) o q, hne⟩
  item := by
    intro X hP hw hK hc i pins s σ H E I hf st hg
    subst hP hw hK
    obtain ⟨⟨old, he⟩, hit, hne⟩ := st
    obtain ⟨xs, x, hq, hx⟩ := hg
    obtain ⟨its, rv, p, hz⟩ := I.tuple hq
    obtain ⟨u, hu, ru⟩ := rv.get hx
    have hel : e < s.heap.objs.size := Heap.lt_size he
    have hil : it < s.heap.objs.size := by obtain ⟨_, q, _⟩ := hit; exact Heap.lt_size q
    have hi : i < its.toArray.size := by
      have := (List.getElem?_eq_some_iff.mp hu).1
      simpa using this
    refine wpAny_pyNext_enum_itemC (c := (i : Nat)) (Draws.tuple (A := X.A.in1) (I.ok.hd hc) it a hat its.toArray) he ⟨hit, show s.heap.IsTuple a its.toArray from p⟩ hi hne (by simp [hne, hae]) fun x' h' tk hP ho hs' hT hsz hk => ?_
    have hux : x' = u := by
      have hP' : its.toArray[i]? = some x' := hP
      have : its[i]? = some x' := by simpa using hP'
      rw [hu] at this
      exact (Option.some.inj this).symm
    subst hux
    obtain ⟨hit', _⟩ := hs'
    refine ⟨_, rfl, wpAny_letOwnedTupleGo_enum (s := { s with heap := h', toks := tk + 1 }) ho fun h'' he' sb => ?_⟩
    have hT2 : h''.get? s.heap.objs.size = some { cls := .type "tuple", data := .seq #[.int i tk, x'] } := (sb.2 _ (Nat.ne_of_gt hel)).trans hT
    have new : ObjOk X.prog X.w (upd H s.heap.objs.size (.tup [.int (i : Nat), x])) h'' s.heap.objs.size (.tup [.int (i : Nat), x]) :=
      ⟨by show 2 ≤ sizeLine; decide, [.int i tk, x'], .cons ⟨_, rfl⟩ (.cons ru .nil), ⟨_, hT2, rfl, _, rfl⟩⟩
    have I1 : Inv X pins σ (upd H s.heap.objs.size (.tup [.int (i : Nat), x])) { s with heap := h'', toks := tk + 1 } :=
      I.turnedNew (ch := [e, it]) (fun b ob hb q => (sb.2 b (fun z => hb (by simp [z]))).trans (hk b ob (fun z => hb (by simp [z])) (fun z => hb (by simp [z])) q)) hf (Nat.le_refl _) new
    refine ⟨.ref s.heap.objs.size, _, I1, rfl, ⟨_, x, rfl, I.hok.fresh (Nat.le_refl _), rfl, fun ys hy => by rw [I.tuple_inj hy hq]; exact hx⟩, ⟨⟨x', ?_⟩, hit'.at fun o q => (sb.2 it (Ne.symm hne)).trans q, hne⟩, fun b hb => ?_⟩
    · have e1 : ((i + 1 : Nat) : Int) = (i : Int) + 1 := by omega
      rw [e1]; exact he'
    · have hb' : b < s.heap.objs.size := by
        have e' : b = e ∨ b = it := by simpa using hb
        rcases e' with z | z
        · rw [z]; exact hel
        · rw [z]; exact hil
      rw [upd_ne (Nat.ne_of_lt hb')]
      exact (hf b hb).1
  done := by
    intro X hP hw hK hc i pins s σ H E I hf st hg
    subst hP hw hK
    obtain ⟨⟨old, he⟩, hit, hne⟩ := st
    obtain ⟨xs, hq, hx⟩ := hg
    obtain ⟨its, rv, p, hz⟩ := I.tuple hq
    obtain ⟨f0, f1, f2, f3, f4, f5⟩ := hf it (by simp)
    have hl := rv.length
    have hT : s.TypeIs (.ref e) "enumerate" := ⟨_, he, rfl⟩
    unfold pyNext
    refine wpAny_bind (wpAny_attempt (wpAny_callSpecial?_slot (name := Str.ofString "__next__") hT F.slot_enumerate_next
      (wpAny_call_entry F.slot_enumerate_next hT F.entry_enumerate_next ?_ (F.args_enumerate_next_1 _))))
    show wpAny _ _ (field (.ref e) 2 >>= _) _ _ _
    refine wpAny_bind (wpAny_field he rfl (x := .ref it) rfl ?_)
    refine wpAny_bind (RZ.nextOf_tuple_end (I.ok.hd hc) hit (show s.heap.IsTuple a its.toArray from p) (by simp; omega) fun h' x he' hx' => ?_)
    obtain ⟨o, ho, hcl⟩ := hx'
    refine wpAny_bind (wpAny_isInstance (T := "StopIteration") (b := true) ⟨o, ho, hcl⟩ isSubtype_stop ?_)
    exact wpAny_pure ⟨rfl, I.turned (t' := s.toks) (fun b o hb q => he' b o hb q) f0 f1 f3 f4 f5⟩
  self := fun A i s Q E st h => let ⟨⟨_, he⟩, _⟩ := st; wpAny_pyIter_enum he h
theorem wk_enumT {K : PySem.W.Frag} {ι : Kt} {H : Hp} {a : Addr} {ds : List D} {vs : List V} {g : Gd} (h1 : TpV K ι H a vs) (h2 : Rps K ι H vs ds) : Wk K (IteT K a) (enumFrom 0 ds) g ι H := by
  intro ι1 M1 H1 i e m gk
  have h1 := (h1.ext e).sq
  have h2 := Rps.ext e _ _ h2
  refine ⟨fun z => ⟨vs, h1, by rw [h2.length, z, enumFrom_len]; exact Nat.le_refl _⟩, fun d hd => ?_⟩
  obtain ⟨x, hx, rfl⟩ := enumFrom_get ds 0 i d hd
  obtain ⟨v, hv, rp⟩ := h2.get hx
  refine ⟨⟨vs, v, h1, hv⟩, fun y H' yy => ?_⟩
  obtain ⟨p, z, rfl, hp, rfl, hz⟩ := yy
  have := hz vs h1
  rw [hv] at this
  cases this
  have e0 : (0 : Int) + (i : Int) = (i : Int) := by omega
  rw [e0]
  exact rp_pair m hp (.int _) rp

/-! ### enumerate(v) of anything that begins -/
section
open AutoSeq1 (wpAny_loadPart')
set_option maxHeartbeats 1000000 in
theorem meets_enumerate_new1 {v : Value} {o : Obj} {H : Heap → Prop} (B : Begins v o H) :
    Meets (Builtin.«enumerate.__new__» ⟨[.type "enumerate", v], []⟩) (fun _ R s => H s.heap ∧
      R (.ok (.ret (.ref (s.heap.push o).objs.size))) { s with heap := (s.heap.push o).push { cls := .type "enumerate", data := .fields #[.none, .bool false, .ref s.heap.objs.size, rawInt 0, .none, .none] } }) :=
  .of_wp fun prog w A R s h => by
    obtain ⟨hp, g, d, tk, os⟩ := s; obtain ⟨h1, h⟩ := h
    have hsub := sub_enumerate
    have q1 : ∀ {A' : Around} {E : Value → Shared → Prop} {Q : Value → Shared → Prop}, Q (.ref hp.objs.size) ⟨hp.push o, g, d, tk, os⟩ → wpAny (model prog w) A' (pyIter v) Q E ⟨hp, g, d, tk, os⟩ :=
      fun q => B.iter prog w _ _ ⟨hp, g, d, tk, os⟩ _ h1 q
    wp_walk using q1
    refine wpAny_stack_any fun st => wpAny_pure ?_
    split
    · rename_i c _ _ _ _ _
      cases (c == Value.type "enumerate")
      · wp_walk using q1
        exact ⟨_, rfl, h⟩
      · wp_walk using q1
        exact ⟨_, rfl, h⟩
    · wp_walk using q1
      exact ⟨_, rfl, h⟩
theorem call_enumerateB {prog : Program} {w : World} {A : Around} {E : Value → Shared → Prop} {s : Shared} {v : Value} {o : Obj} {H : Heap → Prop} {Q : Value → Shared → Prop} (B : Begins v o H) (h1 : H s.heap)
    (h : ∀ h', IsEnum h' (s.heap.objs.size + 1) s.heap.objs.size 0 .none → h'.get? s.heap.objs.size = some o → h'.objs.size = s.heap.objs.size + 2 →
      (∀ b o, s.heap.get? b = some o → h'.get? b = some o) → Q (.ref (s.heap.objs.size + 1)) { s with heap := h' }) :
    wpAny (model prog w) A (call (.type "enumerate") [v]) Q E s := by
  refine callType_new F.called_enumerate (by decide) (F.typeCall_enumerate_1 _) (F.newCall_enumerate_1 _) (fun obj => F.args_object_init_2 obj _) F.entry_enumerate_new
    (meets_enumerate_new1 B) ⟨h1, ?_⟩
  have hz : (s.heap.push o).objs.size = s.heap.objs.size + 1 := Heap.size_push ..
  show _ ∧ _
  rw [hz]
  have he : IsEnum ((s.heap.push o).push { cls := .type "enumerate", data := .fields #[.none, .bool false, .ref s.heap.objs.size, rawInt 0, .none, .none] }) (s.heap.objs.size + 1) s.heap.objs.size 0 .none := by
    have := Heap.get?_push_size (s.heap.push o) (o := { cls := .type "enumerate", data := .fields #[.none, .bool false, .ref s.heap.objs.size, rawInt 0, .none, .none] }) rfl
    rw [hz] at this; exact this
  refine ⟨⟨_, he, rfl⟩, h _ he (Heap.get?_push_of_some _ (Heap.get?_push_size _ B.free)) (by rw [Heap.size_push, hz]) fun b o x => Heap.get?_push_of_some _ (Heap.get?_push_of_some _ x)⟩
end

/-! ### rules for what is walked -/
section
variable {X : Cx} {tg : Expr}
/-- by values: the value of an expression is walked -/
def IterR (X : Cx) (tg : Expr) (r : V → Hp → (It → Hp → Prop) → Prop) : Prop :=
  ∀ (pins : List (Addr × Obj)) (s : Shared) (σ : L2.St) (H : Hp) (x : V) (v : Value) (Rr : It → Hp → Prop), Inv X pins σ H s → RelV x v → r x H Rr → wpAny (model X.prog X.w) X.A (pyIter v) (PIE X pins σ tg Rr) X.xe s
theorem pi_of {e : Expr} {te : TE} {r : V → Hp → (It → Hp → Prop) → Prop} (hr : IterR X tg r) (he : PE X e te) : PI X tg e (fun σ H Rr => te σ H fun x H1 => r x H1 Rr) :=
  ⟨fun pins s σ H Rr I h => thn (he.run pins s σ H _ I h) fun v s1 ⟨x, H1, I1, r1, q1⟩ => hr pins s1 σ H1 x v Rr I1 r1 q1⟩
theorem iter_list : IterR X tg (fun x H Rr => ∃ a xs, x = .ref a ∧ SqL X.K H a xs ∧ Rr (Itl X.K a) H) := by
  intro pins s σ H x v Rr I r h
  obtain ⟨a, xs, rfl, hq, q⟩ := h
  cases r
  obtain ⟨its, rv, p, hz⟩ := I.list hq
  refine wpAny_pyIter_list p.isList ?_
  refine ⟨s.heap.objs.size, [s.heap.objs.size], _, _, H, rfl, I.kept (t' := s.toks) fun b o e => Heap.get?_push_of_some _ e, turn_list a _, ⟨_, Heap.get?_push_size _ rfl, rfl, rfl⟩, fun b hb => ?_, q⟩
  have e : b = s.heap.objs.size := by simpa using hb
  subst e
  exact I.fpOk (Nat.le_refl _) (I.hok.fresh (Nat.le_refl _))
theorem iter_tup : IterR X tg (fun x H Rr => ∃ a xs, x = .ref a ∧ SqT X.K H a xs ∧ Rr (Itt X.K a) H) := by
  intro pins s σ H x v Rr I r h
  obtain ⟨a, xs, rfl, hq, q⟩ := h
  cases r
  obtain ⟨its, rv, p, hz⟩ := I.tuple hq
  refine wpAny_pyIter_tuple (show s.heap.IsTuple a its.toArray from p) ?_
  refine ⟨s.heap.objs.size, [s.heap.objs.size], _, _, H, rfl, I.kept (t' := s.toks) fun b o e => Heap.get?_push_of_some _ e, turn_tuple a _, ⟨_, Heap.get?_push_size _ rfl, rfl, rfl⟩, fun b hb => ?_, q⟩
  have e : b = s.heap.objs.size := by simpa using hb
  subst e
  exact I.fpOk (Nat.le_refl _) (I.hok.fresh (Nat.le_refl _))
theorem iter_str : IterR X tg (fun x H Rr => ∃ z, x = .str z ∧ Rr (Its z) H) := by
  intro pins s σ H y v Rr I r h
  obtain ⟨x, rfl, q⟩ := h
  obtain ⟨t, rfl⟩ := r
  cases ha : x.cps.all (· < 128)
  · exact wpAny_pyIter_wide ha (pi_one (tk := s.toks) I _ (turn_str _ x t "str_iterator" (.inr rfl)) ⟨_, Heap.get?_push_size _ rfl, rfl, rfl⟩ q)
  · exact wpAny_pyIter_ascii ha (pi_one (tk := s.toks) I _ (turn_str _ x t "str_ascii_iterator" (.inl rfl)) ⟨_, Heap.get?_push_size _ rfl, rfl, rfl⟩ q)
/-- an item of the memory, or a value that stays -/
theorem stays_lst {K : PySem.W.Frag} {ι : Kt} {H : Hp} {M : Mem} {v : V} {d : D} {ds : List D} (m : Mr K ι M H) (r : Rp K ι H v d) (e : d.val M = .lst ds) :
    ∃ a, v = .ref a ∧ (∃ vs, SqL K H a vs) ∧ ∀ (ι' : Kt) (M' : Mem) (H' : Hp), Ext ι H ι' H' → Mr K ι' M' H' → gok (gdOf M d) M' = true → ∃ vs, SqL K H' a vs ∧ Rps K ι' H' vs ds := by
  cases d with
  | ref i =>
    obtain ⟨a, d', rfl, h1, h2, h3, c⟩ := m.cellOf r
    rw [h3] at e; subst e
    cases c with
    | lst h q =>
      refine ⟨a, rfl, ⟨_, SqL.of h⟩, fun ι' M' H' ex m' gk => ?_⟩
      simp only [gdOf, gok, List.getD, h2, Option.getD_some, decide_eq_true_eq] at gk
      cases m'.cell i a _ (ex.get h1) gk with
      | lst h q => exact ⟨_, SqL.of h, q⟩
  | lst xs =>
    simp only [D.val] at e; cases e
    cases r with
    | lst h n q => exact ⟨_, rfl, ⟨_, SqL.of h⟩, fun ι' M' H' ex m' gk => ⟨_, SqL.of (ex.kept h n), Rps.ext ex _ _ q⟩⟩
  | _ => simp [D.val] at e
theorem stays_lok {K : PySem.W.Frag} {ι : Kt} {H : Hp} {M : Mem} {v : V} {d : D} {ds : List D} {g : Gd} (m : Mr K ι M H) (r : Rp K ι H v d) (e : d.val M = .lok ds) :
    ∃ a, v = .ref a ∧ (∃ vs, SqL K H a vs) ∧ ∀ (ι' : Kt) (M' : Mem) (H' : Hp), Ext ι H ι' H' → Mr K ι' M' H' → gok g M' = true → ∃ vs, SqL K H' a vs ∧ Rps K ι' H' vs ds := by
  obtain ⟨_, a, vs, rfl, t1, k1⟩ := val_lok m r e
  exact ⟨a, rfl, ⟨vs, t1.sq⟩, fun ι' M' H' ex m' gk => ⟨vs, (t1.ext ex).sq, Rps.ext ex _ _ k1⟩⟩
theorem iter_val : IterR X tg (fun x H Rr => ∃ ι M dx ds, Mr X.K ι M H ∧ Rp X.K ι H x dx ∧ itemsOf (dx.val M) = some ds ∧ ∀ J, Wk X.K J ds (gdOf M dx) ι H → Rr J H) := by
  intro pins s σ H x v Rr I r h
  obtain ⟨ι, M, dx, ds, m, rp, e, q⟩ := h
  generalize e1 : dx.val M = wx at e
  cases wx <;> simp only [itemsOf] at e <;> cases e
  · obtain ⟨a1, k1⟩ := val_str m rp e1
    exact iter_str pins s σ H x v Rr I r ⟨_, a1, q _ (wk_str k1)⟩
  · obtain ⟨_, a, vs, a1, t1, k1⟩ := val_tup m rp e1
    exact iter_tup pins s σ H x v Rr I r ⟨a, vs, a1, t1.sq, q _ (wk_tup t1 k1)⟩
  · obtain ⟨a, a1, ⟨vs, hv⟩, st⟩ := stays_lst m rp e1
    exact iter_list pins s σ H x v Rr I r ⟨a, vs, a1, hv, q _ (wk_list st)⟩
  · obtain ⟨a, a1, ⟨vs, hv⟩, st⟩ := stays_lok (g := gdOf M dx) m rp e1
    exact iter_list pins s σ H x v Rr I r ⟨a, vs, a1, hv, q _ (wk_list st)⟩
/-- enumerate(x) of a list or a tuple -/
theorem pi_enumA {e : Expr} {ta : TA} {p pos tpos : Pos} {elts : List Expr} {kk : Nat} (hg : Gl X "enumerate") (hm : X.mg "enumerate" = none) (ha : PA X [e] ta) (hs : starEach [e] X.env = [(false, eval e X.env)]) :
    PI X (.Tuple elts kk tpos) (.Call (.Name "enumerate" p) [e] [] pos) (fun σ H Rr => ta σ H fun vs H1 => ∃ a xs, vs = [.ref a] ∧ ((SqL X.K H1 a xs ∧ Rr (Ite X.K a) H1) ∨ (SqT X.K H1 a xs ∧ Rr (IteT X.K a) H1))) := by
  refine ⟨fun pins s σ H R I h => ?_⟩
  refine Call_ (ld_blt I hg hm boot_enumerate (PyProof.Rows.callWith_type1 (thn (ha.run pos pins s σ H _ I h) fun us s1 ⟨vs, H1, I1, r1, q1⟩ => ?_) hs rfl))
  obtain ⟨a, xs, ex, q⟩ := q1
  subst ex
  cases r1 with
  | cons r rr =>
    cases rr
    cases r
    have fresh : ∀ b ∈ [s1.heap.objs.size + 1, s1.heap.objs.size], FpOk X pins H1 b := fun b hb => by
      have e' : b = s1.heap.objs.size + 1 ∨ b = s1.heap.objs.size := by simpa using hb
      have hle : s1.heap.objs.size ≤ b := by
        rcases e' with z | z
        · rw [z]; exact Nat.le_add_right _ _
        · rw [z]; exact Nat.le_refl _
      exact I1.fpOk hle (I1.hok.fresh hle)
    rcases q with ⟨hq, q⟩ | ⟨hq, q⟩
    · obtain ⟨its, rv, p', hz⟩ := I1.list hq
      refine call_enumerate_list p'.isList fun h' he hit hsz hk => wpAny_pyIter_enum he ?_
      have I2 : Inv X pins σ H1 { s1 with heap := h' } := I1.kept (t' := s1.toks) hk
      exact ⟨s1.heap.objs.size + 1, [s1.heap.objs.size + 1, s1.heap.objs.size], _, _, H1, rfl, I2, turn_enum a (s1.heap.objs.size + 1) s1.heap.objs.size, ⟨⟨.none, he⟩, hit, Nat.succ_ne_self _⟩, fresh, q⟩
    · obtain ⟨its, rv, p', hz⟩ := I1.tuple hq
      have hal : a < s1.heap.objs.size := p'.lt
      refine PD.call_enumerateB (begins_tuple a its.toArray) (show s1.heap.IsTuple a its.toArray from p') fun h' he hit hsz hk => wpAny_pyIter_enum he ?_
      have I2 : Inv X pins σ H1 { s1 with heap := h' } := I1.kept (t' := s1.toks) hk
      exact ⟨s1.heap.objs.size + 1, [s1.heap.objs.size + 1, s1.heap.objs.size], _, _, H1, rfl, I2, turn_enumT a (s1.heap.objs.size + 1) s1.heap.objs.size (Nat.ne_of_lt hal) (Nat.ne_of_lt (Nat.lt_succ_of_lt hal)).symm, ⟨⟨.none, he⟩, ⟨_, hit, rfl, rfl⟩, Nat.succ_ne_self _⟩, fresh, q⟩
end
end PD
/-! PD8: the checker: an own term is what stands in the law's syntax tree -/
namespace PD
open PySem

/-- a def: its number, its parameters, its defaults -/
structure Fi where
  ix : Nat
  ps : List Str
  ds : List D
  pn : List Nat
  kn : List Nat
structure Cc where
  N : List Str
  fns : List (Str × Fi)
  cs : List (Str × D)

def visB (sc : Scope) (x : Str) : Bool := match sc.names.lookup x with
  | some .local => true
  | some .cell => true
  | some .free => true
  | _ => false
def locB (sc : Scope) (x : Str) : Bool := match sc.names.lookup x with
  | some .local => true
  | some .cell => true
  | _ => false
def glB (sc : Scope) (x : Str) : Bool := decide (sc.names.lookup x = some .globalImplicit)
def okN (x : Str) : Bool := !(x == ("__debug__" : Str)) && !(x == ("__classdict__" : Str)) && !decide (x = ("__name__" : Str))
def chkC : D → Const → Bool
  | .int i, .int j => decide (i = j)
  | .bl i, .bool j => decide (i = j)
  | .str i, .str j => decide (i = j) && (j.cps.all (fun c => decide (c < 0x110000)) && decide (j.length ≤ sizeLine))
  | .non, .none => true
  | _, _ => false
def binOf : Op → Option Operator
  | .add => some .Add | .sub => some .Sub | .mul => some .Mult | .fdiv => some .FloorDiv | .mod => some .Mod | .pow => some .Pow | .xor => some .BitXor
  | _ => none
def cmpOf : Op → Option CmpOp
  | .eq => some .Eq | .ne => some .NotEq | .lt => some .Lt | .le => some .LtE | .gt => some .Gt | .ge => some .GtE | .isin => some .In | .notin => some .NotIn
  | _ => none
def biN : Bi → Str
  | .len => "len" | .tup => "tuple" | .lst => "list" | .sorted => "sorted" | .all => "all" | .any => "any" | .min => "min" | .max => "max" | .abs => "abs" | .int => "int" | .sum => "sum"
def tyS : Ty → Str
  | .int => "int" | .bool => "bool" | .str => "str" | .tuple => "tuple" | .list => "list" | .dict => "dict"
def meN : Me → Str
  | .append => "append" | .extend => "extend" | .pop => "pop" | .get => "get" | .setdefault => "setdefault" | .split => "split" | .items => "items" | .keys => "keys"
def meOk : Me → Bool
  | .append => true | .pop => true | .split => true | _ => false
def noStar : Expr → Bool
  | .Starred _ _ => false
  | _ => true
def noSet : Expr → Bool
  | .Set _ _ _ => false
  | _ => true
def noSlice : Expr → Bool
  | .Slice _ _ _ _ => false
  | _ => true
def noCall0 : Expr → Bool
  | .Call _ [] _ _ => false
  | _ => true
def isNul : E → Bool
  | .nul => true
  | _ => false
def relB (scope sc : Scope) : Scope := { scope with names := scope.names.map fun (n, k) => if (k == .free && sc.kind == .function && sc.names.lookup n == some .cell) then (n, .cell) else (n, k) }
def ownN (N : List Str) (own : List Nat) : List (Str × Nat) := own.map fun i => (N.getD i Str.empty, i)
def Fi.dsAt (fi : Fi) (n : Nat) : List D := fi.ds.drop (n + fi.ds.length - fi.ps.length)

mutual
def chkT (N : List Str) (so : Scope) : Tg → Expr → Bool
  | .nm i, e => match e with
    | .Name x _ => decide (N[i]? = some x) && locB so x
    | _ => false
  | .tp ts, e => match e with
    | .Tuple es _ _ => chkTs N so ts es
    | _ => false
def chkTs (N : List Str) (so : Scope) : Tgs → List Expr → Bool
  | .nil, es => es.isEmpty
  | .cons t ts, es => match es with
    | e :: r => chkT N so t e && chkTs N so ts r
    | [] => false
end
mutual
/-- the slots that a target stores to are among these -/
def Tg.within (own : List Nat) : Tg → Bool
  | .nm i => own.contains i
  | .tp ts => ts.within own
def Tgs.within (own : List Nat) : Tgs → Bool
  | .nil => true
  | .cons t ts => t.within own && ts.within own
end
mutual
def chk (c : Cc) (sc : Scope) : E → Expr → Bool
  | .v i, e => match e with
    | .Name x _ => decide (c.N[i]? = some x) && visB sc x && okN x
    | _ => false
  | .c d, e => match e with
    | .Constant k _ _ => chkC d k
    | _ => false
  | .g d, e => match e with
    | .Name x _ => glB sc x && okN x && decide (c.cs.lookup x = some d)
    | _ => false
  | .tup es, e => match e with
    | .Tuple es' _ _ => decide (es'.length ≤ 1000) && chks c sc es es'
    | _ => false
  | .ls _ es, e => match e with
    | .List es' _ => decide (es'.length ≤ 1000) && chks c sc es es'
    | _ => false
  | .op o a b, e => match e with
    | .BinOp a' o' b' _ => decide (binOf o = some o') && chk c sc a a' && chk c sc b b'
    | .Compare a' [o'] [b'] _ => decide (cmpOf o = some o') && noSet b' && chk c sc a a' && chk c sc b b'
    | .Subscript a' b' _ => decide (o = .ix) && noSlice b' && chk c sc a a' && chk c sc b b'
    | _ => false
  | .isN neg a, e => match e with
    | .Compare a' [o'] [.Constant .none _ _] _ => decide (o' = if neg then .IsNot else .Is) && chk c sc a a'
    | _ => false
  | .not a, e => match e with
    | .UnaryOp .Not a' _ => chk c sc a a'
    | _ => false
  | .neg a, e => match e with
    | .UnaryOp .USub a' _ => chk c sc a a'
    | _ => false
  | .and es, e => match e with
    | .BoolOp .And es' _ => !es'.isEmpty && chks c sc es es'
    | _ => false
  | .or es, e => match e with
    | .BoolOp .Or es' _ => !es'.isEmpty && chks c sc es es'
    | _ => false
  | .ite t a b, e => match e with
    | .IfExp t' a' b' _ => chk c sc t t' && chk c sc a a' && chk c sc b b'
    | _ => false
  | .cmp2 o1 o2 x y z, e => match e with
    | .Compare x' [o1', o2'] [y', z'] _ => decide (cmpOf o1 = some o1') && decide (cmpOf o2 = some o2') && noSet z' && chk c sc x x' && chk c sc y y' && chk c sc z z'
    | _ => false
  | .isi t a, e => match e with
    | .Call (.Name f _) [a', .Name ty _] [] _ => decide (f = ("isinstance" : Str)) && glB sc f && decide (ty = tyS t) && glB sc ty && noStar a' && chk c sc a a'
    | _ => false
  | .bi _ f es, e => match e with
    | .Call (.Name x _) es' [] _ => decide (x = biN f) && glB sc x && !es'.isEmpty && chks c sc es es'
    | _ => false
  | .me f o es, e => match e with
    | .Call (.Attribute o' m apos) es' [] cpos => meOk f && decide (m = meN f) && (apos.endLine == cpos.line) && noCall0 o' && decide (es'.length ≤ 3) && chk c sc o o' && chks c sc es es'
    | _ => false
  | .sl _ a lo hi, e => match e with
    | .Subscript a' (.Slice lo' hi' none _) _ => chk c sc a a' && (match lo' with
        | none => isNul lo
        | some l => chk c sc lo l) && (match hi' with
        | none => isNul hi
        | some l => chk c sc hi l)
    | _ => false
  | .nul, _ => false
  | .call _ f es ds, e => match e with
    | .Call (.Name x _) es' kws _ => glB sc x && okN x && (match c.fns.lookup x with
        | some fi => decide (fi.ix = f) && decide (ds = fi.dsAt (es'.length + kws.length)) && decide (kws.map (·.arg) = ((fi.ps.drop es'.length).take kws.length).map some)
            && (if kws.isEmpty then fi.pn.contains es'.length else fi.kn.contains es'.length && decide (es'.length + kws.length = fi.ps.length)) && decide (es'.length + kws.length ≤ fi.ps.length) && decide (fi.ps.length ≤ es'.length + kws.length + fi.ds.length)
        | none => false) && chks c sc es (es' ++ kws.map (·.value))
    | _ => false
  | .lc _ own elt t it ifs, e => match e with
    | .ListComp elt' [⟨tg, iter, ifs', 0⟩] scope _ => L2.blkC c.N sc scope (ownN c.N own) && chkT c.N scope t tg && t.within own && chkI c sc it tg iter && decide (ifs'.length ≤ 1) && chks c (relB scope sc) ifs ifs' && chk c (relB scope sc) elt elt'
    | _ => false
  | .dd _, e => match e with
    | .Dict [] [] _ => true
    | _ => false
def chks (c : Cc) (sc : Scope) : Es → List Expr → Bool
  | .nil, es => es.isEmpty
  | .cons a r, es => match es with
    | e :: s => noStar e && chk c sc a e && chks c sc r s
    | [] => false
def chkI (c : Cc) (sc : Scope) : Iq → Expr → Expr → Bool
  | .val a, _, e => noSet e && chk c sc a e
  | .rng es, _, e => match e with
    | .Call (.Name x _) es' [] _ => decide (x = ("range" : Str)) && glB sc x && decide (1 ≤ es'.length) && decide (es'.length ≤ 2) && chks c sc es es'
    | _ => false
  | .enum a, tg, e => match tg with
    | .Tuple _ _ _ => (match e with
      | .Call (.Name x _) [a'] [] _ => decide (x = ("enumerate" : Str)) && glB sc x && noStar a' && chk c sc a a'
      | _ => false)
    | _ => false
  | .zip a b, tg, e => match tg with
    | .Tuple _ _ _ => (match e with
      | .Call (.Name x _) [a', b'] [] _ => decide (x = ("zip" : Str)) && glB sc x && noStar a' && noStar b' && chk c sc a a' && chk c sc b b'
      | _ => false)
    | _ => false
end

/-! ### statements -/
def noComp : Expr → Bool
  | .ListComp _ _ _ _ => false
  | .SetComp _ _ _ _ => false
  | .DictComp _ _ _ _ _ => false
  | _ => true
def swNm (sc : Scope) (line : Nat) : Expr → Option Str
  | .Name id pos => if (sc.names.lookup id == some .local && pos.line == line) = true then some id else none
  | _ => none
/-- what a tuple stored to a tuple of names does (swappedStores) -/
def swP (sc : Scope) (ts vs : List Expr) : Option (Option (List Str)) :=
  if (!(ts.length == 2 || ts.length == 3) || vs.length != ts.length) = true then some none else
  if (vs.any fun | .Starred .. => true | _ => false) = true then some none else
  let line := (ts.head?.map (·.pos.line)).getD 0
  let names := ts.filterMap (swNm sc line)
  if (names.length != ts.length || names.eraseDups.length != names.length) = true then some none else
  if (vs.all (foldedForSure 8)) = true then some none else
  if (vs.all (constantsAlone 8)) = true then none else some (some names)
def swE (sc : Scope) (tg e : Expr) : Option (Option (List Str)) := match tg, e with
  | .Tuple ts _ _, .Tuple vs _ _ => swP sc ts vs
  | _, _ => some none
def nmOf (N : List Str) (sc : Scope) (i : Nat) (e : Expr) : Bool := match e with
  | .Name x _ => decide (N[i]? = some x) && decide (sc.names.lookup x = some .local)
  | _ => false
mutual
def chkS (c : Cc) (sc : Scope) : S → Stmt → Bool
  | .asg t e, st => match st with
    | .Assign [tg] e' _ => chkT c.N sc t tg && chk c sc e e' && (match t with
      | .nm _ => true
      | .tp ts => (match swE sc tg e' with
        | some none => true
        | some (some ns) => (match ts, tg, e, e' with
          | .cons (.nm i) (.cons (.nm j) .nil), .Tuple [a, b] _ _, .tup (.cons _ (.cons _ .nil)), .Tuple [_, _] _ _ => nmOf c.N sc i a && nmOf c.N sc j b && decide (i ≠ j)
          | .cons (.nm i) (.cons (.nm j) (.cons (.nm l) .nil)), .Tuple [a, b, d] _ _, .tup (.cons _ (.cons _ (.cons _ .nil))), .Tuple [_, _, _] _ _ => nmOf c.N sc i a && nmOf c.N sc j b && nmOf c.N sc l d && decide (i ≠ j) && decide (i ≠ l) && decide (j ≠ l)
          | _, _, _, _ => false)
        | none => false))
    | _ => false
  | .aug i o e, st => match st with
    | .AugAssign (.Name x _) o' e' _ => decide (c.N[i]? = some x) && locB sc x && decide ((o = .add ∧ o' = .Add) ∨ (o = .sub ∧ o' = .Sub)) && chk c sc e e'
    | _ => false
  | .sti o i e, st => match st with
    | .Assign [.Subscript o' i' _] e' _ => noSlice i' && chk c sc e e' && chk c sc o o' && chk c sc i i'
    | _ => false
  | .ex e, st => match st with
    | .Expr e' _ => noComp e' && chk c sc e e'
    | _ => false
  | .ite t a b, st => match st with
    | .If t' a' b' _ => chk c sc t t' && chkSs c sc a a' && chkSs c sc b b'
    | _ => false
  | .for t it b, st => match st with
    | .For tg iter b' [] _ => chkT c.N sc t tg && chkI c sc it tg iter && chkSs c sc b b'
    | _ => false
  | .whl _ t b, st => match st with
    | .While t' b' [] _ => chk c sc t t' && chkSs c sc b b'
    | _ => false
  | .ret e, st => match st with
    | .Return (some e') _ => chk c sc e e'
    | _ => false
  | .retn, st => match st with
    | .Return none _ => true
    | _ => false
  | .brk, st => match st with
    | .Break _ => true
    | _ => false
  | .cnt, st => match st with
    | .Continue _ => true
    | _ => false
  | .pas, st => match st with
    | .Pass _ => true
    | _ => false
def chkSs (c : Cc) (sc : Scope) : Ss → List Stmt → Bool
  | .nil, st => st.isEmpty
  | .cons a r, st => match st with
    | s :: q => chkS c sc a s && chkSs c sc r q
    | [] => false
end
end PD
/-! PD9: what an expression does, by its parts -/
namespace PD
open PySem PySem.Spec PyProof.Rows L2

/-! ### a def by its meaning -/
def PrF (K : PySem.W.Frag) (ι : Kt) (H : Hp) (r : R D) (k : D → Kt → Hp → Prop) : Prop := match r with
  | .ok a M' => ∀ ι' H', Ext ι H ι' H' → Mr K ι' M' H' → k a ι' H'
  | _ => False
def spF (K : PySem.W.Frag) (T : Tbl) (f n : Nat) : Sp := fun vs H Q _ => ∃ κ M ds keep, Mr K κ M H ∧ Rps K κ H vs ds ∧ ds.length = n ∧ PrF K κ H (T f keep ds M) (kE K Q)
structure FnR (X : Cx) (T : Tbl) (x : Str) (fi : Fi) : Prop where
  ex : ∃ f fd k, FnOk X.prog X.w X.K X.mg X.base CX0 k f fd fi.ps (spF X.K T fi.ix fi.ps.length) ∧ Room k X.A ∧ X.mg x = some (.ref f) ∧ PySem.W.keepIn X.K (.ref f) = true ∧
    (∀ n ∈ fi.pn, ∃ dvs ds, Binds X.K fd fi.ps ds ∧ Vals dvs ds ∧ ∀ ι H, Rps X.K ι H dvs (fi.dsAt n)) ∧
    (∀ n ∈ fi.kn, KBn X.K fd fi.ps n (fi.ps.drop n) (fun us ws => us ++ ws) (fun us ws => us ++ ws))
def blts : List Str := ["len", "tuple", "list", "sorted", "all", "any", "min", "max", "abs", "int", "sum", "bool", "str", "dict", "isinstance", "range", "enumerate", "zip"]
structure Xok (X : Cx) (c : Cc) (T : Tbl) : Prop where
  N : X.N = c.N
  nd : X.N.Nodup
  calm : X.calm = true
  bl : ∀ x ∈ blts, X.mg x = none
  cs : ∀ x d, c.cs.lookup x = some d → ∃ u v, X.mg x = some u ∧ RelV v u ∧ ∀ ι H, Rp X.K ι H v d
  fn : ∀ x fi, c.fns.lookup x = some fi → FnR X T x fi
  room : X.A.units + 66 < cLine
theorem Xok.blk {X : Cx} {c : Cc} {T : Tbl} (o : Xok X c T) (s : Shared) (H : Hp) (scope : Scope) (cenv : PySem.Env) (fp : List Addr) : Xok (X.blk s H scope cenv fp) c T :=
  ⟨o.N, o.nd, o.calm, o.bl, o.cs, fun x fi h => ⟨(o.fn x fi h).ex⟩, o.room⟩

/-- a value, and a test -/
structure PB (X : Cx) (T : Tbl) (e : E) (e' : Expr) : Prop where
  pe : PE X e' (tE X.K T e)
  pt : PT X e' (tT X.K T e)
inductive All (X : Cx) (T : Tbl) : Es → List Expr → Prop
  | nil : All X T .nil []
  | cons {e : E} {es : Es} {e' : Expr} {es' : List Expr} : noStar e' = true → PB X T e e' → All X T es es' → All X T (.cons e es) (e' :: es')

section
variable {X : Cx} {c : Cc} {T : Tbl} {K : PySem.W.Frag}
theorem vis_of {sc : Scope} {x : Str} (h : visB sc x = true) : Vis sc x := by
  unfold visB at h
  unfold Vis
  split at h
  · exact .inl (by assumption)
  · exact .inr (.inl (by assumption))
  · exact .inr (.inr (by assumption))
  · cases h
theorem loc_of {sc : Scope} {x : Str} (h : locB sc x = true) : L2.Loc sc x := by
  unfold locB at h
  unfold L2.Loc
  split at h
  · exact .inl (by assumption)
  · exact .inr (by assumption)
  · cases h
theorem gl_of {x : Str} (h : glB X.env.scope x = true) : Gl X x := by
  unfold glB at h
  show X.env.scope.names.lookup x = _
  exact (of_decide_eq_true h : _ = _)
structure OkN (x : Str) : Prop where
  d : (x == ("__debug__" : Str)) = false
  c : (x == ("__classdict__" : Str)) = false
  n : x ≠ "__name__"
theorem okN_of {x : Str} (h : okN x = true) : OkN x := by
  unfold okN at h
  simp only [Bool.and_eq_true, Bool.not_eq_true', decide_eq_false_iff_not] at h
  exact ⟨h.1.1, h.1.2, h.2⟩
/-- a test by its value -/
theorem tT_tE {e : E} {σ : L2.St} {H : Hp} {Q : Bool → Hp → Prop} (h : tT K T e σ H Q) : tE K T e σ H fun x H1 => ∃ k, x = .bl k ∧ Q k H1 := by
  obtain ⟨ι, s, M, rl, h⟩ := h
  refine ⟨ι, s, M, rl, h.imp fun d ι' H' q v r => ?_⟩
  obtain ⟨b, rfl, q⟩ := q
  cases r
  exact ⟨b, rfl, q⟩
theorem PB.val {e : E} {e' : Expr} (h : PE X e' (tE X.K T e)) (he : ∀ whole, isTrue e' X.env whole = (do let v ← whole; standAt e'.pos; holding [v] (truthy v))) : PB X T e e' :=
  ⟨h, PT.imp (pt_val h he) fun σ H Q q => tT_tE q⟩
theorem star_cons {e : Expr} {es : List Expr} {env : PySem.Env} (h : noStar e = true) : starEach (e :: es) env = (false, eval e env) :: starEach es env := by
  cases e <;> first | rfl | cases h
theorem All.stars : ∀ {es : Es} {es' : List Expr}, All X T es es' → ∀ (pos : Pos) (env : PySem.Env), (backTo pos (starEach es' env)).any (·.1) = false
  | .nil, _, h, pos, env => by cases h; rfl
  | .cons e es, _, h, pos, env => by
    cases h with
    | cons h1 h2 h3 =>
      rw [star_cons h1]
      show (false || (backTo pos (starEach _ env)).any (·.1)) = false
      rw [h3.stars pos env]; rfl
theorem All.length : ∀ {es : Es} {es' : List Expr}, All X T es es' → es'.length = es.length
  | .nil, _, h => by cases h; rfl
  | .cons e es, _, h => by cases h with | cons h1 h2 h3 => simp [Es.length, h3.length]
theorem evs_len {s : Env} : ∀ {es : Es} {M : Mem} {ds : List D} {M1 : Mem}, evs T es s M = .ok ds M1 → ds.length = es.length
  | .nil, M, ds, M1, h => by simp only [evs] at h; cases h; rfl
  | .cons e es, M, ds, M1, h => by
    simp only [evs] at h
    cases q : ev T e s M with
    | ok x M2 =>
      rw [q] at h
      simp only [R.bind] at h
      cases q2 : evs T es s M2 with
      | ok xs M3 =>
        rw [q2] at h
        simp only [R.bind] at h
        cases h
        simp [Es.length, evs_len q2]
      | ex _ _ _ => rw [q2] at h; cases h
      | no => rw [q2] at h; cases h
    | ex _ _ _ => rw [q] at h; cases h
    | no => rw [q] at h; cases h
/-- the arguments, from the left -/
theorem pa_all : ∀ {es : Es} {es' : List Expr}, All X T es es' → PA X es' (tA X.K T es)
  | .nil, _, h => by
    cases h
    exact PA.imp pa_nil fun σ H Q q => by
      obtain ⟨ι, s, M, rl, q⟩ := q
      simp only [evs] at q
      exact Pr.self rl q [] .nil
  | .cons e es, _, h => by
    cases h with
    | cons h1 h2 h3 =>
      refine PA.imp (pa_cons h2.pe (pa_all h3) (star_cons h1)) fun σ H Q q => ?_
      obtain ⟨ι, s, M, rl, q⟩ := q
      simp only [evs] at q
      refine ⟨ι, s, M, rl, (Pr.bind q).imp fun d ι1 H1 ⟨M1, e1, rl1, _, q1⟩ v r => ⟨ι1, s, M1, rl1, (Pr.bind q1).imp fun ds ι2 H2 ⟨M2, e2, rl2, _, q2⟩ vs rs => ?_⟩⟩
      exact Pr.self rl2 q2 (v :: vs) (.cons (Rp.ext e2 _ _ r) rs)
/-- the keywords' values -/
theorem pk_all : ∀ {kws : List Keyword} {es : Es}, All X T es (kws.map (·.value)) → PK X kws (tA X.K T es)
  | [], es, h => by
    cases h
    exact ⟨fun pos pins s σ H Q I q => pk_nil.run pos pins s σ H Q I (by
      obtain ⟨ι, s, M, rl, q⟩ := q
      simp only [evs] at q
      exact Pr.self rl q [] .nil)⟩
  | ⟨nm, e', kp⟩ :: kws, es, h => by
    cases h with
    | cons h1 h2 h3 =>
      refine ⟨fun pos pins s σ H Q I q => (pk_cons h2.pe (pk_all h3)).run pos pins s σ H Q I ?_⟩
      obtain ⟨ι, s, M, rl, q⟩ := q
      simp only [evs] at q
      refine ⟨ι, s, M, rl, (Pr.bind q).imp fun d ι1 H1 ⟨M1, e1, rl1, _, q1⟩ v r => ⟨ι1, s, M1, rl1, (Pr.bind q1).imp fun ds ι2 H2 ⟨M2, e2, rl2, _, q2⟩ vs rs => ?_⟩⟩
      exact Pr.self rl2 q2 (v :: vs) (.cons (Rp.ext e2 _ _ r) rs)

/-! ### names, constants -/
theorem snd_v {i : Nat} {e' : Expr} (o : Xok X c T) (h : chk c X.env.scope (.v i) e' = true) : PB X T (.v i) e' := by
  cases e' with
  | Name x p =>
    simp only [chk, Bool.and_eq_true, decide_eq_true_eq] at h
    obtain ⟨⟨h1, h2⟩, h3⟩ := h
    refine .val (PE.imp (pe_var (i := i) (by rw [o.N]; exact h1) (vis_of h2) (okN_of h3).d (okN_of h3).c) fun σ H Q q => ?_) fun _ => rfl
    obtain ⟨ι, s, M, rl, q⟩ := q
    simp only [ev] at q
    split at q
    · rename_i d hd
      obtain ⟨v, hv, r⟩ := rl.env.get i d hd
      exact ⟨v, hv, Pr.self rl q v r⟩
    · exact q.elim
  | _ => simp [chk] at h
theorem snd_c {d : D} {e' : Expr} (o : Xok X c T) (h : chk c X.env.scope (.c d) e' = true) : PB X T (.c d) e' := by
  cases e' with
  | Constant k j p =>
    simp only [chk] at h
    have fin : ∀ {v : V} {σ : L2.St} {H : Hp} {Q : VK}, (∀ ι, Rp X.K ι H v d) → tE X.K T (.c d) σ H Q → tC v σ H Q := fun hr q => by
      obtain ⟨ι, s, M, rl, q⟩ := q
      simp only [ev] at q
      exact Pr.self rl q _ (hr ι)
    cases d <;> cases k <;> simp only [chkC, Bool.false_eq_true] at h
    · exact .val (PE.imp pe_non fun σ H Q q => fin (fun _ => .non) q) fun _ => rfl
    · cases of_decide_eq_true h
      exact .val (PE.imp pe_bl fun σ H Q q => fin (fun _ => .bl _) q) fun _ => rfl
    · cases of_decide_eq_true h
      exact .val (PE.imp pe_int fun σ H Q q => fin (fun _ => .int _) q) fun _ => rfl
    · simp only [Bool.and_eq_true] at h
      cases of_decide_eq_true h.1
      refine .val (PE.imp pe_str fun σ H Q q => fin (fun _ => .str ?_) q) fun _ => rfl
      unfold sok
      rw [Bool.and_eq_true]
      exact h.2
  | _ => simp [chk] at h
theorem snd_g {d : D} {e' : Expr} (o : Xok X c T) (h : chk c X.env.scope (.g d) e' = true) : PB X T (.g d) e' := by
  cases e' with
  | Name x p =>
    simp only [chk, Bool.and_eq_true, decide_eq_true_eq] at h
    obtain ⟨⟨h1, h2⟩, h3⟩ := h
    obtain ⟨u, v, e1, r1, r2⟩ := o.cs x d h3
    refine .val (PE.imp (pe_glob (gl_of h1) e1 r1 (okN_of h2).d) fun σ H Q q => ?_) fun _ => rfl
    obtain ⟨ι, s, M, rl, q⟩ := q
    simp only [ev] at q
    exact Pr.self rl q v (r2 _ _)
  | _ => simp [chk] at h

/-! ### displays -/
theorem thousand {n : Nat} (h : n ≤ 1000) : n ≤ sizeLine := by rw [sizeLine_eq]; omega
theorem snd_tup {es : Es} {es' : List Expr} {k : Nat} {p : Pos} (hl : es'.length ≤ 1000) (h : All X T es es') : PB X T (.tup es) (.Tuple es' k p) := by
  refine .val (PE.imp (pe_tup (pa_all h)) fun σ H Q q => ?_) fun _ => rfl
  obtain ⟨ι, s, M, rl, q⟩ := q
  simp only [ev] at q
  refine ⟨ι, s, M, rl, (Pr.bind q).imp fun ds ι1 H1 ⟨M1, e1, rl1, e2, q1⟩ vs rs => ⟨?_, fun p hp => (Pr.fin rl1 q1).tup rl1.mem rs hp⟩⟩
  rw [rs.length, evs_len e2, ← h.length]
  exact thousand hl
theorem snd_ls {m : Bool} {es : Es} {es' : List Expr} {p : Pos} (hl : es'.length ≤ 1000) (h : All X T es es') : PB X T (.ls m es) (.List es' p) := by
  refine .val (PE.imp (pe_lst (pa_all h)) fun σ H Q q => ?_) fun _ => rfl
  obtain ⟨ι, s, M, rl, q⟩ := q
  simp only [ev] at q
  refine ⟨ι, s, M, rl, (Pr.bind q).imp fun ds ι1 H1 ⟨M1, e1, rl1, e2, q1⟩ vs rs => ⟨?_, fun p hp => (Pr.finN rl1 q1).lst rs hp⟩⟩
  rw [rs.length, evs_len e2, ← h.length]
  exact thousand hl
theorem snd_dd {m : Bool} {p : Pos} : PB X T (.dd m) (.Dict [] [] p) := by
  refine .val (PE.imp pe_dnewK fun σ H Q q => ?_) fun _ => rfl
  obtain ⟨ι, s, M, rl, q⟩ := q
  simp only [ev] at q
  exact fun p hp => Pr.finN rl q _ _ (.dct hp .nil .nil)

/-! ### operations -/
theorem own_op {o : Op} {a b : E} {σ : L2.St} {H : Hp} {Q : VK} (h : tE K T (.op o a b) σ H Q) : tOp (rB K (op2 o)) (tE K T a) (tE K T b) σ H Q := by
  obtain ⟨ι, s, M, rl, q⟩ := h
  simp only [ev] at q
  refine ⟨ι, s, M, rl, (Pr.bind q).imp fun x ι1 H1 ⟨M1, e1, rl1, _, q1⟩ v r => ⟨ι1, s, M1, rl1, (Pr.bind q1).imp fun y ι2 H2 ⟨M2, e2, rl2, _, q2⟩ u ru => ?_⟩⟩
  obtain ⟨d, e3, q3⟩ := q2.of
  exact ⟨ι2, M2, x, y, d, rl2.mem, Rp.ext e2 _ _ r, ru, e3, Pr.fin rl2 q3⟩
theorem binOr {o : Op} {o' : Operator} (hu : X.A.units + 66 < cLine) (h : binOf o = some o') : OpR X (binaryOp o') (rB X.K (op2 o)) := by
  cases o <;> simp only [binOf] at h <;> cases h
  · exact or_add
  · exact or_sub
  · exact or_mul
  · exact or_fdiv
  · exact or_mod
  · exact or_pow
  · exact or_xor
theorem cmpOr {o : Op} {o' : CmpOp} (hu : X.A.units + 66 < cLine) (h : cmpOf o = some o') : OpR X (compareOp o') (rB X.K (op2 o)) := by
  cases o <;> simp only [cmpOf] at h <;> cases h
  · exact or_eq (by omega)
  · exact or_ne (by omega)
  · exact or_cmp op_lt
  · exact or_cmp op_le
  · exact or_cmp op_gt
  · exact or_cmp op_ge
  · exact or_in hu
  · exact or_notin hu
end
end PD
/-! PD10: what an expression does, second part -/
namespace PD
open PySem PySem.Spec PyProof.Rows L2
section
variable {X : Cx} {c : Cc} {T : Tbl} {K : PySem.W.Frag}
theorem Pr.shift {α : Type} {ι ι' : Kt} {s : Env} {σ : L2.St} {H H' : Hp} {r : R α} {k : α → Kt → Hp → Prop} (e : Ext ι H ι' H') (h : Pr K ι s σ H r k) : Pr K ι' s σ H' r k := by
  cases r with
  | ok a M1 => exact fun ι1 H1 e1 rl1 => h ι1 H1 (e.trans e1) rl1
  | ex _ _ _ => exact h
  | no => exact h
theorem nomarkS {b : Expr} {op : CmpOp} (h : noSet b = true) : behindInMarks op b = false := by
  cases b <;> first | rfl | cases h
theorem plainIx_of {b : Expr} (h : noSlice b = true) : PlainIx b := by
  intro o i
  cases b <;> first | rfl | cases h
theorem base_of {o : Expr} {m : Str} {env : PySem.Env} {t : Sem Value} (h : noCall0 o = true) : attributeBase o m env t = t := by
  cases o with
  | Call f es kws p =>
    cases es with
    | nil => cases h
    | cons _ _ => cases f <;> rfl
  | _ => rfl
theorem snd_bin {o : Op} {o' : Operator} {a b : E} {a' b' : Expr} {p : Pos} (ok : Xok X c T) (h : binOf o = some o') (ha : PB X T a a') (hb : PB X T b b') : PB X T (.op o a b) (.BinOp a' o' b' p) :=
  .val (PE.imp (pe_op (binOr ok.room h) ha.pe hb.pe) fun σ H Q q => own_op q) fun _ => rfl
theorem snd_cmp {o : Op} {o' : CmpOp} {a b : E} {a' b' : Expr} {p : Pos} (ok : Xok X c T) (h : cmpOf o = some o') (hs : noSet b' = true) (ha : PB X T a a') (hb : PB X T b b') : PB X T (.op o a b) (.Compare a' [o'] [b'] p) :=
  ⟨PE.imp (pe_cmpR (cmpOr ok.room h) ha.pe hb.pe (nomarkS hs)) fun σ H Q q => own_op q, PT.imp (pt_cmpR (cmpOr ok.room h) ha.pe hb.pe (nomarkS hs)) fun σ H Q q => own_op (tT_tE q)⟩
theorem snd_ix {a b : E} {a' b' : Expr} {p : Pos} (ok : Xok X c T) (hs : noSlice b' = true) (ha : PB X T a a') (hb : PB X T b b') : PB X T (.op .ix a b) (.Subscript a' b' p) :=
  .val (PE.imp (pe_ix (or_ix (by have := ok.room; omega)) ha.pe hb.pe (plainIx_of hs)) fun σ H Q q => own_op q) fun _ => rfl
theorem own_isN {neg : Bool} {a : E} {σ : L2.St} {H : Hp} {Q : VK} (h : tE K T (.isN neg a) σ H Q) : tE K T a σ H fun x H1 => Q (.bl (if neg then !decide (x = .non) else decide (x = .non))) H1 := by
  obtain ⟨ι, s, M, rl, q⟩ := h
  simp only [ev] at q
  refine ⟨ι, s, M, rl, (Pr.bind q).imp fun x ι1 H1 ⟨M1, e1, rl1, _, q1⟩ v r => ?_⟩
  have := Pr.self rl1 q1 _ (.bl _)
  cases neg <;> cases r <;> exact this
theorem snd_isN {neg : Bool} {a : E} {a' : Expr} {j : Nat} {p p2 : Pos} (ha : PB X T a a') : PB X T (.isN neg a) (.Compare a' [if neg then .IsNot else .Is] [.Constant .none j p2] p) := by
  cases neg with
  | false => exact ⟨PE.imp (pe_cmp (pc_isN ha.pe) (nomark _)) fun σ H Q q => own_isN q, PT.imp (pt_cmp (pc_isN ha.pe) (nomark _)) fun σ H Q q => own_isN (tT_tE q)⟩
  | true => exact ⟨PE.imp (pe_cmp (pc_notN ha.pe) (nomark _)) fun σ H Q q => own_isN q, PT.imp (pt_cmp (pc_notN ha.pe) (nomark _)) fun σ H Q q => own_isN (tT_tE q)⟩
theorem snd_not {a : E} {a' : Expr} {p : Pos} (ha : PB X T a a') : PB X T (.not a) (.UnaryOp .Not a' p) := by
  refine ⟨PE.imp (pe_not ha.pe) fun σ H Q q => ?_, PT.imp (pt_not ha.pt) fun σ H Q q => ?_⟩
  · obtain ⟨ι, s, M, rl, q⟩ := q
    simp only [ev] at q
    refine ⟨ι, s, M, rl, (Pr.bind q).imp fun x ι1 H1 ⟨M1, e1, rl1, _, q1⟩ v r => ?_⟩
    split at q1
    · cases r
      exact ⟨_, rfl, Pr.self rl1 q1 _ (.bl _)⟩
    · exact q1.elim
  · obtain ⟨ι, s, M, rl, q⟩ := q
    simp only [ev] at q
    refine ⟨ι, s, M, rl, (Pr.bind q).imp fun x ι1 H1 ⟨M1, e1, rl1, _, q1⟩ => ?_⟩
    split at q1
    · obtain ⟨b, e2, q2⟩ := Pr.self rl1 q1
      cases e2
      exact ⟨_, rfl, q2⟩
    · exact q1.elim
theorem snd_neg {a : E} {a' : Expr} {p : Pos} (ha : PB X T a a') : PB X T (.neg a) (.UnaryOp .USub a' p) := by
  refine .val (PE.imp (pe_un un_neg ha.pe) fun σ H Q q => ?_) fun _ => rfl
  obtain ⟨ι, s, M, rl, q⟩ := q
  simp only [ev] at q
  refine ⟨ι, s, M, rl, (Pr.bind q).imp fun x ι1 H1 ⟨M1, e1, rl1, _, q1⟩ v r => ?_⟩
  split at q1
  · cases r
    exact ⟨_, rfl, Pr.self rl1 q1 _ (.int _)⟩
  · exact q1.elim

/-! ### and, or -/
def tAE (K : PySem.W.Frag) (T : Tbl) (es : Es) : TE := fun σ H Q => ∃ ι s M, Rl K ι s M σ H ∧ Pr K ι s σ H (evAnd T es s M) (kE K Q)
def tAT (K : PySem.W.Frag) (T : Tbl) (es : Es) : TT := fun σ H Q => ∃ ι s M, Rl K ι s M σ H ∧ Pr K ι s σ H (evAnd T es s M) (kT Q)
def tOE (K : PySem.W.Frag) (T : Tbl) (es : Es) : TE := fun σ H Q => ∃ ι s M, Rl K ι s M σ H ∧ Pr K ι s σ H (evOr T es s M) (kE K Q)
def tOT (K : PySem.W.Frag) (T : Tbl) (es : Es) : TT := fun σ H Q => ∃ ι s M, Rl K ι s M σ H ∧ Pr K ι s σ H (evOr T es s M) (kT Q)
theorem and_one {e : E} {s : Env} {M : Mem} {ι : Kt} {σ : L2.St} {H : Hp} {k : D → Kt → Hp → Prop} (q : Pr K ι s σ H (evAnd T (.cons e .nil) s M) k) : Pr K ι s σ H (ev T e s M) k := by
  simp only [evAnd] at q
  refine (Pr.bind q).imp fun x ι1 H1 ⟨M1, e1, rl1, _, q1⟩ => ?_
  split at q1
  · exact Pr.self rl1 q1
  · exact Pr.self rl1 q1
  · exact q1.elim
theorem or_one {e : E} {s : Env} {M : Mem} {ι : Kt} {σ : L2.St} {H : Hp} {k : D → Kt → Hp → Prop} (q : Pr K ι s σ H (evOr T (.cons e .nil) s M) k) : Pr K ι s σ H (ev T e s M) k := by
  simp only [evOr] at q
  refine (Pr.bind q).imp fun x ι1 H1 ⟨M1, e1, rl1, _, q1⟩ => ?_
  split at q1
  · exact Pr.self rl1 q1
  · exact Pr.self rl1 q1
  · exact q1.elim
theorem snd_and (p : Pos) : ∀ {es : Es} {es' : List Expr}, All X T es es' → es' ≠ [] → PE X (.BoolOp .And es' p) (tAE X.K T es) ∧ PW X (.BoolOp .And es' p) (tAT X.K T es)
  | .nil, _, h, ne => by cases h; exact absurd rfl ne
  | .cons e .nil, _, h, _ => by
    cases h with
    | cons h1 h2 h3 =>
      cases h3
      exact ⟨PE.imp (pe_one h2.pe) fun σ H Q ⟨ι, s, M, rl, q⟩ => ⟨ι, s, M, rl, and_one q⟩, PW.imp (pw_and1 h2.pt) fun σ H Q ⟨ι, s, M, rl, q⟩ => ⟨ι, s, M, rl, and_one q⟩⟩
  | .cons e (.cons e2 es), _, h, _ => by
    cases h with
    | cons h1 h2 h3 =>
      obtain ⟨i1, i2⟩ := snd_and p h3 (by cases h3; simp)
      cases h3 with
      | cons h4 h5 h6 =>
        refine ⟨PE.imp (pe_and h2.pe i1) fun σ H Q ⟨ι, s, M, rl, q⟩ => ?_, PW.imp (pw_and h2.pt i2) fun σ H Q ⟨ι, s, M, rl, q⟩ => ?_⟩
        · rw [evAnd] at q
          refine ⟨ι, s, M, rl, (Pr.bind q).imp fun x ι1 H1 ⟨M1, e1, rl1, _, q1⟩ v r => ?_⟩
          split at q1
          · cases r; exact ⟨_, rfl, by simp only [if_true]; exact ⟨ι1, s, M1, rl1, q1⟩⟩
          · cases r; exact ⟨_, rfl, by simp only [Bool.false_eq_true, if_false]; exact Pr.self rl1 q1 _ (.bl _)⟩
          · exact q1.elim
        · rw [evAnd] at q
          refine ⟨ι, s, M, rl, (Pr.bind q).imp fun x ι1 H1 ⟨M1, e1, rl1, _, q1⟩ => ?_⟩
          split at q1
          · exact ⟨_, rfl, by simp only [if_true]; exact ⟨ι1, s, M1, rl1, q1⟩⟩
          · refine ⟨_, rfl, ?_⟩
            simp only [Bool.false_eq_true, if_false]
            obtain ⟨b, e3, q3⟩ := Pr.self rl1 q1
            cases e3
            exact q3
          · exact q1.elim
theorem snd_or (p : Pos) : ∀ {es : Es} {es' : List Expr}, All X T es es' → es' ≠ [] → PE X (.BoolOp .Or es' p) (tOE X.K T es) ∧ PW X (.BoolOp .Or es' p) (tOT X.K T es)
  | .nil, _, h, ne => by cases h; exact absurd rfl ne
  | .cons e .nil, _, h, _ => by
    cases h with
    | cons h1 h2 h3 =>
      cases h3
      exact ⟨PE.imp (pe_one h2.pe) fun σ H Q ⟨ι, s, M, rl, q⟩ => ⟨ι, s, M, rl, or_one q⟩, PW.imp (pw_or1 h2.pt) fun σ H Q ⟨ι, s, M, rl, q⟩ => ⟨ι, s, M, rl, or_one q⟩⟩
  | .cons e (.cons e2 es), _, h, _ => by
    cases h with
    | cons h1 h2 h3 =>
      obtain ⟨i1, i2⟩ := snd_or p h3 (by cases h3; simp)
      cases h3 with
      | cons h4 h5 h6 =>
        refine ⟨PE.imp (pe_or h2.pe i1) fun σ H Q ⟨ι, s, M, rl, q⟩ => ?_, PW.imp (pw_or h2.pt i2) fun σ H Q ⟨ι, s, M, rl, q⟩ => ?_⟩
        · rw [evOr] at q
          refine ⟨ι, s, M, rl, (Pr.bind q).imp fun x ι1 H1 ⟨M1, e1, rl1, _, q1⟩ v r => ?_⟩
          split at q1
          · cases r; exact ⟨_, rfl, by simp only [Bool.false_eq_true, if_false]; exact ⟨ι1, s, M1, rl1, q1⟩⟩
          · cases r; exact ⟨_, rfl, by simp only [if_true]; exact Pr.self rl1 q1 _ (.bl _)⟩
          · exact q1.elim
        · rw [evOr] at q
          refine ⟨ι, s, M, rl, (Pr.bind q).imp fun x ι1 H1 ⟨M1, e1, rl1, _, q1⟩ => ?_⟩
          split at q1
          · exact ⟨_, rfl, by simp only [Bool.false_eq_true, if_false]; exact ⟨ι1, s, M1, rl1, q1⟩⟩
          · refine ⟨_, rfl, ?_⟩
            simp only [if_true]
            obtain ⟨b, e3, q3⟩ := Pr.self rl1 q1
            cases e3
            exact q3
          · exact q1.elim
theorem PB.and {es : Es} {es' : List Expr} {p : Pos} (h : All X T es es') (ne : es' ≠ []) : PB X T (.and es) (.BoolOp .And es' p) :=
  ⟨PE.imp (snd_and p h ne).1 fun σ H Q ⟨ι, s, M, rl, q⟩ => ⟨ι, s, M, rl, by rw [ev] at q; exact q⟩, PT.imp (snd_and p h ne).2.pt fun σ H Q ⟨ι, s, M, rl, q⟩ => ⟨ι, s, M, rl, by rw [ev] at q; exact q⟩⟩
theorem PB.or {es : Es} {es' : List Expr} {p : Pos} (h : All X T es es') (ne : es' ≠ []) : PB X T (.or es) (.BoolOp .Or es' p) :=
  ⟨PE.imp (snd_or p h ne).1 fun σ H Q ⟨ι, s, M, rl, q⟩ => ⟨ι, s, M, rl, by rw [ev] at q; exact q⟩, PT.imp (snd_or p h ne).2.pt fun σ H Q ⟨ι, s, M, rl, q⟩ => ⟨ι, s, M, rl, by rw [ev] at q; exact q⟩⟩

/-! ### a if c else b -/
theorem snd_ite {t a b : E} {t' a' b' : Expr} {p : Pos} (ht : PB X T t t') (ha : PB X T a a') (hb : PB X T b b') : PB X T (.ite t a b) (.IfExp t' a' b' p) := by
  refine ⟨PE.imp (pe_ifExp ht.pt ha.pe hb.pe) fun σ H Q ⟨ι, s, M, rl, q⟩ => ?_, ⟨fun pins s0 σ H Q I ⟨ι, s, M, rl, q⟩ => ?_⟩⟩
  · rw [ev] at q
    refine ⟨ι, s, M, rl, (Pr.bind q).imp fun x ι1 H1 ⟨M1, e1, rl1, _, q1⟩ => ?_⟩
    split at q1
    · exact ⟨_, rfl, by simp only [if_true]; exact ⟨ι1, s, M1, rl1, q1⟩⟩
    · exact ⟨_, rfl, by simp only [Bool.false_eq_true, if_false]; exact ⟨ι1, s, M1, rl1, q1⟩⟩
    · exact q1.elim
  · rw [ev] at q
    refine isTrue_IfExp (thn (ht.pt.run pins s0 σ H (fun k H1 => if k = true then tT X.K T a σ H1 Q else tT X.K T b σ H1 Q) I ⟨ι, s, M, rl, (Pr.bind q).imp fun x ι1 H1 ⟨M1, e1, rl1, _, q1⟩ => ?_⟩) fun k s1 ⟨H1, I1, q1⟩ => ?_)
    · split at q1
      · exact ⟨_, rfl, by simp only [if_true]; exact ⟨ι1, s, M1, rl1, q1⟩⟩
      · exact ⟨_, rfl, by simp only [Bool.false_eq_true, if_false]; exact ⟨ι1, s, M1, rl1, q1⟩⟩
      · exact q1.elim
    · cases k with
      | true => exact ha.pt.run pins s1 σ H1 Q I1 q1
      | false => exact hb.pt.run pins s1 σ H1 Q I1 (by simpa using q1)

/-! ### a < b < c -/
theorem own_cmp2 {o1 o2 : Op} {x y z : E} {σ : L2.St} {H : Hp} {Q : VK} (h : tE K T (.cmp2 o1 o2 x y z) σ H Q) : tChain (rB K (op2 o1)) (rB K (op2 o2)) (tE K T x) (tE K T y) (tE K T z) σ H Q := by
  obtain ⟨ι, s, M, rl, q⟩ := h
  rw [ev] at q
  refine ⟨ι, s, M, rl, (Pr.bind q).imp fun a ι1 H1 ⟨M1, e1, rl1, _, q1⟩ v r => ⟨ι1, s, M1, rl1, (Pr.bind q1).imp fun b ι2 H2 ⟨M2, e2, rl2, _, q2⟩ u ru => ?_⟩⟩
  split at q2
  · rename_i he
    refine ⟨ι2, M2, a, b, _, rl2.mem, Rp.ext e2 _ _ r, ru, he, fun w H3 sm rw' => ?_⟩
    cases rw'
    refine ⟨_, rfl, ?_⟩
    simp only [if_true]
    have e3 := Ext.same rl2.mem sm
    have rl3 := rl2.same sm
    have q3 := Pr.shift e3 q2
    refine ⟨ι2, s, M2, rl3, (Pr.bind q3).imp fun d ι4 H4 ⟨M4, e4, rl4, _, q4⟩ t rt => ?_⟩
    obtain ⟨d', e5, q5⟩ := q4.of
    exact ⟨ι4, M4, b, d, d', rl4.mem, Rp.ext e4 _ _ (Rp.ext e3 _ _ ru), rt, e5, Pr.fin rl4 q5⟩
  · rename_i he
    refine ⟨ι2, M2, a, b, _, rl2.mem, Rp.ext e2 _ _ r, ru, he, fun w H3 sm rw' => ?_⟩
    cases rw'
    refine ⟨_, rfl, ?_⟩
    simp only [Bool.false_eq_true, if_false]
    exact Pr.fin rl2 q2 _ _ sm (.bl _)
  · exact q2.elim
theorem lastMarks2 {op op' : CmpOp} {b c : Expr} (h : noSet c = true) : lastMarks [op, op'] [b, c] = false := nomarkS h
theorem snd_cmp2 {o1 o2 : Op} {o1' o2' : CmpOp} {x y z : E} {x' y' z' : Expr} {p : Pos} (ok : Xok X c T) (h1 : cmpOf o1 = some o1') (h2 : cmpOf o2 = some o2') (hs : noSet z' = true) (hx : PB X T x x') (hy : PB X T y y') (hz : PB X T z z') :
    PB X T (.cmp2 o1 o2 x y z) (.Compare x' [o1', o2'] [y', z'] p) :=
  ⟨PE.imp (pe_chain (cmpOr ok.room h1) (cmpOr ok.room h2) hx.pe hy.pe hz.pe (lastMarks2 hs)) fun σ H Q q => own_cmp2 q, PT.imp (pt_chain (cmpOr ok.room h1) (cmpOr ok.room h2) hx.pe hy.pe hz.pe (lastMarks2 hs)) fun σ H Q q => own_cmp2 (tT_tE q)⟩

/-! ### built-in functions -/
theorem boot_ty (t : Ty) : bootBuiltins (tyS t) = some (.type (tyN t)) := by cases t <;> decide +kernel
theorem ty_blt (t : Ty) : tyS t ∈ blts := by cases t <;> decide +kernel
theorem ty_ok (t : Ty) : tyS t ≠ "__name__" ∧ (tyS t == ("__debug__" : Str)) = false := by cases t <;> decide +kernel
theorem snd_isi {t : Ty} {a : E} {a' : Expr} {p p2 p3 : Pos} (ok : Xok X c T) (g1 : Gl X "isinstance") (g2 : Gl X (tyS t)) (hs : noStar a' = true) (ha : PB X T a a') : PB X T (.isi t a) (.Call (.Name "isinstance" p) [a', .Name (tyS t) p2] [] p3) := by
  have pty : PE X (.Name (tyS t) p2) (tC (.ty (tyN t))) := pe_bltn g2 (ok.bl _ (ty_blt t)) (boot_ty t) rfl (ty_ok t).1 (ty_ok t).2
  have pa : PA X [a', .Name (tyS t) p2] (tCons (tE X.K T a) (tCons (tC (.ty (tyN t))) tNil)) := pa_cons ha.pe (pa_cons pty pa_nil) (star_cons hs)
  refine .val (PE.imp (pe_callB (or_isi t) g1 (ok.bl _ (by decide +kernel)) (by decide +kernel) pa (by decide) (by decide) (star_cons hs) rfl) fun σ H Q q => ?_) fun _ => rfl
  obtain ⟨ι, s, M, rl, q⟩ := q
  simp only [ev] at q
  refine ⟨ι, s, M, rl, (Pr.bind q).imp fun x ι1 H1 ⟨M1, e1, rl1, _, q1⟩ v r => ?_⟩
  obtain ⟨d, e2, q2⟩ := q1.of
  cases e3 : isTy t (x.val M1) with
  | none => rw [e3] at e2; cases e2
  | some b =>
    rw [e3] at e2
    cases e2
    exact ⟨ι1, M1, v, x, b, rfl, rl1.mem, r, e3, Pr.fin rl1 q2⟩
theorem own_bi {m : Bool} {f : Bi} {es : Es} {σ : L2.St} {H : Hp} {Q : VK} (h : tE K T (.bi m f es) σ H Q) : tCB (rC K (bi f)) (tA K T es) σ H Q := by
  obtain ⟨ι, s, M, rl, q⟩ := h
  simp only [ev] at q
  refine ⟨ι, s, M, rl, (Pr.bind q).imp fun xs ι1 H1 ⟨M1, e1, rl1, _, q1⟩ vs rs => ?_⟩
  split at q1
  · rename_i d hd
    refine ⟨ι1, M1, xs, d, rl1.mem, rs, hd, Pr.finN rl1 q1⟩
  · exact q1.elim
theorem bi_name (f : Bi) : biN f ∈ blts ∧ biN f ≠ "__name__" ∧ (biN f == ("__debug__" : Str)) = false := by cases f <;> decide +kernel
theorem snd_bi {m : Bool} {f : Bi} {es : Es} {e' : Expr} {es' : List Expr} {p p2 : Pos} (ok : Xok X c T) (g : Gl X (biN f)) (h : All X T es (e' :: es')) : PB X T (.bi m f es) (.Call (.Name (biN f) p) (e' :: es') [] p2) := by
  have hs : noStar e' = true := by cases h; assumption
  have hpl : (backTo p2 (starEach es' X.env)).any (·.1) = false := by
    cases h with
    | cons _ _ h3 => exact h3.stars _ _
  obtain ⟨n1, n2, n3⟩ := bi_name f
  have pa := pa_all h
  have fin : ∀ {id : String}, CallR X (.builtin id) (rC X.K (bi f)) → bootBuiltins (biN f) = some (.builtin id) → PB X T (.bi m f es) (.Call (.Name (biN f) p) (e' :: es') [] p2) := fun hc hv =>
    .val (PE.imp (pe_callB hc g (ok.bl _ n1) hv pa n2 n3 (star_cons hs) hpl) fun σ H Q q => own_bi q) fun _ => rfl
  have fin2 : ∀ {id : String}, CallR X (.type id) (rC X.K (bi f)) → bootBuiltins (biN f) = some (.type id) → PB X T (.bi m f es) (.Call (.Name (biN f) p) (e' :: es') [] p2) := fun hc hv =>
    .val (PE.imp (pe_callTy hc g (ok.bl _ n1) hv pa n2 n3 (star_cons hs) hpl) fun σ H Q q => own_bi q) fun _ => rfl
  cases f with
  | len => exact fin or_len (by decide +kernel)
  | tup => exact fin2 or_tuple (by decide +kernel)
  | lst => exact fin2 (or_list ok.calm) (by decide +kernel)
  | sorted => exact fin (or_sorted) (by decide +kernel)
  | all => exact fin (or_all ok.calm) (by decide +kernel)
  | any => exact fin (or_any ok.calm) (by decide +kernel)
  | min => exact fin (or_min ok.calm) (by decide +kernel)
  | max => exact fin (or_max ok.calm) (by decide +kernel)
  | abs => exact fin or_abs (by decide +kernel)
  | int => exact fin2 or_int (by decide +kernel)
  | sum => exact fin (or_sum ok.calm) (by decide +kernel)

/-! ### slices -/
theorem po_of {lo : E} {lo' : Option Expr} (h : (lo' = none ∧ isNul lo = true) ∨ (isNul lo = false ∧ ∃ l, lo' = some l ∧ PB X T lo l)) :
    PO X lo' (fun σ H Q => ∃ ι s M, Rl X.K ι s M σ H ∧ Pr X.K ι s σ H (ev T lo s M) fun d _ H1 => ∃ o, partOf lo d = some o ∧ Q o H1) := by
  rcases h with ⟨rfl, h⟩ | ⟨h0, l, rfl, h⟩
  · refine ⟨fun pins s0 σ H Q I q => po_none.run pins s0 σ H Q I ?_⟩
    obtain ⟨ι, s, M, rl, q⟩ := q
    cases lo <;> simp only [isNul, Bool.false_eq_true] at h
    rw [ev] at q
    obtain ⟨o, e, q⟩ := Pr.self rl q
    cases e
    exact q
  · refine ⟨fun pins s0 σ H Q I q => (po_some h.pe).run pins s0 σ H Q I ?_⟩
    obtain ⟨ι, s, M, rl, q⟩ := q
    refine ⟨ι, s, M, rl, q.imp fun d ι1 H1 ⟨o, e, q1⟩ v r => ?_⟩
    cases d <;> cases lo <;> simp only [partOf, isNul, Bool.true_eq_false] at e h0 <;> cases e <;> (cases r; exact ⟨_, rfl, q1⟩)
theorem snd_sl {m : Bool} {a lo hi : E} {a' : Expr} {lo' hi' : Option Expr} {p p2 : Pos} (ha : PB X T a a') (h1 : (lo' = none ∧ isNul lo = true) ∨ (isNul lo = false ∧ ∃ l, lo' = some l ∧ PB X T lo l))
    (h2 : (hi' = none ∧ isNul hi = true) ∨ (isNul hi = false ∧ ∃ l, hi' = some l ∧ PB X T hi l)) : PB X T (.sl m a lo hi) (.Subscript a' (.Slice lo' hi' none p2) p) := by
  refine .val (PE.imp (pe_slice or_sl ha.pe (po_of h1) (po_of h2)) fun σ H Q q => ?_) fun _ => rfl
  obtain ⟨ι, s, M, rl, q⟩ := q
  simp only [ev] at q
  refine ⟨ι, s, M, rl, (Pr.bind q).imp fun x ι1 H1 ⟨M1, e1, rl1, _, q1⟩ v r => ⟨ι1, s, M1, rl1, (Pr.bind q1).imp fun l ι2 H2 ⟨M2, e2, rl2, _, q2⟩ => ?_⟩⟩
  have two : ∃ lv, partOf lo l = some lv := by
    cases e : partOf lo l with
    | some lv => exact ⟨lv, rfl⟩
    | none =>
      exfalso
      cases q3 : ev T hi s M2 with
      | ok h M3 =>
        rw [q3] at q2
        simp only [R.bind, e] at q2
        exact q2
      | ex _ _ _ => rw [q3] at q2; exact q2
      | no => rw [q3] at q2; exact q2
  obtain ⟨lv, e4⟩ := two
  refine ⟨lv, e4, ι2, s, M2, rl2, (Pr.bind q2).imp fun h ι3 H3 ⟨M3, e3, rl3, _, q3⟩ => ?_⟩
  rw [e4] at q3
  cases e5 : partOf hi h with
  | none => rw [e5] at q3; exact q3.elim
  | some hv =>
    rw [e5] at q3
    simp only at q3
    split at q3
    · rename_i d hd
      exact ⟨hv, rfl, ι3, M3, x, d, rl3.mem, Rp.ext e3 _ _ (Rp.ext e2 _ _ r), hd, Pr.finN rl3 q3⟩
    · exact q3.elim
end
end PD
/-! PD11: methods, calls, what is walked -/
namespace PD
open PySem PySem.Spec PyProof.Rows L2
section
variable {X : Cx} {c : Cc} {T : Tbl} {K : PySem.W.Frag}
/-! ### methods -/
def meT : Me → String
  | .split => "str"
  | .get => "dict" | .setdefault => "dict" | .items => "dict" | .keys => "dict"
  | _ => "list"
theorem me_ty {ι : Kt} {M : Mem} {H : Hp} {v : V} {d : D} {f : Me} (m : Mr K ι M H) (r : Rp K ι H v d) (h : meTy f (d.val M) = true) : tyV K (meT f) v H := by
  generalize e : d.val M = w at h
  cases f <;> cases w <;> simp only [meTy, Bool.false_eq_true] at h
  · obtain ⟨a, vs, rfl, h1, h2⟩ := val_lst m r e
    exact .inl ⟨rfl, vs, SqL.of h1⟩
  · obtain ⟨a, vs, rfl, h1, h2⟩ := val_lst m r e
    exact .inl ⟨rfl, vs, SqL.of h1⟩
  · rw [(val_str m r e).1]
    rfl
/-- a method's rule, by the evaluator -/
def rMe (K : PySem.W.Frag) (f : Me) : V → List V → Hp → VK → Prop := fun v vs H Q => ∃ ι s M σ d ds, Rl K ι s M σ H ∧ Rp K ι H v d ∧ Rps K ι H vs ds ∧ Pr K ι s σ H (meRun f d ds M) (kE K Q)
theorem own_append {v : V} {vs : List V} {H : Hp} {Q : VK} (h : rMe K .append v vs H Q) : rAppend v vs H Q := by
  obtain ⟨ι, s, M, σ, d, ds, rl, r, rs, q⟩ := h
  unfold meRun at q
  split at q
  · rename_i i y e1
    cases e1
    obtain ⟨a, d', rfl, h1, h2, h3, cl⟩ := rl.mem.cellOf r
    rw [h2] at q
    cases cl with
    | @lst us xs hp hr =>
      simp only at q
      split at q
      · rename_i hz
        cases rs with
        | @cons y' _ _ _ ry rn =>
          cases rn
          have e2 := Ext.put rl.mem (o := HO.lst (us ++ [y'])) (List.mem_of_getElem? h1)
          refine ⟨a, us, y', rfl, rfl, hp, by rw [hr.length]; exact hz, ?_⟩
          exact q ι _ e2 (rl.put h1 (.lst upd_same (Rps.ext e2 _ _ (hr.append (.cons ry .nil))))) .non .non
      · exact q.elim
    | dct _ _ _ => exact q.elim
  all_goals (rename_i hh; first | exact q.elim | (cases hh))
theorem own_pop {v : V} {vs : List V} {H : Hp} {Q : VK} (h : rMe K .pop v vs H Q) : rPop v vs H Q := by
  obtain ⟨ι, s, M, σ, d, ds, rl, r, rs, q⟩ := h
  unfold meRun at q
  split at q
  · rename_i hh; cases hh
  · rename_i i
    obtain ⟨a, d', rfl, h1, h2, h3, cl⟩ := rl.mem.cellOf r
    rw [h2] at q
    cases cl with
    | @lst us xs hp hr =>
      simp only at q
      split at q
      · rename_i y hy
        cases rs
        obtain ⟨w, hw, rw'⟩ := hr.get hy
        have e2 := Ext.put rl.mem (o := HO.lst us.dropLast) (List.mem_of_getElem? h1)
        refine ⟨a, us, w, rfl, rfl, hp, by rw [hr.length]; exact hw, ?_⟩
        have hd : Rps K ι H us.dropLast xs.dropLast := by
          rw [List.dropLast_eq_take, List.dropLast_eq_take, hr.length]
          exact hr.take _
        exact q ι _ e2 (rl.put h1 (.lst upd_same (Rps.ext e2 _ _ hd))) w (Rp.ext e2 _ _ rw')
      · exact q.elim
    | dct _ _ _ => exact q.elim
  all_goals (rename_i hh; first | exact q.elim | (cases hh))
theorem Rps.strs {ι : Kt} {H : Hp} : ∀ {xs : List Str}, xs.all sok = true → Rps K ι H (xs.map V.str) (xs.map .str)
  | [], _ => .nil
  | x :: xs, h => by
    simp only [List.all_cons, Bool.and_eq_true] at h
    exact .cons (.str h.1) (Rps.strs h.2)
theorem own_split {v : V} {vs : List V} {H : Hp} {Q : VK} (h : rMe K .split v vs H Q) : ∃ a b, v = .str a ∧ vs = [.str b] ∧ (b.length == 0) = false ∧ a.length + 2 ≤ sizeLine ∧ rNewStrs (Txt.split a b) H Q := by
  obtain ⟨ι, s, M, σ, d, ds, rl, r, rs, q⟩ := h
  unfold meRun at q
  split at q
  · rename_i hh; cases hh
  · rename_i hh; cases hh
  · rename_i a b _
    split at q
    · exact q.elim
    · rename_i h0
      split at q
      · rename_i hk
        cases r
        cases rs with
        | cons ry rn =>
          cases rn
          cases ry
          simp only [Bool.or_eq_true, decide_eq_true_eq, not_or] at h0
          refine ⟨a, b, rfl, rfl, by simpa using h0.1, by omega, fun p hp => ?_⟩
          exact (Pr.fin rl q).lst rl.mem (Rps.strs hk) hp
      · exact q.elim
  · exact q.elim
theorem own_me {f : Me} {o : E} {es : Es} {σ : L2.St} {H : Hp} {Q : VK} (h : tE K T (.me f o es) σ H Q) : tBM K (meT f) (rMe K f) (tE K T o) (tA K T es) σ H Q := by
  obtain ⟨ι, s, M, rl, q⟩ := h
  simp only [ev] at q
  refine ⟨ι, s, M, rl, (Pr.bind q).imp fun x ι1 H1 ⟨M1, e1, rl1, _, q1⟩ v r => ?_⟩
  split at q1
  · rename_i ht
    refine ⟨me_ty rl1.mem r ht, ι1, s, M1, rl1, (Pr.bind q1).imp fun ds ι2 H2 ⟨M2, e2, rl2, _, q2⟩ vs rs => ?_⟩
    exact ⟨ι2, s, M2, σ, x, ds, rl2, Rp.ext e2 _ _ r, rs, q2⟩
  · exact q1.elim
theorem all_kw (pos : Pos) (env : PySem.Env) : (backToKw pos (keywordEach [] env)).all (fun x => x.1.isSome) = true := rfl
theorem All.few : ∀ {es : Es} {es' : List Expr}, All X T es es' → ∀ (pos : Pos) (env : PySem.Env), (backTo pos (starEach es' env)).all (fun x => !x.1) = true
  | .nil, _, h, pos, env => by cases h; rfl
  | .cons e es, _, h, pos, env => by
    cases h with
    | cons h1 h2 h3 =>
      rw [star_cons h1]
      show (!false && (backTo pos (starEach _ env)).all (fun x => !x.1)) = true
      rw [h3.few pos env]; rfl
theorem snd_meth {f : Me} {Ty id : String} {r : V → List V → Hp → VK → Prop} {o : E} {es : Es} {o' : Expr} {es' : List Expr} {apos cpos : Pos} (ok : Xok X c T) (ht : meT f = Ty) (pa : PlainAttrs Ty) (slot : Slot Ty (meN f) id) (hty : typeOf (.builtin id) = pure (.type "method_descriptor"))
    (hm : MtR X id r) (hr : ∀ v vs H Q, rMe X.K f v vs H Q → r v vs H Q) (hl : (apos.endLine == cpos.line) = true) (h0 : noCall0 o' = true) (h3 : es'.length ≤ 3) (ho : PB X T o o') (h : All X T es es') :
    PB X T (.me f o es) (.Call (.Attribute o' (meN f) apos) es' [] cpos) := by
  subst ht
  have hm' : MtR X id (rMe X.K f) := fun pins s σ H x xs v us Q I rx rs q => hm pins s σ H x xs v us Q I rx rs (hr _ _ _ _ q)
  cases h with
  | nil =>
    refine .val (PE.imp (pe_bm0 pa slot hty hm' ho.pe (base_of h0) hl) fun σ H Q q => ?_) fun _ => rfl
    obtain ⟨ι, s, M, rl, q⟩ := own_me q
    refine ⟨ι, s, M, rl, q.imp fun x ι1 H1 k v rp => ?_⟩
    obtain ⟨h1, ι2, s2, M2, rl2, h2⟩ := k v rp
    simp only [evs] at h2
    exact ⟨h1, Pr.self rl2 h2 [] .nil⟩
  | @cons e es e' es'' h1 h2 h4 =>
    have hall : All X T (.cons e es) (e' :: es'') := .cons h1 h2 h4
    refine .val (PE.imp (pe_bm pa slot hty hm' ho.pe (pa_all hall) (base_of h0) ?_ hl (star_cons h1) (h4.stars _ _)) fun σ H Q q => own_me q) fun _ => rfl
    rw [hall.few, all_kw]
    simp only [List.length_cons, Bool.and_true, Bool.true_and, decide_eq_true_eq, List.isEmpty_nil, if_true, List.length_nil] at h3 ⊢
    omega
theorem snd_me {f : Me} {o : E} {es : Es} {o' : Expr} {es' : List Expr} {apos cpos : Pos} (ok : Xok X c T) (hl : (apos.endLine == cpos.line) = true) (h0 : noCall0 o' = true) (h3 : es'.length ≤ 3) (ho : PB X T o o') (h : All X T es es') (hf : meOk f = true) :
    PB X T (.me f o es) (.Call (.Attribute o' (meN f) apos) es' [] cpos) := by
  cases f <;> simp only [meOk, Bool.false_eq_true] at hf
  · exact snd_meth ok rfl PySem.F.plainAttrs_list PySem.F.slot_list_append PySem.F.type_list_append mt_append (fun _ _ _ _ q => own_append q) hl h0 h3 ho h
  · exact snd_meth ok rfl PySem.F.plainAttrs_list PySem.F.slot_list_pop PySem.F.type_list_pop mt_pop (fun _ _ _ _ q => own_pop q) hl h0 h3 ho h
  · exact snd_meth ok rfl PySem.F.plainAttrs_str PySem.F.slot_str_split PySem.F.type_str_split mt_split (fun _ _ _ _ q => own_split q) hl h0 h3 ho h

/-! ### calls of defs -/
def Es.app : Es → Es → Es
  | .nil, b => b
  | .cons e a, b => .cons e (a.app b)
theorem All.split : ∀ {a : List Expr} {es : Es} {b : List Expr}, All X T es (a ++ b) → ∃ e1 e2 : Es, es = e1.app e2 ∧ All X T e1 a ∧ All X T e2 b
  | [], es, b, h => ⟨.nil, es, rfl, .nil, h⟩
  | x :: a, es, b, h => by
    cases h with
    | cons h1 h2 h3 =>
      obtain ⟨e1, e2, rfl, h4, h5⟩ := All.split h3
      exact ⟨.cons _ e1, e2, rfl, .cons h1 h2 h4, h5⟩
theorem R.bind_assoc {α β γ : Type} (r : R α) (f : α → Mem → R β) (g : β → Mem → R γ) : (r.bind f).bind g = r.bind fun a M => (f a M).bind g := by cases r <;> rfl
theorem evs_app {s : Env} : ∀ {a b : Es} {M : Mem}, evs T (a.app b) s M = (evs T a s M).bind fun xs M1 => (evs T b s M1).bind fun ys M2 => .ok (xs ++ ys) M2
  | .nil, b, M => by
    simp only [Es.app, evs, R.bind, List.nil_append]
    cases evs T b s M <;> rfl
  | .cons e a, b, M => by
    simp only [Es.app, evs, R.bind_assoc]
    congr 1
    funext x M1
    rw [evs_app, R.bind_assoc]
    congr 1
    funext xs M2
    rw [R.bind_assoc]
    rfl
theorem prF_of {ι : Kt} {s : Env} {M : Mem} {σ : L2.St} {H : Hp} {r : R D} {k : D → Kt → Hp → Prop} (rl : Rl K ι s M σ H) (h : Pr K ι s σ H r k) : PrF K ι H r k := by
  cases r with
  | ok a M1 => exact fun ι1 H1 e m => h ι1 H1 e ⟨rl.env.ext e, m⟩
  | ex _ _ _ => exact h
  | no => exact h
theorem call_pr {keep : Bool} {f np : Nat} {ys : List D} {vs : List V} {ι : Kt} {s : Env} {M : Mem} {σ : L2.St} {H : Hp} {Q : VK} {E : XK} (rl : Rl K ι s M σ H) (rs : Rps K ι H vs ys) (hl : ys.length = np) (h : Pr K ι s σ H (callT T keep f ys M) (kE K Q)) : spF K T f np vs H Q E := by
  unfold callT at h
  split at h
  rotate_left
  · exact ⟨ι, M, ys, keep, rl.mem, rs, hl, prF_of rl h⟩
  rename_i hn
  have m0 : Mr K ⟨[], ι.γ ++ ι.ι⟩ [] H := ⟨rfl, fun i a d h1 _ => by simp at h1, List.nodup_nil, fun a z => ⟨by simp, by
    rcases List.mem_append.mp z with z | z
    · exact (rl.mem.gh a z).2
    · exact rl.mem.there z⟩⟩
  have c0 : Cut 0 ι ⟨[], ι.γ ++ ι.ι⟩ := ⟨fun hi _ => by omega, fun n z => n (by
    rcases z with z | z
    · simp at z
    · rcases List.mem_append.mp z with z | z
      · exact .inr z
      · exact .inl z)⟩
  refine ⟨⟨[], ι.γ ++ ι.ι⟩, [], ys, keep, m0, Rps.cutT c0 _ _ rs (norefs_rb 0 _ hn), hl, ?_⟩
  cases hT : T f keep ys [] with
  | no => rw [hT] at h; exact h.elim
  | ex _ _ _ => rw [hT] at h; exact h.elim
  | ok d M2 =>
    rw [hT] at h
    intro ι' H' e m' v rv
    have kept : ∀ a o, H a = some o → H' a = some o := fun a o q => e.keep a o q (by simp)
    have back : ∀ {a : Addr}, ¬ ι'.bad a → ¬ ι.bad a := fun n z => n (.inr (e.gh _ (List.mem_append.mpr (z.symm.imp (fun q => q) fun q => q))))
    cases keep with
    | false =>
      simp only [Bool.false_eq_true, if_false] at h
      split at h
      rotate_left
      · exact h.elim
      split at h
      rotate_left
      · exact h.elim
      rename_i hd
      have ex : Ext ι H ι H' := ⟨⟨[], by simp⟩, fun a o q _ => kept a o q, fun _ z => .inl z, fun _ z => z, fun _ z => .inl z, fun a o q => ⟨o, kept a o q⟩⟩
      have rl' : Rl K ι s M σ H' := ⟨rl.env.ext ex, rl.mem.len, fun i a d h1 h2 => (rl.mem.cell i a d h1 h2).ext ex fun o q => kept a o q, rl.mem.nd, fun a z => ⟨(rl.mem.gh a z).1, _, kept a _ (rl.mem.gh a z).2.choose_spec⟩⟩
      exact h ι H' ex rl' v (Rp.cutT (n := 0) ⟨fun hi _ => by omega, back⟩ _ _ rv (noref_rb 0 _ hd))
    | true =>
      simp only [if_true] at h
      split at h
      rotate_left
      · exact h.elim
      rename_i e1
      split at h
      rotate_left
      · exact h.elim
      rename_i he1
      obtain ⟨a, d', rfl, h1, h2, h3, cl⟩ := m'.cellOf rv
      have h2 : ([e1] : Mem)[0]? = some d' := h2
      cases h2
      have hna : H a = none := by
        rcases e.new a (List.mem_of_getElem? h1) with q | q
        · simp at q
        · exact q
      have nI : a ∉ ι.ι := fun z => by
        obtain ⟨o, q⟩ := rl.mem.there z
        rw [hna] at q; cases q
      have back2 : ∀ {b : Addr}, ¬ ι'.bad b → ¬ (Kt.mk (ι.ι ++ [a]) ι.γ).bad b := fun {b} n z => by
        rcases z with z | z
        · rcases List.mem_append.mp z with z | z
          · exact back n (.inl z)
          · rw [List.mem_singleton.mp z] at n
            exact n (.inl (List.mem_of_getElem? h1))
        · exact back n (.inr z)
      have ex : Ext ι H ⟨ι.ι ++ [a], ι.γ⟩ H' := ⟨⟨[a], rfl⟩, fun b o q _ => kept b o q, fun b z => by
        rcases List.mem_append.mp z with z | z
        · exact .inl z
        · rw [List.mem_singleton.mp z]; exact .inr hna, fun _ z => z, fun _ z => .inl z, fun b o q => ⟨o, kept b o q⟩⟩
      have rl' : Rl K ⟨ι.ι ++ [a], ι.γ⟩ s (M ++ [e1]) σ H' := by
        refine ⟨rl.env.ext ex, by simp [rl.mem.len], fun i b d k1 k2 => ?_, ?_, fun b z => ⟨fun q => ?_, _, kept b _ (rl.mem.gh b z).2.choose_spec⟩⟩
        · have k1 : (ι.ι ++ [a])[i]? = some b := k1
          by_cases hi : i < ι.ι.length
          · rw [List.getElem?_append_left hi] at k1
            rw [List.getElem?_append_left (by rw [← rl.mem.len]; exact hi)] at k2
            exact (rl.mem.cell i b d k1 k2).ext ex fun o q => kept b o q
          · rw [List.getElem?_append_right (by omega)] at k1
            rw [List.getElem?_append_right (by rw [← rl.mem.len]; omega)] at k2
            have e0 : i - ι.ι.length = 0 := by
              have := (List.getElem?_eq_some_iff.mp k1).1
              simp at this
              omega
            rw [e0] at k1
            rw [← rl.mem.len, e0] at k2
            simp at k1 k2
            subst k1 k2
            exact cl.cutT (n := 0) ⟨fun hi _ => by omega, back2⟩ (noref_rb 0 _ he1)
        · show (ι.ι ++ [a]).Nodup
          rw [List.nodup_append]
          refine ⟨rl.mem.nd, by simp, fun x hx y hy => ?_⟩
          rw [List.mem_singleton.mp hy]
          intro z
          subst z
          exact nI hx
        · rcases List.mem_append.mp q with q | q
          · exact (rl.mem.gh b z).1 q
          · rw [List.mem_singleton.mp q] at z
            obtain ⟨o, q2⟩ := (rl.mem.gh a z).2
            rw [hna] at q2; cases q2
      refine h _ H' ex rl' (.ref a) (.ref ?_)
      show (ι.ι ++ [a])[M.length]? = some a
      rw [← rl.mem.len]
      simp
theorem dsAt_len {fi : Fi} {n : Nat} (h1 : n ≤ fi.ps.length) (h2 : fi.ps.length ≤ n + fi.ds.length) : n + (fi.dsAt n).length = fi.ps.length := by
  unfold Fi.dsAt
  rw [List.length_drop]
  omega
theorem own_call {keep : Bool} {es : Es} {ds : List D} {f np : Nat} {dvs : List V} {σ : L2.St} {H : Hp} {Q : VK} (hd : ∀ ι H, Rps K ι H dvs ds) (hl : es.length + ds.length = np) (h : tE K T (.call keep f es ds) σ H Q) :
    tCall (spF K T f np) dvs E0 (tA K T es) σ H Q := by
  obtain ⟨ι, s, M, rl, q⟩ := h
  simp only [ev] at q
  refine ⟨ι, s, M, rl, (Pr.bind q).imp fun xs ι1 H1 ⟨M1, e1, rl1, e2, q1⟩ vs rs => call_pr rl1 (rs.append (hd _ _)) ?_ q1⟩
  rw [List.length_append, evs_len e2, hl]
theorem passes0 : Passes CX0 X E0 := fun _ _ _ _ _ _ _ h => h.elim
theorem kw_all (pos : Pos) (env : PySem.Env) : ∀ {kws : List Keyword} {ks : List Str}, kws.map (·.arg) = ks.map some → (backToKw pos (keywordEach kws env)).all (·.1.isSome) = true ∧ (backToKw pos (keywordEach kws env)).filterMap (·.1) = ks ∧ (backToKw pos (keywordEach kws env)).any (·.1.isNone) = false
  | [], [], _ => ⟨rfl, rfl, rfl⟩
  | [], _ :: _, h => by simp at h
  | _ :: _, [], h => by simp at h
  | ⟨nm, e, kp⟩ :: kws, k :: ks, h => by
    simp only [List.map_cons, List.cons.injEq] at h
    obtain ⟨rfl, h⟩ := h
    obtain ⟨h1, h2, h3⟩ := kw_all pos env h
    refine ⟨?_, ?_, ?_⟩
    · show (true && _) = true
      exact h1
    · show k :: (backToKw pos (keywordEach kws env)).filterMap (·.1) = k :: ks
      rw [h2]
    · show (false || _) = false
      exact h3
theorem snd_call {keep : Bool} {es : Es} {ds : List D} {fi : Fi} {x : Str} {p pos : Pos} {es' : List Expr} {kws : List Keyword} (ok : Xok X c T) (hx : c.fns.lookup x = some fi) (g : Gl X x) (hn : okN x = true)
    (hds : ds = fi.dsAt (es'.length + kws.length)) (hks : kws.map (·.arg) = ((fi.ps.drop es'.length).take kws.length).map some) (hkl : (if kws.isEmpty then fi.pn.contains es'.length else fi.kn.contains es'.length && decide (es'.length + kws.length = fi.ps.length)) = true)
    (l1 : es'.length + kws.length ≤ fi.ps.length) (l2 : fi.ps.length ≤ es'.length + kws.length + fi.ds.length) (h : All X T es (es' ++ kws.map (·.value))) : PB X T (.call keep fi.ix es ds) (.Call (.Name x p) es' kws pos) := by
  obtain ⟨f, fd, k, F, hr, hm, hk, hb, hkb⟩ := (ok.fn x fi hx).ex
  have hdb := (okN_of hn).d
  cases kws with
  | nil =>
    have h : All X T es es' := by simpa using h
    obtain ⟨dvs, dsv, b1, b2, b3⟩ := hb es'.length (by simpa using hkl)
    have hds' : ds = fi.dsAt es'.length := by simpa using hds
    have hlen : es.length + ds.length = fi.ps.length := by
      rw [hds', ← h.length]
      exact dsAt_len (by simpa using l1) (by simpa using l2)
    rw [← hds'] at b3
    cases h with
    | nil =>
      refine .val (PE.imp (pe_call0 F hr g hm hk b1 b2 passes0 hdb) fun σ H Q q => ?_) fun _ => rfl
      obtain ⟨ι, s, M, rl, q⟩ := own_call b3 hlen q
      simp only [evs] at q
      exact Pr.self rl q [] .nil
    | @cons e es e' es'' h1 h2 h3 =>
      exact .val (PE.imp (pe_call F hr g hm hk b1 b2 passes0 (pa_all (.cons h1 h2 h3)) hdb (star_cons h1) (h3.stars _ _)) fun σ H Q q => own_call b3 hlen q) fun _ => rfl
  | cons kw kws =>
    simp only [List.isEmpty_cons, Bool.false_eq_true, if_false, Bool.and_eq_true, decide_eq_true_eq] at hkl
    obtain ⟨hkn, hfull⟩ := hkl
    have hds0 : ds = [] := by
      rw [hds, hfull]
      unfold Fi.dsAt
      rw [List.drop_eq_nil_iff]
      omega
    subst hds0
    obtain ⟨e1, e2, rfl, hA, hK⟩ := h.split
    have hks' : (kw :: kws).map (·.arg) = (fi.ps.drop es'.length).map some := by
      rw [hks, List.take_of_length_le]
      rw [List.length_drop]
      omega
    obtain ⟨k1, k2, k3⟩ := kw_all pos X.env hks'
    have KB := hkb es'.length (by simpa using hkn)
    have pk := pk_all hK
    have klen : e2.length = (fi.ps.drop es'.length).length := by
      rw [← hK.length, List.length_map, List.length_drop]
      omega
    have own : ∀ {σ : L2.St} {H : Hp} {Q : VK}, tE X.K T (.call keep fi.ix (e1.app e2) []) σ H Q → tCallN es'.length (fi.ps.drop es'.length).length (spF X.K T fi.ix fi.ps.length) (fun us ws => us ++ ws) E0 (tA X.K T e1) (tA X.K T e2) σ H Q := by
      intro σ H Q q
      obtain ⟨ι, s, M, rl, q⟩ := q
      simp only [ev, evs_app, R.bind_assoc, List.append_nil] at q
      refine ⟨ι, s, M, rl, (Pr.bind q).imp fun xs ι1 H1 ⟨M1, x1, rl1, x2, q1⟩ vs rs => ⟨ι1, s, M1, rl1, (Pr.bind q1).imp fun ys ι2 H2 ⟨M2, x3, rl2, x4, q2⟩ us ru => ?_⟩⟩
      have n1 : vs.length = es'.length := by rw [rs.length, evs_len x2, hA.length]
      have n2 : us.length = (fi.ps.drop es'.length).length := by rw [ru.length, evs_len x4, klen]
      refine ⟨n1, n2, call_pr rl2 ((Rps.ext x3 _ _ rs).append ru) ?_ q2⟩
      rw [List.length_append, ← rs.length, ← ru.length, n1, n2, List.length_drop]
      have : es'.length ≤ fi.ps.length := by omega
      omega
    cases hA with
    | nil =>
      refine .val ⟨fun pins s0 σ H Q I q => ?_⟩ fun _ => rfl
      have q := own q
      refine wpAny_Call_Name_kw (ld_glob I g hm ?_ hdb)
      obtain ⟨ι, s, M, rl, q⟩ := q
      simp only [evs] at q
      obtain ⟨ι2, s2, M2, rl2, q⟩ := Pr.self rl q [] .nil
      refine PySem.W.callWith_KW0 (h₀ := X.base) I.ok.mod.kin hk k1 (thn (pk.run pos pins s0 σ H _ I ⟨ι2, s2, M2, rl2, q⟩) fun ws s1 ⟨zs, H1, I1, rz, n1, n2, q1⟩ => ⟨I1.kIn, ?_⟩) (by show (false || _) = false; exact k3)
      rw [k2]
      exact run_fnN F hr KB passes0 I1 .nil rz rfl n2 q1
    | @cons e es e' es'' h1 h2 h3 =>
      refine .val (PE.imp (pe_callN F hr g hm hk KB passes0 (pa_all (.cons h1 h2 h3)) pk k1 k2 hdb (star_cons h1) ?_) fun σ H Q q => own q) fun _ => rfl
      rw [k3, star_cons h1]
      show ((false || (backTo pos (starEach es'' X.env)).any (·.1)) || false) = false
      rw [h3.stars]; rfl
end
end PD
/-! PD12: what is walked; comprehensions -/
namespace PD
open PySem PySem.Spec PyProof.Rows L2
section
variable {X : Cx} {c : Cc} {T : Tbl} {K : PySem.W.Frag} {tg : Expr}
theorem pa_one {e : E} {e' : Expr} (hs : noStar e' = true) (h : PB X T e e') : PA X [e'] (tCons (tE X.K T e) tNil) := pa_cons h.pe pa_nil (star_cons hs)
theorem own_one {e : E} {σ : L2.St} {H : Hp} {Q : List V → Hp → Prop} {ι : Kt} {s : Env} {M : Mem} (rl : Rl K ι s M σ H) (h : Pr K ι s σ H (ev T e s M) fun d ι' H' => ∀ v, Rp K ι' H' v d → Q [v] H') : tCons (tE K T e) tNil σ H Q :=
  ⟨ι, s, M, rl, h.imp fun d ι1 H1 k v r => k v r⟩
theorem snd_ival {e : E} {e' : Expr} (h : PB X T e e') : PI X tg e' (tI X.K T (.val e)) := by
  refine PI.imp (pi_of iter_val h.pe) fun σ H Rr q => ?_
  obtain ⟨ι, s, M, rl, q⟩ := q
  simp only [evIt] at q
  refine ⟨ι, s, M, rl, (Pr.bind q).imp fun x ι1 H1 ⟨M1, e1, rl1, _, q1⟩ v r => ?_⟩
  obtain ⟨xg, e2, q2⟩ := q1.of
  obtain ⟨xs, e3, rfl⟩ := Option.map_eq_some_iff.mp e2
  exact ⟨ι1, M1, x, xs, rl1.mem, r, e3, Pr.self rl1 q2⟩
theorem rngOk_of {i : Int} (h : rngOk i = true) : -(2 ^ 62) ≤ i ∧ i < 2 ^ 62 := by
  unfold rngOk at h
  simpa using h
theorem snd_irng {es : Es} {es' : List Expr} {p pos : Pos} (ok : Xok X c T) (g : Gl X "range") (l1 : 1 ≤ es'.length) (l2 : es'.length ≤ 2) (h : All X T es es') : PI X tg (.Call (.Name "range" p) es' [] pos) (tI X.K T (.rng es)) := by
  have hm : X.mg "range" = none := ok.bl _ (by decide +kernel)
  cases h with
  | nil => simp at l1
  | @cons e1 es1 e1' es1' h1 h2 h3 =>
    cases h3 with
    | nil =>
      refine PI.imp (pi_range1 g hm (pa_all (.cons h1 h2 .nil)) (star_cons h1)) fun σ H Rr q => ?_
      obtain ⟨ι, s, M, rl, q⟩ := q
      rw [evIt] at q
      refine ⟨ι, s, M, rl, (Pr.bind q).imp fun ds ι1 H1 ⟨M1, x1, rl1, x2, q1⟩ vs rs => ?_⟩
      obtain ⟨xg, e2, q2⟩ := q1.of
      obtain ⟨xs, e3, rfl⟩ := Option.map_eq_some_iff.mp e2
      have hl := evs_len x2
      match ds, hl, rs, e3 with
      | [d], _, .cons r .nil, e3 =>
        cases d <;> simp only [rngOf, reduceCtorEq] at e3
        split at e3
        · rename_i hh
          cases e3
          simp only [Bool.and_eq_true, decide_eq_true_eq] at hh
          cases r
          exact ⟨_, rfl, (rngOk_of hh.1).1, (rngOk_of hh.1).2, Pr.self rl1 q2 _ wk_rng⟩
        · cases e3
    | @cons e2 es2 e2' es2' h4 h5 h6 =>
      cases h6 with
      | nil =>
        refine PI.imp (pi_range2 g hm (pa_all (.cons h1 h2 (.cons h4 h5 .nil))) (by rw [star_cons h1, star_cons h4]; rfl) (star_cons h4)) fun σ H Rr q => ?_
        obtain ⟨ι, s, M, rl, q⟩ := q
        rw [evIt] at q
        refine ⟨ι, s, M, rl, (Pr.bind q).imp fun ds ι1 H1 ⟨M1, x1, rl1, x2, q1⟩ vs rs => ?_⟩
        obtain ⟨xg, e2, q2⟩ := q1.of
        obtain ⟨xs, e3, rfl⟩ := Option.map_eq_some_iff.mp e2
        have hl := evs_len x2
        match ds, hl, rs, e3 with
        | [d, d2], _, .cons r (.cons r2 .nil), e3 =>
          cases d <;> cases d2 <;> simp only [rngOf, reduceCtorEq] at e3
          split at e3
          · rename_i hh
            cases e3
            simp only [Bool.and_eq_true, decide_eq_true_eq] at hh
            cases r
            cases r2
            exact ⟨_, _, rfl, ⟨(rngOk_of hh.1.1).1, (rngOk_of hh.1.1).2, (rngOk_of hh.1.2).1, (rngOk_of hh.1.2).2⟩, Pr.self rl1 q2 _ wk_rng⟩
          · cases e3
      | cons _ _ _ => simp at l2
theorem snd_ienum {e : E} {e' : Expr} {p pos tpos : Pos} {elts : List Expr} {kk : Nat} (ok : Xok X c T) (g : Gl X "enumerate") (hs : noStar e' = true) (h : PB X T e e') : PI X (.Tuple elts kk tpos) (.Call (.Name "enumerate" p) [e'] [] pos) (tI X.K T (.enum e)) := by
  have hm : X.mg "enumerate" = none := ok.bl _ (by decide +kernel)
  refine PI.imp (pi_enumA g hm (pa_one hs h) (star_cons hs)) fun σ H Rr q => ?_
  obtain ⟨ι, s, M, rl, q⟩ := q
  rw [evIt] at q
  refine own_one rl ((Pr.bind q).imp fun x ι1 H1 ⟨M1, e1, rl1, _, q1⟩ v r => ?_)
  obtain ⟨xg, e2, q2⟩ := q1.of
  obtain ⟨xs, e3, rfl⟩ := Option.map_eq_some_iff.mp e2
  have q3 := Pr.self rl1 q2
  simp only at q3
  generalize e4 : x.val M1 = w at e3
  cases w <;> simp only [rowOf, reduceCtorEq] at e3 <;> cases e3
  · obtain ⟨rfl, a, vs, rfl, t1, k1⟩ := val_tup rl1.mem r e4
    exact ⟨a, vs, rfl, .inr ⟨t1.sq, q3 _ (wk_enumT t1 k1)⟩⟩
  · obtain ⟨a, rfl, ⟨vs, hv⟩, st⟩ := stays_lst rl1.mem r e4
    exact ⟨a, vs, rfl, .inl ⟨hv, q3 _ (wk_enum st)⟩⟩
  · obtain ⟨a, rfl, ⟨vs, hv⟩, st⟩ := stays_lok (g := gdOf M1 x) rl1.mem r e4
    exact ⟨a, vs, rfl, .inl ⟨hv, q3 _ (wk_enum st)⟩⟩
theorem snd_izip {a b : E} {a' b' : Expr} {p pos tpos : Pos} {elts : List Expr} {kk : Nat} (ok : Xok X c T) (g : Gl X "zip") (h1 : noStar a' = true) (h2 : noStar b' = true) (ha : PB X T a a') (hb : PB X T b b') :
    PI X (.Tuple elts kk tpos) (.Call (.Name "zip" p) [a', b'] [] pos) (tI X.K T (.zip a b)) := by
  have hm : X.mg "zip" = none := ok.bl _ (by decide +kernel)
  have pa : PA X [a', b'] (tCons (tE X.K T a) (tCons (tE X.K T b) tNil)) := pa_cons ha.pe (pa_one h2 hb) (star_cons h1)
  refine PI.imp (RZ.pi_zipA g hm pa (star_cons h1) (by rw [star_cons h2]; rfl)) fun σ H Rr q => ?_
  obtain ⟨ι, s, M, rl, q⟩ := q
  rw [evIt] at q
  refine ⟨ι, s, M, rl, (Pr.bind q).imp fun x ι1 H1 ⟨M1, e1, rl1, _, q1⟩ v r => ⟨ι1, s, M1, rl1, (Pr.bind q1).imp fun y ι2 H2 ⟨M2, e2, rl2, _, q2⟩ u ru => ?_⟩⟩
  have r' := Rp.ext e2 _ _ r
  cases x <;> cases y <;> first | exact q2.elim | skip
  · cases r'
    cases ru
    rename_i a1 v1 t1 k1 a2 v2 t2 k2
    exact ⟨_, _, _, _, rfl, .inr ⟨t1.sq, t2.sq, Pr.self rl2 q2 _ (wk_zipT t1 t2 k1 k2)⟩⟩
  · cases r'
    cases ru
    rename_i a1 v1 t1 n1 k1 a2 v2 t2 n2 k2
    exact ⟨_, _, _, _, rfl, .inl ⟨SqL.of t1, SqL.of t2, Pr.self rl2 q2 _ (wk_zipL (fun ι' H' e => ⟨SqL.of (e.kept t1 n1), SqL.of (e.kept t2 n2)⟩) k1 k2)⟩⟩
end
end PD
/-! PD13: targets; comprehensions -/
namespace PD
open PySem PySem.Spec PyProof.Rows L2
section
variable {X : Cx} {c : Cc} {T : Tbl} {K : PySem.W.Frag}
/-! ### targets -/
/-- what a target is given -/
def tgV : Tg → D → Mem → D
  | .nm _, d, _ => d
  | .tp _, d, M => d.val M
/-- some slots are set -/
inductive Sets (own : List Nat) : L2.St → L2.St → Prop
  | rfl {σ : L2.St} : Sets own σ σ
  | set {σ σ' : L2.St} (i : Nat) (v : V) : i ∈ own → Sets own σ σ' → Sets own σ (σ'.set i (some v))
theorem Sets.trans {own : List Nat} {a b d : L2.St} (h : Sets own a b) (k : Sets own b d) : Sets own a d := by
  induction k with
  | rfl => exact h
  | set i v hi _ ih => exact .set i v hi ih
theorem wipe_get (σ : L2.St) : ∀ (own : List Nat) (i : Nat), (L2.wipe σ own)[i]? = if i ∈ own ∧ i < σ.length then some none else σ[i]?
  | [], i => by simp [L2.wipe]
  | v :: vs, i => by
    unfold L2.wipe
    rw [List.getElem?_set, wipe_get σ vs i, L2.wipe_length]
    by_cases h : v = i
    · subst h
      by_cases hl : v < σ.length
      · simp [hl]
      · simp [hl]
    · have : i ≠ v := fun z => h z.symm
      simp [h, this]
theorem wipe_set {σ : L2.St} {own : List Nat} {i : Nat} {o : Option V} (h : i ∈ own) : L2.wipe (σ.set i o) own = L2.wipe σ own := by
  apply List.ext_getElem?
  intro j
  rw [wipe_get, wipe_get, List.length_set, List.getElem?_set]
  by_cases hj : j ∈ own ∧ j < σ.length
  · simp [hj]
  · rw [if_neg hj, if_neg hj]
    by_cases e : i = j
    · subst e
      simp only [h, true_and] at hj
      simp [hj]
    · simp [e]
theorem wipe_wipe (σ : L2.St) (own : List Nat) : L2.wipe (L2.wipe σ own) own = L2.wipe σ own := by
  apply List.ext_getElem?
  intro j
  rw [wipe_get, L2.wipe_length]
  by_cases hj : j ∈ own ∧ j < σ.length
  · rw [if_pos hj, wipe_get, if_pos hj]
  · rw [if_neg hj]
theorem Sets.wipe {own : List Nat} {σ σ' : L2.St} (h : Sets own σ σ') : L2.wipe σ' own = L2.wipe σ own := by
  induction h with
  | rfl => rfl
  | set i v hi _ ih => rw [wipe_set hi, ih]
/-- all slots -/
def gOwn (K : PySem.W.Frag) (t : Tg) : TG := fun v σ H Q => ∃ ι s M d s', Rl K ι s M σ H ∧ Rp K ι H v d ∧ setT t (tgV t d M) s = some s' ∧ ∀ σ', Rl K ι s' M σ' H → (∀ own, t.within own = true → Sets own σ σ') → Q σ' H
def gOwns (K : PySem.W.Frag) (ts : Tgs) : TGs := fun vs σ H Q => ∃ ι s M ds s', Rl K ι s M σ H ∧ Rps K ι H vs ds ∧ setTs ts ds s = some s' ∧ ∀ σ', Rl K ι s' M σ' H → (∀ own, ts.within own = true → Sets own σ σ') → Q σ' H
theorem setT_val {t : Tg} {d : D} {s s' : Env} (M : Mem) (h : setT t d s = some s') : setT t (tgV t d M) s = some s' := by
  cases t with
  | nm i => exact h
  | tp ts => cases d <;> simp only [setT, reduceCtorEq] at h <;> exact h
theorem chkTs_len {N : List Str} {so : Scope} : ∀ {ts : Tgs} {es : List Expr} (env : PySem.Env), chkTs N so ts es = true → (assignEach es env).length = es.length ∧ (assignEach es env).findIdx? (·.1) = none
  | .nil, es, env, h => by
    simp only [chkTs, List.isEmpty_iff] at h
    subst h
    exact ⟨rfl, rfl⟩
  | .cons t ts, [], env, h => by simp [chkTs] at h
  | .cons t ts, e :: r, env, h => by
    simp only [chkTs, Bool.and_eq_true] at h
    obtain ⟨h1, h2⟩ := chkTs_len (ts := ts) env h.2
    have e1 : assignEach (e :: r) env = (false, assign e env) :: assignEach r env := by
      cases t <;> cases e <;> first | rfl | (simp [chkT] at h)
    rw [e1]
    refine ⟨by simp [h1], ?_⟩
    rw [List.findIdx?_cons]
    simp [h2]
theorem setTs_len : ∀ {ts : Tgs} {ds : List D} {s s' : Env} {N : List Str} {so : Scope} {es : List Expr}, setTs ts ds s = some s' → chkTs N so ts es = true → ds.length = es.length
  | .nil, [], _, _, _, _, es, _, h => by
    simp only [chkTs, List.isEmpty_iff] at h
    subst h; rfl
  | .nil, _ :: _, _, _, _, _, es, h, _ => by simp [setTs] at h
  | .cons t ts, [], _, _, _, _, es, h, _ => by simp [setTs] at h
  | .cons t ts, d :: ds, s, s', N, so, [], h, k => by simp [chkTs] at k
  | .cons t ts, d :: ds, s, s', N, so, e :: r, h, k => by
    simp only [chkTs, Bool.and_eq_true] at k
    simp only [setTs] at h
    obtain ⟨s1, h1, h2⟩ := Option.bind_eq_some_iff.mp h
    simp [setTs_len h2 k.2]
mutual
theorem sndT {N : List Str} {so : Scope} (hN : X.N = N) (nd : X.N.Nodup) (hc : X.calm = true) (hl : ∀ x, locB so x = true → L2.Loc X.env.scope x ∧ (X.fn x = true ∨ X.env.scope.names.lookup x = some .local)) :
    ∀ (t : Tg) (e : Expr), chkT N so t e = true → PG X e (gOwn X.K t)
  | .nm i, e, h => by
    cases e with
    | Name x p =>
      simp only [chkT, Bool.and_eq_true, decide_eq_true_eq] at h
      obtain ⟨l1, l2⟩ := hl x h.2
      have g := pg_name (pos := p) nd (by rw [hN]; exact h.1) l1 l2
      refine ⟨fun pins s0 σ H v u Q I r q => g.run pins s0 σ H v u Q I r ?_⟩
      obtain ⟨ι, s, M, d, s', rl, rp, e1, k⟩ := q
      simp only [tgV, setT] at e1
      cases e1
      refine k _ ⟨rl.env.set rp i, rl.mem⟩ fun own ho => .set i v ?_ .rfl
      simpa [Tg.within] using ho
    | _ => simp [chkT] at h
  | .tp ts, e, h => by
    cases e with
    | Tuple es k p =>
      simp only [chkT] at h
      have gs := sndTs hN nd hc hl ts es h
      obtain ⟨a1, a2⟩ := chkTs_len X.env h
      refine ⟨fun pins s0 σ H v u Q I r q => ?_⟩
      obtain ⟨ι, s, M, d, s', rl, rp, e1, kk⟩ := q
      simp only [tgV] at e1
      generalize e2 : d.val M = w at e1
      have hw : ∀ own, Tgs.within own ts = true → Tg.within own (.tp ts) = true := fun own ho => by simpa [Tg.within] using ho
      cases w <;> simp only [setT, reduceCtorEq] at e1
      · obtain ⟨_, a, vs, rfl, t1, k1⟩ := val_tup rl.mem rp e2
        refine (pg_tup (n := es.length) hc gs a1 a2).run pins s0 σ H _ u Q I r ⟨a, vs, rfl, t1.sq, by rw [k1.length]; exact setTs_len e1 h, ι, s, M, _, s', rl, k1, e1, fun σ' rl' se => kk σ' rl' fun own ho => se own (by simpa [Tg.within] using ho)⟩
      · obtain ⟨a, vs, rfl, t1, k1⟩ := val_lst rl.mem rp e2
        refine (pg_unl (n := es.length) hc gs a1 a2).run pins s0 σ H _ u Q I r ⟨a, vs, rfl, SqL.of t1, by rw [k1.length]; exact setTs_len e1 h, ι, s, M, _, s', rl, k1, e1, fun σ' rl' se => kk σ' rl' fun own ho => se own (by simpa [Tg.within] using ho)⟩
    | _ => simp [chkT] at h
theorem sndTs {N : List Str} {so : Scope} (hN : X.N = N) (nd : X.N.Nodup) (hc : X.calm = true) (hl : ∀ x, locB so x = true → L2.Loc X.env.scope x ∧ (X.fn x = true ∨ X.env.scope.names.lookup x = some .local)) :
    ∀ (ts : Tgs) (es : List Expr), chkTs N so ts es = true → PGs X es (gOwns X.K ts)
  | .nil, es, h => by
    simp only [chkTs, List.isEmpty_iff] at h
    subst h
    refine ⟨fun pins s0 σ H vs us Q I r q => pgs_nil.run pins s0 σ H vs us Q I r ?_⟩
    obtain ⟨ι, s, M, ds, s', rl, rp, e1, k⟩ := q
    cases ds with
    | nil =>
      cases rp
      simp only [setTs] at e1
      cases e1
      exact ⟨rfl, k σ rl fun own _ => .rfl⟩
    | cons _ _ => simp [setTs] at e1
  | .cons t ts, [], h => by simp [chkTs] at h
  | .cons t ts, e :: es, h => by
    have h' := h
    simp only [chkTs, Bool.and_eq_true] at h
    have g1 := sndT hN nd hc hl t e h.1
    have g2 := sndTs hN nd hc hl ts es h.2
    have e1 : (assignEach (e :: es) X.env).map (·.2) = assign e X.env :: (assignEach es X.env).map (·.2) := by
      cases t <;> cases e <;> first | rfl | (simp [chkT] at h)
    refine ⟨fun pins s0 σ H vs us Q I r q => (pgs_cons g1 g2 e1).run pins s0 σ H vs us Q I r ?_⟩
    obtain ⟨ι, s, M, ds, s', rl, rp, e2, k⟩ := q
    cases ds with
    | nil => simp [setTs] at e2
    | cons d ds =>
      cases rp with
      | @cons v vs _ _ r1 r2 =>
        simp only [setTs] at e2
        obtain ⟨s1, h1, h2⟩ := Option.bind_eq_some_iff.mp e2
        refine ⟨v, vs, rfl, ι, s, M, d, s1, rl, r1, setT_val M h1, fun σ1 rl1 se1 => ⟨ι, s1, M, ds, s', rl1, r2, h2, fun σ2 rl2 se2 => k σ2 rl2 fun own ho => ?_⟩⟩
        simp only [Tgs.within, Bool.and_eq_true] at ho
        exact (se1 own ho.1).trans (se2 own ho.2)
end

/-! ### comprehensions -/
theorem pts_of {ifs : Es} {ifs' : List Expr} (h : All X T ifs ifs') (hl : ifs'.length ≤ 1) : PTs X ifs' (tAT X.K T ifs) := by
  cases h with
  | nil =>
    refine ⟨fun pins s0 σ H Q I q => pts_nil.run pins s0 σ H Q I ?_⟩
    obtain ⟨ι, s, M, rl, q⟩ := q
    simp only [evAnd] at q
    obtain ⟨b, e1, q⟩ := Pr.self rl q
    cases e1
    exact q
  | cons h1 h2 h3 =>
    cases h3 with
    | nil =>
      refine ⟨fun pins s0 σ H Q I q => (pts_one h2.pt).run pins s0 σ H Q I ?_⟩
      obtain ⟨ι, s, M, rl, q⟩ := q
      exact ⟨ι, s, M, rl, and_one q⟩
    | cons _ _ _ => simp at hl
/-- one turn -/
def lcStep (T : Tbl) (own : List Nat) (elt : E) (t : Tg) (ifs : Es) (s : Env) : D → Mem → R (Option D) := fun x M => match setT t x (wipe s own) with
  | some s' => (evAnd T ifs s' M).bind fun b M2 => (match b with
    | .bl true => (ev T elt s' M2).bind fun y M3 => .ok (some y) M3
    | .bl false => .ok none M2
    | _ => .no)
  | none => .no
theorem lcStep_ok {own : List Nat} {elt : E} {t : Tg} {ifs : Es} {s : Env} {x : D} {M M3 : Mem} {o : Option D} (h : lcStep T own elt t ifs s x M = .ok o M3) :
    ∃ s', setT t x (wipe s own) = some s' ∧ ((o = none ∧ evAnd T ifs s' M = .ok (.bl false) M3) ∨ ∃ M2 y, o = some y ∧ evAnd T ifs s' M = .ok (.bl true) M2 ∧ ev T elt s' M2 = .ok y M3) := by
  unfold lcStep at h
  split at h
  · rename_i s' hs
    refine ⟨s', hs, ?_⟩
    cases q : evAnd T ifs s' M with
    | ok b M2 =>
      rw [q] at h
      simp only [R.bind] at h
      split at h
      · rename_i _ q2
        cases q3 : ev T elt s' M2 with
        | ok y M4 =>
          rw [q3] at h
          simp only [R.bind] at h
          cases h
          exact .inr ⟨M2, y, rfl, rfl, q3⟩
        | ex _ _ _ => rw [q3] at h; cases h
        | no => rw [q3] at h; cases h
      · cases h
        exact .inl ⟨rfl, rfl⟩
      · cases h
    | ex _ _ _ => rw [q] at h; cases h
    | no => rw [q] at h; cases h
  · cases h
theorem lcLoop_cons {step : D → Mem → R (Option D)} {g : Gd} {x : D} {xs : List D} {M M2 : Mem} {zs : List D} (h : lcLoop step g (x :: xs) M = .ok zs M2) :
    gok g M = true ∧ ∃ o M1 ys, step x M = .ok o M1 ∧ lcLoop step g xs M1 = .ok ys M2 ∧ zs = o.toList ++ ys := by
  simp only [lcLoop] at h
  split at h
  · rename_i hg
    refine ⟨hg, ?_⟩
    split at h
    · rename_i o M1 h1
      split at h
      · rename_i ys M2' h2
        cases h
        exact ⟨o, M1, ys, h1, h2, rfl⟩
      · cases h
    · cases h
  · cases h
theorem lcLoop_nil {step : D → Mem → R (Option D)} {g : Gd} {M M2 : Mem} {zs : List D} (h : lcLoop step g [] M = .ok zs M2) : gok g M = true ∧ zs = [] ∧ M2 = M := by
  simp only [lcLoop] at h
  split at h
  · cases h
    exact ⟨by assumption, rfl, rfl⟩
  · cases h
structure LcW (K : PySem.W.Frag) (ι1 : Kt) (H1 : Hp) (D : Addr) (s : Env) (σ : L2.St) (step : PD.D → Mem → R (Option PD.D)) (g : Gd) (xs ys : List PD.D) (M2 : Mem) (i : Nat) (H : Hp) : Prop where
  le : i ≤ xs.length
  ex : ∃ ι' M' zs acc ads, Ext ι1 H1 ι' H ∧ Rl K ι' s M' σ H ∧ D ∈ ι'.γ ∧ H D = some (.lst acc) ∧ Rps K ι' H acc ads ∧ lcLoop step g (xs.drop i) M' = .ok zs M2 ∧ ads ++ zs = ys ∧ acc.length ≤ i
theorem own_lc {m : Bool} {own : List Nat} {elt : E} {t : Tg} {it : Iq} {ifs : Es} {σ : L2.St} {H : Hp} {Q : VK} (hw : t.within own = true) (h : tE K T (.lc m own elt t it ifs) σ H Q) :
    tLc (tI K T it) (gOwn K t) (tAT K T ifs) (tE K T elt) own σ H Q := by
  obtain ⟨ι, s, M, rl, q⟩ := h
  simp only [ev] at q
  refine ⟨ι, s, M, rl, (Pr.bind q).imp fun xg ι1 H1 ⟨M1, e1, rl1, _, q1⟩ J wk D hD => ?_⟩
  split at q1
  · exact q1.elim
  rename_i hsz
  split at q1
  rotate_left
  · exact q1.elim
  rename_i ys M2 hlc
  have hlc : lcLoop (lcStep T own elt t ifs s) xg.2 xg.1 M1 = .ok ys M2 := hlc
  refine ⟨fun i m' H' => m' = xg.1.length - i ∧ LcW K ι1 H1 D s σ (lcStep T own elt t ifs s) xg.2 xg.1 ys M2 i H', ⟨xg.1.length, by simp, Nat.zero_le _, ι1.ghost D, M1, ys, [], [], Ext.ghost rl1.mem hD, rl1.ghost hD, List.mem_cons_self, upd_same, .nil, by simpa using hlc, rfl, Nat.zero_le _⟩, ?_⟩
  rintro i m' H' ⟨rfl, hi, ι', M', zs, acc, ads, ex, rl', hg, hacc, hrs, hrun, hys, hal⟩
  have hDi : D ∉ ι'.ι := (rl'.mem.gh D hg).1
  by_cases hlt : i < xg.1.length
  · -- a turn
    right
    have hdr : xg.1.drop i = xg.1[i] :: xg.1.drop (i + 1) := List.drop_eq_getElem_cons hlt
    rw [hdr] at hrun
    obtain ⟨gk, o, M3, zs', hst, hrest, rfl⟩ := lcLoop_cons hrun
    obtain ⟨go, hy⟩ := (wk ι' M' H' i ex rl'.mem gk).2 xg.1[i] (List.getElem?_eq_getElem hlt)
    refine ⟨go, fun H5 => LcW K ι1 H1 D s σ (lcStep T own elt t ifs s) xg.2 xg.1 ys M2 (i + 1) H5, fun H5 w => ⟨_, by omega, rfl, w⟩, fun x H2 yy => ?_⟩
    obtain ⟨sm, rx⟩ := hy x H2 yy
    obtain ⟨s', hset, hcase⟩ := lcStep_ok hst
    have ex2 := Ext.same rl'.mem sm
    have rl2 := rl'.same sm
    refine ⟨ι', PD.wipe s own, M', xg.1[i], s', ⟨rl2.env.wipe own, rl2.mem⟩, rx, setT_val M' hset, fun σ2 rl3 se => ⟨by rw [(se own hw).wipe, wipe_wipe], ι', s', M', rl3, ?_⟩⟩
    have hacc2 : H2 D = some (.lst acc) := sm D _ hacc
    rcases hcase with ⟨rfl, hf⟩ | ⟨M4, y, rfl, htt, hel⟩
    · rw [hf]
      intro ι3 H3 e3 rl4
      refine ⟨_, rfl, ?_⟩
      simp only [Bool.false_eq_true, if_false]
      refine ⟨hlt, ι3, M3, zs', acc, ads, ex.trans (ex2.trans e3), ⟨rl2.env.ext e3, rl4.mem⟩, e3.gh _ hg, e3.keep _ _ hacc2 hDi, Rps.ext (ex2.trans e3) _ _ hrs, hrest, by simpa using hys, by omega⟩
    · rw [htt]
      intro ι3 H3 e3 rl4
      refine ⟨_, rfl, ?_⟩
      simp only [if_true]
      refine ⟨ι3, s', M4, rl4, ?_⟩
      rw [hel]
      intro ι4 H4 e4 rl5 v rv
      have hg3 := e3.gh _ hg
      have hDi3 : D ∉ ι3.ι := (rl4.mem.gh D hg3).1
      have hg4 := e4.gh _ hg3
      have hacc4 : H4 D = some (.lst acc) := e4.keep _ _ (e3.keep _ _ hacc2 hDi) hDi3
      refine ⟨acc, hacc4, by omega, ?_⟩
      have e24 := e3.trans e4
      have gr : Grow D ι4 H4 (upd H4 D (.lst (acc ++ [v]))) := ⟨hg4, fun a q n e => by rw [upd_ne n]; exact e, ⟨_, upd_same⟩⟩
      have rl6 : Rl K ι4 s M3 σ H4 := ⟨rl2.env.ext e24, rl5.mem⟩
      have r6 : Rps K ι4 H4 (acc ++ [v]) (ads ++ [y]) := (Rps.ext (ex2.trans e24) _ _ hrs).append (.cons rv .nil)
      refine ⟨hlt, ι4, M3, zs', acc ++ [v], ads ++ [y], (ex.trans (ex2.trans e24)).write hD, rl6.grow gr, hg4, upd_same, Rps.grow gr _ _ r6, hrest, by rw [← hys]; simp, by simp; omega⟩
  · -- the end
    left
    have hi' : i = xg.1.length := by omega
    subst hi'
    rw [List.drop_length] at hrun
    obtain ⟨gk, rfl, rfl⟩ := lcLoop_nil hrun
    refine ⟨(wk ι' M2 H' _ ex rl'.mem gk).1 rfl, ?_⟩
    rw [List.append_nil] at hys
    subst hys
    cases m with
    | false =>
      simp only [alloc, Bool.false_eq_true, if_false] at q1
      refine q1 (ι'.made D) H' (ex.made rl1.mem hD) (rl'.made D) (.ref D) (.lst hacc ?_ (Rps.lay' (.made D) _ _ hrs))
      rintro (z | z)
      · exact hDi z
      · exact of_decide_eq_true (List.mem_filter.mp z).2 rfl
    | true =>
      simp only [alloc, if_true, PD.D.box] at q1
      refine q1 (ι'.kept D) H' (ex.keptP rl1.mem hD) (rl'.kept hg (.lst hacc hrs)) (.ref D) (.ref ?_)
      show (ι'.ι ++ [D])[M2.length]? = some D
      rw [← rl'.mem.len]
      simp
end
end PD
/-! PD14: expressions, whole -/
namespace PD
open PySem PySem.Spec PyProof.Rows L2
section
variable {c : Cc} {T : Tbl} {K : PySem.W.Frag}
theorem lookup_rel_cell {env : PySem.Env} : ∀ {names : List (Str × NameKind)} {x : Str}, names.lookup x = some .cell →
    (names.map fun (n, k) => if (k == NameKind.free && env.scope.kind == .function && env.kindOf n == some .cell) then (n, NameKind.cell) else (n, k)).lookup x = some .cell
  | [], _, h => by simp at h
  | (n, k) :: r, x, h => by
    have ih := @lookup_rel_cell env r x
    show List.lookup x ((if (k == NameKind.free && env.scope.kind == .function && env.kindOf n == some .cell) = true then (n, NameKind.cell) else (n, k)) :: _) = _
    cases hx : x == n with
    | true =>
      simp only [List.lookup_cons, hx] at h
      cases h
      simp [List.lookup_cons, hx]
    | false =>
      simp only [List.lookup_cons, hx] at h
      by_cases hc : (k == NameKind.free && env.scope.kind == .function && env.kindOf n == some .cell) = true
      · rw [if_pos hc]; simp only [List.lookup_cons, hx]; exact ih h
      · rw [if_neg hc]; simp only [List.lookup_cons, hx]; exact ih h
theorem blk_loc {X : Cx} {scope : Scope} (s : Shared) (H : Hp) (C : Addr) (cl : List (Str × Addr)) (fp : List Addr) (x : Str) (h : locB scope x = true) :
    L2.Loc (X.blk s H scope (compEnvC scope cl C X.env) fp).env.scope x ∧ ((X.blk s H scope (compEnvC scope cl C X.env) fp).fn x = true ∨ (X.blk s H scope (compEnvC scope cl C X.env) fp).env.scope.names.lookup x = some .local) := by
  unfold locB at h
  show L2.Loc (relabel scope X.env) x ∧ ((scope.names.lookup x == some .cell) = true ∨ (relabel scope X.env).names.lookup x = some .local)
  split at h
  · rename_i e
    have e2 : (relabel scope X.env).names.lookup x = some .local := lookup_relabel_local e
    exact ⟨.inl e2, .inr e2⟩
  · rename_i e
    have e2 : (relabel scope X.env).names.lookup x = some .cell := lookup_rel_cell e
    exact ⟨.inr e2, .inl (by rw [e]; rfl)⟩
  · cases h
theorem folded_of {X : Cx} {it : Iq} {tg iter : Expr} (h : chkI c X.env.scope it tg iter = true) : ∀ x, foldedSetIterable iter X.env x = pure x := by
  intro x
  cases iter <;> first | rfl | skip
  cases it with
  | val e => simp [chkI, noSet] at h
  | rng es => simp [chkI] at h
  | enum e => cases tg <;> simp [chkI] at h
  | zip a b => cases tg <;> simp [chkI] at h
theorem ownN_snd (N : List Str) (own : List Nat) : (ownN N own).map (·.2) = own := by
  unfold ownN
  rw [List.map_map]
  exact List.map_id' _
theorem snd_lc {X : Cx} {m : Bool} {own : List Nat} {elt : E} {t : Tg} {it : Iq} {ifs : Es} {elt' tg iter : Expr} {ifs' : List Expr} {scope : Scope} {p : Pos} (ok : Xok X c T)
    (hb : blkC c.N X.env.scope scope (ownN c.N own) = true) (ht : chkT c.N scope t tg = true) (hw : t.within own = true) (hic : chkI c X.env.scope it tg iter = true) (hi : PI X tg iter (tI X.K T it)) (hl : ifs'.length ≤ 1)
    (h1 : ∀ (s : Shared) (H : Hp) (C : Addr) (cl : List (Str × Addr)) (fp : List Addr), All (X.blk s H scope (compEnvC scope cl C X.env) fp) T ifs ifs')
    (h2 : ∀ (s : Shared) (H : Hp) (C : Addr) (cl : List (Str × Addr)) (fp : List Addr), PB (X.blk s H scope (compEnvC scope cl C X.env) fp) T elt elt') : PB X T (.lc m own elt t it ifs) (.ListComp elt' [⟨tg, iter, ifs', 0⟩] scope p) := by
  have hg : ∀ (s : Shared) (H : Hp) (C : Addr) (cl : List (Str × Addr)) (fp : List Addr), PG (X.blk s H scope (compEnvC scope cl C X.env) fp) tg (gOwn X.K t) := fun s H C cl fp =>
    sndT (X := X.blk s H scope (compEnvC scope cl C X.env) fp) (N := c.N) (so := scope) ok.N ok.nd ok.calm (blk_loc s H C cl fp) t tg ht
  have hts : ∀ (s : Shared) (H : Hp) (C : Addr) (cl : List (Str × Addr)) (fp : List Addr), PTs (X.blk s H scope (compEnvC scope cl C X.env) fp) ifs' (tAT X.K T ifs) := fun s H C cl fp => pts_of (h1 s H C cl fp) hl
  have he : ∀ (s : Shared) (H : Hp) (C : Addr) (cl : List (Str × Addr)) (fp : List Addr), PE (X.blk s H scope (compEnvC scope cl C X.env) fp) elt' (tE X.K T elt) := fun s H C cl fp => (h2 s H C cl fp).pe
  refine .val (PE.imp (pe_lc (own := ownN c.N own) ok.calm ok.nd hi (by rw [ok.N]; exact blkOk_by hb) hg hts he (folded_of hic)) fun σ H Q q => ?_) fun _ => rfl
  rw [ownN_snd]
  exact own_lc hw q
theorem All.ne {X : Cx} {es : Es} {es' : List Expr} (h : All X T es es') : True := trivial
mutual
theorem snd : ∀ (e : E) (X : Cx) (e' : Expr), Xok X c T → chk c X.env.scope e e' = true → PB X T e e'
  | .v i, X, e', ok, h => snd_v ok h
  | .c d, X, e', ok, h => snd_c ok h
  | .g d, X, e', ok, h => snd_g ok h
  | .tup es, X, e', ok, h => by
    cases e' <;> simp only [chk, Bool.false_eq_true, Bool.and_eq_true, decide_eq_true_eq] at h
    exact snd_tup h.1 (snds es X _ ok h.2)
  | .ls m es, X, e', ok, h => by
    cases e' <;> simp only [chk, Bool.false_eq_true, Bool.and_eq_true, decide_eq_true_eq] at h
    exact snd_ls h.1 (snds es X _ ok h.2)
  | .op o a b, X, e', ok, h => by
    cases e' with
    | BinOp a' o' b' p =>
      simp only [chk, Bool.and_eq_true, decide_eq_true_eq] at h
      exact snd_bin ok h.1.1 (snd a X _ ok h.1.2) (snd b X _ ok h.2)
    | Compare a' os bs p =>
      match os, bs, h with
      | [o'], [b'], h =>
        simp only [chk, Bool.and_eq_true, decide_eq_true_eq] at h
        exact snd_cmp ok h.1.1.1 h.1.1.2 (snd a X _ ok h.1.2) (snd b X _ ok h.2)
      | [], _, h => simp [chk] at h
      | _ :: _ :: _, _, h => simp [chk] at h
      | [_], [], h => simp [chk] at h
      | [_], _ :: _ :: _, h => simp [chk] at h
    | Subscript a' b' p =>
      simp only [chk, Bool.and_eq_true, decide_eq_true_eq] at h
      obtain ⟨⟨⟨rfl, h2⟩, h3⟩, h4⟩ := h
      exact snd_ix ok h2 (snd a X _ ok h3) (snd b X _ ok h4)
    | _ => simp [chk] at h
  | .isN neg a, X, e', ok, h => by
    cases e' with
    | Compare a' os bs p =>
      match os, bs, h with
      | [o'], [b'], h =>
        cases b' with
        | Constant k j p2 =>
          cases k <;> simp only [chk, Bool.false_eq_true, Bool.and_eq_true, decide_eq_true_eq] at h
          obtain ⟨rfl, h2⟩ := h
          exact snd_isN (snd a X _ ok h2)
        | _ => simp [chk] at h
      | [], _, h => simp [chk] at h
      | _ :: _ :: _, _, h => simp [chk] at h
      | [_], [], h => simp [chk] at h
      | [_], _ :: _ :: _, h => simp [chk] at h
    | _ => simp [chk] at h
  | .not a, X, e', ok, h => by
    cases e' with
    | UnaryOp o a' p =>
      cases o <;> simp only [chk, Bool.false_eq_true] at h
      exact snd_not (snd a X _ ok h)
    | _ => simp [chk] at h
  | .neg a, X, e', ok, h => by
    cases e' with
    | UnaryOp o a' p =>
      cases o <;> simp only [chk, Bool.false_eq_true] at h
      exact snd_neg (snd a X _ ok h)
    | _ => simp [chk] at h
  | .and es, X, e', ok, h => by
    cases e' with
    | BoolOp o es' p =>
      cases o <;> simp only [chk, Bool.false_eq_true, Bool.and_eq_true, Bool.not_eq_true', List.isEmpty_eq_false_iff] at h
      exact .and (snds es X _ ok h.2) h.1
    | _ => simp [chk] at h
  | .or es, X, e', ok, h => by
    cases e' with
    | BoolOp o es' p =>
      cases o <;> simp only [chk, Bool.false_eq_true, Bool.and_eq_true, Bool.not_eq_true', List.isEmpty_eq_false_iff] at h
      exact .or (snds es X _ ok h.2) h.1
    | _ => simp [chk] at h
  | .ite t a b, X, e', ok, h => by
    cases e' <;> simp only [chk, Bool.false_eq_true, Bool.and_eq_true] at h
    exact snd_ite (snd t X _ ok h.1.1) (snd a X _ ok h.1.2) (snd b X _ ok h.2)
  | .cmp2 o1 o2 x y z, X, e', ok, h => by
    cases e' with
    | Compare a' os bs p =>
      match os, bs, h with
      | [o1', o2'], [y', z'], h =>
        simp only [chk, Bool.and_eq_true, decide_eq_true_eq] at h
        exact snd_cmp2 ok h.1.1.1.1.1 h.1.1.1.1.2 h.1.1.1.2 (snd x X _ ok h.1.1.2) (snd y X _ ok h.1.2) (snd z X _ ok h.2)
      | [], _, h => simp [chk] at h
      | [_], _, h => simp [chk] at h
      | _ :: _ :: _ :: _, _, h => simp [chk] at h
      | [_, _], [], h => simp [chk] at h
      | [_, _], [_], h => simp [chk] at h
      | [_, _], _ :: _ :: _ :: _, h => simp [chk] at h
    | _ => simp [chk] at h
  | .isi t a, X, e', ok, h => by
    unfold chk at h
    split at h
    · simp only [Bool.and_eq_true, decide_eq_true_eq] at h
      obtain ⟨⟨⟨⟨⟨rfl, h2⟩, rfl⟩, h4⟩, h5⟩, h6⟩ := h
      exact snd_isi ok (gl_of h2) (gl_of h4) h5 (snd a X _ ok h6)
    · cases h
  | .bi m f es, X, e', ok, h => by
    unfold chk at h
    split at h
    · rename_i x p es' p2
      simp only [Bool.and_eq_true, decide_eq_true_eq, Bool.not_eq_true', List.isEmpty_eq_false_iff] at h
      obtain ⟨⟨⟨rfl, h2⟩, h3⟩, h4⟩ := h
      cases es' with
      | nil => exact absurd rfl h3
      | cons e1 es1 => exact snd_bi ok (gl_of h2) (snds es X _ ok h4)
    · cases h
  | .me f o es, X, e', ok, h => by
    unfold chk at h
    split at h
    · simp only [Bool.and_eq_true, decide_eq_true_eq] at h
      obtain ⟨⟨⟨⟨⟨⟨h0, rfl⟩, h2⟩, h3⟩, h4⟩, h5⟩, h6⟩ := h
      exact snd_me ok h2 h3 h4 (snd o X _ ok h5) (snds es X _ ok h6) h0
    · cases h
  | .sl m a lo hi, X, e', ok, h => by
    unfold chk at h
    split at h
    · rename_i a' lo' hi' p2 p
      simp only [Bool.and_eq_true] at h
      obtain ⟨⟨h1, h2⟩, h3⟩ := h
      have nul : ∀ {l : Expr}, chk c X.env.scope .nul l = true → False := fun q => by simp [chk] at q
      refine snd_sl (snd a X _ ok h1) ?_ ?_
      · cases lo' with
        | none => exact .inl ⟨rfl, h2⟩
        | some l =>
          refine .inr ⟨?_, l, rfl, snd lo X l ok h2⟩
          cases lo <;> first | rfl | exact (nul h2).elim
      · cases hi' with
        | none => exact .inl ⟨rfl, h3⟩
        | some l =>
          refine .inr ⟨?_, l, rfl, snd hi X l ok h3⟩
          cases hi <;> first | rfl | exact (nul h3).elim
    · cases h
  | .nul, X, e', ok, h => by simp [chk] at h
  | .call keep f es ds, X, e', ok, h => by
    unfold chk at h
    split at h
    · rename_i x p es' kws p2
      simp only [Bool.and_eq_true] at h
      obtain ⟨⟨⟨h1, h2⟩, h3⟩, h4⟩ := h
      split at h3
      · rename_i fi hf
        simp only [Bool.and_eq_true, decide_eq_true_eq] at h3
        obtain ⟨⟨⟨⟨⟨rfl, k2⟩, k3⟩, k4⟩, k5⟩, k6⟩ := h3
        exact snd_call ok hf (gl_of h1) h2 k2 k3 k4 k5 k6 (snds es X _ ok h4)
      · cases h3
    · cases h
  | .lc m own elt t it ifs, X, e', ok, h => by
    unfold chk at h
    split at h
    · simp only [Bool.and_eq_true, decide_eq_true_eq] at h
      obtain ⟨⟨⟨⟨⟨⟨h1, h2⟩, h3⟩, h4⟩, h5⟩, h6⟩, h7⟩ := h
      exact snd_lc ok h1 h2 h3 h4 (sndI it X _ _ ok h4) h5 (fun s H C cl fp => snds ifs _ _ (ok.blk s H _ _ fp) h6) (fun s H C cl fp => snd elt _ _ (ok.blk s H _ _ fp) h7)
    · cases h
  | .dd m, X, e', ok, h => by
    unfold chk at h
    split at h
    · exact snd_dd
    · cases h
theorem snds : ∀ (es : Es) (X : Cx) (es' : List Expr), Xok X c T → chks c X.env.scope es es' = true → All X T es es'
  | .nil, X, es', ok, h => by
    simp only [chks, List.isEmpty_iff] at h
    subst h
    exact .nil
  | .cons e es, X, [], ok, h => by simp [chks] at h
  | .cons e es, X, e' :: es', ok, h => by
    simp only [chks, Bool.and_eq_true] at h
    exact .cons h.1.1 (snd e X e' ok h.1.2) (snds es X es' ok h.2)
theorem sndI : ∀ (it : Iq) (X : Cx) (tg e' : Expr), Xok X c T → chkI c X.env.scope it tg e' = true → PI X tg e' (tI X.K T it)
  | .val e, X, tg, e', ok, h => by
    simp only [chkI, Bool.and_eq_true] at h
    exact snd_ival (snd e X e' ok h.2)
  | .rng es, X, tg, e', ok, h => by
    unfold chkI at h
    split at h
    · simp only [Bool.and_eq_true, decide_eq_true_eq] at h
      obtain ⟨⟨⟨⟨rfl, h2⟩, h3⟩, h4⟩, h5⟩ := h
      exact snd_irng ok (gl_of h2) h3 h4 (snds es X _ ok h5)
    · cases h
  | .enum e, X, tg, e', ok, h => by
    unfold chkI at h
    split at h
    · split at h
      · simp only [Bool.and_eq_true, decide_eq_true_eq] at h
        obtain ⟨⟨⟨rfl, h2⟩, h3⟩, h4⟩ := h
        exact snd_ienum ok (gl_of h2) h3 (snd e X _ ok h4)
      · cases h
    · cases h
  | .zip a b, X, tg, e', ok, h => by
    unfold chkI at h
    split at h
    · split at h
      · simp only [Bool.and_eq_true, decide_eq_true_eq] at h
        obtain ⟨⟨⟨⟨⟨rfl, h2⟩, h3⟩, h4⟩, h5⟩, h6⟩ := h
        exact snd_izip ok (gl_of h2) h3 h4 (snd a X _ ok h5) (snd b X _ ok h6)
      · cases h
    · cases h
end
end
end PD
/-! PD15: statements -/
namespace PD
open PySem PySem.Spec PyProof.Rows L2
section
variable {X : Cx} {c : Cc} {T : Tbl} {K : PySem.W.Frag}
/-- what is wanted behind a statement's result -/
def PrO (K : PySem.W.Frag) (ι : Kt) (H : Hp) (r : O) (D : Ends) : Prop := match r with
  | .nx s' M' => ∀ ι' H' σ', Ext ι H ι' H' → Rl K ι' s' M' σ' H' → D.nx σ' H'
  | .rt d M' => ∀ ι' H', Ext ι H ι' H' → Mr K ι' M' H' → ∀ v, Rp K ι' H' v d → D.rt v H'
  | .bk s' M' => ∀ ι' H' σ', Ext ι H ι' H' → Rl K ι' s' M' σ' H' → D.bk σ' H'
  | .ct s' M' => ∀ ι' H' σ', Ext ι H ι' H' → Rl K ι' s' M' σ' H' → D.ct σ' H'
  | .ex _ _ _ => False
  | .no => False
def tS (K : PySem.W.Frag) (T : Tbl) (a : S) : TS := fun D σ H => ∃ ι s M, Rl K ι s M σ H ∧ PrO K ι H (exec T a s M) D
def tSs (K : PySem.W.Frag) (T : Tbl) (a : Ss) : TS := fun D σ H => ∃ ι s M, Rl K ι s M σ H ∧ PrO K ι H (execs T a s M) D
theorem PrO.shift {ι ι' : Kt} {H H' : Hp} {r : O} {D : Ends} (e : Ext ι H ι' H') (h : PrO K ι H r D) : PrO K ι' H' r D := by
  cases r with
  | nx s M => exact fun ι1 H1 σ1 e1 rl => h ι1 H1 σ1 (e.trans e1) rl
  | rt d M => exact fun ι1 H1 e1 m v r => h ι1 H1 (e.trans e1) m v r
  | bk s M => exact fun ι1 H1 σ1 e1 rl => h ι1 H1 σ1 (e.trans e1) rl
  | ct s M => exact fun ι1 H1 σ1 e1 rl => h ι1 H1 σ1 (e.trans e1) rl
  | ex _ _ _ => exact h
  | no => exact h
theorem PrO.O {α : Type} {ι : Kt} {H : Hp} {r : R α} {f : α → Mem → O} {D : Ends} {s : Env} {σ : L2.St} (h : PrO K ι H (r.O f) D) : Pr K ι s σ H r fun a ι1 H1 => ∃ M1, Ext ι H ι1 H1 ∧ Rl K ι1 s M1 σ H1 ∧ r = .ok a M1 ∧ PrO K ι1 H1 (f a M1) D := by
  cases r with
  | ok a M1 => exact fun ι1 H1 e1 rl1 => ⟨M1, e1, rl1, rfl, PrO.shift e1 h⟩
  | ex _ _ _ => exact h
  | no => exact h
structure Bok (X : Cx) (c : Cc) (T : Tbl) : Prop where
  ok : Xok X c T
  kind : X.env.scope.kind = .function
  loc : ∀ x, locB X.env.scope x = true → X.fn x = true ∨ X.env.scope.names.lookup x = some .local
  po : PassesOwn (model X.prog X.w) X.A X.env X.xe
theorem Bok.tg (b : Bok X c T) {t : Tg} {e : Expr} (h : chkT c.N X.env.scope t e = true) : PG X e (gOwn X.K t) :=
  sndT b.ok.N b.ok.nd b.ok.calm (fun x hx => ⟨loc_of hx, b.loc x hx⟩) t e h
/-! ### name = value -/
theorem comp_ne {e : Expr} (h : ∀ a b s p, e ≠ .ListComp a b s p) (h2 : ∀ a b s p, e ≠ .SetComp a b s p) (h3 : ∀ a b d s p, e ≠ .DictComp a b d s p) (t : Option Expr) (l : Nat) (env : PySem.Env) : swapsWith e t l env = pure false := by
  cases e <;> first | rfl | exact absurd rfl (h _ _ _ _) | exact absurd rfl (h2 _ _ _ _) | exact absurd rfl (h3 _ _ _ _ _)
theorem swaps_no {e : Expr} (h : noComp e = true) (t : Option Expr) (l : Nat) (env : PySem.Env) : swapsWith e t l env = pure false := by
  cases e <;> first | rfl | cases h
theorem swaps_lc {elt : Expr} {gs : List Comprehension} {scope : Scope} {pos py : Pos} {y : Str} {l : Nat} {env : PySem.Env} :
    swapsWith (.ListComp elt gs scope pos) (some (.Name y py)) l env = pure (env.blockKind == .function && env.kindOf y == some .local && py.line == pos.line && !(scope.names.any fun (n, k) => n == y && (k == .local || k == .cell))) := rfl
theorem own_asgN {i : Nat} {e : E} {D : Ends} {σ : L2.St} {H : Hp} (h : tS K T (.asg (.nm i) e) D σ H) : tE K T e σ H fun x H1 => D.nx (σ.set i (some x)) H1 := by
  obtain ⟨ι, s, M, rl, q⟩ := h
  simp only [exec, setT] at q
  refine ⟨ι, s, M, rl, (PrO.O q).imp fun x ι1 H1 ⟨M1, e1, rl1, _, q1⟩ v r => ?_⟩
  exact q1 ι1 H1 _ (Ext.refl _ _) ⟨rl1.env.set r i, rl1.mem⟩
theorem snd_asgN {i : Nat} {e : E} {x : Str} {p pos : Pos} {e' : Expr} (b : Bok X c T) (ht : chkT c.N X.env.scope (.nm i) (.Name x p) = true) (he : chk c X.env.scope e e' = true) : PS X (.Assign [.Name x p] e' pos) (tS X.K T (.asg (.nm i) e)) := by
  have ht' := ht
  simp only [chkT, Bool.and_eq_true, decide_eq_true_eq] at ht
  obtain ⟨hi, hl⟩ := ht
  have hi : X.N[i]? = some x := by rw [b.ok.N]; exact hi
  have pe := (snd e X e' b.ok he).pe
  have plain : swapsWith e' (some (.Name x p)) pos.line X.env = pure false → PS X (.Assign [.Name x p] e' pos) (tS X.K T (.asg (.nm i) e)) := fun hs =>
    PS.imp (ps_set b.ok.nd hi (loc_of hl) pe hs (b.loc x hl)) fun D σ H q => own_asgN q
  cases hc : noComp e' with
  | true => exact plain (swaps_no hc _ _ _)
  | false =>
    cases e' <;> simp only [noComp, Bool.true_eq_false] at hc
    · rename_i elt' gs scope pos'
      cases hsw : (X.env.blockKind == .function && X.env.kindOf x == some .local && p.line == pos'.line && !(scope.names.any fun (n, k) => n == x && (k == .local || k == .cell))) with
      | false => exact plain (by rw [swaps_lc, hsw])
      | true =>
        have hyl : X.env.scope.names.lookup x = some .local := by
          simp only [Bool.and_eq_true, beq_iff_eq] at hsw
          exact hsw.1.1.2
        cases e <;> try (simp only [chk, Bool.false_eq_true] at he; done)
        rename_i m own elt t it ifs
        unfold chk at he
        split at he
        · rename_i elt' tg iter ifs' scope' p2 heq
          cases heq
          simp only [Bool.and_eq_true, decide_eq_true_eq] at he
          obtain ⟨⟨⟨⟨⟨⟨h1, h2⟩, h3⟩, h4⟩, h5⟩, h6⟩, h7⟩ := he
          have ok := b.ok
          have hg : ∀ (s : Shared) (H : Hp) (C : Addr) (cl : List (Str × Addr)) (fp : List Addr), PG (X.blk s H scope (compEnvC scope cl C X.env) fp) tg (gOwn X.K t) := fun s H C cl fp =>
            sndT (X := X.blk s H scope (compEnvC scope cl C X.env) fp) (N := c.N) (so := scope) ok.N ok.nd ok.calm (blk_loc s H C cl fp) t tg h2
          have hts : ∀ (s : Shared) (H : Hp) (C : Addr) (cl : List (Str × Addr)) (fp : List Addr), PTs (X.blk s H scope (compEnvC scope cl C X.env) fp) ifs' (tAT X.K T ifs) := fun s H C cl fp =>
            pts_of (snds ifs (X.blk s H scope (compEnvC scope cl C X.env) fp) _ (ok.blk s H _ _ fp) h6) h5
          have hel : ∀ (s : Shared) (H : Hp) (C : Addr) (cl : List (Str × Addr)) (fp : List Addr), PE (X.blk s H scope (compEnvC scope cl C X.env) fp) elt' (tE X.K T elt) := fun s H C cl fp =>
            (snd elt (X.blk s H scope (compEnvC scope cl C X.env) fp) _ (ok.blk s H _ _ fp) h7).pe
          refine PS.imp (ps_setLc (own := ownN c.N own) ok.calm ok.nd hi hyl (by rw [swaps_lc, hsw]) (sndI it X tg iter ok h4) (by rw [ok.N]; exact blkOk_by h1) hg hts hel (folded_of h4)) fun D σ H q => ?_
          rw [ownN_snd]
          exact own_lc h3 (own_asgN q)
        · cases he
    · cases e <;> simp [chk] at he
    · cases e <;> simp [chk] at he
end
end PD
/-! PD16: statements, second part -/
namespace PD
open PySem PySem.Spec PyProof.Rows L2
section
variable {X : Cx} {c : Cc} {T : Tbl} {K : PySem.W.Frag}
/-! ### tuple = value -/
theorem swP_ok {ts vs : List Expr} {k k2 : Nat} {p p2 : Pos} {env : PySem.Env} {r : Option (List Str)} (hk : env.scope.kind = .function) (h : swP env.scope ts vs = some r) : swappedStores [.Tuple ts k p] (.Tuple vs k2 p2) env = pure r := by
  have hb : (env.blockKind != .function) = false := by unfold Env.blockKind; rw [hk]; rfl
  unfold swP at h
  unfold swappedStores
  simp only [hb, Bool.or_false]
  split at h
  · rename_i h1; cases h; exact if_pos h1
  · rename_i h1
    refine (if_neg h1).trans ?_
    split at h
    · rename_i h2; cases h; exact if_pos h2
    · rename_i h2
      refine (if_neg h2).trans ?_
      simp only at h
      split at h
      · rename_i h3; cases h; exact if_pos h3
      · rename_i h3
        split at h
        · rename_i h4; cases h; exact (if_neg h3).trans (if_pos h4)
        · rename_i h4
          split at h
          · cases h
          · rename_i h5
            cases h
            exact (if_neg h3).trans ((if_neg h4).trans (if_neg h5))
theorem swE_ok {ts : List Expr} {k : Nat} {p : Pos} {e : Expr} {env : PySem.Env} {r : Option (List Str)} (hk : env.scope.kind = .function) (h : swE env.scope (.Tuple ts k p) e = some r) : swappedStores [.Tuple ts k p] e env = pure r := by
  cases e <;> first | (simp only [swE] at h; cases h; rfl) | skip
  exact swP_ok hk h
theorem sole_tup {ts : List Expr} {k : Nat} {p : Pos} {e : Expr} {l : Nat} {env : PySem.Env} : swapsWithSole [.Tuple ts k p] e l env = pure false := by
  cases e <;> rfl
theorem own_asgT {ts : Tgs} {e : E} {D : Ends} {σ : L2.St} {H : Hp} (h : tS K T (.asg (.tp ts) e) D σ H) : tAsg (tE K T e) (gOwn K (.tp ts)) D σ H := by
  obtain ⟨ι, s, M, rl, q⟩ := h
  simp only [exec] at q
  refine ⟨ι, s, M, rl, (PrO.O q).imp fun x ι1 H1 ⟨M1, e1, rl1, _, q1⟩ v r => ?_⟩
  split at q1
  · rename_i s' hs
    exact ⟨ι1, s, M1, x, s', rl1, r, hs, fun σ' rl' _ => q1 ι1 H1 σ' (Ext.refl _ _) rl'⟩
  · exact q1.elim
theorem nm_of {N : List Str} {sc : Scope} {i : Nat} {e : Expr} (h : nmOf N sc i e = true) : ∃ x p, e = .Name x p ∧ N[i]? = some x ∧ sc.names.lookup x = some .local := by
  cases e <;> simp only [nmOf, Bool.false_eq_true, Bool.and_eq_true, decide_eq_true_eq] at h
  exact ⟨_, _, rfl, h.1, h.2⟩
theorem sw_names {sc : Scope} {ts vs : List Expr} {ns : List Str} (h : swP sc ts vs = some (some ns)) : ∃ l, ns = ts.filterMap (swNm sc l) ∧ ns.length = ts.length := by
  unfold swP at h
  split at h
  · cases h
  · split at h
    · cases h
    · simp only at h
      split at h
      · cases h
      · rename_i h3
        split at h
        · cases h
        · split at h
          · cases h
          · cases h
            refine ⟨_, rfl, ?_⟩
            simp only [Bool.or_eq_true, bne_iff_ne, not_or, Decidable.not_not] at h3
            exact h3.1
theorem fm_full {α β : Type} (f : α → Option β) : ∀ {l : List α}, (l.filterMap f).length = l.length → ∀ x ∈ l, (f x).isSome
  | [], _, x, hx => by simp at hx
  | a :: l, h, x, hx => by
    cases q : f a with
    | none =>
      rw [List.filterMap_cons_none q] at h
      have := List.length_filterMap_le f l
      simp at h
      omega
    | some b =>
      rw [List.filterMap_cons_some q] at h
      rcases List.mem_cons.mp hx with rfl | hx
      · rw [q]; rfl
      · exact fm_full f (by simpa using h) x hx
theorem swNm_get {sc : Scope} {l : Nat} {x : Str} {p : Pos} (h : (swNm sc l (.Name x p)).isSome = true) : swNm sc l (.Name x p) = some x := by
  unfold swNm at h ⊢
  simp only at h ⊢
  split at h
  · rename_i hc; exact if_pos hc
  · cases h
theorem sw_two {sc : Scope} {x y : Str} {p q : Pos} {vs : List Expr} {ns : List Str} (h : swP sc [.Name x p, .Name y q] vs = some (some ns)) : ns = [x, y] := by
  obtain ⟨l, rfl, hl⟩ := sw_names h
  have h1 := swNm_get (fm_full _ hl (.Name x p) (by simp))
  have h2 := swNm_get (fm_full _ hl (.Name y q) (by simp))
  rw [List.filterMap_cons_some h1, List.filterMap_cons_some h2, List.filterMap_nil]
theorem sw_three {sc : Scope} {x y z : Str} {p q r : Pos} {vs : List Expr} {ns : List Str} (h : swP sc [.Name x p, .Name y q, .Name z r] vs = some (some ns)) : ns = [x, y, z] := by
  obtain ⟨l, rfl, hl⟩ := sw_names h
  have h1 := swNm_get (fm_full _ hl (.Name x p) (by simp))
  have h2 := swNm_get (fm_full _ hl (.Name y q) (by simp))
  have h3 := swNm_get (fm_full _ hl (.Name z r) (by simp))
  rw [List.filterMap_cons_some h1, List.filterMap_cons_some h2, List.filterMap_cons_some h3, List.filterMap_nil]
theorem own_par {ts : Tgs} {es : Es} {D : Ends} {σ : L2.St} {H : Hp} (h : tS K T (.asg (.tp ts) (.tup es)) D σ H) : tA K T es σ H fun vs H1 => ∃ ι1 s M1 ds s', Rl K ι1 s M1 σ H1 ∧ Rps K ι1 H1 vs ds ∧ setTs ts ds s = some s' ∧ ds.length = es.length ∧ ∀ σ', Rl K ι1 s' M1 σ' H1 → D.nx σ' H1 := by
  obtain ⟨ι, s, M, rl, q⟩ := h
  simp only [exec, ev] at q
  have q : PrO K ι H (R.O (evs T es s M) fun ds M1 => match setT (.tp ts) (.tup ds) s with
    | some s' => .nx s' M1
    | none => .no) D := by
    cases he : evs T es s M with
    | ok ds M1 => rw [he] at q; exact q
    | ex _ _ _ => rw [he] at q; exact q
    | no => rw [he] at q; exact q
  refine ⟨ι, s, M, rl, (PrO.O q).imp fun ds ι1 H1 ⟨M1, e1, rl1, e2, q1⟩ vs rs => ?_⟩
  simp only [setT] at q1
  split at q1
  · rename_i s' hs
    exact ⟨ι1, s, M1, ds, s', rl1, rs, hs, evs_len e2, fun σ' rl' => q1 ι1 H1 σ' (Ext.refl _ _) rl'⟩
  · exact q1.elim
theorem snd_asgT {ts : Tgs} {e : E} {tg e' : Expr} {pos : Pos} (b : Bok X c T) (h : chkS c X.env.scope (.asg (.tp ts) e) (.Assign [tg] e' pos) = true) : PS X (.Assign [tg] e' pos) (tS X.K T (.asg (.tp ts) e)) := by
  simp only [chkS, Bool.and_eq_true] at h
  obtain ⟨⟨h1, h2⟩, h3⟩ := h
  have g := b.tg h1
  cases tg <;> try (simp [chkT] at h1; done)
  rename_i tes k tp
  split at h3
  · rename_i hsw
    exact PS.imp (ps_asg (snd e X e' b.ok h2).pe g sole_tup (swE_ok b.kind hsw) rfl) fun D σ H q => own_asgT q
  · rename_i ns hsw
    split at h3
    · rename_i i j a b' _ _ _ _ _ _ _ _ htg
      cases htg
      simp only [Bool.and_eq_true, decide_eq_true_eq] at h3
      obtain ⟨⟨n1, n2⟩, n3⟩ := h3
      obtain ⟨x, px, rfl, x1, x2⟩ := nm_of n1
      obtain ⟨y, py, rfl, y1, y2⟩ := nm_of n2
      simp only [chk, Bool.and_eq_true] at h2
      have hall := snds _ X _ b.ok h2.2
      have hns := sw_two (show swP X.env.scope _ _ = _ from hsw)
      subst hns
      refine PS.imp (ps_par b.ok.calm b.ok.nd (by rw [b.ok.N]; exact x1) (by rw [b.ok.N]; exact y1) n3 x2 y2 (pa_all hall) (swP_ok b.kind hsw) sole_tup) fun D σ H q => ?_
      obtain ⟨ι, s, M, rl, q⟩ := own_par q
      refine ⟨ι, s, M, rl, q.imp fun ds ι1 H1 k2 vs rs => ?_⟩
      obtain ⟨ι2, s2, M2, ds2, s', rl2, rs2, hs, hl, kk2⟩ := k2 vs rs
      match ds2, hl, rs2, hs with
      | [d1, d2], _, .cons r1 (.cons r2 .nil), hs =>
        simp only [setTs, setT, Option.bind_some, Option.some.injEq] at hs
        subst hs
        exact ⟨_, _, rfl, kk2 _ ⟨(rl2.env.set r1 i).set r2 j, rl2.mem⟩⟩
    · rename_i i j l a b' d' _ _ _ _ _ _ _ _ _ _ htg
      cases htg
      simp only [Bool.and_eq_true, decide_eq_true_eq] at h3
      obtain ⟨⟨⟨⟨⟨n1, n2⟩, n3⟩, n4⟩, n5⟩, n6⟩ := h3
      obtain ⟨x, px, rfl, x1, x2⟩ := nm_of n1
      obtain ⟨y, py, rfl, y1, y2⟩ := nm_of n2
      obtain ⟨z, pz, rfl, z1, z2⟩ := nm_of n3
      simp only [chk, Bool.and_eq_true] at h2
      have hall := snds _ X _ b.ok h2.2
      have hns := sw_three (show swP X.env.scope _ _ = _ from hsw)
      subst hns
      refine PS.imp (ps_par3 b.ok.calm b.ok.nd (by rw [b.ok.N]; exact x1) (by rw [b.ok.N]; exact y1) (by rw [b.ok.N]; exact z1) n4 n5 n6 x2 y2 z2 (pa_all hall) (swP_ok b.kind hsw) sole_tup) fun D σ H q => ?_
      obtain ⟨ι, s, M, rl, q⟩ := own_par q
      refine ⟨ι, s, M, rl, q.imp fun ds ι1 H1 k2 vs rs => ?_⟩
      obtain ⟨ι2, s2, M2, ds2, s', rl2, rs2, hs, hl, kk2⟩ := k2 vs rs
      match ds2, hl, rs2, hs with
      | [d1, d2, d3], _, .cons r1 (.cons r2 (.cons r3 .nil)), hs =>
        simp only [setTs, setT, Option.bind_some, Option.some.injEq] at hs
        subst hs
        exact ⟨_, _, _, rfl, kk2 _ ⟨((rl2.env.set r1 i).set r2 j).set r3 l, rl2.mem⟩⟩
    · cases h3
  · cases h3

/-! ### op=, o[i] = -/
theorem snd_aug {i : Nat} {o : Op} {e : E} {x : Str} {p pos : Pos} {o' : Operator} {e' : Expr} (b : Bok X c T) (hi : c.N[i]? = some x) (hl : locB X.env.scope x = true) (ho : (o = .add ∧ o' = .Add) ∨ (o = .sub ∧ o' = .Sub)) (he : PB X T e e') :
    PS X (.AugAssign (.Name x p) o' e' pos) (tS X.K T (.aug i o e)) := by
  have hi : X.N[i]? = some x := by rw [b.ok.N]; exact hi
  have go : ∀ {f : Int → Int → Int} {D : Ends} {σ : L2.St} {H : Hp}, ((o = .add ∧ f = fun i j => i + j) ∨ (o = .sub ∧ f = fun i j => i - j)) → tS X.K T (.aug i o e) D σ H → tAug i (tE X.K T e) (ipI f) D σ H := by
    intro f D σ H hf q
    obtain ⟨ι, s, M, rl, q⟩ := q
    simp only [exec] at q
    split at q
    · rename_i d hd
      obtain ⟨v, hv, r⟩ := rl.env.get i d hd
      refine ⟨v, hv, ι, s, M, rl, (PrO.O q).imp fun y ι1 H1 ⟨M1, e1, rl1, _, q1⟩ u ru => ?_⟩
      cases d <;> cases y <;> first | exact q1.elim | skip
      cases r
      cases ru
      rcases hf with ⟨rfl, rfl⟩ | ⟨rfl, rfl⟩
      · exact ⟨_, _, rfl, rfl, q1 ι1 H1 _ (Ext.refl _ _) ⟨rl1.env.set (.int _) i, rl1.mem⟩⟩
      · exact ⟨_, _, rfl, rfl, q1 ι1 H1 _ (Ext.refl _ _) ⟨rl1.env.set (.int _) i, rl1.mem⟩⟩
    · exact q.elim
  rcases ho with ⟨rfl, rfl⟩ | ⟨rfl, rfl⟩
  · exact PS.imp (ps_aug b.ok.nd hi (loc_of hl) he.pe ip_add (b.loc x hl)) fun D σ H q => go (.inl ⟨rfl, rfl⟩) q
  · exact PS.imp (ps_aug b.ok.nd hi (loc_of hl) he.pe ip_sub (b.loc x hl)) fun D σ H q => go (.inr ⟨rfl, rfl⟩) q
theorem put_keys {ι : Kt} {H : Hp} (k : Key) {v : V} {d : D} (r : Rp K ι H v d) : ∀ {kvs : List (Key × V)} {vs : List D}, Rps K ι H (kvs.map (·.2)) vs →
    (dPut (keyD k) d (kvs.map fun p => keyD p.1) vs).1 = ((putK kvs k v).map fun p => keyD p.1) ∧ Rps K ι H ((putK kvs k v).map (·.2)) (dPut (keyD k) d (kvs.map fun p => keyD p.1) vs).2 := by
  intro kvs vs h
  have hany : dHas (keyD k) (kvs.map fun p => keyD p.1) = kvs.any fun kv => decide (kv.1 = k) := by
    unfold dHas
    rw [List.any_map]
    congr 1
    funext p
    by_cases e : p.1 = k
    · simp [e]
    · simp only [Function.comp, e, decide_false, decide_eq_false_iff_not]
      exact fun z => e (keyD_inj z)
  unfold dPut putK
  rw [hany]
  cases hq : kvs.any fun kv => decide (kv.1 = k) with
  | true =>
    simp only [if_true]
    refine ⟨?_, ?_⟩
    · rw [List.map_map]
      apply List.map_congr_left
      intro p _
      simp only [Function.comp]
      split <;> rfl
    · clear hany hq
      induction kvs generalizing vs with
      | nil => cases h; exact .nil
      | cons p kvs ih =>
        cases h with
        | @cons _ _ d2 ds2 h1 h2 =>
          simp only [List.map_cons, List.zipWith_cons_cons]
          refine .cons ?_ (ih h2)
          by_cases e : p.1 = k
          · rw [if_pos e, if_pos (by rw [e])]; exact r
          · rw [if_neg e, if_neg (fun z => e (keyD_inj z))]; exact h1
  | false =>
    simp only [Bool.false_eq_true, if_false, List.map_append, List.map_cons, List.map_nil]
    exact ⟨trivial, h.append (.cons r .nil)⟩
theorem Rps.ofKeys {ι : Kt} {H : Hp} : ∀ {kvs : List (Key × V)} {vs : List V} {ks : List D}, ks = kvs.map (fun p => keyD p.1) → (∀ p ∈ kvs, ∀ x, p.1 = Sum.inr x → sok x = true) → Rps K ι H (kvs.map fun p => kV p.1) ks
  | [], _, _, h, _ => by subst h; exact .nil
  | p :: kvs, vs, _, h, hs => by
    subst h
    refine .cons ?_ (Rps.ofKeys (vs := vs) rfl fun q hq => hs q (List.mem_cons_of_mem _ hq))
    obtain ⟨k, v⟩ := p
    cases k with
    | inl i => exact .int i
    | inr x => exact .str (hs _ (List.mem_cons_self) x rfl)
theorem keys_sok {ι : Kt} {H : Hp} : ∀ {kvs : List (Key × V)} {ks : List D}, Rps K ι H (kvs.map fun p => kV p.1) ks → ∀ p ∈ kvs, ∀ x, p.1 = Sum.inr x → sok x = true
  | [], _, _, p, hp, _, _ => by simp at hp
  | q :: kvs, _, h, p, hp, x, e => by
    cases h with
    | cons h1 h2 =>
      rcases List.mem_cons.mp hp with rfl | hp
      · obtain ⟨k, v⟩ := p
        cases e
        cases h1 with
        | str h => exact h
      · exact keys_sok h2 p hp x e
theorem putK_mem {kvs : List (Key × V)} {k : Key} {v : V} {p : Key × V} (h : p ∈ putK kvs k v) : p.1 = k ∨ ∃ q ∈ kvs, q.1 = p.1 := by
  unfold putK at h
  split at h
  · obtain ⟨q, hq, rfl⟩ := List.mem_map.mp h
    split
    · exact .inr ⟨q, hq, rfl⟩
    · exact .inr ⟨q, hq, rfl⟩
  · rcases List.mem_append.mp h with h | h
    · exact .inr ⟨p, h, rfl⟩
    · rw [List.mem_singleton.mp h]
      exact .inl rfl
def rSet : TSet := fun o i v H Q => rSetL o i v H Q ∨ rSetD o i v H Q
theorem set_own (hu : X.A.units + 1 < cLine) : PSet X rSet := by
  intro pins s σ H o i v ov iv u Q I ro ri rv h
  rcases h with h | h
  · exact set_list pins s σ H o i v ov iv u Q I ro ri rv h
  · exact set_dict hu pins s σ H o i v ov iv u Q I ro ri rv h
theorem sole_sub {o i : Expr} {p : Pos} {e : Expr} {l : Nat} {env : PySem.Env} : swapsWithSole [.Subscript o i p] e l env = pure false := by
  cases e <;> rfl
theorem sub_none {o i : Expr} {p : Pos} {e : Expr} {env : PySem.Env} : swappedStores [.Subscript o i p] e env = pure none := by
  cases e <;> rfl
theorem sub_asg {o i : Expr} {p : Pos} {env : PySem.Env} (h : noSlice i = true) : ∀ v, assign (.Subscript o i p) env v = (do
      let ov ← holding [v] (eval o env)
      let iv ← holding [v, ov] (eval i env)
      standAt p
      holding [v, ov, iv] (setItem ov iv v)
      release [v, ov, iv] []) := by
  intro v
  cases i <;> first | rfl | cases h
theorem snd_sti {o i e : E} {o' i' e' : Expr} {p pos : Pos} (b : Bok X c T) (hs : noSlice i' = true) (he : PB X T e e') (ho : PB X T o o') (hi : PB X T i i') : PS X (.Assign [.Subscript o' i' p] e' pos) (tS X.K T (.sti o i e)) := by
  refine PS.imp (ps_asg he.pe (pg_sub ho.pe hi.pe (set_own (by have := b.ok.room; omega)) (sub_asg hs)) sole_sub sub_none rfl) fun D σ H q => ?_
  obtain ⟨ι, s, M, rl, q⟩ := q
  simp only [exec] at q
  refine ⟨ι, s, M, rl, (PrO.O q).imp fun x ι1 H1 ⟨M1, e1, rl1, _, q1⟩ v r => ⟨ι1, s, M1, rl1, (PrO.O q1).imp fun y ι2 H2 ⟨M2, e2, rl2, _, q2⟩ u ru => ⟨ι2, s, M2, rl2, (PrO.O q2).imp fun k ι3 H3 ⟨M3, e3, rl3, _, q3⟩ w rw' => ?_⟩⟩⟩
  have r3 : Rp X.K ι3 H3 v x := Rp.ext e3 _ _ (Rp.ext e2 _ _ r)
  have ru3 : Rp X.K ι3 H3 u y := Rp.ext e3 _ _ ru
  split at q3
  rotate_left
  · exact q3.elim
  rename_i a
  obtain ⟨ad, d', rfl, h1, h2, h3, cl⟩ := rl3.mem.cellOf ru3
  rw [h2] at q3
  cases cl with
  | @lst us xs hp hr =>
    cases k <;> simp only at q3 <;> try (exact q3.elim)
    cases rw'
    split at q3
    · rename_i n hn
      have e4 := Ext.put rl3.mem (o := HO.lst (us.set n v)) (List.mem_of_getElem? h1)
      refine .inl ⟨ad, us, _, n, rfl, rfl, hp, by rw [hr.length]; exact hn, ?_⟩
      exact q3 ι3 _ σ e4 (rl3.put h1 (.lst upd_same (Rps.ext e4 _ _ (hr.set r3 n))))
    · exact q3.elim
  | @dct kvs ks vs hp hk hv =>
    simp only at q3
    split at q3
    · rename_i hh
      simp only [Bool.and_eq_true, decide_eq_true_eq] at hh
      obtain ⟨kk, rfl⟩ := keyOk_of hh.1
      have hw := rw'.ofKey
      subst hw
      have hks := hk.keys
      obtain ⟨p1, p2⟩ := put_keys kk r3 hv
      rw [← hks] at p1 p2
      have e4 := Ext.put rl3.mem (o := HO.dK (putK kvs kk v)) (List.mem_of_getElem? h1)
      refine .inr ⟨ad, _, rfl, DPut.k hp (by have := hk.length; rw [List.length_map] at this; omega), ?_⟩
      refine q3 ι3 _ σ e4 (rl3.put h1 (.dct upd_same (Rps.ofKeys (vs := []) p1 fun p hpm x ex => ?_) (Rps.ext e4 _ _ p2)))
      rcases putK_mem hpm with e5 | ⟨q, hq, e5⟩
      · rw [e5] at ex
        subst ex
        cases rw' with
        | str h => exact h
      · exact keys_sok hk q hq x (e5.trans ex)
    · exact q3.elim
end
end PD
/-! PD17: statements, whole -/
namespace PD
open PySem PySem.Spec PyProof.Rows L2
section
variable {X : Cx} {c : Cc} {T : Tbl} {K : PySem.W.Frag}
theorem snd_ex {e : E} {e' : Expr} {pos : Pos} (hn : noComp e' = true) (he : PB X T e e') : PS X (.Expr e' pos) (tS X.K T (.ex e)) := by
  refine PS.imp (ps_expr he.pe (swaps_no hn _ _ _)) fun D σ H q => ?_
  obtain ⟨ι, s, M, rl, q⟩ := q
  simp only [exec] at q
  exact ⟨ι, s, M, rl, (PrO.O q).imp fun x ι1 H1 ⟨M1, e1, rl1, _, q1⟩ v r => q1 ι1 H1 σ (Ext.refl _ _) rl1⟩
theorem snd_ret {e : E} {e' : Expr} {pos : Pos} (he : PB X T e e') : PS X (.Return (some e') pos) (tS X.K T (.ret e)) := by
  refine PS.imp (ps_ret he.pe) fun D σ H q => ?_
  obtain ⟨ι, s, M, rl, q⟩ := q
  simp only [exec] at q
  exact ⟨ι, s, M, rl, (PrO.O q).imp fun x ι1 H1 ⟨M1, e1, rl1, _, q1⟩ v r => q1 ι1 H1 (Ext.refl _ _) rl1.mem v r⟩
theorem snd_ifS {e : E} {e' : Expr} {a b : Ss} {a' b' : List Stmt} {pos : Pos} (he : PB X T e e') (ha : PSs X a' (tSs X.K T a)) (hb : PSs X b' (tSs X.K T b)) : PS X (.If e' a' b' pos) (tS X.K T (.ite e a b)) := by
  refine PS.imp (ps_if he.pt ha hb) fun D σ H q => ?_
  obtain ⟨ι, s, M, rl, q⟩ := q
  rw [exec] at q
  refine ⟨ι, s, M, rl, (PrO.O q).imp fun x ι1 H1 ⟨M1, e1, rl1, _, q1⟩ => ?_⟩
  split at q1
  · exact ⟨_, rfl, by simp only [if_true]; exact ⟨ι1, s, M1, rl1, q1⟩⟩
  · exact ⟨_, rfl, by simp only [Bool.false_eq_true, if_false]; exact ⟨ι1, s, M1, rl1, q1⟩⟩
  · exact q1.elim
/-- a loop's body -/
theorem PrO.loop {ι : Kt} {H : Hp} {r : PD.O} {f : Env → Mem → PD.O} {D : Ends} {N : L2.St → Hp → Prop} (h : PrO K ι H (match r with
    | .nx s' M' => f s' M'
    | .ct s' M' => f s' M'
    | .bk s' M' => .nx s' M'
    | r => r) D) (hN : ∀ ι' H' σ' s' M', Ext ι H ι' H' → Rl K ι' s' M' σ' H' → PrO K ι' H' (f s' M') D → N σ' H') : PrO K ι H r { D with nx := N, ct := N, bk := D.nx } := by
  cases r with
  | nx s M => exact fun ι1 H1 σ1 e1 rl => hN ι1 H1 σ1 s M e1 rl (PrO.shift e1 h)
  | ct s M => exact fun ι1 H1 σ1 e1 rl => hN ι1 H1 σ1 s M e1 rl (PrO.shift e1 h)
  | bk s M => exact h
  | rt d M => exact h
  | ex _ _ _ => exact h
  | no => exact h
theorem own_for {t : Tg} {it : Iq} {b : Ss} {D : Ends} {σ : L2.St} {H : Hp} (h : tS K T (.for t it b) D σ H) : tFor (tI K T it) (gOwn K t) (tSs K T b) D σ H := by
  obtain ⟨ι, s, M, rl, q⟩ := h
  rw [exec] at q
  refine ⟨ι, s, M, rl, (PrO.O q).imp fun xg ι1 H1 ⟨M1, e1, rl1, _, q1⟩ J wk => ?_⟩
  generalize hbody : (fun (x : PD.D) (s : Env) (M : Mem) => match setT t x s with
      | some s' => execs T b s' M
      | none => O.no) = body at q1
  refine ⟨fun i m σ' H' => m = xg.1.length - i ∧ i ≤ xg.1.length ∧ ∃ ι' s' M', Ext ι1 H1 ι' H' ∧ Rl K ι' s' M' σ' H' ∧ PrO K ι' H' (forLoop body xg.2 (xg.1.drop i) s' M') D, ⟨xg.1.length, by simp, Nat.zero_le _, ι1, s, M1, Ext.refl _ _, rl1, by simpa using q1⟩, ?_⟩
  rintro i m σ' H' ⟨rfl, hi, ι', s', M', ex, rl', q2⟩
  by_cases hlt : i < xg.1.length
  · right
    rw [List.drop_eq_getElem_cons hlt, forLoop] at q2
    split at q2
    · rename_i gk
      obtain ⟨go, hy⟩ := (wk ι' M' H' i ex rl'.mem gk).2 xg.1[i] (List.getElem?_eq_getElem hlt)
      refine ⟨go, _, fun σ3 H3 w => ⟨xg.1.length - (i + 1), by omega, rfl, hlt, w⟩, fun x H2 yy => ?_⟩
      obtain ⟨sm, rx⟩ := hy x H2 yy
      have ex2 := Ext.same rl'.mem sm
      have rl2 := rl'.same sm
      cases hset : setT t xg.1[i] s' with
      | none => rw [← hbody] at q2; simp only [hset] at q2; exact q2.elim
      | some s2 =>
        refine ⟨ι', s', M', xg.1[i], s2, rl2, rx, setT_val M' hset, fun σ2 rl3 _ => ⟨ι', s2, M', rl3, ?_⟩⟩
        have q3 := PrO.shift ex2 q2
        have hb2 : body xg.1[i] s' M' = execs T b s2 M' := by rw [← hbody]; simp only [hset]
        rw [hb2] at q3
        exact PrO.loop q3 fun ι4 H4 σ4 s4 M4 e4 rl4 q4 => ⟨ι4, s4, M4, ex.trans (ex2.trans e4), rl4, q4⟩
    · exact q2.elim
  · left
    have hi' : i = xg.1.length := by omega
    subst hi'
    rw [List.drop_length, forLoop] at q2
    split at q2
    · rename_i gk
      exact ⟨(wk ι' M' H' _ ex rl'.mem gk).1 rfl, q2 ι' H' σ' (Ext.refl _ _) rl'⟩
    · exact q2.elim
theorem own_whl {n : Nat} {e : E} {b : Ss} {D : Ends} {σ : L2.St} {H : Hp} (h : tS K T (.whl n e b) D σ H) : tWhile (tT K T e) (tSs K T b) D σ H := by
  obtain ⟨ι, s, M, rl, q⟩ := h
  rw [exec] at q
  refine ⟨fun m σ' H' => ∃ ι' s' M', Rl K ι' s' M' σ' H' ∧ PrO K ι' H' (whlLoop (ev T e) (execs T b) m s' M') D, ⟨n, ι, s, M, rl, q⟩, ?_⟩
  rintro m σ' H' ⟨ι', s', M', rl', q2⟩
  cases m with
  | zero => exact q2.elim
  | succ m =>
    rw [whlLoop] at q2
    refine ⟨ι', s', M', rl', (PrO.O q2).imp fun x ι1 H1 ⟨M1, e1, rl1, _, q1⟩ => ?_⟩
    split at q1
    · refine ⟨_, rfl, ?_⟩
      simp only [if_true]
      refine ⟨_, fun σ3 H3 w => ⟨m, by omega, w⟩, ι1, s', M1, rl1, ?_⟩
      exact PrO.loop q1 fun ι4 H4 σ4 s4 M4 e4 rl4 q4 => ⟨ι4, s4, M4, rl4, q4⟩
    · refine ⟨_, rfl, ?_⟩
      simp only [Bool.false_eq_true, if_false]
      exact q1 ι1 H1 σ' (Ext.refl _ _) rl1
    · exact q1.elim
mutual
theorem sndS : ∀ (a : S) (st : Stmt), Bok X c T → chkS c X.env.scope a st = true → PS X st (tS X.K T a)
  | .asg (.nm i) e, st, b, h => by
    have h' := h
    unfold chkS at h
    split at h
    · rename_i tg e' pos
      simp only [Bool.and_eq_true] at h
      cases tg <;> try (simp [chkT] at h; done)
      exact snd_asgN b h.1.1 h.1.2
    · cases h
  | .asg (.tp ts) e, st, b, h => by
    have h' := h
    unfold chkS at h
    split at h
    · exact snd_asgT b h'
    · cases h
  | .aug i o e, st, b, h => by
    unfold chkS at h
    split at h
    · simp only [Bool.and_eq_true, decide_eq_true_eq] at h
      exact snd_aug b h.1.1.1 h.1.1.2 h.1.2 (snd e X _ b.ok h.2)
    · cases h
  | .sti o i e, st, b, h => by
    unfold chkS at h
    split at h
    · simp only [Bool.and_eq_true] at h
      exact snd_sti b h.1.1.1 (snd e X _ b.ok h.1.1.2) (snd o X _ b.ok h.1.2) (snd i X _ b.ok h.2)
    · cases h
  | .ex e, st, b, h => by
    unfold chkS at h
    split at h
    · simp only [Bool.and_eq_true] at h
      exact snd_ex h.1 (snd e X _ b.ok h.2)
    · cases h
  | .ite e a d, st, b, h => by
    unfold chkS at h
    split at h
    · simp only [Bool.and_eq_true] at h
      exact snd_ifS (snd e X _ b.ok h.1.1) (sndSs a _ b h.1.2) (sndSs d _ b h.2)
    · cases h
  | .for t it a, st, b, h => by
    unfold chkS at h
    split at h
    · simp only [Bool.and_eq_true] at h
      exact PS.imp (ps_for b.po b.ok.calm (sndI it X _ _ b.ok h.1.2) (b.tg h.1.1) (sndSs a _ b h.2) (folded_of h.1.2)) fun D σ H q => own_for q
    · cases h
  | .whl n e a, st, b, h => by
    unfold chkS at h
    split at h
    · simp only [Bool.and_eq_true] at h
      exact PS.imp (ps_while b.po (snd e X _ b.ok h.1).pt (sndSs a _ b h.2)) fun D σ H q => own_whl q
    · cases h
  | .ret e, st, b, h => by
    unfold chkS at h
    split at h
    · exact snd_ret (snd e X _ b.ok h)
    · cases h
  | .retn, st, b, h => by
    unfold chkS at h
    split at h
    · refine PS.imp ps_retN fun D σ H q => ?_
      obtain ⟨ι, s, M, rl, q⟩ := q
      simp only [exec] at q
      exact q ι H (Ext.refl _ _) rl.mem .non .non
    · cases h
  | .brk, st, b, h => by
    unfold chkS at h
    split at h
    · refine PS.imp ps_break fun D σ H q => ?_
      obtain ⟨ι, s, M, rl, q⟩ := q
      simp only [exec] at q
      exact q ι H σ (Ext.refl _ _) rl
    · cases h
  | .cnt, st, b, h => by
    unfold chkS at h
    split at h
    · refine PS.imp ps_continue fun D σ H q => ?_
      obtain ⟨ι, s, M, rl, q⟩ := q
      simp only [exec] at q
      exact q ι H σ (Ext.refl _ _) rl
    · cases h
  | .pas, st, b, h => by
    unfold chkS at h
    split at h
    · refine PS.imp ps_pass fun D σ H q => ?_
      obtain ⟨ι, s, M, rl, q⟩ := q
      simp only [exec] at q
      exact q ι H σ (Ext.refl _ _) rl
    · cases h
theorem sndSs : ∀ (a : Ss) (st : List Stmt), Bok X c T → chkSs c X.env.scope a st = true → PSs X st (tSs X.K T a)
  | .nil, st, b, h => by
    simp only [chkSs, List.isEmpty_iff] at h
    subst h
    refine PSs.imp pss_nil fun D σ H q => ?_
    obtain ⟨ι, s, M, rl, q⟩ := q
    simp only [execs] at q
    exact q ι H σ (Ext.refl _ _) rl
  | .cons a r, [], b, h => by simp [chkSs] at h
  | .cons a r, st :: sts, b, h => by
    simp only [chkSs, Bool.and_eq_true] at h
    refine PSs.imp (pss_cons (sndS a st b h.1) (sndSs r sts b h.2)) fun D σ H q => ?_
    obtain ⟨ι, s, M, rl, q⟩ := q
    rw [execs] at q
    refine ⟨ι, s, M, rl, ?_⟩
    cases he : exec T a s M with
    | nx s' M' =>
      rw [he] at q
      exact fun ι1 H1 σ1 e1 rl1 => ⟨ι1, s', M', rl1, PrO.shift e1 q⟩
    | rt d M' => rw [he] at q; exact q
    | bk s' M' => rw [he] at q; exact q
    | ct s' M' => rw [he] at q; exact q
    | ex _ _ _ => rw [he] at q; exact q
    | no => rw [he] at q; exact q
end
end
end PD
/-! PD18: defs -/
namespace PD
open PySem PySem.Spec PyProof.Rows L2
section
variable {K : PySem.W.Frag}
/-! ### what a call gives back -/
theorem post_ok {ι : Kt} {M : Mem} {H : Hp} {keep : Bool} {r : PD.O} {Q : VK} (m : Mr K ι M H) (h : PrF K ι H (post keep M.length r.out) (kE K Q)) :
    PrO K ι H r { nx := fun _ H' => Q .non H', rt := Q } := by
  have main : ∀ (d : D) (M' : Mem), PrF K ι H (post keep M.length (.ok d M')) (kE K Q) → ∀ ι' H', Ext ι H ι' H' → Mr K ι' M' H' → ∀ v, Rp K ι' H' v d → Q v H' := by
    intro d M' h ι' H' e m' v r
    obtain ⟨t, ht⟩ := e.pre
    have hlen : ι.ι.length = M.length := m.len
    have hcut : Cut M.length ι' ⟨ι.ι, ι'.γ⟩ := ⟨fun {i a} hi hg => by
      rw [ht, List.getElem?_append_left (by omega)] at hg
      exact hg, fun n z => n (z.imp (fun q => by rw [ht]; exact List.mem_append_left _ q) fun q => q)⟩
    simp only [post] at h
    split at h
    · exact h.elim
    rename_i hrb
    have hrb : D.rbs M.length (M'.take M.length) = true := by simpa using hrb
    have e2 : Ext ι H ⟨ι.ι, ι'.γ⟩ H' := ⟨⟨[], by simp⟩, e.keep, fun _ z => .inl z, e.gh, e.gn, e.there⟩
    have hM' : ι'.ι.length = M'.length := m'.len
    have hle : M.length ≤ M'.length := by rw [← hM', ht, List.length_append]; omega
    have m2 : Mr K ⟨ι.ι, ι'.γ⟩ (M'.take M.length) H' := by
      refine ⟨by rw [List.length_take, hlen]; omega, fun i a d' h1 h2 => ?_, m.nd, fun a z => ⟨fun q => (m'.gh a z).1 (by rw [ht]; exact List.mem_append_left _ q), (m'.gh a z).2⟩⟩
      have hi : i < M.length := by
        have : i < ι.ι.length := (List.getElem?_eq_some_iff.mp h1).1
        omega
      refine (m'.cell i a d' ?_ ?_).cutT hcut (rbs_get hrb h2)
      · rw [ht, List.getElem?_append_left (by omega)]; exact h1
      · rw [List.getElem?_take_of_lt hi] at h2; exact h2
    have new : ∀ i, M.length ≤ i → ∀ a, ι'.ι[i]? = some a → a ∉ ι.ι ∧ a ∉ ι'.γ := fun i hi a ha => by
      refine ⟨fun q => ?_, fun q => (m'.gh a q).1 (List.mem_of_getElem? ha)⟩
      obtain ⟨j, hj, ej⟩ := List.getElem_of_mem q
      have h1 : ι'.ι[j]? = some a := by rw [ht, List.getElem?_append_left hj, List.getElem?_eq_getElem hj, ej]
      obtain ⟨b1, c1⟩ := List.getElem?_eq_some_iff.mp h1
      obtain ⟨b2, c2⟩ := List.getElem?_eq_some_iff.mp ha
      have := (List.getElem_inj m'.nd).mp (c1.trans c2.symm)
      omega
    cases keep with
    | true =>
      simp only [if_true] at h
      split at h
      rotate_left
      · exact h.elim
      rename_i i
      split at h
      rotate_left
      · exact h.elim
      rename_i hi
      split at h
      rotate_left
      · exact h.elim
      rename_i dd hd
      split at h
      rotate_left
      · exact h.elim
      rename_i hn
      obtain ⟨a, d', rfl, h1, h2, h3, cl⟩ := m'.cellOf r
      rw [hd] at h2
      cases h2
      obtain ⟨n1, n2⟩ := new i hi a h1
      have hcut2 : Cut M.length ι' ⟨ι.ι ++ [a], ι'.γ⟩ := ⟨fun {j b} hj hg => by
        rw [ht, List.getElem?_append_left (by omega)] at hg
        show (ι.ι ++ [a])[j]? = some b
        rw [List.getElem?_append_left (by omega)]
        exact hg, fun n z => n (z.imp (fun q => by
          rcases List.mem_append.mp q with q | q
          · rw [ht]; exact List.mem_append_left _ q
          · rw [List.mem_singleton.mp q]; exact List.mem_of_getElem? h1) fun q => q)⟩
      refine h ⟨ι.ι ++ [a], ι'.γ⟩ H' ⟨⟨[a], rfl⟩, e.keep, fun b z => ?_, e.gh, e.gn, e.there⟩ ⟨?_, fun j b d'' k1 k2 => ?_, ?_, fun b z => ⟨fun q => ?_, (m'.gh b z).2⟩⟩ (.ref a) (.ref ?_)
      · rcases List.mem_append.mp z with q | q
        · exact .inl q
        · rw [List.mem_singleton.mp q]
          rcases e.new a (List.mem_of_getElem? h1) with q | q
          · exact absurd q n1
          · exact .inr q
      · simp only [List.length_append, List.length_take, List.length_cons, List.length_nil]
        omega
      · have k1 : (ι.ι ++ [a])[j]? = some b := k1
        by_cases hj : j < M.length
        · rw [List.getElem?_append_left (by omega)] at k1
          rw [List.getElem?_append_left (by rw [List.length_take]; omega), List.getElem?_take_of_lt hj] at k2
          refine (m'.cell j b d'' ?_ k2).cutT hcut2 (rbs_get hrb (by rw [List.getElem?_take_of_lt hj]; exact k2))
          rw [ht, List.getElem?_append_left (by omega)]; exact k1
        · rw [List.getElem?_append_right (by omega)] at k1
          rw [List.getElem?_append_right (by rw [List.length_take]; omega)] at k2
          have e0 : j - ι.ι.length = 0 := by
            have := (List.getElem?_eq_some_iff.mp k1).1
            simp at this
            omega
          have e1 : j - (M'.take M.length).length = 0 := by rw [List.length_take]; omega
          rw [e0] at k1
          rw [e1] at k2
          simp at k1 k2
          subst k1 k2
          exact cl.cutT hcut2 (noref_rb _ _ hn)
      · show (ι.ι ++ [a]).Nodup
        rw [List.nodup_append]
        refine ⟨m.nd, by simp, fun x hx y hy => ?_⟩
        rw [List.mem_singleton.mp hy]
        intro z
        subst z
        exact n1 hx
      · rcases List.mem_append.mp q with q | q
        · exact (m'.gh b z).1 (by rw [ht]; exact List.mem_append_left _ q)
        · rw [List.mem_singleton.mp q] at z
          exact n2 z
      · show (ι.ι ++ [a])[M.length]? = some a
        rw [← hlen]
        simp
    | false =>
      simp only [Bool.false_eq_true, if_false] at h
      split at h
      · rename_i d2 hfz
        refine h ⟨ι.ι, ι'.γ⟩ H' e2 m2 v ?_
        cases d with
        | ref i =>
          simp only [fz] at hfz
          split at hfz
          · rename_i hi
            cases hfz
            exact r.cutT hcut _ _ (by simp only [D.rb, decide_eq_true_eq]; exact hi)
          · rename_i hi
            obtain ⟨a, d', rfl, h1, h2, h3, cl⟩ := m'.cellOf r
            rw [h2] at hfz
            simp only [Option.bind_some] at hfz
            split at hfz
            · rename_i hn
              cases hfz
              obtain ⟨n1, n2⟩ := new i (by omega) a h1
              have nb : ¬ (Kt.mk ι.ι ι'.γ).bad a := fun z => z.elim n1 n2
              have cl2 := cl.cutT hcut (noref_rb _ _ hn)
              cases cl2 with
              | lst q1 q2 => exact .lst q1 nb q2
              | dct q1 q2 q3 => exact .dct (.inl q1) nb q2 q3
            · cases hfz
        | _ =>
          simp only [fz] at hfz
          split at hfz
          · rename_i hn
            cases hfz
            exact Rp.cutT hcut _ _ r (noref_rb _ _ hn)
          · cases hfz
      · exact h.elim
  cases r with
  | nx s M' => exact fun ι1 H1 σ1 e rl => main .non M' h ι1 H1 e rl.mem .non .non
  | rt d M' => exact main d M' h
  | bk s M' => exact h.elim
  | ct s M' => exact h.elim
  | ex c p M' =>
    simp only [O.out, post] at h
    split at h <;> exact h.elim
  | no => exact h.elim
end

/-! ### the table of meanings, by how deep calls may go -/
def tbl (fns : List Fn) : Nat → Tbl
  | 0 => fun _ _ _ _ => .no
  | n + 1 => fun f keep ds M => match fns[f]? with
    | some fn => runFn (tbl fns n) fn keep ds M
    | none => .no
/-- what the top has made of a def -/
structure DefOk (K : PySem.W.Frag) (mg : Str → Option Value) (c : Cc) (fns : List Fn) (x : Str) (fi : Fi) (f : Addr) (fd : FuncData) : Prop where
  mg : mg x = some (.ref f)
  kp : PySem.W.keepIn K (.ref f) = true
  ex : ∃ (qual : Str) (params : Arguments) (body : List Stmt) (scope : Scope) (dvs : List V) (N : List Str) (fn : Fn), FunD K x qual params body scope dvs [] f fd ∧ FnScope N fi.ps scope ∧ fns[fi.ix]? = some fn ∧ fn.np = fi.ps.length ∧ fn.ns = N.length ∧
    chkSs { c with N := N } scope fn.body body = true
  bn : ∀ n ∈ fi.pn, ∃ dvs ds, Binds K fd fi.ps ds ∧ Vals dvs ds ∧ ∀ ι H, Rps K ι H dvs (fi.dsAt n)
  kn : ∀ n ∈ fi.kn, KBn K fd fi.ps n (fi.ps.drop n) (fun us ws => us ++ ws) (fun us ws => us ++ ws)
/-- what the top has made -/
structure TopOk (K : PySem.W.Frag) (mg : Str → Option Value) (c : Cc) (fns : List Fn) : Prop where
  bl : ∀ x ∈ blts, mg x = none
  cs : ∀ x d, c.cs.lookup x = some d → ∃ u v, mg x = some u ∧ RelV v u ∧ ∀ ι H, Rp K ι H v d
  fn : ∀ x fi, c.fns.lookup x = some fi → ∃ f fd, DefOk K mg c fns x fi f fd
section
variable {P : Program} {w : World} {K : PySem.W.Frag} {mg : Str → Option Value} {base : Heap} {c : Cc} {fns : List Fn}
theorem all_ok (t : TopOk K mg c fns) : ∀ (n : Nat) (x : Str) (fi : Fi) (f : Addr) (fd : FuncData), DefOk K mg c fns x fi f fd → FnOk P w K mg base CX0 n f fd fi.ps (spF K (tbl fns n) fi.ix fi.ps.length)
  | 0, x, fi, f, fd, _ => ⟨fun vs H Q E ⟨κ, M, ds, keep, _, _, _, h⟩ => h.elim, fun A outer s H args us vs Q E _ _ _ _ ⟨κ, M, ds, keep, _, _, _, h⟩ => h.elim⟩
  | n + 1, x, fi, f, fd, d => by
    obtain ⟨qual, params, body, scope, dvs, N, fn, F, S, h1, h2, h3, h4⟩ := d.ex
    refine F.ok S (fun vs H Q E h => ?_) (fun cdv A outer s H vs Q E hr h => ?_)
    · obtain ⟨κ, M, ds, keep, m, rs, hl, _⟩ := h
      rw [rs.length, hl]
    · obtain ⟨κ, M, ds, keep, m, rs, hl, h⟩ := h
      have b : Bok (cxOf CX0 P w K mg base N qual scope f cdv A outer s H E) { c with N := N } (tbl fns n) := by
        refine ⟨⟨rfl, S.nd, rfl, t.bl, t.cs, fun y gi hy => ?_, ?_⟩, S.kind, fun _ _ => .inl rfl, PassesOwn.leaving⟩
        · obtain ⟨g, gd, G⟩ := t.fn y gi hy
          exact ⟨g, gd, n, all_ok t n y gi g gd G, hr, G.mg, G.kp, G.bn, G.kn⟩
        · have := hr.un
          show (A.deeper _).units + 66 < cLine
          omega
      refine ⟨_, sndSs fn.body body b h4, κ, ds.map some ++ List.replicate (fn.ns - fn.np) none, M, ⟨?_, m⟩, ?_⟩
      · unfold L2.start
        rw [h3, h2, rs.length, hl]
        refine ⟨by simp [rs.length], fun i dd hi => ?_⟩
        by_cases hi2 : i < ds.length
        · rw [List.getElem?_append_left (by simpa using hi2), List.getElem?_map] at hi
          rw [List.getElem?_append_left (by simpa [rs.length] using hi2), List.getElem?_map]
          cases q : ds[i]? with
          | none => rw [q] at hi; cases hi
          | some d2 =>
            rw [q] at hi
            cases hi
            obtain ⟨v, hv, r⟩ := rs.get q
            exact ⟨v, by rw [hv]; rfl, r⟩
        · rw [List.getElem?_append_right (by simpa using hi2), List.getElem?_replicate] at hi
          split at hi <;> cases hi
      · refine post_ok (keep := keep) m ?_
        have e1 : tbl fns (n + 1) fi.ix keep ds M = post keep M.length (execs (tbl fns n) fn.body (ds.map some ++ List.replicate (fn.ns - fn.np) none) M).out := by
          show (match fns[fi.ix]? with | some fn => runFn (tbl fns n) fn keep ds M | none => .no) = _
          rw [h1]
          show runFn (tbl fns n) fn keep ds M = _
          unfold runFn
          rw [if_pos (by rw [h2, hl])]
        rw [e1] at h
        exact h
end
end PD
/-! PD19: the top by its facts; a law's end -/
namespace PD
open PySem PySem.Spec PyProof.Rows L2
/-! ### constants of the top -/
mutual
def dV (K : PySem.W.Frag) : D → Value → Bool
  | .non, .none => true
  | .bl b, .bool c => decide (b = c)
  | .int i, .int j _ => decide (i = j)
  | .str x, .str y _ => decide (x = y) && sok x
  | .tup ds, .ref a => (match K.lookup a with
    | some ⟨.type c, _, .seq its _, _⟩ => decide (c = "tuple") && (decide (its.size ≤ sizeLine) && dVs K ds its.toList)
    | _ => false)
  | .lok ds, .ref a => (match K.lookup a with
    | some ⟨.type c, none, .seq its _, _⟩ => decide (c = "list") && (decide (its.size ≤ sizeLine) && dVs K ds its.toList)
    | _ => false)
  | _, _ => false
def dVs (K : PySem.W.Frag) : List D → List Value → Bool
  | [], [] => true
  | d :: ds, u :: us => dV K d u && dVs K ds us
  | _, _ => false
end
section
variable {K : PySem.W.Frag}
mutual
theorem dV_ok : ∀ (d : D) (u : Value), dV K d u = true → ∃ v, RelV v u ∧ ∀ ι H, Rp K ι H v d
  | .non, u, h => by
    cases u <;> simp only [dV, Bool.false_eq_true] at h
    exact ⟨.non, rfl, fun _ _ => .non⟩
  | .bl b, u, h => by
    cases u <;> simp only [dV, Bool.false_eq_true, decide_eq_true_eq] at h
    subst h
    exact ⟨.bl b, rfl, fun _ _ => .bl b⟩
  | .int i, u, h => by
    cases u <;> simp only [dV, Bool.false_eq_true, decide_eq_true_eq] at h
    subst h
    exact ⟨.int i, ⟨_, rfl⟩, fun _ _ => .int i⟩
  | .str x, u, h => by
    cases u <;> simp only [dV, Bool.false_eq_true, Bool.and_eq_true, decide_eq_true_eq] at h
    obtain ⟨rfl, h⟩ := h
    exact ⟨.str x, ⟨_, rfl⟩, fun _ _ => .str h⟩
  | .tup ds, u, h => by
    cases u <;> simp only [dV, Bool.false_eq_true] at h
    split at h
    · rename_i a _ c od its n sl e
      simp only [Bool.and_eq_true, decide_eq_true_eq] at h
      obtain ⟨rfl, h1, h2⟩ := h
      obtain ⟨vs, r1, r2⟩ := dVs_ok ds _ h2
      exact ⟨.ref a, rfl, fun ι H => .tup (.inr ⟨_, its, n, e, rfl, rfl, h1, r1⟩) (r2 ι H)⟩
    · cases h
  | .lok ds, u, h => by
    cases u <;> simp only [dV, Bool.false_eq_true] at h
    split at h
    · rename_i a _ c its n sl e
      simp only [Bool.and_eq_true, decide_eq_true_eq] at h
      obtain ⟨rfl, h1, h2⟩ := h
      obtain ⟨vs, r1, r2⟩ := dVs_ok ds _ h2
      exact ⟨.ref a, rfl, fun ι H => .lok (.inr ⟨_, its, n, e, rfl, rfl, rfl, h1, r1⟩) (r2 ι H)⟩
    · cases h
  | .lst _, u, h => by simp [dV] at h
  | .dct _ _, u, h => by simp [dV] at h
  | .ref _, u, h => by simp [dV] at h
theorem dVs_ok : ∀ (ds : List D) (us : List Value), dVs K ds us = true → ∃ vs, Vals vs us ∧ ∀ ι H, Rps K ι H vs ds
  | [], [], _ => ⟨[], .nil, fun _ _ => .nil⟩
  | [], _ :: _, h => by simp [dVs] at h
  | _ :: _, [], h => by simp [dVs] at h
  | d :: ds, u :: us, h => by
    simp only [dVs, Bool.and_eq_true] at h
    obtain ⟨v, r1, r2⟩ := dV_ok d u h.1
    obtain ⟨vs, r3, r4⟩ := dVs_ok ds us h.2
    exact ⟨v :: vs, .cons r1 r3, fun ι H => .cons (r2 ι H) (r4 ι H)⟩
end
end
def conB (K : PySem.W.Frag) (p : Str × D) : Bool := match PySem.W.nsIn K mainGlobals p.1 with
  | some (some u) => dV K p.2 u
  | _ => false
theorem conB_ok {K : PySem.W.Frag} {h : Heap} {mg : Str → Option Value} (X : K.In h) (G : h.Ns mainGlobals mg) {x : Str} {d : D} (c : conB K (x, d) = true) : ∃ u v, mg x = some u ∧ RelV v u ∧ ∀ ι H, Rp K ι H v d := by
  unfold conB at c
  split at c
  · rename_i u e
    obtain ⟨v, r1, r2⟩ := dV_ok d u c
    exact ⟨u, v, PySem.W.mg_of X G e, r1, r2⟩
  · cases c
/-! ### a def of the top -/
structure Gdef where
  x : Str
  st : Stmt
  N : List Str
  fi : Fi
  fn : Fn
def dDv : D → He.Dv
  | .non => .non
  | .bl b => .bl b
  | .int i => .int i
  | .str x => .str x
  | _ => .non
def dvV : D → V
  | .non => .non
  | .bl b => .bl b
  | .int i => .int i
  | .str x => .str x
  | _ => .non
def simD : D → Bool
  | .non => true
  | .bl _ => true
  | .int _ => true
  | .str x => sok x
  | _ => false
theorem dDv_v (K : PySem.W.Frag) (d : D) : (dDv d).v K = dvV d := by cases d <;> rfl
theorem simD_rp {K : PySem.W.Frag} {ι : Kt} {H : Hp} {d : D} (h : simD d = true) : Rp K ι H (dvV d) d := by
  cases d <;> simp only [simD, Bool.false_eq_true] at h
  · exact .non
  · exact .bl _
  · exact .int _
  · exact .str h
theorem simD_rps {K : PySem.W.Frag} {ι : Kt} {H : Hp} : ∀ {ds : List D}, ds.all simD = true → Rps K ι H (ds.map dvV) ds
  | [], _ => .nil
  | d :: ds, h => by
    simp only [List.all_cons, Bool.and_eq_true] at h
    exact .cons (simD_rp h.1) (simD_rps h.2)
def Gdef.dd (g : Gdef) : He.DefD := ⟨(g.x, none), g.x, g.x, defArgs g.st, defBody g.st, defScope g.st, g.fi.ds.map dDv, []⟩
/-- how calls bind -/
def Bnd (g : Gdef) : Prop := ∀ (K : PySem.W.Frag) (f : Addr) (fd : FuncData), FunD K g.x g.x (defArgs g.st) (defBody g.st) (defScope g.st) (g.fi.ds.map dvV) [] f fd →
  (∀ n ∈ g.fi.pn, ∃ dsv, Vals ((g.fi.ds.map dvV).drop (n + g.fi.ds.length - g.fi.ps.length)) dsv ∧ Binds K fd g.fi.ps dsv) ∧
  (∀ n ∈ g.fi.kn, KBn K fd g.fi.ps n (g.fi.ps.drop n) (fun us ws => us ++ ws) (fun us ws => us ++ ws))
def scB (N P : List Str) (sc : Scope) : Bool := decide (sc.kind = .function) && !sc.isCoroutine && !sc.isGenerator && decide N.Nodup && decide (N.take P.length = P) && P.all (fun x => decide (sc.names.lookup x = some .local) || decide (sc.names.lookup x = some .cell)) && sc.names.all fun y => decide (y.2 ≠ .free)
theorem scB_ok {N P : List Str} {sc : Scope} (h : scB N P sc = true) : FnScope N P sc := by
  unfold scB at h
  simp only [Bool.and_eq_true, Bool.not_eq_true', decide_eq_true_eq, List.all_eq_true, Bool.or_eq_true] at h
  obtain ⟨⟨⟨⟨⟨⟨h1, h2⟩, h3⟩, h4⟩, h5⟩, h6⟩, h7⟩ := h
  exact ⟨h1, h2, h3, h4, h5, h6, h7⟩
def gdB (c : Cc) (g : Gdef) : Bool := scB g.N g.fi.ps (defScope g.st) && decide (g.fn.np = g.fi.ps.length) && decide (g.fn.ns = g.N.length) && g.fi.ds.all simD && chkSs { c with N := g.N } (defScope g.st) g.fn.body (defBody g.st)
theorem FunD.kbindsN {K : PySem.W.Frag} {x qual : Str} {params : Arguments} {body : List Stmt} {scope : Scope} {kws : List (Str × V)} {f : Addr} {fd : FuncData} {ps : List Str} (F : FunD K x qual params body scope [] kws f fd) (n : Nat) (ks : List Str)
    (h : ∀ (kV doc pm : Value) (an : Option Addr) (cdv ct : Value) (us ws : List Value), us.length = n → ws.length = ks.length → bindArgs (PySem.W.fnOf x qual params body scope .none kV doc pm an cdv ct) ⟨us, ks.zip ws⟩ = pure (ps.zip (us ++ ws))) :
    KBn K fd ps n ks (fun us ws => us ++ ws) (fun us ws => us ++ ws) := by
  obtain ⟨oc, od, dV, kV, doc, pm, an, cdv, ct, osl, rfl, lk, hcd, hD, hK⟩ := F.ex
  rcases hD with ⟨_, rfl⟩ | ⟨e, _⟩
  · exact ⟨fun s us ws _ l1 l2 => .of_eq (h kV doc pm an cdv ct us ws l1 l2), fun r1 r2 => r1.append r2⟩
  · exact absurd rfl e
/-! ### the Hook -/
abbrev AlP : Type := Bool × List He.FnW
def obsP (fa : List He.Fa) (fn : List He.DefD) (cs : List (Str × D)) (K : PySem.W.Frag) : AlP := (((fa.all fun f => f.ok K) && fn.all fun d => d.ok K) && cs.all fun p => conB K p, fn.map fun d => He.fnW K d.at_)
def valP (fn : List He.DefD) : AlP := (true, fn.map He.DefD.val)
def SaysP (fa : List He.Fa) (fn : List He.DefD) (cs : List (Str × D)) (K : PySem.W.Frag) : Prop := obsP fa fn cs K = valP fn
def obsPG (n : Nat) (fa : List He.Fa) (fn : List He.DefD) (cs : List (Str × D)) (g : Addr → Option Obj) : AlP := obsP fa fn cs (He.frG g (He.asD g n))
def hookP (n : Nat) (fa : List He.Fa) (fn : List He.DefD) (cs : List (Str × D)) : PySem.W.Hook where
  α := AlP
  obs := fun s => obsPG n fa fn cs s.heap.get?
  val := fun _ => valP fn
  says := fun _ h => ∃ K : PySem.W.Frag, K.In h ∧ SaysP fa fn cs K
  of := fun _ _ e => ⟨_, He.frG_in, e⟩
  keeps := fun _ _ _ ⟨K, hK, c⟩ k => ⟨K, PySem.W.Frag.In.keeps hK k, c⟩
theorem obsPG_eq {n : Nat} {fa : List He.Fa} {fn : List He.DefD} {cs : List (Str × D)} {g : Addr → Option Obj} {s : Shared} (h : ∀ a, g a = s.heap.get? a) : obsPG n fa fn cs g = (hookP n fa fn cs).obs s := by
  have e : g = s.heap.get? := funext h
  rw [e] <;> rfl
section
variable {fa : List He.Fa} {fn : List He.DefD} {cs : List (Str × D)} {K : PySem.W.Frag}
theorem SaysP.all (c : SaysP fa fn cs K) : ((fa.all fun f => f.ok K) = true ∧ (fn.all fun d => d.ok K) = true) ∧ (cs.all fun p => conB K p) = true := by
  have h : (((fa.all fun f => f.ok K) && fn.all fun d => d.ok K) && cs.all fun p => conB K p) = true := congrArg (fun z : AlP => z.1) c
  simpa only [Bool.and_eq_true] using h
theorem SaysP.fact (c : SaysP fa fn cs K) {f : He.Fa} (h : f ∈ fa) : f.ok K = true := List.all_eq_true.mp c.all.1.1 f h
theorem SaysP.con (c : SaysP fa fn cs K) {p : Str × D} (h : p ∈ cs) : conB K p = true := List.all_eq_true.mp c.all.2 p h
theorem SaysP.def_ (c : SaysP fa fn cs K) {d : He.DefD} (h : d ∈ fn) : ∃ fd, FunD K d.name d.qual d.params d.body d.scope (d.dvs K) (d.kws K) (He.fAd K d.at_) fd := by
  have e : fn.map (fun d => He.fnW K d.at_) = fn.map He.DefD.val := congrArg (fun z : AlP => z.2) c
  obtain ⟨i, hi, rfl⟩ := List.getElem_of_mem h
  have e2 : (fn.map fun d => He.fnW K d.at_)[i]? = (fn.map He.DefD.val)[i]? := by rw [e]
  rw [List.getElem?_map, List.getElem?_map, List.getElem?_eq_getElem hi] at e2
  exact He.DefD.funD (Option.some.inj e2) (List.all_eq_true.mp c.all.1.2 _ h)
end
/-- the whole top -/
structure Top where
  gs : List Gdef
  cs : List (Str × D)
def Top.fa (t : Top) : List He.Fa := t.gs.map (fun g => .glo g.x) ++ blts.map .free
def Top.fn (t : Top) : List He.DefD := t.gs.map Gdef.dd
def Top.cc (t : Top) : Cc := ⟨[], t.gs.map fun g => (g.x, g.fi), t.cs⟩
def Top.fns (t : Top) : List Fn := t.gs.map (·.fn)
/-- the i-th def's number is i -/
def ixB : Nat → List Gdef → Bool
  | _, [] => true
  | n, g :: gs => decide (g.fi.ix = n) && ixB (n + 1) gs
theorem ixB_ok : ∀ {n : Nat} {gs : List Gdef}, ixB n gs = true → ∀ {i : Nat} {g : Gdef}, gs[i]? = some g → g.fi.ix = n + i
  | n, [], _, i, g, e => by simp at e
  | n, g0 :: gs, h, 0, g, e => by
    simp only [ixB, Bool.and_eq_true, decide_eq_true_eq] at h
    simp at e; subst e; simpa using h.1
  | n, g0 :: gs, h, i + 1, g, e => by
    simp only [ixB, Bool.and_eq_true, decide_eq_true_eq] at h
    have := ixB_ok h.2 (i := i) (by simpa using e)
    omega
theorem mem_of_lookup' {α : Type} : ∀ {l : List (Str × α)} {x : Str} {a : α}, l.lookup x = some a → (x, a) ∈ l
  | [], _, _, h => by simp at h
  | (y, b) :: l, x, a, h => by
    rw [List.lookup_cons] at h
    split at h
    · rename_i e
      cases h
      have : x = y := by simpa using e
      rw [this]
      exact List.mem_cons_self
    · exact List.mem_cons_of_mem _ (mem_of_lookup' h)
theorem def_ok {t : Top} {K : PySem.W.Frag} {h : Heap} {mg : Str → Option Value} (X : K.In h) (G : h.Ns mainGlobals mg) (c : SaysP t.fa t.fn t.cs K) (hi : ixB 0 t.gs = true) (hg : t.gs.all (gdB t.cc) = true) (hb : ∀ g ∈ t.gs, Bnd g) {g : Gdef} (hgm : g ∈ t.gs) :
    ∃ fd, DefOk K mg t.cc t.fns g.x g.fi (He.ga K g.x) fd ∧ FunD K g.x g.x (defArgs g.st) (defBody g.st) (defScope g.st) (g.fi.ds.map dvV) [] (He.ga K g.x) fd := by
  obtain ⟨fd, F⟩ := c.def_ (d := g.dd) (List.mem_map_of_mem hgm)
  have hdv : g.dd.dvs K = g.fi.ds.map dvV := by
    show (g.fi.ds.map dDv).map (He.Dv.v K) = _
    rw [List.map_map]
    exact List.map_congr_left fun d _ => dDv_v K d
  have F : FunD K g.x g.x (defArgs g.st) (defBody g.st) (defScope g.st) (g.fi.ds.map dvV) [] (He.ga K g.x) fd := by
    rw [← hdv]
    exact F
  have gd := List.all_eq_true.mp hg g hgm
  unfold gdB at gd
  simp only [Bool.and_eq_true, decide_eq_true_eq] at gd
  obtain ⟨⟨⟨⟨g1, g2⟩, g3⟩, g4⟩, g5⟩ := gd
  obtain ⟨b1, b2⟩ := hb g hgm K _ fd F
  obtain ⟨i, hlt, hgi⟩ := List.getElem_of_mem hgm
  have hix : t.gs[i]? = some g := by rw [List.getElem?_eq_getElem hlt, hgi]
  refine ⟨fd, ⟨He.glo_ok X G (c.fact (List.mem_append_left _ (List.mem_map_of_mem (f := fun g : Gdef => He.Fa.glo g.x) hgm))), F.kp, ⟨g.x, _, _, _, _, g.N, g.fn, F, scB_ok g1, ?_, g2, g3, g5⟩, fun n hn => ?_, b2⟩, F⟩
  · have := ixB_ok hi hix
    rw [this]
    show (t.gs.map (·.fn))[0 + i]? = some g.fn
    rw [Nat.zero_add, List.getElem?_map, hix]
    rfl
  · obtain ⟨dsv, r1, r2⟩ := b1 n hn
    refine ⟨_, dsv, r2, r1, fun ι H => ?_⟩
    have := (simD_rps (K := K) (ι := ι) (H := H) g4).drop (n + g.fi.ds.length - g.fi.ps.length)
    exact this
theorem top_ok {t : Top} {K : PySem.W.Frag} {h : Heap} {mg : Str → Option Value} (X : K.In h) (G : h.Ns mainGlobals mg) (c : SaysP t.fa t.fn t.cs K) (hi : ixB 0 t.gs = true) (hg : t.gs.all (gdB t.cc) = true) (hb : ∀ g ∈ t.gs, Bnd g) : TopOk K mg t.cc t.fns := by
  refine ⟨fun x hx => He.free_ok X G (c.fact (List.mem_append_right _ (List.mem_map_of_mem hx))), fun x d hd => conB_ok X G (c.con (mem_of_lookup' hd)), fun x fi hx => ?_⟩
  obtain ⟨g, hgm, e⟩ := List.mem_map.mp (mem_of_lookup' hx)
  cases e
  obtain ⟨fd, d, _⟩ := def_ok X G c hi hg hb hgm
  exact ⟨_, fd, d⟩
theorem tbl_u {fns : List Fn} {f np ns n : Nat} {body : Ss} {keep : Bool} {ds : List D} {M : Mem} {s : Env} (h : fns[f]? = some ⟨np, ns, body⟩) (hl : ds.length = np) (hs : ds.map some ++ List.replicate (ns - np) none = s) :
    tbl fns (n + 1) f keep ds M = post keep M.length (execs (tbl fns n) body s M).out := by
  show (match fns[f]? with | some fn => runFn (tbl fns n) fn keep ds M | none => .no) = _
  rw [h]
  show runFn (tbl fns n) ⟨np, ns, body⟩ keep ds M = _
  unfold runFn
  rw [if_pos hl, ← hs]
/-! ### a law's end -/
theorem law_end {t : Top} {K : PySem.W.Frag} {h : Heap} {mg : Str → Option Value} {P : Program} {w : World} {n k : Nat} {f : Addr} {g : Gdef} {ps : Str} (X : K.In h) (G : h.Ns mainGlobals mg) (c : SaysP t.fa t.fn t.cs K) (hi : ixB 0 t.gs = true) (hg : t.gs.all (gdB t.cc) = true) (hb : ∀ g ∈ t.gs, Bnd g)
    (hgm : g ∈ t.gs) (hps : g.fi.ps = [ps]) (hds : g.fi.ds = []) (hf : mg g.x = some (.ref f))
    (hA : ∀ (kV doc pm : Value) (an : Option Addr) (cdv ct : Value) (u : Value), bindArgs (PySem.W.fnOf g.x g.x (defArgs g.st) (defBody g.st) (defScope g.st) .none kV doc pm an cdv ct) ⟨[u], []⟩ = pure [(ps, u)])
    (plain : ∀ ns : List Int, ns.length ≤ n → ∃ M', tbl t.fns k g.fi.ix false [.lok (ns.map .int)] [] = .ok (.bl true) M') :
    ∃ (fd : FuncData) (sp : Sp), (∀ (s : Shared) (u : Value), BindsTo s fd ⟨[u], []⟩ [(ps, u)]) ∧
      (∀ (H : Hp) (a : Addr) (ns : List Int), ns.length ≤ n → Only H → SqL K H a (ns.map V.int) → sp [.ref a] H (fun v _ => v = .bl true) fun _ _ _ => False) ∧ ∀ base : Heap, K.In base → base.Ns mainGlobals mg → FnOk P w K mg base CX0 k f fd [ps] sp := by
  have T := top_ok X G c hi hg hb
  obtain ⟨fd, d, F⟩ := def_ok X G c hi hg hb hgm
  have e := hf.symm.trans d.mg
  cases e
  refine ⟨fd, spF K (tbl t.fns k) g.fi.ix g.fi.ps.length, fun s u => ?_, fun H a ns hl hO hS => ?_, fun base _ _ => ?_⟩
  · rw [hds] at F
    have := FunD.bindsA (ps := [ps]) F (fun kV doc pm an cdv ct us hl => by
      match us, hl with
      | [u], _ => exact hA kV doc pm an cdv ct u) s [u] rfl
    exact this
  · obtain ⟨M', hM⟩ := plain ns hl
    refine ⟨⟨[], []⟩, [], [.lok (ns.map .int)], false, ⟨rfl, fun i a d h => by simp at h, List.nodup_nil, fun a z => by simp at z⟩, .cons (.lok ?_ (Rps.ofInts ns)) .nil, by rw [hps]; rfl, ?_⟩
    · rcases hS with (h | ⟨o, h⟩) | h
      · rcases hO a with q | ⟨o, xs, q⟩
        · rw [h] at q; cases q
        · rw [h] at q; cases q
      · exact .inl ⟨⟨o, h⟩, fun z => by rcases z with z | z <;> simp at z⟩
      · exact .inr h
    · rw [hM]
      intro ι' H' _ _ v r
      cases r
      rfl
  · rw [← hps]
    exact all_ok T k g.x g.fi _ fd d
end PD
/-! PD20: plain reasoning about the evaluator -/
namespace PD
open PySem
/-- the value that a pure call gives -/
def outD : R D → Option D
  | .ok d [] => some d
  | _ => none
theorem outD_ok {r : R D} {d : D} (h : outD r = some d) : r = .ok d [] := by
  unfold outD at h
  split at h
  · cases h; rfl
  · cases h
def isB (r : R D) (b : Bool) : Bool := match r with
  | .ok (.bl c) [] => c == b
  | _ => false
theorem isB_ok {r : R D} {b : Bool} (h : isB r b = true) : r = .ok (.bl b) [] := by
  unfold isB at h
  split at h
  · rw [eq_of_beq h]
  · cases h
/-- both give the same truth -/
def same (r q : R D) : Bool := match r, q with
  | .ok (.bl a) [], .ok (.bl b) [] => a == b
  | _, _ => false
theorem same_ok {r q : R D} (h : same r q = true) : ∃ b, r = .ok (.bl b) [] ∧ q = .ok (.bl b) [] := by
  unfold same at h
  split at h
  · rename_i a b
    have e := eq_of_beq h
    subst e
    exact ⟨_, rfl, rfl⟩
  · cases h
theorem post0 (d : D) : post false 0 (.ok d []) = if d.noref then .ok d [] else .no := by
  cases h : d.noref <;> cases d <;> simp [post, fz, D.rbs, h]
  simp [D.noref] at h
theorem callT_pure {T : Tbl} {f : Nat} {ys : List D} {M : Mem} {d : D} (h : T f false ys [] = .ok d []) (hn : D.norefs ys = true) (hd : d.noref = true) : callT T false f ys M = .ok d M := by
  simp [callT, h, hn, hd]
theorem lcLoop_pure {step : D → Mem → R (Option D)} {g : Gd} {M : Mem} {f : D → Option D} (hg : gok g M = true) : ∀ {xs : List D}, (∀ x ∈ xs, step x M = .ok (f x) M) → lcLoop step g xs M = .ok (xs.filterMap f) M
  | [], _ => by simp [lcLoop, hg]
  | x :: xs, h => by
    have h1 := h x (List.mem_cons_self)
    have h2 := lcLoop_pure hg fun y hy => h y (List.mem_cons_of_mem _ hy)
    simp only [lcLoop, hg, if_true, h1, h2]
    cases q : f x <;> simp [q]
theorem ev_lc {T : Tbl} {m : Bool} {own : List Nat} {elt : E} {t : Tg} {it : Iq} {ifs : Es} {s : Env} {M : Mem} : ev T (.lc m own elt t it ifs) s M = (evIt T it s M).bind fun xg M1 => if sizeLine < xg.1.length then .no else match lcLoop (lcStep T own elt t ifs s) xg.2 xg.1 M1 with
    | .ok ys M2 => alloc m (.lst ys) M2
    | _ => .no := rfl
/-! ### the operations, by what stands there -/
theorem eq_str (a b : Str) : op2 .eq (.str a) (.str b) = some (.bl (decide (a = b))) := by
  simp [op2, eqOk, D.plain, D.depth, D.eqv, Bool.beq_eq_decide_eq]
theorem ne_str (a b : Str) : op2 .ne (.str a) (.str b) = some (.bl (!decide (a = b))) := by
  simp [op2, eqOk, D.plain, D.depth, D.eqv, Bool.beq_eq_decide_eq]
theorem eq_int (a b : Int) : op2 .eq (.int a) (.int b) = some (.bl (decide (a = b))) := by
  simp [op2, eqOk, D.plain, D.depth, D.eqv, Bool.beq_eq_decide_eq]
theorem ne_int (a b : Int) : op2 .ne (.int a) (.int b) = some (.bl (!decide (a = b))) := by
  simp [op2, eqOk, D.plain, D.depth, D.eqv, Bool.beq_eq_decide_eq]
/-! ### steps -/
section
variable {T : Tbl} {s s' : Env} {M M' M1 M2 : Mem} {o : O} {d x y : D}
theorem r_cons {a : S} {r : Ss} (h : PD.exec T a s M = .nx s' M') (k : PD.execs T r s' M' = o) : PD.execs T (.cons a r) s M = o := by
  rw [PD.execs, h]; exact k
theorem r_end {a : S} {r : Ss} (h : PD.exec T a s M = .rt d M') : PD.execs T (.cons a r) s M = .rt d M' := by
  rw [PD.execs, h]; rfl
theorem r_nil : PD.execs T .nil s M = .nx s M := by rw [PD.execs]
theorem r_ifT {c : E} {a b : Ss} (h : PD.ev T c s M = .ok (.bl true) M1) (k : PD.execs T a s M1 = o) : PD.exec T (.ite c a b) s M = o := by
  rw [PD.exec, h]; exact k
theorem r_ifF {c : E} {a b : Ss} (h : PD.ev T c s M = .ok (.bl false) M1) (k : PD.execs T b s M1 = o) : PD.exec T (.ite c a b) s M = o := by
  rw [PD.exec, h]; exact k
theorem r_asg {i : Nat} {e : E} (h : PD.ev T e s M = .ok d M1) : PD.exec T (.asg (.nm i) e) s M = .nx (s.set i (some d)) M1 := by
  rw [PD.exec, h]; rfl
theorem r_ret {e : E} (h : PD.ev T e s M = .ok d M1) : PD.exec T (.ret e) s M = .rt d M1 := by
  rw [PD.exec, h]; rfl
theorem r_iteT {c a b : E} {r : R D} (h : PD.ev T c s M = .ok (.bl true) M1) (k : PD.ev T a s M1 = r) : PD.ev T (.ite c a b) s M = r := by
  rw [PD.ev, h]; exact k
theorem r_iteF {c a b : E} {r : R D} (h : PD.ev T c s M = .ok (.bl false) M1) (k : PD.ev T b s M1 = r) : PD.ev T (.ite c a b) s M = r := by
  rw [PD.ev, h]; exact k
theorem r_andT {e : E} {es : Es} {r : R D} (h : PD.ev T e s M = .ok (.bl true) M1) (k : PD.evAnd T es s M1 = r) : PD.evAnd T (.cons e es) s M = r := by
  rw [PD.evAnd, h]; exact k
theorem r_andF {e : E} {es : Es} (h : PD.ev T e s M = .ok (.bl false) M1) : PD.evAnd T (.cons e es) s M = .ok (.bl false) M1 := by
  rw [PD.evAnd, h]; rfl
theorem r_and1 {e : E} {b : Bool} (h : PD.ev T e s M = .ok (.bl b) M1) : PD.evAnd T (.cons e .nil) s M = .ok (.bl b) M1 := by
  cases b
  · exact r_andF h
  · exact r_andT h (by rw [PD.evAnd])
theorem r_and {es : Es} {r : R D} (h : PD.evAnd T es s M = r) : PD.ev T (.and es) s M = r := by
  rw [PD.ev]; exact h
theorem r_orF {e : E} {es : Es} {r : R D} (h : PD.ev T e s M = .ok (.bl false) M1) (k : PD.evOr T es s M1 = r) : PD.evOr T (.cons e es) s M = r := by
  rw [PD.evOr, h]; exact k
theorem r_orT {e : E} {es : Es} (h : PD.ev T e s M = .ok (.bl true) M1) : PD.evOr T (.cons e es) s M = .ok (.bl true) M1 := by
  rw [PD.evOr, h]; rfl
theorem r_or {es : Es} {r : R D} (h : PD.evOr T es s M = r) : PD.ev T (.or es) s M = r := by
  rw [PD.ev]; exact h
theorem r_op {o : Op} {a b : E} {z : D} (h1 : PD.ev T a s M = .ok x M1) (h2 : PD.ev T b s M1 = .ok y M2) (h : op2 o (x.val M2) (y.val M2) = some z) : PD.ev T (.op o a b) s M = .ok z M2 := by
  rw [PD.ev, h1]
  show (PD.ev T b s M1).bind _ = _
  rw [h2]
  show R.of M2 (op2 o (x.val M2) (y.val M2)) = _
  rw [h]; rfl
theorem r_call {keep : Bool} {f : Nat} {es : Es} {ds xs : List D} {r : R D} (h : PD.evs T es s M = .ok xs M1) (k : callT T keep f (xs ++ ds) M1 = r) : PD.ev T (.call keep f es ds) s M = r := by
  rw [PD.ev, h]; exact k
theorem r_ex {e : E} (h : PD.ev T e s M = .ok d M1) : PD.exec T (.ex e) s M = .nx s M1 := by
  rw [PD.exec, h]; rfl
theorem r_tup {es : Es} {ds : List D} (h : PD.evs T es s M = .ok ds M1) : PD.ev T (.tup es) s M = .ok (.tup ds) M1 := by
  rw [PD.ev, h]; rfl
theorem r_evs {e : E} {es : Es} {ds : List D} (h : PD.ev T e s M = .ok x M1) (k : PD.evs T es s M1 = .ok ds M2) : PD.evs T (.cons e es) s M = .ok (x :: ds) M2 := by
  rw [PD.evs, h]
  show (PD.evs T es s M1).bind _ = _
  rw [k]; rfl
end
end PD
/-! PD21: the hat, which every law draws from -/
namespace PD
open PySem
def pullB : Ss := .cons (.ite (.op .gt (.op .ix (.v 0) (.c (.int 0))) (.c (.int 0))) (.cons (.asg (.nm 2) (.op .mod (.op .ix (.v 0) (.c (.int 0))) (.v 1))) (.cons (.sti (.v 0) (.c (.int 0)) (.op .fdiv (.op .ix (.v 0) (.c (.int 0))) (.v 1))) (.cons (.ret (.v 2)) .nil))) .nil) (.cons (.sti (.v 0) (.c (.int 1)) (.op .mod (.op .add (.op .mul (.op .ix (.v 0) (.c (.int 1))) (.c (.int 1103515245))) (.c (.int 12345))) (.c (.int 4294967296)))) (.cons (.ret (.op .mod (.op .fdiv (.op .ix (.v 0) (.c (.int 1))) (.c (.int 65536))) (.v 1))) .nil))
def hatB : Ss := .cons (.asg (.nm 2) (.op .mul (.c (.int 7919)) (.op .add (.v 1) (.c (.int 3))))) (.cons (.for (.tp (.cons (.nm 4) (.cons (.nm 5) .nil))) (.enum (.v 0)) (.cons (.asg (.nm 2) (.op .mod (.op .add (.op .add (.op .mul (.v 2) (.c (.int 69069))) (.op .mul (.op .mod (.bi false .abs (.cons (.bi false .int (.cons (.v 5) .nil)) .nil)) (.c (.int 2147483647))) (.op .add (.v 4) (.c (.int 11))))) (.c (.int 1))) (.c (.int 4294967279)))) .nil)) (.cons (.asg (.nm 3) (.ite (.op .lt (.v 1) (.bi false .len (.cons (.v 0) .nil))) (.bi false .abs (.cons (.bi false .int (.cons (.op .ix (.v 0) (.v 1)) .nil)) .nil)) (.c (.int 0)))) (.cons (.ret (.ls true (.cons (.ite (.op .gt (.v 3) (.op .pow (.c (.int 10)) (.c (.int 18)))) (.v 3) (.c (.int 0))) (.cons (.v 2) .nil)))) .nil)))
def anyB (i_pull : Nat) : Ss := .cons (.ret (.op .ix (.v 1) (.call false i_pull (.cons (.v 0) (.cons (.bi false .len (.cons (.v 1) .nil)) .nil)) []))) .nil

section
variable {T : Tbl} {s s' : PD.Env} {M M' M1 M2 M3 : Mem} {o : PD.O} {d x y : D}
theorem r_sti {o i e : E} {a n : Nat} {j : Int} {xs : List D} (h1 : PD.ev T e s M = .ok x M1) (h2 : PD.ev T o s M1 = .ok (.ref a) M2) (h3 : PD.ev T i s M2 = .ok (.int j) M3) (h4 : M3[a]? = some (.lst xs)) (h5 : L2.ixN xs.length j = some n) :
    PD.exec T (.sti o i e) s M = .nx s (setM M3 a (.lst (xs.set n x))) := by
  rw [PD.exec, h1]
  show (PD.ev T o s M1).O _ = _
  rw [h2]
  show (PD.ev T i s M2).O _ = _
  rw [h3]
  show (match M3[a]?, D.int j with
      | some (.lst xs), .int j => (match L2.ixN xs.length j with
        | some n => PD.O.nx s (setM M3 a (.lst (xs.set n x)))
        | none => .no)
      | some (.dct ks vs), k => if keyOk k && decide (ks.length < sizeLine) then .nx s (setM M3 a (.dct (dPut k x ks vs).1 (dPut k x ks vs).2)) else .no
      | _, _ => .no) = _
  rw [h4]
  show (match L2.ixN xs.length j with
        | some n => PD.O.nx s (setM M3 a (.lst (xs.set n x)))
        | none => .no) = _
  rw [h5]
theorem r_v {i : Nat} (h : s[i]? = some (some d)) : PD.ev T (.v i) s M = .ok d M := by
  rw [PD.ev, h]
theorem r_c : PD.ev T (.c d) s M = .ok d M := by rw [PD.ev]
theorem r_g : PD.ev T (.g d) s M = .ok d M := by rw [PD.ev]
theorem r_evs0 : PD.evs T .nil s M = .ok [] M := by rw [PD.evs]
theorem r_evs1 {e : E} (h : PD.ev T e s M = .ok x M1) : PD.evs T (.cons e .nil) s M = .ok [x] M1 := r_evs h r_evs0
theorem r_evs2 {e f : E} (h : PD.ev T e s M = .ok x M1) (k : PD.ev T f s M1 = .ok y M2) : PD.evs T (.cons e (.cons f .nil)) s M = .ok [x, y] M2 := r_evs h (r_evs1 k)
theorem r_bi {f : Bi} {es : Es} {ds : List D} {z : D} (h : PD.evs T es s M = .ok ds M1) (k : bi f (ds.map fun d => d.val M1) = some z) : PD.ev T (.bi false f es) s M = .ok z M1 := by
  rw [PD.ev, h]
  show (match bi f (ds.map fun d => d.val M1) with
    | some d => alloc false d M1
    | none => .no) = _
  rw [k]; rfl
end
/-! ### the hat -/
def hatD (a b : Int) : D := .lst [.int a, .int b]
theorem norefs_app {xs ys : List D} (h : D.norefs xs = true) (k : D.norefs ys = true) : D.norefs (xs ++ ys) = true := by
  induction xs with
  | nil => exact k
  | cons x xs ih =>
    simp only [D.norefs, Bool.and_eq_true, List.cons_append] at h ⊢
    exact ⟨h.1, ih h.2⟩
/-- a value comes back, the memory's things are kept -/
theorem post_val {M : Mem} {d : D} {n : Nat} (hn : n = M.length) (h : D.norefs M = true) (hd : d.noref = true) : post false n (.ok d M) = .ok d M := by
  subst hn
  have h1 : M.take M.length = M := List.take_of_length_le (Nat.le_refl _)
  have h2 : D.rbs M.length M = true := norefs_rb _ _ h
  cases d <;> simp [post, h1, h2, fz, hd]
  simp [D.noref] at hd
theorem getL {M0 : Mem} {d : D} : (M0 ++ [d])[M0.length]? = some d := by simp
theorem setL {M0 : Mem} {d e : D} : setM (M0 ++ [d]) M0.length e = M0 ++ [e] := by simp [setM]
theorem ix_hat {T : Tbl} {M0 : Mem} {a b : Int} {s : PD.Env} {i : Int} {c : Int} (hs : s[0]? = some (some (D.ref M0.length))) (h : L2.atI [D.int a, D.int b] i = some (.int c)) :
    PD.ev T (.op .ix (.v 0) (.c (.int i))) s (M0 ++ [hatD a b]) = .ok (.int c) (M0 ++ [hatD a b]) := by
  refine r_op (x := .ref M0.length) (y := .int i) (M1 := M0 ++ [hatD a b]) (r_v hs) r_c ?_
  simp [D.val, op2, opIx, hatD, atD, h]
theorem at0 {a b : Int} : L2.atI [D.int a, D.int b] 0 = some (.int a) := rfl
theorem at1 {a b : Int} : L2.atI [D.int a, D.int b] 1 = some (.int b) := rfl
theorem op_gt (i j : Int) : op2 .gt (.int i) (.int j) = some (.bl (decide (j < i))) := rfl
theorem op_mod {i j : Int} (h : 0 < j) : op2 .mod (.int i) (.int j) = some (.int (i % j)) := by simp [op2, h]
theorem op_fdiv {i j : Int} (h : 0 < j) (h2 : j < 1073741824) : op2 .fdiv (.int i) (.int j) = some (.int (i / j)) := by simp [op2, h, h2]
theorem op_mul {i j : Int} (h : 0 ≤ i) (h2 : i < 18446744073709551616) : op2 .mul (.int i) (.int j) = some (.int (i * j)) := by
  have h3 : small64 i = true := by unfold small64; simp; omega
  simp [op2, opMul, h3]
theorem op_add (i j : Int) : op2 .add (.int i) (.int j) = some (.int (i + j)) := rfl
theorem pull_ok {fns : List Fn} {f : Nat} (hf : fns[f]? = some ⟨2, 3, pullB⟩) (n : Nat) (M0 : Mem) (a b m : Int) (hM : D.norefs M0 = true) (ha : 0 ≤ a) (hb : 0 ≤ b) (hb2 : b < 4294967296) (hm : 0 < m) (hm2 : m < 1000000) :
    ∃ r a' b' : Int, 0 ≤ r ∧ r < m ∧ 0 ≤ a' ∧ 0 ≤ b' ∧ b' < 4294967296 ∧ tbl fns (n + 1) f false [.ref M0.length, .int m] (M0 ++ [hatD a b]) = .ok (.int r) (M0 ++ [hatD a' b']) := by
  rw [tbl_u hf rfl rfl]
  by_cases h0 : 0 < a
  · refine ⟨a % m, a / m, b, Int.emod_nonneg _ (by omega), Int.emod_lt_of_pos _ hm, Int.ediv_nonneg ha (by omega), hb, hb2, ?_⟩
    rw [← post_val (M := M0 ++ [hatD (a / m) b]) (d := .int (a % m)) rfl (norefs_app hM rfl) rfl]
    have hl : (M0 ++ [hatD a b]).length = (M0 ++ [hatD (a / m) b]).length := by simp
    rw [hl]
    congr 1
    have e1 : PD.execs (tbl fns n) pullB ([D.ref M0.length, D.int m].map some ++ List.replicate (3 - 2) none) (M0 ++ [hatD a b]) = .rt (.int (a % m)) (M0 ++ [hatD (a / m) b]) := by
      refine r_end (r_ifT (M1 := M0 ++ [hatD a b]) ?_ ?_)
      · refine r_op (ix_hat rfl at0) r_c ?_
        show op2 .gt (.int a) (.int 0) = _
        rw [op_gt]; simp [h0]
      · refine r_cons (r_asg (r_op (ix_hat rfl at0) (r_v rfl) (op_mod hm))) ?_
        refine r_cons (r_sti (M1 := M0 ++ [hatD a b]) (M2 := M0 ++ [hatD a b]) (r_op (M1 := M0 ++ [hatD a b]) (ix_hat rfl at0) (r_v rfl) (op_fdiv hm (by omega))) (r_v rfl) r_c getL (n := 0) rfl) ?_
        refine r_end (r_ret ?_)
        rw [setL]
        exact r_v rfl
    rw [e1]; rfl
  · have hb3 : 0 ≤ (b * 1103515245 + 12345) % 4294967296 := Int.emod_nonneg _ (by omega)
    have hb4 : (b * 1103515245 + 12345) % 4294967296 < 4294967296 := Int.emod_lt_of_pos _ (by omega)
    refine ⟨(b * 1103515245 + 12345) % 4294967296 / 65536 % m, a, (b * 1103515245 + 12345) % 4294967296, Int.emod_nonneg _ (by omega), Int.emod_lt_of_pos _ hm, ha, hb3, hb4, ?_⟩
    generalize hb' : (b * 1103515245 + 12345) % 4294967296 = b' at *
    rw [← post_val (M := M0 ++ [hatD a b']) (d := .int (b' / 65536 % m)) rfl (norefs_app hM rfl) rfl]
    have hl : (M0 ++ [hatD a b]).length = (M0 ++ [hatD a b']).length := by simp
    rw [hl]
    congr 1
    have e1 : PD.execs (tbl fns n) pullB ([D.ref M0.length, D.int m].map some ++ List.replicate (3 - 2) none) (M0 ++ [hatD a b]) = .rt (.int (b' / 65536 % m)) (M0 ++ [hatD a b']) := by
      refine r_cons (r_ifF (M1 := M0 ++ [hatD a b]) ?_ r_nil) ?_
      · refine r_op (ix_hat rfl at0) r_c ?_
        show op2 .gt (.int a) (.int 0) = _
        rw [op_gt]; simp [h0]
      · refine r_cons (r_sti (x := .int b') (M1 := M0 ++ [hatD a b]) (M2 := M0 ++ [hatD a b]) ?_ (r_v rfl) r_c getL (n := 1) rfl) ?_
        · refine r_op (r_op (r_op (ix_hat rfl at1) r_c (op_mul hb (by omega))) r_c (op_add _ _)) r_c ?_
          show op2 .mod (.int (b * 1103515245 + 12345)) (.int 4294967296) = _
          rw [op_mod (by omega), hb']
        · refine r_end (r_ret ?_)
          rw [setL]
          exact r_op (r_op (ix_hat rfl at1) r_c (op_fdiv (by decide) (by decide))) (r_v rfl) (op_mod hm)
    rw [e1]; rfl
theorem callT_ref {T : Tbl} {keep : Bool} {f : Nat} {ys : List D} {M : Mem} (h : D.norefs ys = false) : callT T keep f ys M = T f keep ys M := by
  simp [callT, h]
theorem norefs_mem {xs : List D} (h : D.norefs xs = true) : ∀ x ∈ xs, x.noref = true := by
  induction xs with
  | nil => intro x hx; simp at hx
  | cons y ys ih =>
    simp only [D.norefs, Bool.and_eq_true] at h
    intro x hx
    rcases List.mem_cons.mp hx with rfl | hx
    · exact h.1
    · exact ih h.2 x hx
theorem atD_get {xs : List D} {r : Int} (h : 0 ≤ r) (h2 : r < xs.length) : ∃ d, atD xs r = some d ∧ d ∈ xs := by
  obtain ⟨j, rfl⟩ : ∃ j : Nat, r = (j : Int) := ⟨r.toNat, by omega⟩
  have hj : j < xs.length := by omega
  refine ⟨xs[j], ?_, List.getElem_mem hj⟩
  unfold atD L2.atI
  rw [Evl.ixN_nat hj]
  exact List.getElem?_eq_getElem hj
theorem any_ok {fns : List Fn} {f i : Nat} (hf : fns[f]? = some ⟨2, 2, anyB i⟩) (hi : fns[i]? = some ⟨2, 3, pullB⟩) (n : Nat) (M0 : Mem) (a b : Int) (xs : List D) (hM : D.norefs M0 = true) (ha : 0 ≤ a) (hb : 0 ≤ b) (hb2 : b < 4294967296) (h0 : 0 < xs.length) (h1 : xs.length < 1000000) (hx : D.norefs xs = true) :
    ∃ (d : D) (a' b' : Int), d ∈ xs ∧ 0 ≤ a' ∧ 0 ≤ b' ∧ b' < 4294967296 ∧ tbl fns (n + 2) f false [.ref M0.length, .lst xs] (M0 ++ [hatD a b]) = .ok d (M0 ++ [hatD a' b']) := by
  obtain ⟨r, a', b', r1, r2, p1, p2, p3, hp⟩ := pull_ok hi n M0 a b xs.length hM ha hb hb2 (by omega) (by omega)
  obtain ⟨d, d1, d2⟩ := atD_get r1 r2
  refine ⟨d, a', b', d2, p1, p2, p3, ?_⟩
  rw [tbl_u (fns := fns) (n := n + 1) hf rfl rfl]
  rw [← post_val (M := M0 ++ [hatD a' b']) (d := d) rfl (norefs_app hM rfl) (norefs_mem hx d d2)]
  have hl : (M0 ++ [hatD a b]).length = (M0 ++ [hatD a' b']).length := by simp
  rw [hl]
  congr 1
  have e1 : PD.execs (tbl fns (n + 1)) (anyB i) ([D.ref M0.length, D.lst xs].map some ++ List.replicate (2 - 2) none) (M0 ++ [hatD a b]) = .rt d (M0 ++ [hatD a' b']) := by
    refine r_end (r_ret (r_op (x := .lst xs) (y := .int r) (M1 := M0 ++ [hatD a b]) (r_v rfl) (r_call (xs := [.ref M0.length, .int xs.length]) (M1 := M0 ++ [hatD a b]) (r_evs2 (r_v rfl) (r_bi (r_evs1 (r_v rfl)) rfl)) ?_) ?_))
    · rw [callT_ref rfl]
      exact hp
    · show op2 .ix (.lst xs) (.int r) = _
      simp [op2, opIx, d1]
  rw [e1]; rfl
section
variable {T : Tbl} {s s' : PD.Env} {M M' M1 M2 M3 : Mem} {o : PD.O} {d x y : D}
theorem r_for {t : Tg} {it : Iq} {b : Ss} {xs : List D} {g : Gd} (h : PD.evIt T it s M = .ok (xs, g) M1) (k : forLoop (fun x s M => match setT t x s with
      | some s' => PD.execs T b s' M
      | none => .no) g xs s M1 = o) : PD.exec T (.for t it b) s M = o := by
  rw [PD.exec, h]; exact k
theorem for_inv {body : D → PD.Env → Mem → PD.O} {g : Gd} (Pv : Nat → PD.Env → Mem → Prop) (hg : ∀ i s M, Pv i s M → gok g M = true) : ∀ (xs : List D) (i0 : Nat) (s : PD.Env) (M : Mem),
    (∀ i x s M, xs[i]? = some x → Pv (i0 + i) s M → ∃ s' M', (body x s M = .nx s' M' ∨ body x s M = .ct s' M') ∧ Pv (i0 + i + 1) s' M') → Pv i0 s M → ∃ s' M', forLoop body g xs s M = .nx s' M' ∧ Pv (i0 + xs.length) s' M'
  | [], i0, s, M, _, h => ⟨s, M, by simp [forLoop, hg _ _ _ h], h⟩
  | x :: xs, i0, s, M, hs, h => by
    obtain ⟨s1, M1, hb, h1⟩ := hs 0 x s M rfl h
    obtain ⟨s2, M2, h2, h3⟩ := for_inv Pv hg xs (i0 + 1) s1 M1 (fun i y s M hy hp => by
      have := hs (i + 1) y s M (by simpa using hy) (by rw [show i0 + (i + 1) = i0 + 1 + i by omega]; exact hp)
      rw [show i0 + (i + 1) + 1 = i0 + 1 + i + 1 by omega] at this
      exact this) h1
    refine ⟨s2, M2, ?_, by rw [List.length_cons, show i0 + (xs.length + 1) = i0 + 1 + xs.length by omega]; exact h3⟩
    rw [forLoop, if_pos (hg _ _ _ h)]
    rcases hb with hb | hb
    · rw [hb]; exact h2
    · rw [hb]; exact h2
theorem r_enum {e : E} {xs : List D} (h : PD.ev T e s M = .ok x M1) (k : rowOf (x.val M1) = some xs) : PD.evIt T (.enum e) s M = .ok (enumFrom 0 xs, gdOf M1 x) M1 := by
  rw [PD.evIt, h]
  show R.of M1 ((rowOf (x.val M1)).map fun xs => (enumFrom 0 xs, gdOf M1 x)) = _
  rw [k]; rfl
theorem r_ls {es : Es} {ds : List D} (h : PD.evs T es s M = .ok ds M1) : PD.ev T (.ls true es) s M = .ok (.ref M1.length) (M1 ++ [.lst ds]) := by
  rw [PD.ev, h]; rfl
theorem r_ls0 {es : Es} {ds : List D} (h : PD.evs T es s M = .ok ds M1) : PD.ev T (.ls false es) s M = .ok (.lst ds) M1 := by
  rw [PD.ev, h]; rfl
end
theorem norefs_ints : ∀ ns : List Int, D.norefs (ns.map .int) = true
  | [] => rfl
  | n :: ns => by simp only [List.map_cons, D.norefs, D.noref, Bool.true_and]; exact norefs_ints ns
theorem op_lt (i j : Int) : op2 .lt (.int i) (.int j) = some (.bl (decide (i < j))) := rfl
theorem hat_ok {fns : List Fn} {f : Nat} (hf : fns[f]? = some ⟨2, 6, hatB⟩) (n : Nat) (ns : List Int) (k : Int) (h0 : 0 ≤ k) (h1 : k < 100000) :
    ∃ a b : Int, 0 ≤ a ∧ 0 ≤ b ∧ b < 4294967296 ∧ tbl fns (n + 1) f true [.lok (ns.map .int), .int k] [] = .ok (.ref 0) [hatD a b] := by
  have main : ∃ a b : Int, 0 ≤ a ∧ 0 ≤ b ∧ b < 4294967296 ∧ PD.execs (tbl fns n) hatB [some (.lok (ns.map .int)), some (.int k), none, none, none, none] [] = .rt (.ref 0) [hatD a b] := by
    -- the loop
    obtain ⟨s', M', hl, ⟨m, hm1, hm2, x3, x4, x5, rfl⟩, rfl⟩ := for_inv (g := none) (body := fun x s M => match setT (.tp (.cons (.nm 4) (.cons (.nm 5) .nil))) x s with
      | some s' => PD.execs (tbl fns n) (.cons (.asg (.nm 2) (.op .mod (.op .add (.op .add (.op .mul (.v 2) (.c (.int 69069))) (.op .mul (.op .mod (.bi false .abs (.cons (.bi false .int (.cons (.v 5) .nil)) .nil)) (.c (.int 2147483647))) (.op .add (.v 4) (.c (.int 11))))) (.c (.int 1))) (.c (.int 4294967279)))) .nil) s' M
      | none => .no) (fun _ s M => (∃ m : Int, 0 ≤ m ∧ m < 4294967296 ∧ ∃ x3 x4 x5 : Option D, s = [some (.lok (ns.map .int)), some (.int k), some (.int m), x3, x4, x5]) ∧ M = []) (fun _ _ _ _ => rfl) (enumFrom 0 (ns.map .int)) 0 [some (.lok (ns.map .int)), some (.int k), some (.int (7919 * (k + 3))), none, none, none] []
      (fun i x s M hx ⟨⟨m, hm1, hm2, x3, x4, x5, hs⟩, hM⟩ => by
        obtain ⟨y, hy, rfl⟩ := enumFrom_get _ _ _ _ hx
        rw [List.getElem?_map] at hy
        obtain ⟨z, hz, rfl⟩ := Option.map_eq_some_iff.mp hy
        subst hs hM
        have st : PD.execs (tbl fns n) (.cons (.asg (.nm 2) (.op .mod (.op .add (.op .add (.op .mul (.v 2) (.c (.int 69069))) (.op .mul (.op .mod (.bi false .abs (.cons (.bi false .int (.cons (.v 5) .nil)) .nil)) (.c (.int 2147483647))) (.op .add (.v 4) (.c (.int 11))))) (.c (.int 1))) (.c (.int 4294967279)))) .nil) [some (.lok (ns.map .int)), some (.int k), some (.int m), x3, some (.int (0 + i)), some (.int z)] [] =
            .nx [some (.lok (ns.map .int)), some (.int k), some (.int ((m * 69069 + (if z < 0 then -z else z) % 2147483647 * (0 + (i : Int) + 11) + 1) % 4294967279)), x3, some (.int (0 + i)), some (.int z)] [] :=
          r_cons (r_asg (r_op (r_op (r_op (r_op (r_v rfl) r_c (op_mul hm1 (by omega))) (r_op (r_op (r_bi (r_evs1 (r_bi (r_evs1 (r_v rfl)) rfl)) rfl) r_c (op_mod (by decide))) (r_op (r_v rfl) r_c (op_add _ _)) (op_mul (Int.emod_nonneg _ (by decide)) (Int.lt_of_lt_of_le (Int.emod_lt_of_pos _ (by decide : (0 : Int) < 2147483647)) (by decide)))) (op_add _ _)) r_c (op_add _ _)) r_c (op_mod (by decide)))) r_nil
        exact ⟨_, _, .inl st, ⟨_, Int.emod_nonneg _ (by decide : (4294967279 : Int) ≠ 0), Int.lt_of_lt_of_le (Int.emod_lt_of_pos _ (by decide : (0 : Int) < 4294967279)) (by decide), x3, _, _, rfl⟩, rfl⟩)
      ⟨⟨_, by omega, by omega, none, none, none, rfl⟩, rfl⟩
    have e0 : PD.exec (tbl fns n) (.asg (.nm 2) (.op .mul (.c (.int 7919)) (.op .add (.v 1) (.c (.int 3))))) [some (.lok (ns.map .int)), some (.int k), none, none, none, none] [] = .nx [some (.lok (ns.map .int)), some (.int k), some (.int (7919 * (k + 3))), none, none, none] [] :=
      r_asg (r_op r_c (r_op (r_v rfl) r_c (op_add _ _)) (op_mul (by decide) (by decide)))
    -- great
    have hg : ∃ g : Int, 0 ≤ g ∧ PD.ev (tbl fns n) (.ite (.op .lt (.v 1) (.bi false .len (.cons (.v 0) .nil))) (.bi false .abs (.cons (.bi false .int (.cons (.op .ix (.v 0) (.v 1)) .nil)) .nil)) (.c (.int 0))) [some (.lok (ns.map .int)), some (.int k), some (.int m), x3, x4, x5] [] = .ok (.int g) [] := by
      by_cases hk : k < (ns.map D.int).length
      · obtain ⟨d, hd, hmem⟩ := atD_get h0 hk
        obtain ⟨z, _, rfl⟩ := List.mem_map.mp hmem
        refine ⟨if z < 0 then -z else z, by split <;> omega, r_iteT (M1 := []) (r_op (r_v rfl) (r_bi (r_evs1 (r_v rfl)) rfl) ?_) (r_bi (ds := [.int z]) (r_evs1 (r_bi (ds := [.int z]) (r_evs1 (r_op (z := .int z) (r_v rfl) (r_v rfl) ?_)) rfl)) ?_)⟩
        · show op2 .lt (.int k) (.int ((ns.map D.int).length : Nat)) = _
          rw [op_lt]; simp only [hk, decide_true]
        · show op2 .ix (.lok (ns.map .int)) (.int k) = _
          simp only [op2, opIx, hd]
        · rfl
      · refine ⟨0, by omega, r_iteF (M1 := []) (r_op (r_v rfl) (r_bi (r_evs1 (r_v rfl)) rfl) ?_) r_c⟩
        show op2 .lt (.int k) (.int ((ns.map D.int).length : Nat)) = _
        rw [op_lt]; simp only [hk, decide_false]
    obtain ⟨g, g0, hg⟩ := hg
    have hgt : PD.ev (tbl fns n) (.op .gt (.v 3) (.op .pow (.c (.int 10)) (.c (.int 18)))) [some (.lok (ns.map .int)), some (.int k), some (.int m), some (.int g), x4, x5] [] = .ok (.bl (decide ((10 : Int) ^ 18 < g))) [] := r_op (r_v rfl) (r_op r_c r_c rfl) rfl
    have h4 : ∃ a : Int, 0 ≤ a ∧ PD.ev (tbl fns n) (.ite (.op .gt (.v 3) (.op .pow (.c (.int 10)) (.c (.int 18)))) (.v 3) (.c (.int 0))) [some (.lok (ns.map .int)), some (.int k), some (.int m), some (.int g), x4, x5] [] = .ok (.int a) [] := by
      by_cases hq : (10 : Int) ^ 18 < g
      · exact ⟨g, g0, r_iteT (by rw [hgt]; simp only [hq, decide_true]) (r_v rfl)⟩
      · exact ⟨0, by omega, r_iteF (by rw [hgt]; simp only [hq, decide_false]) r_c⟩
    obtain ⟨a, ha, h4⟩ := h4
    refine ⟨a, m, ha, hm1, hm2, ?_⟩
    refine r_cons e0 (r_cons (r_for (r_enum (r_v rfl) rfl) hl) (r_cons (r_asg hg) (r_end (r_ret ?_))))
    exact r_ls (M1 := []) (r_evs2 h4 (r_v rfl))
  obtain ⟨a, b, ha, hb, hb2, h⟩ := main
  refine ⟨a, b, ha, hb, hb2, ?_⟩
  rw [tbl_u hf rfl rfl]
  show post true 0 (PD.execs (tbl fns n) hatB [some (.lok (ns.map .int)), some (.int k), none, none, none, none] []).out = _
  rw [h]
  rfl
/-! ### _law_equal -/
def eqB (i_eq : Nat) : Ss := .cons (.ite (.isi .tuple (.v 1)) (.cons (.ret (.and (.cons (.isi .tuple (.v 0)) (.cons (.op .eq (.bi false .len (.cons (.v 0) .nil)) (.bi false .len (.cons (.v 1) .nil))) (.cons (.op .notin (.c (.bl false)) (.lc false [2, 3] (.call false i_eq (.cons (.v 2) (.cons (.v 3) .nil)) []) (.tp (.cons (.nm 2) (.cons (.nm 3) .nil))) (.zip (.v 0) (.v 1)) .nil)) .nil))))) .nil) .nil) (.cons (.ite (.or (.cons (.isi .tuple (.v 0)) (.cons (.isN false (.v 1)) (.cons (.isN false (.v 0)) .nil)))) (.cons (.ret (.and (.cons (.isN false (.v 0)) (.cons (.isN false (.v 1)) .nil)))) .nil) .nil) (.cons (.ite (.or (.cons (.isi .str (.v 1)) (.cons (.isi .str (.v 0)) .nil))) (.cons (.ret (.and (.cons (.isi .str (.v 1)) (.cons (.isi .str (.v 0)) (.cons (.op .eq (.v 0) (.v 1)) .nil))))) .nil) .nil) (.cons (.ret (.and (.cons (.isi .int (.v 0)) (.cons (.op .eq (.isi .bool (.v 0)) (.isi .bool (.v 1))) (.cons (.op .eq (.v 0) (.v 1)) .nil))))) .nil)))
/-- texts, numbers, truths, None in tuples, k deep -/
def gd : Nat → D → Bool
  | _, .non => true
  | _, .bl _ => true
  | _, .int _ => true
  | _, .str _ => true
  | k + 1, .tup ds => decide (ds.length ≤ 1000) && ds.all (gd k)
  | _, _ => false
theorem norefs_all {ds : List D} (h : ∀ d ∈ ds, d.noref = true) : D.norefs ds = true := by
  induction ds with
  | nil => rfl
  | cons d ds ih =>
    simp only [D.norefs, Bool.and_eq_true]
    exact ⟨h d List.mem_cons_self, ih fun x hx => h x (List.mem_cons_of_mem _ hx)⟩
theorem gd_noref : ∀ (k : Nat) (d : D), gd k d = true → d.noref = true
  | 0, .non, _ => rfl
  | 0, .bl _, _ => rfl
  | 0, .int _, _ => rfl
  | 0, .str _, _ => rfl
  | 0, .tup _, h => by simp [gd] at h
  | 0, .lst _, h => by simp [gd] at h
  | 0, .lok _, h => by simp [gd] at h
  | 0, .dct _ _, h => by simp [gd] at h
  | 0, .ref _, h => by simp [gd] at h
  | k + 1, .non, _ => rfl
  | k + 1, .bl _, _ => rfl
  | k + 1, .int _, _ => rfl
  | k + 1, .str _, _ => rfl
  | k + 1, .tup ds, h => by
    simp only [gd, Bool.and_eq_true, List.all_eq_true] at h
    simp only [D.noref]
    exact norefs_all fun d hd => gd_noref k d (h.2 d hd)
  | k + 1, .lst _, h => by simp [gd] at h
  | k + 1, .lok _, h => by simp [gd] at h
  | k + 1, .dct _ _, h => by simp [gd] at h
  | k + 1, .ref _, h => by simp [gd] at h
section
variable {T : Tbl} {s s' : PD.Env} {M M' M1 M2 M3 : Mem} {o : PD.O} {d x y : D}
theorem r_lc {own : List Nat} {elt : E} {t : Tg} {it : Iq} {ifs : Es} {xs ys : List D} {g : Gd} (h : PD.evIt T it s M = .ok (xs, g) M1) (hl : xs.length ≤ sizeLine) (k : lcLoop (lcStep T own elt t ifs s) g xs M1 = .ok ys M2) : PD.ev T (.lc false own elt t it ifs) s M = .ok (.lst ys) M2 := by
  rw [ev_lc, h]
  show (if sizeLine < xs.length then R.no else match lcLoop (lcStep T own elt t ifs s) g xs M1 with
    | .ok ys M2 => alloc false (.lst ys) M2
    | _ => .no) = _
  rw [if_neg (by omega), k]; rfl
theorem r_zip {a b : E} {xs ys : List D} (h1 : PD.ev T a s M = .ok (.tup xs) M1) (h2 : PD.ev T b s M1 = .ok (.tup ys) M2) : PD.evIt T (.zip a b) s M = .ok (zipD xs ys, none) M2 := by
  rw [PD.evIt, h1]
  show (PD.ev T b s M1).bind _ = _
  rw [h2]; rfl
theorem r_val {e : E} {xs : List D} (h : PD.ev T e s M = .ok x M1) (k : itemsOf (x.val M1) = some xs) : PD.evIt T (.val e) s M = .ok (xs, gdOf M1 x) M1 := by
  rw [PD.evIt, h]
  show R.of M1 ((itemsOf (x.val M1)).map fun xs => (xs, gdOf M1 x)) = _
  rw [k]; rfl
theorem lcS {own : List Nat} {elt : E} {t : Tg} {ifs : Es} (h1 : setT t x (wipe s own) = some s') (h2 : PD.evAnd T ifs s' M = .ok (.bl true) M1) (h3 : PD.ev T elt s' M1 = .ok y M2) : lcStep T own elt t ifs s x M = .ok (some y) M2 := by
  unfold lcStep
  rw [h1]
  show (PD.evAnd T ifs s' M).bind _ = _
  rw [h2]
  show (PD.ev T elt s' M1).bind _ = _
  rw [h3]; rfl
theorem lcN {own : List Nat} {elt : E} {t : Tg} {ifs : Es} (h1 : setT t x (wipe s own) = some s') (h2 : PD.evAnd T ifs s' M = .ok (.bl false) M1) : lcStep T own elt t ifs s x M = .ok none M1 := by
  unfold lcStep
  rw [h1]
  show (PD.evAnd T ifs s' M).bind _ = _
  rw [h2]; rfl
theorem r_isi {t : Ty} {a : E} {b : Bool} (h : PD.ev T a s M = .ok x M1) (k : isTy t (x.val M1) = some b) : PD.ev T (.isi t a) s M = .ok (.bl b) M1 := by
  rw [PD.ev, h]
  simp only [R.bind, k, Option.map, R.of]
theorem r_not {a : E} {b : Bool} (h : PD.ev T a s M = .ok (.bl b) M1) : PD.ev T (.not a) s M = .ok (.bl (!b)) M1 := by
  rw [PD.ev, h]; rfl
theorem r_or0 : PD.evOr T .nil s M = .ok (.bl false) M := by rw [PD.evOr]
theorem ix0 (a : D) (r : List D) : op2 .ix (.tup (a :: r)) (.int 0) = some a := by
  simp only [op2, opIx, atD, L2.atI, L2.ixN]
  rw [if_pos (by decide), if_pos (by simp)]
  rfl
theorem r_and0 : PD.evAnd T .nil s M = .ok (.bl true) M := by rw [PD.evAnd]
end
theorem notin_trues : ∀ ys : List D, (∀ y ∈ ys, y = .bl true) → op2 .notin (.bl false) (.lst ys) = some (.bl true) := by
  intro ys h
  have h1 : D.plains ys = true := by
    induction ys with
    | nil => rfl
    | cons y ys ih =>
      rw [h y List.mem_cons_self]
      simp only [D.plains, D.plain, Bool.true_and]
      exact ih fun z hz => h z (List.mem_cons_of_mem _ hz)
  have h2 : (ys.any fun z => D.eqv z (.bl false)) = false := by
    rw [List.any_eq_false]
    intro z hz
    rw [h z hz]
    decide
  simp [op2, opIn, inList, h1, h2, D.plain, D.depth]
theorem zip_self {xs : List D} : ∀ p ∈ zipD xs xs, ∃ x ∈ xs, p = .tup [x, x] := by
  intro p hp
  obtain ⟨i, hi, rfl⟩ := List.getElem_of_mem hp
  obtain ⟨x, y, h1, h2, e⟩ := zipD_get xs xs i _ (List.getElem?_eq_getElem hi)
  rw [h1] at h2
  cases h2
  exact ⟨x, List.mem_of_getElem? h1, e⟩
def flat : D → Bool
  | .non => true
  | .bl _ => true
  | .int _ => true
  | .str _ => true
  | _ => false
theorem equal_flat {fns : List Fn} {i : Nat} (hf : fns[i]? = some ⟨2, 4, eqB i⟩) (n : Nat) (d : D) (h : flat d = true) : tbl fns (n + 1) i false [d, d] [] = .ok (.bl true) [] := by
  rw [tbl_u hf rfl rfl]
  have run : PD.execs (tbl fns n) (eqB i) [some d, some d, none, none] [] = .rt (.bl true) [] := by
    cases d <;> simp only [flat, Bool.false_eq_true] at h
    · kernel_rfl
    · rename_i b
      cases b <;> kernel_rfl
    · refine r_cons (r_ifF (M1 := []) (by kernel_rfl) r_nil) (r_cons (r_ifF (M1 := []) (by kernel_rfl) r_nil) (r_cons (r_ifF (M1 := []) (by kernel_rfl) r_nil) (r_end (r_ret (r_and (r_andT (M1 := []) (by kernel_rfl) (r_andT (M1 := []) (by kernel_rfl) (r_and1 (r_op (r_v rfl) (r_v rfl) ?_)))))))))
      show op2 .eq (.int _) (.int _) = _
      rw [eq_int]; simp
    · refine r_cons (r_ifF (M1 := []) (by kernel_rfl) r_nil) (r_cons (r_ifF (M1 := []) (by kernel_rfl) r_nil) (r_end (r_ifT (M1 := []) (by kernel_rfl) (r_end (r_ret (r_and (r_andT (M1 := []) (by kernel_rfl) (r_andT (M1 := []) (by kernel_rfl) (r_and1 (r_op (r_v rfl) (r_v rfl) ?_))))))))))
      show op2 .eq (.str _) (.str _) = _
      rw [eq_str]; simp
  show post false 0 (PD.execs (tbl fns n) (eqB i) [some d, some d, none, none] []).out = _
  rw [run]; rfl
theorem equal_ok {fns : List Fn} {i : Nat} (hf : fns[i]? = some ⟨2, 4, eqB i⟩) : ∀ (k n : Nat) (d : D), gd k d = true → tbl fns (n + k + 1) i false [d, d] [] = .ok (.bl true) [] := by
  intro k
  induction k with
  | zero =>
    intro n d h
    refine equal_flat hf _ d ?_
    cases d <;> first | rfl | (simp [gd] at h)
  | succ k ih =>
    intro n d h
    cases d with
    | tup ds =>
      simp only [gd, Bool.and_eq_true, decide_eq_true_eq, List.all_eq_true] at h
      rw [show n + (k + 1) + 1 = (n + k + 1) + 1 by omega, tbl_u hf rfl rfl]
      have run : PD.execs (tbl fns (n + k + 1)) (eqB i) [some (.tup ds), some (.tup ds), none, none] [] = .rt (.bl true) [] := by
        have hst : ∀ p ∈ zipD ds ds, lcStep (tbl fns (n + k + 1)) [2, 3] (.call false i (.cons (.v 2) (.cons (.v 3) .nil)) []) (.tp (.cons (.nm 2) (.cons (.nm 3) .nil))) .nil [some (.tup ds), some (.tup ds), none, none] p [] = .ok (some (.bl true)) [] := by
          intro p hp
          obtain ⟨x, hx, rfl⟩ := zip_self p hp
          have hn := gd_noref k x (h.2 x hx)
          exact lcS (s' := [some (.tup ds), some (.tup ds), some x, some x]) (M1 := []) rfl r_and0 (r_call (r_evs2 (r_v rfl) (r_v rfl)) (callT_pure (ih n x (h.2 x hx)) (by simp [D.norefs, hn]) rfl))
        have hz : (zipD ds ds).length ≤ sizeLine := by rw [zipD_len, sizeLine_eq]; omega
        refine r_end (r_ifT (M1 := []) (by kernel_rfl) (r_end (r_ret (r_and (r_andT (M1 := []) (by kernel_rfl) (r_andT (M1 := []) ?_ (r_and1 (r_op (x := .bl false) r_c (r_lc (r_zip (r_v rfl) (r_v rfl)) hz (lcLoop_pure (f := fun _ => some (.bl true)) rfl hst)) ?_))))))))
        · refine r_op (r_bi (r_evs1 (r_v rfl)) rfl) (r_bi (r_evs1 (r_v rfl)) rfl) ?_
          show op2 .eq (.int _) (.int _) = _
          rw [eq_int]; simp
        · refine notin_trues _ fun y hy => ?_
          obtain ⟨_, _, e⟩ := List.mem_filterMap.mp hy
          exact (Option.some.inj e).symm
      show post false 0 (PD.execs (tbl fns (n + k + 1)) (eqB i) [some (.tup ds), some (.tup ds), none, none] []).out = _
      rw [run]; rfl
    | non => exact equal_flat hf _ _ rfl
    | bl b => exact equal_flat hf _ _ rfl
    | int i => exact equal_flat hf _ _ rfl
    | str x => exact equal_flat hf _ _ rfl
    | lst _ => simp [gd] at h
    | lok _ => simp [gd] at h
    | dct _ _ => simp [gd] at h
    | ref _ => simp [gd] at h
end PD
namespace Lk87
open PySem PD L2
/-! ### the defs as own terms (printed by gen.py) -/
def top (i : Nat) : Stmt := PySem.Challenge.pw_anyiron_k87_whole_texts_that_are_told_an.main.body.getD i (.Pass ⟨0, 0, 0, 0⟩)
abbrev i_is_int : Nat := 0
abbrev i_is_number : Nat := 1
abbrev i_is_tuple : Nat := 2
abbrev i_is_numbers : Nat := 3
abbrev i_is_lot : Nat := 4
abbrev i_word_kind : Nat := 5
abbrev i_is_name : Nat := 6
abbrev i_is_text : Nat := 7
abbrev i_are_small : Nat := 8
abbrev i_is_said : Nat := 9
abbrev i_is_run_said : Nat := 10
abbrev i_with_unit : Nat := 11
abbrev i_edited : Nat := 12
abbrev i_state_after : Nat := 13
abbrev i_state_of : Nat := 14
abbrev i_stands_of : Nat := 15
abbrev i_is_edit : Nat := 16
abbrev i_can_be : Nat := 17
abbrev i_can_event : Nat := 18
abbrev i__law_hat : Nat := 19
abbrev i__law_pull : Nat := 20
abbrev i__law_any : Nat := 21
abbrev i__law_equal : Nat := 22
abbrev i__law_unlike : Nat := 23
abbrev i__law_keys : Nat := 24
abbrev i__law_kind : Nat := 25
abbrev i__law_is_small : Nat := 26
abbrev i__law_is_run : Nat := 27
abbrev i__law_is_text : Nat := 28
abbrev i__law_is_name : Nat := 29
abbrev i__law_later : Nat := 30
abbrev i__law_any_event : Nat := 31
abbrev i_law : Nat := 32
def k_SIGNS : D := .str " !\"#$&'()*+,-./0123456789:;<=>?@ABCDEFGHIJKLMNOPQRSTUVWXYZ[\\]^_`abcdefghijklmnopqrstuvwxyz{|}~\n"
def k_MOST_SIGNS : D := .int 4000
def k_MOST_WORD : D := .int 16
def k_LETTERS : D := .str "abcdefghijklmnopqrstuvwxyz"
def k_FIGURES : D := .str "0123456789"
def k_KEYS : D := .tup [.str "use", .str "from", .str "as", .str "manual", .str "with", .str "kept", .str "to", .str "of", .str "free", .str "open", .str "always", .str "deed", .str "hangs", .str "when", .str "end", .str "branch", .str "if", .str "reach", .str "unit", .str "kind", .str "needs", .str "variable", .str "job", .str "begin", .str "meet", .str "else", .str "while", .str "do", .str "image", .str "at", .str "run", .str "go", .str "halt", .str "yes", .str "not", .str "and", .str "or", .str "least", .str "most"]
def k_EDITS : D := .tup [.str "manual", .str "unit", .str "drop", .str "main", .str "ran"]
def k_IRON : D := .str "iron"
def k_NEW : D := .tup [.tup [.non, .tup [], .non, .tup []], .tup [], .tup []]
def k_MOST_NUMBER : D := .int 99
def b_is_int : Ss := .cons (.ret (.and (.cons (.isi .int (.v 0)) (.cons (.not (.isi .bool (.v 0))) .nil)))) .nil
def b_is_number : Ss := .cons (.ret (.and (.cons (.call false i_is_int (.cons (.v 0) .nil) []) (.cons (.op .ge (.v 0) (.v 1)) (.cons (.or (.cons (.isN false (.v 2)) (.cons (.op .le (.v 0) (.v 2)) .nil))) .nil))))) .nil
def b_is_tuple : Ss := .cons (.ret (.and (.cons (.isi .tuple (.v 0)) (.cons (.or (.cons (.isN false (.v 1)) (.cons (.op .eq (.bi false .len (.cons (.v 0) .nil)) (.v 1)) .nil))) .nil)))) .nil
def b_is_numbers : Ss := .cons (.ret (.and (.cons (.call false i_is_tuple (.cons (.v 0) (.cons (.v 1) .nil)) []) (.cons (.op .eq (.bi false .len (.cons (.lc false [4] (.v 4) (.nm 4) (.val (.v 0)) (.cons (.not (.call false i_is_number (.cons (.v 4) (.cons (.v 2) (.cons (.v 3) .nil))) [])) .nil)) .nil)) (.c (.int 0))) .nil)))) .nil
def b_is_lot : Ss := .cons (.ite (.or (.cons (.not (.call false i_is_tuple (.cons (.v 0) .nil) [.non])) (.cons (.not (.call false i_is_numbers (.cons (.v 0) (.cons (.bi false .len (.cons (.v 0) .nil)) (.cons (.c (.int 0)) (.cons (.v 1) .nil)))) [])) .nil))) (.cons (.ret (.c (.bl false))) .nil) .nil) (.cons (.ret (.bi false .all (.cons (.lc false [2, 3] (.op .lt (.v 2) (.v 3)) (.tp (.cons (.nm 2) (.cons (.nm 3) .nil))) (.zip (.v 0) (.sl false (.v 0) (.c (.int 1)) .nul)) .nil) .nil))) .nil)
def b_word_kind : Ss := .cons (.ite (.op .gt (.bi false .len (.cons (.v 0) .nil)) (.g k_MOST_WORD)) (.cons (.ret (.c (.str "bad"))) .nil) .nil) (.cons (.ret (.ite (.op .isin (.v 0) (.g k_KEYS)) (.v 0) (.c (.str "name")))) .nil)
def b_is_name : Ss := .cons (.ite (.or (.cons (.not (.isi .str (.v 0))) (.cons (.op .eq (.bi false .len (.cons (.v 0) .nil)) (.c (.int 0))) (.cons (.op .notin (.op .ix (.v 0) (.c (.int 0))) (.g k_LETTERS)) (.cons (.op .eq (.v 0) (.g k_IRON)) .nil))))) (.cons (.ret (.c (.bl false))) .nil) .nil) (.cons (.ret (.and (.cons (.bi false .all (.cons (.lc false [1] (.op .isin (.v 1) (.op .add (.g k_LETTERS) (.g k_FIGURES))) (.nm 1) (.val (.v 0)) .nil) .nil)) (.cons (.op .eq (.call false i_word_kind (.cons (.v 0) .nil) []) (.c (.str "name"))) .nil)))) .nil)
def b_is_text : Ss := .cons (.ret (.and (.cons (.isi .str (.v 0)) (.cons (.op .le (.bi false .len (.cons (.v 0) .nil)) (.g k_MOST_SIGNS)) (.cons (.bi false .all (.cons (.lc false [1] (.op .isin (.v 1) (.g k_SIGNS)) (.nm 1) (.val (.v 0)) .nil) .nil)) .nil))))) .nil
def b_are_small : Ss := .cons (.ret (.and (.cons (.call false i_is_tuple (.cons (.v 0) .nil) [.non]) (.cons (.bi false .all (.cons (.lc false [1] (.call false i_is_number (.cons (.v 1) (.cons (.c (.int 0)) (.cons (.g k_MOST_NUMBER) .nil))) []) (.nm 1) (.val (.v 0)) .nil) .nil)) .nil)))) .nil
def b_is_said : Ss := .cons (.ite (.or (.cons (.not (.call false i_is_tuple (.cons (.v 0) .nil) [.non])) (.cons (.op .lt (.bi false .len (.cons (.v 0) .nil)) (.c (.int 2))) (.cons (.not (.isi .str (.op .ix (.v 0) (.c (.int 0))))) .nil)))) (.cons (.ret (.c (.bl false))) .nil) .nil) (.cons (.ite (.op .eq (.op .ix (.v 0) (.c (.int 0))) (.c (.str "meet"))) (.cons (.ite (.or (.cons (.op .ne (.bi false .len (.cons (.v 0) .nil)) (.c (.int 5))) (.cons (.not (.call false i_is_lot (.cons (.op .ix (.v 0) (.c (.int 1))) (.cons (.g k_MOST_NUMBER) .nil)) [])) (.cons (.not (.bi false .all (.cons (.lc false [2] (.call false i_are_small (.cons (.v 2) .nil) []) (.nm 2) (.val (.sl false (.v 0) (.c (.int 2)) .nul)) .nil) .nil))) .nil)))) (.cons (.ret (.c (.bl false))) .nil) .nil) (.cons (.ret (.op .eq (.bi false .len (.cons (.op .ix (.v 0) (.c (.int 3))) .nil)) (.bi false .len (.cons (.op .ix (.v 0) (.c (.int 1))) .nil)))) .nil)) .nil) (.cons (.ite (.not (.call false i_is_number (.cons (.op .ix (.v 0) (.c (.int 1))) (.cons (.c (.int 0)) (.cons (.g k_MOST_NUMBER) .nil))) [])) (.cons (.ret (.c (.bl false))) .nil) .nil) (.cons (.ite (.op .eq (.op .ix (.v 0) (.c (.int 0))) (.c (.str "if"))) (.cons (.ret (.and (.cons (.op .eq (.bi false .len (.cons (.v 0) .nil)) (.c (.int 3))) (.cons (.isi .bool (.op .ix (.v 0) (.c (.int 2)))) .nil)))) .nil) .nil) (.cons (.ret (.and (.cons (.op .eq (.bi false .len (.cons (.v 0) .nil)) (.c (.int 2))) (.cons (.or (.cons (.op .eq (.op .ix (.v 0) (.c (.int 0))) (.c (.str "do"))) (.cons (.and (.cons (.op .eq (.op .ix (.v 0) (.c (.int 0))) (.c (.str "hung"))) (.cons (.v 1) .nil))) .nil))) .nil)))) .nil))))
def b_is_run_said : Ss := .cons (.ret (.and (.cons (.call false i_is_tuple (.cons (.v 0) .nil) [.non]) (.cons (.bi false .all (.cons (.lc false [1, 2] (.call false i_is_said (.cons (.v 2) (.cons (.op .eq (.op .add (.v 1) (.c (.int 1))) (.bi false .len (.cons (.v 0) .nil))) .nil)) []) (.tp (.cons (.nm 1) (.cons (.nm 2) .nil))) (.enum (.v 0)) .nil) .nil)) .nil)))) .nil
def b_with_unit : Ss := .cons (.asg (.nm 3) (.lc false [4] (.ite (.op .eq (.op .ix (.v 4) (.c (.int 0))) (.v 1)) (.tup (.cons (.v 1) (.cons (.v 2) .nil))) (.v 4)) (.nm 4) (.val (.v 0)) .nil)) (.cons (.ret (.ite (.op .isin (.v 1) (.lc false [4] (.op .ix (.v 4) (.c (.int 0))) (.nm 4) (.val (.v 0)) .nil)) (.bi false .tup (.cons (.v 3) .nil)) (.op .add (.v 0) (.tup (.cons (.tup (.cons (.v 1) (.cons (.v 2) .nil))) .nil))))) .nil)
def b_edited : Ss := .cons (.asg (.tp (.cons (.nm 2) (.cons (.nm 3) (.cons (.nm 4) (.cons (.nm 5) .nil))))) (.v 0)) (.cons (.ite (.op .eq (.op .ix (.v 1) (.c (.int 0))) (.c (.str "manual"))) (.cons (.ret (.tup (.cons (.op .ix (.v 1) (.c (.int 1))) (.cons (.v 3) (.cons (.v 4) (.cons (.v 5) .nil)))))) .nil) .nil) (.cons (.ite (.op .eq (.op .ix (.v 1) (.c (.int 0))) (.c (.str "unit"))) (.cons (.ret (.tup (.cons (.v 2) (.cons (.call false i_with_unit (.cons (.v 3) (.cons (.op .ix (.v 1) (.c (.int 1))) (.cons (.op .ix (.v 1) (.c (.int 2))) .nil))) []) (.cons (.v 4) (.cons (.v 5) .nil)))))) .nil) .nil) (.cons (.ite (.op .eq (.op .ix (.v 1) (.c (.int 0))) (.c (.str "drop"))) (.cons (.ret (.tup (.cons (.v 2) (.cons (.bi false .tup (.cons (.lc false [6] (.v 6) (.nm 6) (.val (.v 3)) (.cons (.op .ne (.op .ix (.v 6) (.c (.int 0))) (.op .ix (.v 1) (.c (.int 1)))) .nil)) .nil)) (.cons (.v 4) (.cons (.v 5) .nil)))))) .nil) .nil) (.cons (.ret (.ite (.op .eq (.op .ix (.v 1) (.c (.int 0))) (.c (.str "main"))) (.tup (.cons (.v 2) (.cons (.v 3) (.cons (.op .ix (.v 1) (.c (.int 1))) (.cons (.v 5) .nil))))) (.tup (.cons (.v 2) (.cons (.v 3) (.cons (.v 4) (.cons (.op .add (.v 5) (.tup (.cons (.op .ix (.v 1) (.c (.int 1))) .nil))) .nil))))))) .nil))))
def b_state_after : Ss := .cons (.asg (.tp (.cons (.nm 2) (.cons (.nm 3) (.cons (.nm 4) .nil)))) (.v 0)) (.cons (.ite (.op .isin (.op .ix (.v 1) (.c (.int 0))) (.g k_EDITS)) (.cons (.ret (.tup (.cons (.call false i_edited (.cons (.v 2) (.cons (.v 1) .nil)) []) (.cons (.op .add (.v 3) (.tup (.cons (.v 2) .nil))) (.cons (.tup .nil) .nil))))) .nil) .nil) (.cons (.ite (.op .eq (.op .ix (.v 1) (.c (.int 0))) (.c (.str "undo"))) (.cons (.ret (.tup (.cons (.op .ix (.v 3) (.neg (.c (.int 1)))) (.cons (.sl false (.v 3) .nul (.neg (.c (.int 1)))) (.cons (.op .add (.v 4) (.tup (.cons (.v 2) .nil))) .nil))))) .nil) .nil) (.cons (.ite (.op .eq (.op .ix (.v 1) (.c (.int 0))) (.c (.str "redo"))) (.cons (.ret (.tup (.cons (.op .ix (.v 4) (.neg (.c (.int 1)))) (.cons (.op .add (.v 3) (.tup (.cons (.v 2) .nil))) (.cons (.sl false (.v 4) .nul (.neg (.c (.int 1)))) .nil))))) .nil) .nil) (.cons (.ret (.tup (.cons (.v 2) (.cons (.tup .nil) (.cons (.tup .nil) .nil))))) .nil))))
def b_state_of : Ss := .cons (.asg (.nm 1) (.g k_NEW)) (.cons (.for (.nm 2) (.val (.v 0)) (.cons (.asg (.nm 1) (.call false i_state_after (.cons (.v 1) (.cons (.v 2) .nil)) [])) .nil)) (.cons (.ret (.v 1)) .nil))
def b_stands_of : Ss := .cons (.ret (.op .ix (.call false i_state_of (.cons (.v 0) .nil) []) (.c (.int 0)))) .nil
def b_is_edit : Ss := .cons (.ite (.op .eq (.op .ix (.v 0) (.c (.int 0))) (.c (.str "unit"))) (.cons (.ret (.and (.cons (.op .eq (.bi false .len (.cons (.v 0) .nil)) (.c (.int 3))) (.cons (.call false i_is_name (.cons (.op .ix (.v 0) (.c (.int 1))) .nil) []) (.cons (.call false i_is_text (.cons (.op .ix (.v 0) (.c (.int 2))) .nil) []) .nil))))) .nil) .nil) (.cons (.ite (.op .ne (.bi false .len (.cons (.v 0) .nil)) (.c (.int 2))) (.cons (.ret (.c (.bl false))) .nil) .nil) (.cons (.ite (.op .eq (.op .ix (.v 0) (.c (.int 0))) (.c (.str "ran"))) (.cons (.ret (.call false i_is_run_said (.cons (.op .ix (.v 0) (.c (.int 1))) .nil) [])) .nil) .nil) (.cons (.ret (.ite (.op .eq (.op .ix (.v 0) (.c (.int 0))) (.c (.str "manual"))) (.call false i_is_text (.cons (.op .ix (.v 0) (.c (.int 1))) .nil) []) (.call false i_is_name (.cons (.op .ix (.v 0) (.c (.int 1))) .nil) []))) .nil)))
def b_can_be : Ss := .cons (.ite (.or (.cons (.not (.call false i_is_tuple (.cons (.v 1) .nil) [.non])) (.cons (.op .eq (.bi false .len (.cons (.v 1) .nil)) (.c (.int 0))) (.cons (.not (.isi .str (.op .ix (.v 1) (.c (.int 0))))) .nil)))) (.cons (.ret (.c (.bl false))) .nil) .nil) (.cons (.ite (.op .isin (.op .ix (.v 1) (.c (.int 0))) (.g k_EDITS)) (.cons (.ret (.call false i_is_edit (.cons (.v 1) .nil) [])) .nil) .nil) (.cons (.ite (.op .gt (.bi false .len (.cons (.v 1) .nil)) (.c (.int 1))) (.cons (.ret (.c (.bl false))) .nil) .nil) (.cons (.ite (.op .eq (.op .ix (.v 1) (.c (.int 0))) (.c (.str "undo"))) (.cons (.ret (.op .gt (.bi false .len (.cons (.op .ix (.v 0) (.c (.int 1))) .nil)) (.c (.int 0)))) .nil) .nil) (.cons (.ret (.ite (.op .eq (.op .ix (.v 1) (.c (.int 0))) (.c (.str "redo"))) (.op .gt (.bi false .len (.cons (.op .ix (.v 0) (.c (.int 2))) .nil)) (.c (.int 0))) (.op .eq (.op .ix (.v 1) (.c (.int 0))) (.c (.str "close"))))) .nil))))
def b_can_event : Ss := .cons (.ret (.call false i_can_be (.cons (.call false i_state_of (.cons (.v 0) .nil) []) (.cons (.v 1) .nil)) [])) .nil
def b__law_hat : Ss := .cons (.asg (.nm 2) (.op .mul (.c (.int 7919)) (.op .add (.v 1) (.c (.int 3))))) (.cons (.for (.tp (.cons (.nm 4) (.cons (.nm 5) .nil))) (.enum (.v 0)) (.cons (.asg (.nm 2) (.op .mod (.op .add (.op .add (.op .mul (.v 2) (.c (.int 69069))) (.op .mul (.op .mod (.bi false .abs (.cons (.bi false .int (.cons (.v 5) .nil)) .nil)) (.c (.int 2147483647))) (.op .add (.v 4) (.c (.int 11))))) (.c (.int 1))) (.c (.int 4294967279)))) .nil)) (.cons (.asg (.nm 3) (.ite (.op .lt (.v 1) (.bi false .len (.cons (.v 0) .nil))) (.bi false .abs (.cons (.bi false .int (.cons (.op .ix (.v 0) (.v 1)) .nil)) .nil)) (.c (.int 0)))) (.cons (.ret (.ls true (.cons (.ite (.op .gt (.v 3) (.op .pow (.c (.int 10)) (.c (.int 18)))) (.v 3) (.c (.int 0))) (.cons (.v 2) .nil)))) .nil)))
def b__law_pull : Ss := .cons (.ite (.op .gt (.op .ix (.v 0) (.c (.int 0))) (.c (.int 0))) (.cons (.asg (.nm 2) (.op .mod (.op .ix (.v 0) (.c (.int 0))) (.v 1))) (.cons (.sti (.v 0) (.c (.int 0)) (.op .fdiv (.op .ix (.v 0) (.c (.int 0))) (.v 1))) (.cons (.ret (.v 2)) .nil))) .nil) (.cons (.sti (.v 0) (.c (.int 1)) (.op .mod (.op .add (.op .mul (.op .ix (.v 0) (.c (.int 1))) (.c (.int 1103515245))) (.c (.int 12345))) (.c (.int 4294967296)))) (.cons (.ret (.op .mod (.op .fdiv (.op .ix (.v 0) (.c (.int 1))) (.c (.int 65536))) (.v 1))) .nil))
def b__law_any : Ss := .cons (.ret (.op .ix (.v 1) (.call false i__law_pull (.cons (.v 0) (.cons (.bi false .len (.cons (.v 1) .nil)) .nil)) []))) .nil
def b__law_equal : Ss := .cons (.ite (.isi .tuple (.v 1)) (.cons (.ret (.and (.cons (.isi .tuple (.v 0)) (.cons (.op .eq (.bi false .len (.cons (.v 0) .nil)) (.bi false .len (.cons (.v 1) .nil))) (.cons (.op .notin (.c (.bl false)) (.lc false [2, 3] (.call false i__law_equal (.cons (.v 2) (.cons (.v 3) .nil)) []) (.tp (.cons (.nm 2) (.cons (.nm 3) .nil))) (.zip (.v 0) (.v 1)) .nil)) .nil))))) .nil) .nil) (.cons (.ite (.or (.cons (.isi .tuple (.v 0)) (.cons (.isN false (.v 1)) (.cons (.isN false (.v 0)) .nil)))) (.cons (.ret (.and (.cons (.isN false (.v 0)) (.cons (.isN false (.v 1)) .nil)))) .nil) .nil) (.cons (.ite (.or (.cons (.isi .str (.v 1)) (.cons (.isi .str (.v 0)) .nil))) (.cons (.ret (.and (.cons (.isi .str (.v 1)) (.cons (.isi .str (.v 0)) (.cons (.op .eq (.v 0) (.v 1)) .nil))))) .nil) .nil) (.cons (.ret (.and (.cons (.isi .int (.v 0)) (.cons (.op .eq (.isi .bool (.v 0)) (.isi .bool (.v 1))) (.cons (.op .eq (.v 0) (.v 1)) .nil))))) .nil)))
def b__law_unlike : Ss := .cons (.asg (.nm 1) (.dd true)) (.cons (.for (.nm 2) (.val (.v 0)) (.cons (.sti (.v 1) (.v 2) (.c (.bl true))) .nil)) (.cons (.ret (.bi false .lst (.cons (.v 1) .nil))) .nil))
def b__law_keys : Ss := .cons (.asg (.nm 0) (.c (.str "use from as manual with kept to of free open always deed hangs when end branch if reach unit kind needs variable job begin meet else while do "))) (.cons (.ret (.me .split (.op .add (.v 0) (.c (.str "image at run go halt yes not and or least most"))) (.cons (.c (.str " ")) .nil))) .nil)
def b__law_kind : Ss := .cons (.ite (.op .isin (.v 0) (.c (.str "()[],=<+-*:"))) (.cons (.ret (.v 0)) .nil) .nil) (.cons (.ite (.op .isin (.op .ix (.v 0) (.c (.int 0))) (.c (.str "0123456789"))) (.cons (.ret (.ite (.and (.cons (.op .eq (.lc false [2] (.v 2) (.nm 2) (.val (.v 0)) (.cons (.op .notin (.v 2) (.c (.str "0123456789"))) .nil)) (.ls false .nil)) (.cons (.op .lt (.bi false .len (.cons (.v 0) .nil)) (.c (.int 4))) (.cons (.or (.cons (.op .eq (.v 0) (.c (.str "0"))) (.cons (.op .ne (.op .ix (.v 0) (.c (.int 0))) (.c (.str "0"))) .nil))) .nil)))) (.c (.str "number")) (.c (.str "bad")))) .nil) .nil) (.cons (.ite (.or (.cons (.op .notin (.op .ix (.v 0) (.c (.int 0))) (.c (.str "abcdefghijklmnopqrstuvwxyz"))) (.cons (.op .gt (.bi false .len (.cons (.v 0) .nil)) (.c (.int 16))) .nil))) (.cons (.ret (.c (.str "bad"))) .nil) .nil) (.cons (.ret (.ite (.op .isin (.v 0) (.v 1)) (.v 0) (.c (.str "name")))) .nil)))
def b__law_is_small : Ss := .cons (.ret (.and (.cons (.isi .int (.v 0)) (.cons (.not (.isi .bool (.v 0))) (.cons (.cmp2 .le .le (.c (.int 0)) (.v 0) (.v 1)) .nil))))) .nil
def b__law_is_run : Ss := .cons (.ite (.not (.isi .tuple (.v 0))) (.cons (.ret (.c (.bl false))) .nil) .nil) (.cons (.for (.tp (.cons (.nm 1) (.cons (.nm 2) .nil))) (.enum (.v 0)) (.cons (.ite (.or (.cons (.not (.isi .tuple (.v 2))) (.cons (.op .lt (.bi false .len (.cons (.v 2) .nil)) (.c (.int 2))) (.cons (.not (.isi .str (.op .ix (.v 2) (.c (.int 0))))) .nil)))) (.cons (.ret (.c (.bl false))) .nil) .nil) (.cons (.ite (.op .eq (.op .ix (.v 2) (.c (.int 0))) (.c (.str "meet"))) (.cons (.ite (.or (.cons (.op .ne (.bi false .len (.cons (.v 2) .nil)) (.c (.int 5))) (.cons (.op .ne (.lc false [3] (.v 3) (.nm 3) (.val (.sl false (.v 2) (.c (.int 1)) .nul)) (.cons (.not (.isi .tuple (.v 3))) .nil)) (.ls false .nil)) .nil))) (.cons (.ret (.c (.bl false))) .nil) .nil) (.cons (.ite (.op .ne (.lc false [3] (.c (.int 1)) (.nm 3) (.val (.sl false (.v 2) (.c (.int 1)) .nul)) (.cons (.op .ne (.lc false [4] (.v 4) (.nm 4) (.val (.v 3)) (.cons (.not (.call false i__law_is_small (.cons (.v 4) (.cons (.c (.int 99)) .nil)) [])) .nil)) (.ls false .nil)) .nil)) (.ls false .nil)) (.cons (.ret (.c (.bl false))) .nil) .nil) (.cons (.ite (.or (.cons (.op .ne (.bi false .lst (.cons (.op .ix (.v 2) (.c (.int 1))) .nil)) (.bi false .sorted (.cons (.op .ix (.v 2) (.c (.int 1))) .nil))) (.cons (.op .ne (.bi false .len (.cons (.call false i__law_unlike (.cons (.op .ix (.v 2) (.c (.int 1))) .nil) []) .nil)) (.bi false .len (.cons (.op .ix (.v 2) (.c (.int 1))) .nil))) (.cons (.op .ne (.bi false .len (.cons (.op .ix (.v 2) (.c (.int 1))) .nil)) (.bi false .len (.cons (.op .ix (.v 2) (.c (.int 3))) .nil))) .nil)))) (.cons (.ret (.c (.bl false))) .nil) .nil) .nil))) (.cons (.ite (.op .eq (.op .ix (.v 2) (.c (.int 0))) (.c (.str "if"))) (.cons (.ite (.or (.cons (.op .ne (.bi false .len (.cons (.v 2) .nil)) (.c (.int 3))) (.cons (.not (.call false i__law_is_small (.cons (.op .ix (.v 2) (.c (.int 1))) (.cons (.c (.int 99)) .nil)) [])) (.cons (.not (.isi .bool (.op .ix (.v 2) (.c (.int 2))))) .nil)))) (.cons (.ret (.c (.bl false))) .nil) .nil) .nil) (.cons (.ite (.or (.cons (.op .ne (.bi false .len (.cons (.v 2) .nil)) (.c (.int 2))) (.cons (.not (.call false i__law_is_small (.cons (.op .ix (.v 2) (.c (.int 1))) (.cons (.c (.int 99)) .nil)) [])) (.cons (.op .notin (.op .ix (.v 2) (.c (.int 0))) (.tup (.cons (.c (.str "do")) (.cons (.c (.str "hung")) .nil)))) (.cons (.and (.cons (.op .eq (.op .ix (.v 2) (.c (.int 0))) (.c (.str "hung"))) (.cons (.op .lt (.op .add (.v 1) (.c (.int 1))) (.bi false .len (.cons (.v 0) .nil))) .nil))) .nil))))) (.cons (.ret (.c (.bl false))) .nil) .nil) .nil)) .nil)) .nil))) (.cons (.ret (.c (.bl true))) .nil))
def b__law_is_text : Ss := .cons (.ret (.and (.cons (.isi .str (.v 0)) (.cons (.op .le (.bi false .len (.cons (.v 0) .nil)) (.c (.int 4000))) (.cons (.op .notin (.c (.str "\t")) (.v 0)) .nil))))) .nil
def b__law_is_name : Ss := .cons (.ite (.or (.cons (.not (.isi .str (.v 0))) (.cons (.op .eq (.v 0) (.c (.str ""))) (.cons (.op .eq (.v 0) (.c (.str "iron"))) (.cons (.op .ne (.lc false [1] (.v 1) (.nm 1) (.val (.v 0)) (.cons (.op .notin (.v 1) (.c (.str "abcdefghijklmnopqrstuvwxyz0123456789"))) .nil)) (.ls false .nil)) .nil))))) (.cons (.ret (.c (.bl false))) .nil) .nil) (.cons (.ret (.op .eq (.call false i__law_kind (.cons (.v 0) (.cons (.call false i__law_keys .nil []) .nil)) []) (.c (.str "name")))) .nil)
def b__law_later : Ss := .cons (.asg (.tp (.cons (.nm 2) (.cons (.nm 3) (.cons (.nm 4) .nil)))) (.v 0)) (.cons (.ite (.or (.cons (.not (.isi .tuple (.v 1))) (.cons (.op .eq (.v 1) (.tup .nil)) (.cons (.not (.isi .str (.op .ix (.v 1) (.c (.int 0))))) .nil)))) (.cons (.ret (.c (.non))) .nil) .nil) (.cons (.asg (.tp (.cons (.nm 5) (.cons (.nm 6) (.cons (.nm 7) (.cons (.nm 8) .nil))))) (.v 2)) (.cons (.asg (.tp (.cons (.nm 9) (.cons (.nm 10) .nil))) (.tup (.cons (.op .ix (.v 1) (.c (.int 0))) (.cons (.sl false (.v 1) (.c (.int 1)) .nul) .nil)))) (.cons (.ite (.and (.cons (.op .eq (.v 9) (.c (.str "manual"))) (.cons (.op .eq (.bi false .len (.cons (.v 10) .nil)) (.c (.int 1))) (.cons (.call false i__law_is_text (.cons (.op .ix (.v 10) (.c (.int 0))) .nil) []) .nil)))) (.cons (.asg (.nm 11) (.tup (.cons (.op .ix (.v 10) (.c (.int 0))) (.cons (.v 6) (.cons (.v 7) (.cons (.v 8) .nil)))))) .nil) (.cons (.ite (.and (.cons (.op .eq (.v 9) (.c (.str "unit"))) (.cons (.op .eq (.bi false .len (.cons (.v 10) .nil)) (.c (.int 2))) (.cons (.call false i__law_is_name (.cons (.op .ix (.v 10) (.c (.int 0))) .nil) []) (.cons (.call false i__law_is_text (.cons (.op .ix (.v 10) (.c (.int 1))) .nil) []) .nil))))) (.cons (.asg (.nm 12) (.lc false [14, 15] (.v 14) (.tp (.cons (.nm 14) (.cons (.nm 15) .nil))) (.val (.v 6)) .nil)) (.cons (.asg (.nm 13) (.ite (.op .isin (.op .ix (.v 10) (.c (.int 0))) (.v 12)) (.tup .nil) (.tup (.cons (.v 10) .nil)))) (.cons (.asg (.nm 11) (.tup (.cons (.v 5) (.cons (.op .add (.bi false .tup (.cons (.lc false [16] (.ite (.op .eq (.op .ix (.v 16) (.c (.int 0))) (.op .ix (.v 10) (.c (.int 0)))) (.v 10) (.v 16)) (.nm 16) (.val (.v 6)) .nil) .nil)) (.v 13)) (.cons (.v 7) (.cons (.v 8) .nil)))))) .nil))) (.cons (.ite (.and (.cons (.op .eq (.v 9) (.c (.str "drop"))) (.cons (.op .eq (.bi false .len (.cons (.v 10) .nil)) (.c (.int 1))) (.cons (.call false i__law_is_name (.cons (.op .ix (.v 10) (.c (.int 0))) .nil) []) .nil)))) (.cons (.asg (.nm 11) (.tup (.cons (.v 5) (.cons (.bi false .tup (.cons (.lc false [16] (.v 16) (.nm 16) (.val (.v 6)) (.cons (.op .ne (.op .ix (.v 16) (.c (.int 0))) (.op .ix (.v 10) (.c (.int 0)))) .nil)) .nil)) (.cons (.v 7) (.cons (.v 8) .nil)))))) .nil) (.cons (.ite (.and (.cons (.op .eq (.v 9) (.c (.str "main"))) (.cons (.op .eq (.bi false .len (.cons (.v 10) .nil)) (.c (.int 1))) (.cons (.call false i__law_is_name (.cons (.op .ix (.v 10) (.c (.int 0))) .nil) []) .nil)))) (.cons (.asg (.nm 11) (.tup (.cons (.v 5) (.cons (.v 6) (.cons (.op .ix (.v 10) (.c (.int 0))) (.cons (.v 8) .nil)))))) .nil) (.cons (.ite (.and (.cons (.op .eq (.v 9) (.c (.str "ran"))) (.cons (.op .eq (.bi false .len (.cons (.v 10) .nil)) (.c (.int 1))) (.cons (.call false i__law_is_run (.cons (.op .ix (.v 10) (.c (.int 0))) .nil) []) .nil)))) (.cons (.asg (.nm 11) (.tup (.cons (.v 5) (.cons (.v 6) (.cons (.v 7) (.cons (.op .add (.v 8) (.v 10)) .nil)))))) .nil) (.cons (.ite (.op .ne (.v 10) (.tup .nil)) (.cons (.ret (.c (.non))) .nil) (.cons (.ite (.op .eq (.v 9) (.c (.str "undo"))) (.cons (.ret (.ite (.op .ne (.v 3) (.ls false .nil)) (.tup (.cons (.op .ix (.v 3) (.op .sub (.bi false .len (.cons (.v 3) .nil)) (.c (.int 1)))) (.cons (.sl false (.v 3) .nul (.op .sub (.bi false .len (.cons (.v 3) .nil)) (.c (.int 1)))) (.cons (.op .add (.v 4) (.ls false (.cons (.v 2) .nil))) .nil)))) (.c (.non)))) .nil) (.cons (.ite (.op .eq (.v 9) (.c (.str "redo"))) (.cons (.ret (.ite (.op .ne (.v 4) (.ls false .nil)) (.tup (.cons (.op .ix (.v 4) (.op .sub (.bi false .len (.cons (.v 4) .nil)) (.c (.int 1)))) (.cons (.op .add (.v 3) (.ls false (.cons (.v 2) .nil))) (.cons (.sl false (.v 4) .nul (.op .sub (.bi false .len (.cons (.v 4) .nil)) (.c (.int 1)))) .nil)))) (.c (.non)))) .nil) (.cons (.ret (.ite (.op .eq (.v 9) (.c (.str "close"))) (.tup (.cons (.v 2) (.cons (.ls false .nil) (.cons (.ls false .nil) .nil)))) (.c (.non)))) .nil)) .nil)) .nil)) .nil)) .nil)) .nil)) .nil)) .nil)) (.cons (.ret (.tup (.cons (.v 11) (.cons (.op .add (.v 3) (.ls false (.cons (.v 2) .nil))) (.cons (.ls false .nil) .nil))))) .nil)))))
def b__law_any_event : Ss := .cons (.asg (.nm 1) (.ls false (.cons (.c (.str "lib")) (.cons (.c (.str "main")) (.cons (.c (.str "far")) (.cons (.c (.str "u2")) (.cons (.c (.str "iron")) (.cons (.c (.str "meet")) (.cons (.op .mul (.c (.str "x")) (.c (.int 16))) (.cons (.op .mul (.c (.str "x")) (.c (.int 17))) (.cons (.c (.str "7a")) (.cons (.c (.str "A")) (.cons (.c (.str "")) .nil))))))))))))) (.cons (.asg (.nm 2) (.ite (.op .gt (.call false i__law_pull (.cons (.v 0) (.cons (.c (.int 4)) .nil)) []) (.c (.int 0))) (.op .ix (.v 1) (.call false i__law_pull (.cons (.v 0) (.cons (.c (.int 4)) .nil)) [])) (.call false i__law_any (.cons (.v 0) (.cons (.v 1) .nil)) []))) (.cons (.asg (.nm 3) (.ls false (.cons (.c (.str "")) (.cons (.c (.str "unit u\nend\n")) (.cons (.c (.str "manual iron\nend")) (.cons (.c (.str "any thing ! at (all)")) (.cons (.c (.str "50")) (.cons (.c (.str "a\tb")) (.cons (.op .mul (.c (.str "x")) (.c (.int 4000))) (.cons (.op .mul (.c (.str "x")) (.c (.int 4001))) .nil)))))))))) (.cons (.asg (.nm 4) (.ite (.op .gt (.call false i__law_pull (.cons (.v 0) (.cons (.c (.int 4)) .nil)) []) (.c (.int 0))) (.op .ix (.v 3) (.call false i__law_pull (.cons (.v 0) (.cons (.c (.int 4)) .nil)) [])) (.call false i__law_any (.cons (.v 0) (.cons (.v 3) .nil)) []))) (.cons (.asg (.nm 5) (.ls false (.cons (.tup .nil) (.cons (.tup (.cons (.tup (.cons (.c (.str "do")) (.cons (.c (.int 0)) .nil))) .nil)) (.cons (.tup (.cons (.tup (.cons (.c (.str "hung")) (.cons (.c (.int 3)) .nil))) .nil)) (.cons (.tup (.cons (.tup (.cons (.c (.str "if")) (.cons (.c (.int 0)) (.cons (.c (.bl true)) .nil)))) (.cons (.tup (.cons (.c (.str "do")) (.cons (.c (.int 2)) .nil))) .nil))) (.cons (.tup (.cons (.tup (.cons (.c (.str "meet")) (.cons (.tup (.cons (.c (.int 0)) (.cons (.c (.int 2)) .nil))) (.cons (.tup (.cons (.c (.int 1)) (.cons (.c (.int 0)) (.cons (.c (.int 1)) .nil)))) (.cons (.tup (.cons (.c (.int 1)) (.cons (.c (.int 1)) .nil))) (.cons (.tup .nil) .nil)))))) .nil)) (.cons (.tup (.cons (.tup (.cons (.c (.str "hung")) (.cons (.c (.int 0)) .nil))) (.cons (.tup (.cons (.c (.str "do")) (.cons (.c (.int 0)) .nil))) .nil))) (.cons (.tup (.cons (.tup (.cons (.c (.str "if")) (.cons (.c (.int 0)) (.cons (.c (.int 1)) .nil)))) .nil)) .nil))))))))) (.cons (.asg (.nm 5) (.op .add (.v 5) (.ls false (.cons (.tup (.cons (.tup (.cons (.c (.str "do")) (.cons (.c (.bl true)) .nil))) .nil)) (.cons (.tup (.cons (.tup (.cons (.c (.str "do")) (.cons (.c (.int 100)) .nil))) .nil)) (.cons (.tup (.cons (.tup (.cons (.c (.str "meet")) (.cons (.tup (.cons (.c (.int 2)) (.cons (.c (.int 0)) .nil))) (.cons (.tup (.cons (.c (.int 1)) .nil)) (.cons (.tup (.cons (.c (.int 1)) (.cons (.c (.int 1)) .nil))) (.cons (.tup .nil) .nil)))))) .nil)) (.cons (.tup (.cons (.tup (.cons (.c (.str "meet")) (.cons (.tup (.cons (.c (.int 0)) .nil)) (.cons (.tup (.cons (.c (.int 1)) .nil)) (.cons (.tup .nil) (.cons (.tup .nil) .nil)))))) .nil)) (.cons (.tup (.cons (.tup (.cons (.c (.str "meet")) (.cons (.tup (.cons (.c (.int 0)) .nil)) (.cons (.tup (.cons (.c (.int 1)) .nil)) (.cons (.tup (.cons (.c (.int 1)) .nil)) .nil))))) .nil)) (.cons (.c (.non)) .nil))))))))) (.cons (.asg (.nm 5) (.op .add (.v 5) (.ls false (.cons (.tup (.cons (.tup (.cons (.c (.str "go")) (.cons (.c (.int 0)) .nil))) .nil)) (.cons (.ls false (.cons (.tup (.cons (.c (.str "do")) (.cons (.c (.int 0)) .nil))) .nil)) (.cons (.tup (.cons (.tup (.cons (.c (.str "do")) .nil)) .nil)) (.cons (.tup (.cons (.tup (.cons (.c (.str "do")) (.cons (.c (.int 99)) .nil))) (.cons (.tup (.cons (.c (.str "do")) (.cons (.c (.int 0)) (.cons (.c (.int 0)) .nil)))) .nil))) .nil))))))) (.cons (.asg (.nm 6) (.ite (.op .gt (.call false i__law_pull (.cons (.v 0) (.cons (.c (.int 3)) .nil)) []) (.c (.int 0))) (.op .ix (.v 5) (.call false i__law_pull (.cons (.v 0) (.cons (.c (.int 5)) .nil)) [])) (.call false i__law_any (.cons (.v 0) (.cons (.v 5) .nil)) []))) (.cons (.asg (.nm 7) (.ls false (.cons (.c (.non)) (.cons (.tup .nil) (.cons (.tup (.cons (.c (.str "manual")) .nil)) (.cons (.tup (.cons (.c (.str "undo")) (.cons (.c (.int 0)) .nil))) (.cons (.ls false (.cons (.c (.str "undo")) .nil)) (.cons (.tup (.cons (.c (.str "unit")) (.cons (.c (.str "lib")) .nil))) (.cons (.tup (.cons (.c (.str "close")) (.cons (.tup .nil) .nil))) (.cons (.tup (.cons (.c (.str "told")) (.cons (.c (.int 0)) .nil))) (.cons (.c (.int 7)) (.cons (.tup (.cons (.c (.str "drop")) (.cons (.c (.int 3)) .nil))) (.cons (.tup (.cons (.c (.str "main")) (.cons (.c (.non)) .nil))) (.cons (.tup (.cons (.c (.str "manual")) (.cons (.c (.int 5)) .nil))) (.cons (.tup (.cons (.c (.str "")) (.cons (.c (.str "")) .nil))) (.cons (.tup (.cons (.tup (.cons (.c (.str "undo")) .nil)) .nil)) .nil)))))))))))))))) (.cons (.asg (.nm 8) (.ls false (.cons (.tup (.cons (.c (.str "manual")) (.cons (.v 4) .nil))) (.cons (.tup (.cons (.c (.str "unit")) (.cons (.v 2) (.cons (.v 4) .nil)))) (.cons (.tup (.cons (.c (.str "unit")) (.cons (.v 2) (.cons (.v 4) .nil)))) (.cons (.tup (.cons (.c (.str "drop")) (.cons (.v 2) .nil))) (.cons (.tup (.cons (.c (.str "main")) (.cons (.v 2) .nil))) (.cons (.tup (.cons (.c (.str "ran")) (.cons (.v 6) .nil))) (.cons (.tup (.cons (.c (.str "undo")) .nil)) (.cons (.tup (.cons (.c (.str "undo")) .nil)) (.cons (.tup (.cons (.c (.str "redo")) .nil)) (.cons (.tup (.cons (.c (.str "close")) .nil)) .nil)))))))))))) (.cons (.ret (.ite (.op .gt (.call false i__law_pull (.cons (.v 0) (.cons (.c (.int 6)) .nil)) []) (.c (.int 0))) (.call false i__law_any (.cons (.v 0) (.cons (.v 8) .nil)) []) (.call false i__law_any (.cons (.v 0) (.cons (.v 7) .nil)) []))) .nil))))))))))
def b_law : Ss := .cons (.for (.nm 1) (.rng (.cons (.bi false .max (.cons (.c (.int 6)) (.cons (.bi false .min (.cons (.bi false .len (.cons (.v 0) .nil)) (.cons (.c (.int 12)) .nil))) .nil))) .nil)) (.cons (.asg (.nm 2) (.call true i__law_hat (.cons (.v 0) (.cons (.v 1) .nil)) [])) (.cons (.asg (.tp (.cons (.nm 4) (.cons (.nm 5) .nil))) (.tup (.cons (.tup (.cons (.tup (.cons (.c (.non)) (.cons (.tup .nil) (.cons (.c (.non)) (.cons (.tup .nil) .nil))))) (.cons (.ls false .nil) (.cons (.ls false .nil) .nil)))) (.cons (.tup .nil) .nil)))) (.cons (.for (.nm 3) (.rng (.cons (.op .add (.c (.int 8)) (.call false i__law_pull (.cons (.v 2) (.cons (.c (.int 23)) .nil)) [])) .nil)) (.cons (.asg (.nm 6) (.call false i__law_any_event (.cons (.v 2) .nil) [])) (.cons (.asg (.nm 7) (.call false i__law_later (.cons (.v 4) (.cons (.v 6) .nil)) [])) (.cons (.ite (.not (.call false i__law_equal (.cons (.call false i_can_event (.cons (.v 5) (.cons (.v 6) .nil)) []) (.cons (.isN true (.v 7)) .nil)) [])) (.cons (.ret (.c (.bl false))) .nil) .nil) (.cons (.ite (.isN true (.v 7)) (.cons (.asg (.tp (.cons (.nm 4) (.cons (.nm 5) .nil))) (.tup (.cons (.v 7) (.cons (.op .add (.v 5) (.tup (.cons (.v 6) .nil))) .nil)))) .nil) .nil) (.cons (.ite (.not (.call false i__law_equal (.cons (.call false i_stands_of (.cons (.v 5) .nil) []) (.cons (.op .ix (.v 4) (.c (.int 0))) .nil)) [])) (.cons (.ret (.c (.bl false))) .nil) .nil) .nil)))))) .nil)))) (.cons (.ret (.c (.bl true))) .nil)
def g_is_int : Gdef := ⟨"is_int", top 1, ["value"], ⟨i_is_int, ["value"], [], [1], []⟩, ⟨1, 1, b_is_int⟩⟩
def g_is_number : Gdef := ⟨"is_number", top 2, ["value", "least", "most"], ⟨i_is_number, ["value", "least", "most"], [.int 0, .non], [3], []⟩, ⟨3, 3, b_is_number⟩⟩
def g_is_tuple : Gdef := ⟨"is_tuple", top 3, ["value", "many"], ⟨i_is_tuple, ["value", "many"], [.non], [1, 2], []⟩, ⟨2, 2, b_is_tuple⟩⟩
def g_is_numbers : Gdef := ⟨"is_numbers", top 4, ["value", "many", "least", "most", "one"], ⟨i_is_numbers, ["value", "many", "least", "most"], [.int 0, .non], [4], []⟩, ⟨4, 5, b_is_numbers⟩⟩
def g_is_lot : Gdef := ⟨"is_lot", top 5, ["value", "most", "one", "two"], ⟨i_is_lot, ["value", "most"], [], [2], []⟩, ⟨2, 4, b_is_lot⟩⟩
def g_word_kind : Gdef := ⟨"word_kind", top 13, ["word"], ⟨i_word_kind, ["word"], [], [1], []⟩, ⟨1, 1, b_word_kind⟩⟩
def g_is_name : Gdef := ⟨"is_name", top 20, ["value", "sign"], ⟨i_is_name, ["value"], [], [1], []⟩, ⟨1, 2, b_is_name⟩⟩
def g_is_text : Gdef := ⟨"is_text", top 21, ["value", "sign"], ⟨i_is_text, ["value"], [], [1], []⟩, ⟨1, 2, b_is_text⟩⟩
def g_are_small : Gdef := ⟨"are_small", top 22, ["value", "one"], ⟨i_are_small, ["value"], [], [1], []⟩, ⟨1, 2, b_are_small⟩⟩
def g_is_said : Gdef := ⟨"is_said", top 23, ["value", "is_last", "part"], ⟨i_is_said, ["value", "is_last"], [], [2], []⟩, ⟨2, 3, b_is_said⟩⟩
def g_is_run_said : Gdef := ⟨"is_run_said", top 24, ["value", "spot", "row"], ⟨i_is_run_said, ["value"], [], [1], []⟩, ⟨1, 3, b_is_run_said⟩⟩
def g_with_unit : Gdef := ⟨"with_unit", top 25, ["units", "name", "text", "rows", "row"], ⟨i_with_unit, ["units", "name", "text"], [], [3], []⟩, ⟨3, 5, b_with_unit⟩⟩
def g_edited : Gdef := ⟨"edited", top 26, ["stands", "event", "manual", "units", "main", "runs", "row"], ⟨i_edited, ["stands", "event"], [], [2], []⟩, ⟨2, 7, b_edited⟩⟩
def g_state_after : Gdef := ⟨"state_after", top 27, ["state", "event", "stands", "past", "future"], ⟨i_state_after, ["state", "event"], [], [2], []⟩, ⟨2, 5, b_state_after⟩⟩
def g_state_of : Gdef := ⟨"state_of", top 28, ["events", "state", "event"], ⟨i_state_of, ["events"], [], [1], []⟩, ⟨1, 3, b_state_of⟩⟩
def g_stands_of : Gdef := ⟨"stands_of", top 29, ["events"], ⟨i_stands_of, ["events"], [], [1], []⟩, ⟨1, 1, b_stands_of⟩⟩
def g_is_edit : Gdef := ⟨"is_edit", top 30, ["value"], ⟨i_is_edit, ["value"], [], [1], []⟩, ⟨1, 1, b_is_edit⟩⟩
def g_can_be : Gdef := ⟨"can_be", top 31, ["state", "value"], ⟨i_can_be, ["state", "value"], [], [2], []⟩, ⟨2, 2, b_can_be⟩⟩
def g_can_event : Gdef := ⟨"can_event", top 32, ["events", "value"], ⟨i_can_event, ["events", "value"], [], [], [0]⟩, ⟨2, 2, b_can_event⟩⟩
def g__law_hat : Gdef := ⟨"_law_hat", top 34, ["script", "k", "mixed_now", "great", "spot", "cell"], ⟨i__law_hat, ["script", "k"], [], [2], []⟩, ⟨2, 6, b__law_hat⟩⟩
def g__law_pull : Gdef := ⟨"_law_pull", top 35, ["hat", "many", "told"], ⟨i__law_pull, ["hat", "many"], [], [2], []⟩, ⟨2, 3, b__law_pull⟩⟩
def g__law_any : Gdef := ⟨"_law_any", top 36, ["hat", "some"], ⟨i__law_any, ["hat", "some"], [], [2], []⟩, ⟨2, 2, b__law_any⟩⟩
def g__law_equal : Gdef := ⟨"_law_equal", top 37, ["told", "due", "one", "two"], ⟨i__law_equal, ["told", "due"], [], [2], []⟩, ⟨2, 4, b__law_equal⟩⟩
def g__law_unlike : Gdef := ⟨"_law_unlike", top 38, ["rows", "met", "row"], ⟨i__law_unlike, ["rows"], [], [1], []⟩, ⟨1, 3, b__law_unlike⟩⟩
def g__law_keys : Gdef := ⟨"_law_keys", top 39, ["keys"], ⟨i__law_keys, [], [], [0], []⟩, ⟨0, 1, b__law_keys⟩⟩
def g__law_kind : Gdef := ⟨"_law_kind", top 40, ["word", "keys", "one"], ⟨i__law_kind, ["word", "keys"], [], [2], []⟩, ⟨2, 3, b__law_kind⟩⟩
def g__law_is_small : Gdef := ⟨"_law_is_small", top 41, ["value", "most"], ⟨i__law_is_small, ["value", "most"], [], [2], []⟩, ⟨2, 2, b__law_is_small⟩⟩
def g__law_is_run : Gdef := ⟨"_law_is_run", top 42, ["value", "spot", "row", "part", "one"], ⟨i__law_is_run, ["value"], [], [1], []⟩, ⟨1, 5, b__law_is_run⟩⟩
def g__law_is_text : Gdef := ⟨"_law_is_text", top 43, ["value"], ⟨i__law_is_text, ["value"], [], [1], []⟩, ⟨1, 1, b__law_is_text⟩⟩
def g__law_is_name : Gdef := ⟨"_law_is_name", top 44, ["value", "sign"], ⟨i__law_is_name, ["value"], [], [1], []⟩, ⟨1, 2, b__law_is_name⟩⟩
def g__law_later : Gdef := ⟨"_law_later", top 45, ["life", "event", "stands", "past", "future", "manual", "units", "main", "runs", "word", "rest", "new", "names", "more", "name", "text", "row"], ⟨i__law_later, ["life", "event"], [], [2], []⟩, ⟨2, 17, b__law_later⟩⟩
def g__law_any_event : Gdef := ⟨"_law_any_event", top 46, ["hat", "names", "name", "texts", "text", "runs", "run", "odd", "some"], ⟨i__law_any_event, ["hat"], [], [1], []⟩, ⟨1, 9, b__law_any_event⟩⟩
def g_law : Gdef := ⟨"law", top 47, ["script", "k", "hat", "turn", "life", "events", "event", "later"], ⟨i_law, ["script"], [], [1], []⟩, ⟨1, 8, b_law⟩⟩
def gs : List Gdef := [g_is_int, g_is_number, g_is_tuple, g_is_numbers, g_is_lot, g_word_kind, g_is_name, g_is_text, g_are_small, g_is_said, g_is_run_said, g_with_unit, g_edited, g_state_after, g_state_of, g_stands_of, g_is_edit, g_can_be, g_can_event, g__law_hat, g__law_pull, g__law_any, g__law_equal, g__law_unlike, g__law_keys, g__law_kind, g__law_is_small, g__law_is_run, g__law_is_text, g__law_is_name, g__law_later, g__law_any_event, g_law]
def T : Top := ⟨gs, [("SIGNS", k_SIGNS), ("MOST_SIGNS", k_MOST_SIGNS), ("MOST_WORD", k_MOST_WORD), ("LETTERS", k_LETTERS), ("FIGURES", k_FIGURES), ("KEYS", k_KEYS), ("EDITS", k_EDITS), ("IRON", k_IRON), ("NEW", k_NEW), ("MOST_NUMBER", k_MOST_NUMBER)]⟩
/-! ### the checks -/
theorem c_is_int : gdB T.cc g_is_int = true := by decide +kernel
theorem c_is_number : gdB T.cc g_is_number = true := by decide +kernel
theorem c_is_tuple : gdB T.cc g_is_tuple = true := by decide +kernel
theorem c_is_numbers : gdB T.cc g_is_numbers = true := by decide +kernel
theorem c_is_lot : gdB T.cc g_is_lot = true := by decide +kernel
theorem c_word_kind : gdB T.cc g_word_kind = true := by decide +kernel
theorem c_is_name : gdB T.cc g_is_name = true := by decide +kernel
theorem c_is_text : gdB T.cc g_is_text = true := by decide +kernel
theorem c_are_small : gdB T.cc g_are_small = true := by decide +kernel
theorem c_is_said : gdB T.cc g_is_said = true := by decide +kernel
theorem c_is_run_said : gdB T.cc g_is_run_said = true := by decide +kernel
theorem c_with_unit : gdB T.cc g_with_unit = true := by decide +kernel
theorem c_edited : gdB T.cc g_edited = true := by decide +kernel
theorem c_state_after : gdB T.cc g_state_after = true := by decide +kernel
theorem c_state_of : gdB T.cc g_state_of = true := by decide +kernel
theorem c_stands_of : gdB T.cc g_stands_of = true := by decide +kernel
theorem c_is_edit : gdB T.cc g_is_edit = true := by decide +kernel
theorem c_can_be : gdB T.cc g_can_be = true := by decide +kernel
theorem c_can_event : gdB T.cc g_can_event = true := by decide +kernel
theorem c__law_hat : gdB T.cc g__law_hat = true := by decide +kernel
theorem c__law_pull : gdB T.cc g__law_pull = true := by decide +kernel
theorem c__law_any : gdB T.cc g__law_any = true := by decide +kernel
theorem c__law_equal : gdB T.cc g__law_equal = true := by decide +kernel
theorem c__law_unlike : gdB T.cc g__law_unlike = true := by decide +kernel
theorem c__law_keys : gdB T.cc g__law_keys = true := by decide +kernel
theorem c__law_kind : gdB T.cc g__law_kind = true := by decide +kernel
theorem c__law_is_small : gdB T.cc g__law_is_small = true := by decide +kernel
theorem c__law_is_run : gdB T.cc g__law_is_run = true := by decide +kernel
theorem c__law_is_text : gdB T.cc g__law_is_text = true := by decide +kernel
theorem c__law_is_name : gdB T.cc g__law_is_name = true := by decide +kernel
theorem c__law_later : gdB T.cc g__law_later = true := by decide +kernel
theorem c__law_any_event : gdB T.cc g__law_any_event = true := by decide +kernel
theorem c_law : gdB T.cc g_law = true := by decide +kernel
theorem gs_ok : T.gs.all (gdB T.cc) = true := by
  show (gs.all (gdB T.cc)) = true
  unfold gs
  simp only [List.all_cons, List.all_nil, Bool.and_true, c_is_int, c_is_number, c_is_tuple, c_is_numbers, c_is_lot, c_word_kind, c_is_name, c_is_text, c_are_small, c_is_said, c_is_run_said, c_with_unit, c_edited, c_state_after, c_state_of, c_stands_of, c_is_edit, c_can_be, c_can_event, c__law_hat, c__law_pull, c__law_any, c__law_equal, c__law_unlike, c__law_keys, c__law_kind, c__law_is_small, c__law_is_run, c__law_is_text, c__law_is_name, c__law_later, c__law_any_event, c_law]
theorem gs_ix : ixB 0 T.gs = true := by decide +kernel
/-! ### how calls bind -/
theorem n_is_int : Bnd g_is_int := by
  intro K f fd F
  refine ⟨fun n hn => ?_, fun n hn => ?_⟩
  · have hn : n = 1 := by
      have h : n ∈ ([1] : List Nat) := hn
      simpa using h
    subst hn
    exact ⟨[], .nil, F.bindsN (ps := ["value"]) fun _ _ _ _ _ _ us hl => match us, hl with | [_], _ => rfl⟩
  · exact absurd hn (by show n ∉ ([] : List Nat); simp)
theorem n_is_number : Bnd g_is_number := by
  intro K f fd F
  refine ⟨fun n hn => ?_, fun n hn => ?_⟩
  · have hn : n = 3 := by
      have h : n ∈ ([3] : List Nat) := hn
      simpa using h
    subst hn
    exact FunD.binds1 F (ps := ["value", "least", "most"]) 3 2 (by decide) (by decide) fun _ _ _ _ _ _ _ us its hl hi => match us, hl, its, hi with | [_, _, _], _, [_, _], _ => ⟨_, rfl, rfl⟩
  · exact absurd hn (by show n ∉ ([] : List Nat); simp)
theorem n_is_tuple : Bnd g_is_tuple := by
  intro K f fd F
  refine ⟨fun n hn => ?_, fun n hn => ?_⟩
  · have hn : n = 1 ∨ n = 2 := by
      have h : n ∈ ([1, 2] : List Nat) := hn
      simpa using h
    rcases hn with rfl | rfl
    · exact FunD.binds1 F (ps := ["value", "many"]) 1 0 (by decide) (by decide) fun _ _ _ _ _ _ _ us its hl hi => match us, hl, its, hi with | [_], _, [_], _ => ⟨_, rfl, rfl⟩
    · exact FunD.binds1 F (ps := ["value", "many"]) 2 1 (by decide) (by decide) fun _ _ _ _ _ _ _ us its hl hi => match us, hl, its, hi with | [_, _], _, [_], _ => ⟨_, rfl, rfl⟩
  · exact absurd hn (by show n ∉ ([] : List Nat); simp)
theorem n_is_numbers : Bnd g_is_numbers := by
  intro K f fd F
  refine ⟨fun n hn => ?_, fun n hn => ?_⟩
  · have hn : n = 4 := by
      have h : n ∈ ([4] : List Nat) := hn
      simpa using h
    subst hn
    exact FunD.binds1 F (ps := ["value", "many", "least", "most"]) 4 2 (by decide) (by decide) fun _ _ _ _ _ _ _ us its hl hi => match us, hl, its, hi with | [_, _, _, _], _, [_, _], _ => ⟨_, rfl, rfl⟩
  · exact absurd hn (by show n ∉ ([] : List Nat); simp)
theorem n_is_lot : Bnd g_is_lot := by
  intro K f fd F
  refine ⟨fun n hn => ?_, fun n hn => ?_⟩
  · have hn : n = 2 := by
      have h : n ∈ ([2] : List Nat) := hn
      simpa using h
    subst hn
    exact ⟨[], .nil, F.bindsN (ps := ["value", "most"]) fun _ _ _ _ _ _ us hl => match us, hl with | [_, _], _ => rfl⟩
  · exact absurd hn (by show n ∉ ([] : List Nat); simp)
theorem n_word_kind : Bnd g_word_kind := by
  intro K f fd F
  refine ⟨fun n hn => ?_, fun n hn => ?_⟩
  · have hn : n = 1 := by
      have h : n ∈ ([1] : List Nat) := hn
      simpa using h
    subst hn
    exact ⟨[], .nil, F.bindsN (ps := ["word"]) fun _ _ _ _ _ _ us hl => match us, hl with | [_], _ => rfl⟩
  · exact absurd hn (by show n ∉ ([] : List Nat); simp)
theorem n_is_name : Bnd g_is_name := by
  intro K f fd F
  refine ⟨fun n hn => ?_, fun n hn => ?_⟩
  · have hn : n = 1 := by
      have h : n ∈ ([1] : List Nat) := hn
      simpa using h
    subst hn
    exact ⟨[], .nil, F.bindsN (ps := ["value"]) fun _ _ _ _ _ _ us hl => match us, hl with | [_], _ => rfl⟩
  · exact absurd hn (by show n ∉ ([] : List Nat); simp)
theorem n_is_text : Bnd g_is_text := by
  intro K f fd F
  refine ⟨fun n hn => ?_, fun n hn => ?_⟩
  · have hn : n = 1 := by
      have h : n ∈ ([1] : List Nat) := hn
      simpa using h
    subst hn
    exact ⟨[], .nil, F.bindsN (ps := ["value"]) fun _ _ _ _ _ _ us hl => match us, hl with | [_], _ => rfl⟩
  · exact absurd hn (by show n ∉ ([] : List Nat); simp)
theorem n_are_small : Bnd g_are_small := by
  intro K f fd F
  refine ⟨fun n hn => ?_, fun n hn => ?_⟩
  · have hn : n = 1 := by
      have h : n ∈ ([1] : List Nat) := hn
      simpa using h
    subst hn
    exact ⟨[], .nil, F.bindsN (ps := ["value"]) fun _ _ _ _ _ _ us hl => match us, hl with | [_], _ => rfl⟩
  · exact absurd hn (by show n ∉ ([] : List Nat); simp)
theorem n_is_said : Bnd g_is_said := by
  intro K f fd F
  refine ⟨fun n hn => ?_, fun n hn => ?_⟩
  · have hn : n = 2 := by
      have h : n ∈ ([2] : List Nat) := hn
      simpa using h
    subst hn
    exact ⟨[], .nil, F.bindsN (ps := ["value", "is_last"]) fun _ _ _ _ _ _ us hl => match us, hl with | [_, _], _ => rfl⟩
  · exact absurd hn (by show n ∉ ([] : List Nat); simp)
theorem n_is_run_said : Bnd g_is_run_said := by
  intro K f fd F
  refine ⟨fun n hn => ?_, fun n hn => ?_⟩
  · have hn : n = 1 := by
      have h : n ∈ ([1] : List Nat) := hn
      simpa using h
    subst hn
    exact ⟨[], .nil, F.bindsN (ps := ["value"]) fun _ _ _ _ _ _ us hl => match us, hl with | [_], _ => rfl⟩
  · exact absurd hn (by show n ∉ ([] : List Nat); simp)
theorem n_with_unit : Bnd g_with_unit := by
  intro K f fd F
  refine ⟨fun n hn => ?_, fun n hn => ?_⟩
  · have hn : n = 3 := by
      have h : n ∈ ([3] : List Nat) := hn
      simpa using h
    subst hn
    exact ⟨[], .nil, F.bindsN (ps := ["units", "name", "text"]) fun _ _ _ _ _ _ us hl => match us, hl with | [_, _, _], _ => rfl⟩
  · exact absurd hn (by show n ∉ ([] : List Nat); simp)
theorem n_edited : Bnd g_edited := by
  intro K f fd F
  refine ⟨fun n hn => ?_, fun n hn => ?_⟩
  · have hn : n = 2 := by
      have h : n ∈ ([2] : List Nat) := hn
      simpa using h
    subst hn
    exact ⟨[], .nil, F.bindsN (ps := ["stands", "event"]) fun _ _ _ _ _ _ us hl => match us, hl with | [_, _], _ => rfl⟩
  · exact absurd hn (by show n ∉ ([] : List Nat); simp)
theorem n_state_after : Bnd g_state_after := by
  intro K f fd F
  refine ⟨fun n hn => ?_, fun n hn => ?_⟩
  · have hn : n = 2 := by
      have h : n ∈ ([2] : List Nat) := hn
      simpa using h
    subst hn
    exact ⟨[], .nil, F.bindsN (ps := ["state", "event"]) fun _ _ _ _ _ _ us hl => match us, hl with | [_, _], _ => rfl⟩
  · exact absurd hn (by show n ∉ ([] : List Nat); simp)
theorem n_state_of : Bnd g_state_of := by
  intro K f fd F
  refine ⟨fun n hn => ?_, fun n hn => ?_⟩
  · have hn : n = 1 := by
      have h : n ∈ ([1] : List Nat) := hn
      simpa using h
    subst hn
    exact ⟨[], .nil, F.bindsN (ps := ["events"]) fun _ _ _ _ _ _ us hl => match us, hl with | [_], _ => rfl⟩
  · exact absurd hn (by show n ∉ ([] : List Nat); simp)
theorem n_stands_of : Bnd g_stands_of := by
  intro K f fd F
  refine ⟨fun n hn => ?_, fun n hn => ?_⟩
  · have hn : n = 1 := by
      have h : n ∈ ([1] : List Nat) := hn
      simpa using h
    subst hn
    exact ⟨[], .nil, F.bindsN (ps := ["events"]) fun _ _ _ _ _ _ us hl => match us, hl with | [_], _ => rfl⟩
  · exact absurd hn (by show n ∉ ([] : List Nat); simp)
theorem n_is_edit : Bnd g_is_edit := by
  intro K f fd F
  refine ⟨fun n hn => ?_, fun n hn => ?_⟩
  · have hn : n = 1 := by
      have h : n ∈ ([1] : List Nat) := hn
      simpa using h
    subst hn
    exact ⟨[], .nil, F.bindsN (ps := ["value"]) fun _ _ _ _ _ _ us hl => match us, hl with | [_], _ => rfl⟩
  · exact absurd hn (by show n ∉ ([] : List Nat); simp)
theorem n_can_be : Bnd g_can_be := by
  intro K f fd F
  refine ⟨fun n hn => ?_, fun n hn => ?_⟩
  · have hn : n = 2 := by
      have h : n ∈ ([2] : List Nat) := hn
      simpa using h
    subst hn
    exact ⟨[], .nil, F.bindsN (ps := ["state", "value"]) fun _ _ _ _ _ _ us hl => match us, hl with | [_, _], _ => rfl⟩
  · exact absurd hn (by show n ∉ ([] : List Nat); simp)
theorem n_can_event : Bnd g_can_event := by
  intro K f fd F
  refine ⟨fun n hn => ?_, fun n hn => ?_⟩
  · exact absurd hn (by show n ∉ ([] : List Nat); simp)
  · have hn : n = 0 := by
      have h : n ∈ ([0] : List Nat) := hn
      simpa using h
    subst hn
    exact FunD.kbindsN F (ps := ["events", "value"]) 0 ["events", "value"] fun _ _ _ _ _ _ us ws hl hw => match us, hl, ws, hw with | [], _, [_, _], _ => rfl
theorem n__law_hat : Bnd g__law_hat := by
  intro K f fd F
  refine ⟨fun n hn => ?_, fun n hn => ?_⟩
  · have hn : n = 2 := by
      have h : n ∈ ([2] : List Nat) := hn
      simpa using h
    subst hn
    exact ⟨[], .nil, F.bindsN (ps := ["script", "k"]) fun _ _ _ _ _ _ us hl => match us, hl with | [_, _], _ => rfl⟩
  · exact absurd hn (by show n ∉ ([] : List Nat); simp)
theorem n__law_pull : Bnd g__law_pull := by
  intro K f fd F
  refine ⟨fun n hn => ?_, fun n hn => ?_⟩
  · have hn : n = 2 := by
      have h : n ∈ ([2] : List Nat) := hn
      simpa using h
    subst hn
    exact ⟨[], .nil, F.bindsN (ps := ["hat", "many"]) fun _ _ _ _ _ _ us hl => match us, hl with | [_, _], _ => rfl⟩
  · exact absurd hn (by show n ∉ ([] : List Nat); simp)
theorem n__law_any : Bnd g__law_any := by
  intro K f fd F
  refine ⟨fun n hn => ?_, fun n hn => ?_⟩
  · have hn : n = 2 := by
      have h : n ∈ ([2] : List Nat) := hn
      simpa using h
    subst hn
    exact ⟨[], .nil, F.bindsN (ps := ["hat", "some"]) fun _ _ _ _ _ _ us hl => match us, hl with | [_, _], _ => rfl⟩
  · exact absurd hn (by show n ∉ ([] : List Nat); simp)
theorem n__law_equal : Bnd g__law_equal := by
  intro K f fd F
  refine ⟨fun n hn => ?_, fun n hn => ?_⟩
  · have hn : n = 2 := by
      have h : n ∈ ([2] : List Nat) := hn
      simpa using h
    subst hn
    exact ⟨[], .nil, F.bindsN (ps := ["told", "due"]) fun _ _ _ _ _ _ us hl => match us, hl with | [_, _], _ => rfl⟩
  · exact absurd hn (by show n ∉ ([] : List Nat); simp)
theorem n__law_unlike : Bnd g__law_unlike := by
  intro K f fd F
  refine ⟨fun n hn => ?_, fun n hn => ?_⟩
  · have hn : n = 1 := by
      have h : n ∈ ([1] : List Nat) := hn
      simpa using h
    subst hn
    exact ⟨[], .nil, F.bindsN (ps := ["rows"]) fun _ _ _ _ _ _ us hl => match us, hl with | [_], _ => rfl⟩
  · exact absurd hn (by show n ∉ ([] : List Nat); simp)
theorem n__law_keys : Bnd g__law_keys := by
  intro K f fd F
  refine ⟨fun n hn => ?_, fun n hn => ?_⟩
  · have hn : n = 0 := by
      have h : n ∈ ([0] : List Nat) := hn
      simpa using h
    subst hn
    exact ⟨[], .nil, F.bindsN (ps := []) fun _ _ _ _ _ _ us hl => match us, hl with | [], _ => rfl⟩
  · exact absurd hn (by show n ∉ ([] : List Nat); simp)
theorem n__law_kind : Bnd g__law_kind := by
  intro K f fd F
  refine ⟨fun n hn => ?_, fun n hn => ?_⟩
  · have hn : n = 2 := by
      have h : n ∈ ([2] : List Nat) := hn
      simpa using h
    subst hn
    exact ⟨[], .nil, F.bindsN (ps := ["word", "keys"]) fun _ _ _ _ _ _ us hl => match us, hl with | [_, _], _ => rfl⟩
  · exact absurd hn (by show n ∉ ([] : List Nat); simp)
theorem n__law_is_small : Bnd g__law_is_small := by
  intro K f fd F
  refine ⟨fun n hn => ?_, fun n hn => ?_⟩
  · have hn : n = 2 := by
      have h : n ∈ ([2] : List Nat) := hn
      simpa using h
    subst hn
    exact ⟨[], .nil, F.bindsN (ps := ["value", "most"]) fun _ _ _ _ _ _ us hl => match us, hl with | [_, _], _ => rfl⟩
  · exact absurd hn (by show n ∉ ([] : List Nat); simp)
theorem n__law_is_run : Bnd g__law_is_run := by
  intro K f fd F
  refine ⟨fun n hn => ?_, fun n hn => ?_⟩
  · have hn : n = 1 := by
      have h : n ∈ ([1] : List Nat) := hn
      simpa using h
    subst hn
    exact ⟨[], .nil, F.bindsN (ps := ["value"]) fun _ _ _ _ _ _ us hl => match us, hl with | [_], _ => rfl⟩
  · exact absurd hn (by show n ∉ ([] : List Nat); simp)
theorem n__law_is_text : Bnd g__law_is_text := by
  intro K f fd F
  refine ⟨fun n hn => ?_, fun n hn => ?_⟩
  · have hn : n = 1 := by
      have h : n ∈ ([1] : List Nat) := hn
      simpa using h
    subst hn
    exact ⟨[], .nil, F.bindsN (ps := ["value"]) fun _ _ _ _ _ _ us hl => match us, hl with | [_], _ => rfl⟩
  · exact absurd hn (by show n ∉ ([] : List Nat); simp)
theorem n__law_is_name : Bnd g__law_is_name := by
  intro K f fd F
  refine ⟨fun n hn => ?_, fun n hn => ?_⟩
  · have hn : n = 1 := by
      have h : n ∈ ([1] : List Nat) := hn
      simpa using h
    subst hn
    exact ⟨[], .nil, F.bindsN (ps := ["value"]) fun _ _ _ _ _ _ us hl => match us, hl with | [_], _ => rfl⟩
  · exact absurd hn (by show n ∉ ([] : List Nat); simp)
theorem n__law_later : Bnd g__law_later := by
  intro K f fd F
  refine ⟨fun n hn => ?_, fun n hn => ?_⟩
  · have hn : n = 2 := by
      have h : n ∈ ([2] : List Nat) := hn
      simpa using h
    subst hn
    exact ⟨[], .nil, F.bindsN (ps := ["life", "event"]) fun _ _ _ _ _ _ us hl => match us, hl with | [_, _], _ => rfl⟩
  · exact absurd hn (by show n ∉ ([] : List Nat); simp)
theorem n__law_any_event : Bnd g__law_any_event := by
  intro K f fd F
  refine ⟨fun n hn => ?_, fun n hn => ?_⟩
  · have hn : n = 1 := by
      have h : n ∈ ([1] : List Nat) := hn
      simpa using h
    subst hn
    exact ⟨[], .nil, F.bindsN (ps := ["hat"]) fun _ _ _ _ _ _ us hl => match us, hl with | [_], _ => rfl⟩
  · exact absurd hn (by show n ∉ ([] : List Nat); simp)
theorem n_law : Bnd g_law := by
  intro K f fd F
  refine ⟨fun n hn => ?_, fun n hn => ?_⟩
  · have hn : n = 1 := by
      have h : n ∈ ([1] : List Nat) := hn
      simpa using h
    subst hn
    exact ⟨[], .nil, F.bindsN (ps := ["script"]) fun _ _ _ _ _ _ us hl => match us, hl with | [_], _ => rfl⟩
  · exact absurd hn (by show n ∉ ([] : List Nat); simp)
theorem all_bnd : ∀ g ∈ T.gs, Bnd g := by
  show ∀ g ∈ gs, Bnd g
  unfold gs
  simp only [List.forall_mem_cons]
  exact ⟨n_is_int, n_is_number, n_is_tuple, n_is_numbers, n_is_lot, n_word_kind, n_is_name, n_is_text, n_are_small, n_is_said, n_is_run_said, n_with_unit, n_edited, n_state_after, n_state_of, n_stands_of, n_is_edit, n_can_be, n_can_event, n__law_hat, n__law_pull, n__law_any, n__law_equal, n__law_unlike, n__law_keys, n__law_kind, n__law_is_small, n__law_is_run, n__law_is_text, n__law_is_name, n__law_later, n__law_any_event, n_law, fun _ h => absurd h (List.not_mem_nil)⟩
/-! ### a call, one step -/
theorem u_is_int (n : Nat) (keep : Bool) (a0 : D) (M : Mem) : tbl T.fns (n + 1) i_is_int keep [a0] M = post keep M.length (execs (tbl T.fns n) b_is_int [some a0] M).out := tbl_u (fns := T.fns) (np := 1) (ns := 1) rfl rfl rfl
theorem u_is_number (n : Nat) (keep : Bool) (a0 a1 a2 : D) (M : Mem) : tbl T.fns (n + 1) i_is_number keep [a0, a1, a2] M = post keep M.length (execs (tbl T.fns n) b_is_number [some a0, some a1, some a2] M).out := tbl_u (fns := T.fns) (np := 3) (ns := 3) rfl rfl rfl
theorem u_is_tuple (n : Nat) (keep : Bool) (a0 a1 : D) (M : Mem) : tbl T.fns (n + 1) i_is_tuple keep [a0, a1] M = post keep M.length (execs (tbl T.fns n) b_is_tuple [some a0, some a1] M).out := tbl_u (fns := T.fns) (np := 2) (ns := 2) rfl rfl rfl
theorem u_is_numbers (n : Nat) (keep : Bool) (a0 a1 a2 a3 : D) (M : Mem) : tbl T.fns (n + 1) i_is_numbers keep [a0, a1, a2, a3] M = post keep M.length (execs (tbl T.fns n) b_is_numbers [some a0, some a1, some a2, some a3, none] M).out := tbl_u (fns := T.fns) (np := 4) (ns := 5) rfl rfl rfl
theorem u_is_lot (n : Nat) (keep : Bool) (a0 a1 : D) (M : Mem) : tbl T.fns (n + 1) i_is_lot keep [a0, a1] M = post keep M.length (execs (tbl T.fns n) b_is_lot [some a0, some a1, none, none] M).out := tbl_u (fns := T.fns) (np := 2) (ns := 4) rfl rfl rfl
theorem u_word_kind (n : Nat) (keep : Bool) (a0 : D) (M : Mem) : tbl T.fns (n + 1) i_word_kind keep [a0] M = post keep M.length (execs (tbl T.fns n) b_word_kind [some a0] M).out := tbl_u (fns := T.fns) (np := 1) (ns := 1) rfl rfl rfl
theorem u_is_name (n : Nat) (keep : Bool) (a0 : D) (M : Mem) : tbl T.fns (n + 1) i_is_name keep [a0] M = post keep M.length (execs (tbl T.fns n) b_is_name [some a0, none] M).out := tbl_u (fns := T.fns) (np := 1) (ns := 2) rfl rfl rfl
theorem u_is_text (n : Nat) (keep : Bool) (a0 : D) (M : Mem) : tbl T.fns (n + 1) i_is_text keep [a0] M = post keep M.length (execs (tbl T.fns n) b_is_text [some a0, none] M).out := tbl_u (fns := T.fns) (np := 1) (ns := 2) rfl rfl rfl
theorem u_are_small (n : Nat) (keep : Bool) (a0 : D) (M : Mem) : tbl T.fns (n + 1) i_are_small keep [a0] M = post keep M.length (execs (tbl T.fns n) b_are_small [some a0, none] M).out := tbl_u (fns := T.fns) (np := 1) (ns := 2) rfl rfl rfl
theorem u_is_said (n : Nat) (keep : Bool) (a0 a1 : D) (M : Mem) : tbl T.fns (n + 1) i_is_said keep [a0, a1] M = post keep M.length (execs (tbl T.fns n) b_is_said [some a0, some a1, none] M).out := tbl_u (fns := T.fns) (np := 2) (ns := 3) rfl rfl rfl
theorem u_is_run_said (n : Nat) (keep : Bool) (a0 : D) (M : Mem) : tbl T.fns (n + 1) i_is_run_said keep [a0] M = post keep M.length (execs (tbl T.fns n) b_is_run_said [some a0, none, none] M).out := tbl_u (fns := T.fns) (np := 1) (ns := 3) rfl rfl rfl
theorem u_with_unit (n : Nat) (keep : Bool) (a0 a1 a2 : D) (M : Mem) : tbl T.fns (n + 1) i_with_unit keep [a0, a1, a2] M = post keep M.length (execs (tbl T.fns n) b_with_unit [some a0, some a1, some a2, none, none] M).out := tbl_u (fns := T.fns) (np := 3) (ns := 5) rfl rfl rfl
theorem u_edited (n : Nat) (keep : Bool) (a0 a1 : D) (M : Mem) : tbl T.fns (n + 1) i_edited keep [a0, a1] M = post keep M.length (execs (tbl T.fns n) b_edited [some a0, some a1, none, none, none, none, none] M).out := tbl_u (fns := T.fns) (np := 2) (ns := 7) rfl rfl rfl
theorem u_state_after (n : Nat) (keep : Bool) (a0 a1 : D) (M : Mem) : tbl T.fns (n + 1) i_state_after keep [a0, a1] M = post keep M.length (execs (tbl T.fns n) b_state_after [some a0, some a1, none, none, none] M).out := tbl_u (fns := T.fns) (np := 2) (ns := 5) rfl rfl rfl
theorem u_state_of (n : Nat) (keep : Bool) (a0 : D) (M : Mem) : tbl T.fns (n + 1) i_state_of keep [a0] M = post keep M.length (execs (tbl T.fns n) b_state_of [some a0, none, none] M).out := tbl_u (fns := T.fns) (np := 1) (ns := 3) rfl rfl rfl
theorem u_stands_of (n : Nat) (keep : Bool) (a0 : D) (M : Mem) : tbl T.fns (n + 1) i_stands_of keep [a0] M = post keep M.length (execs (tbl T.fns n) b_stands_of [some a0] M).out := tbl_u (fns := T.fns) (np := 1) (ns := 1) rfl rfl rfl
theorem u_is_edit (n : Nat) (keep : Bool) (a0 : D) (M : Mem) : tbl T.fns (n + 1) i_is_edit keep [a0] M = post keep M.length (execs (tbl T.fns n) b_is_edit [some a0] M).out := tbl_u (fns := T.fns) (np := 1) (ns := 1) rfl rfl rfl
theorem u_can_be (n : Nat) (keep : Bool) (a0 a1 : D) (M : Mem) : tbl T.fns (n + 1) i_can_be keep [a0, a1] M = post keep M.length (execs (tbl T.fns n) b_can_be [some a0, some a1] M).out := tbl_u (fns := T.fns) (np := 2) (ns := 2) rfl rfl rfl
theorem u_can_event (n : Nat) (keep : Bool) (a0 a1 : D) (M : Mem) : tbl T.fns (n + 1) i_can_event keep [a0, a1] M = post keep M.length (execs (tbl T.fns n) b_can_event [some a0, some a1] M).out := tbl_u (fns := T.fns) (np := 2) (ns := 2) rfl rfl rfl
theorem u__law_hat (n : Nat) (keep : Bool) (a0 a1 : D) (M : Mem) : tbl T.fns (n + 1) i__law_hat keep [a0, a1] M = post keep M.length (execs (tbl T.fns n) b__law_hat [some a0, some a1, none, none, none, none] M).out := tbl_u (fns := T.fns) (np := 2) (ns := 6) rfl rfl rfl
theorem u__law_pull (n : Nat) (keep : Bool) (a0 a1 : D) (M : Mem) : tbl T.fns (n + 1) i__law_pull keep [a0, a1] M = post keep M.length (execs (tbl T.fns n) b__law_pull [some a0, some a1, none] M).out := tbl_u (fns := T.fns) (np := 2) (ns := 3) rfl rfl rfl
theorem u__law_any (n : Nat) (keep : Bool) (a0 a1 : D) (M : Mem) : tbl T.fns (n + 1) i__law_any keep [a0, a1] M = post keep M.length (execs (tbl T.fns n) b__law_any [some a0, some a1] M).out := tbl_u (fns := T.fns) (np := 2) (ns := 2) rfl rfl rfl
theorem u__law_equal (n : Nat) (keep : Bool) (a0 a1 : D) (M : Mem) : tbl T.fns (n + 1) i__law_equal keep [a0, a1] M = post keep M.length (execs (tbl T.fns n) b__law_equal [some a0, some a1, none, none] M).out := tbl_u (fns := T.fns) (np := 2) (ns := 4) rfl rfl rfl
theorem u__law_unlike (n : Nat) (keep : Bool) (a0 : D) (M : Mem) : tbl T.fns (n + 1) i__law_unlike keep [a0] M = post keep M.length (execs (tbl T.fns n) b__law_unlike [some a0, none, none] M).out := tbl_u (fns := T.fns) (np := 1) (ns := 3) rfl rfl rfl
theorem u__law_keys (n : Nat) (keep : Bool) (_z : D) (M : Mem) : tbl T.fns (n + 1) i__law_keys keep [] M = post keep M.length (execs (tbl T.fns n) b__law_keys [none] M).out := tbl_u (fns := T.fns) (np := 0) (ns := 1) rfl rfl rfl
theorem u__law_kind (n : Nat) (keep : Bool) (a0 a1 : D) (M : Mem) : tbl T.fns (n + 1) i__law_kind keep [a0, a1] M = post keep M.length (execs (tbl T.fns n) b__law_kind [some a0, some a1, none] M).out := tbl_u (fns := T.fns) (np := 2) (ns := 3) rfl rfl rfl
theorem u__law_is_small (n : Nat) (keep : Bool) (a0 a1 : D) (M : Mem) : tbl T.fns (n + 1) i__law_is_small keep [a0, a1] M = post keep M.length (execs (tbl T.fns n) b__law_is_small [some a0, some a1] M).out := tbl_u (fns := T.fns) (np := 2) (ns := 2) rfl rfl rfl
theorem u__law_is_run (n : Nat) (keep : Bool) (a0 : D) (M : Mem) : tbl T.fns (n + 1) i__law_is_run keep [a0] M = post keep M.length (execs (tbl T.fns n) b__law_is_run [some a0, none, none, none, none] M).out := tbl_u (fns := T.fns) (np := 1) (ns := 5) rfl rfl rfl
theorem u__law_is_text (n : Nat) (keep : Bool) (a0 : D) (M : Mem) : tbl T.fns (n + 1) i__law_is_text keep [a0] M = post keep M.length (execs (tbl T.fns n) b__law_is_text [some a0] M).out := tbl_u (fns := T.fns) (np := 1) (ns := 1) rfl rfl rfl
theorem u__law_is_name (n : Nat) (keep : Bool) (a0 : D) (M : Mem) : tbl T.fns (n + 1) i__law_is_name keep [a0] M = post keep M.length (execs (tbl T.fns n) b__law_is_name [some a0, none] M).out := tbl_u (fns := T.fns) (np := 1) (ns := 2) rfl rfl rfl
theorem u__law_later (n : Nat) (keep : Bool) (a0 a1 : D) (M : Mem) : tbl T.fns (n + 1) i__law_later keep [a0, a1] M = post keep M.length (execs (tbl T.fns n) b__law_later [some a0, some a1, none, none, none, none, none, none, none, none, none, none, none, none, none, none, none] M).out := tbl_u (fns := T.fns) (np := 2) (ns := 17) rfl rfl rfl
theorem u__law_any_event (n : Nat) (keep : Bool) (a0 : D) (M : Mem) : tbl T.fns (n + 1) i__law_any_event keep [a0] M = post keep M.length (execs (tbl T.fns n) b__law_any_event [some a0, none, none, none, none, none, none, none, none] M).out := tbl_u (fns := T.fns) (np := 1) (ns := 9) rfl rfl rfl
theorem u_law (n : Nat) (keep : Bool) (a0 : D) (M : Mem) : tbl T.fns (n + 1) i_law keep [a0] M = post keep M.length (execs (tbl T.fns n) b_law [some a0, none, none, none, none, none, none, none] M).out := tbl_u (fns := T.fns) (np := 1) (ns := 8) rfl rfl rfl
theorem law_mem : g_law ∈ T.gs := by
  show g_law ∈ gs
  unfold gs
  simp
end Lk87
namespace Lk87
open PySem PD
abbrev U (n : Nat) : Tbl := tbl T.fns n
theorem f_pull : T.fns[i__law_pull]? = some ⟨2, 3, pullB⟩ := rfl
theorem f_any : T.fns[i__law_any]? = some ⟨2, 2, anyB i__law_pull⟩ := rfl
theorem f_hat : T.fns[i__law_hat]? = some ⟨2, 6, hatB⟩ := rfl
/-! ### what is drawn -/
def names : List D := [.str "lib", .str "main", .str "far", .str "u2", .str "iron", .str "meet", .str (Txt.mul "x" 16), .str (Txt.mul "x" 17), .str "7a", .str "A", .str ""]
def texts : List D := [.str "", .str "unit u\nend\n", .str "manual iron\nend", .str "any thing ! at (all)", .str "50", .str "a\tb", .str (Txt.mul "x" 4000), .str (Txt.mul "x" 4001)]
def runs1 : List D := [.tup [], .tup [.tup [.str "do", .int 0]], .tup [.tup [.str "hung", .int 3]], .tup [.tup [.str "if", .int 0, .bl true], .tup [.str "do", .int 2]], .tup [.tup [.str "meet", .tup [.int 0, .int 2], .tup [.int 1, .int 0, .int 1], .tup [.int 1, .int 1], .tup []]], .tup [.tup [.str "hung", .int 0], .tup [.str "do", .int 0]], .tup [.tup [.str "if", .int 0, .int 1]]]
def runs2 : List D := [.tup [.tup [.str "do", .bl true]], .tup [.tup [.str "do", .int 100]], .tup [.tup [.str "meet", .tup [.int 2, .int 0], .tup [.int 1], .tup [.int 1, .int 1], .tup []]], .tup [.tup [.str "meet", .tup [.int 0], .tup [.int 1], .tup [], .tup []]], .tup [.tup [.str "meet", .tup [.int 0], .tup [.int 1], .tup [.int 1]]], .non]
def runs3 : List D := [.tup [.tup [.str "go", .int 0]], .lst [.tup [.str "do", .int 0]], .tup [.tup [.str "do"]], .tup [.tup [.str "do", .int 99], .tup [.str "do", .int 0, .int 0]]]
def runs : List D := runs1 ++ runs2 ++ runs3
def odd : List D := [.non, .tup [], .tup [.str "manual"], .tup [.str "undo", .int 0], .lst [.str "undo"], .tup [.str "unit", .str "lib"], .tup [.str "close", .tup []], .tup [.str "told", .int 0], .int 7, .tup [.str "drop", .int 3], .tup [.str "main", .non], .tup [.str "manual", .int 5], .tup [.str "", .str ""], .tup [.tup [.str "undo"]]]
def some_ (n t r : D) : List D := [.tup [.str "manual", t], .tup [.str "unit", n, t], .tup [.str "unit", n, t], .tup [.str "drop", n], .tup [.str "main", n], .tup [.str "ran", r], .tup [.str "undo"], .tup [.str "undo"], .tup [.str "redo"], .tup [.str "close"]]
def Ev (e : D) : Prop := e ∈ odd ∨ ∃ n t r, n ∈ names ∧ t ∈ texts ∧ r ∈ runs ∧ e ∈ some_ n t r
theorem names_nr : D.norefs names = true := by decide +kernel
theorem texts_nr : D.norefs texts = true := by decide +kernel
theorem runs_nr : D.norefs runs = true := by decide +kernel
theorem odd_nr : D.norefs odd = true := by decide +kernel
theorem some_nr {n t r : D} (hn : n.noref = true) (ht : t.noref = true) (hr : r.noref = true) : D.norefs (some_ n t r) = true := by
  simp [some_, D.norefs, D.noref, hn, ht, hr]
/-- x if a pull says so, else any of them -/
theorem pick_ok (n : Nat) (M0 : Mem) (a b p q : Int) (s : PD.Env) (j : Nat) (xs : List D) (hs0 : s[0]? = some (some (D.ref M0.length))) (hsj : s[j]? = some (some (D.lst xs))) (hp : 0 < p ∧ p < 1000) (hq : 0 < q ∧ q ≤ xs.length) (hxl : xs.length < 1000)
    (hM : D.norefs M0 = true) (hx : D.norefs xs = true) (ha : 0 ≤ a) (hb : 0 ≤ b) (hb2 : b < 4294967296) :
    ∃ (d : D) (a' b' : Int), d ∈ xs ∧ 0 ≤ a' ∧ 0 ≤ b' ∧ b' < 4294967296 ∧
      PD.ev (U (n + 2)) (.ite (.op .gt (.call false i__law_pull (.cons (.v 0) (.cons (.c (.int p)) .nil)) []) (.c (.int 0))) (.op .ix (.v j) (.call false i__law_pull (.cons (.v 0) (.cons (.c (.int q)) .nil)) [])) (.call false i__law_any (.cons (.v 0) (.cons (.v j) .nil)) [])) s (M0 ++ [hatD a b]) = .ok d (M0 ++ [hatD a' b']) := by
  obtain ⟨r, a1, b1, r1, r2, p1, p2, p3, h1⟩ := pull_ok f_pull (n + 1) M0 a b p hM ha hb hb2 hp.1 (by omega)
  have hc : PD.ev (U (n + 2)) (.op .gt (.call false i__law_pull (.cons (.v 0) (.cons (.c (.int p)) .nil)) []) (.c (.int 0))) s (M0 ++ [hatD a b]) = .ok (.bl (decide (0 < r))) (M0 ++ [hatD a1 b1]) :=
    r_op (r_call (r_evs2 (r_v hs0) r_c) ((callT_ref rfl).trans h1)) r_c rfl
  by_cases hr : 0 < r
  · obtain ⟨q', a2, b2, q1, q2, p4, p5, p6, h2⟩ := pull_ok f_pull (n + 1) M0 a1 b1 q hM p1 p2 p3 hq.1 (by omega)
    obtain ⟨d, d1, d2⟩ := atD_get (xs := xs) q1 (by omega)
    refine ⟨d, a2, b2, d2, p4, p5, p6, r_iteT (by rw [hc]; simp only [hr, decide_true]) (r_op (x := .lst xs) (y := .int q') (r_v hsj) (r_call (r_evs2 (r_v hs0) r_c) ((callT_ref rfl).trans h2)) ?_)⟩
    show op2 .ix (.lst xs) (.int q') = _
    simp [op2, opIx, d1]
  · obtain ⟨d, a2, b2, d2, p4, p5, p6, h2⟩ := any_ok f_any f_pull n M0 a1 b1 xs hM p1 p2 p3 (by omega) (by omega) hx
    exact ⟨d, a2, b2, d2, p4, p5, p6, r_iteF (by rw [hc]; simp only [hr, decide_false]) (r_call (r_evs2 (r_v hs0) (r_v hsj)) ((callT_ref rfl).trans h2))⟩
theorem event_ok (n : Nat) (M0 : Mem) (a b : Int) (hM : D.norefs M0 = true) (ha : 0 ≤ a) (hb : 0 ≤ b) (hb2 : b < 4294967296) :
    ∃ (e : D) (a' b' : Int), Ev e ∧ e.noref = true ∧ 0 ≤ a' ∧ 0 ≤ b' ∧ b' < 4294967296 ∧ U (n + 3) i__law_any_event false [.ref M0.length] (M0 ++ [hatD a b]) = .ok e (M0 ++ [hatD a' b']) := by
  obtain ⟨d2, a1, b1, m1, p1, p2, p3, e2⟩ := pick_ok n M0 a b 4 4 [some (.ref M0.length), some (.lst names), none, none, none, none, none, none, none] 1 names rfl rfl (by decide) (by decide) (by decide) hM names_nr ha hb hb2
  obtain ⟨d4, a2, b2, m2, p4, p5, p6, e4⟩ := pick_ok n M0 a1 b1 4 4 [some (.ref M0.length), some (.lst names), some d2, some (.lst texts), none, none, none, none, none] 3 texts rfl rfl (by decide) (by decide) (by decide) hM texts_nr p1 p2 p3
  obtain ⟨d6, a3, b3, m3, p7, p8, p9, e6⟩ := pick_ok n M0 a2 b2 3 5 [some (.ref M0.length), some (.lst names), some d2, some (.lst texts), some d4, some (.lst runs), none, none, none] 5 runs rfl rfl (by decide) (by decide) (by decide) hM runs_nr p4 p5 p6
  have n2 := norefs_mem names_nr d2 m1
  have n4 := norefs_mem texts_nr d4 m2
  have n6 := norefs_mem runs_nr d6 m3
  have nS := some_nr n2 n4 n6
  obtain ⟨r, a4, b4, r1, r2, q1, q2, q3, h1⟩ := pull_ok f_pull (n + 1) M0 a3 b3 6 hM p7 p8 p9 (by decide) (by decide)
  have hc : PD.ev (U (n + 2)) (.op .gt (.call false i__law_pull (.cons (.v 0) (.cons (.c (.int 6)) .nil)) []) (.c (.int 0))) [some (.ref M0.length), some (.lst names), some d2, some (.lst texts), some d4, some (.lst runs), some d6, some (.lst odd), some (.lst (some_ d2 d4 d6))] (M0 ++ [hatD a3 b3]) = .ok (.bl (decide (0 < r))) (M0 ++ [hatD a4 b4]) :=
    r_op (r_call (r_evs2 (r_v rfl) r_c) ((callT_ref rfl).trans h1)) r_c rfl
  have last : ∃ (e : D) (a' b' : Int), Ev e ∧ e.noref = true ∧ 0 ≤ a' ∧ 0 ≤ b' ∧ b' < 4294967296 ∧ PD.ev (U (n + 2)) (.ite (.op .gt (.call false i__law_pull (.cons (.v 0) (.cons (.c (.int 6)) .nil)) []) (.c (.int 0))) (.call false i__law_any (.cons (.v 0) (.cons (.v 8) .nil)) []) (.call false i__law_any (.cons (.v 0) (.cons (.v 7) .nil)) []))
      [some (.ref M0.length), some (.lst names), some d2, some (.lst texts), some d4, some (.lst runs), some d6, some (.lst odd), some (.lst (some_ d2 d4 d6))] (M0 ++ [hatD a3 b3]) = .ok e (M0 ++ [hatD a' b']) := by
    by_cases hr : 0 < r
    · obtain ⟨d, a5, b5, w, q4, q5, q6, h2⟩ := any_ok f_any f_pull n M0 a4 b4 (some_ d2 d4 d6) hM q1 q2 q3 (by show 0 < 10; decide) (by show 10 < 1000000; decide) nS
      exact ⟨d, a5, b5, .inr ⟨d2, d4, d6, m1, m2, m3, w⟩, norefs_mem nS d w, q4, q5, q6, r_iteT (by rw [hc]; simp only [hr, decide_true]) (r_call (r_evs2 (r_v rfl) (r_v rfl)) ((callT_ref rfl).trans h2))⟩
    · obtain ⟨d, a5, b5, w, q4, q5, q6, h2⟩ := any_ok f_any f_pull n M0 a4 b4 odd hM q1 q2 q3 (by decide) (by decide) odd_nr
      exact ⟨d, a5, b5, .inl w, norefs_mem odd_nr d w, q4, q5, q6, r_iteF (by rw [hc]; simp only [hr, decide_false]) (r_call (r_evs2 (r_v rfl) (r_v rfl)) ((callT_ref rfl).trans h2))⟩
  obtain ⟨e, a5, b5, hE, ne, q4, q5, q6, hl⟩ := last
  refine ⟨e, a5, b5, hE, ne, q4, q5, q6, ?_⟩
  rw [U, u__law_any_event (n + 2)]
  rw [← post_val (M := M0 ++ [hatD a5 b5]) (d := e) rfl (norefs_app hM rfl) ne]
  have hlen : (M0 ++ [hatD a b]).length = (M0 ++ [hatD a5 b5]).length := by simp
  rw [hlen]
  congr 1
  have run : PD.execs (tbl T.fns (n + 2)) b__law_any_event [some (.ref M0.length), none, none, none, none, none, none, none, none] (M0 ++ [hatD a b]) = .rt e (M0 ++ [hatD a5 b5]) := by
    refine r_cons (r_asg (d := .lst names) (M1 := M0 ++ [hatD a b]) (by kernel_rfl)) ?_
    refine r_cons (r_asg e2) ?_
    refine r_cons (r_asg (d := .lst texts) (M1 := M0 ++ [hatD a1 b1]) (by kernel_rfl)) ?_
    refine r_cons (r_asg e4) ?_
    refine r_cons (r_asg (d := .lst runs1) (M1 := M0 ++ [hatD a2 b2]) (by kernel_rfl)) ?_
    refine r_cons (r_asg (d := .lst (runs1 ++ runs2)) (M1 := M0 ++ [hatD a2 b2]) (by kernel_rfl)) ?_
    refine r_cons (r_asg (d := .lst runs) (M1 := M0 ++ [hatD a2 b2]) (by kernel_rfl)) ?_
    refine r_cons (r_asg e6) ?_
    refine r_cons (r_asg (d := .lst odd) (M1 := M0 ++ [hatD a3 b3]) (by kernel_rfl)) ?_
    refine r_cons (r_asg (d := .lst (some_ d2 d4 d6)) (M1 := M0 ++ [hatD a3 b3]) (by kernel_rfl)) ?_
    exact r_end (r_ret hl)
  rw [run]; rfl
end Lk87
namespace Lk87
open PySem PD
theorem f_eq : T.fns[i__law_equal]? = some ⟨2, 4, eqB i__law_equal⟩ := rfl
/-! ### what stands -/
structure Sd where
  m : D
  us : List (Str × D)
  mn : D
  rs : List D
def row (p : Str × D) : D := .tup [.str p.1, p.2]
def Sd.enc (S : Sd) : D := .tup [S.m, .tup (S.us.map row), S.mn, .tup S.rs]
structure Life where
  S : Sd
  P : List Sd
  F : List Sd
def Life.l (l : Life) : D := .tup [l.S.enc, .lst (l.P.map Sd.enc), .lst (l.F.map Sd.enc)]
def Life.s (l : Life) : D := .tup [l.S.enc, .tup (l.P.map Sd.enc), .tup (l.F.map Sd.enc)]
inductive Act where
  | man (t : D) | unit (x : Str) (t : D) | drop (x : Str) | main (x : Str) | ran (r : D) | undo | redo | close
def Act.enc : Act → D
  | .man t => .tup [.str "manual", t]
  | .unit x t => .tup [.str "unit", .str x, t]
  | .drop x => .tup [.str "drop", .str x]
  | .main x => .tup [.str "main", .str x]
  | .ran r => .tup [.str "ran", r]
  | .undo => .tup [.str "undo"]
  | .redo => .tup [.str "redo"]
  | .close => .tup [.str "close"]
def putU (us : List (Str × D)) (x : Str) (t : D) : List (Str × D) := (us.map fun p => if p.1 = x then (x, t) else p) ++ if us.any (fun p => decide (p.1 = x)) then [] else [(x, t)]
def edit (S : Sd) : Act → Sd
  | .man t => { S with m := t }
  | .unit x t => { S with us := putU S.us x t }
  | .drop x => { S with us := S.us.filter fun p => !decide (p.1 = x) }
  | .main x => { S with mn := .str x }
  | .ran r => { S with rs := S.rs ++ [r] }
  | _ => S
def Act.ed : Act → Bool
  | .undo => false
  | .redo => false
  | .close => false
  | _ => true
def app (l : Life) (a : Act) : Option Life := match a with
  | .undo => l.P.getLast?.map fun S => ⟨S, l.P.dropLast, l.F ++ [l.S]⟩
  | .redo => l.F.getLast?.map fun S => ⟨S, l.P ++ [l.S], l.F.dropLast⟩
  | .close => some ⟨l.S, [], []⟩
  | a => some ⟨edit l.S a, l.P ++ [l.S], []⟩
/-! ### small enough -/
structure OkS (t : Nat) (S : Sd) : Prop where
  us : S.us.length ≤ t
  rs : S.rs.length ≤ t
  fm : flat S.m = true
  fu : ∀ p ∈ S.us, flat p.2 = true
  fn : flat S.mn = true
  fr : ∀ r ∈ S.rs, gd 3 r = true
structure OkL (t : Nat) (l : Life) : Prop where
  S : OkS t l.S
  P : ∀ S ∈ l.P, OkS t S
  F : ∀ S ∈ l.F, OkS t S
  lp : l.P.length ≤ t
  lf : l.F.length ≤ t
theorem OkS.mono {t u : Nat} {S : Sd} (h : OkS t S) (k : t ≤ u) : OkS u S := ⟨by have := h.us; omega, by have := h.rs; omega, h.fm, h.fu, h.fn, h.fr⟩
/-- an act whose texts are right -/
def Act.v : Act → Prop
  | .man t => flat t = true
  | .unit _ t => flat t = true
  | .ran r => gd 3 r = true
  | _ => True
theorem putU_len (us : List (Str × D)) (x : Str) (t : D) : (putU us x t).length ≤ us.length + 1 := by
  unfold putU
  split <;> simp
theorem OkS.edit {t : Nat} {S : Sd} (h : OkS t S) {a : Act} (v : a.v) : OkS (t + 1) (Lk87.edit S a) := by
  have h1 := h.mono (Nat.le_succ t)
  cases a with
  | man t => exact { h1 with fm := v }
  | unit x t' =>
    refine { h1 with us := Nat.le_trans (putU_len _ _ _) (by have := h.us; omega), fu := fun p hp => ?_ }
    unfold Lk87.edit putU at hp
    rcases List.mem_append.mp hp with hp | hp
    · obtain ⟨q, hq, rfl⟩ := List.mem_map.mp hp
      split
      · exact v
      · exact h.fu q hq
    · split at hp
      · simp at hp
      · rw [List.mem_singleton.mp hp]
        exact v
  | drop x =>
    refine { h1 with us := Nat.le_trans (List.length_filter_le _ _) (by have := h.us; omega), fu := fun p hp => h.fu p (List.mem_filter.mp hp).1 }
  | main x => exact { h1 with fn := rfl }
  | ran r =>
    refine { h1 with rs := by show (S.rs ++ [r]).length ≤ _; have := h.rs; simp; omega, fr := fun q hq => ?_ }
    rcases List.mem_append.mp hq with hq | hq
    · exact h.fr q hq
    · rw [List.mem_singleton.mp hq]; exact v
  | undo => exact h1
  | redo => exact h1
  | close => exact h1
theorem OkL.app {t : Nat} {l l' : Life} (h : OkL t l) {a : Act} (v : a.v) (e : app l a = some l') : OkL (t + 1) l' := by
  have mS := h.S.mono (Nat.le_succ t)
  have mP : ∀ S ∈ l.P, OkS (t + 1) S := fun S hS => (h.P S hS).mono (Nat.le_succ t)
  have mF : ∀ S ∈ l.F, OkS (t + 1) S := fun S hS => (h.F S hS).mono (Nat.le_succ t)
  have pS : ∀ S ∈ l.P ++ [l.S], OkS (t + 1) S := fun S hS => by
    rcases List.mem_append.mp hS with q | q
    · exact mP S q
    · rw [List.mem_singleton.mp q]; exact mS
  have fS : ∀ S ∈ l.F ++ [l.S], OkS (t + 1) S := fun S hS => by
    rcases List.mem_append.mp hS with q | q
    · exact mF S q
    · rw [List.mem_singleton.mp q]; exact mS
  have lp := h.lp
  have lf := h.lf
  have ed : ∀ a : Act, a.v → OkL (t + 1) ⟨Lk87.edit l.S a, l.P ++ [l.S], []⟩ := fun a v => ⟨h.S.edit v, pS, fun S hS => by simp at hS, by simp; omega, by simp⟩
  cases a with
  | undo =>
    simp only [Lk87.app, Option.map_eq_some_iff] at e
    obtain ⟨S, hS, rfl⟩ := e
    exact ⟨mP S (List.mem_of_getLast? hS), fun S hS => mP S (List.dropLast_subset _ hS), fS, by simp; omega, by simp; omega⟩
  | redo =>
    simp only [Lk87.app, Option.map_eq_some_iff] at e
    obtain ⟨S, hS, rfl⟩ := e
    exact ⟨mF S (List.mem_of_getLast? hS), pS, fun S hS => mF S (List.dropLast_subset _ hS), by simp; omega, by simp; omega⟩
  | close =>
    simp only [Lk87.app, Option.some.injEq] at e
    subst e
    exact ⟨mS, fun S hS => by simp at hS, fun S hS => by simp at hS, by simp, by simp⟩
  | man t => cases e; exact ed _ v
  | unit x t => cases e; exact ed _ v
  | drop x => cases e; exact ed _ v
  | main x => cases e; exact ed _ v
  | ran r => cases e; exact ed _ v
theorem flat_gd {k : Nat} {d : D} (h : flat d = true) : gd k d = true := by
  cases d <;> simp only [flat, Bool.false_eq_true] at h <;> cases k <;> rfl
theorem gd_mono : ∀ {k : Nat} {d : D}, gd k d = true → gd (k + 1) d = true
  | 0, d, h => by cases d <;> first | rfl | (simp [gd] at h)
  | k + 1, .non, _ => rfl
  | k + 1, .bl _, _ => rfl
  | k + 1, .int _, _ => rfl
  | k + 1, .str _, _ => rfl
  | k + 1, .tup ds, h => by
    simp only [gd, Bool.and_eq_true, List.all_eq_true] at h
    show (decide (ds.length ≤ 1000) && ds.all (gd (k + 1))) = true
    rw [Bool.and_eq_true, List.all_eq_true]
    exact ⟨h.1, fun d hd => gd_mono (h.2 d hd)⟩
  | k + 1, .lst _, h => by simp [gd] at h
  | k + 1, .lok _, h => by simp [gd] at h
  | k + 1, .dct _ _, h => by simp [gd] at h
  | k + 1, .ref _, h => by simp [gd] at h
theorem OkS.gd {t : Nat} (ht : t ≤ 900) {S : Sd} (h : OkS t S) : PD.gd 5 S.enc = true := by
  have hu := h.us
  have hr := h.rs
  simp only [Sd.enc, PD.gd, Bool.and_eq_true, List.all_eq_true, decide_eq_true_eq, List.mem_cons, List.not_mem_nil, or_false]
  refine ⟨by simp, fun d hd => ?_⟩
  rcases hd with rfl | rfl | rfl | rfl
  · exact flat_gd h.fm
  · show (decide ((S.us.map row).length ≤ 1000) && (S.us.map row).all (PD.gd 3)) = true
    rw [Bool.and_eq_true, List.all_eq_true]
    refine ⟨decide_eq_true (by rw [List.length_map]; omega), fun d hd => ?_⟩
    obtain ⟨p, hp, rfl⟩ := List.mem_map.mp hd
    have h2 := flat_gd (k := 2) (h.fu p hp)
    simp [row, PD.gd, h2]
  · exact flat_gd h.fn
  · show (decide (S.rs.length ≤ 1000) && S.rs.all (PD.gd 3)) = true
    rw [Bool.and_eq_true, List.all_eq_true]
    exact ⟨decide_eq_true (by omega), h.fr⟩
end Lk87
namespace Lk87
open PySem PD
theorem nine {n : Nat} (h : n ≤ 1000) : n ≤ sizeLine := by rw [sizeLine_eq]; omega
theorem lcLoop_map {α : Type} {step : D → Mem → R (Option D)} {M : Mem} {g : α → D} {h : α → Option D} : ∀ {us : List α}, (∀ p ∈ us, step (g p) M = .ok (h p) M) → lcLoop step none (us.map g) M = .ok (us.filterMap h) M
  | [], _ => rfl
  | p :: us, hs => by
    have h1 := hs p List.mem_cons_self
    have h2 := lcLoop_map (us := us) fun q hq => hs q (List.mem_cons_of_mem _ hq)
    simp only [List.map_cons, lcLoop, gok, if_true, h1, h2]
    cases q : h p <;> simp [q]
theorem fm_map {α : Type} (f : α → D) (us : List α) : us.filterMap (fun p => some (f p)) = us.map f := by simp
theorem lcLoop_all {α : Type} {step : D → Mem → R (Option D)} {M : Mem} {g f : α → D} {us : List α} (hs : ∀ p ∈ us, step (g p) M = .ok (some (f p)) M) : lcLoop step none (us.map g) M = .ok (us.map f) M := by
  rw [← fm_map f us]
  exact lcLoop_map hs
theorem isin_strs (x : Str) (us : List (Str × D)) : op2 .isin (.str x) (.lst (us.map fun p => .str p.1)) = some (.bl (us.any fun p => decide (p.1 = x))) := by
  have h1 : ∀ us : List (Str × D), D.plains (us.map fun p => D.str p.1) = true := fun us => by
    induction us with
    | nil => rfl
    | cons p us ih => simp only [List.map_cons, D.plains, D.plain, Bool.true_and]; exact ih
  have h2 : ∀ us : List (Str × D), ((us.map fun p => D.str p.1).any fun z => D.eqv z (.str x)) = us.any fun p => decide (p.1 = x) := fun us => by
    induction us with
    | nil => rfl
    | cons p us ih => rw [List.map_cons, List.any_cons, List.any_cons, ih]; simp [D.eqv, Bool.beq_eq_decide_eq]
  simp only [op2, opIn, inList, h1, h2, D.plain, D.depth]
  rfl
theorem add_tup {a b : List D} (h : a.length + b.length ≤ 1000) : op2 .add (.tup a) (.tup b) = some (.tup (a ++ b)) := by
  simp only [op2, opAdd]; rw [if_pos (nine h)]
theorem add_lst {a b : List D} (h : a.length + b.length ≤ 1000) : op2 .add (.lst a) (.lst b) = some (.lst (a ++ b)) := by
  simp only [op2, opAdd]; rw [if_pos (nine h)]
theorem fnoref {d : D} (h : flat d = true) : d.noref = true := gd_noref 0 d (flat_gd h)
theorem rows_nr {us : List (Str × D)} (h : ∀ p ∈ us, flat p.2 = true) : D.norefs (us.map row) = true := norefs_all fun d hd => by
  obtain ⟨p, hp, rfl⟩ := List.mem_map.mp hd
  simp [row, D.noref, D.norefs, fnoref (h p hp)]
theorem post_ok' {r : PD.O} {d : D} {n : Nat} {x : Nat} (T : Tbl) (b : Ss) (s : PD.Env) (h : PD.execs T b s [] = .rt d []) (hd : d.noref = true) : post false 0 (PD.execs T b s []).out = .ok d [] := by
  rw [h]
  show post false 0 (.ok d []) = _
  rw [post0, if_pos hd]
theorem with_unit_ok (n : Nat) (us : List (Str × D)) (x : Str) (t : D) (hl : us.length ≤ 900) (hu : ∀ p ∈ us, flat p.2 = true) (ht : flat t = true) :
    U (n + 1) i_with_unit false [.tup (us.map row), .str x, t] [] = .ok (.tup ((putU us x t).map row)) [] := by
  rw [U, u_with_unit]
  have hl2 : (us.map row).length ≤ sizeLine := nine (by rw [List.length_map]; omega)
  have e1 : PD.ev (tbl T.fns n) (.lc false [4] (.ite (.op .eq (.op .ix (.v 4) (.c (.int 0))) (.v 1)) (.tup (.cons (.v 1) (.cons (.v 2) .nil))) (.v 4)) (.nm 4) (.val (.v 0)) .nil) [some (.tup (us.map row)), some (.str x), some t, none, none] [] = .ok (.lst ((us.map fun p => if p.1 = x then (x, t) else p).map row)) [] := by
    refine r_lc (r_val (r_v rfl) rfl) hl2 ?_
    rw [List.map_map]
    refine lcLoop_all (g := row) fun p hp => ?_
    refine lcS (s' := [some (.tup (us.map row)), some (.str x), some t, none, some (row p)]) (M1 := []) rfl r_and0 ?_
    have hc : PD.ev (tbl T.fns n) (.op .eq (.op .ix (.v 4) (.c (.int 0))) (.v 1)) [some (.tup (us.map row)), some (.str x), some t, none, some (row p)] [] = .ok (.bl (decide (p.1 = x))) [] := by
      refine r_op (r_op (z := .str p.1) (r_v rfl) r_c rfl) (r_v rfl) ?_
      exact eq_str _ _
    by_cases hx : p.1 = x
    · refine r_iteT (M1 := []) (by rw [hc]; simp only [hx, decide_true]) ?_
      simp only [Function.comp, hx, if_true]
      exact r_tup (r_evs2 (r_v rfl) (r_v rfl))
    · refine r_iteF (M1 := []) (by rw [hc]; simp only [hx, decide_false]) ?_
      simp only [Function.comp, hx, if_false]
      exact r_v rfl
  have e2 : PD.ev (tbl T.fns n) (.op .isin (.v 1) (.lc false [4] (.op .ix (.v 4) (.c (.int 0))) (.nm 4) (.val (.v 0)) .nil)) [some (.tup (us.map row)), some (.str x), some t, some (.lst ((us.map fun p => if p.1 = x then (x, t) else p).map row)), none] [] = .ok (.bl (us.any fun p => decide (p.1 = x))) [] := by
    refine r_op (r_v rfl) (r_lc (r_val (r_v rfl) rfl) hl2 ?_) (isin_strs x us)
    refine lcLoop_all (g := row) fun p hp => ?_
    exact lcS (s' := [some (.tup (us.map row)), some (.str x), some t, some (.lst ((us.map fun p => if p.1 = x then (x, t) else p).map row)), some (row p)]) (M1 := []) rfl r_and0 (r_op (x := row p) (y := .int 0) (z := .str p.1) (r_v rfl) r_c rfl)
  have hr : (D.tup ((putU us x t).map row)).noref = true := by
    simp only [D.noref]
    refine rows_nr fun p hp => ?_
    unfold putU at hp
    rcases List.mem_append.mp hp with hp | hp
    · obtain ⟨q, hq, rfl⟩ := List.mem_map.mp hp
      split
      · exact ht
      · exact hu q hq
    · split at hp
      · simp at hp
      · rw [List.mem_singleton.mp hp]
        exact ht
  refine post_ok' (n := 0) (x := 0) (r := .no) _ _ _ (r_cons (r_asg e1) (r_end (r_ret ?_))) hr
  cases ha : us.any fun p => decide (p.1 = x) with
  | true =>
    refine r_iteT (e2.trans (by rw [ha])) (r_bi (r_evs1 (r_v rfl)) ?_)
    show bi .tup [.lst _] = _
    unfold putU
    simp [bi, bi1, ha]
  | false =>
    refine r_iteF (e2.trans (by rw [ha])) (r_op (r_v rfl) (r_tup (r_evs1 (r_tup (r_evs2 (r_v rfl) (r_v rfl))))) ?_)
    show op2 .add (.tup (us.map row)) (.tup [.tup [.str x, t]]) = _
    rw [add_tup (by simp; omega)]
    have : (us.map fun p => if p.1 = x then (x, t) else p) = us := by
      rw [List.any_eq_false] at ha
      conv => rhs; rw [← List.map_id us]
      exact List.map_congr_left fun p hp => if_neg (by simpa using ha p hp)
    unfold putU
    simp [ha, this, row]
end Lk87
namespace Lk87
open PySem PD
theorem Sd.nr {t : Nat} (ht : t ≤ 900) {S : Sd} (h : OkS t S) : S.enc.noref = true := gd_noref 5 _ (h.gd ht)
theorem act_nr {a : Act} (v : a.v) : a.enc.noref = true := by
  cases a <;> simp only [Act.v] at v <;> simp [Act.enc, D.noref, D.norefs]
  · exact fnoref v
  · exact fnoref v
  · exact gd_noref 3 _ v
/-- rows of another name -/
theorem drop_ok {T : Tbl} {own : List Nat} {elt : E} {ifs : Es} {tg : Tg} {s : PD.Env} {us : List (Str × D)} {x : Str} (h : ∀ p ∈ us, lcStep T own elt tg ifs s (row p) [] = .ok (if p.1 = x then none else some (row p)) []) :
    lcLoop (lcStep T own elt tg ifs s) none (us.map row) [] = .ok ((us.filter fun p => !decide (p.1 = x)).map row) [] := by
  have e : us.filterMap (fun p => if p.1 = x then none else some (row p)) = (us.filter fun p => !decide (p.1 = x)).map row := by
    clear h
    induction us with
    | nil => rfl
    | cons p us ih =>
      by_cases hp : p.1 = x
      · simp [List.filterMap_cons, List.filter_cons, hp, ih]
      · simp [List.filterMap_cons, List.filter_cons, hp, ih]
  rw [← e]
  exact lcLoop_map h
theorem edited_ok (n t : Nat) (ht : t ≤ 800) (S : Sd) (h : OkS t S) (a : Act) (v : a.v) (e : a.ed = true) : U (n + 2) i_edited false [S.enc, a.enc] [] = .ok (edit S a).enc [] := by
  rw [U, u_edited (n + 1)]
  have nr := Sd.nr (by omega) (h.edit v)
  have hu := h.us
  have hr := h.rs
  refine post_ok' (n := 0) (x := 0) (r := .no) _ _ _ (r_cons (s' := [some S.enc, some a.enc, some S.m, some (.tup (S.us.map row)), some S.mn, some (.tup S.rs), none]) (M' := []) ?_ ?_) nr
  · rfl
  cases a with
  | undo => cases e
  | redo => cases e
  | close => cases e
  | man t' => exact r_end (r_ifT (M1 := []) (by kernel_rfl) (r_end (r_ret (r_tup (r_evs (x := t') (r_op (r_v rfl) r_c rfl) (r_evs (r_v rfl) (r_evs2 (r_v rfl) (r_v rfl))))))))
  | unit x t' =>
    refine r_cons (r_ifF (M1 := []) (by kernel_rfl) r_nil) (r_end (r_ifT (M1 := []) (by kernel_rfl) (r_end (r_ret (r_tup (r_evs (r_v rfl) (r_evs (x := .tup ((putU S.us x t').map row)) (M1 := []) ?_ (r_evs2 (r_v rfl) (r_v rfl)))))))))
    refine r_call (xs := [.tup (S.us.map row), .str x, t']) (M1 := []) (r_evs (r_v rfl) (r_evs2 (r_op (r_v rfl) r_c rfl) (r_op (r_v rfl) r_c rfl))) (callT_pure (with_unit_ok n S.us x t' (by omega) h.fu v) ?_ ?_)
    · simp [D.norefs, D.noref, rows_nr h.fu, fnoref v]
    · simp only [D.noref]
      exact rows_nr (h.edit (a := .unit x t') v).fu
  | drop x =>
    refine r_cons (r_ifF (M1 := []) (by kernel_rfl) r_nil) (r_cons (r_ifF (M1 := []) (by kernel_rfl) r_nil) (r_end (r_ifT (M1 := []) (by kernel_rfl) (r_end (r_ret (r_tup (r_evs (r_v rfl) (r_evs (x := .tup ((S.us.filter fun p => !decide (p.1 = x)).map row)) (M1 := []) ?_ (r_evs2 (r_v rfl) (r_v rfl))))))))))
    refine r_bi (r_evs1 (r_lc (r_val (r_v rfl) rfl) (nine (by rw [List.length_map]; omega)) (drop_ok (x := x) fun p hp => ?_))) rfl
    have hc : PD.ev (tbl T.fns (n + 1)) (.op .ne (.op .ix (.v 6) (.c (.int 0))) (.op .ix (.v 1) (.c (.int 1)))) [some S.enc, some (Act.drop x).enc, some S.m, some (.tup (S.us.map row)), some S.mn, some (.tup S.rs), some (row p)] [] = .ok (.bl (!decide (p.1 = x))) [] := by
      refine r_op (r_op (z := .str p.1) (r_v rfl) r_c rfl) (r_op (z := .str x) (r_v rfl) r_c rfl) ?_
      exact ne_str _ _
    by_cases hx : p.1 = x
    · rw [if_pos hx]
      exact lcN (s' := [some S.enc, some (Act.drop x).enc, some S.m, some (.tup (S.us.map row)), some S.mn, some (.tup S.rs), some (row p)]) rfl (r_andF (hc.trans (by simp [hx])))
    · rw [if_neg hx]
      exact lcS (s' := [some S.enc, some (Act.drop x).enc, some S.m, some (.tup (S.us.map row)), some S.mn, some (.tup S.rs), some (row p)]) (M1 := []) rfl (r_andT (hc.trans (by simp [hx])) r_and0) (r_v rfl)
  | main x =>
    exact r_cons (r_ifF (M1 := []) (by kernel_rfl) r_nil) (r_cons (r_ifF (M1 := []) (by kernel_rfl) r_nil) (r_cons (r_ifF (M1 := []) (by kernel_rfl) r_nil) (r_end (r_ret (r_iteT (M1 := []) (by kernel_rfl) (r_tup (r_evs (r_v rfl) (r_evs (r_v rfl) (r_evs2 (x := .str x) (r_op (r_v rfl) r_c rfl) (r_v rfl))))))))))
  | ran r =>
    refine r_cons (r_ifF (M1 := []) (by kernel_rfl) r_nil) (r_cons (r_ifF (M1 := []) (by kernel_rfl) r_nil) (r_cons (r_ifF (M1 := []) (by kernel_rfl) r_nil) (r_end (r_ret (r_iteF (M1 := []) (by kernel_rfl) (r_tup (r_evs (r_v rfl) (r_evs (r_v rfl) (r_evs2 (r_v rfl) (r_op (r_v rfl) (r_tup (r_evs1 (x := r) (r_op (r_v rfl) r_c rfl))) ?_))))))))))
    exact add_tup (by simp; omega)
end Lk87
namespace Lk87
open PySem PD
theorem atD_last {xs : List D} {d : D} (h : xs.getLast? = some d) : atD xs (-1) = some d := by
  obtain ⟨ys, rfl⟩ := List.getLast?_eq_some_iff.mp h
  exact L2.atI_last ys d
theorem cut_last (xs : List D) (h : xs ≠ []) : PD.cut xs none (some (-1)) = xs.dropLast := by
  have hl : 0 < xs.length := List.length_pos_iff.mpr h
  unfold PD.cut
  rw [List.dropLast_eq_take]
  have h1 : HT.sIx xs.length 0 none = 0 := by unfold HT.sIx; rfl
  have h2 : HT.sIx xs.length xs.length (some (-1)) = xs.length - 1 := by
    unfold HT.sIx
    simp
    omega
  rw [h1, h2]
  simp
theorem cut_last2 (xs : List D) (h : xs ≠ []) : PD.cut xs none (some ((xs.length : Int) - 1)) = xs.dropLast := by
  have hl : 0 < xs.length := List.length_pos_iff.mpr h
  unfold PD.cut
  rw [List.dropLast_eq_take]
  have h1 : HT.sIx xs.length 0 none = 0 := by unfold HT.sIx; rfl
  have h2 : HT.sIx xs.length xs.length (some ((xs.length : Int) - 1)) = xs.length - 1 := by
    unfold HT.sIx
    simp
    omega
  rw [h1, h2]
  simp
section
variable {T : Tbl} {s : PD.Env} {M M1 M2 : Mem} {d x : D}
theorem r_slH {a hi : E} {j : Int} (h1 : PD.ev T a s M = .ok x M1) (h2 : PD.ev T hi s M1 = .ok (.int j) M2) (hp : partOf hi (.int j) = some (some j)) (h3 : opSl (x.val M2) none (some j) = some d) : PD.ev T (.sl false a .nul hi) s M = .ok d M2 := by
  rw [PD.ev, h1]
  simp only [R.bind]
  rw [show PD.ev T .nul s M1 = .ok .non M1 from by rw [PD.ev]]
  simp only [R.bind]
  rw [h2]
  simp only [R.bind, hp]
  show (match opSl (x.val M2) none (some j) with
      | some d => alloc false d M2
      | none => .no) = _
  rw [h3]; rfl
theorem r_neg {a : E} {i : Int} (h : PD.ev T a s M = .ok (.int i) M1) : PD.ev T (.neg a) s M = .ok (.int (-i)) M1 := by
  rw [PD.ev, h]; rfl
end
theorem encs_nr {t : Nat} (ht : t ≤ 900) {P : List Sd} (h : ∀ S ∈ P, OkS t S) : D.norefs (P.map Sd.enc) = true := norefs_all fun d hd => by
  obtain ⟨S, hS, rfl⟩ := List.mem_map.mp hd
  exact Sd.nr ht (h S hS)
theorem OkL.s {t : Nat} (ht : t ≤ 900) {l : Life} (h : OkL t l) : l.s.noref = true := by
  simp [Life.s, D.noref, D.norefs, Sd.nr ht h.S, encs_nr ht h.P, encs_nr ht h.F]
theorem OkL.l {t : Nat} (ht : t ≤ 900) {l : Life} (h : OkL t l) : l.l.noref = true := by
  simp [Life.l, D.noref, D.norefs, Sd.nr ht h.S, encs_nr ht h.P, encs_nr ht h.F]
theorem ne_of_last {P : List Sd} {S : Sd} (h : P.getLast? = some S) : P.map Sd.enc ≠ [] := by
  intro e
  rw [List.map_eq_nil_iff] at e
  rw [e] at h
  cases h
theorem last_enc {P : List Sd} {S : Sd} (h : P.getLast? = some S) : (P.map Sd.enc).getLast? = some S.enc := by
  rw [List.getLast?_map, h]; rfl
theorem after_ok (n t : Nat) (ht : t ≤ 800) (l l' : Life) (h : OkL t l) (a : Act) (v : a.v) (e : app l a = some l') : U (n + 3) i_state_after false [l.s, a.enc] [] = .ok l'.s [] := by
  rw [U, u_state_after (n + 2)]
  have nr := (h.app v e).s (by omega)
  have hp := h.lp
  have hf := h.lf
  refine post_ok' (n := 0) (x := 0) (r := .no) _ _ _ (r_cons (s' := [some l.s, some a.enc, some l.S.enc, some (.tup (l.P.map Sd.enc)), some (.tup (l.F.map Sd.enc))]) (M' := []) rfl ?_) nr
  have addP : op2 .add (.tup (l.P.map Sd.enc)) (.tup [l.S.enc]) = some (.tup ((l.P ++ [l.S]).map Sd.enc)) := by
    rw [add_tup (by simp; omega)]; simp
  have addF : op2 .add (.tup (l.F.map Sd.enc)) (.tup [l.S.enc]) = some (.tup ((l.F ++ [l.S]).map Sd.enc)) := by
    rw [add_tup (by simp; omega)]; simp
  have ed : a.ed = true → app l a = some ⟨edit l.S a, l.P ++ [l.S], []⟩ → PD.ev (tbl T.fns (n + 2)) (.op .isin (.op .ix (.v 1) (.c (.int 0))) (.g k_EDITS)) [some l.s, some a.enc, some l.S.enc, some (.tup (l.P.map Sd.enc)), some (.tup (l.F.map Sd.enc))] [] = .ok (.bl true) [] →
      PD.execs (tbl T.fns (n + 2)) (.cons (.ite (.op .isin (.op .ix (.v 1) (.c (.int 0))) (.g k_EDITS)) (.cons (.ret (.tup (.cons (.call false i_edited (.cons (.v 2) (.cons (.v 1) .nil)) []) (.cons (.op .add (.v 3) (.tup (.cons (.v 2) .nil))) (.cons (.tup .nil) .nil))))) .nil) .nil) (.cons (.ite (.op .eq (.op .ix (.v 1) (.c (.int 0))) (.c (.str "undo"))) (.cons (.ret (.tup (.cons (.op .ix (.v 3) (.neg (.c (.int 1)))) (.cons (.sl false (.v 3) .nul (.neg (.c (.int 1)))) (.cons (.op .add (.v 4) (.tup (.cons (.v 2) .nil))) .nil))))) .nil) .nil) (.cons (.ite (.op .eq (.op .ix (.v 1) (.c (.int 0))) (.c (.str "redo"))) (.cons (.ret (.tup (.cons (.op .ix (.v 4) (.neg (.c (.int 1)))) (.cons (.op .add (.v 3) (.tup (.cons (.v 2) .nil))) (.cons (.sl false (.v 4) .nul (.neg (.c (.int 1)))) .nil))))) .nil) .nil) (.cons (.ret (.tup (.cons (.v 2) (.cons (.tup .nil) (.cons (.tup .nil) .nil))))) .nil))))
      [some l.s, some a.enc, some l.S.enc, some (.tup (l.P.map Sd.enc)), some (.tup (l.F.map Sd.enc))] [] = .rt l'.s [] := fun hd he hc => by
    rw [he] at e
    cases e
    refine r_end (r_ifT hc (r_end (r_ret (r_tup (r_evs (x := (edit l.S a).enc) (M1 := []) (r_call (r_evs2 (r_v rfl) (r_v rfl)) (callT_pure (edited_ok n t ht l.S h.S a v hd) ?_ (Sd.nr (by omega) (h.S.edit v)))) (r_evs2 (r_op (r_v rfl) (r_tup (r_evs1 (r_v rfl))) addP) (r_tup r_evs0)))))))
    simp [D.norefs, Sd.nr (by omega) h.S, act_nr v]
  cases a with
  | man t' => exact ed rfl rfl (by kernel_rfl)
  | unit x t' => exact ed rfl rfl (by kernel_rfl)
  | drop x => exact ed rfl rfl (by kernel_rfl)
  | main x => exact ed rfl rfl (by kernel_rfl)
  | ran r => exact ed rfl rfl (by kernel_rfl)
  | undo =>
    simp only [app, Option.map_eq_some_iff] at e
    obtain ⟨S, hS, rfl⟩ := e
    refine r_cons (r_ifF (M1 := []) (by kernel_rfl) r_nil) (r_end (r_ifT (M1 := []) (by kernel_rfl) (r_end (r_ret (r_tup (r_evs (x := S.enc) (M1 := []) (r_op (r_v rfl) (r_neg r_c) ?_) (r_evs2 (x := .tup (l.P.dropLast.map Sd.enc)) (M1 := []) (r_slH (r_v rfl) (r_neg r_c) rfl ?_) (r_op (r_v rfl) (r_tup (r_evs1 (r_v rfl))) addF))))))))
    · show (atD (l.P.map Sd.enc) (-1)) = _
      exact atD_last (last_enc hS)
    · show some (D.tup (PD.cut (l.P.map Sd.enc) none (some (-1)))) = _
      rw [cut_last _ (ne_of_last hS), List.map_dropLast]
  | redo =>
    simp only [app, Option.map_eq_some_iff] at e
    obtain ⟨S, hS, rfl⟩ := e
    refine r_cons (r_ifF (M1 := []) (by kernel_rfl) r_nil) (r_cons (r_ifF (M1 := []) (by kernel_rfl) r_nil) (r_end (r_ifT (M1 := []) (by kernel_rfl) (r_end (r_ret (r_tup (r_evs (x := S.enc) (M1 := []) (r_op (r_v rfl) (r_neg r_c) ?_) (r_evs2 (y := .tup (l.F.dropLast.map Sd.enc)) (M1 := []) (r_op (r_v rfl) (r_tup (r_evs1 (r_v rfl))) addP) (r_slH (r_v rfl) (r_neg r_c) rfl ?_)))))))))
    · show (atD (l.F.map Sd.enc) (-1)) = _
      exact atD_last (last_enc hS)
    · show some (D.tup (PD.cut (l.F.map Sd.enc) none (some (-1)))) = _
      rw [cut_last _ (ne_of_last hS), List.map_dropLast]
  | close =>
    cases e
    exact r_cons (r_ifF (M1 := []) (by kernel_rfl) r_nil) (r_cons (r_ifF (M1 := []) (by kernel_rfl) r_nil) (r_cons (r_ifF (M1 := []) (by kernel_rfl) r_nil) (r_end (r_ret (r_tup (r_evs (r_v rfl) (r_evs2 (r_tup r_evs0) (r_tup r_evs0))))))))
/-! ### the events so far -/
inductive Chain : List D → Life → Nat → Prop
  | nil : Chain [] ⟨⟨.non, [], .non, []⟩, [], []⟩ 0
  | snoc {es : List D} {l l' : Life} {t : Nat} {a : Act} : Chain es l t → a.v → app l a = some l' → Chain (es ++ [a.enc]) l' (t + 1)
theorem Chain.ok {es : List D} {l : Life} {t : Nat} (h : Chain es l t) : OkL t l := by
  induction h with
  | nil => exact ⟨⟨Nat.le_refl _, Nat.le_refl _, rfl, fun p hp => by simp at hp, rfl, fun r hr => by simp at hr⟩, fun S hS => by simp at hS, fun S hS => by simp at hS, Nat.le_refl _, Nat.le_refl _⟩
  | snoc _ v e ih => exact ih.app v e
theorem Chain.len {es : List D} {l : Life} {t : Nat} (h : Chain es l t) : es.length = t := by
  induction h with
  | nil => rfl
  | snoc _ _ _ ih => simp [ih]
theorem Chain.nr {es : List D} {l : Life} {t : Nat} (h : Chain es l t) : D.norefs es = true := by
  induction h with
  | nil => rfl
  | snoc _ v _ ih => exact norefs_app ih (by simp [D.norefs, act_nr v])
theorem forLoop_app {body : D → PD.Env → Mem → PD.O} {g : Gd} {y : D} {s' : PD.Env} {M' : Mem} : ∀ {xs : List D} {s : PD.Env} {M : Mem}, forLoop body g xs s M = .nx s' M' → (∀ s M, body y s M ≠ .bk s M) → forLoop body g xs s M = .nx s' M'
  | _, _, _, h, _ => h
theorem chain_loop {es : List D} {l : Life} {t : Nat} (n : Nat) (h : Chain es l t) (ht : t ≤ 700) (E : D) (r : List D) : ∃ z : Option D, forLoop (fun x s M => match setT (.nm 2) x s with
      | some s' => PD.execs (tbl T.fns (n + 3)) (.cons (.asg (.nm 1) (.call false i_state_after (.cons (.v 1) (.cons (.v 2) .nil)) [])) .nil) s' M
      | none => .no) none (es ++ r) [some E, some k_NEW, none] [] = forLoop (fun x s M => match setT (.nm 2) x s with
      | some s' => PD.execs (tbl T.fns (n + 3)) (.cons (.asg (.nm 1) (.call false i_state_after (.cons (.v 1) (.cons (.v 2) .nil)) [])) .nil) s' M
      | none => .no) none r [some E, some l.s, z] [] := by
  induction h generalizing r with
  | nil => exact ⟨none, rfl⟩
  | @snoc es l l' t a h v e ih =>
    obtain ⟨z, hz⟩ := ih (by omega) (a.enc :: r)
    refine ⟨some a.enc, ?_⟩
    rw [List.append_assoc]
    show forLoop _ none (es ++ (a.enc :: r)) _ _ = _
    rw [hz]
    have hc : PD.execs (tbl T.fns (n + 3)) (.cons (.asg (.nm 1) (.call false i_state_after (.cons (.v 1) (.cons (.v 2) .nil)) [])) .nil) [some E, some l.s, some a.enc] [] = .nx [some E, some l'.s, some a.enc] [] := by
      refine r_cons (r_asg (r_call (r_evs2 (r_v rfl) (r_v rfl)) (callT_pure (after_ok n t (by omega) l l' h.ok a v e) ?_ ((h.ok.app v e).s (by omega))))) r_nil
      simp [D.norefs, h.ok.s (show t ≤ 900 by omega), act_nr v]
    conv => lhs; rw [forLoop]
    simp only [gok, if_true, setT]
    show (match PD.execs (tbl T.fns (n + 3)) _ [some E, some l.s, some a.enc] [] with
      | .nx s' M' => _
      | .ct s' M' => _
      | .bk s' M' => _
      | r => r) = _
    rw [hc]
theorem state_ok (n : Nat) {es : List D} {l : Life} {t : Nat} (h : Chain es l t) (ht : t ≤ 700) : U (n + 4) i_state_of false [.tup es] [] = .ok l.s [] := by
  rw [U, u_state_of (n + 3)]
  obtain ⟨z, hz⟩ := chain_loop n h ht (.tup es) []
  rw [List.append_nil] at hz
  refine post_ok' (n := 0) (x := 0) (r := .no) _ _ _ (r_cons (r_asg r_g) (r_cons (s' := [some (.tup es), some l.s, z]) (M' := []) (r_for (r_val (r_v rfl) rfl) ?_) (r_end (r_ret (r_v rfl))))) (h.ok.s (by omega))
  exact hz
theorem stands_ok (n : Nat) {es : List D} {l : Life} {t : Nat} (h : Chain es l t) (ht : t ≤ 700) : U (n + 5) i_stands_of false [.tup es] [] = .ok l.S.enc [] := by
  rw [U, u_stands_of (n + 4)]
  refine post_ok' (n := 0) (x := 0) (r := .no) _ _ _ (r_end (r_ret (r_op (r_call (r_evs1 (r_v rfl)) (callT_pure (state_ok n h ht) ?_ (h.ok.s (by omega)))) r_c rfl))) (Sd.nr (t := t) (by omega) h.ok.S)
  simp [D.norefs, D.noref, h.nr]
end Lk87
namespace Lk87
open PySem PD
/-! ### what may be said -/
theorem names_same : (names.all fun n => same (U 36 i_is_name false [n] []) (U 38 i__law_is_name false [n] [])) = true := by decide +kernel
theorem texts_same : (texts.all fun n => same (U 36 i_is_text false [n] []) (U 38 i__law_is_text false [n] [])) = true := by decide +kernel
theorem runs_same : (runs.all fun n => same (U 36 i_is_run_said false [n] []) (U 38 i__law_is_run false [n] [])) = true := by decide +kernel
theorem runs_gd : (runs.all fun r => gd 3 r || isB (U 38 i__law_is_run false [r] []) false) = true := by decide +kernel
theorem runs_plain : (runs.all fun r => r.plain) = true := by decide +kernel
theorem name_ok {n : D} (h : n ∈ names) : ∃ x b, n = .str x ∧ U 36 i_is_name false [.str x] [] = .ok (.bl b) [] ∧ U 38 i__law_is_name false [.str x] [] = .ok (.bl b) [] := by
  have h1 : ∃ x, n = .str x := by
    have : names.all (fun n => match n with | .str _ => true | _ => false) = true := by decide +kernel
    have := List.all_eq_true.mp this n h
    split at this
    · exact ⟨_, rfl⟩
    · cases this
  obtain ⟨x, rfl⟩ := h1
  obtain ⟨b, h2, h3⟩ := same_ok (List.all_eq_true.mp names_same _ h)
  exact ⟨x, b, rfl, h2, h3⟩
theorem text_ok {n : D} (h : n ∈ texts) : ∃ x b, n = .str x ∧ U 36 i_is_text false [.str x] [] = .ok (.bl b) [] ∧ U 38 i__law_is_text false [.str x] [] = .ok (.bl b) [] := by
  have h1 : ∃ x, n = .str x := by
    have : texts.all (fun n => match n with | .str _ => true | _ => false) = true := by decide +kernel
    have := List.all_eq_true.mp this n h
    split at this
    · exact ⟨_, rfl⟩
    · cases this
  obtain ⟨x, rfl⟩ := h1
  obtain ⟨b, h2, h3⟩ := same_ok (List.all_eq_true.mp texts_same _ h)
  exact ⟨x, b, rfl, h2, h3⟩
theorem run_ok {r : D} (h : r ∈ runs) : ∃ b, U 36 i_is_run_said false [r] [] = .ok (.bl b) [] ∧ U 38 i__law_is_run false [r] [] = .ok (.bl b) [] ∧ (b = true → gd 3 r = true) ∧ r.plain = true ∧ r.noref = true := by
  obtain ⟨b, h2, h3⟩ := same_ok (List.all_eq_true.mp runs_same _ h)
  refine ⟨b, h2, h3, fun e => ?_, List.all_eq_true.mp runs_plain _ h, norefs_mem runs_nr _ h⟩
  subst e
  have h4 := List.all_eq_true.mp runs_gd _ h
  rw [Bool.or_eq_true] at h4
  rcases h4 with h4 | h4
  · exact h4
  · have := isB_ok h4
    rw [h3] at this
    cases this
/-! ### can_event -/
theorem is_edit_unit {x y : Str} {b c : Bool} (h1 : U 36 i_is_name false [.str x] [] = .ok (.bl b) []) (h2 : U 36 i_is_text false [.str y] [] = .ok (.bl c) []) : U 37 i_is_edit false [.tup [.str "unit", .str x, .str y]] [] = .ok (.bl (b && c)) [] := by
  rw [U, u_is_edit 36]
  refine post_ok' (n := 0) (x := 0) (r := .no) _ _ _ (r_end (r_ifT (M1 := []) (by kernel_rfl) (r_end (r_ret (r_and (r_andT (M1 := []) (by kernel_rfl) ?_)))))) rfl
  have e1 : PD.ev (tbl T.fns 36) (.call false i_is_name (.cons (.op .ix (.v 0) (.c (.int 1))) .nil) []) [some (.tup [.str "unit", .str x, .str y])] [] = .ok (.bl b) [] := r_call (r_evs1 (x := .str x) (r_op (r_v rfl) r_c rfl)) (callT_pure h1 rfl rfl)
  have e2 : PD.ev (tbl T.fns 36) (.call false i_is_text (.cons (.op .ix (.v 0) (.c (.int 2))) .nil) []) [some (.tup [.str "unit", .str x, .str y])] [] = .ok (.bl c) [] := r_call (r_evs1 (x := .str y) (r_op (r_v rfl) r_c rfl)) (callT_pure h2 rfl rfl)
  cases b with
  | false => exact r_andF e1
  | true => exact r_andT e1 (r_and1 e2)
theorem is_edit_manual {y : Str} {c : Bool} (h2 : U 36 i_is_text false [.str y] [] = .ok (.bl c) []) : U 37 i_is_edit false [.tup [.str "manual", .str y]] [] = .ok (.bl c) [] := by
  rw [U, u_is_edit 36]
  exact post_ok' (n := 0) (x := 0) (r := .no) _ _ _ (r_cons (r_ifF (M1 := []) (by kernel_rfl) r_nil) (r_cons (r_ifF (M1 := []) (by kernel_rfl) r_nil) (r_cons (r_ifF (M1 := []) (by kernel_rfl) r_nil) (r_end (r_ret (r_iteT (M1 := []) (by kernel_rfl) (r_call (r_evs1 (x := .str y) (r_op (r_v rfl) r_c rfl)) (callT_pure h2 rfl rfl)))))))) rfl
theorem is_edit_drop {y : Str} {c : Bool} (h2 : U 36 i_is_name false [.str y] [] = .ok (.bl c) []) : U 37 i_is_edit false [.tup [.str "drop", .str y]] [] = .ok (.bl c) [] := by
  rw [U, u_is_edit 36]
  exact post_ok' (n := 0) (x := 0) (r := .no) _ _ _ (r_cons (r_ifF (M1 := []) (by kernel_rfl) r_nil) (r_cons (r_ifF (M1 := []) (by kernel_rfl) r_nil) (r_cons (r_ifF (M1 := []) (by kernel_rfl) r_nil) (r_end (r_ret (r_iteF (M1 := []) (by kernel_rfl) (r_call (r_evs1 (x := .str y) (r_op (r_v rfl) r_c rfl)) (callT_pure h2 rfl rfl)))))))) rfl
theorem is_edit_main {y : Str} {c : Bool} (h2 : U 36 i_is_name false [.str y] [] = .ok (.bl c) []) : U 37 i_is_edit false [.tup [.str "main", .str y]] [] = .ok (.bl c) [] := by
  rw [U, u_is_edit 36]
  exact post_ok' (n := 0) (x := 0) (r := .no) _ _ _ (r_cons (r_ifF (M1 := []) (by kernel_rfl) r_nil) (r_cons (r_ifF (M1 := []) (by kernel_rfl) r_nil) (r_cons (r_ifF (M1 := []) (by kernel_rfl) r_nil) (r_end (r_ret (r_iteF (M1 := []) (by kernel_rfl) (r_call (r_evs1 (x := .str y) (r_op (r_v rfl) r_c rfl)) (callT_pure h2 rfl rfl)))))))) rfl
theorem is_edit_ran {r : D} {c : Bool} (hn : r.noref = true) (h2 : U 36 i_is_run_said false [r] [] = .ok (.bl c) []) : U 37 i_is_edit false [.tup [.str "ran", r]] [] = .ok (.bl c) [] := by
  rw [U, u_is_edit 36]
  exact post_ok' (n := 0) (x := 0) (r := .no) _ _ _ (r_cons (r_ifF (M1 := []) (by kernel_rfl) r_nil) (r_cons (r_ifF (M1 := []) (by kernel_rfl) r_nil) (r_end (r_ifT (M1 := []) (by kernel_rfl) (r_end (r_ret (r_call (r_evs1 (x := r) (r_op (r_v rfl) r_c rfl)) (callT_pure h2 (by simp [D.norefs, hn]) rfl)))))))) rfl
theorem is_tuple_ok (xs : List D) : U 37 i_is_tuple false [.tup xs, .non] [] = .ok (.bl true) [] := by kernel_rfl
theorem can_edit (st : D) (x : Str) (y : D) (ys : List D) (hx : op2 .isin (.str x) k_EDITS = some (.bl true)) (hn : D.norefs (y :: ys) = true) {b : Bool} (h : U 37 i_is_edit false [.tup (.str x :: y :: ys)] [] = .ok (.bl b) []) : U 38 i_can_be false [st, .tup (.str x :: y :: ys)] [] = .ok (.bl b) [] := by
  rw [U, u_can_be 37]
  have hn2 : D.norefs [D.tup (.str x :: y :: ys)] = true := by
    simp only [D.norefs, D.noref, Bool.true_and, Bool.and_true]
    exact hn
  have e1 : PD.ev (tbl T.fns 37) (.call false i_is_tuple (.cons (.v 1) .nil) [.non]) [some st, some (.tup (.str x :: y :: ys))] [] = .ok (.bl true) [] := by
    refine r_call (r_evs1 (r_v rfl)) (callT_pure (is_tuple_ok _) ?_ rfl)
    show D.norefs [D.tup (.str x :: y :: ys), .non] = true
    simp only [D.norefs, D.noref, Bool.true_and, Bool.and_true] at hn2 ⊢
    exact hn2
  have e2 : PD.ev (tbl T.fns 37) (.not (.call false i_is_tuple (.cons (.v 1) .nil) [.non])) [some st, some (.tup (.str x :: y :: ys))] [] = .ok (.bl false) [] := by
    rw [PD.ev, e1]; rfl
  have e3 : PD.ev (tbl T.fns 37) (.op .eq (.bi false .len (.cons (.v 1) .nil)) (.c (.int 0))) [some st, some (.tup (.str x :: y :: ys))] [] = .ok (.bl false) [] := by
    refine r_op (r_bi (r_evs1 (r_v rfl)) rfl) r_c ?_
    show op2 .eq (.int ((D.str x :: y :: ys).length : Nat)) (.int 0) = _
    rw [eq_int, decide_eq_false]
    simp
    omega
  exact post_ok' (n := 0) (x := 0) (r := .no) _ _ _ (r_cons (r_ifF (r_or (r_orF e2 (r_orF e3 (r_orF (r_not (b := true) (r_isi (r_op (z := .str x) (r_v rfl) r_c (ix0 _ _)) rfl)) r_or0)))) r_nil) (r_end (r_ifT (r_op (x := .str x) (r_op (r_v rfl) r_c (ix0 _ _)) r_g hx) (r_end (r_ret (r_call (r_evs1 (r_v rfl)) (callT_pure h hn2 rfl))))))) rfl
theorem can_event_ok {es : List D} {l : Life} {t : Nat} (h : Chain es l t) (ht : t ≤ 700) (e : D) (hn : e.noref = true) {b : Bool} (hb : U 38 i_can_be false [l.s, e] [] = .ok (.bl b) []) : U 39 i_can_event false [.tup es, e] [] = .ok (.bl b) [] := by
  rw [U, u_can_event 38]
  refine post_ok' (n := 0) (x := 0) (r := .no) _ _ _ (r_end (r_ret (r_call (r_evs2 (r_call (r_evs1 (r_v rfl)) (callT_pure (state_ok 34 h ht) ?_ (h.ok.s (by omega)))) (r_v rfl)) (callT_pure hb ?_ rfl)))) rfl
  · simp [D.norefs, D.noref, h.nr]
  · simp [D.norefs, hn, h.ok.s (show t ≤ 900 by omega)]
end Lk87
namespace Lk87
open PySem PD
/-! ### _law_later -/
def bigS : PD.S := (.ite (.and (.cons (.op .eq (.v 9) (.c (.str "manual"))) (.cons (.op .eq (.bi false .len (.cons (.v 10) .nil)) (.c (.int 1))) (.cons (.call false i__law_is_text (.cons (.op .ix (.v 10) (.c (.int 0))) .nil) []) .nil)))) (.cons (.asg (.nm 11) (.tup (.cons (.op .ix (.v 10) (.c (.int 0))) (.cons (.v 6) (.cons (.v 7) (.cons (.v 8) .nil)))))) .nil) (.cons (.ite (.and (.cons (.op .eq (.v 9) (.c (.str "unit"))) (.cons (.op .eq (.bi false .len (.cons (.v 10) .nil)) (.c (.int 2))) (.cons (.call false i__law_is_name (.cons (.op .ix (.v 10) (.c (.int 0))) .nil) []) (.cons (.call false i__law_is_text (.cons (.op .ix (.v 10) (.c (.int 1))) .nil) []) .nil))))) (.cons (.asg (.nm 12) (.lc false [14, 15] (.v 14) (.tp (.cons (.nm 14) (.cons (.nm 15) .nil))) (.val (.v 6)) .nil)) (.cons (.asg (.nm 13) (.ite (.op .isin (.op .ix (.v 10) (.c (.int 0))) (.v 12)) (.tup .nil) (.tup (.cons (.v 10) .nil)))) (.cons (.asg (.nm 11) (.tup (.cons (.v 5) (.cons (.op .add (.bi false .tup (.cons (.lc false [16] (.ite (.op .eq (.op .ix (.v 16) (.c (.int 0))) (.op .ix (.v 10) (.c (.int 0)))) (.v 10) (.v 16)) (.nm 16) (.val (.v 6)) .nil) .nil)) (.v 13)) (.cons (.v 7) (.cons (.v 8) .nil)))))) .nil))) (.cons (.ite (.and (.cons (.op .eq (.v 9) (.c (.str "drop"))) (.cons (.op .eq (.bi false .len (.cons (.v 10) .nil)) (.c (.int 1))) (.cons (.call false i__law_is_name (.cons (.op .ix (.v 10) (.c (.int 0))) .nil) []) .nil)))) (.cons (.asg (.nm 11) (.tup (.cons (.v 5) (.cons (.bi false .tup (.cons (.lc false [16] (.v 16) (.nm 16) (.val (.v 6)) (.cons (.op .ne (.op .ix (.v 16) (.c (.int 0))) (.op .ix (.v 10) (.c (.int 0)))) .nil)) .nil)) (.cons (.v 7) (.cons (.v 8) .nil)))))) .nil) (.cons (.ite (.and (.cons (.op .eq (.v 9) (.c (.str "main"))) (.cons (.op .eq (.bi false .len (.cons (.v 10) .nil)) (.c (.int 1))) (.cons (.call false i__law_is_name (.cons (.op .ix (.v 10) (.c (.int 0))) .nil) []) .nil)))) (.cons (.asg (.nm 11) (.tup (.cons (.v 5) (.cons (.v 6) (.cons (.op .ix (.v 10) (.c (.int 0))) (.cons (.v 8) .nil)))))) .nil) (.cons (.ite (.and (.cons (.op .eq (.v 9) (.c (.str "ran"))) (.cons (.op .eq (.bi false .len (.cons (.v 10) .nil)) (.c (.int 1))) (.cons (.call false i__law_is_run (.cons (.op .ix (.v 10) (.c (.int 0))) .nil) []) .nil)))) (.cons (.asg (.nm 11) (.tup (.cons (.v 5) (.cons (.v 6) (.cons (.v 7) (.cons (.op .add (.v 8) (.v 10)) .nil)))))) .nil) (.cons (.ite (.op .ne (.v 10) (.tup .nil)) (.cons (.ret (.c (.non))) .nil) (.cons (.ite (.op .eq (.v 9) (.c (.str "undo"))) (.cons (.ret (.ite (.op .ne (.v 3) (.ls false .nil)) (.tup (.cons (.op .ix (.v 3) (.op .sub (.bi false .len (.cons (.v 3) .nil)) (.c (.int 1)))) (.cons (.sl false (.v 3) .nul (.op .sub (.bi false .len (.cons (.v 3) .nil)) (.c (.int 1)))) (.cons (.op .add (.v 4) (.ls false (.cons (.v 2) .nil))) .nil)))) (.c (.non)))) .nil) (.cons (.ite (.op .eq (.v 9) (.c (.str "redo"))) (.cons (.ret (.ite (.op .ne (.v 4) (.ls false .nil)) (.tup (.cons (.op .ix (.v 4) (.op .sub (.bi false .len (.cons (.v 4) .nil)) (.c (.int 1)))) (.cons (.op .add (.v 3) (.ls false (.cons (.v 2) .nil))) (.cons (.sl false (.v 4) .nul (.op .sub (.bi false .len (.cons (.v 4) .nil)) (.c (.int 1)))) .nil)))) (.c (.non)))) .nil) (.cons (.ret (.ite (.op .eq (.v 9) (.c (.str "close"))) (.tup (.cons (.v 2) (.cons (.ls false .nil) (.cons (.ls false .nil) .nil)))) (.c (.non)))) .nil)) .nil)) .nil)) .nil)) .nil)) .nil)) .nil)) .nil))
def retS : PD.S := (.ret (.tup (.cons (.v 11) (.cons (.op .add (.v 3) (.ls false (.cons (.v 2) .nil))) (.cons (.ls false .nil) .nil)))))
def envL (l : Life) (e w rest : D) (new : Option D) (x12 x13 : Option D) : PD.Env := [some l.l, some e, some l.S.enc, some (.lst (l.P.map Sd.enc)), some (.lst (l.F.map Sd.enc)), some l.S.m, some (.tup (l.S.us.map row)), some l.S.mn, some (.tup l.S.rs), some w, some rest, new, x12, x13, none, none, none]
theorem eqOk_nil {x : D} (h : x.plain = true) (y : D) (hy : y.plain = true) (hd : y.depth ≤ 1) : eqOk x y = true := by
  unfold eqOk
  rw [h, hy]
  simp only [Bool.and_self, Bool.true_and, decide_eq_true_eq]
  exact Nat.le_trans (Nat.min_le_right _ _) (by omega)
theorem eq_nil (d : D) (ds : List D) (h : D.plains (d :: ds) = true) : op2 .eq (.tup (d :: ds)) (.tup []) = some (.bl false) := by
  show (if eqOk (.tup (d :: ds)) (.tup []) then some (D.bl (D.eqv (.tup (d :: ds)) (.tup []))) else none) = _
  rw [if_pos (eqOk_nil (by simpa only [D.plain] using h) _ rfl (by decide))]
  rfl
theorem ne_nil (d : D) (ds : List D) (h : D.plains (d :: ds) = true) : op2 .ne (.tup (d :: ds)) (.tup []) = some (.bl true) := by
  show (if eqOk (.tup (d :: ds)) (.tup []) then some (D.bl (!D.eqv (.tup (d :: ds)) (.tup []))) else none) = _
  rw [if_pos (eqOk_nil (by simpa only [D.plain] using h) _ rfl (by decide))]
  rfl
theorem ne_lnil (ds : List D) (h : D.plains ds = true) : op2 .ne (.lst ds) (.lst []) = some (.bl (!ds.isEmpty)) := by
  show (if eqOk (.lst ds) (.lst []) then some (D.bl (!D.eqv (.lst ds) (.lst []))) else none) = _
  rw [if_pos (eqOk_nil (by simpa only [D.plain] using h) _ rfl (by decide))]
  cases ds <;> rfl
theorem cut1 (a : D) (r : List D) : PD.cut (a :: r) (some 1) none = r := by
  unfold PD.cut
  have h1 : HT.sIx (a :: r).length 0 (some 1) = 1 := by
    unfold HT.sIx
    simp
  have h2 : HT.sIx (a :: r).length (a :: r).length none = r.length + 1 := rfl
  rw [h1, h2]
  simp
theorem plains_gd {k : Nat} {d : D} (h : gd k d = true) : d.plain = true := by
  induction k generalizing d with
  | zero => cases d <;> first | rfl | (simp [gd] at h)
  | succ k ih =>
    cases d with
    | tup ds =>
      simp only [gd, Bool.and_eq_true, List.all_eq_true] at h
      simp only [D.plain]
      have h2 := h.2
      clear h
      induction ds with
      | nil => rfl
      | cons d ds ih2 =>
        simp only [D.plains, Bool.and_eq_true]
        exact ⟨ih (h2 d List.mem_cons_self), ih2 fun x hx => h2 x (List.mem_cons_of_mem _ hx)⟩
    | _ => first | rfl | (simp [gd] at h)
theorem encs_plain {t : Nat} (ht : t ≤ 900) : ∀ {P : List Sd}, (∀ S ∈ P, OkS t S) → D.plains (P.map Sd.enc) = true
  | [], _ => rfl
  | S :: P, h => by
    simp only [List.map_cons, D.plains, Bool.and_eq_true]
    exact ⟨plains_gd ((h S List.mem_cons_self).gd ht), encs_plain ht fun X hX => h X (List.mem_cons_of_mem _ hX)⟩
theorem r_slL {T : Tbl} {s : PD.Env} {M M1 : Mem} {x d : D} {a lo : E} {j : Int} (h1 : PD.ev T a s M = .ok x M1) (h2 : PD.ev T lo s M1 = .ok (.int j) M1) (hp : partOf lo (.int j) = some (some j)) (h3 : opSl (x.val M1) (some j) none = some d) : PD.ev T (.sl false a lo .nul) s M = .ok d M1 := by
  rw [PD.ev, h1]
  simp only [R.bind]
  rw [h2]
  simp only [R.bind]
  rw [show PD.ev T .nul s M1 = .ok .non M1 from by rw [PD.ev]]
  simp only [R.bind, hp]
  show (match opSl (x.val M1) (some j) none with
      | some d => alloc false d M1
      | none => .no) = _
  rw [h3]; rfl
theorem later_pre (n : Nat) (l : Life) (w : Str) (rest : List D) (hp : D.plains rest = true) {o : PD.O} (k : PD.execs (tbl T.fns n) (.cons bigS (.cons retS .nil)) (envL l (.tup (.str w :: rest)) (.str w) (.tup rest) none none none) [] = o) :
    PD.execs (tbl T.fns n) b__law_later [some l.l, some (.tup (.str w :: rest)), none, none, none, none, none, none, none, none, none, none, none, none, none, none, none] [] = o := by
  refine r_cons (s' := [some l.l, some (.tup (.str w :: rest)), some l.S.enc, some (.lst (l.P.map Sd.enc)), some (.lst (l.F.map Sd.enc)), none, none, none, none, none, none, none, none, none, none, none, none]) (M' := []) rfl ?_
  refine r_cons (r_ifF (r_or (r_orF (r_not (b := true) (r_isi (r_v rfl) rfl)) (r_orF (r_op (r_v rfl) (r_tup r_evs0) (eq_nil _ _ (by simpa only [D.plains, D.plain, Bool.true_and] using hp))) (r_orF (r_not (b := true) (r_isi (r_op (z := .str w) (r_v rfl) r_c (ix0 _ _)) rfl)) r_or0)))) r_nil) ?_
  refine r_cons (s' := [some l.l, some (.tup (.str w :: rest)), some l.S.enc, some (.lst (l.P.map Sd.enc)), some (.lst (l.F.map Sd.enc)), some l.S.m, some (.tup (l.S.us.map row)), some l.S.mn, some (.tup l.S.rs), none, none, none, none, none, none, none, none]) (M' := []) rfl ?_
  refine r_cons (s' := envL l (.tup (.str w :: rest)) (.str w) (.tup rest) none none none) (M' := []) ?_ k
  have e1 : PD.ev (tbl T.fns n) (.tup (.cons (.op .ix (.v 1) (.c (.int 0))) (.cons (.sl false (.v 1) (.c (.int 1)) .nul) .nil))) [some l.l, some (.tup (.str w :: rest)), some l.S.enc, some (.lst (l.P.map Sd.enc)), some (.lst (l.F.map Sd.enc)), some l.S.m, some (.tup (l.S.us.map row)), some l.S.mn, some (.tup l.S.rs), none, none, none, none, none, none, none, none] [] = .ok (.tup [.str w, .tup rest]) [] := by
    refine r_tup (r_evs2 (r_op (z := .str w) (r_v rfl) r_c (ix0 _ _)) (r_slL (r_v rfl) r_c rfl ?_))
    show some (D.tup (PD.cut (.str w :: rest) (some 1) none)) = _
    rw [cut1]
  rw [PD.exec, e1]
  rfl
theorem later_ret (n : Nat) (l : Life) (e w rest new x12 x13 : D) (y12 y13 : Option D) (hl : l.P.length ≤ 800) : PD.execs (tbl T.fns n) (.cons retS .nil) (envL l e w rest (some new) y12 y13) [] = .rt (.tup [new, .lst ((l.P ++ [l.S]).map Sd.enc), .lst []]) [] := by
  refine r_end (r_ret (r_tup (r_evs (r_v rfl) (r_evs2 (r_op (r_v rfl) (r_ls0 (r_evs1 (r_v rfl))) ?_) (r_ls0 r_evs0)))))
  show op2 .add (.lst (l.P.map Sd.enc)) (.lst [l.S.enc]) = _
  rw [add_lst (by simp; omega)]; simp
end Lk87
namespace Lk87
open PySem PD
abbrev BR : Ss := .cons bigS (.cons retS .nil)
abbrev T8 : Tbl := tbl T.fns 38
def nxt (l : Life) (a : Act) : Life := ⟨edit l.S a, l.P ++ [l.S], []⟩
theorem later_man (l : Life) (hP : l.P.length ≤ 800) {y : Str} {b : Bool} (hb : U 38 i__law_is_text false [.str y] [] = .ok (.bl b) []) :
    PD.execs T8 BR (envL l (.tup [.str "manual", .str y]) (.str "manual") (.tup [.str y]) none none none) [] = .rt (if b then (nxt l (.man (.str y))).l else .non) [] := by
  have c1 : PD.ev T8 (.call false i__law_is_text (.cons (.op .ix (.v 10) (.c (.int 0))) .nil) []) (envL l (.tup [.str "manual", .str y]) (.str "manual") (.tup [.str y]) none none none) [] = .ok (.bl b) [] :=
    r_call (r_evs1 (x := .str y) (r_op (r_v rfl) r_c (ix0 _ _))) (callT_pure hb rfl rfl)
  cases b with
  | true =>
    refine r_cons (s' := envL l _ _ _ (some (edit l.S (.man (.str y))).enc) none none) (M' := []) (r_ifT (M1 := []) (r_and (r_andT (M1 := []) (by kernel_rfl) (r_andT (M1 := []) (by kernel_rfl) (r_and1 c1)))) (r_cons (r_asg (d := (edit l.S (.man (.str y))).enc) (M1 := []) ?_) r_nil)) (later_ret 38 l _ _ _ _ .non .non _ _ hP)
    exact r_tup (r_evs (x := .str y) (r_op (r_v rfl) r_c (ix0 _ _)) (r_evs (r_v rfl) (r_evs2 (r_v rfl) (r_v rfl))))
  | false =>
    exact r_end (r_ifF (M1 := []) (r_and (r_andT (M1 := []) (by kernel_rfl) (r_andT (M1 := []) (by kernel_rfl) (r_and1 c1)))) (r_end (r_ifF (M1 := []) (by kernel_rfl) (r_end (r_ifF (M1 := []) (by kernel_rfl) (r_end (r_ifF (M1 := []) (by kernel_rfl) (r_end (r_ifF (M1 := []) (by kernel_rfl) (r_end (r_ifT (M1 := []) (by kernel_rfl) (r_end (r_ret r_c)))))))))))))
theorem later_main (l : Life) (hP : l.P.length ≤ 800) {y : Str} {b : Bool} (hb : U 38 i__law_is_name false [.str y] [] = .ok (.bl b) []) :
    PD.execs T8 BR (envL l (.tup [.str "main", .str y]) (.str "main") (.tup [.str y]) none none none) [] = .rt (if b then (nxt l (.main y)).l else .non) [] := by
  have c1 : PD.ev T8 (.call false i__law_is_name (.cons (.op .ix (.v 10) (.c (.int 0))) .nil) []) (envL l (.tup [.str "main", .str y]) (.str "main") (.tup [.str y]) none none none) [] = .ok (.bl b) [] :=
    r_call (r_evs1 (x := .str y) (r_op (r_v rfl) r_c (ix0 _ _))) (callT_pure hb rfl rfl)
  cases b with
  | true =>
    refine r_cons (s' := envL l _ _ _ (some (edit l.S (.main y)).enc) none none) (M' := []) (r_ifF (M1 := []) (by kernel_rfl) (r_cons (r_ifF (M1 := []) (by kernel_rfl) (r_cons (r_ifF (M1 := []) (by kernel_rfl) (r_cons (r_ifT (M1 := []) (r_and (r_andT (M1 := []) (by kernel_rfl) (r_andT (M1 := []) (by kernel_rfl) (r_and1 c1)))) (r_cons (r_asg (d := (edit l.S (.main y)).enc) (M1 := []) ?_) r_nil)) r_nil)) r_nil)) r_nil)) (later_ret 38 l _ _ _ _ .non .non _ _ hP)
    exact r_tup (r_evs (r_v rfl) (r_evs (r_v rfl) (r_evs2 (x := .str y) (r_op (r_v rfl) r_c (ix0 _ _)) (r_v rfl))))
  | false =>
    exact r_end (r_ifF (M1 := []) (by kernel_rfl) (r_end (r_ifF (M1 := []) (by kernel_rfl) (r_end (r_ifF (M1 := []) (by kernel_rfl) (r_end (r_ifF (M1 := []) (r_and (r_andT (M1 := []) (by kernel_rfl) (r_andT (M1 := []) (by kernel_rfl) (r_and1 c1)))) (r_end (r_ifF (M1 := []) (by kernel_rfl) (r_end (r_ifT (M1 := []) (by kernel_rfl) (r_end (r_ret r_c)))))))))))))
theorem later_drop (l : Life) (hP : l.P.length ≤ 800) (hU : l.S.us.length ≤ 900) {y : Str} {b : Bool} (hb : U 38 i__law_is_name false [.str y] [] = .ok (.bl b) []) :
    PD.execs T8 BR (envL l (.tup [.str "drop", .str y]) (.str "drop") (.tup [.str y]) none none none) [] = .rt (if b then (nxt l (.drop y)).l else .non) [] := by
  have c1 : PD.ev T8 (.call false i__law_is_name (.cons (.op .ix (.v 10) (.c (.int 0))) .nil) []) (envL l (.tup [.str "drop", .str y]) (.str "drop") (.tup [.str y]) none none none) [] = .ok (.bl b) [] :=
    r_call (r_evs1 (x := .str y) (r_op (r_v rfl) r_c (ix0 _ _))) (callT_pure hb rfl rfl)
  cases b with
  | true =>
    refine r_cons (s' := envL l _ _ _ (some (edit l.S (.drop y)).enc) none none) (M' := []) (r_ifF (M1 := []) (by kernel_rfl) (r_cons (r_ifF (M1 := []) (by kernel_rfl) (r_cons (r_ifT (M1 := []) (r_and (r_andT (M1 := []) (by kernel_rfl) (r_andT (M1 := []) (by kernel_rfl) (r_and1 c1)))) (r_cons (r_asg (d := (edit l.S (.drop y)).enc) (M1 := []) ?_) r_nil)) r_nil)) r_nil)) (later_ret 38 l _ _ _ _ .non .non _ _ hP)
    refine r_tup (r_evs (r_v rfl) (r_evs (x := .tup ((l.S.us.filter fun p => !decide (p.1 = y)).map row)) (M1 := []) ?_ (r_evs2 (r_v rfl) (r_v rfl))))
    refine r_bi (r_evs1 (r_lc (r_val (r_v rfl) rfl) (nine (by rw [List.length_map]; omega)) (drop_ok (x := y) fun p hp => ?_))) rfl
    have hc : PD.ev T8 (.op .ne (.op .ix (.v 16) (.c (.int 0))) (.op .ix (.v 10) (.c (.int 0)))) ((envL l (.tup [.str "drop", .str y]) (.str "drop") (.tup [.str y]) none none none).set 16 (some (row p))) [] = .ok (.bl (!decide (p.1 = y))) [] := by
      refine r_op (r_op (z := .str p.1) (r_v rfl) r_c rfl) (r_op (z := .str y) (r_v rfl) r_c rfl) ?_
      exact ne_str _ _
    by_cases hx : p.1 = y
    · rw [if_pos hx]
      exact lcN rfl (r_andF (hc.trans (by simp [hx])))
    · rw [if_neg hx]
      exact lcS (s' := (envL l (.tup [.str "drop", .str y]) (.str "drop") (.tup [.str y]) none none none).set 16 (some (row p))) (M1 := []) rfl (r_andT (hc.trans (by simp [hx])) r_and0) (r_v rfl)
  | false =>
    exact r_end (r_ifF (M1 := []) (by kernel_rfl) (r_end (r_ifF (M1 := []) (by kernel_rfl) (r_end (r_ifF (M1 := []) (r_and (r_andT (M1 := []) (by kernel_rfl) (r_andT (M1 := []) (by kernel_rfl) (r_and1 c1)))) (r_end (r_ifF (M1 := []) (by kernel_rfl) (r_end (r_ifF (M1 := []) (by kernel_rfl) (r_end (r_ifT (M1 := []) (by kernel_rfl) (r_end (r_ret r_c)))))))))))))
theorem later_ran (l : Life) (hP : l.P.length ≤ 800) (hR : l.S.rs.length ≤ 800) {r : D} (hp : r.plain = true) (hn : r.noref = true) {b : Bool} (hb : U 38 i__law_is_run false [r] [] = .ok (.bl b) []) :
    PD.execs T8 BR (envL l (.tup [.str "ran", r]) (.str "ran") (.tup [r]) none none none) [] = .rt (if b then (nxt l (.ran r)).l else .non) [] := by
  have c1 : PD.ev T8 (.call false i__law_is_run (.cons (.op .ix (.v 10) (.c (.int 0))) .nil) []) (envL l (.tup [.str "ran", r]) (.str "ran") (.tup [r]) none none none) [] = .ok (.bl b) [] :=
    r_call (r_evs1 (x := r) (r_op (r_v rfl) r_c (ix0 _ _))) (callT_pure hb (by simp [D.norefs, hn]) rfl)
  cases b with
  | true =>
    refine r_cons (s' := envL l _ _ _ (some (edit l.S (.ran r)).enc) none none) (M' := []) (r_ifF (M1 := []) (by kernel_rfl) (r_cons (r_ifF (M1 := []) (by kernel_rfl) (r_cons (r_ifF (M1 := []) (by kernel_rfl) (r_cons (r_ifF (M1 := []) (by kernel_rfl) (r_cons (r_ifT (M1 := []) (r_and (r_andT (M1 := []) (by kernel_rfl) (r_andT (M1 := []) (by kernel_rfl) (r_and1 c1)))) (r_cons (r_asg (d := (edit l.S (.ran r)).enc) (M1 := []) ?_) r_nil)) r_nil)) r_nil)) r_nil)) r_nil)) (later_ret 38 l _ _ _ _ .non .non _ _ hP)
    refine r_tup (r_evs (r_v rfl) (r_evs (r_v rfl) (r_evs2 (r_v rfl) (r_op (r_v rfl) (r_v rfl) ?_))))
    exact add_tup (by simp; omega)
  | false =>
    exact r_end (r_ifF (M1 := []) (by kernel_rfl) (r_end (r_ifF (M1 := []) (by kernel_rfl) (r_end (r_ifF (M1 := []) (by kernel_rfl) (r_end (r_ifF (M1 := []) (by kernel_rfl) (r_end (r_ifF (M1 := []) (r_and (r_andT (M1 := []) (by kernel_rfl) (r_andT (M1 := []) (by kernel_rfl) (r_and1 c1)))) (r_end (r_ifT (M1 := []) (r_op (r_v rfl) (r_tup r_evs0) (ne_nil _ _ (by simp [D.plains, hp]))) (r_end (r_ret r_c)))))))))))))
end Lk87
namespace Lk87
open PySem PD
theorem later_unit (l : Life) (hP : l.P.length ≤ 800) (hU : l.S.us.length ≤ 900) {y z : Str} {b c : Bool} (hb : U 38 i__law_is_name false [.str y] [] = .ok (.bl b) []) (hc : U 38 i__law_is_text false [.str z] [] = .ok (.bl c) []) :
    PD.execs T8 BR (envL l (.tup [.str "unit", .str y, .str z]) (.str "unit") (.tup [.str y, .str z]) none none none) [] = .rt (if (b && c) then (nxt l (.unit y (.str z))).l else .non) [] := by
  have c1 : PD.ev T8 (.call false i__law_is_name (.cons (.op .ix (.v 10) (.c (.int 0))) .nil) []) (envL l (.tup [.str "unit", .str y, .str z]) (.str "unit") (.tup [.str y, .str z]) none none none) [] = .ok (.bl b) [] :=
    r_call (r_evs1 (x := .str y) (r_op (r_v rfl) r_c (ix0 _ _))) (callT_pure hb rfl rfl)
  have c2 : PD.ev T8 (.call false i__law_is_text (.cons (.op .ix (.v 10) (.c (.int 1))) .nil) []) (envL l (.tup [.str "unit", .str y, .str z]) (.str "unit") (.tup [.str y, .str z]) none none none) [] = .ok (.bl c) [] :=
    r_call (r_evs1 (x := .str z) (r_op (r_v rfl) r_c rfl)) (callT_pure hc rfl rfl)
  have cc : PD.ev T8 (.and (.cons (.op .eq (.v 9) (.c (.str "unit"))) (.cons (.op .eq (.bi false .len (.cons (.v 10) .nil)) (.c (.int 2))) (.cons (.call false i__law_is_name (.cons (.op .ix (.v 10) (.c (.int 0))) .nil) []) (.cons (.call false i__law_is_text (.cons (.op .ix (.v 10) (.c (.int 1))) .nil) []) .nil))))) (envL l (.tup [.str "unit", .str y, .str z]) (.str "unit") (.tup [.str y, .str z]) none none none) [] = .ok (.bl (b && c)) [] := by
    refine r_and (r_andT (M1 := []) (by kernel_rfl) (r_andT (M1 := []) (by kernel_rfl) ?_))
    cases b with
    | false => exact r_andF c1
    | true => exact r_andT c1 (r_and1 c2)
  cases hbc : (b && c) with
  | true =>
    rw [hbc] at cc
    have hl2 : (l.S.us.map row).length ≤ sizeLine := nine (by rw [List.length_map]; omega)
    have e1 : PD.ev T8 (.lc false [14, 15] (.v 14) (.tp (.cons (.nm 14) (.cons (.nm 15) .nil))) (.val (.v 6)) .nil) (envL l (.tup [.str "unit", .str y, .str z]) (.str "unit") (.tup [.str y, .str z]) none none none) [] = .ok (.lst (l.S.us.map fun p => .str p.1)) [] := by
      refine r_lc (r_val (r_v rfl) rfl) hl2 ?_
      refine lcLoop_all (g := row) fun p hp => ?_
      exact lcS (s' := ((envL l (.tup [.str "unit", .str y, .str z]) (.str "unit") (.tup [.str y, .str z]) none none none).set 14 (some (.str p.1))).set 15 (some p.2)) (M1 := []) rfl r_and0 (r_v rfl)
    have more : ∃ m : List (Str × D), m = (if l.S.us.any (fun p => decide (p.1 = y)) then [] else [(y, D.str z)]) ∧ PD.ev T8 (.ite (.op .isin (.op .ix (.v 10) (.c (.int 0))) (.v 12)) (.tup .nil) (.tup (.cons (.v 10) .nil))) (envL l (.tup [.str "unit", .str y, .str z]) (.str "unit") (.tup [.str y, .str z]) none (some (.lst (l.S.us.map fun p => .str p.1))) none) [] = .ok (.tup (m.map row)) [] := by
      have e2 : PD.ev T8 (.op .isin (.op .ix (.v 10) (.c (.int 0))) (.v 12)) (envL l (.tup [.str "unit", .str y, .str z]) (.str "unit") (.tup [.str y, .str z]) none (some (.lst (l.S.us.map fun p => .str p.1))) none) [] = .ok (.bl (l.S.us.any fun p => decide (p.1 = y))) [] :=
        r_op (x := .str y) (r_op (r_v rfl) r_c (ix0 _ _)) (r_v rfl) (isin_strs y l.S.us)
      cases ha : l.S.us.any fun p => decide (p.1 = y) with
      | true => exact ⟨[], rfl, r_iteT (e2.trans (by rw [ha])) (r_tup r_evs0)⟩
      | false => exact ⟨[(y, .str z)], rfl, r_iteF (e2.trans (by rw [ha])) (r_tup (r_evs1 (r_v rfl)))⟩
    obtain ⟨m, hm, e3⟩ := more
    have hml : m.length ≤ 1 := by rw [hm]; split <;> simp
    have e4 : PD.ev T8 (.lc false [16] (.ite (.op .eq (.op .ix (.v 16) (.c (.int 0))) (.op .ix (.v 10) (.c (.int 0)))) (.v 10) (.v 16)) (.nm 16) (.val (.v 6)) .nil) (envL l (.tup [.str "unit", .str y, .str z]) (.str "unit") (.tup [.str y, .str z]) none (some (.lst (l.S.us.map fun p => .str p.1))) (some (.tup (m.map row)))) [] = .ok (.lst ((l.S.us.map fun p => if p.1 = y then (y, .str z) else p).map row)) [] := by
      refine r_lc (r_val (r_v rfl) rfl) hl2 ?_
      rw [List.map_map]
      refine lcLoop_all (g := row) fun p hp => ?_
      have hq : PD.ev T8 (.op .eq (.op .ix (.v 16) (.c (.int 0))) (.op .ix (.v 10) (.c (.int 0)))) ((envL l (.tup [.str "unit", .str y, .str z]) (.str "unit") (.tup [.str y, .str z]) none (some (.lst (l.S.us.map fun p => .str p.1))) (some (.tup (m.map row)))).set 16 (some (row p))) [] = .ok (.bl (decide (p.1 = y))) [] := by
        refine r_op (r_op (z := .str p.1) (r_v rfl) r_c rfl) (r_op (z := .str y) (r_v rfl) r_c (ix0 _ _)) ?_
        exact eq_str _ _
      refine lcS (s' := (envL l (.tup [.str "unit", .str y, .str z]) (.str "unit") (.tup [.str y, .str z]) none (some (.lst (l.S.us.map fun p => .str p.1))) (some (.tup (m.map row)))).set 16 (some (row p))) (M1 := []) rfl r_and0 ?_
      by_cases hx : p.1 = y
      · refine r_iteT (M1 := []) (hq.trans (by simp [hx])) ?_
        simp only [Function.comp, hx, if_true]
        exact r_v rfl
      · refine r_iteF (M1 := []) (hq.trans (by simp [hx])) ?_
        simp only [Function.comp, hx, if_false]
        exact r_v rfl
    refine r_cons (s' := envL l _ _ _ (some (edit l.S (.unit y (.str z))).enc) (some (.lst (l.S.us.map fun p => .str p.1))) (some (.tup (m.map row)))) (M' := []) (r_ifF (M1 := []) (by kernel_rfl) (r_cons (r_ifT cc (r_cons (r_asg e1) (r_cons (r_asg e3) (r_cons (r_asg (d := (edit l.S (.unit y (.str z))).enc) (M1 := []) ?_) r_nil)))) r_nil)) (later_ret 38 l _ _ _ _ .non .non _ _ hP)
    refine r_tup (r_evs (r_v rfl) (r_evs (x := .tup ((putU l.S.us y (.str z)).map row)) (M1 := []) (r_op (r_bi (r_evs1 e4) rfl) (r_v rfl) ?_) (r_evs2 (r_v rfl) (r_v rfl))))
    show op2 .add (.tup ((l.S.us.map fun p => if p.1 = y then (y, .str z) else p).map row)) (.tup (m.map row)) = _
    rw [add_tup (by simp; omega), hm]
    unfold putU
    rw [List.map_append]
  | false =>
    rw [hbc] at cc
    exact r_end (r_ifF (M1 := []) (by kernel_rfl) (r_end (r_ifF cc (r_end (r_ifF (M1 := []) (by kernel_rfl) (r_end (r_ifF (M1 := []) (by kernel_rfl) (r_end (r_ifF (M1 := []) (by kernel_rfl) (r_end (r_ifT (M1 := []) (by kernel_rfl) (r_end (r_ret r_c)))))))))))))
theorem r_sub {T : Tbl} {s : PD.Env} {M : Mem} {k : Nat} {xs : List D} (h : s[k]? = some (some (.lst xs))) : PD.ev T (.op .sub (.bi false .len (.cons (.v k) .nil)) (.c (.int 1))) s M = .ok (.int ((xs.length : Int) - 1)) M := r_op (r_bi (r_evs1 (r_v h)) rfl) r_c rfl
theorem atD_len {xs : List D} {d : D} (h : xs.getLast? = some d) : atD xs ((xs.length : Int) - 1) = some d := by
  obtain ⟨ys, rfl⟩ := List.getLast?_eq_some_iff.mp h
  have e : (((ys ++ [d]).length : Int) - 1) = (ys.length : Int) := by simp
  rw [e]
  unfold atD L2.atI
  rw [Evl.ixN_nat (by simp)]
  simp
theorem later_undo (l : Life) (t : Nat) (ht : t ≤ 700) (h : OkL t l) : PD.execs T8 BR (envL l (.tup [.str "undo"]) (.str "undo") (.tup []) none none none) [] = .rt (match app l .undo with | some l' => l'.l | none => .non) [] := by
  have hc : PD.ev T8 (.op .ne (.v 3) (.ls false .nil)) (envL l (.tup [.str "undo"]) (.str "undo") (.tup []) none none none) [] = .ok (.bl (!(l.P.map Sd.enc).isEmpty)) [] :=
    r_op (r_v rfl) (r_ls0 r_evs0) (ne_lnil _ (encs_plain (t := t) (by omega) h.P))
  have lf := h.lf
  refine r_end (r_ifF (M1 := []) (by kernel_rfl) (r_end (r_ifF (M1 := []) (by kernel_rfl) (r_end (r_ifF (M1 := []) (by kernel_rfl) (r_end (r_ifF (M1 := []) (by kernel_rfl) (r_end (r_ifF (M1 := []) (by kernel_rfl) (r_end (r_ifF (M1 := []) (by kernel_rfl) (r_end (r_ifT (M1 := []) (by kernel_rfl) (r_end (r_ret ?_)))))))))))))))
  cases hl : l.P.getLast? with
  | none =>
    have hn : l.P = [] := List.getLast?_eq_none_iff.mp hl
    simp only [app, hl, Option.map_none]
    exact r_iteF (hc.trans (by simp [hn])) r_c
  | some S =>
    have hne := ne_of_last hl
    simp only [app, hl, Option.map_some]
    refine r_iteT (M1 := []) (hc.trans (by simp at hne; simp [hne])) (r_tup (r_evs (x := S.enc) (M1 := []) (r_op (r_v rfl) (r_sub rfl) ?_) (r_evs2 (x := .lst (l.P.dropLast.map Sd.enc)) (M1 := []) (r_slH (r_v rfl) (r_sub rfl) rfl ?_) (r_op (r_v rfl) (r_ls0 (r_evs1 (r_v rfl))) ?_))))
    · show atD (l.P.map Sd.enc) (((l.P.map Sd.enc).length : Int) - 1) = _
      exact atD_len (last_enc hl)
    · show some (D.lst (PD.cut (l.P.map Sd.enc) none (some (((l.P.map Sd.enc).length : Int) - 1)))) = _
      rw [cut_last2 _ hne, List.map_dropLast]
    · show op2 .add (.lst (l.F.map Sd.enc)) (.lst [l.S.enc]) = _
      rw [add_lst (by simp; omega)]; simp
theorem later_redo (l : Life) (t : Nat) (ht : t ≤ 700) (h : OkL t l) : PD.execs T8 BR (envL l (.tup [.str "redo"]) (.str "redo") (.tup []) none none none) [] = .rt (match app l .redo with | some l' => l'.l | none => .non) [] := by
  have hc : PD.ev T8 (.op .ne (.v 4) (.ls false .nil)) (envL l (.tup [.str "redo"]) (.str "redo") (.tup []) none none none) [] = .ok (.bl (!(l.F.map Sd.enc).isEmpty)) [] :=
    r_op (r_v rfl) (r_ls0 r_evs0) (ne_lnil _ (encs_plain (t := t) (by omega) h.F))
  have lp := h.lp
  refine r_end (r_ifF (M1 := []) (by kernel_rfl) (r_end (r_ifF (M1 := []) (by kernel_rfl) (r_end (r_ifF (M1 := []) (by kernel_rfl) (r_end (r_ifF (M1 := []) (by kernel_rfl) (r_end (r_ifF (M1 := []) (by kernel_rfl) (r_end (r_ifF (M1 := []) (by kernel_rfl) (r_end (r_ifF (M1 := []) (by kernel_rfl) (r_end (r_ifT (M1 := []) (by kernel_rfl) (r_end (r_ret ?_)))))))))))))))))
  cases hl : l.F.getLast? with
  | none =>
    have hn : l.F = [] := List.getLast?_eq_none_iff.mp hl
    simp only [app, hl, Option.map_none]
    exact r_iteF (hc.trans (by simp [hn])) r_c
  | some S =>
    have hne := ne_of_last hl
    simp only [app, hl, Option.map_some]
    refine r_iteT (M1 := []) (hc.trans (by simp at hne; simp [hne])) (r_tup (r_evs (x := S.enc) (M1 := []) (r_op (r_v rfl) (r_sub rfl) ?_) (r_evs2 (y := .lst (l.F.dropLast.map Sd.enc)) (M1 := []) (r_op (r_v rfl) (r_ls0 (r_evs1 (r_v rfl))) ?_) (r_slH (r_v rfl) (r_sub rfl) rfl ?_))))
    · show atD (l.F.map Sd.enc) (((l.F.map Sd.enc).length : Int) - 1) = _
      exact atD_len (last_enc hl)
    · show op2 .add (.lst (l.P.map Sd.enc)) (.lst [l.S.enc]) = some (.lst ((l.P ++ [l.S]).map Sd.enc))
      rw [add_lst (by simp; omega)]; simp
    · show some (D.lst (PD.cut (l.F.map Sd.enc) none (some (((l.F.map Sd.enc).length : Int) - 1)))) = _
      rw [cut_last2 _ hne, List.map_dropLast]
theorem later_close (l : Life) : PD.execs T8 BR (envL l (.tup [.str "close"]) (.str "close") (.tup []) none none none) [] = .rt (Life.mk l.S [] []).l [] :=
  r_end (r_ifF (M1 := []) (by kernel_rfl) (r_end (r_ifF (M1 := []) (by kernel_rfl) (r_end (r_ifF (M1 := []) (by kernel_rfl) (r_end (r_ifF (M1 := []) (by kernel_rfl) (r_end (r_ifF (M1 := []) (by kernel_rfl) (r_end (r_ifF (M1 := []) (by kernel_rfl) (r_end (r_ifF (M1 := []) (by kernel_rfl) (r_end (r_ifF (M1 := []) (by kernel_rfl) (r_end (r_ret (r_iteT (M1 := []) (by kernel_rfl) (r_tup (r_evs (r_v rfl) (r_evs2 (r_ls0 r_evs0) (r_ls0 r_evs0))))))))))))))))))))))
end Lk87
namespace Lk87
open PySem PD
theorem later_fin (l : Life) (w : Str) (rest : List D) (d : D) (hp : D.plains rest = true) (h : PD.execs T8 BR (envL l (.tup (.str w :: rest)) (.str w) (.tup rest) none none none) [] = .rt d []) (hd : d.noref = true) : U 39 i__law_later false [l.l, .tup (.str w :: rest)] [] = .ok d [] := by
  rw [U, u__law_later 38]
  exact post_ok' (n := 0) (x := 0) (r := .no) _ _ _ (later_pre 38 l w rest hp h) hd
def Turn (es : List D) (l : Life) (e : D) : Prop := ∃ (b : Bool) (d : D), U 39 i_can_event false [.tup es, e] [] = .ok (.bl b) [] ∧ U 39 i__law_later false [l.l, e] [] = .ok d [] ∧
  ((b = false ∧ d = .non) ∨ (b = true ∧ ∃ a l', a.v ∧ e = a.enc ∧ app l a = some l' ∧ d = l'.l))
theorem odd_can (st : D) : ∀ e ∈ odd, U 38 i_can_be false [st, e] [] = .ok (.bl false) [] := by
  intro e he
  simp only [odd, List.mem_cons, List.not_mem_nil, or_false] at he
  rcases he with rfl | rfl | rfl | rfl | rfl | rfl | rfl | rfl | rfl | rfl | rfl | rfl | rfl | rfl <;> kernel_rfl
theorem odd_later (m us mn rs P F : D) : ∀ e ∈ odd, U 39 i__law_later false [.tup [.tup [m, us, mn, rs], .lst [P], .lst [F]], e] [] = .ok .non [] := by
  intro e he
  simp only [odd, List.mem_cons, List.not_mem_nil, or_false] at he
  rcases he with rfl | rfl | rfl | rfl | rfl | rfl | rfl | rfl | rfl | rfl | rfl | rfl | rfl | rfl <;> kernel_rfl
theorem odd_later' (m us mn rs : D) (P F : List D) : ∀ e ∈ odd, U 39 i__law_later false [.tup [.tup [m, us, mn, rs], .lst P, .lst F], e] [] = .ok .non [] := by
  intro e he
  simp only [odd, List.mem_cons, List.not_mem_nil, or_false] at he
  rcases he with rfl | rfl | rfl | rfl | rfl | rfl | rfl | rfl | rfl | rfl | rfl | rfl | rfl | rfl <;> kernel_rfl
theorem can_undo (l : Life) : U 38 i_can_be false [l.s, .tup [.str "undo"]] [] = .ok (.bl (decide (0 < (l.P.map Sd.enc).length))) [] := by
  rw [U, u_can_be 37]
  refine post_ok' (n := 0) (x := 0) (r := .no) _ _ _ (r_cons (r_ifF (M1 := []) (by kernel_rfl) r_nil) (r_cons (r_ifF (M1 := []) (by kernel_rfl) r_nil) (r_cons (r_ifF (M1 := []) (by kernel_rfl) r_nil) (r_end (r_ifT (M1 := []) (by kernel_rfl) (r_end (r_ret (r_op (r_bi (r_evs1 (x := .tup (l.P.map Sd.enc)) (r_op (r_v rfl) r_c rfl)) rfl) r_c ?_)))))))) rfl
  show op2 .gt (.int ((l.P.map Sd.enc).length : Nat)) (.int 0) = _
  rw [op_gt]
  congr 2
  simp only [Int.natCast_pos]
theorem can_redo (l : Life) : U 38 i_can_be false [l.s, .tup [.str "redo"]] [] = .ok (.bl (decide (0 < (l.F.map Sd.enc).length))) [] := by
  rw [U, u_can_be 37]
  refine post_ok' (n := 0) (x := 0) (r := .no) _ _ _ (r_cons (r_ifF (M1 := []) (by kernel_rfl) r_nil) (r_cons (r_ifF (M1 := []) (by kernel_rfl) r_nil) (r_cons (r_ifF (M1 := []) (by kernel_rfl) r_nil) (r_cons (r_ifF (M1 := []) (by kernel_rfl) r_nil) (r_end (r_ret (r_iteT (M1 := []) (by kernel_rfl) (r_op (r_bi (r_evs1 (x := .tup (l.F.map Sd.enc)) (r_op (r_v rfl) r_c rfl)) rfl) r_c ?_)))))))) rfl
  show op2 .gt (.int ((l.F.map Sd.enc).length : Nat)) (.int 0) = _
  rw [op_gt]
  congr 2
  simp only [Int.natCast_pos]
theorem can_close (l : Life) : U 38 i_can_be false [l.s, .tup [.str "close"]] [] = .ok (.bl true) [] := by kernel_rfl
theorem turn_ok {es : List D} {l : Life} {t : Nat} (h : Chain es l t) (ht : t ≤ 600) (e : D) (hE : Ev e) : Turn es l e := by
  have ok := h.ok
  have hP := ok.lp
  have hU := ok.S.us
  have hR := ok.S.rs
  -- an edit that is said well or not
  have ed : ∀ (a : Act) (w : Str) (y : D) (ys : List D) (b : Bool), a.enc = .tup (.str w :: y :: ys) → app l a = some (nxt l a) → D.norefs (y :: ys) = true → D.plains (y :: ys) = true → op2 .isin (.str w) k_EDITS = some (.bl true) →
      U 37 i_is_edit false [.tup (.str w :: y :: ys)] [] = .ok (.bl b) [] → PD.execs T8 BR (envL l (.tup (.str w :: y :: ys)) (.str w) (.tup (y :: ys)) none none none) [] = .rt (if b then (nxt l a).l else .non) [] → (b = true → a.v) → Turn es l (.tup (.str w :: y :: ys)) := by
    intro a w y ys b ha hap hn hp hin hed hla hv
    have hen : (D.tup (.str w :: y :: ys)).noref = true := by simpa only [D.noref, D.norefs, Bool.true_and] using hn
    refine ⟨b, if b then (nxt l a).l else .non, can_event_ok h (by omega) _ hen (can_edit _ w y ys hin hn hed), later_fin l w (y :: ys) _ hp hla ?_, ?_⟩
    · cases b with
      | true => exact (ok.app (hv rfl) hap).l (by omega)
      | false => rfl
    · cases b with
      | true => exact .inr ⟨rfl, a, nxt l a, hv rfl, ha.symm, hap, rfl⟩
      | false => exact .inl ⟨rfl, rfl⟩
  have un : Turn es l (.tup [.str "undo"]) := by
    have hl := later_fin l "undo" [] _ rfl (later_undo l t (by omega) ok) (by
      cases hq : app l .undo with
      | none => rfl
      | some l' => exact (ok.app (a := .undo) trivial hq).l (by omega))
    have hc := can_event_ok h (by omega) _ rfl (can_undo l)
    cases hq : l.P.getLast? with
    | none =>
      have hn : l.P = [] := List.getLast?_eq_none_iff.mp hq
      have ha : app l .undo = none := by simp [app, hq]
      rw [ha] at hl
      exact ⟨false, .non, hc.trans (by simp [hn]), hl, .inl ⟨rfl, rfl⟩⟩
    | some S =>
      have hne : 0 < (l.P.map Sd.enc).length := List.length_pos_iff.mpr (ne_of_last hq)
      have ha : app l .undo = some ⟨S, l.P.dropLast, l.F ++ [l.S]⟩ := by simp [app, hq]
      rw [ha] at hl
      exact ⟨true, _, hc.trans (by rw [decide_eq_true hne]), hl, .inr ⟨rfl, .undo, _, trivial, rfl, ha, rfl⟩⟩
  rcases hE with hE | ⟨n, t', r, hn, htx, hr, hE⟩
  · refine ⟨false, .non, can_event_ok h (by omega) e (norefs_mem odd_nr e hE) (odd_can _ e hE), odd_later' _ _ _ _ _ _ e hE, .inl ⟨rfl, rfl⟩⟩
  · obtain ⟨x, b, rfl, n1, n2⟩ := name_ok hn
    obtain ⟨y, c, rfl, t1, t2⟩ := text_ok htx
    obtain ⟨q, r1, r2, r3, r4, r5⟩ := run_ok hr
    simp only [some_, List.mem_cons, List.not_mem_nil, or_false] at hE
    rcases hE with rfl | rfl | rfl | rfl | rfl | rfl | rfl | rfl | rfl | rfl
    · exact ed (.man (.str y)) "manual" (.str y) [] c rfl rfl rfl rfl (by decide +kernel) (is_edit_manual t1) (later_man l (by omega) t2) (fun _ => rfl)
    · exact ed (.unit x (.str y)) "unit" (.str x) [.str y] (b && c) rfl rfl rfl rfl (by decide +kernel) (is_edit_unit n1 t1) (later_unit l (by omega) (by omega) n2 t2) (fun _ => rfl)
    · exact ed (.unit x (.str y)) "unit" (.str x) [.str y] (b && c) rfl rfl rfl rfl (by decide +kernel) (is_edit_unit n1 t1) (later_unit l (by omega) (by omega) n2 t2) (fun _ => rfl)
    · exact ed (.drop x) "drop" (.str x) [] b rfl rfl rfl rfl (by decide +kernel) (is_edit_drop n1) (later_drop l (by omega) (by omega) n2) (fun _ => trivial)
    · exact ed (.main x) "main" (.str x) [] b rfl rfl rfl rfl (by decide +kernel) (is_edit_main n1) (later_main l (by omega) n2) (fun _ => trivial)
    · exact ed (.ran r) "ran" r [] q rfl rfl (by simp [D.norefs, r5]) (by simp [D.plains, r4]) (by decide +kernel) (is_edit_ran r5 r1) (later_ran l (by omega) (by omega) r4 r5 r2) (fun e => r3 e)
    · exact un
    · exact un
    · have hl := later_fin l "redo" [] _ rfl (later_redo l t (by omega) ok) (by
        cases hq : app l .redo with
        | none => rfl
        | some l' => exact (ok.app (a := .redo) trivial hq).l (by omega))
      have hc := can_event_ok h (by omega) _ rfl (can_redo l)
      cases hq : l.F.getLast? with
      | none =>
        have hn : l.F = [] := List.getLast?_eq_none_iff.mp hq
        have ha : app l .redo = none := by simp [app, hq]
        rw [ha] at hl
        exact ⟨false, .non, hc.trans (by simp [hn]), hl, .inl ⟨rfl, rfl⟩⟩
      | some S =>
        have hne : 0 < (l.F.map Sd.enc).length := List.length_pos_iff.mpr (ne_of_last hq)
        have ha : app l .redo = some ⟨S, l.P ++ [l.S], l.F.dropLast⟩ := by simp [app, hq]
        rw [ha] at hl
        exact ⟨true, _, hc.trans (by rw [decide_eq_true hne]), hl, .inr ⟨rfl, .redo, _, trivial, rfl, ha, rfl⟩⟩
    · refine ⟨true, _, can_event_ok h (by omega) _ rfl (can_close l), later_fin l "close" [] _ rfl (later_close l) ?_, .inr ⟨rfl, .close, ⟨l.S, [], []⟩, trivial, rfl, rfl, rfl⟩⟩
      exact (ok.app (a := .close) (l' := ⟨l.S, [], []⟩) trivial rfl).l (by omega)
end Lk87
namespace Lk87
open PySem PD
theorem r_rng1 {T : Tbl} {s : PD.Env} {M M1 : Mem} {e : E} {j : Int} (h : PD.ev T e s M = .ok (.int j) M1) (h0 : 0 ≤ j) (h1 : j ≤ 100000) : PD.evIt T (.rng (.cons e .nil)) s M = .ok (rngD 0 j.toNat, none) M1 := by
  rw [PD.evIt, r_evs1 h]
  have hk : (rngOk j && decide (j.toNat ≤ sizeLine)) = true := by
    unfold rngOk
    simp only [Bool.and_eq_true, decide_eq_true_eq]
    refine ⟨⟨by omega, by omega⟩, by rw [sizeLine_eq]; omega⟩
  show R.of M1 ((if rngOk j && decide (j.toNat ≤ sizeLine) then some (rngD 0 j.toNat) else none).map fun xs => (xs, none)) = _
  rw [if_pos hk]; rfl
def tbB : Ss := .cons (.asg (.nm 6) (.call false i__law_any_event (.cons (.v 2) .nil) [])) (.cons (.asg (.nm 7) (.call false i__law_later (.cons (.v 4) (.cons (.v 6) .nil)) [])) (.cons (.ite (.not (.call false i__law_equal (.cons (.call false i_can_event (.cons (.v 5) (.cons (.v 6) .nil)) []) (.cons (.isN true (.v 7)) .nil)) [])) (.cons (.ret (.c (.bl false))) .nil) .nil) (.cons (.ite (.isN true (.v 7)) (.cons (.asg (.tp (.cons (.nm 4) (.cons (.nm 5) .nil))) (.tup (.cons (.v 7) (.cons (.op .add (.v 5) (.tup (.cons (.v 6) .nil))) .nil)))) .nil) .nil) (.cons (.ite (.not (.call false i__law_equal (.cons (.call false i_stands_of (.cons (.v 5) .nil) []) (.cons (.op .ix (.v 4) (.c (.int 0))) .nil)) [])) (.cons (.ret (.c (.bl false))) .nil) .nil) .nil))))
theorem turn_run (M0 : Mem) (hM : D.norefs M0 = true) (X K : Option D) (i : Nat) (x3 z6 z7 : Option D) (es : List D) (l : Life) (t : Nat) (a b : Int) (h : Chain es l t) (ht : t ≤ 500) (ha : 0 ≤ a) (hb : 0 ≤ b) (hb2 : b < 4294967296) :
    ∃ (es' : List D) (l' : Life) (t' : Nat) (a' b' : Int) (z6' z7' : Option D), t' ≤ t + 1 ∧ Chain es' l' t' ∧ 0 ≤ a' ∧ 0 ≤ b' ∧ b' < 4294967296 ∧
      PD.execs (U 39) tbB [X, K, some (.ref M0.length), x3, some l.l, some (.tup es), z6, z7] (M0 ++ [hatD a b]) = .nx [X, K, some (.ref M0.length), x3, some l'.l, some (.tup es'), z6', z7'] (M0 ++ [hatD a' b']) := by
  obtain ⟨e, a1, b1, hE, ne, p1, p2, p3, he⟩ := event_ok 36 M0 a b hM ha hb hb2
  obtain ⟨v, d, c1, c2, cs⟩ := turn_ok h (by omega) e hE
  have ok := h.ok
  have dn : d.noref = true := by
    rcases cs with ⟨_, rfl⟩ | ⟨_, ac, l', av, _, hap, rfl⟩
    · rfl
    · exact (ok.app av hap).l (by omega)
  -- the state behind the draw and the law's look
  have s1 : PD.exec (U 39) (.asg (.nm 6) (.call false i__law_any_event (.cons (.v 2) .nil) [])) [X, K, some (.ref M0.length), x3, some l.l, some (.tup es), z6, z7] (M0 ++ [hatD a b]) = .nx [X, K, some (.ref M0.length), x3, some l.l, some (.tup es), some e, z7] (M0 ++ [hatD a1 b1]) :=
    r_asg (r_call (r_evs1 (r_v rfl)) ((callT_ref rfl).trans he))
  have s2 : PD.exec (U 39) (.asg (.nm 7) (.call false i__law_later (.cons (.v 4) (.cons (.v 6) .nil)) [])) [X, K, some (.ref M0.length), x3, some l.l, some (.tup es), some e, z7] (M0 ++ [hatD a1 b1]) = .nx [X, K, some (.ref M0.length), x3, some l.l, some (.tup es), some e, some d] (M0 ++ [hatD a1 b1]) :=
    r_asg (r_call (r_evs2 (r_v rfl) (r_v rfl)) (callT_pure c2 (by simp [D.norefs, ne, ok.l (show t ≤ 900 by omega)]) dn))
  have hev : PD.ev (U 39) (.isN true (.v 7)) [X, K, some (.ref M0.length), x3, some l.l, some (.tup es), some e, some d] (M0 ++ [hatD a1 b1]) = .ok (.bl v) (M0 ++ [hatD a1 b1]) := by
    rcases cs with ⟨rfl, rfl⟩ | ⟨rfl, _, l', _, _, _, rfl⟩ <;> rfl
  have s3 : PD.exec (U 39) (.ite (.not (.call false i__law_equal (.cons (.call false i_can_event (.cons (.v 5) (.cons (.v 6) .nil)) []) (.cons (.isN true (.v 7)) .nil)) [])) (.cons (.ret (.c (.bl false))) .nil) .nil) [X, K, some (.ref M0.length), x3, some l.l, some (.tup es), some e, some d] (M0 ++ [hatD a1 b1]) = .nx [X, K, some (.ref M0.length), x3, some l.l, some (.tup es), some e, some d] (M0 ++ [hatD a1 b1]) := by
    refine r_ifF (M1 := M0 ++ [hatD a1 b1]) (r_not (b := true) (r_call (r_evs2 (r_call (r_evs2 (r_v rfl) (r_v rfl)) (callT_pure c1 ?_ rfl)) hev) (callT_pure (equal_ok f_eq 0 38 (.bl v) rfl) rfl rfl))) r_nil
    simp [D.norefs, D.noref, ne, h.nr]
  have fin : ∀ (es' : List D) (l' : Life) (t' : Nat), Chain es' l' t' → t' ≤ 600 → PD.exec (U 39) (.ite (.not (.call false i__law_equal (.cons (.call false i_stands_of (.cons (.v 5) .nil) []) (.cons (.op .ix (.v 4) (.c (.int 0))) .nil)) [])) (.cons (.ret (.c (.bl false))) .nil) .nil) [X, K, some (.ref M0.length), x3, some l'.l, some (.tup es'), some e, some d] (M0 ++ [hatD a1 b1]) = .nx [X, K, some (.ref M0.length), x3, some l'.l, some (.tup es'), some e, some d] (M0 ++ [hatD a1 b1]) := by
    intro es' l' t' h' ht'
    have nS := Sd.nr (t := t') (by omega) h'.ok.S
    refine r_ifF (M1 := M0 ++ [hatD a1 b1]) (r_not (b := true) (r_call (r_evs2 (x := l'.S.enc) (y := l'.S.enc) (M1 := M0 ++ [hatD a1 b1]) (r_call (r_evs1 (r_v rfl)) (callT_pure (stands_ok 34 h' (by omega)) ?_ nS)) (r_op (r_v rfl) r_c rfl)) (callT_pure (equal_ok f_eq 5 33 l'.S.enc (h'.ok.S.gd (by omega))) ?_ rfl))) r_nil
    · simp [D.norefs, D.noref, h'.nr]
    · simp [D.norefs, nS]
  rcases cs with ⟨rfl, rfl⟩ | ⟨rfl, ac, l', av, rfl, hap, rfl⟩
  · refine ⟨es, l, t, a1, b1, some e, some .non, by omega, h, p1, p2, p3, ?_⟩
    exact r_cons s1 (r_cons s2 (r_cons s3 (r_cons (r_ifF hev r_nil) (r_cons (fin es l t h (by omega)) r_nil))))
  · have h' := h.snoc av hap
    refine ⟨es ++ [ac.enc], l', t + 1, a1, b1, some ac.enc, some l'.l, by omega, h', p1, p2, p3, ?_⟩
    refine r_cons s1 (r_cons s2 (r_cons s3 (r_cons (s' := [X, K, some (.ref M0.length), x3, some l'.l, some (.tup (es ++ [ac.enc])), some ac.enc, some l'.l]) (M' := M0 ++ [hatD a1 b1]) (r_ifT hev (r_cons ?_ r_nil)) (r_cons (fin _ l' (t + 1) h' (by omega)) r_nil))))
    have he : PD.ev (U 39) (.tup (.cons (.v 7) (.cons (.op .add (.v 5) (.tup (.cons (.v 6) .nil))) .nil))) [X, K, some (.ref M0.length), x3, some l.l, some (.tup es), some ac.enc, some l'.l] (M0 ++ [hatD a1 b1]) = .ok (.tup [l'.l, .tup (es ++ [ac.enc])]) (M0 ++ [hatD a1 b1]) := by
      refine r_tup (r_evs2 (r_v rfl) (r_op (r_v rfl) (r_tup (r_evs1 (r_v rfl))) ?_))
      exact add_tup (by have := h.len; simp; omega)
    rw [PD.exec, he]
    rfl
end Lk87
namespace Lk87
open PySem PD
def deep : Nat := 40
def kB : Ss := .cons (.asg (.nm 2) (.call true i__law_hat (.cons (.v 0) (.cons (.v 1) .nil)) [])) (.cons (.asg (.tp (.cons (.nm 4) (.cons (.nm 5) .nil))) (.tup (.cons (.tup (.cons (.tup (.cons (.c (.non)) (.cons (.tup .nil) (.cons (.c (.non)) (.cons (.tup .nil) .nil))))) (.cons (.ls false .nil) (.cons (.ls false .nil) .nil)))) (.cons (.tup .nil) .nil)))) (.cons (.for (.nm 3) (.rng (.cons (.op .add (.c (.int 8)) (.call false i__law_pull (.cons (.v 2) (.cons (.c (.int 23)) .nil)) [])) .nil)) tbB) .nil))
theorem k_run (ns : List Int) (M0 : Mem) (hM : D.norefs M0 = true) (k : Int) (hk0 : 0 ≤ k) (hk : k < 1000) (x2 x3 x4 x5 x6 x7 : Option D) :
    ∃ (M1 : Mem) (y2 y3 y4 y5 y6 y7 : Option D), D.norefs M1 = true ∧ PD.execs (U 39) kB [some (.lok (ns.map .int)), some (.int k), x2, x3, x4, x5, x6, x7] M0 = .nx [some (.lok (ns.map .int)), some (.int k), y2, y3, y4, y5, y6, y7] M1 := by
  obtain ⟨a, b, ha, hb, hb2, hh⟩ := hat_ok f_hat 38 ns k hk0 (by omega)
  have e1 : PD.exec (U 39) (.asg (.nm 2) (.call true i__law_hat (.cons (.v 0) (.cons (.v 1) .nil)) [])) [some (.lok (ns.map .int)), some (.int k), x2, x3, x4, x5, x6, x7] M0 = .nx [some (.lok (ns.map .int)), some (.int k), some (.ref M0.length), x3, x4, x5, x6, x7] (M0 ++ [hatD a b]) := by
    refine r_asg (r_call (r_evs2 (r_v rfl) (r_v rfl)) ?_)
    have hn : D.norefs ([D.lok (ns.map .int), .int k] ++ []) = true := by simp [D.norefs, D.noref, norefs_ints ns]
    show callT (U 39) true i__law_hat ([D.lok (ns.map .int), .int k] ++ []) M0 = _
    unfold callT
    rw [if_pos hn]
    show (match tbl T.fns 39 i__law_hat true [D.lok (ns.map .int), .int k] [] with
    | .ok d M2 => _
    | _ => _) = _
    rw [hh]
    rfl
  have e2 : PD.exec (U 39) (.asg (.tp (.cons (.nm 4) (.cons (.nm 5) .nil))) (.tup (.cons (.tup (.cons (.tup (.cons (.c (.non)) (.cons (.tup .nil) (.cons (.c (.non)) (.cons (.tup .nil) .nil))))) (.cons (.ls false .nil) (.cons (.ls false .nil) .nil)))) (.cons (.tup .nil) .nil)))) [some (.lok (ns.map .int)), some (.int k), some (.ref M0.length), x3, x4, x5, x6, x7] (M0 ++ [hatD a b]) = .nx [some (.lok (ns.map .int)), some (.int k), some (.ref M0.length), x3, some (Life.l ⟨⟨.non, [], .non, []⟩, [], []⟩), some (.tup []), x6, x7] (M0 ++ [hatD a b]) := rfl
  obtain ⟨r, a1, b1, r1, r2, p1, p2, p3, hp⟩ := pull_ok f_pull 38 M0 a b 23 hM ha hb hb2 (by decide) (by decide)
  have e3 : PD.ev (U 39) (.op .add (.c (.int 8)) (.call false i__law_pull (.cons (.v 2) (.cons (.c (.int 23)) .nil)) [])) [some (.lok (ns.map .int)), some (.int k), some (.ref M0.length), x3, some (Life.l ⟨⟨.non, [], .non, []⟩, [], []⟩), some (.tup []), x6, x7] (M0 ++ [hatD a b]) = .ok (.int (8 + r)) (M0 ++ [hatD a1 b1]) :=
    r_op r_c (r_call (r_evs2 (r_v rfl) r_c) ((callT_ref rfl).trans hp)) (op_add _ _)
  have hlen : (rngD 0 (8 + r).toNat).length ≤ 40 := by rw [rngD_len]; omega
  obtain ⟨s', M', hl, ⟨es, l, t, a2, b2, y3, y6, y7, ht, hC, q1, q2, q3, rfl, rfl⟩⟩ := for_inv (g := none) (body := fun x s M => match setT (.nm 3) x s with
      | some s' => PD.execs (U 39) tbB s' M
      | none => .no) (fun i s M => ∃ (es : List D) (l : Life) (t : Nat) (a b : Int) (x3 z6 z7 : Option D), t ≤ i ∧ Chain es l t ∧ 0 ≤ a ∧ 0 ≤ b ∧ b < 4294967296 ∧ s = [some (.lok (ns.map .int)), some (.int k), some (.ref M0.length), x3, some l.l, some (.tup es), z6, z7] ∧ M = M0 ++ [hatD a b]) (fun _ _ _ _ => rfl) (rngD 0 (8 + r).toNat) 0 [some (.lok (ns.map .int)), some (.int k), some (.ref M0.length), x3, some (Life.l ⟨⟨.non, [], .non, []⟩, [], []⟩), some (.tup []), x6, x7] (M0 ++ [hatD a1 b1])
      (fun i x s M hx ⟨es, l, t, a, b, x3, z6, z7, ht, hC, h1, h2, h3, hs, hM2⟩ => by
        subst hs hM2
        have hi : i < (rngD 0 (8 + r).toNat).length := (List.getElem?_eq_some_iff.mp hx).1
        obtain ⟨es', l', t', a', b', z6', z7', ht', hC', g1, g2, g3, hrun⟩ := turn_run M0 hM (some (.lok (ns.map .int))) (some (.int k)) i (some x) z6 z7 es l t a b hC (by omega) h1 h2 h3
        exact ⟨_, _, .inl hrun, es', l', t', a', b', some x, z6', z7', by omega, hC', g1, g2, g3, rfl, rfl⟩)
      ⟨[], _, 0, a1, b1, x3, x6, x7, Nat.le_refl _, .nil, p1, p2, p3, rfl, rfl⟩
  refine ⟨_, _, _, _, _, _, _, norefs_app hM rfl, r_cons e1 (r_cons e2 (r_cons (r_for (r_rng1 e3 (by omega) (by omega)) hl) r_nil))⟩
theorem plain (ns : List Int) (h : ns.length ≤ 63) : ∃ M', tbl T.fns deep g_law.fi.ix false [.lok (ns.map .int)] [] = .ok (.bl true) M' := by
  refine ⟨[], ?_⟩
  show tbl T.fns (39 + 1) i_law false [.lok (ns.map .int)] [] = _
  rw [u_law 39]
  obtain ⟨n, hn0, hn1, hn⟩ : ∃ n : Int, 0 ≤ n ∧ n ≤ 100 ∧ PD.ev (tbl T.fns 39) (.bi false .max (.cons (.c (.int 6)) (.cons (.bi false .min (.cons (.bi false .len (.cons (.v 0) .nil)) (.cons (.c (.int 12)) .nil))) .nil))) [some (.lok (ns.map .int)), none, none, none, none, none, none, none] [] = .ok (.int n) [] := by
    refine ⟨if 6 < (if 12 < ((ns.map D.int).length : Int) then 12 else ((ns.map D.int).length : Int)) then (if 12 < ((ns.map D.int).length : Int) then 12 else ((ns.map D.int).length : Int)) else 6, ?_, ?_, r_bi (r_evs2 r_c (r_bi (r_evs2 (r_bi (r_evs1 (r_v rfl)) rfl) r_c) rfl)) rfl⟩
    · repeat' split
      all_goals omega
    · repeat' split
      all_goals omega
  have hlen : (rngD 0 n.toNat).length ≤ 100 := by rw [rngD_len]; omega
  obtain ⟨s', M', hl, ⟨x1, x2, x3, x4, x5, x6, x7, hM', rfl⟩⟩ := for_inv (g := none) (body := fun x s M => match setT (.nm 1) x s with
      | some s' => PD.execs (tbl T.fns 39) kB s' M
      | none => .no) (fun i s M => ∃ x1 x2 x3 x4 x5 x6 x7 : Option D, D.norefs M = true ∧ s = [some (.lok (ns.map .int)), x1, x2, x3, x4, x5, x6, x7]) (fun _ _ _ _ => rfl) (rngD 0 n.toNat) 0 [some (.lok (ns.map .int)), none, none, none, none, none, none, none] []
      (fun i x s M hx ⟨x1, x2, x3, x4, x5, x6, x7, hM, hs⟩ => by
        subst hs
        obtain ⟨hi, rfl⟩ := rngD_get _ _ _ _ hx
        obtain ⟨M1, y2, y3, y4, y5, y6, y7, hM1, hrun⟩ := k_run ns M hM (0 + i) (by omega) (by omega) x2 x3 x4 x5 x6 x7
        exact ⟨_, _, .inl hrun, _, _, _, _, _, _, _, hM1, rfl⟩)
      ⟨none, none, none, none, none, none, none, rfl, rfl⟩
  have run : PD.execs (tbl T.fns 39) b_law [some (.lok (ns.map .int)), none, none, none, none, none, none, none] [] = .rt (.bl true) M' :=
    r_cons (r_for (r_rng1 hn hn0 (by omega)) hl) (r_end (r_ret r_c))
  show post false 0 (PD.execs (tbl T.fns 39) b_law [some (.lok (ns.map .int)), none, none, none, none, none, none, none] []).out = _
  rw [run]
  show post false 0 (.ok (.bl true) M') = _
  simp [post, fz, D.rbs, D.noref]
end Lk87
namespace Lk87
open PySem PD L2
/-! ### the head -/
abbrev R : PySem.W.OpenRow := PySem.W.OpenLaw.row PySem.Challenge.rw_anyiron_k87_whole_texts_that_are_told_an
def loose0 : List PySem.Str := ["is_int", "is_number", "is_tuple", "is_numbers", "is_lot", "SIGNS", "MOST_SIGNS", "MOST_WORD", "LETTERS", "FIGURES", "KEYS", "word_kind", "EDITS", "IRON", "NOTHING", "NEW", "MOST_NUMBER", "is_name", "is_text", "are_small", "is_said", "is_run_said", "with_unit", "edited", "state_after", "state_of", "stands_of", "is_edit", "can_be", "can_event"]
def loose1 : List PySem.Str := ["_law_hat", "_law_pull", "_law_any", "_law_equal", "_law_unlike", "_law_keys", "_law_kind", "_law_is_small", "_law_is_run", "_law_is_text", "_law_is_name", "_law_later", "_law_any_event"]
abbrev loose : List PySem.Str := loose0 ++ loose1
abbrev hk : PySem.W.Hook := hookP 5 T.fa T.fn T.cs
def ob (s : PySem.W.SharedT) : AlP := obsPG 5 T.fa T.fn T.cs (HandSHeadRun.getT s)
theorem ob_eq (s : PySem.W.SharedT) : ob s = hk.obs s.abs := obsPG_eq (HandSHeadRun.getT_eq s)
theorem run (w : World) : HandSHeadRun.RunEq R (PySem.W.view R.prog [47]) hk ob 4000 loose w := by
  intro os
  kernel_rfl
end Lk87
open PySem PySem.W PySem.Calls PyProof.Rows
theorem PySem.Challenge.cw_anyiron_k87_whole_texts_that_are_told_an_holds : PySem.Challenge.rw_anyiron_k87_whole_texts_that_are_told_an.Holds := by
  w_on; o_law
  refine HandSHeadRun.head_any (r := OpenLaw.row PySem.Challenge.rw_anyiron_k87_whole_texts_that_are_told_an) (q := view (OpenLaw.row PySem.Challenge.rw_anyiron_k87_whole_texts_that_are_told_an).prog [47]) (H := Lk87.hk) (ob := Lk87.ob) (M := 4000) (loose := Lk87.loose) (d := HandSHeadRun.topDef (OpenLaw.row PySem.Challenge.rw_anyiron_k87_whole_texts_that_are_told_an).prog 47) (kwd := []) Lk87.ob_eq
    (by kernel_rfl) (fun s => by kernel_rfl) Lk87.run (by kernel_rfl) (by kernel_rfl) (by kernel_rfl) (by rfl) (by first | assumption | decide +kernel) (by decide +kernel) ⟨rfl, rfl, rfl, rfl, rfl, by decide +kernel⟩ ?hw ?hc
  case hw => w_witness2
  case hc =>
    refine L2.walk_ofE (l := PySem.Challenge.rw_anyiron_k87_whole_texts_that_are_told_an) (n := 63) (k := Lk87.deep) (x := "script") (CX := L2.CX0) rfl (by decide) (by kernel_rfl) ⟨rfl, by decide, by decide⟩ ?F (fun _ _ _ _ z => z)
    intro w mg fa h Y G hmg0
    obtain ⟨K, KX, c⟩ := Y
    have hmg : mg ("law" : PySem.Str) = some (.ref fa) := by
      have e : (HandSHeadRun.topDef (OpenLaw.row PySem.Challenge.rw_anyiron_k87_whole_texts_that_are_told_an).prog 47).name = ("law" : PySem.Str) := by kernel_rfl
      rw [← e]
      exact hmg0
    obtain ⟨fd, sp, hb, hsp, hF⟩ := PD.law_end (t := Lk87.T) (g := Lk87.g_law) (P := (PySem.Challenge.rw_anyiron_k87_whole_texts_that_are_told_an).prog) (w := w) KX G c Lk87.gs_ix Lk87.gs_ok Lk87.all_bnd Lk87.law_mem rfl rfl hmg (fun _ _ _ _ _ _ _ => rfl) Lk87.plain
    exact ⟨K, fd, sp, KX, hb, hsp, hF⟩
