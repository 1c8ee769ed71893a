import PyProof.Rows.All
import Wide.All
import OpenK.AllK
import Wide.FinOn
import KE.KStateDown
import HandS.Base
import HandS.Call
import HandS.Ends
import HandS.More
import HandS.Words
import HandS.WordsExc
import HandS.Defaults
import HandS.Head0
import HandS.Head1
import HandS.Head2
import HandS.HeadEnd
import HandS.HeadHook1
import HandS.HeadHook2
import HandS.HeadHook4
import PySem.Challenge.RW_coldlanes_k06_whole_found
import HandS.ForMost
import HandS.ForExc
import HandS.TupAny
import HandS.Style
import HandS.Deep
import HandS.IsInst
import HandS.Walk
import HandS.NoneIn
section
/-! Fw1: a small language of trees (Ex, Sm), abstract values, and an interpreter of them. No program in sight. -/
set_option linter.all false
namespace CL

inductive AV where
  | non | bl (b : Bool) | int (i : Int) | str (x : List Nat) | tup (xs : List AV) | lst (xs : List AV)
  | scr (ns : List Int) | loc (k : Nat) | ref (c : Nat)
  deriving Inhabited

mutual
def AV.same : AV → AV → Bool
  | .non, .non => true
  | .bl a, .bl b => a == b
  | .int a, .int b => a == b
  | .str a, .str b => a == b
  | .tup a, .tup b => AV.sames a b
  | .lst a, .lst b => AV.sames a b
  | .scr a, .scr b => a == b
  | .loc a, .loc b => a == b
  | .ref a, .ref b => a == b
  | _, _ => false
def AV.sames : List AV → List AV → Bool
  | [], [] => true
  | x :: xs, y :: ys => AV.same x y && AV.sames xs ys
  | _, _ => false
end
mutual
theorem AV.same_iff : ∀ a b : AV, AV.same a b = true ↔ a = b
  | .non, b => by cases b <;> simp [AV.same]
  | .bl _, b => by cases b <;> simp [AV.same]
  | .int _, b => by cases b <;> simp [AV.same]
  | .str _, b => by cases b <;> simp [AV.same]
  | .tup xs, b => by cases b with
    | tup ys => simp [AV.same, AV.sames_iff xs ys]
    | _ => simp [AV.same]
  | .lst xs, b => by cases b with
    | lst ys => simp [AV.same, AV.sames_iff xs ys]
    | _ => simp [AV.same]
  | .scr _, b => by cases b <;> simp [AV.same]
  | .loc _, b => by cases b <;> simp [AV.same]
  | .ref _, b => by cases b <;> simp [AV.same]
theorem AV.sames_iff : ∀ a b : List AV, AV.sames a b = true ↔ a = b
  | [], b => by cases b <;> simp [AV.sames]
  | x :: xs, b => by cases b with
    | nil => simp [AV.sames]
    | cons y ys => simp [AV.sames, AV.same_iff x y, AV.sames_iff xs ys]
end
instance : DecidableEq AV := fun a b => decidable_of_iff _ (AV.same_iff a b)

/-! plain data: nothing of the store -/
mutual
def AV.isD : AV → Bool
  | .tup xs => AV.allD xs
  | .lst xs => AV.allD xs
  | .scr _ => false
  | .loc _ => false
  | .ref _ => false
  | .str x => x.all fun c => decide (c < 1114112)
  | _ => true
def AV.allD : List AV → Bool
  | [] => true
  | x :: xs => AV.isD x && AV.allD xs
end
mutual
def AV.dep : AV → Nat
  | .tup xs => AV.deps xs + 1
  | .lst xs => AV.deps xs + 1
  | _ => 0
def AV.deps : List AV → Nat
  | [] => 0
  | x :: xs => max (AV.dep x) (AV.deps xs)
end
/-! == of data, as Python has it -/
mutual
def AV.eqv : AV → AV → Bool
  | .non, .non => true
  | .bl a, .bl b => a == b
  | .bl a, .int j => (if a then 1 else 0) == j
  | .int i, .bl b => i == (if b then 1 else 0)
  | .int i, .int j => i == j
  | .str x, .str y => x == y
  | .lst xs, .lst ys => AV.eqvs xs ys
  | .tup xs, .tup ys => AV.eqvs xs ys
  | _, _ => false
def AV.eqvs : List AV → List AV → Bool
  | [], [] => true
  | x :: xs, y :: ys => AV.eqv x y && AV.eqvs xs ys
  | _, _ => false
end
/-- no list of the frame itself -/
def AV.nl : AV → Bool
  | .loc _ => false
  | _ => true

inductive LK where
  | fz | lo | gl
  deriving DecidableEq
inductive Bop where
  | add | sub | mul | fdiv | mod | pow
  deriving DecidableEq
inductive Cop where
  | eq | ne | lt | le | gt | ge | is | isn | inn | nin
  deriving DecidableEq
inductive Ty where
  | int | bool | str | list | tuple | own (c : Nat)
  deriving DecidableEq
inductive Prim where
  | len | list | tuple | all | sum | max | min | max2 | min2 | sorted | str | int
  deriving DecidableEq
inductive PMeth where
  | append | pop | popAt | count | index | join | split
  deriving DecidableEq

mutual
inductive Ex where
  | cst (v : AV)
  | slot (i : Nat)
  | tup (es : List Ex)
  | lst (k : LK) (es : List Ex)
  | bin (o : Bop) (a b : Ex)
  | neg (a : Ex)
  | cat (k : LK) (a b : Ex)
  | rep (k : LK) (es : List Ex) (b : Ex)
  | cmp (o : Cop) (a b : Ex)
  | chn (o p : Cop) (a b c : Ex)
  | and (a b : Ex)
  | or (a b : Ex)
  | not (a : Ex)
  | ite (c a b : Ex)
  | idx (a b : Ex)
  | slc (k : LK) (a : Ex) (lo hi : Option Ex)
  | fld (a : Ex) (f : Nat)
  | call (f : Nat) (es : List Ex)
  | isi (a : Ex) (t : Ty)
  | pr (p : Prim) (k : LK) (es : List Ex)
  | pm (m : PMeth) (a : Ex) (es : List Ex)
  | comp (k : LK) (vs : List Nat) (t : Tg) (i : It) (c : Option Ex) (e : Ex)
  | frz (a : Ex)
inductive Tg where
  | nm (i : Nat)
  | tp (ts : List Tg)
  | sub (a b : Ex)
  | att (a : Ex) (f : Nat)
inductive It where
  | val (e : Ex)
  | rng (es : List Ex)
  | enm (e : Ex)
  | zip (a b : Ex)
end
inductive Sm where
  | expr (e : Ex)
  | asg (t : Tg) (e : Ex)
  | par (is : List Nat) (es : List Ex)
  | aug (i : Nat) (o : Bop) (e : Ex)
  | ret (e : Option Ex)
  | ifs (c : Ex) (a b : List Sm)
  | for (t : Tg) (i : It) (body : List Sm)
  | whl (n : Nat) (c : Ex) (body : List Sm)
  | brk | cnt | pas
  | rse (c : Nat) (m : List Nat)

inductive Cell where
  | lst (xs : List AV)
  | ins (c : Nat) (fs : List (Nat × AV))
  | gone
  deriving Inhabited

structure S where
  env : List (Option AV)
  loc : List (Option (List AV))
  sto : List Cell

inductive R (α : Type) where
  | ok (a : α) (s : S)
  | exn (c : Nat) (p : Option AV) (st : List Cell)
  | bad
inductive RC where
  | ok (a : AV) (st : List Cell)
  | exn (c : Nat) (p : Option AV) (st : List Cell)
  | bad
def R.bind {α β : Type} : R α → (α → S → R β) → R β
  | .ok a s, f => f a s
  | .exn c p st, _ => .exn c p st
  | .bad, _ => .bad
@[simp] theorem R.bind_ok {α β : Type} (a : α) (s : S) (f : α → S → R β) : (R.ok a s).bind f = f a s := rfl
@[simp] theorem R.bind_exn {α β : Type} (c : Nat) (p : Option AV) (st : List Cell) (f : α → S → R β) : (R.exn c p st : R α).bind f = .exn c p st := rfl
@[simp] theorem R.bind_bad {α β : Type} (f : α → S → R β) : (R.bad : R α).bind f = .bad := rfl
theorem R.bind_assoc {α β γ : Type} (r : R α) (f : α → S → R β) (g : β → S → R γ) : (r.bind f).bind g = r.bind fun a s => (f a s).bind g := by cases r <;> rfl
/-- where nothing may be raised -/
def R.nox {α : Type} : R α → R α
  | .exn _ _ _ => .bad
  | r => r
@[simp] theorem R.nox_ok {α : Type} (a : α) (s : S) : (R.ok a s).nox = .ok a s := rfl
@[simp] theorem R.nox_bad {α : Type} : (R.bad : R α).nox = .bad := rfl

/-- the longest list -/
def SL : Nat := 16777216

def S.seq (s : S) : AV → Option (List AV)
  | .tup xs => some xs
  | .lst xs => some xs
  | .scr ns => some (ns.map .int)
  | .loc k => match s.loc[k]? with
    | some (some xs) => some xs
    | _ => none
  | .ref c => match s.sto[c]? with
    | some (.lst xs) => some xs
    | _ => none
  | _ => none
def S.lsq (s : S) : AV → Option (List AV)
  | .tup _ => none
  | x => s.seq x
/-- a list of one's own making -/
def S.rsq (s : S) : AV → Option (List AV)
  | .tup _ => none
  | .scr _ => none
  | x => s.seq x
/-- a list that may be written -/
def S.mut (s : S) : AV → Option (List AV)
  | .loc k => match s.loc[k]? with
    | some (some xs) => some xs
    | _ => none
  | .ref c => match s.sto[c]? with
    | some (.lst xs) => some xs
    | _ => none
  | _ => none
def S.put (s : S) (x : AV) (ys : List AV) : S := match x with
  | .loc k => { s with loc := s.loc.set k (some ys) }
  | .ref c => { s with sto := s.sto.set c (.lst ys) }
  | _ => s
/-- what is read as data: lists at the top opened -/
def S.dv (s : S) (x : AV) : AV := match x with
  | .tup xs => .tup xs
  | x => match s.seq x with
    | some xs => .lst xs
    | none => x

def newL (k : LK) (xs : List AV) (s : S) : R AV :=
  if xs.length ≤ SL ∧ xs.all AV.nl = true then match k with
    | .fz => .ok (.lst xs) s
    | .lo => .ok (.loc s.loc.length) { s with loc := s.loc ++ [some xs] }
    | .gl => .ok (.ref s.sto.length) { s with sto := s.sto ++ [.lst xs] }
  else .bad
def newT (xs : List AV) (s : S) : R AV := if xs.length ≤ SL ∧ xs.all AV.nl = true then .ok (.tup xs) s else .bad

def binA (o : Bop) (x y : AV) (s : S) : R AV := match o, x, y with
  | .add, .int i, .int j => .ok (.int (i + j)) s
  | .sub, .int i, .int j => .ok (.int (i - j)) s
  | .mul, .int i, .int j => if (-(2 ^ 64) < i ∧ i < 2 ^ 64) ∨ (-(2 ^ 64) < j ∧ j < 2 ^ 64) then .ok (.int (i * j)) s else .bad
  | .fdiv, .int i, .int j => if j ≠ 0 ∧ j.natAbs < 1073741824 then .ok (.int (i.fdiv j)) s else .bad
  | .mod, .int i, .int j => if j ≠ 0 then .ok (.int (i.fmod j)) s else .bad
  | .pow, .int i, .int j => if 0 ≤ j ∧ j ≤ 1000000 ∧ i.natAbs < 2 ^ 64 then .ok (.int (i ^ j.toNat)) s else .bad
  | .add, .str a, .str b => if a.length + b.length ≤ SL then .ok (.str (a ++ b)) s else .bad
  | .add, .tup a, .tup b => if a.length + b.length ≤ SL then .ok (.tup (a ++ b)) s else .bad
  | _, _, _ => .bad

/-- x op= y of a name -/
def augA (o : Bop) (x y : AV) (s : S) : R AV := match o with
  | .add => match x with
    | .tup _ => .bad
    | x => binA .add x y s
  | .sub => binA .sub x y s
  | .mul => binA .mul x y s
  | _ => .bad
def isNone : AV → Bool
  | .non => true
  | _ => false
def cmpB (o : Cop) (x y : AV) (s : S) : Option Bool := match o with
  | .eq => let a := s.dv x; let b := s.dv y; if a.isD = true ∧ b.isD = true ∧ min a.dep b.dep ≤ 64 then some (a.eqv b) else none
  | .ne => let a := s.dv x; let b := s.dv y; if a.isD = true ∧ b.isD = true ∧ min a.dep b.dep ≤ 64 then some (!a.eqv b) else none
  | .lt => match x, y with
    | .int i, .int j => some (decide (i < j))
    | _, _ => none
  | .le => match x, y with
    | .int i, .int j => some (decide (i ≤ j))
    | _, _ => none
  | .gt => match x, y with
    | .int i, .int j => some (decide (j < i))
    | _, _ => none
  | .ge => match x, y with
    | .int i, .int j => some (decide (j ≤ i))
    | _, _ => none
  | .is => match y with
    | .non => some (isNone x)
    | .bl b => match x with
      | .bl a => some (a == b)
      | _ => none
    | _ => none
  | .isn => match y with
    | .non => some (!isNone x)
    | .bl b => match x with
      | .bl a => some (!(a == b))
      | _ => none
    | _ => none
  | .inn => match s.seq y with
    | some ys => if (s.dv x).isD = true ∧ AV.allD ys = true ∧ (s.dv x).dep ≤ 63 then some (ys.any fun z => z.eqv (s.dv x)) else none
    | none => none
  | .nin => match s.seq y with
    | some ys => if (s.dv x).isD = true ∧ AV.allD ys = true ∧ (s.dv x).dep ≤ 63 then some (!ys.any fun z => z.eqv (s.dv x)) else none
    | none => none
def cmpA (o : Cop) (x y : AV) (s : S) : R AV := match cmpB o x y s with
  | some b => .ok (.bl b) s
  | none => .bad
def truth (x : AV) (s : S) : R Bool := match x with
  | .bl b => .ok b s
  | _ => .bad

/-- the place that an index means -/
def ixA (n : Nat) (i : Int) : Option Nat := if 0 ≤ i then (if i < n then some i.toNat else none) else if -(n : Int) ≤ i then some (i + n).toNat else none
def atA (xs : List AV) (i : Int) : Option AV := (ixA xs.length i).bind fun j => xs[j]?
def idxA (x y : AV) (s : S) : R AV := match s.seq x, y with
  | some xs, .int i => match atA xs i with
    | some v => .ok v s
    | none => .bad
  | _, _ => .bad
/-- a slice's bound -/
def sixA (n d : Nat) : Option Int → Nat
  | none => d
  | some v => if v < 0 then (v + (n : Int)).toNat else min v.toNat n
def cutA (xs : List AV) (lo hi : Option Int) : List AV := (xs.drop (sixA xs.length 0 lo)).take (sixA xs.length xs.length hi - sixA xs.length 0 lo)
def slcA (k : LK) (x : AV) (lo hi : Option Int) (s : S) : R AV := match x with
  | .tup xs => .ok (.tup (cutA xs lo hi)) s
  | x => match s.lsq x with
    | some xs => newL k (cutA xs lo hi) s
    | none => .bad
def setA (x y v : AV) (s : S) : R Unit := match s.mut x, y with
  | some xs, .int i => match ixA xs.length i with
    | some j => if v.nl = true then .ok () (s.put x (xs.set j v)) else .bad
    | none => .bad
  | _, _ => .bad
def getF (s : S) (x : AV) (f : Nat) : Option AV := match x with
  | .ref c => match s.sto[c]? with
    | some (.ins _ fs) => fs.lookup f
    | _ => none
  | _ => none
def frzA (x : AV) (s : S) : R AV := match x with
  | .loc k => match s.loc[k]? with
    | some (some xs) => .ok (.lst xs) { s with loc := s.loc.set k none }
    | _ => .bad
  | .ref c => match s.sto[c]? with
    | some (.lst xs) => .ok (.lst xs) { s with sto := s.sto.set c .gone }
    | _ => .bad
  | x => .ok x s
def tyB (s : S) (x : AV) : Ty → Bool
  | .int => match x with
    | .int _ => true
    | .bl _ => true
    | _ => false
  | .bool => match x with
    | .bl _ => true
    | _ => false
  | .str => match x with
    | .str _ => true
    | _ => false
  | .tuple => match x with
    | .tup _ => true
    | _ => false
  | .list => match x with
    | .lst _ => true
    | .scr _ => true
    | .loc _ => true
    | .ref c => match s.sto[c]? with
      | some (.lst _) => true
      | _ => false
    | _ => false
  | .own k => match x with
    | .ref c => match s.sto[c]? with
      | some (.ins d _) => d == k
      | _ => false
    | _ => false
/-- a value of a built-in type -/
def isB (s : S) (x : AV) : Bool := match x with
  | .ref c => match s.sto[c]? with
    | some (.lst _) => true
    | _ => false
  | .loc k => match s.loc[k]? with
    | some (some _) => true
    | _ => false
  | _ => true
def boolsA : List AV → Option (List Bool)
  | [] => some []
  | .bl b :: r => (boolsA r).map (b :: ·)
  | _ :: _ => none
def intsA : List AV → Option (List Int)
  | [] => some []
  | .int b :: r => (intsA r).map (b :: ·)
  | _ :: _ => none
/-- isinstance's classes as written -/
def primA (p : Prim) (k : LK) (vs : List AV) (s : S) : R AV := match p, vs with
  | .len, [x] => match s.seq x with
    | some xs => .ok (.int xs.length) s
    | none => .bad
  | .list, [x] => match s.seq x with
    | some xs => newL k xs s
    | none => .bad
  | .tuple, [x] => match x with
    | .tup xs => .ok (.tup xs) s
    | x => match s.lsq x with
      | some xs => .ok (.tup xs) s
      | none => .bad
  | .all, [x] => match (s.lsq x).bind boolsA with
    | some bs => .ok (.bl (bs.all id)) s
    | none => .bad
  | .sum, [x] => match (s.lsq x).bind intsA with
    | some ns => .ok (.int ns.sum) s
    | none => .bad
  | .max2, [.int i, .int j] => .ok (.int (if j > i then j else i)) s
  | .min2, [.int i, .int j] => .ok (.int (if j < i then j else i)) s
  | _, _ => .bad
def pmA (m : PMeth) (x : AV) (vs : List AV) (s : S) : R AV := match m, vs with
  | .append, [v] => match s.mut x with
    | some xs => if v.nl = true ∧ xs.length < SL then .ok .non (s.put x (xs ++ [v])) else .bad
    | none => .bad
  | .pop, [] => match s.mut x with
    | some xs => match xs[xs.length - 1]? with
      | some v => .ok v (s.put x xs.dropLast)
      | none => .bad
    | none => .bad
  | _, _ => .bad
/-- the receiver is of the method's type -/
def pmTy (m : PMeth) (x : AV) (s : S) : Bool := match m with
  | .append => (s.mut x).isSome
  | .pop => (s.mut x).isSome
  | .popAt => (s.mut x).isSome
  | .count => (s.lsq x).isSome
  | .index => (s.lsq x).isSome
  | .join => match x with
    | .str _ => true
    | _ => false
  | .split => match x with
    | .str _ => true
    | _ => false
def wipeA (env : List (Option AV)) : List Nat → List (Option AV)
  | [] => env
  | v :: vs => (wipeA env vs).set v none

/-- what is walked: items, told ahead, and what must still hold at each turn -/
structure Wk where
  items : List AV
  ok : List (Option (List AV)) → List Cell → Bool
def isInts : List AV → Option (List Int) := intsA
def walkV (x : AV) (s : S) : Option Wk := match x with
  | .tup xs => some ⟨xs, fun _ _ => true⟩
  | .lst xs => some ⟨xs, fun _ _ => true⟩
  | .loc k => match s.loc[k]? with
    | some (some xs) => some ⟨xs, fun loc _ => decide (loc[k]? = some (some xs))⟩
    | _ => none
  | .ref c => match s.sto[c]? with
    | some (.lst xs) => some ⟨xs, fun _ sto => match sto[c]? with
      | some (.lst ys) => decide (ys = xs)
      | _ => false⟩
    | _ => none
  | _ => none
def small62 (i : Int) : Bool := decide (-(2 ^ 62) ≤ i) && decide (i < 2 ^ 62)
def walkR (vs : List AV) : Option Wk := match vs with
  | [.int n] => if small62 n = true then some ⟨(List.range n.toNat).map fun (k : Nat) => AV.int (0 + (k : Int)), fun _ _ => true⟩ else none
  | [.int a, .int b] => if small62 a = true ∧ small62 b = true then some ⟨(List.range (b - a).toNat).map fun (k : Nat) => AV.int (a + (k : Int)), fun _ _ => true⟩ else none
  | _ => none

/-- a comprehension's turns: f gives nothing where the test fails -/
def compL (w : Wk) (f : AV → S → R (Option AV)) : List AV → List AV → S → R (List AV)
  | [], acc, s => if w.ok s.loc s.sto = true then .ok acc s else .bad
  | x :: xs, acc, s => if w.ok s.loc s.sto = true then (f x s).bind fun r s1 => match r with
      | some v => if v.nl = true ∧ acc.length < SL then compL w f xs (acc ++ [v]) s1 else .bad
      | none => compL w f xs acc s1
    else .bad

mutual
def ev (call : Nat → List AV → List Cell → RC) : Ex → S → R AV
  | .cst v, s => .ok v s
  | .slot i, s => match s.env[i]? with
    | some (some v) => .ok v s
    | _ => .bad
  | .tup es, s => (evs call es s).bind newT
  | .lst k es, s => (evs call es s).bind (newL k)
  | .bin o a b, s => (ev call a s).bind fun x s => (ev call b s).bind fun y s => binA o x y s
  | .neg a, s => (ev call a s).bind fun x s => match x with
    | .int i => .ok (.int (-i)) s
    | _ => .bad
  | .cat k a b, s => (ev call a s).bind fun x s => (ev call b s).bind fun y s => match s.rsq x, s.rsq y with
    | some xs, some ys => if xs.length + ys.length ≤ SL then newL k (xs ++ ys) s else .bad
    | _, _ => .bad
  | .rep k es b, s => (evs call es s).bind fun xs s => (ev call b s).bind fun y s => match y with
    | .int n => if xs.length ≤ SL ∧ xs.all AV.nl = true ∧ -(2 ^ 63) ≤ n ∧ n < 2 ^ 63 ∧ xs.length * n.toNat ≤ SL then newL k (List.replicate n.toNat xs).flatten s else .bad
    | _ => .bad
  | .cmp o a b, s => (ev call a s).bind fun x s => (ev call b s).bind fun y s => cmpA o x y s
  | .chn o p a b c, s => (ev call a s).bind fun x s => (ev call b s).bind fun y s => (cmpA o x y s).bind fun z s => (truth z s).bind fun t s =>
      if t = true then (ev call c s).bind fun u s => cmpA p y u s else .ok (.bl false) s
  | .and a b, s => (ev call a s).bind fun x s => (truth x s).bind fun t s => if t = true then ev call b s else .ok (.bl false) s
  | .or a b, s => (ev call a s).bind fun x s => (truth x s).bind fun t s => if t = true then .ok (.bl true) s else ev call b s
  | .not a, s => (ev call a s).bind fun x s => (truth x s).bind fun t s => .ok (.bl (!t)) s
  | .ite c a b, s => (ev call c s).bind fun x s => (truth x s).bind fun t s => if t = true then ev call a s else ev call b s
  | .idx a b, s => (ev call a s).bind fun x s => (ev call b s).bind fun y s => idxA x y s
  | .slc k a lo hi, s => (ev call a s).bind fun x s => (evo call lo s).bind fun l s => (evo call hi s).bind fun h s => slcA k x l h s
  | .fld a f, s => (ev call a s).bind fun x s => match getF s x f with
    | some v => .ok v s
    | none => .bad
  | .call f es, s => (evs call es s).bind fun vs s => if vs.all AV.nl = true then match call f vs s.sto with
      | .ok v st => .ok v { s with sto := st }
      | .exn c p st => .exn c p st
      | .bad => .bad
    else .bad
  | .isi a t, s => (ev call a s).bind fun x s => if isB s x = true then .ok (.bl (tyB s x t)) s else .bad
  | .pr p k es, s => (evs call es s).bind (primA p k)
  | .pm m a es, s => (ev call a s).bind fun x s => if pmTy m x s = true then (evs call es s).bind fun vs s => pmA m x vs s else .bad
  | .comp k vs t i c e, s => (itr call i s).bind fun w s0 =>
      (compL w (fun x s => ((tga call t x { s with env := wipeA s0.env vs }).bind fun _ s =>
          (evc call c s).bind fun t s => if t = true then (ev call e s).bind fun v s => .ok (some v) s else .ok none s).nox) w.items [] s0).bind fun xs s => newL k xs { s with env := s0.env }
  | .frz a, s => (ev call a s).bind frzA
def evs (call : Nat → List AV → List Cell → RC) : List Ex → S → R (List AV)
  | [], s => .ok [] s
  | e :: es, s => (ev call e s).bind fun v s => (evs call es s).bind fun vs s => .ok (v :: vs) s
def evo (call : Nat → List AV → List Cell → RC) : Option Ex → S → R (Option Int)
  | none, s => .ok none s
  | some e, s => (ev call e s).bind fun v s => match v with
    | .int i => .ok (some i) s
    | _ => .bad
def evc (call : Nat → List AV → List Cell → RC) : Option Ex → S → R Bool
  | none, s => .ok true s
  | some e, s => (ev call e s).bind truth
def tga (call : Nat → List AV → List Cell → RC) : Tg → AV → S → R Unit
  | .nm i, v, s => if i < s.env.length then .ok () { s with env := s.env.set i (some v) } else .bad
  | .tp ts, v, s => match s.seq v with
    | some xs => if xs.length = ts.length then tgas call ts xs s else .bad
    | none => .bad
  | .sub a b, v, s => (ev call a s).bind fun x s => (ev call b s).bind fun y s => setA x y v s
  | .att _ _, _, _ => .bad
def tgas (call : Nat → List AV → List Cell → RC) : List Tg → List AV → S → R Unit
  | [], [], s => .ok () s
  | t :: ts, x :: xs, s => (tga call t x s).bind fun _ s => tgas call ts xs s
  | _, _, _ => .bad
def itr (call : Nat → List AV → List Cell → RC) : It → S → R Wk
  | .val e, s => (ev call e s).bind fun v s => match walkV v s with
    | some w => .ok w s
    | none => .bad
  | .rng es, s => (evs call es s).bind fun vs s => match walkR vs with
    | some w => .ok w s
    | none => .bad
  | .enm _, _ => .bad
  | .zip _ _, _ => .bad
end

inductive Fl where
  | nxt | brk | cnt | ret (v : AV)

def parA (is : List Nat) (vs : List AV) (s : S) : R Unit := match is, vs with
  | [i, j], [v, w] => if i < s.env.length ∧ j < s.env.length then .ok () { s with env := (s.env.set i (some v)).set j (some w) } else .bad
  | [i, j, k], [v, w, u] => if i < s.env.length ∧ j < s.env.length ∧ k < s.env.length then .ok () { s with env := ((s.env.set i (some v)).set j (some w)).set k (some u) } else .bad
  | _, _ => .bad
/-- the turns of a for -/
def forL (w : Wk) (f : AV → S → R Fl) : List AV → S → R Fl
  | [], s => if w.ok s.loc s.sto = true then .ok .nxt s else .bad
  | x :: xs, s => if w.ok s.loc s.sto = true then (f x s).bind fun r s => match r with
      | .nxt => forL w f xs s
      | .cnt => forL w f xs s
      | .brk => .ok .nxt s
      | .ret v => .ok (.ret v) s
    else .bad
/-- the turns of a while, n at most -/
def whlL (c : S → R Bool) (f : S → R Fl) : Nat → S → R Fl
  | 0, _ => .bad
  | n + 1, s => (c s).bind fun t s => if t = true then (f s).bind fun r s => match r with
      | .nxt => whlL c f n s
      | .cnt => whlL c f n s
      | .brk => .ok .nxt s
      | .ret v => .ok (.ret v) s
    else .ok .nxt s

mutual
def ex (call : Nat → List AV → List Cell → RC) : Sm → S → R Fl
  | .expr e, s => (ev call e s).bind fun _ s => .ok .nxt s
  | .asg t e, s => (ev call e s).bind fun v s => (tga call t v s).bind fun _ s => .ok .nxt s
  | .par is es, s => (evs call es s).bind fun vs s => (parA is vs s).bind fun _ s => .ok .nxt s
  | .aug i o e, s => match s.env[i]? with
    | some (some x) => (ev call e s).bind fun y s => (augA o x y s).bind fun z s => .ok .nxt { s with env := s.env.set i (some z) }
    | _ => .bad
  | .ret none, s => .ok (.ret .non) s
  | .ret (some e), s => (ev call e s).bind fun v s => if v.nl = true then .ok (.ret v) s else .bad
  | .ifs c a b, s => (ev call c s).bind fun x s => (truth x s).bind fun t s => if t = true then exs call a s else exs call b s
  | .for t i body, s => (itr call i s).bind fun w s => forL w (fun x s => (tga call t x s).bind fun _ s => exs call body s) w.items s
  | .whl n c body, s => whlL (fun s => (ev call c s).bind truth) (fun s => exs call body s) n s
  | .brk, s => .ok .brk s
  | .cnt, s => .ok .cnt s
  | .pas, s => .ok .nxt s
  | .rse c _, s => .exn c none s.sto
def exs (call : Nat → List AV → List Cell → RC) : List Sm → S → R Fl
  | [], s => .ok .nxt s
  | x :: xs, s => (ex call x s).bind fun r s => match r with
    | .nxt => exs call xs s
    | r => .ok r s
end

/-- a def: where it stands, how many parameters, its names, its body -/
structure FD where
  np : Nat
  nn : Nat
  body : List Sm
def startA (n : Nat) (vs : List AV) : List (Option AV) := vs.map some ++ List.replicate (n - vs.length) none
/-- a call, n deep at most -/
def runF (fns : Nat → Option FD) : Nat → Nat → List AV → List Cell → RC
  | 0, _, _, _ => .bad
  | n + 1, f, vs, st => match fns f with
    | none => .bad
    | some d => if vs.length = d.np then match exs (runF fns n) d.body ⟨startA d.nn vs, [], st⟩ with
        | .ok .nxt s => .ok .non s.sto
        | .ok (.ret v) s => .ok v s.sto
        | .ok _ _ => .bad
        | .exn c p st => .exn c p st
        | .bad => .bad
      else .bad
end CL

end
section
/-! Fw2: how the interpreter's states lie in the abstract heap of the hand layer. -/
set_option Elab.async false
set_option linter.all false
set_option maxRecDepth 100000
namespace CL
open PySem PySem.Spec PyProof.Rows L2

/-- names of classes and fields -/
structure Dn where
  cls : Nat → Str
  fnm : Nat → Str
  nf : Nat
  inj : ∀ f g, f < nf → g < nf → fnm f = fnm g → f = g

def strV (x : List Nat) : Str := ⟨x.toArray⟩
/-- the script -/
def ScL (K : PySem.W.Frag) (H : Hp) (a : Addr) (vs : List V) : Prop := (∃ o, H a = some (.frz o (.lst vs))) ∨
    ∃ (o : Obj) (its : Array Value) (n : Nat), K.lookup a = some o ∧ o.cls = .type "list" ∧ o.dict = none ∧ o.data = .seq its n ∧ its.size ≤ sizeLine ∧ Vals vs its.toList
theorem ScL.sq {K : PySem.W.Frag} {H : Hp} {a : Addr} {vs : List V} (h : ScL K H a vs) : SqL K H a vs := h.imp (fun h => .inr h) id
mutual
def VR0 (K : PySem.W.Frag) (H : Hp) (m : List Addr) : AV → V → Prop
  | .non, v => v = .non
  | .bl b, v => v = .bl b
  | .int i, v => v = .int i
  | .str x, v => v = .str (strV x)
  | .tup xs, v => ∃ a vs, v = .ref a ∧ SqT K H a vs ∧ VRs K H m xs vs
  | .lst xs, v => ∃ a o vs, v = .ref a ∧ H a = some (.frz o (.lst vs)) ∧ VRs K H m xs vs
  | .scr ns, v => ∃ a, v = .ref a ∧ ScL K H a (ns.map V.int)
  | .loc _, _ => False
  | .ref c, v => ∃ a, v = .ref a ∧ m[c]? = some a
def VRs (K : PySem.W.Frag) (H : Hp) (m : List Addr) : List AV → List V → Prop
  | [], vs => vs = []
  | x :: xs, vs => ∃ v r, vs = v :: r ∧ VR0 K H m x v ∧ VRs K H m xs r
end
def VR (K : PySem.W.Frag) (H : Hp) (l m : List Addr) (x : AV) (v : V) : Prop := match x with
  | .loc k => ∃ a, v = .ref a ∧ l[k]? = some a
  | x => VR0 K H m x v
/-- what stands fast stays -/
def Fast (H H' : Hp) : Prop := (∀ a xs, H a = some (.tup xs) → H' a = some (.tup xs)) ∧ ∀ a o u, H a = some (.frz o u) → H' a = some (.frz o u)
theorem Fast.refl {H : Hp} : Fast H H := ⟨fun _ _ h => h, fun _ _ _ h => h⟩
theorem Fast.trans {H H1 H2 : Hp} (a : Fast H H1) (b : Fast H1 H2) : Fast H H2 := ⟨fun c xs h => b.1 c xs (a.1 c xs h), fun c o u h => b.2 c o u (a.2 c o u h)⟩
theorem Fast.sqT {K : PySem.W.Frag} {H H' : Hp} (f : Fast H H') {a : Addr} {vs : List V} (h : SqT K H a vs) : SqT K H' a vs := by
  rcases h with h | h
  · rcases h with h | ⟨o, h⟩
    · exact .inl (.inl (f.1 _ _ h))
    · exact .inl (.inr ⟨o, f.2 _ _ _ h⟩)
  · exact .inr h
theorem Fast.scL {K : PySem.W.Frag} {H H' : Hp} (f : Fast H H') {a : Addr} {vs : List V} (h : ScL K H a vs) : ScL K H' a vs := by
  rcases h with ⟨o, h⟩ | h
  · exact .inl ⟨o, f.2 _ _ _ h⟩
  · exact .inr h
theorem pre_at {m m' : List Addr} (h : m <+: m') {c : Nat} {a : Addr} (e : m[c]? = some a) : m'[c]? = some a := by
  obtain ⟨r, rfl⟩ := h
  rw [List.getElem?_append_left (List.getElem?_eq_some_iff.mp e).1]; exact e
section
variable {K : PySem.W.Frag} {H H' : Hp} {m m' l l' : List Addr}
mutual
theorem VR0.mono (f : Fast H H') (hm : m <+: m') : ∀ (x : AV) (v : V), VR0 K H m x v → VR0 K H' m' x v
  | .non, _, h => by unfold VR0 at h ⊢; exact h
  | .bl _, _, h => by unfold VR0 at h ⊢; exact h
  | .int _, _, h => by unfold VR0 at h ⊢; exact h
  | .str _, _, h => by unfold VR0 at h ⊢; exact h
  | .tup xs, v, h => by
    unfold VR0 at h ⊢
    obtain ⟨a, vs, e, s, r⟩ := h
    exact ⟨a, vs, e, f.sqT s, VRs.mono f hm xs vs r⟩
  | .lst xs, v, h => by
    unfold VR0 at h ⊢
    obtain ⟨a, o, vs, e, s, r⟩ := h
    exact ⟨a, o, vs, e, f.2 _ _ _ s, VRs.mono f hm xs vs r⟩
  | .scr ns, v, h => by
    unfold VR0 at h ⊢
    obtain ⟨a, e, s⟩ := h
    exact ⟨a, e, f.scL s⟩
  | .loc _, _, h => by unfold VR0 at h; exact h.elim
  | .ref c, _, h => by
    unfold VR0 at h ⊢
    obtain ⟨a, e, s⟩ := h
    exact ⟨a, e, pre_at hm s⟩
theorem VRs.mono (f : Fast H H') (hm : m <+: m') : ∀ (xs : List AV) (vs : List V), VRs K H m xs vs → VRs K H' m' xs vs
  | [], _, h => by unfold VRs at h ⊢; exact h
  | x :: xs, vs, h => by
    unfold VRs at h ⊢
    obtain ⟨v, r, e, h1, h2⟩ := h
    exact ⟨v, r, e, VR0.mono f hm x v h1, VRs.mono f hm xs r h2⟩
end
theorem VR.mono (f : Fast H H') (hl : l <+: l') (hm : m <+: m') {x : AV} {v : V} (h : VR K H l m x v) : VR K H' l' m' x v := by
  cases x with
  | loc k =>
    obtain ⟨a, e, h⟩ := h
    exact ⟨a, e, pre_at hl h⟩
  | _ => exact VR0.mono f hm _ _ h
theorem VR.up {x : AV} {v : V} (h : VR0 K H m x v) : VR K H l m x v := by
  cases x with
  | loc k => unfold VR0 at h; exact h.elim
  | _ => exact h
theorem VR.dn {x : AV} {v : V} (h : VR K H l m x v) (n : x.nl = true) : VR0 K H m x v := by
  cases x with
  | loc k => cases n
  | _ => exact h
theorem VRs.len : ∀ {xs : List AV} {vs : List V}, VRs K H m xs vs → xs.length = vs.length
  | [], vs, h => by unfold VRs at h; rw [h]; rfl
  | x :: xs, vs, h => by
    unfold VRs at h
    obtain ⟨v, r, e, h1, h2⟩ := h
    rw [e, List.length_cons, List.length_cons, VRs.len h2]
theorem VRs.get : ∀ {xs : List AV} {vs : List V} {i : Nat} {x : AV}, VRs K H m xs vs → xs[i]? = some x → ∃ v, vs[i]? = some v ∧ VR0 K H m x v
  | [], _, _, _, _, e => by simp at e
  | y :: xs, vs, 0, x, h, e => by
    unfold VRs at h
    obtain ⟨v, r, rfl, h1, h2⟩ := h
    simp at e; subst e
    exact ⟨v, rfl, h1⟩
  | y :: xs, vs, i + 1, x, h, e => by
    unfold VRs at h
    obtain ⟨v, r, rfl, h1, h2⟩ := h
    obtain ⟨u, e1, e2⟩ := VRs.get (i := i) h2 (by simpa using e)
    exact ⟨u, by simpa using e1, e2⟩
theorem VRs.nil : VRs K H m [] [] := by unfold VRs; rfl
theorem VRs.cons {x : AV} {v : V} {xs : List AV} {vs : List V} (h : VR0 K H m x v) (r : VRs K H m xs vs) : VRs K H m (x :: xs) (v :: vs) := by unfold VRs; exact ⟨v, vs, rfl, h, r⟩
theorem VRs.app : ∀ {xs : List AV} {vs : List V} {ys : List AV} {ws : List V}, VRs K H m xs vs → VRs K H m ys ws → VRs K H m (xs ++ ys) (vs ++ ws)
  | [], vs, ys, ws, h, r => by unfold VRs at h; subst h; exact r
  | x :: xs, vs, ys, ws, h, r => by
    unfold VRs at h
    obtain ⟨v, q, rfl, h1, h2⟩ := h
    exact VRs.cons h1 (VRs.app h2 r)
theorem VRs.take : ∀ {xs : List AV} {vs : List V} (n : Nat), VRs K H m xs vs → VRs K H m (xs.take n) (vs.take n)
  | _, _, 0, _ => by rw [List.take_zero, List.take_zero]; exact VRs.nil
  | [], vs, n + 1, h => by unfold VRs at h; subst h; exact VRs.nil
  | x :: xs, vs, n + 1, h => by
    unfold VRs at h
    obtain ⟨v, q, rfl, h1, h2⟩ := h
    exact VRs.cons h1 (VRs.take n h2)
theorem VRs.drop : ∀ {xs : List AV} {vs : List V} (n : Nat), VRs K H m xs vs → VRs K H m (xs.drop n) (vs.drop n)
  | _, _, 0, h => by rw [List.drop_zero, List.drop_zero]; exact h
  | [], vs, n + 1, h => by unfold VRs at h; subst h; exact VRs.nil
  | x :: xs, vs, n + 1, h => by
    unfold VRs at h
    obtain ⟨v, q, rfl, h1, h2⟩ := h
    exact VRs.drop n h2
theorem VRs.set : ∀ {xs : List AV} {vs : List V} {x : AV} {v : V} (n : Nat), VR0 K H m x v → VRs K H m xs vs → VRs K H m (xs.set n x) (vs.set n v)
  | [], vs, x, v, n, r, h => by unfold VRs at h; subst h; exact VRs.nil
  | y :: xs, vs, x, v, 0, r, h => by
    unfold VRs at h
    obtain ⟨u, q, rfl, h1, h2⟩ := h
    exact VRs.cons r h2
  | y :: xs, vs, x, v, n + 1, r, h => by
    unfold VRs at h
    obtain ⟨u, q, rfl, h1, h2⟩ := h
    exact VRs.cons h1 (VRs.set n r h2)
theorem VRs.dropLast {xs : List AV} {vs : List V} (h : VRs K H m xs vs) : VRs K H m xs.dropLast vs.dropLast := by
  rw [List.dropLast_eq_take, List.dropLast_eq_take, h.len]; exact VRs.take _ h
theorem VRs.rep {xs : List AV} {vs : List V} (h : VRs K H m xs vs) : ∀ n : Nat, VRs K H m (List.replicate n xs).flatten (List.replicate n vs).flatten
  | 0 => VRs.nil
  | n + 1 => by rw [List.replicate_succ, List.replicate_succ, List.flatten_cons, List.flatten_cons]; exact VRs.app h (VRs.rep h n)
theorem VRs.ints : ∀ ns : List Int, VRs K H m (ns.map AV.int) (ns.map V.int)
  | [] => VRs.nil
  | n :: r => VRs.cons (by unfold VR0; rfl) (VRs.ints r)
end

/-- fields -/
def FR (D : Dn) (K : PySem.W.Frag) (H : Hp) (m : List Addr) : List (Nat × AV) → List (Str × V) → Prop
  | [], [] => True
  | p :: r, q :: t => p.1 < D.nf ∧ q.1 = D.fnm p.1 ∧ VR0 K H m p.2 q.2 ∧ FR D K H m r t
  | _, _ => False
def CellR (D : Dn) (K : PySem.W.Frag) (H : Hp) (m : List Addr) (a : Addr) : Cell → Prop
  | .lst xs => ∃ vs, H a = some (.lst vs) ∧ VRs K H m xs vs
  | .ins c fs => ∃ dx gs, H a = some (.ins (He.ga K (D.cls c)) dx gs) ∧ FR D K H m fs gs
  | .gone => True
theorem FR.mono {D : Dn} {K : PySem.W.Frag} {H H' : Hp} {m m' : List Addr} (f : Fast H H') (hm : m <+: m') : ∀ {fs : List (Nat × AV)} {gs : List (Str × V)}, FR D K H m fs gs → FR D K H' m' fs gs
  | [], [], h => h
  | _ :: _, _ :: _, h => ⟨h.1, h.2.1, VR0.mono f hm _ _ h.2.2.1, FR.mono f hm h.2.2.2⟩
  | [], _ :: _, h => h.elim
  | _ :: _, [], h => h.elim

structure SR (D : Dn) (K : PySem.W.Frag) (m : List Addr) (st : List Cell) (H : Hp) : Prop where
  len : m.length = st.length
  nd : m.Nodup
  cell : ∀ (c : Nat) (x : Cell) (a : Addr), st[c]? = some x → m[c]? = some a → CellR D K H m a x

structure Rel (D : Dn) (K : PySem.W.Frag) (l m : List Addr) (s : S) (σ : L2.St) (H : Hp) : Prop where
  len : s.env.length = σ.length
  env : ∀ (i : Nat) (x : AV), s.env[i]? = some (some x) → ∃ v, σ[i]? = some (some v) ∧ VR K H l m x v
  llen : l.length = s.loc.length
  loc : ∀ (k : Nat) (xs : List AV) (a : Addr), s.loc[k]? = some (some xs) → l[k]? = some a → ∃ vs, H a = some (.lst vs) ∧ VRs K H m xs vs
  sto : SR D K m s.sto H
  ndl : l.Nodup
  dis : ∀ a, a ∈ l → a ∉ m
  liv : ∀ a, (a ∈ l ∨ a ∈ m) → ∃ o, H a = some o

structure Ext (l m : List Addr) (H : Hp) (l' m' : List Addr) (H' : Hp) : Prop where
  pl : l <+: l'
  pm : m <+: m'
  fast : Fast H H'
  keep : ∀ a o, H a = some o → a ∉ l → a ∉ m → H' a = some o
  new : ∀ a, (a ∈ l' ∨ a ∈ m') → (a ∈ l ∨ a ∈ m) ∨ H a = none
theorem Ext.refl {l m : List Addr} {H : Hp} : Ext l m H l m H := ⟨List.prefix_refl _, List.prefix_refl _, Fast.refl, fun _ _ h _ _ => h, fun _ h => .inl h⟩
theorem Ext.trans {l m l1 m1 l2 m2 : List Addr} {H H1 H2 : Hp} (a : Ext l m H l1 m1 H1) (b : Ext l1 m1 H1 l2 m2 H2) : Ext l m H l2 m2 H2 where
  pl := a.pl.trans b.pl
  pm := a.pm.trans b.pm
  fast := a.fast.trans b.fast
  keep := fun c o h hl hm => by
    have q : ¬ (c ∈ l1 ∨ c ∈ m1) := fun z => by
      rcases a.new c z with (z | z) | z
      · exact hl z
      · exact hm z
      · rw [h] at z; cases z
    exact b.keep c o (a.keep c o h hl hm) (fun z => q (.inl z)) fun z => q (.inr z)
  new := fun c h => by
    rcases b.new c h with h | h
    · exact a.new c h
    · cases e : H c with
      | none => exact .inr rfl
      | some o =>
        by_cases hl : c ∈ l
        · exact .inl (.inl hl)
        · by_cases hm : c ∈ m
          · exact .inl (.inr hm)
          · have := a.keep c o e hl hm
            rw [h] at this; cases this
section
variable {D : Dn} {K : PySem.W.Frag} {l m l' m' : List Addr} {s : S} {σ : L2.St} {H H' : Hp} {p : Addr} {o : HO}
theorem CellR.mono {a : Addr} {x : Cell} (f : Fast H H') (hm : m <+: m') (e : ∀ u, H a = some u → H' a = some u) (h : CellR D K H m a x) : CellR D K H' m' a x := by
  cases x with
  | lst xs =>
    obtain ⟨vs, h1, h2⟩ := h
    exact ⟨vs, e _ h1, VRs.mono f hm _ _ h2⟩
  | ins c fs =>
    obtain ⟨dx, gs, h1, h2⟩ := h
    exact ⟨dx, gs, e _ h1, FR.mono f hm h2⟩
  | gone => trivial
theorem Fast.new (hp : H p = none) : Fast H (upd H p o) := ⟨fun a xs h => by rw [upd_ne (ne_of_none h hp)]; exact h, fun a ob u h => by rw [upd_ne (ne_of_none h hp)]; exact h⟩
theorem Fast.set {u : HO} (hp : H p = some u) (h1 : ∀ xs, u ≠ .tup xs) (h2 : ∀ ob v, u ≠ .frz ob v) : Fast H (upd H p o) :=
  ⟨fun a xs h => by rw [upd_ne (ne_of h hp (Ne.symm (h1 xs)))]; exact h, fun a ob v h => by rw [upd_ne (ne_of h hp (Ne.symm (h2 ob v)))]; exact h⟩
/-- all cells stand where they stood -/
theorem SR.mono {st : List Cell} (f : Fast H H') (e : ∀ a u, a ∈ m → H a = some u → H' a = some u) (h : SR D K m st H) : SR D K m st H' :=
  ⟨h.len, h.nd, fun c x a h1 h2 => (h.cell c x a h1 h2).mono f (List.prefix_refl _) fun u => e a u (List.mem_of_getElem? h2)⟩
theorem Rel.mono (f : Fast H H') (e : ∀ a u, (a ∈ l ∨ a ∈ m) → H a = some u → H' a = some u) (h : Rel D K l m s σ H) : Rel D K l m s σ H' where
  len := h.len
  env := fun i x hx => by
    obtain ⟨v, h1, h2⟩ := h.env i x hx
    exact ⟨v, h1, h2.mono f (List.prefix_refl _) (List.prefix_refl _)⟩
  llen := h.llen
  loc := fun k xs a h1 h2 => by
    obtain ⟨vs, h3, h4⟩ := h.loc k xs a h1 h2
    exact ⟨vs, e a _ (.inl (List.mem_of_getElem? h2)) h3, VRs.mono f (List.prefix_refl _) _ _ h4⟩
  sto := h.sto.mono f fun a u hm => e a u (.inr hm)
  ndl := h.ndl
  dis := h.dis
  liv := fun a ha => let ⟨o, q⟩ := h.liv a ha; ⟨o, e a o ha q⟩
theorem Rel.out (h : Rel D K l m s σ H) (hp : H p = none) : p ∉ l ∧ p ∉ m := by
  refine ⟨fun z => ?_, fun z => ?_⟩
  · obtain ⟨o, q⟩ := h.liv p (.inl z)
    rw [hp] at q; cases q
  · obtain ⟨o, q⟩ := h.liv p (.inr z)
    rw [hp] at q; cases q
/-- a new object that stands fast -/
theorem Rel.newF (h : Rel D K l m s σ H) (hp : H p = none) : Rel D K l m s σ (upd H p o) ∧ Ext l m H l m (upd H p o) :=
  ⟨h.mono (Fast.new hp) fun a u _ q => by rw [upd_ne (ne_of_none q hp)]; exact q,
    ⟨List.prefix_refl _, List.prefix_refl _, Fast.new hp, fun a u q _ _ => by rw [upd_ne (ne_of_none q hp)]; exact q, fun a q => .inl q⟩⟩
theorem nd_app {l : List Addr} {p : Addr} (h : l.Nodup) (hp : p ∉ l) : (l ++ [p]).Nodup := by
  rw [List.nodup_append]
  exact ⟨h, by simp, fun a ha b hb => by simp at hb; subst hb; exact fun e => hp (e ▸ ha)⟩
theorem get_app {α : Type} {l : List α} {x : α} {k : Nat} {y : α} (h : (l ++ [x])[k]? = some y) : (k < l.length ∧ l[k]? = some y) ∨ (k = l.length ∧ y = x) := by
  by_cases hk : k < l.length
  · rw [List.getElem?_append_left hk] at h
    exact .inl ⟨hk, h⟩
  · rw [List.getElem?_append_right (Nat.le_of_not_lt hk)] at h
    have : k - l.length = 0 := by
      rcases Nat.eq_zero_or_pos (k - l.length) with e | e
      · exact e
      · rw [List.getElem?_eq_none (by simp; omega)] at h; cases h
    rw [this] at h
    simp at h
    exact .inr ⟨by omega, h.symm⟩
/-- the addresses that are not tracked are no cells -/
theorem Rel.newLo (h : Rel D K l m s σ H) (hp : H p = none) {xs : List AV} {vs : List V} (r : VRs K H m xs vs) :
    Rel D K (l ++ [p]) m { s with loc := s.loc ++ [some xs] } σ (upd H p (.lst vs)) ∧ Ext l m H (l ++ [p]) m (upd H p (.lst vs)) := by
  have f : Fast H (upd H p (.lst vs)) := Fast.new hp
  obtain ⟨hl, hm⟩ := h.out hp
  have k : ∀ a u, H a = some u → (upd H p (.lst vs)) a = some u := fun a u q => by rw [upd_ne (ne_of_none q hp)]; exact q
  refine ⟨⟨h.len, fun i x hx => ?_, by rw [List.length_append, List.length_append, h.llen]; rfl, fun k' ys a h1 h2 => ?_, h.sto.mono f fun a u _ q => k a u q, nd_app h.ndl hl, fun a ha => ?_, fun a ha => ?_⟩,
    ⟨List.prefix_append _ _, List.prefix_refl _, f, fun a u q _ _ => k a u q, fun a q => ?_⟩⟩
  · obtain ⟨v, h1, h2⟩ := h.env i x hx
    exact ⟨v, h1, h2.mono f (List.prefix_append _ _) (List.prefix_refl _)⟩
  · rcases get_app h1 with ⟨q1, q2⟩ | ⟨q1, q2⟩
    · rw [List.getElem?_append_left (by rw [h.llen]; exact q1)] at h2
      obtain ⟨ws, h3, h4⟩ := h.loc k' ys a q2 h2
      exact ⟨ws, k a _ h3, VRs.mono f (List.prefix_refl _) _ _ h4⟩
    · cases q2
      rw [q1, ← h.llen, List.getElem?_append_right (Nat.le_refl _)] at h2
      simp at h2; subst h2
      exact ⟨vs, upd_same, VRs.mono f (List.prefix_refl _) _ _ r⟩
  · rcases List.mem_append.mp ha with ha | ha
    · exact h.dis a ha
    · simp at ha; subst ha; exact hm
  · by_cases e : a = p
    · exact ⟨_, by rw [e]; exact upd_same⟩
    · have ha' : a ∈ l ∨ a ∈ m := ha.imp (fun z => (List.mem_append.mp z).elim id fun z => absurd (by simpa using z) e) id
      obtain ⟨o, q⟩ := h.liv a ha'
      exact ⟨o, k a o q⟩
  · rcases q with q | q
    · rcases List.mem_append.mp q with q | q
      · exact .inl (.inl q)
      · simp at q; subst q; exact .inr hp
    · exact .inl (.inr q)
theorem Rel.newGl (h : Rel D K l m s σ H) (hp : H p = none) {u : HO} {x : Cell} (fu : Fast H (upd H p u)) (r : CellR D K (upd H p u) (m ++ [p]) p x) :
    Rel D K l (m ++ [p]) { s with sto := s.sto ++ [x] } σ (upd H p u) ∧ Ext l m H l (m ++ [p]) (upd H p u) := by
  obtain ⟨hl, hm⟩ := h.out hp
  have k : ∀ a v, H a = some v → (upd H p u) a = some v := fun a v q => by rw [upd_ne (ne_of_none q hp)]; exact q
  refine ⟨⟨h.len, fun i y hy => ?_, h.llen, fun k' ys a h1 h2 => ?_, ⟨by rw [List.length_append, List.length_append, h.sto.len]; rfl, nd_app h.sto.nd hm, fun c y a h1 h2 => ?_⟩, h.ndl, fun a ha hb => ?_, fun a ha => ?_⟩,
    ⟨List.prefix_refl _, List.prefix_append _ _, fu, fun a v q _ _ => k a v q, fun a q => ?_⟩⟩
  · obtain ⟨v, h1, h2⟩ := h.env i y hy
    exact ⟨v, h1, h2.mono fu (List.prefix_refl _) (List.prefix_append _ _)⟩
  · obtain ⟨ws, h3, h4⟩ := h.loc k' ys a h1 h2
    exact ⟨ws, k a _ h3, VRs.mono fu (List.prefix_append _ _) _ _ h4⟩
  · rcases get_app h1 with ⟨q1, q2⟩ | ⟨q1, q2⟩
    · rw [List.getElem?_append_left (by rw [h.sto.len]; exact q1)] at h2
      exact (h.sto.cell c y a q2 h2).mono fu (List.prefix_append _ _) fun v => k a v
    · cases q2
      rw [q1, ← h.sto.len, List.getElem?_append_right (Nat.le_refl _)] at h2
      simp at h2; subst h2
      exact r
  · rcases List.mem_append.mp hb with hb | hb
    · exact h.dis a ha hb
    · simp at hb; subst hb; exact hl ha
  · by_cases e : a = p
    · exact ⟨_, by rw [e]; exact upd_same⟩
    · have ha' : a ∈ l ∨ a ∈ m := ha.imp id (fun z => (List.mem_append.mp z).elim id fun z => absurd (by simpa using z) e)
      obtain ⟨o, q⟩ := h.liv a ha'
      exact ⟨o, k a o q⟩
  · rcases q with q | q
    · exact .inl (.inl q)
    · rcases List.mem_append.mp q with q | q
      · exact .inl (.inr q)
      · simp at q; subst q; exact .inr hp
theorem nd_at {l : List Addr} (h : l.Nodup) {i j : Nat} {a : Addr} (e1 : l[i]? = some a) (e2 : l[j]? = some a) : i = j := by
  obtain ⟨h1, q1⟩ := List.getElem?_eq_some_iff.mp e1
  obtain ⟨h2, q2⟩ := List.getElem?_eq_some_iff.mp e2
  exact (List.getElem_inj h).mp (q1.trans q2.symm)
theorem set_at {α : Type} {l : List α} {k j : Nat} {x y : α} (h : (l.set k x)[j]? = some y) : (k = j ∧ y = x) ∨ (k ≠ j ∧ l[j]? = some y) := by
  by_cases e : k = j
  · subst e
    rw [List.getElem?_set] at h
    simp at h
    exact .inl ⟨rfl, h.2.symm⟩
  · rw [List.getElem?_set_ne e] at h
    exact .inr ⟨e, h⟩
/-- a list of the frame is written, or goes -/
theorem Rel.setLo (h : Rel D K l m s σ H) {k : Nat} {a : Addr} (hk : l[k]? = some a) {ws : List V} {u : HO} (hH : H a = some (.lst ws)) {q : Option (List AV)}
    (r : ∀ ys, q = some ys → ∃ vs, u = .lst vs ∧ VRs K H m ys vs) :
    Rel D K l m { s with loc := s.loc.set k q } σ (upd H a u) ∧ Ext l m H l m (upd H a u) := by
  have f : Fast H (upd H a u) := Fast.set hH (fun _ e => by cases e) fun _ _ e => by cases e
  have al : a ∈ l := List.mem_of_getElem? hk
  have kk : ∀ b v, b ≠ a → H b = some v → (upd H a u) b = some v := fun b v n q => by rw [upd_ne n]; exact q
  refine ⟨⟨h.len, fun i x hx => ?_, by rw [List.length_set]; exact h.llen, fun k' ys b h1 h2 => ?_, h.sto.mono f fun b v hb q => kk b v (fun e => h.dis a al (e ▸ hb)) q, h.ndl, h.dis, fun b hb => ?_⟩,
    ⟨List.prefix_refl _, List.prefix_refl _, f, fun b v q hl _ => kk b v (fun e => hl (e ▸ al)) q, fun b q => .inl q⟩⟩
  · obtain ⟨v, h1, h2⟩ := h.env i x hx
    exact ⟨v, h1, h2.mono f (List.prefix_refl _) (List.prefix_refl _)⟩
  · rcases set_at h1 with ⟨e1, e2⟩ | ⟨e1, e2⟩
    · subst e1
      have : b = a := by rw [hk] at h2; exact (Option.some.inj h2).symm
      subst this
      obtain ⟨vs, e3, e4⟩ := r ys e2.symm
      subst e3
      exact ⟨vs, upd_same, VRs.mono f (List.prefix_refl _) _ _ e4⟩
    · obtain ⟨vs, h3, h4⟩ := h.loc k' ys b e2 h2
      exact ⟨vs, kk b _ (fun e => e1 (nd_at h.ndl hk (e ▸ h2))) h3, VRs.mono f (List.prefix_refl _) _ _ h4⟩
  · by_cases e : b = a
    · exact ⟨_, by rw [e]; exact upd_same⟩
    · obtain ⟨o, q⟩ := h.liv b hb
      exact ⟨o, kk b o e q⟩
theorem Rel.setGl (h : Rel D K l m s σ H) {c : Nat} {a : Addr} (hc : m[c]? = some a) {w u : HO} (hH : H a = some w) (h1 : ∀ xs, w ≠ .tup xs) (h2 : ∀ ob v, w ≠ .frz ob v) {x : Cell}
    (r : CellR D K (upd H a u) m a x) : Rel D K l m { s with sto := s.sto.set c x } σ (upd H a u) ∧ Ext l m H l m (upd H a u) := by
  have f : Fast H (upd H a u) := Fast.set hH h1 h2
  have am : a ∈ m := List.mem_of_getElem? hc
  have kk : ∀ b v, b ≠ a → H b = some v → (upd H a u) b = some v := fun b v n q => by rw [upd_ne n]; exact q
  refine ⟨⟨h.len, fun i y hy => ?_, h.llen, fun k' ys b h1 h2 => ?_, ⟨by rw [List.length_set]; exact h.sto.len, h.sto.nd, fun c' y b h1 h2 => ?_⟩, h.ndl, h.dis, fun b hb => ?_⟩,
    ⟨List.prefix_refl _, List.prefix_refl _, f, fun b v q _ hm => kk b v (fun e => hm (e ▸ am)) q, fun b q => .inl q⟩⟩
  · obtain ⟨v, h1, h2⟩ := h.env i y hy
    exact ⟨v, h1, h2.mono f (List.prefix_refl _) (List.prefix_refl _)⟩
  · obtain ⟨vs, h3, h4⟩ := h.loc k' ys b h1 h2
    exact ⟨vs, kk b _ (fun e => h.dis b (List.mem_of_getElem? h2) (e ▸ am)) h3, VRs.mono f (List.prefix_refl _) _ _ h4⟩
  · rcases set_at h1 with ⟨e1, e2⟩ | ⟨e1, e2⟩
    · subst e1
      have : b = a := by rw [hc] at h2; exact (Option.some.inj h2).symm
      subst this; subst e2
      exact r
    · exact (h.sto.cell c' y b e2 h2).mono f (List.prefix_refl _) fun v => kk b v fun e => e1 (nd_at h.sto.nd hc (e ▸ h2))
  · by_cases e : b = a
    · exact ⟨_, by rw [e]; exact upd_same⟩
    · obtain ⟨o, q⟩ := h.liv b hb
      exact ⟨o, kk b o e q⟩
end
end CL

end
section
/-! Fw3: what is asked of a result (Sat), the judgements of expressions over the interpreter, one lemma a construct. -/
set_option Elab.async false
set_option linter.all false
set_option maxRecDepth 100000
namespace CL
open PySem PySem.Spec PyProof.Rows L2

/-- the store alone -/
structure SX (D : Dn) (K : PySem.W.Frag) (m : List Addr) (st : List Cell) (H : Hp) : Prop where
  sr : SR D K m st H
  liv : ∀ a, a ∈ m → ∃ o, H a = some o
structure EX (l m : List Addr) (H : Hp) (m' : List Addr) (H' : Hp) : Prop where
  pm : m <+: m'
  fast : Fast H H'
  keep : ∀ a o, H a = some o → a ∉ l → a ∉ m → H' a = some o
  new : ∀ a, a ∈ m' → (a ∈ l ∨ a ∈ m) ∨ H a = none
def exF : Str := "place"
def ExcR (D : Dn) (K : PySem.W.Frag) (m : List Addr) (H : Hp) (c : Nat) (p : Option AV) (cls : Value) (d : Option Addr) : Prop :=
  cls = .ref (He.ga K (D.cls c)) ∧ match p with
    | none => d = none
    | some x => ∃ dd v, d = some dd ∧ H dd = some (.xd [(exF, v)]) ∧ VR0 K H m x v
theorem Ext.toX {l m : List Addr} {H : Hp} {l1 m1 : List Addr} {H1 : Hp} (a : Ext l m H l1 m1 H1) : EX l m H m1 H1 :=
  ⟨a.pm, a.fast, a.keep, fun c h => a.new c (.inr h)⟩
theorem Ext.transX {l m l1 m1 m2 : List Addr} {H H1 H2 : Hp} (a : Ext l m H l1 m1 H1) (b : EX l1 m1 H1 m2 H2) : EX l m H m2 H2 where
  pm := a.pm.trans b.pm
  fast := a.fast.trans b.fast
  keep := fun c o h hl hm => by
    have q : ¬ (c ∈ l1 ∨ c ∈ m1) := fun z => by
      rcases a.new c z with (z | z) | z
      · exact hl z
      · exact hm z
      · rw [h] at z; cases z
    exact b.keep c o (a.keep c o h hl hm) (fun z => q (.inl z)) fun z => q (.inr z)
  new := fun c h => by
    rcases b.new c h with h | h
    · exact a.new c h
    · cases e : H c with
      | none => exact .inr rfl
      | some o =>
        by_cases hl : c ∈ l
        · exact .inl (.inl hl)
        · by_cases hm : c ∈ m
          · exact .inl (.inr hm)
          · have := a.keep c o e hl hm
            rw [h] at this; cases this

/-- an exception's wish, from here -/
def SatX (D : Dn) (K : PySem.W.Frag) (W : WX) (l m : List Addr) (H : Hp) (c : Nat) (p : Option AV) (st : List Cell) : Prop :=
  ∀ m' H', SX D K m' st H' → EX l m H m' H' → ∀ cls d, ExcR D K m' H' c p cls d → ∀ σ, W cls d σ H'
def Sat {α : Type} (D : Dn) (K : PySem.W.Frag) (W : WX) (σ : L2.St) (l m : List Addr) (H : Hp) (r : R α) (Q : List Addr → List Addr → S → Hp → α → Prop) : Prop := match r with
  | .ok a s' => ∀ l' m' H', Rel D K l' m' s' σ H' → Ext l m H l' m' H' → Q l' m' s' H' a
  | .exn c p st => SatX D K W l m H c p st
  | .bad => False
section
variable {D : Dn} {K : PySem.W.Frag} {W : WX} {σ : L2.St} {l m l1 m1 : List Addr} {H H1 : Hp} {α β : Type}
theorem SatX.base {c : Nat} {p : Option AV} {st : List Cell} (e : Ext l m H l1 m1 H1) (h : SatX D K W l m H c p st) : SatX D K W l1 m1 H1 c p st :=
  fun m' H' a b => h m' H' a (e.transX b)
theorem Sat.base {r : R α} {Q : List Addr → List Addr → S → Hp → α → Prop} (e : Ext l m H l1 m1 H1) (h : Sat D K W σ l m H r Q) : Sat D K W σ l1 m1 H1 r Q := by
  cases r with
  | ok a s => exact fun l' m' H' x y => h l' m' H' x (e.trans y)
  | exn c p st => exact SatX.base e h
  | bad => exact h
theorem Sat.bind {r : R α} {f : α → S → R β} {Q : List Addr → List Addr → S → Hp → β → Prop} (h : Sat D K W σ l m H (r.bind f) Q) :
    Sat D K W σ l m H r fun l' m' s' H' a => Sat D K W σ l' m' H' (f a s') Q := by
  cases r with
  | ok a s => exact fun l' m' H' _ y => Sat.base y h
  | exn c p st => exact h
  | bad => exact h
theorem Sat.imp {r : R α} {Q Q' : List Addr → List Addr → S → Hp → α → Prop} (h : Sat D K W σ l m H r Q)
    (k : ∀ l' m' s' H' a, Rel D K l' m' s' σ H' → Ext l m H l' m' H' → Q l' m' s' H' a → Q' l' m' s' H' a) : Sat D K W σ l m H r Q' := by
  cases r with
  | ok a s => exact fun l' m' H' x y => k l' m' s H' a x y (h l' m' H' x y)
  | exn c p st => exact h
  | bad => exact h
/-- where the result is told, with no step -/
theorem Sat.here {a : α} {s : S} {Q : List Addr → List Addr → S → Hp → α → Prop} (R0 : Rel D K l m s σ H) (h : Sat D K W σ l m H (.ok a s) Q) : Q l m s H a := h l m H R0 Ext.refl
end
def QV (K : PySem.W.Frag) (Q : VK) : List Addr → List Addr → S → Hp → AV → Prop := fun l' m' _ H' x => ∀ v, VR K H' l' m' x v → Q v H'
def QVs (K : PySem.W.Frag) (Q : List V → Hp → Prop) : List Addr → List Addr → S → Hp → List AV → Prop := fun l' m' _ H' xs => ∀ vs, Paired (VR K H' l' m') xs vs → Q vs H'
/-- an expression and what the interpreter says of it -/
def PEV (D : Dn) (X : Cx) (W : WX) (e : Expr) (f : S → R AV) : Prop :=
  ∃ t, PE X e t ∧ ∀ l m s σ H Q, Rel D X.K l m s σ H → Sat D X.K W σ l m H (f s) (QV X.K Q) → t σ H Q
def PAV (D : Dn) (X : Cx) (W : WX) (es : List Expr) (f : S → R (List AV)) : Prop :=
  ∃ t, PA X es t ∧ ∀ l m s σ H Q, Rel D X.K l m s σ H → Sat D X.K W σ l m H (f s) (QVs X.K Q) → t σ H Q
def PTV (D : Dn) (X : Cx) (W : WX) (e : Expr) (f : S → R Bool) : Prop :=
  ∃ t, PT X e t ∧ ∀ l m s σ H Q, Rel D X.K l m s σ H → Sat D X.K W σ l m H (f s) (fun _ _ _ H' b => Q b H') → t σ H Q

section
variable {D : Dn} {K : PySem.W.Frag} {l m l' m' : List Addr} {s : S} {σ : L2.St} {H H' : Hp}
/-! ### reading lists -/
theorem Rel.mut_ (h : Rel D K l m s σ H) {x : AV} {v : V} (r : VR K H l m x v) {xs : List AV} (e : s.mut x = some xs) : ∃ a vs, v = .ref a ∧ H a = some (.lst vs) ∧ VRs K H m xs vs := by
  cases x with
  | loc k =>
    obtain ⟨a, e1, e2⟩ := r
    unfold S.mut at e
    cases q : s.loc[k]? with
    | none => simp [q] at e
    | some o =>
      cases o with
      | none => simp [q] at e
      | some ys =>
        simp [q] at e; subst e
        obtain ⟨vs, h1, h2⟩ := h.loc k ys a q e2
        exact ⟨a, vs, e1, h1, h2⟩
  | ref c =>
    have r' : VR0 K H m (.ref c) v := r
    unfold VR0 at r'
    obtain ⟨a, e1, e2⟩ := r'
    unfold S.mut at e
    cases q : s.sto[c]? with
    | none => simp [q] at e
    | some o =>
      cases o with
      | lst ys =>
        simp [q] at e; subst e
        obtain ⟨vs, h1, h2⟩ := h.sto.cell c _ a q e2
        exact ⟨a, vs, e1, h1, h2⟩
      | ins _ _ => simp [q] at e
      | gone => simp [q] at e
  | _ => simp [S.mut] at e
theorem seq_mut {x : AV} {xs : List AV} (e : s.seq x = some xs) : (∃ ys, x = .tup ys) ∨ (∃ ys, x = .lst ys) ∨ (∃ ns, x = .scr ns) ∨ s.mut x = some xs := by
  cases x with
  | tup ys => exact .inl ⟨_, rfl⟩
  | lst ys => exact .inr (.inl ⟨_, rfl⟩)
  | scr ns => exact .inr (.inr (.inl ⟨_, rfl⟩))
  | loc k => exact .inr (.inr (.inr e))
  | ref c => exact .inr (.inr (.inr e))
  | _ => simp [S.seq] at e
theorem Rel.seq_ (h : Rel D K l m s σ H) {x : AV} {v : V} (r : VR K H l m x v) {xs : List AV} (e : s.seq x = some xs) :
    ∃ a vs, v = .ref a ∧ ((SqL K H a vs ∧ ∀ ys, x ≠ .tup ys) ∨ (SqT K H a vs ∧ x = .tup xs)) ∧ VRs K H m xs vs := by
  rcases seq_mut e with ⟨ys, rfl⟩ | ⟨ys, rfl⟩ | ⟨ns, rfl⟩ | q
  · have r' : VR0 K H m (.tup ys) v := r
    unfold VR0 at r'
    obtain ⟨a, vs, e1, e2, e3⟩ := r'
    simp [S.seq] at e; subst e
    exact ⟨a, vs, e1, .inr ⟨e2, rfl⟩, e3⟩
  · have r' : VR0 K H m (.lst ys) v := r
    unfold VR0 at r'
    obtain ⟨a, o, vs, e1, e2, e3⟩ := r'
    simp [S.seq] at e; subst e
    exact ⟨a, vs, e1, .inl ⟨.inl (.inr ⟨o, e2⟩), fun _ z => by cases z⟩, e3⟩
  · have r' : VR0 K H m (.scr ns) v := r
    unfold VR0 at r'
    obtain ⟨a, e1, e2⟩ := r'
    simp [S.seq] at e; subst e
    exact ⟨a, _, e1, .inl ⟨e2.sq, fun _ z => by cases z⟩, VRs.ints ns⟩
  · obtain ⟨a, vs, e1, e2, e3⟩ := h.mut_ r q
    refine ⟨a, vs, e1, .inl ⟨SqL.of e2, fun ys z => ?_⟩, e3⟩
    subst z; simp [S.mut] at q
theorem Rel.lsq_ (h : Rel D K l m s σ H) {x : AV} {v : V} (r : VR K H l m x v) {xs : List AV} (e : s.lsq x = some xs) : ∃ a vs, v = .ref a ∧ SqL K H a vs ∧ VRs K H m xs vs := by
  have e' : s.seq x = some xs ∧ ∀ ys, x ≠ .tup ys := by
    cases x <;> simp_all [S.lsq]
  obtain ⟨a, vs, e1, e2, e3⟩ := h.seq_ r e'.1
  rcases e2 with ⟨q, _⟩ | ⟨_, q⟩
  · exact ⟨a, vs, e1, q, e3⟩
  · exact absurd q (e'.2 _)
theorem Rel.put_ (h : Rel D K l m s σ H) {x : AV} {v : V} (r : VR K H l m x v) {xs : List AV} (e : s.mut x = some xs) {a : Addr} (ea : v = .ref a) {ys : List AV} {ws : List V} (rw' : VRs K H m ys ws) :
    Rel D K l m (s.put x ys) σ (upd H a (.lst ws)) ∧ Ext l m H l m (upd H a (.lst ws)) := by
  obtain ⟨a', vs, e1, e2, e3⟩ := h.mut_ r e
  have : a' = a := by rw [ea] at e1; cases e1; rfl
  subst this
  cases x with
  | loc k =>
    obtain ⟨a2, q1, q2⟩ := r
    rw [ea] at q1; cases q1
    exact h.setLo q2 e2 fun zs hz => by cases hz; exact ⟨ws, rfl, rw'⟩
  | ref c =>
    have r' : VR0 K H m (.ref c) v := r
    unfold VR0 at r'
    obtain ⟨a2, q1, q2⟩ := r'
    rw [ea] at q1; cases q1
    refine h.setGl q2 e2 (fun _ z => by cases z) (fun _ _ z => by cases z) ⟨ws, upd_same, VRs.mono (Fast.set e2 (fun _ z => by cases z) fun _ _ z => by cases z) (List.prefix_refl _) _ _ rw'⟩
  | _ => simp [S.mut] at e
theorem paired_nl : ∀ {xs : List AV} {vs : List V}, Paired (VR K H l m) xs vs → xs.all AV.nl = true → VRs K H m xs vs
  | _, _, .nil, _ => VRs.nil
  | _, _, .cons r t, h => by
    rw [List.all_cons, Bool.and_eq_true] at h
    exact VRs.cons (r.dn h.1) (paired_nl t h.2)
theorem VRs.all : ∀ {xs : List AV} {vs : List V}, VRs K H m xs vs → xs.all AV.nl = true
  | [], _, _ => rfl
  | x :: xs, vs, h => by
    unfold VRs at h
    obtain ⟨v, r, rfl, h1, h2⟩ := h
    rw [List.all_cons, Bool.and_eq_true]
    refine ⟨?_, VRs.all h2⟩
    cases x with
    | loc k => unfold VR0 at h1; exact h1.elim
    | _ => rfl
theorem Paired.mono {xs : List AV} {vs : List V} (f : Fast H H') (hl : l <+: l') (hm : m <+: m') (h : Paired (VR K H l m) xs vs) : Paired (VR K H' l' m') xs vs :=
  Paired.mapP h fun _ _ r => r.mono f hl hm
end
theorem SL_line {n : Nat} (h : n ≤ SL) : n ≤ sizeLine := by rw [sizeLine_eq]; exact h
theorem SL_line' {n : Nat} (h : n < SL) : n < sizeLine := by rw [sizeLine_eq]; exact h

/-! ### lists that are frozen as they are made -/
theorem objOk_lst {P : Program} {w : World} {H H' : Hp} {h : Heap} {a : Addr} {xs : List V} (x : ObjOk P w H h a (.lst xs)) : ObjOk P w H' h a (.lst xs) := x
theorem Inv.frz {X : Cx} {pins : List (Addr × Obj)} {σ : L2.St} {H : Hp} {s : Shared} {a : Addr} {xs : List V} {o : Obj} (I : Inv X pins σ H s) (h : H a = some (.lst xs)) (ho : s.heap.get? a = some o) :
    Inv X pins σ (upd H a (.frz o (.lst xs))) s := by
  have nn : ∀ b, H b = none → b ≠ a := fun b e z => by rw [z, h] at e; cases e
  have kk : ∀ b u, H b = some u → (∀ ys, u ≠ .lst ys) → (upd H a (.frz o (.lst xs))) b = some u := fun b u e n => by
    rw [upd_ne (fun z => by rw [z, h] at e; cases e; exact n xs rfl)]; exact e
  refine ⟨I.ok, I.os, I.bare, ⟨I.base.keep, I.base.slot, fun b ob e n hx => ?_, I.base.there, fun b ys e => ?_, fun b ob u e => ?_, fun b ps e => ?_⟩, I.loc, I.cell, ?_, fun x c e => ?_, fun p hp => ?_, fun b u e => ?_, I.len⟩
  · have := I.base.free b ob e n hx
    rw [upd_ne (nn b this)]; exact this
  · exact kk b _ (I.base.tups b ys e) fun _ z => by cases z
  · exact kk b _ (I.base.frzs b ob u e) fun _ z => by cases z
  · obtain ⟨more, e2⟩ := I.base.tbls b ps e
    exact ⟨more, kk b _ e2 fun _ z => by cases z⟩
  · rw [upd_ne (nn _ I.free)]; exact I.free
  · rw [upd_ne (nn _ (I.freeC x c e))]; exact I.freeC x c e
  · obtain ⟨e1, e2, e3, e4, e5⟩ := I.pin p hp
    exact ⟨e1, by rw [upd_ne (nn _ e2)]; exact e2, e3, e4, e5⟩
  · by_cases hb : b = a
    · subst hb
      rw [upd_same] at e; cases e
      exact ⟨ho, objOk_lst (I.hok b _ h)⟩
    · rw [upd_ne hb] at e
      exact (I.hok b u e).stay (fun _ _ _ q => q) (fun c q => kk c _ q fun _ z => by cases z) fun c ys q => kk c _ q fun _ z => by cases z
def tFrz (t : TE) : TE := fun σ H Q => t σ H fun v H1 => Q v H1 ∨ ∃ a xs, v = .ref a ∧ H1 a = some (.lst xs) ∧ ∀ o, Q v (upd H1 a (.frz o (.lst xs)))
theorem pe_frz {X : Cx} {e : Expr} {t : TE} (h : PE X e t) : PE X e (tFrz t) := by
  refine ⟨fun pins s σ H Q I hw => ?_⟩
  refine thn (h.run pins s σ H _ I hw) fun u s1 ⟨v, H1, I1, r, q⟩ => ?_
  rcases q with q | ⟨a, xs, e1, e2, q⟩
  · exact ⟨v, H1, I1, r, q⟩
  · obtain ⟨ob, hob⟩ : ∃ ob, s1.heap.get? a = some ob := by
      obtain ⟨_, _, _, _, z⟩ := I1.hok a _ e2
      exact ⟨_, z⟩
    exact ⟨v, _, Inv.frz I1 e2 hob, r, q ob⟩
/-- a new list of kind k: the reading -/
def tK (k : LK) (t : TE) : TE := match k with
  | .fz => tFrz t
  | _ => t
theorem pe_k {X : Cx} {e : Expr} {t : TE} (k : LK) (h : PE X e t) : PE X e (tK k t) := by
  cases k with
  | fz => exact pe_frz h
  | lo => exact h
  | gl => exact h
/-- what stands behind a rule that lays a new list -/
def qK (k : LK) (Q : VK) : VK := match k with
  | .fz => fun v H1 => Q v H1 ∨ ∃ a xs, v = .ref a ∧ H1 a = some (.lst xs) ∧ ∀ o, Q v (upd H1 a (.frz o (.lst xs)))
  | _ => Q
theorem tK_eq {k : LK} {t : TE} {σ : L2.St} {H : Hp} {Q : VK} (h : t σ H (qK k Q)) : tK k t σ H Q := by
  cases k <;> exact h
section
variable {D : Dn} {K : PySem.W.Frag} {W : WX} {l m : List Addr} {s : S} {σ : L2.St} {H : Hp} {Q : VK}
theorem new_sat {k : LK} {xs : List AV} {vs : List V} (R0 : Rel D K l m s σ H) (h : Sat D K W σ l m H (newL k xs s) (QV K Q)) (r : xs.all AV.nl = true → VRs K H m xs vs) :
    xs.length ≤ sizeLine ∧ ∀ p, H p = none → qK k Q (.ref p) (upd H p (.lst vs)) := by
  unfold newL at h
  split at h
  · rename_i hc
    refine ⟨SL_line hc.1, fun p hp => ?_⟩
    have rr := r hc.2
    cases k with
    | fz =>
      refine .inr ⟨p, vs, rfl, upd_same, fun o => ?_⟩
      rw [upd_upd]
      obtain ⟨R1, E1⟩ := R0.newF (o := .frz o (.lst vs)) hp
      refine h l m _ R1 E1 (.ref p) ?_
      show VR0 K _ m (.lst xs) (.ref p)
      unfold VR0
      exact ⟨p, o, vs, rfl, upd_same, VRs.mono E1.fast (List.prefix_refl _) _ _ rr⟩
    | lo =>
      obtain ⟨R1, E1⟩ := R0.newLo hp rr
      refine h _ m _ R1 E1 (.ref p) ⟨p, rfl, ?_⟩
      rw [← R0.llen, List.getElem?_append_right (Nat.le_refl _)]; simp
    | gl =>
      have f : Fast H (upd H p (.lst vs)) := Fast.new hp
      obtain ⟨R1, E1⟩ := R0.newGl hp (u := .lst vs) (x := .lst xs) f ⟨vs, upd_same, VRs.mono f (List.prefix_append _ _) _ _ rr⟩
      refine h l _ _ R1 E1 (.ref p) ?_
      show VR0 K (upd H p (.lst vs)) (m ++ [p]) (.ref s.sto.length) (.ref p)
      unfold VR0
      refine ⟨p, rfl, ?_⟩
      rw [← R0.sto.len, List.getElem?_append_right (Nat.le_refl _)]; simp
  · exact h.elim
/-- a new tuple -/
theorem newT_sat {xs : List AV} {vs : List V} (R0 : Rel D K l m s σ H) (h : Sat D K W σ l m H (newT xs s) (QV K Q)) (r : xs.all AV.nl = true → VRs K H m xs vs) :
    xs.length ≤ sizeLine ∧ ∀ p, H p = none → Q (.ref p) (upd H p (.tup vs)) := by
  unfold newT at h
  split at h
  · rename_i hc
    refine ⟨SL_line hc.1, fun p hp => ?_⟩
    obtain ⟨R1, E1⟩ := R0.newF (o := .tup vs) hp
    refine h l m _ R1 E1 (.ref p) ?_
    show VR0 K _ m (.tup xs) (.ref p)
    unfold VR0
    exact ⟨p, vs, rfl, SqT.of upd_same, VRs.mono E1.fast (List.prefix_refl _) _ _ (r hc.2)⟩
  · exact h.elim
end

/-! ### expressions -/
section
variable {D : Dn} {X : Cx} {W : WX} {a b c e : Expr} {es : List Expr} {f g k : S → R AV} {fs : S → R (List AV)} {pos : Pos}
theorem two {ta tb : TE} (ha : ∀ l m s σ H Q, Rel D X.K l m s σ H → Sat D X.K W σ l m H (f s) (QV X.K Q) → ta σ H Q) (hb : ∀ l m s σ H Q, Rel D X.K l m s σ H → Sat D X.K W σ l m H (g s) (QV X.K Q) → tb σ H Q)
    {α : Type} {kk : AV → AV → S → R α} {Qa : List Addr → List Addr → S → Hp → α → Prop} {l m : List Addr} {s : S} {σ : L2.St} {H : Hp} {Rr : V → V → Hp → Prop} (R0 : Rel D X.K l m s σ H)
    (h : Sat D X.K W σ l m H ((f s).bind fun x s1 => (g s1).bind fun y s2 => kk x y s2) Qa)
    (fin : ∀ l2 m2 s2 H2 x y v w, Rel D X.K l2 m2 s2 σ H2 → VR X.K H2 l2 m2 x v → VR X.K H2 l2 m2 y w → Sat D X.K W σ l2 m2 H2 (kk x y s2) Qa → Rr v w H2) : ta σ H fun v H1 => tb σ H1 fun w H2 => Rr v w H2 := by
  refine ha l m s σ H _ R0 (h.bind.imp fun l1 m1 s1 H1 x R1 E1 q v rv => ?_)
  refine hb l1 m1 s1 σ H1 _ R1 (q.bind.imp fun l2 m2 s2 H2 y R2 E2 q2 w rw' => ?_)
  exact fin l2 m2 s2 H2 x y v w R2 (rv.mono E2.fast E2.pl E2.pm) rw' q2
theorem pev_cst {v : AV} {u : V} (h : PE X e (tC u)) (r : ∀ H m, VR0 X.K H m v u) : PEV D X W e fun s => .ok v s :=
  ⟨_, h, fun l m s σ H Q R0 q => Sat.here R0 q u (VR.up (r H m))⟩
theorem pev_slot {i : Nat} {x : Str} (hN : X.N[i]? = some x) (hv : Vis X.env.scope x) (hd : (x == ("__debug__" : Str)) = false) (hcd : (x == ("__classdict__" : Str)) = false) :
    PEV D X W (.Name x pos) fun s => match s.env[i]? with
      | some (some v) => .ok v s
      | _ => .bad := by
  refine ⟨_, pe_var hN hv hd hcd, fun l m s σ H Q R0 q => ?_⟩
  cases h : s.env[i]? with
  | none => simp only [h] at q; exact q.elim
  | some o =>
    cases o with
    | none => simp only [h] at q; exact q.elim
    | some v =>
      simp only [h] at q
      obtain ⟨u, e1, e2⟩ := R0.env i v h
      exact ⟨u, e1, Sat.here R0 q u e2⟩
theorem pav_nil : PAV D X W [] fun s => .ok [] s := ⟨_, pa_nil, fun l m s σ H Q R0 q => Sat.here R0 q [] .nil⟩
theorem pav_cons (ha : PEV D X W e f) (hr : PAV D X W es fs) (hs : starEach (e :: es) X.env = (false, eval e X.env) :: starEach es X.env) :
    PAV D X W (e :: es) fun s => (f s).bind fun v s => (fs s).bind fun vs s => .ok (v :: vs) s := by
  obtain ⟨ta, pa, ha⟩ := ha
  obtain ⟨tr, pr, hr⟩ := hr
  refine ⟨_, pa_cons pa pr hs, fun l m s σ H Q R0 q => ?_⟩
  refine ha l m s σ H _ R0 (q.bind.imp fun l1 m1 s1 H1 x R1 E1 q v rv => ?_)
  refine hr l1 m1 s1 σ H1 _ R1 (q.bind.imp fun l2 m2 s2 H2 xs R2 E2 q2 ws rw' => ?_)
  exact Sat.here R2 q2 (v :: ws) (.cons (rv.mono E2.fast E2.pl E2.pm) rw')
theorem pev_tup {x1 : Nat} (h : PAV D X W es fs) : PEV D X W (.Tuple es x1 pos) fun s => (fs s).bind newT := by
  obtain ⟨t, p, h⟩ := h
  refine ⟨_, pe_tup p, fun l m s σ H Q R0 q => ?_⟩
  refine h l m s σ H _ R0 (q.bind.imp fun l1 m1 s1 H1 xs R1 E1 q vs rv => ?_)
  have z := newT_sat R1 q (fun n => paired_nl rv n)
  exact ⟨by rw [← Paired.length rv]; exact z.1, z.2⟩
theorem pev_lst {kk : LK} (h : PAV D X W es fs) : PEV D X W (.List es pos) fun s => (fs s).bind (newL kk) := by
  obtain ⟨t, p, h⟩ := h
  refine ⟨_, pe_k kk (pe_lst p), fun l m s σ H Q R0 q => tK_eq ?_⟩
  refine h l m s σ H _ R0 (q.bind.imp fun l1 m1 s1 H1 xs R1 E1 q vs rv => ?_)
  have z := new_sat R1 q (fun n => paired_nl rv n)
  exact ⟨by rw [← Paired.length rv]; exact z.1, z.2⟩
/-- an operation on two values that changes nothing but for new things -/
def OpV (D : Dn) (X : Cx) (W : WX) (r : R2) (kk : AV → AV → S → R AV) : Prop :=
  ∀ l m s σ H x y v w Q, Rel D X.K l m s σ H → VR X.K H l m x v → VR X.K H l m y w → Sat D X.K W σ l m H (kk x y s) (QV X.K Q) → r v w H Q
theorem pev_op {op : Operator} {r : R2} {kk : AV → AV → S → R AV} (ho : OpR X (binaryOp op) r) (hv : OpV D X W r kk) (ha : PEV D X W a f) (hb : PEV D X W b g) :
    PEV D X W (.BinOp a op b pos) fun s => (f s).bind fun x s => (g s).bind fun y s => kk x y s := by
  obtain ⟨ta, pa, ha⟩ := ha
  obtain ⟨tb, pb, hb⟩ := hb
  exact ⟨_, pe_op ho pa pb, fun l m s σ H Q R0 q => two ha hb R0 q fun l2 m2 s2 H2 x y v w R2 rx ry q => hv l2 m2 s2 σ H2 x y v w Q R2 rx ry q⟩
theorem pev_cmp {op : CmpOp} {r : R2} {kk : AV → AV → S → R AV} (ho : OpR X (compareOp op) r) (hv : OpV D X W r kk) (ha : PEV D X W a f) (hb : PEV D X W b g) (hm : behindInMarks op b = false) :
    PEV D X W (.Compare a [op] [b] pos) fun s => (f s).bind fun x s => (g s).bind fun y s => kk x y s := by
  obtain ⟨ta, pa, ha⟩ := ha
  obtain ⟨tb, pb, hb⟩ := hb
  exact ⟨_, pe_cmpR ho pa pb hm, fun l m s σ H Q R0 q => two ha hb R0 q fun l2 m2 s2 H2 x y v w R2 rx ry q => hv l2 m2 s2 σ H2 x y v w Q R2 rx ry q⟩
theorem pev_ix {r : R2} {kk : AV → AV → S → R AV} (ho : IxR X r) (hv : OpV D X W r kk) (ha : PEV D X W a f) (hb : PEV D X W b g) (hs : PlainIx b) :
    PEV D X W (.Subscript a b pos) fun s => (f s).bind fun x s => (g s).bind fun y s => kk x y s := by
  obtain ⟨ta, pa, ha⟩ := ha
  obtain ⟨tb, pb, hb⟩ := hb
  exact ⟨_, pe_ix ho pa pb hs, fun l m s σ H Q R0 q => two ha hb R0 q fun l2 m2 s2 H2 x y v w R2 rx ry q => hv l2 m2 s2 σ H2 x y v w Q R2 rx ry q⟩
theorem vr_int {K : PySem.W.Frag} {H : Hp} {l m : List Addr} {i : Int} {v : V} (h : VR K H l m (.int i) v) : v = .int i := by
  have h' : VR0 K H m (.int i) v := h
  unfold VR0 at h'; exact h'
theorem vr_bl {K : PySem.W.Frag} {H : Hp} {l m : List Addr} {i : Bool} {v : V} (h : VR K H l m (.bl i) v) : v = .bl i := by
  have h' : VR0 K H m (.bl i) v := h
  unfold VR0 at h'; exact h'
theorem vr_str {K : PySem.W.Frag} {H : Hp} {l m : List Addr} {i : List Nat} {v : V} (h : VR K H l m (.str i) v) : v = .str (strV i) := by
  have h' : VR0 K H m (.str i) v := h
  unfold VR0 at h'; exact h'
theorem vr_non {K : PySem.W.Frag} {H : Hp} {l m : List Addr} {v : V} (h : VR K H l m .non v) : v = .non := by
  have h' : VR0 K H m .non v := h
  unfold VR0 at h'; exact h'
theorem vr_tup {K : PySem.W.Frag} {H : Hp} {l m : List Addr} {xs : List AV} {v : V} (h : VR K H l m (.tup xs) v) : ∃ a vs, v = .ref a ∧ SqT K H a vs ∧ VRs K H m xs vs := by
  have h' : VR0 K H m (.tup xs) v := h
  unfold VR0 at h'; exact h'
theorem to_int {K : PySem.W.Frag} {H : Hp} {l m : List Addr} {i : Int} : VR K H l m (.int i) (.int i) := by
  show VR0 K H m (.int i) (.int i); unfold VR0; rfl
theorem to_bl {K : PySem.W.Frag} {H : Hp} {l m : List Addr} {i : Bool} : VR K H l m (.bl i) (.bl i) := by
  show VR0 K H m (.bl i) (.bl i); unfold VR0; rfl
theorem to_str {K : PySem.W.Frag} {H : Hp} {l m : List Addr} {i : List Nat} : VR K H l m (.str i) (.str (strV i)) := by
  show VR0 K H m (.str i) (.str (strV i)); unfold VR0; rfl
theorem to_non {K : PySem.W.Frag} {H : Hp} {l m : List Addr} : VR K H l m .non .non := by
  show VR0 K H m .non .non; unfold VR0; rfl
theorem to_tup {K : PySem.W.Frag} {H : Hp} {l m : List Addr} {xs : List AV} {a : Addr} {vs : List V} (h : SqT K H a vs) (r : VRs K H m xs vs) : VR K H l m (.tup xs) (.ref a) := by
  show VR0 K H m (.tup xs) (.ref a); unfold VR0; exact ⟨a, vs, rfl, h, r⟩
theorem opv_add : OpV D X W (fun x y H Q => ((∃ i j, x = .int i ∧ y = .int j ∧ Q (.int (i + j)) H) ∨ (∃ i j, x = .str i ∧ y = .str j ∧ i.length + j.length ≤ sizeLine ∧ Q (.str (i ++ j)) H)) ∨ rCatA X.K x y H Q) (binA .add) := by
  intro l m s σ H x y v w Q R0 rx ry q
  cases x <;> cases y <;> try exact q.elim
  · rw [vr_int rx, vr_int ry]
    exact .inl (.inl ⟨_, _, rfl, rfl, Sat.here R0 q _ to_int⟩)
  · rename_i i j
    rw [vr_str rx, vr_str ry]
    simp only [binA] at q
    split at q
    · rename_i hl
      refine .inl (.inr ⟨_, _, rfl, rfl, ?_, ?_⟩)
      · show (strV i).cps.size + (strV j).cps.size ≤ sizeLine
        simp only [strV, List.size_toArray]
        exact SL_line hl
      · have z := Sat.here R0 q _ to_str
        have e : strV i ++ strV j = strV (i ++ j) := by
          show (⟨(strV i).cps ++ (strV j).cps⟩ : Str) = _
          simp [strV]
        rw [e]; exact z
    · exact q.elim
  · rename_i xs ys
    obtain ⟨a, vs, e1, e2, e3⟩ := vr_tup rx
    obtain ⟨b, ws, e4, e5, e6⟩ := vr_tup ry
    subst e1; subst e4
    simp only [binA] at q
    split at q
    · rename_i hl
      refine .inr ⟨a, b, vs, ws, rfl, rfl, e2, e5, ?_, fun hn => ?_, fun hn hm => ?_, fun hn hm p hp => ?_⟩
      · rw [← e3.len, ← e6.len]; exact SL_line hl
      · have : xs = [] := by
          have := e3.len; rw [hn] at this; exact List.length_eq_zero_iff.mp this
        subst this
        exact Sat.here R0 q _ (to_tup e5 e6)
      · have : ys = [] := by
          have := e6.len; rw [hm] at this; exact List.length_eq_zero_iff.mp this
        subst this
        rw [List.append_nil] at q
        exact Sat.here R0 q _ (to_tup e2 e3)
      · obtain ⟨R1, E1⟩ := R0.newF (o := .tup (vs ++ ws)) hp
        exact q l m _ R1 E1 _ (to_tup (SqT.of upd_same) (VRs.mono E1.fast (List.prefix_refl _) _ _ (e3.app e6)))
    · exact q.elim
theorem opv_sub : OpV D X W (rI0 fun i j => .int (i - j)) (binA .sub) := by
  intro l m s σ H x y v w Q R0 rx ry q
  cases x <;> cases y <;> try exact q.elim
  rw [vr_int rx, vr_int ry]
  exact ⟨_, _, rfl, rfl, Sat.here R0 q _ to_int⟩
theorem opv_mul : OpV D X W (rI CMul fun i j => .int (i * j)) (binA .mul) := by
  intro l m s σ H x y v w Q R0 rx ry q
  cases x <;> cases y <;> try exact q.elim
  rw [vr_int rx, vr_int ry]
  simp only [binA] at q
  split at q
  · rename_i hc
    exact ⟨_, _, rfl, rfl, hc, Sat.here R0 q _ to_int⟩
  · exact q.elim
theorem opv_fdiv : OpV D X W (rI CDivN fun i j => .int (i.fdiv j)) (binA .fdiv) := by
  intro l m s σ H x y v w Q R0 rx ry q
  cases x <;> cases y <;> try exact q.elim
  rw [vr_int rx, vr_int ry]
  simp only [binA] at q
  split at q
  · rename_i hc
    exact ⟨_, _, rfl, rfl, hc, Sat.here R0 q _ to_int⟩
  · exact q.elim
theorem opv_mod : OpV D X W (rI (fun _ j => j ≠ 0) fun i j => .int (i.fmod j)) (binA .mod) := by
  intro l m s σ H x y v w Q R0 rx ry q
  cases x <;> cases y <;> try exact q.elim
  rw [vr_int rx, vr_int ry]
  simp only [binA] at q
  split at q
  · rename_i hc
    exact ⟨_, _, rfl, rfl, hc, Sat.here R0 q _ to_int⟩
  · exact q.elim
theorem opv_pow : OpV D X W (rI CPow fun i j => .int (i ^ j.toNat)) (binA .pow) := by
  intro l m s σ H x y v w Q R0 rx ry q
  cases x <;> cases y <;> try exact q.elim
  rw [vr_int rx, vr_int ry]
  simp only [binA] at q
  split at q
  · rename_i hc
    exact ⟨_, _, rfl, rfl, hc, Sat.here R0 q _ to_int⟩
  · exact q.elim
end
end CL

end
section
/-! Fw4: comparisons, tests, subscripts, calls, built-ins. -/
set_option Elab.async false
set_option linter.all false
set_option maxRecDepth 100000
namespace CL
open PySem PySem.Spec PyProof.Rows L2

/-! ### data -/
mutual
def AV.d : AV → PyData
  | .bl b => .bool b
  | .int i => .int i
  | .str x => .str (strV x)
  | .tup xs => .tuple (AV.ds xs)
  | .lst xs => .list (AV.ds xs)
  | _ => .none
def AV.ds : List AV → List PyData
  | [] => []
  | x :: xs => AV.d x :: AV.ds xs
end
theorem strV_inj {x y : List Nat} : (strV x == strV y) = (x == y) := by
  by_cases h : x = y
  · subst h; simp
  · have : strV x ≠ strV y := fun e => h (by injection e with e; simpa using e)
    rw [beq_eq_false_iff_ne.mpr h, beq_eq_false_iff_ne.mpr this]
mutual
theorem d_eqv : ∀ x y : AV, x.isD = true → y.isD = true → PyData.eqv x.d y.d = AV.eqv x y
  | .non, y, _, hy => by cases y <;> first | rfl | (simp [AV.isD] at hy; done)
  | .bl _, y, _, hy => by cases y <;> first | rfl | (simp [AV.isD] at hy; done)
  | .int _, y, _, hy => by cases y <;> first | rfl | (simp [AV.isD] at hy; done)
  | .str _, y, _, hy => by
    cases y <;> first | rfl | (simp [AV.isD] at hy; done) | skip
    show (strV _ == strV _) = _
    rw [strV_inj]; rfl
  | .tup xs, y, hx, hy => by
    cases y <;> first | rfl | (simp [AV.isD] at hy; done) | skip
    exact ds_eqv xs _ hx hy
  | .lst xs, y, hx, hy => by
    cases y <;> first | rfl | (simp [AV.isD] at hy; done) | skip
    exact ds_eqv xs _ hx hy
  | .scr _, y, hx, _ => by simp [AV.isD] at hx
  | .loc _, y, hx, _ => by simp [AV.isD] at hx
  | .ref _, y, hx, _ => by simp [AV.isD] at hx
theorem ds_eqv : ∀ xs ys : List AV, AV.allD xs = true → AV.allD ys = true → PyData.eqvAll (AV.ds xs) (AV.ds ys) = AV.eqvs xs ys
  | [], [], _, _ => rfl
  | [], _ :: _, _, _ => rfl
  | _ :: _, [], _, _ => rfl
  | x :: xs, y :: ys, hx, hy => by
    unfold AV.allD at hx hy
    rw [Bool.and_eq_true] at hx hy
    show (PyData.eqv x.d y.d && PyData.eqvAll (AV.ds xs) (AV.ds ys)) = (AV.eqv x y && AV.eqvs xs ys)
    rw [d_eqv x y hx.1 hy.1, ds_eqv xs ys hx.2 hy.2]
end
mutual
theorem d_dep : ∀ x : AV, PyData.depth x.d = x.dep
  | .non => rfl
  | .bl _ => rfl
  | .int _ => rfl
  | .str _ => rfl
  | .tup xs => by show PyData.depthAll (AV.ds xs) + 1 = AV.deps xs + 1; rw [ds_dep xs]
  | .lst xs => by show PyData.depthAll (AV.ds xs) + 1 = AV.deps xs + 1; rw [ds_dep xs]
  | .scr _ => rfl
  | .loc _ => rfl
  | .ref _ => rfl
theorem ds_dep : ∀ xs : List AV, PyData.depthAll (AV.ds xs) = AV.deps xs
  | [] => rfl
  | x :: xs => by show max (PyData.depth x.d) (PyData.depthAll (AV.ds xs)) = max x.dep (AV.deps xs); rw [d_dep x, ds_dep xs]
end
mutual
theorem d_lay : ∀ x : AV, x.isD = true → x.d.canLay0 = true
  | .non, _ => by simp [AV.d, PyData.canLay0]
  | .bl _, _ => by simp [AV.d, PyData.canLay0]
  | .int _, _ => by simp [AV.d, PyData.canLay0]
  | .str x, h => by
    simp only [AV.d, PyData.canLay0, PyData.strOk, strV]
    simp [AV.isD] at h
    simpa using h
  | .tup xs, h => by simp only [AV.d, PyData.canLay0]; exact ds_lay xs h
  | .lst xs, h => by simp only [AV.d, PyData.canLay0]; exact ds_lay xs h
  | .scr _, h => by simp [AV.isD] at h
  | .loc _, h => by simp [AV.isD] at h
  | .ref _, h => by simp [AV.isD] at h
theorem ds_lay : ∀ xs : List AV, AV.allD xs = true → PyData.canLayAll0 (AV.ds xs) = true
  | [], _ => by simp [AV.ds, PyData.canLayAll0]
  | x :: xs, h => by
    unfold AV.allD at h
    rw [Bool.and_eq_true] at h
    simp only [AV.ds, PyData.canLayAll0, d_lay x h.1, ds_lay xs h.2, Bool.and_self]
end
section
variable {K : PySem.W.Frag} {H : Hp} {m : List Addr}
mutual
theorem VR0.dp : ∀ (x : AV) (v : V), x.isD = true → VR0 K H m x v → Dp K H v x.d
  | .non, v, _, h => by unfold VR0 at h; subst h; exact .non
  | .bl _, v, _, h => by unfold VR0 at h; subst h; exact .bl _
  | .int _, v, _, h => by unfold VR0 at h; subst h; exact .int _
  | .str _, v, _, h => by unfold VR0 at h; subst h; exact .str _
  | .tup xs, v, q, h => by
    unfold VR0 at h
    obtain ⟨a, vs, rfl, h1, h2⟩ := h
    exact .tup h1 (VRs.dp xs vs q h2)
  | .lst xs, v, q, h => by
    unfold VR0 at h
    obtain ⟨a, o, vs, rfl, h1, h2⟩ := h
    exact .lst (.inl (.inr ⟨o, h1⟩)) (VRs.dp xs vs q h2)
  | .scr _, _, q, _ => by simp [AV.isD] at q
  | .loc _, _, q, _ => by simp [AV.isD] at q
  | .ref _, _, q, _ => by simp [AV.isD] at q
theorem VRs.dp : ∀ (xs : List AV) (vs : List V), AV.allD xs = true → VRs K H m xs vs → DpAll K H vs (AV.ds xs)
  | [], vs, _, h => by unfold VRs at h; subst h; exact .nil
  | x :: xs, vs, q, h => by
    unfold VRs at h
    obtain ⟨v, r, rfl, h1, h2⟩ := h
    unfold AV.allD at q
    rw [Bool.and_eq_true] at q
    exact .cons (VR0.dp x v q.1 h1) (VRs.dp xs r q.2 h2)
end
end
theorem dv_lst {s : S} {x : AV} {xs : List AV} (e : s.seq x = some xs) (n : ∀ ys, x ≠ .tup ys) : s.dv x = .lst xs := by
  cases x <;> first | (simp [S.dv, e]; done) | exact absurd rfl (n _) | (simp [S.seq] at e; done)
theorem Rel.dp {D : Dn} {K : PySem.W.Frag} {l m : List Addr} {s : S} {σ : L2.St} {H : Hp} (R0 : Rel D K l m s σ H) {x : AV} {v : V} (r : VR K H l m x v) (q : (s.dv x).isD = true) : Dp K H v (s.dv x).d := by
  cases hx : s.seq x with
  | some xs =>
    obtain ⟨a, vs, rfl, h1, h2⟩ := R0.seq_ r hx
    rcases h1 with ⟨h1, h3⟩ | ⟨h1, rfl⟩
    · have e := dv_lst hx h3
      rw [e] at q ⊢
      exact .lst h1 (VRs.dp xs vs q h2)
    · exact .tup h1 (VRs.dp xs vs q h2)
  | none =>
    have e : s.dv x = x := by cases x <;> first | rfl | simp [S.dv, hx]
    rw [e] at q ⊢
    cases x with
    | loc k => simp [AV.isD] at q
    | _ => exact VR0.dp (m := m) _ v q r

/-! ### == -/
def rEqA (K : PySem.W.Frag) (neg : Bool) : R2 := fun x y H Q => ∃ d e, Dp K H x d ∧ Dp K H y e ∧ d.canLay0 = true ∧ e.canLay0 = true ∧ min d.depth e.depth ≤ 64 ∧ Q (.bl (if neg then !PyData.eqv d e else PyData.eqv d e)) H
section
variable {X : Cx}
theorem op_eqA (hu : X.A.units + 64 < cLine) : OpR X (compareOp .Eq) (rEqA X.K false) := by
  intro pins s σ H x y v u Q I rx ry h
  obtain ⟨d, e, hd, he, sd, se, hm, q⟩ := h
  obtain ⟨as, r1⟩ := Dp.reads I d x v hd rx
  obtain ⟨bs, r2⟩ := Dp.reads I e y u he ry
  exact SeqAt.compareEq_reads r1 r2 sd se (by omega) ⟨.bl _, H, I, rfl, q⟩
theorem op_neA (hu : X.A.units + 64 < cLine) : OpR X (compareOp .NotEq) (rEqA X.K true) := by
  intro pins s σ H x y v u Q I rx ry h
  obtain ⟨d, e, hd, he, sd, se, hm, q⟩ := h
  obtain ⟨as, r1⟩ := Dp.reads I d x v hd rx
  obtain ⟨bs, r2⟩ := Dp.reads I e y u he ry
  exact SeqAt.compareNe_reads r1 r2 sd se (by omega) ⟨.bl _, H, I, rfl, q⟩
def rInA (K : PySem.W.Frag) (neg : Bool) : R2 := fun x y H Q => ∃ d ds, Dp K H x d ∧ (Dp K H y (.list ds) ∨ Dp K H y (.tuple ds)) ∧ d.canLay0 = true ∧ PyData.canLayAll0 ds = true ∧ d.depth ≤ 63 ∧
  Q (.bl (if neg then !ds.any fun z => PyData.eqv z d else ds.any fun z => PyData.eqv z d)) H
theorem op_inA (hu : X.A.units + 64 < cLine) : OpR X (compareOp .In) (rInA X.K false) := by
  intro pins s σ H x y v u Q I rx ry h
  obtain ⟨d, ds, hd, he, sd, se, hm, q⟩ := h
  obtain ⟨as, r1⟩ := Dp.reads I d x v hd rx
  have hr : X.A.units + 1 + min (PyData.depthAll ds) d.depth < cLine := by omega
  rcases he with he | he
  · obtain ⟨bs, r2⟩ := Dp.reads I _ y u he ry
    exact SeqAt.in_list_reads r2 r1 se sd hr ⟨.bl _, H, I, rfl, q⟩
  · obtain ⟨bs, r2⟩ := Dp.reads I _ y u he ry
    exact SeqAt.in_tuple_reads r2 r1 se sd hr ⟨.bl _, H, I, rfl, q⟩
theorem op_notInA (hu : X.A.units + 64 < cLine) : OpR X (compareOp .NotIn) (rInA X.K true) := by
  intro pins s σ H x y v u Q I rx ry h
  obtain ⟨d, ds, hd, he, sd, se, hm, q⟩ := h
  obtain ⟨as, r1⟩ := Dp.reads I d x v hd rx
  have hr : X.A.units + 1 + min (PyData.depthAll ds) d.depth < cLine := by omega
  rcases he with he | he
  · obtain ⟨bs, r2⟩ := Dp.reads I _ y u he ry
    exact SeqAt.notIn_list_reads r2 r1 se sd hr ⟨.bl _, H, I, rfl, q⟩
  · obtain ⟨bs, r2⟩ := Dp.reads I _ y u he ry
    exact SeqAt.notIn_tuple_reads r2 r1 se sd hr ⟨.bl _, H, I, rfl, q⟩
end
section
variable {D : Dn} {X : Cx} {W : WX}
/-- a comparison: from cmpB -/
theorem cmp_some {K : PySem.W.Frag} {l m : List Addr} {s : S} {σ : L2.St} {H : Hp} {Q : VK} {o : Cop} {x y : AV} (R0 : Rel D K l m s σ H) (q : Sat D K W σ l m H (cmpA o x y s) (QV K Q)) : ∃ b, cmpB o x y s = some b ∧ Q (.bl b) H := by
  unfold cmpA at q
  cases h : cmpB o x y s with
  | none => rw [h] at q; exact q.elim
  | some b => rw [h] at q; exact ⟨b, rfl, Sat.here R0 q _ to_bl⟩
theorem opv_eq : OpV D X W (rEqA X.K false) (cmpA .eq) := by
  intro l m s σ H x y v w Q R0 rx ry q
  obtain ⟨b, e, q⟩ := cmp_some R0 q
  simp only [cmpB] at e
  split at e
  · rename_i hc
    cases e
    refine ⟨_, _, R0.dp rx hc.1, R0.dp ry hc.2.1, d_lay _ hc.1, d_lay _ hc.2.1, by rw [d_dep, d_dep]; exact hc.2.2, ?_⟩
    rw [d_eqv _ _ hc.1 hc.2.1]; exact q
  · cases e
theorem opv_ne : OpV D X W (rEqA X.K true) (cmpA .ne) := by
  intro l m s σ H x y v w Q R0 rx ry q
  obtain ⟨b, e, q⟩ := cmp_some R0 q
  simp only [cmpB] at e
  split at e
  · rename_i hc
    cases e
    refine ⟨_, _, R0.dp rx hc.1, R0.dp ry hc.2.1, d_lay _ hc.1, d_lay _ hc.2.1, by rw [d_dep, d_dep]; exact hc.2.2, ?_⟩
    rw [d_eqv _ _ hc.1 hc.2.1]; exact q
  · cases e
theorem ds_any (z : AV) (hz : z.isD = true) : ∀ ys : List AV, AV.allD ys = true → (AV.ds ys).any (fun y => PyData.eqv y z.d) = ys.any fun y => y.eqv z
  | [], _ => rfl
  | y :: ys, h => by
    unfold AV.allD at h
    rw [Bool.and_eq_true] at h
    show ((AV.d y :: AV.ds ys).any _) = _
    rw [List.any_cons, List.any_cons, ds_any z hz ys h.2, d_eqv y z h.1 hz]
theorem opv_in : OpV D X W (rInA X.K false) (cmpA .inn) := by
  intro l m s σ H x y v w Q R0 rx ry q
  obtain ⟨b, e, q⟩ := cmp_some R0 q
  simp only [cmpB] at e
  cases hy : s.seq y with
  | none => simp [hy] at e
  | some ys =>
    simp only [hy] at e
    split at e
    · rename_i hc
      cases e
      refine ⟨(s.dv x).d, AV.ds ys, R0.dp rx hc.1, ?_, d_lay _ hc.1, ds_lay _ hc.2.1, by rw [d_dep]; exact hc.2.2, ?_⟩
      · obtain ⟨a, vs, rfl, h1, h2⟩ := R0.seq_ ry hy
        rcases h1 with ⟨h1, _⟩ | ⟨h1, rfl⟩
        · exact .inl (.lst h1 (VRs.dp ys vs hc.2.1 h2))
        · exact .inr (.tup h1 (VRs.dp ys vs hc.2.1 h2))
      · rw [ds_any _ hc.1 ys hc.2.1]; exact q
    · cases e
theorem opv_nin : OpV D X W (rInA X.K true) (cmpA .nin) := by
  intro l m s σ H x y v w Q R0 rx ry q
  obtain ⟨b, e, q⟩ := cmp_some R0 q
  simp only [cmpB] at e
  cases hy : s.seq y with
  | none => simp [hy] at e
  | some ys =>
    simp only [hy] at e
    split at e
    · rename_i hc
      cases e
      refine ⟨(s.dv x).d, AV.ds ys, R0.dp rx hc.1, ?_, d_lay _ hc.1, ds_lay _ hc.2.1, by rw [d_dep]; exact hc.2.2, ?_⟩
      · obtain ⟨a, vs, rfl, h1, h2⟩ := R0.seq_ ry hy
        rcases h1 with ⟨h1, _⟩ | ⟨h1, rfl⟩
        · exact .inl (.lst h1 (VRs.dp ys vs hc.2.1 h2))
        · exact .inr (.tup h1 (VRs.dp ys vs hc.2.1 h2))
      · rw [ds_any _ hc.1 ys hc.2.1]; exact q
    · cases e
theorem opv_int {o : Cop} {p : Int → Int → Bool} (hp : ∀ x y s b, cmpB o x y s = some b → ∃ i j, x = .int i ∧ y = .int j ∧ b = p i j) : OpV D X W (rI0 fun i j => .bl (p i j)) (cmpA o) := by
  intro l m s σ H x y v w Q R0 rx ry q
  obtain ⟨b, e, q⟩ := cmp_some R0 q
  obtain ⟨i, j, rfl, rfl, rfl⟩ := hp x y s b e
  rw [vr_int rx, vr_int ry]
  exact ⟨i, j, rfl, rfl, q⟩
theorem opv_lt : OpV D X W (rI0 fun i j => .bl (decide (i < j))) (cmpA .lt) := opv_int fun x y s b e => by
  cases x <;> cases y <;> simp [cmpB] at e
  exact ⟨_, _, rfl, rfl, e.symm⟩
theorem opv_le : OpV D X W (rI0 fun i j => .bl (decide (i ≤ j))) (cmpA .le) := opv_int fun x y s b e => by
  cases x <;> cases y <;> simp [cmpB] at e
  exact ⟨_, _, rfl, rfl, e.symm⟩
theorem opv_gt : OpV D X W (rI0 fun i j => .bl (decide (j < i))) (cmpA .gt) := opv_int fun x y s b e => by
  cases x <;> cases y <;> simp [cmpB] at e
  exact ⟨_, _, rfl, rfl, e.symm⟩
theorem opv_ge : OpV D X W (rI0 fun i j => .bl (decide (j ≤ i))) (cmpA .ge) := opv_int fun x y s b e => by
  cases x <;> cases y <;> simp [cmpB] at e
  exact ⟨_, _, rfl, rfl, e.symm⟩
theorem none_dec {K : PySem.W.Frag} {H : Hp} {l m : List Addr} {x : AV} {v : V} (r : VR K H l m x v) : decide (v = .non) = isNone x := by
  cases x with
  | non => rw [vr_non r]; rfl
  | bl b => rw [vr_bl r]; rfl
  | int b => rw [vr_int r]; rfl
  | str b => rw [vr_str r]; rfl
  | tup xs => obtain ⟨a, vs, rfl, _⟩ := vr_tup r; rfl
  | lst xs =>
    have r' : VR0 K H m (.lst xs) v := r
    unfold VR0 at r'; obtain ⟨a, o, vs, rfl, _⟩ := r'; rfl
  | scr ns =>
    have r' : VR0 K H m (.scr ns) v := r
    unfold VR0 at r'; obtain ⟨a, rfl, _⟩ := r'; rfl
  | loc k => obtain ⟨a, rfl, _⟩ := r; rfl
  | ref c =>
    have r' : VR0 K H m (.ref c) v := r
    unfold VR0 at r'; obtain ⟨a, rfl, _⟩ := r'; rfl
theorem opv_is : OpV D X W (fun x y H Q => (y = .non ∧ Q (.bl (decide (x = .non))) H) ∨ rIsB x y H Q) (cmpA .is) := by
  intro l m s σ H x y v w Q R0 rx ry q
  obtain ⟨b, e, q⟩ := cmp_some R0 q
  cases y <;> simp [cmpB] at e
  · subst e
    exact .inl ⟨vr_non ry, by rw [none_dec rx]; exact q⟩
  · cases x <;> simp at e
    subst e
    exact .inr ⟨_, _, vr_bl rx, vr_bl ry, by rw [← Bool.beq_eq_decide_eq]; exact q⟩
theorem opv_isn : OpV D X W (fun x y H Q => (y = .non ∧ Q (.bl (!decide (x = .non))) H) ∨ rNotB x y H Q) (cmpA .isn) := by
  intro l m s σ H x y v w Q R0 rx ry q
  obtain ⟨b, e, q⟩ := cmp_some R0 q
  cases y <;> simp only [cmpB, reduceCtorEq, Option.some.injEq] at e
  · subst e
    exact .inl ⟨vr_non ry, by rw [none_dec rx]; exact q⟩
  · cases x <;> simp only [reduceCtorEq, Option.some.injEq] at e
    subst e
    refine .inr ⟨_, _, vr_bl rx, vr_bl ry, ?_⟩
    rw [← Bool.beq_eq_decide_eq]; exact q
end

/-! ### tests -/
section
variable {D : Dn} {X : Cx} {W : WX} {a b c e : Expr} {es : List Expr} {f g k : S → R AV} {ft gt : S → R Bool} {fs : S → R (List AV)} {pos : Pos}
theorem truth_sat {K : PySem.W.Frag} {l m : List Addr} {s : S} {σ : L2.St} {H : Hp} {x : AV} {v : V} {Q : List Addr → List Addr → S → Hp → Bool → Prop} (R0 : Rel D K l m s σ H) (r : VR K H l m x v) (q : Sat D K W σ l m H (truth x s) Q) :
    ∃ b, v = .bl b ∧ Q l m s H b := by
  cases x with
  | bl b => exact ⟨b, vr_bl r, Sat.here R0 q⟩
  | _ => exact q.elim
theorem ptv_val (h : PEV D X W e f) (he : ∀ whole, isTrue e X.env whole = (do let v ← whole; standAt e.pos; holding [v] (truthy v))) : PTV D X W e fun s => (f s).bind truth := by
  obtain ⟨t, p, h⟩ := h
  refine ⟨_, pt_val p he, fun l m s σ H Q R0 q => ?_⟩
  refine h l m s σ H _ R0 (q.bind.imp fun l1 m1 s1 H1 x R1 E1 q v rv => ?_)
  obtain ⟨b, rfl, q⟩ := truth_sat R1 rv q
  exact ⟨b, rfl, q⟩
theorem ptv_cmp {op : CmpOp} {r : R2} {kk : AV → AV → S → R AV} (ho : OpR X (compareOp op) r) (hv : OpV D X W r kk) (ha : PEV D X W a f) (hb : PEV D X W b g) (hm : behindInMarks op b = false) :
    PTV D X W (.Compare a [op] [b] pos) fun s => ((f s).bind fun x s => (g s).bind fun y s => kk x y s).bind truth := by
  obtain ⟨ta, pa, ha⟩ := ha
  obtain ⟨tb, pb, hb⟩ := hb
  refine ⟨_, pt_cmpR ho pa pb hm, fun l m s σ H Q R0 q => ?_⟩
  simp only [R.bind_assoc] at q
  refine two ha hb R0 q fun l2 m2 s2 H2 x y v w R2 rx ry q => hv l2 m2 s2 σ H2 x y v w _ R2 rx ry (q.bind.imp fun l3 m3 s3 H3 z R3 E3 q u ru => ?_)
  obtain ⟨b, rfl, q⟩ := truth_sat R3 ru q
  exact ⟨b, rfl, q⟩
theorem chain_sat {o p : CmpOp} {r r' : R2} {kk kk' : AV → AV → S → R AV} {ta tb tc : TE} (hv : OpV D X W r kk) (hv' : OpV D X W r' kk')
    (ha : ∀ l m s σ H Q, Rel D X.K l m s σ H → Sat D X.K W σ l m H (f s) (QV X.K Q) → ta σ H Q) (hb : ∀ l m s σ H Q, Rel D X.K l m s σ H → Sat D X.K W σ l m H (g s) (QV X.K Q) → tb σ H Q)
    (hc : ∀ l m s σ H Q, Rel D X.K l m s σ H → Sat D X.K W σ l m H (k s) (QV X.K Q) → tc σ H Q) {l m : List Addr} {s : S} {σ : L2.St} {H : Hp} {Q : VK} (R0 : Rel D X.K l m s σ H)
    (q : Sat D X.K W σ l m H ((f s).bind fun x s => (g s).bind fun y s => (kk x y s).bind fun z s => (truth z s).bind fun t s => if t = true then (k s).bind fun u s => kk' y u s else .ok (.bl false) s) (QV X.K Q)) :
    tChain r r' ta tb tc σ H Q := by
  refine ha l m s σ H _ R0 (q.bind.imp fun l1 m1 s1 H1 x R1 E1 q v rv => ?_)
  refine hb l1 m1 s1 σ H1 _ R1 (q.bind.imp fun l2 m2 s2 H2 y R2 E2 q w rw' => ?_)
  refine hv l2 m2 s2 σ H2 x y v w _ R2 (rv.mono E2.fast E2.pl E2.pm) rw' (q.bind.imp fun l3 m3 s3 H3 z R3 E3 q u ru => ?_)
  obtain ⟨b, rfl, q⟩ := truth_sat R3 ru q.bind
  refine ⟨b, rfl, ?_⟩
  cases b with
  | false => exact Sat.here R3 q _ to_bl
  | true =>
    refine hc l3 m3 s3 σ H3 _ R3 (q.bind.imp fun l4 m4 s4 H4 t R4 E4 q z rz => ?_)
    exact hv' l4 m4 s4 σ H4 y t w z Q R4 ((rw'.mono E3.fast E3.pl E3.pm).mono E4.fast E4.pl E4.pm) rz q
theorem pev_chn {o p : CmpOp} {r r' : R2} {kk kk' : AV → AV → S → R AV} (ho : OpR X (compareOp o) r) (ho' : OpR X (compareOp p) r') (hv : OpV D X W r kk) (hv' : OpV D X W r' kk') (ha : PEV D X W a f) (hb : PEV D X W b g) (hc : PEV D X W c k)
    (hm : lastMarks [o, p] [b, c] = false) :
    PEV D X W (.Compare a [o, p] [b, c] pos) fun s => (f s).bind fun x s => (g s).bind fun y s => (kk x y s).bind fun z s => (truth z s).bind fun t s => if t = true then (k s).bind fun u s => kk' y u s else .ok (.bl false) s := by
  obtain ⟨ta, pa, ha⟩ := ha
  obtain ⟨tb, pb, hb⟩ := hb
  obtain ⟨tc, pc, hc⟩ := hc
  exact ⟨_, pe_chain ho ho' pa pb pc hm, fun l m s σ H Q R0 q => chain_sat (o := o) (p := p) hv hv' ha hb hc R0 q⟩
theorem ptv_chn {o p : CmpOp} {r r' : R2} {kk kk' : AV → AV → S → R AV} (ho : OpR X (compareOp o) r) (ho' : OpR X (compareOp p) r') (hv : OpV D X W r kk) (hv' : OpV D X W r' kk') (ha : PEV D X W a f) (hb : PEV D X W b g) (hc : PEV D X W c k)
    (hm : lastMarks [o, p] [b, c] = false) :
    PTV D X W (.Compare a [o, p] [b, c] pos) fun s => ((f s).bind fun x s => (g s).bind fun y s => (kk x y s).bind fun z s => (truth z s).bind fun t s => if t = true then (k s).bind fun u s => kk' y u s else .ok (.bl false) s).bind truth := by
  obtain ⟨ta, pa, ha⟩ := ha
  obtain ⟨tb, pb, hb⟩ := hb
  obtain ⟨tc, pc, hc⟩ := hc
  refine ⟨_, pt_chain ho ho' pa pb pc hm, fun l m s σ H Q R0 q => ?_⟩
  refine chain_sat (o := o) (p := p) hv hv' ha hb hc R0 (q.bind.imp fun l1 m1 s1 H1 x R1 E1 q v rv => ?_)
  obtain ⟨b, rfl, q⟩ := truth_sat R1 rv q
  exact ⟨b, rfl, q⟩
theorem pw_of_pt {op : BoolOp} {vs : List Expr} {t : TT} (h : PT X (.BoolOp op vs pos) t) : PW X (.BoolOp op vs pos) t := ⟨fun wh pins s σ H Q I q => h.run pins s σ H Q I q⟩
/-- the rest of and, or: one expression, or more -/
def tailB (op : BoolOp) (es : List Expr) (pos : Pos) : Expr := match es with
  | [e] => e
  | es => .BoolOp op es pos
theorem pev_tail {op : BoolOp} (h : PEV D X W (tailB op (b :: es) pos) g) : PEV D X W (.BoolOp op (b :: es) pos) g := by
  obtain ⟨t, p, h⟩ := h
  refine ⟨t, ?_, h⟩
  cases es with
  | nil => exact pe_one p
  | cons _ _ => exact p
theorem pev_and (ha : PEV D X W a f) (hb : PEV D X W (tailB .And (b :: es) pos) g) :
    PEV D X W (.BoolOp .And (a :: b :: es) pos) fun s => (f s).bind fun x s => (truth x s).bind fun t s => if t = true then g s else .ok (.bl false) s := by
  obtain ⟨ta, pa, ha⟩ := ha
  obtain ⟨tb, pb, hb⟩ := pev_tail hb
  refine ⟨_, pe_and pa pb, fun l m s σ H Q R0 q => ?_⟩
  refine ha l m s σ H _ R0 (q.bind.imp fun l1 m1 s1 H1 x R1 E1 q v rv => ?_)
  obtain ⟨b, rfl, q⟩ := truth_sat R1 rv q.bind
  refine ⟨b, rfl, ?_⟩
  cases b with
  | true => exact hb l1 m1 s1 σ H1 Q R1 q
  | false => exact Sat.here R1 q _ to_bl
theorem pev_or (ha : PEV D X W a f) (hb : PEV D X W (tailB .Or (b :: es) pos) g) :
    PEV D X W (.BoolOp .Or (a :: b :: es) pos) fun s => (f s).bind fun x s => (truth x s).bind fun t s => if t = true then .ok (.bl true) s else g s := by
  obtain ⟨ta, pa, ha⟩ := ha
  obtain ⟨tb, pb, hb⟩ := pev_tail hb
  refine ⟨_, pe_or pa pb, fun l m s σ H Q R0 q => ?_⟩
  refine ha l m s σ H _ R0 (q.bind.imp fun l1 m1 s1 H1 x R1 E1 q v rv => ?_)
  obtain ⟨b, rfl, q⟩ := truth_sat R1 rv q.bind
  refine ⟨b, rfl, ?_⟩
  cases b with
  | false => exact hb l1 m1 s1 σ H1 Q R1 q
  | true => exact Sat.here R1 q _ to_bl
theorem ptv_tail {op : BoolOp} (h : PTV D X W (tailB op (b :: es) pos) gt) : ∃ t, PW X (.BoolOp op (b :: es) pos) t ∧ ∀ l m s σ H Q, Rel D X.K l m s σ H → Sat D X.K W σ l m H (gt s) (fun _ _ _ H' b => Q b H') → t σ H Q := by
  obtain ⟨t, p, h⟩ := h
  refine ⟨t, ?_, h⟩
  cases es with
  | nil =>
    cases op with
    | And => exact pw_and1 p
    | Or => exact pw_or1 p
  | cons _ _ => exact pw_of_pt p
theorem ptv_and (ha : PTV D X W a ft) (hb : PTV D X W (tailB .And (b :: es) pos) gt) :
    PTV D X W (.BoolOp .And (a :: b :: es) pos) fun s => (ft s).bind fun t s => if t = true then gt s else .ok false s := by
  obtain ⟨ta, pa, ha⟩ := ha
  obtain ⟨tb, pb, hb⟩ := ptv_tail hb
  refine ⟨_, (pw_and pa pb).pt, fun l m s σ H Q R0 q => ?_⟩
  refine ha l m s σ H _ R0 (q.bind.imp fun l1 m1 s1 H1 x R1 E1 q => ?_)
  cases x with
  | true => exact hb l1 m1 s1 σ H1 Q R1 q
  | false => exact Sat.here R1 q
theorem ptv_or (ha : PTV D X W a ft) (hb : PTV D X W (tailB .Or (b :: es) pos) gt) :
    PTV D X W (.BoolOp .Or (a :: b :: es) pos) fun s => (ft s).bind fun t s => if t = true then .ok true s else gt s := by
  obtain ⟨ta, pa, ha⟩ := ha
  obtain ⟨tb, pb, hb⟩ := ptv_tail hb
  refine ⟨_, (pw_or pa pb).pt, fun l m s σ H Q R0 q => ?_⟩
  refine ha l m s σ H _ R0 (q.bind.imp fun l1 m1 s1 H1 x R1 E1 q => ?_)
  cases x with
  | false => exact hb l1 m1 s1 σ H1 Q R1 q
  | true => exact Sat.here R1 q
theorem ptv_not (ha : PTV D X W a ft) : PTV D X W (.UnaryOp .Not a pos) fun s => (ft s).bind fun t s => .ok (!t) s := by
  obtain ⟨ta, pa, ha⟩ := ha
  refine ⟨_, pt_not pa, fun l m s σ H Q R0 q => ?_⟩
  exact ha l m s σ H _ R0 (q.bind.imp fun l1 m1 s1 H1 x R1 E1 q => Sat.here R1 q)
theorem pev_not (ha : PEV D X W a f) : PEV D X W (.UnaryOp .Not a pos) fun s => (f s).bind fun x s => (truth x s).bind fun t s => .ok (.bl (!t)) s := by
  obtain ⟨ta, pa, ha⟩ := ha
  refine ⟨_, pe_not pa, fun l m s σ H Q R0 q => ?_⟩
  refine ha l m s σ H _ R0 (q.bind.imp fun l1 m1 s1 H1 x R1 E1 q v rv => ?_)
  obtain ⟨b, rfl, q⟩ := truth_sat R1 rv q.bind
  exact ⟨b, rfl, Sat.here R1 q _ to_bl⟩
theorem pev_ite (hc : PTV D X W c ft) (ha : PEV D X W a f) (hb : PEV D X W b g) : PEV D X W (.IfExp c a b pos) fun s => (ft s).bind fun t s => if t = true then f s else g s := by
  obtain ⟨tc, pc, hc⟩ := hc
  obtain ⟨ta, pa, ha⟩ := ha
  obtain ⟨tb, pb, hb⟩ := hb
  refine ⟨_, pe_ifExp pc pa pb, fun l m s σ H Q R0 q => ?_⟩
  refine hc l m s σ H _ R0 (q.bind.imp fun l1 m1 s1 H1 x R1 E1 q => ?_)
  cases x with
  | true => exact ha l1 m1 s1 σ H1 Q R1 q
  | false => exact hb l1 m1 s1 σ H1 Q R1 q
theorem isTrue_ite {whole : Sem Bool} : True := trivial

/-! ### subscripts -/
theorem atA_at {K : PySem.W.Frag} {H : Hp} {m : List Addr} {xs : List AV} {vs : List V} (r : VRs K H m xs vs) {i : Int} {x : AV} (h : atA xs i = some x) : ∃ v, atI vs i = some v ∧ VR0 K H m x v := by
  unfold atA at h
  unfold atI
  have e : ixN vs.length i = ixA xs.length i := by rw [r.len]; rfl
  rw [e]
  cases q : ixA xs.length i with
  | none => rw [q] at h; cases h
  | some j =>
    rw [q] at h
    exact r.get h
theorem opv_idx : OpV D X W (fun x y H Q => rIxL X.K x y H Q ∨ rIxT X.K x y H Q) idxA := by
  intro l m s σ H x y v w Q R0 rx ry q
  unfold idxA at q
  cases hx : s.seq x with
  | none => simp only [hx] at q; exact q.elim
  | some xs =>
    simp only [hx] at q
    cases y with
    | int i =>
      simp only at q
      cases h : atA xs i with
      | none => simp only [h] at q; exact q.elim
      | some z =>
        simp only [h] at q
        obtain ⟨a, vs, rfl, h1, h2⟩ := R0.seq_ rx hx
        obtain ⟨u, e1, e2⟩ := atA_at h2 h
        have z := Sat.here R0 q u (VR.up e2)
        rcases h1 with ⟨h1, _⟩ | ⟨h1, _⟩
        · exact .inl ⟨a, vs, i, u, rfl, vr_int ry, h1, e1, z⟩
        · exact .inr ⟨a, vs, i, u, rfl, vr_int ry, h1, e1, z⟩
    | _ => exact q.elim
end
end CL

end
section
/-! Fw5: lists and tuples: slices, +, *, built-in functions, methods, isinstance, calls. -/
set_option Elab.async false
set_option linter.all false
set_option maxRecDepth 100000
namespace CL
open PySem PySem.Spec PyProof.Rows L2

section
variable {X : Cx}
def rCatR : R2 := fun x y H Q => ∃ l b xs zs, x = .ref l ∧ y = .ref b ∧ Rd H l (.lst xs) ∧ Rd H b (.lst zs) ∧ xs.length + zs.length ≤ sizeLine ∧ ∀ p, H p = none → Q (.ref p) (upd H p (.lst (xs ++ zs)))
theorem rd_lst {P : Program} {w : World} {H : Hp} {h : Heap} {a : Addr} {xs : List V} (r : Rd H a (.lst xs)) (ok : HOk P w H h) : ∃ its n, Vals xs its ∧ IsL h a its.toArray n ∧ xs.length ≤ sizeLine := by
  obtain ⟨hz, its, n, hv, hg⟩ := r.ok ok
  exact ⟨its, n, hv, hg, hz⟩
theorem op_catR : OpR X (binaryOp .Add) rCatR := by
  intro pins s σ H x y v u Q I rx ry hh
  obtain ⟨a, b, xs, ys, ex, ey, hx, hy, hsz, q⟩ := hh
  subst ex; subst ey
  have e1 : v = Value.ref a := rx
  have e2 : u = Value.ref b := ry
  subst e1; subst e2
  obtain ⟨is, n, vx, gx, _⟩ := rd_lst hx I.hok
  obtain ⟨js, k, vy, gy, _⟩ := rd_lst hy I.hok
  have l1 := vx.length
  have l2 := vy.length
  have fits : is.toArray.size + js.toArray.size ≤ sizeLine := by simp only [List.size_toArray]; omega
  refine PySem.P.add_list gx gy ?_ fits
  rw [List.append_toArray]
  exact ⟨.ref _, _, I.lnew (t' := s.toks) (vx.append vy) (by simp only [List.length_append]; omega), rfl, q _ I.fresh⟩
theorem Rel.rsq_ {D : Dn} {K : PySem.W.Frag} {l m : List Addr} {s : S} {σ : L2.St} {H : Hp} (R0 : Rel D K l m s σ H) {x : AV} {v : V} (r : VR K H l m x v) {xs : List AV} (e : s.rsq x = some xs) :
    ∃ a vs, v = .ref a ∧ Rd H a (.lst vs) ∧ VRs K H m xs vs := by
  cases x with
  | lst ys =>
    have r' : VR0 K H m (.lst ys) v := r
    unfold VR0 at r'
    obtain ⟨a, o, vs, e1, e2, e3⟩ := r'
    simp [S.rsq, S.seq] at e; subst e
    exact ⟨a, vs, e1, .inr ⟨o, e2⟩, e3⟩
  | loc k =>
    obtain ⟨a, vs, e1, e2, e3⟩ := R0.mut_ r (xs := xs) e
    exact ⟨a, vs, e1, .inl e2, e3⟩
  | ref k =>
    obtain ⟨a, vs, e1, e2, e3⟩ := R0.mut_ r (xs := xs) e
    exact ⟨a, vs, e1, .inl e2, e3⟩
  | _ => simp [S.rsq, S.seq] at e
end
section
variable {D : Dn} {X : Cx} {W : WX} {a b c e : Expr} {es : List Expr} {f g : S → R AV} {fs : S → R (List AV)} {pos : Pos}
theorem pev_cat {k : LK} (ha : PEV D X W a f) (hb : PEV D X W b g) : PEV D X W (.BinOp a .Add b pos) fun s => (f s).bind fun x s => (g s).bind fun y s => match s.rsq x, s.rsq y with
    | some xs, some ys => if xs.length + ys.length ≤ SL then newL k (xs ++ ys) s else .bad
    | _, _ => .bad := by
  obtain ⟨ta, pa, ha⟩ := ha
  obtain ⟨tb, pb, hb⟩ := hb
  refine ⟨_, pe_k k (pe_op op_catR pa pb), fun l m s σ H Q R0 q => tK_eq (two ha hb R0 q fun l2 m2 s2 H2 x y v w R2 rx ry q => ?_)⟩
  cases hx : s2.rsq x with
  | none => simp only [hx] at q; exact q.elim
  | some xs =>
    cases hy : s2.rsq y with
    | none => simp only [hx, hy] at q; exact q.elim
    | some ys =>
      simp only [hx, hy] at q
      split at q
      · rename_i hl
        obtain ⟨a1, vs, rfl, h1, h2⟩ := R2.rsq_ rx hx
        obtain ⟨a2, ws, rfl, h3, h4⟩ := R2.rsq_ ry hy
        have z := new_sat R2 q (fun _ => h2.app h4)
        exact ⟨a1, a2, vs, ws, rfl, rfl, h1, h3, by rw [← h2.len, ← h4.len]; exact SL_line hl, z.2⟩
      · exact q.elim
theorem pev_rep {k : LK} {p2 : Pos} (hn : ∀ s xs s', fs s = .ok xs s' → xs.length ≤ SL) (ha : PAV D X W es fs) (hb : PEV D X W b g) : PEV D X W (.BinOp (.List es p2) .Mult b pos) fun s => (fs s).bind fun xs s => (g s).bind fun y s => match y with
    | .int n => if xs.length ≤ SL ∧ xs.all AV.nl = true ∧ -(2 ^ 63) ≤ n ∧ n < 2 ^ 63 ∧ xs.length * n.toNat ≤ SL then newL k (List.replicate n.toNat xs).flatten s else .bad
    | _ => .bad := by
  obtain ⟨ta, pa, ha⟩ := ha
  obtain ⟨tb, pb, hb⟩ := hb
  refine ⟨_, pe_k k (pe_op op_rep (pe_lst pa) pb), fun l m s σ H Q R0 q => tK_eq ?_⟩
  refine ha l m s σ H _ R0 ?_
  have q1 := q.bind
  cases hf : fs s with
  | bad => rw [hf] at q1; exact q1
  | exn c p st => rw [hf] at q1; exact q1
  | ok xs s1 =>
    rw [hf] at q1
    have hlen := hn s xs s1 hf
    intro l1 m1 H1 R1 E1 vs rv
    have q2 := q1 l1 m1 H1 R1 E1
    refine ⟨by rw [← Paired.length rv]; exact SL_line hlen, fun p hp => ?_⟩
    obtain ⟨R2, E2⟩ := R1.newF (o := .lst vs) hp
    have out := R1.out hp
    refine hb l1 m1 s1 σ _ _ R2 ((Sat.base E2 q2).bind.imp fun l3 m3 s3 H3 y R3 E3 q w rw' => ?_)
    cases y with
    | int n =>
      simp only at q
      split at q
      · rename_i hc
        rw [vr_int rw']
        have hp3 : H3 p = some (.lst vs) := E3.keep p _ upd_same out.1 out.2
        have rr : VRs X.K H3 m3 xs vs := paired_nl (Paired.mono (E2.trans E3).fast (E2.trans E3).pl (E2.trans E3).pm rv) hc.2.1
        refine ⟨p, n, vs, rfl, rfl, hp3, hc.2.2.1, hc.2.2.2.1, by rw [← rr.len]; exact SL_line hc.2.2.2.2, ?_⟩
        exact (new_sat R3 q (fun _ => rr.rep n.toNat)).2
      · exact q.elim
    | _ => exact q.elim
theorem pev_neg (ha : PEV D X W a f) : PEV D X W (.UnaryOp .USub a pos) fun s => (f s).bind fun x s => match x with
    | .int i => .ok (.int (-i)) s
    | _ => .bad := by
  obtain ⟨ta, pa, ha⟩ := ha
  refine ⟨_, pe_un un_neg pa, fun l m s σ H Q R0 q => ?_⟩
  refine ha l m s σ H _ R0 (q.bind.imp fun l1 m1 s1 H1 x R1 E1 q v rv => ?_)
  cases x with
  | int i =>
    rw [vr_int rv]
    exact ⟨i, rfl, Sat.here R1 q _ to_int⟩
  | _ => exact q.elim
/-! ### slices -/
def POV (D : Dn) (X : Cx) (W : WX) (e : Option Expr) (f : S → R (Option Int)) : Prop :=
  ∃ t, PO X e t ∧ ∀ l m s σ H Q, Rel D X.K l m s σ H → Sat D X.K W σ l m H (f s) (fun _ _ _ H' o => Q o H') → t σ H Q
theorem pov_none : POV D X W none fun s => .ok none s := ⟨_, po_none, fun l m s σ H Q R0 q => Sat.here R0 q⟩
theorem pov_some (ha : PEV D X W a f) : POV D X W (some a) fun s => (f s).bind fun v s => match v with
    | .int i => .ok (some i) s
    | _ => .bad := by
  obtain ⟨ta, pa, ha⟩ := ha
  refine ⟨_, po_some pa, fun l m s σ H Q R0 q => ?_⟩
  refine ha l m s σ H _ R0 (q.bind.imp fun l1 m1 s1 H1 x R1 E1 q v rv => ?_)
  cases x with
  | int i =>
    rw [vr_int rv]
    exact ⟨i, rfl, Sat.here R1 q⟩
  | _ => exact q.elim
theorem cutA_R {K : PySem.W.Frag} {H : Hp} {m : List Addr} {xs : List AV} {vs : List V} (r : VRs K H m xs vs) (lo hi : Option Int) : VRs K H m (cutA xs lo hi) (cutV vs lo hi) := by
  unfold cutA cutV
  rw [r.len]
  exact (r.drop _).take _
theorem cut_whole {xs : List AV} {lo hi : Option Int} (h : HT.sIx xs.length 0 lo = 0 ∧ HT.sIx xs.length xs.length hi = xs.length) : cutA xs lo hi = xs := by
  unfold cutA
  show (xs.drop (HT.sIx xs.length 0 lo)).take (HT.sIx xs.length xs.length hi - HT.sIx xs.length 0 lo) = xs
  rw [h.1, h.2, List.drop_zero, Nat.sub_zero, List.take_length]
theorem pev_slc {k : LK} {lo hi : Option Expr} {fl fh : S → R (Option Int)} {p2 : Pos} (ha : PEV D X W a f) (hl : POV D X W lo fl) (hh : POV D X W hi fh) :
    PEV D X W (.Subscript a (.Slice lo hi none p2) pos) fun s => (f s).bind fun x s => (fl s).bind fun l s => (fh s).bind fun h s => slcA k x l h s := by
  obtain ⟨ta, pa, ha⟩ := ha
  obtain ⟨tl, pl, hl⟩ := hl
  obtain ⟨th, ph, hh⟩ := hh
  refine ⟨_, pe_k k (pe_slice (sl_tupA.or sl_list) pa pl ph), fun l m s σ H Q R0 q => tK_eq ?_⟩
  refine ha l m s σ H _ R0 (q.bind.imp fun l1 m1 s1 H1 x R1 E1 q v rv => ?_)
  refine hl l1 m1 s1 σ H1 _ R1 (q.bind.imp fun l2 m2 s2 H2 i R2 E2 q => ?_)
  refine hh l2 m2 s2 σ H2 _ R2 (q.bind.imp fun l3 m3 s3 H3 j R3 E3 q => ?_)
  have rv := (rv.mono E2.fast E2.pl E2.pm).mono E3.fast E3.pl E3.pm
  cases hx : s3.lsq x with
  | some xs =>
    have q : Sat D X.K W σ l3 m3 H3 (newL k (cutA xs i j) s3) (QV X.K Q) := by
      cases x <;> first | (simp only [slcA, hx] at q; exact q) | (simp [S.lsq] at hx; done)
    obtain ⟨a1, vs, rfl, h1, h2⟩ := R3.lsq_ rv hx
    exact .inr ⟨a1, vs, rfl, h1, (new_sat R3 q (fun _ => cutA_R h2 i j)).2⟩
  | none =>
    cases x with
    | tup xs =>
      simp only [slcA] at q
      obtain ⟨a1, vs, rfl, h1, h2⟩ := vr_tup rv
      have lift : ∀ v H', Q v H' → qK k Q v H' := fun v H' z => by
        cases k with
        | fz => exact .inl z
        | lo => exact z
        | gl => exact z
      refine .inl ⟨a1, vs, rfl, h1, fun hw => ?_, fun _ p hp => ?_⟩
      · rw [← h2.len] at hw
        have e := cut_whole hw
        rw [e] at q
        exact lift _ _ (Sat.here R3 q _ (to_tup h1 h2))
      · obtain ⟨R4, E4⟩ := R3.newF (o := .tup (cutV vs i j)) hp
        exact lift _ _ (q l3 m3 _ R4 E4 _ (to_tup (SqT.of upd_same) (VRs.mono E4.fast (List.prefix_refl _) _ _ (cutA_R h2 i j))))
    | _ => simp only [slcA, hx] at q; exact q.elim
/-! ### built-in functions -/
/-- a built-in of some values, by value -/
def CallV (D : Dn) (X : Cx) (W : WX) (r : List V → Hp → VK → Prop) (kk : List AV → S → R AV) : Prop :=
  ∀ l m s σ H xs vs Q, Rel D X.K l m s σ H → Paired (VR X.K H l m) xs vs → Sat D X.K W σ l m H (kk xs s) (QV X.K Q) → r vs H Q
theorem pev_callB {id : String} {r : List V → Hp → VK → Prop} {kk : List AV → S → R AV} {x : Str} {p : Pos} (hc : CallR X (.builtin id) r) (hv : CallV D X W r kk) (hg : Gl X x) (hm : X.mg x = none) (hb : bootBuiltins x = some (.builtin id))
    (ha : PAV D X W (e :: es) fs) (hn : x ≠ "__name__") (hdb : (x == ("__debug__" : Str)) = false) (he : starEach (e :: es) X.env = (false, eval e X.env) :: starEach es X.env) (hpl : (backTo pos (starEach es X.env)).any (·.1) = false) :
    PEV D X W (.Call (.Name x p) (e :: es) [] pos) fun s => (fs s).bind kk := by
  obtain ⟨t, pa, ha⟩ := ha
  exact ⟨_, pe_callB hc hg hm hb pa hn hdb he hpl, fun l m s σ H Q R0 q => ha l m s σ H _ R0 (q.bind.imp fun l1 m1 s1 H1 xs R1 E1 q vs rv => hv l1 m1 s1 σ H1 xs vs Q R1 rv q)⟩
theorem pev_callTy {T : String} {k : LK} {r : List V → Hp → VK → Prop} {kk : List AV → S → R AV} {x : Str} {p : Pos} (hc : CallR X (.type T) r) (hv : ∀ l m s σ H xs vs Q, Rel D X.K l m s σ H → Paired (VR X.K H l m) xs vs → Sat D X.K W σ l m H (kk xs s) (QV X.K Q) → r vs H (qK k Q)) (hg : Gl X x) (hm : X.mg x = none) (hb : bootBuiltins x = some (.type T))
    (ha : PAV D X W (e :: es) fs) (hn : x ≠ "__name__") (hdb : (x == ("__debug__" : Str)) = false) (he : starEach (e :: es) X.env = (false, eval e X.env) :: starEach es X.env) (hpl : (backTo pos (starEach es X.env)).any (·.1) = false) :
    PEV D X W (.Call (.Name x p) (e :: es) [] pos) fun s => (fs s).bind kk := by
  obtain ⟨t, pa, ha⟩ := ha
  exact ⟨_, pe_k k (pe_callTy hc hg hm hb pa hn hdb he hpl), fun l m s σ H Q R0 q => tK_eq (ha l m s σ H _ R0 (q.bind.imp fun l1 m1 s1 H1 xs R1 E1 q vs rv => hv l1 m1 s1 σ H1 xs vs Q R1 rv q))⟩
theorem paired1 {K : PySem.W.Frag} {H : Hp} {l m : List Addr} {x : AV} {vs : List V} (h : Paired (VR K H l m) [x] vs) : ∃ v, vs = [v] ∧ VR K H l m x v := by
  cases h with
  | cons r t => cases t; exact ⟨_, rfl, r⟩
theorem paired2 {K : PySem.W.Frag} {H : Hp} {l m : List Addr} {x y : AV} {vs : List V} (h : Paired (VR K H l m) [x, y] vs) : ∃ v w, vs = [v, w] ∧ VR K H l m x v ∧ VR K H l m y w := by
  cases h with
  | cons r t =>
    obtain ⟨w, rfl, q⟩ := paired1 t
    exact ⟨_, w, rfl, r, q⟩
theorem callv_len {k : LK} : CallV D X W (fun xs H Q => ∃ p ys, xs = [.ref p] ∧ (SqL X.K H p ys ∨ SqT X.K H p ys) ∧ Q (.int ys.length) H) (primA .len k) := by
  intro l m s σ H xs vs Q R0 r q
  unfold primA at q
  split at q
  · rename_i x _
    cases hx : s.seq x with
    | none => simp only [hx] at q; exact q.elim
    | some ys =>
      simp only [hx] at q
      obtain ⟨v, rfl, rv⟩ := paired1 r
      obtain ⟨a, ws, rfl, h1, h2⟩ := R0.seq_ rv hx
      have z := Sat.here R0 q _ to_int
      rw [h2.len] at z
      exact ⟨a, ws, rfl, h1.imp (·.1) (·.1), z⟩
  all_goals first | (rename_i h; simp at h; done) | exact q.elim
theorem callv_list {k : LK} : ∀ l m s σ H xs vs Q, Rel D X.K l m s σ H → Paired (VR X.K H l m) xs vs → Sat D X.K W σ l m H (primA .list k xs s) (QV X.K Q) →
    (fun xs H Q => ∃ p ys, xs = [.ref p] ∧ (SqL X.K H p ys ∨ SqT X.K H p ys) ∧ ∀ l, H l = none → Q (.ref l) (upd H l (.lst ys))) vs H (qK k Q) := by
  intro l m s σ H xs vs Q R0 r q
  unfold primA at q
  split at q
  all_goals first | (rename_i h; simp at h; done) | skip
  · rename_i x _
    cases hx : s.seq x with
    | none => simp only [hx] at q; exact q.elim
    | some ys =>
      simp only [hx] at q
      obtain ⟨v, rfl, rv⟩ := paired1 r
      obtain ⟨a, ws, rfl, h1, h2⟩ := R0.seq_ rv hx
      exact ⟨a, ws, rfl, h1.imp (·.1) (·.1), (new_sat R0 q (fun _ => h2)).2⟩
  all_goals exact q.elim
theorem nl_bools {K : PySem.W.Frag} {H : Hp} {m : List Addr} : ∀ {xs : List AV} {bs : List Bool} {vs : List V}, boolsA xs = some bs → VRs K H m xs vs → vs = bs.map V.bl
  | [], bs, vs, e, h => by
    unfold VRs at h; simp [boolsA] at e; subst e; exact h
  | x :: xs, bs, vs, e, h => by
    unfold VRs at h
    obtain ⟨v, r, rfl, h1, h2⟩ := h
    cases x with
    | bl b =>
      simp only [boolsA] at e
      cases hb : boolsA xs with
      | none => rw [hb] at e; cases e
      | some cs =>
        rw [hb] at e; cases e
        unfold VR0 at h1
        rw [h1, nl_bools hb h2]; rfl
    | _ => simp [boolsA] at e
theorem nl_ints {K : PySem.W.Frag} {H : Hp} {m : List Addr} : ∀ {xs : List AV} {bs : List Int} {vs : List V}, intsA xs = some bs → VRs K H m xs vs → vs = bs.map V.int
  | [], bs, vs, e, h => by
    unfold VRs at h; simp [intsA] at e; subst e; exact h
  | x :: xs, bs, vs, e, h => by
    unfold VRs at h
    obtain ⟨v, r, rfl, h1, h2⟩ := h
    cases x with
    | int b =>
      simp only [intsA] at e
      cases hb : intsA xs with
      | none => rw [hb] at e; cases e
      | some cs =>
        rw [hb] at e; cases e
        unfold VR0 at h1
        rw [h1, nl_ints hb h2]; rfl
    | _ => simp [intsA] at e
theorem callv_all {k : LK} : CallV D X W (rAll X.K) (primA .all k) := by
  intro l m s σ H xs vs Q R0 r q
  unfold primA at q
  split at q
  all_goals first | (rename_i h; simp at h; done) | skip
  · rename_i x _
    obtain ⟨v, rfl, rv⟩ := paired1 r
    cases hx : s.lsq x with
    | none => simp only [hx, Option.bind_none] at q; exact q.elim
    | some ys =>
      simp only [hx, Option.bind_some] at q
      cases hb : boolsA ys with
      | none => simp only [hb] at q; exact q.elim
      | some bs =>
        simp only [hb] at q
        obtain ⟨a, ws, rfl, h1, h2⟩ := R0.lsq_ rv hx
        rw [nl_bools hb h2] at h1
        exact ⟨a, bs, rfl, h1, Sat.here R0 q _ to_bl⟩
  all_goals exact q.elim
theorem callv_sum {k : LK} : CallV D X W (rSum X.K) (primA .sum k) := by
  intro l m s σ H xs vs Q R0 r q
  unfold primA at q
  split at q
  all_goals first | (rename_i h; simp at h; done) | skip
  · rename_i x _
    obtain ⟨v, rfl, rv⟩ := paired1 r
    cases hx : s.lsq x with
    | none => simp only [hx, Option.bind_none] at q; exact q.elim
    | some ys =>
      simp only [hx, Option.bind_some] at q
      cases hb : intsA ys with
      | none => simp only [hb] at q; exact q.elim
      | some bs =>
        simp only [hb] at q
        obtain ⟨a, ws, rfl, h1, h2⟩ := R0.lsq_ rv hx
        rw [nl_ints hb h2] at h1
        exact ⟨a, bs, rfl, h1, Sat.here R0 q _ to_int⟩
  all_goals exact q.elim
theorem callv_max2 {k : LK} : CallV D X W (fun xs H Q => ∃ i j, xs = [.int i, .int j] ∧ Q (.int (if j > i then j else i)) H) (primA .max2 k) := by
  intro l m s σ H xs vs Q R0 r q
  unfold primA at q
  split at q
  all_goals first | (rename_i h; simp at h; done) | skip
  · obtain ⟨v, w, rfl, r1, r2⟩ := paired2 r
    rw [vr_int r1, vr_int r2]
    exact ⟨_, _, rfl, Sat.here R0 q _ to_int⟩
  all_goals exact q.elim
theorem callv_min2 {k : LK} : CallV D X W (fun xs H Q => ∃ i j, xs = [.int i, .int j] ∧ Q (.int (if j < i then j else i)) H) (primA .min2 k) := by
  intro l m s σ H xs vs Q R0 r q
  unfold primA at q
  split at q
  all_goals first | (rename_i h; simp at h; done) | skip
  · obtain ⟨v, w, rfl, r1, r2⟩ := paired2 r
    rw [vr_int r1, vr_int r2]
    exact ⟨_, _, rfl, Sat.here R0 q _ to_int⟩
  all_goals exact q.elim
/-- tuple(x) -/
theorem callv_tuple {k : LK} : CallV D X W (fun xs H Q => ∃ p ys, xs = [.ref p] ∧ ((SqL X.K H p ys ∧ ∀ l, H l = none → Q (.ref l) (upd H l (.tup ys))) ∨ (SqT X.K H p ys ∧ Q (.ref p) H))) (primA .tuple k) := by
  intro l m s σ H xs vs Q R0 r q
  unfold primA at q
  split at q
  all_goals first | (rename_i h; simp at h; done) | skip
  · rename_i x _
    obtain ⟨v, rfl, rv⟩ := paired1 r
    cases hx : s.lsq x with
    | some ys =>
      have q : Sat D X.K W σ l m H (.ok (.tup ys) s) (QV X.K Q) := by
        cases x <;> first | (simp only [hx] at q; exact q) | (simp [S.lsq] at hx; done)
      obtain ⟨a, ws, rfl, h1, h2⟩ := R0.lsq_ rv hx
      refine ⟨a, ws, rfl, .inl ⟨h1, fun p hp => ?_⟩⟩
      obtain ⟨R1, E1⟩ := R0.newF (o := .tup ws) hp
      exact q l m _ R1 E1 _ (to_tup (SqT.of upd_same) (VRs.mono E1.fast (List.prefix_refl _) _ _ h2))
    | none =>
      cases x with
      | tup ys =>
        simp only at q
        obtain ⟨a, ws, rfl, h1, h2⟩ := vr_tup rv
        exact ⟨a, ws, rfl, .inr ⟨h1, Sat.here R0 q _ (to_tup h1 h2)⟩⟩
      | _ => simp only [hx] at q; exact q.elim
  all_goals exact q.elim
/-! ### methods -/
theorem ty_list {K : PySem.W.Frag} {H : Hp} {a : Addr} {vs : List V} (h : H a = some (.lst vs)) : tyV K "list" (.ref a) H := .inl ⟨rfl, vs, SqL.of h⟩
/-- a method with arguments -/
def MtV (D : Dn) (X : Cx) (W : WX) (r : V → List V → Hp → VK → Prop) (kk : AV → List AV → S → R AV) : Prop :=
  ∀ l m s σ H x v xs vs Q, Rel D X.K l m s σ H → VR X.K H l m x v → Paired (VR X.K H l m) xs vs → Sat D X.K W σ l m H (kk x xs s) (QV X.K Q) → r v vs H Q
theorem tyv_mut {K : PySem.W.Frag} {l m : List Addr} {s : S} {σ : L2.St} {H : Hp} {x : AV} {v : V} (R0 : Rel D K l m s σ H) (r : VR K H l m x v) (h : (s.mut x).isSome = true) : tyV K "list" v H := by
  obtain ⟨xs, hx⟩ := Option.isSome_iff_exists.mp h
  obtain ⟨a, vs, rfl, h1, _⟩ := R0.mut_ r hx
  exact .inl ⟨rfl, vs, SqL.of h1⟩
theorem tyv_lsq {K : PySem.W.Frag} {l m : List Addr} {s : S} {σ : L2.St} {H : Hp} {x : AV} {v : V} (R0 : Rel D K l m s σ H) (r : VR K H l m x v) (h : (s.lsq x).isSome = true) : tyV K "list" v H := by
  obtain ⟨xs, hx⟩ := Option.isSome_iff_exists.mp h
  obtain ⟨a, vs, rfl, h1, _⟩ := R0.lsq_ r hx
  exact .inl ⟨rfl, vs, h1⟩
theorem pev_pm {name : Str} {T id : String} {apos : Pos} {r : V → List V → Hp → VK → Prop} {m : PMeth} (pa' : PlainAttrs T) (slot : Slot T name id) (hty : typeOf (.builtin id) = pure (.type "method_descriptor")) (hm : MtR X id r) (hv : MtV D X W r (pmA m))
    (ht : ∀ (l m' : List Addr) (s : S) (σ : L2.St) (H : Hp) (x : AV) (v : V), Rel D X.K l m' s σ H → VR X.K H l m' x v → pmTy m x s = true → tyV X.K T v H)
    (ha : PEV D X W a f) (hb : PAV D X W (e :: es) fs) (hbase : attributeBase a name X.env (eval a X.env) = eval a X.env)
    (hfew : ((backTo pos (starEach (e :: es) X.env)).all (fun x => !x.1) && (backToKw pos (keywordEach [] X.env)).all (fun x => x.1.isSome)
      && decide ((e :: es).length + ([] : List Keyword).length + (if ([] : List Keyword).isEmpty then 0 else 1) < 30)) = true)
    (hline : (apos.endLine == pos.line) = true) (hs : starEach (e :: es) X.env = (false, eval e X.env) :: starEach es X.env) (hplain : (backTo pos (starEach es X.env)).any (·.1) = false) :
    PEV D X W (.Call (.Attribute a name apos) (e :: es) [] pos) fun s => (f s).bind fun x s => if pmTy m x s = true then (fs s).bind fun vs s => pmA m x vs s else .bad := by
  obtain ⟨ta, pa, ha⟩ := ha
  obtain ⟨tb, pb, hb⟩ := hb
  refine ⟨_, pe_bm pa' slot hty hm pa pb hbase hfew hline hs hplain, fun l m s σ H Q R0 q => ?_⟩
  refine ha l m s σ H _ R0 (q.bind.imp fun l1 m1 s1 H1 x R1 E1 q v rv => ?_)
  split at q
  · rename_i hc
    refine ⟨ht l1 m1 s1 σ H1 x v R1 rv hc, ?_⟩
    exact hb l1 m1 s1 σ H1 _ R1 (q.bind.imp fun l2 m2 s2 H2 xs R2 E2 q vs rvs => hv l2 m2 s2 σ H2 x v xs vs Q R2 (rv.mono E2.fast E2.pl E2.pm) rvs q)
  · exact q.elim
theorem pev_pm0 {name : Str} {T id : String} {apos : Pos} {r : V → List V → Hp → VK → Prop} {m : PMeth} (pa' : PlainAttrs T) (slot : Slot T name id) (hty : typeOf (.builtin id) = pure (.type "method_descriptor")) (hm : MtR X id r) (hv : MtV D X W r (pmA m))
    (ht : ∀ (l m' : List Addr) (s : S) (σ : L2.St) (H : Hp) (x : AV) (v : V), Rel D X.K l m' s σ H → VR X.K H l m' x v → pmTy m x s = true → tyV X.K T v H)
    (ha : PEV D X W a f) (hbase : attributeBase a name X.env (eval a X.env) = eval a X.env) (hline : (apos.endLine == pos.line) = true) :
    PEV D X W (.Call (.Attribute a name apos) [] [] pos) fun s => (f s).bind fun x s => if pmTy m x s = true then (R.ok [] s).bind fun vs s => pmA m x vs s else .bad := by
  obtain ⟨ta, pa, ha⟩ := ha
  refine ⟨_, pe_bm0 pa' slot hty hm pa hbase hline, fun l m s σ H Q R0 q => ?_⟩
  refine ha l m s σ H _ R0 (q.bind.imp fun l1 m1 s1 H1 x R1 E1 q v rv => ?_)
  split at q
  · rename_i hc
    exact ⟨ht l1 m1 s1 σ H1 x v R1 rv hc, hv l1 m1 s1 σ H1 x v [] [] Q R1 rv .nil q⟩
  · exact q.elim
theorem mtv_append : MtV D X W rAppend (pmA .append) := by
  intro l m s σ H x v xs vs Q R0 rv rvs q
  unfold pmA at q
  split at q
  all_goals first | (rename_i h; simp at h; done) | skip
  · rename_i y _
    obtain ⟨w, rfl, rw'⟩ := paired1 rvs
    cases hx : s.mut x with
    | none => simp only [hx] at q; exact q.elim
    | some xs =>
      simp only [hx] at q
      split at q
      · rename_i hc
        obtain ⟨p, vs, rfl, h1, h2⟩ := R0.mut_ rv hx
        obtain ⟨R3, E3⟩ := R0.put_ rv hx rfl (h2.app (VRs.cons (rw'.dn hc.1) VRs.nil))
        exact ⟨p, vs, w, rfl, rfl, h1, by rw [← h2.len]; exact SL_line' hc.2, q _ _ _ R3 E3 _ to_non⟩
      · exact q.elim
  all_goals exact q.elim
theorem mtv_pop : MtV D X W rPop (pmA .pop) := by
  intro l m s σ H x v xs vs Q R0 rv rvs q
  unfold pmA at q
  split at q
  all_goals first | (rename_i h; simp at h; done) | skip
  · cases rvs
    cases hx : s.mut x with
    | none => simp only [hx] at q; exact q.elim
    | some xs =>
      simp only [hx] at q
      cases hy : xs[xs.length - 1]? with
      | none => simp only [hy] at q; exact q.elim
      | some y =>
        simp only [hy] at q
        obtain ⟨p, vs, rfl, h1, h2⟩ := R0.mut_ rv hx
        obtain ⟨u, e1, e2⟩ := h2.get hy
        obtain ⟨R3, E3⟩ := R0.put_ rv hx rfl h2.dropLast
        exact ⟨p, vs, u, rfl, rfl, h1, by rw [← h2.len]; exact e1, q _ _ _ R3 E3 _ (VR.up (e2.mono E3.fast E3.pm))⟩
  all_goals exact q.elim
/-! ### isinstance -/
def tyNm : Ty → Option String
  | .int => some "int"
  | .bool => some "bool"
  | .str => some "str"
  | .list => some "list"
  | .tuple => some "tuple"
  | .own _ => none
def tyOfA : AV → String
  | .non => "NoneType"
  | .bl _ => "bool"
  | .int _ => "int"
  | .str _ => "str"
  | .tup _ => "tuple"
  | _ => "list"
theorem kit_all : ∀ a b : String, a ∈ ["NoneType", "bool", "int", "str", "tuple", "list"] → b ∈ ["int", "bool", "str", "list", "tuple"] → kitB a b = some (a == b || (a == "bool" && b == "int")) := by
  have h : (["NoneType", "bool", "int", "str", "tuple", "list"].all fun a => ["int", "bool", "str", "list", "tuple"].all fun b => decide (kitB a b = some (a == b || (a == "bool" && b == "int")))) = true := by decide +kernel
  intro a b ha hb
  have h1 := List.all_eq_true.mp (List.all_eq_true.mp h a ha) b hb
  exact of_decide_eq_true h1
theorem ty_of {K : PySem.W.Frag} {l m : List Addr} {s : S} {σ : L2.St} {H : Hp} {x : AV} {v : V} (R0 : Rel D K l m s σ H) (r : VR K H l m x v) (h : isB s x = true) : TyX K H v (.type (tyOfA x)) := by
  have lists : ∀ xs, s.mut x = some xs → TyX K H v (.type "list") := fun xs hx => by
    obtain ⟨a, vs, rfl, h1, _⟩ := R0.mut_ r hx
    exact .base (.lst h1)
  cases x with
  | non => rw [vr_non r]; exact .base .non
  | bl b => rw [vr_bl r]; exact .base (.bl b)
  | int i => rw [vr_int r]; exact .base (.int i)
  | str z => rw [vr_str r]; exact .base (.str _)
  | tup xs =>
    obtain ⟨a, vs, rfl, h1, _⟩ := vr_tup r
    rcases h1 with (h1 | ⟨o, h1⟩) | ⟨o, its, n, h1, h2, _⟩
    · exact .base (.tup h1)
    · exact .fTuple h1
    · exact .kTuple h1 h2
  | lst xs =>
    have r' : VR0 K H m (.lst xs) v := r
    unfold VR0 at r'
    obtain ⟨a, o, vs, rfl, h1, _⟩ := r'
    exact .base (.frz h1)
  | scr ns =>
    have r' : VR0 K H m (.scr ns) v := r
    unfold VR0 at r'
    obtain ⟨a, rfl, h1⟩ := r'
    rcases h1 with ⟨o, h1⟩ | ⟨o, its, n, h1, h2, _⟩
    · exact .base (.frz h1)
    · exact .kList h1 h2
  | loc k =>
    simp only [isB] at h
    split at h
    · rename_i xs hx
      exact lists xs (by simp [S.mut, hx])
    · cases h
  | ref c =>
    simp only [isB] at h
    split at h
    · rename_i xs hx
      exact lists xs (by simp [S.mut, hx])
    · cases h
theorem tyB_eq {s : S} {x : AV} {t : Ty} {b : String} (h : isB s x = true) (ht : tyNm t = some b) : (tyOfA x == b || (tyOfA x == "bool" && b == "int")) = tyB s x t := by
  cases t <;> simp only [tyNm, Option.some.injEq, reduceCtorEq] at ht <;> subst ht <;> cases x <;>
    first
      | (simp only [tyOfA, tyB]; decide)
      | (simp only [isB] at h; split at h <;> first | (cases h; done) | (rename_i hx; simp only [tyOfA, tyB, hx]; decide))
theorem tyNm_mem {t : Ty} {b : String} (ht : tyNm t = some b) : b ∈ ["int", "bool", "str", "list", "tuple"] := by
  cases t <;> simp only [tyNm, Option.some.injEq, reduceCtorEq] at ht <;> subst ht <;> decide
theorem tyOfA_mem (x : AV) : tyOfA x ∈ ["NoneType", "bool", "int", "str", "tuple", "list"] := by cases x <;> simp [tyOfA]
theorem isi_one {K : PySem.W.Frag} {s : S} {x : AV} {t : Ty} {b : String} (h : isB s x = true) (ht : tyNm t = some b) : PySem.W.kitOne K (.type (tyOfA x)) (.type b) = some (tyB s x t) := by
  rw [← tyB_eq h ht]
  exact kit_ty (kit_all _ _ (tyOfA_mem x) (tyNm_mem ht))
theorem pev_isi1 {p p2 : Pos} {n : Str} {T : String} {t : Ty} (hg : Gl X "isinstance") (hm : X.mg "isinstance" = none) (hgT : Gl X n) (hmT : X.mg n = none) (hbT : bootBuiltins n = some (.type T)) (hnT : n ≠ "__name__") (hdT : (n == ("__debug__" : Str)) = false)
    (ht : tyNm t = some T) (ha : PEV D X W a f) (hs : starEach [a, .Name n p2] X.env = (false, eval a X.env) :: starEach [.Name n p2] X.env) :
    PEV D X W (.Call (.Name "isinstance" p) [a, .Name n p2] [] pos) fun s => (f s).bind fun x s => if isB s x = true then .ok (.bl (tyB s x t)) s else .bad := by
  obtain ⟨ta, pa, ha⟩ := ha
  refine ⟨_, pe_callB call_isi hg hm boot_isinstance (pa_cons pa (pa_cons (pe_bltn (v := .ty T) hgT hmT hbT rfl hnT hdT) pa_nil) hs) (by decide) (by decide) hs (by rfl), fun l m s σ H Q R0 q => ?_⟩
  refine ha l m s σ H _ R0 (q.bind.imp fun l1 m1 s1 H1 x R1 E1 q v rv => ?_)
  split at q
  · rename_i hc
    exact ⟨v, .ty T, _, _, _, rfl, .ty T, ty_of R1 rv hc, isi_one hc ht, Sat.here R1 q _ to_bl⟩
  · exact q.elim
end
end CL

end
section
/-! Fw6: calls of defs, freezing, what is walked, targets, comprehensions. -/
set_option Elab.async false
set_option linter.all false
set_option maxRecDepth 100000
namespace CL
open PySem PySem.Spec PyProof.Rows L2

/-- what a def promises: what the interpreter's run gives -/
def spOf (D : Dn) (K : PySem.W.Frag) (np : Nat) (run : List AV → List Cell → RC) : Sp := fun vs H Q E => ∃ (m : List Addr) (st : List Cell) (avs : List AV), SX D K m st H ∧ VRs K H m avs vs ∧ avs.length = np ∧
  match run avs st with
  | .ok v st' => ∀ m' H', SX D K m' st' H' → EX [] m H m' H' → ∀ x, VR0 K H' m' v x → Q x H'
  | .exn c p st' => ∀ m' H', SX D K m' st' H' → EX [] m H m' H' → ∀ cls d, ExcR D K m' H' c p cls d → E cls d H'
  | .bad => False
section
variable {D : Dn} {K : PySem.W.Frag} {W : WX} {σ σ' : L2.St} {l m l1 m1 m' : List Addr} {H H' : Hp} {s : S}
theorem Rel.sx (h : Rel D K l m s σ H) : SX D K m s.sto H := ⟨h.sto, fun a ha => h.liv a (.inr ha)⟩
/-- behind a call -/
theorem Rel.after (h : Rel D K l m s σ H) {st' : List Cell} (x : SX D K m' st' H') (e : EX [] m H m' H') : Rel D K l m' { s with sto := st' } σ H' ∧ Ext l m H l m' H' := by
  have kl : ∀ a u, a ∈ l → H a = some u → H' a = some u := fun a u ha q => e.keep a u q (by simp) (h.dis a ha)
  refine ⟨⟨h.len, fun i y hy => ?_, h.llen, fun k ys a h1 h2 => ?_, x.sr, h.ndl, fun a ha hm => ?_, fun a ha => ?_⟩, ⟨List.prefix_refl _, e.pm, e.fast, fun a u q _ hm => e.keep a u q (by simp) hm, fun a ha => ?_⟩⟩
  · obtain ⟨v, h1, h2⟩ := h.env i y hy
    exact ⟨v, h1, h2.mono e.fast (List.prefix_refl _) e.pm⟩
  · obtain ⟨vs, h3, h4⟩ := h.loc k ys a h1 h2
    exact ⟨vs, kl a _ (List.mem_of_getElem? h2) h3, VRs.mono e.fast e.pm _ _ h4⟩
  · rcases e.new a hm with (z | z) | z
    · simp at z
    · exact h.dis a ha z
    · obtain ⟨o, q⟩ := h.liv a (.inl ha)
      rw [q] at z; cases z
  · rcases ha with ha | ha
    · obtain ⟨o, q⟩ := h.liv a (.inl ha)
      exact ⟨o, kl a o ha q⟩
    · exact x.liv a ha
  · rcases ha with ha | ha
    · exact .inl (.inl ha)
    · rcases e.new a ha with (z | z) | z
      · simp at z
      · exact .inl (.inr z)
      · exact .inr z
theorem EX.wide (e : EX [] m H m' H') : EX l m H m' H' := ⟨e.pm, e.fast, fun a o q _ hm => e.keep a o q (by simp) hm, fun a ha => (e.new a ha).imp (fun z => z.elim (fun z => by simp at z) .inr) id⟩
/-- the promise's wish, from the interpreter's -/
theorem sp_sat {np : Nat} {run : List AV → List Cell → RC} {avs : List AV} {vs : List V} {Q : VK} (R0 : Rel D K l m s σ H) (r : VRs K H m avs vs) (hn : avs.length = np)
    (q : Sat D K W σ l m H (match run avs s.sto with
      | .ok v st => .ok v { s with sto := st }
      | .exn c p st => .exn c p st
      | .bad => .bad) (QV K Q)) : spOf D K np run vs H Q (fun cls d H' => ∀ σ, W cls d σ H') := by
  refine ⟨m, s.sto, avs, R0.sx, r, hn, ?_⟩
  cases hr : run avs s.sto with
  | bad => rw [hr] at q; exact q
  | exn c p st => rw [hr] at q; exact fun m' H' x e cls d hx => q m' H' x e.wide cls d hx
  | ok v st =>
    rw [hr] at q
    intro m' H' x e z hz
    obtain ⟨R1, E1⟩ := R0.after x e
    exact q l m' H' R1 E1 z (VR.up hz)
end
section
variable {D : Dn} {X : Cx} {W : WX} {a b c e : Expr} {es : List Expr} {f g : S → R AV} {fs : S → R (List AV)} {pos : Pos}
theorem pev_call {k : Nat} {fa : Addr} {fd : FuncData} {ps : List Str} {x : Str} {p : Pos} {np : Nat} {run : List AV → List Cell → RC} (F : FnOk X.prog X.w X.K X.mg X.base (L2.CX X.prog X.w) k fa fd ps (spOf D X.K np run)) (hr : Room k X.A) (hg : Gl X x) (hm : X.mg x = some (.ref fa))
    (hk : PySem.W.keepIn X.K (.ref fa) = true) (hb : Binds X.K fd ps []) (tk : Takes X W) (hnp : ∀ s vs s', fs s = .ok vs s' → vs.length = np) (ha : PAV D X W (e :: es) fs) (hdb : (x == ("__debug__" : Str)) = false)
    (he : starEach (e :: es) X.env = (false, eval e X.env) :: starEach es X.env) (hpl : (backTo pos (starEach es X.env)).any (·.1) = false) :
    PEV D X W (.Call (.Name x p) (e :: es) [] pos) fun s => (fs s).bind fun vs s => if vs.all AV.nl = true then match run vs s.sto with
      | .ok v st => .ok v { s with sto := st }
      | .exn c p st => .exn c p st
      | .bad => .bad
    else .bad := by
  obtain ⟨t, pa, ha⟩ := ha
  refine ⟨_, pe_call F hr hg hm hk hb .nil (passes_call (E := fun cls d H' => ∀ σ, W cls d σ H') tk fun cls d σ H h => h σ) pa hdb he hpl, fun l m s σ H Q R0 q => ?_⟩
  refine ha l m s σ H _ R0 ?_
  have q1 := q.bind
  cases hf : fs s with
  | bad => rw [hf] at q1; exact q1
  | exn c p st => rw [hf] at q1; exact q1
  | ok xs s1 =>
    rw [hf] at q1
    have hlen := hnp s xs s1 hf
    intro l1 m1 H1 R1 E1 vs rv
    have q2 := q1 l1 m1 H1 R1 E1
    dsimp only at q2
    split at q2
    · rename_i hc
      show spOf D X.K np run (vs ++ []) H1 Q _
      rw [List.append_nil]
      exact sp_sat R1 (paired_nl rv hc) hlen q2
    · exact q2.elim
theorem pev_frz (ha : PEV D X W a f) : PEV D X W a fun s => (f s).bind frzA := by
  obtain ⟨ta, pa, ha⟩ := ha
  refine ⟨_, pe_frz pa, fun l m s σ H Q R0 q => ?_⟩
  refine ha l m s σ H _ R0 (q.bind.imp fun l1 m1 s1 H1 x R1 E1 q v rv => ?_)
  cases x with
  | loc k =>
    simp only [frzA] at q
    split at q
    · rename_i xs hx
      obtain ⟨p, rfl, h2⟩ := rv
      obtain ⟨vs, h3, h4⟩ := R1.loc k xs p hx h2
      refine .inr ⟨p, vs, rfl, h3, fun o => ?_⟩
      obtain ⟨R2, E2⟩ := R1.setLo h2 h3 (u := .frz o (.lst vs)) (q := none) fun ys z => by cases z
      refine q _ _ _ R2 E2 _ ?_
      show VR0 X.K _ m1 (.lst xs) (.ref p)
      unfold VR0
      exact ⟨p, o, vs, rfl, upd_same, VRs.mono E2.fast E2.pm _ _ h4⟩
    · exact q.elim
  | ref k =>
    simp only [frzA] at q
    split at q
    · rename_i xs hx
      have rv' : VR0 X.K H1 m1 (.ref k) v := rv
      unfold VR0 at rv'
      obtain ⟨p, rfl, h2⟩ := rv'
      obtain ⟨vs, h3, h4⟩ := R1.sto.cell k _ p hx h2
      refine .inr ⟨p, vs, rfl, h3, fun o => ?_⟩
      obtain ⟨R2, E2⟩ := R1.setGl h2 h3 (u := .frz o (.lst vs)) (x := .gone) (fun _ z => by cases z) (fun _ _ z => by cases z) trivial
      refine q _ _ _ R2 E2 _ ?_
      show VR0 X.K _ m1 (.lst xs) (.ref p)
      unfold VR0
      exact ⟨p, o, vs, rfl, upd_same, VRs.mono E2.fast E2.pm _ _ h4⟩
    · exact q.elim
  | _ => exact .inl (Sat.here R1 q v rv)
end

/-! ### canonical readings -/
def tEv (D : Dn) (K : PySem.W.Frag) (W : WX) (f : S → R AV) : TE := fun σ H Q => ∃ l m s, Rel D K l m s σ H ∧ Sat D K W σ l m H (f s) (QV K Q)
def tTs (D : Dn) (K : PySem.W.Frag) (W : WX) (f : S → R Bool) : TT := fun σ H Q => ∃ l m s, Rel D K l m s σ H ∧ Sat D K W σ l m H (f s) fun _ _ _ H' b => Q b H'
section
variable {D : Dn} {X : Cx} {W : WX} {e : Expr}
theorem PEV.can {f : S → R AV} (h : PEV D X W e f) : PE X e (tEv D X.K W f) := by
  obtain ⟨t, p, h⟩ := h
  refine ⟨fun pins s σ H Q I q => ?_⟩
  obtain ⟨l, m, as, R0, q⟩ := q
  exact p.run pins s σ H Q I (h l m as σ H Q R0 q)
theorem PTV.can {f : S → R Bool} (h : PTV D X W e f) : PT X e (tTs D X.K W f) := by
  obtain ⟨t, p, h⟩ := h
  refine ⟨fun pins s σ H Q I q => ?_⟩
  obtain ⟨l, m, as, R0, q⟩ := q
  exact p.run pins s σ H Q I (h l m as σ H Q R0 q)
end

/-! ### targets -/
/-- only these slots may have changed -/
def Chg (ts : List Nat) (σ σ' : L2.St) : Prop := σ'.length = σ.length ∧ ∀ j, j ∉ ts → σ'[j]? = σ[j]?
theorem Chg.refl {ts : List Nat} {σ : L2.St} : Chg ts σ σ := ⟨rfl, fun _ _ => rfl⟩
theorem Chg.mono {ts us : List Nat} {σ σ' : L2.St} (h : Chg ts σ σ') (s : ∀ i ∈ ts, i ∈ us) : Chg us σ σ' := ⟨h.1, fun j hj => h.2 j fun z => hj (s j z)⟩
theorem Chg.trans {ts : List Nat} {σ σ' σ'' : L2.St} (h : Chg ts σ σ') (k : Chg ts σ' σ'') : Chg ts σ σ'' := ⟨k.1.trans h.1, fun j hj => (k.2 j hj).trans (h.2 j hj)⟩
def SatG (D : Dn) (K : PySem.W.Frag) (W : WX) (ts : List Nat) (σ : L2.St) (l m : List Addr) (H : Hp) (r : R Unit) (Q : List Addr → List Addr → S → L2.St → Hp → Prop) : Prop := match r with
  | .ok _ s' => ∀ l' m' σ' H', Rel D K l' m' s' σ' H' → Ext l m H l' m' H' → Chg ts σ σ' → Q l' m' s' σ' H'
  | .exn c p st => SatX D K W l m H c p st
  | .bad => False
def tGv (D : Dn) (K : PySem.W.Frag) (W : WX) (ts : List Nat) (f : AV → S → R Unit) : TG := fun v σ H Q => ∃ l m s x, Rel D K l m s σ H ∧ VR K H l m x v ∧ SatG D K W ts σ l m H (f x s) fun _ _ _ σ' H' => Q σ' H'
def tGvs (D : Dn) (K : PySem.W.Frag) (W : WX) (ts : List Nat) (f : List AV → S → R Unit) : TGs := fun vs σ H Q => ∃ l m s xs, Rel D K l m s σ H ∧ Paired (VR K H l m) xs vs ∧ SatG D K W ts σ l m H (f xs s) fun _ _ _ σ' H' => Q σ' H'
def PGV (D : Dn) (X : Cx) (W : WX) (ts : List Nat) (tg : Expr) (f : AV → S → R Unit) : Prop := PG X tg (tGv D X.K W ts f)
def PGVs (D : Dn) (X : Cx) (W : WX) (ts : List Nat) (tgs : List Expr) (f : List AV → S → R Unit) : Prop := PGs X tgs (tGvs D X.K W ts f)
theorem PG.weak {X : Cx} {tg : Expr} {t u : TG} (h : PG X tg t) (k : ∀ v σ H Q, u v σ H Q → t v σ H Q) : PG X tg u := ⟨fun pins s σ H v w Q I r q => h.run pins s σ H v w Q I r (k v σ H Q q)⟩
theorem PGs.weak {X : Cx} {tg : List Expr} {t u : TGs} (h : PGs X tg t) (k : ∀ v σ H Q, u v σ H Q → t v σ H Q) : PGs X tg u := ⟨fun pins s σ H v w Q I r q => h.run pins s σ H v w Q I r (k v σ H Q q)⟩
section
variable {D : Dn} {K : PySem.W.Frag} {W : WX} {σ : L2.St} {l m l1 m1 : List Addr} {H H1 : Hp} {ts : List Nat}
theorem SatG.base {r : R Unit} {Q : List Addr → List Addr → S → L2.St → Hp → Prop} {σ1 : L2.St} (e : Ext l m H l1 m1 H1) (c : Chg ts σ σ1) (h : SatG D K W ts σ l m H r Q) : SatG D K W ts σ1 l1 m1 H1 r Q := by
  cases r with
  | ok a s => exact fun l' m' σ' H' x y z => h l' m' σ' H' x (e.trans y) (c.trans z)
  | exn c p st => exact SatX.base e h
  | bad => exact h
theorem Rel.setEnv {s : S} (h : Rel D K l m s σ H) {x : AV} {v : V} (r : VR K H l m x v) (i : Nat) : Rel D K l m { s with env := s.env.set i (some x) } (σ.set i (some v)) H where
  len := by simp [h.len]
  env := fun j y hy => by
    rcases set_at hy with ⟨e1, e2⟩ | ⟨e1, e2⟩
    · subst e1
      have hj : i < s.env.length := by
        by_cases q : i < s.env.length
        · exact q
        · have hy' : (s.env.set i (some x))[i]? = some (some y) := hy
          rw [List.getElem?_eq_none (by simpa using q)] at hy'; cases hy'
      cases e2
      exact ⟨v, by rw [List.getElem?_set_self (by rw [← h.len]; exact hj)], r⟩
    · obtain ⟨w, h1, h2⟩ := h.env j y e2
      exact ⟨w, by rw [List.getElem?_set_ne e1]; exact h1, h2⟩
  llen := h.llen
  loc := h.loc
  sto := h.sto
  ndl := h.ndl
  dis := h.dis
  liv := h.liv
theorem Chg.set {i : Nat} {v : Option V} (hi : i ∈ ts) : Chg ts σ (σ.set i v) := ⟨by simp, fun j hj => List.getElem?_set_ne (fun (z : i = j) => hj (by rw [← z]; exact hi))⟩
end
section
variable {D : Dn} {X : Cx} {W : WX} {ts : List Nat} {pos : Pos}
theorem pgv_nm {i : Nat} {x : Str} (hN : X.N.Nodup) (hi : X.N[i]? = some x) (hx : Loc X.env.scope x) (hf : X.fn x = true ∨ X.env.scope.names.lookup x = some .local) (hm : i ∈ ts) :
    PGV D X W ts (.Name x pos) fun v s => if i < s.env.length then .ok () { s with env := s.env.set i (some v) } else .bad := by
  refine PG.weak (pg_name hN hi hx hf) fun v σ H Q q => ?_
  obtain ⟨l, m, s, y, R0, r, q⟩ := q
  dsimp only at q
  split at q
  · exact q l m _ H (R0.setEnv r i) Ext.refl (Chg.set hm)
  · exact q.elim
theorem pgvs_nil : PGVs D X W ts [] fun xs s => match xs with
    | [] => .ok () s
    | _ => .bad := by
  refine PGs.weak pgs_nil fun vs σ H Q q => ?_
  obtain ⟨l, m, s, xs, R0, r, q⟩ := q
  cases r with
  | nil => exact ⟨rfl, q l m σ H R0 Ext.refl Chg.refl⟩
  | cons _ _ => exact q.elim
theorem pgvs_cons {e : Expr} {es : List Expr} {f : AV → S → R Unit} {g : List AV → S → R Unit} (h1 : PGV D X W ts e f) (h2 : PGVs D X W ts es g) (hs : (assignEach (e :: es) X.env).map (·.2) = assign e X.env :: (assignEach es X.env).map (·.2)) :
    PGVs D X W ts (e :: es) fun xs s => match xs with
      | x :: xs => (f x s).bind fun _ s => g xs s
      | [] => .bad := by
  refine PGs.weak (pgs_cons h1 h2 hs) fun vs σ H Q q => ?_
  obtain ⟨l, m, s, xs, R0, r, q⟩ := q
  cases r with
  | nil => exact q.elim
  | @cons x v xs vs rx rr =>
    refine ⟨v, vs, rfl, l, m, s, x, R0, rx, ?_⟩
    simp only at q
    cases hf : f x s with
    | bad => rw [hf] at q; exact q.elim
    | exn c p st => rw [hf] at q; exact q
    | ok _ s1 =>
      rw [hf, R.bind_ok] at q
      intro l1 m1 σ1 H1 R1 E1 C1
      exact ⟨l1, m1, s1, xs, R1, Paired.mono E1.fast E1.pl E1.pm rr, SatG.base E1 C1 q⟩
theorem vrs_paired {K : PySem.W.Frag} {H : Hp} {l m : List Addr} : ∀ {xs : List AV} {vs : List V}, VRs K H m xs vs → Paired (VR K H l m) xs vs
  | [], vs, h => by unfold VRs at h; subst h; exact .nil
  | x :: xs, vs, h => by
    unfold VRs at h
    obtain ⟨v, r, rfl, h1, h2⟩ := h
    exact .cons (VR.up h1) (vrs_paired h2)
theorem PG.or {X : Cx} {tg : Expr} {t u : TG} (h : PG X tg t) (k : PG X tg u) : PG X tg fun v σ H Q => t v σ H Q ∨ u v σ H Q :=
  ⟨fun pins s σ H v w Q I r q => q.elim (h.run pins s σ H v w Q I r) (k.run pins s σ H v w Q I r)⟩
theorem pgv_tp {es : List Expr} {k n : Nat} {g : List AV → S → R Unit} (hc : X.calm = true) (h : PGVs D X W ts es g) (hn : (assignEach es X.env).length = n) (hst : (assignEach es X.env).findIdx? (·.1) = none) :
    PGV D X W ts (.Tuple es k pos) fun v s => match s.seq v with
      | some xs => if xs.length = n then g xs s else .bad
      | none => .bad := by
  refine PG.weak (PG.or (pg_tup hc h hn hst) (pg_unl hc h hn hst)) fun v σ H Q q => ?_
  obtain ⟨l, m, s, y, R0, r, q⟩ := q
  cases hy : s.seq y with
  | none => simp only [hy] at q; exact q.elim
  | some xs =>
    simp only [hy] at q
    split at q
    · rename_i hl
      obtain ⟨a, vs, rfl, h1, h2⟩ := R0.seq_ r hy
      have tail : tGvs D X.K W ts g vs σ H Q := ⟨l, m, s, xs, R0, vrs_paired h2, q⟩
      rcases h1 with ⟨h1, _⟩ | ⟨h1, _⟩
      · exact .inr ⟨a, vs, rfl, h1, h2.len ▸ hl, tail⟩
      · exact .inl ⟨a, vs, rfl, h1, h2.len ▸ hl, tail⟩
    · exact q.elim
theorem ixA_N (n : Nat) (i : Int) : ixN n i = ixA n i := rfl
theorem pgv_sub {a b : Expr} {f g : S → R AV} (ha : PEV D X W a f) (hb : PEV D X W b g) (hr : ∀ v, assign (.Subscript a b pos) X.env v = (do
      let ov ← holding [v] (eval a X.env)
      let iv ← holding [v, ov] (eval b X.env)
      standAt pos
      holding [v, ov, iv] (setItem ov iv v)
      release [v, ov, iv] [])) :
    PGV D X W ts (.Subscript a b pos) fun v s => (f s).bind fun x s => (g s).bind fun y s => setA x y v s := by
  obtain ⟨ta, pa, ha⟩ := ha
  obtain ⟨tb, pb, hb⟩ := hb
  refine PG.weak (pg_sub pa pb set_list hr) fun v σ H Q q => ?_
  obtain ⟨l, m, s, z, R0, r, q⟩ := q
  -- the target's parts, with the value kept
  have go : ∀ l m s H, Rel D X.K l m s σ H → VR X.K H l m z v → SatG D X.K W ts σ l m H ((f s).bind fun x s => (g s).bind fun y s => setA x y z s) (fun _ _ _ σ' H' => Q σ' H') →
      Sat D X.K W σ l m H (f s) (QV X.K fun v1 H1 => tb σ H1 fun v2 H2 => rSetL v1 v2 v H2 fun H3 => Q σ H3) := by
    intro l m s H R0 r q
    cases hf : f s with
    | bad => rw [hf] at q; exact q.elim
    | exn c p st => rw [hf] at q; exact q
    | ok x s1 =>
      rw [hf, R.bind_ok] at q
      intro l1 m1 H1 R1 E1 v1 r1
      have q := SatG.base (ts := ts) E1 Chg.refl q
      refine hb l1 m1 s1 σ H1 _ R1 ?_
      cases hg : g s1 with
      | bad => rw [hg] at q; exact q.elim
      | exn c p st => rw [hg] at q; exact q
      | ok y s2 =>
        rw [hg, R.bind_ok] at q
        intro l2 m2 H2 R2 E2 v2 r2
        have q := SatG.base (ts := ts) E2 Chg.refl q
        have r1 := r1.mono E2.fast E2.pl E2.pm
        have r := (r.mono E1.fast E1.pl E1.pm).mono E2.fast E2.pl E2.pm
        unfold setA at q
        cases hx : s2.mut x with
        | none => simp only [hx] at q; exact q.elim
        | some xs =>
          simp only [hx] at q
          cases y with
          | int i =>
            simp only at q
            cases hi : ixA xs.length i with
            | none => simp only [hi] at q; exact q.elim
            | some j =>
              simp only [hi] at q
              split at q
              · rename_i hc
                obtain ⟨p, vs, rfl, h1, h2⟩ := R2.mut_ r1 hx
                obtain ⟨R3, E3⟩ := R2.put_ r1 hx rfl (h2.set j (r.dn hc))
                exact ⟨p, vs, i, j, rfl, vr_int r2, h1, by rw [ixA_N, ← h2.len]; exact hi, q _ _ _ _ R3 E3 Chg.refl⟩
              · exact q.elim
          | _ => exact q.elim
  exact ha l m s σ H _ R0 (go l m s H R0 r q)
end
end CL

end
section
/-! Fw7: what is walked; comprehensions. -/
set_option Elab.async false
set_option linter.all false
set_option maxRecDepth 100000
namespace CL
open PySem PySem.Spec PyProof.Rows L2

structure WkOk (D : Dn) (K : PySem.W.Frag) (J : L2.It) (w : Wk) (l0 m0 : List Addr) (H0 : Hp) : Prop where
  go : ∀ l m s σ H i x, Rel D K l m s σ H → Ext l0 m0 H0 l m H → w.ok s.loc s.sto = true → w.items[i]? = some x → J.go i H ∧ ∀ v H', J.yld i H v H' → Rel D K l m s σ H' ∧ Ext l m H l m H' ∧ VR0 K H' m x v
  stop : ∀ l m s σ H, Rel D K l m s σ H → Ext l0 m0 H0 l m H → w.ok s.loc s.sto = true → J.stop w.items.length H
def QW (D : Dn) (K : PySem.W.Frag) (R : L2.It → Hp → Prop) : List Addr → List Addr → S → Hp → Wk → Prop := fun l' m' _ H' w => ∀ J, WkOk D K J w l' m' H' → R J H'
def tWk (D : Dn) (K : PySem.W.Frag) (W : WX) (f : S → R Wk) : TI := fun σ H R => ∃ l m s, Rel D K l m s σ H ∧ Sat D K W σ l m H (f s) (QW D K R)
def PIV (D : Dn) (X : Cx) (W : WX) (tg iter : Expr) (f : S → R Wk) : Prop := PI X tg iter (tWk D X.K W f)
theorem PI.weak {X : Cx} {tg iter : Expr} {t u : TI} (h : PI X tg iter t) (k : ∀ σ H R, u σ H R → t σ H R) : PI X tg iter u := ⟨fun pins s σ H R I q => h.run pins s σ H R I (k σ H R q)⟩
theorem PI.or {X : Cx} {tg iter : Expr} {t u : TI} (h : PI X tg iter t) (k : PI X tg iter u) : PI X tg iter fun σ H R => t σ H R ∨ u σ H R :=
  ⟨fun pins s σ H R I q => q.elim (h.run pins s σ H R I) (k.run pins s σ H R I)⟩
section
variable {D : Dn} {K : PySem.W.Frag} {l m l0 m0 : List Addr} {H H0 : Hp}
/-- a list that is read in the same way whenever it is walked -/
theorem wk_list {a : Addr} {w : Wk} (h : ∀ l m s (σ : L2.St) H, Rel D K l m s σ H → Ext l0 m0 H0 l m H → w.ok s.loc s.sto = true → ∃ vs, SqL K H a vs ∧ VRs K H m w.items vs) : WkOk D K (Itl K a) w l0 m0 H0 where
  go := fun l m s σ H i x R0 E0 ho hi => by
    obtain ⟨vs, h1, h2⟩ := h l m s σ H R0 E0 ho
    obtain ⟨v, e1, e2⟩ := h2.get hi
    refine ⟨⟨vs, v, h1, e1⟩, fun u H' hy => ?_⟩
    obtain ⟨rfl, hy⟩ := hy
    have : u = v := Option.some.inj ((hy vs h1).symm.trans e1)
    subst this
    exact ⟨R0, Ext.refl, e2⟩
  stop := fun l m s σ H R0 E0 ho => by
    obtain ⟨vs, h1, h2⟩ := h l m s σ H R0 E0 ho
    exact ⟨vs, h1, by rw [h2.len]; exact Nat.le_refl _⟩
theorem wk_tup {a : Addr} {w : Wk} (h : ∀ l m s (σ : L2.St) H, Rel D K l m s σ H → Ext l0 m0 H0 l m H → w.ok s.loc s.sto = true → ∃ vs, SqT K H a vs ∧ VRs K H m w.items vs) : WkOk D K (Itt K a) w l0 m0 H0 where
  go := fun l m s σ H i x R0 E0 ho hi => by
    obtain ⟨vs, h1, h2⟩ := h l m s σ H R0 E0 ho
    obtain ⟨v, e1, e2⟩ := h2.get hi
    refine ⟨⟨vs, v, h1, e1⟩, fun u H' hy => ?_⟩
    obtain ⟨rfl, hy⟩ := hy
    have : u = v := Option.some.inj ((hy vs h1).symm.trans e1)
    subst this
    exact ⟨R0, Ext.refl, e2⟩
  stop := fun l m s σ H R0 E0 ho => by
    obtain ⟨vs, h1, h2⟩ := h l m s σ H R0 E0 ho
    exact ⟨vs, h1, by rw [h2.len]; exact Nat.le_refl _⟩
theorem wk_rng {lo : Int} {n : Nat} {ok : List (Option (List AV)) → List Cell → Bool} : WkOk D K (Itr lo n) ⟨(List.range n).map fun (k : Nat) => AV.int (lo + (k : Int)), ok⟩ l0 m0 H0 where
  go := fun l m s σ H i x R0 E0 ho hi => by
    simp only [List.getElem?_map] at hi
    cases hr : (List.range n)[i]? with
    | none => rw [hr] at hi; cases hi
    | some j =>
      rw [hr] at hi
      obtain ⟨hlt, hj⟩ := List.getElem?_eq_some_iff.mp hr
      simp only [List.length_range] at hlt
      simp only [List.getElem_range] at hj
      subst hj
      cases hi
      refine ⟨hlt, fun v H' hy => ?_⟩
      obtain ⟨rfl, rfl⟩ := hy
      refine ⟨R0, Ext.refl, ?_⟩
      unfold VR0; rfl
  stop := fun l m s σ H R0 E0 ho => by
    show n ≤ _
    simp
end
section
variable {X : Cx} {pins : List (Addr × Obj)} {σ : L2.St} {H : Hp} {s : Shared} {tg : Expr} {R : L2.It → Hp → Prop} {a : Addr} {xs : List V}
theorem it_list (I : Inv X pins σ H s) (hq : SqL X.K H a xs) (q : R (Itl X.K a) H) : wpAny (model X.prog X.w) X.A (pyIter (.ref a)) (PIE X pins σ tg R) X.xe s := by
  obtain ⟨us, _, hp, _⟩ := I.list hq
  have Ik : Inv X pins σ H { s with heap := s.heap.push { cls := .type "list_iterator", data := .fields #[.ref a, .int 0 0] } } := I.kept (t' := s.toks) fun c u z => Heap.get?_push_of_some _ z
  refine wpAny_pyIter_list hp.isList ⟨_, [s.heap.objs.size], _, _, H, rfl, Ik, turn_list a _, ⟨_, Heap.get?_push_size _ rfl, rfl, rfl⟩, ?_, q⟩
  intro c hc
  obtain rfl : c = s.heap.objs.size := List.mem_singleton.mp hc
  exact I.fpOk (Nat.le_refl _) (I.hok.fresh (Nat.le_refl _))
theorem it_tup (I : Inv X pins σ H s) (hq : SqT X.K H a xs) (q : R (Itt X.K a) H) : wpAny (model X.prog X.w) X.A (pyIter (.ref a)) (PIE X pins σ tg R) X.xe s := by
  obtain ⟨us, _, hp, _⟩ := I.tuple hq
  have ht : s.heap.IsTuple a us.toArray := hp
  have Ik : Inv X pins σ H { s with heap := s.heap.push { cls := .type "tuple_iterator", data := .fields #[.ref a, .int 0 0] } } := I.kept (t' := s.toks) fun c u z => Heap.get?_push_of_some _ z
  refine wpAny_pyIter_tuple ht ⟨_, [s.heap.objs.size], _, _, H, rfl, Ik, turn_tuple a _, ⟨_, Heap.get?_push_size _ rfl, rfl, rfl⟩, ?_, q⟩
  intro c hc
  obtain rfl : c = s.heap.objs.size := List.mem_singleton.mp hc
  exact I.fpOk (Nat.le_refl _) (I.hok.fresh (Nat.le_refl _))
def iSeq (K : PySem.W.Frag) (tl : TE) : TI := fun σ H R => tl σ H fun x H1 => ∃ a, x = .ref a ∧ ((∃ xs, SqL K H1 a xs ∧ R (Itl K a) H1) ∨ ∃ xs, SqT K H1 a xs ∧ R (Itt K a) H1)
theorem pi_seq {e : Expr} {tl : TE} (he : PE X e tl) : PI X tg e (iSeq X.K tl) := by
  refine ⟨fun pins s σ H R I h => thn (he.run pins s σ H _ I h) fun v s1 z => ?_⟩
  obtain ⟨x, H1, I1, rx, a, ex, q⟩ := z
  subst ex
  have ev : v = Value.ref a := rx
  subst ev
  rcases q with ⟨xs, h1, q⟩ | ⟨xs, h1, q⟩
  · exact it_list I1 h1 q
  · exact it_tup I1 h1 q
end
section
variable {D : Dn} {X : Cx} {W : WX} {tg a b : Expr} {es : List Expr} {f g : S → R AV} {fs : S → R (List AV)} {pos : Pos}
theorem piv_val (ha : PEV D X W a f) : PIV D X W tg a fun s => (f s).bind fun v s => match walkV v s with
    | some w => .ok w s
    | none => .bad := by
  obtain ⟨ta, pa, ha⟩ := ha
  refine PI.weak (pi_seq pa) fun σ H R q => ?_
  obtain ⟨l, m, s, R0, q⟩ := q
  refine ha l m s σ H _ R0 (q.bind.imp fun l1 m1 s1 H1 x R1 E1 q v rv => ?_)
  cases x with
  | tup xs =>
    simp only [walkV] at q
    obtain ⟨p, vs, rfl, h1, h2⟩ := vr_tup rv
    refine ⟨p, rfl, .inr ⟨vs, h1, Sat.here R1 q _ (wk_tup fun l m s σ H R2 E2 _ => ⟨vs, E2.fast.sqT h1, VRs.mono E2.fast E2.pm _ _ h2⟩)⟩⟩
  | lst xs =>
    simp only [walkV] at q
    have rv' : VR0 X.K H1 m1 (.lst xs) v := rv
    unfold VR0 at rv'
    obtain ⟨p, o, vs, rfl, h1, h2⟩ := rv'
    refine ⟨p, rfl, .inl ⟨vs, .inl (.inr ⟨o, h1⟩), Sat.here R1 q _ (wk_list fun l m s σ H R2 E2 _ => ⟨vs, .inl (.inr ⟨o, E2.fast.2 _ _ _ h1⟩), VRs.mono E2.fast E2.pm _ _ h2⟩)⟩⟩
  | loc k =>
    obtain ⟨p, rfl, h2⟩ := rv
    simp only [walkV] at q
    cases hx : s1.loc[k]? with
    | none => simp only [hx] at q; exact q.elim
    | some o =>
      cases o with
      | none => simp only [hx] at q; exact q.elim
      | some xs =>
        simp only [hx] at q
        obtain ⟨vs, h3, h4⟩ := R1.loc k xs p hx h2
        refine ⟨p, rfl, .inl ⟨vs, SqL.of h3, Sat.here R1 q _ (wk_list fun l m s σ H R2 E2 ho => ?_)⟩⟩
        have ho := of_decide_eq_true ho
        obtain ⟨ws, h5, h6⟩ := R2.loc k xs p ho (pre_at E2.pl h2)
        exact ⟨ws, SqL.of h5, h6⟩
  | ref k =>
    have rv' : VR0 X.K H1 m1 (.ref k) v := rv
    unfold VR0 at rv'
    obtain ⟨p, rfl, h2⟩ := rv'
    simp only [walkV] at q
    cases hx : s1.sto[k]? with
    | none => simp only [hx] at q; exact q.elim
    | some o =>
      cases o with
      | ins _ _ => simp only [hx] at q; exact q.elim
      | gone => simp only [hx] at q; exact q.elim
      | lst xs =>
        simp only [hx] at q
        obtain ⟨vs, h3, h4⟩ := R1.sto.cell k _ p hx h2
        refine ⟨p, rfl, .inl ⟨vs, SqL.of h3, Sat.here R1 q _ (wk_list fun l m s σ H R2 E2 ho => ?_)⟩⟩
        dsimp only at ho
        split at ho
        · rename_i ys hy
          have ho := of_decide_eq_true ho
          subst ho
          obtain ⟨ws, h5, h6⟩ := R2.sto.cell k _ p hy (pre_at E2.pm h2)
          exact ⟨ws, SqL.of h5, h6⟩
        · cases ho
  | _ => simp only [walkV] at q; exact q.elim
theorem small62_ok {i : Int} (h : small62 i = true) : -(2 ^ 62) ≤ i ∧ i < 2 ^ 62 := by
  unfold small62 at h
  rw [Bool.and_eq_true, decide_eq_true_eq, decide_eq_true_eq] at h
  exact h
theorem piv_rng1 {p : Pos} (hg : Gl X "range") (hm : X.mg "range" = none) (ha : PAV D X W [a] fs) (hs : starEach [a] X.env = [(false, eval a X.env)]) (hn : ∀ s vs s', fs s = .ok vs s' → vs.length = 1) :
    PIV D X W tg (.Call (.Name "range" p) [a] [] pos) fun s => (fs s).bind fun vs s => match walkR vs with
    | some w => .ok w s
    | none => .bad := by
  obtain ⟨ta, pa, ha⟩ := ha
  refine PI.weak (pi_range1 hg hm pa hs) fun σ H R q => ?_
  obtain ⟨l, m, s, R0, q⟩ := q
  refine ha l m s σ H _ R0 ?_
  have q1 := q.bind
  cases hf : fs s with
  | bad => rw [hf] at q1; exact q1
  | exn c p st => rw [hf] at q1; exact q1
  | ok xs s1 =>
    rw [hf] at q1
    have hlen := hn s xs s1 hf
    intro l1 m1 H1 R1 E1 vs rv
    have q2 := q1 l1 m1 H1 R1 E1
    dsimp only at q2
    match xs, hlen with
    | [x], _ =>
      obtain ⟨v, rfl, rx⟩ := paired1 rv
      cases x with
      | int n =>
        simp only [walkR] at q2
        split at q2
        · rename_i w hw
          split at hw
          · rename_i hc
            cases hw
            rw [vr_int rx]
            exact ⟨n, rfl, (small62_ok hc).1, (small62_ok hc).2, Sat.here R1 q2 _ wk_rng⟩
          · cases hw
        · exact q2.elim
      | _ => simp only [walkR] at q2; exact q2.elim
theorem piv_rng2 {p : Pos} (hg : Gl X "range") (hm : X.mg "range" = none) (ha : PAV D X W [a, b] fs) (hs : starEach [a, b] X.env = [(false, eval a X.env), (false, eval b X.env)]) (hs2 : starEach [b] X.env = [(false, eval b X.env)]) (hn : ∀ s vs s', fs s = .ok vs s' → vs.length = 2) :
    PIV D X W tg (.Call (.Name "range" p) [a, b] [] pos) fun s => (fs s).bind fun vs s => match walkR vs with
    | some w => .ok w s
    | none => .bad := by
  obtain ⟨ta, pa, ha⟩ := ha
  refine PI.weak (pi_range2 hg hm pa hs hs2) fun σ H R q => ?_
  obtain ⟨l, m, s, R0, q⟩ := q
  refine ha l m s σ H _ R0 ?_
  have q1 := q.bind
  cases hf : fs s with
  | bad => rw [hf] at q1; exact q1
  | exn c p st => rw [hf] at q1; exact q1
  | ok xs s1 =>
    rw [hf] at q1
    have hlen := hn s xs s1 hf
    intro l1 m1 H1 R1 E1 vs rv
    have q2 := q1 l1 m1 H1 R1 E1
    dsimp only at q2
    match xs, hlen with
    | [x, y], _ =>
      obtain ⟨v, w, rfl, rx, ry⟩ := paired2 rv
      cases x with
      | int i =>
        cases y with
        | int j =>
          simp only [walkR] at q2
          split at q2
          · rename_i w hw
            split at hw
            · rename_i hc
              cases hw
              rw [vr_int rx, vr_int ry]
              exact ⟨i, j, rfl, ⟨(small62_ok hc.1).1, (small62_ok hc.1).2, (small62_ok hc.2).1, (small62_ok hc.2).2⟩, Sat.here R1 q2 _ wk_rng⟩
            · cases hw
          · exact q2.elim
        | _ => simp only [walkR] at q2; exact q2.elim
      | _ => simp only [walkR] at q2; exact q2.elim
end

/-! ### states with other slots, with things beside them -/
section
variable {D : Dn} {K : PySem.W.Frag} {l m l' m' : List Addr} {s s0 : S} {σ σ0 σ' : L2.St} {H H0 H' : Hp} {p : Addr} {u : HO}
theorem Rel.env_ (h : Rel D K l m s σ H) {env' : List (Option AV)} (hl : env'.length = σ'.length) (he : ∀ (i : Nat) (x : AV), env'[i]? = some (some x) → ∃ v, σ'[i]? = some (some v) ∧ VR K H l m x v) : Rel D K l m { s with env := env' } σ' H :=
  ⟨hl, he, h.llen, h.loc, h.sto, h.ndl, h.dis, h.liv⟩
theorem Rel.off (h : Rel D K l m s σ H) {ws : List V} (hp : H p = some (.lst ws)) (nl : p ∉ l) (nm : p ∉ m) : Rel D K l m s σ (upd H p u) :=
  h.mono (Fast.set hp (fun _ z => by cases z) fun _ _ z => by cases z) fun a v ha q => by rw [upd_ne (fun z => by subst z; exact ha.elim nl nm)]; exact q
theorem Rel.joinLo (h : Rel D K l m s σ H) {vs : List V} {xs : List AV} (hp : H p = some (.lst vs)) (nl : p ∉ l) (nm : p ∉ m) (r : VRs K H m xs vs) : Rel D K (l ++ [p]) m { s with loc := s.loc ++ [some xs] } σ H where
  len := h.len
  env := fun i x hx => by
    obtain ⟨v, h1, h2⟩ := h.env i x hx
    exact ⟨v, h1, h2.mono Fast.refl (List.prefix_append _ _) (List.prefix_refl _)⟩
  llen := by simp [h.llen]
  loc := fun k ys a h1 h2 => by
    rcases get_app h1 with ⟨q1, q2⟩ | ⟨q1, q2⟩
    · rw [List.getElem?_append_left (by rw [h.llen]; exact q1)] at h2
      exact h.loc k ys a q2 h2
    · cases q2
      rw [q1, ← h.llen, List.getElem?_append_right (Nat.le_refl _)] at h2
      simp at h2; subst h2
      exact ⟨vs, hp, r⟩
  sto := h.sto
  ndl := nd_app h.ndl nl
  dis := fun a ha => by
    rcases List.mem_append.mp ha with ha | ha
    · exact h.dis a ha
    · simp at ha; subst ha; exact nm
  liv := fun a ha => by
    rcases ha with ha | ha
    · rcases List.mem_append.mp ha with ha | ha
      · exact h.liv a (.inl ha)
      · simp at ha; subst ha; exact ⟨_, hp⟩
    · exact h.liv a (.inr ha)
theorem Rel.joinGl (h : Rel D K l m s σ H) {vs : List V} {xs : List AV} (hp : H p = some (.lst vs)) (nl : p ∉ l) (nm : p ∉ m) (r : VRs K H m xs vs) : Rel D K l (m ++ [p]) { s with sto := s.sto ++ [.lst xs] } σ H where
  len := h.len
  env := fun i x hx => by
    obtain ⟨v, h1, h2⟩ := h.env i x hx
    exact ⟨v, h1, h2.mono Fast.refl (List.prefix_refl _) (List.prefix_append _ _)⟩
  llen := h.llen
  loc := fun k ys a h1 h2 => by
    obtain ⟨ws, h3, h4⟩ := h.loc k ys a h1 h2
    exact ⟨ws, h3, VRs.mono Fast.refl (List.prefix_append _ _) _ _ h4⟩
  sto := ⟨by simp [h.sto.len], nd_app h.sto.nd nm, fun c y a h1 h2 => by
    rcases get_app h1 with ⟨q1, q2⟩ | ⟨q1, q2⟩
    · rw [List.getElem?_append_left (by rw [h.sto.len]; exact q1)] at h2
      exact (h.sto.cell c y a q2 h2).mono Fast.refl (List.prefix_append _ _) fun _ q => q
    · cases q2
      rw [q1, ← h.sto.len, List.getElem?_append_right (Nat.le_refl _)] at h2
      simp at h2; subst h2
      exact ⟨vs, hp, VRs.mono Fast.refl (List.prefix_append _ _) _ _ r⟩⟩
  ndl := h.ndl
  dis := fun a ha hb => by
    rcases List.mem_append.mp hb with hb | hb
    · exact h.dis a ha hb
    · simp at hb; subst hb; exact nl ha
  liv := fun a ha => by
    rcases ha with ha | ha
    · exact h.liv a (.inl ha)
    · rcases List.mem_append.mp ha with ha | ha
      · exact h.liv a (.inr ha)
      · simp at ha; subst ha; exact ⟨_, hp⟩
/-- a thing that is no cell stays none -/
theorem Ext.out (e : Ext l m H l' m' H') {o : HO} (hp : H p = some o) (nl : p ∉ l) (nm : p ∉ m) : H' p = some o ∧ p ∉ l' ∧ p ∉ m' := by
  have no : ¬ (p ∈ l' ∨ p ∈ m') := fun z => by
    rcases e.new p z with (z | z) | z
    · exact nl z
    · exact nm z
    · rw [hp] at z; cases z
  exact ⟨e.keep p o hp nl nm, fun z => no (.inl z), fun z => no (.inr z)⟩
end
/-- behind steps, a private list beside the cells changes -/
theorem Ext.side {l m l' m' : List Addr} {H H' : Hp} {p : Addr} {u : HO} {ws : List V} (e : Ext l m H l' m' H') (hp : H p = none) (hp' : H' p = some (.lst ws)) : Ext l m H l' m' (upd H' p u) where
  pl := e.pl
  pm := e.pm
  fast := e.fast.trans (Fast.set hp' (fun _ z => by cases z) fun _ _ z => by cases z)
  keep := fun a o h hl hm => by rw [upd_ne (fun z => by subst z; rw [hp] at h; cases h)]; exact e.keep a o h hl hm
  new := e.new
theorem wipeA_some {env : List (Option AV)} {i : Nat} {x : AV} : ∀ {vs : List Nat}, (wipeA env vs)[i]? = some (some x) → env[i]? = some (some x) ∧ i ∉ vs
  | [], h => ⟨h, by simp⟩
  | v :: vs, h => by
    unfold wipeA at h
    rcases set_at h with ⟨e1, e2⟩ | ⟨e1, e2⟩
    · cases e2
    · obtain ⟨h1, h2⟩ := wipeA_some e2
      exact ⟨h1, fun z => by
        rcases List.mem_cons.mp z with z | z
        · exact e1 z.symm
        · exact h2 z⟩
theorem wipeA_length (env : List (Option AV)) : ∀ vs : List Nat, (wipeA env vs).length = env.length
  | [] => rfl
  | v :: vs => by unfold wipeA; rw [List.length_set, wipeA_length env vs]
theorem wipe_chg {σ σ' : L2.St} {vs : List Nat} (h : Chg vs (wipe σ vs) σ') : wipe σ' vs = wipe σ vs := by
  have base : ∀ (us : List Nat) (τ τ' : L2.St), τ.length = τ'.length → (∀ j, j ∉ us → τ[j]? = τ'[j]?) → wipe τ us = wipe τ' us := by
    intro us
    induction us with
    | nil => intro τ τ' hl hj; exact List.ext_getElem? fun j => hj j (by simp)
    | cons u us ih =>
      intro τ τ' hl hj
      unfold wipe
      refine List.ext_getElem? fun j => ?_
      by_cases e : u = j
      · subst e
        rw [List.getElem?_set, List.getElem?_set]
        simp [wipe_length, hl]
      · rw [List.getElem?_set_ne e, List.getElem?_set_ne e]
        have := ih (τ.set u none) (τ'.set u none) (by simp [hl]) fun k hk => by
          by_cases q : u = k
          · subst q
            rw [List.getElem?_set, List.getElem?_set]; simp [hl]
          · rw [List.getElem?_set_ne q, List.getElem?_set_ne q]
            exact hj k fun z => by
              rcases List.mem_cons.mp z with z | z
              · exact q z.symm
              · exact hk z
        have at_ : ∀ (ρ : L2.St), (wipe (ρ.set u none) us)[j]? = (wipe ρ us)[j]? := by
          intro ρ
          by_cases hm : j ∈ us
          · have aux : ∀ (ws : List Nat) (τ τ' : L2.St), τ.length = τ'.length → j ∈ ws → (wipe τ ws)[j]? = (wipe τ' ws)[j]? := by
              intro ws
              induction ws with
              | nil => intro τ τ' _ hm; simp at hm
              | cons w ws ih2 =>
                intro τ τ' hl hm
                unfold wipe
                by_cases q : w = j
                · subst q
                  rw [List.getElem?_set, List.getElem?_set]; simp [wipe_length, hl]
                · rw [List.getElem?_set_ne q, List.getElem?_set_ne q]
                  exact ih2 τ τ' hl ((List.mem_cons.mp hm).resolve_left fun z => q z.symm)
            exact aux us _ _ (by simp) hm
          · rw [wipe_out hm, wipe_out hm, List.getElem?_set_ne e]
        rw [← at_ τ, ← at_ τ', this]
  have h2 := base vs σ' (wipe σ vs) h.1 h.2
  rw [h2]
  -- wiping twice is wiping once
  refine List.ext_getElem? fun j => ?_
  by_cases hm : j ∈ vs
  · have aux : ∀ (ws : List Nat) (τ τ' : L2.St), τ.length = τ'.length → j ∈ ws → (wipe τ ws)[j]? = (wipe τ' ws)[j]? := by
      intro ws
      induction ws with
      | nil => intro τ τ' _ hm; simp at hm
      | cons w ws ih2 =>
        intro τ τ' hl hm
        unfold wipe
        by_cases q : w = j
        · subst q
          rw [List.getElem?_set, List.getElem?_set]; simp [wipe_length, hl]
        · rw [List.getElem?_set_ne q, List.getElem?_set_ne q]
          exact ih2 τ τ' hl ((List.mem_cons.mp hm).resolve_left fun z => q z.symm)
    exact aux vs _ _ (wipe_length _ _) hm
  · rw [wipe_out hm]
end CL

end
section
/-! Fw8: comprehensions. -/
set_option Elab.async false
set_option linter.all false
set_option maxRecDepth 100000
namespace CL
open PySem PySem.Spec PyProof.Rows L2

/-- nothing may be raised -/
abbrev W0 : WX := fun _ _ _ _ => False
theorem sat_nox {α β : Type} {D : Dn} {K : PySem.W.Frag} {W : WX} {σ : L2.St} {l m : List Addr} {H : Hp} {r : R α} {f : α → S → R β} {Q : List Addr → List Addr → S → Hp → β → Prop}
    (h : Sat D K W σ l m H (r.nox.bind f) Q) : ∃ a s, r = .ok a s ∧ Sat D K W σ l m H (f a s) Q := by
  cases r with
  | ok a s => exact ⟨a, s, rfl, h⟩
  | exn c p st => exact h.elim
  | bad => exact h.elim
/-- one turn of a comprehension -/
def turnC (tgf : AV → S → R Unit) (cf : S → R Bool) (ef : S → R AV) (env : List (Option AV)) (x : AV) (s : S) : R (Option AV) :=
  ((tgf x { s with env := env }).bind fun _ s => (cf s).bind fun t s => if t = true then (ef s).bind fun v s => .ok (some v) s else .ok none s).nox
theorem turn_ok {tgf : AV → S → R Unit} {cf : S → R Bool} {ef : S → R AV} {env : List (Option AV)} {x : AV} {s s' : S} {o : Option AV} (h : turnC tgf cf ef env x s = .ok o s') :
    ∃ u s1 t s2, tgf x { s with env := env } = .ok u s1 ∧ cf s1 = .ok t s2 ∧ ((t = true ∧ ∃ v, ef s2 = .ok v s' ∧ o = some v) ∨ (t = false ∧ o = none ∧ s' = s2)) := by
  unfold turnC at h
  cases h1 : tgf x { s with env := env } with
  | bad => rw [h1] at h; cases h
  | exn _ _ _ => rw [h1] at h; cases h
  | ok u s1 =>
    rw [h1, R.bind_ok] at h
    cases h2 : cf s1 with
    | bad => rw [h2] at h; cases h
    | exn _ _ _ => rw [h2] at h; cases h
    | ok t s2 =>
      rw [h2, R.bind_ok] at h
      cases t with
      | false => cases h; exact ⟨u, s1, false, _, rfl, h2, .inr ⟨rfl, rfl, rfl⟩⟩
      | true =>
        rw [if_pos rfl] at h
        cases h3 : ef s2 with
        | bad => rw [h3] at h; cases h
        | exn _ _ _ => rw [h3] at h; cases h
        | ok v s3 => rw [h3] at h; cases h; exact ⟨u, s1, true, s2, rfl, h2, .inl ⟨rfl, v, h3, rfl⟩⟩
theorem pts_nilV {D : Dn} {X : Cx} : PTs X [] (tTs D X.K W0 fun s => .ok true s) := by
  refine ⟨fun pins s σ H Q I q => ?_⟩
  obtain ⟨l, m, as, R0, q⟩ := q
  exact pts_nil.run pins s σ H Q I (Sat.here R0 q)
theorem pts_oneV {D : Dn} {X : Cx} {c : Expr} {f : S → R Bool} (h : PTV D X W0 c f) : PTs X [c] (tTs D X.K W0 f) := pts_one h.can
section
variable {D : Dn} {X : Cx} {W : WX} {tg iter elt : Expr} {ifs : List Expr} {pos : Pos}
theorem lc_reading {k : LK} {Q' : VK} {K : PySem.W.Frag} {itf : S → R Wk} {tgf : AV → S → R Unit} {cf : S → R Bool} {ef : S → R AV} {vs : List Nat} {l m : List Addr} {s : S} {σ : L2.St} {H : Hp} {Q : VK} (hQ : ∀ v H, qK k Q v H → Q' v H) (R0 : Rel D K l m s σ H)
    (q : Sat D K W σ l m H ((itf s).bind fun w s0 => (compL w (turnC tgf cf ef (wipeA s0.env vs)) w.items [] s0).bind fun xs s => newL k xs { s with env := s0.env }) (QV K Q)) :
    tLc (tWk D K W itf) (tGv D K W0 vs tgf) (tTs D K W0 cf) (tEv D K W0 ef) vs σ H Q' := by
  refine ⟨l, m, s, R0, q.bind.imp fun l1 m1 s1 H1 w R1 E1 q J hw => ?_⟩
  intro Da hDa
  have eqW : ∀ (l4 m4 : List Addr) (s4 : S) (σ4 : L2.St) (H4 : Hp) (acc : List V) (y : V), Rel D K l4 m4 s4 σ4 H4 → Ext l1 m1 H1 l4 m4 H4 → H4 Da = some (.lst acc) → Da ∉ l4 → Da ∉ m4 →
      Rel D K l4 m4 { s4 with env := wipeA s1.env vs } (wipe σ vs) (upd H4 Da (.lst (acc ++ [y]))) := by
    intro l4 m4 s4 σ4 H4 acc y R4 E4 hD nl nm
    have E5 := E4.side (u := .lst (acc ++ [y])) hDa hD
    refine (R4.off hD nl nm).env_ (by rw [wipeA_length, wipe_length, R1.len]) fun i x hx => ?_
    obtain ⟨h1, h2⟩ := wipeA_some hx
    obtain ⟨v, h3, h4⟩ := R1.env i x h1
    exact ⟨v, by rw [wipe_out h2]; exact h3, h4.mono E5.fast E5.pl E5.pm⟩
  let Wv : Nat → Nat → Hp → Prop := fun i mm H => mm = w.items.length - i ∧ i ≤ w.items.length ∧ ∃ l m s acc avs, Rel D K l m { s with env := wipeA s1.env vs } (wipe σ vs) H ∧ Ext l1 m1 H1 l m H ∧ H Da = some (.lst acc) ∧
    VRs K H m avs acc ∧ Da ∉ l ∧ Da ∉ m ∧ Sat D K W σ l1 m1 H1 ((compL w (turnC tgf cf ef (wipeA s1.env vs)) (w.items.drop i) avs s).bind fun xs s => newL k xs { s with env := s1.env }) (QV K Q)
  refine ⟨Wv, ⟨w.items.length, by simp, Nat.zero_le _, ?_⟩, fun i mm H2 hW => ?_⟩
  · obtain ⟨R2, E2⟩ := R1.newF (o := .lst []) hDa
    obtain ⟨nl, nm⟩ := R1.out hDa
    refine ⟨l1, m1, s1, [], [], ?_, E2, upd_same, VRs.nil, nl, nm, by rw [List.drop_zero]; exact q⟩
    refine R2.env_ (by rw [wipeA_length, wipe_length, R1.len]) fun i x hx => ?_
    obtain ⟨h1, h2⟩ := wipeA_some hx
    obtain ⟨v, h3, h4⟩ := R1.env i x h1
    exact ⟨v, by rw [wipe_out h2]; exact h3, h4.mono E2.fast E2.pl E2.pm⟩
  · obtain ⟨em, hi, l2, m2, s2, acc, avs, R2, E2, hD, hv, nl, nm, q2⟩ := hW
    by_cases hlt : i < w.items.length
    · -- a turn
      have hdrop : w.items.drop i = w.items[i] :: w.items.drop (i + 1) := List.drop_eq_getElem_cons hlt
      rw [hdrop] at q2
      unfold compL at q2
      split at q2
      · rename_i hok
        rw [R.bind_assoc] at q2
        have hx : w.items[i]? = some w.items[i] := List.getElem?_eq_getElem hlt
        obtain ⟨hgo, hy⟩ := hw.go l2 m2 _ _ H2 i _ R2 E2 hok hx
        refine .inr ⟨hgo, Wv (i + 1) (w.items.length - (i + 1)), fun H' hN => ⟨_, by omega, hN⟩, fun v H3 hyl => ?_⟩
        obtain ⟨R3, E3, rv⟩ := hy v H3 hyl
        -- what the interpreter's turn is
        cases ht : turnC tgf cf ef (wipeA s1.env vs) w.items[i] s2 with
        | bad => rw [ht] at q2; exact q2.elim
        | exn c p st =>
          unfold turnC at ht
          cases hr : ((tgf w.items[i] { s2 with env := wipeA s1.env vs }).bind fun _ s => (cf s).bind fun t s => if t = true then (ef s).bind fun v s => R.ok (some v) s else R.ok none s) with
          | bad => rw [hr] at ht; cases ht
          | exn _ _ _ => rw [hr] at ht; cases ht
          | ok _ _ => rw [hr] at ht; cases ht
        | ok o s6 =>
          rw [ht, R.bind_ok] at q2
          obtain ⟨u, s3, t, s4, h1, h2, h3⟩ := turn_ok ht
          refine ⟨l2, m2, _, w.items[i], R3, VR.up rv, ?_⟩
          rw [h1]
          intro l4 m4 σ4 H4 R4 E4 C4
          have hD3 := (E3.out hD nl nm).1
          have hD4 := E4.out hD3 nl nm
          refine ⟨wipe_chg C4, l4, m4, s3, R4, ?_⟩
          rw [h2]
          intro l5 m5 H5 R5 E5
          have hD5 := E5.out hD4.1 hD4.2.1 hD4.2.2
          rcases h3 with ⟨rfl, v, h3, rfl⟩ | ⟨rfl, rfl, rfl⟩
          · dsimp only
            rw [if_pos rfl]
            refine ⟨l5, m5, s4, R5, ?_⟩
            rw [h3]
            intro l6 m6 H6 R6 E6 y ry
            have hD6 := E6.out hD5.1 hD5.2.1 hD5.2.2
            dsimp only at q2
            split at q2
            · rename_i hc
              have Ea : Ext l1 m1 H1 l6 m6 H6 := (((E2.trans E3).trans E4).trans E5).trans E6
              have Eb : Ext l2 m2 H2 l6 m6 H6 := ((E3.trans E4).trans E5).trans E6
              have hacc := VRs.mono Eb.fast Eb.pm _ _ hv
              have hf : Fast H6 (upd H6 Da (.lst (acc ++ [y]))) := Fast.set hD6.1 (fun _ z => by cases z) fun _ _ z => by cases z
              refine ⟨acc, hD6.1, by rw [← hv.len]; exact SL_line' hc.2, rfl, by omega, l6, m6, s6, acc ++ [y], avs ++ [v], eqW _ _ _ _ _ acc y R6 Ea hD6.1 hD6.2.1 hD6.2.2, Ea.side hDa hD6.1, upd_same, ?_, hD6.2.1, hD6.2.2, q2⟩
              exact VRs.mono hf (List.prefix_refl _) _ _ (hacc.app (VRs.cons (ry.dn hc.1) VRs.nil))
            · exact q2.elim
          · dsimp only
            rw [if_neg (by simp)]
            have Ea : Ext l1 m1 H1 l5 m5 H5 := ((E2.trans E3).trans E4).trans E5
            have Eb : Ext l2 m2 H2 l5 m5 H5 := (E3.trans E4).trans E5
            refine ⟨rfl, by omega, l5, m5, s6, acc, avs, ?_, Ea, hD5.1, VRs.mono Eb.fast Eb.pm _ _ hv, hD5.2.1, hD5.2.2, q2⟩
            refine R5.env_ (by rw [wipeA_length, wipe_length, R1.len]) fun i x hx => ?_
            obtain ⟨h1, h2⟩ := wipeA_some hx
            obtain ⟨v, h3, h4⟩ := R1.env i x h1
            exact ⟨v, by rw [wipe_out h2]; exact h3, h4.mono Ea.fast Ea.pl Ea.pm⟩
      · exact q2.elim
    · -- the end
      have hi' : i = w.items.length := by omega
      subst hi'
      rw [List.drop_length] at q2
      unfold compL at q2
      split at q2
      · rename_i hok
        refine .inl ⟨hw.stop l2 m2 _ _ H2 R2 E2 hok, hQ _ _ ?_⟩
        rw [R.bind_ok] at q2
        have Rb : Rel D K l2 m2 { s2 with env := s1.env } σ H2 := R2.env_ R1.len fun i x hx => by
          obtain ⟨v, h3, h4⟩ := R1.env i x hx
          exact ⟨v, h3, h4.mono E2.fast E2.pl E2.pm⟩
        unfold newL at q2
        split at q2
        · cases k with
          | fz =>
            refine .inr ⟨Da, acc, rfl, hD, fun o => ?_⟩
            have f : Fast H2 (upd H2 Da (.frz o (.lst acc))) := Fast.set hD (fun _ z => by cases z) fun _ _ z => by cases z
            refine q2 l2 m2 _ (Rb.off hD nl nm) (E2.side hDa hD) (.ref Da) ?_
            show VR0 K _ m2 (.lst avs) (.ref Da)
            unfold VR0
            exact ⟨Da, o, acc, rfl, upd_same, VRs.mono f (List.prefix_refl _) _ _ hv⟩
          | lo =>
            have Rc := Rb.joinLo hD nl nm hv
            refine q2 _ m2 H2 Rc ⟨E2.pl.trans (List.prefix_append _ _), E2.pm, E2.fast, E2.keep, fun a ha => ?_⟩ (.ref Da) ⟨Da, rfl, ?_⟩
            · rcases ha with ha | ha
              · rcases List.mem_append.mp ha with ha | ha
                · exact E2.new a (.inl ha)
                · simp at ha; subst ha; exact .inr hDa
              · exact E2.new a (.inr ha)
            · have := R2.llen
              rw [← this, List.getElem?_append_right (Nat.le_refl _)]; simp
          | gl =>
            have Rc := Rb.joinGl hD nl nm hv
            refine q2 l2 _ H2 Rc ⟨E2.pl, E2.pm.trans (List.prefix_append _ _), E2.fast, E2.keep, fun a ha => ?_⟩ (.ref Da) ?_
            · rcases ha with ha | ha
              · exact E2.new a (.inl ha)
              · rcases List.mem_append.mp ha with ha | ha
                · exact E2.new a (.inr ha)
                · simp at ha; subst ha; exact .inr hDa
            · show VR0 K H2 (m2 ++ [Da]) (.ref s2.sto.length) (.ref Da)
              unfold VR0
              refine ⟨Da, rfl, ?_⟩
              have := R2.sto.len
              rw [← this, List.getElem?_append_right (Nat.le_refl _)]; simp
        · exact q2.elim
      · exact q2.elim
def compF (k : LK) (vs : List Nat) (itf : S → R Wk) (tgf : AV → S → R Unit) (cf : S → R Bool) (ef : S → R AV) : S → R AV := fun s =>
  (itf s).bind fun w s0 => (compL w (turnC tgf cf ef (wipeA s0.env vs)) w.items [] s0).bind fun xs s => newL k xs { s with env := s0.env }
theorem pev_comp {k : LK} {itf : S → R Wk} {tgf : AV → S → R Unit} {cf : S → R Bool} {ef : S → R AV} {scope : Scope} {own : List (Str × Nat)} {vs : List Nat} (hc : X.calm = true) (hN : X.N.Nodup) (hi : PIV D X W tg iter itf) (ok : BlkOk X.N X.env.scope scope own) (hvs : own.map (·.2) = vs)
    (hg : ∀ (s : Shared) (H : Hp) (C : Addr) (cl : List (Str × Addr)) (fp : List Addr), PGV D (X.blk s H scope (compEnvC scope cl C X.env) fp) W0 vs tg tgf)
    (ht : ∀ (s : Shared) (H : Hp) (C : Addr) (cl : List (Str × Addr)) (fp : List Addr), PTs (X.blk s H scope (compEnvC scope cl C X.env) fp) ifs (tTs D X.K W0 cf))
    (he : ∀ (s : Shared) (H : Hp) (C : Addr) (cl : List (Str × Addr)) (fp : List Addr), PEV D (X.blk s H scope (compEnvC scope cl C X.env) fp) W0 elt ef) (hs : ∀ x, foldedSetIterable iter X.env x = pure x) :
    PEV D X W (.ListComp elt [⟨tg, iter, ifs, 0⟩] scope pos) (compF k vs itf tgf cf ef) := by
  have hg' : ∀ (s : Shared) (H : Hp) (C : Addr) (cl : List (Str × Addr)) (fp : List Addr), PG (X.blk s H scope (compEnvC scope cl C X.env) fp) tg (tGv D X.K W0 vs tgf) := hg
  have he' : ∀ (s : Shared) (H : Hp) (C : Addr) (cl : List (Str × Addr)) (fp : List Addr), PE (X.blk s H scope (compEnvC scope cl C X.env) fp) elt (tEv D X.K W0 ef) := fun s H C cl fp => (he s H C cl fp).can
  refine ⟨_, pe_k k (pe_lc hc hN hi ok hg' ht he' hs), fun l m s σ H Q R0 q => tK_eq ?_⟩
  rw [hvs]
  exact lc_reading (fun _ _ z => z) R0 q
end
end CL

end
section
/-! Fw9: statements. -/
set_option Elab.async false
set_option linter.all false
set_option maxRecDepth 100000
namespace CL
open PySem PySem.Spec PyProof.Rows L2

def SatFl (K : PySem.W.Frag) (E : Ends) (fl : Fl) (m : List Addr) (σ : L2.St) (H : Hp) : Prop := match fl with
  | .nxt => E.nx σ H
  | .brk => E.bk σ H
  | .cnt => E.ct σ H
  | .ret v => ∀ x, VR0 K H m v x → E.rt x H
def SatS (D : Dn) (K : PySem.W.Frag) (W : WX) (l m : List Addr) (H : Hp) (r : R Fl) (E : Ends) : Prop := match r with
  | .ok fl s' => ∀ l' m' σ' H', Rel D K l' m' s' σ' H' → Ext l m H l' m' H' → SatFl K E fl m' σ' H'
  | .exn c p st => SatX D K W l m H c p st
  | .bad => False
def tSv (D : Dn) (K : PySem.W.Frag) (W : WX) (f : S → R Fl) : TS := fun E σ H => ∃ l m s, Rel D K l m s σ H ∧ SatS D K W l m H (f s) E
def PSV (D : Dn) (X : Cx) (W : WX) (st : Stmt) (f : S → R Fl) : Prop := PS X st (tSv D X.K W f)
def PSsV (D : Dn) (X : Cx) (W : WX) (st : List Stmt) (f : S → R Fl) : Prop := PSs X st (tSv D X.K W f)
theorem PS.weak {X : Cx} {st : Stmt} {t u : TS} (h : PS X st t) (k : ∀ E σ H, u E σ H → t E σ H) : PS X st u := ⟨fun pins s σ H E I q => h.run pins s σ H E I (k E σ H q)⟩
theorem PSs.weak {X : Cx} {st : List Stmt} {t u : TS} (h : PSs X st t) (k : ∀ E σ H, u E σ H → t E σ H) : PSs X st u := ⟨fun pins s σ H E I q => h.run pins s σ H E I (k E σ H q)⟩
section
variable {D : Dn} {K : PySem.W.Frag} {W : WX} {σ : L2.St} {l m l1 m1 : List Addr} {H H1 : Hp}
theorem SatS.base {r : R Fl} {E : Ends} (e : Ext l m H l1 m1 H1) (h : SatS D K W l m H r E) : SatS D K W l1 m1 H1 r E := by
  cases r with
  | ok a s => exact fun l' m' σ' H' x y => h l' m' σ' H' x (e.trans y)
  | exn c p st => exact SatX.base e h
  | bad => exact h
/-- an expression ahead of a statement's rest -/
theorem satS_bind {α : Type} {r : R α} {f : α → S → R Fl} {E : Ends} (h : SatS D K W l m H (r.bind f) E) : Sat D K W σ l m H r fun l' m' s' H' a => SatS D K W l' m' H' (f a s') E := by
  cases r with
  | ok a s => exact fun l' m' H' _ y => SatS.base y h
  | exn c p st => exact h
  | bad => exact h
theorem satS_here {fl : Fl} {s : S} {E : Ends} (R0 : Rel D K l m s σ H) (h : SatS D K W l m H (.ok fl s) E) : SatFl K E fl m σ H := h l m σ H R0 Ext.refl
end
section
variable {D : Dn} {X : Cx} {W : WX} {e c tg iter : Expr} {st : Stmt} {rest body : List Stmt} {f g : S → R AV} {fs fb fr : S → R Fl} {pos : Pos}
theorem pssv_nil : PSsV D X W [] fun s => .ok .nxt s := PSs.weak pss_nil fun E σ H q => by
  obtain ⟨l, m, s, R0, q⟩ := q
  exact satS_here R0 q
theorem pssv_cons (h1 : PSV D X W st fs) (h2 : PSsV D X W rest fr) : PSsV D X W (st :: rest) fun s => (fs s).bind fun r s => match r with
    | .nxt => fr s
    | r => .ok r s := by
  refine PSs.weak (pss_cons h1 h2) fun E σ H q => ?_
  obtain ⟨l, m, s, R0, q⟩ := q
  refine ⟨l, m, s, R0, ?_⟩
  dsimp only at q
  cases hf : fs s with
  | bad => rw [hf] at q; exact q
  | exn c p st => rw [hf] at q; exact q
  | ok fl s1 =>
    rw [hf, R.bind_ok] at q
    intro l1 m1 σ1 H1 R1 E1
    have q := SatS.base E1 q
    cases fl with
    | nxt => exact ⟨l1, m1, s1, R1, q⟩
    | brk => exact (satS_here (W := W) (E := E) (fl := .brk) R1 q : E.bk σ1 H1)
    | cnt => exact (satS_here (W := W) (E := E) (fl := .cnt) R1 q : E.ct σ1 H1)
    | ret v => exact (satS_here (W := W) (E := E) (fl := .ret v) R1 q : ∀ x, VR0 X.K H1 m1 v x → E.rt x H1)
theorem psv_expr (ha : PEV D X W e f) (hs : swapsWith e none pos.line X.env = pure false) : PSV D X W (.Expr e pos) fun s => (f s).bind fun _ s => .ok .nxt s := by
  obtain ⟨t, p, h⟩ := ha
  refine PS.weak (ps_expr p hs) fun E σ H q => ?_
  obtain ⟨l, m, s, R0, q⟩ := q
  exact h l m s σ H _ R0 ((satS_bind (σ := σ) q).imp fun l1 m1 s1 H1 x R1 E1 q v rv => satS_here R1 q)
theorem psv_asg {ts : List Nat} {tgf : AV → S → R Unit} (ha : PEV D X W e f) (hg : PGV D X W ts tg tgf) (hs : swapsWithSole [tg] e pos.line X.env = pure false) (hw : swappedStores [tg] e X.env = pure none)
    (h1 : (assignEach [tg] X.env).map (·.2) = [assign tg X.env]) : PSV D X W (.Assign [tg] e pos) fun s => (f s).bind fun v s => (tgf v s).bind fun _ s => .ok .nxt s := by
  obtain ⟨t, p, h⟩ := ha
  refine PS.weak (ps_asg p hg hs hw h1) fun E σ H q => ?_
  obtain ⟨l, m, s, R0, q⟩ := q
  refine h l m s σ H _ R0 ((satS_bind (σ := σ) q).imp fun l1 m1 s1 H1 x R1 E1 q v rv => ?_)
  refine ⟨l1, m1, s1, x, R1, rv, ?_⟩
  cases ht : tgf x s1 with
  | bad => rw [ht] at q; exact q
  | exn c p st => rw [ht] at q; exact q
  | ok _ s2 =>
    rw [ht, R.bind_ok] at q
    exact fun l2 m2 σ2 H2 R2 E2 _ => satS_here R2 (SatS.base E2 q)
/-- what stands as a list behind a statement may stand fast from then on -/
theorem ps_frzN {t : TS} (h : PS X st t) : PS X st fun E σ H => t { E with nx := fun σ' H' => E.nx σ' H' ∨ ∃ a xs, H' a = some (.lst xs) ∧ ∀ o, E.nx σ' (upd H' a (.frz o (.lst xs))) } σ H := by
  refine ⟨fun pins s σ H E I q => thn (h.run pins s σ H _ I q) fun fl s1 z => ?_⟩
  cases fl with
  | next =>
    obtain ⟨σ', H', I', z⟩ := z
    rcases z with z | ⟨a, xs, e, z⟩
    · exact ⟨σ', H', I', z⟩
    · obtain ⟨ob, hob⟩ : ∃ ob, s1.heap.get? a = some ob := by
        obtain ⟨_, _, _, _, w⟩ := I'.hok a _ e
        exact ⟨_, w⟩
      exact ⟨σ', _, Inv.frz I' e hob, z ob⟩
  | brk => exact z
  | cont => exact z
  | ret u => exact z
/-- name = [..], where the line exchanges the stores -/
theorem psv_setLc {k : LK} {i : Nat} {y : Str} {py p2 : Pos} {elt : Expr} {ifs : List Expr} {itf : S → R Wk} {tgf : AV → S → R Unit} {cf : S → R Bool} {ef : S → R AV} {scope : Scope} {own : List (Str × Nat)} {vs : List Nat}
    (hc : X.calm = true) (hN : X.N.Nodup) (hy : X.N[i]? = some y) (hyl : X.env.scope.names.lookup y = some .local) (hsw : swapsWith (.ListComp elt [⟨tg, iter, ifs, 0⟩] scope p2) (some (.Name y py)) pos.line X.env = pure true)
    (hi : PIV D X W tg iter itf) (ok : BlkOk X.N X.env.scope scope own) (hvs : own.map (·.2) = vs)
    (hg : ∀ (s : Shared) (H : Hp) (C : Addr) (cl : List (Str × Addr)) (fp : List Addr), PGV D (X.blk s H scope (compEnvC scope cl C X.env) fp) W0 vs tg tgf)
    (ht : ∀ (s : Shared) (H : Hp) (C : Addr) (cl : List (Str × Addr)) (fp : List Addr), PTs (X.blk s H scope (compEnvC scope cl C X.env) fp) ifs (tTs D X.K W0 cf))
    (he : ∀ (s : Shared) (H : Hp) (C : Addr) (cl : List (Str × Addr)) (fp : List Addr), PEV D (X.blk s H scope (compEnvC scope cl C X.env) fp) W0 elt ef) (hs : ∀ x, foldedSetIterable iter X.env x = pure x) :
    PSV D X W (.Assign [.Name y py] (.ListComp elt [⟨tg, iter, ifs, 0⟩] scope p2) pos) fun s => (compF k vs itf tgf cf ef s).bind fun v s => (if i < s.env.length then R.ok () { s with env := s.env.set i (some v) } else .bad).bind fun _ s => .ok .nxt s := by
  have hg' : ∀ (s : Shared) (H : Hp) (C : Addr) (cl : List (Str × Addr)) (fp : List Addr), PG (X.blk s H scope (compEnvC scope cl C X.env) fp) tg (tGv D X.K W0 vs tgf) := hg
  have he' : ∀ (s : Shared) (H : Hp) (C : Addr) (cl : List (Str × Addr)) (fp : List Addr), PE (X.blk s H scope (compEnvC scope cl C X.env) fp) elt (tEv D X.K W0 ef) := fun s H C cl fp => (he s H C cl fp).can
  refine PS.weak (ps_frzN (ps_setLc hc hN hy hyl hsw hi ok hg' ht he' hs)) fun E σ H q => ?_
  obtain ⟨l, m, s, R0, q⟩ := q
  have z : Sat D X.K W σ l m H (compF k vs itf tgf cf ef s) (QV X.K fun x H1 => E.nx (σ.set i (some x)) H1) := (satS_bind (σ := σ) q).imp fun l1 m1 s1 H1 x R1 E1 q v rv => by
    split at q
    · exact satS_here (R1.setEnv rv i) q
    · exact q.elim
  rw [hvs]
  refine lc_reading (k := k) (fun v H' w => ?_) R0 z
  cases k with
  | fz =>
    rcases w with w | ⟨a, xs, rfl, e, w⟩
    · exact .inl w
    · exact .inr ⟨a, xs, e, w⟩
  | lo => exact .inl w
  | gl => exact .inl w
theorem psv_ret (ha : PEV D X W e f) : PSV D X W (.Return (some e) pos) fun s => (f s).bind fun v s => if v.nl = true then .ok (.ret v) s else .bad := by
  obtain ⟨t, p, h⟩ := ha
  refine PS.weak (ps_ret p) fun E σ H q => ?_
  obtain ⟨l, m, s, R0, q⟩ := q
  refine h l m s σ H _ R0 ((satS_bind (σ := σ) q).imp fun l1 m1 s1 H1 x R1 E1 q v rv => ?_)
  split at q
  · rename_i hc
    exact satS_here R1 q v (rv.dn hc)
  · exact q.elim
theorem psv_retN : PSV D X W (.Return none pos) fun s => .ok (.ret .non) s := by
  refine PS.weak ps_retN fun E σ H q => ?_
  obtain ⟨l, m, s, R0, q⟩ := q
  exact satS_here R0 q .non (by unfold VR0; rfl)
theorem psv_brk : PSV D X W (.Break pos) fun s => .ok .brk s := PS.weak ps_break fun E σ H q => by
  obtain ⟨l, m, s, R0, q⟩ := q
  exact satS_here R0 q
theorem psv_cnt : PSV D X W (.Continue pos) fun s => .ok .cnt s := PS.weak ps_continue fun E σ H q => by
  obtain ⟨l, m, s, R0, q⟩ := q
  exact satS_here R0 q
theorem psv_pas : PSV D X W (.Pass pos) fun s => .ok .nxt s := PS.weak ps_pass fun E σ H q => by
  obtain ⟨l, m, s, R0, q⟩ := q
  exact satS_here R0 q
theorem psv_ifs {ft : S → R Bool} {a b : List Stmt} (hc : PTV D X W c ft) (ha : PSsV D X W a fb) (hb : PSsV D X W b fr) : PSV D X W (.If c a b pos) fun s => (ft s).bind fun t s => if t = true then fb s else fr s := by
  obtain ⟨t, p, h⟩ := hc
  refine PS.weak (ps_if p ha hb) fun E σ H q => ?_
  obtain ⟨l, m, s, R0, q⟩ := q
  refine h l m s σ H _ R0 ((satS_bind (σ := σ) q).imp fun l1 m1 s1 H1 x R1 E1 q => ?_)
  cases x with
  | true => exact ⟨l1, m1, s1, R1, q⟩
  | false => exact ⟨l1, m1, s1, R1, q⟩
/-- an augmented name -/
theorem psv_aug {i : Nat} {x : Str} {op : Operator} {r : R2} {kk : AV → AV → S → R AV} {pos' : Pos} (hN : X.N.Nodup) (hi : X.N[i]? = some x) (hx : Loc X.env.scope x) (ha : PEV D X W e f) (ho : OpR X (inplaceOp op) r) (hv : OpV D X W r kk) (hf : X.fn x = true ∨ X.env.scope.names.lookup x = some .local) :
    PSV D X W (.AugAssign (.Name x pos') op e pos) fun s => match s.env[i]? with
      | some (some x) => (f s).bind fun y s => (kk x y s).bind fun z s => .ok .nxt { s with env := s.env.set i (some z) }
      | _ => .bad := by
  obtain ⟨t, p, h⟩ := ha
  refine PS.weak (ps_aug hN hi hx p (fun pins s σ H x y v u Q I rx ry q => augR ho I rx ry q) hf) fun E σ H q => ?_
  obtain ⟨l, m, s, R0, q⟩ := q
  cases he : s.env[i]? with
  | none => simp only [he] at q; exact q.elim
  | some o =>
    cases o with
    | none => simp only [he] at q; exact q.elim
    | some y =>
      simp only [he] at q
      obtain ⟨v, e1, e2⟩ := R0.env i y he
      refine ⟨v, e1, h l m s σ H _ R0 ((satS_bind (σ := σ) q).imp fun l1 m1 s1 H1 z R1 E1 q w rw' => ?_)⟩
      refine hv l1 m1 s1 σ H1 y z v w _ R1 (e2.mono E1.fast E1.pl E1.pm) rw' ((satS_bind (σ := σ) q).imp fun l2 m2 s2 H2 u R2 E2 q uu ru => ?_)
      exact satS_here (R2.setEnv ru i) q
theorem opr_par {pt pt2 : Pos} {kt k2 : Nat} {i j : Nat} {x y : Str} {a b : Expr} {px py : Pos} {fa : S → R (List AV)} (hc : X.calm = true) (hN : X.N.Nodup) (hi : X.N[i]? = some x) (hj : X.N[j]? = some y) (hij : i ≠ j) (hx : X.env.scope.names.lookup x = some .local) (hy : X.env.scope.names.lookup y = some .local)
    (ha : PAV D X W [a, b] fa) (hw : swappedStores [.Tuple [.Name x px, .Name y py] kt pt] (.Tuple [a, b] k2 pt2) X.env = pure (some [x, y])) (hs : swapsWithSole [.Tuple [.Name x px, .Name y py] kt pt] (.Tuple [a, b] k2 pt2) pos.line X.env = pure false) (hn : ∀ s vs s', fa s = .ok vs s' → vs.length = 2) :
    PSV D X W (.Assign [.Tuple [.Name x px, .Name y py] kt pt] (.Tuple [a, b] k2 pt2) pos) fun s => (fa s).bind fun vs s => (parA [i, j] vs s).bind fun _ s => .ok .nxt s := by
  obtain ⟨t, p, h⟩ := ha
  refine PS.weak (ps_par hc hN hi hj hij hx hy p hw hs) fun E σ H q => ?_
  obtain ⟨l, m, s, R0, q⟩ := q
  refine h l m s σ H _ R0 ((satS_bind (σ := σ) q).imp fun l1 m1 s1 H1 xs R1 E1 q vs rv => ?_)
  unfold parA at q
  split at q
  · rename_i i' j' v w hij'
    cases hij'
    obtain ⟨v', w', rfl, r1, r2⟩ := paired2 rv
    split at q
    · rw [R.bind_ok] at q
      refine ⟨v', w', rfl, ?_⟩
      exact satS_here ((R1.setEnv r1 i).setEnv r2 j) q
    · exact q.elim
  · rename_i h; simp at h
  · exact q.elim
end

/-! ### loops -/
section
variable {D : Dn} {X : Cx} {W : WX} {c tg iter : Expr} {body : List Stmt} {fb : S → R Fl} {pos : Pos}
theorem psv_for {itf : S → R Wk} {ts : List Nat} {tgf : AV → S → R Unit} (hp : PassesOwn (model X.prog X.w) X.A X.env X.xe) (hc : X.calm = true) (hi : PIV D X W tg iter itf) (hg : PGV D X W ts tg tgf) (hb : PSsV D X W body fb) (hs : ∀ x, foldedSetIterable iter X.env x = pure x) :
    PSV D X W (.For tg iter body [] pos) fun s => (itf s).bind fun w s => forL w (fun x s => (tgf x s).bind fun _ s => fb s) w.items s := by
  refine PS.weak (ps_for hp hc hi hg hb hs) fun E σ H q => ?_
  obtain ⟨l, m, s, R0, q⟩ := q
  refine ⟨l, m, s, R0, (satS_bind (σ := σ) q).imp fun l1 m1 s1 H1 w R1 E1 q J hw => ?_⟩
  let Wv : Nat → Nat → L2.St → Hp → Prop := fun i mm σ H => mm = w.items.length - i ∧ i ≤ w.items.length ∧ ∃ l m s, Rel D X.K l m s σ H ∧ Ext l1 m1 H1 l m H ∧ SatS D X.K W l m H (forL w (fun x s => (tgf x s).bind fun _ s => fb s) (w.items.drop i) s) E
  refine ⟨Wv, ⟨w.items.length, by simp, Nat.zero_le _, l1, m1, s1, R1, Ext.refl, by rw [List.drop_zero]; exact q⟩, fun i mm σ2 H2 hW => ?_⟩
  obtain ⟨em, hi', l2, m2, s2, R2, E2, q2⟩ := hW
  by_cases hlt : i < w.items.length
  · have hdrop : w.items.drop i = w.items[i] :: w.items.drop (i + 1) := List.drop_eq_getElem_cons hlt
    rw [hdrop] at q2
    unfold forL at q2
    split at q2
    · rename_i hok
      have hx : w.items[i]? = some w.items[i] := List.getElem?_eq_getElem hlt
      obtain ⟨hgo, hy⟩ := hw.go l2 m2 _ _ H2 i _ R2 E2 hok hx
      refine .inr ⟨hgo, Wv (i + 1) (w.items.length - (i + 1)), fun σ' H' hN => ⟨_, by omega, hN⟩, fun v H3 hyl => ?_⟩
      obtain ⟨R3, E3, rv⟩ := hy v H3 hyl
      refine ⟨l2, m2, s2, w.items[i], R3, VR.up rv, ?_⟩
      rw [R.bind_assoc] at q2
      have q3 := SatS.base E3 q2
      cases ht : tgf w.items[i] s2 with
      | bad => rw [ht] at q3; exact q3
      | exn c p st => rw [ht] at q3; exact q3
      | ok u s3 =>
        rw [ht, R.bind_ok] at q3
        intro l4 m4 σ4 H4 R4 E4 C4
        refine ⟨l4, m4, s3, R4, ?_⟩
        have q4 := SatS.base E4 q3
        cases hf : fb s3 with
        | bad => rw [hf] at q4; exact q4
        | exn c p st => rw [hf] at q4; exact q4
        | ok fl s4 =>
          rw [hf, R.bind_ok] at q4
          intro l5 m5 σ5 H5 R5 E5
          have q5 := SatS.base E5 q4
          have Ea := ((E2.trans E3).trans E4).trans E5
          cases fl with
          | nxt => exact ⟨rfl, by omega, l5, m5, s4, R5, Ea, q5⟩
          | cnt => exact ⟨rfl, by omega, l5, m5, s4, R5, Ea, q5⟩
          | brk => exact (satS_here (W := W) (E := E) (fl := .nxt) R5 q5 : E.nx σ5 H5)
          | ret v => exact (satS_here (W := W) (E := E) (fl := .ret v) R5 q5 : ∀ x, VR0 X.K H5 m5 v x → E.rt x H5)
    · exact q2.elim
  · have hi2 : i = w.items.length := by omega
    subst hi2
    rw [List.drop_length] at q2
    unfold forL at q2
    split at q2
    · rename_i hok
      exact .inl ⟨hw.stop l2 m2 _ _ H2 R2 E2 hok, satS_here R2 q2⟩
    · exact q2.elim
theorem psv_whl {n : Nat} {ft : S → R Bool} (hp : PassesOwn (model X.prog X.w) X.A X.env X.xe) (hc : PTV D X W c ft) (hb : PSsV D X W body fb) : PSV D X W (.While c body [] pos) fun s => whlL ft fb n s := by
  obtain ⟨t, p, h⟩ := hc
  refine PS.weak (ps_while hp p hb) fun E σ H q => ?_
  obtain ⟨l, m, s, R0, q⟩ := q
  let Wv : Nat → L2.St → Hp → Prop := fun k σ H => ∃ l m s, Rel D X.K l m s σ H ∧ SatS D X.K W l m H (whlL ft fb k s) E
  refine ⟨Wv, ⟨n, l, m, s, R0, q⟩, fun k σ2 H2 hW => ?_⟩
  obtain ⟨l2, m2, s2, R2, q2⟩ := hW
  cases k with
  | zero => exact q2.elim
  | succ k =>
    unfold whlL at q2
    refine h l2 m2 s2 σ2 H2 _ R2 ((satS_bind (σ := σ2) q2).imp fun l3 m3 s3 H3 b R3 E3 q3 => ?_)
    cases b with
    | false => exact satS_here R3 q3
    | true =>
      rw [if_pos rfl] at q3 ⊢
      refine ⟨Wv k, fun σ' H' hN => ⟨k, Nat.lt_succ_self _, hN⟩, l3, m3, s3, R3, ?_⟩
      cases hf : fb s3 with
      | bad => rw [hf] at q3; exact q3
      | exn c p st => rw [hf] at q3; exact q3
      | ok fl s4 =>
        rw [hf, R.bind_ok] at q3
        intro l5 m5 σ5 H5 R5 E5
        have q5 := SatS.base E5 q3
        cases fl with
        | nxt => exact ⟨l5, m5, s4, R5, q5⟩
        | cnt => exact ⟨l5, m5, s4, R5, q5⟩
        | brk => exact (satS_here (W := W) (E := E) (fl := .nxt) R5 q5 : E.nx σ5 H5)
        | ret v => exact (satS_here (W := W) (E := E) (fl := .ret v) R5 q5 : ∀ x, VR0 X.K H5 m5 v x → E.rt x H5)
end
/-! ### raise -/
theorem psv_rse {D : Dn} {X : Cx} {W : WX} {k : Nat} {x msg : Str} {j : Nat} {p p2 p3 pos : Pos} (hc : X.calm = true) (tk : Takes X W) (hx : x = D.cls k) (q : PySem.W.excIn X.K (He.ga X.K x) He.veBase "ValueError.__new__" = true) (gC : X.mg x = some (.ref (He.ga X.K x))) (kC : PySem.W.keepIn X.K (.ref (He.ga X.K x)) = true)
    (r1 : PySem.W.subIn X.K (.ref (He.ga X.K x)) (.type "BaseException") = some true) (r2 : PySem.W.typeIn X.K (.ref (He.ga X.K x)) = some (.type "type")) (hg : Gl X x) (hdb : (x == ("__debug__" : Str)) = false) :
    PSV D X W (.Raise (some (.Call (.Name x p) [.Constant (.str msg) j p2] [] p3)) none pos) fun s => .exn k none s.sto := by
  refine PS.weak (ps_raise hc tk (pmk_own PySem.F.excBase_ValueError q gC kC (raises_own r1 r2) hg hdb)) fun E σ H hq => ?_
  obtain ⟨l, m, s, R0, hq⟩ := hq
  exact hq m H R0.sx Ext.refl.toX _ none ⟨by rw [hx], rfl⟩ σ
end CL

end
section
/-! Fw10: the tree against the syntax: a look by program (mE, mS), and that it holds. -/
set_option Elab.async false
set_option linter.all false
set_option maxRecDepth 100000
namespace CL
open PySem PySem.Spec PyProof.Rows L2

structure GF where
  at_ : Str × Option Str
  ps : List Str
structure GT where
  fns : Nat → Option GF
  cls : Nat → Option Str
  gv : List (Str × AV)
  free : List Str
structure MC where
  sc : Scope
  N : List Str
  blk : Option Scope
def visB (sc : Scope) (x : Str) : Bool := match sc.names.lookup x with
  | some .local => true
  | some .cell => true
  | some .free => true
  | _ => false
def glB (sc : Scope) (x : Str) : Bool := match sc.names.lookup x with
  | some .globalImplicit => true
  | _ => false
def stB (mc : MC) (x : Str) : Bool := match mc.blk with
  | none => match mc.sc.names.lookup x with
    | some .local => true
    | some .cell => true
    | _ => false
  | some b => match b.names.lookup x with
    | some .local => true
    | _ => false
def okName (x : Str) : Bool := !(x == ("__debug__" : Str)) && (!(x == ("__classdict__" : Str)) && !(x == ("__name__" : Str)))
def cstB : Const → AV → Bool
  | .none, .non => true
  | .bool b, .bl c => b == c
  | .int i, .int j => i == j
  | .str s, .str x => decide (s = strV x)
  | _, _ => false
def opM : Bop → Operator
  | .add => .Add
  | .sub => .Sub
  | .mul => .Mult
  | .fdiv => .FloorDiv
  | .mod => .Mod
  | .pow => .Pow
def copM : Cop → CmpOp
  | .eq => .Eq
  | .ne => .NotEq
  | .lt => .Lt
  | .le => .LtE
  | .gt => .Gt
  | .ge => .GtE
  | .is => .Is
  | .isn => .IsNot
  | .inn => .In
  | .nin => .NotIn
def noStar : Expr → Bool
  | .Starred _ _ => false
  | _ => true
def noSlice : Expr → Bool
  | .Slice _ _ _ _ => false
  | _ => true
def noSet : Expr → Bool
  | .Set _ _ _ => false
  | _ => true
def noComp : Expr → Bool
  | .ListComp _ _ _ _ => false
  | .SetComp _ _ _ _ => false
  | .DictComp _ _ _ _ _ => false
  | _ => true
/-- not a call of a name without arguments: attributeBase sees nothing -/
def noSup : Expr → Bool
  | .Call (.Name _ _) [] [] _ => false
  | _ => true
def ownOf (scope : Scope) (N : List Str) : List (Str × Nat) := (scope.names.filter fun y => (match y.2 with
    | .local => true
    | .cell => true
    | _ => false) && decide (y.1 ∈ N)).map fun y => (y.1, N.idxOf y.1)
mutual
def Tg.slots : Tg → List Nat
  | .nm i => [i]
  | .tp ts => Tg.slotss ts
  | _ => []
def Tg.slotss : List Tg → List Nat
  | [] => []
  | t :: ts => Tg.slots t ++ Tg.slotss ts
end
def primN : Prim → String
  | .len => "len"
  | .list => "list"
  | .tuple => "tuple"
  | .all => "all"
  | .sum => "sum"
  | .max => "max"
  | .min => "min"
  | .max2 => "max"
  | .min2 => "min"
  | .sorted => "sorted"
  | .str => "str"
  | .int => "int"
def primOk : Prim → Bool
  | .len => true
  | .list => true
  | .tuple => true
  | .all => true
  | .sum => true
  | .max2 => true
  | .min2 => true
  | _ => false
def pmN : PMeth → Str
  | .append => "append"
  | .pop => "pop"
  | .popAt => "pop"
  | .count => "count"
  | .index => "index"
  | .join => "join"
  | .split => "split"
def freeB (T : GT) (mc : MC) (x : Str) : Bool := glB mc.sc x && (decide (x ∈ T.free) && okName x)

mutual
def mE (T : GT) (mc : MC) : Ex → Expr → Bool
  | .cst v, e => match e with
    | .Constant c _ _ => cstB c v
    | .Name x _ => glB mc.sc x && (decide (T.gv.lookup x = some v) && okName x)
    | _ => false
  | .slot i, e => match e with
    | .Name x _ => decide (mc.N[i]? = some x) && (visB mc.sc x && okName x)
    | _ => false
  | .tup es, e => match e with
    | .Tuple xs _ _ => mEs T mc es xs
    | _ => false
  | .lst _ es, e => match e with
    | .List xs _ => mEs T mc es xs
    | _ => false
  | .bin o a b, e => match e with
    | .BinOp x op y _ => decide (op = opM o) && (mE T mc a x && mE T mc b y)
    | _ => false
  | .neg a, e => match e with
    | .UnaryOp .USub x _ => mE T mc a x
    | _ => false
  | .cat _ a b, e => match e with
    | .BinOp x .Add y _ => mE T mc a x && mE T mc b y
    | _ => false
  | .rep _ es b, e => match e with
    | .BinOp (.List xs _) .Mult y _ => decide (xs.length ≤ 1000) && (mEs T mc es xs && mE T mc b y)
    | _ => false
  | .cmp o a b, e => match e with
    | .Compare x [op] [y] _ => decide (op = copM o) && (mE T mc a x && (mE T mc b y && !behindInMarks op y))
    | _ => false
  | .chn o p a b c, e => match e with
    | .Compare x [op, op'] [y, z] _ => decide (op = copM o) && (decide (op' = copM p) && (mE T mc a x && (mE T mc b y && (mE T mc c z && !lastMarks [op, op'] [y, z]))))
    | _ => false
  | .and a b, e => match e with
    | .BoolOp .And (x :: y :: r) p => mE T mc a x && mE T mc b (tailB .And (y :: r) p)
    | _ => false
  | .or a b, e => match e with
    | .BoolOp .Or (x :: y :: r) p => mE T mc a x && mE T mc b (tailB .Or (y :: r) p)
    | _ => false
  | .not a, e => match e with
    | .UnaryOp .Not x _ => mE T mc a x
    | _ => false
  | .ite c a b, e => match e with
    | .IfExp x y z _ => testB c && (mE T mc c x && (mE T mc a y && mE T mc b z))
    | _ => false
  | .idx a b, e => match e with
    | .Subscript x y _ => noSlice y && (mE T mc a x && mE T mc b y)
    | _ => false
  | .slc _ a lo hi, e => match e with
    | .Subscript x (.Slice l h none _) _ => mE T mc a x && (mO T mc lo l && mO T mc hi h)
    | _ => false
  | .fld _ _, _ => false
  | .call f es, e => match e with
    | .Call (.Name x _) (y :: ys) [] _ => (match T.fns f with
      | some d => decide (d.at_ = (x, none)) && decide (es.length = d.ps.length)
      | none => false) && (glB mc.sc x && (okName x && mEs T mc es (y :: ys)))
    | _ => false
  | .isi a t, e => match e with
    | .Call (.Name f _) [x, .Name n _] [] _ => decide (f = ("isinstance" : Str)) && (freeB T mc f && (freeB T mc n && ((match tyNm t with
      | some b => decide (n = Str.ofString b)
      | none => false) && (noStar x && mE T mc a x))))
    | _ => false
  | .pr p _ es, e => match e with
    | .Call (.Name f _) (y :: ys) [] _ => primOk p && (decide (f = Str.ofString (primN p)) && (freeB T mc f && mEs T mc es (y :: ys)))
    | _ => false
  | .pm m a es, e => match e with
    | .Call (.Attribute x n ap) ys [] cp => decide (n = pmN m) && (decide (ap.endLine = cp.line) && (noSup x && (mE T mc a x && (match m with
      | .append => decide (es.length = 1) && mEs T mc es ys
      | .pop => decide (es.length = 0) && mEs T mc es ys
      | _ => false))))
    | _ => false
  | .comp _ vs t i c e, ex => match ex with
    | .ListComp elt [⟨tg, iter, ifs, 0⟩] scope _ => blkC mc.N mc.sc scope (ownOf scope mc.N) && (decide ((ownOf scope mc.N).map (·.2) = vs) && (t.slots.all (fun j => vs.contains j) && (noSet iter && (mI T mc i iter &&
        (mT T ⟨relS scope mc.sc, mc.N, some scope⟩ t tg && (mE T ⟨relS scope mc.sc, mc.N, some scope⟩ e elt && mC T ⟨relS scope mc.sc, mc.N, some scope⟩ c ifs))))))
    | _ => false
  | .frz a, e => mE T mc a e
def mEs (T : GT) (mc : MC) : List Ex → List Expr → Bool
  | [], es => match es with
    | [] => true
    | _ => false
  | a :: as, es => match es with
    | x :: xs => noStar x && (mE T mc a x && mEs T mc as xs)
    | [] => false
def mO (T : GT) (mc : MC) : Option Ex → Option Expr → Bool
  | none, e => match e with
    | none => true
    | some _ => false
  | some a, e => match e with
    | some x => mE T mc a x
    | none => false
def mC (T : GT) (mc : MC) : Option Ex → List Expr → Bool
  | none, e => match e with
    | [] => true
    | _ => false
  | some a, e => match e with
    | [x] => testB a && mE T mc a x
    | _ => false
def mT (T : GT) (mc : MC) : Tg → Expr → Bool
  | .nm i, e => match e with
    | .Name x _ => decide (mc.N[i]? = some x) && stB mc x
    | _ => false
  | .tp ts, e => match e with
    | .Tuple es _ _ => mTs T mc ts es
    | _ => false
  | .sub a b, e => match e with
    | .Subscript x y _ => noSlice y && (mE T mc a x && mE T mc b y)
    | _ => false
  | .att _ _, _ => false
def mTs (T : GT) (mc : MC) : List Tg → List Expr → Bool
  | [], es => match es with
    | [] => true
    | _ => false
  | a :: as, es => match es with
    | x :: xs => noStar x && (mT T mc a x && mTs T mc as xs)
    | [] => false
def mI (T : GT) (mc : MC) : It → Expr → Bool
  | .val a, e => mE T mc a e
  | .rng es, e => match e with
    | .Call (.Name f _) ys [] _ => decide (f = ("range" : Str)) && (freeB T mc f && (mEs T mc es ys && (decide (es.length = 1) || decide (es.length = 2))))
    | _ => false
  | .enm _, _ => false
  | .zip _ _, _ => false
/-- what may stand as a test -/
def testB : Ex → Bool
  | .cst _ => true
  | .slot _ => true
  | .cmp _ _ _ => true
  | .chn _ _ _ _ _ => true
  | .and a b => testB a && testB b
  | .or a b => testB a && testB b
  | .not a => testB a
  | .idx _ _ => true
  | .call _ _ => true
  | .isi _ _ => true
  | .pr _ _ _ => true
  | _ => false
end
end CL

end
section
/-! Fw11: what passes the look of an expression holds. -/
set_option Elab.async false
set_option linter.all false
set_option maxRecDepth 100000
namespace CL
open PySem PySem.Spec PyProof.Rows L2

theorem star_cons {x : Expr} {xs : List Expr} {env : Env} (h : noStar x = true) : starEach (x :: xs) env = (false, eval x env) :: starEach xs env := by
  cases x <;> first | rfl | (simp [noStar] at h; done)
theorem asg_cons {x : Expr} {xs : List Expr} {env : Env} (h : noStar x = true) : assignEach (x :: xs) env = (false, assign x env) :: assignEach xs env := by
  cases x <;> first | rfl | (simp [noStar] at h; done)
def allNS (xs : List Expr) : Prop := ∀ x ∈ xs, noStar x = true
theorem star_any {xs : List Expr} {env : Env} {pos : Pos} (h : allNS xs) : (backTo pos (starEach xs env)).any (·.1) = false := by
  induction xs with
  | nil => rfl
  | cons x xs ih =>
    rw [star_cons (h x (by simp))]
    show (false || (backTo pos (starEach xs env)).any (·.1)) = false
    rw [ih fun y hy => h y (by simp [hy])]; rfl
theorem asg_none {xs : List Expr} {env : Env} (h : allNS xs) : (assignEach xs env).length = xs.length ∧ ((assignEach xs env).any (·.1)) = false := by
  induction xs with
  | nil => exact ⟨rfl, rfl⟩
  | cons x xs ih =>
    rw [asg_cons (h x (by simp))]
    obtain ⟨h1, h2⟩ := ih fun y hy => h y (by simp [hy])
    refine ⟨by simp [h1], ?_⟩
    rw [List.any_cons, h2]; rfl
theorem asg_find {xs : List Expr} {env : Env} (h : allNS xs) : (assignEach xs env).findIdx? (·.1) = none := by
  have := (asg_none (env := env) h).2
  rw [List.findIdx?_eq_none_iff]
  intro y hy
  rw [List.any_eq_false] at this
  simpa using this y hy
theorem plain_ix {y : Expr} (h : noSlice y = true) : PlainIx y := by
  cases y <;> first | (intro _ _; rfl) | (simp [noSlice] at h; done)
theorem plain_sub {x y : Expr} {pos : Pos} {env : Env} (h : noSlice y = true) : ∀ v, assign (.Subscript x y pos) env v = (do
      let ov ← holding [v] (eval x env)
      let iv ← holding [v, ov] (eval y env)
      standAt pos
      holding [v, ov, iv] (setItem ov iv v)
      release [v, ov, iv] []) := by
  cases y <;> first | (intro _; rfl) | (simp [noSlice] at h; done)
theorem base_sup {x : Expr} {n : Str} {env : Env} (h : noSup x = true) : attributeBase x n env (eval x env) = eval x env := by
  cases x with
  | Call f as ks pos =>
    cases f with
    | Name id p =>
      cases as with
      | nil =>
        cases ks with
        | nil => simp [noSup] at h
        | cons _ _ => rfl
      | cons _ _ => rfl
    | _ => rfl
  | _ => rfl
theorem fold_set {e : Expr} {env : Env} (h : noSet e = true) : ∀ x, foldedSetIterable e env x = pure x := by
  cases e <;> first | (intro _; rfl) | (simp [noSet] at h; done)
theorem vis_of {sc : Scope} {x : Str} (h : visB sc x = true) : Vis sc x := by
  unfold visB at h
  split at h
  · rename_i q; exact .inl q
  · rename_i q; exact .inr (.inl q)
  · rename_i q; exact .inr (.inr q)
  · cases h
theorem okn {x : Str} (h : okName x = true) : (x == ("__debug__" : Str)) = false ∧ (x == ("__classdict__" : Str)) = false ∧ x ≠ "__name__" := by
  unfold okName at h
  simp only [Bool.and_eq_true, Bool.not_eq_true'] at h
  exact ⟨h.1, h.2.1, beq_eq_false_iff_ne.mp h.2.2⟩

/-- what the world must be, for a run -/
structure XOk (D : Dn) (T : GT) (call : Nat → List AV → List Cell → RC) (lev : Nat) (mc : MC) (X : Cx) : Prop where
  sc : X.env.scope = mc.sc
  N : X.N = mc.N
  nd : mc.N.Nodup
  calm : X.calm = true
  room : Room (lev + 1) X.A
  gv : ∀ x av, T.gv.lookup x = some av → ∃ v u, X.mg x = some u ∧ RelV v u ∧ ∀ H m, VR0 X.K H m av v
  free : ∀ x, x ∈ T.free → X.mg x = none
  fns : ∀ i d x, T.fns i = some d → d.at_ = (x, none) → X.mg x = some (.ref (He.fAd X.K d.at_)) ∧ PySem.W.keepIn X.K (.ref (He.fAd X.K d.at_)) = true ∧
    ∃ fd, FnOk X.prog X.w X.K X.mg X.base (L2.CX X.prog X.w) lev (He.fAd X.K d.at_) fd d.ps (spOf D X.K d.ps.length (call i)) ∧ Binds X.K fd d.ps []
  fn : ∀ x, X.fn x = match mc.blk with
    | none => true
    | some b => b.names.lookup x == some .cell
  rel : ∀ b, mc.blk = some b → ∃ sc0 : Scope, mc.sc = relS b sc0
section
variable {D : Dn} {T : GT} {call : Nat → List AV → List Cell → RC} {lev : Nat} {mc : MC} {X : Cx}
theorem XOk.gl (h : XOk D T call lev mc X) {x : Str} (q : glB mc.sc x = true) : Gl X x := by
  show X.env.scope.names.lookup x = _
  rw [h.sc]
  unfold glB at q
  split at q
  · rename_i z; exact z
  · cases q
theorem XOk.fr (h : XOk D T call lev mc X) {x : Str} (q : freeB T mc x = true) : Gl X x ∧ X.mg x = none ∧ x ≠ "__name__" ∧ (x == ("__debug__" : Str)) = false := by
  unfold freeB at q
  simp only [Bool.and_eq_true, decide_eq_true_eq] at q
  exact ⟨h.gl q.1, h.free x q.2.1, (okn q.2.2).2.2, (okn q.2.2).1⟩
theorem XOk.sto (h : XOk D T call lev mc X) {x : Str} (q : stB mc x = true) : Loc X.env.scope x ∧ (X.fn x = true ∨ X.env.scope.names.lookup x = some .local) := by
  unfold stB at q
  have hf := h.fn x
  cases hb : mc.blk with
  | none =>
    rw [hb] at q hf
    simp only at q hf
    refine ⟨?_, .inl hf⟩
    rw [h.sc]
    split at q
    · rename_i z; exact .inl z
    · rename_i z; exact .inr z
    · cases q
  | some b =>
    rw [hb] at q
    simp only at q
    obtain ⟨sc0, e⟩ := h.rel b hb
    split at q
    · rename_i z
      have : X.env.scope.names.lookup x = some .local := by
        rw [h.sc, e]
        exact lookup_relS_keep (sc := sc0) (by decide) z
      exact ⟨.inl this, .inr this⟩
    · cases q
theorem PEV.congr {W : WX} {e : Expr} {f g : S → R AV} (h : PEV D X W e f) (k : ∀ s, g s = f s) : PEV D X W e g := by
  have : g = f := funext k
  rw [this]; exact h
theorem PTV.congr {W : WX} {e : Expr} {f g : S → R Bool} (h : PTV D X W e f) (k : ∀ s, g s = f s) : PTV D X W e g := by
  have : g = f := funext k
  rw [this]; exact h
theorem PAV.congr {W : WX} {e : List Expr} {f g : S → R (List AV)} (h : PAV D X W e f) (k : ∀ s, g s = f s) : PAV D X W e g := by
  have : g = f := funext k
  rw [this]; exact h
theorem PGV.congr {W : WX} {ts : List Nat} {e : Expr} {f g : AV → S → R Unit} (h : PGV D X W ts e f) (k : ∀ v s, g v s = f v s) : PGV D X W ts e g := by
  have : g = f := funext fun v => funext (k v)
  rw [this]; exact h
theorem PGVs.congr {W : WX} {ts : List Nat} {e : List Expr} {f g : List AV → S → R Unit} (h : PGVs D X W ts e f) (k : ∀ v s, g v s = f v s) : PGVs D X W ts e g := by
  have : g = f := funext fun v => funext (k v)
  rw [this]; exact h
theorem PIV.congr {W : WX} {tg e : Expr} {f g : S → R Wk} (h : PIV D X W tg e f) (k : ∀ s, g s = f s) : PIV D X W tg e g := by
  have : g = f := funext k
  rw [this]; exact h
theorem evs_len : ∀ {es : List Ex} {s s' : S} {vs : List AV}, evs call es s = .ok vs s' → vs.length = es.length
  | [], s, s', vs, h => by simp only [evs] at h; cases h; rfl
  | e :: es, s, s', vs, h => by
    simp only [evs] at h
    cases h1 : ev call e s with
    | bad => rw [h1] at h; cases h
    | exn _ _ _ => rw [h1] at h; cases h
    | ok v s1 =>
      rw [h1, R.bind_ok] at h
      cases h2 : evs call es s1 with
      | bad => rw [h2] at h; cases h
      | exn _ _ _ => rw [h2] at h; cases h
      | ok ws s2 =>
        rw [h2, R.bind_ok] at h
        cases h
        rw [List.length_cons, List.length_cons, evs_len h2]
theorem mEs_ns : ∀ {es : List Ex} {xs : List Expr}, mEs T mc es xs = true → allNS xs ∧ xs.length = es.length
  | [], [], _ => ⟨fun _ h => by simp at h, rfl⟩
  | [], _ :: _, h => by simp [mEs] at h
  | _ :: _, [], h => by simp [mEs] at h
  | e :: es, x :: xs, h => by
    simp only [mEs, Bool.and_eq_true] at h
    obtain ⟨h1, h2⟩ := mEs_ns h.2.2
    exact ⟨fun y hy => by
      rcases List.mem_cons.mp hy with e | hy
      · subst e; exact h.1
      · exact h1 y hy, by rw [List.length_cons, List.length_cons, h2]⟩
theorem mTs_ns : ∀ {es : List Tg} {xs : List Expr}, mTs T mc es xs = true → allNS xs ∧ xs.length = es.length
  | [], [], _ => ⟨fun _ h => by simp at h, rfl⟩
  | [], _ :: _, h => by simp [mTs] at h
  | _ :: _, [], h => by simp [mTs] at h
  | e :: es, x :: xs, h => by
    simp only [mTs, Bool.and_eq_true] at h
    obtain ⟨h1, h2⟩ := mTs_ns h.2.2
    exact ⟨fun y hy => by
      rcases List.mem_cons.mp hy with e | hy
      · subst e; exact h.1
      · exact h1 y hy, by rw [List.length_cons, List.length_cons, h2]⟩
/-- the block of a comprehension -/
theorem XOk.blk (h : XOk D T call lev mc X) (s : Shared) (H : Hp) (scope : Scope) (C : Addr) (cl : List (Str × Addr)) (fp : List Addr) :
    XOk D T call lev ⟨relS scope mc.sc, mc.N, some scope⟩ (X.blk s H scope (compEnvC scope cl C X.env) fp) where
  sc := by
    show relabel scope X.env = _
    have : relabel scope X.env = relS scope X.env.scope := rfl
    rw [this, h.sc]
  N := h.N
  nd := h.nd
  calm := h.calm
  room := h.room
  gv := h.gv
  free := h.free
  fns := h.fns
  fn := fun x => rfl
  rel := fun b hb => by cases hb; exact ⟨mc.sc, rfl⟩
/-- operators -/
theorem op_of (h : XOk D T call lev mc X) (o : Bop) : ∃ r, OpR X (binaryOp (opM o)) r ∧ ∀ W, OpV D X W r (binA o) := by
  cases o with
  | add => exact ⟨_, (op_add.or op_add_str).or op_catA, fun W => opv_add⟩
  | sub => exact ⟨_, op_sub, fun W => opv_sub⟩
  | mul => exact ⟨_, op_mul, fun W => opv_mul⟩
  | fdiv => exact ⟨_, op_fdivN, fun W => opv_fdiv⟩
  | mod => exact ⟨_, op_modN, fun W => opv_mod⟩
  | pow => exact ⟨_, op_pow, fun W => opv_pow⟩
theorem cop_of (h : XOk D T call lev mc X) (o : Cop) : ∃ r, OpR X (compareOp (copM o)) r ∧ ∀ W, OpV D X W r (cmpA o) := by
  have hu : X.A.units + 64 < cLine := h.room.units
  cases o with
  | eq => exact ⟨_, op_eqA hu, fun W => opv_eq⟩
  | ne => exact ⟨_, op_neA hu, fun W => opv_ne⟩
  | lt => exact ⟨_, op_lt, fun W => opv_lt⟩
  | le => exact ⟨_, op_le, fun W => opv_le⟩
  | gt => exact ⟨_, op_gt, fun W => opv_gt⟩
  | ge => exact ⟨_, op_ge, fun W => opv_ge⟩
  | is => exact ⟨_, op_isN.or op_isBl, fun W => opv_is⟩
  | isn => exact ⟨_, op_notN.or op_notBl, fun W => opv_isn⟩
  | inn => exact ⟨_, op_inA hu, fun W => opv_in⟩
  | nin => exact ⟨_, op_notInA hu, fun W => opv_nin⟩
theorem boot_len' : bootBuiltins (Str.ofString "len") = some (.builtin "len") := by decide +kernel
theorem boot_all' : bootBuiltins (Str.ofString "all") = some (.builtin "all") := by decide +kernel
theorem boot_sum' : bootBuiltins (Str.ofString "sum") = some (.builtin "sum") := by decide +kernel
theorem boot_max' : bootBuiltins (Str.ofString "max") = some (.builtin "max") := by decide +kernel
theorem boot_min' : bootBuiltins (Str.ofString "min") = some (.builtin "min") := by decide +kernel
theorem boot_ty : ∀ t : Ty, ∀ b, tyNm t = some b → bootBuiltins (Str.ofString b) = some (.type b) := by
  intro t b h
  cases t <;> simp only [tyNm, Option.some.injEq, reduceCtorEq] at h <;> subst h <;> decide +kernel
end
end CL

end
section
/-! Fw12: the look of an expression, a target, a walked thing: that it holds. -/
set_option Elab.async false
set_option linter.all false
set_option maxRecDepth 100000
set_option maxHeartbeats 8000000
namespace CL
open PySem PySem.Spec PyProof.Rows L2
section
variable {D : Dn} {T : GT} {call : Nat → List AV → List Cell → RC} {lev : Nat}
theorem aand {a b : Bool} (h : (a && b) = true) : a = true ∧ b = true := Bool.and_eq_true_iff.mp h
/-- where a test is the value's truth -/
theorem tv {mc : MC} {X : Cx} {W : WX} {e : Expr} {f : S → R AV} (h : PEV D X W e f) (he : ∀ whole, isTrue e X.env whole = (do let v ← whole; standAt e.pos; holding [v] (truthy v))) : PTV D X W e fun s => (f s).bind truth := ptv_val h he
mutual
theorem sE : ∀ (x : Ex) (mc : MC) (X : Cx) (W : WX) (e : Expr), XOk D T call lev mc X → Takes X W → mE T mc x e = true → PEV D X W e (ev call x)
  | .cst v, mc, X, W, e, hX, tk, h => by
    unfold mE at h
    split at h
    · rename_i c j p
      refine PEV.congr (f := fun s => .ok v s) ?_ fun s => by simp only [ev]
      unfold cstB at h
      split at h
      · exact pev_cst pe_non fun H m => by unfold VR0; rfl
      · obtain rfl := eq_of_beq h
        exact pev_cst pe_bl fun H m => by unfold VR0; rfl
      · obtain rfl := eq_of_beq h
        exact pev_cst pe_int fun H m => by unfold VR0; rfl
      · obtain rfl := of_decide_eq_true h
        exact pev_cst pe_str fun H m => by unfold VR0; rfl
      · cases h
    · rename_i x p
      obtain ⟨h1, h2⟩ := aand h
      obtain ⟨h2, h3⟩ := aand h2
      obtain ⟨u, w, e1, e2, e3⟩ := hX.gv x v (of_decide_eq_true h2)
      exact PEV.congr (pev_cst (pe_glob (hX.gl h1) e1 e2 (okn h3).1) e3) fun s => by simp only [ev]
    · cases h
  | .slot i, mc, X, W, e, hX, tk, h => by
    unfold mE at h
    split at h
    · rename_i x p
      obtain ⟨h1, h2⟩ := aand h
      obtain ⟨h2, h3⟩ := aand h2
      exact PEV.congr (pev_slot (by rw [hX.N]; exact of_decide_eq_true h1) (by rw [hX.sc]; exact vis_of h2) (okn h3).1 (okn h3).2.1) fun s => by simp only [ev] <;> rfl
    · cases h
  | .tup es, mc, X, W, e, hX, tk, h => by
    unfold mE at h
    split at h
    · exact PEV.congr (pev_tup (sEs es mc X W _ hX tk h)) fun s => by simp only [ev]
    · cases h
  | .lst k es, mc, X, W, e, hX, tk, h => by
    unfold mE at h
    split at h
    · exact PEV.congr (pev_lst (kk := k) (sEs es mc X W _ hX tk h)) fun s => by simp only [ev]
    · cases h
  | .bin o a b, mc, X, W, e, hX, tk, h => by
    unfold mE at h
    split at h
    · obtain ⟨h1, h2⟩ := aand h
      obtain ⟨h2, h3⟩ := aand h2
      obtain rfl := of_decide_eq_true h1
      obtain ⟨r, ho, hv⟩ := op_of hX o
      exact PEV.congr (pev_op ho (hv W) (sE a mc X W _ hX tk h2) (sE b mc X W _ hX tk h3)) fun s => by simp only [ev]
    · cases h
  | .neg a, mc, X, W, e, hX, tk, h => by
    unfold mE at h
    split at h
    · exact PEV.congr (pev_neg (sE a mc X W _ hX tk h)) fun s => by simp only [ev] <;> rfl
    · cases h
  | .cat k a b, mc, X, W, e, hX, tk, h => by
    unfold mE at h
    split at h
    · obtain ⟨h2, h3⟩ := aand h
      exact PEV.congr (pev_cat (k := k) (sE a mc X W _ hX tk h2) (sE b mc X W _ hX tk h3)) fun s => by simp only [ev] <;> rfl
    · cases h
  | .rep k es b, mc, X, W, e, hX, tk, h => by
    unfold mE at h
    split at h
    · obtain ⟨h1, h2⟩ := aand h
      obtain ⟨h2, h3⟩ := aand h2
      have hl := of_decide_eq_true h1
      refine PEV.congr (pev_rep (k := k) (fun s xs s' hs => ?_) (sEs es mc X W _ hX tk h2) (sE b mc X W _ hX tk h3)) fun s => by simp only [ev] <;> rfl
      rw [evs_len hs, ← (mEs_ns h2).2]
      exact Nat.le_trans hl (by unfold SL; omega)
    · cases h
  | .cmp o a b, mc, X, W, e, hX, tk, h => by
    unfold mE at h
    split at h
    · obtain ⟨h1, h2⟩ := aand h
      obtain rfl := of_decide_eq_true h1
      obtain ⟨h2, h3⟩ := aand h2
      obtain ⟨h3, h4⟩ := aand h3
      obtain ⟨r, ho, hv⟩ := cop_of hX o
      exact PEV.congr (pev_cmp ho (hv W) (sE a mc X W _ hX tk h2) (sE b mc X W _ hX tk h3) (by simpa using h4)) fun s => by simp only [ev]
    · cases h
  | .chn o p a b c, mc, X, W, e, hX, tk, h => by
    unfold mE at h
    split at h
    · obtain ⟨h1, h2⟩ := aand h
      obtain rfl := of_decide_eq_true h1
      obtain ⟨h0, h2⟩ := aand h2
      obtain rfl := of_decide_eq_true h0
      obtain ⟨h2, h3⟩ := aand h2
      obtain ⟨h3, h4⟩ := aand h3
      obtain ⟨h4, h5⟩ := aand h4
      obtain ⟨r, ho, hv⟩ := cop_of hX o
      obtain ⟨r', ho', hv'⟩ := cop_of hX p
      exact PEV.congr (pev_chn ho ho' (hv W) (hv' W) (sE a mc X W _ hX tk h2) (sE b mc X W _ hX tk h3) (sE c mc X W _ hX tk h4) (by simpa using h5)) fun s => by simp only [ev]
    · cases h
  | .and a b, mc, X, W, e, hX, tk, h => by
    unfold mE at h
    split at h
    · obtain ⟨h2, h3⟩ := aand h
      exact PEV.congr (pev_and (sE a mc X W _ hX tk h2) (sE b mc X W _ hX tk h3)) fun s => by simp only [ev]
    · cases h
  | .or a b, mc, X, W, e, hX, tk, h => by
    unfold mE at h
    split at h
    · obtain ⟨h2, h3⟩ := aand h
      exact PEV.congr (pev_or (sE a mc X W _ hX tk h2) (sE b mc X W _ hX tk h3)) fun s => by simp only [ev]
    · cases h
  | .not a, mc, X, W, e, hX, tk, h => by
    unfold mE at h
    split at h
    · exact PEV.congr (pev_not (sE a mc X W _ hX tk h)) fun s => by simp only [ev]
    · cases h
  | .ite c a b, mc, X, W, e, hX, tk, h => by
    unfold mE at h
    split at h
    · obtain ⟨h1, h2⟩ := aand h
      obtain ⟨h2, h3⟩ := aand h2
      obtain ⟨h3, h4⟩ := aand h3
      exact PEV.congr (pev_ite (sT c mc X W _ hX tk h2 h1) (sE a mc X W _ hX tk h3) (sE b mc X W _ hX tk h4)) fun s => by simp only [ev, R.bind_assoc]
    · cases h
  | .idx a b, mc, X, W, e, hX, tk, h => by
    unfold mE at h
    split at h
    · obtain ⟨h1, h2⟩ := aand h
      obtain ⟨h2, h3⟩ := aand h2
      exact PEV.congr (pev_ix (ix_list.or ix_tup) opv_idx (sE a mc X W _ hX tk h2) (sE b mc X W _ hX tk h3) (plain_ix h1)) fun s => by simp only [ev]
    · cases h
  | .slc k a lo hi, mc, X, W, e, hX, tk, h => by
    unfold mE at h
    split at h
    · obtain ⟨h1, h2⟩ := aand h
      obtain ⟨h2, h3⟩ := aand h2
      exact PEV.congr (pev_slc (k := k) (sE a mc X W _ hX tk h1) (sO lo mc X W _ hX tk h2) (sO hi mc X W _ hX tk h3)) fun s => by simp only [ev]
    · cases h
  | .fld a f, mc, X, W, e, hX, tk, h => by
    unfold mE at h
    cases h
  | .call f es, mc, X, W, e, hX, tk, h => by
    unfold mE at h
    split at h
    · rename_i x p y ys p2
      obtain ⟨h1, h2⟩ := aand h
      obtain ⟨h2, h3⟩ := aand h2
      obtain ⟨h3, h4⟩ := aand h3
      split at h1
      · rename_i d hd
        obtain ⟨h5, h6⟩ := aand h1
        obtain ⟨e1, e2, fd, F, B⟩ := hX.fns f d x hd (of_decide_eq_true h5)
        have hn := of_decide_eq_true h6
        obtain ⟨ns, _⟩ := mEs_ns h4
        refine PEV.congr (pev_call F (hX.room.mono (Nat.le_succ _)) (hX.gl h2) e1 e2 B tk (fun s vs s' hs => by rw [evs_len hs, hn]) (sEs es mc X W _ hX tk h4) (okn h3).1 (star_cons (ns y (by simp))) (star_any fun z hz => ns z (by simp [hz]))) fun s => by simp only [ev] <;> rfl
      · cases h1
    · cases h
  | .isi a t, mc, X, W, e, hX, tk, h => by
    unfold mE at h
    split at h
    · rename_i f p x n p2 p3
      obtain ⟨h1, h2⟩ := aand h
      obtain ⟨h2, h3⟩ := aand h2
      obtain ⟨h3, h4⟩ := aand h3
      obtain ⟨h4, h5⟩ := aand h4
      obtain rfl := of_decide_eq_true h1
      obtain ⟨g1, g2, _, _⟩ := hX.fr h2
      obtain ⟨g3, g4, g5, g6⟩ := hX.fr h3
      split at h4
      · rename_i b hb
        obtain rfl := of_decide_eq_true h4
        obtain ⟨h6, h5⟩ := aand h5
        have hs : starEach [x, .Name (Str.ofString b) p2] X.env = (false, eval x X.env) :: starEach [.Name (Str.ofString b) p2] X.env := star_cons h6
        exact PEV.congr (pev_isi1 g1 g2 g3 g4 (boot_ty t b hb) g5 g6 hb (sE a mc X W _ hX tk h5) hs) fun s => by simp only [ev]
      · cases h4
    · cases h
  | .pr q k es, mc, X, W, e, hX, tk, h => by
    unfold mE at h
    split at h
    · rename_i f p y ys p2
      obtain ⟨h1, h2⟩ := aand h
      obtain ⟨h2, h3⟩ := aand h2
      obtain ⟨h3, h4⟩ := aand h3
      obtain rfl := of_decide_eq_true h2
      obtain ⟨g1, g2, g3, g4⟩ := hX.fr h3
      obtain ⟨ns, _⟩ := mEs_ns h4
      have s1 := star_cons (xs := ys) (env := X.env) (ns y (by simp))
      have s2 := star_any (env := X.env) (pos := p2) (xs := ys) fun z hz => ns z (by simp [hz])
      have ha := sEs es mc X W _ hX tk h4
      refine PEV.congr (f := fun s => (evs call es s).bind (primA q k)) ?_ fun s => by simp only [ev]
      cases q <;> first | (cases h1; done) | skip
      · exact pev_callB call_len_seq callv_len g1 g2 boot_len' ha g3 g4 s1 s2
      · exact pev_callTy (k := k) call_list_of callv_list g1 g2 (boot_ty .list _ rfl) ha g3 g4 s1 s2
      · exact pev_callTy (k := .lo) call_tuple_of (fun l m s σ H xs vs Q R0 r z => callv_tuple l m s σ H xs vs Q R0 r z) g1 g2 (boot_ty .tuple _ rfl) ha g3 g4 s1 s2
      · exact pev_callB (cr_all hX.calm) callv_all g1 g2 boot_all' ha g3 g4 s1 s2
      · exact pev_callB (cr_sum hX.calm) callv_sum g1 g2 boot_sum' ha g3 g4 s1 s2
      · exact pev_callB (call_max2 hX.calm) callv_max2 g1 g2 boot_max' ha g3 g4 s1 s2
      · exact pev_callB (call_min2 hX.calm) callv_min2 g1 g2 boot_min' ha g3 g4 s1 s2
    · cases h
  | .pm m a es, mc, X, W, e, hX, tk, h => by
    unfold mE at h
    split at h
    · rename_i x n ap ys cp
      obtain ⟨h1, h2⟩ := aand h
      obtain ⟨h2, h3⟩ := aand h2
      obtain ⟨h3, h4⟩ := aand h3
      obtain ⟨h4, h5⟩ := aand h4
      obtain rfl := of_decide_eq_true h1
      have hl := of_decide_eq_true h2
      have ha := sE a mc X W _ hX tk h4
      have hb := base_sup (n := pmN m) (env := X.env) h3
      refine PEV.congr (f := fun s => (ev call a s).bind fun x s => if pmTy m x s = true then (evs call es s).bind fun vs s => pmA m x vs s else .bad) ?_ fun s => by simp only [ev]
      cases m <;> first | (cases h5; done) | skip
      · obtain ⟨h6, h7⟩ := aand h5
        obtain ⟨ns, hlen⟩ := mEs_ns h7
        have h6 := of_decide_eq_true h6
        match ys, ns, hlen, h7 with
        | [], _, hlen, _ => simp [h6] at hlen
        | _ :: _ :: _, _, hlen, _ => simp [h6] at hlen
        | [y], ns, hlen, h7 =>
          have s1 := star_cons (xs := []) (env := X.env) (ns y (by simp))
          exact pev_pm PySem.F.plainAttrs_list PySem.F.slot_list_append PySem.F.type_list_append mt_append mtv_append (fun l m' s σ H x v R0 r c => tyv_mut R0 r c) ha (sEs es mc X W _ hX tk h7) hb (by rw [s1]; rfl) (by simpa using hl) s1 rfl
      · obtain ⟨h6, h7⟩ := aand h5
        obtain ⟨ns, hlen⟩ := mEs_ns h7
        have h6 := of_decide_eq_true h6
        have he : es = [] := List.length_eq_zero_iff.mp h6
        subst he
        have hy : ys = [] := List.length_eq_zero_iff.mp (by rw [hlen]; rfl)
        subst hy
        exact PEV.congr (pev_pm0 PySem.F.plainAttrs_list PySem.F.slot_list_pop PySem.F.type_list_pop mt_pop mtv_pop (fun l m' s σ H x v R0 r c => tyv_mut R0 r c) ha hb (by simpa using hl)) fun s => by simp only [evs]
    · cases h
  | .comp k vs t i c e', mc, X, W, e, hX, tk, h => by
    unfold mE at h
    split at h
    · rename_i elt tg iter ifs scope p
      obtain ⟨h1, h2⟩ := aand h
      obtain ⟨h2, h3⟩ := aand h2
      obtain ⟨h3, h4⟩ := aand h3
      obtain ⟨h4, h5⟩ := aand h4
      obtain ⟨h5, h6⟩ := aand h5
      obtain ⟨h6, h7⟩ := aand h6
      obtain ⟨h7, h8⟩ := aand h7
      have hvs := of_decide_eq_true h2
      have hb : BlkOk X.N X.env.scope scope (ownOf scope mc.N) := by rw [hX.N, hX.sc]; exact blkOk_by h1
      have hsl : ∀ j ∈ t.slots, j ∈ vs := fun j hj => by
        have := List.all_eq_true.mp h3 j hj
        simpa using this
      refine PEV.congr (pev_comp (k := k) (itf := itr call i) (tgf := tga call t) (cf := evc call c) (ef := ev call e') hX.calm (by rw [hX.N]; exact hX.nd) (sI i mc X W tg _ hX tk h5) hb hvs
        (fun s H C cl fp => sTg t _ _ W0 vs _ (hX.blk s H scope C cl fp) takes0 h6 hsl) (fun s H C cl fp => sC c _ _ _ (hX.blk s H scope C cl fp) h8) (fun s H C cl fp => sE e' _ _ W0 _ (hX.blk s H scope C cl fp) takes0 h7) (fold_set h4)) fun s => ?_
      simp only [ev, compF]; rfl
    · cases h
  | .frz a, mc, X, W, e, hX, tk, h => by
    unfold mE at h
    exact PEV.congr (pev_frz (sE a mc X W _ hX tk h)) fun s => by simp only [ev]
theorem sEs : ∀ (es : List Ex) (mc : MC) (X : Cx) (W : WX) (xs : List Expr), XOk D T call lev mc X → Takes X W → mEs T mc es xs = true → PAV D X W xs (evs call es)
  | [], mc, X, W, xs, hX, tk, h => by
    unfold mEs at h
    split at h
    · exact PAV.congr pav_nil fun s => by simp only [evs]
    · cases h
  | a :: as, mc, X, W, xs, hX, tk, h => by
    unfold mEs at h
    split at h
    · obtain ⟨h1, h2⟩ := aand h
      obtain ⟨h2, h3⟩ := aand h2
      exact PAV.congr (pav_cons (sE a mc X W _ hX tk h2) (sEs as mc X W _ hX tk h3) (star_cons h1)) fun s => by simp only [evs]
    · cases h
theorem sO : ∀ (o : Option Ex) (mc : MC) (X : Cx) (W : WX) (e : Option Expr), XOk D T call lev mc X → Takes X W → mO T mc o e = true → POV D X W e (evo call o)
  | none, mc, X, W, e, hX, tk, h => by
    unfold mO at h
    split at h
    · have : evo call none = fun s => R.ok none s := funext fun s => by simp only [evo]
      rw [this]; exact pov_none
    · cases h
  | some a, mc, X, W, e, hX, tk, h => by
    unfold mO at h
    split at h
    · have : evo call (some a) = fun s => (ev call a s).bind fun v s => match v with
          | .int i => .ok (some i) s
          | _ => .bad := funext fun s => by simp only [evo] <;> rfl
      rw [this]; exact pov_some (sE a mc X W _ hX tk h)
    · cases h
theorem sC : ∀ (o : Option Ex) (mc : MC) (X : Cx) (e : List Expr), XOk D T call lev mc X → mC T mc o e = true → PTs X e (tTs D X.K W0 (evc call o))
  | none, mc, X, e, hX, h => by
    unfold mC at h
    split at h
    · have : evc call none = fun s => R.ok true s := funext fun s => by simp only [evc]
      rw [this]; exact pts_nilV
    · cases h
  | some a, mc, X, e, hX, h => by
    unfold mC at h
    split at h
    · obtain ⟨h1, h2⟩ := aand h
      have : evc call (some a) = fun s => (ev call a s).bind truth := funext fun s => by simp only [evc]
      rw [this]; exact pts_oneV (sT a mc X W0 _ hX takes0 h2 h1)
    · cases h
theorem sTg : ∀ (t : Tg) (mc : MC) (X : Cx) (W : WX) (ts : List Nat) (e : Expr), XOk D T call lev mc X → Takes X W → mT T mc t e = true → (∀ j ∈ t.slots, j ∈ ts) → PGV D X W ts e (tga call t)
  | .nm i, mc, X, W, ts, e, hX, tk, h, hs => by
    unfold mT at h
    split at h
    · obtain ⟨h1, h2⟩ := aand h
      obtain ⟨q1, q2⟩ := hX.sto h2
      exact PGV.congr (pgv_nm (by rw [hX.N]; exact hX.nd) (by rw [hX.N]; exact of_decide_eq_true h1) q1 q2 (hs i (by simp [Tg.slots]))) fun v s => by simp only [tga]
    · cases h
  | .tp us, mc, X, W, ts, e, hX, tk, h, hs => by
    unfold mT at h
    split at h
    · obtain ⟨ns, hl⟩ := mTs_ns h
      exact PGV.congr (pgv_tp hX.calm (sTgs us mc X W ts _ hX tk h (by simpa [Tg.slots] using hs)) ((asg_none ns).1.trans hl) (asg_find ns)) fun v s => by simp only [tga] <;> rfl
    · cases h
  | .sub a b, mc, X, W, ts, e, hX, tk, h, hs => by
    unfold mT at h
    split at h
    · obtain ⟨h1, h2⟩ := aand h
      obtain ⟨h2, h3⟩ := aand h2
      exact PGV.congr (pgv_sub (sE a mc X W _ hX tk h2) (sE b mc X W _ hX tk h3) (plain_sub h1)) fun v s => by simp only [tga]
    · cases h
  | .att _ _, mc, X, W, ts, e, hX, tk, h, hs => by
    unfold mT at h
    cases h
theorem sTgs : ∀ (t : List Tg) (mc : MC) (X : Cx) (W : WX) (ts : List Nat) (e : List Expr), XOk D T call lev mc X → Takes X W → mTs T mc t e = true → (∀ j ∈ Tg.slotss t, j ∈ ts) → PGVs D X W ts e (tgas call t)
  | [], mc, X, W, ts, e, hX, tk, h, hs => by
    unfold mTs at h
    split at h
    · exact PGVs.congr pgvs_nil fun xs s => by cases xs <;> simp only [tgas]
    · cases h
  | t :: us, mc, X, W, ts, e, hX, tk, h, hs => by
    unfold mTs at h
    split at h
    · obtain ⟨h1, h2⟩ := aand h
      obtain ⟨h2, h3⟩ := aand h2
      have hs' : ∀ j, j ∈ t.slots ∨ j ∈ Tg.slotss us → j ∈ ts := fun j hj => hs j (by simp only [Tg.slotss, List.mem_append]; exact hj)
      exact PGVs.congr (pgvs_cons (sTg t mc X W ts _ hX tk h2 fun j hj => hs' j (.inl hj)) (sTgs us mc X W ts _ hX tk h3 fun j hj => hs' j (.inr hj)) (by rw [asg_cons h1]; rfl)) fun xs s => by cases xs <;> simp only [tgas]
    · cases h
theorem sI : ∀ (i : It) (mc : MC) (X : Cx) (W : WX) (tg e : Expr), XOk D T call lev mc X → Takes X W → mI T mc i e = true → PIV D X W tg e (itr call i)
  | .val a, mc, X, W, tg, e, hX, tk, h => by
    unfold mI at h
    exact PIV.congr (piv_val (sE a mc X W _ hX tk h)) fun s => by simp only [itr] <;> rfl
  | .rng es, mc, X, W, tg, e, hX, tk, h => by
    unfold mI at h
    split at h
    · rename_i f p ys p2
      obtain ⟨h1, h2⟩ := aand h
      obtain ⟨h2, h3⟩ := aand h2
      obtain ⟨h3, h4⟩ := aand h3
      obtain rfl := of_decide_eq_true h1
      obtain ⟨g1, g2, _, _⟩ := hX.fr h2
      obtain ⟨ns, hlen⟩ := mEs_ns h3
      have ha := sEs es mc X W _ hX tk h3
      have h5 : es.length = 1 ∨ es.length = 2 := by simpa using h4
      match ys, ns, hlen, ha with
      | [], _, hlen, _ => exfalso; simp at hlen; omega
      | [y], ns, hlen, ha =>
        have hl : es.length = 1 := hlen.symm
        exact PIV.congr (piv_rng1 g1 g2 ha (star_cons (xs := []) (ns y (by simp))) fun s vs s' hs => by rw [evs_len hs, hl]) fun s => by simp only [itr] <;> rfl
      | [y, z], ns, hlen, ha =>
        have hl : es.length = 2 := hlen.symm
        have s2 : starEach [z] X.env = [(false, eval z X.env)] := star_cons (xs := []) (ns z (by simp))
        exact PIV.congr (piv_rng2 g1 g2 ha (by rw [star_cons (ns y (by simp)), s2]) s2 fun s vs s' hs => by rw [evs_len hs, hl]) fun s => by simp only [itr] <;> rfl
      | _ :: _ :: _ :: _, _, hlen, _ => exfalso; simp at hlen; omega
    · cases h
  | .enm _, mc, X, W, tg, e, hX, tk, h => by unfold mI at h; cases h
  | .zip _ _, mc, X, W, tg, e, hX, tk, h => by unfold mI at h; cases h
theorem sT : ∀ (x : Ex) (mc : MC) (X : Cx) (W : WX) (e : Expr), XOk D T call lev mc X → Takes X W → mE T mc x e = true → testB x = true → PTV D X W e fun s => (ev call x s).bind truth
  | .cst v, mc, X, W, e, hX, tk, h, ht => by
    have hv := sE (.cst v) mc X W e hX tk h
    unfold mE at h
    split at h
    · exact ptv_val hv fun _ => rfl
    · exact ptv_val hv fun _ => rfl
    · cases h
  | .slot i, mc, X, W, e, hX, tk, h, ht => by
    have hv := sE (.slot i) mc X W e hX tk h
    unfold mE at h
    split at h
    · exact ptv_val hv fun _ => rfl
    · cases h
  | .cmp o a b, mc, X, W, e, hX, tk, h, ht => by
    unfold mE at h
    split at h
    · obtain ⟨h1, h2⟩ := aand h
      obtain rfl := of_decide_eq_true h1
      obtain ⟨h2, h3⟩ := aand h2
      obtain ⟨h3, h4⟩ := aand h3
      obtain ⟨r, ho, hv⟩ := cop_of hX o
      exact PTV.congr (ptv_cmp ho (hv W) (sE a mc X W _ hX tk h2) (sE b mc X W _ hX tk h3) (by simpa using h4)) fun s => by simp only [ev]
    · cases h
  | .chn o p a b c, mc, X, W, e, hX, tk, h, ht => by
    unfold mE at h
    split at h
    · obtain ⟨h1, h2⟩ := aand h
      obtain rfl := of_decide_eq_true h1
      obtain ⟨h0, h2⟩ := aand h2
      obtain rfl := of_decide_eq_true h0
      obtain ⟨h2, h3⟩ := aand h2
      obtain ⟨h3, h4⟩ := aand h3
      obtain ⟨h4, h5⟩ := aand h4
      obtain ⟨r, ho, hv⟩ := cop_of hX o
      obtain ⟨r', ho', hv'⟩ := cop_of hX p
      exact PTV.congr (ptv_chn ho ho' (hv W) (hv' W) (sE a mc X W _ hX tk h2) (sE b mc X W _ hX tk h3) (sE c mc X W _ hX tk h4) (by simpa using h5)) fun s => by simp only [ev]
    · cases h
  | .and a b, mc, X, W, e, hX, tk, h, ht => by
    unfold mE at h
    unfold testB at ht
    split at h
    · obtain ⟨h2, h3⟩ := aand h
      obtain ⟨t2, t3⟩ := aand ht
      refine PTV.congr (ptv_and (sT a mc X W _ hX tk h2 t2) (sT b mc X W _ hX tk h3 t3)) fun s => ?_
      simp only [ev, R.bind_assoc]
      congr 1; funext x s1
      cases hx : truth x s1 with
      | ok t s2 => cases t <;> rfl
      | _ => rfl
    · cases h
  | .or a b, mc, X, W, e, hX, tk, h, ht => by
    unfold mE at h
    unfold testB at ht
    split at h
    · obtain ⟨h2, h3⟩ := aand h
      obtain ⟨t2, t3⟩ := aand ht
      refine PTV.congr (ptv_or (sT a mc X W _ hX tk h2 t2) (sT b mc X W _ hX tk h3 t3)) fun s => ?_
      simp only [ev, R.bind_assoc]
      congr 1; funext x s1
      cases hx : truth x s1 with
      | ok t s2 => cases t <;> rfl
      | _ => rfl
    · cases h
  | .not a, mc, X, W, e, hX, tk, h, ht => by
    unfold mE at h
    unfold testB at ht
    split at h
    · refine PTV.congr (ptv_not (sT a mc X W _ hX tk h ht)) fun s => ?_
      simp only [ev, R.bind_assoc]
      rfl
    · cases h
  | .idx a b, mc, X, W, e, hX, tk, h, ht => by
    have hv := sE (.idx a b) mc X W e hX tk h
    unfold mE at h
    split at h
    · exact ptv_val hv fun _ => rfl
    · cases h
  | .call f es, mc, X, W, e, hX, tk, h, ht => by
    have hv := sE (.call f es) mc X W e hX tk h
    unfold mE at h
    split at h
    · exact ptv_val hv fun _ => rfl
    · cases h
  | .isi a t, mc, X, W, e, hX, tk, h, ht => by
    have hv := sE (.isi a t) mc X W e hX tk h
    unfold mE at h
    split at h
    · exact ptv_val hv fun _ => rfl
    · cases h
  | .pr q k es, mc, X, W, e, hX, tk, h, ht => by
    have hv := sE (.pr q k es) mc X W e hX tk h
    unfold mE at h
    split at h
    · exact ptv_val hv fun _ => rfl
    · cases h
  | .tup _, _, _, _, _, _, _, _, ht => by unfold testB at ht; cases ht
  | .lst _ _, _, _, _, _, _, _, _, ht => by unfold testB at ht; cases ht
  | .bin _ _ _, _, _, _, _, _, _, _, ht => by unfold testB at ht; cases ht
  | .neg _, _, _, _, _, _, _, _, ht => by unfold testB at ht; cases ht
  | .cat _ _ _, _, _, _, _, _, _, _, ht => by unfold testB at ht; cases ht
  | .rep _ _ _, _, _, _, _, _, _, _, ht => by unfold testB at ht; cases ht
  | .ite _ _ _, _, _, _, _, _, _, _, ht => by unfold testB at ht; cases ht
  | .slc _ _ _ _, _, _, _, _, _, _, _, ht => by unfold testB at ht; cases ht
  | .fld _ _, _, _, _, _, _, _, _, ht => by unfold testB at ht; cases ht
  | .pm _ _ _, _, _, _, _, _, _, _, ht => by unfold testB at ht; cases ht
  | .comp _ _ _ _ _ _, _, _, _, _, _, _, _, ht => by unfold testB at ht; cases ht
  | .frz _, _, _, _, _, _, _, _, ht => by unfold testB at ht; cases ht
end
end
end CL

end
section
/-! Fw13: the look of statements, of defs: that it holds; runs of any depth. -/
set_option Elab.async false
set_option linter.all false
set_option maxRecDepth 100000
set_option maxHeartbeats 8000000
namespace CL
open PySem PySem.Spec PyProof.Rows L2

/-- a, b = x, y with two local names on one line, not all constants -/
def parB (mc : MC) (x y : Str) (px py : Pos) (a b : Expr) : Bool :=
  decide (mc.sc.kind = .function) && (decide (mc.sc.names.lookup x = some .local) && (decide (mc.sc.names.lookup y = some .local) && (decide (x ≠ y) && (decide (py.line = px.line) && (noStar a && (noStar b && (!([a, b].all (foldedForSure 8)) && !([a, b].all (constantsAlone 8)))))))))
theorem star_not {a : Expr} (h : noStar a = true) : (match a with | .Starred .. => true | _ => false) = false := by
  cases a <;> first | rfl | (simp [noStar] at h; done)
theorem swapped_par {env : Env} {x y : Str} {px py pt pt2 : Pos} {kt k2 : Nat} {a b : Expr} (hk : env.scope.kind = .function) (hx : env.scope.names.lookup x = some .local) (hy : env.scope.names.lookup y = some .local) (hne : x ≠ y) (hl : py.line = px.line) (ha : noStar a = true) (hb : noStar b = true)
    (h1 : [a, b].all (foldedForSure 8) = false) (h2 : [a, b].all (constantsAlone 8) = false) : swappedStores [.Tuple [.Name x px, .Name y py] kt pt] (.Tuple [a, b] k2 pt2) env = pure (some [x, y]) := by
  have e1 : env.blockKind = .function := by unfold Env.blockKind; rw [hk]; rfl
  have e2 : env.kindOf x = some .local := hx
  have e3 : env.kindOf y = some .local := hy
  have s1 := star_not ha
  have s2 := star_not hb
  unfold swappedStores
  simp only [List.length_cons, List.length_nil, Nat.zero_add, Nat.reduceAdd, beq_self_eq_true, Bool.true_or, Bool.not_true, Bool.false_or, bne_self_eq_false, e1, List.any_cons, List.any_nil, Bool.or_false, List.head?_cons, Option.map_some, Option.getD_some,
    List.filterMap_cons, e2, e3, List.filterMap_nil, Expr.pos, Bool.and_self, if_true, hl, h1, h2, Bool.false_eq_true, if_false]
  rw [if_neg, if_neg]
  · have hyx : (y == x) = false := beq_eq_false_iff_ne.mpr (Ne.symm hne)
    simp [List.eraseDups_cons, hyx]
  · intro h
    rw [Bool.or_eq_true] at h
    rcases h with h | h
    · revert h s1
      cases a <;> simp
    · revert h s2
      cases b <;> simp
def tupTup : Expr → Expr → Bool
  | .Tuple _ _ _, .Tuple _ _ _ => true
  | .List _ _, .Tuple _ _ _ => true
  | _, _ => false
theorem swapped_none {tg e : Expr} {env : Env} (h : tupTup tg e = false) : swappedStores [tg] e env = pure none := by
  cases tg <;> first
    | rfl
    | (cases e <;> first | rfl | (simp [tupTup] at h; done))
theorem swaps_no {e : Expr} {t : Option Expr} {n : Nat} {env : Env} (h : noComp e = true) : swapsWith e t n env = pure false := by
  cases e <;> first | rfl | (simp [noComp] at h; done)
/-- a comprehension given to a name whose store is exchanged -/
def swB (mc : MC) (y : Str) (py : Pos) (scope : Scope) (p2 : Pos) : Bool := decide (mc.sc.kind = .function) && (decide (mc.sc.names.lookup y = some .local) && ((py.line == p2.line) && !(scope.names.any fun (n, k) => n == y && (k == .local || k == .cell))))
/-- how a value is stored -/
def asgB (mc : MC) (e : Ex) (tg x : Expr) : Bool := match x with
  | .ListComp _ _ scope p2 => (match tg with
    | .Name y py => (match e with
      | .comp _ _ _ _ _ _ => true
      | _ => false) && (swB mc y py scope p2 || decide (mc.sc.names.lookup y = some .cell))
    | _ => false)
  | x => noComp x
theorem asgB_ok {mc : MC} {e : Ex} {tg x : Expr} (h : asgB mc e tg x = true) : noComp x = true ∨ ∃ elt gs scope p2 y py k vs t i c e', x = .ListComp elt gs scope p2 ∧ tg = .Name y py ∧ e = .comp k vs t i c e' ∧ (swB mc y py scope p2 = true ∨ mc.sc.names.lookup y = some .cell) := by
  cases x with
  | ListComp elt gs scope p2 =>
    cases tg with
    | Name y py =>
      obtain ⟨h1, h2⟩ := Bool.and_eq_true_iff.mp (show (_ && _) = true from h)
      cases e with
      | comp k vs t i c e' =>
        refine .inr ⟨elt, gs, scope, p2, y, py, k, vs, t, i, c, e', rfl, rfl, rfl, ?_⟩
        rcases (Bool.or_eq_true _ _).mp h2 with h | h
        · exact .inl h
        · exact .inr (of_decide_eq_true h)
      | _ => cases h1
    | _ => simp [asgB] at h
  | _ => exact .inl h
mutual
def mS (T : GT) (mc : MC) : Sm → Stmt → Bool
  | .expr e, st => match st with
    | .Expr x _ => noComp x && mE T mc e x
    | _ => false
  | .asg t e, st => match st with
    | .Assign [tg] x _ => mT T mc t tg && (mE T mc e x && (!tupTup tg x && (noStar tg && asgB mc e tg x)))
    | _ => false
  | .par is es, st => match is with
    | [i, j] => match st with
      | .Assign [.Tuple [.Name x px, .Name y py] _ _] (.Tuple [a, b] _ _) _ => parB mc x y px py a b && (decide (mc.N[i]? = some x) && (decide (mc.N[j]? = some y) && (decide (i ≠ j) && mEs T mc es [a, b])))
      | _ => false
    | _ => false
  | .aug i o e, st => match st with
    | .AugAssign (.Name x _) op y _ => decide (op = opM o) && ((match o with
      | .add => true
      | .sub => true
      | .mul => true
      | _ => false) && (decide (mc.N[i]? = some x) && (stB mc x && mE T mc e y)))
    | _ => false
  | .ret o, st => match o with
    | none => match st with
      | .Return none _ => true
      | _ => false
    | some e => match st with
      | .Return (some x) _ => mE T mc e x
      | _ => false
  | .ifs c a b, st => match st with
    | .If x p q _ => testB c && (mE T mc c x && (mSs T mc a p && mSs T mc b q))
    | _ => false
  | .for t i body, st => match st with
    | .For tg iter b [] _ => noSet iter && (mT T mc t tg && (mI T mc i iter && mSs T mc body b))
    | _ => false
  | .whl _ c body, st => match st with
    | .While x b [] _ => testB c && (mE T mc c x && mSs T mc body b)
    | _ => false
  | .brk, st => match st with
    | .Break _ => true
    | _ => false
  | .cnt, st => match st with
    | .Continue _ => true
    | _ => false
  | .pas, st => match st with
    | .Pass _ => true
    | _ => false
  | .rse c m, st => match st with
    | .Raise (some (.Call (.Name x _) [.Constant (.str s) _ _] [] _)) none _ => decide (T.cls c = some x) && (glB mc.sc x && (okName x && decide (s = strV m)))
    | _ => false
def mSs (T : GT) (mc : MC) : List Sm → List Stmt → Bool
  | [], ss => match ss with
    | [] => true
    | _ => false
  | a :: as, ss => match ss with
    | x :: xs => mS T mc a x && mSs T mc as xs
    | [] => false
end
section
variable {D : Dn} {T : GT} {call : Nat → List AV → List Cell → RC} {lev : Nat}
/-- the classes that may be raised -/
def ExcOk (D : Dn) (T : GT) (X : Cx) : Prop := ∀ c x, T.cls c = some x → x = D.cls c ∧ PySem.W.excIn X.K (He.ga X.K x) He.veBase "ValueError.__new__" = true ∧ X.mg x = some (.ref (He.ga X.K x)) ∧ PySem.W.keepIn X.K (.ref (He.ga X.K x)) = true ∧
  PySem.W.subIn X.K (.ref (He.ga X.K x)) (.type "BaseException") = some true ∧ PySem.W.typeIn X.K (.ref (He.ga X.K x)) = some (.type "type")
theorem PSV.congr {X : Cx} {W : WX} {st : Stmt} {f g : S → R Fl} (h : PSV D X W st f) (k : ∀ s, g s = f s) : PSV D X W st g := by
  have : g = f := funext k
  rw [this]; exact h
theorem PSsV.congr {X : Cx} {W : WX} {st : List Stmt} {f g : S → R Fl} (h : PSsV D X W st f) (k : ∀ s, g s = f s) : PSsV D X W st g := by
  have : g = f := funext k
  rw [this]; exact h
theorem opv_addI {X : Cx} {W : WX} : OpV D X W (fun x y H Q => (∃ i j, x = .int i ∧ y = .int j ∧ Q (.int (i + j)) H) ∨ (∃ i j, x = .str i ∧ y = .str j ∧ i.length + j.length ≤ sizeLine ∧ Q (.str (i ++ j)) H)) (fun x y s => match x with
    | .tup _ => .bad
    | x => binA .add x y s) := by
  intro l m s σ H x y v w Q R0 rx ry q
  cases x with
  | tup xs => exact q.elim
  | int i =>
    rcases opv_add l m s σ H _ y v w Q R0 rx ry q with z | ⟨a, b, xs, ys, e, _⟩
    · exact z
    · rw [vr_int rx] at e; cases e
  | str i =>
    rcases opv_add l m s σ H _ y v w Q R0 rx ry q with z | ⟨a, b, xs, ys, e, _⟩
    · exact z
    · rw [vr_str rx] at e; cases e
  | _ => cases y <;> exact q.elim
theorem aug_of {mc : MC} {X : Cx} (h : XOk D T call lev mc X) (o : Bop) (ho : (match o with
      | .add => true
      | .sub => true
      | .mul => true
      | _ => false) = true) : ∃ r, OpR X (inplaceOp (opM o)) r ∧ ∀ W, OpV D X W r (augA o) := by
  cases o with
  | add => exact ⟨_, iop_add.or iop_add_str, fun W => opv_addI⟩
  | sub => exact ⟨_, iop_sub, fun W => opv_sub⟩
  | mul => exact ⟨_, iop_mul, fun W => opv_mul⟩
  | _ => cases ho
end
/-! ### binding -/
theorem zip_lookup : ∀ {ps : List Str} {us : List Value}, ps.Nodup → us.length = ps.length → ps.filterMap (fun n => ((ps.zip us).lookup n).map (n, ·)) = ps.zip us
  | [], us, _, _ => by simp
  | p :: ps, [], _, h => by simp at h
  | p :: ps, u :: us, nd, h => by
    have nd' := List.nodup_cons.mp nd
    have ih := zip_lookup nd'.2 (by simpa using h)
    rw [List.zip_cons_cons, List.filterMap_cons]
    simp only [List.lookup_cons_self, Option.map_some]
    congr 1
    have : ∀ qs : List Str, p ∉ qs → qs.filterMap (fun n => (((p, u) :: ps.zip us).lookup n).map (n, ·)) = qs.filterMap (fun n => ((ps.zip us).lookup n).map (n, ·)) := by
      intro qs
      induction qs with
      | nil => intro _; rfl
      | cons q qs ihq =>
        intro hq
        have hb : (q == p) = false := beq_eq_false_iff_ne.mpr fun e => hq (by simp [e])
        rw [List.filterMap_cons, List.filterMap_cons, List.lookup_cons, hb, ihq fun z => hq (by simp [z])]
    exact (this ps nd'.1).trans ih
theorem zip_none {ps : List Str} {us : List Value} (h : us.length = ps.length) : ps.filter (fun n => ((ps.zip us).lookup n).isNone) = [] := by
  rw [List.filter_eq_nil_iff]
  intro n hn
  have : ∀ {ps : List Str} {us : List Value}, us.length = ps.length → n ∈ ps → ((ps.zip us).lookup n).isSome = true := by
    intro ps
    induction ps with
    | nil => intro us _ h; simp at h
    | cons p ps ih =>
      intro us hl hn
      cases us with
      | nil => simp at hl
      | cons u us =>
        rw [List.zip_cons_cons, List.lookup_cons]
        cases hb : n == p with
        | true => rfl
        | false =>
          have : n ≠ p := beq_eq_false_iff_ne.mp hb
          exact ih (by simpa using hl) ((List.mem_cons.mp hn).resolve_left this)
  have := this h hn
  cases hq : (ps.zip us).lookup n <;> simp_all
theorem bind_plain {fd : FuncData} {ps : List Str} (h1 : fd.params.posonlyargs = []) (h2 : fd.params.args.map (·.arg) = ps) (h3 : fd.params.vararg = none) (h4 : fd.params.kwonlyargs = []) (h5 : fd.params.kwarg = none) (hd : fd.defaults = .none) (nd : ps.Nodup) (us : List Value) (hl : us.length = ps.length) :
    bindArgs fd ⟨us, []⟩ = pure (ps.zip us) := by
  unfold PySem.bindArgs
  have e : seqItems? Value.none = pure none := rfl
  simp only [h1, h2, h3, h4, h5, hd, e, List.map_nil, List.nil_append, List.forIn_nil, pure_bind, Option.getD_none, List.drop_nil, List.length_nil, Nat.sub_zero, Nat.zero_sub]
  simp only [Option.isNone_none, Bool.and_true, hl, gt_iff_lt, Nat.lt_irrefl, decide_false, Bool.false_eq_true, if_false, List.take_length, zip_none hl, List.isEmpty_nil, Bool.not_true, List.drop_length, List.zip_nil_left, List.forIn_nil, pure_bind, List.append_nil, zip_lookup nd hl]
/-! ### statements -/
section
variable {D : Dn} {T : GT} {call : Nat → List AV → List Cell → RC} {lev : Nat}
theorem swaps_lc_false {elt : Expr} {gs : List Comprehension} {scope : Scope} {p2 py : Pos} {y : Str} {l : Nat} {env : Env} (hy : env.scope.names.lookup y = some .cell) : swapsWith (.ListComp elt gs scope p2) (some (.Name y py)) l env = pure false := by
  unfold swapsWith
  have : env.kindOf y = some .cell := hy
  simp only [this]
  have h : (some NameKind.cell == some NameKind.local) = false := by decide
  simp only [h, Bool.and_false, Bool.false_and]
theorem comp_inv {mc : MC} {k : LK} {vs : List Nat} {t : Tg} {i : It} {c : Option Ex} {e : Ex} {elt : Expr} {gs : List Comprehension} {scope : Scope} {p : Pos} (h : mE T mc (.comp k vs t i c e) (.ListComp elt gs scope p) = true) :
    ∃ tg iter ifs, gs = [⟨tg, iter, ifs, 0⟩] ∧ blkC mc.N mc.sc scope (ownOf scope mc.N) = true ∧ (ownOf scope mc.N).map (·.2) = vs ∧ t.slots.all (fun j => vs.contains j) = true ∧ noSet iter = true ∧ mI T mc i iter = true ∧
      mT T ⟨relS scope mc.sc, mc.N, some scope⟩ t tg = true ∧ mE T ⟨relS scope mc.sc, mc.N, some scope⟩ e elt = true ∧ mC T ⟨relS scope mc.sc, mc.N, some scope⟩ c ifs = true := by
  unfold mE at h
  split at h
  · rename_i heq
    injection heq with h1 h2 h3 h4
    subst h1; subst h2; subst h3; subst h4
    simp only [Bool.and_eq_true, decide_eq_true_eq] at h
    obtain ⟨q1, q2, q3, q4, q5, q6, q7, q8⟩ := h
    exact ⟨_, _, _, rfl, q1, q2, q3, q4, q5, q6, q7, q8⟩
  · cases h
mutual
theorem sS : ∀ (x : Sm) (mc : MC) (X : Cx) (W : WX) (st : Stmt), XOk D T call lev mc X → Takes X W → PassesOwn (model X.prog X.w) X.A X.env X.xe → ExcOk D T X → mS T mc x st = true → PSV D X W st (ex call x)
  | .expr e, mc, X, W, st, hX, tk, po, hE, h => by
    unfold mS at h
    split at h
    · obtain ⟨h1, h2⟩ := aand h
      exact PSV.congr (psv_expr (sE e mc X W _ hX tk h2) (swaps_no h1)) fun s => by simp only [ex]
    · cases h
  | .asg t e, mc, X, W, st, hX, tk, po, hE, h => by
    unfold mS at h
    split at h
    · rename_i tg x pos
      obtain ⟨h1, u2⟩ := aand h
      obtain ⟨h2, u3⟩ := aand u2
      obtain ⟨h3, u4⟩ := aand u3
      obtain ⟨h4, h5⟩ := aand u4
      have tt : tupTup tg x = false := by simpa using h3
      have hg := sTg t mc X W t.slots tg hX tk h1 fun j hj => hj
      have ha := sE e mc X W x hX tk h2
      have ea : (assignEach [tg] X.env).map (·.2) = [assign tg X.env] := by rw [asg_cons h4]; rfl
      have plain : swapsWithSole [tg] x pos.line X.env = pure false → PSV D X W (.Assign [tg] x pos) (ex call (.asg t e)) := fun hs =>
        PSV.congr (psv_asg ha hg hs (swapped_none tt) ea) fun s => by simp only [ex]
      rcases asgB_ok h5 with h6 | ⟨elt, gs, scope, p2, y, py, k, vs, t', i, c, e', rfl, rfl, rfl, h6⟩
      · exact plain (swaps_no h6)
      · rcases h6 with h6 | h6
        · obtain ⟨tg', iter, ifs, rfl, h1', hvs, h3, h4, h5, h6', h7, h8⟩ := comp_inv h2
          cases t with
          | nm i0 =>
            unfold mT at h1
            simp only at h1
            obtain ⟨n1, n2⟩ := aand h1
            obtain ⟨w1, w2⟩ := aand h6
            obtain ⟨w2, w3⟩ := aand w2
            obtain ⟨w3, w4⟩ := aand w3
            have w1 := of_decide_eq_true w1
            have w2 := of_decide_eq_true w2
            have hb : BlkOk X.N X.env.scope scope (ownOf scope mc.N) := by rw [hX.N, hX.sc]; exact blkOk_by h1'
            have hsl : ∀ j ∈ t'.slots, j ∈ vs := fun j hj => by
              have := List.all_eq_true.mp h3 j hj
              simpa using this
            have hsw : swapsWith (.ListComp elt [⟨tg', iter, ifs, 0⟩] scope p2) (some (.Name y py)) pos.line X.env = pure true := sw_true (by rw [hX.sc]; exact w1) (by rw [hX.sc]; exact w2) w3 (by simpa using w4)
            refine PSV.congr (psv_setLc (k := k) (i := i0) (itf := itr call i) (tgf := tga call t') (cf := evc call c) (ef := ev call e') hX.calm (by rw [hX.N]; exact hX.nd) (by rw [hX.N]; exact of_decide_eq_true n1) (by rw [hX.sc]; exact w2) hsw (sI i mc X W tg' _ hX tk h5) hb hvs
              (fun s H C cl fp => sTg t' _ _ W0 vs _ (hX.blk s H scope C cl fp) takes0 h6' hsl) (fun s H C cl fp => sC c _ _ _ (hX.blk s H scope C cl fp) h8) (fun s H C cl fp => sE e' _ _ W0 _ (hX.blk s H scope C cl fp) takes0 h7) (fold_set h4)) fun s => ?_
            simp only [ex, ev, tga, compF]; rfl
          | tp _ => unfold mT at h1; simp at h1
          | sub _ _ => unfold mT at h1; simp at h1
          | att _ _ => unfold mT at h1; simp at h1
        · exact plain (swaps_lc_false (l := pos.line) (by rw [hX.sc]; exact h6))
    · cases h
  | .par is es, mc, X, W, st, hX, tk, po, hE, h => by
    unfold mS at h
    split at h
    · rename_i i j
      split at h
      · rename_i x px y py kt pt a b k2 pt2 pos
        obtain ⟨h1, h2⟩ := aand h
        obtain ⟨h2, h3⟩ := aand h2
        obtain ⟨h3, h4⟩ := aand h3
        obtain ⟨h4, h5⟩ := aand h4
        unfold parB at h1
        simp only [Bool.and_eq_true, decide_eq_true_eq, Bool.not_eq_true'] at h1
        obtain ⟨q1, q2, q3, q4, q5, q6, q7, q8, q9⟩ := h1
        have hx : X.env.scope.names.lookup x = some .local := by rw [hX.sc]; exact q2
        have hy : X.env.scope.names.lookup y = some .local := by rw [hX.sc]; exact q3
        exact PSV.congr (opr_par hX.calm (by rw [hX.N]; exact hX.nd) (by rw [hX.N]; exact of_decide_eq_true h2) (by rw [hX.N]; exact of_decide_eq_true h3) (of_decide_eq_true h4) hx hy (sEs es mc X W _ hX tk h5)
          (swapped_par (by rw [hX.sc]; exact q1) hx hy q4 q5 q6 q7 q8 q9) rfl fun s vs s' hs => by rw [evs_len hs, ← (mEs_ns h5).2]; rfl) fun s => by simp only [ex]
      · cases h
    · cases h
  | .aug i o e, mc, X, W, st, hX, tk, po, hE, h => by
    unfold mS at h
    split at h
    · obtain ⟨h1, h2⟩ := aand h
      obtain rfl := of_decide_eq_true h1
      obtain ⟨h2, h3⟩ := aand h2
      obtain ⟨h3, h4⟩ := aand h3
      obtain ⟨h4, h5⟩ := aand h4
      obtain ⟨r, ho, hv⟩ := aug_of hX o h2
      obtain ⟨q1, q2⟩ := hX.sto h4
      exact PSV.congr (psv_aug (by rw [hX.N]; exact hX.nd) (by rw [hX.N]; exact of_decide_eq_true h3) q1 (sE e mc X W _ hX tk h5) ho (hv W) q2) fun s => by simp only [ex] <;> rfl
    · cases h
  | .ret none, mc, X, W, st, hX, tk, po, hE, h => by
    unfold mS at h
    simp only at h
    split at h
    · exact PSV.congr psv_retN fun s => by simp only [ex]
    · cases h
  | .ret (some e), mc, X, W, st, hX, tk, po, hE, h => by
    unfold mS at h
    simp only at h
    split at h
    · exact PSV.congr (psv_ret (sE e mc X W _ hX tk h)) fun s => by simp only [ex]
    · cases h
  | .ifs c a b, mc, X, W, st, hX, tk, po, hE, h => by
    unfold mS at h
    split at h
    · obtain ⟨h1, h2⟩ := aand h
      obtain ⟨h2, h3⟩ := aand h2
      obtain ⟨h3, h4⟩ := aand h3
      exact PSV.congr (psv_ifs (sT c mc X W _ hX tk h2 h1) (sSs a mc X W _ hX tk po hE h3) (sSs b mc X W _ hX tk po hE h4)) fun s => by simp only [ex, R.bind_assoc]
    · cases h
  | .for t i body, mc, X, W, st, hX, tk, po, hE, h => by
    unfold mS at h
    split at h
    · obtain ⟨h1, h2⟩ := aand h
      obtain ⟨h2, h3⟩ := aand h2
      obtain ⟨h3, h4⟩ := aand h3
      exact PSV.congr (psv_for po hX.calm (sI i mc X W _ _ hX tk h3) (sTg t mc X W t.slots _ hX tk h2 fun j hj => hj) (sSs body mc X W _ hX tk po hE h4) (fold_set h1)) fun s => by simp only [ex]
    · cases h
  | .whl n c body, mc, X, W, st, hX, tk, po, hE, h => by
    unfold mS at h
    split at h
    · obtain ⟨h1, h2⟩ := aand h
      obtain ⟨h2, h3⟩ := aand h2
      exact PSV.congr (psv_whl (n := n) po (sT c mc X W _ hX tk h2 h1) (sSs body mc X W _ hX tk po hE h3)) fun s => by simp only [ex]
    · cases h
  | .brk, mc, X, W, st, hX, tk, po, hE, h => by
    unfold mS at h
    split at h
    · exact PSV.congr psv_brk fun s => by simp only [ex]
    · cases h
  | .cnt, mc, X, W, st, hX, tk, po, hE, h => by
    unfold mS at h
    split at h
    · exact PSV.congr psv_cnt fun s => by simp only [ex]
    · cases h
  | .pas, mc, X, W, st, hX, tk, po, hE, h => by
    unfold mS at h
    split at h
    · exact PSV.congr psv_pas fun s => by simp only [ex]
    · cases h
  | .rse c m, mc, X, W, st, hX, tk, po, hE, h => by
    unfold mS at h
    split at h
    · obtain ⟨h1, h2⟩ := aand h
      obtain ⟨h2, h3⟩ := aand h2
      obtain ⟨h3, h4⟩ := aand h3
      obtain ⟨e1, e2, e3, e4, e5, e6⟩ := hE c _ (of_decide_eq_true h1)
      exact PSV.congr (psv_rse hX.calm tk e1 e2 e3 e4 e5 e6 (hX.gl h2) (okn h3).1) fun s => by simp only [ex]
    · cases h
theorem sSs : ∀ (x : List Sm) (mc : MC) (X : Cx) (W : WX) (st : List Stmt), XOk D T call lev mc X → Takes X W → PassesOwn (model X.prog X.w) X.A X.env X.xe → ExcOk D T X → mSs T mc x st = true → PSsV D X W st (exs call x)
  | [], mc, X, W, st, hX, tk, po, hE, h => by
    unfold mSs at h
    split at h
    · exact PSsV.congr pssv_nil fun s => by simp only [exs]
    · cases h
  | a :: as, mc, X, W, st, hX, tk, po, hE, h => by
    unfold mSs at h
    split at h
    · obtain ⟨h1, h2⟩ := aand h
      exact PSsV.congr (pssv_cons (sS a mc X W _ hX tk po hE h1) (sSs as mc X W _ hX tk po hE h2)) fun s => by simp only [exs] <;> rfl
    · cases h
end
end
end CL

end
section
/-! Fw14: the defs of a table keep what the runs of their trees say; the law's end. -/
set_option Elab.async false
set_option linter.all false
set_option maxRecDepth 100000
namespace CL
open PySem PySem.Spec PyProof.Rows L2

structure FE where
  d : He.DefD
  N : List Str
  ps : List Str
  fd : FD
def FE.gf (e : FE) : GF := ⟨e.d.at_, e.ps⟩
def parOk (sc : Scope) (x : Str) : Bool := match sc.names.lookup x with
  | some .local => true
  | some .cell => true
  | _ => false
def argsB (p : Arguments) (ps : List Str) : Bool := p.posonlyargs.isEmpty && (decide (p.args.map (·.arg) = ps) && (p.vararg.isNone && (p.kwonlyargs.isEmpty && p.kwarg.isNone)))
def scopeB (sc : Scope) (N ps : List Str) : Bool := decide (sc.kind = .function) && (!sc.isCoroutine && (!sc.isGenerator && (decide N.Nodup && (decide (N.take ps.length = ps) && (ps.all (parOk sc) && sc.names.all fun y => decide (y.2 ≠ .free))))))
def fnB (T : GT) (e : FE) : Bool := e.d.dfl.isEmpty && (e.d.kwd.isEmpty && (argsB e.d.params e.ps && (scopeB e.d.scope e.N e.ps && (decide e.ps.Nodup && (decide (e.fd.np = e.ps.length) && (decide (e.fd.nn = e.N.length) && mSs T ⟨e.d.scope, e.N, none⟩ e.fd.body e.d.body))))))
theorem isEmpty_nil {α : Type} {l : List α} (h : l.isEmpty = true) : l = [] := by cases l with
  | nil => rfl
  | cons _ _ => cases h
theorem isNone_none {α : Type} {l : Option α} (h : l.isNone = true) : l = none := by cases l with
  | none => rfl
  | some _ => cases h
theorem not_t {b : Bool} (h : (!b) = true) : b = false := by cases b <;> first | rfl | cases h
theorem scopeB_ok {sc : Scope} {N ps : List Str} (h : scopeB sc N ps = true) : FnScope N ps sc := by
  unfold scopeB at h
  obtain ⟨h1, h⟩ := aand h
  obtain ⟨h2, h⟩ := aand h
  obtain ⟨h3, h⟩ := aand h
  obtain ⟨h4, h⟩ := aand h
  obtain ⟨h5, h⟩ := aand h
  obtain ⟨h6, h7⟩ := aand h
  refine ⟨of_decide_eq_true h1, not_t h2, not_t h3, of_decide_eq_true h4, of_decide_eq_true h5, fun x hx => ?_, fun y hy => ?_⟩
  · have := List.all_eq_true.mp h6 x hx
    unfold parOk at this
    split at this
    · rename_i q; exact .inl q
    · rename_i q; exact .inr q
    · cases this
  · exact of_decide_eq_true (List.all_eq_true.mp h7 y hy)

/-- what the module behind the top must be -/
structure WOk (D : Dn) (T : GT) (K : PySem.W.Frag) (mg : Str → Option Value) : Prop where
  gv : ∀ x av, T.gv.lookup x = some av → ∃ v u, mg x = some u ∧ RelV v u ∧ ∀ H m, VR0 K H m av v
  free : ∀ x, x ∈ T.free → mg x = none
  fns : ∀ (i : Nat) (d : GF) x, T.fns i = some d → d.at_ = (x, none) → mg x = some (.ref (He.fAd K d.at_))
  exc : ∀ (c : Nat) x, T.cls c = some x → x = D.cls c ∧ PySem.W.excIn K (He.ga K x) He.veBase "ValueError.__new__" = true ∧ mg x = some (.ref (He.ga K x)) ∧ PySem.W.keepIn K (.ref (He.ga K x)) = true ∧
    PySem.W.subIn K (.ref (He.ga K x)) (.type "BaseException") = some true ∧ PySem.W.typeIn K (.ref (He.ga K x)) = some (.type "type")
def fnsOf (l : List (Nat × FE)) (i : Nat) : Option FD := (l.lookup i).map FE.fd
theorem mem_lookup {α : Type} {i : Nat} {e : α} : ∀ {l : List (Nat × α)}, l.lookup i = some e → (i, e) ∈ l
  | [], h => by cases h
  | (j, x) :: l, h => by
    rw [List.lookup_cons] at h
    split at h
    · rename_i q; cases h; rw [eq_of_beq q]; exact List.mem_cons_self ..
    · exact List.mem_cons_of_mem _ (mem_lookup h)
/-- a call's start -/
theorem rel_start {D : Dn} {K : PySem.W.Frag} {m : List Addr} {st : List Cell} {H : Hp} {avs : List AV} {vs : List V} {N : List Str} {nn : Nat} (x : SX D K m st H) (r : VRs K H m avs vs) (hn : nn = N.length) : Rel D K [] m ⟨startA nn avs, [], st⟩ (L2.start N vs) H := by
  have hl := VRs.len r
  refine ⟨?_, fun i y hy => ?_, rfl, fun k xs a h _ => ?_, x.sr, List.nodup_nil, fun a ha => ?_, fun a ha => ?_⟩
  · subst hn
    show (startA N.length avs).length = (L2.start N vs).length
    simp [startA, L2.start, hl]
  · have hy : (avs.map some ++ List.replicate (nn - avs.length) none)[i]? = some (some y) := hy
    by_cases hi : i < avs.length
    · rw [List.getElem?_append_left (by simpa using hi)] at hy
      rw [List.getElem?_map] at hy
      cases ha : avs[i]? with
      | none => rw [ha] at hy; cases hy
      | some z =>
        rw [ha] at hy
        simp only [Option.map_some, Option.some.injEq] at hy
        subst hy
        obtain ⟨v, e1, e2⟩ := VRs.get r ha
        refine ⟨v, ?_, VR.up e2⟩
        show (vs.map some ++ List.replicate (N.length - vs.length) none)[i]? = _
        rw [List.getElem?_append_left (by simpa [← hl] using hi), List.getElem?_map, e1]; rfl
    · rw [List.getElem?_append_right (by simpa using Nat.le_of_not_lt hi), List.getElem?_replicate] at hy
      split at hy
      · simp at hy
      · cases hy
  · simp at h
  · cases ha
  · rcases ha with ha | ha
    · cases ha
    · exact x.liv a ha
section
variable {D : Dn} {P : Program} {w : World} {K : PySem.W.Frag} {mg : Str → Option Value} {base : Heap}
theorem fn_all {T : GT} {l : List (Nat × FE)} (hT : ∀ i, T.fns i = (l.lookup i).map FE.gf) (hB : (l.all fun e => fnB T e.2) = true) (W : WOk D T K mg)
    (hD : ∀ (i : Nat) (e : FE), l.lookup i = some e → ∃ fd, FunD K e.d.name e.d.qual e.d.params e.d.body e.d.scope (e.d.dvs K) (e.d.kws K) (He.fAd K e.d.at_) fd) :
    ∀ (n i : Nat) (e : FE), l.lookup i = some e → ∀ fd : FuncData, FunD K e.d.name e.d.qual e.d.params e.d.body e.d.scope (e.d.dvs K) (e.d.kws K) (He.fAd K e.d.at_) fd → FnOk P w K mg base (L2.CX P w) (2 * n) (He.fAd K e.d.at_) fd e.ps (spOf D K e.ps.length (runF (fnsOf l) n i)) ∧ Binds K fd e.ps [] ∧ (∀ (s : Shared) (us : List Value), us.length = e.ps.length → BindsTo s fd ⟨us, []⟩ (e.ps.zip us)) := by
  intro n
  induction n with
  | zero =>
    intro i e hi fd F
    have he : (i, e) ∈ l := mem_lookup hi
    have hb := List.all_eq_true.mp hB _ he
    simp only at hb
    unfold fnB at hb
    obtain ⟨b1, hb⟩ := aand hb
    obtain ⟨b2, hb⟩ := aand hb
    obtain ⟨b3, hb⟩ := aand hb
    obtain ⟨b4, hb⟩ := aand hb
    obtain ⟨b5, hb⟩ := aand hb
    have d0 : e.d.dvs K = [] := by show e.d.dfl.map _ = []; rw [isEmpty_nil b1]; rfl
    rw [d0] at F
    unfold argsB at b3
    obtain ⟨a1, b3⟩ := aand b3
    obtain ⟨a2, b3⟩ := aand b3
    obtain ⟨a3, b3⟩ := aand b3
    obtain ⟨a4, a5⟩ := aand b3
    have nob : ∀ vs H Q E, ¬ spOf D K e.ps.length (runF (fnsOf l) 0 i) vs H Q E := fun vs H Q E h => by
      obtain ⟨m, st, avs, _, _, _, q⟩ := h
      exact q
    refine ⟨⟨fun vs H Q E h => (nob _ _ _ _ h).elim, fun A outer s H args us vs Q E hr e0 hb hv h => (nob _ _ _ _ h).elim⟩, ?_, ?_⟩
    · exact F.bindsN fun kV doc pm an cdv ct us hl => bind_plain (isEmpty_nil a1) (of_decide_eq_true a2) (isNone_none a3) (isEmpty_nil a4) (isNone_none a5) rfl (of_decide_eq_true b5) us hl
    · exact F.bindsA fun kV doc pm an cdv ct us hl => bind_plain (isEmpty_nil a1) (of_decide_eq_true a2) (isNone_none a3) (isEmpty_nil a4) (isNone_none a5) rfl (of_decide_eq_true b5) us hl
  | succ n ih =>
    intro i e hi fd F
    have he : (i, e) ∈ l := mem_lookup hi
    have hb := List.all_eq_true.mp hB _ he
    simp only at hb
    unfold fnB at hb
    obtain ⟨b1, hb⟩ := aand hb
    obtain ⟨b2, hb⟩ := aand hb
    obtain ⟨b3, hb⟩ := aand hb
    obtain ⟨b4, hb⟩ := aand hb
    obtain ⟨b5, hb⟩ := aand hb
    obtain ⟨b6, hb⟩ := aand hb
    obtain ⟨b7, b8⟩ := aand hb
    have d0 : e.d.dvs K = [] := by show e.d.dfl.map _ = []; rw [isEmpty_nil b1]; rfl
    rw [d0] at F
    unfold argsB at b3
    obtain ⟨a1, b3⟩ := aand b3
    obtain ⟨a2, b3⟩ := aand b3
    obtain ⟨a3, b3⟩ := aand b3
    obtain ⟨a4, a5⟩ := aand b3
    have S := scopeB_ok b4
    refine ⟨?_, ?_, ?_⟩
    · refine F.ok (k := 2 * n + 1) S (fun vs H Q E h => ?_) fun cdv A outer s H vs Q E hr h => ?_
      · obtain ⟨m, st, avs, _, r, hn, _⟩ := h
        rw [← VRs.len r, hn]
      · obtain ⟨m, st, avs, hx, r, hn, q⟩ := h
        have hX : XOk D T (runF (fnsOf l) n) (2 * n) ⟨e.d.scope, e.N, none⟩ (cxOf (L2.CX P w) P w K mg base e.N e.d.qual e.d.scope (He.fAd K e.d.at_) cdv A outer s H E) := by
          refine ⟨rfl, rfl, S.nd, rfl, hr, W.gv, W.free, fun j d x hj hd => ?_, fun x => rfl, fun b hb => by cases hb⟩
          have hj' := hj
          rw [hT] at hj
          cases hl : l.lookup j with
          | none => rw [hl] at hj; cases hj
          | some e' =>
            rw [hl] at hj
            simp only [Option.map_some, Option.some.injEq] at hj
            subst hj
            obtain ⟨fd', F2⟩ := hD j e' hl
            obtain ⟨F', B', _⟩ := ih j e' hl fd' F2
            exact ⟨W.fns j _ x hj' hd, F2.kp, fd', F', B'⟩
        refine ⟨_, sSs e.fd.body _ _ (fun cls d _ H => E cls d H) _ hX (takes_of rfl rfl rfl rfl) (passes_of rfl) (fun c x hc => W.exc c x hc) b8, [], m, ⟨startA e.fd.nn avs, [], st⟩, rel_start hx r (of_decide_eq_true b7), ?_⟩
        have hf : fnsOf l i = some e.fd := by unfold fnsOf; rw [hi]; rfl
        have hnp : avs.length = e.fd.np := by rw [hn, of_decide_eq_true b6]
        unfold runF at q
        simp only [hf, hnp, if_true] at q
        cases hz : exs (runF (fnsOf l) n) e.fd.body ⟨startA e.fd.nn avs, [], st⟩ with
        | bad => rw [hz] at q; exact q
        | exn c p st' =>
          rw [hz] at q
          exact fun m' H' x1 e1 cls d hx1 σ => q m' H' x1 e1 cls d hx1
        | ok fl s' =>
          rw [hz] at q
          intro l' m' σ' H' R1 E1
          cases fl with
          | nxt => exact q m' H' R1.sx E1.toX .non (by unfold VR0; rfl)
          | ret v => exact fun x hv => q m' H' R1.sx E1.toX x hv
          | brk => exact q.elim
          | cnt => exact q.elim
    · exact F.bindsN fun kV doc pm an cdv ct us hl => bind_plain (isEmpty_nil a1) (of_decide_eq_true a2) (isNone_none a3) (isEmpty_nil a4) (isNone_none a5) rfl (of_decide_eq_true b5) us hl
    · exact F.bindsA fun kV doc pm an cdv ct us hl => bind_plain (isEmpty_nil a1) (of_decide_eq_true a2) (isNone_none a3) (isEmpty_nil a4) (isNone_none a5) rfl (of_decide_eq_true b5) us hl
/-- the law's promise, of its run -/
theorem law_sp {run : List AV → List Cell → RC} {H : Hp} {a : Addr} {ns : List Int} {st : List Cell} (hO : Only H) (hS : SqL K H a (ns.map V.int)) (hr : run [.scr ns] [] = .ok (.bl true) st) : spOf D K 1 run [.ref a] H (fun v _ => v = .bl true) fun _ _ _ => False := by
  refine ⟨[], [], [.scr ns], ⟨⟨rfl, List.nodup_nil, fun c x a h => by simp at h⟩, fun a ha => by cases ha⟩, ?_, rfl, ?_⟩
  · refine VRs.cons ?_ VRs.nil
    unfold VR0
    refine ⟨a, rfl, ?_⟩
    rcases hS with h | h
    · rcases hO a with z | ⟨o, xs, z⟩
      · rcases h with h | ⟨o, h⟩
        · rw [z] at h; cases h
        · rw [z] at h; cases h
      · rcases h with h | ⟨o', h⟩
        · rw [z] at h; cases h
        · exact .inl ⟨o', h⟩
    · exact .inr h
  · rw [hr]
    intro m' H' _ _ x hx
    unfold VR0 at hx
    exact hx
end
end CL

end
section
/-! Fw15: what a head tells is what the table asks; the law's end. -/
set_option Elab.async false
set_option linter.all false
set_option maxRecDepth 100000
namespace CL
open PySem PySem.Spec PyProof.Rows L2

mutual
/-- a constant of the module -/
def cvB (K : PySem.W.Frag) : AV → Value → Bool
  | .non, u => match u with
    | .none => true
    | _ => false
  | .bl b, u => match u with
    | .bool c => b == c
    | _ => false
  | .int i, u => match u with
    | .int j _ => decide (i = j)
    | _ => false
  | .str x, u => match u with
    | .str y _ => decide (strV x = y)
    | _ => false
  | .tup xs, u => match u with
    | .ref a => match K.lookup a with
      | some ⟨.type c, _, .seq its _, _⟩ => decide (c = "tuple") && (decide (its.size ≤ sizeLine) && cvBs K xs its.toList)
      | _ => false
    | _ => false
  | _, _ => false
def cvBs (K : PySem.W.Frag) : List AV → List Value → Bool
  | [], us => match us with
    | [] => true
    | _ => false
  | x :: xs, us => match us with
    | u :: us => cvB K x u && cvBs K xs us
    | [] => false
end
mutual
theorem cvB_ok {K : PySem.W.Frag} : ∀ (x : AV) (u : Value), cvB K x u = true → ∃ v, RelV v u ∧ ∀ H m, VR0 K H m x v
  | .non, u, h => by
    unfold cvB at h
    split at h
    · exact ⟨.non, rfl, fun H m => by unfold VR0; rfl⟩
    · cases h
  | .bl b, u, h => by
    unfold cvB at h
    split at h
    · exact ⟨.bl b, by rw [eq_of_beq h]; rfl, fun H m => by unfold VR0; rfl⟩
    · cases h
  | .int b, u, h => by
    unfold cvB at h
    split at h
    · exact ⟨.int b, ⟨_, by rw [of_decide_eq_true h]⟩, fun H m => by unfold VR0; rfl⟩
    · cases h
  | .str b, u, h => by
    unfold cvB at h
    split at h
    · exact ⟨.str (strV b), ⟨_, by rw [of_decide_eq_true h]⟩, fun H m => by unfold VR0; rfl⟩
    · cases h
  | .tup xs, u, h => by
    unfold cvB at h
    split at h
    · rename_i a
      split at h
      · rename_i c d its n sl q
        obtain ⟨h1, h2⟩ := aand h
        obtain ⟨h3, h4⟩ := aand h2
        obtain ⟨vs, r, k⟩ := cvBs_ok xs its.toList h4
        refine ⟨.ref a, rfl, fun H m => ?_⟩
        unfold VR0
        exact ⟨a, vs, rfl, .inr ⟨_, its, n, q, congrArg Value.type (of_decide_eq_true h1), rfl, of_decide_eq_true h3, r⟩, k H m⟩
      · cases h
    · cases h
  | .lst _, u, h => by unfold cvB at h; cases h
  | .scr _, u, h => by unfold cvB at h; cases h
  | .loc _, u, h => by unfold cvB at h; cases h
  | .ref _, u, h => by unfold cvB at h; cases h
theorem cvBs_ok {K : PySem.W.Frag} : ∀ (xs : List AV) (us : List Value), cvBs K xs us = true → ∃ vs, Vals vs us ∧ ∀ H m, VRs K H m xs vs
  | [], us, h => by
    unfold cvBs at h
    split at h
    · exact ⟨[], .nil, fun H m => VRs.nil⟩
    · cases h
  | x :: xs, us, h => by
    unfold cvBs at h
    split at h
    · obtain ⟨h1, h2⟩ := aand h
      obtain ⟨v, r, k⟩ := cvB_ok x _ h1
      obtain ⟨vs, r2, k2⟩ := cvBs_ok xs _ h2
      exact ⟨v :: vs, .cons r r2, fun H m => VRs.cons (k H m) (k2 H m)⟩
    · cases h
end
def gvB (gv : List (Str × AV)) (K : PySem.W.Frag) : Bool := gv.all fun q => match PySem.W.nsIn K mainGlobals q.1 with
  | some (some u) => cvB K q.2 u
  | _ => false
def gfa (l : List (Nat × FE)) (cl : List (Nat × Str)) (free : List Str) : List He.Fa := (l.map fun e => He.Fa.glo e.2.d.at_.1) ++ (free.map He.Fa.free ++ cl.flatMap fun c => [He.Fa.exc c.2, He.Fa.glo c.2])
def mkT (l : List (Nat × FE)) (cl : List (Nat × Str)) (gv : List (Str × AV)) (free : List Str) : GT := ⟨fun i => (l.lookup i).map FE.gf, fun c => cl.lookup c, gv, free⟩
theorem lookup_mem2 {α β : Type} [BEq α] [LawfulBEq α] {i : α} {e : β} : ∀ {l : List (α × β)}, l.lookup i = some e → (i, e) ∈ l
  | [], h => by cases h
  | (j, x) :: l, h => by
    rw [List.lookup_cons] at h
    split at h
    · rename_i q; cases h; rw [eq_of_beq q]; exact List.mem_cons_self ..
    · exact List.mem_cons_of_mem _ (lookup_mem2 h)
theorem wok {D : Dn} {l : List (Nat × FE)} {cl : List (Nat × Str)} {gv : List (Str × AV)} {free : List Str} {w : World} {h : Heap} {K : PySem.W.Frag} {mg : Str → Option Value} (hc : ∀ c x, cl.lookup c = some x → x = D.cls c)
    (X : K.In h) (G : h.Ns mainGlobals mg) (c : He.SaysX (gfa l cl free) (l.map fun e => e.2.d) [] [] (gvB gv) w h K) : WOk D (mkT l cl gv free) K mg := by
  have fct : ∀ f, f ∈ gfa l cl free → f.ok K = true := fun f hf => He.SaysD.facts c.t.d hf
  refine ⟨fun x av q => ?_, fun x hx => ?_, fun i d x q hd => ?_, fun k x q => ?_⟩
  · have m := List.all_eq_true.mp c.more _ (lookup_mem2 (show gv.lookup x = some av from q))
    simp only at m
    split at m
    · rename_i u e
      obtain ⟨v, r, k⟩ := cvB_ok av u m
      exact ⟨v, u, PySem.W.mg_of X G e, r, k⟩
    · cases m
  · exact He.free_ok X G (fct (.free x) (List.mem_append_right _ (List.mem_append_left _ (List.mem_map.mpr ⟨x, hx, rfl⟩))))
  · have q : (l.lookup i).map FE.gf = some d := q
    cases e : l.lookup i with
    | none => rw [e] at q; cases q
    | some z =>
      rw [e] at q
      simp only [Option.map_some, Option.some.injEq] at q
      subst q
      have hd : z.d.at_ = (x, none) := hd
      have := He.glo_ok X G (fct (.glo x) (List.mem_append_left _ (List.mem_map.mpr ⟨(i, z), lookup_mem2 e, by simp only [hd]⟩)))
      show mg x = some (.ref (He.fAd K z.d.at_))
      rw [hd]
      exact this
  · have q : cl.lookup k = some x := q
    have m := lookup_mem2 q
    have f1 := He.exc_ok (fct (.exc x) (List.mem_append_right _ (List.mem_append_right _ (List.mem_flatMap.mpr ⟨(k, x), m, by simp⟩))))
    have f2 := He.glo_ok X G (fct (.glo x) (List.mem_append_right _ (List.mem_append_right _ (List.mem_flatMap.mpr ⟨(k, x), m, by simp⟩))))
    exact ⟨hc k x q, f1.1, f2, f1.2.1, f1.2.2.1, f1.2.2.2⟩
/-- the law's def over the head -/
theorem law_fn {D : Dn} {P : Program} {w : World} {l : List (Nat × FE)} {cl : List (Nat × Str)} {gv : List (Str × AV)} {free : List Str} {h : Heap} {K : PySem.W.Frag} {mg : Str → Option Value} {x : Str} {i n : Nat} {e : FE} {fa : Addr}
    (hc : ∀ c x, cl.lookup c = some x → x = D.cls c) (hB : (l.all fun e => fnB (mkT l cl gv free) e.2) = true) (hi : l.lookup i = some e) (hp : e.ps = [x]) (ha : e.d.at_ = (("law" : Str), (none : Option Str))) (X : K.In h) (G : h.Ns mainGlobals mg)
    (hfa : mg ("law" : Str) = some (.ref fa)) (c : He.SaysX (gfa l cl free) (l.map fun e => e.2.d) [] [] (gvB gv) w h K) :
    ∃ fd : FuncData, (∀ (s : Shared) (v : Value), BindsTo s fd ⟨[v], []⟩ [(x, v)]) ∧ ∀ base : Heap, FnOk P w K mg base (L2.CX P w) (2 * n) fa fd [x] (spOf D K 1 (runF (fnsOf l) n i)) := by
  have W := wok hc X G c
  have hD : ∀ (i : Nat) (e : FE), l.lookup i = some e → ∃ fd, FunD K e.d.name e.d.qual e.d.params e.d.body e.d.scope (e.d.dvs K) (e.d.kws K) (He.fAd K e.d.at_) fd := fun i e q =>
    He.SaysD.defs c.t.d (List.mem_map.mpr ⟨(i, e), lookup_mem2 q, rfl⟩)
  have f1 := W.fns i e.gf "law" (by show (l.lookup i).map FE.gf = _; rw [hi]; rfl) ha
  have ef : fa = He.fAd K e.d.at_ := by
    have := hfa.symm.trans f1
    cases this
    rfl
  obtain ⟨fd, F⟩ := hD i e hi
  obtain ⟨_, _, b⟩ := fn_all (P := P) (w := w) (base := h) (fun _ => rfl) hB W hD n i e hi fd F
  refine ⟨fd, fun s v => ?_, fun base => ?_⟩
  · have := b s [v] (by rw [hp]; rfl)
    rw [hp] at this
    exact this
  · obtain ⟨F, _, _⟩ := fn_all (P := P) (w := w) (base := base) (fun _ => rfl) hB W hD n i e hi fd F
    rw [hp, ← ef] at F
    exact F
theorem nodup_at {α : Type} : ∀ {l : List α} {i j : Nat} {hi : i < l.length} {hj : j < l.length}, l.Nodup → l[i] = l[j] → i = j
  | [], i, _, hi, _, _, _ => by cases hi
  | x :: l, 0, 0, _, _, _, _ => rfl
  | x :: l, 0, j + 1, _, hj, nd, e => absurd (show x ∈ l by rw [show x = l[j]'(Nat.lt_of_succ_lt_succ hj) from e]; exact List.getElem_mem _) (List.nodup_cons.mp nd).1
  | x :: l, i + 1, 0, hi, _, nd, e => absurd (show x ∈ l by rw [show x = l[i]'(Nat.lt_of_succ_lt_succ hi) from e.symm]; exact List.getElem_mem _) (List.nodup_cons.mp nd).1
  | x :: l, i + 1, j + 1, hi, hj, nd, e => congrArg Nat.succ (nodup_at (l := l) (hi := Nat.lt_of_succ_lt_succ hi) (hj := Nat.lt_of_succ_lt_succ hj) (List.nodup_cons.mp nd).2 e)
def mkD (cls fld : List Str) (h : fld.Nodup) : Dn := ⟨fun c => cls.getD c "", fun f => fld.getD f "", fld.length, fun f g hf hg e => by
  have e : fld.getD f "" = fld.getD g "" := e
  rw [List.getD_eq_getElem?_getD, List.getD_eq_getElem?_getD, List.getElem?_eq_getElem hf, List.getElem?_eq_getElem hg] at e
  exact nodup_at (hi := hf) (hj := hg) h (by simpa using e)⟩
/-- the law's end over the head -/
theorem law_walk {D : Dn} {l : PySem.W.OpenLaw} {m n i : Nat} {q : Program} {loose : List Str} {XP : (Str → Option Value) → Heap → Prop} {d : DefRec} {x : Str} {tl : List (Nat × FE)} {cl : List (Nat × Str)} {gv : List (Str × AV)} {free : List Str} {e : FE}
    (hn : l.most = some m) (hn2 : m ≤ sizeLine) (hdf : d.params.defaults = []) (hr : Room (2 * n) callerA) (hd : d.name = ("law" : Str))
    (hc : ∀ c x, cl.lookup c = some x → x = D.cls c) (hB : (tl.all fun e => fnB (mkT tl cl gv free) e.2) = true) (hi : tl.lookup i = some e) (hp : e.ps = [x]) (ha : e.d.at_ = (("law" : Str), (none : Option Str)))
    (run : ∀ ns : List Int, ns.length ≤ m → ∃ st, runF (fnsOf tl) n i [.scr ns] [] = .ok (.bl true) st) :
    PySem.W.WalkO q loose XP (He.hookX 4 (gfa tl cl free) (tl.map fun e => e.2.d) [] [] (gvB gv)).says l.row.toRowW d [] (fun f vs => PySem.call f vs) := by
  refine Att.attach_call hn hdf fun w s₀ s₁ mg mb fa o pm cd doc a vs ns G Y ho hd' hcd hmg hobj hints hlen hg => ?_
  obtain ⟨K, KX, c⟩ := Y
  rw [hd] at hmg
  obtain ⟨fd, hb, hF⟩ := law_fn (P := l.prog) (w := w) (x := x) (n := n) hc hB hi hp ha KX G.T.g hmg c
  exact law_call KX G.T.g G.T.b G.T.builtins G.T.nolimit hg hobj hints (Nat.le_trans hlen hn2) hr (fun base _ _ => hF base) hb (fun H hO hS => by
    obtain ⟨st, h⟩ := run ns hlen
    exact law_sp hO hS h) fun H e s' h => by
    obtain ⟨_, _, _, _, _, _, _, _, _, _, _, _, z⟩ := h
    exact z
end CL

end
section
/-! Ww: what must hold ahead of a tree that what is wished holds behind it. -/
set_option Elab.async false
set_option linter.all false
namespace CL
abbrev XP := Nat → Option AV → List Cell → Prop
def noX : XP := fun _ _ _ => False
def R.W {α : Type} (r : R α) (X : XP) (Q : α → S → Prop) : Prop := match r with
  | .ok a s => Q a s
  | .exn c p st => X c p st
  | .bad => False
def RC.W (r : RC) (X : XP) (Q : AV → List Cell → Prop) : Prop := match r with
  | .ok a st => Q a st
  | .exn c p st => X c p st
  | .bad => False
theorem R.W.mono {α : Type} {r : R α} {X : XP} {Q Q' : α → S → Prop} (h : r.W X Q) (k : ∀ a s, Q a s → Q' a s) : r.W X Q' := by
  cases r with
  | ok a s => exact k a s h
  | exn _ _ _ => exact h
  | bad => exact h
theorem R.W.bnd {α β : Type} {r : R α} {f : α → S → R β} {X : XP} {Q : β → S → Prop} (h : r.W X fun a s => (f a s).W X Q) : (r.bind f).W X Q := by
  cases r with
  | ok a s => exact h
  | exn _ _ _ => exact h
  | bad => exact h
theorem R.W.nox {α : Type} {r : R α} {X : XP} {Q : α → S → Prop} (h : r.W noX Q) : r.nox.W X Q := by
  cases r with
  | ok a s => exact h
  | exn _ _ _ => exact h.elim
  | bad => exact h
/-- one of two -/
def condW (t : Bool) (A B : Prop) : Prop := match t with
  | true => A
  | false => B
theorem cond_b {t : Bool} {A B : Prop} (h1 : t = true → A) (h2 : t = false → B) : condW t A B := by
  cases t
  · exact h2 rfl
  · exact h1 rfl
theorem cond_d {p : Prop} {d : Decidable p} {A B : Prop} (h1 : p → A) (h2 : ¬p → B) : condW (@decide p d) A B := cond_b (fun h => h1 (of_decide_eq_true h)) fun h => h2 (of_decide_eq_false h)
theorem cond_t {t : Bool} {A B : Prop} (h : t = true) (k : A) : condW t A B := by rw [h]; exact k
theorem cond_f {t : Bool} {A B : Prop} (h : t = false) (k : B) : condW t A B := by rw [h]; exact k
theorem cond_if {t : Bool} {α : Type} {a b : R α} {X : XP} {Q : α → S → Prop} {A B : Prop} (h : condW t A B) (h1 : A → a.W X Q) (h2 : B → b.W X Q) : (if t = true then a else b).W X Q := by
  cases t
  · exact h2 h
  · exact h1 h
/-! ### the parts -/
def getW (l : List (Option AV)) : Nat → (AV → Prop) → Prop := match l with
  | [] => fun _ _ => False
  | o :: l => fun i Q => match i with
    | 0 => match o with
      | some v => Q v
      | none => False
    | i + 1 => getW l i Q
theorem getW_ok {l : List (Option AV)} {i : Nat} {Q : AV → Prop} (h : getW l i Q) : ∃ v, l[i]? = some (some v) ∧ Q v := by
  induction l generalizing i with
  | nil => exact h.elim
  | cons o l ih =>
    cases i with
    | zero =>
      cases o with
      | none => exact h.elim
      | some v => exact ⟨v, rfl, h⟩
    | succ i =>
      obtain ⟨v, e, q⟩ := ih (i := i) h
      exact ⟨v, by simpa using e, q⟩
def seqW (s : S) (x : AV) (Q : List AV → Prop) : Prop := match x with
  | .tup xs => Q xs
  | .lst xs => Q xs
  | .scr ns => Q (ns.map .int)
  | .loc k => ∃ xs, s.loc[k]? = some (some xs) ∧ Q xs
  | .ref c => ∃ xs, s.sto[c]? = some (.lst xs) ∧ Q xs
  | _ => False
theorem seqW_ok {s : S} {x : AV} {Q : List AV → Prop} (h : seqW s x Q) : ∃ xs, s.seq x = some xs ∧ Q xs := by
  cases x <;> first | exact ⟨_, rfl, h⟩ | exact h.elim | skip
  · obtain ⟨xs, e, q⟩ := h; exact ⟨xs, by simp only [S.seq, e], q⟩
  · obtain ⟨xs, e, q⟩ := h; exact ⟨xs, by simp only [S.seq, e], q⟩
def lsqW (s : S) (x : AV) (Q : List AV → Prop) : Prop := match x with
  | .lst xs => Q xs
  | .scr ns => Q (ns.map .int)
  | .loc k => ∃ xs, s.loc[k]? = some (some xs) ∧ Q xs
  | .ref c => ∃ xs, s.sto[c]? = some (.lst xs) ∧ Q xs
  | _ => False
theorem lsqW_ok {s : S} {x : AV} {Q : List AV → Prop} (h : lsqW s x Q) : ∃ xs, s.lsq x = some xs ∧ Q xs := by
  cases x <;> first | exact ⟨_, rfl, h⟩ | exact h.elim | skip
  · obtain ⟨xs, e, q⟩ := h; exact ⟨xs, by simp only [S.lsq, S.seq, e], q⟩
  · obtain ⟨xs, e, q⟩ := h; exact ⟨xs, by simp only [S.lsq, S.seq, e], q⟩
def rsqW (s : S) (x : AV) (Q : List AV → Prop) : Prop := match x with
  | .lst xs => Q xs
  | .loc k => ∃ xs, s.loc[k]? = some (some xs) ∧ Q xs
  | .ref c => ∃ xs, s.sto[c]? = some (.lst xs) ∧ Q xs
  | _ => False
theorem rsqW_ok {s : S} {x : AV} {Q : List AV → Prop} (h : rsqW s x Q) : ∃ xs, s.rsq x = some xs ∧ Q xs := by
  cases x <;> first | exact ⟨_, rfl, h⟩ | exact h.elim | skip
  · obtain ⟨xs, e, q⟩ := h; exact ⟨xs, by simp only [S.rsq, S.seq, e], q⟩
  · obtain ⟨xs, e, q⟩ := h; exact ⟨xs, by simp only [S.rsq, S.seq, e], q⟩
def mutW (s : S) (x : AV) (Q : List AV → Prop) : Prop := match x with
  | .loc k => ∃ xs, s.loc[k]? = some (some xs) ∧ Q xs
  | .ref c => ∃ xs, s.sto[c]? = some (.lst xs) ∧ Q xs
  | _ => False
theorem mutW_ok {s : S} {x : AV} {Q : List AV → Prop} (h : mutW s x Q) : ∃ xs, s.mut x = some xs ∧ Q xs := by
  cases x <;> first | exact h.elim | skip
  · obtain ⟨xs, e, q⟩ := h; exact ⟨xs, by simp only [S.mut, e], q⟩
  · obtain ⟨xs, e, q⟩ := h; exact ⟨xs, by simp only [S.mut, e], q⟩
/-- what is read as data -/
def dvW (s : S) (x : AV) (Q : AV → Prop) : Prop := match x with
  | .scr ns => Q (.lst (ns.map .int))
  | .loc k => ∃ xs, s.loc[k]? = some (some xs) ∧ Q (.lst xs)
  | .ref c => ∃ xs, s.sto[c]? = some (.lst xs) ∧ Q (.lst xs)
  | x => Q x
theorem dvW_ok {s : S} {x : AV} {Q : AV → Prop} (h : dvW s x Q) : Q (s.dv x) := by
  cases x <;> first | exact h | skip
  · obtain ⟨xs, e, q⟩ := h; simpa only [S.dv, S.seq, e] using q
  · obtain ⟨xs, e, q⟩ := h; simpa only [S.dv, S.seq, e] using q
def nlW : AV → Prop
  | .loc _ => False
  | _ => True
theorem nlW_ok {v : AV} (h : nlW v) : v.nl = true := by cases v <;> first | rfl | exact h.elim
theorem nlm {v : AV} (h : v.nl = true) : nlW v := by cases v <;> first | trivial | cases h
def allNl : List AV → Prop
  | [] => True
  | x :: xs => nlW x ∧ allNl xs
theorem allNl_ok : ∀ {xs : List AV}, allNl xs → xs.all AV.nl = true
  | [], _ => rfl
  | x :: xs, h => by
    rw [List.all_cons, allNl_ok h.2, Bool.and_true]
    cases x <;> first | rfl | exact h.1.elim
theorem allNl_of {xs : List AV} (h : ∀ x ∈ xs, x.nl = true) : allNl xs := by
  induction xs with
  | nil => trivial
  | cons x xs ih =>
    refine ⟨?_, ih fun y hy => h y (List.mem_cons_of_mem _ hy)⟩
    have := h x (List.mem_cons_self ..)
    cases x <;> first | trivial | cases this
def newLW (k : LK) (xs : List AV) (s : S) (Q : AV → S → Prop) : Prop := (xs.length ≤ SL ∧ allNl xs) ∧ match k with
  | .fz => Q (.lst xs) s
  | .lo => Q (.loc s.loc.length) { s with loc := s.loc ++ [some xs] }
  | .gl => Q (.ref s.sto.length) { s with sto := s.sto ++ [.lst xs] }
theorem newLW_ok {k : LK} {xs : List AV} {s : S} {X : XP} {Q : AV → S → Prop} (h : newLW k xs s Q) : (newL k xs s).W X Q := by
  unfold newL
  rw [if_pos ⟨h.1.1, allNl_ok h.1.2⟩]
  cases k <;> exact h.2
def newTW (xs : List AV) (s : S) (Q : AV → S → Prop) : Prop := (xs.length ≤ SL ∧ allNl xs) ∧ Q (.tup xs) s
theorem newTW_ok {xs : List AV} {s : S} {X : XP} {Q : AV → S → Prop} (h : newTW xs s Q) : (newT xs s).W X Q := by
  unfold newT
  rw [if_pos ⟨h.1.1, allNl_ok h.1.2⟩]
  exact h.2
def binW (o : Bop) (x y : AV) (Q : AV → Prop) : Prop := match o, x, y with
  | .add, .int i, .int j => Q (.int (i + j))
  | .sub, .int i, .int j => Q (.int (i - j))
  | .mul, .int i, .int j => ((-(2 ^ 64) < i ∧ i < 2 ^ 64) ∨ (-(2 ^ 64) < j ∧ j < 2 ^ 64)) ∧ Q (.int (i * j))
  | .fdiv, .int i, .int j => (j ≠ 0 ∧ j.natAbs < 1073741824) ∧ Q (.int (i.fdiv j))
  | .mod, .int i, .int j => j ≠ 0 ∧ Q (.int (i.fmod j))
  | .pow, .int i, .int j => (0 ≤ j ∧ j ≤ 1000000 ∧ i.natAbs < 2 ^ 64) ∧ Q (.int (i ^ j.toNat))
  | .add, .str a, .str b => a.length + b.length ≤ SL ∧ Q (.str (a ++ b))
  | .add, .tup a, .tup b => a.length + b.length ≤ SL ∧ Q (.tup (a ++ b))
  | _, _, _ => False
theorem binW_ok {o : Bop} {x y : AV} {s : S} {X : XP} {Q : AV → S → Prop} (h : binW o x y fun v => Q v s) : (binA o x y s).W X Q := by
  unfold binW at h
  split at h <;> first | exact h | exact h.elim | (simp only [binA]; rw [if_pos h.1]; exact h.2)
def augW (o : Bop) (x y : AV) (Q : AV → Prop) : Prop := match o with
  | .add => match x with
    | .tup _ => False
    | x => binW .add x y Q
  | .sub => binW .sub x y Q
  | .mul => binW .mul x y Q
  | _ => False
theorem augW_ok {o : Bop} {x y : AV} {s : S} {X : XP} {Q : AV → S → Prop} (h : augW o x y fun v => Q v s) : (augA o x y s).W X Q := by
  cases o <;> first | exact h.elim | exact binW_ok h | skip
  cases x <;> first | exact h.elim | exact binW_ok h
def cmpW (o : Cop) (x y : AV) (s : S) (Q : Bool → Prop) : Prop := match o with
  | .eq => dvW s x fun a => dvW s y fun b => (a.isD = true ∧ b.isD = true ∧ min a.dep b.dep ≤ 64) ∧ Q (a.eqv b)
  | .ne => dvW s x fun a => dvW s y fun b => (a.isD = true ∧ b.isD = true ∧ min a.dep b.dep ≤ 64) ∧ Q (!a.eqv b)
  | .lt => match x, y with
    | .int i, .int j => Q (decide (i < j))
    | _, _ => False
  | .le => match x, y with
    | .int i, .int j => Q (decide (i ≤ j))
    | _, _ => False
  | .gt => match x, y with
    | .int i, .int j => Q (decide (j < i))
    | _, _ => False
  | .ge => match x, y with
    | .int i, .int j => Q (decide (j ≤ i))
    | _, _ => False
  | .is => match y with
    | .non => Q (isNone x)
    | .bl b => match x with
      | .bl a => Q (a == b)
      | _ => False
    | _ => False
  | .isn => match y with
    | .non => Q (!isNone x)
    | .bl b => match x with
      | .bl a => Q (!(a == b))
      | _ => False
    | _ => False
  | .inn => seqW s y fun ys => dvW s x fun a => (a.isD = true ∧ AV.allD ys = true ∧ a.dep ≤ 63) ∧ Q (ys.any fun z => z.eqv a)
  | .nin => seqW s y fun ys => dvW s x fun a => (a.isD = true ∧ AV.allD ys = true ∧ a.dep ≤ 63) ∧ Q (!ys.any fun z => z.eqv a)
theorem cmpW_b {o : Cop} {x y : AV} {s : S} {Q : Bool → Prop} (h : cmpW o x y s Q) : ∃ b, cmpB o x y s = some b ∧ Q b := by
  cases o <;> simp only [cmpW] at h
  · have h := dvW_ok (dvW_ok h); exact ⟨_, by simp only [cmpB]; rw [if_pos h.1], h.2⟩
  · have h := dvW_ok (dvW_ok h); exact ⟨_, by simp only [cmpB]; rw [if_pos h.1], h.2⟩
  · split at h <;> first | exact ⟨_, rfl, h⟩ | exact h.elim
  · split at h <;> first | exact ⟨_, rfl, h⟩ | exact h.elim
  · split at h <;> first | exact ⟨_, rfl, h⟩ | exact h.elim
  · split at h <;> first | exact ⟨_, rfl, h⟩ | exact h.elim
  · split at h
    · exact ⟨_, rfl, h⟩
    · split at h <;> first | exact ⟨_, rfl, h⟩ | exact h.elim
    · exact h.elim
  · split at h
    · exact ⟨_, rfl, h⟩
    · split at h <;> first | exact ⟨_, rfl, h⟩ | exact h.elim
    · exact h.elim
  · obtain ⟨ys, e, h⟩ := seqW_ok h
    have h := dvW_ok h
    exact ⟨_, by simp only [cmpB, e]; rw [if_pos h.1], h.2⟩
  · obtain ⟨ys, e, h⟩ := seqW_ok h
    have h := dvW_ok h
    exact ⟨_, by simp only [cmpB, e]; rw [if_pos h.1], h.2⟩
theorem cmpW_ok {o : Cop} {x y : AV} {s : S} {X : XP} {Q : AV → S → Prop} (h : cmpW o x y s fun b => Q (.bl b) s) : (cmpA o x y s).W X Q := by
  obtain ⟨b, e, q⟩ := cmpW_b h
  unfold cmpA
  rw [e]; exact q
def truW (x : AV) (Q : Bool → Prop) : Prop := match x with
  | .bl b => Q b
  | _ => False
theorem truW_ok {x : AV} {s : S} {X : XP} {Q : Bool → S → Prop} (h : truW x fun b => Q b s) : (truth x s).W X Q := by
  cases x <;> first | exact h | exact h.elim
def idxW (x y : AV) (s : S) (Q : AV → Prop) : Prop := match y with
  | .int i => seqW s x fun xs => ∃ v, atA xs i = some v ∧ Q v
  | _ => False
theorem idxW_ok {x y : AV} {s : S} {X : XP} {Q : AV → S → Prop} (h : idxW x y s fun v => Q v s) : (idxA x y s).W X Q := by
  cases y <;> first | exact h.elim | skip
  obtain ⟨xs, e, v, e2, q⟩ := seqW_ok h
  unfold idxA
  simp only [e, e2]
  exact q
def slcW (k : LK) (x : AV) (lo hi : Option Int) (s : S) (Q : AV → S → Prop) : Prop := match x with
  | .tup xs => Q (.tup (cutA xs lo hi)) s
  | x => lsqW s x fun xs => newLW k (cutA xs lo hi) s Q
theorem slcW_ok {k : LK} {x : AV} {lo hi : Option Int} {s : S} {X : XP} {Q : AV → S → Prop} (h : slcW k x lo hi s Q) : (slcA k x lo hi s).W X Q := by
  unfold slcW at h
  split at h
  · exact h
  · rename_i hx
    obtain ⟨xs, e, q⟩ := lsqW_ok h
    unfold slcA
    split
    · rename_i ys; exact (hx ys rfl).elim
    · rw [e]; exact newLW_ok q
def putW (x y v : AV) (s : S) (Q : S → Prop) : Prop := match y with
  | .int i => nlW v ∧ mutW s x fun xs => ∃ j, ixA xs.length i = some j ∧ Q (s.put x (xs.set j v))
  | _ => False
theorem putW_ok {x y v : AV} {s : S} {X : XP} {Q : Unit → S → Prop} (h : putW x y v s (Q ())) : (setA x y v s).W X Q := by
  cases y <;> first | exact h.elim | skip
  obtain ⟨hv, h⟩ := h
  obtain ⟨xs, e, j, e2, q⟩ := mutW_ok h
  have hn : v.nl = true := by cases v <;> first | rfl | exact hv.elim
  unfold setA
  simp only [e, e2, hn, if_true]
  exact q
def frzW (x : AV) (s : S) (Q : AV → S → Prop) : Prop := match x with
  | .loc k => ∃ xs, s.loc[k]? = some (some xs) ∧ Q (.lst xs) { s with loc := s.loc.set k none }
  | .ref c => ∃ xs, s.sto[c]? = some (.lst xs) ∧ Q (.lst xs) { s with sto := s.sto.set c .gone }
  | x => Q x s
theorem frzW_ok {x : AV} {s : S} {X : XP} {Q : AV → S → Prop} (h : frzW x s Q) : (frzA x s).W X Q := by
  cases x <;> first | exact h | skip
  · obtain ⟨xs, e, q⟩ := h; simp only [frzA, e]; exact q
  · obtain ⟨xs, e, q⟩ := h; simp only [frzA, e]; exact q
def primW (p : Prim) (k : LK) (vs : List AV) (s : S) (Q : AV → S → Prop) : Prop := match p, vs with
  | .len, [x] => seqW s x fun xs => Q (.int xs.length) s
  | .list, [x] => seqW s x fun xs => newLW k xs s Q
  | .tuple, [x] => match x with
    | .tup xs => Q (.tup xs) s
    | x => lsqW s x fun xs => Q (.tup xs) s
  | .all, [x] => lsqW s x fun xs => ∃ bs, boolsA xs = some bs ∧ Q (.bl (bs.all id)) s
  | .sum, [x] => lsqW s x fun xs => ∃ ns, intsA xs = some ns ∧ Q (.int ns.sum) s
  | .max2, [.int i, .int j] => Q (.int (if j > i then j else i)) s
  | .min2, [.int i, .int j] => Q (.int (if j < i then j else i)) s
  | _, _ => False
theorem primW_ok {p : Prim} {k : LK} {vs : List AV} {s : S} {X : XP} {Q : AV → S → Prop} (h : primW p k vs s Q) : (primA p k vs s).W X Q := by
  unfold primW at h
  split at h
  · obtain ⟨xs, e, q⟩ := seqW_ok h; simp only [primA, e]; exact q
  · obtain ⟨xs, e, q⟩ := seqW_ok h; simp only [primA, e]; exact newLW_ok q
  · split at h
    · exact h
    · rename_i hx
      obtain ⟨xs, e, q⟩ := lsqW_ok h
      simp only [primA, e]
      exact q
  · obtain ⟨xs, e, bs, e2, q⟩ := lsqW_ok h; simp only [primA, e, Option.bind_some, e2]; exact q
  · obtain ⟨xs, e, bs, e2, q⟩ := lsqW_ok h; simp only [primA, e, Option.bind_some, e2]; exact q
  · exact h
  · exact h
  · exact h.elim
def pmW (m : PMeth) (x : AV) (vs : List AV) (s : S) (Q : AV → S → Prop) : Prop := match m, vs with
  | .append, [v] => nlW v ∧ mutW s x fun xs => xs.length < SL ∧ Q .non (s.put x (xs ++ [v]))
  | .pop, [] => mutW s x fun xs => ∃ v, xs[xs.length - 1]? = some v ∧ Q v (s.put x xs.dropLast)
  | _, _ => False
theorem pmW_ok {m : PMeth} {x : AV} {vs : List AV} {s : S} {X : XP} {Q : AV → S → Prop} (h : pmW m x vs s Q) : (pmA m x vs s).W X Q := by
  unfold pmW at h
  split at h
  · rename_i v
    obtain ⟨hv, h⟩ := h
    obtain ⟨xs, e, l, q⟩ := mutW_ok h
    have hn : v.nl = true := by cases v <;> first | rfl | exact hv.elim
    simp only [pmA, e, hn, l, and_self, if_true]; exact q
  · obtain ⟨xs, e, v, e2, q⟩ := mutW_ok h
    simp only [pmA, e, e2]; exact q
  · exact h.elim
def tyW (m : PMeth) (x : AV) (s : S) : Prop := match m with
  | .append => mutW s x fun _ => True
  | .pop => mutW s x fun _ => True
  | .popAt => mutW s x fun _ => True
  | .count => lsqW s x fun _ => True
  | .index => lsqW s x fun _ => True
  | .join => match x with
    | .str _ => True
    | _ => False
  | .split => match x with
    | .str _ => True
    | _ => False
theorem tyW_ok {m : PMeth} {x : AV} {s : S} (h : tyW m x s) : pmTy m x s = true := by
  cases m
  · obtain ⟨xs, e, _⟩ := mutW_ok h; simp only [pmTy, e]; rfl
  · obtain ⟨xs, e, _⟩ := mutW_ok h; simp only [pmTy, e]; rfl
  · obtain ⟨xs, e, _⟩ := mutW_ok h; simp only [pmTy, e]; rfl
  · obtain ⟨xs, e, _⟩ := lsqW_ok h; simp only [pmTy, e]; rfl
  · obtain ⟨xs, e, _⟩ := lsqW_ok h; simp only [pmTy, e]; rfl
  · cases x <;> first | rfl | exact h.elim
  · cases x <;> first | rfl | exact h.elim
def isW (s : S) (x : AV) (t : Ty) (Q : AV → Prop) : Prop := match x with
  | .ref c => ∃ xs, s.sto[c]? = some (.lst xs) ∧ Q (.bl (match t with
    | .list => true
    | _ => false))
  | .loc k => ∃ xs, s.loc[k]? = some (some xs) ∧ Q (.bl (match t with
    | .list => true
    | _ => false))
  | x => Q (.bl (tyB s x t))
theorem isW_ok {s : S} {x : AV} {t : Ty} {X : XP} {Q : AV → S → Prop} (h : isW s x t fun v => Q v s) : (if isB s x = true then R.ok (.bl (tyB s x t)) s else .bad).W X Q := by
  cases x <;> first | exact h | skip
  · obtain ⟨xs, e, q⟩ := h
    have : isB s (.loc ‹Nat›) = true := by simp only [isB, e]
    rw [if_pos this]
    cases t <;> (simp only [tyB, e]; exact q)
  · obtain ⟨xs, e, q⟩ := h
    have : isB s (.ref ‹Nat›) = true := by simp only [isB, e]
    rw [if_pos this]
    cases t <;> (simp only [tyB, e]; exact q)
def walkVW (x : AV) (s : S) (Q : Wk → Prop) : Prop := match x with
  | .tup xs => Q ⟨xs, fun _ _ => true⟩
  | .lst xs => Q ⟨xs, fun _ _ => true⟩
  | .loc k => ∃ xs, s.loc[k]? = some (some xs) ∧ Q ⟨xs, fun loc _ => decide (loc[k]? = some (some xs))⟩
  | .ref c => ∃ xs, s.sto[c]? = some (.lst xs) ∧ Q ⟨xs, fun _ sto => match sto[c]? with
      | some (.lst ys) => decide (ys = xs)
      | _ => false⟩
  | _ => False
theorem walkVW_ok {x : AV} {s : S} {Q : Wk → Prop} (h : walkVW x s Q) : ∃ w, walkV x s = some w ∧ Q w := by
  cases x <;> first | exact ⟨_, rfl, h⟩ | exact h.elim | skip
  · obtain ⟨xs, e, q⟩ := h; exact ⟨_, by simp only [walkV, e], q⟩
  · obtain ⟨xs, e, q⟩ := h; exact ⟨_, by simp only [walkV, e] <;> rfl, q⟩
/-- numbers from a on -/
def ups (a : Int) : Nat → List AV
  | 0 => []
  | n + 1 => .int a :: ups (a + 1) n
theorem ups_eq : ∀ (n : Nat) (a : Int), (List.range n).map (fun (k : Nat) => AV.int (a + (k : Int))) = ups a n
  | 0, _ => rfl
  | n + 1, a => by
    rw [List.range_succ_eq_map, List.map_cons, List.map_map, ups, ← ups_eq n (a + 1)]
    congr 1
    · simp
    · refine List.map_congr_left fun k _ => ?_
      show AV.int (a + ((k + 1 : Nat) : Int)) = AV.int (a + 1 + (k : Int))
      congr 1; omega
def walkRW (vs : List AV) (Q : Wk → Prop) : Prop := match vs with
  | [.int n] => small62 n = true ∧ Q ⟨ups 0 n.toNat, fun _ _ => true⟩
  | [.int a, .int b] => (small62 a = true ∧ small62 b = true) ∧ Q ⟨ups a (b - a).toNat, fun _ _ => true⟩
  | _ => False
theorem walkRW_ok {vs : List AV} {Q : Wk → Prop} (h : walkRW vs Q) : ∃ w, walkR vs = some w ∧ Q w := by
  unfold walkRW at h
  split at h
  · refine ⟨_, by simp only [walkR, h.1, if_true]; rfl, ?_⟩
    rw [ups_eq]; exact h.2
  · refine ⟨_, by simp only [walkR]; rw [if_pos h.1], ?_⟩
    rw [ups_eq]; exact h.2
  · exact h.elim
def setW (l : List (Option AV)) (i : Nat) (v : AV) (Q : List (Option AV) → Prop) : Prop := match Nat.blt i l.length with
  | true => Q (l.set i (some v))
  | false => False
theorem setW_ok {l : List (Option AV)} {i : Nat} {v : AV} {Q : List (Option AV) → Prop} (h : setW l i v Q) : i < l.length ∧ Q (l.set i (some v)) := by
  unfold setW at h
  split at h
  · rename_i e; exact ⟨Nat.le_of_ble_eq_true e, h⟩
  · exact h.elim
def compW (w : Wk) (f : AV → S → (Option AV → S → Prop) → Prop) : List AV → List AV → S → (List AV → S → Prop) → Prop
  | [], acc, s, Q => w.ok s.loc s.sto = true ∧ Q acc s
  | x :: xs, acc, s, Q => w.ok s.loc s.sto = true ∧ f x s fun r s1 => match r with
    | some v => (nlW v ∧ acc.length < SL) ∧ compW w f xs (acc ++ [v]) s1 Q
    | none => compW w f xs acc s1 Q
theorem compW_ok {w : Wk} {f : AV → S → (Option AV → S → Prop) → Prop} {g : AV → S → R (Option AV)} {X : XP} (hf : ∀ x s Q, f x s Q → (g x s).W X Q) : ∀ {xs acc : List AV} {s : S} {Q : List AV → S → Prop}, compW w f xs acc s Q → (compL w g xs acc s).W X Q
  | [], acc, s, Q, h => by
    unfold compL
    rw [if_pos h.1]; exact h.2
  | x :: xs, acc, s, Q, h => by
    unfold compL
    rw [if_pos h.1]
    refine ((hf x s _ h.2).mono fun r s1 q => ?_).bnd
    cases r with
    | none => exact compW_ok hf q
    | some v =>
      have hn : v.nl = true := by cases v <;> first | rfl | exact q.1.1.elim
      show (if v.nl = true ∧ acc.length < SL then _ else _ : R (List AV)).W X Q
      rw [if_pos ⟨hn, q.1.2⟩]
      exact compW_ok hf q.2

abbrev CT := Nat → List AV → List Cell → XP → (AV → List Cell → Prop) → Prop
mutual
def evW (C : CT) : Ex → XP → S → (AV → S → Prop) → Prop
  | .cst v, X, s, Q => Q v s
  | .slot i, X, s, Q => getW s.env i fun v => Q v s
  | .tup es, X, s, Q => evsW C es X s fun vs s => newTW vs s Q
  | .lst k es, X, s, Q => evsW C es X s fun vs s => newLW k vs s Q
  | .bin o a b, X, s, Q => evW C a X s fun x s => evW C b X s fun y s => binW o x y fun v => Q v s
  | .neg a, X, s, Q => evW C a X s fun x s => match x with
    | .int i => Q (.int (-i)) s
    | _ => False
  | .cat k a b, X, s, Q => evW C a X s fun x s => evW C b X s fun y s => rsqW s x fun xs => rsqW s y fun ys => xs.length + ys.length ≤ SL ∧ newLW k (xs ++ ys) s Q
  | .rep k es b, X, s, Q => evsW C es X s fun xs s => evW C b X s fun y s => match y with
    | .int n => (xs.length ≤ SL ∧ allNl xs ∧ -(2 ^ 63) ≤ n ∧ n < 2 ^ 63 ∧ xs.length * n.toNat ≤ SL) ∧ newLW k (List.replicate n.toNat xs).flatten s Q
    | _ => False
  | .cmp o a b, X, s, Q => evW C a X s fun x s => evW C b X s fun y s => cmpW o x y s fun t => Q (.bl t) s
  | .chn o p a b c, X, s, Q => evW C a X s fun x s => evW C b X s fun y s => cmpW o x y s fun t => condW t (evW C c X s fun u s => cmpW p y u s fun t => Q (.bl t) s) (Q (.bl false) s)
  | .and a b, X, s, Q => evW C a X s fun x s => truW x fun t => condW t (evW C b X s Q) (Q (.bl false) s)
  | .or a b, X, s, Q => evW C a X s fun x s => truW x fun t => condW t (Q (.bl true) s) (evW C b X s Q)
  | .not a, X, s, Q => evW C a X s fun x s => truW x fun t => Q (.bl (!t)) s
  | .ite c a b, X, s, Q => evW C c X s fun x s => truW x fun t => condW t (evW C a X s Q) (evW C b X s Q)
  | .idx a b, X, s, Q => evW C a X s fun x s => evW C b X s fun y s => idxW x y s fun v => Q v s
  | .slc k a lo hi, X, s, Q => evW C a X s fun x s => evoW C lo X s fun l s => evoW C hi X s fun h s => slcW k x l h s Q
  | .fld a f, X, s, Q => evW C a X s fun x s => ∃ v, getF s x f = some v ∧ Q v s
  | .call f es, X, s, Q => evsW C es X s fun vs s => allNl vs ∧ C f vs s.sto X fun v st => Q v { s with sto := st }
  | .isi a t, X, s, Q => evW C a X s fun x s => isW s x t fun v => Q v s
  | .pr p k es, X, s, Q => evsW C es X s fun vs s => primW p k vs s Q
  | .pm m a es, X, s, Q => evW C a X s fun x s => tyW m x s ∧ evsW C es X s fun vs s => pmW m x vs s Q
  | .comp k vs t i c e, X, s, Q => itrW C i X s fun w s0 =>
      compW w (fun x s K => tgaW C t noX x { s with env := wipeA s0.env vs } fun s => evcW C c noX s fun t s => condW t (evW C e noX s fun v s => K (some v) s) (K none s)) w.items [] s0 fun xs s => newLW k xs { s with env := s0.env } Q
  | .frz a, X, s, Q => evW C a X s fun x s => frzW x s Q
def evsW (C : CT) : List Ex → XP → S → (List AV → S → Prop) → Prop
  | [], X, s, Q => Q [] s
  | e :: es, X, s, Q => evW C e X s fun v s => evsW C es X s fun vs s => Q (v :: vs) s
def evoW (C : CT) : Option Ex → XP → S → (Option Int → S → Prop) → Prop
  | none, X, s, Q => Q none s
  | some e, X, s, Q => evW C e X s fun v s => match v with
    | .int i => Q (some i) s
    | _ => False
def evcW (C : CT) : Option Ex → XP → S → (Bool → S → Prop) → Prop
  | none, X, s, Q => Q true s
  | some e, X, s, Q => evW C e X s fun v s => truW v fun t => Q t s
def tgaW (C : CT) : Tg → XP → AV → S → (S → Prop) → Prop
  | .nm i, X, v, s, Q => setW s.env i v fun env => Q { s with env := env }
  | .tp ts, X, v, s, Q => seqW s v fun xs => xs.length = ts.length ∧ tgasW C ts X xs s Q
  | .sub a b, X, v, s, Q => evW C a X s fun x s => evW C b X s fun y s => putW x y v s Q
  | .att _ _, _, _, _, _ => False
def tgasW (C : CT) : List Tg → XP → List AV → S → (S → Prop) → Prop
  | [], X, xs, s, Q => match xs with
    | [] => Q s
    | _ => False
  | t :: ts, X, xs, s, Q => match xs with
    | x :: xs => tgaW C t X x s fun s => tgasW C ts X xs s Q
    | [] => False
def itrW (C : CT) : It → XP → S → (Wk → S → Prop) → Prop
  | .val e, X, s, Q => evW C e X s fun v s => walkVW v s fun w => Q w s
  | .rng es, X, s, Q => evsW C es X s fun vs s => walkRW vs fun w => Q w s
  | .enm _, _, _, _ => False
  | .zip _ _, _, _, _ => False
end
def parW (is : List Nat) (vs : List AV) (s : S) (Q : S → Prop) : Prop := match is, vs with
  | [i, j], [v, w] => setW s.env i v fun e => setW e j w fun e => Q { s with env := e }
  | [i, j, k], [v, w, u] => setW s.env i v fun e => setW e j w fun e => setW e k u fun e => Q { s with env := e }
  | _, _ => False
theorem parW_ok {is : List Nat} {vs : List AV} {s : S} {X : XP} {Q : Unit → S → Prop} (h : parW is vs s (Q ())) : (parA is vs s).W X Q := by
  unfold parW at h
  split at h
  · obtain ⟨l1, h⟩ := setW_ok h
    obtain ⟨l2, h⟩ := setW_ok h
    rw [List.length_set] at l2
    simp only [parA]
    rw [if_pos ⟨l1, l2⟩]; exact h
  · obtain ⟨l1, h⟩ := setW_ok h
    obtain ⟨l2, h⟩ := setW_ok h
    obtain ⟨l3, h⟩ := setW_ok h
    simp only [List.length_set] at l2 l3
    simp only [parA]
    rw [if_pos ⟨l1, l2, l3⟩]; exact h
  · exact h.elim
def forW (w : Wk) (f : AV → S → (Fl → S → Prop) → Prop) : List AV → S → (Fl → S → Prop) → Prop
  | [], s, Q => w.ok s.loc s.sto = true ∧ Q .nxt s
  | x :: xs, s, Q => w.ok s.loc s.sto = true ∧ f x s fun r s => match r with
    | .nxt => forW w f xs s Q
    | .cnt => forW w f xs s Q
    | .brk => Q .nxt s
    | .ret v => Q (.ret v) s
theorem forW_ok {w : Wk} {f : AV → S → (Fl → S → Prop) → Prop} {g : AV → S → R Fl} {X : XP} (hf : ∀ x s Q, f x s Q → (g x s).W X Q) : ∀ {xs : List AV} {s : S} {Q : Fl → S → Prop}, forW w f xs s Q → (forL w g xs s).W X Q
  | [], s, Q, h => by
    unfold forL
    rw [if_pos h.1]; exact h.2
  | x :: xs, s, Q, h => by
    unfold forL
    rw [if_pos h.1]
    refine ((hf x s _ h.2).mono fun r s1 q => ?_).bnd
    cases r with
    | nxt => exact forW_ok hf q
    | cnt => exact forW_ok hf q
    | brk => exact q
    | ret v => exact q
def whlW (c : S → (Bool → S → Prop) → Prop) (f : S → (Fl → S → Prop) → Prop) : Nat → S → (Fl → S → Prop) → Prop
  | 0, _, _ => False
  | n + 1, s, Q => c s fun t s => condW t (f s fun r s => match r with
    | .nxt => whlW c f n s Q
    | .cnt => whlW c f n s Q
    | .brk => Q .nxt s
    | .ret v => Q (.ret v) s) (Q .nxt s)
theorem whlW_ok {c : S → (Bool → S → Prop) → Prop} {f : S → (Fl → S → Prop) → Prop} {c' : S → R Bool} {g : S → R Fl} {X : XP} (hc : ∀ s Q, c s Q → (c' s).W X Q) (hf : ∀ s Q, f s Q → (g s).W X Q) : ∀ {n : Nat} {s : S} {Q : Fl → S → Prop}, whlW c f n s Q → (whlL c' g n s).W X Q
  | 0, s, Q, h => h.elim
  | n + 1, s, Q, h => by
    unfold whlL
    refine ((hc s _ h).mono fun t s1 q => ?_).bnd
    refine cond_if q (fun q => ?_) fun q => q
    refine ((hf s1 _ q).mono fun r s2 q => ?_).bnd
    cases r with
    | nxt => exact whlW_ok hc hf q
    | cnt => exact whlW_ok hc hf q
    | brk => exact q
    | ret v => exact q
theorem whl_more {c : S → R Bool} {g : S → R Fl} {X : XP} {Q : Fl → S → Prop} : ∀ {m n : Nat} {s : S}, m ≤ n → (whlL c g m s).W X Q → (whlL c g n s).W X Q
  | 0, _, _, _, h => h.elim
  | m + 1, 0, _, l, _ => absurd l (Nat.not_succ_le_zero m)
  | m + 1, n + 1, s, l, h => by
    unfold whlL at h ⊢
    cases hc : c s with
    | bad => rw [hc] at h; exact h
    | exn _ _ _ => rw [hc] at h; exact h
    | ok t s1 =>
      rw [hc] at h
      simp only [R.bind_ok] at h ⊢
      cases t with
      | false => exact h
      | true =>
        simp only [if_true] at h ⊢
        cases hg : g s1 with
        | bad => rw [hg] at h; exact h
        | exn _ _ _ => rw [hg] at h; exact h
        | ok r s2 =>
          rw [hg] at h
          cases r with
          | nxt => exact whl_more (Nat.le_of_succ_le_succ l) h
          | cnt => exact whl_more (Nat.le_of_succ_le_succ l) h
          | brk => exact h
          | ret v => exact h
mutual
def exW (C : CT) : Sm → XP → S → (Fl → S → Prop) → Prop
  | .expr e, X, s, Q => evW C e X s fun _ s => Q .nxt s
  | .asg t e, X, s, Q => evW C e X s fun v s => tgaW C t X v s fun s => Q .nxt s
  | .par is es, X, s, Q => evsW C es X s fun vs s => parW is vs s fun s => Q .nxt s
  | .aug i o e, X, s, Q => getW s.env i fun x => evW C e X s fun y s => augW o x y fun z => Q .nxt { s with env := s.env.set i (some z) }
  | .ret o, X, s, Q => match o with
    | none => Q (.ret .non) s
    | some e => evW C e X s fun v s => nlW v ∧ Q (.ret v) s
  | .ifs c a b, X, s, Q => evW C c X s fun x s => truW x fun t => condW t (exsW C a X s Q) (exsW C b X s Q)
  | .for t i body, X, s, Q => itrW C i X s fun w s => forW w (fun x s K => tgaW C t X x s fun s => exsW C body X s K) w.items s Q
  | .whl n c body, X, s, Q => ∃ m, m < n ∧ whlW (fun s K => evW C c X s fun x s => truW x fun t => K t s) (fun s K => exsW C body X s K) (m + 1) s Q
  | .brk, X, s, Q => Q .brk s
  | .cnt, X, s, Q => Q .cnt s
  | .pas, X, s, Q => Q .nxt s
  | .rse c _, X, s, Q => X c none s.sto
def exsW (C : CT) : List Sm → XP → S → (Fl → S → Prop) → Prop
  | [], X, s, Q => Q .nxt s
  | x :: xs, X, s, Q => exW C x X s fun r s => match r with
    | .nxt => exsW C xs X s Q
    | r => Q r s
end
section
variable {C : CT} {call : Nat → List AV → List Cell → RC} (hC : ∀ f vs st X Q, C f vs st X Q → (call f vs st).W X Q)
include hC
mutual
theorem evS : ∀ (e : Ex) (X : XP) (s : S) (Q : AV → S → Prop), evW C e X s Q → (ev call e s).W X Q
  | .cst v, X, s, Q, h => h
  | .slot i, X, s, Q, h => by
    obtain ⟨v, e, q⟩ := getW_ok h
    simp only [ev, e]; exact q
  | .tup es, X, s, Q, h => by
    simp only [ev]; exact ((evsS es X s _ h).mono fun vs s q => newTW_ok q).bnd
  | .lst k es, X, s, Q, h => by
    simp only [ev]; exact ((evsS es X s _ h).mono fun vs s q => newLW_ok q).bnd
  | .bin o a b, X, s, Q, h => by
    simp only [ev]; exact ((evS a X s _ h).mono fun x s q => ((evS b X s _ q).mono fun y s q => binW_ok q).bnd).bnd
  | .neg a, X, s, Q, h => by
    simp only [ev]
    refine ((evS a X s _ h).mono fun x s q => ?_).bnd
    cases x <;> first | exact q | exact q.elim
  | .cat k a b, X, s, Q, h => by
    simp only [ev]
    refine ((evS a X s _ h).mono fun x s q => ((evS b X s _ q).mono fun y s q => ?_).bnd).bnd
    obtain ⟨xs, e1, q⟩ := rsqW_ok q
    obtain ⟨ys, e2, l, q⟩ := rsqW_ok q
    simp only [e1, e2, l, if_true]; exact newLW_ok q
  | .rep k es b, X, s, Q, h => by
    simp only [ev]
    refine ((evsS es X s _ h).mono fun x s q => ((evS b X s _ q).mono fun y s q => ?_).bnd).bnd
    cases y <;> first | exact q.elim | skip
    obtain ⟨⟨h1, h2, h3, h4, h5⟩, q⟩ := q
    show (if _ then _ else _ : R AV).W X Q
    rw [if_pos ⟨h1, allNl_ok h2, h3, h4, h5⟩]; exact newLW_ok q
  | .cmp o a b, X, s, Q, h => by
    simp only [ev]; exact ((evS a X s _ h).mono fun x s q => ((evS b X s _ q).mono fun y s q => cmpW_ok q).bnd).bnd
  | .chn o p a b c, X, s, Q, h => by
    simp only [ev]
    refine ((evS a X s _ h).mono fun x s q => ((evS b X s _ q).mono fun y s q => ?_).bnd).bnd
    obtain ⟨t, e, q⟩ := cmpW_b q
    simp only [cmpA, e, R.bind_ok, truth]
    refine cond_if q (fun q => ?_) fun q => q
    exact ((evS c X s _ q).mono fun u s q => cmpW_ok q).bnd
  | .and a b, X, s, Q, h => by
    simp only [ev]
    refine ((evS a X s _ h).mono fun x s q => ((truW_ok (Q := fun t s => condW t (evW C b X s Q) (Q (.bl false) s)) q).mono fun t s q => ?_).bnd).bnd
    exact cond_if q (fun q => evS b X s _ q) fun q => q
  | .or a b, X, s, Q, h => by
    simp only [ev]
    refine ((evS a X s _ h).mono fun x s q => ((truW_ok (Q := fun t s => condW t (Q (.bl true) s) (evW C b X s Q)) q).mono fun t s q => ?_).bnd).bnd
    exact cond_if q (fun q => q) fun q => evS b X s _ q
  | .not a, X, s, Q, h => by
    simp only [ev]
    exact ((evS a X s _ h).mono fun x s q => ((truW_ok (Q := fun t s => Q (.bl (!t)) s) q).mono fun t s q => q).bnd).bnd
  | .ite c a b, X, s, Q, h => by
    simp only [ev]
    exact ((evS c X s _ h).mono fun x s q => ((truW_ok (Q := fun t s => condW t (evW C a X s Q) (evW C b X s Q)) q).mono fun t s q => cond_if q (fun q => evS a X s _ q) fun q => evS b X s _ q).bnd).bnd
  | .idx a b, X, s, Q, h => by
    simp only [ev]; exact ((evS a X s _ h).mono fun x s q => ((evS b X s _ q).mono fun y s q => idxW_ok q).bnd).bnd
  | .slc k a lo hi, X, s, Q, h => by
    simp only [ev]; exact ((evS a X s _ h).mono fun x s q => ((evoS lo X s _ q).mono fun l s q => ((evoS hi X s _ q).mono fun h s q => slcW_ok q).bnd).bnd).bnd
  | .fld a f, X, s, Q, h => by
    simp only [ev]
    refine ((evS a X s _ h).mono fun x s q => ?_).bnd
    obtain ⟨v, e, q⟩ := q
    simp only [e]; exact q
  | .call f es, X, s, Q, h => by
    simp only [ev]
    refine ((evsS es X s _ h).mono fun vs s q => ?_).bnd
    simp only [allNl_ok q.1, if_true]
    have := hC f vs s.sto X _ q.2
    cases hr : call f vs s.sto with
    | ok v st => rw [hr] at this; exact this
    | exn c p st => rw [hr] at this; exact this
    | bad => rw [hr] at this; exact this
  | .isi a t, X, s, Q, h => by
    simp only [ev]; exact ((evS a X s _ h).mono fun x s q => isW_ok q).bnd
  | .pr p k es, X, s, Q, h => by
    simp only [ev]; exact ((evsS es X s _ h).mono fun vs s q => primW_ok q).bnd
  | .pm m a es, X, s, Q, h => by
    simp only [ev]
    refine ((evS a X s _ h).mono fun x s q => ?_).bnd
    simp only [tyW_ok q.1, if_true]
    exact ((evsS es X s _ q.2).mono fun vs s q => pmW_ok q).bnd
  | .comp k vs t i c e, X, s, Q, h => by
    simp only [ev]
    refine ((itrS i X s _ h).mono fun w s0 q => ?_).bnd
    refine (R.W.mono (compW_ok (X := X) (fun x s K h => ?_) q) fun xs s q => newLW_ok q).bnd
    refine R.W.nox ?_
    refine ((tgaS t noX x _ _ h).mono fun u s q => ?_).bnd
    refine ((evcS c noX s _ q).mono fun t s q => ?_).bnd
    refine cond_if q (fun q => ?_) fun q => q
    exact ((evS e noX s _ q).mono fun v s q => q).bnd
  | .frz a, X, s, Q, h => by
    simp only [ev]; exact ((evS a X s _ h).mono fun x s q => frzW_ok q).bnd
theorem evsS : ∀ (es : List Ex) (X : XP) (s : S) (Q : List AV → S → Prop), evsW C es X s Q → (evs call es s).W X Q
  | [], X, s, Q, h => h
  | e :: es, X, s, Q, h => by
    simp only [evs]; exact ((evS e X s _ h).mono fun v s q => ((evsS es X s _ q).mono fun vs s q => q).bnd).bnd
theorem evoS : ∀ (e : Option Ex) (X : XP) (s : S) (Q : Option Int → S → Prop), evoW C e X s Q → (evo call e s).W X Q
  | none, X, s, Q, h => h
  | some e, X, s, Q, h => by
    simp only [evo]
    refine ((evS e X s _ h).mono fun x s q => ?_).bnd
    cases x <;> first | exact q | exact q.elim
theorem evcS : ∀ (e : Option Ex) (X : XP) (s : S) (Q : Bool → S → Prop), evcW C e X s Q → (evc call e s).W X Q
  | none, X, s, Q, h => h
  | some e, X, s, Q, h => by
    simp only [evc]; exact ((evS e X s _ h).mono fun x s q => truW_ok q).bnd
theorem tgaS : ∀ (t : Tg) (X : XP) (v : AV) (s : S) (Q : S → Prop), tgaW C t X v s Q → (tga call t v s).W X fun _ s => Q s
  | .nm i, X, v, s, Q, h => by
    obtain ⟨l, q⟩ := setW_ok (Q := fun env => Q { s with env := env }) h
    simp only [tga]; rw [if_pos l]; exact q
  | .tp ts, X, v, s, Q, h => by
    obtain ⟨xs, e, l, q⟩ := seqW_ok h
    simp only [tga, e]; rw [if_pos l]; exact tgasS ts X xs s Q q
  | .sub a b, X, v, s, Q, h => by
    simp only [tga]; exact ((evS a X s _ h).mono fun x s q => ((evS b X s _ q).mono fun y s q => putW_ok q).bnd).bnd
  | .att _ _, X, v, s, Q, h => h.elim
theorem tgasS : ∀ (ts : List Tg) (X : XP) (xs : List AV) (s : S) (Q : S → Prop), tgasW C ts X xs s Q → (tgas call ts xs s).W X fun _ s => Q s
  | [], X, xs, s, Q, h => by
    cases xs with
    | nil => exact h
    | cons _ _ => exact h.elim
  | t :: ts, X, xs, s, Q, h => by
    cases xs with
    | nil => exact h.elim
    | cons x xs =>
      simp only [tgas]; exact ((tgaS t X x s _ h).mono fun _ s q => tgasS ts X xs s Q q).bnd
theorem itrS : ∀ (i : It) (X : XP) (s : S) (Q : Wk → S → Prop), itrW C i X s Q → (itr call i s).W X Q
  | .val e, X, s, Q, h => by
    simp only [itr]
    refine ((evS e X s _ h).mono fun v s q => ?_).bnd
    obtain ⟨w, e, q⟩ := walkVW_ok q
    simp only [e]; exact q
  | .rng es, X, s, Q, h => by
    simp only [itr]
    refine ((evsS es X s _ h).mono fun v s q => ?_).bnd
    obtain ⟨w, e, q⟩ := walkRW_ok q
    simp only [e]; exact q
  | .enm _, X, s, Q, h => h.elim
  | .zip _ _, X, s, Q, h => h.elim
end
mutual
theorem exS : ∀ (x : Sm) (X : XP) (s : S) (Q : Fl → S → Prop), exW C x X s Q → (ex call x s).W X Q
  | .expr e, X, s, Q, h => by
    simp only [ex]; exact ((evS hC e X s _ h).mono fun v s q => q).bnd
  | .asg t e, X, s, Q, h => by
    simp only [ex]; exact ((evS hC e X s _ h).mono fun v s q => ((tgaS hC t X v s _ q).mono fun _ s q => q).bnd).bnd
  | .par is es, X, s, Q, h => by
    simp only [ex]; exact ((evsS hC es X s _ h).mono fun v s q => ((parW_ok (Q := fun _ s => Q .nxt s) q).mono fun _ s q => q).bnd).bnd
  | .aug i o e, X, s, Q, h => by
    obtain ⟨v, e1, q⟩ := getW_ok h
    simp only [ex, e1]
    exact ((evS hC e X s _ q).mono fun y s q => ((augW_ok (Q := fun z s => Q .nxt { s with env := s.env.set i (some z) }) q).mono fun z s q => q).bnd).bnd
  | .ret none, X, s, Q, h => by
    simp only [ex]; exact h
  | .ret (some e), X, s, Q, h => by
    simp only [ex]
    refine ((evS hC e X s _ h).mono fun v s q => ?_).bnd
    have hn : v.nl = true := by cases v <;> first | rfl | exact q.1.elim
    simp only [hn, if_true]; exact q.2
  | .ifs c a b, X, s, Q, h => by
    simp only [ex]
    exact ((evS hC c X s _ h).mono fun x s q => ((truW_ok (Q := fun t s => condW t (exsW C a X s Q) (exsW C b X s Q)) q).mono fun t s q => cond_if q (fun q => exsS a X s _ q) fun q => exsS b X s _ q).bnd).bnd
  | .for t i body, X, s, Q, h => by
    simp only [ex]
    refine ((itrS hC i X s _ h).mono fun w s q => ?_).bnd
    exact forW_ok (f := fun x s K => tgaW C t X x s fun s => exsW C body X s K) (fun x s K h => ((tgaS hC t X x s _ h).mono fun _ s q => exsS body X s K q).bnd) q
  | .whl n c body, X, s, Q, h => by
    simp only [ex]
    obtain ⟨m, hm, h⟩ := h
    refine whl_more hm ?_
    exact whlW_ok (c := fun s K => evW C c X s fun x s => truW x fun t => K t s) (f := fun s K => exsW C body X s K) (fun s K h => ((evS hC c X s _ h).mono fun x s q => truW_ok (Q := K) q).bnd) (fun s K h => exsS body X s K h) h
  | .brk, X, s, Q, h => h
  | .cnt, X, s, Q, h => h
  | .pas, X, s, Q, h => h
  | .rse c m, X, s, Q, h => h
theorem exsS : ∀ (x : List Sm) (X : XP) (s : S) (Q : Fl → S → Prop), exsW C x X s Q → (exs call x s).W X Q
  | [], X, s, Q, h => h
  | x :: xs, X, s, Q, h => by
    simp only [exs]
    refine ((exS x X s _ h).mono fun r s q => ?_).bnd
    cases r with
    | nxt => exact exsS xs X s _ q
    | _ => exact q
end
end
/-- a call, as far as its wishes go -/
@[irreducible] def callW (fns : Nat → Option FD) (n f : Nat) (vs : List AV) (st : List Cell) (X : XP) (Q : AV → List Cell → Prop) : Prop := (runF fns n f vs st).W X Q
theorem callW_run {fns : Nat → Option FD} {n f : Nat} {vs : List AV} {st : List Cell} {X : XP} {Q : AV → List Cell → Prop} (h : callW fns n f vs st X Q) : (runF fns n f vs st).W X Q := by
  unfold callW at h; exact h
theorem callW_of {fns : Nat → Option FD} {n f : Nat} {d : FD} {vs : List AV} {st : List Cell} {X : XP} {Q : AV → List Cell → Prop} (hd : fns f = some d) (hn : vs.length = d.np)
    (h : exsW (callW fns n) d.body X ⟨startA d.nn vs, [], st⟩ fun fl s => match fl with
      | .nxt => Q .non s.sto
      | .ret v => Q v s.sto
      | _ => False) : callW fns (n + 1) f vs st X Q := by
  unfold callW runF
  simp only [hd, hn, if_true]
  have := exsS (call := runF fns n) (fun f vs st X Q q => callW_run q) d.body X _ _ h
  cases hr : exs (runF fns n) d.body ⟨startA d.nn vs, [], st⟩ with
  | bad => rw [hr] at this; exact this
  | exn c p st => rw [hr] at this; exact this
  | ok fl s =>
    rw [hr] at this
    cases fl with
    | nxt => exact this
    | ret v => exact this
    | brk => exact this.elim
    | cnt => exact this.elim
theorem callW_mono {fns : Nat → Option FD} {n f : Nat} {vs : List AV} {st : List Cell} {X X' : XP} {Q Q' : AV → List Cell → Prop} (h : callW fns n f vs st X Q) (k : ∀ v st, Q v st → Q' v st) (kx : ∀ c p st, X c p st → X' c p st) : callW fns n f vs st X' Q' := by
  have h := callW_run h
  unfold callW
  cases hr : runF fns n f vs st with
  | ok v st => rw [hr] at h; exact k _ _ h
  | exn c p st => rw [hr] at h; exact kx _ _ _ h
  | bad => rw [hr] at h; exact h
end CL

end
section
/-! IR: the trees of the defs, written by irgen.py. -/
set_option linter.all false
namespace CL.F
/-- 0: is_whole -/
def is_whole : FD := ⟨3, 3, [.ret (some (.and (.isi (.slot 0) .int) (.and (.not (.isi (.slot 0) .bool)) (.chn .le .le (.slot 1) (.slot 0) (.slot 2)))))]⟩
/-- 1: is_table -/
def is_table : FD := ⟨1, 4, [.ifs (.not (.isi (.slot 0) .list)) [.ret (some (.cst (.bl false)))] [],
  .asg (.nm 1) (.cst (.int 0)),
  .for (.nm 2) (.val (.slot 0)) [.ifs (.or (.not (.isi (.slot 2) .tuple)) (.or (.cmp .ne (.pr .len .fz [.slot 2]) (.cst (.int 3))) (.not (.call 2 [.idx (.slot 2) (.cst (.int 2))])))) [.ret (some (.cst (.bl false)))] [],
  .ifs (.or (.not (.pr .all .fz [.comp .fz [3] (.nm 3) (.val (.slc .fz (.slot 2) none (some (.cst (.int 2))))) none (.call 0 [.slot 3, .cst (.int 0), .cst (.int 100000)])])) (.or (.cmp .lt (.idx (.slot 2) (.cst (.int 0))) (.slot 1)) (.cmp .le (.idx (.slot 2) (.cst (.int 1))) (.idx (.slot 2) (.cst (.int 0)))))) [.ret (some (.cst (.bl false)))] [],
  .asg (.nm 1) (.idx (.slot 2) (.cst (.int 1)))],
  .ret (some (.cst (.bl true)))]⟩
/-- 2: is_chain -/
def is_chain : FD := ⟨1, 2, [.ifs (.or (.not (.isi (.slot 0) .tuple)) (.cmp .eq (.slot 0) (.tup []))) [.ret (some (.cst (.bl false)))] [],
  .for (.nm 1) (.val (.slot 0)) [.ifs (.or (.not (.isi (.slot 1) .tuple)) (.or (.cmp .ne (.pr .len .fz [.slot 1]) (.cst (.int 3))) (.not (.call 0 [.idx (.slot 1) (.cst (.int 1)), .cst (.int 0), .cst (.int 100000)])))) [.ret (some (.cst (.bl false)))] [],
  .ifs (.or (.and (.cmp .isn (.idx (.slot 1) (.cst (.int 0))) (.cst .non)) (.not (.call 0 [.idx (.slot 1) (.cst (.int 0)), .cst (.int 0), .bin .sub (.cst (.int 5)) (.cst (.int 1))]))) (.not (.isi (.idx (.slot 1) (.cst (.int 2))) .bool))) [.ret (some (.cst (.bl false)))] []],
  .ret (some (.cst (.bl true)))]⟩
/-- 3: look_table -/
def look_table : FD := ⟨1, 1, [.ifs (.not (.call 1 [.slot 0])) [.rse 4 [110, 111, 32, 116, 97, 98, 108, 101]] []]⟩
/-- 4: found_at -/
def found_at : FD := ⟨2, 2, [.expr (.call 3 [.slot 0]),
  .ifs (.not (.call 0 [.slot 1, .cst (.int 0), .cst (.int 100000)])) [.rse 4 [110, 111, 32, 112, 108, 97, 99, 101]] [],
  .ret (some (.call 5 [.slot 0, .slot 1]))]⟩
/-- 5: found_in -/
def found_in : FD := ⟨2, 5, [.par [2, 3] [.cst (.int 0), .pr .len .fz [.slot 0]],
  .whl 1000 (.cmp .lt (.slot 2) (.slot 3)) [.asg (.nm 4) (.bin .fdiv (.bin .add (.slot 2) (.slot 3)) (.cst (.int 2))),
  .ifs (.cmp .le (.idx (.idx (.slot 0) (.slot 4)) (.cst (.int 1))) (.slot 1)) [.asg (.nm 2) (.bin .add (.slot 4) (.cst (.int 1)))] [.asg (.nm 3) (.slot 4)]],
  .ret (some (.ite (.and (.cmp .lt (.slot 2) (.pr .len .fz [.slot 0])) (.cmp .le (.idx (.idx (.slot 0) (.slot 2)) (.cst (.int 0))) (.slot 1))) (.idx (.idx (.slot 0) (.slot 2)) (.cst (.int 2))) (.tup [])))]⟩
/-- 6: _law_town -/
def law_town : FD := ⟨1, 1, [.ret (some (.lst .gl [.ite (.cmp .ne (.slot 0) (.lst .fz [])) (.pr .list .gl [.slot 0]) (.lst .gl [.cst (.int 0)]), .cst (.int 0)]))]⟩
/-- 7: _law_draw -/
def law_draw : FD := ⟨2, 6, [.asg (.nm 2) (.idx (.slot 0) (.cst (.int 0))),
  .asg (.sub (.slot 0) (.cst (.int 1))) (.bin .add (.idx (.slot 0) (.cst (.int 1))) (.cst (.int 1))),
  .asg (.nm 3) (.bin .mod (.idx (.slot 0) (.cst (.int 1))) (.pr .len .fz [.slot 2])),
  .asg (.nm 4) (.idx (.slot 2) (.slot 3)),
  .ifs (.cmp .ge (.slot 4) (.cst (.int 1000000000000000000))) [.asg (.sub (.slot 2) (.slot 3)) (.bin .fdiv (.slot 4) (.slot 1)),
  .ret (some (.bin .mod (.slot 4) (.slot 1)))] [],
  .asg (.nm 5) (.bin .mod (.bin .add (.slot 4) (.bin .mul (.cst (.int 104729)) (.idx (.slot 0) (.cst (.int 1))))) (.cst (.int 4294967291))),
  .asg (.nm 5) (.bin .mod (.bin .pow (.slot 5) (.cst (.int 5))) (.cst (.int 4294967279))),
  .ret (some (.bin .mod (.bin .fdiv (.bin .mod (.bin .add (.bin .mul (.bin .fdiv (.slot 5) (.cst (.int 64))) (.cst (.int 69621))) (.slot 5)) (.cst (.int 4294967231))) (.cst (.int 8))) (.slot 1)))]⟩
/-- 8: _law_pick -/
def law_pick : FD := ⟨2, 2, [.ret (some (.idx (.slot 1) (.call 7 [.slot 0, .pr .len .fz [.slot 1]])))]⟩
/-- 9: _law_chain -/
def law_chain : FD := ⟨1, 3, [.asg (.nm 1) (.lst .lo []),
  .for (.nm 2) (.rng [.bin .add (.cst (.int 1)) (.call 7 [.slot 0, .cst (.int 3)])]) [.expr (.pm .append (.slot 1) [.tup [.call 8 [.slot 0, .lst .fz [.cst .non, .cst (.int 0), .cst (.int 1), .cst (.int 4)]], .call 8 [.slot 0, .lst .fz [.cst (.int 0), .cst (.int 5), .cst (.int 300), .cst (.int 100000)]], .cmp .eq (.call 7 [.slot 0, .cst (.int 2)]) (.cst (.int 1))]])],
  .ret (some (.pr .tuple .fz [.slot 1]))]⟩
/-- 10: _law_table -/
def law_table : FD := ⟨1, 6, [.asg (.nm 1) (.comp .fz [4] (.nm 4) (.rng [.bin .add (.cst (.int 1)) (.call 7 [.slot 0, .cst (.int 3)])]) none (.call 9 [.slot 0])),
  .asg (.nm 2) (.lst .lo []),
  .asg (.nm 3) (.cst (.int 0)),
  .for (.nm 4) (.rng [.call 7 [.slot 0, .cst (.int 9)]]) [.asg (.nm 5) (.bin .add (.slot 3) (.call 8 [.slot 0, .lst .fz [.cst (.int 0), .cst (.int 1), .cst (.int 5), .cst (.int 127), .cst (.int 128), .call 7 [.slot 0, .cst (.int 3000)]]])),
  .asg (.nm 3) (.bin .add (.bin .add (.slot 5) (.cst (.int 1))) (.call 8 [.slot 0, .lst .fz [.cst (.int 0), .cst (.int 1), .cst (.int 126), .cst (.int 127), .call 7 [.slot 0, .cst (.int 3000)]]])),
  .expr (.pm .append (.slot 2) [.tup [.slot 5, .slot 3, .call 8 [.slot 0, .slot 1]]])],
  .ret (some (.frz (.slot 2)))]⟩
/-- 11: law -/
def law : FD := ⟨1, 10, [.asg (.nm 1) (.call 6 [.slot 0]),
  .asg (.nm 2) (.call 10 [.slot 1]),
  .asg (.nm 3) (.pr .list .fz [.slot 2]),
  .asg (.nm 4) (.lst .fz [.cst (.int 0), .cst (.int 1), .cst (.int 100000), .call 7 [.slot 1, .cst (.int 30000)]]),
  .for (.tp [(.nm 5), (.nm 6), (.nm 7)]) (.val (.slot 2)) [.asg (.nm 4) (.cat .fz (.slot 4) (.lst .fz [.pr .max2 .fz [.cst (.int 0), .bin .sub (.slot 5) (.cst (.int 1))], .slot 5, .bin .add (.slot 5) (.call 7 [.slot 1, .bin .sub (.slot 6) (.slot 5)]), .bin .sub (.slot 6) (.cst (.int 1)), .slot 6]))],
  .for (.nm 8) (.val (.slot 4)) [.asg (.nm 9) (.comp .fz [5, 6, 7] (.tp [(.nm 5), (.nm 6), (.nm 7)]) (.val (.slot 2)) (some (.and (.cmp .le (.slot 5) (.slot 8)) (.cmp .lt (.slot 8) (.slot 6)))) (.slot 7)),
  .ifs (.cmp .ne (.call 4 [.slot 2, .slot 8]) (.ite (.cmp .ne (.slot 9) (.lst .fz [])) (.idx (.slot 9) (.cst (.int 0))) (.tup []))) [.ret (some (.cst (.bl false)))] []],
  .ret (some (.and (.cmp .eq (.slot 2) (.slot 3)) (.cmp .eq (.call 4 [.lst .fz [], .cst (.int 5)]) (.tup []))))]⟩
end CL.F
namespace CL.H
variable (fns : Nat → Option FD)
structure is_whole : Prop where
  me : fns 0 = some F.is_whole
structure is_chain : Prop where
  me : fns 2 = some F.is_chain
  is_whole : is_whole fns
structure is_table : Prop where
  me : fns 1 = some F.is_table
  is_chain : is_chain fns
  is_whole : is_whole fns
structure look_table : Prop where
  me : fns 3 = some F.look_table
  is_table : is_table fns
structure found_in : Prop where
  me : fns 5 = some F.found_in
structure found_at : Prop where
  me : fns 4 = some F.found_at
  look_table : look_table fns
  is_whole : is_whole fns
  found_in : found_in fns
structure law_town : Prop where
  me : fns 6 = some F.law_town
structure law_draw : Prop where
  me : fns 7 = some F.law_draw
structure law_pick : Prop where
  me : fns 8 = some F.law_pick
  law_draw : law_draw fns
structure law_chain : Prop where
  me : fns 9 = some F.law_chain
  law_draw : law_draw fns
  law_pick : law_pick fns
structure law_table : Prop where
  me : fns 10 = some F.law_table
  law_draw : law_draw fns
  law_chain : law_chain fns
  law_pick : law_pick fns
structure law : Prop where
  me : fns 11 = some F.law
  law_town : law_town fns
  law_table : law_table fns
  law_draw : law_draw fns
  found_at : found_at fns
end CL.H

end
section
/-! Mc: what the laws' common defs do. -/
set_option Elab.async false
set_option linter.all false
namespace CL
def Tw (rest : List Cell) (st : List Cell) : Prop := ∃ ns : List Int, ns ≠ [] ∧ ∃ k : Int, 0 ≤ k ∧ st = .lst (ns.map .int) :: .lst [.ref 0, .int k] :: rest
theorem at_ok {xs : List AV} {i : Int} {v : AV} (h0 : 0 ≤ i) (h : xs[i.toNat]? = some v) : atA xs i = some v := by
  have hl := (List.getElem?_eq_some_iff.mp h).1
  unfold atA ixA
  rw [if_pos h0, if_pos (by omega)]
  exact h
theorem bl_le {m n : Nat} (h : Nat.ble m n = true) : m ≤ n := Nat.le_of_ble_eq_true h
theorem bl_lt {m n : Nat} (h : Nat.ble (m + 1) n = true) : m < n := Nat.le_of_ble_eq_true h
theorem nlm_mem {xs : List AV} {v : AV} (h : allNl xs) (m : v ∈ xs) : nlW v := nlm (List.all_eq_true.mp (allNl_ok h) v m)
theorem forW_inv {w : Wk} {f : AV → S → (Fl → S → Prop) → Prop} {items : List AV} {s : S} {Q : Fl → S → Prop} (I : List AV → S → Prop) (h0 : I items s) (hn : ∀ s, I [] s → w.ok s.loc s.sto = true ∧ Q .nxt s)
    (hc : ∀ x xs s, I (x :: xs) s → (∀ s', I xs s' → forW w f xs s' Q) → forW w f (x :: xs) s Q) : forW w f items s Q := by
  induction items generalizing s with
  | nil => exact hn s h0
  | cons x xs ih => exact hc x xs s h0 fun s' h => ih h
theorem compW_inv {w : Wk} {f : AV → S → (Option AV → S → Prop) → Prop} {items acc : List AV} {s : S} {Q : List AV → S → Prop} (I : List AV → List AV → S → Prop) (h0 : I items acc s) (hn : ∀ acc s, I [] acc s → w.ok s.loc s.sto = true ∧ Q acc s)
    (hc : ∀ x xs acc s, I (x :: xs) acc s → (∀ acc' s', I xs acc' s' → compW w f xs acc' s' Q) → compW w f (x :: xs) acc s Q) : compW w f items acc s Q := by
  induction items generalizing acc s with
  | nil => exact hn acc s h0
  | cons x xs ih => exact hc x xs acc s h0 fun acc' s' h => ih h
theorem whlW_inv {c : S → (Bool → S → Prop) → Prop} {f : S → (Fl → S → Prop) → Prop} {n : Nat} {s : S} {Q : Fl → S → Prop} (I : Nat → S → Prop) (m : Nat) (hm : m < n) (h0 : I m s)
    (hc : ∀ m n s, I m s → (∀ m' s', m' < m → I m' s' → whlW c f n s' Q) → whlW c f (n + 1) s Q) : whlW c f n s Q := by
  induction n generalizing m s with
  | zero => omega
  | succ n ih => exact hc m n s h0 fun m' s' l h => ih m' (by omega) h
theorem ups_len : ∀ (n : Nat) (a : Int), (ups a n).length = n
  | 0, _ => rfl
  | n + 1, a => congrArg Nat.succ (ups_len n (a + 1))
/-! ### data -/
mutual
theorem eqv_refl : ∀ x : AV, x.isD = true → x.eqv x = true
  | .non, _ => rfl
  | .bl b, _ => by simp [AV.eqv]
  | .int b, _ => by simp [AV.eqv]
  | .str b, _ => by simp [AV.eqv]
  | .tup xs, h => by simp only [AV.eqv]; exact eqvs_refl xs (by simpa only [AV.isD] using h)
  | .lst xs, h => by simp only [AV.eqv]; exact eqvs_refl xs (by simpa only [AV.isD] using h)
  | .scr _, h => by simp [AV.isD] at h
  | .loc _, h => by simp [AV.isD] at h
  | .ref _, h => by simp [AV.isD] at h
theorem eqvs_refl : ∀ xs : List AV, AV.allD xs = true → AV.eqvs xs xs = true
  | [], _ => rfl
  | x :: xs, h => by
    simp only [AV.allD, Bool.and_eq_true] at h
    simp only [AV.eqvs, eqv_refl x h.1, eqvs_refl xs h.2, Bool.and_self]
end
theorem allD_of {xs : List AV} (h : ∀ x ∈ xs, x.isD = true) : AV.allD xs = true := by
  induction xs with
  | nil => rfl
  | cons x xs ih => simp only [AV.allD, h x (by simp), ih fun y hy => h y (by simp [hy]), Bool.and_self]
theorem deps_le {xs : List AV} {n : Nat} (h : ∀ x ∈ xs, x.dep ≤ n) : AV.deps xs ≤ n := by
  induction xs with
  | nil => exact Nat.zero_le _
  | cons x xs ih => simp only [AV.deps]; exact Nat.max_le.mpr ⟨h x (by simp), ih fun y hy => h y (by simp [hy])⟩
structure Lk where
  kind : Option Int
  goal : Int
  clean : Bool
structure Rw where
  b : Int
  e : Int
  ch : List Lk
def kindA : Option Int → AV
  | none => .non
  | some i => .int i
def lnkA (l : Lk) : AV := .tup [kindA l.kind, .int l.goal, .bl l.clean]
def chA (c : List Lk) : AV := .tup (c.map lnkA)
def rowA (r : Rw) : AV := .tup [.int r.b, .int r.e, chA r.ch]
def OkL (l : Lk) : Prop := (∀ k, l.kind = some k → 0 ≤ k ∧ k ≤ 4) ∧ 0 ≤ l.goal ∧ l.goal ≤ 100000
def OkC (c : List Lk) : Prop := ∀ l ∈ c, OkL l
def OkT : Int → List Rw → Prop
  | _, [] => True
  | a, r :: t => a ≤ r.b ∧ r.b < r.e ∧ r.e ≤ 100000 ∧ (r.ch ≠ [] ∧ OkC r.ch) ∧ OkT r.e t
theorem lnkA_D (l : Lk) : (lnkA l).isD = true ∧ (lnkA l).dep ≤ 1 := by
  obtain ⟨k, g, c⟩ := l
  cases k <;> exact ⟨rfl, Nat.le_refl 1⟩
theorem chA_D (c : List Lk) : (chA c).isD = true ∧ (chA c).dep ≤ 2 := by
  refine ⟨?_, ?_⟩
  · show AV.allD (c.map lnkA) = true
    exact allD_of fun x hx => by obtain ⟨l, _, rfl⟩ := List.mem_map.mp hx; exact (lnkA_D l).1
  · show AV.deps (c.map lnkA) + 1 ≤ 2
    have := deps_le (xs := c.map lnkA) (n := 1) fun x hx => by obtain ⟨l, _, rfl⟩ := List.mem_map.mp hx; exact (lnkA_D l).2
    omega
theorem rowA_D (r : Rw) : (rowA r).isD = true ∧ (rowA r).dep ≤ 3 := by
  have h := chA_D r.ch
  refine ⟨?_, ?_⟩
  · show (true && (true && ((chA r.ch).isD && true))) = true
    rw [h.1]; rfl
  · show max 0 (max 0 (max (chA r.ch).dep 0)) + 1 ≤ 3
    omega
theorem rows_D (t : List Rw) : AV.allD (t.map rowA) = true ∧ AV.deps (t.map rowA) ≤ 3 :=
  ⟨allD_of fun x hx => by obtain ⟨l, _, rfl⟩ := List.mem_map.mp hx; exact (rowA_D l).1, deps_le fun x hx => by obtain ⟨l, _, rfl⟩ := List.mem_map.mp hx; exact (rowA_D l).2⟩
theorem rows_nl (t : List Rw) : allNl (t.map rowA) := allNl_of fun x hx => by obtain ⟨l, _, rfl⟩ := List.mem_map.mp hx; rfl
theorem lnks_nl (t : List Lk) : allNl (t.map lnkA) := allNl_of fun x hx => by obtain ⟨l, _, rfl⟩ := List.mem_map.mp hx; rfl
theorem SL_big {n : Nat} (h : n ≤ 100000) : n ≤ SL := by unfold SL; omega
section
variable {fns : Nat → Option FD} {X : XP} {Q : AV → List Cell → Prop} {st rest : List Cell}
theorem draw_spec (h : H.law_draw fns) {n : Nat} {m : Int} (hm : 0 < m) (hm2 : m < 2 ^ 30) (T : Tw rest st) (k : ∀ v st', 0 ≤ v → v < m → Tw rest st' → Q (.int v) st') : callW fns (n + 1) 7 [.ref 1, .int m] st X Q := by
  obtain ⟨ns, hne, j, hj, rfl⟩ := T
  have hl : 0 < ns.length := List.length_pos_iff.mpr hne
  have hlen : (ns.map AV.int).length = ns.length := List.length_map ..
  have e1 : ((ns.map AV.int).length : Int) ≠ 0 := by rw [hlen]; omega
  have f0 : 0 ≤ (j + 1).fmod ((ns.map AV.int).length : Int) := Int.fmod_nonneg_of_pos _ (by omega)
  have f1 : (j + 1).fmod ((ns.map AV.int).length : Int) < ((ns.map AV.int).length : Int) := Int.fmod_lt_of_pos _ (by omega)
  generalize hq : (j + 1).fmod ((ns.map AV.int).length : Int) = q at f0 f1
  have f2 : q.toNat < ns.length := by omega
  have hc : (ns.map AV.int)[q.toNat]? = some (.int ns[q.toNat]) := by
    rw [List.getElem?_map, List.getElem?_eq_getElem f2]; rfl
  generalize hv : ns[q.toNat] = c at hc
  refine callW_of h.me rfl ?_
  refine ⟨_, rfl, _, rfl, ?_⟩
  refine ⟨_, rfl, _, rfl, ?_⟩
  refine ⟨trivial, _, rfl, _, rfl, ?_⟩
  refine ⟨_, rfl, _, rfl, ?_⟩
  refine ⟨_, rfl, ?_⟩
  refine ⟨e1, ?_⟩
  refine ⟨_, rfl, _, by rw [hq]; exact at_ok f0 hc, ?_⟩
  refine cond_d (fun _ => ?_) fun _ => ?_
  · refine ⟨⟨by omega, by omega⟩, trivial, _, rfl, q.toNat, ?_, ⟨by omega, trivial, ?_⟩⟩
    · rw [hq]; unfold ixA; rw [if_pos f0, if_pos f1]
    · refine k _ _ (Int.fmod_nonneg_of_pos _ (by omega)) (Int.fmod_lt_of_pos _ (by omega)) ⟨ns.set q.toNat (c.fdiv m), by simpa using hne, j + 1, by omega, ?_⟩
      rw [List.map_set]; rfl
  · refine ⟨_, rfl, _, rfl, ?_⟩
    refine ⟨.inl ⟨by decide, by decide⟩, by decide, ?_⟩
    have g0 := Int.fmod_nonneg_of_pos (c + 104729 * (j + 1)) (b := 4294967291) (by decide)
    have g1 := Int.fmod_lt_of_pos (c + 104729 * (j + 1)) (b := 4294967291) (by decide)
    have nat : ∀ x : Int, 0 ≤ x → x < 4294967291 → x.natAbs < 2 ^ 64 := fun x a b => by omega
    refine ⟨⟨by decide, by decide, nat _ g0 g1⟩, by decide, ?_⟩
    refine ⟨⟨by decide, by decide⟩, .inr ⟨by decide, by decide⟩, by decide, ⟨by decide, by decide⟩, ?_⟩
    exact ⟨by omega, trivial, k _ _ (Int.fmod_nonneg_of_pos _ (by omega)) (Int.fmod_lt_of_pos _ (by omega)) ⟨ns, hne, j + 1, by omega, rfl⟩⟩
/-- what is picked stands in the list -/
theorem pick_spec (h : H.law_pick fns) {n : Nat} {xs : List AV} (hx : xs ≠ []) (hx2 : xs.length < 2 ^ 30) (hn : allNl xs) (T : Tw rest st) (k : ∀ v st', v ∈ xs → Tw rest st' → Q v st') : callW fns (n + 2) 8 [.ref 1, .lst xs] st X Q := by
  have hl : 0 < xs.length := List.length_pos_iff.mpr hx
  refine callW_of h.me rfl ?_
  refine ⟨⟨trivial, trivial, trivial⟩, draw_spec h.law_draw (by omega) (by omega) T fun v st' h0 h1 T' => ?_⟩
  have f : v.toNat < xs.length := by omega
  have hm := List.getElem_mem f
  exact ⟨xs[v.toNat], at_ok h0 (List.getElem?_eq_getElem f), nlm_mem hn hm, k _ _ hm T'⟩
def wholeB (x : AV) (lo hi : Int) : Bool := match x with
  | .int i => decide (lo ≤ i) && decide (i ≤ hi)
  | _ => false
theorem whole_spec (h : H.is_whole fns) {n : Nat} {x : AV} {lo hi : Int} (hx : x.nl = true) (hr : ∀ c, x ≠ .ref c) (k : Q (.bl (wholeB x lo hi)) st) : callW fns (n + 1) 0 [x, .int lo, .int hi] st X Q := by
  refine callW_of h.me rfl ?_
  cases x with
  | int i =>
    refine cond_d (fun h1 => ⟨trivial, ?_⟩) fun h1 => ⟨trivial, ?_⟩
    · have : wholeB (.int i) lo hi = decide (i ≤ hi) := by simp [wholeB, h1]
      rw [this] at k; exact k
    · have : wholeB (.int i) lo hi = false := by simp [wholeB, h1]
      rw [this] at k; exact k
  | loc _ => cases hx
  | ref c => exact (hr c rfl).elim
  | _ => exact ⟨trivial, k⟩
theorem chain_spec (h : H.law_chain fns) {n : Nat} (T : Tw rest st) (k : ∀ c st', c ≠ [] → c.length ≤ 3 → OkC c → Tw rest st' → Q (chA c) st') : callW fns (n + 3) 9 [.ref 1] st X Q := by
  refine callW_of h.me rfl ?_
  refine ⟨⟨by decide, trivial⟩, ?_⟩
  refine ⟨⟨trivial, trivial, trivial⟩, draw_spec h.law_draw (by decide) (by decide) T fun v st1 h0 h1 T1 => ?_⟩
  refine ⟨by unfold small62; simp; omega, ?_⟩
  refine forW_inv (fun xs s => ∃ c o st2, OkC c ∧ c.length + xs.length = (1 + v).toNat ∧ Tw rest st2 ∧ s = ⟨[some (.ref 1), some (.loc 0), o], [some (c.map lnkA)], st2⟩) ?_ ?_ ?_
  · exact ⟨[], none, st1, fun _ h => (List.not_mem_nil h).elim, (by show _ + (ups _ _).length = _; rw [ups_len]; simp), T1, rfl⟩
  · rintro s ⟨c, o, st2, hc, hl, T2, rfl⟩
    refine ⟨rfl, ?_⟩
    refine ⟨_, rfl, trivial, k c st2 ?_ ?_ hc T2⟩
    · rintro rfl; simp at hl; omega
    · simp at hl; omega
  · rintro x xs s ⟨c, o, st2, hc, hl, T2, rfl⟩ ih
    refine ⟨rfl, ?_⟩
    refine ⟨⟨_, rfl, trivial⟩, ?_⟩
    refine ⟨⟨by decide, trivial, trivial, trivial, trivial, trivial⟩, ⟨trivial, trivial, trivial⟩, pick_spec h.law_pick (by simp) (by decide) ⟨trivial, trivial, trivial, trivial, trivial⟩ T2 fun a st3 ha T3 => ?_⟩
    refine ⟨⟨by decide, trivial, trivial, trivial, trivial, trivial⟩, ⟨trivial, trivial, trivial⟩, pick_spec h.law_pick (by simp) (by decide) ⟨trivial, trivial, trivial, trivial, trivial⟩ T3 fun b st4 hb T4 => ?_⟩
    refine ⟨⟨trivial, trivial, trivial⟩, draw_spec h.law_draw (by decide) (by decide) T4 fun d st5 d0 d1 T5 => ?_⟩
    obtain ⟨kd, rfl, hk⟩ : ∃ kd, a = kindA kd ∧ ∀ k, kd = some k → 0 ≤ k ∧ k ≤ 4 := by
      simp only [List.mem_cons, List.not_mem_nil, or_false] at ha
      rcases ha with rfl | rfl | rfl | rfl
      · exact ⟨none, rfl, fun k e => by cases e⟩
      · exact ⟨some 0, rfl, fun k e => by cases e; decide⟩
      · exact ⟨some 1, rfl, fun k e => by cases e; decide⟩
      · exact ⟨some 4, rfl, fun k e => by cases e; decide⟩
    obtain ⟨g, rfl, hg⟩ : ∃ g : Int, b = .int g ∧ 0 ≤ g ∧ g ≤ 100000 := by
      simp only [List.mem_cons, List.not_mem_nil, or_false] at hb
      rcases hb with rfl | rfl | rfl | rfl <;> exact ⟨_, rfl, by decide, by decide⟩
    refine ⟨⟨rfl, rfl, bl_le rfl⟩, ⟨bl_le rfl, ?_, trivial, trivial, trivial⟩, ?_⟩
    · cases kd <;> trivial
    · simp only [List.length_cons] at hl
      refine ⟨trivial, _, rfl, ?_, ih _ ⟨c ++ [⟨kd, g, d == 1⟩], some x, st5, ?_, ?_, T5, ?_⟩⟩
      · rw [List.length_map]; unfold SL; omega
      · intro l hl
        rcases List.mem_append.mp hl with hl | hl
        · exact hc l hl
        · rw [List.mem_singleton.mp hl]; exact ⟨hk, hg.1, hg.2⟩
      · rw [List.length_append, List.length_singleton]; omega
      · rw [List.map_append]; rfl
theorem table_spec (h : H.law_table fns) {n : Nat} (T : Tw rest st) (k : ∀ t st', t.length ≤ 8 → (∀ r ∈ t, r.ch.length ≤ 3) → OkT 0 t → Tw rest st' → Q (.lst (t.map rowA)) st') : callW fns (n + 4) 10 [.ref 1] st X Q := by
  refine callW_of h.me rfl ?_
  refine ⟨⟨trivial, trivial, trivial⟩, draw_spec h.law_draw (by decide) (by decide) T fun v st1 h0 h1 T1 => ?_⟩
  refine ⟨by unfold small62; simp; omega, ?_⟩
  refine compW_inv (fun xs acc s => ∃ (cs : List (List Lk)) (o : Option AV) (st2 : List Cell), (∀ c ∈ cs, c ≠ [] ∧ c.length ≤ 3 ∧ OkC c) ∧ acc = cs.map chA ∧ cs.length + xs.length = (1 + v).toNat ∧ Tw rest st2 ∧ s = ⟨[some (.ref 1), none, none, none, o, none], [], st2⟩) ?_ ?_ ?_
  · exact ⟨[], none, st1, fun _ h => (List.not_mem_nil h).elim, rfl, (by show _ + (ups _ _).length = _; rw [ups_len]; simp), T1, rfl⟩
  · rintro acc s ⟨cs, o, st2, hcs, rfl, hl, T2, rfl⟩
    simp only [List.length_nil, Nat.add_zero] at hl
    have hcn : cs ≠ [] := by rintro rfl; simp at hl; omega
    have hnl : allNl (cs.map chA) := allNl_of fun x hx => by obtain ⟨l, _, rfl⟩ := List.mem_map.mp hx; rfl
    refine ⟨rfl, ⟨⟨by rw [List.length_map]; exact SL_big (by omega), hnl⟩, ?_⟩⟩
    refine ⟨⟨by decide, trivial⟩, ?_⟩
    refine ⟨⟨trivial, trivial, trivial⟩, draw_spec h.law_draw (by decide) (by decide) T2 fun w st3 w0 w1 T3 => ?_⟩
    refine ⟨by unfold small62; simp; omega, ?_⟩
    refine forW_inv (fun xs s => ∃ (t : List Rw) (a : Int) (o o2 : Option AV) (st2 : List Cell), t.length + xs.length = w.toNat ∧ a ≤ 6002 * t.length ∧ 0 ≤ a ∧ (∀ u, OkT a u → OkT 0 (t ++ u)) ∧ (∀ r ∈ t, r.ch.length ≤ 3) ∧ Tw rest st2 ∧
      s = ⟨[some (.ref 1), some (.lst (cs.map chA)), some (.loc 0), some (.int a), o, o2], [some (t.map rowA)], st2⟩) ?_ ?_ ?_
    · exact ⟨[], 0, none, none, st3, (by show _ + (ups _ _).length = _; rw [ups_len]; simp), by simp, by simp, fun u hu => hu, fun _ h => (List.not_mem_nil h).elim, T3, rfl⟩
    · rintro s ⟨t, a, o, o2, st4, hl4, ha, ha0, ht, hr, T4, rfl⟩
      simp only [List.length_nil, Nat.add_zero] at hl4
      refine ⟨rfl, ?_⟩
      exact ⟨_, rfl, trivial, k t st4 (by omega) hr (by simpa using ht [] trivial) T4⟩
    · rintro x xs s ⟨t, a, o, o2, st4, hl4, ha, ha0, ht, hr, T4, rfl⟩ ih
      simp only [List.length_cons] at hl4
      refine ⟨rfl, ?_⟩
      refine ⟨⟨trivial, trivial, trivial⟩, draw_spec h.law_draw (by decide) (by decide) T4 fun p st5 p0 p1 T5 => ?_⟩
      refine ⟨⟨bl_le rfl, trivial, trivial, trivial, trivial, trivial, trivial, trivial⟩, ⟨trivial, trivial, trivial⟩, pick_spec h.law_pick (by simp) (bl_lt rfl) ⟨trivial, trivial, trivial, trivial, trivial, trivial, trivial⟩ T5 fun q st6 hq T6 => ?_⟩
      obtain ⟨g, rfl, hg⟩ : ∃ g : Int, q = .int g ∧ 0 ≤ g ∧ g ≤ 3000 := by
        simp only [List.mem_cons, List.not_mem_nil, or_false] at hq
        rcases hq with rfl | rfl | rfl | rfl | rfl | rfl <;> exact ⟨_, rfl, by omega, by omega⟩
      refine ⟨⟨trivial, trivial, trivial⟩, draw_spec h.law_draw (by decide) (by decide) T6 fun p st7 p0 p1 T7 => ?_⟩
      refine ⟨⟨bl_le rfl, trivial, trivial, trivial, trivial, trivial, trivial⟩, ⟨trivial, trivial, trivial⟩, pick_spec h.law_pick (by simp) (bl_lt rfl) ⟨trivial, trivial, trivial, trivial, trivial, trivial⟩ T7 fun q st8 hq T8 => ?_⟩
      obtain ⟨g2, rfl, hg2⟩ : ∃ g : Int, q = .int g ∧ 0 ≤ g ∧ g ≤ 3000 := by
        simp only [List.mem_cons, List.not_mem_nil, or_false] at hq
        rcases hq with rfl | rfl | rfl | rfl | rfl <;> exact ⟨_, rfl, by omega, by omega⟩
      refine ⟨⟨_, rfl, trivial⟩, ⟨trivial, trivial, trivial⟩, pick_spec h.law_pick (by simpa using hcn) (by rw [List.length_map]; omega) hnl T8 fun q st9 hq T9 => ?_⟩
      obtain ⟨c, hc, rfl⟩ := List.mem_map.mp hq
      obtain ⟨c1, c2, c3⟩ := hcs c hc
      refine ⟨⟨bl_le rfl, trivial, trivial, trivial, trivial⟩, trivial, _, rfl, ?_, ih _ ⟨t ++ [⟨a + g, a + g + 1 + g2, c⟩], a + g + 1 + g2, some x, some (.int (a + g)), st9, ?_, ?_, by omega, ?_, ?_, T9, ?_⟩⟩
      · rw [List.length_map]; unfold SL; omega
      · rw [List.length_append, List.length_singleton]; omega
      · rw [List.length_append, List.length_singleton]; omega
      · intro u hu
        rw [List.append_assoc]
        exact ht _ ⟨by show a ≤ a + g; omega, by show a + g < a + g + 1 + g2; omega, by show a + g + 1 + g2 ≤ 100000; omega, ⟨c1, c3⟩, hu⟩
      · intro r hr'
        rcases List.mem_append.mp hr' with h | h
        · exact hr r h
        · rw [List.mem_singleton.mp h]; exact c2
      · rw [List.map_append]; rfl
  · rintro x xs acc s ⟨cs, o, st2, hcs, rfl, hl, T2, rfl⟩ ih
    refine ⟨rfl, ?_⟩
    refine ⟨⟨trivial, trivial⟩, chain_spec h.law_chain T2 fun c st3 c1 c2 c3 T3 => ?_⟩
    simp only [List.length_cons] at hl
    refine ⟨⟨trivial, by rw [List.length_map]; unfold SL; omega⟩, ih _ _ ⟨cs ++ [c], some x, st3, ?_, by rw [List.map_append]; rfl, by rw [List.length_append, List.length_singleton]; omega, T3, rfl⟩⟩
    intro d hd
    rcases List.mem_append.mp hd with h | h
    · exact hcs d h
    · rw [List.mem_singleton.mp h]; exact ⟨c1, c2, c3⟩
theorem is_chain_spec (h : H.is_chain fns) {n : Nat} {c : List Lk} (hc : OkC c) (k : Q (.bl (!c.isEmpty)) st) : callW fns (n + 2) 2 [chA c] st X Q := by
  refine callW_of h.me rfl ?_
  cases c with
  | nil => exact ⟨⟨bl_le rfl, trivial⟩, ⟨rfl, rfl, bl_le rfl⟩, trivial, k⟩
  | cons l0 c0 =>
    refine ⟨⟨bl_le rfl, trivial⟩, ⟨(chA_D (l0 :: c0)).1, rfl, ?_⟩, ?_⟩
    · have := (chA_D (l0 :: c0)).2; exact Nat.le_trans (Nat.min_le_left _ _) (Nat.le_trans this (by decide))
    refine forW_inv (fun xs s => ∃ (c' : List Lk) (o : Option AV), OkC c' ∧ xs = c'.map lnkA ∧ s = ⟨[some (chA (l0 :: c0)), o], [], st⟩) ⟨l0 :: c0, none, hc, rfl, rfl⟩ ?_ ?_
    · rintro s ⟨c', o, _, _, rfl⟩
      exact ⟨rfl, trivial, k⟩
    · rintro x xs s ⟨c', o, hc', e, rfl⟩ ih
      cases c' with
      | nil => cases e
      | cons l c' =>
        simp only [List.map_cons, List.cons.injEq] at e
        obtain ⟨rfl, rfl⟩ := e
        have hl := hc' l (by simp)
        have ih' := ih ⟨[some (chA (l0 :: c0)), some (lnkA l)], [], st⟩ ⟨c', some (lnkA l), fun y hy => hc' y (by simp [hy]), rfl, rfl⟩
        obtain ⟨kd, g, cl⟩ := l
        refine ⟨rfl, ⟨rfl, rfl, bl_le rfl⟩, _, rfl, ⟨trivial, trivial, trivial, trivial⟩, whole_spec h.is_whole rfl (fun c e => by cases e) ?_⟩
        have e1 : wholeB (.int g) 0 100000 = true := by simp [wholeB]; exact ⟨hl.2.1, hl.2.2⟩
        rw [e1]
        cases kd with
        | none => exact ⟨_, rfl, _, rfl, ih'⟩
        | some kd =>
          refine ⟨_, rfl, _, rfl, ⟨trivial, trivial, trivial, trivial⟩, whole_spec h.is_whole rfl (fun c e => by cases e) ?_⟩
          have e2 : wholeB (.int kd) 0 4 = true := by simp [wholeB]; exact hl.1 kd rfl
          refine cond_f (by show (!wholeB (.int kd) 0 4) = false; rw [e2]; rfl) ?_
          exact ⟨_, rfl, ih'⟩
theorem is_table_spec (h : H.is_table fns) {n : Nat} {t : List Rw} (ht : OkT 0 t) (k : Q (.bl true) st) : callW fns (n + 3) 1 [.lst (t.map rowA)] st X Q := by
  refine callW_of h.me rfl ?_
  refine forW_inv (fun xs s => ∃ (t' : List Rw) (a : Int) (o o2 : Option AV), 0 ≤ a ∧ OkT a t' ∧ xs = t'.map rowA ∧ s = ⟨[some (.lst (t.map rowA)), some (.int a), o, o2], [], st⟩) ⟨t, 0, none, none, by decide, ht, rfl, rfl⟩ ?_ ?_
  · rintro s ⟨t', a, o, o2, _, _, _, rfl⟩
    exact ⟨rfl, trivial, k⟩
  · rintro x xs s ⟨t', a, o, o2, h0, ht', e, rfl⟩ ih
    cases t' with
    | nil => cases e
    | cons r t' =>
      simp only [List.map_cons, List.cons.injEq] at e
      obtain ⟨rfl, rfl⟩ := e
      obtain ⟨h1, h2, h3, ⟨h4, h5⟩, h6⟩ := ht'
      obtain ⟨b, e, ch⟩ := r
      simp only at h1 h2 h3 h4 h5 h6
      refine ⟨rfl, ⟨rfl, rfl, bl_le rfl⟩, _, rfl, ⟨trivial, trivial⟩, is_chain_spec h.is_chain h5 ?_⟩
      have e1 : ch.isEmpty = false := by cases ch <;> first | rfl | exact (h4 rfl).elim
      rw [e1]
      have w1 : ∀ i : Int, 0 ≤ i → i ≤ 100000 → wholeB (.int i) 0 100000 = true := fun i a b => by simp [wholeB]; exact ⟨a, b⟩
      refine ⟨rfl, ⟨trivial, trivial, trivial, trivial⟩, whole_spec h.is_whole rfl (fun c e => by cases e) ?_⟩
      rw [w1 b (by omega) (by omega)]
      refine ⟨⟨trivial, bl_lt rfl⟩, rfl, ⟨trivial, trivial, trivial, trivial⟩, whole_spec h.is_whole rfl (fun c e => by cases e) ?_⟩
      rw [w1 e (by omega) (by omega)]
      refine ⟨⟨trivial, bl_lt rfl⟩, rfl, ⟨bl_le rfl, trivial, trivial, trivial⟩, _, rfl, _, rfl, ?_⟩
      refine cond_f (decide_eq_false (by show ¬ b < a; omega)) ⟨_, rfl, _, rfl, cond_f (decide_eq_false (by show ¬ e ≤ b; omega)) ⟨_, rfl, ih _ ⟨t', e, some (rowA ⟨b, e, ch⟩), o2, by omega, h6, rfl, rfl⟩⟩⟩
theorem look_table_spec (h : H.look_table fns) {n : Nat} {t : List Rw} (ht : OkT 0 t) (k : Q .non st) : callW fns (n + 4) 3 [.lst (t.map rowA)] st X Q := by
  refine callW_of h.me rfl ?_
  exact ⟨⟨trivial, trivial⟩, is_table_spec h.is_table ht k⟩
/-- the chain at a place -/
def foundL : List Rw → Int → List Lk
  | [], _ => []
  | r :: t, p => if r.b ≤ p ∧ p < r.e then r.ch else foundL t p
theorem okT_get : ∀ {t : List Rw} {a : Int}, OkT a t → ∀ (i : Nat) (h : i < t.length), a ≤ t[i].b ∧ t[i].b < t[i].e ∧ ∀ (j : Nat) (hj : j < t.length), i < j → t[i].e ≤ t[j].b
  | [], _, _, i, h => by cases h
  | r :: t, a, ⟨h1, h2, h3, h4, h5⟩, 0, _ => ⟨h1, h2, fun j hj lt => by
    cases j with
    | zero => omega
    | succ j => exact (okT_get h5 j (Nat.lt_of_succ_lt_succ hj)).1⟩
  | r :: t, a, ⟨h1, h2, h3, h4, h5⟩, i + 1, h => by
    obtain ⟨k1, k2, k3⟩ := okT_get h5 i (Nat.lt_of_succ_lt_succ h)
    refine ⟨by show a ≤ (t[i]'(Nat.lt_of_succ_lt_succ h)).b; omega, k2, fun j hj lt => ?_⟩
    cases j with
    | zero => omega
    | succ j => exact k3 j (Nat.lt_of_succ_lt_succ hj) (by omega)
/-- what a cut between ended and not ended rows tells -/
theorem found_cut : ∀ {t : List Rw} {a p : Int} {lo : Nat}, OkT a t → lo ≤ t.length → (∀ (i : Nat) (h : i < t.length), i < lo → t[i].e ≤ p) → (∀ (i : Nat) (h : i < t.length), lo ≤ i → p < t[i].e) →
    foundL t p = if h : lo < t.length then (if t[lo].b ≤ p then t[lo].ch else []) else []
  | [], a, p, lo, _, hl, _, _ => by simp [foundL]
  | r :: t, a, p, 0, ⟨h1, h2, h3, h4, h5⟩, hl, _, hb => by
    have hb0 := hb 0 (by simp) (by omega)
    simp only [List.getElem_cons_zero] at hb0
    unfold foundL
    by_cases hp : r.b ≤ p
    · simp [hp, hb0]
    · have : foundL t p = [] := by
        rw [found_cut (lo := 0) h5 (Nat.zero_le _) (fun i h l => by omega) (fun i h _ => hb (i + 1) (by simpa using h) (by omega))]
        split
        · rename_i h
          have := (okT_get h5 0 h).1
          rw [if_neg (by omega)]
        · rfl
      simp [hp, this]
  | r :: t, a, p, lo + 1, ⟨h1, h2, h3, h4, h5⟩, hl, ha, hb => by
    have ha0 := ha 0 (by simp) (by omega)
    simp only [List.getElem_cons_zero] at ha0
    unfold foundL
    rw [if_neg (by omega), found_cut (lo := lo) h5 (by simpa using hl) (fun i h l => ha (i + 1) (by simpa using h) (by omega)) (fun i h l => hb (i + 1) (by simpa using h) (by omega))]
    simp
theorem found_in_spec (h : H.found_in fns) {n : Nat} {t : List Rw} {p : Int} (ht : OkT 0 t) (hn : t.length < 900) (k : Q (chA (foundL t p)) st) : callW fns (n + 1) 5 [.lst (t.map rowA), .int p] st X Q := by
  refine callW_of h.me rfl ?_
  have hlen : (t.map rowA).length = t.length := List.length_map ..
  refine ⟨t.length, by omega, ?_⟩
  refine whlW_inv (fun m s => ∃ (lo hi : Nat) (o : Option AV), lo ≤ hi ∧ hi ≤ t.length ∧ m = hi - lo ∧ (∀ (i : Nat) (h : i < t.length), i < lo → t[i].e ≤ p) ∧ (∀ (i : Nat) (h : i < t.length), hi ≤ i → p < t[i].e) ∧
    s = ⟨[some (.lst (t.map rowA)), some (.int p), some (.int lo), some (.int hi), o], [], st⟩) t.length (Nat.lt_succ_self _) ⟨0, t.length, none, Nat.zero_le _, Nat.le_refl _, by omega, fun i h l => by omega, fun i h l => by omega, by rw [← hlen]; rfl⟩ ?_
  rintro m n s ⟨lo, hi, o, h1, h2, rfl, h3, h4, rfl⟩ ih
  refine cond_d (fun hlt => ?_) fun hlt => ?_
  · refine ⟨⟨by decide, by decide⟩, ?_⟩
    have hd : ((lo : Int) + (hi : Int)).fdiv 2 = ((lo + hi) / 2 : Nat) := by rw [Int.fdiv_eq_ediv_of_nonneg _ (by decide)]; omega
    have hlt : lo < hi := by have : (lo : Int) < (hi : Int) := hlt; omega
    have hm : (lo + hi) / 2 < t.length := by omega
    have hg : (t.map rowA)[(lo + hi) / 2]? = some (rowA t[(lo + hi) / 2]) := by rw [List.getElem?_map, List.getElem?_eq_getElem hm]; rfl
    have hh := hd
    refine ⟨rowA t[(lo + hi) / 2], by rw [hd]; exact at_ok (by omega) (by rw [Int.toNat_natCast]; exact hg), _, rfl, ?_⟩
    refine cond_d (fun hc => ?_) fun hc => ?_
    · have hc : t[(lo + hi) / 2].e ≤ p := hc
      refine ih (hi - ((lo + hi) / 2 + 1)) _ (by omega) ⟨(lo + hi) / 2 + 1, hi, some (.int ((lo + hi) / 2 : Nat)), by omega, h2, rfl, fun i h l => ?_, h4, ?_⟩
      · by_cases hi2 : i = (lo + hi) / 2
        · subst hi2; exact hc
        · have := (okT_get ht i h).2.2 ((lo + hi) / 2) hm (by omega)
          have := (okT_get ht _ hm).2.1
          omega
      · show S.mk [_, _, some (.int (((lo : Int) + (hi : Int)).fdiv 2 + 1)), _, some (.int (((lo : Int) + (hi : Int)).fdiv 2))] _ _ = _
        rw [hd]; rfl
    · have hc : ¬ t[(lo + hi) / 2].e ≤ p := hc
      refine ih ((lo + hi) / 2 - lo) _ (by omega) ⟨lo, (lo + hi) / 2, some (.int ((lo + hi) / 2 : Nat)), by omega, by omega, rfl, h3, fun i h l => ?_, ?_⟩
      · by_cases hi2 : i = (lo + hi) / 2
        · subst hi2; omega
        · have := (okT_get ht _ hm).2.2 i h (by omega)
          have := (okT_get ht i h).2.1
          omega
      · show S.mk [_, _, _, some (.int (((lo : Int) + (hi : Int)).fdiv 2)), some (.int (((lo : Int) + (hi : Int)).fdiv 2))] _ _ = _
        rw [hd]
  · have he : lo = hi := by have : ¬ (lo : Int) < (hi : Int) := hlt; omega
    subst he
    have hf := found_cut ht h2 h3 h4
    refine cond_d (fun hlt => ?_) fun hlt => ?_
    · have hlt : lo < t.length := by have : (lo : Int) < ((t.map rowA).length : Int) := hlt; rw [hlen] at this; omega
      have hg : (t.map rowA)[lo]? = some (rowA t[lo]) := by rw [List.getElem?_map, List.getElem?_eq_getElem hlt]; rfl
      rw [dif_pos hlt] at hf
      refine ⟨rowA t[lo], at_ok (by omega) (by rw [Int.toNat_natCast]; exact hg), _, rfl, ?_⟩
      refine cond_d (fun hc => ?_) fun hc => ?_
      · have hc : t[lo].b ≤ p := hc
        rw [if_pos hc] at hf
        refine ⟨rowA t[lo], at_ok (by omega) (by rw [Int.toNat_natCast]; exact hg), _, rfl, trivial, ?_⟩
        rw [hf] at k; exact k
      · have hc : ¬ t[lo].b ≤ p := hc
        rw [if_neg hc] at hf
        rw [hf] at k
        exact ⟨⟨bl_le rfl, trivial⟩, trivial, k⟩
    · have hlt : ¬ lo < t.length := by have : ¬ (lo : Int) < ((t.map rowA).length : Int) := hlt; rw [hlen] at this; omega
      rw [dif_neg hlt] at hf
      rw [hf] at k
      exact ⟨⟨bl_le rfl, trivial⟩, trivial, k⟩
theorem found_at_spec (h : H.found_at fns) {n : Nat} {t : List Rw} {p : Int} (ht : OkT 0 t) (hn : t.length < 900) (h0 : 0 ≤ p) (h1 : p ≤ 100000) (k : Q (chA (foundL t p)) st) : callW fns (n + 5) 4 [.lst (t.map rowA), .int p] st X Q := by
  refine callW_of h.me rfl ?_
  refine ⟨⟨trivial, trivial⟩, look_table_spec h.look_table ht ?_⟩
  refine ⟨⟨trivial, trivial, trivial, trivial⟩, whole_spec h.is_whole rfl (fun c e => by cases e) ?_⟩
  have w1 : wholeB (.int p) 0 100000 = true := by simp [wholeB]; exact ⟨h0, h1⟩
  rw [w1]
  exact ⟨⟨trivial, trivial, trivial⟩, found_in_spec h.found_in ht hn ⟨trivial, k⟩⟩
theorem ints_D (ns : List Int) : (AV.lst (ns.map .int)).isD = true ∧ (AV.lst (ns.map .int)).dep ≤ 1 := by
  refine ⟨allD_of fun x hx => by obtain ⟨l, _, rfl⟩ := List.mem_map.mp hx; rfl, ?_⟩
  show AV.deps (ns.map .int) + 1 ≤ 1
  have := deps_le (xs := ns.map AV.int) (n := 0) fun x hx => by obtain ⟨l, _, rfl⟩ := List.mem_map.mp hx; exact Nat.le_refl 0
  omega
theorem ints_nl (ns : List Int) : allNl (ns.map AV.int) := allNl_of fun x hx => by obtain ⟨l, _, rfl⟩ := List.mem_map.mp hx; rfl
theorem town_spec (h : H.law_town fns) {n : Nat} {ns : List Int} (hn : ns.length ≤ 63) (k : ∀ st', Tw [] st' → Q (.ref 1) st') : callW fns (n + 1) 6 [.scr ns] [] X Q := by
  refine callW_of h.me rfl ?_
  refine ⟨⟨bl_le rfl, trivial⟩, ⟨(ints_D ns).1, rfl, ?_⟩, ?_⟩
  · exact Nat.le_trans (Nat.min_le_right _ _) (bl_le rfl)
  · cases ns with
    | nil => exact ⟨⟨bl_le rfl, trivial, trivial⟩, ⟨bl_le rfl, trivial, trivial, trivial⟩, trivial, k _ ⟨[0], by simp, 0, by decide, rfl⟩⟩
    | cons a ns => exact ⟨⟨by rw [List.length_map]; unfold SL; omega, ints_nl (a :: ns)⟩, ⟨bl_le rfl, trivial, trivial, trivial⟩, trivial, k _ ⟨a :: ns, by simp, 0, by decide, rfl⟩⟩
end
end CL

end
section
/-! Mk06: the law k06 of its tree. -/
set_option Elab.async false
set_option linter.all false
namespace CL.Mk06
open CL
def covers (p : Int) (r : Rw) : Bool := decide (r.b ≤ p) && decide (p < r.e)
theorem found_filter (p : Int) : ∀ t : List Rw, foundL t p = match t.filter (covers p) with
    | [] => []
    | r :: _ => r.ch
  | [] => rfl
  | r :: t => by
    unfold foundL
    by_cases h : r.b ≤ p ∧ p < r.e
    · have : covers p r = true := by simp [covers, h.1, h.2]
      rw [if_pos h, List.filter_cons_of_pos this]
    · have : ¬ covers p r = true := by simp [covers]; omega
      rw [if_neg h, List.filter_cons_of_neg this, found_filter p t]
theorem main {fns : Nat → Option FD} (h : H.law fns) (ns : List Int) (hn : ns.length ≤ 63) : ∃ st, runF fns 30 11 [.scr ns] [] = .ok (.bl true) st := by
  suffices hw : callW fns 30 11 [.scr ns] [] noX fun v _ => v = .bl true by
    have := callW_run hw
    cases hr : runF fns 30 11 [.scr ns] [] with
    | ok v st => rw [hr] at this; exact ⟨st, by rw [show v = .bl true from this]⟩
    | exn c p st => rw [hr] at this; exact this.elim
    | bad => rw [hr] at this; exact this.elim
  refine callW_of h.me rfl ?_
  refine ⟨⟨trivial, trivial⟩, town_spec h.law_town hn fun st T => ?_⟩
  refine ⟨⟨trivial, trivial⟩, table_spec h.law_table T fun t st1 tl tc ht T1 => ?_⟩
  have hnl := rows_nl t
  have hlen : (t.map rowA).length ≤ SL := by rw [List.length_map]; unfold SL; omega
  refine ⟨⟨hlen, hnl⟩, ?_⟩
  refine ⟨⟨trivial, trivial, trivial⟩, draw_spec h.law_draw (by decide) (by decide) T1 fun v st2 v0 v1 T2 => ?_⟩
  refine ⟨⟨bl_le rfl, trivial, trivial, trivial, trivial, trivial⟩, ?_⟩
  refine forW_inv (fun xs s => ∃ (t' : List Rw) (a : Int) (ps : List Int) (o5 o6 o7 : Option AV) (st3 : List Cell), 0 ≤ a ∧ OkT a t' ∧ xs = t'.map rowA ∧ (∀ p ∈ ps, 0 ≤ p ∧ p ≤ 100000) ∧ ps.length + 5 * t'.length = 4 + 5 * t.length ∧ Tw [] st3 ∧
    s = ⟨[some (.scr ns), some (.ref 1), some (.lst (t.map rowA)), some (.lst (t.map rowA)), some (.lst (ps.map .int)), o5, o6, o7, none, none], [], st3⟩) ?_ ?_ ?_
  · refine ⟨t, 0, [0, 1, 100000, v], none, none, none, st2, by decide, ht, rfl, fun p hp => ?_, by simp, T2, rfl⟩
    simp only [List.mem_cons, List.not_mem_nil, or_false] at hp
    omega
  · rintro s ⟨t', a, ps, o5, o6, o7, st3, a0, ht', e, hp, hl, T3, rfl⟩
    refine ⟨rfl, ?_⟩
    refine forW_inv (fun xs s => ∃ (ps' : List Int) (o8 o9 : Option AV) (st3 : List Cell), (∀ p ∈ ps', 0 ≤ p ∧ p ≤ 100000) ∧ xs = ps'.map .int ∧ Tw [] st3 ∧
      s = ⟨[some (.scr ns), some (.ref 1), some (.lst (t.map rowA)), some (.lst (t.map rowA)), some (.lst (ps.map .int)), o5, o6, o7, o8, o9], [], st3⟩) ⟨ps, none, none, st3, hp, rfl, T3, rfl⟩ ?_ ?_
    · rintro s ⟨ps', o8, o9, st4, _, _, T4, rfl⟩
      have hD : (AV.lst (t.map rowA)).isD = true := (rows_D t).1
      have hd : (AV.lst (t.map rowA)).dep ≤ 64 := by show AV.deps (t.map rowA) + 1 ≤ 64; have := (rows_D t).2; omega
      refine ⟨rfl, ⟨hD, hD, Nat.le_trans (Nat.min_le_left _ _) hd⟩, cond_t (eqv_refl _ hD) ?_⟩
      refine ⟨⟨bl_le rfl, trivial⟩, ⟨trivial, trivial, trivial⟩, found_at_spec (t := []) h.found_at trivial (by decide) (by decide) (by decide) ?_⟩
      exact ⟨⟨bl_le rfl, trivial⟩, ⟨rfl, rfl, bl_le rfl⟩, trivial, rfl⟩
    · rintro x xs s ⟨ps', o8, o9, st4, hp', e, T4, rfl⟩ ih
      cases ps' with
      | nil => cases e
      | cons p ps' =>
        simp only [List.map_cons, List.cons.injEq] at e
        obtain ⟨rfl, rfl⟩ := e
        obtain ⟨p0, p1⟩ := hp' p (by simp)
        refine ⟨rfl, ?_⟩
        refine compW_inv (fun xs acc s => ∃ (t1 t2 : List Rw) (env : List (Option AV)), t = t1 ++ t2 ∧ xs = t2.map rowA ∧ acc = (t1.filter (covers p)).map (fun r => chA r.ch) ∧ s = ⟨env, [], st4⟩) ⟨[], t, _, rfl, rfl, rfl, rfl⟩ ?_ ?_
        · rintro acc s ⟨t1, t2, env, rfl, e, rfl, rfl⟩
          obtain rfl : t2 = [] := by cases t2 <;> first | rfl | cases e
          simp only [List.append_nil] at *
          have hfl : (t1.filter (covers p)).length ≤ 8 := Nat.le_trans (List.length_filter_le _ _) tl
          have hff := found_filter p t1
          refine ⟨trivial, ⟨⟨by rw [List.length_map]; exact SL_big (by omega), allNl_of fun x hx => by obtain ⟨l, _, rfl⟩ := List.mem_map.mp hx; rfl⟩, ?_⟩⟩
          refine ⟨⟨trivial, trivial, trivial⟩, found_at_spec h.found_at ht (by omega) p0 p1 ?_⟩
          refine ⟨⟨bl_le rfl, trivial⟩, ⟨allD_of fun x hx => by obtain ⟨l, _, rfl⟩ := List.mem_map.mp hx; exact (chA_D _).1, rfl, Nat.le_trans (Nat.min_le_right _ _) (bl_le rfl)⟩, ?_⟩
          have ihh := ih ⟨_, _, _⟩ ⟨ps', some (.int p), some (.lst ((t1.filter (covers p)).map fun r => chA r.ch)), st4, fun q hq => hp' q (by simp [hq]), rfl, T4, rfl⟩
          have hD := chA_D (foundL t1 p)
          cases hf : t1.filter (covers p) with
          | nil =>
            rw [hf] at hff ihh
            refine ⟨⟨bl_le rfl, trivial⟩, ⟨hD.1, rfl, Nat.le_trans (Nat.min_le_right _ _) (bl_le rfl)⟩, cond_f ?_ ihh⟩
            rw [hff]; rfl
          | cons r rs =>
            rw [hf] at hff ihh
            refine ⟨chA r.ch, at_ok (Int.le_refl 0) rfl, ⟨hD.1, (chA_D r.ch).1, Nat.le_trans (Nat.min_le_left _ _) (Nat.le_trans hD.2 (by decide))⟩, cond_f ?_ ihh⟩
            rw [hff]
            show (!(chA r.ch).eqv (chA r.ch)) = false
            rw [eqv_refl _ (chA_D r.ch).1]; rfl
        · rintro x xs acc s ⟨t1, t2, env, rfl, e, rfl, rfl⟩ ihc
          cases t2 with
          | nil => cases e
          | cons r t2 =>
            simp only [List.map_cons, List.cons.injEq] at e
            obtain ⟨rfl, rfl⟩ := e
            refine ⟨rfl, rfl, ?_⟩
            have hl8 : (t1.filter (covers p)).length ≤ 8 := Nat.le_trans (List.length_filter_le _ _) (by simp at tl; omega)
            refine cond_d (fun hb => cond_d (fun hb2 => ?_) fun hb2 => ?_) fun hb => ?_
            · refine ⟨⟨trivial, by rw [List.length_map]; unfold SL; omega⟩, ihc _ _ ⟨t1 ++ [r], t2, _, by simp, rfl, ?_, rfl⟩⟩
              have : covers p r = true := by simp [covers]; exact ⟨hb, hb2⟩
              rw [List.filter_append, List.filter_cons_of_pos this, List.map_append]; rfl
            · refine ihc _ _ ⟨t1 ++ [r], t2, _, by simp, rfl, ?_, rfl⟩
              have : ¬ covers p r = true := by simp [covers]; intro _; have : ¬ p < r.e := hb2; omega
              rw [List.filter_append, List.filter_cons_of_neg this]; simp
            · refine ihc _ _ ⟨t1 ++ [r], t2, _, by simp, rfl, ?_, rfl⟩
              have : ¬ covers p r = true := by simp [covers]; intro h1; exact absurd h1 hb
              rw [List.filter_append, List.filter_cons_of_neg this]; simp
  · rintro x xs s ⟨t', a, ps, o5, o6, o7, st3, a0, ht', e, hp, hl, T3, rfl⟩ ih
    cases t' with
    | nil => cases e
    | cons r t' =>
      simp only [List.map_cons, List.cons.injEq] at e
      obtain ⟨rfl, rfl⟩ := e
      obtain ⟨h1, h2, h3, h4, h5⟩ := ht'
      obtain ⟨b, e, ch⟩ := r
      simp only at h1 h2 h3 h4 h5
      refine ⟨rfl, rfl, ?_⟩
      refine ⟨⟨trivial, trivial, trivial⟩, draw_spec h.law_draw (by show 0 < e - b; omega) (by show e - b < 2 ^ 30; omega) T3 fun v st4 v0 v1 T4 => ?_⟩
      have v1 : v < e - b := v1
      simp only [List.length_cons] at hl
      refine ⟨⟨bl_le rfl, trivial, trivial, trivial, trivial, trivial, trivial⟩, ?_, ⟨?_, ?_⟩, ?_⟩
      · rw [List.length_map]; show ps.length + 5 ≤ SL; unfold SL; omega
      · rw [List.length_append, List.length_map]; show ps.length + 5 ≤ SL; unfold SL; omega
      · exact allNl_of fun x hx => by
          rcases List.mem_append.mp hx with hx | hx
          · obtain ⟨l, _, rfl⟩ := List.mem_map.mp hx; rfl
          · simp only [List.mem_cons, List.not_mem_nil, or_false] at hx
            rcases hx with rfl | rfl | rfl | rfl | rfl <;> rfl
      · refine ih _ ⟨t', e, ps ++ [if b - 1 > 0 then b - 1 else 0, b, b + v, e - 1, e], some (.int b), some (.int e), some (chA ch), st4, by omega, h5, rfl, fun p hp' => ?_, ?_, T4, ?_⟩
        · rcases List.mem_append.mp hp' with hp' | hp'
          · exact hp p hp'
          · simp only [List.mem_cons, List.not_mem_nil, or_false] at hp'
            rcases hp' with rfl | rfl | rfl | rfl | rfl
            · split <;> omega
            all_goals omega
        · rw [List.length_append]; show ps.length + 5 + _ = _; omega
        · rw [List.map_append]; rfl
end CL.Mk06

end
section
/-! Lk06: the tables over the row (written by irgen.py), the law's end. -/
set_option Elab.async false
set_option linter.all false
set_option maxRecDepth 100000
set_option maxHeartbeats 0
namespace CL.Lk06
open PySem PySem.Spec PyProof.Rows L2
def top (i : Nat) : Stmt := PySem.Challenge.pw_coldlanes_k06_whole_found.main.body.getD i (.Pass ⟨0, 0, 0, 0⟩)
def e_is_whole : FE := ⟨⟨("is_whole", none), "is_whole", "is_whole", defArgs (top 3), defBody (top 3), defScope (top 3), [], []⟩, ["thing", "low", "high"], ["thing", "low", "high"], F.is_whole⟩
def e_is_table : FE := ⟨⟨("is_table", none), "is_table", "is_table", defArgs (top 7), defBody (top 7), defScope (top 7), [], []⟩, ["table", "at", "row", "one"], ["table"], F.is_table⟩
def e_is_chain : FE := ⟨⟨("is_chain", none), "is_chain", "is_chain", defArgs (top 8), defBody (top 8), defScope (top 8), [], []⟩, ["chain", "one"], ["chain"], F.is_chain⟩
def e_look_table : FE := ⟨⟨("look_table", none), "look_table", "look_table", defArgs (top 9), defBody (top 9), defScope (top 9), [], []⟩, ["table"], ["table"], F.look_table⟩
def e_found_at : FE := ⟨⟨("found_at", none), "found_at", "found_at", defArgs (top 10), defBody (top 10), defScope (top 10), [], []⟩, ["table", "place"], ["table", "place"], F.found_at⟩
def e_found_in : FE := ⟨⟨("found_in", none), "found_in", "found_in", defArgs (top 11), defBody (top 11), defScope (top 11), [], []⟩, ["table", "place", "low", "high", "half"], ["table", "place"], F.found_in⟩
def e_law_town : FE := ⟨⟨("_law_town", none), "_law_town", "_law_town", defArgs (top 13), defBody (top 13), defScope (top 13), [], []⟩, ["_law_script"], ["_law_script"], F.law_town⟩
def e_law_draw : FE := ⟨⟨("_law_draw", none), "_law_draw", "_law_draw", defArgs (top 14), defBody (top 14), defScope (top 14), [], []⟩, ["_law_town_here", "_law_many", "_law_row", "_law_at", "_law_cell", "_law_mixed"], ["_law_town_here", "_law_many"], F.law_draw⟩
def e_law_pick : FE := ⟨⟨("_law_pick", none), "_law_pick", "_law_pick", defArgs (top 15), defBody (top 15), defScope (top 15), [], []⟩, ["_law_town_here", "_law_some"], ["_law_town_here", "_law_some"], F.law_pick⟩
def e_law_chain : FE := ⟨⟨("_law_chain", none), "_law_chain", "_law_chain", defArgs (top 16), defBody (top 16), defScope (top 16), [], []⟩, ["_law_town_here", "_law_found", "_law_k"], ["_law_town_here"], F.law_chain⟩
def e_law_table : FE := ⟨⟨("_law_table", none), "_law_table", "_law_table", defArgs (top 17), defBody (top 17), defScope (top 17), [], []⟩, ["_law_town_here", "_law_chains", "_law_found", "_law_at", "_law_k", "_law_begin"], ["_law_town_here"], F.law_table⟩
def e_law : FE := ⟨⟨("law", none), "law", "law", defArgs (top 18), defBody (top 18), defScope (top 18), [], []⟩, ["_law_script", "_law_town_here", "_law_table_here", "_law_kept", "_law_places", "_law_begin", "_law_end", "_law_chain_here", "_law_place", "_law_due"], ["_law_script"], F.law⟩
def clsN : List Str := ["LaneError", "BadNumber", "BadTree", "BadOrder", "BadTable", "NoPlace", "Stuck", "Over", "BadText", "Index"]
def fldN : List Str := []
def l : List (Nat × FE) := [(0, e_is_whole), (1, e_is_table), (2, e_is_chain), (3, e_look_table), (4, e_found_at), (5, e_found_in), (6, e_law_town), (7, e_law_draw), (8, e_law_pick), (9, e_law_chain), (10, e_law_table), (11, e_law)]
def cl : List (Nat × Str) := [(4, "BadTable")]
def D : Dn := mkD clsN fldN (by decide +kernel)
theorem hcl : ∀ c x, cl.lookup c = some x → x = D.cls c := fun c x h => by
  have h2 := List.all_eq_true.mp (show (cl.all fun q => decide (q.2 = D.cls q.1)) = true by decide +kernel) _ (lookup_mem2 h)
  exact of_decide_eq_true h2
def gv : List (Str × AV) := [("KINDS", (.int 5)), ("MOST_PLACE", (.int 100000))]
def free : List Str := ["all", "bool", "int", "isinstance", "len", "list", "max", "range", "tuple"]
theorem hB : (l.all fun e => fnB (mkT l cl gv free) e.2) = true := by decide +kernel
theorem has : H.law (fnsOf l) := ⟨rfl, ⟨rfl⟩, ⟨rfl, ⟨rfl⟩, ⟨rfl, ⟨rfl⟩, ⟨rfl, ⟨rfl⟩⟩⟩, ⟨rfl, ⟨rfl⟩⟩⟩, ⟨rfl⟩, ⟨rfl, ⟨rfl, ⟨rfl, ⟨rfl, ⟨rfl⟩⟩, ⟨rfl⟩⟩⟩, ⟨rfl⟩, ⟨rfl⟩⟩⟩
abbrev R : PySem.W.OpenRow := PySem.W.OpenLaw.row PySem.Challenge.rw_coldlanes_k06_whole_found
abbrev hk : PySem.W.Hook := He.hookX 4 (gfa l cl free) (l.map fun e => e.2.d) [] [] (gvB gv)
def ob (s : PySem.W.SharedT) : He.AlX := He.obsX 4 (gfa l cl free) (l.map fun e => e.2.d) [] [] (gvB gv) (HandSHeadRun.getT s)
theorem ob_eq (s : PySem.W.SharedT) : ob s = hk.obs s.abs := He.obsX_eq (HandSHeadRun.getT_eq s)
def loose0 : List Str := ["LaneError", "BadTable", "is_whole", "KINDS", "MOST_PLACE", "is_table", "is_chain", "look_table", "found_at", "found_in", "_law_town", "_law_draw", "_law_pick", "_law_chain", "_law_table"]
abbrev loose : List Str := loose0
theorem run (w : World) : HandSHeadRun.RunEq R (PySem.W.view R.prog [18]) hk ob 20000 loose w := by
  intro os
  kernel_rfl
end CL.Lk06

end
open PySem PySem.W PySem.Calls PyProof.Rows
theorem PySem.Challenge.cw_coldlanes_k06_whole_found_holds : PySem.Challenge.rw_coldlanes_k06_whole_found.Holds := by
  w_on; o_law
  refine HandSHeadRun.head_any (r := OpenLaw.row PySem.Challenge.rw_coldlanes_k06_whole_found) (q := view (OpenLaw.row PySem.Challenge.rw_coldlanes_k06_whole_found).prog [18]) (H := CL.Lk06.hk) (ob := CL.Lk06.ob) (M := 20000) (loose := CL.Lk06.loose) (d := HandSHeadRun.topDef (OpenLaw.row PySem.Challenge.rw_coldlanes_k06_whole_found).prog 18) (kwd := []) CL.Lk06.ob_eq
    (by kernel_rfl) (fun s => by kernel_rfl) CL.Lk06.run (by kernel_rfl) (by kernel_rfl) (by kernel_rfl) (by rfl) (by first | assumption | decide +kernel) (by decide +kernel) ⟨rfl, rfl, rfl, rfl, rfl, by decide +kernel⟩ ?hw ?hc
  case hw => w_witness2
  case hc =>
    exact CL.law_walk (l := PySem.Challenge.rw_coldlanes_k06_whole_found) (m := 63) (n := 30) (x := "_law_script") (i := 11) (e := CL.Lk06.e_law) (D := CL.Lk06.D) (tl := CL.Lk06.l) (cl := CL.Lk06.cl) (gv := CL.Lk06.gv) (free := CL.Lk06.free) rfl (by decide) (by kernel_rfl) ⟨rfl, by decide, by decide⟩ (by kernel_rfl) CL.Lk06.hcl CL.Lk06.hB rfl rfl rfl fun ns hn => CL.Mk06.main CL.Lk06.has ns hn

