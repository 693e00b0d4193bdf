import PyProof.Rows.All
import Wide.All
import OpenK.AllK
import Wide.FinOn
import HandS.ForMost
import HandS.TupMul
import HandS.TupAny
import HandS.SortInts
import HandS.Rev
import HandS.Conv
import HandS.Deep
import HandS.Style
import HandS.Ends
import HandS.RaiseMore
import HandS.ExcOwn
import HandS.TupSets
import HandS.NoneIn
import HandS.Zip
import KE.KDictZip
import PyProof.ListNew
import HandS.IsInst
import HandS.SetFor
import HandS.Strs
import HandS.ExcIs
import HandS.TryOnly
import HandS.Head0
import HandS.Head1
import HandS.Head2
import HandS.HeadEnd
import HandS.HeadHook1
import HandS.HeadHook2
import HandS.Codes
import PySem.Challenge.RW_untold_k02_settings_checked
set_option Elab.async false
set_option linter.all false
set_option maxRecDepth 100000
/-! UCore: data, state, the small tree language and its evaluator. -/
namespace U
open PySem

/-! ### data -/
inductive D where
  | non | bl (b : Bool) | int (i : Int) | str (s : Str) | tup (ds : List D) | lst (ds : List D) | dic (kvs : List (D × D)) | ref (i : Nat) | rol (ds : List D)
  deriving Inhabited

mutual
def D.beq : D → D → Bool
  | .non, .non => true
  | .bl a, .bl b => a == b
  | .int a, .int b => a == b
  | .str a, .str b => a == b
  | .tup a, .tup b => D.beqs a b
  | .lst a, .lst b => D.beqs a b
  | .dic a, .dic b => D.beqk a b
  | .ref a, .ref b => a == b
  | .rol a, .rol b => D.beqs a b
  | _, _ => false
def D.beqs : List D → List D → Bool
  | [], [] => true
  | x :: xs, y :: ys => D.beq x y && D.beqs xs ys
  | _, _ => false
def D.beqk : List (D × D) → List (D × D) → Bool
  | [], [] => true
  | (x, u) :: xs, (y, v) :: ys => D.beq x y && D.beq u v && D.beqk xs ys
  | _, _ => false
end
mutual
theorem D.beq_iff : ∀ a b : D, D.beq a b = true ↔ a = b
  | .non, b => by cases b <;> simp [D.beq]
  | .bl a, b => by cases b <;> simp [D.beq]
  | .int a, b => by cases b <;> simp [D.beq]
  | .str a, b => by cases b <;> simp [D.beq]
  | .tup a, b => by cases b <;> simp [D.beq, D.beqs_iff a]
  | .lst a, b => by cases b <;> simp [D.beq, D.beqs_iff a]
  | .dic a, b => by cases b <;> simp [D.beq, D.beqk_iff a]
  | .ref a, b => by cases b <;> simp [D.beq]
  | .rol a, b => by cases b <;> simp [D.beq, D.beqs_iff a]
theorem D.beqs_iff : ∀ a b : List D, D.beqs a b = true ↔ a = b
  | [], b => by cases b <;> simp [D.beqs]
  | x :: xs, b => by
    cases b with
    | nil => simp [D.beqs]
    | cons y ys => simp [D.beqs, D.beq_iff x y, D.beqs_iff xs ys]
theorem D.beqk_iff : ∀ a b : List (D × D), D.beqk a b = true ↔ a = b
  | [], b => by cases b <;> simp [D.beqk]
  | (x, u) :: xs, b => by
    cases b with
    | nil => simp [D.beqk]
    | cons y ys =>
      obtain ⟨y, v⟩ := y
      simp [D.beqk, D.beq_iff x y, D.beq_iff u v, D.beqk_iff xs ys]
end
instance : DecidableEq D := fun a b => if h : D.beq a b = true then isTrue ((D.beq_iff a b).mp h) else isFalse fun e => h ((D.beq_iff a b).mpr e)
end U

namespace U
open PySem

/-! ### state -/
inductive CO where
  | lst (ds : List D) | dic (kvs : List (D × D)) | ins (C : Nat) (fs : List (Str × D))
/-- frozen or still to be changed -/
structure LO where
  z : Bool
  c : CO
structure St where
  own : List LO
  out : List (List LO)
  gl : List LO
inductive SV where
  | d (d : D) | loc (u i : Nat)
inductive RV where
  | d (d : D) | loc (u i : Nat) | new (c : CO)
abbrev Env := List (Option SV)

def St.get (S : St) : Nat → Nat → Option LO
  | 0, i => S.own[i]?
  | u + 1, i => match S.out[u]? with
    | some l => l[i]?
    | none => none
def St.set (S : St) : Nat → Nat → LO → St
  | 0, i, x => { S with own := S.own.set i x }
  | u + 1, i, x => { S with out := S.out.modify u fun l => l.set i x }
def CO.dat : CO → D
  | .lst ds => .lst ds
  | .dic kvs => .dic kvs
  | .ins _ _ => .non

structure Exc where
  C : Nat
  as : List D
inductive Res (α : Type) where
  | ok (a : α) (S : St) | exc (e : Exc) (S : St) | bad
abbrev M (α : Type) := St → Res α
@[inline] def M.ret {α : Type} (a : α) : M α := fun S => .ok a S
@[inline] def M.bind {α β : Type} (m : M α) (f : α → M β) : M β := fun S => match m S with
  | .ok a S1 => f a S1
  | .exc e S1 => .exc e S1
  | .bad => .bad
/-- an exception may go on only where b says so -/
@[inline] def M.bindT {α β : Type} (b : Bool) (m : M α) (f : α → M β) : M β := fun S => match m S with
  | .ok a S1 => f a S1
  | .exc e S1 => match b with
    | true => .exc e S1
    | false => .bad
  | .bad => .bad
def M.bad {α : Type} : M α := fun _ => .bad
def M.opt {α : Type} (o : Option α) : M α := fun S => match o with
  | some a => .ok a S
  | none => .bad
instance : Monad M where
  pure := M.ret
  bind := M.bind

/-- the content of a list or dict in the frames -/
def coAt (S : St) (u i : Nat) : Option CO := match S.get u i with
  | some o => some o.c
  | none => none
/-- a value as data, to be read now -/
def view (S : St) : RV → Option D
  | .d (.ref i) => match S.gl[i]? with
    | some ⟨_, .lst ds⟩ => some (.lst ds)
    | some ⟨_, .dic kvs⟩ => some (.dic kvs)
    | _ => some (.ref i)
  | .d d => some d
  | .loc u i => match coAt S u i with
    | some c => some c.dat
    | none => none
  | .new c => some c.dat
/-- a value as data, to be kept: what is in a frame is frozen -/
def keep : RV → M D
  | .d d => M.ret d
  | .new c => M.ret c.dat
  | .loc u i => fun S => match S.get u i with
    | some ⟨_, c⟩ => .ok c.dat (S.set u i ⟨true, c⟩)
    | none => .bad
/-- a value that waits while others are reckoned -/
def hold : RV → SV
  | .d d => .d d
  | .loc u i => .loc u i
  | .new c => .d c.dat
def SV.rv : SV → RV
  | .d x => .d x
  | .loc u i => .loc u i

/-! ### operators -/
inductive BOp where | add | sub | mul | mod | fdiv | pow
  deriving DecidableEq
inductive COp where | eq | ne | lt | le | gt | ge | isN | notN | in_ | notIn
  deriving DecidableEq
def sz (n : Nat) : Bool := decide (n ≤ 16777216)
def small64 (i : Int) : Bool := decide (-18446744073709551616 < i) && decide (i < 18446744073709551616)
def rep {α : Type} (k : Nat) (xs : List α) : List α := (List.replicate k xs).flatten
def bop : BOp → D → D → Option RV
  | .add, .int i, .int j => some (.d (.int (i + j)))
  | .add, .str s, .str t => if sz (s.length + t.length) then some (.d (.str (s ++ t))) else none
  | .add, .tup s, .tup t => if sz (s.length + t.length) then some (.d (.tup (s ++ t))) else none
  | .add, .lst s, .lst t => if sz (s.length + t.length) then some (.new (.lst (s ++ t))) else none
  | .sub, .int i, .int j => some (.d (.int (i - j)))
  | .mul, .int i, .int j => if small64 i || small64 j then some (.d (.int (i * j))) else none
  | .mul, .tup s, .int j => if decide (-1000 ≤ j) && decide (j ≤ 1000) && decide (s.length ≤ 1000) then some (.d (.tup (rep j.toNat s))) else none
  | .mul, .lst s, .int j => if decide (-1000000 ≤ j) && decide (j ≤ 1000000) && sz (s.length * j.toNat) then some (.new (.lst (rep j.toNat s))) else none
  | .mod, .int i, .int j => if 0 < j then some (.d (.int (i % j))) else none
  | .fdiv, .int i, .int j => if 0 < j ∧ j < 1073741824 then some (.d (.int (i / j))) else none
  | .pow, .int i, .int j => if 0 ≤ j ∧ j ≤ 1000 ∧ -1000000 ≤ i ∧ i ≤ 1000000 then some (.d (.int (i ^ j.toNat))) else none
  | _, _, _ => none
mutual
/-- data that may be compared: no bools, dicts, objects within; at most k deep -/
def plainB : Nat → D → Bool
  | _, .non => true
  | _, .int _ => true
  | _, .str s => PyData.strOk s
  | n + 1, .tup ds => plainBs n ds
  | n + 1, .lst ds => plainBs n ds
  | _, _ => false
def plainBs : Nat → List D → Bool
  | _, [] => true
  | n, d :: ds => plainB n d && plainBs n ds
end
def scalarB : D → Bool
  | .non => true
  | .bl _ => true
  | .int _ => true
  | .str _ => true
  | _ => false
def eqOk (a b : D) : Bool := match a, b with
  | .bl _, .int _ => false
  | .int _, .bl _ => false
  | a, b => (scalarB a && scalarB b) || (plainB 20 a && plainB 20 b)
def isNonB : D → Bool
  | .non => true
  | _ => false
def inOk (x : D) (ys : List D) : Bool := (scalarB x && ys.all fun y => scalarB y && eqOk y x) || (plainB 20 x && plainBs 20 ys)
def hasIn (x : D) (ys : List D) : Option Bool := if inOk x ys = true then some (ys.any fun y => D.beq y x) else none
def cop : COp → D → D → Option Bool
  | .eq, a, b => if eqOk a b then some (D.beq a b) else none
  | .ne, a, b => if eqOk a b then some (!D.beq a b) else none
  | .lt, .int i, .int j => some (decide (i < j))
  | .le, .int i, .int j => some (decide (i ≤ j))
  | .gt, .int i, .int j => some (decide (j < i))
  | .ge, .int i, .int j => some (decide (j ≤ i))
  | .isN, .bl a, .bl b => some (decide (a = b))
  | .notN, .bl a, .bl b => some (!decide (a = b))
  | .isN, a, .non => some (isNonB a)
  | .notN, a, .non => some (!isNonB a)
  | .in_, a, .tup ds => hasIn a ds
  | .in_, a, .lst ds => hasIn a ds
  | .notIn, a, .tup ds => (hasIn a ds).map (!·)
  | .notIn, a, .lst ds => (hasIn a ds).map (!·)
  | _, _, _ => none

/-! ### places -/
def ixN (n : Nat) (i : Int) : Option Nat := if 0 ≤ i then (if i < n then some i.toNat else none) else if -(n : Int) ≤ i then some (i + n).toNat else none
def sIx (n d : Nat) : Option Int → Nat
  | none => d
  | some v => if v < 0 then (v + (n : Int)).toNat else min v.toNat n
def cut {α : Type} (xs : List α) (lo hi : Option Int) : List α := (xs.drop (sIx xs.length 0 lo)).take (sIx xs.length xs.length hi - sIx xs.length 0 lo)
def getIx : D → D → Option D
  | .tup ds, .int i => match ixN ds.length i with
    | some k => ds[k]?
    | none => none
  | .lst ds, .int i => match ixN ds.length i with
    | some k => ds[k]?
    | none => none
  | .rol ds, .int i => match ixN ds.length i with
    | some k => ds[k]?
    | none => none
  | .str s, .int i => if sz s.length = true then match ixN s.length i with
    | some k => match s.cps.toList[k]? with
      | some c => some (.str ⟨#[c]⟩)
      | none => none
    | none => none
    else none
  | _, _ => none
def getSl : D → Option Int → Option Int → Option RV
  | .tup ds, lo, hi => some (.d (.tup (cut ds lo hi)))
  | .lst ds, lo, hi => some (.new (.lst (cut ds lo hi)))
  | .str s, lo, hi => if sz s.length = true then some (.d (.str ⟨(cut s.cps.toList lo hi).toArray⟩)) else none
  | _, _, _ => none

/-! ### built-ins of one value -/
inductive B1 where | int | len | tuple | list | sum | str | repr | max | min | sorted | isTup | isStr | isInt | isBool | set | absV
  deriving DecidableEq
def intsD : List D → Option (List Int)
  | [] => some []
  | .int i :: r => (intsD r).map (i :: ·)
  | _ :: _ => none
def strsD : List D → Option (List Str)
  | [] => some []
  | .str i :: r => (strsD r).map (i :: ·)
  | _ :: _ => none
mutual
def D.py : D → PyData
  | .non => .none
  | .bl b => .bool b
  | .int i => .int i
  | .str s => .str s
  | .tup ds => .tuple (D.pys ds)
  | .lst ds => .list (D.pys ds)
  | .dic _ => .none
  | .ref _ => .none
  | .rol _ => .none
def D.pys : List D → List PyData
  | [] => []
  | d :: ds => D.py d :: D.pys ds
end
mutual
def showB : Nat → D → Bool
  | _, .non => true
  | _, .bl _ => true
  | _, .int i => decide (-1000000000000000000000 ≤ i) && decide (i ≤ 1000000000000000000000)
  | _, .str _ => true
  | n + 1, .tup ds => showBs n ds
  | n + 1, .lst ds => showBs n ds
  | _, _ => false
def showBs : Nat → List D → Bool
  | _, [] => true
  | n, d :: ds => showB n d && showBs n ds
end
def maxL : List Int → Option Int
  | [] => none
  | x :: r => some (r.foldl (fun a b => if b > a then b else a) x)
def minL : List Int → Option Int
  | [] => none
  | x :: r => some (r.foldl (fun a b => if b < a then b else a) x)
def items : D → Option (List D)
  | .tup ds => some ds
  | .lst ds => some ds
  | _ => none
def insI (x : Int) : List Int → List Int
  | [] => [x]
  | y :: r => if x ≤ y then x :: y :: r else y :: insI x r
def sortI (l : List Int) : List Int := l.foldr insI []
/-! tuples of ints, in order -/
def tupI : D → Option (List Int)
  | .tup ds => intsD ds
  | _ => none
def tupsI : List D → Option (List (List Int))
  | [] => some []
  | d :: r => match tupI d with
    | some n => (tupsI r).map (n :: ·)
    | none => none
def bdB (ns : List Int) : Bool := ns.all fun i => decide (0 ≤ i) && decide (i < 1048576)
def okT (d : Nat) (l : List (List Int)) : Bool := decide (1 ≤ d) && decide (l.length < 64) && l.all fun m => decide (m.length = d) && bdB m
def cdI : List Int → Int
  | [] => 0
  | d :: r => d * 1048576 ^ r.length + cdI r
def insT (x : List Int) : List (List Int) → List (List Int)
  | [] => [x]
  | y :: r => if cdI x ≤ cdI y then x :: y :: r else y :: insT x r
def sortT (l : List (List Int)) : List (List Int) := l.foldr insT []
def tiD (n : List Int) : D := .tup (n.map .int)
def sortedD (ds : List D) : Option RV := match intsD ds with
  | some ns => some (.new (.lst ((sortI ns).map .int)))
  | none => match tupsI ds with
    | some (n :: l) => if okT n.length (n :: l) = true then some (.new (.lst ((sortT (n :: l)).map tiD))) else none
    | _ => none
def blt1 : B1 → D → Option RV
  | .int, .int i => some (.d (.int i))
  | .int, .bl b => some (.d (.int (if b then 1 else 0)))
  | .len, .str s => if sz s.length = true then some (.d (.int s.length)) else none
  | .len, .tup ds => some (.d (.int ds.length))
  | .len, .lst ds => some (.d (.int ds.length))
  | .len, .rol ds => some (.d (.int ds.length))
  | .tuple, .tup ds => some (.d (.tup ds))
  | .tuple, .lst ds => some (.d (.tup ds))
  | .list, .tup ds => some (.new (.lst ds))
  | .list, .lst ds => some (.new (.lst ds))
  | .sum, .lst ds => (intsD ds).map fun ns => .d (.int ns.sum)
  | .max, .lst ds => match intsD ds with
    | some ns => (maxL ns).map fun m => .d (.int m)
    | none => none
  | .min, .lst ds => match intsD ds with
    | some ns => (minL ns).map fun m => .d (.int m)
    | none => none
  | .sorted, .lst ds => sortedD ds
  | .str, .int i => if decide (-1000000000000000000000 ≤ i) && decide (i ≤ 1000000000000000000000) then some (.d (.str (Str.ofString (toString i)))) else none
  | .str, .str s => some (.d (.str s))
  | .repr, d => if showB 20 d && sz (PyData.shown d.py).length then some (.d (.str (PyData.shown d.py))) else none
  | _, _ => none
/-- isinstance of a built-in class -/
inductive TyN where | tup | str | int | bool | lst
  deriving DecidableEq
def isiD : TyN → D → Option Bool
  | _, .non => some false
  | t, .bl _ => some (decide (t = .int ∨ t = .bool))
  | t, .int _ => some (decide (t = .int))
  | t, .str _ => some (decide (t = .str))
  | t, .tup _ => some (decide (t = .tup))
  | t, .lst _ => some (decide (t = .lst))
  | _, _ => none
/-- sorted(set(..)) -/
def setI : List Int → List Int
  | [] => []
  | x :: r => if x ∈ setI r then setI r else insI x (setI r)
def blt2 : B1 → D → D → Option RV
  | .max, .int i, .int j => some (.d (.int (if j > i then j else i)))
  | .min, .int i, .int j => some (.d (.int (if j < i then j else i)))
  | _, _, _ => none
end U

namespace U
open PySem

/-! ### trees -/
inductive Tg where | one (i : Nat) | many (is : List Nat)
inductive IK where | seq | rng1 | rng2 | rngD | rev | zip
  deriving DecidableEq
inductive M1 where | append | extend | popAt | join | index
  deriving DecidableEq
inductive DE where
  | con (d : D)
  | var (i : Nat)
  | nil
  | cons (a r : DE)
  | tup (es : DE)
  | lst (es : DE)
  | bin (op : BOp) (a b : DE)
  | cmp (op : COp) (a b : DE)
  | chain (op op2 : COp) (a b c : DE)
  | neg (a : DE)
  | not (a : DE)
  | and (a b : DE)
  | or (a b : DE)
  | ife (t a b : DE)
  | call (f : Nat) (es : DE)
  | b1 (b : B1) (a : DE)
  | b2 (b : B1) (a c : DE)
  | trng (l : Bool) (a b : DE)
  | ix (a i : DE)
  | sl (a lo hi : DE)
  | wk (ik : IK) (a b : DE)
  | lc (elt : DE) (tg : Tg) (it : DE) (cond : DE) (vs : List Nat)
  | m1 (m : M1) (o a : DE)
  | dis (ks : List Str) (vs : DE)
  | dgt (o k d : DE)
  | lens (a : DE)
  | isi (t : TyN) (a : DE)
  | lzip (a b : DE)
  | sset (a : DE)
/-- what an except suite returns: a scalar, a new list of scalars -/
inductive SR where
  | d (x : D) | l (xs : List D)
def SR.rv : SR → RV
  | .d x => .d x
  | .l xs => .new (.lst xs)
inductive DS where
  | skip
  | seq (a b : DS)
  | expr (e : DE)
  | set (i : Nat) (m : Bool) (e : DE)
  | unp (is : List Nat) (e : DE)
  | setIx (o i e : DE)
  | ret (e : DE)
  | retN
  | ife (c : DE) (a b : DS)
  | for_ (tg : Tg) (it : DE) (body : DS)
  | whl (c : DE) (body : DS)
  | brk
  | cont
  | rai
  | raise (c : Nat)
  | try_ (rt : Bool) (f : Nat) (es : DE) (c : Nat) (r : SR)

/-! ### the evaluator -/
def Env.put (ρ : Env) (i : Nat) (d : D) : Env := ρ.set i (some (.d d))
def puts : List Nat → List D → Env → Option Env
  | [], [], ρ => some ρ
  | i :: is, d :: ds, ρ => puts is ds (ρ.put i d)
  | _, _, _ => none
def putT : Tg → D → Env → Option Env
  | .one i, d, ρ => some (ρ.put i d)
  | .many is, .tup ds, ρ => puts is ds ρ
  | .many _, _, _ => none
def wipeE : Env → List Nat → Env
  | ρ, [] => ρ
  | ρ, v :: vs => (wipeE ρ vs).set v none

inductive Flow where | next (ρ : Env) | brk (ρ : Env) | cont (ρ : Env) | ret (r : RV)

def truth : RV → Option Bool
  | .d (.bl b) => some b
  | _ => none

/-- what a walk goes over, and where it stands -/
structure Walk where
  xs : List D
  at_ : Option (Nat × Nat)
def Walk.chk (w : Walk) (S : St) : Bool := match w.at_ with
  | none => true
  | some (u, i) => match S.get u i with
    | some ⟨_, .lst ds⟩ => decide (ds = w.xs)
    | _ => false

def rngUp (lo : Int) : Nat → List D
  | 0 => []
  | n + 1 => .int lo :: rngUp (lo + 1) n
def rngDn (lo : Int) : Nat → List D
  | 0 => []
  | n + 1 => .int lo :: rngDn (lo - 1) n
def big62 (i : Int) : Bool := decide (-4611686018427387904 ≤ i) && decide (i < 4611686018427387904)
def strItems (s : Str) : List D := s.cps.toList.map fun c => .str ⟨#[c]⟩
def zipT : List D → List D → List D
  | x :: xs, y :: ys => .tup [x, y] :: zipT xs ys
  | _, _ => []

def walkSeq (r : RV) : M Walk := fun S => match r with
  | .loc u i => match S.get u i with
    | some ⟨_, .lst ds⟩ => .ok ⟨ds, some (u, i)⟩ S
    | _ => .bad
  | .new (.lst ds) => .ok ⟨ds, none⟩ S
  | .d (.tup ds) => .ok ⟨ds, none⟩ S
  | .d (.lst ds) => .ok ⟨ds, none⟩ S
  | .d (.str s) => .ok ⟨strItems s, none⟩ S
  | _ => .bad
def dataInt (r : RV) : Option Int := match r with
  | .d (.int i) => some i
  | _ => none

/-- a comprehension's turns -/
def compL (chk : St → Bool) (put : D → Option Env) (cond elt : Env → M RV) : List D → M (List D)
  | [] => fun S => if chk S = true then .ok [] S else .bad
  | x :: xs => fun S => if chk S = true then match put x with
    | none => .bad
    | some ρ => match cond ρ S with
      | .ok c S1 => match truth c with
        | some true => match elt ρ S1 with
          | .ok y S2 => match keep y S2 with
            | .ok d S3 => match compL chk put cond elt xs S3 with
              | .ok ds S4 => .ok (d :: ds) S4
              | _ => .bad
            | _ => .bad
          | _ => .bad
        | some false => compL chk put cond elt xs S1
        | none => .bad
      | _ => .bad
    else .bad

/-- behind a turn: names that had no value ahead of the loop have none, and lists that no name holds are dropped -/
def mask : Env → Env → Env
  | some _ :: a, v :: b => v :: mask a b
  | none :: a, _ :: b => none :: mask a b
  | [], b => b
  | _ :: _, [] => []
def ownFree (n : Nat) : Env → Bool
  | [] => true
  | some (.loc 0 i) :: r => decide (i < n) && ownFree n r
  | _ :: r => ownFree n r
def trim (n : Nat) (ρ : Env) (S : St) : St := if ownFree n ρ = true then { S with own := S.own.take n } else S

def forL (chk : St → Bool) (put : D → Env → Option Env) (body : Env → M Flow) (ρ0 : Env) (n0 : Nat) : List D → Env → M Flow
  | [], ρ => fun S => if chk S = true then .ok (.next ρ) S else .bad
  | x :: xs, ρ => fun S => if chk S = true then match put x ρ with
    | none => .bad
    | some ρ1 => match body ρ1 S with
      | .ok (.next ρ2) S2 => forL chk put body ρ0 n0 xs (mask ρ0 ρ2) (trim n0 (mask ρ0 ρ2) S2)
      | .ok (.cont ρ2) S2 => forL chk put body ρ0 n0 xs (mask ρ0 ρ2) (trim n0 (mask ρ0 ρ2) S2)
      | .ok (.brk ρ2) S2 => .ok (.next (mask ρ0 ρ2)) (trim n0 (mask ρ0 ρ2) S2)
      | .ok (.ret r) S2 => .ok (.ret r) S2
      | .exc e S2 => .exc e S2
      | .bad => .bad
    else .bad
def whL (c : Env → M RV) (body : Env → M Flow) (ρ0 : Env) (n0 : Nat) : Nat → Env → M Flow
  | 0, _ => fun _ => .bad
  | n + 1, ρ => fun S => match c ρ S with
    | .ok v S1 => match truth v with
      | some true => match body ρ S1 with
        | .ok (.next ρ2) S2 => whL c body ρ0 n0 n (mask ρ0 ρ2) (trim n0 (mask ρ0 ρ2) S2)
        | .ok (.cont ρ2) S2 => whL c body ρ0 n0 n (mask ρ0 ρ2) (trim n0 (mask ρ0 ρ2) S2)
        | .ok (.brk ρ2) S2 => .ok (.next (mask ρ0 ρ2)) (trim n0 (mask ρ0 ρ2) S2)
        | .ok (.ret r) S2 => .ok (.ret r) S2
        | .exc e S2 => .exc e S2
        | .bad => .bad
      | some false => .ok (.next ρ) S1
      | none => .bad
    | .exc _ _ => .bad
    | .bad => .bad

def idxOf (x : D) : List D → Option Nat
  | [] => none
  | y :: r => if D.beq y x then some 0 else (idxOf x r).map (· + 1)
/-- a method with one argument -/
def meth1 (m : M1) (o : SV) (a : RV) : M RV := match m, o with
  | .append, .loc u i => M.bind (keep a) fun y => fun S => match S.get u i with
    | some ⟨false, .lst ds⟩ => if ds.length < 16777216 then .ok (.d .non) (S.set u i ⟨false, .lst (ds ++ [y])⟩) else .bad
    | _ => .bad
  | .extend, .loc u i => fun S => match S.get u i, (view S a).bind items with
    | some ⟨false, .lst ds⟩, some ys => if ds.length + ys.length ≤ 16777216 then .ok (.d .non) (S.set u i ⟨false, .lst (ds ++ ys)⟩) else .bad
    | _, _ => .bad
  | .popAt, .loc u i => fun S => match S.get u i, a with
    | some ⟨false, .lst ds⟩, .d (.int k) => if decide (-1000000000 ≤ k) && decide (k ≤ 1000000000) then match ixN ds.length k with
      | some j => match ds[j]? with
        | some x => .ok (.d x) (S.set u i ⟨false, .lst (ds.eraseIdx j)⟩)
        | none => .bad
      | none => .bad
      else .bad
    | _, _ => .bad
  | .join, .d (.str s) => fun S => match (view S a).bind items with
    | some ds => match strsD ds with
      | some ss => if sz ((ss.map (·.length)).sum + ss.length * s.length) = true then .ok (.d (.str (Txt.join s ss))) S else .bad
      | none => .bad
    | none => .bad
  | .index, o => fun S => match view S o.rv, view S a with
    | some (.lst ds), some x => if (scalarB x && ds.all fun y => scalarB y && eqOk y x) = true then match idxOf x ds with
      | some k => .ok (.d (.int k)) S
      | none => .bad
      else .bad
    | _, _ => .bad
  | _, _ => fun _ => .bad

/-- what a method is called of -/
def recvOk : M1 → Option D → Bool
  | .join, some (.str _) => true
  | .join, _ => false
  | _, some (.lst _) => true
  | _, _ => false
def asPart (r : RV) : Option Int := match r with
  | .d (.int i) => some i
  | _ => none

/-! dicts with written keys, kept as they are -/
def zipK : List Str → List D → List (D × D)
  | k :: ks, d :: ds => (.str k, d) :: zipK ks ds
  | _, _ => []
def disOk (ks : List Str) (ds : List D) : Bool := decide ks.Nodup && (decide (ks.length = ds.length) && (decide (1 ≤ ks.length) && decide (ks.length ≤ 15)))
def lookS (s : Str) : List (D × D) → Option D
  | [] => none
  | (.str k, d) :: r => if k = s then some d else lookS s r
  | _ :: r => lookS s r
def dgtV (x y : RV) (dz : D) : Option RV := match x, y with
  | .d (.dic kvs), .d (.str s) => some (.d ((lookS s kvs).getD dz))
  | _, _ => none
def isDic : RV → Bool
  | .d (.dic _) => true
  | _ => false
/-- len(set(..)) of a list of ints -/
def lensV (d : D) : Option RV := match d with
  | .lst ds => match intsD ds with
    | some ns => if decide (ns.length ≤ 4000) = true then some (.d (.int (PyProof.Rows.firstMet (fun i => ns.getD i 0) ns.length).length)) else none
    | none => none
  | _ => none

/-- list(zip(..)) of two tuples -/
def lzipV : RV → RV → Option RV
  | .d (.tup xs), .d (.tup ys) => if sz (min xs.length ys.length) = true then some (.new (.lst (zipT xs ys))) else none
  | _, _ => none
/-- sorted(set(..)) of a tuple of ints -/
def ssetV : RV → Option RV
  | .d (.tup ds) => match intsD ds with
    | some ns => if decide (ns.length < 64) = true then some (.new (.lst ((setI ns).map .int))) else none
    | none => none
  | _ => none
mutual
def evE (C : Nat → List SV → M RV) : DE → Env → M RV
  | .con d, _ => M.ret (.d d)
  | .var i, ρ => fun S => match ρ[i]? with
    | some (some v) => .ok v.rv S
    | _ => .bad
  | .tup es, ρ => M.bind (evK C es ρ) fun ds => fun S => if sz ds.length = true then .ok (.d (.tup ds)) S else .bad
  | .lst es, ρ => M.bind (evK C es ρ) fun ds => fun S => if sz ds.length = true then .ok (.new (.lst ds)) S else .bad
  | .bin op a b, ρ => M.bind (evE C a ρ) fun x => M.bind (evE C b ρ) fun y => fun S => match view S (hold x).rv, view S y with
    | some d, some e => M.opt (bop op d e) S
    | _, _ => .bad
  | .cmp op a b, ρ => M.bind (evE C a ρ) fun x => M.bind (evE C b ρ) fun y => fun S => match view S (hold x).rv, view S y with
    | some d, some e => match cop op d e with
      | some c => .ok (.d (.bl c)) S
      | none => .bad
    | _, _ => .bad
  | .chain op op2 a b c, ρ => M.bind (evE C a ρ) fun x => M.bind (evE C b ρ) fun y => fun S => match view S (hold x).rv, view S (hold y).rv with
    | some d, some e => match cop op d e with
      | some true => M.bind (evE C c ρ) (fun z => fun S1 => match view S1 (hold y).rv, view S1 z with
        | some e', some f => match cop op2 e' f with
          | some r => .ok (.d (.bl r)) S1
          | none => .bad
        | _, _ => .bad) S
      | some false => .ok (.d (.bl false)) S
      | none => .bad
    | _, _ => .bad
  | .neg a, ρ => M.bind (evE C a ρ) fun x => match x with
    | .d (.int i) => M.ret (.d (.int (-i)))
    | _ => M.bad
  | .not a, ρ => M.bind (evE C a ρ) fun x => match truth x with
    | some b => M.ret (.d (.bl (!b)))
    | none => M.bad
  | .and a b, ρ => M.bind (evE C a ρ) fun x => match truth x with
    | some true => evE C b ρ
    | some false => M.ret (.d (.bl false))
    | none => M.bad
  | .or a b, ρ => M.bind (evE C a ρ) fun x => match truth x with
    | some true => M.ret (.d (.bl true))
    | some false => evE C b ρ
    | none => M.bad
  | .ife t a b, ρ => M.bind (evE C t ρ) fun x => match truth x with
    | some true => evE C a ρ
    | some false => evE C b ρ
    | none => M.bad
  | .call f es, ρ => M.bindT false (evA C es ρ) fun vs => C f vs
  | .b1 b a, ρ => M.bind (evE C a ρ) fun x => fun S => match view S x with
    | some d => M.opt (blt1 b d) S
    | none => .bad
  | .b2 b a c, ρ => M.bind (evE C a ρ) fun x => M.bind (evE C c ρ) fun y => fun S => match view S (hold x).rv, view S y with
    | some d, some e => M.opt (blt2 b d e) S
    | _, _ => .bad
  | .trng l a b, ρ => M.bind (evE C a ρ) fun x => M.bind (evE C b ρ) fun y => match dataInt x, dataInt y with
    | some i, some j => if (big62 i && big62 j && decide ((j - i).toNat ≤ 1000000)) = true then M.ret (if l then .new (.lst (rngUp i (j - i).toNat)) else .d (.tup (rngUp i (j - i).toNat))) else M.bad
    | _, _ => M.bad
  | .ix a i, ρ => M.bind (evE C a ρ) fun x => M.bind (evE C i ρ) fun y => fun S => match view S (hold x).rv, view S y with
    | some d, some e => match getIx d e with
      | some v => .ok (.d v) S
      | none => .bad
    | _, _ => .bad
  | .sl a lo hi, ρ => M.bind (evE C a ρ) fun x => M.bind (evP C lo ρ) fun l => M.bind (evP C hi ρ) fun h => fun S => match view S (hold x).rv with
    | some d => M.opt (getSl d l h) S
    | none => .bad
  | .lc elt tg it cond vs, ρ => M.bind (evW C it ρ) fun w => M.bind (compL w.chk (fun x => putT tg x (wipeE ρ vs)) (evE C cond) (evE C elt) w.xs) fun ds => fun S => if sz ds.length = true then .ok (.new (.lst ds)) S else .bad
  | .m1 m o a, ρ => M.bind (evE C o ρ) fun x => fun S1 => if recvOk m (view S1 x) = true then M.bind (evE C a ρ) (fun y => meth1 m (hold x) y) S1 else .bad
  | .dis ks vs, ρ => M.bind (evK C vs ρ) fun ds => fun S => if disOk ks ds = true then .ok (.d (.dic (zipK ks ds))) S else .bad
  | .dgt o k d, ρ => M.bind (evE C o ρ) fun x => fun S1 => if isDic x = true then M.bind (evE C k ρ) (fun y => M.bind (evE C d ρ) fun z => M.bind (keep z) fun dz => M.opt (dgtV x y dz)) S1 else .bad
  | .lens a, ρ => M.bind (evE C a ρ) fun x => fun S => match view S x with
    | some d => M.opt (lensV d) S
    | none => .bad
  | .isi t a, ρ => M.bind (evE C a ρ) fun x => fun S => match view S x with
    | some d => match isiD t d with
      | some b => .ok (.d (.bl b)) S
      | none => .bad
    | none => .bad
  | .lzip a b, ρ => M.bind (evE C a ρ) fun x => M.bind (evE C b ρ) fun y => M.opt (lzipV x y)
  | .sset a, ρ => M.bind (evE C a ρ) fun x => M.opt (ssetV x)
  | .nil, _ => M.bad
  | .cons _ _, _ => M.bad
  | .wk _ _ _, _ => M.bad
/-- arguments -/
def evA (C : Nat → List SV → M RV) : DE → Env → M (List SV)
  | .nil, _ => M.ret []
  | .cons a r, ρ => M.bind (evE C a ρ) fun x => M.bind (evA C r ρ) fun xs => M.ret (hold x :: xs)
  | _, _ => M.bad
/-- items, kept as data -/
def evK (C : Nat → List SV → M RV) : DE → Env → M (List D)
  | .nil, _ => M.ret []
  | .cons a r, ρ => M.bind (evE C a ρ) fun x => M.bind (keep x) fun d => M.bind (evK C r ρ) fun ds => M.ret (d :: ds)
  | _, _ => M.bad
/-- a part of a slice -/
def evP (C : Nat → List SV → M RV) : DE → Env → M (Option Int)
  | .nil, _ => M.ret none
  | .cons a _, ρ => M.bind (evE C a ρ) fun x => match dataInt x with
    | some i => M.ret (some i)
    | none => M.bad
  | _, _ => M.bad
/-- what is walked -/
def evW (C : Nat → List SV → M RV) : DE → Env → M Walk
  | .wk .seq a _, ρ => M.bind (evE C a ρ) walkSeq
  | .wk .rng1 a _, ρ => M.bind (evE C a ρ) fun x => match dataInt x with
    | some j => if big62 j = true then M.ret ⟨rngUp 0 j.toNat, none⟩ else M.bad
    | none => M.bad
  | .wk .rng2 a b, ρ => M.bind (evE C a ρ) fun x => M.bind (evE C b ρ) fun y => match dataInt x, dataInt y with
    | some i, some j => if (big62 i && big62 j) = true then M.ret ⟨rngUp i (j - i).toNat, none⟩ else M.bad
    | _, _ => M.bad
  | .wk .rngD a b, ρ => M.bind (evE C a ρ) fun x => M.bind (evE C b ρ) fun y => match dataInt x, dataInt y with
    | some i, some j => if (big62 i && big62 j) = true then M.ret ⟨rngDn i (i - j).toNat, none⟩ else M.bad
    | _, _ => M.bad
  | .wk .rev a _, ρ => M.bind (evE C a ρ) fun x => M.bind (keep x) fun d => match items d with
    | some ds => M.ret ⟨ds.reverse, none⟩
    | none => M.bad
  | .wk .zip a b, ρ => M.bind (evE C a ρ) fun x => M.bind (evE C b ρ) fun y => M.bind (walkSeq (hold x).rv) fun w => M.bind (walkSeq y) fun v => if w.at_.isNone && v.at_.isNone then M.ret ⟨zipT w.xs v.xs, none⟩ else M.bad
  | _, _ => M.bad
end

/-- what may be unpacked -/
def unpD : RV → Option (List D)
  | .d (.tup ds) => some ds
  | .d (.lst ds) => some ds
  | .new (.lst ds) => some ds
  | _ => none
/-- where an exception may leave: a call that stands by itself -/
def isCallE : DE → Bool
  | .call _ _ => true
  | _ => false
def evS (C : Nat → List SV → M RV) : DS → Env → M Flow
  | .skip, ρ => M.ret (.next ρ)
  | .seq a b, ρ => M.bind (evS C a ρ) fun f => match f with
    | .next ρ1 => evS C b ρ1
    | f => M.ret f
  | .expr e, ρ => M.bindT (isCallE e) (evE C e ρ) fun _ => M.ret (.next ρ)
  | .set i m e, ρ => M.bindT (isCallE e) (evE C e ρ) fun r => match r, m with
    | .new c, true => fun S => .ok (.next (ρ.set i (some (.loc 0 S.own.length)))) { S with own := S.own ++ [⟨false, c⟩] }
    | r, _ => M.ret (.next (ρ.set i (some (hold r))))
  | .unp is e, ρ => M.bindT (isCallE e) (evE C e ρ) fun r => match unpD r with
    | some ds => match puts is ds ρ with
      | some ρ1 => M.ret (.next ρ1)
      | none => M.bad
    | none => M.bad
  | .setIx o i e, ρ => M.bindT false (evE C e ρ) fun v => M.bind (keep v) fun d => M.bindT false (evE C o ρ) fun r => M.bindT false (evE C i ρ) fun k => match r, dataInt k with
    | .loc u j, some k => fun S => match S.get u j with
      | some ⟨false, .lst ds⟩ => match ixN ds.length k with
        | some n => .ok (.next ρ) (S.set u j ⟨false, .lst (ds.set n d)⟩)
        | none => .bad
      | _ => .bad
    | _, _ => M.bad
  | .ret e, ρ => M.bindT (isCallE e) (evE C e ρ) fun r => M.ret (.ret r)
  | .retN, _ => M.ret (.ret (.d .non))
  | .ife c a b, ρ => M.bindT false (evE C c ρ) fun x => match truth x with
    | some true => evS C a ρ
    | some false => evS C b ρ
    | none => M.bad
  | .for_ tg it body, ρ => M.bindT false (evW C it ρ) fun w => fun S => forL w.chk (putT tg) (evS C body) ρ S.own.length w.xs ρ S
  | .whl c body, ρ => fun S => whL (evE C c) (evS C body) ρ S.own.length 1000000000 ρ S
  | .brk, ρ => M.ret (.brk ρ)
  | .cont, ρ => M.ret (.cont ρ)
  | .rai, _ => M.bad
  | .raise c, _ => fun S => .exc ⟨c, []⟩ S
  | .try_ rt f es c r, ρ => fun S => match M.bindT false (evA C es ρ) (fun vs => C f vs) S with
    | .ok v S1 => .ok (if rt = true then .ret v else .next ρ) S1
    | .exc x S1 => if x.C = c then .ok (.ret r.rv) S1 else .bad
    | .bad => .bad

/-! ### defs -/
structure FD where
  np : Nat
  ns : Nat
  body : DS
def shift : SV → SV
  | .d x => .d x
  | .loc u i => .loc (u + 1) i
/-- behind a call: the frame is dropped -/
def popS (S : St) : Option St := match S.out with
  | l :: r => some ⟨l, r, S.gl⟩
  | [] => none
def leave (S : St) (r : RV) : Res RV := match popS S with
  | none => .bad
  | some S' => match r with
    | .d d => .ok (.d d) S'
    | .new c => .ok (.new c) S'
    | .loc (u + 1) i => .ok (.loc u i) S'
    | .loc 0 i => match S.own[i]? with
      | some ⟨false, c⟩ => .ok (.new c) S'
      | some ⟨true, c⟩ => .ok (.d c.dat) S'
      | none => .bad
def runF (C : Nat → List SV → M RV) (F : FD) (vs : List SV) : M RV := fun S =>
  if vs.length = F.np then match evS C F.body ((vs.map fun v => some (shift v)) ++ List.replicate (F.ns - F.np) none) ⟨[], S.own :: S.out, S.gl⟩ with
    | .ok (.ret r) S1 => leave S1 r
    | .ok (.next _) S1 => leave S1 (.d .non)
    | .ok _ _ => .bad
    | .exc e S1 => match popS S1 with
      | some S2 => .exc e S2
      | none => .bad
    | .bad => .bad
  else .bad
def callN (T : Nat → Option FD) : Nat → Nat → List SV → M RV
  | 0, _, _ => fun _ => .bad
  | n + 1, f, vs => match T f with
    | some F => runF (callN T n) F vs
    | none => fun _ => .bad
end U

/-! URel: how the evaluator's state lies in the hand layer's heap. -/
namespace U
open PySem PySem.Spec PyProof.Rows L2

/-- where things lie: what is frozen, the frames' lists, the objects -/
structure W where
  F : Hp
  own : List Addr
  out : List (List Addr)
  gl : List Addr
  ex : List (Addr × HO)
def W.ad (w : W) : Nat → Nat → Option Addr
  | 0, i => w.own[i]?
  | u + 1, i => match w.out[u]? with
    | some l => l[i]?
    | none => none

section
variable (K : PySem.W.Frag)
def RKey (k : D) (key : Key) : Prop := match k with
  | .int i => key = .inl i
  | .str s => key = .inr s
  | _ => False
mutual
def RD (F : Hp) (g : List Addr) : D → V → Prop
  | .non, v => v = .non
  | .bl b, v => v = .bl b
  | .int i, v => v = .int i
  | .str s, v => v = .str s
  | .tup ds, v => ∃ a vs, v = .ref a ∧ SqT K F a vs ∧ RDs F g ds vs
  | .lst ds, v => ∃ a vs, v = .ref a ∧ F a = some (.lst vs) ∧ RDs F g ds vs
  | .dic kvs, v => ∃ a us, v = .ref a ∧ F a = some (.dK us) ∧ RDk F g kvs us
  | .ref i, v => ∃ a, g[i]? = some a ∧ v = .ref a
  | .rol ds, v => ∃ a vs, v = .ref a ∧ SqL K F a vs ∧ RDs F g ds vs
def RDs (F : Hp) (g : List Addr) : List D → List V → Prop
  | [], vs => vs = []
  | d :: ds, vs => ∃ v r, vs = v :: r ∧ RD F g d v ∧ RDs F g ds r
def RDk (F : Hp) (g : List Addr) : List (D × D) → List (Key × V) → Prop
  | [], us => us = []
  | (k, d) :: r, us => ∃ key v us', us = (key, v) :: us' ∧ RKey k key ∧ RD F g d v ∧ RDk F g r us'
end
def sub (F F' : Hp) : Prop := ∀ a o, F a = some o → F' a = some o
theorem sub.refl (F : Hp) : sub F F := fun _ _ h => h
theorem sub.trans {F F1 F2 : Hp} (a : sub F F1) (b : sub F1 F2) : sub F F2 := fun c o h => b c o (a c o h)
theorem sub.rd {F F' : Hp} (s : sub F F') {a : Addr} {u : HO} (h : Rd F a u) : Rd F' a u := h.elim (fun z => .inl (s _ _ z)) fun ⟨o, z⟩ => .inr ⟨o, s _ _ z⟩
theorem sub.sqL {F F' : Hp} (s : sub F F') {a : Addr} {xs : List V} (h : SqL K F a xs) : SqL K F' a xs := h.elim (fun z => .inl (s.rd z)) .inr
theorem sub.sqT {F F' : Hp} (s : sub F F') {a : Addr} {xs : List V} (h : SqT K F a xs) : SqT K F' a xs := h.elim (fun z => .inl (s.rd z)) .inr
def pre (g g' : List Addr) : Prop := ∃ m, g' = g ++ m
theorem pre.refl (g : List Addr) : pre g g := ⟨[], (List.append_nil g).symm⟩
theorem pre.trans {g g1 g2 : List Addr} (a : pre g g1) (b : pre g1 g2) : pre g g2 := by
  obtain ⟨m, rfl⟩ := a; obtain ⟨n, rfl⟩ := b; exact ⟨m ++ n, by rw [List.append_assoc]⟩
theorem pre.get {g g' : List Addr} (a : pre g g') {i : Nat} {x : Addr} (h : g[i]? = some x) : g'[i]? = some x := by
  obtain ⟨m, rfl⟩ := a
  rw [List.getElem?_append_left (List.getElem?_eq_some_iff.mp h).1]
  exact h
mutual
theorem RD.mono {F F' : Hp} {g g' : List Addr} (s : sub F F') (p : pre g g') : ∀ (d : D) {v : V}, RD K F g d v → RD K F' g' d v
  | .non, _, h => h
  | .bl _, _, h => h
  | .int _, _, h => h
  | .str _, _, h => h
  | .tup ds, _, ⟨a, vs, e, q, r⟩ => ⟨a, vs, e, s.sqT K q, RDs.mono s p ds r⟩
  | .lst ds, _, ⟨a, vs, e, q, r⟩ => ⟨a, vs, e, s _ _ q, RDs.mono s p ds r⟩
  | .rol ds, _, ⟨a, vs, e, q, r⟩ => ⟨a, vs, e, s.sqL K q, RDs.mono s p ds r⟩
  | .dic kvs, _, ⟨a, us, e, q, r⟩ => ⟨a, us, e, s _ _ q, RDk.mono s p kvs r⟩
  | .ref _, _, ⟨a, q, e⟩ => ⟨a, p.get q, e⟩
theorem RDs.mono {F F' : Hp} {g g' : List Addr} (s : sub F F') (p : pre g g') : ∀ (ds : List D) {vs : List V}, RDs K F g ds vs → RDs K F' g' ds vs
  | [], _, h => h
  | d :: ds, _, ⟨v, r, e, q, t⟩ => ⟨v, r, e, RD.mono s p d q, RDs.mono s p ds t⟩
theorem RDk.mono {F F' : Hp} {g g' : List Addr} (s : sub F F') (p : pre g g') : ∀ (kvs : List (D × D)) {us : List (Key × V)}, RDk K F g kvs us → RDk K F' g' kvs us
  | [], _, h => h
  | (k, d) :: r, _, ⟨key, v, us', e, q, t, z⟩ => ⟨key, v, us', e, q, RD.mono s p d t, RDk.mono s p r z⟩
end
theorem RDs.len {F : Hp} {g : List Addr} : ∀ {ds : List D} {vs : List V}, RDs K F g ds vs → vs.length = ds.length
  | [], _, h => by rw [show _ = [] from h]; rfl
  | d :: ds, _, ⟨v, r, e, q, t⟩ => by rw [e, List.length_cons, List.length_cons, RDs.len t]
theorem RDs.get {F : Hp} {g : List Addr} : ∀ {ds : List D} {vs : List V} {i : Nat} {d : D}, RDs K F g ds vs → ds[i]? = some d → ∃ v, vs[i]? = some v ∧ RD K F g d v
  | [], _, _, _, _, e => by simp at e
  | d :: ds, _, 0, _, ⟨v, r, e, q, t⟩, h => by
    simp at h; subst h; subst e
    exact ⟨v, rfl, q⟩
  | d :: ds, _, i + 1, _, ⟨v, r, e, q, t⟩, h => by
    subst e
    obtain ⟨x, h1, h2⟩ := RDs.get (i := i) t (by simpa using h)
    exact ⟨x, by simpa using h1, h2⟩
theorem RDs.app {F : Hp} {g : List Addr} : ∀ {ds es : List D} {vs us : List V}, RDs K F g ds vs → RDs K F g es us → RDs K F g (ds ++ es) (vs ++ us)
  | [], _, _, _, h, k => by rw [show _ = [] from h]; exact k
  | d :: ds, _, _, _, ⟨v, r, e, q, t⟩, k => by
    subst e
    exact ⟨v, _, rfl, q, RDs.app t k⟩
theorem RDs.drop {F : Hp} {g : List Addr} : ∀ {ds : List D} {vs : List V} (n : Nat), RDs K F g ds vs → RDs K F g (ds.drop n) (vs.drop n)
  | ds, vs, 0, h => h
  | [], _, n + 1, h => by rw [show _ = [] from h]; exact rfl
  | d :: ds, _, n + 1, ⟨v, r, e, q, t⟩ => by subst e; exact RDs.drop n t
theorem RDs.take {F : Hp} {g : List Addr} : ∀ {ds : List D} {vs : List V} (n : Nat), RDs K F g ds vs → RDs K F g (ds.take n) (vs.take n)
  | ds, vs, 0, h => rfl
  | [], _, n + 1, h => by rw [show _ = [] from h]; exact rfl
  | d :: ds, _, n + 1, ⟨v, r, e, q, t⟩ => by subst e; exact ⟨v, _, rfl, q, RDs.take n t⟩
theorem RDs.set {F : Hp} {g : List Addr} {x : D} {u : V} (hx : RD K F g x u) : ∀ {ds : List D} {vs : List V} (n : Nat), RDs K F g ds vs → RDs K F g (ds.set n x) (vs.set n u)
  | [], _, n, h => by rw [show _ = [] from h]; exact rfl
  | d :: ds, _, 0, ⟨v, r, e, q, t⟩ => by subst e; exact ⟨u, _, rfl, hx, t⟩
  | d :: ds, _, n + 1, ⟨v, r, e, q, t⟩ => by subst e; exact ⟨v, _, rfl, q, RDs.set hx n t⟩
theorem RDs.erase {F : Hp} {g : List Addr} : ∀ {ds : List D} {vs : List V} (n : Nat), RDs K F g ds vs → RDs K F g (ds.eraseIdx n) (vs.eraseIdx n)
  | [], _, n, h => by rw [show _ = [] from h]; exact rfl
  | d :: ds, _, 0, ⟨v, r, e, q, t⟩ => by subst e; exact t
  | d :: ds, _, n + 1, ⟨v, r, e, q, t⟩ => by subst e; exact ⟨v, _, rfl, q, RDs.erase n t⟩
theorem RDs.rev {F : Hp} {g : List Addr} : ∀ {ds : List D} {vs : List V}, RDs K F g ds vs → RDs K F g ds.reverse vs.reverse
  | [], _, h => by rw [show _ = [] from h]; exact rfl
  | d :: ds, _, ⟨v, r, e, q, t⟩ => by
    subst e
    rw [List.reverse_cons, List.reverse_cons]
    exact RDs.app K (RDs.rev t) ⟨v, [], rfl, q, rfl⟩
theorem RDs.rep {F : Hp} {g : List Addr} {ds : List D} {vs : List V} (h : RDs K F g ds vs) : ∀ k : Nat, RDs K F g (rep k ds) (List.replicate k vs).flatten
  | 0 => rfl
  | k + 1 => by
    unfold U.rep
    rw [List.replicate_succ, List.replicate_succ, List.flatten_cons, List.flatten_cons]
    exact RDs.app K h (RDs.rep h k)
theorem RDs.ints {F : Hp} {g : List Addr} : ∀ {ds : List D} {ns : List Int} {vs : List V}, intsD ds = some ns → RDs K F g ds vs → vs = ns.map V.int
  | [], ns, vs, h, r => by
    rw [show vs = [] from r]
    cases (show some [] = some ns from h); rfl
  | .int i :: ds, ns, vs, h, ⟨v, r, e, q, t⟩ => by
    unfold intsD at h
    cases e2 : intsD ds with
    | none => rw [e2] at h; cases h
    | some m =>
      rw [e2] at h
      cases h
      subst e
      rw [RDs.ints e2 t, show v = .int i from q]
      rfl
theorem RDs.strs {F : Hp} {g : List Addr} : ∀ {ds : List D} {ns : List Str} {vs : List V}, strsD ds = some ns → RDs K F g ds vs → vs = ns.map V.str
  | [], ns, vs, h, r => by
    rw [show vs = [] from r]
    cases (show some [] = some ns from h); rfl
  | .str i :: ds, ns, vs, h, ⟨v, r, e, q, t⟩ => by
    unfold strsD at h
    cases e2 : strsD ds with
    | none => rw [e2] at h; cases h
    | some m =>
      rw [e2] at h
      cases h
      subst e
      rw [RDs.strs e2 t, show v = .str i from q]
      rfl
theorem rds_ints {F : Hp} {g : List Addr} : ∀ ns : List Int, RDs K F g (ns.map D.int) (ns.map V.int)
  | [] => rfl
  | n :: ns => ⟨_, _, rfl, rfl, rds_ints ns⟩
end
end U

namespace U
open PySem PySem.Spec PyProof.Rows L2

section
variable (K : PySem.W.Frag)
/-- one list of the frames -/
def RO (F : Hp) (g : List Addr) (H : Hp) : LO → Addr → Prop
  | ⟨false, .lst ds⟩, a => F a = none ∧ ∃ vs, H a = some (.lst vs) ∧ RDs K F g ds vs
  | ⟨true, .lst ds⟩, a => ∃ vs, F a = some (.lst vs) ∧ RDs K F g ds vs
  | _, _ => False
def RFr (F : Hp) (g : List Addr) (H : Hp) : List LO → List Addr → Prop
  | [], as => as = []
  | o :: os, as => ∃ a r, as = a :: r ∧ RO K F g H o a ∧ RFr F g H os r
def RFrs (F : Hp) (g : List Addr) (H : Hp) : List (List LO) → List (List Addr) → Prop
  | [], as => as = []
  | o :: os, as => ∃ a r, as = a :: r ∧ RFr K F g H o a ∧ RFrs F g H os r
def W.all (w : W) : List Addr := w.own ++ w.out.flatten ++ w.gl ++ w.ex.map (·.1)
structure Rel (w : W) (S : St) (H : Hp) : Prop where
  sub : sub w.F H
  own : RFr K w.F w.gl H S.own w.own
  out : RFrs K w.F w.gl H S.out w.out
  gl : RFr K w.F w.gl H S.gl w.gl
  ex : ∀ p ∈ w.ex, H p.1 = some p.2 ∧ w.F p.1 = none
  nd : w.all.Nodup
structure W.le (w w' : W) : Prop where
  F : U.sub w.F w'.F
  own : pre w.own w'.own
  out : w'.out = w.out
  gl : pre w.gl w'.gl
  ex : w'.ex = w.ex
theorem W.le.refl (w : W) : w.le w := ⟨sub.refl _, pre.refl _, rfl, pre.refl _, rfl⟩
theorem W.le.trans {a b c : W} (x : a.le b) (y : b.le c) : a.le c := ⟨x.F.trans y.F, x.own.trans y.own, y.out.trans x.out, x.gl.trans y.gl, y.ex.trans x.ex⟩
theorem W.le.ad {w w' : W} (x : w.le w') {u i : Nat} {a : Addr} (h : w.ad u i = some a) : w'.ad u i = some a := by
  cases u with
  | zero => exact x.own.get h
  | succ u => unfold W.ad at h ⊢; rw [x.out]; exact h

theorem RFr.get {F : Hp} {g : List Addr} {H : Hp} : ∀ {os : List LO} {as : List Addr} {i : Nat} {o : LO}, RFr K F g H os as → os[i]? = some o → ∃ a, as[i]? = some a ∧ RO K F g H o a
  | [], _, _, _, _, e => by simp at e
  | d :: ds, _, 0, _, ⟨v, r, e, q, t⟩, h => by simp at h; subst h; subst e; exact ⟨v, rfl, q⟩
  | d :: ds, _, i + 1, _, ⟨v, r, e, q, t⟩, h => by
    subst e
    obtain ⟨x, h1, h2⟩ := RFr.get (i := i) t (by simpa using h)
    exact ⟨x, by simpa using h1, h2⟩
theorem RFrs.get {F : Hp} {g : List Addr} {H : Hp} : ∀ {os : List (List LO)} {as : List (List Addr)} {i : Nat} {o : List LO}, RFrs K F g H os as → os[i]? = some o → ∃ a, as[i]? = some a ∧ RFr K F g H o a
  | [], _, _, _, _, e => by simp at e
  | d :: ds, _, 0, _, ⟨v, r, e, q, t⟩, h => by simp at h; subst h; subst e; exact ⟨v, rfl, q⟩
  | d :: ds, _, i + 1, _, ⟨v, r, e, q, t⟩, h => by
    subst e
    obtain ⟨x, h1, h2⟩ := RFrs.get (i := i) t (by simpa using h)
    exact ⟨x, by simpa using h1, h2⟩
theorem RFr.len {F : Hp} {g : List Addr} {H : Hp} : ∀ {os : List LO} {as : List Addr}, RFr K F g H os as → as.length = os.length
  | [], _, h => by rw [show _ = [] from h]; rfl
  | d :: ds, _, ⟨v, r, e, q, t⟩ => by rw [e, List.length_cons, List.length_cons, RFr.len t]
theorem Rel.get {w : W} {S : St} {H : Hp} (r : Rel K w S H) {u i : Nat} {o : LO} (h : S.get u i = some o) : ∃ a, w.ad u i = some a ∧ RO K w.F w.gl H o a := by
  cases u with
  | zero => exact r.own.get K h
  | succ u =>
    have h : (match S.out[u]? with
      | some l => l[i]?
      | none => none) = some o := h
    cases e : S.out[u]? with
    | none => rw [e] at h; cases h
    | some l =>
      rw [e] at h
      obtain ⟨as, h1, h2⟩ := r.out.get K e
      obtain ⟨a, h3, h4⟩ := h2.get K h
      refine ⟨a, ?_, h4⟩
      show (match w.out[u]? with
        | some l => l[i]?
        | none => none) = some a
      rw [h1]; exact h3
theorem W.ad_mem {w : W} {u i : Nat} {a : Addr} (h : w.ad u i = some a) : a ∈ w.all := by
  unfold W.all
  cases u with
  | zero => exact List.mem_append_left _ (List.mem_append_left _ (List.mem_append_left _ (List.mem_of_getElem? h)))
  | succ u =>
    have h : (match w.out[u]? with
      | some l => l[i]?
      | none => none) = some a := h
    cases e : w.out[u]? with
    | none => rw [e] at h; cases h
    | some l =>
      rw [e] at h
      exact List.mem_append_left _ (List.mem_append_left _ (List.mem_append_right _ (List.mem_flatten.mpr ⟨l, List.mem_of_getElem? e, List.mem_of_getElem? h⟩)))

/-- what is kept of an object of the frames -/
theorem RO.keep {F F' : Hp} {g g' : List Addr} {H H' : Hp} (s : sub F F') (p : pre g g') : ∀ {o : LO} {a : Addr}, RO K F g H o a → (F a = none → F' a = none) → (F a = none → ∀ u, H a = some u → H' a = some u) → RO K F' g' H' o a
  | ⟨false, .lst ds⟩, a, ⟨n, vs, e, q⟩, hn, hk => ⟨hn n, vs, hk n _ e, q.mono K s p⟩
  | ⟨true, .lst ds⟩, a, ⟨vs, e, q⟩, _, _ => ⟨vs, s _ _ e, q.mono K s p⟩
theorem RFr.keep {F F' : Hp} {g g' : List Addr} {H H' : Hp} (s : sub F F') (p : pre g g') : ∀ {os : List LO} {as : List Addr}, RFr K F g H os as → (∀ a ∈ as, F a = none → F' a = none) → (∀ a ∈ as, F a = none → ∀ u, H a = some u → H' a = some u) → RFr K F' g' H' os as
  | [], _, h, _, _ => h
  | o :: os, _, ⟨a, r, e, q, t⟩, hn, hk => by
    subst e
    exact ⟨a, r, rfl, q.keep K s p (hn a List.mem_cons_self) (hk a List.mem_cons_self), t.keep s p (fun b hb => hn b (List.mem_cons_of_mem _ hb)) fun b hb => hk b (List.mem_cons_of_mem _ hb)⟩
theorem RFrs.keep {F F' : Hp} {g g' : List Addr} {H H' : Hp} (s : sub F F') (p : pre g g') : ∀ {os : List (List LO)} {as : List (List Addr)}, RFrs K F g H os as → (∀ a ∈ as.flatten, F a = none → F' a = none) → (∀ a ∈ as.flatten, F a = none → ∀ u, H a = some u → H' a = some u) → RFrs K F' g' H' os as
  | [], _, h, _, _ => h
  | o :: os, _, ⟨a, r, e, q, t⟩, hn, hk => by
    subst e
    rw [List.flatten_cons] at hn hk
    exact ⟨a, r, rfl, q.keep K s p (fun b hb => hn b (List.mem_append_left _ hb)) (fun b hb => hk b (List.mem_append_left _ hb)), t.keep s p (fun b hb => hn b (List.mem_append_right _ hb)) fun b hb => hk b (List.mem_append_right _ hb)⟩
/-- nothing of the frames changes, more is frozen that was not ours -/
theorem Rel.keep {w : W} {S : St} {H F' H' : Hp} (r : Rel K w S H) (s : U.sub w.F F') (sH : U.sub F' H') (hn : ∀ a ∈ w.all, w.F a = none → F' a = none) (hk : ∀ a ∈ w.all, w.F a = none → ∀ u, H a = some u → H' a = some u) : Rel K ⟨F', w.own, w.out, w.gl, w.ex⟩ S H' := by
  unfold W.all at hn hk
  refine ⟨sH, r.own.keep K s (pre.refl _) ?_ ?_, r.out.keep K s (pre.refl _) ?_ ?_, r.gl.keep K s (pre.refl _) ?_ ?_, ?_, r.nd⟩
  · exact fun a h => hn a (List.mem_append_left _ (List.mem_append_left _ (List.mem_append_left _ h)))
  · exact fun a h => hk a (List.mem_append_left _ (List.mem_append_left _ (List.mem_append_left _ h)))
  · exact fun a h => hn a (List.mem_append_left _ (List.mem_append_left _ (List.mem_append_right _ h)))
  · exact fun a h => hk a (List.mem_append_left _ (List.mem_append_left _ (List.mem_append_right _ h)))
  · exact fun a h => hn a (List.mem_append_left _ (List.mem_append_right _ h))
  · exact fun a h => hk a (List.mem_append_left _ (List.mem_append_right _ h))
  · intro p hp
    obtain ⟨h1, h2⟩ := r.ex p hp
    have hm := List.mem_append_right (w.own ++ w.out.flatten ++ w.gl) (List.mem_map_of_mem (f := (·.1)) hp)
    exact ⟨hk _ hm h2 _ h1, hn _ hm h2⟩
theorem RO.there {F : Hp} {g : List Addr} {H : Hp} (sH : sub F H) : ∀ {o : LO} {a : Addr}, RO K F g H o a → ∃ u, H a = some u
  | ⟨false, .lst ds⟩, a, ⟨n, vs, e, q⟩ => ⟨_, e⟩
  | ⟨true, .lst ds⟩, a, ⟨vs, e, q⟩ => ⟨_, sH _ _ e⟩
theorem RFr.there {F : Hp} {g : List Addr} {H : Hp} (sH : sub F H) : ∀ {os : List LO} {as : List Addr}, RFr K F g H os as → ∀ a ∈ as, ∃ u, H a = some u
  | [], _, h, a, ha => by rw [show _ = [] from h] at ha; cases ha
  | o :: os, _, ⟨b, r, e, q, t⟩, a, ha => by
    subst e
    rcases List.mem_cons.mp ha with rfl | ha
    · exact q.there K sH
    · exact t.there sH a ha
theorem RFrs.there {F : Hp} {g : List Addr} {H : Hp} (sH : sub F H) : ∀ {os : List (List LO)} {as : List (List Addr)}, RFrs K F g H os as → ∀ a ∈ as.flatten, ∃ u, H a = some u
  | [], _, h, a, ha => by rw [show _ = [] from h] at ha; cases ha
  | o :: os, _, ⟨b, r, e, q, t⟩, a, ha => by
    subst e
    rw [List.flatten_cons] at ha
    rcases List.mem_append.mp ha with ha | ha
    · exact q.there K sH a ha
    · exact t.there sH a ha
theorem Rel.there {w : W} {S : St} {H : Hp} (r : Rel K w S H) {a : Addr} (ha : a ∈ w.all) : ∃ u, H a = some u := by
  unfold W.all at ha
  rcases List.mem_append.mp ha with ha | ha
  · rcases List.mem_append.mp ha with ha | ha
    · rcases List.mem_append.mp ha with ha | ha
      · exact r.own.there K r.sub a ha
      · exact r.out.there K r.sub a ha
    · exact r.gl.there K r.sub a ha
  · obtain ⟨p, hp, rfl⟩ := List.mem_map.mp ha
    exact ⟨_, (r.ex p hp).1⟩
/-- a new object that is frozen at once -/
theorem Rel.newF {w : W} {S : St} {H : Hp} (r : Rel K w S H) {p : Addr} {o : HO} (hp : H p = none) : Rel K ⟨upd w.F p o, w.own, w.out, w.gl, w.ex⟩ S (upd H p o) ∧ w.le ⟨upd w.F p o, w.own, w.out, w.gl, w.ex⟩ := by
  have hF : w.F p = none := by
    cases e : w.F p with
    | none => rfl
    | some u => rw [r.sub _ _ e] at hp; cases hp
  have s : U.sub w.F (upd w.F p o) := fun a u e => by rw [upd_ne (ne_of_none e hF)]; exact e
  have na : ∀ a ∈ w.all, a ≠ p := fun a ha z => by
    obtain ⟨u, e⟩ := r.there K ha
    rw [z, hp] at e; cases e
  refine ⟨r.keep K s (fun a u e => ?_) (fun a ha n => by rw [upd_ne (na a ha)]; exact n) (fun a ha _ u e => by rw [upd_ne (na a ha)]; exact e), ⟨s, pre.refl _, rfl, pre.refl _, rfl⟩⟩
  by_cases h : a = p
  · subst h; rw [upd_same] at e ⊢; exact e
  · rw [upd_ne h] at e ⊢; exact r.sub _ _ e
/-- a new object, not ours -/
theorem Rel.new {w : W} {S : St} {H : Hp} (r : Rel K w S H) {p : Addr} {o : HO} (hp : H p = none) : Rel K w S (upd H p o) := by
  have na : ∀ a u, H a = some u → a ≠ p := fun a u e z => by rw [z, hp] at e; cases e
  exact r.keep K (sub.refl _) (fun a u e => by rw [upd_ne (na _ _ (r.sub _ _ e))]; exact r.sub _ _ e) (fun _ _ n => n) (fun a ha _ u e => by rw [upd_ne (na _ _ e)]; exact e)
theorem Rel.notF {w : W} {S : St} {H : Hp} (r : Rel K w S H) {p : Addr} (hp : H p = none) : w.F p = none ∧ p ∉ w.all := by
  refine ⟨?_, fun h => ?_⟩
  · cases e : w.F p with
    | none => rfl
    | some u => rw [r.sub _ _ e] at hp; cases hp
  · obtain ⟨u, e⟩ := r.there K h
    rw [hp] at e; cases e
/-- a loose object is frozen -/
theorem Rel.froze {w : W} {S : St} {H : Hp} (r : Rel K w S H) {p : Addr} {o : HO} (hp : H p = some o) (hF : w.F p = none) (ha : p ∉ w.all) : Rel K ⟨upd w.F p o, w.own, w.out, w.gl, w.ex⟩ S H ∧ w.le ⟨upd w.F p o, w.own, w.out, w.gl, w.ex⟩ := by
  have s : U.sub w.F (upd w.F p o) := fun a u e => by rw [upd_ne (ne_of_none e hF)]; exact e
  have na : ∀ a ∈ w.all, a ≠ p := fun a h z => ha (z ▸ h)
  refine ⟨r.keep K s (fun a u e => ?_) (fun a ha n => by rw [upd_ne (na a ha)]; exact n) (fun a ha _ u e => e), ⟨s, pre.refl _, rfl, pre.refl _, rfl⟩⟩
  by_cases h : a = p
  · subst h; rw [upd_same] at e; rw [← e]; exact hp
  · rw [upd_ne h] at e; exact r.sub _ _ e
theorem RFr.snoc {F : Hp} {g : List Addr} {H : Hp} {o : LO} {a : Addr} (q : RO K F g H o a) : ∀ {os : List LO} {as : List Addr}, RFr K F g H os as → RFr K F g H (os ++ [o]) (as ++ [a])
  | [], _, h => by rw [show _ = [] from h]; exact ⟨a, [], rfl, q, rfl⟩
  | d :: ds, _, ⟨b, r, e, z, t⟩ => by subst e; exact ⟨b, _, rfl, z, RFr.snoc q t⟩
/-- a loose list becomes ours -/
theorem Rel.mine {w : W} {S : St} {H : Hp} (r : Rel K w S H) {p : Addr} {vs : List V} {ds : List D} (hp : H p = some (.lst vs)) (hd : RDs K w.F w.gl ds vs) (hF : w.F p = none) (ha : p ∉ w.all) :
    Rel K ⟨w.F, w.own ++ [p], w.out, w.gl, w.ex⟩ { S with own := S.own ++ [⟨false, .lst ds⟩] } H ∧ w.le ⟨w.F, w.own ++ [p], w.out, w.gl, w.ex⟩ := by
  refine ⟨⟨r.sub, RFr.snoc K (o := ⟨false, .lst ds⟩) (a := p) ⟨hF, vs, hp, hd⟩ r.own, r.out, r.gl, r.ex, ?_⟩, ⟨sub.refl _, ⟨_, rfl⟩, rfl, pre.refl _, rfl⟩⟩
  have h := r.nd
  unfold W.all at h ha ⊢
  simp only [List.append_assoc] at h ha ⊢
  rw [List.mem_append, not_or] at ha
  rw [List.nodup_append] at h ⊢
  obtain ⟨h1, h2, h3⟩ := h
  refine ⟨h1, ?_, fun a h a' h' => ?_⟩
  · rw [List.singleton_append, List.nodup_cons]
    exact ⟨ha.2, h2⟩
  · rw [List.singleton_append] at h'
    rcases List.mem_cons.mp h' with rfl | h'
    · exact fun z => ha.1 (z ▸ h)
    · exact h3 a h a' h'
/-- an extra object is written, left, taken up -/
theorem Rel.exset {w : W} {S : St} {H : Hp} {p : Addr} {o o' : HO} {l : List (Addr × HO)} (r : Rel K w S H) (e : w.ex = (p, o) :: l) : Rel K { w with ex := (p, o') :: l } S (upd H p o') := by
  have nd := r.nd
  unfold W.all at nd
  rw [e, List.map_cons] at nd
  have hx := r.ex
  rw [e] at hx
  have hp := hx _ List.mem_cons_self
  have na : ∀ a ∈ w.own ++ w.out.flatten ++ w.gl, a ≠ p := fun a ha z => by
    rw [List.nodup_append] at nd
    exact nd.2.2 a ha p List.mem_cons_self z
  have nl : ∀ q ∈ l, q.1 ≠ p := fun q hq z => by
    rw [List.nodup_append] at nd
    exact (List.nodup_cons.mp nd.2.1).1 (z ▸ List.mem_map_of_mem (f := (·.1)) hq)
  refine ⟨fun a u ha => ?_, ?_, ?_, ?_, ?_, ?_⟩
  · have : a ≠ p := fun z => by rw [z, hp.2] at ha; cases ha
    rw [upd_ne this]; exact r.sub _ _ ha
  · exact r.own.keep K (sub.refl _) (pre.refl _) (fun _ _ n => n) fun a ha _ u q => by rw [upd_ne (na a (List.mem_append_left _ (List.mem_append_left _ ha)))]; exact q
  · exact r.out.keep K (sub.refl _) (pre.refl _) (fun _ _ n => n) fun a ha _ u q => by rw [upd_ne (na a (List.mem_append_left _ (List.mem_append_right _ ha)))]; exact q
  · exact r.gl.keep K (sub.refl _) (pre.refl _) (fun _ _ n => n) fun a ha _ u q => by rw [upd_ne (na a (List.mem_append_right _ ha))]; exact q
  · intro q hq
    rcases List.mem_cons.mp hq with rfl | hq
    · exact ⟨upd_same, hp.2⟩
    · rw [upd_ne (nl q hq)]
      exact hx q (List.mem_cons_of_mem _ hq)
  · show (w.own ++ w.out.flatten ++ w.gl ++ ((p, o') :: l).map (·.1)).Nodup
    rw [List.map_cons]; exact nd
theorem Rel.exdrop {w : W} {S : St} {H : Hp} {p : Addr} {o : HO} {l : List (Addr × HO)} (r : Rel K w S H) (e : w.ex = (p, o) :: l) : Rel K { w with ex := l } S H ∧ H p = some o ∧ w.F p = none ∧ p ∉ ({ w with ex := l } : W).all := by
  have nd := r.nd
  unfold W.all at nd
  rw [e, List.map_cons] at nd
  have hx := r.ex
  rw [e] at hx
  have hp := hx _ List.mem_cons_self
  have nd' := nd
  rw [List.nodup_append] at nd'
  obtain ⟨n1, n2, n3⟩ := nd'
  refine ⟨⟨r.sub, r.own, r.out, r.gl, fun q hq => hx q (List.mem_cons_of_mem _ hq), ?_⟩, hp.1, hp.2, fun h => ?_⟩
  · show (w.own ++ w.out.flatten ++ w.gl ++ l.map (·.1)).Nodup
    rw [List.nodup_append]
    exact ⟨n1, (List.nodup_cons.mp n2).2, fun a ha b hb => n3 a ha b (List.mem_cons_of_mem _ hb)⟩
  · have h : p ∈ w.own ++ w.out.flatten ++ w.gl ++ l.map (·.1) := h
    rcases List.mem_append.mp h with h | h
    · exact n3 p h p List.mem_cons_self rfl
    · exact (List.nodup_cons.mp n2).1 h
theorem Rel.extake {w : W} {S : St} {H : Hp} {p : Addr} {o : HO} (r : Rel K w S H) (hp : H p = some o) (hF : w.F p = none) (ha : p ∉ w.all) : Rel K { w with ex := (p, o) :: w.ex } S H := by
  refine ⟨r.sub, r.own, r.out, r.gl, fun q hq => ?_, ?_⟩
  · rcases List.mem_cons.mp hq with rfl | hq
    · exact ⟨hp, hF⟩
    · exact r.ex q hq
  · show (w.own ++ w.out.flatten ++ w.gl ++ ((p, o) :: w.ex).map (·.1)).Nodup
    have nd := r.nd
    unfold W.all at nd ha
    rw [List.map_cons]
    rw [List.mem_append, not_or] at ha
    rw [List.nodup_append] at nd ⊢
    refine ⟨nd.1, List.nodup_cons.mpr ⟨ha.2, nd.2.1⟩, fun a h b hb => ?_⟩
    rcases List.mem_cons.mp hb with rfl | hb
    · exact fun z => ha.1 (z ▸ h)
    · exact nd.2.2 a h b hb
end
end U

namespace U
open PySem PySem.Spec PyProof.Rows L2

section
variable (K : PySem.W.Frag)
theorem RFr.chg {F F' : Hp} {g : List Addr} {H H' : Hp} {a : Addr} {o' : LO} (s : sub F F') (q' : RO K F' g H' o' a) : ∀ {os : List LO} {as : List Addr} {i : Nat}, RFr K F g H os as → as[i]? = some a → as.Nodup →
    (∀ b ∈ as, b ≠ a → F b = none → F' b = none) → (∀ b ∈ as, b ≠ a → F b = none → ∀ u, H b = some u → H' b = some u) → RFr K F' g H' (os.set i o') as
  | [], _, _, h, e, _, _, _ => by rw [show _ = [] from h] at e; simp at e
  | o :: os, _, 0, ⟨b, r, e, q, t⟩, h, nd, hn, hk => by
    subst e
    simp at h; subst h
    have na : ∀ c ∈ r, c ≠ b := fun c hc z => (List.nodup_cons.mp nd).1 (z ▸ hc)
    exact ⟨b, r, rfl, q', t.keep K s (pre.refl _) (fun c hc => hn c (List.mem_cons_of_mem _ hc) (na c hc)) fun c hc => hk c (List.mem_cons_of_mem _ hc) (na c hc)⟩
  | o :: os, _, i + 1, ⟨b, r, e, q, t⟩, h, nd, hn, hk => by
    subst e
    have h : r[i]? = some a := by simpa using h
    have nb : b ≠ a := fun z => (List.nodup_cons.mp nd).1 (z ▸ List.mem_of_getElem? h)
    exact ⟨b, r, rfl, q.keep K s (pre.refl _) (hn b List.mem_cons_self nb) (hk b List.mem_cons_self nb), RFr.chg s q' t h (List.nodup_cons.mp nd).2 (fun c hc => hn c (List.mem_cons_of_mem _ hc)) fun c hc => hk c (List.mem_cons_of_mem _ hc)⟩
theorem RFrs.chg {F F' : Hp} {g : List Addr} {H H' : Hp} {a : Addr} {o' : LO} (s : sub F F') (q' : RO K F' g H' o' a) : ∀ {os : List (List LO)} {as : List (List Addr)} {u i : Nat} {l : List Addr}, RFrs K F g H os as → as[u]? = some l → l[i]? = some a → as.flatten.Nodup →
    (∀ b ∈ as.flatten, b ≠ a → F b = none → F' b = none) → (∀ b ∈ as.flatten, b ≠ a → F b = none → ∀ u, H b = some u → H' b = some u) → RFrs K F' g H' (os.modify u fun x => x.set i o') as
  | [], _, _, _, _, h, e, _, _, _, _ => by rw [show _ = [] from h] at e; simp at e
  | o :: os, _, 0, i, l, ⟨b, r, e, q, t⟩, h, hl, nd, hn, hk => by
    subst e
    simp at h; subst h
    rw [List.flatten_cons] at nd hn hk
    rw [List.nodup_append] at nd
    obtain ⟨n1, n2, n3⟩ := nd
    have ha := List.mem_of_getElem? hl
    have na : ∀ c ∈ r.flatten, c ≠ a := fun c hc z => n3 a ha c hc z.symm
    exact ⟨b, r, rfl, RFr.chg K s q' q hl n1 (fun c hc => hn c (List.mem_append_left _ hc)) (fun c hc => hk c (List.mem_append_left _ hc)), t.keep K s (pre.refl _) (fun c hc => hn c (List.mem_append_right _ hc) (na c hc)) fun c hc => hk c (List.mem_append_right _ hc) (na c hc)⟩
  | o :: os, _, u + 1, i, l, ⟨b, r, e, q, t⟩, h, hl, nd, hn, hk => by
    subst e
    have h : r[u]? = some l := by simpa using h
    rw [List.flatten_cons] at nd hn hk
    rw [List.nodup_append] at nd
    obtain ⟨n1, n2, n3⟩ := nd
    have ha : a ∈ r.flatten := List.mem_flatten.mpr ⟨l, List.mem_of_getElem? h, List.mem_of_getElem? hl⟩
    have na : ∀ c ∈ b, c ≠ a := fun c hc z => n3 c hc a ha z
    exact ⟨b, r, rfl, q.keep K s (pre.refl _) (fun c hc => hn c (List.mem_append_left _ hc) (na c hc)) (fun c hc => hk c (List.mem_append_left _ hc) (na c hc)),
      RFrs.chg s q' t h hl n2 (fun c hc => hn c (List.mem_append_right _ hc)) fun c hc => hk c (List.mem_append_right _ hc)⟩
/-- the object at a place changes -/
theorem Rel.chg {w : W} {S : St} {H F' H' : Hp} {u i : Nat} {a : Addr} {o' : LO} (r : Rel K w S H) (s : U.sub w.F F') (sH : U.sub F' H') (ha : w.ad u i = some a) (q' : RO K F' w.gl H' o' a)
    (hn : ∀ b ∈ w.all, b ≠ a → w.F b = none → F' b = none) (hk : ∀ b ∈ w.all, b ≠ a → w.F b = none → ∀ u, H b = some u → H' b = some u) : Rel K ⟨F', w.own, w.out, w.gl, w.ex⟩ (S.set u i o') H' := by
  have nd := r.nd
  unfold W.all at hn hk nd
  rw [List.nodup_append] at nd
  obtain ⟨nd, _, x3⟩ := nd
  rw [List.nodup_append] at nd
  obtain ⟨n1, n2, n3⟩ := nd
  have hn := hn
  have exk : a ∈ w.own ++ w.out.flatten ++ w.gl → ∀ p ∈ w.ex, H' p.1 = some p.2 ∧ F' p.1 = none := fun ha p hp => by
    obtain ⟨h1, h2⟩ := r.ex p hp
    have hm : p.1 ∈ w.ex.map (·.1) := List.mem_map_of_mem (f := (·.1)) hp
    have ne : p.1 ≠ a := fun z => x3 a ha p.1 hm z.symm
    exact ⟨hk _ (List.mem_append_right _ hm) ne h2 _ h1, hn _ (List.mem_append_right _ hm) ne h2⟩
  have hn : ∀ b ∈ w.own ++ w.out.flatten ++ w.gl, b ≠ a → w.F b = none → F' b = none := fun b hb => hn b (List.mem_append_left _ hb)
  have hk : ∀ b ∈ w.own ++ w.out.flatten ++ w.gl, b ≠ a → w.F b = none → ∀ u, H b = some u → H' b = some u := fun b hb => hk b (List.mem_append_left _ hb)
  rw [List.nodup_append] at n1
  obtain ⟨m1, m2, m3⟩ := n1
  have kg : ∀ (as : List Addr) (os : List LO), (∀ b ∈ as, b ∈ w.own ++ w.out.flatten ++ w.gl) → (∀ b ∈ as, b ≠ a) → RFr K w.F w.gl H os as → RFr K F' w.gl H' os as := fun as os h1 h2 t =>
    t.keep K s (pre.refl _) (fun c hc => hn c (h1 c hc) (h2 c hc)) fun c hc => hk c (h1 c hc) (h2 c hc)
  cases u with
  | zero =>
    have ha : w.own[i]? = some a := ha
    have am := List.mem_of_getElem? ha
    refine ⟨sH, RFr.chg K s q' r.own ha m1 (fun b hb => hn b (List.mem_append_left _ (List.mem_append_left _ hb))) (fun b hb => hk b (List.mem_append_left _ (List.mem_append_left _ hb))), ?_, kg _ _ (fun b hb => List.mem_append_right _ hb) (fun b hb z => n3 a (List.mem_append_left _ am) b hb z.symm) r.gl, exk (List.mem_append_left _ (List.mem_append_left _ am)), r.nd⟩
    exact r.out.keep K s (pre.refl _) (fun c hc => hn c (List.mem_append_left _ (List.mem_append_right _ hc)) fun z => m3 a am c hc z.symm) fun c hc => hk c (List.mem_append_left _ (List.mem_append_right _ hc)) fun z => m3 a am c hc z.symm
  | succ u =>
    have ha : (match w.out[u]? with
      | some l => l[i]?
      | none => none) = some a := ha
    cases e : w.out[u]? with
    | none => rw [e] at ha; cases ha
    | some l =>
      rw [e] at ha
      have am : a ∈ w.out.flatten := List.mem_flatten.mpr ⟨l, List.mem_of_getElem? e, List.mem_of_getElem? ha⟩
      refine ⟨sH, kg _ _ (fun b hb => List.mem_append_left _ (List.mem_append_left _ hb)) (fun b hb z => m3 b hb a am z) r.own, ?_, kg _ _ (fun b hb => List.mem_append_right _ hb) (fun b hb z => n3 a (List.mem_append_right _ am) b hb z.symm) r.gl, exk (List.mem_append_left _ (List.mem_append_right _ am)), r.nd⟩
      exact RFrs.chg K s q' r.out e ha m2 (fun b hb => hn b (List.mem_append_left _ (List.mem_append_right _ hb))) (fun b hb => hk b (List.mem_append_left _ (List.mem_append_right _ hb)))
/-- a list of ours is written -/
theorem Rel.write {w : W} {S : St} {H : Hp} {u i : Nat} {ds ds' : List D} {vs' : List V} {a : Addr} {z' : LO} (r : Rel K w S H) (h : S.get u i = some ⟨false, .lst ds⟩) (ha : w.ad u i = some a) (hd : RDs K w.F w.gl ds' vs') :
    Rel K w (S.set u i ⟨false, .lst ds'⟩) (upd H a (.lst vs')) := by
  obtain ⟨b, hb, hn, vs, hv, hr⟩ := r.get K h
  rw [ha] at hb; cases hb
  refine r.chg K (sub.refl _) (fun b u e => ?_) ha ⟨hn, vs', upd_same, hd⟩ (fun _ _ _ n => n) (fun b _ hb _ u e => by rw [upd_ne hb]; exact e)
  have hb : b ≠ a := fun z => by rw [z, hn] at e; cases e
  rw [upd_ne hb]
  exact r.sub _ _ e
/-- a list of ours is frozen -/
theorem Rel.froze2 {w : W} {S : St} {H : Hp} {u i : Nat} {z : Bool} {c : CO} (r : Rel K w S H) (h : S.get u i = some ⟨z, c⟩) : ∃ w' a, w.ad u i = some a ∧ w.le w' ∧ Rel K w' (S.set u i ⟨true, c⟩) H ∧ w'.own = w.own ∧ RD K w'.F w'.gl c.dat (.ref a) := by
  obtain ⟨a, ha, hr⟩ := r.get K h
  match z, c, h, hr with
  | true, .lst ds, h, ⟨vs, e, q⟩ =>
    exact ⟨w, a, ha, W.le.refl w, r.chg K (sub.refl _) r.sub ha ⟨vs, e, q⟩ (fun _ _ _ n => n) (fun _ _ _ _ _ e => e), rfl, a, vs, rfl, e, q⟩
  | false, .lst ds, h, ⟨n, vs, e, q⟩ =>
    have s : U.sub w.F (upd w.F a (.lst vs)) := fun b u eb => by rw [upd_ne (ne_of_none eb n)]; exact eb
    refine ⟨⟨upd w.F a (.lst vs), w.own, w.out, w.gl, w.ex⟩, a, ha, ⟨s, pre.refl _, rfl, pre.refl _, rfl⟩, ?_, rfl, a, vs, rfl, upd_same, q.mono K s (pre.refl _)⟩
    refine r.chg K s (fun b u eb => ?_) ha ⟨vs, upd_same, q.mono K s (pre.refl _)⟩ (fun b _ hb nb => by rw [upd_ne hb]; exact nb) (fun _ _ _ _ _ e => e)
    by_cases hb : b = a
    · subst hb; rw [upd_same] at eb; cases eb; exact e
    · rw [upd_ne hb] at eb; exact r.sub _ _ eb

/-! ### slots and results -/
def RSV (w : W) : SV → V → Prop
  | .d d, v => RD K w.F w.gl d v
  | .loc u i, v => ∃ a, w.ad u i = some a ∧ v = .ref a
def RRV (w : W) (H : Hp) : RV → V → Prop
  | .d d, v => RD K w.F w.gl d v
  | .loc u i, v => ∃ a, w.ad u i = some a ∧ v = .ref a
  | .new (.lst ds), v => ∃ a vs, v = .ref a ∧ H a = some (.lst vs) ∧ RDs K w.F w.gl ds vs ∧ w.F a = none ∧ a ∉ w.all
  | .new _, _ => False
theorem RSV.mono {w w' : W} (l : w.le w') : ∀ {x : SV} {v : V}, RSV K w x v → RSV K w' x v
  | .d d, v, h => RD.mono K l.F l.gl d h
  | .loc u i, v, ⟨a, h, e⟩ => ⟨a, l.ad h, e⟩
def RSl (w : W) : Env → List (Option V) → Prop
  | [], σ => σ = []
  | x :: ρ, σ => ∃ y r, σ = y :: r ∧ (∀ s, x = some s → ∃ v, y = some v ∧ RSV K w s v) ∧ RSl w ρ r
theorem RSl.mono {w w' : W} (l : w.le w') : ∀ {ρ : Env} {σ : List (Option V)}, RSl K w ρ σ → RSl K w' ρ σ
  | [], _, h => h
  | x :: ρ, _, ⟨y, r, e, h, t⟩ => ⟨y, r, e, fun s es => let ⟨v, e1, q⟩ := h s es; ⟨v, e1, q.mono K l⟩, t.mono l⟩
theorem RSl.get {w : W} : ∀ {ρ : Env} {σ : List (Option V)} {i : Nat} {s : SV}, RSl K w ρ σ → ρ[i]? = some (some s) → ∃ v, σ[i]? = some (some v) ∧ RSV K w s v
  | [], _, _, _, _, e => by simp at e
  | x :: ρ, _, 0, s, ⟨y, r, e, h, t⟩, he => by
    simp at he
    obtain ⟨v, e1, q⟩ := h s he
    subst e; subst e1
    exact ⟨v, rfl, q⟩
  | x :: ρ, _, i + 1, s, ⟨y, r, e, h, t⟩, he => by
    subst e
    obtain ⟨v, e1, q⟩ := RSl.get (i := i) t (by simpa using he)
    exact ⟨v, by simpa using e1, q⟩
theorem RSl.set {w : W} {s : SV} {v : V} (q : RSV K w s v) : ∀ {ρ : Env} {σ : List (Option V)} (i : Nat), RSl K w ρ σ → RSl K w (ρ.set i (some s)) (σ.set i (some v))
  | [], _, i, h => by rw [show _ = [] from h]; exact rfl
  | x :: ρ, _, 0, ⟨y, r, e, h, t⟩ => by subst e; exact ⟨_, _, rfl, fun s' e => by cases e; exact ⟨v, rfl, q⟩, t⟩
  | x :: ρ, _, i + 1, ⟨y, r, e, h, t⟩ => by subst e; exact ⟨_, _, rfl, h, RSl.set q i t⟩
theorem RSl.wipe1 {w : W} : ∀ {ρ : Env} {σ : List (Option V)} (i : Nat), RSl K w ρ σ → RSl K w (ρ.set i none) (σ.set i none)
  | [], _, i, h => by rw [show _ = [] from h]; exact rfl
  | x :: ρ, _, 0, ⟨y, r, e, h, t⟩ => by subst e; exact ⟨_, _, rfl, (fun s' e => nomatch e), t⟩
  | x :: ρ, _, i + 1, ⟨y, r, e, h, t⟩ => by subst e; exact ⟨_, _, rfl, h, RSl.wipe1 i t⟩
theorem RSl.wipe {w : W} {ρ : Env} {σ : List (Option V)} (h : RSl K w ρ σ) : ∀ vs : List Nat, RSl K w (wipeE ρ vs) (wipe σ vs)
  | [] => h
  | v :: vs => RSl.wipe1 K v (h.wipe vs)
theorem RSl.mask {w : W} : ∀ {ρ0 ρ : Env} {σ : List (Option V)}, RSl K w ρ σ → RSl K w (U.mask ρ0 ρ) σ
  | [], _, _, h => h
  | some _ :: _, [], _, h => h
  | none :: _, [], _, h => h
  | some _ :: a, x :: ρ, _, ⟨y, r, e1, h, t⟩ => ⟨y, r, e1, h, RSl.mask t⟩
  | none :: a, x :: ρ, _, ⟨y, r, e1, h, t⟩ => ⟨y, r, e1, (fun s es => by cases es), RSl.mask t⟩
theorem RSl.len {w : W} : ∀ {ρ : Env} {σ : List (Option V)}, RSl K w ρ σ → σ.length = ρ.length
  | [], _, h => by rw [show _ = [] from h]; rfl
  | x :: ρ, _, ⟨y, r, e, h, t⟩ => by rw [e, List.length_cons, List.length_cons, RSl.len t]
/-- a result that waits -/
theorem Rel.hold {w : W} {S : St} {H : Hp} {r : RV} {v : V} (h : Rel K w S H) (q : RRV K w H r v) : ∃ w', w.le w' ∧ Rel K w' S H ∧ w'.own = w.own ∧ RSV K w' (U.hold r) v := by
  match r, q with
  | .d d, q => exact ⟨w, .refl w, h, rfl, q⟩
  | .loc u i, q => exact ⟨w, .refl w, h, rfl, q⟩
  | .new (.lst ds), ⟨a, vs, e, hv, hd, hF, ha⟩ =>
    obtain ⟨h2, l⟩ := h.froze K hv hF ha
    exact ⟨_, l, h2, rfl, a, vs, e, upd_same, RDs.mono K l.F l.gl ds hd⟩
/-- a result kept as data -/
theorem Rel.kept {w : W} {S S' : St} {H : Hp} {r : RV} {d : D} {v : V} (h : Rel K w S H) (q : RRV K w H r v) (e : U.keep r S = .ok d S') : ∃ w', w.le w' ∧ Rel K w' S' H ∧ w'.own = w.own ∧ RD K w'.F w'.gl d v := by
  match r, q, e with
  | .d d, q, e => cases e; exact ⟨w, .refl w, h, rfl, q⟩
  | .new (.lst ds), ⟨a, vs, ev, hv, hd, hF, ha⟩, e =>
    cases e
    obtain ⟨h2, l⟩ := h.froze K hv hF ha
    exact ⟨_, l, h2, rfl, a, vs, ev, upd_same, RDs.mono K l.F l.gl ds hd⟩
  | .loc u i, ⟨a, ha, ev⟩, e =>
    dsimp only [U.keep] at e
    split at e
    · rename_i z c hg
      cases e
      obtain ⟨w', b, hb, l, h2, ho, hd⟩ := h.froze2 K hg
      rw [ha] at hb; cases hb
      exact ⟨w', l, h2, ho, ev ▸ hd⟩
    · cases e
/-- .. read now -/
def RTop (w : W) (H : Hp) : D → V → Prop
  | .lst ds, v => ∃ a vs, v = .ref a ∧ H a = some (.lst vs) ∧ RDs K w.F w.gl ds vs
  | d, v => RD K w.F w.gl d v
theorem RTop.rd {w : W} {H : Hp} (sb : U.sub w.F H) : ∀ {d : D} {v : V}, RTop K w H d v → RD K H w.gl d v
  | .lst ds, v, ⟨a, vs, e, h, q⟩ => ⟨a, vs, e, h, RDs.mono K sb (pre.refl _) ds q⟩
  | .non, _, h => h
  | .bl _, _, h => h
  | .int _, _, h => h
  | .str _, _, h => h
  | .tup ds, _, h => RD.mono K sb (pre.refl _) (.tup ds) h
  | .dic kvs, _, h => RD.mono K sb (pre.refl _) (.dic kvs) h
  | .ref _, _, h => h
  | .rol ds, _, h => RD.mono K sb (pre.refl _) (.rol ds) h
theorem RTop.of {w : W} {H : Hp} (sb : U.sub w.F H) : ∀ {d : D} {v : V}, RD K w.F w.gl d v → RTop K w H d v
  | .lst ds, v, ⟨a, vs, e, h, q⟩ => ⟨a, vs, e, sb _ _ h, q⟩
  | .non, _, h => h
  | .bl _, _, h => h
  | .int _, _, h => h
  | .str _, _, h => h
  | .tup ds, _, h => h
  | .dic _, _, h => h
  | .ref _, _, h => h
  | .rol ds, _, h => h
theorem Rel.view {w : W} {S : St} {H : Hp} {r : RV} {d : D} {v : V} (h : Rel K w S H) (q : RRV K w H r v) (e : view S r = some d) : RTop K w H d v := by
  have sb := h.sub
  match r, q, e with
  | .d (.ref i), ⟨a, ha, ev⟩, e =>
    dsimp only [U.view] at e
    split at e
    · rename_i z ds hg
      cases e
      obtain ⟨b, hb, ro⟩ := h.gl.get K hg
      rw [ha] at hb; cases hb
      cases z with
      | false => obtain ⟨n, vs, hv, hd⟩ := ro; exact ⟨a, vs, ev, hv, hd⟩
      | true => obtain ⟨vs, hv, hd⟩ := ro; exact ⟨a, vs, ev, sb _ _ hv, hd⟩
    · rename_i z kvs hg
      obtain ⟨b, hb, ro⟩ := h.gl.get K hg
      cases z <;> exact ro.elim
    · cases e; exact ⟨a, ha, ev⟩
  | .d .non, q, e => cases e; exact q
  | .d (.bl _), q, e => cases e; exact q
  | .d (.int _), q, e => cases e; exact q
  | .d (.str _), q, e => cases e; exact q
  | .d (.dic _), q, e => cases e; exact q
  | .d (.tup ds), q, e => cases e; exact q
  | .d (.lst ds), q, e => cases e; exact RTop.of K sb q
  | .d (.rol ds), q, e => cases e; exact q
  | .new (.lst ds), ⟨a, vs, ev, hv, hd, hF, ha⟩, e => cases e; exact ⟨a, vs, ev, hv, hd⟩
  | .loc u i, ⟨a, ha, ev⟩, e =>
    dsimp only [U.view, coAt] at e
    cases hg : S.get u i with
    | none => rw [hg] at e; cases e
    | some o =>
      rw [hg] at e
      cases e
      obtain ⟨b, hb, ro⟩ := h.get K hg
      rw [ha] at hb; cases hb
      match o, ro with
      | ⟨false, .lst ds⟩, ⟨n, vs, hv, hd⟩ => exact ⟨a, vs, ev, hv, hd⟩
      | ⟨true, .lst ds⟩, ⟨vs, hv, hd⟩ => exact ⟨a, vs, ev, sb _ _ hv, hd⟩
theorem RRV.of {w : W} {H : Hp} : ∀ {x : SV} {v : V}, RSV K w x v → RRV K w H x.rv v
  | .d _, _, h => h
  | .loc _ _, _, h => h
end
end U

set_option maxHeartbeats 4000000
namespace U
open PySem PySem.Spec PyProof.Rows L2
/-- t * 1, () * n: t itself -/
theorem tuple_mul_same (l : Addr) (items : Array Value) (n : Nat) (dd : Option Addr) (sl : Array (Option Value)) (x : Int) (u : Tok) (c0 : (decide (x < -(2 ^ 63)) || decide (x ≥ 2 ^ 63)) = false) (c1 : (items.isEmpty || x == 1) = true) :
    Meets (Builtin.«tuple.__mul__» ⟨[.ref l, .int x u], []⟩) (fun _ R s => s.heap.get? l = some { cls := .type "tuple", dict := dd, data := .seq items n, slots := sl } ∧ R (.ok (.ret (Value.ref l))) s) :=
  .of_wp fun prog w A R s h => by
    obtain ⟨hp, g, d, tk, os⟩ := s
    obtain ⟨hl, h⟩ := h
    have f1 := AutoSeq1.idx_int
    wp_walk using wpAny_loadPart' hl
    refine wpAny_ite_false (decide_eq_false (by rw [c0]; exact Bool.false_ne_true)) ?_
    wp_walk using wpAny_loadPart' hl
    exact ⟨_, rfl, h⟩
theorem tuple_mul_none (l : Addr) (items : Array Value) (n : Nat) (dd : Option Addr) (sl : Array (Option Value)) (x : Int) (u : Tok) (c0 : (decide (x < -(2 ^ 63)) || decide (x ≥ 2 ^ 63)) = false) (c1 : (items.isEmpty || x == 1) = false) (c2 : (decide (x ≤ 0) || items.isEmpty) = true) :
    Meets (Builtin.«tuple.__mul__» ⟨[.ref l, .int x u], []⟩) (fun _ R s => s.heap.get? l = some { cls := .type "tuple", dict := dd, data := .seq items n, slots := sl } ∧
      R (.ok (.ret (Value.ref s.heap.objs.size))) { s with heap := s.heap.push { cls := Value.type "tuple", data := Data.seq #[] }, toks := s.toks }) :=
  .of_wp fun prog w A R s h => by
    obtain ⟨hp, g, d, tk, os⟩ := s
    obtain ⟨hl, h⟩ := h
    have f1 := AutoSeq1.idx_int
    wp_walk using wpAny_loadPart' hl
    refine wpAny_ite_false (decide_eq_false (by rw [c0]; exact Bool.false_ne_true)) ?_
    wp_walk using wpAny_loadPart' hl
    exact ⟨_, rfl, h⟩
section
variable {X : Cx}
def rRepA (K : PySem.W.Frag) : R2 := fun x y H Q => ∃ l k xs, x = .ref l ∧ y = .int k ∧ SqT K H l xs ∧ -1000 ≤ k ∧ k ≤ 1000 ∧ xs.length ≤ 1000 ∧ ((xs = [] ∨ k = 1) → Q (.ref l) H) ∧ (¬ (xs = [] ∨ k = 1) → ∀ p, H p = none → Q (.ref p) (upd H p (.tup (List.replicate k.toNat xs).flatten)))
theorem op_repA : OpR X (binaryOp .Mult) (rRepA X.K) := by
  intro pins s σ H x y v u Q I rx ry h
  obtain ⟨l, k, xs, rfl, rfl, hT, h1, h2, hz, q1, q2⟩ := h
  by_cases hc : xs = [] ∨ k = 1
  · cases rx
    obtain ⟨t, rfl⟩ := ry
    obtain ⟨its, r, ⟨⟨cls, dd, data, sl⟩, ho, hc', n, hd⟩, hs⟩ := I.tuple hT
    simp only at hc' hd
    subst hc' hd
    have c0 : (decide (k < -(2 ^ 63)) || decide (k ≥ 2 ^ 63)) = false := by
      rw [decide_eq_false (by omega), decide_eq_false (by omega)] <;> rfl
    have c1 : (its.toArray.isEmpty || k == 1) = true := by
      rcases hc with z | z
      · have : its = [] := (r.nil_iff).mpr z
        rw [this]; rfl
      · rw [z]; simp
    exact wpAny_binaryOp_repeat_ref (T := "tuple") (U := "int") (by decide) ⟨_, ho, rfl⟩ (fun s' => typeIs_int s' k t) noFill_tuple_mul F.fills_int_mul F.slot_int_rmul repeat_tuple F.slot_int_index.lookup
      (call_meets F.slot_int_rmul (typeIs_int s k t) F.entry_int_rmul (F.args_int_rmul_2 _ _) (int_rmul_tuple k t l its.toArray n dd sl)
        ⟨ho, rfl, ⟨_, ho, rfl⟩, call_meets F.slot_tuple_mul ⟨_, ho, rfl⟩ F.entry_tuple_mul (F.args_tuple_mul_2 _ _) (tuple_mul_same l its.toArray n dd sl k t c0 c1) ⟨ho, .ref l, H, I, rfl, q1 hc⟩⟩)
  · by_cases hk : 2 ≤ k
    · exact op_repT pins s σ H _ _ v u Q I rx ry ⟨l, k, xs, rfl, rfl, hT, fun z => hc (.inl z), hk, h2, hz, q2 hc⟩
    · have hk0 : k ≤ 0 := by
        have : ¬ k = 1 := fun z => hc (.inr z)
        omega
      cases rx
      obtain ⟨t, rfl⟩ := ry
      obtain ⟨its, r, ⟨⟨cls, dd, data, sl⟩, ho, hc', n, hd⟩, hs⟩ := I.tuple hT
      simp only at hc' hd
      subst hc' hd
      have c0 : (decide (k < -(2 ^ 63)) || decide (k ≥ 2 ^ 63)) = false := by
        rw [decide_eq_false (by omega), decide_eq_false (by omega)] <;> rfl
      have c1 : (its.toArray.isEmpty || k == 1) = false := by
        have h1 : its ≠ [] := fun z => hc (.inl ((r.nil_iff).mp z))
        have h2 : (k == 1) = false := beq_eq_false_iff_ne.mpr fun z => hc (.inr z)
        rw [h2]
        cases its with
        | nil => exact absurd rfl h1
        | cons a b => rfl
      have c2 : (decide (k ≤ 0) || its.toArray.isEmpty) = true := by rw [decide_eq_true hk0]; rfl
      refine wpAny_binaryOp_repeat_ref (T := "tuple") (U := "int") (by decide) ⟨_, ho, rfl⟩ (fun s' => typeIs_int s' k t) noFill_tuple_mul F.fills_int_mul F.slot_int_rmul repeat_tuple F.slot_int_index.lookup
        (call_meets F.slot_int_rmul (typeIs_int s k t) F.entry_int_rmul (F.args_int_rmul_2 _ _) (int_rmul_tuple k t l its.toArray n dd sl)
          ⟨ho, rfl, ⟨_, ho, rfl⟩, call_meets F.slot_tuple_mul ⟨_, ho, rfl⟩ F.entry_tuple_mul (F.args_tuple_mul_2 _ _) (tuple_mul_none l its.toArray n dd sl k t c0 c1 c2) ⟨ho, ?_⟩⟩)
      have q := q2 hc _ (I.hok.fresh (Nat.le_refl _))
      have e0 : k.toNat = 0 := by omega
      rw [e0] at q
      refine ⟨.ref s.heap.objs.size, _, I.laid (t' := s.toks) (o := .tup []) (fun b ob q => Heap.get?_push_of_some _ q) (Nat.le_refl _) ?_, rfl, q⟩
      exact ⟨Nat.zero_le _, [], .nil, IsTup.new _ _⟩
end
end U

namespace U
open PySem PySem.Spec PyProof.Rows L2

/-- what is wanted of an end of the evaluator -/
def Post (K : PySem.W.Frag) (w : W) (Q : VK) : Res RV → Prop
  | .ok r S => ∀ w' H' v, w.le w' → Rel K w' S H' → RRV K w' H' r v → Q v H'
  | _ => False
def PostT (K : PySem.W.Frag) (w : W) (Q : Bool → Hp → Prop) : Res RV → Prop
  | .ok r S => ∃ b, truth r = some b ∧ ∀ w' H', w.le w' → Rel K w' S H' → Q b H'
  | _ => False
def RSVs (K : PySem.W.Frag) (w : W) : List SV → List V → Prop
  | [], vs => vs = []
  | x :: xs, vs => ∃ v r, vs = v :: r ∧ RSV K w x v ∧ RSVs K w xs r
theorem RSVs.mono {K : PySem.W.Frag} {w w' : W} (l : w.le w') : ∀ {xs : List SV} {vs : List V}, RSVs K w xs vs → RSVs K w' xs vs
  | [], _, h => h
  | x :: xs, _, ⟨v, r, e, q, t⟩ => ⟨v, r, e, q.mono K l, t.mono l⟩
def PostA (K : PySem.W.Frag) (w : W) (Q : List V → Hp → Prop) : Res (List SV) → Prop
  | .ok r S => ∀ w' H' vs, w.le w' → Rel K w' S H' → RSVs K w' r vs → Q vs H'
  | _ => False
def PostK (K : PySem.W.Frag) (w : W) (Q : List V → Hp → Prop) : Res (List D) → Prop
  | .ok r S => ∀ w' H' vs, w.le w' → Rel K w' S H' → RDs K w'.F w'.gl r vs → Q vs H'
  | _ => False
def PostP (K : PySem.W.Frag) (w : W) (Q : Option Int → Hp → Prop) : Res (Option Int) → Prop
  | .ok r S => ∀ w' H', w.le w' → Rel K w' S H' → Q r H'
  | _ => False
def tE (K : PySem.W.Frag) (f : Env → M RV) : TE := fun σ H Q => ∃ w ρ S, Rel K w S H ∧ RSl K w ρ σ ∧ Post K w Q (f ρ S)
def tT (K : PySem.W.Frag) (f : Env → M RV) : TT := fun σ H Q => ∃ w ρ S, Rel K w S H ∧ RSl K w ρ σ ∧ PostT K w Q (f ρ S)
def tA (K : PySem.W.Frag) (f : Env → M (List SV)) : TA := fun σ H Q => ∃ w ρ S, Rel K w S H ∧ RSl K w ρ σ ∧ PostA K w Q (f ρ S)
def tK (K : PySem.W.Frag) (f : Env → M (List D)) : TA := fun σ H Q => ∃ w ρ S, Rel K w S H ∧ RSl K w ρ σ ∧ PostK K w Q (f ρ S)
def tP (K : PySem.W.Frag) (f : Env → M (Option Int)) : TO := fun σ H Q => ∃ w ρ S, Rel K w S H ∧ RSl K w ρ σ ∧ PostP K w Q (f ρ S)
theorem PE.weak {X : Cx} {e : Expr} {t t' : TE} (h : PE X e t) (i : ∀ σ H Q, t' σ H Q → t σ H Q) : PE X e t' := ⟨fun pins s σ H Q I q => h.run pins s σ H Q I (i σ H Q q)⟩
theorem PT.weak {X : Cx} {e : Expr} {t t' : TT} (h : PT X e t) (i : ∀ σ H Q, t' σ H Q → t σ H Q) : PT X e t' := ⟨fun pins s σ H Q I q => h.run pins s σ H Q I (i σ H Q q)⟩
theorem PA.weak {X : Cx} {e : List Expr} {t t' : TA} (h : PA X e t) (i : ∀ σ H Q, t' σ H Q → t σ H Q) : PA X e t' := ⟨fun pos pins s σ H Q I q => h.run pos pins s σ H Q I (i σ H Q q)⟩
theorem PO.weak {X : Cx} {e : Option Expr} {t t' : TO} (h : PO X e t) (i : ∀ σ H Q, t' σ H Q → t σ H Q) : PO X e t' := by
  refine ⟨fun pins s σ H Q I q => ?_⟩
  exact h.run pins s σ H Q I (i σ H Q q)

section
variable {K : PySem.W.Frag}
theorem bind_ok {α β : Type} {m : M α} {f : α → M β} {S S2 : St} {b : β} (h : M.bind m f S = .ok b S2) : ∃ a S1, m S = .ok a S1 ∧ f a S1 = .ok b S2 := by
  unfold M.bind at h
  split at h
  · exact ⟨_, _, by assumption, h⟩
  · cases h
  · cases h
theorem Post.ok {w : W} {Q : VK} {r : Res RV} (h : Post K w Q r) : ∃ v S, r = .ok v S := by
  cases r with
  | ok v S => exact ⟨v, S, rfl⟩
  | exc _ _ => exact h.elim
  | bad => exact h.elim
/-- an operand, then the rest -/
theorem one {fa : Env → M RV} {w : W} {ρ : Env} {S S1 : St} {x : RV} {σ : L2.St} {H : Hp} {R : VK} (r : Rel K w S H) (sl : RSl K w ρ σ) (ex : fa ρ S = .ok x S1)
    (h : ∀ w1 H1 vx, w.le w1 → Rel K w1 S1 H1 → RRV K w1 H1 x vx → R vx H1) : tE K fa σ H R := ⟨w, ρ, S, r, sl, by rw [ex]; exact h⟩
/-- two operands, then the operator -/
theorem two {fa fb : Env → M RV} {w : W} {ρ : Env} {S S1 S2 : St} {x y : RV} {σ : L2.St} {H : Hp} {Q : VK} {r : R2} (hr : Rel K w S H) (sl : RSl K w ρ σ) (ex : fa ρ S = .ok x S1) (ey : fb ρ S1 = .ok y S2)
    (h : ∀ w2 H2 vx vy, w.le w2 → Rel K w2 S2 H2 → RSV K w2 (hold x) vx → RRV K w2 H2 y vy → r vx vy H2 Q) : tOp r (tE K fa) (tE K fb) σ H Q := by
  refine one hr sl ex fun w1 H1 vx l1 r1 q1 => ?_
  obtain ⟨w1', l1', r1', _, q1'⟩ := r1.hold K q1
  refine one r1' (sl.mono K (l1.trans l1')) ey fun w2 H2 vy l2 r2 q2 => ?_
  exact h w2 H2 vx vy ((l1.trans l1').trans l2) r2 (q1'.mono K l2) q2

/-! ### names and constants -/
variable {X : Cx}
theorem se_var {i : Nat} {x : Str} {pos : Pos} (hN : X.N[i]? = some x) (hv : Vis X.env.scope x) (hd : (x == ("__debug__" : Str)) = false) (hcd : (x == ("__classdict__" : Str)) = false) :
    PE X (.Name x pos) (tE K fun ρ S => match ρ[i]? with
      | some (some v) => .ok v.rv S
      | _ => .bad) := by
  refine PE.weak (pe_var hN hv hd hcd) fun σ H Q h => ?_
  obtain ⟨w, ρ, S, r, sl, p⟩ := h
  dsimp only at p
  split at p
  · rename_i v e
    obtain ⟨u, e1, q⟩ := sl.get K e
    exact ⟨u, e1, p w H u (.refl w) r (RRV.of K q)⟩
  · exact p.elim
theorem se_con {e : Expr} {d : D} {v : V} (h : PE X e (tC v)) (hd : ∀ F g, RD K F g d v) : PE X e (tE K fun _ => M.ret (.d d)) := by
  refine PE.weak h fun σ H Q h => ?_
  obtain ⟨w, ρ, S, r, sl, p⟩ := h
  exact p w H v (.refl w) r (hd _ _)

/-! ### operators -/
variable {a b : Expr} {pos : Pos}
def binF (op : BOp) (fa fb : Env → M RV) : Env → M RV := fun ρ => M.bind (fa ρ) fun x => M.bind (fb ρ) fun y => fun S => match view S (hold x).rv, view S y with
  | some d, some e => M.opt (bop op d e) S
  | _, _ => .bad
def oper : BOp → Operator
  | .add => .Add | .sub => .Sub | .mul => .Mult | .mod => .Mod | .fdiv => .FloorDiv | .pow => .Pow
theorem sz_le {n : Nat} (h : sz n = true) : n ≤ sizeLine := by rw [sizeLine_eq]; exact of_decide_eq_true h
theorem Rel.newT {w : W} {S : St} {H : Hp} {Q : VK} {ds : List D} {vs : List V} (r : Rel K w S H) (hF : RDs K w.F w.gl ds vs) (p : ∀ w' H' v, w.le w' → Rel K w' S H' → RRV K w' H' (.d (.tup ds)) v → Q v H') : ∀ a, H a = none → Q (.ref a) (upd H a (.tup vs)) := fun a ha => by
  obtain ⟨r2, l⟩ := r.newF K (o := .tup vs) ha
  exact p _ _ _ l r2 ⟨a, vs, rfl, .inl (.inl upd_same), RDs.mono K l.F l.gl ds hF⟩
theorem Rel.newL {w : W} {S : St} {H : Hp} {Q : VK} {ds : List D} {vs : List V} (r : Rel K w S H) (hF : RDs K w.F w.gl ds vs) (p : ∀ w' H' v, w.le w' → Rel K w' S H' → RRV K w' H' (.new (.lst ds)) v → Q v H') : ∀ a, H a = none → Q (.ref a) (upd H a (.lst vs)) := fun a ha => by
  obtain ⟨hf, hn⟩ := r.notF K ha
  exact p w _ _ (.refl w) (r.new K ha) ⟨a, vs, rfl, upd_same, hF, hf, hn⟩
/-- both operands, read -/
theorem two' {fa fb : Env → M RV} {w : W} {ρ : Env} {S S1 S2 : St} {x y : RV} {d e : D} {σ : L2.St} {H : Hp} {Q : VK} {r : R2} (hr : Rel K w S H) (sl : RSl K w ρ σ) (ex : fa ρ S = .ok x S1) (ey : fb ρ S1 = .ok y S2)
    (vx : U.view S2 (hold x).rv = some d) (vy : U.view S2 y = some e)
    (h : ∀ w2 H2 vx vy, w.le w2 → Rel K w2 S2 H2 → RTop K w2 H2 d vx → RTop K w2 H2 e vy → r vx vy H2 Q) : tOp r (tE K fa) (tE K fb) σ H Q :=
  two hr sl ex ey fun w2 H2 x1 y1 l r2 qx qy => h w2 H2 x1 y1 l r2 (r2.view K (RRV.of K qx) vx) (r2.view K qy vy)
theorem Post.bind {α : Type} {w : W} {Q : VK} {m : M α} {f : α → M RV} {S : St} (h : Post K w Q (M.bind m f S)) : ∃ a S1, m S = .ok a S1 ∧ Post K w Q (f a S1) := by
  unfold M.bind at h
  split at h
  · exact ⟨_, _, by assumption, h⟩
  · exact h.elim
  · exact h.elim
theorem Post.bindT {α : Type} {b : Bool} {w : W} {Q : VK} {m : M α} {f : α → M RV} {S : St} (h : Post K w Q (M.bindT b m f S)) : ∃ a S1, m S = .ok a S1 ∧ Post K w Q (f a S1) := by
  unfold M.bindT at h
  split at h
  · exact ⟨_, _, by assumption, h⟩
  · cases b <;> exact h.elim
  · exact h.elim
theorem small64_ok {i : Int} (h : small64 i = true) : -(2 ^ 64) < i ∧ i < 2 ^ 64 := by
  unfold small64 at h
  rw [Bool.and_eq_true] at h
  exact ⟨of_decide_eq_true h.1, of_decide_eq_true h.2⟩
inductive BopC : BOp → D → D → RV → Prop
  | addI (i j : Int) : BopC .add (.int i) (.int j) (.d (.int (i + j)))
  | addS (i j : Str) (h : sz (i.length + j.length) = true) : BopC .add (.str i) (.str j) (.d (.str (i ++ j)))
  | addT (s t : List D) (h : sz (s.length + t.length) = true) : BopC .add (.tup s) (.tup t) (.d (.tup (s ++ t)))
  | addL (s t : List D) (h : sz (s.length + t.length) = true) : BopC .add (.lst s) (.lst t) (.new (.lst (s ++ t)))
  | subI (i j : Int) : BopC .sub (.int i) (.int j) (.d (.int (i - j)))
  | mulI (i j : Int) (h : (small64 i || small64 j) = true) : BopC .mul (.int i) (.int j) (.d (.int (i * j)))
  | mulT (s : List D) (j : Int) (h : (decide (-1000 ≤ j) && decide (j ≤ 1000) && decide (s.length ≤ 1000)) = true) : BopC .mul (.tup s) (.int j) (.d (.tup (rep j.toNat s)))
  | mulL (s : List D) (j : Int) (h : (decide (-1000000 ≤ j) && decide (j ≤ 1000000) && sz (s.length * j.toNat)) = true) : BopC .mul (.lst s) (.int j) (.new (.lst (rep j.toNat s)))
  | mod (i j : Int) (h : 0 < j) : BopC .mod (.int i) (.int j) (.d (.int (i % j)))
  | fdiv (i j : Int) (h : 0 < j ∧ j < 1073741824) : BopC .fdiv (.int i) (.int j) (.d (.int (i / j)))
  | pow (i j : Int) (h : 0 ≤ j ∧ j ≤ 1000 ∧ -1000000 ≤ i ∧ i ≤ 1000000) : BopC .pow (.int i) (.int j) (.d (.int (i ^ j.toNat)))
theorem bop_c {op : BOp} {d e : D} {r : RV} (h : bop op d e = some r) : BopC op d e r := by
  unfold bop at h
  split at h
  all_goals first
    | (cases h; constructor)
    | (split at h
       · cases h; constructor; assumption
       · cases h)
    | cases h
theorem se_bin {op : BOp} {fa fb : Env → M RV} (hK : X.K = K) (ha : PE X a (tE K fa)) (hb : PE X b (tE K fb)) : PE X (.BinOp a (oper op) b pos) (tE K (binF op fa fb)) := by
  subst hK
  refine ⟨fun pins s σ H Q I h => ?_⟩
  obtain ⟨w, ρ, S, hr, sl, p⟩ := h
  unfold binF at p
  obtain ⟨x, S1, ex, p⟩ := p.bind
  obtain ⟨y, S2, ey, p⟩ := p.bind
  split at p
  · rename_i d e vx vy
    have key : ∀ (r : R2) (_ : OpR X (binaryOp (oper op)) r)
        (_ : ∀ w2 H2 vx vy, w.le w2 → Rel X.K w2 S2 H2 → RTop X.K w2 H2 d vx → RTop X.K w2 H2 e vy → r vx vy H2 Q), wpAny (model X.prog X.w) X.A (eval (.BinOp a (oper op) b pos) X.env) (EP X pins σ Q) X.xe s :=
      fun r hr' h => (pe_op hr' ha hb).run pins s σ H Q I (two' hr sl ex ey vx vy h)
    unfold M.opt at p
    split at p
    · rename_i r hbop
      cases bop_c hbop with
      | addI i j => exact key _ op_add fun w2 H2 x1 y1 l r2 q1 q2 => ⟨i, j, q1, q2, p w2 H2 _ l r2 rfl⟩
      | subI i j => exact key _ op_sub fun w2 H2 x1 y1 l r2 q1 q2 => ⟨i, j, q1, q2, p w2 H2 _ l r2 rfl⟩
      | mulI i j h64 =>
        refine key _ op_mul fun w2 H2 x1 y1 l r2 q1 q2 => ⟨i, j, q1, q2, ?_, p w2 H2 _ l r2 rfl⟩
        rcases Bool.or_eq_true _ _ |>.mp h64 with z | z
        · exact .inl (small64_ok z)
        · exact .inr (small64_ok z)
      | mod i j h0 => exact key _ op_mod fun w2 H2 x1 y1 l r2 q1 q2 => ⟨i, j, q1, q2, h0, p w2 H2 _ l r2 rfl⟩
      | fdiv i j h0 => exact key _ op_fdiv fun w2 H2 x1 y1 l r2 q1 q2 => ⟨i, j, q1, q2, h0, p w2 H2 _ l r2 rfl⟩
      | pow i j h0 => exact key _ op_pow fun w2 H2 x1 y1 l r2 q1 q2 => ⟨i, j, q1, q2, ⟨h0.1, by omega, by omega⟩, p w2 H2 _ l r2 rfl⟩
      | addS i j h0 => exact key _ op_add_str fun w2 H2 x1 y1 l r2 q1 q2 => ⟨i, j, q1, q2, sz_le h0, p w2 H2 _ l r2 rfl⟩
      | addT s t h0 =>
        refine key _ op_catA fun w2 H2 x1 y1 l r2 ⟨a1, v1, e1, t1, d1⟩ ⟨a2, v2, e2, t2, d2⟩ => ?_
        refine ⟨a1, a2, v1, v2, e1, e2, r2.sub.sqT X.K t1, r2.sub.sqT X.K t2, by rw [RDs.len X.K d1, RDs.len X.K d2]; exact sz_le h0, fun z => ?_, fun _ z => ?_, fun _ _ => ?_⟩
        · subst z
          have d0 : s = [] := List.eq_nil_of_length_eq_zero (by rw [← RDs.len X.K d1]; rfl)
          exact p w2 H2 _ l r2 ⟨a2, v2, rfl, t2, by rw [d0, List.nil_append]; exact d2⟩
        · subst z
          have d0 : t = [] := List.eq_nil_of_length_eq_zero (by rw [← RDs.len X.K d2]; rfl)
          exact p w2 H2 _ l r2 ⟨a1, v1, rfl, t1, by rw [d0, List.append_nil]; exact d1⟩
        · exact r2.newT (RDs.app X.K d1 d2) fun w' H' v l' => p w' H' v (l.trans l')
      | addL s t h0 =>
        refine key _ op_cat fun w2 H2 x1 y1 l r2 ⟨a1, v1, e1, t1, d1⟩ ⟨a2, v2, e2, t2, d2⟩ => ⟨a1, a2, v1, v2, e1, e2, t1, t2, ?_, ?_⟩
        · rw [RDs.len X.K d1, RDs.len X.K d2]; exact sz_le h0
        · exact r2.newL (RDs.app X.K d1 d2) fun w' H' v l' => p w' H' v (l.trans l')
      | mulL s j h0 =>
        rw [Bool.and_eq_true, Bool.and_eq_true, decide_eq_true_eq, decide_eq_true_eq] at h0
        refine key _ op_rep fun w2 H2 x1 y1 l r2 ⟨a1, v1, e1, t1, d1⟩ q2 => ⟨a1, j, v1, e1, q2, t1, by omega, by omega, ?_, ?_⟩
        · rw [RDs.len X.K d1]; exact sz_le h0.2
        · exact r2.newL (RDs.rep X.K d1 j.toNat) fun w' H' v l' => p w' H' v (l.trans l')
      | mulT s j h0 =>
        rw [Bool.and_eq_true, Bool.and_eq_true, decide_eq_true_eq, decide_eq_true_eq, decide_eq_true_eq] at h0
        refine key _ op_repA fun w2 H2 x1 y1 l r2 ⟨a1, v1, e1, t1, d1⟩ q2 => ⟨a1, j, v1, e1, q2, r2.sub.sqT X.K t1, h0.1.1, h0.1.2, by rw [RDs.len X.K d1]; exact h0.2, fun z => ?_, fun _ => ?_⟩
        · refine p w2 H2 _ l r2 ⟨a1, v1, rfl, t1, ?_⟩
          rcases z with z | z
          · subst z
            have d0 : s = [] := List.eq_nil_of_length_eq_zero (by rw [← RDs.len X.K d1]; rfl)
            rw [d0, show rep j.toNat ([] : List D) = [] by unfold rep; simp]
            exact rfl
          · subst z
            rw [show rep (1 : Int).toNat s = s by show (List.replicate 1 s).flatten = s; simp]
            exact d1
        · exact r2.newT (RDs.rep X.K d1 j.toNat) fun w' H' v l' => p w' H' v (l.trans l')
    · exact p.elim
  · exact p.elim
end
end U

namespace U
open PySem PySem.Spec PyProof.Rows L2
section
variable {K : PySem.W.Frag} {H : Hp} {g : List Addr}
mutual
theorem rd_dp : ∀ (n : Nat) (d : D) {v : V}, plainB n d = true → RD K H g d v → Dp K H v (D.py d)
  | _, .non, v, _, q => by rw [show v = .non from q]; exact .non
  | _, .int i, v, _, q => by rw [show v = .int i from q]; exact .int i
  | _, .str s, v, _, q => by rw [show v = .str s from q]; exact .str s
  | n + 1, .tup ds, v, h, ⟨a, vs, e, t, r⟩ => by subst e; exact .tup t (rds_dp n ds h r)
  | n + 1, .lst ds, v, h, ⟨a, vs, e, t, r⟩ => by subst e; exact .lst (SqL.of t) (rds_dp n ds h r)
  | 0, .tup _, _, h, _ => by simp [plainB] at h
  | 0, .lst _, _, h, _ => by simp [plainB] at h
  | _, .bl _, _, h, _ => by simp [plainB] at h
  | _, .dic _, _, h, _ => by simp [plainB] at h
  | _, .ref _, _, h, _ => by simp [plainB] at h
  | _, .rol _, _, h, _ => by simp [plainB] at h
theorem rds_dp : ∀ (n : Nat) (ds : List D) {vs : List V}, plainBs n ds = true → RDs K H g ds vs → DpAll K H vs (D.pys ds)
  | n, [], vs, _, q => by rw [show vs = [] from q]; exact .nil
  | n, d :: ds, vs, h, ⟨v, r, e, q, t⟩ => by
    subst e
    rw [plainBs, Bool.and_eq_true] at h
    exact .cons (rd_dp n d h.1 q) (rds_dp n ds h.2 t)
end
mutual
theorem py_lay : ∀ (n : Nat) (d : D), plainB n d = true → (D.py d).canLay0 = true ∧ (D.py d).depth ≤ n
  | n, .non, _ => ⟨rfl, Nat.zero_le _⟩
  | n, .int i, _ => ⟨rfl, Nat.zero_le _⟩
  | n, .str s, h => ⟨by simpa [plainB, D.py, PyData.canLay0] using h, Nat.zero_le _⟩
  | n + 1, .tup ds, h => by
    obtain ⟨h1, h2⟩ := pys_lay n ds h
    exact ⟨h1, Nat.succ_le_succ h2⟩
  | n + 1, .lst ds, h => by
    obtain ⟨h1, h2⟩ := pys_lay n ds h
    exact ⟨h1, Nat.succ_le_succ h2⟩
  | 0, .tup _, h => by simp [plainB] at h
  | 0, .lst _, h => by simp [plainB] at h
  | _, .bl _, h => by simp [plainB] at h
  | _, .dic _, h => by simp [plainB] at h
  | _, .ref _, h => by simp [plainB] at h
  | _, .rol _, h => by simp [plainB] at h
theorem pys_lay : ∀ (n : Nat) (ds : List D), plainBs n ds = true → PyData.canLayAll0 (D.pys ds) = true ∧ PyData.depthAll (D.pys ds) ≤ n
  | n, [], _ => ⟨rfl, Nat.zero_le _⟩
  | n, d :: ds, h => by
    rw [plainBs, Bool.and_eq_true] at h
    obtain ⟨a1, a2⟩ := py_lay n d h.1
    obtain ⟨b1, b2⟩ := pys_lay n ds h.2
    refine ⟨?_, ?_⟩
    · show (PyData.canLay0 (D.py d) && PyData.canLayAll0 (D.pys ds)) = true
      rw [a1, b1]; rfl
    · show max (PyData.depth (D.py d)) (PyData.depthAll (D.pys ds)) ≤ n
      omega
end
theorem py_shaped {d : D} (h : plainB 20 d = true) : SeqAt.shaped (D.py d) = true := by
  obtain ⟨h1, h2⟩ := py_lay 20 d h
  unfold SeqAt.shaped
  rw [h1, decide_eq_true (by omega)]; rfl
theorem pys_shaped {ds : List D} (h : plainBs 20 ds = true) : SeqAt.shaped (.list (D.pys ds)) = true := by
  obtain ⟨h1, h2⟩ := pys_lay 20 ds h
  unfold SeqAt.shaped
  show (PyData.canLayAll0 (D.pys ds) && decide (PyData.depthAll (D.pys ds) + 1 ≤ 64)) = true
  rw [h1, decide_eq_true (by omega)]; rfl
mutual
theorem py_eqv : ∀ (n m : Nat) (a b : D), plainB n a = true → plainB m b = true → PyData.eqv (D.py a) (D.py b) = D.beq a b
  | n, m, .non, b, ha, hb => by cases b <;> first | rfl | (cases m <;> simp [plainB] at hb)
  | n, m, .int i, b, ha, hb => by cases b <;> first | rfl | (cases m <;> simp [plainB] at hb)
  | n, m, .str s, b, ha, hb => by cases b <;> first | rfl | (cases m <;> simp [plainB] at hb)
  | n + 1, m, .tup ds, b, ha, hb => by
    cases b with
    | tup es =>
      cases m with
      | zero => simp [plainB] at hb
      | succ m => exact pys_eqv n m ds es ha hb
    | non => rfl
    | int _ => rfl
    | str _ => rfl
    | lst _ => rfl
    | bl _ => simp [plainB] at hb
    | dic _ => simp [plainB] at hb
    | ref _ => simp [plainB] at hb
    | rol _ => simp [plainB] at hb
  | n + 1, m, .lst ds, b, ha, hb => by
    cases b with
    | lst es =>
      cases m with
      | zero => simp [plainB] at hb
      | succ m => exact pys_eqv n m ds es ha hb
    | non => rfl
    | int _ => rfl
    | str _ => rfl
    | tup _ => rfl
    | bl _ => simp [plainB] at hb
    | dic _ => simp [plainB] at hb
    | ref _ => simp [plainB] at hb
    | rol _ => simp [plainB] at hb
  | 0, _, .tup _, _, h, _ => by simp [plainB] at h
  | 0, _, .lst _, _, h, _ => by simp [plainB] at h
  | _, _, .bl _, _, h, _ => by simp [plainB] at h
  | _, _, .dic _, _, h, _ => by simp [plainB] at h
  | _, _, .ref _, _, h, _ => by simp [plainB] at h
  | _, _, .rol _, _, h, _ => by simp [plainB] at h
theorem pys_eqv : ∀ (n m : Nat) (a b : List D), plainBs n a = true → plainBs m b = true → PyData.eqvAll (D.pys a) (D.pys b) = D.beqs a b
  | n, m, [], b, ha, hb => by cases b <;> rfl
  | n, m, x :: xs, [], ha, hb => rfl
  | n, m, x :: xs, y :: ys, ha, hb => by
    rw [plainBs, Bool.and_eq_true] at ha hb
    show (PyData.eqv (D.py x) (D.py y) && PyData.eqvAll (D.pys xs) (D.pys ys)) = (D.beq x y && D.beqs xs ys)
    rw [py_eqv n m x y ha.1 hb.1, pys_eqv n m xs ys ha.2 hb.2]
end
theorem any_eqv {x : D} {n m : Nat} (hx : plainB m x = true) : ∀ {ys : List D}, plainBs n ys = true → ((D.pys ys).any fun z => PyData.eqv z (D.py x)) = ys.any fun y => D.beq y x
  | [], _ => rfl
  | y :: ys, h => by
    rw [plainBs, Bool.and_eq_true] at h
    show (PyData.eqv (D.py y) (D.py x) || (D.pys ys).any fun z => PyData.eqv z (D.py x)) = (D.beq y x || ys.any fun y => D.beq y x)
    rw [py_eqv n m y x h.1 hx, any_eqv hx h.2]
/-- scalars -/
theorem scalar_eq {a b : D} {x y : V} (ha : scalarB a = true) (hb : scalarB b = true) (he : eqOk a b = true) (qa : RD K H g a x) (qb : RD K H g b y) : scal x y = true ∧ decide (x = y) = D.beq a b := by
  cases a <;> cases b <;> first
    | (simp [scalarB] at ha; done)
    | (simp [scalarB] at hb; done)
    | (simp [eqOk] at he; done)
    | (rw [show x = _ from qa, show y = _ from qb]
       first
         | exact ⟨rfl, rfl⟩
         | exact ⟨rfl, dec_int⟩
         | exact ⟨rfl, dec_bl⟩
         | exact ⟨rfl, dec_str⟩)
theorem scalar_flat {a : D} {x : V} (ha : scalarB a = true) (qa : RD K H g a x) : flatV x = true := by
  cases a <;> first
    | (simp [scalarB] at ha; done)
    | (rw [show x = _ from qa]; rfl)
theorem scalar_eqV {a b : D} {x y : V} (ha : scalarB a = true) (hb : scalarB b = true) (he : eqOk a b = true) (qa : RD K H g a x) (qb : RD K H g b y) : eqV x y = D.beq a b := by
  cases a <;> cases b <;> first
    | (simp [scalarB] at ha; done)
    | (simp [scalarB] at hb; done)
    | (simp [eqOk] at he; done)
    | (rw [show x = _ from qa, show y = _ from qb]; rfl)
theorem any_eqV {x : D} {vx : V} (hx : scalarB x = true) (qx : RD K H g x vx) : ∀ {ys : List D} {vs : List V}, (ys.all fun y => scalarB y && eqOk y x) = true → RDs K H g ys vs → vs.all flatV = true ∧ inV vx vs = ys.any fun y => D.beq y x
  | [], vs, _, q => by rw [show vs = [] from q]; exact ⟨rfl, rfl⟩
  | y :: ys, _, h, ⟨v, r, e, q, t⟩ => by
    subst e
    rw [List.all_cons, Bool.and_eq_true, Bool.and_eq_true] at h
    obtain ⟨h1, h2⟩ := any_eqV hx qx h.2 t
    refine ⟨?_, ?_⟩
    · rw [List.all_cons, scalar_flat h.1.1 q, h1]; rfl
    · show (eqV v vx || inV vx r) = (D.beq y x || ys.any fun y => D.beq y x)
      rw [scalar_eqV h.1.1 hx h.1.2 q qx, h2]
end
end U

namespace U
open PySem PySem.Spec PyProof.Rows L2
section
variable {K : PySem.W.Frag} {X : Cx}
def cmpop : COp → CmpOp
  | .eq => .Eq | .ne => .NotEq | .lt => .Lt | .le => .LtE | .gt => .Gt | .ge => .GtE | .isN => .Is | .notN => .IsNot | .in_ => .In | .notIn => .NotIn
inductive CopC : COp → D → D → Bool → Prop
  | eq (a b : D) (h : eqOk a b = true) : CopC .eq a b (D.beq a b)
  | ne (a b : D) (h : eqOk a b = true) : CopC .ne a b (!D.beq a b)
  | lt (i j : Int) : CopC .lt (.int i) (.int j) (decide (i < j))
  | le (i j : Int) : CopC .le (.int i) (.int j) (decide (i ≤ j))
  | gt (i j : Int) : CopC .gt (.int i) (.int j) (decide (j < i))
  | ge (i j : Int) : CopC .ge (.int i) (.int j) (decide (j ≤ i))
  | isB (a b : Bool) : CopC .isN (.bl a) (.bl b) (decide (a = b))
  | notB (a b : Bool) : CopC .notN (.bl a) (.bl b) (!decide (a = b))
  | isN (a : D) : CopC .isN a .non (isNonB a)
  | notN (a : D) : CopC .notN a .non (!isNonB a)
  | inT (a : D) (ds : List D) (h : inOk a ds = true) : CopC .in_ a (.tup ds) (ds.any fun y => D.beq y a)
  | inL (a : D) (ds : List D) (h : inOk a ds = true) : CopC .in_ a (.lst ds) (ds.any fun y => D.beq y a)
  | notInT (a : D) (ds : List D) (h : inOk a ds = true) : CopC .notIn a (.tup ds) (!ds.any fun y => D.beq y a)
  | notInL (a : D) (ds : List D) (h : inOk a ds = true) : CopC .notIn a (.lst ds) (!ds.any fun y => D.beq y a)
theorem cop_c {op : COp} {d e : D} {r : Bool} (h : cop op d e = some r) : CopC op d e r := by
  unfold cop at h
  split at h
  all_goals first
    | (cases h; constructor)
    | (split at h
       · cases h; constructor; assumption
       · cases h)
    | (unfold hasIn at h
       split at h
       · cases h; constructor; assumption
       · cases h)
    | cases h
/-- in, not in, a tuple of nested data -/
def rInTD (K : PySem.W.Frag) (neg : Bool) : R2 := fun x y H Q => ∃ d ds, Dp K H x d ∧ Dp K H y (.tuple ds) ∧ SeqAt.shaped d = true ∧ SeqAt.shaped (.tuple ds) = true ∧ Q (.bl (if neg then !ds.any fun z => PyData.eqv z d else ds.any fun z => PyData.eqv z d)) H
theorem op_inTD (hu : X.A.units + 65 < cLine) : OpR X (compareOp .In) (rInTD X.K false) := by
  intro pins s σ H x y v u Q I rx ry h
  obtain ⟨d, ds, hd, he, sd, se, q⟩ := h
  obtain ⟨as, r1⟩ := Dp.reads I d x v hd rx
  obtain ⟨bs, r2⟩ := Dp.reads I (.tuple ds) y u he ry
  exact SeqAt.in_tuple_reads r2 r1 (SeqAt.canLay_of_shaped se) (SeqAt.canLay_of_shaped sd) (room_in_shaped sd hu) ⟨.bl _, H, I, rfl, q⟩
theorem op_notInTD (hu : X.A.units + 65 < cLine) : OpR X (compareOp .NotIn) (rInTD X.K true) := by
  intro pins s σ H x y v u Q I rx ry h
  obtain ⟨d, ds, hd, he, sd, se, q⟩ := h
  obtain ⟨as, r1⟩ := Dp.reads I d x v hd rx
  obtain ⟨bs, r2⟩ := Dp.reads I (.tuple ds) y u he ry
  exact SeqAt.notIn_tuple_reads r2 r1 (SeqAt.canLay_of_shaped se) (SeqAt.canLay_of_shaped sd) (room_in_shaped sd hu) ⟨.bl _, H, I, rfl, q⟩
theorem plainBs_shapedT {ds : List D} (h : plainBs 20 ds = true) : SeqAt.shaped (.tuple (D.pys ds)) = true := by
  obtain ⟨h1, h2⟩ := pys_lay 20 ds h
  unfold SeqAt.shaped
  show (PyData.canLayAll0 (D.pys ds) && decide (PyData.depthAll (D.pys ds) + 1 ≤ 64)) = true
  rw [h1, decide_eq_true (by omega)]; rfl
theorem isNon_iff {H : Hp} {g : List Addr} {a : D} {x : V} (q : RD K H g a x) : decide (x = .non) = isNonB a := by
  cases a with
  | non => rw [show x = _ from q]; rfl
  | bl _ => rw [show x = _ from q]; rfl
  | int _ => rw [show x = _ from q]; rfl
  | str _ => rw [show x = _ from q]; rfl
  | tup _ => obtain ⟨a, vs, e, _⟩ := q; subst e; rfl
  | lst _ => obtain ⟨a, vs, e, _⟩ := q; subst e; rfl
  | rol _ => obtain ⟨a, vs, e, _⟩ := q; subst e; rfl
  | dic _ => obtain ⟨a, us, e, _⟩ := q; subst e; rfl
  | ref _ => obtain ⟨a, _, e⟩ := q; subst e; rfl
/-- each comparison has its rule -/
theorem cop_rule {op : COp} {d e : D} {c : Bool} (hu : X.A.units + 65 < cLine) (h : cop op d e = some c) : ∃ r : R2, OpR X (compareOp (cmpop op)) r ∧
    ∀ (w : W) (S : St) (H : Hp) (x y : V) (Q : VK), Rel X.K w S H → RTop X.K w H d x → RTop X.K w H e y → Q (.bl c) H → r x y H Q := by
  have inT : ∀ (neg : Bool) (a : D) (ds : List D), inOk a ds = true → ∀ (cop : CmpOp), OpR X (compareOp cop) (rIn X.K neg) → OpR X (compareOp cop) (rInTD X.K neg) → ∃ r : R2, OpR X (compareOp cop) r ∧
      ∀ (w : W) (S : St) (H : Hp) (x y : V) (Q : VK), Rel X.K w S H → RTop X.K w H a x → RTop X.K w H (.tup ds) y → Q (.bl (if neg then !ds.any fun y => D.beq y a else ds.any fun y => D.beq y a)) H → r x y H Q := fun neg a ds hok cop o1 o2 => by
    unfold inOk at hok
    rw [Bool.or_eq_true, Bool.and_eq_true, Bool.and_eq_true] at hok
    rcases hok with ⟨h1, h2⟩ | ⟨h1, h2⟩
    · refine ⟨_, o1, fun w S H x y Q r qx qy q => ?_⟩
      have rx := qx.rd X.K r.sub
      obtain ⟨p, vs, rfl, ht, hd⟩ := qy.rd X.K r.sub
      obtain ⟨f1, f2⟩ := any_eqV h1 rx h2 hd
      exact ⟨p, vs, rfl, .inr ht, scalar_flat h1 rx, f1, by rw [f2]; exact q⟩
    · refine ⟨_, o2, fun w S H x y Q r qx qy q => ?_⟩
      have rx := qx.rd X.K r.sub
      obtain ⟨p, vs, rfl, ht, hd⟩ := qy.rd X.K r.sub
      exact ⟨D.py a, D.pys ds, rd_dp 20 a h1 rx, .tup ht (rds_dp 20 ds h2 hd), py_shaped h1, plainBs_shapedT h2, by rw [any_eqv h1 h2]; exact q⟩
  have inL : ∀ (neg : Bool) (a : D) (ds : List D), inOk a ds = true → ∀ (cop : CmpOp), OpR X (compareOp cop) (rIn X.K neg) → OpR X (compareOp cop) (if neg then rNotInD X.K else rInD X.K) → ∃ r : R2, OpR X (compareOp cop) r ∧
      ∀ (w : W) (S : St) (H : Hp) (x y : V) (Q : VK), Rel X.K w S H → RTop X.K w H a x → RTop X.K w H (.lst ds) y → Q (.bl (if neg then !ds.any fun y => D.beq y a else ds.any fun y => D.beq y a)) H → r x y H Q := fun neg a ds hok cop o1 o2 => by
    unfold inOk at hok
    rw [Bool.or_eq_true, Bool.and_eq_true, Bool.and_eq_true] at hok
    rcases hok with ⟨h1, h2⟩ | ⟨h1, h2⟩
    · refine ⟨_, o1, fun w S H x y Q r qx qy q => ?_⟩
      have rx := qx.rd X.K r.sub
      obtain ⟨p, vs, rfl, ht, hd⟩ := qy.rd X.K r.sub
      obtain ⟨f1, f2⟩ := any_eqV h1 rx h2 hd
      exact ⟨p, vs, rfl, .inl (SqL.of ht), scalar_flat h1 rx, f1, by rw [f2]; exact q⟩
    · refine ⟨_, o2, fun w S H x y Q r qx qy q => ?_⟩
      have rx := qx.rd X.K r.sub
      obtain ⟨p, vs, rfl, ht, hd⟩ := qy.rd X.K r.sub
      cases neg
      · exact ⟨D.py a, D.pys ds, rd_dp 20 a h1 rx, .lst (SqL.of ht) (rds_dp 20 ds h2 hd), py_shaped h1, pys_shaped h2, by rw [any_eqv h1 h2]; exact q⟩
      · exact ⟨D.py a, D.pys ds, rd_dp 20 a h1 rx, .lst (SqL.of ht) (rds_dp 20 ds h2 hd), py_shaped h1, pys_shaped h2, by rw [any_eqv h1 h2]; exact q⟩
  have eqR : ∀ (a b : D), eqOk a b = true → (scalarB a = true ∧ scalarB b = true) ∨ (plainB 20 a = true ∧ plainB 20 b = true) := fun a b h => by
    unfold eqOk at h
    split at h
    · cases h
    · cases h
    · rw [Bool.or_eq_true, Bool.and_eq_true, Bool.and_eq_true] at h
      exact h
  cases cop_c h with
  | eq a b hok =>
    rcases eqR _ _ hok with ⟨h1, h2⟩ | ⟨h1, h2⟩
    · refine ⟨_, op_eq, fun w S H x y Q r qx qy q => ?_⟩
      obtain ⟨s1, s2⟩ := scalar_eq h1 h2 hok (qx.rd X.K r.sub) (qy.rd X.K r.sub)
      exact ⟨s1, by rw [s2]; exact q⟩
    · refine ⟨_, op_eqD (by omega), fun w S H x y Q r qx qy q => ?_⟩
      exact ⟨_, _, rd_dp 20 d h1 (qx.rd X.K r.sub), rd_dp 20 e h2 (qy.rd X.K r.sub), py_shaped h1, py_shaped h2, by rw [py_eqv 20 20 _ _ h1 h2]; exact q⟩
  | ne a b hok =>
    rcases eqR _ _ hok with ⟨h1, h2⟩ | ⟨h1, h2⟩
    · refine ⟨_, op_ne, fun w S H x y Q r qx qy q => ?_⟩
      obtain ⟨s1, s2⟩ := scalar_eq h1 h2 hok (qx.rd X.K r.sub) (qy.rd X.K r.sub)
      exact ⟨s1, by rw [s2]; exact q⟩
    · refine ⟨_, op_neD (by omega), fun w S H x y Q r qx qy q => ?_⟩
      exact ⟨_, _, rd_dp 20 d h1 (qx.rd X.K r.sub), rd_dp 20 e h2 (qy.rd X.K r.sub), py_shaped h1, py_shaped h2, by rw [py_eqv 20 20 _ _ h1 h2]; exact q⟩
  | lt i j => exact ⟨_, op_lt, fun w S H x y Q r qx qy q => ⟨i, j, qx, qy, q⟩⟩
  | le i j => exact ⟨_, op_le, fun w S H x y Q r qx qy q => ⟨i, j, qx, qy, q⟩⟩
  | gt i j => exact ⟨_, op_gt, fun w S H x y Q r qx qy q => ⟨i, j, qx, qy, q⟩⟩
  | ge i j => exact ⟨_, op_ge, fun w S H x y Q r qx qy q => ⟨i, j, qx, qy, q⟩⟩
  | isB a b => exact ⟨_, op_isBl, fun w S H x y Q r qx qy q => ⟨a, b, qx, qy, q⟩⟩
  | notB a b => exact ⟨_, op_notBl, fun w S H x y Q r qx qy q => ⟨a, b, qx, qy, q⟩⟩
  | isN a => exact ⟨_, op_isN, fun w S H x y Q r qx qy q => ⟨qy, by rw [isNon_iff (qx.rd X.K r.sub)]; exact q⟩⟩
  | notN a => exact ⟨_, op_notN, fun w S H x y Q r qx qy q => ⟨qy, by rw [isNon_iff (qx.rd X.K r.sub)]; exact q⟩⟩
  | inT a ds hok => exact inT false _ ds hok _ op_in_seq (op_inTD hu)
  | inL a ds hok => exact inL false _ ds hok _ op_in_seq (op_inD hu)
  | notInT a ds hok => exact inT true _ ds hok _ op_notIn_seq (op_notInTD hu)
  | notInL a ds hok => exact inL true _ ds hok _ op_notIn_seq (op_notInD hu)

/-! ### comparisons as values, as tests -/
variable {a b c : Expr} {pos : Pos}
def cmpF (op : COp) (fa fb : Env → M RV) : Env → M RV := fun ρ => M.bind (fa ρ) fun x => M.bind (fb ρ) fun y => fun S => match view S (hold x).rv, view S y with
  | some d, some e => match cop op d e with
    | some c => .ok (.d (.bl c)) S
    | none => .bad
  | _, _ => .bad
theorem PostT.bind {α : Type} {w : W} {Q : Bool → Hp → Prop} {m : M α} {f : α → M RV} {S : St} (h : PostT K w Q (M.bind m f S)) : ∃ a S1, m S = .ok a S1 ∧ PostT K w Q (f a S1) := by
  unfold M.bind at h
  split at h
  · exact ⟨_, _, by assumption, h⟩
  · exact h.elim
  · exact h.elim
theorem se_cmp {op : COp} {fa fb : Env → M RV} (hK : X.K = K) (hu : X.A.units + 65 < cLine) (ha : PE X a (tE K fa)) (hb : PE X b (tE K fb)) (hm : behindInMarks (cmpop op) b = false) : PE X (.Compare a [cmpop op] [b] pos) (tE K (cmpF op fa fb)) := by
  subst hK
  refine ⟨fun pins s σ H Q I h => ?_⟩
  obtain ⟨w, ρ, S, hr, sl, p⟩ := h
  unfold cmpF at p
  obtain ⟨x, S1, ex, p⟩ := p.bind
  obtain ⟨y, S2, ey, p⟩ := p.bind
  split at p
  · rename_i d e vx vy
    split at p
    · rename_i c hc
      obtain ⟨r, ho, hq⟩ := cop_rule hu hc
      exact (pe_cmpR ho ha hb hm).run pins s σ H Q I (two' hr sl ex ey vx vy fun w2 H2 x1 y1 l r2 q1 q2 => hq w2 S2 H2 x1 y1 Q r2 q1 q2 (p w2 H2 _ l r2 rfl))
    · exact p.elim
  · exact p.elim
theorem st_cmp {op : COp} {fa fb : Env → M RV} (hK : X.K = K) (hu : X.A.units + 65 < cLine) (ha : PE X a (tE K fa)) (hb : PE X b (tE K fb)) (hm : behindInMarks (cmpop op) b = false) : PT X (.Compare a [cmpop op] [b] pos) (tT K (cmpF op fa fb)) := by
  subst hK
  refine ⟨fun pins s σ H Q I h => ?_⟩
  obtain ⟨w, ρ, S, hr, sl, p⟩ := h
  unfold cmpF at p
  obtain ⟨x, S1, ex, p⟩ := p.bind
  obtain ⟨y, S2, ey, p⟩ := p.bind
  split at p
  · rename_i d e vx vy
    split at p
    · rename_i c hc
      obtain ⟨r, ho, hq⟩ := cop_rule hu hc
      obtain ⟨c', ec, p⟩ := p
      cases ec
      exact (pt_cmpR ho ha hb hm).run pins s σ H Q I (two' hr sl ex ey vx vy fun w2 H2 x1 y1 l r2 q1 q2 => hq w2 S2 H2 x1 y1 _ r2 q1 q2 ⟨c, rfl, p w2 H2 l r2⟩)
    · exact p.elim
  · exact p.elim
def chainF (op op2 : COp) (fa fb fc : Env → M RV) : Env → M RV := fun ρ => M.bind (fa ρ) fun x => M.bind (fb ρ) fun y => fun S => match view S (hold x).rv, view S (hold y).rv with
  | some d, some e => match cop op d e with
    | some true => M.bind (fc ρ) (fun z => fun S1 => match view S1 (hold y).rv, view S1 z with
      | some e', some f => match cop op2 e' f with
        | some r => .ok (.d (.bl r)) S1
        | none => .bad
      | _, _ => .bad) S
    | some false => .ok (.d (.bl false)) S
    | none => .bad
  | _, _ => .bad
theorem chain_core {op op2 : COp} {fa fb fc : Env → M RV} {w : W} {ρ : Env} {S S1 S2 : St} {x y : RV} {σ : L2.St} {H : Hp} {Q : VK} {rr : Res RV} {d e : D} (hu : X.A.units + 65 < cLine) (hr : Rel X.K w S H) (sl : RSl X.K w ρ σ) (ex : fa ρ S = .ok x S1) (ey : fb ρ S1 = .ok y S2)
    (vx : U.view S2 (hold x).rv = some d) (vy : U.view S2 (hold y).rv = some e)
    (hres : chainF op op2 fa fb fc ρ S = rr) {b : Bool} {S3 : St} (hb : rr = .ok (.d (.bl b)) S3) (p : ∀ w' H', w.le w' → Rel X.K w' S3 H' → Q (.bl b) H') :
    ∃ r r', OpR X (compareOp (cmpop op)) r ∧ OpR X (compareOp (cmpop op2)) r' ∧ tChain r r' (tE X.K fa) (tE X.K fb) (tE X.K fc) σ H Q := by
  subst hres
  unfold chainF M.bind at hb
  rw [ex] at hb
  dsimp only at hb
  rw [ey] at hb
  dsimp only at hb
  rw [vx, vy] at hb
  dsimp only at hb
  have two2 : ∀ (R : V → V → Hp → Prop), (∀ w2 H2 vx vy, w.le w2 → Rel X.K w2 S2 H2 → RTop X.K w2 H2 d vx → RSV X.K w2 (hold y) vy → RTop X.K w2 H2 e vy → R vx vy H2) → tE X.K fa σ H (fun x H1 => tE X.K fb σ H1 fun y H2 => R x y H2) := fun R h => by
    refine one hr sl ex fun w1 H1 vx1 l1 r1 q1 => ?_
    obtain ⟨w1', l1', r1', _, q1'⟩ := r1.hold X.K q1
    refine one r1' (sl.mono X.K (l1.trans l1')) ey fun w2 H2 vy1 l2 r2 q2 => ?_
    obtain ⟨w2', l2', r2', _, q2'⟩ := r2.hold X.K q2
    exact h w2' H2 _ _ (((l1.trans l1').trans l2).trans l2') r2' (r2'.view X.K (RRV.of X.K (q1'.mono X.K (l2.trans l2'))) vx) q2' (r2'.view X.K (RRV.of X.K q2') vy)
  cases hc : cop op d e with
  | none => rw [hc] at hb; cases hb
  | some c =>
    rw [hc] at hb
    obtain ⟨r, ho, hq⟩ := cop_rule (X := X) hu hc
    cases c with
    | false =>
      cases hb
      refine ⟨r, fun _ _ _ _ => False, ho, fun _ _ _ _ _ _ _ _ _ _ _ _ h => h.elim, ?_⟩
      exact two2 _ fun w2 H2 vx1 vy1 l r2 q1 _ q2 => hq w2 S2 H2 _ _ _ r2 q1 q2 ⟨false, rfl, p w2 H2 l r2⟩
    | true =>
      dsimp only at hb
      cases hz : fc ρ S2 with
      | exc _ _ => rw [hz] at hb; cases hb
      | bad => rw [hz] at hb; cases hb
      | ok z S4 =>
        rw [hz] at hb
        dsimp only at hb
        split at hb
        · rename_i e' f vy' vz
          cases hc2 : cop op2 e' f with
          | none => rw [hc2] at hb; cases hb
          | some c2 =>
            rw [hc2] at hb
            cases hb
            obtain ⟨r', ho', hq'⟩ := cop_rule (X := X) hu hc2
            refine ⟨r, r', ho, ho', ?_⟩
            refine two2 _ fun w2 H2 vx1 vy1 l r2 q1 qh q2 => hq w2 S2 H2 _ _ _ r2 q1 q2 ⟨true, rfl, ?_⟩
            rw [if_pos rfl]
            refine one r2 (sl.mono X.K l) hz fun w3 H3 vz1 l3 r3 q3 => ?_
            exact hq' w3 _ H3 _ _ _ r3 (r3.view X.K (RRV.of X.K (qh.mono X.K l3)) vy') (r3.view X.K q3 vz) (p w3 H3 (l.trans l3) r3)
        · cases hb
theorem chain_bl {op op2 : COp} {fa fb fc : Env → M RV} {ρ : Env} {S S3 : St} {r : RV} (h : chainF op op2 fa fb fc ρ S = .ok r S3) : ∃ x S1 y S2 d e b, fa ρ S = .ok x S1 ∧ fb ρ S1 = .ok y S2 ∧ U.view S2 (hold x).rv = some d ∧ U.view S2 (hold y).rv = some e ∧ r = .d (.bl b) := by
  unfold chainF at h
  obtain ⟨x, S1, ex, h⟩ := bind_ok h
  obtain ⟨y, S2, ey, h⟩ := bind_ok h
  split at h
  · rename_i d e vx vy
    refine ⟨x, S1, y, S2, d, e, ?_⟩
    split at h
    · obtain ⟨z, S4, ez, h⟩ := bind_ok h
      split at h
      · split at h
        · cases h; exact ⟨_, ex, ey, vx, vy, rfl⟩
        · cases h
      · cases h
    · cases h; exact ⟨_, ex, ey, vx, vy, rfl⟩
    · cases h
  · cases h
theorem se_chain {op op2 : COp} {fa fb fc : Env → M RV} (hK : X.K = K) (hu : X.A.units + 65 < cLine) (ha : PE X a (tE K fa)) (hb : PE X b (tE K fb)) (hc : PE X c (tE K fc)) (hm : lastMarks [cmpop op, cmpop op2] [b, c] = false) :
    PE X (.Compare a [cmpop op, cmpop op2] [b, c] pos) (tE K (chainF op op2 fa fb fc)) := by
  subst hK
  refine ⟨fun pins s σ H Q I h => ?_⟩
  obtain ⟨w, ρ, S, hr, sl, p⟩ := h
  obtain ⟨v, S3, ev⟩ := p.ok
  rw [ev] at p
  obtain ⟨x, S1, y, S2, d, e, b, ex, ey, vx, vy, rfl⟩ := chain_bl ev
  obtain ⟨r, r', ho, ho', t⟩ := chain_core hu hr sl ex ey vx vy rfl ev fun w' H' l r' => p w' H' _ l r' rfl
  exact (pe_chain ho ho' ha hb hc hm).run pins s σ H Q I t
theorem st_chain {op op2 : COp} {fa fb fc : Env → M RV} (hK : X.K = K) (hu : X.A.units + 65 < cLine) (ha : PE X a (tE K fa)) (hb : PE X b (tE K fb)) (hc : PE X c (tE K fc)) (hm : lastMarks [cmpop op, cmpop op2] [b, c] = false) :
    PT X (.Compare a [cmpop op, cmpop op2] [b, c] pos) (tT K (chainF op op2 fa fb fc)) := by
  subst hK
  refine ⟨fun pins s σ H Q I h => ?_⟩
  obtain ⟨w, ρ, S, hr, sl, p⟩ := h
  have : ∃ v S3, chainF op op2 fa fb fc ρ S = .ok v S3 := by
    cases e : chainF op op2 fa fb fc ρ S with
    | ok v S3 => exact ⟨v, S3, rfl⟩
    | exc _ _ => rw [e] at p; exact p.elim
    | bad => rw [e] at p; exact p.elim
  obtain ⟨v, S3, ev⟩ := this
  rw [ev] at p
  obtain ⟨x, S1, y, S2, d, e, b, ex, ey, vx, vy, rfl⟩ := chain_bl ev
  obtain ⟨b', eb, p⟩ := p
  cases eb
  obtain ⟨r, r', ho, ho', t⟩ := chain_core (Q := fun x H' => ∃ k, x = .bl k ∧ Q k H') hu hr sl ex ey vx vy rfl ev fun w' H' l r' => ⟨b, rfl, p w' H' l r'⟩
  exact (pt_chain ho ho' ha hb hc hm).run pins s σ H Q I t
end
end U

namespace U
open PySem PySem.Spec PyProof.Rows L2

/-! ### heads of syntax -/
def okHead : Expr → Bool
  | .Starred _ _ => false
  | .Slice _ _ _ _ => false
  | .Call (.Name _ _) [] [] _ => false
  | .Set _ _ _ => false
  | .SetComp _ _ _ _ => false
  | .DictComp _ _ _ _ _ => false
  | _ => true
theorem star_cons {e : Expr} {es : List Expr} {env : PySem.Env} (h : okHead e = true) : starEach (e :: es) env = (false, eval e env) :: starEach es env := by
  cases e <;> first | rfl | (simp [okHead] at h)
theorem star_one {e : Expr} {env : PySem.Env} (h : okHead e = true) : starEach [e] env = [(false, eval e env)] := by
  cases e <;> first | rfl | (simp [okHead] at h)
theorem plain_ix {e : Expr} (h : okHead e = true) : PlainIx e := by
  intro o i
  cases e <;> first | rfl | (simp [okHead] at h)
theorem attr_base {e : Expr} {a : Str} {env : PySem.Env} {w : Sem Value} (h : okHead e = true) : attributeBase e a env w = w := by
  unfold attributeBase
  split
  · simp [okHead] at h
  · rfl
theorem folded_set {e : Expr} {env : PySem.Env} (h : okHead e = true) (x : Value) : foldedSetIterable e env x = pure x := by
  unfold foldedSetIterable
  cases e <;> first | rfl | (simp [okHead] at h)
theorem noStar {pos : Pos} {env : PySem.Env} : ∀ {es : List Expr}, es.all okHead = true → (backTo pos (starEach es env)).any (·.1) = false
  | [], _ => rfl
  | e :: es, h => by
    rw [List.all_cons, Bool.and_eq_true] at h
    rw [star_cons h.1]
    show (false || (backTo pos (starEach es env)).any (·.1)) = false
    rw [noStar h.2]; rfl
theorem noStarAll {pos : Pos} {env : PySem.Env} : ∀ {es : List Expr}, es.all okHead = true → (backTo pos (starEach es env)).all (fun x => !x.1) = true
  | [], _ => rfl
  | e :: es, h => by
    rw [List.all_cons, Bool.and_eq_true] at h
    rw [star_cons h.1]
    show (!false && (backTo pos (starEach es env)).all fun x => !x.1) = true
    rw [noStarAll h.2]; rfl

section
variable {K : PySem.W.Frag} {X : Cx} {a b c : Expr} {pos : Pos}
/-! ### unary, and, or, if -/
def negF (fa : Env → M RV) : Env → M RV := fun ρ => M.bind (fa ρ) fun x => match x with
  | .d (.int i) => M.ret (.d (.int (-i)))
  | _ => M.bad
theorem se_neg {fa : Env → M RV} (ha : PE X a (tE K fa)) : PE X (.UnaryOp .USub a pos) (tE K (negF fa)) := by
  refine ⟨fun pins s σ H Q I h => ?_⟩
  obtain ⟨w, ρ, S, hr, sl, p⟩ := h
  unfold negF at p
  obtain ⟨x, S1, ex, p⟩ := p.bind
  have : ∃ i, x = .d (.int i) := by
    cases x with
    | d d =>
      cases d <;> first | exact ⟨_, rfl⟩ | exact False.elim p
    | loc u i => exact False.elim p
    | new c => exact False.elim p
  obtain ⟨i, rfl⟩ := this
  exact (pe_un un_neg ha).run pins s σ H Q I (one hr sl ex fun w1 H1 v l r q => ⟨i, q, p w1 H1 _ l r rfl⟩)
def notF (fa : Env → M RV) : Env → M RV := fun ρ => M.bind (fa ρ) fun x => match truth x with
  | some b => M.ret (.d (.bl (!b)))
  | none => M.bad
theorem truth_bl {x : RV} {b : Bool} (h : truth x = some b) : x = .d (.bl b) := by
  unfold truth at h
  split at h
  · cases h; rfl
  · cases h
theorem oneT {fa : Env → M RV} {w : W} {ρ : Env} {S S1 : St} {x : RV} {b : Bool} {σ : L2.St} {H : Hp} {R : Bool → Hp → Prop} (r : Rel K w S H) (sl : RSl K w ρ σ) (ex : fa ρ S = .ok x S1) (eb : truth x = some b)
    (h : ∀ w1 H1, w.le w1 → Rel K w1 S1 H1 → R b H1) : tT K fa σ H R := ⟨w, ρ, S, r, sl, by rw [ex]; exact ⟨b, eb, h⟩⟩
theorem se_not {fa : Env → M RV} (ha : PE X a (tE K fa)) : PE X (.UnaryOp .Not a pos) (tE K (notF fa)) := by
  refine ⟨fun pins s σ H Q I h => ?_⟩
  obtain ⟨w, ρ, S, hr, sl, p⟩ := h
  unfold notF at p
  obtain ⟨x, S1, ex, p⟩ := p.bind
  cases eb : truth x with
  | none => rw [eb] at p; exact False.elim p
  | some b =>
    rw [eb] at p
    have eb := truth_bl eb
    subst eb
    exact (pe_not ha).run pins s σ H Q I (one hr sl ex fun w1 H1 v l r q => ⟨b, q, p w1 H1 _ l r rfl⟩)
theorem st_not {fa : Env → M RV} (ha : PT X a (tT K fa)) : PT X (.UnaryOp .Not a pos) (tT K (notF fa)) := by
  refine ⟨fun pins s σ H Q I h => ?_⟩
  obtain ⟨w, ρ, S, hr, sl, p⟩ := h
  unfold notF at p
  obtain ⟨x, S1, ex, p⟩ := p.bind
  cases eb : truth x with
  | none => rw [eb] at p; exact False.elim p
  | some b =>
    rw [eb] at p
    obtain ⟨b', e', p⟩ := p
    cases e'
    exact (pt_not ha).run pins s σ H Q I (oneT hr sl ex eb fun w1 H1 l r => p w1 H1 l r)
def andF (fa fb : Env → M RV) : Env → M RV := fun ρ => M.bind (fa ρ) fun x => match truth x with
  | some true => fb ρ
  | some false => M.ret (.d (.bl false))
  | none => M.bad
def orF (fa fb : Env → M RV) : Env → M RV := fun ρ => M.bind (fa ρ) fun x => match truth x with
  | some true => M.ret (.d (.bl true))
  | some false => fb ρ
  | none => M.bad
variable {rest : List Expr}
theorem Post.le {w w1 : W} {Q : VK} {r : Res RV} (l : w.le w1) (p : Post K w Q r) : Post K w1 Q r := by
  cases r with
  | ok v S => exact fun w' H' v l' => p w' H' v (l.trans l')
  | exc _ _ => exact p
  | bad => exact p
theorem PostT.le {w w1 : W} {Q : Bool → Hp → Prop} {r : Res RV} (l : w.le w1) (p : PostT K w Q r) : PostT K w1 Q r := by
  cases r with
  | ok v S =>
    obtain ⟨b, e, p⟩ := p
    exact ⟨b, e, fun w' H' l' => p w' H' (l.trans l')⟩
  | exc _ _ => exact p
  | bad => exact p
theorem se_and {fa fb : Env → M RV} (ha : PE X a (tE K fa)) (hb : PE X (.BoolOp .And (b :: rest) pos) (tE K fb)) : PE X (.BoolOp .And (a :: b :: rest) pos) (tE K (andF fa fb)) := by
  refine ⟨fun pins s σ H Q I h => ?_⟩
  obtain ⟨w, ρ, S, hr, sl, p⟩ := h
  unfold andF at p
  obtain ⟨x, S1, ex, p⟩ := p.bind
  refine (pe_and ha hb).run pins s σ H Q I (one hr sl ex fun w1 H1 v l r q => ?_)
  cases eb : truth x with
  | none => rw [eb] at p; exact False.elim p
  | some b0 =>
    rw [eb] at p
    cases b0 with
    | true =>
      have eb := truth_bl eb
      subst eb
      exact ⟨true, q, by rw [if_pos rfl]; exact ⟨w1, ρ, S1, r, sl.mono K l, p.le l⟩⟩
    | false =>
      have eb := truth_bl eb
      subst eb
      exact ⟨false, q, by rw [if_neg Bool.false_ne_true]; exact p w1 H1 _ l r rfl⟩
theorem se_or {fa fb : Env → M RV} (ha : PE X a (tE K fa)) (hb : PE X (.BoolOp .Or (b :: rest) pos) (tE K fb)) : PE X (.BoolOp .Or (a :: b :: rest) pos) (tE K (orF fa fb)) := by
  refine ⟨fun pins s σ H Q I h => ?_⟩
  obtain ⟨w, ρ, S, hr, sl, p⟩ := h
  unfold orF at p
  obtain ⟨x, S1, ex, p⟩ := p.bind
  refine (pe_or ha hb).run pins s σ H Q I (one hr sl ex fun w1 H1 v l r q => ?_)
  cases eb : truth x with
  | none => rw [eb] at p; exact False.elim p
  | some b0 =>
    rw [eb] at p
    cases b0 with
    | true =>
      have eb := truth_bl eb
      subst eb
      exact ⟨true, q, by rw [if_pos rfl]; exact p w1 H1 _ l r rfl⟩
    | false =>
      have eb := truth_bl eb
      subst eb
      exact ⟨false, q, by rw [if_neg Bool.false_ne_true]; exact ⟨w1, ρ, S1, r, sl.mono K l, p.le l⟩⟩
theorem se_one {op : PySem.BoolOp} {fa : Env → M RV} (ha : PE X a (tE K fa)) : PE X (.BoolOp op [a] pos) (tE K fa) := pe_one ha
theorem sw_and {fa fb : Env → M RV} (ha : PT X a (tT K fa)) (hb : PW X (.BoolOp .And (b :: rest) pos) (tT K fb)) : PW X (.BoolOp .And (a :: b :: rest) pos) (tT K (andF fa fb)) := by
  refine ⟨fun wh pins s σ H Q I h => ?_⟩
  obtain ⟨w, ρ, S, hr, sl, p⟩ := h
  unfold andF at p
  obtain ⟨x, S1, ex, p⟩ := p.bind
  cases eb : truth x with
  | none => rw [eb] at p; exact False.elim p
  | some b0 =>
    rw [eb] at p
    cases b0 with
    | true =>
      exact (pw_and ha hb).run wh pins s σ H Q I (oneT hr sl ex eb fun w1 H1 l r => by rw [if_pos rfl]; exact ⟨w1, ρ, S1, r, sl.mono K l, p.le l⟩)
    | false =>
      obtain ⟨b', e', p⟩ := p
      cases e'
      exact (pw_and ha hb).run wh pins s σ H Q I (oneT hr sl ex eb fun w1 H1 l r => by rw [if_neg Bool.false_ne_true]; exact p w1 H1 l r)
theorem sw_or {fa fb : Env → M RV} (ha : PT X a (tT K fa)) (hb : PW X (.BoolOp .Or (b :: rest) pos) (tT K fb)) : PW X (.BoolOp .Or (a :: b :: rest) pos) (tT K (orF fa fb)) := by
  refine ⟨fun wh pins s σ H Q I h => ?_⟩
  obtain ⟨w, ρ, S, hr, sl, p⟩ := h
  unfold orF at p
  obtain ⟨x, S1, ex, p⟩ := p.bind
  cases eb : truth x with
  | none => rw [eb] at p; exact False.elim p
  | some b0 =>
    rw [eb] at p
    cases b0 with
    | true =>
      obtain ⟨b', e', p⟩ := p
      cases e'
      exact (pw_or ha hb).run wh pins s σ H Q I (oneT hr sl ex eb fun w1 H1 l r => by rw [if_pos rfl]; exact p w1 H1 l r)
    | false =>
      exact (pw_or ha hb).run wh pins s σ H Q I (oneT hr sl ex eb fun w1 H1 l r => by rw [if_neg Bool.false_ne_true]; exact ⟨w1, ρ, S1, r, sl.mono K l, p.le l⟩)
def ifF (ft fa fb : Env → M RV) : Env → M RV := fun ρ => M.bind (ft ρ) fun x => match truth x with
  | some true => fa ρ
  | some false => fb ρ
  | none => M.bad
theorem se_ife {ft fa fb : Env → M RV} (ht : PT X c (tT K ft)) (ha : PE X a (tE K fa)) (hb : PE X b (tE K fb)) : PE X (.IfExp c a b pos) (tE K (ifF ft fa fb)) := by
  refine ⟨fun pins s σ H Q I h => ?_⟩
  obtain ⟨w, ρ, S, hr, sl, p⟩ := h
  unfold ifF at p
  obtain ⟨x, S1, ex, p⟩ := p.bind
  cases eb : truth x with
  | none => rw [eb] at p; exact False.elim p
  | some b0 =>
    rw [eb] at p
    cases b0 with
    | true =>
      exact (pe_ifExp ht ha hb).run pins s σ H Q I (oneT hr sl ex eb fun w1 H1 l r => by rw [if_pos rfl]; exact ⟨w1, ρ, S1, r, sl.mono K l, p.le l⟩)
    | false =>
      exact (pe_ifExp ht ha hb).run pins s σ H Q I (oneT hr sl ex eb fun w1 H1 l r => by rw [if_neg Bool.false_ne_true]; exact ⟨w1, ρ, S1, r, sl.mono K l, p.le l⟩)
/-- any other expression as a test -/
def okTest : Expr → Bool
  | .UnaryOp .Not _ _ => false
  | .BoolOp _ _ _ => false
  | .IfExp _ _ _ _ => false
  | .Compare _ _ _ _ => false
  | _ => true
theorem st_val {f : Env → M RV} (h : PE X a (tE K f)) (ht : okTest a = true) : PT X a (tT K f) := by
  refine ⟨fun pins s σ H Q I hq => ?_⟩
  obtain ⟨w, ρ, S, hr, sl, p⟩ := hq
  have he : ∀ whole, PySem.isTrue a X.env whole = (do let v ← whole; standAt a.pos; holding [v] (truthy v)) := by
    intro whole
    unfold PySem.isTrue
    split <;> first | rfl | (simp [okTest] at ht)
  refine (pt_val h he).run pins s σ H Q I ?_
  cases ev : f ρ S with
  | ok v S1 =>
    rw [ev] at p
    obtain ⟨b, eb, p⟩ := p
    have eb := truth_bl eb
    subst eb
    exact one hr sl ev fun w1 H1 v l r q => ⟨b, q, p w1 H1 l r⟩
  | exc _ _ => rw [ev] at p; exact p.elim
  | bad => rw [ev] at p; exact p.elim

/-! ### arguments, displays -/
def argF (fa : Env → M RV) (fr : Env → M (List SV)) : Env → M (List SV) := fun ρ => M.bind (fa ρ) fun x => M.bind (fr ρ) fun xs => M.ret (hold x :: xs)
def itemF (fa : Env → M RV) (fr : Env → M (List D)) : Env → M (List D) := fun ρ => M.bind (fa ρ) fun x => M.bind (keep x) fun d => M.bind (fr ρ) fun ds => M.ret (d :: ds)
variable {es : List Expr}
theorem PostA.bind {α : Type} {w : W} {Q : List V → Hp → Prop} {m : M α} {f : α → M (List SV)} {S : St} (h : PostA K w Q (M.bind m f S)) : ∃ a S1, m S = .ok a S1 ∧ PostA K w Q (f a S1) := by
  unfold M.bind at h
  split at h
  · exact ⟨_, _, by assumption, h⟩
  · exact h.elim
  · exact h.elim
theorem PostK.bind {α : Type} {w : W} {Q : List V → Hp → Prop} {m : M α} {f : α → M (List D)} {S : St} (h : PostK K w Q (M.bind m f S)) : ∃ a S1, m S = .ok a S1 ∧ PostK K w Q (f a S1) := by
  unfold M.bind at h
  split at h
  · exact ⟨_, _, by assumption, h⟩
  · exact h.elim
  · exact h.elim
theorem sa_nil : PA X [] (tA K fun _ => M.ret []) := by
  refine PA.weak pa_nil fun σ H Q h => ?_
  obtain ⟨w, ρ, S, hr, sl, p⟩ := h
  exact p w H [] (.refl w) hr rfl
theorem sa_cons {fa : Env → M RV} {fr : Env → M (List SV)} (ha : PE X a (tE K fa)) (hr : PA X es (tA K fr)) (ho : okHead a = true) : PA X (a :: es) (tA K (argF fa fr)) := by
  refine PA.weak (pa_cons ha hr (star_cons ho)) fun σ H Q h => ?_
  obtain ⟨w, ρ, S, hr, sl, p⟩ := h
  unfold argF at p
  obtain ⟨x, S1, ex, p⟩ := p.bind
  obtain ⟨xs, S2, exs, p⟩ := p.bind
  refine one hr sl ex fun w1 H1 v l r q => ?_
  obtain ⟨w1', l1', r1', _, q1'⟩ := r.hold K q
  refine ⟨w1', ρ, S1, r1', sl.mono K (l.trans l1'), ?_⟩
  rw [exs]
  exact fun w2 H2 vs l2 r2 q2 => p w2 H2 (v :: vs) ((l.trans l1').trans l2) r2 ⟨v, vs, rfl, q1'.mono K l2, q2⟩
theorem sk_nil : PA X [] (tK K fun _ => M.ret []) := by
  refine PA.weak pa_nil fun σ H Q h => ?_
  obtain ⟨w, ρ, S, hr, sl, p⟩ := h
  exact p w H [] (.refl w) hr rfl
theorem sk_cons {fa : Env → M RV} {fr : Env → M (List D)} (ha : PE X a (tE K fa)) (hr : PA X es (tK K fr)) (ho : okHead a = true) : PA X (a :: es) (tK K (itemF fa fr)) := by
  refine PA.weak (pa_cons ha hr (star_cons ho)) fun σ H Q h => ?_
  obtain ⟨w, ρ, S, hr, sl, p⟩ := h
  unfold itemF at p
  obtain ⟨x, S1, ex, p⟩ := p.bind
  obtain ⟨d, S1', ed, p⟩ := p.bind
  obtain ⟨xs, S2, exs, p⟩ := p.bind
  refine one hr sl ex fun w1 H1 v l r q => ?_
  obtain ⟨w1', l1', r1', _, q1'⟩ := r.kept K q ed
  refine ⟨w1', ρ, S1', r1', sl.mono K (l.trans l1'), ?_⟩
  rw [exs]
  exact fun w2 H2 vs l2 r2 q2 => p w2 H2 (v :: vs) ((l.trans l1').trans l2) r2 ⟨v, vs, rfl, RD.mono K l2.F l2.gl d q1', q2⟩
def tupF (fe : Env → M (List D)) : Env → M RV := fun ρ => M.bind (fe ρ) fun ds => fun S => if sz ds.length = true then .ok (.d (.tup ds)) S else .bad
def lstF (fe : Env → M (List D)) : Env → M RV := fun ρ => M.bind (fe ρ) fun ds => fun S => if sz ds.length = true then .ok (.new (.lst ds)) S else .bad
theorem se_tup {fe : Env → M (List D)} {n : Nat} (he : PA X es (tK K fe)) : PE X (.Tuple es n pos) (tE K (tupF fe)) := by
  refine ⟨fun pins s σ H Q I h => ?_⟩
  obtain ⟨w, ρ, S, hr, sl, p⟩ := h
  unfold tupF at p
  obtain ⟨ds, S1, ex, p⟩ := p.bind
  split at p
  · rename_i hz
    refine (pe_tup he).run pins s σ H Q I ⟨w, ρ, S, hr, sl, ?_⟩
    rw [ex]
    exact fun w' H' vs l r q => ⟨by rw [RDs.len K q]; exact sz_le hz, r.newT q fun w2 H2 v l2 => p w2 H2 v (l.trans l2)⟩
  · exact p.elim
theorem se_lst {fe : Env → M (List D)} (he : PA X es (tK K fe)) : PE X (.List es pos) (tE K (lstF fe)) := by
  refine ⟨fun pins s σ H Q I h => ?_⟩
  obtain ⟨w, ρ, S, hr, sl, p⟩ := h
  unfold lstF at p
  obtain ⟨ds, S1, ex, p⟩ := p.bind
  split at p
  · rename_i hz
    refine (pe_lst he).run pins s σ H Q I ⟨w, ρ, S, hr, sl, ?_⟩
    rw [ex]
    exact fun w' H' vs l r q => ⟨by rw [RDs.len K q]; exact sz_le hz, r.newL q fun w2 H2 v l2 => p w2 H2 v (l.trans l2)⟩
  · exact p.elim
end
end U

/-! UFn: a def's promise where nothing is being shown (repr) around the call. -/
namespace U
open PySem PySem.Spec PyProof.Rows L2

/-- FnOk of the layer, asked only of calls around which nothing is being shown -/
structure FnG (P : Program) (w : World) (K : PySem.W.Frag) (mg : Str → Option Value) (base : Heap) (CX : CXT) (k : Nat) (f : Addr) (fd : FuncData) (ps : List Str) (sp : Sp) : Prop where
  len : ∀ vs H Q E, sp vs H Q E → vs.length = ps.length
  run : ∀ (A : Around) (outer : List PySem.Env) (s : Shared) (H : Hp) (args : Args) (us : List Value) (vs : List V) (Q : VK) (E : XK), A.guards = some [] → Room k A →
    Env0 P w K mg base A outer s H → BindsTo s fd args (ps.zip us) → Vals vs us → sp vs H Q E → codeAny (model P w) A (.call (.ref f) args) (CR CX outer P w H s Q E) s
section
variable {CX : CXT} {P : Program} {w : World} {K : PySem.W.Frag} {mg : Str → Option Value} {base : Heap} {k : Nat} {f : Addr} {fd : FuncData} {ps : List Str} {sp : Sp}
theorem FnG.imp {sp' : Sp} (F : FnG P w K mg base CX k f fd ps sp) (h : ∀ vs H Q E, sp' vs H Q E → sp vs H Q E) : FnG P w K mg base CX k f fd ps sp' :=
  ⟨fun _ _ _ _ q => F.len _ _ _ _ (h _ _ _ _ q), fun A outer s H args us vs Q E g r e b v q => F.run A outer s H args us vs Q E g r e b v (h _ _ _ _ q)⟩
theorem FnG.mono {j : Nat} (F : FnG P w K mg base CX j f fd ps sp) (h : j ≤ k) : FnG P w K mg base CX k f fd ps sp :=
  ⟨F.len, fun A outer s H args us vs Q E g r => F.run A outer s H args us vs Q E g (r.mono h)⟩
/-- by its body -/
theorem fnG_of {N : List Str} {x qual : Str} {st : Stmt} (F : Fun K x qual st f fd) (S : FnScope N ps (defScope st)) (len : ∀ vs H Q E, sp vs H Q E → vs.length = ps.length)
    (body : ∀ (cdv : Value) (A : Around) (outer : List PySem.Env) (s : Shared) (H : Hp) (vs : List V) (Q : VK) (E : XK), A.guards = some [] →
      Room k (A.deeper (envOfC qual (defScope st) s.heap.objs.size f cdv)) → sp vs H Q E →
      ∃ t, PSs (cxOf CX P w K mg base N qual (defScope st) f cdv A outer s H E) (defBody st) t ∧ t { nx := fun _ H' => Q .non H', rt := Q } (start N vs) H) :
    FnG P w K mg base CX (k + 1) f fd ps sp := by
  obtain ⟨oc, od, kV, doc, pm, an, cdv, ct, osl, efd, lk, hcd⟩ := F.ex
  subst efd
  constructor
  · exact len
  · intro A outer s H args us vs Q E hg room e0 hb hv hsp
    have inK := e0.mod.kin.keeps (fun b o e => (e0.bs b o e).1)
    refine codeAny_call_function room.depth (inK f _ lk) rfl S.co S.gen rfl (PySem.W.codeRec_of inK hcd) (hb _ _ _ _ ?_)
    refine wpAny_newFunctionEnv_cells S.kind ?_ (fun env he s1 x => ?_)
    · rintro ⟨n, v⟩ hy
      cases S.par n (List.of_mem_zip hy).1 with
      | inl q => exact Or.inl q
      | inr q => exact Or.inr (And.intro q (PySem.W.cellsFrom_some _ _ _ (Or.inl q)))
    · subst he
      refine And.intro ((e0.mod.nolimit.keeps (fun b o e => (e0.bs b o e).1)).keeps x.toInCall.keep) (codeAny_func ?_)
      obtain ⟨t, ht, hq⟩ := body cdv A outer s H vs Q E hg (room.deeper _) hsp
      have start := inv_start (CX := CX) (E := E) S room.hd e0 (len _ _ _ _ hsp) hv x
      refine wpAny_mono (ht.run [] s1 _ H _ start hq) ?_ (fun _ _ z => z)
      intro fl s' z
      cases fl with
      | next => obtain ⟨_, H', J, q⟩ := z; exact ⟨V.non, H', J.os, J.bare, J.base, J.hok, rfl, q⟩
      | ret u => obtain ⟨v, _, H', J, rv, q⟩ := z; exact ⟨v, H', J.os, J.bare, J.base, J.hok, rv, q⟩
      | cont => obtain ⟨_, _, _, q⟩ := z; exact q.elim
      | brk => obtain ⟨_, _, _, q⟩ := z; exact q.elim
end
section
variable {X : Cx} {CX : CXT} {k : Nat} {f : Addr} {fd : FuncData} {ps : List Str} {sp : Sp} {E : XK} {x : Str} {p pos : Pos} {e : Expr} {es : List Expr} {t : TA}
theorem run_G {pins : List (Addr × Obj)} {σ : L2.St} {H : Hp} {s : Shared} {Q : VK} {us : List Value} {vs : List V} (F : FnG X.prog X.w X.K X.mg X.base CX k f fd ps sp) (hg : X.A.guards = some []) (hr : Room k X.A) (hb : Binds X.K fd ps [])
    (hx : Passes CX X E) (I : Inv X pins σ H s) (r : Vals vs us) (h : sp vs H Q E) : wpAny (model X.prog X.w) X.A (call (.ref f) us) (EP X pins σ Q) X.xe s := by
  have hl : us.length = ps.length := r.length.symm.trans (F.len _ _ _ _ h)
  have hbi : BindsTo s fd ⟨us, []⟩ (ps.zip us) := by
    have := hb s us I.kIn (by rw [List.append_nil]; exact hl)
    rw [List.append_nil] at this
    exact this
  refine wpAny_call (codeAny_mono (F.run X.A X.stack s H _ us vs Q E hg hr I.env0 hbi r h) ?_)
  intro res s' z
  match res, z with
  | .error e, z => exact hx pins σ H s e s' I z
  | .ok (.ret u), z => exact I.after z
  | .ok .next, z => exact z.elim
  | .ok .brk, z => exact z.elim
  | .ok .cont, z => exact z.elim
theorem ce_call (F : FnG X.prog X.w X.K X.mg X.base CX k f fd ps sp) (hgd : X.A.guards = some []) (hr : Room k X.A) (hg : Gl X x) (hm : X.mg x = some (.ref f)) (hk : PySem.W.keepIn X.K (.ref f) = true) (hb : Binds X.K fd ps []) (hx : Passes CX X E)
    (ha : PA X (e :: es) t) (hdb : (x == ("__debug__" : Str)) = false) (ho : (e :: es).all okHead = true) : PE X (.Call (.Name x p) (e :: es) [] pos) (tCall sp [] E t) := by
  rw [List.all_cons, Bool.and_eq_true] at ho
  constructor
  intro pins s σ H Q I h
  refine wpAny_Call_Name_kw (ld_glob I hg hm ?_ hdb)
  refine PySem.W.callWith_K (h₀ := X.base) I.ok.mod.kin hk (thn (ha.run pos pins s σ H _ I h) ?_) (star_cons ho.1) (noStar ho.2)
  rintro us s1 ⟨vs, H1, I1, r, q⟩
  rw [List.append_nil] at q
  exact ⟨I1.kIn, run_G F hgd hr hb hx I1 r q⟩
end

/-! ### the law's own call -/
section
variable {P : Program} {w : World} {K : PySem.W.Frag} {mg mb : Str → Option Value} {k : Nat} {fa a : Addr} {fd : FuncData} {x : Str} {sp : Sp} {s₁ : Shared} {vs : List Value} {ns : List Int}
theorem law_core (KX : K.In s₁.heap) (hns : s₁.heap.Ns mainGlobals mg) (hb : s₁.heap.Ns builtinsNs mb) (hbb : ∀ x : Str, x ≠ "__name__" → mb x = bootBuiltins x) (hlim : s₁.heap.NoLimit) (hg : s₁.gens = #[])
    (ha : s₁.heap.get? a = some { cls := .type "list", data := .seq vs.toArray }) (hr : Room k callerA) (F : ∀ base : Heap, K.In base → base.Ns mainGlobals mg → FnG P w K mg base CX0 k fa fd [x] sp)
    (hbind : ∀ (s : Shared) (u : Value), BindsTo s fd ⟨[u], []⟩ [(x, u)]) {H : Hp} (hO : Only H) (hok : HOk P w H s₁.heap) (only : ∀ b, H b ≠ none → b = a) (notK : H a ≠ none → K.lookup a = none)
    (hsp : sp [.ref a] H (fun v _ => v = .bl true) fun _ _ _ => False) :
    codeAny (model P w) callerA (.call (.ref fa) ⟨[.ref a], []⟩) (fun r s' => r = .ok (.ret (.bool true)) ∧ OldK s₁.heap s'.heap ∧ s'.os = s₁.os ∧ AllBare s'.gens) s₁ := by
  have dictFree : ∀ (b : Addr) (o : Obj) (es : Array DictEntry) (ep : Nat), s₁.heap.get? b = some o → o.data = .dict es ep → H b = none := by
    intro b o es ep e d
    apply Classical.byContradiction
    intro nz
    have : b = a := only b nz
    subst this
    rw [ha] at e
    cases e
    cases d
  have ns_hid : ∀ (b : Addr) (m : Str → Option Value), s₁.heap.Ns b m → (hidT s₁.heap H).Ns b m := by
    rintro b m ⟨o, es, ep, e, d, rr⟩
    exact ⟨o, es, ep, hidT_get e (dictFree b o es ep e d), d, rr⟩
  have kin : K.In (hidT s₁.heap H) := by
    intro b o e
    refine hidT_get (KX b o e) (Classical.byContradiction fun nz => ?_)
    have : b = a := only b nz
    subst this
    rw [notK nz] at e
    cases e
  have e0 : Env0 P w K mg (hidT s₁.heap H) callerA [] s₁ H := by
    refine ⟨rfl, ⟨kin, ns_hid _ _ hns, ⟨mb, ns_hid _ _ hb, hbb⟩, ?_⟩, fun b o e => of_hidT e, Nat.le_of_eq (hidT_size _ _), trivial, ?_, hok, .of_eq hg⟩
    · obtain ⟨mc, h1, h2⟩ := hlim
      exact ⟨mc, ns_hid _ _ h1, h2⟩
    · intro b z
      exact absurd (show b ∈ ([] : List Addr) from z) List.not_mem_nil
  refine codeAny_mono ((F _ kin (ns_hid _ _ hns)).run callerA [] s₁ H _ [.ref a] [.ref a] _ _ rfl hr e0 (hbind s₁ (.ref a)) (.cons rfl .nil) hsp) ?_
  intro res s' z
  match res, z with
  | .ok (.ret u), ⟨v, H', os, bare, un, hok', rv, q⟩ =>
    have q : v = .bl true := q
    subst q
    obtain rfl : u = Value.bool true := rv
    refine ⟨rfl, OldK.of_keep ?_, os, bare⟩
    intro b o e
    cases q : H b with
    | none => exact un.keep b o e q (fun z => absurd (show b ∈ ([] : List Addr) from z) List.not_mem_nil) List.not_mem_nil
    | some u =>
      cases hO b with
      | inl z => rw [q] at z; cases z
      | inr z =>
        obtain ⟨ob, xs, z⟩ := z
        have h1 := (hok b _ z).1
        rw [e] at h1
        cases h1
        exact (hok' b _ (un.frzs b _ _ z)).1
theorem law_callG (KX : K.In s₁.heap) (hns : s₁.heap.Ns mainGlobals mg) (hb : s₁.heap.Ns builtinsNs mb) (hbb : ∀ x : Str, x ≠ "__name__" → mb x = bootBuiltins x) (hlim : s₁.heap.NoLimit) (hg : s₁.gens = #[])
    (ha : s₁.heap.get? a = some { cls := .type "list", data := .seq vs.toArray }) (hi : IntsAre vs ns) (hl : ns.length ≤ sizeLine) (hr : Room k callerA) (F : ∀ base : Heap, K.In base → base.Ns mainGlobals mg → FnG P w K mg base CX0 k fa fd [x] sp)
    (hbind : ∀ (s : Shared) (u : Value), BindsTo s fd ⟨[u], []⟩ [(x, u)]) (hsp : ∀ H : Hp, SqL K H a (ns.map V.int) → sp [.ref a] H (fun v _ => v = .bl true) fun _ _ _ => False) :
    codeAny (model P w) callerA (.call (.ref fa) ⟨[.ref a], []⟩) (fun r s' => r = .ok (.ret (.bool true)) ∧ OldK s₁.heap s'.heap ∧ s'.os = s₁.os ∧ AllBare s'.gens) s₁ := by
  have rv := vals_of_ints hi
  cases hk : K.lookup a with
  | some o =>
    have e := KX a o hk
    rw [ha] at e
    cases e
    have sq : SqL K (fun _ => none) a (ns.map V.int) := Or.inr ⟨_, vs.toArray, _, hk, rfl, rfl, rfl, by rw [List.size_toArray, hi.length]; exact hl, by simpa using rv⟩
    exact law_core KX hns hb hbb hlim hg ha hr F hbind (H := fun _ => none) (fun _ => Or.inl rfl) (fun b u z => nomatch z) (fun b z => absurd rfl z) (fun z => absurd rfl z) (hsp _ sq)
  | none =>
    have atA : ∀ b, (upd (fun _ => none) a (.frz { cls := .type "list", data := .seq vs.toArray } (.lst (ns.map V.int)))) b ≠ none → b = a := by
      intro b z
      apply Classical.byContradiction
      intro hb
      rw [upd_ne hb] at z
      exact z rfl
    refine law_core KX hns hb hbb hlim hg ha hr F hbind (H := upd (fun _ => none) a (.frz { cls := .type "list", data := .seq vs.toArray } (.lst (ns.map V.int)))) ?_ ?_ atA (fun _ => hk) (hsp _ (Or.inl (Or.inr ⟨_, upd_same⟩)))
    · intro b
      by_cases hb : b = a
      · subst hb; exact Or.inr ⟨_, _, upd_same⟩
      · exact Or.inl (upd_ne hb)
    · intro b u z
      have hb : b = a := atA b (by rw [z]; intro q; cases q)
      subst hb
      rw [upd_same] at z
      cases z
      exact ⟨ha, by rw [List.length_map]; exact hl, vs, _, rv, ha⟩
end
theorem walk_G {l : PySem.W.OpenLaw} {n k : Nat} {q : Program} {loose : List Str} {XP : (Str → Option Value) → Heap → Prop} {YP : World → Heap → Prop} {d : DefRec} {K : Params → PySem.W.Frag} {sp : World → Sp} {x : Str}
    (hn : l.most = some n) (hn2 : n ≤ sizeLine) (hdf : d.params.defaults = []) (hr : Room k callerA) (hY : ∀ (w : World) (h : Heap), YP w h → (K w.params).In h)
    (F : ∀ (w : World) (mg : Str → Option Value) (fa : Addr) (h : Heap), (K w.params).In h → h.Ns mainGlobals mg → mg d.name = some (.ref fa) →
      ∃ fd : FuncData, (∀ (s : Shared) (u : Value), BindsTo s fd ⟨[u], []⟩ [(x, u)]) ∧ ∀ base : Heap, (K w.params).In base → base.Ns mainGlobals mg → FnG l.prog w (K w.params) mg base CX0 k fa fd [x] (sp w))
    (hsp : ∀ (w : World) (H : Hp) (a : Addr) (ns : List Int), ns.length ≤ n → SqL (K w.params) H a (ns.map V.int) → sp w [.ref a] H (fun v _ => v = .bl true) fun _ _ _ => False) :
    PySem.W.WalkO q loose XP YP l.row.toRowW d [] (fun f vs => PySem.call f vs) := by
  apply Att.attach_call hn hdf
  intro w s₀ s₁ mg mb fa o pm cd doc a vs ns G Y ho hd hcd hmg hobj hints hlen hg
  obtain ⟨fd, hb, hF⟩ := F w mg fa _ (hY w _ Y) G.T.g hmg
  exact law_callG (hY w _ Y) G.T.g G.T.b G.T.builtins G.T.nolimit hg hobj hints (Nat.le_trans hlen hn2) hr hF hb fun H hS => hsp w H a ns hlen hS
end U

namespace U
open PySem PySem.Spec PyProof.Rows L2
section
variable {K : PySem.W.Frag} {X : Cx} {a b c e : Expr} {es : List Expr} {x : Str} {p pos : Pos}

/-! ### calls -/
/-- an end where exceptions may leave: b says so, Z what is then known -/
def PostB (K : PySem.W.Frag) (b : Bool) (Z : Exc → Hp → Prop) (w : W) (Q : VK) : Res RV → Prop
  | .ok r S => ∀ w' H' v, w.le w' → Rel K w' S H' → RRV K w' H' r v → Q v H'
  | .exc e S => b = true ∧ ∀ w' H', w.le w' → Rel K w' S H' → Z e H'
  | .bad => False
def tEb (K : PySem.W.Frag) (b : Bool) (Z : L2.St → Exc → Hp → Prop) (f : Env → M RV) : TE := fun σ H Q => ∃ w ρ S, Rel K w S H ∧ RSl K w ρ σ ∧ PostB K b (Z σ) w Q (f ρ S)
theorem PostB.le {b : Bool} {Z : Exc → Hp → Prop} {w w1 : W} {Q : VK} {r : Res RV} (l : w.le w1) (p : PostB K b Z w Q r) : PostB K b Z w1 Q r := by
  cases r with
  | ok v S => exact fun w' H' v l' => p w' H' v (l.trans l')
  | exc _ _ => exact ⟨p.1, fun w' H' l' => p.2 w' H' (l.trans l')⟩
  | bad => exact p
theorem PE.strict {Z : L2.St → Exc → Hp → Prop} {f : Env → M RV} (h : PE X e (tE K f)) : PE X e (tEb K false Z f) := by
  refine PE.weak h fun σ H Q h => ?_
  obtain ⟨w, ρ, S, hr, sl, p⟩ := h
  refine ⟨w, ρ, S, hr, sl, ?_⟩
  cases ev : f ρ S with
  | ok v S1 => rw [ev] at p; exact p
  | exc _ _ => rw [ev] at p; exact absurd p.1 Bool.false_ne_true
  | bad => rw [ev] at p; exact p
/-- what an exception of ours is to a caller: its class, no dict -/
def ZE (cl : Nat → Addr) (E : XK) : Exc → Hp → Prop := fun e H => E (.ref (cl e.C)) none H
def spC (K : PySem.W.Frag) (cl : Nat → Addr) (C : Nat → List SV → M RV) (np f : Nat) : Sp := fun vs H Q E => ∃ w S svs, svs.length = np ∧ Rel K w S H ∧ RSVs K w svs vs ∧ PostB K true (ZE cl E) w Q (C f svs S)
theorem RSVs.len {w : W} : ∀ {xs : List SV} {vs : List V}, RSVs K w xs vs → vs.length = xs.length
  | [], _, h => by rw [show _ = [] from h]; rfl
  | x :: xs, _, ⟨v, r, e, q, t⟩ => by rw [e, List.length_cons, List.length_cons, RSVs.len t]
def callF (C : Nat → List SV → M RV) (f : Nat) (fe : Env → M (List SV)) : Env → M RV := fun ρ => M.bindT false (fe ρ) fun vs => C f vs
theorem passN {P : Program} {w : World} (hP : P = X.prog) (hw : w = X.w) : Passes (L2.CX P w) X (fun _ _ _ => False) := fun _ _ _ _ _ _ _ ⟨_, _, _, _, _, _, _, _, _, _, _, _, z⟩ => z.elim
theorem se_call {C : Nat → List SV → M RV} {cl : Nat → Addr} {f np : Nat} {fe : Env → M (List SV)} {k : Nat} {fa : Addr} {fd : FuncData} {ps : List Str} (hK : X.K = K) (F : FnG X.prog X.w X.K X.mg X.base (L2.CX X.prog X.w) k fa fd ps (spC X.K cl C np f)) (hgd : X.A.guards = some []) (hr : Room k X.A) (hg : Gl X x) (hm : X.mg x = some (.ref fa))
    (hk : PySem.W.keepIn X.K (.ref fa) = true) (hb : Binds X.K fd ps []) (hlen : ∀ vs S, C f vs S ≠ .bad → vs.length = np) (ha : PA X (e :: es) (tA K fe)) (hdb : (x == ("__debug__" : Str)) = false) (ho : (e :: es).all okHead = true) :
    PE X (.Call (.Name x p) (e :: es) [] pos) (tE K (callF C f fe)) := by
  subst hK
  refine PE.weak (ce_call (E := fun _ _ _ => False) F hgd hr hg hm hk hb (passN rfl rfl) ha hdb ho) fun σ H Q h => ?_
  obtain ⟨w, ρ, S, hr, sl, p⟩ := h
  unfold callF at p
  obtain ⟨vs, S1, ex, p⟩ := p.bindT
  obtain ⟨r, S2, er⟩ := p.ok
  refine ⟨w, ρ, S, hr, sl, ?_⟩
  rw [ex]
  exact fun w1 H1 us l r1 q => by
    show spC X.K cl C np f (us ++ []) H1 Q _
    rw [List.append_nil]
    refine ⟨w1, S1, vs, hlen vs S1 (by rw [er]; exact fun z => nomatch z), r1, q, ?_⟩
    rw [er] at p ⊢
    exact fun w' H' v l' => p w' H' v (l.trans l')
section
variable {CX : CXT} {k : Nat} {f : Addr} {fd : FuncData} {ps : List Str} {sp : Sp} {E : L2.St → XK} {t : TA}
theorem run_GS {pins : List (Addr × Obj)} {σ : L2.St} {H : Hp} {s : Shared} {Q : VK} {us : List Value} {vs : List V} (F : FnG X.prog X.w X.K X.mg X.base CX k f fd ps sp) (hg : X.A.guards = some []) (hr : Room k X.A) (hb : Binds X.K fd ps [])
    (hx : PassesAt CX X σ (E σ)) (I : Inv X pins σ H s) (r : Vals vs us) (h : sp vs H Q (E σ)) : wpAny (model X.prog X.w) X.A (call (.ref f) us) (EP X pins σ Q) X.xe s := by
  have hl : us.length = ps.length := r.length.symm.trans (F.len _ _ _ _ h)
  have hbi : BindsTo s fd ⟨us, []⟩ (ps.zip us) := by
    have := hb s us I.kIn (by rw [List.append_nil]; exact hl)
    rw [List.append_nil] at this
    exact this
  refine wpAny_call (codeAny_mono (F.run X.A X.stack s H _ us vs Q (E σ) hg hr I.env0 hbi r h) ?_)
  intro res s' z
  match res, z with
  | .error e, z => exact hx pins H s e s' I z
  | .ok (.ret u), z => exact I.after z
  | .ok .next, z => exact z.elim
  | .ok .brk, z => exact z.elim
  | .ok .cont, z => exact z.elim
theorem ce_callS (F : FnG X.prog X.w X.K X.mg X.base CX k f fd ps sp) (hgd : X.A.guards = some []) (hr : Room k X.A) (hg : Gl X x) (hm : X.mg x = some (.ref f)) (hk : PySem.W.keepIn X.K (.ref f) = true) (hb : Binds X.K fd ps []) (hx : ∀ σ, PassesAt CX X σ (E σ))
    (ha : PA X (e :: es) t) (hdb : (x == ("__debug__" : Str)) = false) (ho : (e :: es).all okHead = true) : PE X (.Call (.Name x p) (e :: es) [] pos) (tCallS sp E t) := by
  rw [List.all_cons, Bool.and_eq_true] at ho
  constructor
  intro pins s σ H Q I h
  refine wpAny_Call_Name_kw (ld_glob I hg hm ?_ hdb)
  refine PySem.W.callWith_K (h₀ := X.base) I.ok.mod.kin hk (thn (ha.run pos pins s σ H _ I h) ?_) (star_cons ho.1) (noStar ho.2)
  rintro us s1 ⟨vs, H1, I1, r, q⟩
  exact ⟨I1.kIn, run_GS F hgd hr hb (hx σ) I1 r q⟩
end
/-- a call that an exception may leave -/
theorem se_callX {C : Nat → List SV → M RV} {cl : Nat → Addr} {W : WX} {f np : Nat} {fe : Env → M (List SV)} {k : Nat} {fa : Addr} {fd : FuncData} {ps : List Str} (hK : X.K = K) (F : FnG X.prog X.w X.K X.mg X.base (L2.CX X.prog X.w) k fa fd ps (spC X.K cl C np f)) (hgd : X.A.guards = some []) (hr : Room k X.A) (hg : Gl X x) (hm : X.mg x = some (.ref fa))
    (hk : PySem.W.keepIn X.K (.ref fa) = true) (hb : Binds X.K fd ps []) (hlen : ∀ vs S, C f vs S ≠ .bad → vs.length = np) (tk : Takes X W) (ha : PA X (e :: es) (tA K fe)) (hdb : (x == ("__debug__" : Str)) = false) (ho : (e :: es).all okHead = true) :
    PE X (.Call (.Name x p) (e :: es) [] pos) (tEb K true (fun σ e H => W (.ref (cl e.C)) none σ H) (callF C f fe)) := by
  subst hK
  refine PE.weak (ce_callS (E := WE W) F hgd hr hg hm hk hb (fun σ => passAt tk σ) ha hdb ho) fun σ H Q h => ?_
  obtain ⟨w, ρ, S, hr, sl, p⟩ := h
  unfold callF M.bindT at p
  refine ⟨w, ρ, S, hr, sl, ?_⟩
  cases ex : fe ρ S with
  | ok vs S1 =>
    rw [ex] at p
    dsimp only at p
    refine fun w1 H1 us l r1 q => ⟨w1, S1, vs, hlen vs S1 (fun z => by rw [z] at p; exact p), r1, q, ?_⟩
    exact p.le l
  | exc _ _ => rw [ex] at p; exact False.elim p
  | bad => rw [ex] at p; exact False.elim p

/-! ### subscripts -/
def ixF (fa fb : Env → M RV) : Env → M RV := fun ρ => M.bind (fa ρ) fun x => M.bind (fb ρ) fun y => fun S => match view S (hold x).rv, view S y with
  | some d, some e => match getIx d e with
    | some v => .ok (.d v) S
    | none => .bad
  | _, _ => .bad
inductive IxC : D → D → D → Prop
  | tup (ds : List D) (i : Int) (k : Nat) (v : D) (h : U.ixN ds.length i = some k) (hv : ds[k]? = some v) : IxC (.tup ds) (.int i) v
  | lst (ds : List D) (i : Int) (k : Nat) (v : D) (h : U.ixN ds.length i = some k) (hv : ds[k]? = some v) : IxC (.lst ds) (.int i) v
  | rol (ds : List D) (i : Int) (k : Nat) (v : D) (h : U.ixN ds.length i = some k) (hv : ds[k]? = some v) : IxC (.rol ds) (.int i) v
  | str (s : Str) (i : Int) (k : Nat) (c : Nat) (hz : sz s.length = true) (h : U.ixN s.length i = some k) (hv : s.cps.toList[k]? = some c) : IxC (.str s) (.int i) (.str ⟨#[c]⟩)
theorem ix_c {d e v : D} (h : getIx d e = some v) : IxC d e v := by
  unfold getIx at h
  split at h
  · split at h
    · exact .tup _ _ _ _ (by assumption) h
    · cases h
  · split at h
    · exact .lst _ _ _ _ (by assumption) h
    · cases h
  · split at h
    · exact .rol _ _ _ _ (by assumption) h
    · cases h
  · split at h
    · split at h
      · split at h
        · cases h; exact .str _ _ _ _ (by assumption) (by assumption) (by assumption)
        · cases h
      · cases h
    · cases h
  · cases h
theorem ixN_eq (n : Nat) (i : Int) : U.ixN n i = L2.ixN n i := rfl
theorem atI_of {α : Type} {xs : List α} {i : Int} {k : Nat} {v : α} (h : U.ixN xs.length i = some k) (hv : xs[k]? = some v) : atI xs i = some v := by
  unfold atI
  rw [← ixN_eq, h]
  exact hv
theorem se_ix {fa fb : Env → M RV} (hK : X.K = K) (ha : PE X a (tE K fa)) (hb : PE X b (tE K fb)) (ho : okHead b = true) : PE X (.Subscript a b pos) (tE K (ixF fa fb)) := by
  subst hK
  refine ⟨fun pins s σ H Q I h => ?_⟩
  obtain ⟨w, ρ, S, hr, sl, p⟩ := h
  unfold ixF at p
  obtain ⟨x, S1, ex, p⟩ := p.bind
  obtain ⟨y, S2, ey, p⟩ := p.bind
  split at p
  · rename_i d e vx vy
    split at p
    · rename_i v hv
      have key : ∀ (r : R2) (_ : IxR X r) (_ : ∀ w2 H2 vx vy, w.le w2 → Rel X.K w2 S2 H2 → RTop X.K w2 H2 d vx → RTop X.K w2 H2 e vy → r vx vy H2 Q), wpAny (model X.prog X.w) X.A (eval (.Subscript a b pos) X.env) (EP X pins σ Q) X.xe s :=
        fun r hr' h => (pe_ix hr' ha hb (plain_ix ho)).run pins s σ H Q I (two' hr sl ex ey vx vy h)
      cases ix_c hv with
      | tup ds i k v h hv =>
        refine key _ ix_tup fun w2 H2 x1 y1 l r2 ⟨a1, v1, e1, t1, d1⟩ q2 => ?_
        obtain ⟨u, hu, ru⟩ := RDs.get X.K d1 hv
        exact ⟨a1, v1, i, u, e1, q2, r2.sub.sqT X.K t1, atI_of (by rw [RDs.len X.K d1]; exact h) hu, p w2 H2 _ l r2 ru⟩
      | lst ds i k v h hv =>
        refine key _ ix_list fun w2 H2 x1 y1 l r2 ⟨a1, v1, e1, t1, d1⟩ q2 => ?_
        obtain ⟨u, hu, ru⟩ := RDs.get X.K d1 hv
        exact ⟨a1, v1, i, u, e1, q2, SqL.of t1, atI_of (by rw [RDs.len X.K d1]; exact h) hu, p w2 H2 _ l r2 ru⟩
      | rol ds i k v h hv =>
        refine key _ ix_list fun w2 H2 x1 y1 l r2 ⟨a1, v1, e1, t1, d1⟩ q2 => ?_
        obtain ⟨u, hu, ru⟩ := RDs.get X.K d1 hv
        exact ⟨a1, v1, i, u, e1, q2, r2.sub.sqL X.K t1, atI_of (by rw [RDs.len X.K d1]; exact h) hu, p w2 H2 _ l r2 ru⟩
      | str z i k c hz h hv2 =>
        refine key _ ix_str fun w2 H2 x1 y1 l r2 q1 q2 => ⟨z, i, c, q1, q2, sz_le hz, atI_of ?_ hv2, p w2 H2 _ l r2 rfl⟩
        rw [Array.length_toList]; exact h
    · exact p.elim
  · exact p.elim

/-! ### slices -/
def slF (fa : Env → M RV) (fl fh : Env → M (Option Int)) : Env → M RV := fun ρ => M.bind (fa ρ) fun x => M.bind (fl ρ) fun l => M.bind (fh ρ) fun h => fun S => match view S (hold x).rv with
  | some d => M.opt (getSl d l h) S
  | none => .bad
theorem PostP.bind {α : Type} {w : W} {Q : Option Int → Hp → Prop} {m : M α} {f : α → M (Option Int)} {S : St} (h : PostP K w Q (M.bind m f S)) : ∃ a S1, m S = .ok a S1 ∧ PostP K w Q (f a S1) := by
  unfold M.bind at h
  split at h
  · exact ⟨_, _, by assumption, h⟩
  · exact h.elim
  · exact h.elim
theorem so_none : PO X none (tP K fun _ => M.ret none) := by
  refine PO.weak po_none fun σ H Q h => ?_
  obtain ⟨w, ρ, S, hr, sl, p⟩ := h
  exact p w H (.refl w) hr
def partF (fa : Env → M RV) : Env → M (Option Int) := fun ρ => M.bind (fa ρ) fun x => match dataInt x with
  | some i => M.ret (some i)
  | none => M.bad
theorem dataInt_eq {r : RV} {i : Int} (h : dataInt r = some i) : r = .d (.int i) := by
  unfold dataInt at h
  split at h
  · cases h; rfl
  · cases h
theorem so_some {fa : Env → M RV} (ha : PE X a (tE K fa)) : PO X (some a) (tP K (partF fa)) := by
  refine PO.weak (po_some ha) fun σ H Q h => ?_
  obtain ⟨w, ρ, S, hr, sl, p⟩ := h
  unfold partF at p
  obtain ⟨x, S1, ex, p⟩ := p.bind
  cases hi : dataInt x with
  | none => rw [hi] at p; exact False.elim p
  | some i =>
    rw [hi] at p
    have := dataInt_eq hi
    subst this
    exact one hr sl ex fun w1 H1 v l r q => ⟨i, q, p w1 H1 l r⟩
theorem sIx_eq (n d : Nat) : ∀ o : Option Int, U.sIx n d o = HT.sIx n d o := by
  intro o
  cases o with
  | none => rfl
  | some v =>
    have h := HT.clip_eq v n d
    show (if v < 0 then (v + (n : Int)).toNat else min v.toNat n) = _
    by_cases hv : v < 0
    · rw [if_pos hv] at h ⊢
      omega
    · rw [if_neg hv] at h ⊢
      omega
inductive SlC : D → Option Int → Option Int → RV → Prop
  | tup (ds : List D) (l h : Option Int) : SlC (.tup ds) l h (.d (.tup (U.cut ds l h)))
  | lst (ds : List D) (l h : Option Int) : SlC (.lst ds) l h (.new (.lst (U.cut ds l h)))
  | str (z : Str) (l h : Option Int) (hz : sz z.length = true) : SlC (.str z) l h (.d (.str ⟨(U.cut z.cps.toList l h).toArray⟩))
theorem sl_c {d : D} {l h : Option Int} {r : RV} (e : getSl d l h = some r) : SlC d l h r := by
  unfold getSl at e
  split at e
  · cases e; constructor
  · cases e; constructor
  · split at e
    · cases e; constructor; assumption
    · cases e
  · cases e
theorem RDs.cut {F : Hp} {g : List Addr} {ds : List D} {vs : List V} (h : RDs K F g ds vs) (lo hi : Option Int) : RDs K F g (U.cut ds lo hi) (cutV vs lo hi) := by
  unfold U.cut cutV
  rw [RDs.len K h, sIx_eq, sIx_eq]
  exact RDs.take K _ (RDs.drop K _ h)
theorem se_sl {fa : Env → M RV} {fl fh : Env → M (Option Int)} {lo hi : Option Expr} {p2 : Pos} (hK : X.K = K) (ha : PE X a (tE K fa)) (hl : PO X lo (tP K fl)) (hh : PO X hi (tP K fh)) : PE X (.Subscript a (.Slice lo hi none p2) pos) (tE K (slF fa fl fh)) := by
  subst hK
  refine ⟨fun pins s σ H Q I h => ?_⟩
  obtain ⟨w, ρ, S, hr, sl, p⟩ := h
  unfold slF at p
  obtain ⟨x, S1, ex, p⟩ := p.bind
  obtain ⟨l, S2, el, p⟩ := p.bind
  obtain ⟨h, S3, eh, p⟩ := p.bind
  split at p
  · rename_i d vd
    have key : ∀ (r : V → Option Int → Option Int → Hp → VK → Prop) (_ : SlR X r) (_ : ∀ w2 H2 vx, w.le w2 → Rel X.K w2 S3 H2 → RTop X.K w2 H2 d vx → r vx l h H2 Q), wpAny (model X.prog X.w) X.A (eval (.Subscript a (.Slice lo hi none p2) pos) X.env) (EP X pins σ Q) X.xe s := by
      intro r hr' hq
      refine (pe_slice hr' ha hl hh).run pins s σ H Q I ?_
      refine one hr sl ex fun w1 H1 v1 l1 r1 q1 => ?_
      obtain ⟨w1', l1', r1', _, q1'⟩ := r1.hold X.K q1
      refine ⟨w1', ρ, S1, r1', sl.mono X.K (l1.trans l1'), ?_⟩
      rw [el]
      intro w2 H2 l2 r2
      refine ⟨w2, ρ, S2, r2, sl.mono X.K ((l1.trans l1').trans l2), ?_⟩
      rw [eh]
      intro w3 H3 l3 r3
      exact hq w3 H3 v1 (((l1.trans l1').trans l2).trans l3) r3 (r3.view X.K (RRV.of X.K (q1'.mono X.K (l2.trans l3))) vd)
    cases hs : getSl d l h with
    | none => rw [hs] at p; exact False.elim p
    | some r =>
      rw [hs] at p
      cases sl_c hs with
      | tup ds l h =>
        refine key _ sl_tupA fun w2 H2 x1 l2 r2 ⟨a1, v1, e1, t1, d1⟩ => ⟨a1, v1, e1, r2.sub.sqT X.K t1, fun z => ?_, fun z => ?_⟩
        · refine p w2 H2 _ l2 r2 ⟨a1, v1, rfl, t1, ?_⟩
          have e : cutV v1 l h = v1 := by
            unfold cutV
            rw [z.1, z.2]
            simp
          have d2 := d1.cut l h
          rw [e] at d2
          exact d2
        · exact r2.newT (d1.cut l h) fun w' H' v l' => p w' H' v (l2.trans l')
      | lst ds l h =>
        refine key _ sl_list fun w2 H2 x1 l2 r2 ⟨a1, v1, e1, t1, d1⟩ => ⟨a1, v1, e1, SqL.of t1, ?_⟩
        exact r2.newL (d1.cut l h) fun w' H' v l' => p w' H' v (l2.trans l')
      | str z l h hz =>
        refine key _ sl_str fun w2 H2 x1 l2 r2 q1 => ⟨z, q1, sz_le hz, ?_⟩
        have e : cutS z l h = ⟨(U.cut z.cps.toList l h).toArray⟩ := by
          unfold cutS U.cut
          rw [sIx_eq, sIx_eq, Array.length_toList]
          rfl
        rw [e]
        exact p w2 H2 _ l2 r2 rfl
  · exact p.elim
end
end U

set_option exponentiation.threshold 2000
namespace U
open PySem PySem.Spec PyProof.Rows L2
section
variable {K : PySem.W.Frag} {H : Hp} {g : List Addr}
mutual
theorem rd_dpS : ∀ (n : Nat) (d : D) {v : V}, showB n d = true → RD K H g d v → Dp K H v (D.py d)
  | _, .non, v, _, q => by rw [show v = .non from q]; exact .non
  | _, .bl b, v, _, q => by rw [show v = .bl b from q]; exact .bl b
  | _, .int i, v, _, q => by rw [show v = .int i from q]; exact .int i
  | _, .str s, v, _, q => by rw [show v = .str s from q]; exact .str s
  | n + 1, .tup ds, v, h, ⟨a, vs, e, t, r⟩ => by subst e; exact .tup t (rds_dpS n ds h r)
  | n + 1, .lst ds, v, h, ⟨a, vs, e, t, r⟩ => by subst e; exact .lst (SqL.of t) (rds_dpS n ds h r)
  | 0, .tup _, _, h, _ => by simp [showB] at h
  | 0, .lst _, _, h, _ => by simp [showB] at h
  | _, .dic _, _, h, _ => by simp [showB] at h
  | _, .ref _, _, h, _ => by simp [showB] at h
  | _, .rol _, _, h, _ => by simp [showB] at h
theorem rds_dpS : ∀ (n : Nat) (ds : List D) {vs : List V}, showBs n ds = true → RDs K H g ds vs → DpAll K H vs (D.pys ds)
  | n, [], vs, _, q => by rw [show vs = [] from q]; exact .nil
  | n, d :: ds, vs, h, ⟨v, r, e, q, t⟩ => by
    subst e
    rw [showBs, Bool.and_eq_true] at h
    exact .cons (rd_dpS n d h.1 q) (rds_dpS n ds h.2 t)
end
theorem log_ok {i : Int} (h : (decide (-1000000000000000000000 ≤ i) && decide (i ≤ 1000000000000000000000)) = true) : i.natAbs.log2 < 1920 := by
  rw [Bool.and_eq_true, decide_eq_true_eq, decide_eq_true_eq] at h
  by_cases h0 : i.natAbs = 0
  · rw [h0]; decide
  · have h1 : i.natAbs < 2 ^ 1920 := Nat.lt_of_le_of_lt (show i.natAbs ≤ 1000000000000000000000 by omega) (by decide)
    exact (Nat.log2_lt h0).mpr h1
mutual
theorem py_show : ∀ (n : Nat) (d : D), showB n d = true → (D.py d).showable = true ∧ (D.py d).hasDict = false ∧ (D.py d).depth ≤ n
  | n, .non, _ => ⟨rfl, rfl, Nat.zero_le _⟩
  | n, .bl _, _ => ⟨rfl, rfl, Nat.zero_le _⟩
  | n, .int i, h => ⟨by
      have h' : (decide (-1000000000000000000000 ≤ i) && decide (i ≤ 1000000000000000000000)) = true := by cases n <;> simpa [showB] using h
      show decide (i.natAbs.log2 < 1920) = true
      exact decide_eq_true (log_ok h'), rfl, Nat.zero_le _⟩
  | n, .str s, h => ⟨rfl, rfl, Nat.zero_le _⟩
  | n + 1, .tup ds, h => by
    obtain ⟨h1, h2, h3⟩ := pys_show n ds h
    exact ⟨h1, h2, Nat.succ_le_succ h3⟩
  | n + 1, .lst ds, h => by
    obtain ⟨h1, h2, h3⟩ := pys_show n ds h
    exact ⟨h1, h2, Nat.succ_le_succ h3⟩
  | 0, .tup _, h => by simp [showB] at h
  | 0, .lst _, h => by simp [showB] at h
  | _, .dic _, h => by simp [showB] at h
  | _, .ref _, h => by simp [showB] at h
  | _, .rol _, h => by simp [showB] at h
theorem pys_show : ∀ (n : Nat) (ds : List D), showBs n ds = true → PyData.showableAll (D.pys ds) = true ∧ PyData.hasDictAll (D.pys ds) = false ∧ PyData.depthAll (D.pys ds) ≤ n
  | n, [], _ => ⟨rfl, rfl, Nat.zero_le _⟩
  | n, d :: ds, h => by
    rw [showBs, Bool.and_eq_true] at h
    obtain ⟨a1, a2, a3⟩ := py_show n d h.1
    obtain ⟨b1, b2, b3⟩ := pys_show n ds h.2
    refine ⟨?_, ?_, ?_⟩
    · show (PyData.showable (D.py d) && PyData.showableAll (D.pys ds)) = true
      rw [a1, b1]; rfl
    · show (PyData.hasDict (D.py d) || PyData.hasDictAll (D.pys ds)) = false
      rw [a2, b2]; rfl
    · show max (PyData.depth (D.py d)) (PyData.depthAll (D.pys ds)) ≤ n
      omega
end
end
section
variable {X : Cx}
/-- repr of data -/
def rRepr (K : PySem.W.Frag) : List V → Hp → VK → Prop := fun xs H Q => ∃ v d, xs = [v] ∧ Dp K H v d ∧ d.showable = true ∧ d.hasDict = false ∧ d.depth ≤ 20 ∧ d.shown.length ≤ sizeLine ∧ Q (.str d.shown) H
theorem call_repr (hg : X.A.guards = some []) (hu : X.A.units + 65 < cLine) : CallR X (.builtin "repr") (rRepr X.K) := by
  intro pins s σ H xs us Q I r h
  obtain ⟨v, d, rfl, hd, hs, hn, hdp, hz, q⟩ := h
  obtain ⟨u, rfl, ru⟩ := vals1 r
  cases hd with
  | non => cases ru; exact PySem.P.repr_of_none ⟨.str _, H, I.tok _, ⟨_, rfl⟩, q⟩
  | bl b => cases ru; exact PySem.P.repr_of_bool ⟨.str _, H, I.tok _, ⟨_, rfl⟩, (by cases b <;> exact q)⟩
  | int i =>
    obtain ⟨t, rfl⟩ := ru
    exact PySem.P.repr_of_int (of_decide_eq_true hs) ⟨.str _, H, I.tok _, ⟨_, rfl⟩, q⟩
  | str x =>
    obtain ⟨t, rfl⟩ := ru
    exact PySem.P.repr_of_str ⟨.str _, H, I.tok _, ⟨_, rfl⟩, q⟩ hz
  | lst h1 h2 =>
    obtain ⟨as, rd⟩ := Dp.reads I _ _ _ (Dp.lst h1 h2) ru
    cases ru
    exact PySem.repr_of_reads' rd hs (fun z => by rw [hn] at z; cases z) hg (by omega) (fun _ _ z => z) (fun h' u tk k => ⟨.str _, H, I.kept k, ⟨_, rfl⟩, q⟩) hz
  | tup h1 h2 =>
    obtain ⟨as, rd⟩ := Dp.reads I _ _ _ (Dp.tup h1 h2) ru
    cases ru
    exact PySem.repr_of_reads' rd hs (fun z => by rw [hn] at z; cases z) hg (by omega) (fun _ _ z => z) (fun h' u tk k => ⟨.str _, H, I.kept k, ⟨_, rfl⟩, q⟩) hz
end

/-! ### built-ins by name -/
def bval : B1 → Value
  | .int => .type "int" | .tuple => .type "tuple" | .list => .type "list" | .str => .type "str" | .set => .type "set"
  | .len => .builtin "len" | .sum => .builtin "sum" | .repr => .builtin "repr" | .max => .builtin "max" | .min => .builtin "min" | .sorted => .builtin "sorted" | .absV => .builtin "abs"
  | .isTup => .builtin "isinstance" | .isStr => .builtin "isinstance" | .isInt => .builtin "isinstance" | .isBool => .builtin "isinstance"
def bname : B1 → Str
  | .int => "int" | .tuple => "tuple" | .list => "list" | .str => "str" | .set => "set"
  | .len => "len" | .sum => "sum" | .repr => "repr" | .max => "max" | .min => "min" | .sorted => "sorted" | .absV => "abs"
  | .isTup => "isinstance" | .isStr => "isinstance" | .isInt => "isinstance" | .isBool => "isinstance"
theorem bboot (b : B1) : bootBuiltins (bname b) = some (bval b) := by cases b <;> decide +kernel
theorem bdebug (b : B1) : (bname b == ("__debug__" : Str)) = false := by cases b <;> decide +kernel
theorem bnoname (b : B1) : bname b ≠ "__name__" := by cases b <;> decide +kernel
section
variable {X : Cx} {e : Expr} {es : List Expr} {t : TA} {p pos : Pos} {r : List V → Hp → VK → Prop}
theorem ce_blt {b : B1} (hc : CallR X (bval b) r) (hg : Gl X (bname b)) (hm : X.mg (bname b) = none) (ha : PA X (e :: es) t) (ho : (e :: es).all okHead = true) : PE X (.Call (.Name (bname b) p) (e :: es) [] pos) (tCB r t) := by
  rw [List.all_cons, Bool.and_eq_true] at ho
  have h1 : ∀ (id : String), bval b = .builtin id → PE X (.Call (.Name (bname b) p) (e :: es) [] pos) (tCB r t) := fun id h => by
    rw [h] at hc
    exact pe_callB hc hg hm (by rw [bboot, h]) ha (bnoname b) (bdebug b) (star_cons ho.1) (noStar ho.2)
  have h2 : ∀ (id : String), bval b = .type id → PE X (.Call (.Name (bname b) p) (e :: es) [] pos) (tCB r t) := fun id h => by
    rw [h] at hc
    exact pe_callTy hc hg hm (by rw [bboot, h]) ha (bnoname b) (bdebug b) (star_cons ho.1) (noStar ho.2)
  cases b <;> first | exact h1 _ rfl | exact h2 _ rfl

/-! ### the mathematics of max, min, sorted -/
theorem foldl_max : ∀ (l : List Int) (x : Int), (l.foldl (fun a b => if b > a then b else a) x = x ∨ l.foldl (fun a b => if b > a then b else a) x ∈ l) ∧ x ≤ l.foldl (fun a b => if b > a then b else a) x ∧ ∀ y ∈ l, y ≤ l.foldl (fun a b => if b > a then b else a) x
  | [], x => ⟨.inl rfl, Int.le_refl _, fun y hy => by cases hy⟩
  | z :: l, x => by
    obtain ⟨h1, h2, h3⟩ := foldl_max l (if z > x then z else x)
    rw [List.foldl_cons]
    refine ⟨?_, ?_, fun y hy => ?_⟩
    · rcases h1 with h1 | h1
      · rw [h1]; split
        · exact .inr List.mem_cons_self
        · exact .inl rfl
      · exact .inr (List.mem_cons_of_mem _ h1)
    · refine Int.le_trans ?_ h2; split <;> omega
    · rcases List.mem_cons.mp hy with rfl | hy
      · refine Int.le_trans ?_ h2; split <;> omega
      · exact h3 y hy
theorem foldl_min : ∀ (l : List Int) (x : Int), (l.foldl (fun a b => if b < a then b else a) x = x ∨ l.foldl (fun a b => if b < a then b else a) x ∈ l) ∧ l.foldl (fun a b => if b < a then b else a) x ≤ x ∧ ∀ y ∈ l, l.foldl (fun a b => if b < a then b else a) x ≤ y
  | [], x => ⟨.inl rfl, Int.le_refl _, fun y hy => by cases hy⟩
  | z :: l, x => by
    obtain ⟨h1, h2, h3⟩ := foldl_min l (if z < x then z else x)
    rw [List.foldl_cons]
    refine ⟨?_, ?_, fun y hy => ?_⟩
    · rcases h1 with h1 | h1
      · rw [h1]; split
        · exact .inr List.mem_cons_self
        · exact .inl rfl
      · exact .inr (List.mem_cons_of_mem _ h1)
    · refine Int.le_trans h2 ?_; split <;> omega
    · rcases List.mem_cons.mp hy with rfl | hy
      · refine Int.le_trans h2 ?_; split <;> omega
      · exact h3 y hy
theorem maxL_eq {ns : List Int} {m m' : Int} (h : maxL ns = some m) (h1 : m' ∈ ns) (h2 : ∀ y ∈ ns, y ≤ m') : m' = m := by
  cases ns with
  | nil => cases h1
  | cons x r =>
    cases (show some (r.foldl (fun a b => if b > a then b else a) x) = some m from h)
    obtain ⟨a1, a2, a3⟩ := foldl_max r x
    have b1 : m' ≤ r.foldl (fun a b => if b > a then b else a) x := by
      rcases List.mem_cons.mp h1 with rfl | h1
      · exact a2
      · exact a3 _ h1
    have b2 : r.foldl (fun a b => if b > a then b else a) x ≤ m' := by
      rcases a1 with a1 | a1
      · rw [a1]; exact h2 _ List.mem_cons_self
      · exact h2 _ (List.mem_cons_of_mem _ a1)
    omega
theorem minL_eq {ns : List Int} {m m' : Int} (h : minL ns = some m) (h1 : m' ∈ ns) (h2 : ∀ y ∈ ns, m' ≤ y) : m' = m := by
  cases ns with
  | nil => cases h1
  | cons x r =>
    cases (show some (r.foldl (fun a b => if b < a then b else a) x) = some m from h)
    obtain ⟨a1, a2, a3⟩ := foldl_min r x
    have b1 : r.foldl (fun a b => if b < a then b else a) x ≤ m' := by
      rcases List.mem_cons.mp h1 with rfl | h1
      · exact a2
      · exact a3 _ h1
    have b2 : m' ≤ r.foldl (fun a b => if b < a then b else a) x := by
      rcases a1 with a1 | a1
      · rw [a1]; exact h2 _ List.mem_cons_self
      · exact h2 _ (List.mem_cons_of_mem _ a1)
    omega
theorem insI_perm (x : Int) : ∀ l : List Int, (insI x l).Perm (x :: l)
  | [] => .refl _
  | y :: r => by
    unfold insI
    split
    · exact .refl _
    · exact ((insI_perm x r).cons y).trans (.swap x y r)
theorem insI_mem (x : Int) (l : List Int) {z : Int} (h : z ∈ insI x l) : z = x ∨ z ∈ l := List.mem_cons.mp ((insI_perm x l).mem_iff.mp h)
theorem insI_sorted (x : Int) : ∀ {l : List Int}, l.Pairwise (· ≤ ·) → (insI x l).Pairwise (· ≤ ·)
  | [], _ => List.pairwise_singleton _ _
  | y :: r, h => by
    unfold insI
    split
    · rename_i hxy
      refine List.pairwise_cons.mpr ⟨fun z hz => ?_, h⟩
      rcases List.mem_cons.mp hz with rfl | hz
      · exact hxy
      · exact Int.le_trans hxy ((List.pairwise_cons.mp h).1 z hz)
    · rename_i hxy
      refine List.pairwise_cons.mpr ⟨fun z hz => ?_, insI_sorted x (List.pairwise_cons.mp h).2⟩
      rcases insI_mem x r hz with rfl | hz
      · omega
      · exact (List.pairwise_cons.mp h).1 z hz
theorem sortI_perm : ∀ l : List Int, (sortI l).Perm l
  | [] => .refl _
  | x :: l => (insI_perm x _).trans ((sortI_perm l).cons x)
theorem sortI_sorted : ∀ l : List Int, (sortI l).Pairwise (· ≤ ·)
  | [] => .nil
  | x :: l => insI_sorted x (sortI_sorted l)
theorem sortI_eq {ns ns' : List Int} (h1 : ns'.Perm ns) (h2 : ns'.Pairwise (· ≤ ·)) : ns' = sortI ns :=
  List.Perm.eq_of_pairwise (le := (· ≤ ·)) (fun a b _ _ h h' => Int.le_antisymm h h') h2 (sortI_sorted ns) (h1.trans (sortI_perm ns).symm)

/-! ### one argument -/
theorem intsD_some {ds : List D} : ∀ {ns : List Int}, intsD ds = some ns → ds = ns.map D.int := by
  induction ds with
  | nil => intro ns h; cases h; rfl
  | cons d ds ih =>
    intro ns h
    cases d with
    | int i =>
      unfold intsD at h
      cases e : intsD ds with
      | none => rw [e] at h; cases h
      | some m => rw [e] at h; cases h; rw [ih e]; rfl
    | _ => cases h
/-! tuples of ints, sorted -/
theorem okT_ok {d : Nat} {l : List (List Int)} (h : okT d l = true) : 1 ≤ d ∧ l.length < 64 ∧ ∀ m ∈ l, m.length = d ∧ TS.Bd 1048576 m := by
  unfold okT at h
  simp only [Bool.and_eq_true, decide_eq_true_eq, List.all_eq_true] at h
  obtain ⟨⟨h1, h2⟩, h3⟩ := h
  refine ⟨h1, h2, fun m hm => ⟨(h3 m hm).1, fun i hi => ?_⟩⟩
  have := (h3 m hm).2
  unfold bdB at this
  have := List.all_eq_true.mp this i hi
  simp only [Bool.and_eq_true, decide_eq_true_eq] at this
  exact this
theorem tupsI_some : ∀ {ds : List D} {l : List (List Int)}, tupsI ds = some l → ds = l.map tiD
  | [], l, h => by cases h; rfl
  | d :: ds, l, h => by
    unfold tupsI at h
    cases e : tupI d with
    | none => rw [e] at h; cases h
    | some n =>
      rw [e] at h
      dsimp only at h
      cases e2 : tupsI ds with
      | none => rw [e2] at h; cases h
      | some m =>
        rw [e2] at h
        cases h
        rw [List.map_cons, ← tupsI_some e2]
        congr 1
        cases d with
        | tup xs => rw [tiD, ← intsD_some e]
        | _ => cases e
theorem tups_len {ds : List D} {l : List (List Int)} (h : tupsI ds = some l) : ds.length = l.length := by rw [tupsI_some h, List.length_map]
theorem intsD_map0 : ∀ f : List Int, intsD (f.map D.int) = some f
  | [] => rfl
  | c :: f => by rw [List.map_cons, intsD, intsD_map0 f]; rfl
theorem cd_eq : ∀ n : List Int, cdI n = TS.code 1048576 n
  | [] => rfl
  | d :: r => by rw [cdI, cd_eq r]; rfl
section
variable {K : PySem.W.Frag} {H F : Hp} {g : List Addr}
/-- a tuple of ints as a value -/
theorem tup_rd {n : List Int} {v : V} (hs : sub F H) (h : RD K F g (tiD n) v) : L2.TupI K H v n := by
  obtain ⟨a, vs, e, t, q⟩ := h
  refine ⟨a, e, ?_⟩
  rw [← RDs.ints K (intsD_map0 n) q]
  exact hs.sqT K t
theorem tups_each (hs : sub F H) {d : Nat} : ∀ {l : List (List Int)} {vs : List V}, (∀ m ∈ l, m.length = d ∧ TS.Bd 1048576 m) → RDs K F g (l.map tiD) vs → ∀ {y : V}, y ∈ vs → ∃ ns, L2.TupI K H y ns ∧ ns.length = d ∧ TS.Bd 1048576 ns
  | [], vs, _, q, y, hy => by rw [show vs = [] from q] at hy; cases hy
  | n :: l, _, hall, ⟨v, r, e, q, t⟩, y, hy => by
    subst e
    rcases List.mem_cons.mp hy with rfl | hy
    · exact ⟨n, tup_rd hs q, hall n List.mem_cons_self⟩
    · exact tups_each hs (fun m hm => hall m (List.mem_cons_of_mem _ hm)) t hy
theorem tups_perm {ys vs : List V} (h : ys.Perm vs) : ∀ l : List (List Int), RDs K F g (l.map tiD) vs → ∃ l' : List (List Int), l'.Perm l ∧ RDs K F g (l'.map tiD) ys := by
  induction h with
  | nil => exact fun l q => ⟨l, .refl _, q⟩
  | cons x _ ih =>
    intro l q
    cases l with
    | nil => cases (show _ = [] from q)
    | cons n l =>
      obtain ⟨v, r, e, q1, t⟩ := q
      cases e
      obtain ⟨l', p, q2⟩ := ih l t
      exact ⟨n :: l', p.cons n, _, _, rfl, q1, q2⟩
  | swap x y zs =>
    intro l q
    cases l with
    | nil => cases (show _ = [] from q)
    | cons n l =>
      obtain ⟨v, r, e, q1, t⟩ := q
      cases e
      cases l with
      | nil => cases (show _ = [] from t)
      | cons m l =>
        obtain ⟨v2, r2, e2, q2, t2⟩ := t
        cases e2
        exact ⟨m :: n :: l, .swap _ _ _, _, _, rfl, q2, _, _, rfl, q1, t2⟩
  | trans _ _ ih1 ih2 =>
    intro l q
    obtain ⟨l1, p1, q1⟩ := ih2 l q
    obtain ⟨l2, p2, q2⟩ := ih1 l1 q1
    exact ⟨l2, p2.trans p1, q2⟩
theorem cd_inj {d : Nat} : ∀ {a b : List Int}, a.length = d → b.length = d → TS.Bd 1048576 a → TS.Bd 1048576 b → cdI a = cdI b → a = b := by
  induction d with
  | zero => intro a b ha hb _ _ _; rw [List.eq_nil_of_length_eq_zero ha, List.eq_nil_of_length_eq_zero hb]
  | succ d ih =>
    intro a b ha hb h1 h2 e
    cases a with
    | nil => cases ha
    | cons x a =>
      cases b with
      | nil => cases hb
      | cons y b =>
        have la : a.length = d := by simpa using ha
        have lb : b.length = d := by simpa using hb
        rw [cd_eq, cd_eq] at e
        have hxy : x = y := by
          rcases Int.lt_trichotomy x y with z | z | z
          · have := TS.code_lt (B := 1048576) (la.trans lb.symm) h1.tail h2.tail z
            omega
          · exact z
          · have := TS.code_lt (B := 1048576) (lb.trans la.symm) h2.tail h1.tail z
            omega
        subst hxy
        have e2 : cdI a = cdI b := by
          rw [cd_eq, cd_eq]
          rw [TS.code, TS.code, la, lb] at e
          omega
        rw [ih la lb h1.tail h2.tail e2]
theorem insT_perm (x : List Int) : ∀ l, (insT x l).Perm (x :: l)
  | [] => .refl _
  | y :: l => by
    unfold insT
    split
    · exact .refl _
    · exact ((insT_perm x l).cons y).trans (.swap x y l)
theorem sortT_perm : ∀ l, (sortT l).Perm l
  | [] => .refl _
  | x :: l => (insT_perm x (sortT l)).trans ((sortT_perm l).cons x)
theorem insT_sorted (x : List Int) : ∀ {l : List (List Int)}, l.Pairwise (fun a b => cdI a ≤ cdI b) → (insT x l).Pairwise (fun a b => cdI a ≤ cdI b)
  | [], _ => by unfold insT; exact List.pairwise_singleton _ _
  | y :: l, h => by
    obtain ⟨h1, h2⟩ := List.pairwise_cons.mp h
    unfold insT
    split
    · rename_i hxy
      refine List.pairwise_cons.mpr ⟨fun z hz => ?_, h⟩
      rcases List.mem_cons.mp hz with rfl | hz
      · exact hxy
      · exact Int.le_trans hxy (h1 z hz)
    · rename_i hxy
      refine List.pairwise_cons.mpr ⟨fun z hz => ?_, insT_sorted x h2⟩
      rcases List.mem_cons.mp ((insT_perm x l).mem_iff.mp hz) with rfl | hz
      · omega
      · exact h1 z hz
theorem sortT_sorted : ∀ l : List (List Int), (sortT l).Pairwise (fun a b => cdI a ≤ cdI b)
  | [] => .nil
  | x :: l => insT_sorted x (sortT_sorted l)
theorem tups_pair (hs : sub F H) : ∀ {l : List (List Int)} {ys : List V}, RDs K F g (l.map tiD) ys → ys.Pairwise (fun x y => ∀ n m, L2.TupI K H x n → L2.TupI K H y m → TS.code 1048576 n ≤ TS.code 1048576 m) → l.Pairwise (fun a b => cdI a ≤ cdI b)
  | [], _, _, _ => .nil
  | n :: l, _, ⟨v, r, e, q, t⟩, h => by
    subst e
    obtain ⟨h1, h2⟩ := List.pairwise_cons.mp h
    refine List.pairwise_cons.mpr ⟨fun m hm => ?_, tups_pair hs t h2⟩
    obtain ⟨i, hi, rfl⟩ := List.getElem_of_mem hm
    obtain ⟨y, hy, qy⟩ := RDs.get K (i := i) t (by rw [List.getElem?_map, List.getElem?_eq_getElem hi]; rfl)
    rw [cd_eq, cd_eq]
    exact h1 y (List.mem_of_getElem? hy) _ _ (tup_rd hs q) (tup_rd hs qy)
theorem tups_sorted (hs : sub F H) {d : Nat} {l : List (List Int)} {ys vs : List V} (hall : ∀ m ∈ l, m.length = d ∧ TS.Bd 1048576 m) (q : RDs K F g (l.map tiD) vs) (h1 : ys.Perm vs) (h2 : ys.Pairwise (fun x y => ∀ n m, L2.TupI K H x n → L2.TupI K H y m → TS.code 1048576 n ≤ TS.code 1048576 m)) : RDs K F g ((sortT l).map tiD) ys := by
  obtain ⟨l', p, q2⟩ := tups_perm h1 l q
  have s1 := tups_pair hs q2 h2
  have e : l' = sortT l := List.Perm.eq_of_pairwise (le := fun a b => cdI a ≤ cdI b) (fun a b ha hb x y => by
    have a1 := hall a (p.mem_iff.mp ha)
    have b1 := hall b ((sortT_perm l).mem_iff.mp hb)
    exact cd_inj a1.1 b1.1 a1.2 b1.2 (Int.le_antisymm x y)) s1 (sortT_sorted l) (p.trans (sortT_perm l).symm)
  rw [← e]
  exact q2
end
inductive B1C : B1 → D → RV → Prop
  | intI (i : Int) : B1C .int (.int i) (.d (.int i))
  | intB (b : Bool) : B1C .int (.bl b) (.d (.int (if b then 1 else 0)))
  | lenS (s : Str) (h : sz s.length = true) : B1C .len (.str s) (.d (.int s.length))
  | lenT (ds : List D) : B1C .len (.tup ds) (.d (.int ds.length))
  | lenL (ds : List D) : B1C .len (.lst ds) (.d (.int ds.length))
  | lenR (ds : List D) : B1C .len (.rol ds) (.d (.int ds.length))
  | tupT (ds : List D) : B1C .tuple (.tup ds) (.d (.tup ds))
  | tupL (ds : List D) : B1C .tuple (.lst ds) (.d (.tup ds))
  | lstT (ds : List D) : B1C .list (.tup ds) (.new (.lst ds))
  | lstL (ds : List D) : B1C .list (.lst ds) (.new (.lst ds))
  | sum (ds : List D) (ns : List Int) (h : intsD ds = some ns) : B1C .sum (.lst ds) (.d (.int ns.sum))
  | max (ds : List D) (ns : List Int) (m : Int) (h : intsD ds = some ns) (hm : maxL ns = some m) : B1C .max (.lst ds) (.d (.int m))
  | min (ds : List D) (ns : List Int) (m : Int) (h : intsD ds = some ns) (hm : minL ns = some m) : B1C .min (.lst ds) (.d (.int m))
  | sorted (ds : List D) (r : RV) (h : sortedD ds = some r) : B1C .sorted (.lst ds) r
  | strI (i : Int) (h : (decide (-1000000000000000000000 ≤ i) && decide (i ≤ 1000000000000000000000)) = true) : B1C .str (.int i) (.d (.str (Str.ofString (toString i))))
  | strS (s : Str) : B1C .str (.str s) (.d (.str s))
  | repr (d : D) (h : showB 20 d = true) (hz : sz (PyData.shown d.py).length = true) : B1C .repr d (.d (.str (PyData.shown d.py)))
theorem sorted_c {ds : List D} {r : RV} (h : sortedD ds = some r) : (∃ ns, intsD ds = some ns ∧ r = .new (.lst ((sortI ns).map .int))) ∨ ∃ n l, tupsI ds = some (n :: l) ∧ okT n.length (n :: l) = true ∧ r = .new (.lst ((sortT (n :: l)).map tiD)) := by
  unfold sortedD at h
  split at h
  · rename_i ns e
    cases h
    exact .inl ⟨ns, e, rfl⟩
  · split at h
    · rename_i n l e
      split at h
      · rename_i ho
        cases h
        exact .inr ⟨n, l, e, ho, rfl⟩
      · cases h
    · cases h
theorem b1_c {b : B1} {d : D} {r : RV} (h : blt1 b d = some r) : B1C b d r := by
  unfold blt1 at h
  split at h
  all_goals first
    | exact .sorted _ _ h
    | (cases h; constructor; done)
    | (split at h
       · cases h; constructor; assumption
       · cases h)
    | (rename_i ds
       cases e : intsD ds with
       | none => rw [e] at h; cases h
       | some ns => rw [e] at h; cases h; constructor; assumption)
    | (rename_i ds
       cases e : intsD ds with
       | none => rw [e] at h; cases h
       | some ns =>
         rw [e] at h
         dsimp only at h
         cases em : maxL ns with
         | none => rw [em] at h; cases h
         | some m => rw [em] at h; cases h; exact .max _ _ _ e em)
    | (rename_i ds
       cases e : intsD ds with
       | none => rw [e] at h; cases h
       | some ns =>
         rw [e] at h
         dsimp only at h
         cases em : minL ns with
         | none => rw [em] at h; cases h
         | some m => rw [em] at h; cases h; exact .min _ _ _ e em)
    | (split at h
       · rename_i hh
         rw [Bool.and_eq_true] at hh
         cases h
         exact .repr _ hh.1 hh.2
       · cases h)
    | cases h
theorem b1_rule {b : B1} {d : D} {r : RV} (hc : X.calm = true) (hgd : X.A.guards = some []) (hu : X.A.units + 65 < cLine) (h : blt1 b d = some r) : ∃ rr, CallR X (bval b) rr ∧
    ∀ (w : W) (S : St) (H : Hp) (x : V) (Q : VK), Rel X.K w S H → RTop X.K w H d x → (∀ w' H' v, w.le w' → Rel X.K w' S H' → RRV X.K w' H' r v → Q v H') → rr [x] H Q := by
  cases b1_c h with
  | intI i => exact ⟨_, call_int1, fun w S H x Q r q p => .inl ⟨i, by rw [show x = .int i from q], p w H _ (.refl w) r rfl⟩⟩
  | intB b => exact ⟨_, call_int1, fun w S H x Q r q p => .inr ⟨b, by rw [show x = .bl b from q], p w H _ (.refl w) r rfl⟩⟩
  | lenS s hz => exact ⟨_, call_len_str, fun w S H x Q r q p => ⟨s, by rw [show x = .str s from q], sz_le hz, p w H _ (.refl w) r rfl⟩⟩
  | lenT ds => exact ⟨_, call_len_seq, fun w S H x Q r ⟨a, vs, e, t, q⟩ p => ⟨a, vs, by rw [e], .inr (r.sub.sqT X.K t), p w H _ (.refl w) r (by rw [RDs.len X.K q]; rfl)⟩⟩
  | lenL ds => exact ⟨_, call_len_seq, fun w S H x Q r ⟨a, vs, e, t, q⟩ p => ⟨a, vs, by rw [e], .inl (SqL.of t), p w H _ (.refl w) r (by rw [RDs.len X.K q]; rfl)⟩⟩
  | lenR ds => exact ⟨_, call_len_seq, fun w S H x Q r ⟨a, vs, e, t, q⟩ p => ⟨a, vs, by rw [e], .inl (r.sub.sqL X.K t), p w H _ (.refl w) r (by rw [RDs.len X.K q]; rfl)⟩⟩
  | tupT ds => exact ⟨_, call_tuple_of, fun w S H x Q r ⟨a, vs, e, t, q⟩ p => ⟨a, vs, by rw [e], .inr ⟨r.sub.sqT X.K t, p w H _ (.refl w) r ⟨a, vs, rfl, t, q⟩⟩⟩⟩
  | tupL ds => exact ⟨_, call_tuple_of, fun w S H x Q r ⟨a, vs, e, t, q⟩ p => ⟨a, vs, by rw [e], .inl ⟨SqL.of t, r.newT q p⟩⟩⟩
  | lstT ds => exact ⟨_, call_list_of, fun w S H x Q r ⟨a, vs, e, t, q⟩ p => ⟨a, vs, by rw [e], .inr (r.sub.sqT X.K t), r.newL q p⟩⟩
  | lstL ds => exact ⟨_, call_list_of, fun w S H x Q r ⟨a, vs, e, t, q⟩ p => ⟨a, vs, by rw [e], .inl (SqL.of t), r.newL q p⟩⟩
  | sum ds ns hi => exact ⟨_, cr_sum hc, fun w S H x Q r ⟨a, vs, e, t, q⟩ p => ⟨a, ns, by rw [e], by rw [← RDs.ints X.K hi q]; exact SqL.of t, p w H _ (.refl w) r rfl⟩⟩
  | max ds ns m hi hm =>
    refine ⟨_, cr_max hc, fun w S H x Q r ⟨a, vs, e, t, q⟩ p => ⟨a, ns, by rw [e], by rw [← RDs.ints X.K hi q]; exact SqL.of t, ?_, fun m' h1 h2 => ?_⟩⟩
    · cases ns with
      | nil => cases hm
      | cons _ _ => exact Nat.succ_pos _
    · rw [maxL_eq hm h1 h2]; exact p w H _ (.refl w) r rfl
  | min ds ns m hi hm =>
    refine ⟨_, cr_min hc, fun w S H x Q r ⟨a, vs, e, t, q⟩ p => ⟨a, ns, by rw [e], by rw [← RDs.ints X.K hi q]; exact SqL.of t, ?_, fun m' h1 h2 => ?_⟩⟩
    · cases ns with
      | nil => cases hm
      | cons _ _ => exact Nat.succ_pos _
    · rw [minL_eq hm h1 h2]; exact p w H _ (.refl w) r rfl
  | sorted ds rr hs =>
    rcases sorted_c hs with ⟨ns, hi, rfl⟩ | ⟨n, l, ht, ho, rfl⟩
    · refine ⟨_, cr_sortedI, fun w S H x Q r ⟨a, vs, e, t, q⟩ p => ⟨a, ns, by rw [e], by rw [← RDs.ints X.K hi q]; exact SqL.of t, fun ns' l h1 h2 hl => ?_⟩⟩
      rw [sortI_eq h1 h2]
      exact r.newL (rds_ints X.K _) p l hl
    · obtain ⟨hd, h64, hall⟩ := okT_ok ho
      refine ⟨_, cr_sortT (d := n.length) (B := 1048576) hd, fun w S H x Q r ⟨a, vs, e, t, q⟩ p => ⟨a, vs, by rw [e], SqL.of t, by rw [RDs.len X.K q, tups_len ht]; exact h64, fun y hy => tups_each (K := X.K) r.sub hall (by rw [← tupsI_some ht]; exact q) hy, fun ys l' h1 h2 hl => ?_⟩⟩
      exact r.newL (tups_sorted (K := X.K) r.sub hall (by rw [← tupsI_some ht]; exact q) h1 h2) p l' hl
  | strI i hi => exact ⟨_, call_str_int, fun w S H x Q r q p => ⟨i, by rw [show x = .int i from q], log_ok hi, p w H _ (.refl w) r rfl⟩⟩
  | strS s => exact ⟨_, SkE.call_str_str, fun w S H x Q r q p => ⟨s, by rw [show x = .str s from q], p w H _ (.refl w) r rfl⟩⟩
  | repr d hs hz =>
    refine ⟨_, L2.CallR.or (call_repr hgd hu) (call_repr hgd hu), fun w S H x Q r q p => .inl ?_⟩
    obtain ⟨h1, h2, h3⟩ := py_show 20 d hs
    exact ⟨x, _, rfl, rd_dpS 20 d hs (q.rd X.K r.sub), h1, h2, h3, sz_le hz, p w H _ (.refl w) r rfl⟩
end
end U

namespace U
open PySem PySem.Spec PyProof.Rows L2
section
variable {K : PySem.W.Frag} {X : Cx} {a b c e : Expr} {p0 pos : Pos}
def b1F (b : B1) (fa : Env → M RV) : Env → M RV := fun ρ => M.bind (fa ρ) fun x => fun S => match view S x with
  | some d => M.opt (blt1 b d) S
  | none => .bad
/-- one argument, read -/
theorem se_b1 {b : B1} {fa : Env → M RV} (hK : X.K = K) (hc : X.calm = true) (hgd : X.A.guards = some []) (hu : X.A.units + 65 < cLine) (hg : Gl X (bname b)) (hm : X.mg (bname b) = none) (ha : PE X a (tE K fa)) (ho : okHead a = true) :
    PE X (.Call (.Name (bname b) p0) [a] [] pos) (tE K (b1F b fa)) := by
  subst hK
  refine ⟨fun pins s σ H Q I h => ?_⟩
  obtain ⟨w, ρ, S, hr, sl, p⟩ := h
  unfold b1F at p
  obtain ⟨x, S1, ex, p⟩ := p.bind
  split at p
  · rename_i d vd
    cases hb : blt1 b d with
    | none => rw [hb] at p; exact False.elim p
    | some r =>
      rw [hb] at p
      obtain ⟨rr, hcr, hq⟩ := b1_rule hc hgd hu hb
      refine (ce_blt hcr hg hm (pa_cons ha pa_nil (star_cons ho)) (by rw [List.all_cons, ho]; rfl)).run pins s σ H Q I ?_
      refine one hr sl ex fun w1 H1 v l r1 q => ?_
      exact hq w1 S1 H1 v Q r1 (r1.view X.K q vd) fun w' H' v' l' => p w' H' v' (l.trans l')
  · exact p.elim
def b2F (b : B1) (fa fb : Env → M RV) : Env → M RV := fun ρ => M.bind (fa ρ) fun x => M.bind (fb ρ) fun y => fun S => match view S (hold x).rv, view S y with
  | some d, some e => M.opt (blt2 b d e) S
  | _, _ => .bad
theorem se_b2 {b : B1} {fa fb : Env → M RV} {a' : Expr} (hK : X.K = K) (hc : X.calm = true) (hg : Gl X (bname b)) (hm : X.mg (bname b) = none) (ha : PE X a (tE K fa)) (hb : PE X a' (tE K fb)) (ho : okHead a = true) (ho' : okHead a' = true) :
    PE X (.Call (.Name (bname b) p0) [a, a'] [] pos) (tE K (b2F b fa fb)) := by
  subst hK
  refine ⟨fun pins s σ H Q I h => ?_⟩
  obtain ⟨w, ρ, S, hr, sl, p⟩ := h
  unfold b2F at p
  obtain ⟨x, S1, ex, p⟩ := p.bind
  obtain ⟨y, S2, ey, p⟩ := p.bind
  split at p
  · rename_i d e vx vy
    have key : ∀ (r : List V → Hp → VK → Prop) (_ : CallR X (bval b) r) (_ : ∀ w2 H2 vx vy, w.le w2 → Rel X.K w2 S2 H2 → RTop X.K w2 H2 d vx → RTop X.K w2 H2 e vy → r [vx, vy] H2 Q), wpAny (model X.prog X.w) X.A (eval (.Call (.Name (bname b) p0) [a, a'] [] pos) X.env) (EP X pins σ Q) X.xe s :=
      fun r hr' h => (ce_blt hr' hg hm (pa_cons ha (pa_cons hb pa_nil (star_cons ho')) (star_cons ho)) (by rw [List.all_cons, ho, List.all_cons, ho']; rfl)).run pins s σ H Q I (two' (r := fun x y H Q => r [x, y] H Q) hr sl ex ey vx vy h)
    cases hb2 : blt2 b d e with
    | none => rw [hb2] at p; exact False.elim p
    | some r =>
      rw [hb2] at p
      unfold blt2 at hb2
      split at hb2
      · cases hb2
        exact key _ (call_max2 hc) fun w2 H2 vx vy l r2 q1 q2 => ⟨_, _, by rw [show vx = _ from q1, show vy = _ from q2], p w2 H2 _ l r2 rfl⟩
      · cases hb2
        exact key _ (call_min2 hc) fun w2 H2 vx vy l r2 q1 q2 => ⟨_, _, by rw [show vx = _ from q1, show vy = _ from q2], p w2 H2 _ l r2 rfl⟩
      · cases hb2
  · exact p.elim

/-! ### tuple(range(a, b)) -/
theorem big62_ok {i : Int} (h : big62 i = true) : -(2 ^ 62) ≤ i ∧ i < 2 ^ 62 := by
  unfold big62 at h
  rw [Bool.and_eq_true, decide_eq_true_eq, decide_eq_true_eq] at h
  omega
theorem rgV_succ (lo : Int) (n : Nat) : rgV lo (lo + (n + 1 : Nat)) = V.int lo :: rgV (lo + 1) (lo + 1 + (n : Nat)) := by
  unfold rgV
  rw [show (lo + ((n + 1 : Nat) : Int) - lo).toNat = n + 1 by omega, show (lo + 1 + (n : Int) - (lo + 1)).toNat = n by omega, List.range_succ_eq_map, List.map_cons, List.map_map]
  congr 1
  · show V.int (lo + 0) = V.int lo
    rw [Int.add_zero]
  · apply List.map_congr_left
    intro i _
    show V.int (lo + ((i + 1 : Nat) : Int)) = V.int (lo + 1 + (i : Int))
    congr 1
    omega
theorem rds_rng {F : Hp} {g : List Addr} : ∀ (n : Nat) (lo : Int), RDs K F g (rngUp lo n) (rgV lo (lo + (n : Nat)))
  | 0, lo => by
    show rgV lo (lo + (0 : Nat)) = []
    unfold rgV
    rw [show (lo + ((0 : Nat) : Int) - lo).toNat = 0 by omega]
    rfl
  | n + 1, lo => ⟨_, _, rgV_succ lo n, rfl, rds_rng n (lo + 1)⟩
theorem rgV_toNat (i j : Int) : rgV i j = rgV i (i + ((j - i).toNat : Nat)) := by
  unfold rgV
  rw [show (i + ((j - i).toNat : Int) - i).toNat = (j - i).toNat by omega]
def trngF (l : Bool) (fa fb : Env → M RV) : Env → M RV := fun ρ => M.bind (fa ρ) fun x => M.bind (fb ρ) fun y => match dataInt x, dataInt y with
  | some i, some j => if (big62 i && big62 j && decide ((j - i).toNat ≤ 1000000)) = true then M.ret (if l then .new (.lst (rngUp i (j - i).toNat)) else .d (.tup (rngUp i (j - i).toNat))) else M.bad
  | _, _ => M.bad
theorem trng_ok {l : Bool} {fa fb : Env → M RV} {ρ : Env} {S : St} {w : W} {Q : VK} (h : Post K w Q (trngF l fa fb ρ S)) : ∃ i j S1 S2, fa ρ S = .ok (.d (.int i)) S1 ∧ fb ρ S1 = .ok (.d (.int j)) S2 ∧ RgOk i j ∧
    Post K w Q (.ok (if l then .new (.lst (rngUp i (j - i).toNat)) else .d (.tup (rngUp i (j - i).toNat))) S2) := by
  unfold trngF at h
  obtain ⟨x, S1, ex, h⟩ := h.bind
  obtain ⟨y, S2, ey, h⟩ := h.bind
  cases ei : dataInt x with
  | none => rw [ei] at h; exact False.elim h
  | some i =>
    cases ej : dataInt y with
    | none => rw [ei, ej] at h; exact False.elim h
    | some j =>
      rw [ei, ej] at h
      have h : Post K w Q ((if (big62 i && big62 j && decide ((j - i).toNat ≤ 1000000)) = true then M.ret (if l then .new (.lst (rngUp i (j - i).toNat)) else .d (.tup (rngUp i (j - i).toNat))) else M.bad : M RV) S2) := h
      split at h
      · rename_i hh
        rw [Bool.and_eq_true, Bool.and_eq_true, decide_eq_true_eq] at hh
        obtain ⟨⟨h1, h2⟩, h3⟩ := hh
        have h1 := big62_ok h1
        have h2 := big62_ok h2
        exact ⟨i, j, S1, S2, by rw [ex, dataInt_eq ei], by rw [ey, dataInt_eq ej], ⟨h1.1, h1.2, h2.1, h2.2, by omega⟩, h⟩
      · exact False.elim h
theorem se_trng {fa fb : Env → M RV} {a' : Expr} {p2 pos2 : Pos} (hK : X.K = K) (hc : X.calm = true) (hg : Gl X "tuple") (hm : X.mg "tuple" = none) (hg2 : Gl X "range") (hm2 : X.mg "range" = none) (ha : PE X a (tE K fa)) (hb : PE X a' (tE K fb)) (ho : okHead a = true) (ho' : okHead a' = true) :
    PE X (.Call (.Name "tuple" p0) [.Call (.Name "range" p2) [a, a'] [] pos2] [] pos) (tE K (trngF false fa fb)) := by
  subst hK
  refine ⟨fun pins s σ H Q I h => ?_⟩
  obtain ⟨w, ρ, S, hr, sl, p⟩ := h
  obtain ⟨i, j, S1, S2, ex, ey, hrg, p⟩ := trng_ok p
  refine (pe_tupRg hc hg hm (prg_2 hg2 hm2 ha hb (star_cons ho) (star_cons ho') (noStar (by rw [List.all_cons, ho']; rfl))) (star_cons rfl)).run pins s σ H Q I ?_
  refine two (r := fun x y H2 Q' => ∃ i j, x = .int i ∧ y = .int j ∧ RgOk i j ∧ ∀ q, H2 q = none → Q' (.ref q) (upd H2 q (.tup (rgV i j)))) hr sl ex ey fun w2 H2 vx vy l r2 q1 q2 => ⟨i, j, q1, q2, hrg, ?_⟩
  rw [rgV_toNat]
  exact r2.newT (rds_rng _ _) fun w' H' v l' => p w' H' v (l.trans l')
theorem se_lrng {fa fb : Env → M RV} {a' : Expr} {p2 pos2 : Pos} (hK : X.K = K) (hc : X.calm = true) (hg : Gl X "list") (hm : X.mg "list" = none) (hg2 : Gl X "range") (hm2 : X.mg "range" = none) (ha : PE X a (tE K fa)) (hb : PE X a' (tE K fb)) (ho : okHead a = true) (ho' : okHead a' = true) :
    PE X (.Call (.Name "list" p0) [.Call (.Name "range" p2) [a, a'] [] pos2] [] pos) (tE K (trngF true fa fb)) := by
  subst hK
  refine ⟨fun pins s σ H Q I h => ?_⟩
  obtain ⟨w, ρ, S, hr, sl, p⟩ := h
  obtain ⟨i, j, S1, S2, ex, ey, hrg, p⟩ := trng_ok p
  refine (pe_listRg hc hg hm (prg_2 hg2 hm2 ha hb (star_cons ho) (star_cons ho') (noStar (by rw [List.all_cons, ho']; rfl))) (star_cons rfl)).run pins s σ H Q I ?_
  refine two (r := fun x y H2 Q' => ∃ i j, x = .int i ∧ y = .int j ∧ RgOk i j ∧ ∀ q, H2 q = none → Q' (.ref q) (upd H2 q (.lst (rgV i j)))) hr sl ex ey fun w2 H2 vx vy l r2 q1 q2 => ⟨i, j, q1, q2, hrg, ?_⟩
  rw [rgV_toNat]
  exact r2.newL (rds_rng _ _) fun w' H' v l' => p w' H' v (l.trans l')
end
end U

set_option maxHeartbeats 4000000
namespace U
open PySem PySem.Spec PyProof.Rows L2
/-- xs.extend(t), t any tuple -/
theorem extend_tup (l : Addr) (items : Array Value) (n : Nat) (b : Addr) (more : Array Value) (n2 : Nat) (dd : Option Addr) (sl : Array (Option Value))
    (hlong : ¬(!items.isEmpty && Builtin.List.listTooLong (items.size + more.size)) = true) (h1 : items.size ≤ sizeLine) (h2 : items.size + more.size ≤ sizeLine + 1) :
    Meets (Builtin.«list.extend» ⟨[.ref l, .ref b], []⟩) (fun _ R s => s.heap.get? l = some { cls := .type "list", data := .seq items n } ∧
      s.heap.get? b = some { cls := .type "tuple", dict := dd, data := .seq more n2, slots := sl } ∧ R (.ok (.ret Value.none)) { s with heap := s.heap.update l (Obj.mapSeq fun x => x ++ more), toks := s.toks }) :=
  .of_wp fun prog w A R s h => by
    obtain ⟨hp, g, d, tk, os⟩ := s
    obtain ⟨hl, hb, h⟩ := h
    have f1 := AutoSeq1.idx_int
    have f2 := AutoSeq1.sub_tuple_tuple
    have f3 := AutoSeq1.sub_list_list
    have f4 := AutoSeq1.sub_tuple_list
    have f5 := AutoSeq1.sub_list_tuple
    have hz : (items ++ more).size ≤ sizeLine + 1 := by rw [Array.size_append]; exact h2
    wp_walk using (wpAny_updateSeq hl rfl (hz := h1) (_hz' := hz)), wpAny_loadPart' hl, wpAny_loadPart' hb
    exact ⟨_, rfl, h⟩
section
variable {X : Cx}
def rExtT (K : PySem.W.Frag) : V → List V → Hp → VK → Prop := fun x vs H Q => ∃ l b xs zs, x = .ref l ∧ vs = [.ref b] ∧ H l = some (.lst xs) ∧ SqT K H b zs ∧ xs.length + zs.length ≤ sizeLine ∧ Q .non (upd H l (.lst (xs ++ zs)))
theorem mt_extT : MtM X "list.extend" (rExtT X.K) := by
  intro pins s σ H x vs v us Q I rx rv h
  obtain ⟨l, b, xs, zs, rfl, rfl, hH, hB, hz, q⟩ := h
  cases rx
  obtain ⟨u, rfl, ru⟩ := rv.one
  cases ru
  obtain ⟨z, its, n, r, hl, e⟩ := I.lstM hH
  obtain ⟨its2, r2, ⟨⟨cls, dd, data, sl⟩, ho, hc, n2, hd⟩, _⟩ := I.tuple hB
  simp only at hc hd
  subst hc hd
  have hl2 := r2.length
  have hlong : ¬ (!its.toArray.isEmpty && Builtin.List.listTooLong (its.toArray.size + its2.toArray.size)) = true := by
    rw [notLongL (by rw [List.size_toArray, List.size_toArray]; omega), Bool.and_false]
    exact Bool.false_ne_true
  refine call_meets F.slot_list_extend ⟨_, e, rfl⟩ F.entry_list_extend (F.args_list_extend_2 _ _) (extend_tup l its.toArray n b its2.toArray n2 dd sl hlong (by rw [List.size_toArray]; omega) (by rw [List.size_toArray, List.size_toArray]; omega)) ⟨e, ho, ?_⟩
  refine ⟨.non, _, I.lset (its' := its ++ its2) hH e (by simp) (r.append r2) ?_, rfl, q⟩
  rw [List.length_append]
  exact hz
end
end U

namespace U
open PySem PySem.Spec PyProof.Rows L2
section
variable {K : PySem.W.Frag} {X : Cx} {o e : Expr} {apos pos : Pos}
/-! ### methods with one argument -/
def mname : M1 → Str
  | .append => "append" | .extend => "extend" | .popAt => "pop" | .join => "join" | .index => "index"
def m1F (m : M1) (fo fa : Env → M RV) : Env → M RV := fun ρ => M.bind (fo ρ) fun x => fun S1 => if recvOk m (view S1 x) = true then M.bind (fa ρ) (fun y => meth1 m (hold x) y) S1 else .bad
theorem few1 {env : PySem.Env} (ho : okHead e = true) : ((backTo pos (starEach [e] env)).all (fun x => !x.1) && (backToKw pos (keywordEach [] env)).all (fun x => x.1.isSome) && decide (([e] : List Expr).length + ([] : List Keyword).length + (if ([] : List Keyword).isEmpty then 0 else 1) < 30)) = true := by
  rw [noStarAll (by rw [List.all_cons, ho]; rfl)]
  rfl
/-- a method of a list of ours, a text: the object, the argument, then the rule -/
theorem se_meth {T id : String} {name : Str} {r : V → List V → Hp → VK → Prop} {fo fa : Env → M RV} (hK : X.K = K) (pa : PlainAttrs T) (slot : Slot T name id) (hty : typeOf (.builtin id) = pure (.type "method_descriptor")) (hm : MtR X id r) (ho : PE X o (tE K fo)) (ha : PE X e (tE K fa))
    (hho : okHead o = true) (hhe : okHead e = true) (hline : (apos.endLine == pos.line) = true)
    {pins : List (Addr × Obj)} {s : Shared} {σ : L2.St} {H : Hp} {Q : VK} (I : L2.Inv X pins σ H s) {w : W} {ρ : Env} {S S1 S2 : St} {x y : RV} (hr : Rel K w S H) (sl : RSl K w ρ σ) (ex : fo ρ S = .ok x S1) (ey : fa ρ S1 = .ok y S2)
    (hT : ∀ w1 H1 vx, w.le w1 → Rel K w1 S1 H1 → RSV K w1 (hold x) vx → tyV K T vx H1)
    (hq : ∀ w2 H2 vx vy, w.le w2 → Rel K w2 S2 H2 → RSV K w2 (hold x) vx → RRV K w2 H2 y vy → r vx [vy] H2 Q) : wpAny (model X.prog X.w) X.A (eval (.Call (.Attribute o name apos) [e] [] pos) X.env) (EP X pins σ Q) X.xe s := by
  subst hK
  refine (pe_bm pa slot hty hm ho (pa_cons ha pa_nil (star_cons hhe)) (attr_base hho) (few1 hhe) hline (star_cons hhe) rfl).run pins s σ H Q I ?_
  refine one hr sl ex fun w1 H1 v l1 r1 q1 => ?_
  obtain ⟨w1', l1', r1', _, q1'⟩ := r1.hold X.K q1
  refine ⟨hT w1' H1 v (l1.trans l1') r1' q1', ?_⟩
  refine one r1' (sl.mono X.K (l1.trans l1')) ey fun w2 H2 vy l2 r2 q2 => ?_
  exact hq w2 H2 v vy ((l1.trans l1').trans l2) r2 (q1'.mono X.K l2) q2
theorem hold_loc {x : RV} {u i : Nat} (h : hold x = .loc u i) : x = .loc u i := by
  cases x with
  | loc a b => cases h; rfl
  | d _ => cases h
  | new _ => cases h
theorem loc_lst {w : W} {S : St} {H : Hp} {u i : Nat} {v : V} {z : Bool} {ds : List D} (r : Rel K w S H) (q : RSV K w (.loc u i) v) (h : S.get u i = some ⟨z, .lst ds⟩) : ∃ a vs, v = .ref a ∧ w.ad u i = some a ∧ H a = some (.lst vs) ∧ RDs K w.F w.gl ds vs := by
  obtain ⟨a, ha, rfl⟩ := q
  obtain ⟨b, hb, ro⟩ := r.get K h
  rw [ha] at hb; cases hb
  cases z with
  | false => obtain ⟨n, vs, hv, hd⟩ := ro; exact ⟨a, vs, rfl, ha, hv, hd⟩
  | true => obtain ⟨vs, hv, hd⟩ := ro; exact ⟨a, vs, rfl, ha, r.sub _ _ hv, hd⟩

theorem view_hold {S : St} {x : RV} : view S (hold x).rv = view S x := by
  cases x with
  | d _ => rfl
  | loc _ _ => rfl
  | new c => cases c <;> rfl
theorem tyL {w : W} {H : Hp} {ds : List D} {v : V} (q : RTop K w H (.lst ds) v) : tyV K "list" v H := by
  obtain ⟨a, vs, rfl, h, _⟩ := q
  exact .inl ⟨rfl, vs, SqL.of h⟩
theorem RDs.allScalar {F : Hp} {g : List Addr} {x : D} : ∀ {ds : List D} {vs : List V}, (ds.all fun y => scalarB y && eqOk y x) = true → RDs K F g ds vs → vs.all flatV = true
  | [], vs, _, q => by rw [show vs = [] from q]; rfl
  | y :: ys, _, h, ⟨v, r, e, q, t⟩ => by
    subst e
    rw [List.all_cons, Bool.and_eq_true, Bool.and_eq_true] at h
    rw [List.all_cons, scalar_flat h.1.1 q, RDs.allScalar h.2 t]; rfl
theorem idx_ok {H : Hp} {g : List Addr} {x : D} {vx : V} (hx : scalarB x = true) (qx : RD K H g x vx) : ∀ {ds : List D} {vs : List V} {k : Nat}, (ds.all fun y => scalarB y && eqOk y x) = true → RDs K H g ds vs → idxOf x ds = some k →
    (∃ z, vs[k]? = some z ∧ eqV z vx = true) ∧ ∀ (m : Nat) (z' : V), m < k → vs[m]? = some z' → eqV z' vx = false
  | [], vs, k, _, _, e => by cases e
  | y :: ys, _, k, h, ⟨v, r, e, q, t⟩, ek => by
    subst e
    rw [List.all_cons, Bool.and_eq_true, Bool.and_eq_true] at h
    have ev := scalar_eqV h.1.1 hx h.1.2 q qx
    unfold idxOf at ek
    split at ek
    · rename_i hb
      cases ek
      exact ⟨⟨v, rfl, by rw [ev]; exact hb⟩, fun m z' hm => absurd hm (Nat.not_lt_zero _)⟩
    · rename_i hb
      cases e2 : idxOf x ys with
      | none => rw [e2] at ek; cases ek
      | some k' =>
        rw [e2] at ek
        cases ek
        obtain ⟨⟨z, h1, h2⟩, h3⟩ := idx_ok hx qx h.2 t e2
        refine ⟨⟨z, by simpa using h1, h2⟩, fun m z' hm hz => ?_⟩
        cases m with
        | zero =>
          simp at hz
          subst hz
          rw [ev]
          simpa using hb
        | succ m => exact h3 m z' (Nat.lt_of_succ_lt_succ hm) (by simpa using hz)
theorem keep_get {S S' : St} {y : RV} {d : D} {u i : Nat} {o : LO} (e : U.keep y S = .ok d S') (h : S'.get u i = some o) (hz : o.z = false) : True := trivial
theorem se_m1 {m : M1} {fo fa : Env → M RV} (hK : X.K = K) (ho : PE X o (tE K fo)) (ha : PE X e (tE K fa)) (hho : okHead o = true) (hhe : okHead e = true) (hline : (apos.endLine == pos.line) = true) :
    PE X (.Call (.Attribute o (mname m) apos) [e] [] pos) (tE K (m1F m fo fa)) := by
  subst hK
  refine ⟨fun pins s σ H Q I h => ?_⟩
  obtain ⟨w, ρ, S, hr, sl, p⟩ := h
  unfold m1F at p
  obtain ⟨x, S1, ex, p⟩ := p.bind
  split at p
  · rename_i hrv
    obtain ⟨y, S2, ey, p⟩ := p.bind
    have lstT : ∀ (hm : m ≠ .join), ∀ w1 H1 vx, w.le w1 → Rel X.K w1 S1 H1 → RSV X.K w1 (hold x) vx → tyV X.K "list" vx H1 := fun hm w1 H1 vx l r q => by
      cases ev : view S1 x with
      | none => rw [ev] at hrv; cases m <;> simp [recvOk] at hrv
      | some d =>
        rw [ev] at hrv
        have : ∃ ds, d = .lst ds := by cases m <;> cases d <;> first | exact ⟨_, rfl⟩ | (simp [recvOk] at hrv; done) | exact absurd rfl hm
        obtain ⟨ds, rfl⟩ := this
        exact tyL (r.view X.K (RRV.of X.K q) (by rw [view_hold]; exact ev))
    cases m with
    | append =>
      cases hx : hold x with
      | d _ => rw [hx] at p; exact False.elim p
      | loc u i =>
        rw [hx] at p
        obtain ⟨yd, S3, ek, p⟩ := Post.bind (f := fun y => fun S => match S.get u i with
          | some ⟨false, .lst ds⟩ => if ds.length < 16777216 then .ok (.d .non) (S.set u i ⟨false, .lst (ds ++ [y])⟩) else .bad
          | _ => .bad) p
        split at p
        · rename_i ds hg
          split at p
          · rename_i hlen
            refine se_meth rfl F.plainAttrs_list F.slot_list_append F.type_list_append mt_append ho ha hho hhe hline I hr sl ex ey (lstT (by decide)) fun w2 H2 vx vy l r q1 q2 => ?_
            obtain ⟨w3, l3, r3, _, qd⟩ := r.kept X.K q2 ek
            rw [hx] at q1
            obtain ⟨a, vs, rfl, had, hv, hd⟩ := loc_lst r3 (q1.mono X.K l3) hg
            refine ⟨a, vs, vy, rfl, rfl, hv, ?_, ?_⟩
            · rw [RDs.len X.K hd, sizeLine_eq]; exact hlen
            · exact p w3 _ _ (l.trans l3) (r3.write X.K hg had (RDs.app X.K hd ⟨vy, [], rfl, qd, rfl⟩) (z' := ⟨false, .lst ds⟩)) rfl
          · exact p.elim
        · exact p.elim
    | extend =>
      cases hx : hold x with
      | d _ => rw [hx] at p; exact False.elim p
      | loc u i =>
        rw [hx] at p
        have p : Post X.K w Q (match S2.get u i, (view S2 y).bind items with
          | some ⟨false, .lst ds⟩, some ys => if ds.length + ys.length ≤ 16777216 then .ok (.d .non) (S2.set u i ⟨false, .lst (ds ++ ys)⟩) else .bad
          | _, _ => .bad) := p
        split at p
        · rename_i ds ys hg hy
          split at p
          · rename_i hlen
            cases evy : view S2 y with
            | none => rw [evy] at hy; cases hy
            | some dy =>
              rw [evy] at hy
              cases dy with
              | tup es =>
                cases hy
                refine se_meth rfl F.plainAttrs_list F.slot_list_extend F.type_list_extend mt_extT ho ha hho hhe hline I hr sl ex ey (lstT (by decide)) fun w2 H2 vx vy l r q1 q2 => ?_
                obtain ⟨a2, vs2, e2, t2, d2⟩ := r.view X.K q2 evy
                rw [hx] at q1
                obtain ⟨a, vs, rfl, had, hv, hd⟩ := loc_lst r q1 hg
                subst e2
                refine ⟨a, a2, vs, vs2, rfl, rfl, hv, r.sub.sqT X.K t2, ?_, ?_⟩
                · rw [RDs.len X.K hd, RDs.len X.K d2, sizeLine_eq]; exact hlen
                · exact p w2 _ _ l (r.write X.K hg had (RDs.app X.K hd d2) (z' := ⟨false, .lst ds⟩)) rfl
              | lst es =>
                cases hy
                refine se_meth rfl F.plainAttrs_list F.slot_list_extend F.type_list_extend mt_extend ho ha hho hhe hline I hr sl ex ey (lstT (by decide)) fun w2 H2 vx vy l r q1 q2 => ?_
                obtain ⟨a2, vs2, e2, t2, d2⟩ := r.view X.K q2 evy
                rw [hx] at q1
                obtain ⟨a, vs, rfl, had, hv, hd⟩ := loc_lst r q1 hg
                subst e2
                refine ⟨a, a2, vs, vs2, rfl, rfl, hv, t2, ?_, ?_⟩
                · rw [RDs.len X.K hd, RDs.len X.K d2, sizeLine_eq]; exact hlen
                · exact p w2 _ _ l (r.write X.K hg had (RDs.app X.K hd d2) (z' := ⟨false, .lst ds⟩)) rfl
              | _ => cases hy
          · exact p.elim
        · exact p.elim
    | popAt =>
      cases hx : hold x with
      | d _ => rw [hx] at p; exact False.elim p
      | loc u i =>
        rw [hx] at p
        have p : Post X.K w Q (match (generalizing := false) S2.get u i, y with
          | some ⟨false, .lst ds⟩, .d (.int k) => if decide (-1000000000 ≤ k) && decide (k ≤ 1000000000) then match U.ixN ds.length k with
            | some j => match ds[j]? with
              | some x => .ok (.d x) (S2.set u i ⟨false, .lst (ds.eraseIdx j)⟩)
              | none => .bad
            | none => .bad
            else .bad
          | _, _ => .bad) := p
        split at p
        · rename_i _ ds k hg _
          split at p
          · rename_i hk
            rw [Bool.and_eq_true, decide_eq_true_eq, decide_eq_true_eq] at hk
            split at p
            · rename_i j hj
              split at p
              · rename_i z hz
                refine se_meth rfl F.plainAttrs_list F.slot_list_pop F.type_list_pop mt_popAt ho ha hho hhe hline I hr sl ex ey (lstT (by decide)) fun w2 H2 vx vy l r q1 q2 => ?_
                rw [hx] at q1
                obtain ⟨a, vs, rfl, had, hv, hd⟩ := loc_lst r q1 hg
                obtain ⟨zv, hz1, hz2⟩ := RDs.get X.K hd hz
                obtain ⟨s1, s2, s3, s4⟩ := ixN_seq (show L2.ixN vs.length k = some j by rw [RDs.len X.K hd]; exact hj)
                refine ⟨a, vs, k, j, zv, rfl, by rw [show vy = .int k from q2], hv, by omega, by omega, s1, hz1, ?_⟩
                exact p w2 _ _ l (r.write X.K hg had (RDs.erase X.K j hd) (z' := ⟨false, .lst ds⟩)) hz2
              · exact p.elim
            · exact p.elim
          · exact p.elim
        · exact p.elim
    | join =>
      cases hx : hold x with
      | loc _ _ => rw [hx] at p; exact False.elim p
      | d xd =>
        rw [hx] at p
        cases xd with
        | str z =>
          have p : Post X.K w Q (match (view S2 y).bind items with
            | some ds => match strsD ds with
              | some ss => if sz ((ss.map (·.length)).sum + ss.length * z.length) = true then .ok (.d (.str (Txt.join z ss))) S2 else .bad
              | none => .bad
            | none => .bad) := p
          split at p
          · rename_i ds hds
            split at p
            · rename_i ss hss
              split at p
              · rename_i hz
                have hz : (ss.map (·.length)).sum + ss.length * z.length ≤ 16777216 := of_decide_eq_true hz
                cases evy : view S2 y with
                | none => rw [evy] at hds; cases hds
                | some dy =>
                  rw [evy] at hds
                  refine se_meth rfl F.plainAttrs_str F.slot_str_join F.type_str_join mt_join ho ha hho hhe hline I hr sl ex ey (fun w1 H1 vx l r q => ?_) fun w2 H2 vx vy l r q1 q2 => ?_
                  · rw [hx] at q
                    rw [show vx = .str z from q]
                    exact rfl
                  · rw [hx] at q1
                    have qv := r.view X.K q2 evy
                    cases dy with
                    | tup es =>
                      cases hds
                      obtain ⟨a2, vs2, e2, t2, d2⟩ := qv
                      subst e2
                      exact ⟨z, a2, ss, q1, rfl, .inr (by rw [← RDs.strs X.K hss d2]; exact r.sub.sqT X.K t2), hz, p w2 H2 _ l r rfl⟩
                    | lst es =>
                      cases hds
                      obtain ⟨a2, vs2, e2, t2, d2⟩ := qv
                      subst e2
                      exact ⟨z, a2, ss, q1, rfl, .inl (by rw [← RDs.strs X.K hss d2]; exact SqL.of t2), hz, p w2 H2 _ l r rfl⟩
                    | _ => cases hds
              · exact p.elim
            · exact p.elim
          · exact p.elim
        | _ => exact False.elim p
    | index =>
      have p : Post X.K w Q (match view S2 (hold x).rv, view S2 y with
        | some (.lst ds), some x => if (scalarB x && ds.all fun y => scalarB y && eqOk y x) = true then match idxOf x ds with
          | some k => .ok (.d (.int k)) S2
          | none => .bad
          else .bad
        | _, _ => .bad) := p
      split at p
      · rename_i ds dx vx vy
        split at p
        · rename_i hok
          rw [Bool.and_eq_true] at hok
          split at p
          · rename_i k hk
            refine se_meth rfl F.plainAttrs_list F.slot_list_index F.type_list_index mt_index ho ha hho hhe hline I hr sl ex ey (lstT (by decide)) fun w2 H2 v1 v2 l r q1 q2 => ?_
            obtain ⟨a, vs, rfl, hv, hd⟩ := r.view X.K (RRV.of X.K q1) vx
            have qx := (r.view X.K q2 vy).rd X.K r.sub
            have hd' := RDs.mono X.K r.sub (pre.refl _) ds hd
            obtain ⟨⟨z, h1, h2⟩, h3⟩ := idx_ok hok.1 qx hok.2 hd' hk
            exact ⟨a, vs, v2, k, z, rfl, rfl, SqL.of hv, scalar_flat hok.1 qx, RDs.allScalar hok.2 hd', h1, h2, h3, p w2 H2 _ l r rfl⟩
          · exact p.elim
        · exact p.elim
      · exact p.elim
  · exact p.elim
end
end U

namespace U
open PySem PySem.Spec PyProof.Rows L2
/-- later, but for the extra objects -/
structure W.lex (a b : W) : Prop where
  F : U.sub a.F b.F
  own : pre a.own b.own
  out : b.out = a.out
  gl : pre a.gl b.gl
theorem W.le.lex {a b : W} (l : a.le b) : a.lex b := ⟨l.F, l.own, l.out, l.gl⟩
theorem W.lex.trans {a b c : W} (x : a.lex b) (y : b.lex c) : a.lex c := ⟨x.F.trans y.F, x.own.trans y.own, y.out.trans x.out, x.gl.trans y.gl⟩
theorem W.lex.le {a b : W} (x : a.lex b) (h : b.ex = a.ex) : a.le b := ⟨x.F, x.own, x.out, x.gl, h⟩
theorem W.lex.ad {w w' : W} (x : w.lex w') {u i : Nat} {a : Addr} (h : w.ad u i = some a) : w'.ad u i = some a := by
  cases u with
  | zero => exact x.own.get h
  | succ u => unfold W.ad at h ⊢; rw [x.out]; exact h
/-- an iterator that yields what the walk says -/
def GW (K : PySem.W.Frag) (J : It) (w0 : W) (k : Walk) : Prop := ∀ (w : W) (S : St) (H : Hp) (i : Nat), w0.lex w → Rel K w S H → k.chk S = true →
  (∀ d, k.xs[i]? = some d → J.go i H ∧ ∀ x H', J.yld i H x H' → ∃ w', w.le w' ∧ w'.own = w.own ∧ Rel K w' S H' ∧ RD K w'.F w'.gl d x) ∧ (k.xs[i]? = none → J.stop i H)
def tW (K : PySem.W.Frag) (f : Env → M Walk) : TI := fun σ H R => ∃ w ρ S, Rel K w S H ∧ RSl K w ρ σ ∧ match f ρ S with
  | .ok k S1 => ∀ w1 H1 J, w.le w1 → Rel K w1 S1 H1 → GW K J w1 k → R J H1
  | _ => False
theorem PI.weak {X : Cx} {tg e : Expr} {t t' : TI} (h : PI X tg e t) (i : ∀ σ H Q, t' σ H Q → t σ H Q) : PI X tg e t' := ⟨fun pins s σ H Q I q => h.run pins s σ H Q I (i σ H Q q)⟩
section
variable {K : PySem.W.Frag} {X : Cx} {tg a b : Expr} {p0 pos : Pos}
theorem gw_list {w0 : W} {ds : List D} {ad : Addr} {at_ : Option (Nat × Nat)} (h : ∀ w S H, w0.lex w → Rel K w S H → (⟨ds, at_⟩ : Walk).chk S = true → ∃ vs, H ad = some (.lst vs) ∧ RDs K w.F w.gl ds vs) : GW K (Itl K ad) w0 ⟨ds, at_⟩ := fun w S H i l r c => by
  obtain ⟨vs, hv, hd⟩ := h w S H l r c
  refine ⟨fun d e => ?_, fun e => ⟨vs, SqL.of hv, ?_⟩⟩
  · obtain ⟨v, e1, q⟩ := RDs.get K hd e
    refine ⟨⟨vs, v, SqL.of hv, e1⟩, fun x H' y => ?_⟩
    obtain ⟨rfl, y⟩ := y
    have e2 := y vs (SqL.of hv)
    rw [e1] at e2; cases e2
    exact ⟨w, .refl w, rfl, r, q⟩
  · rw [RDs.len K hd]; exact List.getElem?_eq_none_iff.mp e
theorem gw_tup {w0 : W} {ds : List D} {vs : List V} {ad : Addr} (ht : SqT K w0.F ad vs) (hd : RDs K w0.F w0.gl ds vs) : GW K (Itt K ad) w0 ⟨ds, none⟩ := fun w S H i l r c => by
  have ht := (l.F.trans r.sub).sqT K ht
  have hd := RDs.mono K l.F l.gl ds hd
  refine ⟨fun d e => ?_, fun e => ⟨vs, ht, ?_⟩⟩
  · obtain ⟨v, e1, q⟩ := RDs.get K hd e
    refine ⟨⟨vs, v, ht, e1⟩, fun x H' y => ?_⟩
    obtain ⟨rfl, y⟩ := y
    have e2 := y vs ht
    rw [e1] at e2; cases e2
    exact ⟨w, .refl w, rfl, r, q⟩
  · rw [RDs.len K hd]; exact List.getElem?_eq_none_iff.mp e
theorem walk_at {k : Walk} {S : St} {u i : Nat} {ds : List D} (hk : k = ⟨ds, some (u, i)⟩) (h : k.chk S = true) : ∃ z, S.get u i = some ⟨z, .lst ds⟩ := by
  subst hk
  have h : (match S.get u i with
    | some ⟨_, .lst es⟩ => decide (es = ds)
    | _ => false) = true := h
  split at h
  · rename_i z es e
    have := of_decide_eq_true h
    subst this
    exact ⟨z, e⟩
  · cases h
def seqF (fa : Env → M RV) : Env → M Walk := fun ρ => M.bind (fa ρ) walkSeq
/-- a value that is walked: what it is, and where -/
inductive WkC : RV → St → Walk → Prop
  | loc (u i : Nat) (S : St) (z : Bool) (ds : List D) (h : S.get u i = some ⟨z, .lst ds⟩) : WkC (.loc u i) S ⟨ds, some (u, i)⟩
  | new (ds : List D) (S : St) : WkC (.new (.lst ds)) S ⟨ds, none⟩
  | tup (ds : List D) (S : St) : WkC (.d (.tup ds)) S ⟨ds, none⟩
  | lst (ds : List D) (S : St) : WkC (.d (.lst ds)) S ⟨ds, none⟩
  | str (s : Str) (S : St) : WkC (.d (.str s)) S ⟨strItems s, none⟩
theorem wk_c {r : RV} {S S' : St} {k : Walk} (h : walkSeq r S = .ok k S') : WkC r S k ∧ S' = S := by
  unfold walkSeq at h
  split at h
  · split at h
    · cases h; exact ⟨.loc _ _ _ _ _ (by assumption), rfl⟩
    · cases h
  · cases h; exact ⟨.new _ _, rfl⟩
  · cases h; exact ⟨.tup _ _, rfl⟩
  · cases h; exact ⟨.lst _ _, rfl⟩
  · cases h; exact ⟨.str _ _, rfl⟩
  · cases h
/-- the list or tuple behind it -/
theorem wk_list {w1 : W} {S : St} {H1 : Hp} {r : RV} {v : V} {k : Walk} (hr : Rel K w1 S H1) (q : RRV K w1 H1 r v) (c : WkC r S k) :
    (∃ (ad : Addr) (vs : List V) (w2 : W), v = .ref ad ∧ H1 ad = some (.lst vs) ∧ w1.le w2 ∧ Rel K w2 S H1 ∧ ∀ w S' H, w2.lex w → Rel K w S' H → k.chk S' = true → ∃ vs', H ad = some (.lst vs') ∧ RDs K w.F w.gl k.xs vs') ∨
    (∃ (ad : Addr) (vs : List V), v = .ref ad ∧ SqT K w1.F ad vs ∧ RDs K w1.F w1.gl k.xs vs ∧ k.at_ = none) ∨ (∃ s, r = .d (.str s) ∧ v = .str s) := by
  cases c with
  | loc u i S z ds h =>
    left
    obtain ⟨ad, vs, rfl, had, hv, hd⟩ := loc_lst hr (show RSV K w1 (.loc u i) v from q) h
    refine ⟨ad, vs, w1, rfl, hv, .refl _, hr, fun w S' H l r' c => ?_⟩
    obtain ⟨z', h'⟩ := walk_at rfl c
    obtain ⟨ad', vs', e, had', hv', hd'⟩ := loc_lst r' (show RSV K w (.loc u i) (.ref ad) from ⟨ad, l.ad had, rfl⟩) h'
    cases e
    exact ⟨vs', hv', hd'⟩
  | new ds S =>
    left
    obtain ⟨ad, vs, rfl, hv, hd, hF, ha⟩ := q
    obtain ⟨r2, l2⟩ := hr.froze K hv hF ha
    refine ⟨ad, vs, _, rfl, hv, l2, r2, fun w S' H l r' _ => ⟨vs, r'.sub _ _ (l.F _ _ upd_same), RDs.mono K (l2.F.trans l.F) (l2.gl.trans l.gl) ds hd⟩⟩
  | tup ds S =>
    right; left
    obtain ⟨ad, vs, rfl, ht, hd⟩ := q
    exact ⟨ad, vs, rfl, ht, hd, rfl⟩
  | lst ds S =>
    left
    obtain ⟨ad, vs, rfl, hv, hd⟩ := q
    exact ⟨ad, vs, w1, rfl, hr.sub _ _ hv, .refl _, hr, fun w S' H l r' _ => ⟨vs, r'.sub _ _ (l.F _ _ hv), RDs.mono K l.F l.gl ds hd⟩⟩
  | str s S =>
    right; right
    exact ⟨s, rfl, q⟩
theorem tW.bind {α : Type} {m : M α} {f : α → M Walk} {S : St} {P : Walk → St → Prop} (h : match M.bind m f S with
    | .ok k S1 => P k S1
    | _ => False) : ∃ a S1 k S2, m S = .ok a S1 ∧ f a S1 = .ok k S2 ∧ P k S2 := by
  unfold M.bind at h
  cases e : m S with
  | ok a S1 =>
    rw [e] at h
    dsimp only at h
    cases e2 : f a S1 with
    | ok k S2 => rw [e2] at h; exact ⟨a, S1, k, S2, rfl, e2, h⟩
    | exc _ _ => rw [e2] at h; exact h.elim
    | bad => rw [e2] at h; exact h.elim
  | exc _ _ => rw [e] at h; exact h.elim
  | bad => rw [e] at h; exact h.elim
theorem si_seq {fa : Env → M RV} (hK : X.K = K) (ha : PE X a (tE K fa)) : PI X tg a (tW K (seqF fa)) := by
  subst hK
  refine ⟨fun pins s σ H R I h => ?_⟩
  obtain ⟨w, ρ, S, hr, sl, p⟩ := h
  obtain ⟨x, S1, k, S2, ex, ek, p⟩ := tW.bind p
  obtain ⟨c, rfl⟩ := wk_c ek
  by_cases hs : ∃ z, x = .d (.str z)
  · obtain ⟨z, rfl⟩ := hs
    refine (pi_str ha).run pins s σ H R I (one hr sl ex fun w1 H1 v l r q => ⟨z, q, p w1 H1 _ l r ?_⟩)
    cases c
    intro w' S' H' i l' r' _
    refine ⟨fun d e => ?_, fun e => ?_⟩
    · have e : (z.cps.toList.map fun c => D.str ⟨#[c]⟩)[i]? = some d := e
      rw [List.getElem?_map] at e
      cases ez : z.cps.toList[i]? with
      | none => rw [ez] at e; cases e
      | some ch =>
        rw [ez] at e; cases e
        have ez' : z.cps[i]? = some ch := by rw [← Array.getElem?_toList]; exact ez
        refine ⟨(Array.getElem?_eq_some_iff.mp ez').1, fun x H2 y => ?_⟩
        obtain ⟨rfl, c', e1, rfl⟩ := y
        rw [ez'] at e1; cases e1
        exact ⟨w', .refl _, rfl, r', rfl⟩
    · have e : (z.cps.toList.map fun c => D.str ⟨#[c]⟩)[i]? = none := e
      have e := List.getElem?_eq_none_iff.mp e
      rw [List.length_map, Array.length_toList] at e
      exact e
  · have noS : ∀ {w1 : W} {H1 : Hp} {v : V}, Rel X.K w1 S2 H1 → RRV X.K w1 H1 x v → _ := fun {w1 H1 v} r q => wk_list (K := X.K) r q c
    by_cases ht : ∃ ds, x = .d (.tup ds)
    · refine (pi_tup ha).run pins s σ H R I (one hr sl ex fun w1 H1 v l r q => ?_)
      obtain ⟨ds, rfl⟩ := ht
      cases c
      obtain ⟨ad, vs, rfl, ht, hd⟩ := q
      exact ⟨ad, rfl, ⟨vs, r.sub.sqT X.K ht⟩, p w1 H1 _ l r (gw_tup ht hd)⟩
    · refine (pi_list ha).run pins s σ H R I (one hr sl ex fun w1 H1 v l r q => ?_)
      rcases noS r q with ⟨ad, vs, w2, rfl, hv, l2, r2, hw⟩ | ⟨ad, vs, rfl, _, _, _⟩ | ⟨z, e, _⟩
      · exact ⟨ad, rfl, ⟨vs, SqL.of hv⟩, p w2 H1 _ (l.trans l2) r2 (gw_list (fun w S' H l3 r3 c3 => hw w S' H l3 r3 c3))⟩
      · cases c with
        | tup ds S => exact absurd ⟨ds, rfl⟩ ht
        | loc u i S z ds h =>
          obtain ⟨ad', vs', e, had, hv, hd⟩ := loc_lst r (show RSV X.K w1 (.loc u i) (.ref ad) from q) h
          cases e
          exact ⟨ad, rfl, ⟨vs', SqL.of hv⟩, p w1 H1 _ l r (gw_list fun w S' H l' r' c' => by
            obtain ⟨z', h'⟩ := walk_at rfl c'
            obtain ⟨ad', vs', e, had', hv', hd'⟩ := loc_lst r' (show RSV X.K w (.loc u i) (.ref ad) from ⟨ad, l'.ad had, rfl⟩) h'
            cases e
            exact ⟨vs', hv', hd'⟩)⟩
        | new ds S =>
          obtain ⟨ad', vs', e, hv, hd, hF, ha⟩ := q
          cases e
          obtain ⟨r2, l2⟩ := r.froze X.K hv hF ha
          exact ⟨ad, rfl, ⟨vs', SqL.of hv⟩, p _ H1 _ (l.trans l2) r2 (gw_list fun w S' H l' r' _ => ⟨vs', r'.sub _ _ (l'.F _ _ upd_same), RDs.mono X.K (l2.F.trans l'.F) (l2.gl.trans l'.gl) ds hd⟩)⟩
        | lst ds S =>
          obtain ⟨ad', vs', e, hv, hd⟩ := q
          cases e
          exact ⟨ad, rfl, ⟨vs', SqL.of (r.sub _ _ hv)⟩, p w1 H1 _ l r (gw_list fun w S' H l' r' _ => ⟨vs', r'.sub _ _ (l'.F _ _ hv), RDs.mono X.K l'.F l'.gl ds hd⟩)⟩
        | str z S => exact absurd ⟨z, rfl⟩ hs
      · exact absurd ⟨z, e⟩ hs
end
end U

namespace U
open PySem PySem.Spec PyProof.Rows L2
section
variable {K : PySem.W.Frag} {X : Cx} {tg a b : Expr} {p0 pos : Pos}
theorem rngUp_get : ∀ (n : Nat) (lo : Int) (i : Nat), (rngUp lo n)[i]? = if i < n then some (D.int (lo + i)) else none
  | 0, lo, i => by rw [if_neg (Nat.not_lt_zero _)]; rfl
  | n + 1, lo, 0 => by rw [if_pos (Nat.succ_pos _)]; show some (D.int lo) = _; rw [show lo + ((0 : Nat) : Int) = lo by omega]
  | n + 1, lo, i + 1 => by
    show (rngUp (lo + 1) n)[i]? = _
    rw [rngUp_get n (lo + 1) i]
    by_cases h : i < n
    · rw [if_pos h, if_pos (by omega), show lo + 1 + (i : Int) = lo + ((i + 1 : Nat) : Int) by omega]
    · rw [if_neg h, if_neg (by omega)]
theorem rngDn_get : ∀ (n : Nat) (lo : Int) (i : Nat), (rngDn lo n)[i]? = if i < n then some (D.int (lo + (i : Nat) * (-1))) else none
  | 0, lo, i => by rw [if_neg (Nat.not_lt_zero _)]; rfl
  | n + 1, lo, 0 => by rw [if_pos (Nat.succ_pos _)]; show some (D.int lo) = _; rw [show lo + ((0 : Nat) : Int) * (-1) = lo by omega]
  | n + 1, lo, i + 1 => by
    show (rngDn (lo - 1) n)[i]? = _
    rw [rngDn_get n (lo - 1) i]
    by_cases h : i < n
    · rw [if_pos h, if_pos (by omega), show lo - 1 + (i : Int) * (-1) = lo + ((i + 1 : Nat) : Int) * (-1) by omega]
    · rw [if_neg h, if_neg (by omega)]
theorem gw_up {w0 : W} (lo : Int) (n : Nat) : GW K (Itr lo n) w0 ⟨rngUp lo n, none⟩ := fun w S H i l r c => by
  refine ⟨fun d e => ?_, fun e => ?_⟩
  · rw [rngUp_get] at e
    by_cases h : i < n
    · rw [if_pos h] at e; cases e
      exact ⟨h, fun x H' y => by obtain ⟨rfl, rfl⟩ := y; exact ⟨w, .refl w, rfl, r, rfl⟩⟩
    · rw [if_neg h] at e; cases e
  · rw [rngUp_get] at e
    by_cases h : i < n
    · rw [if_pos h] at e; cases e
    · exact Nat.not_lt.mp h
theorem gw_dn {w0 : W} (lo : Int) (n : Nat) : GW K (Itc lo (-1) n) w0 ⟨rngDn lo n, none⟩ := fun w S H i l r c => by
  refine ⟨fun d e => ?_, fun e => ?_⟩
  · rw [rngDn_get] at e
    by_cases h : i < n
    · rw [if_pos h] at e; cases e
      exact ⟨h, fun x H' y => by obtain ⟨rfl, rfl⟩ := y; exact ⟨w, .refl w, rfl, r, rfl⟩⟩
    · rw [if_neg h] at e; cases e
  · rw [rngDn_get] at e
    by_cases h : i < n
    · rw [if_pos h] at e; cases e
    · exact Nat.not_lt.mp h
def rng1F (fa : Env → M RV) : Env → M Walk := fun ρ => M.bind (fa ρ) fun x => match dataInt x with
  | some j => if big62 j = true then M.ret ⟨rngUp 0 j.toNat, none⟩ else M.bad
  | none => M.bad
theorem si_rng1 {fa : Env → M RV} (hg : Gl X "range") (hm : X.mg "range" = none) (ha : PE X a (tE K fa)) (ho : okHead a = true) : PI X tg (.Call (.Name "range" p0) [a] [] pos) (tW K (rng1F fa)) := by
  refine PI.weak (pi_range1 hg hm (pa_cons ha pa_nil (star_cons ho)) (star_one ho)) fun σ H R h => ?_
  obtain ⟨w, ρ, S, hr, sl, p⟩ := h
  obtain ⟨x, S1, k, S2, ex, ek, p⟩ := tW.bind p
  cases ei : dataInt x with
  | none => rw [ei] at ek; cases ek
  | some j =>
    rw [ei] at ek
    dsimp only at ek
    split at ek
    · rename_i hb
      cases ek
      have := dataInt_eq ei
      subst this
      have hb := big62_ok hb
      exact one hr sl ex fun w1 H1 v l r q => ⟨j, by rw [show v = .int j from q], hb.1, hb.2, p w1 H1 _ l r (gw_up 0 _)⟩
    · cases ek
def rng2F (fa fb : Env → M RV) : Env → M Walk := fun ρ => M.bind (fa ρ) fun x => M.bind (fb ρ) fun y => match dataInt x, dataInt y with
  | some i, some j => if (big62 i && big62 j) = true then M.ret ⟨rngUp i (j - i).toNat, none⟩ else M.bad
  | _, _ => M.bad
def rngDF (fa fb : Env → M RV) : Env → M Walk := fun ρ => M.bind (fa ρ) fun x => M.bind (fb ρ) fun y => match dataInt x, dataInt y with
  | some i, some j => if (big62 i && big62 j) = true then M.ret ⟨rngDn i (i - j).toNat, none⟩ else M.bad
  | _, _ => M.bad
theorem rng2_ok {f : Int → Int → Walk} {fa fb : Env → M RV} {ρ : Env} {S S2 : St} {k : Walk} (h : (M.bind (fa ρ) fun x => M.bind (fb ρ) fun y => match dataInt x, dataInt y with
    | some i, some j => if (big62 i && big62 j) = true then M.ret (f i j) else M.bad
    | _, _ => M.bad) S = .ok k S2) : ∃ i j S1, fa ρ S = .ok (.d (.int i)) S1 ∧ fb ρ S1 = .ok (.d (.int j)) S2 ∧ (-(2 ^ 62) ≤ i ∧ i < 2 ^ 62 ∧ -(2 ^ 62) ≤ j ∧ j < 2 ^ 62) ∧ k = f i j := by
  obtain ⟨x, S1, ex, h⟩ := bind_ok h
  obtain ⟨y, S3, ey, h⟩ := bind_ok h
  cases ei : dataInt x with
  | none => rw [ei] at h; cases h
  | some i =>
    cases ej : dataInt y with
    | none => rw [ei, ej] at h; cases h
    | some j =>
      rw [ei, ej] at h
      dsimp only at h
      split at h
      · rename_i hb
        rw [Bool.and_eq_true] at hb
        cases h
        have b1 := big62_ok hb.1
        have b2 := big62_ok hb.2
        exact ⟨i, j, S1, by rw [ex, dataInt_eq ei], by rw [ey, dataInt_eq ej], ⟨b1.1, b1.2, b2.1, b2.2⟩, rfl⟩
      · cases h
theorem tW.ok {f : Env → M Walk} {ρ : Env} {S : St} {P : Walk → St → Prop} (h : match f ρ S with
    | .ok k S1 => P k S1
    | _ => False) : ∃ k S1, f ρ S = .ok k S1 ∧ P k S1 := by
  cases e : f ρ S with
  | ok k S1 => rw [e] at h; exact ⟨k, S1, rfl, h⟩
  | exc _ _ => rw [e] at h; exact h.elim
  | bad => rw [e] at h; exact h.elim
theorem si_rng2 {fa fb : Env → M RV} (hg : Gl X "range") (hm : X.mg "range" = none) (ha : PE X a (tE K fa)) (hb : PE X b (tE K fb)) (ho : okHead a = true) (ho' : okHead b = true) : PI X tg (.Call (.Name "range" p0) [a, b] [] pos) (tW K (rng2F fa fb)) := by
  refine PI.weak (pi_range2 hg hm (pa_cons ha (pa_cons hb pa_nil (star_cons ho')) (star_cons ho)) (by rw [star_cons ho, star_one ho']) (star_one ho')) fun σ H R h => ?_
  obtain ⟨w, ρ, S, hr, sl, p⟩ := h
  obtain ⟨k, S2, ek, p⟩ := tW.ok p
  obtain ⟨i, j, S1, ex, ey, hb, rfl⟩ := rng2_ok (f := fun i j => ⟨rngUp i (j - i).toNat, none⟩) ek
  exact two (r := fun x y H Q => Q x H ∨ Q x H ∨ ∃ i j : Int, [x, y] = [.int i, .int j] ∧ (-(2 ^ 62) ≤ i ∧ i < 2 ^ 62 ∧ -(2 ^ 62) ≤ j ∧ j < 2 ^ 62) ∧ R (Itr i (j - i).toNat) H) (Q := fun _ _ => False) hr sl ex ey (fun w2 H2 vx vy l r q1 q2 => .inr (.inr ⟨i, j, by rw [show vx = .int i from q1, show vy = .int j from q2], hb, p w2 H2 _ l r (gw_up _ _)⟩)) |> fun t => by
    obtain ⟨w, ρ, S, r1, s1, t⟩ := t
    refine ⟨w, ρ, S, r1, s1, ?_⟩
    cases e : fa ρ S with
    | ok x S1 =>
      rw [e] at t
      intro w' H' v l r q
      obtain ⟨w2, ρ2, S2, r2, s2, t2⟩ := t w' H' v l r q
      refine ⟨w2, ρ2, S2, r2, s2, ?_⟩
      cases e2 : fb ρ2 S2 with
      | ok y S3 =>
        rw [e2] at t2
        intro w3 H3 v3 l3 r3 q3
        rcases t2 w3 H3 v3 l3 r3 q3 with h | h | h
        · exact h.elim
        · exact h.elim
        · exact h
      | exc _ _ => rw [e2] at t2; exact t2.elim
      | bad => rw [e2] at t2; exact t2.elim
    | exc _ _ => rw [e] at t; exact t.elim
    | bad => rw [e] at t; exact t.elim
theorem twoP {fa fb : Env → M RV} {w : W} {ρ : Env} {S S1 S2 : St} {x y : RV} {σ : L2.St} {H : Hp} {R : V → V → Hp → Prop} (hr : Rel K w S H) (sl : RSl K w ρ σ) (ex : fa ρ S = .ok x S1) (ey : fb ρ S1 = .ok y S2)
    (h : ∀ w2 H2 vx vy, w.le w2 → Rel K w2 S2 H2 → RSV K w2 (hold x) vx → RRV K w2 H2 y vy → R vx vy H2) : tE K fa σ H fun x H1 => tE K fb σ H1 fun y H2 => R x y H2 := by
  refine one hr sl ex fun w1 H1 vx l1 r1 q1 => ?_
  obtain ⟨w1', l1', r1', _, q1'⟩ := r1.hold K q1
  refine one r1' (sl.mono K (l1.trans l1')) ey fun w2 H2 vy l2 r2 q2 => ?_
  exact h w2 H2 vx vy ((l1.trans l1').trans l2) r2 (q1'.mono K l2) q2
theorem si_rngD {fa fb : Env → M RV} {k1 : Nat} {q1 q2 : Pos} (hg : Gl X "range") (hm : X.mg "range" = none) (ha : PE X a (tE K fa)) (hb : PE X b (tE K fb)) (ho : okHead a = true) (ho' : okHead b = true) :
    PI X tg (.Call (.Name "range" p0) [a, b, .UnaryOp .USub (.Constant (.int 1) k1 q1) q2] [] pos) (tW K (rngDF fa fb)) := by
  refine PI.weak (pi_range3 hg hm (pa_cons ha (pa_cons hb (pa_cons (pe_un un_neg pe_int) pa_nil rfl) (star_cons ho')) (star_cons ho)) (star_cons ho) (noStar (by rw [List.all_cons, ho']; rfl))) fun σ H R h => ?_
  obtain ⟨w, ρ, S, hr, sl, p⟩ := h
  obtain ⟨k, S2, ek, p⟩ := tW.ok p
  obtain ⟨i, j, S1, ex, ey, hb, rfl⟩ := rng2_ok (f := fun i j => ⟨rngDn i (i - j).toNat, none⟩) ek
  refine twoP hr sl ex ey fun w2 H2 vx vy l r q1 q2 => ⟨1, rfl, i, j, -1, _, ?_, RgC.neg hb.1 hb.2.1 hb.2.2.1 hb.2.2.2, p w2 H2 _ l r (gw_dn _ _)⟩
  rw [show vx = .int i from q1, show vy = .int j from q2]
def revF (fa : Env → M RV) : Env → M Walk := fun ρ => M.bind (fa ρ) fun x => M.bind (keep x) fun d => match items d with
  | some ds => M.ret ⟨ds.reverse, none⟩
  | none => M.bad
theorem rev_get {α : Type} {xs : List α} {n i : Nat} (hn : xs.length = n) : xs.reverse[i]? = if i < n then xs[n - 1 - i]? else none := by
  by_cases h : i < n
  · rw [if_pos h, List.getElem?_reverse (by omega), hn]
  · rw [if_neg h, List.getElem?_eq_none_iff.mpr (by rw [List.length_reverse]; omega)]
theorem si_rev {fa : Env → M RV} (hK : X.K = K) (hg : Gl X "reversed") (hm : X.mg "reversed" = none) (ha : PE X a (tE K fa)) (ho : okHead a = true) : PI X tg (.Call (.Name "reversed" p0) [a] [] pos) (tW K (revF fa)) := by
  subst hK
  refine PI.weak (RT.pi_revA hg hm ha (star_cons ho)) fun σ H R h => ?_
  obtain ⟨w, ρ, S, hr, sl, p⟩ := h
  obtain ⟨k, S3, ek, p⟩ := tW.ok p
  obtain ⟨x, S1, ex, ek⟩ := bind_ok ek
  obtain ⟨d, S2, ed, ek⟩ := bind_ok ek
  have core : ∀ (ad : Addr) (vs : List V) (ds : List D) (w1 : W) (J : It), (∀ (w2 : W) (S : St) (H : Hp), w1.lex w2 → Rel X.K w2 S H → RDs X.K w2.F w2.gl ds vs) → vs.length = ds.length →
      (∀ (w2 : W) (S : St) (H : Hp) (i : Nat), w1.lex w2 → Rel X.K w2 S H → (∀ u, i < vs.length → vs[vs.length - 1 - i]? = some u → J.go i H ∧ ∀ x H', J.yld i H x H' → H' = H ∧ x = u) ∧ (vs.length ≤ i → J.stop i H)) → GW X.K J w1 ⟨ds.reverse, none⟩ := by
    intro ad vs ds w1 J hd hl hj w3 S3 H3 i l3 r3 c3
    have hd3 := hd w3 S3 H3 l3 r3
    obtain ⟨j1, j2⟩ := hj w3 S3 H3 i l3 r3
    refine ⟨fun d e => ?_, fun e => ?_⟩
    · rw [rev_get hl.symm] at e
      by_cases hi : i < vs.length
      · rw [if_pos hi] at e
        obtain ⟨u, e1, qu⟩ := RDs.get X.K hd3 e
        obtain ⟨a1, a2⟩ := j1 u hi e1
        refine ⟨a1, fun x H' y => ?_⟩
        obtain ⟨rfl, rfl⟩ := a2 x H' y
        exact ⟨w3, .refl _, rfl, r3, qu⟩
      · rw [if_neg hi] at e; cases e
    · have e := List.getElem?_eq_none_iff.mp e
      rw [List.length_reverse] at e
      exact j2 (by omega)
  refine one hr sl ex fun w1 H1 v l r q => ?_
  obtain ⟨w2, l2, r2, _, qd⟩ := r.kept X.K q ed
  cases d with
  | tup ds =>
    cases ek
    obtain ⟨ad, vs, rfl, ht, hd⟩ := qd
    refine ⟨ad, vs, rfl, .inr ⟨r2.sub.sqT X.K ht, p w2 H1 _ (l.trans l2) r2 (core ad vs ds w2 _ (fun w3 _ _ l3 _ => RDs.mono X.K l3.F l3.gl ds hd) (RDs.len X.K hd) fun w3 S3 H3 i l3 r3 => ?_)⟩⟩
    have ht3 := (l3.F.trans r3.sub).sqT X.K ht
    refine ⟨fun u hi e1 => ⟨⟨hi, vs, u, ht3, e1⟩, fun x H' y => ?_⟩, fun h => h⟩
    obtain ⟨rfl, y⟩ := y
    have e2 := y vs ht3
    rw [e1] at e2; cases e2
    exact ⟨rfl, rfl⟩
  | lst ds =>
    cases ek
    obtain ⟨ad, vs, rfl, ht, hd⟩ := qd
    refine ⟨ad, vs, rfl, .inl ⟨SqL.of (r2.sub _ _ ht), p w2 H1 _ (l.trans l2) r2 (core ad vs ds w2 _ (fun w3 _ _ l3 _ => RDs.mono X.K l3.F l3.gl ds hd) (RDs.len X.K hd) fun w3 S3 H3 i l3 r3 => ?_)⟩⟩
    have ht3 := r3.sub _ _ (l3.F _ _ ht)
    refine ⟨fun u hi e1 => ⟨⟨hi, vs, u, SqL.of ht3, e1⟩, fun x H' y => ?_⟩, fun h => h⟩
    obtain ⟨rfl, y⟩ := y
    have e2 := y vs (SqL.of ht3)
    rw [e1] at e2; cases e2
    exact ⟨rfl, rfl⟩
  | _ => cases ek
end
end U

namespace U
open PySem PySem.Spec PyProof.Rows L2

theorem RSV.lexm (K : PySem.W.Frag) {w w' : W} (l : w.lex w') : ∀ {x : SV} {v : V}, RSV K w x v → RSV K w' x v
  | .d d, v, h => RD.mono K l.F l.gl d h
  | .loc u i, v, ⟨a, h, e⟩ => ⟨a, l.ad h, e⟩
theorem RSl.lexm (K : PySem.W.Frag) {w w' : W} (l : w.lex w') : ∀ {ρ : Env} {σ : List (Option V)}, RSl K w ρ σ → RSl K w' ρ σ
  | [], _, h => h
  | x :: ρ, _, ⟨y, r, e, h, t⟩ => ⟨y, r, e, fun s es => let ⟨v, e1, q⟩ := h s es; ⟨v, e1, q.lexm K l⟩, RSl.lexm K l t⟩
/-! ### targets -/
def Tg.sl : Tg → List Nat
  | .one i => [i]
  | .many is => is
theorem wipe_set : ∀ {vs : List Nat} {σ : L2.St} {i : Nat} {x : Option V}, i ∈ vs → wipe (σ.set i x) vs = wipe σ vs
  | [], _, _, _, h => by cases h
  | v :: vs, σ, i, x, h => by
    show (wipe (σ.set i x) vs).set v none = (wipe σ vs).set v none
    by_cases hi : i ∈ vs
    · rw [wipe_set hi]
    · have e : i = v := by
        rcases List.mem_cons.mp h with e | e
        · exact e
        · exact absurd e hi
      subst e
      have : ∀ (vs : List Nat), i ∉ vs → wipe (σ.set i x) vs = (wipe σ vs).set i x := by
        intro vs
        induction vs with
        | nil => intro _; rfl
        | cons u us ih =>
          intro hu
          show (wipe (σ.set i x) us).set u none = ((wipe σ us).set u none).set i x
          rw [ih (fun z => hu (List.mem_cons_of_mem _ z)), List.set_comm _ _ (fun z => hu (by rw [z]; exact List.mem_cons_self))]
      rw [this vs hi, List.set_set]
theorem wipe_none : ∀ {vs : List Nat} {σ : L2.St} {i : Nat}, i ∈ vs → (wipe σ vs).set i none = wipe σ vs
  | [], _, _, h => by cases h
  | v :: vs, σ, i, h => by
    show ((wipe σ vs).set v none).set i none = (wipe σ vs).set v none
    by_cases hv : i = v
    · subst hv; rw [List.set_set]
    · have hi : i ∈ vs := by
        rcases List.mem_cons.mp h with e | e
        · exact absurd e hv
        · exact e
      rw [List.set_comm _ _ (fun z => hv z.symm), wipe_none hi]
theorem wipe_wipe (vs : List Nat) (σ : L2.St) : wipe (wipe σ vs) vs = wipe σ vs := by
  have : ∀ us : List Nat, (∀ u ∈ us, u ∈ vs) → wipe (wipe σ vs) us = wipe σ vs := by
    intro us
    induction us with
    | nil => intro _; rfl
    | cons u us ih =>
      intro hu
      show (wipe (wipe σ vs) us).set u none = wipe σ vs
      rw [ih fun x hx => hu x (List.mem_cons_of_mem _ hx)]
      exact wipe_none (hu u List.mem_cons_self)
  exact this vs fun _ h => h
/-- a target takes a value -/
def tG (K : PySem.W.Frag) (tg : Tg) : TG := fun v σ H Q => ∃ w ρ d ρ', RSl K w ρ σ ∧ U.sub w.F H ∧ RD K w.F w.gl d v ∧ putT tg d ρ = some ρ' ∧ ∀ σ', RSl K w ρ' σ' → (∀ vs, (∀ i ∈ tg.sl, i ∈ vs) → wipe σ' vs = wipe σ vs) → Q σ' H
theorem PG.weak {X : Cx} {tg : Expr} {t t' : TG} (h : PG X tg t) (i : ∀ v σ H Q, t' v σ H Q → t v σ H Q) : PG X tg t' := ⟨fun pins s σ H v u Q I r q => h.run pins s σ H v u Q I r (i v σ H Q q)⟩
theorem PGs.weak {X : Cx} {tg : List Expr} {t t' : TGs} (h : PGs X tg t) (i : ∀ v σ H Q, t' v σ H Q → t v σ H Q) : PGs X tg t' := ⟨fun pins s σ H v u Q I r q => h.run pins s σ H v u Q I r (i v σ H Q q)⟩
section
variable {K : PySem.W.Frag} {X : Cx} {pos : Pos}
theorem sg_one {i : Nat} {x : Str} (hN : X.N.Nodup) (hi : X.N[i]? = some x) (hx : Loc X.env.scope x) (hf : X.fn x = true ∨ X.env.scope.names.lookup x = some .local) : PG X (.Name x pos) (tG K (.one i)) := by
  refine PG.weak (pg_name hN hi hx hf) fun v σ H Q h => ?_
  obtain ⟨w, ρ, d, ρ', sl, sb, q, e, h⟩ := h
  cases e
  exact h _ (RSl.set K (s := .d d) q i sl) fun vs hv => wipe_set (hv i List.mem_cons_self)
def tGs (K : PySem.W.Frag) (is : List Nat) : TGs := fun vs σ H Q => ∃ w ρ ds ρ', RSl K w ρ σ ∧ U.sub w.F H ∧ RDs K w.F w.gl ds vs ∧ puts is ds ρ = some ρ' ∧ ∀ σ', RSl K w ρ' σ' → (∀ us, (∀ i ∈ is, i ∈ us) → wipe σ' us = wipe σ us) → Q σ' H
theorem sgs_nil : PGs X [] (tGs K []) := by
  refine PGs.weak pgs_nil fun vs σ H Q h => ?_
  obtain ⟨w, ρ, ds, ρ', sl, sb, q, e, h⟩ := h
  cases ds with
  | nil => cases e; exact ⟨q, h σ sl fun _ _ => rfl⟩
  | cons _ _ => cases e
theorem sgs_cons {e : Expr} {es : List Expr} {i : Nat} {is : List Nat} (h1 : PG X e (tG K (.one i))) (h2 : PGs X es (tGs K is)) (hs : (assignEach (e :: es) X.env).map (·.2) = assign e X.env :: (assignEach es X.env).map (·.2)) : PGs X (e :: es) (tGs K (i :: is)) := by
  refine PGs.weak (pgs_cons h1 h2 hs) fun vs σ H Q h => ?_
  obtain ⟨w, ρ, ds, ρ', sl, sb, q, e, h⟩ := h
  cases ds with
  | nil => cases e
  | cons d ds =>
    obtain ⟨v, r, rfl, qv, qr⟩ := q
    refine ⟨v, r, rfl, w, ρ, d, ρ.put i d, sl, sb, qv, rfl, fun σ1 sl1 hw1 => ?_⟩
    refine ⟨w, ρ.put i d, ds, ρ', sl1, sb, qr, e, fun σ2 sl2 hw2 => ?_⟩
    refine h σ2 sl2 fun us hu => ?_
    rw [hw2 us fun j hj => hu j (List.mem_cons_of_mem _ hj), hw1 us fun j hj => hu j ?_]
    rcases List.mem_cons.mp hj with rfl | hj
    · exact List.mem_cons_self
    · cases hj
theorem puts_len : ∀ {is : List Nat} {ds : List D} {ρ ρ' : Env}, puts is ds ρ = some ρ' → ds.length = is.length
  | [], [], _, _, _ => rfl
  | _ :: _, _ :: _, _, _, h => congrArg Nat.succ (puts_len h)
  | [], _ :: _, _, _, h => by cases h
  | _ :: _, [], _, _, h => by cases h
theorem sg_many {es : List Expr} {k : Nat} {is : List Nat} (hK : X.K = K) (hc : X.calm = true) (h : PGs X es (tGs K is)) (hn : (assignEach es X.env).length = is.length) (hst : (assignEach es X.env).findIdx? (·.1) = none) : PG X (.Tuple es k pos) (tG K (.many is)) := by
  subst hK
  refine PG.weak (pg_tup hc h hn hst) fun v σ H Q h => ?_
  obtain ⟨w, ρ, d, ρ', sl, sb, q, e, h⟩ := h
  cases d with
  | tup ds =>
    obtain ⟨a, vs, rfl, ht, hd⟩ := q
    have e : puts is ds ρ = some ρ' := e
    exact ⟨a, vs, rfl, sb.sqT X.K ht, by rw [RDs.len X.K hd]; exact puts_len e, w, ρ, ds, ρ', sl, sb, hd, e, fun σ' sl' hw => h σ' sl' fun us hu => hw us hu⟩
  | _ => cases e

/-- a list's items -/
def tGL (K : PySem.W.Frag) (is : List Nat) : TG := fun v σ H Q => ∃ w ρ ds ρ', RSl K w ρ σ ∧ U.sub w.F H ∧ (∃ a vs, v = .ref a ∧ SqL K H a vs ∧ RDs K w.F w.gl ds vs) ∧ puts is ds ρ = some ρ' ∧ ∀ σ', RSl K w ρ' σ' → (∀ us, (∀ i ∈ is, i ∈ us) → wipe σ' us = wipe σ us) → Q σ' H
theorem sg_manyL {es : List Expr} {k : Nat} {is : List Nat} (hK : X.K = K) (hc : X.calm = true) (h : PGs X es (tGs K is)) (hn : (assignEach es X.env).length = is.length) (hst : (assignEach es X.env).findIdx? (·.1) = none) : PG X (.Tuple es k pos) (tGL K is) := by
  subst hK
  refine PG.weak (pg_unl hc h hn hst) fun v σ H Q h => ?_
  obtain ⟨w, ρ, ds, ρ', sl, sb, ⟨a, vs, rfl, hq, hd⟩, e, h⟩ := h
  exact ⟨a, vs, rfl, hq, by rw [RDs.len X.K hd]; exact puts_len e, w, ρ, ds, ρ', sl, sb, hd, e, h⟩
/-! ### comprehensions -/
def lcF (fw : Env → M Walk) (tg : Tg) (fc fe : Env → M RV) (vs : List Nat) : Env → M RV := fun ρ => M.bind (fw ρ) fun k => M.bind (compL k.chk (fun x => putT tg x (wipeE ρ vs)) fc fe k.xs) fun ds => fun S => if sz ds.length = true then .ok (.new (.lst ds)) S else .bad
theorem compL_nil {chk : St → Bool} {put : D → Option Env} {fc fe : Env → M RV} {S S' : St} {ds : List D} (h : compL chk put fc fe [] S = .ok ds S') : chk S = true ∧ ds = [] ∧ S' = S := by
  unfold compL at h
  split at h
  · cases h; exact ⟨by assumption, rfl, rfl⟩
  · cases h
theorem compL_cons {chk : St → Bool} {put : D → Option Env} {fc fe : Env → M RV} {S S' : St} {x : D} {xs ds : List D} (h : compL chk put fc fe (x :: xs) S = .ok ds S') :
    chk S = true ∧ ∃ ρ c S1, put x = some ρ ∧ fc ρ S = .ok c S1 ∧ ((truth c = some false ∧ compL chk put fc fe xs S1 = .ok ds S') ∨
      (truth c = some true ∧ ∃ y S2 d S3 ds', fe ρ S1 = .ok y S2 ∧ keep y S2 = .ok d S3 ∧ compL chk put fc fe xs S3 = .ok ds' S' ∧ ds = d :: ds')) := by
  unfold compL at h
  split at h
  · rename_i hc
    refine ⟨hc, ?_⟩
    split at h
    · cases h
    · rename_i ρ hp
      split at h
      · rename_i c S1 hfc
        refine ⟨ρ, c, S1, hp, hfc, ?_⟩
        split at h
        · rename_i ht
          right
          refine ⟨ht, ?_⟩
          split at h
          · rename_i y S2 hfe
            split at h
            · rename_i d S3 hk
              split at h
              · rename_i ds' S4 hr
                cases h
                exact ⟨y, S2, d, S3, ds', hfe, hk, hr, rfl⟩
              · cases h
            · cases h
          · cases h
        · rename_i ht
          left
          exact ⟨ht, h⟩
        · cases h
      · cases h
  · cases h
theorem lc_core' {own : List (Str × Nat)} {fw : Env → M Walk} {tg : Tg} {fc fe : Env → M RV} {σ : L2.St} {H : Hp} {Q : VK} (htg : ∀ i ∈ tg.sl, i ∈ own.map (·.2)) (h : tE X.K (lcF fw tg fc fe (own.map (·.2))) σ H Q) :
    tLc (tW X.K fw) (tG X.K tg) (tT X.K fc) (tE X.K fe) (own.map (·.2)) σ H Q := by
  obtain ⟨w, ρ, S, hr, sl, p⟩ := h
  unfold lcF at p
  obtain ⟨k, S1, ek, p⟩ := p.bind
  obtain ⟨ds, S2, ed, p⟩ := p.bind
  split at p
  · rename_i hz
    have hz := sz_le hz
    refine ⟨w, ρ, S, hr, sl, ?_⟩
    rw [ek]
    intro w1 H1 J l1 r1 gw A hA
    have sl1 := sl.mono X.K l1
    obtain ⟨hF, hnA⟩ := r1.notF X.K hA
    -- the list so far
    have dsl : ∀ {acc ds' : List D}, ds = acc ++ ds' → acc.length ≤ ds.length := fun h => by rw [h, List.length_append]; omega
    refine ⟨fun i m H' => m = k.xs.length - i ∧ ∃ w' S' acc vacc ds', w'.ex = (A, .lst vacc) :: w1.ex ∧ w1.lex w' ∧ Rel X.K w' S' H' ∧ RDs X.K w'.F w'.gl acc vacc ∧
      compL k.chk (fun x => putT tg x (wipeE ρ (own.map (·.2)))) fc fe (k.xs.drop i) S' = .ok ds' S2 ∧ ds = acc ++ ds', ?_, ?_⟩
    · refine ⟨_, rfl, { w1 with ex := (A, .lst []) :: w1.ex }, S1, [], [], ds, rfl, ⟨U.sub.refl _, pre.refl _, rfl, pre.refl _⟩, (r1.new X.K hA).extake X.K upd_same hF hnA, rfl, ?_, rfl⟩
      rw [List.drop_zero]; exact ed
    · rintro i m H' ⟨rfl, w', S', acc, vacc, ds', hex, l', r', qa, hcl, hds⟩
      by_cases hlt : i < k.xs.length
      · -- one more turn
        right
        rw [List.drop_eq_getElem_cons hlt] at hcl
        obtain ⟨hchk, ρ1, c, S3, hput, hfc, hrest⟩ := compL_cons hcl
        obtain ⟨g1, _⟩ := gw w' S' H' i l' r' hchk
        obtain ⟨hgo, hy⟩ := g1 _ (List.getElem?_eq_getElem hlt)
        refine ⟨hgo, fun H2 => ∃ w2 S2' acc2 vacc2 ds2, w2.ex = (A, .lst vacc2) :: w1.ex ∧ w1.lex w2 ∧ Rel X.K w2 S2' H2 ∧ RDs X.K w2.F w2.gl acc2 vacc2 ∧
          compL k.chk (fun x => putT tg x (wipeE ρ (own.map (·.2)))) fc fe (k.xs.drop (i + 1)) S2' = .ok ds2 S2 ∧ ds = acc2 ++ ds2, fun H2 h2 => ⟨_, by omega, rfl, h2⟩, fun x H2 yx => ?_⟩
        obtain ⟨w3, l3, o3, r3, qx⟩ := hy x H2 yx
        have l13 := l'.trans l3.lex
        have slw := (RSl.wipe X.K (sl1.lexm X.K l13) (own.map (·.2)))
        refine ⟨w3, _, _, _, slw, r3.sub, qx, hput, fun σ' sl' hw => ?_⟩
        refine ⟨by rw [hw (own.map (·.2)) htg, wipe_wipe], ?_⟩
        refine ⟨w3, ρ1, S', r3, sl', ?_⟩
        rw [hfc]
        rcases hrest with ⟨htf, hcl'⟩ | ⟨htt, y, S4, d, S5, ds2, hfe, hk, hcl', rfl⟩
        · refine ⟨false, htf, fun w4 H4 l4 r4 => ?_⟩
          refine iteF ?_
          exact ⟨w4, S3, acc, vacc, ds', by rw [l4.ex, l3.ex, hex], l13.trans l4.lex, r4, RDs.mono X.K (l3.F.trans l4.F) (l3.gl.trans l4.gl) acc qa, hcl', hds⟩
        · refine ⟨true, htt, fun w4 H4 l4 r4 => ?_⟩
          refine iteT ?_
          refine ⟨w4, ρ1, S3, r4, sl'.mono X.K l4, ?_⟩
          rw [hfe]
          intro w5 H5 v l5 r5 q5
          obtain ⟨w6, l6, r6, _, q6⟩ := r5.kept X.K q5 hk
          have e6 : w6.ex = (A, .lst vacc) :: w1.ex := by rw [l6.ex, l5.ex, l4.ex, l3.ex, hex]
          have hA6 := (r6.ex (A, .lst vacc) (by rw [e6]; exact List.mem_cons_self)).1
          have qa6 := RDs.mono X.K (((l3.F.trans l4.F).trans l5.F).trans l6.F) (((l3.gl.trans l4.gl).trans l5.gl).trans l6.gl) acc qa
          refine ⟨vacc, hA6, ?_, { w6 with ex := (A, .lst (vacc ++ [v])) :: w1.ex }, S5, acc ++ [d], vacc ++ [v], ds2, rfl, ?_, r6.exset X.K e6, RDs.app X.K qa6 ⟨v, [], rfl, q6, rfl⟩, hcl', by rw [hds, List.append_assoc]; rfl⟩
          · rw [RDs.len X.K qa]
            have : (acc ++ d :: ds2).length ≤ sizeLine := by rw [← hds]; exact hz
            rw [List.length_append, List.length_cons] at this
            omega
          · have l6' := ((l13.trans l4.lex).trans l5.lex).trans l6.lex
            exact ⟨l6'.F, l6'.own, l6'.out, l6'.gl⟩
      · left
        obtain ⟨rd, hD, hFD, hnD⟩ := r'.exdrop X.K hex
        have hd0 : k.xs.drop i = [] := List.drop_eq_nil_of_le (by omega)
        rw [hd0] at hcl
        obtain ⟨hchk, rfl, rfl⟩ := compL_nil hcl
        obtain ⟨_, g2⟩ := gw w' S2 H' i l' r' hchk
        refine ⟨g2 (List.getElem?_eq_none_iff.mpr (by omega)), ?_⟩
        rw [List.append_nil] at hds
        subst hds
        exact p { w' with ex := w1.ex } H' _ (l1.trans ⟨l'.F, l'.own, l'.out, l'.gl, rfl⟩) rd ⟨A, vacc, rfl, hD, qa, hFD, hnD⟩
  · exact p.elim
theorem se_lc {elt tge iter : Expr} {ifs : List Expr} {scope : Scope} {own : List (Str × Nat)} {fw : Env → M Walk} {tg : Tg} {fc fe : Env → M RV} (hK : X.K = K) (hc : X.calm = true) (hN : X.N.Nodup) (hi : PI X tge iter (tW K fw)) (ok : BlkOk X.N X.env.scope scope own)
    (htg : ∀ i ∈ tg.sl, i ∈ own.map (·.2))
    (hg : ∀ (s : Shared) (H : Hp) (C : Addr) (cl : List (Str × Addr)) (fp : List Addr), PG (X.blk s H scope (compEnvC scope cl C X.env) fp) tge (tG K tg)) (ht : ∀ (s : Shared) (H : Hp) (C : Addr) (cl : List (Str × Addr)) (fp : List Addr), PTs (X.blk s H scope (compEnvC scope cl C X.env) fp) ifs (tT K fc))
    (he : ∀ (s : Shared) (H : Hp) (C : Addr) (cl : List (Str × Addr)) (fp : List Addr), PE (X.blk s H scope (compEnvC scope cl C X.env) fp) elt (tE K fe)) (hs : ∀ x, foldedSetIterable iter X.env x = pure x) :
    PE X (.ListComp elt [⟨tge, iter, ifs, 0⟩] scope pos) (tE K (lcF fw tg fc fe (own.map (·.2)))) := by
  subst hK
  exact PE.weak (pe_lc hc hN hi ok hg ht he hs) fun σ H Q h => lc_core' htg h
end
end U

namespace U
open PySem PySem.Spec PyProof.Rows L2

def PostS (K : PySem.W.Frag) (Z : Exc → Hp → Prop) (w : W) (D : Ends) : Res Flow → Prop
  | .ok (.next ρ) S => ∀ w' σ' H', w.le w' → Rel K w' S H' → RSl K w' ρ σ' → D.nx σ' H'
  | .ok (.brk ρ) S => ∀ w' σ' H', w.le w' → Rel K w' S H' → RSl K w' ρ σ' → D.bk σ' H'
  | .ok (.cont ρ) S => ∀ w' σ' H', w.le w' → Rel K w' S H' → RSl K w' ρ σ' → D.ct σ' H'
  | .ok (.ret r) S => ∀ w' H' v, w.le w' → Rel K w' S H' → RRV K w' H' r v → D.rt v H'
  | .exc e S => ∀ w' H', w.le w' → Rel K w' S H' → Z e H'
  | .bad => False
def tS (K : PySem.W.Frag) (Z : Exc → Hp → Prop) (f : Env → M Flow) : TS := fun D σ H => ∃ w ρ S, Rel K w S H ∧ RSl K w ρ σ ∧ PostS K Z w D (f ρ S)
theorem PS.weak {X : Cx} {st : Stmt} {t t' : TS} (h : PS X st t) (i : ∀ D σ H, t' D σ H → t D σ H) : PS X st t' := ⟨fun pins s σ H D I q => h.run pins s σ H D I (i D σ H q)⟩
theorem PSs.weak {X : Cx} {st : List Stmt} {t t' : TS} (h : PSs X st t) (i : ∀ D σ H, t' D σ H → t D σ H) : PSs X st t' := ⟨fun pins s σ H D I q => h.run pins s σ H D I (i D σ H q)⟩
section
variable {K : PySem.W.Frag} {X : Cx} {pos : Pos} {Z : Exc → Hp → Prop}
theorem PostS.le {w w1 : W} {D : Ends} {r : Res Flow} (l : w.le w1) (p : PostS K Z w D r) : PostS K Z w1 D r := by
  cases r with
  | ok f S =>
    cases f with
    | next ρ => exact fun w' σ' H' l' => p w' σ' H' (l.trans l')
    | brk ρ => exact fun w' σ' H' l' => p w' σ' H' (l.trans l')
    | cont ρ => exact fun w' σ' H' l' => p w' σ' H' (l.trans l')
    | ret r => exact fun w' H' v l' => p w' H' v (l.trans l')
  | exc _ _ => exact fun w' H' l' => p w' H' (l.trans l')
  | bad => exact p
/-- what may raise, then the rest -/
theorem PostS.bindT {α : Type} {b : Bool} {w : W} {D : Ends} {m : M α} {f : α → M Flow} {S : St} (h : PostS K Z w D (M.bindT b m f S)) : (∃ a S1, m S = .ok a S1 ∧ PostS K Z w D (f a S1)) ∨ ∃ e S1, m S = .exc e S1 ∧ b = true ∧ ∀ w' H', w.le w' → Rel K w' S1 H' → Z e H' := by
  unfold M.bindT at h
  cases e : m S with
  | ok a S1 => rw [e] at h; exact .inl ⟨a, S1, rfl, h⟩
  | exc x S1 =>
    rw [e] at h
    cases b with
    | true => exact .inr ⟨x, S1, rfl, rfl, h⟩
    | false => exact False.elim h
  | bad => rw [e] at h; exact False.elim h
theorem PostS.bind0 {α : Type} {w : W} {D : Ends} {m : M α} {f : α → M Flow} {S : St} (h : PostS K Z w D (M.bindT false m f S)) : ∃ a S1, m S = .ok a S1 ∧ PostS K Z w D (f a S1) := by
  rcases h.bindT with h | ⟨_, _, _, h, _⟩
  · exact h
  · cases h
theorem keep_ok {r : RV} {S : St} {f : D → M Flow} {w : W} {D0 : Ends} (h : PostS K Z w D0 (M.bind (keep r) f S)) : ∃ a S1, keep r S = .ok a S1 ∧ PostS K Z w D0 (f a S1) := by
  unfold M.bind at h
  cases e : keep r S with
  | ok a S1 => rw [e] at h; exact ⟨a, S1, rfl, h⟩
  | exc x S1 =>
    exfalso
    cases r with
    | d d => cases e
    | new c => cases e
    | loc u i =>
      dsimp only [U.keep] at e
      split at e <;> cases e
  | bad => rw [e] at h; exact False.elim h
/-- one operand that may raise -/
theorem oneB {b : Bool} {fa : Env → M RV} {w : W} {ρ : Env} {S S1 : St} {x : RV} {σ : L2.St} {H : Hp} {R : VK} (r : Rel K w S H) (sl : RSl K w ρ σ) (ex : fa ρ S = .ok x S1)
    (h : ∀ w1 H1 vx, w.le w1 → Rel K w1 S1 H1 → RRV K w1 H1 x vx → R vx H1) : tEb K b (fun _ => Z) fa σ H R := ⟨w, ρ, S, r, sl, by rw [ex]; exact h⟩
theorem excB {b : Bool} {fa : Env → M RV} {w : W} {ρ : Env} {S S1 : St} {e : Exc} {σ : L2.St} {H : Hp} {R : VK} (r : Rel K w S H) (sl : RSl K w ρ σ) (ex : fa ρ S = .exc e S1) (hb : b = true)
    (h : ∀ w' H', w.le w' → Rel K w' S1 H' → Z e H') : tEb K b (fun _ => Z) fa σ H R := ⟨w, ρ, S, r, sl, by rw [ex]; exact ⟨hb, h⟩⟩

/-! ### small statements -/
theorem ss_skip : PSs X [] (tS K Z fun ρ => M.ret (.next ρ)) := by
  refine PSs.weak pss_nil fun D σ H h => ?_
  obtain ⟨w, ρ, S, hr, sl, p⟩ := h
  exact p w σ H (.refl w) hr sl
def seqS (f g : Env → M Flow) : Env → M Flow := fun ρ => M.bind (f ρ) fun fl => match fl with
  | .next ρ1 => g ρ1
  | fl => M.ret fl
theorem ss_cons {st : Stmt} {rest : List Stmt} {f g : Env → M Flow} (h1 : PS X st (tS K Z f)) (h2 : PSs X rest (tS K Z g)) : PSs X (st :: rest) (tS K Z (seqS f g)) := by
  refine PSs.weak (pss_cons h1 h2) fun D σ H h => ?_
  obtain ⟨w, ρ, S, hr, sl, p⟩ := h
  refine ⟨w, ρ, S, hr, sl, ?_⟩
  unfold seqS M.bind at p
  cases e : f ρ S with
  | exc x S1 => rw [e] at p; exact p
  | bad => rw [e] at p; exact False.elim p
  | ok fl S1 =>
  rw [e] at p
  dsimp only at p
  cases fl with
  | next ρ1 => exact fun w' σ' H' l r sl' => ⟨w', ρ1, S1, r, sl', p.le l⟩
  | brk ρ1 => exact p
  | cont ρ1 => exact p
  | ret r => exact p
theorem ss_one {st : Stmt} {f : Env → M Flow} (h1 : PS X st (tS K Z f)) : PSs X [st] (tS K Z f) := pss_one h1
theorem ss_expr {e : Expr} {b : Bool} {f : Env → M RV} (he : PE X e (tEb K b (fun _ => Z) f)) (hs : swapsWith e none pos.line X.env = pure false) : PS X (.Expr e pos) (tS K Z fun ρ => M.bindT b (f ρ) fun _ => M.ret (.next ρ)) := by
  refine PS.weak (ps_expr he hs) fun D σ H h => ?_
  obtain ⟨w, ρ, S, hr, sl, p⟩ := h
  rcases p.bindT with ⟨x, S1, ex, p⟩ | ⟨x, S1, ex, hb, p⟩
  · exact oneB hr sl ex fun w1 H1 v l r q => p w1 σ H1 l r (sl.mono K l)
  · exact excB hr sl ex hb p
theorem ss_ret {e : Expr} {b : Bool} {f : Env → M RV} (he : PE X e (tEb K b (fun _ => Z) f)) : PS X (.Return (some e) pos) (tS K Z fun ρ => M.bindT b (f ρ) fun r => M.ret (.ret r)) := by
  refine PS.weak (ps_ret he) fun D σ H h => ?_
  obtain ⟨w, ρ, S, hr, sl, p⟩ := h
  rcases p.bindT with ⟨x, S1, ex, p⟩ | ⟨x, S1, ex, hb, p⟩
  · exact oneB hr sl ex fun w1 H1 v l r q => p w1 H1 v l r q
  · exact excB hr sl ex hb p
theorem ss_retN : PS X (.Return none pos) (tS K Z fun _ => M.ret (.ret (.d .non))) := by
  refine PS.weak ps_retN fun D σ H h => ?_
  obtain ⟨w, ρ, S, hr, sl, p⟩ := h
  exact p w H .non (.refl w) hr rfl
theorem ss_brk : PS X (.Break pos) (tS K Z fun ρ => M.ret (.brk ρ)) := by
  refine PS.weak ps_break fun D σ H h => ?_
  obtain ⟨w, ρ, S, hr, sl, p⟩ := h
  exact p w σ H (.refl w) hr sl
theorem ss_cont : PS X (.Continue pos) (tS K Z fun ρ => M.ret (.cont ρ)) := by
  refine PS.weak ps_continue fun D σ H h => ?_
  obtain ⟨w, ρ, S, hr, sl, p⟩ := h
  exact p w σ H (.refl w) hr sl
def ifS (c : Env → M RV) (f g : Env → M Flow) : Env → M Flow := fun ρ => M.bindT false (c ρ) fun x => match truth x with
  | some true => f ρ
  | some false => g ρ
  | none => M.bad
theorem ss_if {c : Expr} {a b : List Stmt} {fc : Env → M RV} {f g : Env → M Flow} (hc : PT X c (tT K fc)) (ha : PSs X a (tS K Z f)) (hb : PSs X b (tS K Z g)) : PS X (.If c a b pos) (tS K Z (ifS fc f g)) := by
  refine PS.weak (ps_if hc ha hb) fun D σ H h => ?_
  obtain ⟨w, ρ, S, hr, sl, p⟩ := h
  unfold ifS at p
  obtain ⟨x, S1, ex, p⟩ := p.bind0
  cases eb : truth x with
  | none => rw [eb] at p; exact False.elim p
  | some b0 =>
    rw [eb] at p
    refine oneT hr sl ex eb fun w1 H1 l r => ?_
    cases b0 with
    | true => exact iteT ⟨w1, ρ, S1, r, sl.mono K l, p.le l⟩
    | false => exact iteF ⟨w1, ρ, S1, r, sl.mono K l, p.le l⟩

/-! ### assignments -/
def setS (b : Bool) (i : Nat) (m : Bool) (f : Env → M RV) : Env → M Flow := fun ρ => M.bindT b (f ρ) fun r => match r, m with
  | .new c, true => fun S => .ok (.next (ρ.set i (some (.loc 0 S.own.length)))) { S with own := S.own ++ [⟨false, c⟩] }
  | r, _ => M.ret (.next (ρ.set i (some (hold r))))
theorem set_core {b : Bool} {i : Nat} {m : Bool} {f : Env → M RV} {D : Ends} {σ : L2.St} {H : Hp} (h : tS K Z (setS b i m f) D σ H) : tEb K b (fun _ => Z) f σ H fun x H1 => gName i x σ H1 D.nx := by
  obtain ⟨w, ρ, S, hr, sl, p⟩ := h
  unfold setS at p
  rcases p.bindT with ⟨x, S1, ex, p⟩ | ⟨x, S1, ex, hb, p⟩
  case inr => exact excB hr sl ex hb p
  refine oneB hr sl ex fun w1 H1 v l r q => ?_
  have plain : PostS K Z w D (.ok (.next (ρ.set i (some (hold x)))) S1) → D.nx (σ.set i (some v)) H1 := fun p => by
    obtain ⟨w2, l2, r2, _, q2⟩ := r.hold K q
    exact p w2 _ H1 (l.trans l2) r2 (RSl.set K q2 i (sl.mono K (l.trans l2)))
  cases x with
  | d _ => cases m <;> exact plain p
  | loc _ _ => cases m <;> exact plain p
  | new c =>
    cases m with
    | false => exact plain p
    | true =>
      cases c with
      | lst ds =>
        obtain ⟨a, vs, rfl, hv, hd, hF, ha⟩ := q
        obtain ⟨r2, l2⟩ := r.mine K hv hd hF ha
        refine p _ _ H1 (l.trans l2) r2 (RSl.set K (s := .loc 0 S1.own.length) ⟨a, ?_, rfl⟩ i (sl.mono K (l.trans l2)))
        show (w1.own ++ [a])[S1.own.length]? = some a
        rw [← r.own.len K, List.getElem?_append_right (Nat.le_refl _), Nat.sub_self]
        rfl
      | dic _ => exact q.elim
      | ins _ _ => exact q.elim
theorem tEb0 {Z' : L2.St → Exc → Hp → Prop} {f : Env → M RV} {σ : L2.St} {H : Hp} {R : VK} (h : tEb K false Z' f σ H R) : tE K f σ H R := by
  obtain ⟨w, ρ, S, hr, sl, p⟩ := h
  refine ⟨w, ρ, S, hr, sl, ?_⟩
  cases ev : f ρ S with
  | ok v S1 => rw [ev] at p; exact p
  | exc _ _ => rw [ev] at p; exact absurd p.1 Bool.false_ne_true
  | bad => rw [ev] at p; exact p
theorem ss_set {b : Bool} {i : Nat} {m : Bool} {x : Str} {e : Expr} {f : Env → M RV} {pos' : Pos} (hN : X.N.Nodup) (hi : X.N[i]? = some x) (hx : Loc X.env.scope x) (he : PE X e (tEb K b (fun _ => Z) f)) (hs : swapsWith e (some (.Name x pos')) pos.line X.env = pure false) (hf : X.fn x = true ∨ X.env.scope.names.lookup x = some .local) :
    PS X (.Assign [.Name x pos'] e pos) (tS K Z (setS b i m f)) := PS.weak (ps_set hN hi hx he hs hf) fun D σ H h => set_core h
theorem ss_setLc {i : Nat} {m : Bool} {y : Str} {py : Pos} {elt tge iter : Expr} {ifs : List Expr} {scope : Scope} {own : List (Str × Nat)} {fw : Env → M Walk} {tg : Tg} {fc fe : Env → M RV} {lpos : Pos} (hK : X.K = K) (hc : X.calm = true) (hN : X.N.Nodup) (hy : X.N[i]? = some y) (hyl : X.env.scope.names.lookup y = some .local)
    (hsw : swapsWith (.ListComp elt [⟨tge, iter, ifs, 0⟩] scope lpos) (some (.Name y py)) pos.line X.env = pure true) (hi : PI X tge iter (tW K fw)) (ok : BlkOk X.N X.env.scope scope own) (htg : ∀ i ∈ tg.sl, i ∈ own.map (·.2))
    (hg : ∀ (s : Shared) (H : Hp) (C : Addr) (cl : List (Str × Addr)) (fp : List Addr), PG (X.blk s H scope (compEnvC scope cl C X.env) fp) tge (tG K tg)) (ht : ∀ (s : Shared) (H : Hp) (C : Addr) (cl : List (Str × Addr)) (fp : List Addr), PTs (X.blk s H scope (compEnvC scope cl C X.env) fp) ifs (tT K fc))
    (he : ∀ (s : Shared) (H : Hp) (C : Addr) (cl : List (Str × Addr)) (fp : List Addr), PE (X.blk s H scope (compEnvC scope cl C X.env) fp) elt (tE K fe)) (hs : ∀ x, foldedSetIterable iter X.env x = pure x) :
    PS X (.Assign [.Name y py] (.ListComp elt [⟨tge, iter, ifs, 0⟩] scope lpos) pos) (tS K Z (setS false i m (lcF fw tg fc fe (own.map (·.2))))) := by
  subst hK
  exact PS.weak (ps_setLc hc hN hy hyl hsw hi ok hg ht he hs) fun D σ H h => lc_core' htg (tEb0 (set_core h))
def unpS (b : Bool) (is : List Nat) (f : Env → M RV) : Env → M Flow := fun ρ => M.bindT b (f ρ) fun r => match unpD r with
  | some ds => match puts is ds ρ with
    | some ρ1 => M.ret (.next ρ1)
    | none => M.bad
  | none => M.bad
theorem unp_c {r : RV} {ds : List D} (h : unpD r = some ds) : r = .d (.tup ds) ∨ r = .d (.lst ds) ∨ r = .new (.lst ds) := by
  unfold unpD at h
  split at h
  · cases h; exact .inl rfl
  · cases h; exact .inr (.inl rfl)
  · cases h; exact .inr (.inr rfl)
  · cases h
theorem ss_unp {b : Bool} {tge e : Expr} {is : List Nat} {f : Env → M RV} (he : PE X e (tEb K b (fun _ => Z) f)) (hg : PG X tge (tG K (.many is))) (hgL : PG X tge (tGL K is)) (hs : swapsWithSole [tge] e pos.line X.env = pure false) (hw : swappedStores [tge] e X.env = pure none) (h1 : (assignEach [tge] X.env).map (·.2) = [assign tge X.env]) :
    PS X (.Assign [tge] e pos) (tS K Z (unpS b is f)) := by
  refine ⟨fun pins s σ H D I h => ?_⟩
  obtain ⟨w, ρ, S, hr, sl, p⟩ := h
  unfold unpS at p
  rcases p.bindT with ⟨x, S1, ex, p⟩ | ⟨x, S1, ex, hb, p⟩
  case inr => exact (ps_asg he hg hs hw h1).run pins s σ H D I (excB hr sl ex hb p)
  have : ∃ ds ρ1, unpD x = some ds ∧ puts is ds ρ = some ρ1 ∧ PostS K Z w D (.ok (.next ρ1) S1) := by
    cases eu : unpD x with
    | none => rw [eu] at p; exact False.elim p
    | some ds =>
      rw [eu] at p
      dsimp only at p
      cases e1 : puts is ds ρ with
      | none => rw [e1] at p; exact False.elim p
      | some ρ1 => rw [e1] at p; exact ⟨ds, ρ1, rfl, e1, p⟩
  obtain ⟨ds, ρ1, eu, e1, p2⟩ := this
  rcases unp_c eu with rfl | rfl | rfl
  · refine (ps_asg he hg hs hw h1).run pins s σ H D I (oneB hr sl ex fun w1 H1 v l r q => ?_)
    exact ⟨w1, ρ, .tup ds, ρ1, sl.mono K l, r.sub, q, e1, fun σ' sl' _ => p2 w1 σ' H1 l r sl'⟩
  · refine (ps_asg he hgL hs hw h1).run pins s σ H D I (oneB hr sl ex fun w1 H1 v l r q => ?_)
    obtain ⟨a, vs, rfl, hv, hd⟩ := q
    exact ⟨w1, ρ, ds, ρ1, sl.mono K l, r.sub, ⟨a, vs, rfl, SqL.of (r.sub _ _ hv), hd⟩, e1, fun σ' sl' _ => p2 w1 σ' H1 l r sl'⟩
  · refine (ps_asg he hgL hs hw h1).run pins s σ H D I (oneB hr sl ex fun w1 H1 v l r q => ?_)
    obtain ⟨a, vs, rfl, hv, hd, _⟩ := q
    exact ⟨w1, ρ, ds, ρ1, sl.mono K l, r.sub, ⟨a, vs, rfl, SqL.of hv, hd⟩, e1, fun σ' sl' _ => p2 w1 σ' H1 l r sl'⟩
def setIxS (fo fi fe : Env → M RV) : Env → M Flow := fun ρ => M.bindT false (fe ρ) fun v => M.bind (keep v) fun d => M.bindT false (fo ρ) fun r => M.bindT false (fi ρ) fun k => match r, dataInt k with
  | .loc u j, some k => fun S => match S.get u j with
    | some ⟨false, .lst ds⟩ => match U.ixN ds.length k with
      | some n => .ok (.next ρ) (S.set u j ⟨false, .lst (ds.set n d)⟩)
      | none => .bad
    | _ => .bad
  | _, _ => M.bad
theorem assign_sub {o i : Expr} {env : PySem.Env} (ho : okHead i = true) (v : Value) : assign (.Subscript o i pos) env v = (do
      let ov ← holding [v] (eval o env)
      let iv ← holding [v, ov] (eval i env)
      standAt pos
      holding [v, ov, iv] (setItem ov iv v)
      release [v, ov, iv] []) := by
  cases i <;> first | rfl | (simp [okHead] at ho)
theorem ss_setIx {o i e : Expr} {fo fi fe : Env → M RV} {p2 : Pos} (he : PE X e (tE K fe)) (hoe : PE X o (tE K fo)) (hie : PE X i (tE K fi)) (ho : okHead i = true) (hs : swapsWithSole [.Subscript o i p2] e pos.line X.env = pure false) (hw : swappedStores [.Subscript o i p2] e X.env = pure none) :
    PS X (.Assign [.Subscript o i p2] e pos) (tS K Z (setIxS fo fi fe)) := by
  refine PS.weak (ps_asg he (pg_sub hoe hie set_list (assign_sub ho)) hs hw rfl) fun D σ H h => ?_
  obtain ⟨w, ρ, S, hr, sl, p⟩ := h
  unfold setIxS at p
  obtain ⟨x, S1, ex, p⟩ := p.bind0
  obtain ⟨d, S2, ed, p⟩ := keep_ok p
  obtain ⟨r, S3, er, p⟩ := p.bind0
  obtain ⟨k, S4, ek, p⟩ := p.bind0
  have : ∃ u j k', r = .loc u j ∧ k = .d (.int k') ∧ ∃ ds n, S4.get u j = some ⟨false, .lst ds⟩ ∧ U.ixN ds.length k' = some n ∧ PostS K Z w D (.ok (.next ρ) (S4.set u j ⟨false, .lst (ds.set n d)⟩)) := by
    cases r with
    | d _ => exact False.elim p
    | new _ => exact False.elim p
    | loc u j =>
      cases hk : dataInt k with
      | none => rw [hk] at p; exact False.elim p
      | some k' =>
        rw [hk] at p
        have p : PostS K Z w D (match S4.get u j with
          | some ⟨false, .lst ds⟩ => match U.ixN ds.length k' with
            | some n => .ok (.next ρ) (S4.set u j ⟨false, .lst (ds.set n d)⟩)
            | none => .bad
          | _ => .bad) := p
        split at p
        · rename_i ds hg
          split at p
          · rename_i n hn
            exact ⟨u, j, k', rfl, dataInt_eq hk, ds, n, hg, hn, p⟩
          · exact p.elim
        · exact p.elim
  obtain ⟨u, j, k', rfl, rfl, ds, n, hg, hn, p⟩ := this
  refine one hr sl ex fun w1 H1 v l1 r1 q1 => ?_
  obtain ⟨w2, l2, r2, _, q2⟩ := r1.kept K q1 ed
  refine one r2 (sl.mono K (l1.trans l2)) er fun w3 H3 ov l3 r3 q3 => ?_
  refine one r3 (sl.mono K ((l1.trans l2).trans l3)) ek fun w4 H4 iv l4 r4 q4 => ?_
  have l := ((l1.trans l2).trans l3).trans l4
  obtain ⟨a, vs, rfl, had, hv, hd⟩ := loc_lst r4 (RSV.mono K (x := .loc u j) l4 q3) hg
  refine ⟨a, vs, k', n, rfl, q4, hv, by rw [← ixN_eq, RDs.len K hd]; exact hn, ?_⟩
  exact p w4 σ _ l (r4.write K hg had (RDs.set K (RD.mono K (l3.F.trans l4.F) (l3.gl.trans l4.gl) d q2) n hd) (z' := ⟨false, .lst ds⟩)) (sl.mono K l)
end
end U

namespace U
open PySem PySem.Spec PyProof.Rows L2
section
variable {K : PySem.W.Frag} {X : Cx} {pos : Pos} {Z : Exc → Hp → Prop}
/-! ### a frame's lists dropped behind a turn -/
theorem RFr.take {F : Hp} {g : List Addr} {H : Hp} : ∀ {os : List LO} {as : List Addr} (n : Nat), RFr K F g H os as → RFr K F g H (os.take n) (as.take n)
  | os, as, 0, h => rfl
  | [], _, n + 1, h => by rw [show _ = [] from h]; exact rfl
  | d :: ds, _, n + 1, ⟨v, r, e, q, t⟩ => by subst e; exact ⟨v, _, rfl, q, RFr.take n t⟩
theorem Rel.take {w : W} {S : St} {H : Hp} (r : Rel K w S H) (n : Nat) : Rel K { w with own := w.own.take n } { S with own := S.own.take n } H := by
  refine ⟨r.sub, r.own.take n, r.out, r.gl, r.ex, ?_⟩
  have nd := r.nd
  unfold W.all at nd ⊢
  exact nd.sublist (((List.Sublist.append (List.Sublist.append (List.take_sublist n w.own) (.refl _)) (.refl _))).append (.refl _))
theorem RSl.take {w : W} {n : Nat} : ∀ {ρ : Env} {σ : L2.St}, ownFree n ρ = true → RSl K w ρ σ → RSl K { w with own := w.own.take n } ρ σ
  | [], _, _, h => h
  | x :: ρ, _, hf, ⟨y, r, e, h, t⟩ => by
    have ht : ownFree n ρ = true := by
      match x, hf with
      | none, hf => exact hf
      | some (.d _), hf => exact hf
      | some (.loc 0 i), hf => exact (Bool.and_eq_true _ _ ▸ hf : _ ∧ _).2
      | some (.loc (u + 1) i), hf => exact hf
    refine ⟨y, r, e, fun s es => ?_, RSl.take ht t⟩
    obtain ⟨v, e1, q⟩ := h s es
    refine ⟨v, e1, ?_⟩
    cases s with
    | d d => exact q
    | loc u i =>
      obtain ⟨a, ha, ev⟩ := q
      refine ⟨a, ?_, ev⟩
      cases u with
      | succ u => exact ha
      | zero =>
        subst es
        have hi : i < n := of_decide_eq_true (Bool.and_eq_true _ _ ▸ hf : _ ∧ _).1
        show (w.own.take n)[i]? = some a
        rw [List.getElem?_take_of_lt hi]
        exact ha
/-- behind a turn: masked, trimmed -/
theorem tidy {w1 w : W} {S : St} {H : Hp} {ρ0 ρ : Env} {σ : L2.St} {n0 : Nat} (hn : n0 = w1.own.length) (l : w1.le w) (r : Rel K w S H) (sl : RSl K w ρ σ) : ∃ w', w1.le w' ∧ Rel K w' (trim n0 (mask ρ0 ρ) S) H ∧ RSl K w' (mask ρ0 ρ) σ := by
  have sm := RSl.mask K (ρ0 := ρ0) sl
  unfold trim
  split
  · rename_i hf
    refine ⟨{ w with own := w.own.take n0 }, ⟨l.F, ?_, l.out, l.gl, l.ex⟩, r.take n0, RSl.take hf sm⟩
    obtain ⟨m, e⟩ := l.own
    refine ⟨[], ?_⟩
    show w.own.take n0 = w1.own ++ []
    rw [e, hn, List.take_left, List.append_nil]
  · exact ⟨w, l, r, sm⟩

/-! ### for -/
def forS (fw : Env → M Walk) (tg : Tg) (fb : Env → M Flow) : Env → M Flow := fun ρ => M.bindT false (fw ρ) fun w => fun S => forL w.chk (putT tg) fb ρ S.own.length w.xs ρ S
theorem forL_nil {chk : St → Bool} {put : D → Env → Option Env} {body : Env → M Flow} {ρ0 ρ : Env} {n0 : Nat} {S : St} {w : W} {D : Ends} (h : PostS K Z w D (forL chk put body ρ0 n0 [] ρ S)) : chk S = true ∧ PostS K Z w D (.ok (.next ρ) S) := by
  unfold forL at h
  split at h
  · exact ⟨by assumption, h⟩
  · exact h.elim
theorem forL_cons {chk : St → Bool} {put : D → Env → Option Env} {body : Env → M Flow} {ρ0 ρ : Env} {n0 : Nat} {S : St} {x : D} {xs : List D} {w : W} {D : Ends} (h : PostS K Z w D (forL chk put body ρ0 n0 (x :: xs) ρ S)) :
    chk S = true ∧ ∃ ρ1, put x ρ = some ρ1 ∧ ((∃ fl S2, body ρ1 S = .ok fl S2 ∧ match fl with
      | .next ρ2 => PostS K Z w D (forL chk put body ρ0 n0 xs (mask ρ0 ρ2) (trim n0 (mask ρ0 ρ2) S2))
      | .cont ρ2 => PostS K Z w D (forL chk put body ρ0 n0 xs (mask ρ0 ρ2) (trim n0 (mask ρ0 ρ2) S2))
      | .brk ρ2 => PostS K Z w D (.ok (.next (mask ρ0 ρ2)) (trim n0 (mask ρ0 ρ2) S2))
      | .ret r => PostS K Z w D (.ok (.ret r) S2)) ∨ ∃ e S2, body ρ1 S = .exc e S2 ∧ PostS K Z w D (.exc e S2)) := by
  unfold forL at h
  split at h
  · rename_i hc
    refine ⟨hc, ?_⟩
    split at h
    · exact h.elim
    · rename_i ρ1 hp
      refine ⟨ρ1, hp, ?_⟩
      split at h
      · rename_i ρ2 S2 e; exact .inl ⟨_, S2, e, h⟩
      · rename_i ρ2 S2 e; exact .inl ⟨_, S2, e, h⟩
      · rename_i ρ2 S2 e; exact .inl ⟨_, S2, e, h⟩
      · rename_i r S2 e; exact .inl ⟨_, S2, e, h⟩
      · rename_i e S2 eb; exact .inr ⟨_, S2, eb, h⟩
      · exact h.elim
  · exact h.elim
theorem ss_for {tge iter : Expr} {body : List Stmt} {fw : Env → M Walk} {tg : Tg} {fb : Env → M Flow} (hp : PassesOwn (model X.prog X.w) X.A X.env X.xe) (hc : X.calm = true) (hi : PI X tge iter (tW K fw)) (hg : PG X tge (tG K tg)) (hb : PSs X body (tS K Z fb)) (hs : ∀ x, foldedSetIterable iter X.env x = pure x) :
    PS X (.For tge iter body [] pos) (tS K Z (forS fw tg fb)) := by
  refine PS.weak (ps_for hp hc hi hg hb hs) fun D σ H h => ?_
  obtain ⟨w, ρ, S, hr, sl, p⟩ := h
  unfold forS at p
  obtain ⟨k, S1, ek, p⟩ := p.bind0
  refine ⟨w, ρ, S, hr, sl, ?_⟩
  rw [ek]
  intro w1 H1 J l1 r1 gw
  have hn : S1.own.length = w1.own.length := (r1.own.len K).symm
  refine ⟨fun i m σ' H' => m = k.xs.length - i ∧ ∃ w' S' ρ', w1.le w' ∧ Rel K w' S' H' ∧ RSl K w' ρ' σ' ∧ PostS K Z w1 D (forL k.chk (putT tg) fb ρ S1.own.length (k.xs.drop i) ρ' S'), ⟨_, rfl, w1, S1, ρ, .refl _, r1, sl.mono K l1, ?_⟩, ?_⟩
  · rw [List.drop_zero]; exact p.le l1
  · rintro i m σ' H' ⟨rfl, w', S', ρ', l', r', sl', p'⟩
    by_cases hlt : i < k.xs.length
    · right
      rw [List.drop_eq_getElem_cons hlt] at p'
      obtain ⟨hchk, ρ1, hput, hbody⟩ := forL_cons p'
      obtain ⟨g1, _⟩ := gw w' S' H' i l'.lex r' hchk
      obtain ⟨hgo, hy⟩ := g1 _ (List.getElem?_eq_getElem hlt)
      refine ⟨hgo, fun σ2 H2 => ∃ w2 S2 ρ2, w1.le w2 ∧ Rel K w2 S2 H2 ∧ RSl K w2 ρ2 σ2 ∧ PostS K Z w1 D (forL k.chk (putT tg) fb ρ S1.own.length (k.xs.drop (i + 1)) ρ2 S2), fun σ2 H2 h2 => ⟨_, by omega, rfl, h2⟩, fun x H2 yx => ?_⟩
      obtain ⟨w3, l3, o3, r3, qx⟩ := hy x H2 yx
      have l13 := l'.trans l3
      refine ⟨w3, ρ', _, ρ1, sl'.mono K l3, r3.sub, qx, hput, fun σ4 sl4 _ => ⟨w3, ρ1, S', r3, sl4, ?_⟩⟩
      rcases hbody with ⟨fl, S2, eb, hfl⟩ | ⟨ex, S2, eb, hfl⟩
      case inr => rw [eb]; exact fun w5 H5 l5 r5 => hfl w5 H5 (l13.trans l5) r5
      rw [eb]
      cases fl with
      | next ρ2 =>
        intro w5 σ5 H5 l5 r5 sl5
        obtain ⟨w6, l6, r6, sl6⟩ := tidy hn (l13.trans l5) r5 sl5
        exact ⟨w6, _, _, l6, r6, sl6, hfl⟩
      | cont ρ2 =>
        intro w5 σ5 H5 l5 r5 sl5
        obtain ⟨w6, l6, r6, sl6⟩ := tidy hn (l13.trans l5) r5 sl5
        exact ⟨w6, _, _, l6, r6, sl6, hfl⟩
      | brk ρ2 =>
        intro w5 σ5 H5 l5 r5 sl5
        obtain ⟨w6, l6, r6, sl6⟩ := tidy hn (l13.trans l5) r5 sl5
        exact hfl w6 σ5 H5 l6 r6 sl6
      | ret r => exact fun w5 H5 v l5 r5 q5 => hfl w5 H5 v (l13.trans l5) r5 q5
    · left
      have hd0 : k.xs.drop i = [] := List.drop_eq_nil_of_le (by omega)
      rw [hd0] at p'
      obtain ⟨hchk, p'⟩ := forL_nil p'
      obtain ⟨_, g2⟩ := gw w' S' H' i l'.lex r' hchk
      exact ⟨g2 (List.getElem?_eq_none_iff.mpr (by omega)), p' w' σ' H' l' r' sl'⟩

/-! ### while -/
def whlS (fc : Env → M RV) (fb : Env → M Flow) : Env → M Flow := fun ρ => fun S => whL fc fb ρ S.own.length 1000000000 ρ S
theorem whL_succ {fc : Env → M RV} {fb : Env → M Flow} {ρ0 ρ : Env} {n0 n : Nat} {S : St} {w : W} {D : Ends} (h : PostS K Z w D (whL fc fb ρ0 n0 (n + 1) ρ S)) :
    ∃ v S1, fc ρ S = .ok v S1 ∧ ((truth v = some false ∧ PostS K Z w D (.ok (.next ρ) S1)) ∨ (truth v = some true ∧ ((∃ fl S2, fb ρ S1 = .ok fl S2 ∧ match fl with
      | .next ρ2 => PostS K Z w D (whL fc fb ρ0 n0 n (mask ρ0 ρ2) (trim n0 (mask ρ0 ρ2) S2))
      | .cont ρ2 => PostS K Z w D (whL fc fb ρ0 n0 n (mask ρ0 ρ2) (trim n0 (mask ρ0 ρ2) S2))
      | .brk ρ2 => PostS K Z w D (.ok (.next (mask ρ0 ρ2)) (trim n0 (mask ρ0 ρ2) S2))
      | .ret r => PostS K Z w D (.ok (.ret r) S2)) ∨ ∃ e S2, fb ρ S1 = .exc e S2 ∧ PostS K Z w D (.exc e S2)))) := by
  unfold whL at h
  split at h
  · rename_i v S1 e
    refine ⟨v, S1, e, ?_⟩
    split at h
    · rename_i ht
      right
      refine ⟨ht, ?_⟩
      split at h
      · rename_i ρ2 S2 e; exact .inl ⟨_, S2, e, h⟩
      · rename_i ρ2 S2 e; exact .inl ⟨_, S2, e, h⟩
      · rename_i ρ2 S2 e; exact .inl ⟨_, S2, e, h⟩
      · rename_i r S2 e; exact .inl ⟨_, S2, e, h⟩
      · rename_i e S2 eb; exact .inr ⟨_, S2, eb, h⟩
      · exact h.elim
    · rename_i ht
      left
      exact ⟨ht, h⟩
    · exact h.elim
  · exact h.elim
  · exact h.elim
theorem ss_whl {c : Expr} {body : List Stmt} {fc : Env → M RV} {fb : Env → M Flow} (hp : PassesOwn (model X.prog X.w) X.A X.env X.xe) (hc : PT X c (tT K fc)) (hb : PSs X body (tS K Z fb)) : PS X (.While c body [] pos) (tS K Z (whlS fc fb)) := by
  refine PS.weak (ps_while hp hc hb) fun D σ H h => ?_
  obtain ⟨w1, ρ, S1, r1, sl1, p⟩ := h
  unfold whlS at p
  have hn : S1.own.length = w1.own.length := (r1.own.len K).symm
  refine ⟨fun m σ' H' => ∃ w' S' ρ', w1.le w' ∧ Rel K w' S' H' ∧ RSl K w' ρ' σ' ∧ PostS K Z w1 D (whL fc fb ρ S1.own.length m ρ' S'), ⟨_, w1, S1, ρ, .refl _, r1, sl1, p⟩, ?_⟩
  rintro m σ' H' ⟨w', S', ρ', l', r', sl', p'⟩
  cases m with
  | zero => exact False.elim p'
  | succ m =>
    obtain ⟨v, S2, ev, hv⟩ := whL_succ p'
    rcases hv with ⟨ht, hv⟩ | ⟨ht, hbody⟩
    · exact oneT r' sl' ev ht fun w2 H2 l2 r2 => iteF (hv w2 σ' H2 (l'.trans l2) r2 (sl'.mono K l2))
    · refine oneT r' sl' ev ht fun w2 H2 l2 r2 => iteT ?_
      refine ⟨fun σ3 H3 => ∃ w3 S3 ρ3, w1.le w3 ∧ Rel K w3 S3 H3 ∧ RSl K w3 ρ3 σ3 ∧ PostS K Z w1 D (whL fc fb ρ S1.own.length m ρ3 S3), fun σ3 H3 h3 => ⟨m, Nat.lt_succ_self m, h3⟩, w2, ρ', S2, r2, sl'.mono K l2, ?_⟩
      have l13 := l'.trans l2
      rcases hbody with ⟨fl, S3, eb, hfl⟩ | ⟨ex, S3, eb, hfl⟩
      case inr => rw [eb]; exact fun w5 H5 l5 r5 => hfl w5 H5 (l13.trans l5) r5
      rw [eb]
      cases fl with
      | next ρ2 =>
        intro w5 σ5 H5 l5 r5 sl5
        obtain ⟨w6, l6, r6, sl6⟩ := tidy hn (l13.trans l5) r5 sl5
        exact ⟨w6, _, _, l6, r6, sl6, hfl⟩
      | cont ρ2 =>
        intro w5 σ5 H5 l5 r5 sl5
        obtain ⟨w6, l6, r6, sl6⟩ := tidy hn (l13.trans l5) r5 sl5
        exact ⟨w6, _, _, l6, r6, sl6, hfl⟩
      | brk ρ2 =>
        intro w5 σ5 H5 l5 r5 sl5
        obtain ⟨w6, l6, r6, sl6⟩ := tidy hn (l13.trans l5) r5 sl5
        exact hfl w6 σ5 H5 l6 r6 sl6
      | ret r => exact fun w5 H5 v l5 r5 q5 => hfl w5 H5 v (l13.trans l5) r5 q5
end
end U

namespace U
open PySem PySem.Spec PyProof.Rows L2
section
variable {K : PySem.W.Frag}
theorem start_rsl {w : W} : ∀ {svs : List SV} {vs : List V} (m : Nat), RSVs K w svs vs → RSl K ⟨w.F, [], w.own :: w.out, w.gl, w.ex⟩ ((svs.map fun v => some (shift v)) ++ List.replicate m none) (vs.map some ++ List.replicate m none)
  | [], vs, m, h => by
    rw [show vs = [] from h]
    have : ∀ m : Nat, RSl K ⟨w.F, [], w.own :: w.out, w.gl, w.ex⟩ (List.replicate m none) (List.replicate m none) := by
      intro m
      induction m with
      | zero => exact rfl
      | succ m ih => exact ⟨none, _, rfl, (fun s e => nomatch e), ih⟩
    exact this m
  | x :: xs, _, m, ⟨v, r, e, q, t⟩ => by
    subst e
    refine ⟨some v, _, rfl, fun s es => ⟨v, rfl, ?_⟩, start_rsl m t⟩
    cases es
    cases x with
    | d d => exact q
    | loc u i =>
      obtain ⟨a, ha, ev⟩ := q
      refine ⟨a, ?_, ev⟩
      cases u with
      | zero => exact ha
      | succ u => exact ha
theorem pop_rel {w w' : W} {S1 S' : St} {H : Hp} (l : (⟨w.F, [], w.own :: w.out, w.gl, w.ex⟩ : W).le w') (r : Rel K w' S1 H) (h : popS S1 = some S') :
    w.le ⟨w'.F, w.own, w.out, w'.gl, w'.ex⟩ ∧ Rel K ⟨w'.F, w.own, w.out, w'.gl, w'.ex⟩ S' H ∧ (∀ a, a ∈ (⟨w'.F, w.own, w.out, w'.gl, w'.ex⟩ : W).all → a ∈ w'.all) ∧ (∀ a ∈ w'.own, a ∉ (⟨w'.F, w.own, w.out, w'.gl, w'.ex⟩ : W).all) := by
  have ho : w'.out = w.own :: w.out := l.out
  have rout := r.out
  rw [ho] at rout
  have nd := r.nd
  have hall : w'.all = w'.own ++ (⟨w'.F, w.own, w.out, w'.gl, w'.ex⟩ : W).all := by
    unfold W.all
    rw [ho, List.flatten_cons]
    simp [List.append_assoc]
  unfold popS at h
  split at h
  · rename_i lo ro eo
    cases h
    rw [eo] at rout
    obtain ⟨a, rr, e, q, t⟩ := rout
    cases e
    refine ⟨⟨l.F, pre.refl _, rfl, l.gl, l.ex⟩, ⟨r.sub, q, t, r.gl, r.ex, ?_⟩, fun a ha => by rw [hall]; exact List.mem_append_right _ ha, fun a ha hb => ?_⟩
    · rw [hall, List.nodup_append] at nd
      exact nd.2.1
    · rw [hall, List.nodup_append] at nd
      exact nd.2.2 a ha a hb rfl
  · cases h
theorem leave_rel {w w' : W} {S1 S' : St} {H : Hp} {r r' : RV} {v : V} (l : (⟨w.F, [], w.own :: w.out, w.gl, w.ex⟩ : W).le w') (hr : Rel K w' S1 H) (q : RRV K w' H r v) (h : leave S1 r = .ok r' S') :
    w.le ⟨w'.F, w.own, w.out, w'.gl, w'.ex⟩ ∧ Rel K ⟨w'.F, w.own, w.out, w'.gl, w'.ex⟩ S' H ∧ RRV K ⟨w'.F, w.own, w.out, w'.gl, w'.ex⟩ H r' v := by
  unfold leave at h
  cases hp : popS S1 with
  | none => rw [hp] at h; cases h
  | some S2 =>
    rw [hp] at h
    obtain ⟨l2, r2, sb, dis⟩ := pop_rel l hr hp
    cases r with
    | d d => cases h; exact ⟨l2, r2, q⟩
    | new c =>
      cases h
      refine ⟨l2, r2, ?_⟩
      cases c with
      | lst ds =>
        obtain ⟨a, vs, e, hv, hd, hF, ha⟩ := q
        exact ⟨a, vs, e, hv, hd, hF, fun z => ha (sb a z)⟩
      | dic _ => exact q
      | ins _ _ => exact q
    | loc u i =>
      cases u with
      | succ u =>
        cases h
        refine ⟨l2, r2, ?_⟩
        obtain ⟨a, ha, e⟩ := q
        refine ⟨a, ?_, e⟩
        have ho : w'.out = w.own :: w.out := l.out
        have ha : (match w'.out[u]? with
          | some l => l[i]?
          | none => none) = some a := ha
        rw [ho] at ha
        cases u with
        | zero => exact ha
        | succ u => exact ha
      | zero =>
        have h : (match S1.own[i]? with
          | some ⟨false, c⟩ => (.ok (.new c) S2 : Res RV)
          | some ⟨true, c⟩ => .ok (.d c.dat) S2
          | none => .bad) = .ok r' S' := h
        obtain ⟨a, ha, e⟩ := q
        split at h
        · rename_i c hg
          cases h
          obtain ⟨b, hb, ro⟩ := hr.own.get K hg
          have ha : w'.own[i]? = some a := ha
          rw [ha] at hb; cases hb
          refine ⟨l2, r2, ?_⟩
          cases c with
          | lst ds =>
            obtain ⟨n, vs, hv, hd⟩ := ro
            exact ⟨a, vs, e, hv, hd, n, dis a (List.mem_of_getElem? ha)⟩
          | dic _ => exact ro.elim
          | ins _ _ => exact ro.elim
        · rename_i c hg
          cases h
          obtain ⟨b, hb, ro⟩ := hr.own.get K hg
          have ha : w'.own[i]? = some a := ha
          rw [ha] at hb; cases hb
          refine ⟨l2, r2, ?_⟩
          cases c with
          | lst ds =>
            obtain ⟨vs, hv, hd⟩ := ro
            exact ⟨a, vs, e, hv, hd⟩
          | dic _ => exact ro.elim
          | ins _ _ => exact ro.elim
        · cases h
theorem leave_ne {S S' : St} {r : RV} {e : Exc} (h : leave S r = .exc e S') : False := by
  unfold leave at h
  split at h
  · cases h
  · split at h
    · cases h
    · cases h
    · cases h
    · split at h <;> cases h
/-- a def runs -/
theorem run_fd {Z : Exc → Hp → Prop} {C : Nat → List SV → M RV} {F : FD} {N : List Str} {w : W} {S : St} {svs : List SV} {vs : List V} {H : Hp} {Q : VK} (hN : N.length = F.ns) (hr : Rel K w S H) (q : RSVs K w svs vs) (p : PostB K true Z w Q (runF C F svs S)) :
    tS K Z (evS C F.body) { nx := fun _ H' => Q .non H', rt := Q } (L2.start N vs) H := by
  unfold runF at p
  split at p
  · rename_i hl
    refine ⟨⟨w.F, [], w.own :: w.out, w.gl, w.ex⟩, (svs.map fun v => some (shift v)) ++ List.replicate (F.ns - F.np) none, ⟨[], S.own :: S.out, S.gl⟩, ?_, ?_, ?_⟩
    · refine ⟨hr.sub, rfl, ⟨w.own, w.out, rfl, hr.own, hr.out⟩, hr.gl, hr.ex, ?_⟩
      have nd := hr.nd
      unfold W.all at nd ⊢
      show (([] : List Addr) ++ (w.own :: w.out).flatten ++ w.gl ++ w.ex.map (fun p => p.1)).Nodup
      rw [List.nil_append, List.flatten_cons]
      exact nd
    · unfold L2.start
      rw [hN, q.len, hl]
      exact start_rsl _ q
    · split at p
      · rename_i r S1 e
        rw [e]
        cases hlv : leave S1 r with
        | ok r' S' =>
          rw [hlv] at p
          intro w' H' v l r2 qv
          obtain ⟨l3, r3, q3⟩ := leave_rel l r2 qv hlv
          exact p _ H' v l3 r3 q3
        | exc _ _ => exact (leave_ne hlv).elim
        | bad => rw [hlv] at p; exact p.elim
      · rename_i ρ1 S1 e
        rw [e]
        cases hlv : leave S1 (.d .non) with
        | ok r' S' =>
          rw [hlv] at p
          intro w' σ' H' l r2 _
          obtain ⟨l3, r3, q3⟩ := leave_rel (r := .d .non) (v := .non) l r2 (show V.non = V.non from rfl) hlv
          exact p _ H' .non l3 r3 q3
        | exc _ _ => exact (leave_ne hlv).elim
        | bad => rw [hlv] at p; exact p.elim
      · exact p.elim
      · rename_i ex S1 e
        rw [e]
        split at p
        · rename_i S2 hp
          intro w' H' l r2
          obtain ⟨l2, r3, _, _⟩ := pop_rel l r2 hp
          exact p.2 _ H' l2 r3
        · exact p.elim
      · exact p.elim
  · exact p.elim
theorem runF_len {C : Nat → List SV → M RV} {F : FD} {svs : List SV} {S : St} (h : runF C F svs S ≠ .bad) : svs.length = F.np := by
  unfold runF at h
  split at h
  · assumption
  · exact absurd rfl h
end
end U

/-! USnd14: dicts with written keys; len(set(..)); raise as a stop. -/
namespace U
open PySem PySem.Spec PyProof.Rows L2
section
variable {K : PySem.W.Frag} {X : Cx} {o e f : Expr} {p0 p1 apos pos : Pos}
/-! ### the display -/
def trsOf (K : PySem.W.Frag) (C : Nat → List SV → M RV) : List Str → DE → List (TE × TE)
  | k :: ks, .cons a r => (tC (.str k), tE K (evE C a)) :: trsOf K C ks r
  | _, _ => []
theorem PostK.ok {w : W} {Q : List V → Hp → Prop} {r : Res (List D)} (h : PostK K w Q r) : ∃ v S, r = .ok v S := by
  cases r with
  | ok v S => exact ⟨v, S, rfl⟩
  | exc _ _ => exact h.elim
  | bad => exact h.elim
theorem pairs_ev {C : Nat → List SV → M RV} {ρ : Env} {σ : L2.St} {S' : St} : ∀ (ks : List Str) (vs : DE) (ds : List D) (w : W) (S : St) (H : Hp) (R : List (V × V) → Hp → Prop), ks.length = ds.length → Rel K w S H → RSl K w ρ σ → evK C vs ρ S = .ok ds S' →
    (∀ w' H' us, w.le w' → Rel K w' S' H' → RDs K w'.F w'.gl ds us → R ((ks.map V.str).zip us) H') → tPairs (trsOf K C ks vs) σ H R
  | [], vs, ds, w, S, H, R, hl, hr, sl, he, h => by
    cases ds with
    | cons _ _ => simp at hl
    | nil =>
      have : S = S' := by
        cases vs with
        | nil => cases he; rfl
        | cons a r =>
          exfalso
          have he : M.bind (evE C a ρ) (fun x => M.bind (keep x) fun d => M.bind (evK C r ρ) fun ds => M.ret (d :: ds)) S = .ok [] S' := he
          obtain ⟨x, S1, _, he⟩ := bind_ok he
          obtain ⟨d, S2, _, he⟩ := bind_ok he
          obtain ⟨ds, S3, _, he⟩ := bind_ok he
          cases he
        | _ => cases he
      subst this
      exact h w H [] (.refl w) hr rfl
  | k :: ks, vs, ds, w, S, H, R, hl, hr, sl, he, h => by
    cases vs with
    | cons a r =>
      have he : M.bind (evE C a ρ) (fun x => M.bind (keep x) fun d => M.bind (evK C r ρ) fun ds => M.ret (d :: ds)) S = .ok ds S' := he
      obtain ⟨x, S1, ex, he⟩ := bind_ok he
      obtain ⟨d, S2, ed, he⟩ := bind_ok he
      obtain ⟨ds', S3, eds, he⟩ := bind_ok he
      cases he
      show tC (.str k) σ H fun x H1 => tE K (evE C a) σ H1 fun y H2 => tPairs (trsOf K C ks r) σ H2 fun ps H3 => R ((x, y) :: ps) H3
      refine one hr sl ex fun w1 H1 v l1 r1 q1 => ?_
      obtain ⟨w2, l2, r2, _, q2⟩ := r1.kept K q1 ed
      refine pairs_ev ks r ds' w2 S2 H1 _ (by simpa using hl) r2 (sl.mono K (l1.trans l2)) eds fun w3 H3 us l3 r3 q3 => ?_
      exact h w3 H3 (v :: us) ((l1.trans l2).trans l3) r3 ⟨v, us, rfl, RD.mono K l3.F l3.gl d q2, q3⟩
    | nil => cases he; simp at hl
    | _ => cases he
theorem zip_kvs : ∀ (ks : List Str) (us : List V), (ks.map V.str).zip us = ((ks.zip us).map fun p => ((.inr p.1 : Key), p.2)).map fun kv => (kV kv.1, kv.2)
  | [], us => by simp
  | k :: ks, [] => by simp
  | k :: ks, u :: us => by
    have := zip_kvs ks us
    simp only [List.map_cons, List.zip_cons_cons, this]
    rfl
theorem merge_nodup : ∀ (more kvs : List (Key × V)), (∀ k ∈ more.map (·.1), valV kvs k = none) → (more.map (·.1)).Nodup → mergeK kvs more = kvs ++ more
  | [], kvs, _, _ => by unfold mergeK; simp
  | (k, v) :: more, kvs, h, nd => by
    rw [List.map_cons, List.nodup_cons] at nd
    unfold mergeK
    rw [List.foldl_cons]
    have e : putK kvs k v = kvs ++ [(k, v)] := putK_new v (h k (by simp))
    rw [e]
    have ih := merge_nodup more (kvs ++ [(k, v)]) (fun j hj => by
      have hne : ¬ j = k := fun z => nd.1 (by rw [← z]; exact hj)
      rw [valV_snoc k j v kvs (h k (by simp)), if_neg hne]
      exact h j (by rw [List.map_cons]; exact List.mem_cons_of_mem _ hj)) nd.2
    unfold mergeK at ih
    rw [ih, List.append_assoc]
    rfl
theorem RDk.of {F : Hp} {g : List Addr} : ∀ {ks : List Str} {ds : List D} {us : List V}, ks.length = ds.length → RDs K F g ds us → RDk K F g (zipK ks ds) ((ks.zip us).map fun p => ((.inr p.1 : Key), p.2))
  | [], ds, us, _, _ => by unfold zipK; exact rfl
  | k :: ks, [], us, h, _ => by simp at h
  | k :: ks, d :: ds, _, h, ⟨v, r, e, q, t⟩ => by
    subst e
    exact ⟨_, v, _, rfl, rfl, q, RDk.of (by simpa using h) t⟩
def disF (ks : List Str) (fe : Env → M (List D)) : Env → M RV := fun ρ => M.bind (fe ρ) fun ds => fun S => if disOk ks ds = true then .ok (.d (.dic (zipK ks ds))) S else .bad
theorem se_dis {C : Nat → List SV → M RV} {ks : List Str} {vs : DE} {keys : List (Option Expr)} {es : List Expr} (hK : X.K = K) (h : PPs X pos keys es (trsOf K C ks vs)) (hall : keys.all (·.isSome) = true) (hl : keys.length = es.length) (hk : keys.length = ks.length) :
    PE X (.Dict keys es pos) (tE K (disF ks (evK C vs))) := by
  subst hK
  refine ⟨fun pins s σ H Q I hh => ?_⟩
  obtain ⟨w, ρ, S, hr, sl, p⟩ := hh
  unfold disF at p
  obtain ⟨ds, S1, ed, p⟩ := p.bind
  split at p
  · rename_i hok
    unfold disOk at hok
    simp only [Bool.and_eq_true, decide_eq_true_eq] at hok
    obtain ⟨h1, h2, h3, h4⟩ := hok
    refine (pe_disp h hall hl (fun z => by subst z; simp at hk; omega) (by omega)).run pins s σ H Q I fun q hq => ?_
    have hn := hr.notF X.K hq
    have r0 := hr.new X.K (o := .dK []) hq
    have r1 := r0.extake X.K (p := q) (o := .dK []) upd_same hn.1 hn.2
    have le0 : ∀ w', ({ w with ex := (q, .dK []) :: w.ex } : W).le w' → w'.ex = (q, .dK []) :: w.ex := fun w' l => l.ex
    refine pairs_ev ks vs ds { w with ex := (q, .dK []) :: w.ex } S (upd H q (.dK [])) _ h2 r1 ?_ ed fun w' H' us l r' q' => ?_
    · have lx : w.lex ({ w with ex := (q, .dK []) :: w.ex } : W) := ⟨sub.refl _, pre.refl _, rfl, pre.refl _⟩
      exact RSl.lexm X.K lx sl
    · have hex := le0 w' l
      obtain ⟨rd, hD, hF, hnD⟩ := r'.exdrop X.K hex
      refine ⟨hD, (ks.zip us).map fun p => ((.inr p.1 : Key), p.2), zip_kvs ks us, ?_, ?_⟩
      · rw [List.length_map, List.length_zip]; omega
      · have hm : ((ks.zip us).map fun p => ((.inr p.1 : Key), p.2)).map (·.1) = ks.map Sum.inr := by
          rw [List.map_map]
          have : us.length = ks.length := by rw [RDs.len X.K q', h2]
          have e2 : (ks.zip us).map Prod.fst = ks := List.map_fst_zip (by omega)
          calc _ = ((ks.zip us).map Prod.fst).map (Sum.inr : Str → Key) := by rw [List.map_map]; rfl
            _ = _ := by rw [e2]
        rw [merge_nodup _ [] (fun k _ => rfl) (by
          rw [hm]
          exact List.Pairwise.map _ (fun a b hab z => hab (Sum.inr.inj z)) h1), List.nil_append]
        have r2 := r'.exset X.K (o' := .dK ((ks.zip us).map fun p => ((.inr p.1 : Key), p.2))) hex
        obtain ⟨rd2, hD2, hF2, hnD2⟩ := r2.exdrop X.K rfl
        obtain ⟨r3, l3⟩ := rd2.froze X.K hD2 hF2 hnD2
        refine p _ _ _ ?_ r3 ⟨q, _, rfl, upd_same, RDk.mono X.K l3.F l3.gl _ (RDk.of (K := X.K) h2 q')⟩
        exact ⟨l.F.trans l3.F, l.own.trans l3.own, l3.out.trans l.out, l.gl.trans l3.gl, l3.ex⟩
  · exact p.elim
/-! ### get, with a default -/
theorem look_val {F : Hp} {g : List Addr} {s : Str} : ∀ {kvs : List (D × D)} {us : List (Key × V)}, RDk K F g kvs us →
    (lookS s kvs = none ∧ valV us (.inr s) = none) ∨ ∃ d v, lookS s kvs = some d ∧ valV us (.inr s) = some v ∧ RD K F g d v
  | [], us, h => by rw [show us = [] from h]; exact .inl ⟨rfl, rfl⟩
  | (k, d) :: r, _, ⟨key, v, us', e, hk, q, t⟩ => by
    subst e
    cases k with
    | str x =>
      have hk : key = .inr x := hk
      subst hk
      unfold lookS
      by_cases hx : x = s
      · rw [if_pos hx]
        subst hx
        exact .inr ⟨d, v, rfl, valV_pos rfl, q⟩
      · rw [if_neg hx, valV_neg (fun z => hx (Sum.inr.inj z))]
        exact look_val t
    | int i =>
      have hk : key = .inl i := hk
      subst hk
      show (lookS s r = none ∧ _) ∨ ∃ d' v', lookS s r = some d' ∧ _
      rw [valV_neg (fun z => by cases z)]
      exact look_val t
    | _ => exact False.elim hk
theorem dgt_c {x y : RV} {dz : D} {rv : RV} (h : dgtV x y dz = some rv) : ∃ kvs key, x = .d (.dic kvs) ∧ y = .d (.str key) ∧ rv = .d ((lookS key kvs).getD dz) := by
  unfold dgtV at h
  split at h
  · cases h; exact ⟨_, _, rfl, rfl, rfl⟩
  · cases h
def dgtF (fo fk fd : Env → M RV) : Env → M RV := fun ρ => M.bind (fo ρ) fun x => fun S1 => if isDic x = true then M.bind (fk ρ) (fun y => M.bind (fd ρ) fun z => M.bind (keep z) fun dz => M.opt (dgtV x y dz)) S1 else .bad
theorem m2_of {env : PySem.Env} (he : okHead e = true) (hf : okHead f = true) : backTo pos (starEach [e, f] env) = [(false, eval e env), (false, eval f env)] ∨ True := .inr trivial
theorem se_dgt {fo fk fd : Env → M RV} (hK : X.K = K) (hu : X.A.units + 1 < cLine) (ho : PE X o (tE K fo)) (hk : PE X e (tE K fk)) (hd : PE X f (tE K fd)) (m : L2.M2 X o "get" apos e f pos) :
    PE X (.Call (.Attribute o "get" apos) [e, f] [] pos) (tE K (dgtF fo fk fd)) := by
  subst hK
  refine ⟨fun pins s σ H Q I hh => ?_⟩
  obtain ⟨w, ρ, S, hr, sl, p⟩ := hh
  unfold dgtF at p
  obtain ⟨x, S1, ex, p⟩ := p.bind
  split at p
  · rename_i hx
    obtain ⟨y, S2, ey, p⟩ := p.bind
    obtain ⟨z, S3, ez, p⟩ := p.bind
    obtain ⟨dz, S4, edz, p⟩ := p.bind
    unfold M.opt at p
    split at p
    · rename_i rv hv
      obtain ⟨kvs, key, rfl, rfl, rfl⟩ := dgt_c hv
      · refine (pe_dget2 hu ho hk hd m).run pins s σ H Q I ?_
        refine one hr sl ex fun w1 H1 v1 l1 r1 q1 => ?_
        obtain ⟨a, us, rfl, hFa, hu'⟩ := q1
        refine ⟨a, rfl, .inl ⟨us, .inl (r1.sub _ _ hFa)⟩, ?_⟩
        refine one r1 (sl.mono X.K l1) ey fun w2 H2 v2 l2 r2 q2 => ?_
        refine one r2 (sl.mono X.K (l1.trans l2)) ez fun w3 H3 v3 l3 r3 q3 => ?_
        obtain ⟨w4, l4, r4, _, q4⟩ := r3.kept X.K q3 edz
        have hq2 : v2 = .str key := q2
        subst hq2
        refine ⟨valV us (.inr key), DGet.k (k := .inr key) (r3.sub _ _ (l3.F _ _ (l2.F _ _ hFa))), ?_⟩
        have lA : w.le w4 := ((l1.trans l2).trans l3).trans l4
        have lB : w1.le w4 := (l2.trans l3).trans l4
        rcases look_val (K := X.K) (s := key) (RDk.mono X.K lB.F lB.gl kvs hu') with ⟨h1, h2⟩ | ⟨d, v, h1, h2, h3⟩
        · rw [h2]
          rw [h1] at p
          exact p w4 H3 _ lA r4 q4
        · rw [h2]
          rw [h1] at p
          exact p w4 H3 _ lA r4 h3
    · exact p.elim
  · exact p.elim
/-! ### len(set(..)) -/
def lensF (fa : Env → M RV) : Env → M RV := fun ρ => M.bind (fa ρ) fun x => fun S => match view S x with
  | some d => M.opt (lensV d) S
  | none => .bad
theorem se_lens {fa : Env → M RV} {p2 q0 : Pos} (hK : X.K = K) (hc : X.calm = true) (hg : Gl X "len") (hm : X.mg "len" = none) (hg2 : Gl X "set") (hm2 : X.mg "set" = none) (ha : PE X e (tE K fa)) (ho : okHead e = true) :
    PE X (.Call (.Name "len" p0) [.Call (.Name "set" p2) [e] [] q0] [] pos) (tE K (lensF fa)) := by
  subst hK
  refine ⟨fun pins s σ H Q I h => ?_⟩
  obtain ⟨w, ρ, S, hr, sl, p⟩ := h
  unfold lensF at p
  obtain ⟨x, S1, ex, p⟩ := p.bind
  split at p
  · rename_i d vd
    unfold M.opt at p
    split at p
    · rename_i rv hv
      unfold lensV at hv
      split at hv
      · rename_i ds
        split at hv
        · rename_i ns hi
          split at hv
          · rename_i hn
            have hn := of_decide_eq_true hn
            cases hv
            refine Call_ (ld_blt I hg hm PySem.boot_len ?_)
            refine PyProof.Rows.callWith_builtin1 (PyProof.Rows.args_cons ?_ rfl) rfl rfl
            refine Call_ (ld_blt I hg2 hm2 PyProof.Rows.boot_set ?_)
            refine PyProof.Rows.callWith_type1 (PyProof.Rows.args_cons (thn (ha.run pins s σ H (fun v H1 => ∃ a, v = .ref a ∧ H1 a = some (.lst (ns.map V.int)) ∧ ∀ j : Nat, j = (firstMet (fun i => ns.getD i 0) ns.length).length → Q (.int j) H1) I (one hr sl ex fun w1 H1 v l r q => ?_)) fun v s1 ⟨x, H1, I1, r1, a, ea, ha1, q1⟩ => PyProof.Rows.args_nil ?_) (star_cons ho)) (star_cons ho) rfl
            · obtain ⟨a, vs, rfl, hva, hd⟩ := r.view X.K q vd
              refine ⟨a, rfl, by rw [← RDs.ints X.K hi hd]; exact hva, fun j hj => ?_⟩
              rw [hj]
              exact p w1 H1 _ l r rfl
            · subst ea
              cases r1
              obtain ⟨its, r, pl, hz⟩ := I1.list (SqL.of (K := X.K) ha1)
              have hl : its.toArray.size = ns.length := by rw [List.size_toArray, ← r.length, List.length_map]
              refine call_set_list (I1.ok.hd hc) pl.isList (ns := ns) (by simpa using r.ints) (by rw [hl]; unfold scanBound; omega) fun h' tk hS hk => ?_
              rw [hl] at hS
              refine PyProof.Rows.args_nil ?_
              obtain ⟨o, es, ep, t, ho', hex, hd, _, _, _, hf, hn'⟩ := hS
              have I2 : Inv X pins σ H1 { s1 with heap := h', toks := tk } := I1.kept fun b o e => hk b o (Heap.lt_size e) e
              have hle := firstMet_length_le (fun i => ns.getD i 0) ns.length
              refine call_len_set ho' hex hd hf (by rw [hn'] <;> omega) ⟨.int (firstMet (fun i => ns.getD i 0) ns.length).length, H1, I2.tok _, ⟨_, by rw [hn']⟩, q1 _ rfl⟩
          · cases hv
        · cases hv
      · cases hv
    · exact p.elim
  · exact p.elim
end
end U

set_option maxHeartbeats 2000000
/-! UZip: list(zip(a, b)) of two tuples, at the library's level: the pairs stay, so each turn makes a new one. -/
namespace UZ
open PySem RZ
open PySem.Sem (wp)
theorem zip_no_len : typeLookup (.type "zip") "__len__" = pure none := by rw [typeLookup_type, builtinLookup_eq_fast]; kernel_rfl
theorem zip_no_hint : typeLookup (.type "zip") "__length_hint__" = pure none := by rw [typeLookup_type, builtinLookup_eq_fast]; kernel_rfl
section
variable {prog : Program} {w : World} {A : Around} {E : Value → Shared → Prop} {s : Shared}
theorem held_next {z TI TO T i1 i2 l1 l2 : Addr} {f : Bool} {oT : Obj} {k1 k2 : Nat} {xs ys : Array Value} {x y : Value} {Q : Value → Shared → Prop} (D : ZipApart z TI TO i1 i2 l1 l2) (hz : IsZipHeld s.heap z TI TO T f) (hT : s.heap.get? T = some oT) (hTI : IsPair s.heap TI (.ref i1) (.ref i2))
    (h1 : s.heap.IsTupleIter i1 l1 k1) (h2 : s.heap.IsTupleIter i2 l2 k2) (hl1 : s.heap.IsTuple l1 xs) (hl2 : s.heap.IsTuple l2 ys) (hx : xs[k1]? = some x) (hy : ys[k2]? = some y)
    (hQ : ∀ h', IsZipHeld h' z TI TO T true → h'.IsTupleIter i1 l1 (k1 + 1) → h'.IsTupleIter i2 l2 (k2 + 1) → IsPair h' s.heap.objs.size x y → h'.objs.size = s.heap.objs.size + 1 →
      (∀ c o, c ≠ z → c ≠ i1 → c ≠ i2 → s.heap.get? c = some o → h'.get? c = some o) → Q (.ref s.heap.objs.size) { s with heap := h' }) :
    wpAny (model prog w) A (Builtin.«zip.__next__» ⟨[.ref z], []⟩) (fun fin s' => ∃ v, fin = .done (.ret v) ∧ Q v s') E s := by
  show wpAny _ _ (field (.ref z) 2 >>= _) _ _ _
  refine wpAny_bind (wpAny_field hz rfl (x := .bool false) rfl ?_)
  show wpAny _ _ (field (.ref z) 3 >>= _) _ _ _
  refine wpAny_bind (wpAny_field hz rfl (x := .ref TI) rfl ?_)
  refine wpAny_bind (wpAny_seqItems hTI rfl ?_)
  show wpAny _ _ (Builtin.SmallTypes.ownedTupleIsFree (.ref z) >>= _) _ _ _
  refine wpAny_bind (wpAny_tupleHeld_zip hz hT fun ha hza hsa => ?_)
  simp only [Bool.false_eq_true, if_false]
  refine wpAny_bind ?_
  rw [← Array.forIn_toList]
  simp only [List.forIn_cons, List.forIn_nil]
  refine wpAny_bind (wpAny_bind (wpAny_holding ?_))
  show wpAny _ _ (Builtin.SmallTypes.nextOf (.ref i1) >>= _) _ _ _
  refine wpAny_bind (nextOf_tuple_item (s := { s with heap := ha }) (h1.extBut hsa.extBut D.i1z) (hl1.extBut hsa.extBut D.l1z) hx fun hb h1b hsb => wpAny_pure ?_)
  refine wpAny_pure ?_
  refine wpAny_bind (wpAny_bind (wpAny_holding ?_))
  show wpAny _ _ (Builtin.SmallTypes.nextOf (.ref i2) >>= _) _ _ _
  refine wpAny_bind (nextOf_tuple_item (s := { s with heap := hb }) ((h2.extBut hsa.extBut D.i2z).extBut hsb.extBut D.i12.symm) ((hl2.extBut hsa.extBut D.l2z).extBut hsb.extBut D.l2i1) hy fun hc h2c hsc => wpAny_pure ?_)
  refine wpAny_pure (wpAny_pure ?_)
  show wpAny _ _ (newTuple [x, y] >>= _) _ _ _
  refine wpAny_bind (wpAny_newTuple ?_)
  have hsz : hc.objs.size = s.heap.objs.size := by rw [hsc.1, hsb.1, hsa.1]
  have hzc : IsZipHeld hc z TI TO T true := hsc.extBut _ _ D.i2z.symm (hsb.extBut _ _ D.i1z.symm hza)
  have hk : ∀ c o, c ≠ z → c ≠ i1 → c ≠ i2 → s.heap.get? c = some o → hc.get? c = some o := fun c o c1 c2 c3 e => hsc.extBut _ _ c3 (hsb.extBut _ _ c2 (hsa.extBut _ _ c1 e))
  have h1c : hc.IsTupleIter i1 l1 (k1 + 1) := h1b.extBut hsc.extBut D.i12
  refine wpAny_pure ⟨_, rfl, ?_⟩
  show Q (.ref hc.objs.size) _
  have hp : IsPair (hc.push { cls := .type "tuple", data := .seq #[x, y] }) hc.objs.size x y := Heap.get?_push_size _ rfl
  have hzz : (hc.push { cls := .type "tuple", data := .seq #[x, y] }).objs.size = hc.objs.size + 1 := Heap.size_push ..
  rw [hsz] at hp hzz ⊢
  exact hQ _ (Heap.get?_push_of_some _ hzc) (h1c.at fun o e => Heap.get?_push_of_some _ e) (h2c.at fun o e => Heap.get?_push_of_some _ e) hp hzz fun c o c1 c2 c3 e => Heap.get?_push_of_some _ (hk c o c1 c2 c3 e)
theorem held_end {z TI TO T i1 i2 l1 l2 : Addr} {f : Bool} {oT : Obj} {k1 k2 : Nat} {xs ys : Array Value} {Q : Fin → Shared → Prop} (hh : A.handled = none) (D : ZipApart z TI TO i1 i2 l1 l2) (hz : IsZipHeld s.heap z TI TO T f) (hT : s.heap.get? T = some oT) (hTI : IsPair s.heap TI (.ref i1) (.ref i2))
    (h1 : s.heap.IsTupleIter i1 l1 k1) (h2 : s.heap.IsTupleIter i2 l2 k2) (hl1 : s.heap.IsTuple l1 xs) (hl2 : s.heap.IsTuple l2 ys) (hend : xs[k1]? = none ∨ ys[k2]? = none)
    (hE : ∀ h' e, (∀ c o, c ≠ z → c ≠ i1 → c ≠ i2 → s.heap.get? c = some o → h'.get? c = some o) → (∃ o, h'.get? e = some o ∧ o.cls = .type "StopIteration") → E (.ref e) { s with heap := h' }) :
    wpAny (model prog w) A (Builtin.«zip.__next__» ⟨[.ref z], []⟩) Q E s := by
  show wpAny _ _ (field (.ref z) 2 >>= _) _ _ _
  refine wpAny_bind (wpAny_field hz rfl (x := .bool false) rfl ?_)
  show wpAny _ _ (field (.ref z) 3 >>= _) _ _ _
  refine wpAny_bind (wpAny_field hz rfl (x := .ref TI) rfl ?_)
  refine wpAny_bind (wpAny_seqItems hTI rfl ?_)
  show wpAny _ _ (Builtin.SmallTypes.ownedTupleIsFree (.ref z) >>= _) _ _ _
  refine wpAny_bind (wpAny_tupleHeld_zip hz hT fun ha hza hsa => ?_)
  simp only [Bool.false_eq_true, if_false]
  refine wpAny_bind ?_
  rw [← Array.forIn_toList]
  simp only [List.forIn_cons, List.forIn_nil]
  refine wpAny_bind (wpAny_bind (wpAny_holding ?_))
  show wpAny _ _ (Builtin.SmallTypes.nextOf (.ref i1) >>= _) _ _ _
  cases hx : xs[k1]? with
  | none =>
    refine wpAny_bind (nextOf_tuple_end (s := { s with heap := ha }) hh (h1.extBut hsa.extBut D.i1z) (hl1.extBut hsa.extBut D.l1z) hx fun hb e hsb he => ?_)
    exact hE hb e (fun c o c1 c2 _ x => hsb _ _ c2 (hsa.extBut _ _ c1 x)) he
  | some x =>
    have hy : ys[k2]? = none := by rcases hend with h | h; rw [hx] at h; cases h; exact h
    refine wpAny_bind (nextOf_tuple_item (s := { s with heap := ha }) (h1.extBut hsa.extBut D.i1z) (hl1.extBut hsa.extBut D.l1z) hx fun hb h1b hsb => wpAny_pure ?_)
    refine wpAny_pure ?_
    refine wpAny_bind (wpAny_bind (wpAny_holding ?_))
    show wpAny _ _ (Builtin.SmallTypes.nextOf (.ref i2) >>= _) _ _ _
    refine wpAny_bind (nextOf_tuple_end (s := { s with heap := hb }) hh ((h2.extBut hsa.extBut D.i2z).extBut hsb.extBut D.i12.symm) ((hl2.extBut hsa.extBut D.l2z).extBut hsb.extBut D.l2i1) hy fun hc e hsc he => ?_)
    exact hE hc e (fun c o c1 c2 c3 x => hsc _ _ c3 (hsb.extBut _ _ c2 (hsa.extBut _ _ c1 x))) he
/-- the zip at turn i: as made, or with a pair that is out -/
structure ZSt (z TI TO i1 i2 l1 l2 : Addr) (xs ys : Array Value) (i : Nat) (h : Heap) : Prop where
  ti : IsPair h TI (.ref i1) (.ref i2)
  a1 : h.IsTupleIter i1 l1 i
  a2 : h.IsTupleIter i2 l2 i
  b1 : h.IsTuple l1 xs
  b2 : h.IsTuple l2 ys
  zz : (IsZip h z TI TO .none ∧ ∃ a b, IsPair h TO a b) ∨ ∃ T f oT, IsZipHeld h z TI TO T f ∧ h.get? T = some oT ∧ T ≠ z ∧ T ≠ i1 ∧ T ≠ i2
theorem ZSt.ty {z TI TO i1 i2 l1 l2 : Addr} {xs ys : Array Value} {i : Nat} (x : ZSt z TI TO i1 i2 l1 l2 xs ys i s.heap) : s.TypeIs (.ref z) "zip" := by
  rcases x.zz with ⟨h, _⟩ | ⟨T, f, oT, h, _⟩
  · exact ⟨_, h, rfl⟩
  · exact ⟨_, h, rfl⟩
/-- a step that changes nothing but one list, that is not the zip's -/
theorem ZSt.but {z TI TO i1 i2 l1 l2 S : Addr} {xs ys : Array Value} {i : Nat} {h h' : Heap} (x : ZSt z TI TO i1 i2 l1 l2 xs ys i h) (hS : S ∉ [z, TI, TO, i1, i2, l1, l2]) (hT : ∀ T f, IsZipHeld h z TI TO T f → T ≠ S) (k : ∀ b o, b ≠ S → h.get? b = some o → h'.get? b = some o) : ZSt z TI TO i1 i2 l1 l2 xs ys i h' := by
  simp only [List.mem_cons, List.not_mem_nil, or_false, not_or] at hS
  obtain ⟨n1, n2, n3, n4, n5, n6, n7⟩ := hS
  refine ⟨k _ _ (Ne.symm n2) x.ti, x.a1.at fun o e => k _ o (Ne.symm n4) e, x.a2.at fun o e => k _ o (Ne.symm n5) e, x.b1.at fun o e => k _ o (Ne.symm n6) e, x.b2.at fun o e => k _ o (Ne.symm n7) e, ?_⟩
  rcases x.zz with ⟨hz, a, b, hp⟩ | ⟨T, f, oT, hz, ht, r⟩
  · exact .inl ⟨k _ _ (Ne.symm n1) hz, a, b, k _ _ (Ne.symm n3) hp⟩
  · exact .inr ⟨T, f, oT, k _ _ (Ne.symm n1) hz, k _ _ (hT T f hz) ht, r⟩
theorem ZSt.next {z TI TO i1 i2 l1 l2 : Addr} {xs ys : Array Value} {i : Nat} {x y : Value} {Q : Option Value → Shared → Prop} (D : ZipApart z TI TO i1 i2 l1 l2) (st : ZSt z TI TO i1 i2 l1 l2 xs ys i s.heap) (ex : xs[i]? = some x) (ey : ys[i]? = some y)
    (hQ : ∀ h', ZSt z TI TO i1 i2 l1 l2 xs ys (i + 1) h' → (∀ T f, IsZipHeld h' z TI TO T f → (∃ f', IsZipHeld s.heap z TI TO T f') ∨ T = s.heap.objs.size) → IsPair h' s.heap.objs.size x y → (∀ c o, c ∉ [z, TO, i1, i2] → s.heap.get? c = some o → h'.get? c = some o) → Q (some (.ref s.heap.objs.size)) { s with heap := h' }) :
    wpAny (model prog w) A (pyNext (.ref z)) Q E s := by
  have hT := st.ty
  have lt : ∀ {c o}, s.heap.get? c = some o → s.heap.objs.size ≠ c := fun e => Nat.ne_of_gt (Heap.lt_size e)
  have n1 : s.heap.objs.size ≠ i1 := let ⟨_, e, _⟩ := st.a1; lt e
  have n2 : s.heap.objs.size ≠ i2 := let ⟨_, e, _⟩ := st.a2; lt e
  rcases st.zz with ⟨hz, a, b, hTO⟩ | ⟨T, f, oT, hz, ht, r1, r2, r3⟩
  · refine pyNext_zipT_item D hz st.ti hTO st.a1 st.a2 st.b1 st.b2 ex ey fun h' c1 c2 c3 c4 c5 c6 hk => ?_
    refine hQ h' ⟨hk _ _ D.TIz D.TITO D.TIi1 D.TIi2 st.ti, c3, c4, st.b1.at fun o e => hk _ o D.l1z D.l1TO D.l1i1 D.l1i2 e, st.b2.at fun o e => hk _ o D.l2z D.l2TO D.l2i1 D.l2i2 e, .inr ⟨s.heap.objs.size, false, _, c1, c5, lt hz, n1, n2⟩⟩ (fun T f q => ?_) c5
      fun c o hc e => hk c o (fun x => hc (by simp [x])) (fun x => hc (by simp [x])) (fun x => hc (by simp [x])) (fun x => hc (by simp [x])) e
    right
    have q : h'.get? z = _ := q
    rw [show h'.get? z = _ from c1] at q
    have q2 := congrArg (fun o : Option Obj => o.map (·.data)) q
    simp [rawInt] at q2
    exact (Int.ofNat.inj q2.1).symm
  · have hTs : s.TypeIs (.ref z) "zip" := hT
    unfold pyNext
    refine wpAny_bind (wpAny_attempt (wpAny_callSpecial?_slot (name := Str.ofString "__next__") hTs F.slot_zip_next
      (wpAny_call_entry F.slot_zip_next hTs F.entry_zip_next (held_next D hz ht st.ti st.a1 st.a2 st.b1 st.b2 ex ey fun h' c1 c3 c4 c5 c6 hk => wpAny_pure ?_) (F.args_zip_next_1 _))))
    refine hQ h' ⟨hk _ _ D.TIz D.TIi1 D.TIi2 st.ti, c3, c4, st.b1.at fun o e => hk _ o D.l1z D.l1i1 D.l1i2 e, st.b2.at fun o e => hk _ o D.l2z D.l2i1 D.l2i2 e, .inr ⟨T, true, oT, c1, hk _ _ r1 r2 r3 ht, r1, r2, r3⟩⟩ (fun T' f' q => ?_) c5
      fun c o hc e => hk c o (fun x => hc (by simp [x])) (fun x => hc (by simp [x])) (fun x => hc (by simp [x])) e
    left
    have q : h'.get? z = _ := q
    rw [show h'.get? z = _ from c1] at q
    have q2 := congrArg (fun o : Option Obj => o.map (·.data)) q
    simp [rawInt] at q2
    rw [← Int.ofNat.inj q2.1]
    exact ⟨_, hz⟩
theorem ZSt.done {z TI TO i1 i2 l1 l2 : Addr} {xs ys : Array Value} {i : Nat} {Q : Option Value → Shared → Prop} (hh : A.handled = none) (D : ZipApart z TI TO i1 i2 l1 l2) (st : ZSt z TI TO i1 i2 l1 l2 xs ys i s.heap) (hend : xs[i]? = none ∨ ys[i]? = none)
    (hQ : ∀ h', (∀ c o, c ∉ [z, TO, i1, i2] → s.heap.get? c = some o → h'.get? c = some o) → Q none { s with heap := h' }) : wpAny (model prog w) A (pyNext (.ref z)) Q E s := by
  have hT := st.ty
  rcases st.zz with ⟨hz, a, b, hTO⟩ | ⟨T, f, oT, hz, ht, r1, r2, r3⟩
  · exact pyNext_zipT_end hh D hz st.ti hTO st.a1 st.a2 st.b1 st.b2 hend fun h' hk => hQ h' fun c o hc e => hk c o (fun x => hc (by simp [x])) (fun x => hc (by simp [x])) (fun x => hc (by simp [x])) (fun x => hc (by simp [x])) e
  · unfold pyNext
    refine wpAny_bind (wpAny_attempt (wpAny_callSpecial?_slot (name := Str.ofString "__next__") hT F.slot_zip_next
      (wpAny_call_entry F.slot_zip_next hT F.entry_zip_next (held_end hh D hz ht st.ti st.a1 st.a2 st.b1 st.b2 hend fun h' e hk he => ?_) (F.args_zip_next_1 _))))
    obtain ⟨o, ho, hc⟩ := he
    refine wpAny_bind (wpAny_isInstance (T := "StopIteration") (b := true) ⟨o, ho, hc⟩ isSubtype_stop ?_)
    exact wpAny_pure (hQ _ fun c o hc e => hk c o (fun x => hc (by simp [x])) (fun x => hc (by simp [x])) (fun x => hc (by simp [x])) e)
end
/-- the pairs made so far, at Ts -/
def PairsAt (h : Heap) (xs ys : Array Value) (bad : List Addr) (Ts : List Addr) : Prop := Ts.Nodup ∧ ∀ (j : Nat) (T : Addr), Ts[j]? = some T → T ∉ bad ∧ ∃ x y, xs[j]? = some x ∧ ys[j]? = some y ∧ IsPair h T x y
section
variable {prog : Program} {w : World} {A : Around} {R : Result → Shared → Prop}
theorem zip_loop {z TI TO i1 i2 l1 l2 S : Addr} {xs ys : Array Value} {n0 : Nat} (hh : A.handled = none) (D : ZipApart z TI TO i1 i2 l1 l2) (hS : S ∉ [z, TI, TO, i1, i2, l1, l2]) (res : Value) (hn : min xs.size ys.size ≤ sizeLine) :
    ∀ (k i : Nat) (s : Shared) (Ts : List Addr) (c : Nat), min xs.size ys.size - i = k → i ≤ min xs.size ys.size → Ts.length = i → ZSt z TI TO i1 i2 l1 l2 xs ys i s.heap → (∀ T f, IsZipHeld s.heap z TI TO T f → T ≠ S) → TO < s.heap.objs.size → s.heap.get? S = some { cls := .type "list", dict := none, data := .seq (Ts.map Value.ref).toArray c, slots := #[] } →
      PairsAt s.heap xs ys [z, TI, TO, i1, i2, l1, l2, S] Ts → (∀ T ∈ Ts, n0 ≤ T) → n0 ≤ s.heap.objs.size →
      (∀ h' c' Ts', (∀ b o, b ∉ [z, TO, i1, i2, S] → s.heap.get? b = some o → h'.get? b = some o) → h'.get? S = some { cls := .type "list", dict := none, data := .seq (Ts'.map Value.ref).toArray c', slots := #[] } → Ts'.length = min xs.size ys.size → PairsAt h' xs ys [z, TI, TO, i1, i2, l1, l2, S] Ts' → (∀ T ∈ Ts', n0 ≤ T) → R (.ok (.ret res)) { s with heap := h' }) →
      codeAny (model prog w) A (.builtin "list.extend.loop" ⟨[.ref S, .ref z, res], []⟩) R s := by
  have hS0 := hS
  simp only [List.mem_cons, List.not_mem_nil, or_false, not_or] at hS0
  obtain ⟨m1, m2, m3, m4, m5, m6, m7⟩ := hS0
  intro k
  induction k with
  | zero =>
    intro i s Ts c hk hi hl hst hTS hTOx hSl hp hb hsz hR
    have hin : i = min xs.size ys.size := by omega
    refine codeAny_builtin F.entry_extend_loop ?_
    rw [Around.under_plainId F.plain_extend_loop _]
    show wpAny _ A.in1 (pyNext (.ref z) >>= _) _ _ s
    have hend : xs[i]? = none ∨ ys[i]? = none := by
      rcases Nat.le_total xs.size ys.size with h | h
      · exact .inl (Array.getElem?_eq_none (by omega))
      · exact .inr (Array.getElem?_eq_none (by omega))
    refine wpAny_bind (ZSt.done (s := s) (by simpa using hh) D hst hend fun h' hk' => ?_)
    refine wpAny_pure (hR h' c Ts (fun b o hb e => hk' b o (fun x => hb (by simp only [List.mem_cons, List.not_mem_nil, or_false] at x ⊢; rcases x with x | x | x | x <;> simp [x])) e) (hk' _ _ (by simp [m1, m3, m4, m5]) hSl) (by omega) ⟨hp.1, fun j T e => ?_⟩ hb)
    obtain ⟨q1, x, y, q2, q3, q4⟩ := hp.2 j T e
    simp only [List.mem_cons, List.not_mem_nil, or_false, not_or] at q1
    exact ⟨by simp only [List.mem_cons, List.not_mem_nil, or_false, not_or]; exact q1, x, y, q2, q3, hk' _ _ (by simp [q1]) q4⟩
  | succ k ih =>
    intro i s Ts c hk hi hl hst hTS hTOx hSl hp hb hsz hR
    have hix : i < xs.size := by omega
    have hiy : i < ys.size := by omega
    refine codeAny_builtin F.entry_extend_loop ?_
    rw [Around.under_plainId F.plain_extend_loop _]
    show wpAny _ A.in1 (pyNext (.ref z) >>= _) _ _ s
    refine wpAny_bind (ZSt.next (s := s) D hst (Array.getElem?_eq_getElem hix) (Array.getElem?_eq_getElem hiy) fun h' st' hTn hpr hk' => ?_)
    have hSs : S < s.heap.objs.size := Heap.lt_size hSl
    have hS' := hk' S _ (by simp [m1, m3, m4, m5]) hSl
    show wpAny _ A.in1 (updateSeq S (·.push (.ref s.heap.objs.size)) >>= _) _ _ _
    have hsT : (Ts.map Value.ref).toArray.size = i := by simp [hl]
    have oth : ∀ b o, b ≠ S → h'.get? b = some o → (h'.update S (Obj.mapSeq (·.push (.ref s.heap.objs.size)))).get? b = some o := fun b o hb e => (Heap.get?_update_other _ _ (fun h : S = b => hb h.symm)).trans e
    have fresh : ∀ {b : Addr} {o : Obj}, s.heap.get? b = some o → s.heap.objs.size ≠ b := fun e => Nat.ne_of_gt (Heap.lt_size e)
    refine wpAny_bind ?_
    refine wpAny_updateSeq hS' rfl (wpAny_pure ⟨plainId_quiet F.plain_extend_loop _, ih (i + 1) _ (Ts ++ [s.heap.objs.size]) (Obj.mapSeq (·.push (Value.ref s.heap.objs.size)) { cls := .type "list", dict := none, data := .seq (Ts.map Value.ref).toArray c, slots := #[] } |> fun o => match o.data with
        | .seq _ c => c
        | _ => 0) (by omega) (by omega) (by simp [hl]) (st'.but hS (fun T f q => ?_) oth) (fun T f q => ?_) ?_ ?_ ⟨?_, fun j T e => ?_⟩ (fun T hT => ?_) ?_ fun h'' c'' Ts'' hk'' hS'' hl'' hp'' hb'' => ?_⟩)
      (by rw [hsT]; omega) (by show ((Ts.map Value.ref).toArray.push _).size ≤ sizeLine + 1; rw [Array.size_push, hsT]; omega)
    · rcases hTn T f q with ⟨f', e⟩ | e
      · exact hTS T f' e
      · rw [e]; exact fresh hSl
    · have q : (h'.update S _).get? z = _ := q
      rw [Heap.get?_update_other _ _ (fun h : S = z => m1 h)] at q
      rcases hTn T f q with ⟨f', e⟩ | e
      · exact hTS T f' e
      · rw [e]; exact fresh hSl
    · show TO < (h'.update S _).objs.size
      rw [Heap.size_update]
      exact Nat.lt_trans hTOx (Heap.lt_size hpr)
    · have e := Heap.get?_update_self (Obj.mapSeq (·.push (Value.ref s.heap.objs.size))) hS' rfl
      refine e.trans ?_
      simp [Obj.mapSeq]
    · rw [List.nodup_append]
      refine ⟨hp.1, by simp, fun a ha b hb => ?_⟩
      rw [List.mem_singleton.mp hb]
      obtain ⟨j, hj⟩ := List.mem_iff_getElem?.mp ha
      obtain ⟨_, x, y, _, _, q4⟩ := hp.2 j a hj
      exact (fresh q4).symm
    · have newS : s.heap.objs.size ≠ S := fresh hSl
      by_cases hj : j < Ts.length
      · rw [List.getElem?_append_left hj] at e
        obtain ⟨q1, x, y, q2, q3, q4⟩ := hp.2 j T e
        refine ⟨q1, x, y, q2, q3, ?_⟩
        simp only [List.mem_cons, List.not_mem_nil, or_false, not_or] at q1
        exact oth _ _ q1.2.2.2.2.2.2.2 (hk' _ _ (by simp [q1]) q4)
      · rw [List.getElem?_append_right (by omega)] at e
        have hj0 : j - Ts.length = 0 := by
          have := (List.getElem?_eq_some_iff.mp e).1
          simp at this
          omega
        rw [hj0] at e
        simp at e
        subst e
        have hji : j = i := by omega
        subst hji
        have f1 : s.heap.objs.size ≠ z := by
          obtain ⟨o, e, _⟩ := hst.ty
          exact fresh e
        have f2 := fresh hst.ti
        have f4 : s.heap.objs.size ≠ i1 := let ⟨_, e, _⟩ := hst.a1; fresh e
        have f5 : s.heap.objs.size ≠ i2 := let ⟨_, e, _⟩ := hst.a2; fresh e
        have f6 : s.heap.objs.size ≠ l1 := let ⟨_, e, _⟩ := hst.b1; fresh e
        have f7 : s.heap.objs.size ≠ l2 := let ⟨_, e, _⟩ := hst.b2; fresh e
        exact ⟨by simp only [List.mem_cons, List.not_mem_nil, or_false, not_or]; exact ⟨f1, f2, Nat.ne_of_gt hTOx, f4, f5, f6, f7, newS⟩, _, _, Array.getElem?_eq_getElem hix, Array.getElem?_eq_getElem hiy, oth _ _ newS hpr⟩
    · rcases List.mem_append.mp hT with hT | hT
      · exact hb T hT
      · rw [List.mem_singleton.mp hT]; exact hsz
    · show n0 ≤ (h'.update S _).objs.size
      rw [Heap.size_update]
      exact Nat.le_trans hsz (Nat.le_of_lt (Heap.lt_size hpr))
    · refine hR h'' c'' Ts'' (fun b o hb e => ?_) hS'' hl'' hp'' hb''
      have hbS : b ≠ S := fun x => hb (by simp [x])
      exact hk'' b o hb (oth b o hbS (hk' b o (fun x => hb (by simp only [List.mem_cons, List.not_mem_nil, or_false] at x ⊢; rcases x with x | x | x | x <;> simp [x])) e))
end
section
variable {prog : Program} {w : World} {A : Around} {E : Value → Shared → Prop} {s : Shared}
/-- list(z) of a zip of two tuples, just made -/
theorem call_list_zip {z TI TO i1 i2 l1 l2 : Addr} {xs ys : Array Value} {Q : Value → Shared → Prop} (hh : A.handled = none) (D : ZipApart z TI TO i1 i2 l1 l2) (hz : IsZip s.heap z TI TO .none) (hTI : IsPair s.heap TI (.ref i1) (.ref i2)) (hTO : ∃ a b, IsPair s.heap TO a b)
    (h1 : s.heap.IsTupleIter i1 l1 0) (h2 : s.heap.IsTupleIter i2 l2 0) (hl1 : s.heap.IsTuple l1 xs) (hl2 : s.heap.IsTuple l2 ys) (hn : min xs.size ys.size ≤ sizeLine)
    (hQ : ∀ h' c' Ts, (∀ b o, b ∉ [z, TO, i1, i2] → s.heap.get? b = some o → h'.get? b = some o) → h'.get? s.heap.objs.size = some { cls := .type "list", dict := none, data := .seq (Ts.map Value.ref).toArray c', slots := #[] } → Ts.length = min xs.size ys.size →
      PairsAt h' xs ys [z, TI, TO, i1, i2, l1, l2, s.heap.objs.size] Ts → (∀ T ∈ Ts, s.heap.objs.size ≤ T) → Q (.ref s.heap.objs.size) { s with heap := h' }) :
    wpAny (model prog w) A (call (.type "list") [.ref z]) Q E s := by
  have hzl : z < s.heap.objs.size := Heap.lt_size hz
  refine callType_codes (Q₁ := fun obj s₁ => obj = .ref s.heap.objs.size ∧ s₁ = { s with heap := s.heap.push { cls := .type "list", data := .seq #[] } }) F.called_list (F.typeCall_list_1 _) F.entry_list_init (code_list_new _ ⟨rfl, rfl⟩) fun obj s₁ h₁ => ?_
  obtain ⟨rfl, rfl⟩ := h₁
  have hS : (s.heap.push { cls := .type "list", data := .seq #[] }).get? s.heap.objs.size = some { cls := .type "list", data := .seq #[] } := Heap.get?_push_size _ rfl
  refine ⟨⟨_, hS, rfl⟩, F.args_list_init_2 _ _, ?_⟩
  have fresh : ∀ {b : Addr} {o : Obj}, s.heap.get? b = some o → s.heap.objs.size ≠ b := fun e => Nat.ne_of_gt (Heap.lt_size e)
  obtain ⟨a0, b0, hTO⟩ := hTO
  have hne : s.heap.objs.size ∉ [z, TI, TO, i1, i2, l1, l2] := by
    have f4 : s.heap.objs.size ≠ i1 := let ⟨_, e, _⟩ := h1; fresh e
    have f5 : s.heap.objs.size ≠ i2 := let ⟨_, e, _⟩ := h2; fresh e
    have f6 : s.heap.objs.size ≠ l1 := let ⟨_, e, _⟩ := hl1; fresh e
    have f7 : s.heap.objs.size ≠ l2 := let ⟨_, e, _⟩ := hl2; fresh e
    simp only [List.mem_cons, List.not_mem_nil, or_false, not_or]
    exact ⟨fresh hz, fresh hTI, fresh hTO, f4, f5, f6, f7⟩
  have st0 : ZSt z TI TO i1 i2 l1 l2 xs ys 0 s.heap := ⟨hTI, h1, h2, hl1, hl2, .inl ⟨hz, a0, b0, hTO⟩⟩
  have noheld : ∀ (h : Heap), IsZip h z TI TO .none → ∀ T f, IsZipHeld h z TI TO T f → False := fun h e T f q => by
    have q : h.get? z = _ := q
    rw [show h.get? z = _ from e] at q
    have q2 := congrArg (fun o : Option Obj => o.map (·.data)) q
    simp [rawInt] at q2
  have st1 : ZSt z TI TO i1 i2 l1 l2 xs ys 0 (s.heap.push { cls := .type "list", data := .seq #[] }) := st0.but hne (fun T f q => (noheld _ hz T f q).elim) fun b o _ e => Heap.get?_push_of_some _ e
  show wpAny (model prog w) _ (do let old ← Builtin.List.listItems (.ref s.heap.objs.size); Builtin.List.listUpdate (.ref s.heap.objs.size) (fun _ => #[]); letGo old.toList.reverse; Builtin.List.listExtendWith (.ref s.heap.objs.size) (.ref z) .none) _ _ _
  refine wpAny_bind ?_
  unfold Builtin.List.listItems
  refine wpAny_bind (wpAny_seqItems hS rfl (wpAny_pure ?_))
  show wpAny _ _ (updateSeq s.heap.objs.size (fun _ => #[]) >>= fun _ => letGo (#[] : Array Value).toList.reverse >>= fun _ => Builtin.List.listExtendWith (.ref s.heap.objs.size) (.ref z) .none) _ _ _
  refine wpAny_bind (wpAny_updateSeq hS rfl ?_)
  generalize hh1 : (s.heap.push { cls := .type "list", data := .seq #[] }).update s.heap.objs.size (Obj.mapSeq (fun _ => (#[] : Array Value))) = g1
  have hS1 : g1.get? s.heap.objs.size = some { cls := .type "list", dict := none, data := .seq #[] 0, slots := #[] } := by
    rw [← hh1]
    refine (Heap.get?_update_self _ hS rfl).trans ?_
    simp [Obj.mapSeq]
  have k1 : ∀ b o, b ≠ s.heap.objs.size → (s.heap.push { cls := .type "list", data := .seq #[] }).get? b = some o → g1.get? b = some o := fun b o hb e => by
    rw [← hh1]
    exact (Heap.get?_update_other _ _ (Ne.symm hb)).trans e
  have hz1 : IsZip g1 z TI TO .none := k1 _ _ (Ne.symm (fresh hz)) (Heap.get?_push_of_some _ hz)
  have st2 : ZSt z TI TO i1 i2 l1 l2 xs ys 0 g1 := st1.but hne (fun T f q => (noheld _ (Heap.get?_push_of_some _ hz) T f q).elim) k1
  refine wpAny_bind (wpAny_letGo ?_)
  have hT1 : Shared.TypeIs { s with heap := g1 } (.ref z) "zip" := ⟨_, hz1, rfl⟩
  unfold Builtin.List.listExtendWith
  refine wpAny_bind (wpAny_typeOf hT1 ?_)
  have q1 : Builtin.List.listSameRef (.ref s.heap.objs.size) (.ref z) = false := by simp [Builtin.List.listSameRef, fresh hz]
  have q2 : (Value.type "zip" == Value.type "list") = false := by decide
  have q3 : (Value.type "zip" == Value.type "tuple") = false := by decide
  simp only [q1, q2, q3, Bool.or_false, Bool.false_eq_true, if_false]
  refine wpAny_bind (wpAny_pyIter_zip hz1 ?_)
  refine wpAny_bind (wpAny_holding ?_)
  unfold Builtin.List.listLengthHint
  refine wpAny_bind (wpAny_specialOf hT1 zip_no_len ?_)
  show wpAny _ _ (specialOf (Value.ref z) (Str.ofString "__length_hint__") >>= _) _ _ _
  refine wpAny_bind (wpAny_specialOf hT1 zip_no_hint ?_)
  refine wpAny_pure ?_
  show wpAny _ _ (rule "list.extend.makes-room" >>= fun _ => Builtin.List.listTouch (.ref s.heap.objs.size) >>= fun _ => again (.builtin "list.extend.loop" ⟨[.ref s.heap.objs.size, .ref z, .none], []⟩)) _ _ _
  refine wpAny_bind (wpAny_rule ?_)
  refine wpAny_bind ?_
  show wpAny _ _ (updateSeq s.heap.objs.size (·.push .none) >>= fun _ => updateSeq s.heap.objs.size (·.pop)) _ _ _
  refine wpAny_bind (wpAny_updateSeq hS1 rfl ?_)
  have hS2 := Heap.get?_update_self (Obj.mapSeq (·.push Value.none)) hS1 rfl
  refine wpAny_updateSeq (hz := by seq_fits) hS2 rfl ?_
  have hS3 := Heap.get?_update_self (Obj.mapSeq (·.pop)) hS2 rfl
  have k3 : ∀ b o, b ≠ s.heap.objs.size → g1.get? b = some o → ((g1.update s.heap.objs.size (Obj.mapSeq (·.push Value.none))).update s.heap.objs.size (Obj.mapSeq (·.pop))).get? b = some o :=
    fun b o hb e => (Heap.get?_update_other _ _ (Ne.symm hb)).trans ((Heap.get?_update_other _ _ (Ne.symm hb)).trans e)
  have st3 := st2.but hne (fun T f q => (noheld _ hz1 T f q).elim) k3
  have hz3 := k3 _ _ (Ne.symm (fresh hz)) hz1
  have hTO3 := k3 _ _ (Ne.symm (fresh hTO)) (k1 _ _ (Ne.symm (fresh hTO)) (Heap.get?_push_of_some _ hTO))
  obtain ⟨c3, e3⟩ : ∃ c, ((g1.update s.heap.objs.size (Obj.mapSeq (·.push Value.none))).update s.heap.objs.size (Obj.mapSeq (·.pop))).get? s.heap.objs.size = some { cls := .type "list", dict := none, data := .seq (([] : List Addr).map Value.ref).toArray c, slots := #[] } := by
    exact ⟨_, hS3⟩
  refine wpAny_pure ⟨plainId_quiet F.plain_extend_loop _, zip_loop (n0 := s.heap.objs.size) (by simpa using hh) D hne .none hn _ 0 _ [] _ rfl (Nat.zero_le _) rfl st3 (fun T f q => (noheld _ hz3 T f q).elim) (Heap.lt_size hTO3) e3 ⟨List.nodup_nil, fun j T e => by simp at e⟩ (fun T hT => nomatch hT) (Nat.le_of_lt (Heap.lt_size hS3)) fun h' c' Ts' hk' hS' hl' hp' hb' => ?_⟩
  refine ⟨rfl, hQ h' c' Ts' (fun b o hb e => ?_) hS' hl' hp' hb'⟩
  have hbS : b ≠ s.heap.objs.size := (fresh e).symm
  exact hk' b o (fun x => by simp only [List.mem_cons, List.not_mem_nil, or_false] at x hb; rcases x with x | x | x | x | x <;> simp_all) (k3 b o hbS (k1 b o hbS (Heap.get?_push_of_some _ e)))
end
end UZ

/-! USnd15: isinstance of built-in classes, list(zip(a, b)), sorted(set(a)). -/
namespace U
open PySem PySem.Spec PyProof.Rows L2
section
variable {K : PySem.W.Frag} {X : Cx} {a b e : Expr} {p0 p1 pos : Pos}
/-! ### isinstance -/
def TyN.id : TyN → String
  | .tup => "tuple" | .str => "str" | .int => "int" | .bool => "bool" | .lst => "list"
def TyN.nm : TyN → Str
  | .tup => "tuple" | .str => "str" | .int => "int" | .bool => "bool" | .lst => "list"
theorem ty_boot (t : TyN) : bootBuiltins t.nm = some (.type t.id) := by cases t <;> decide +kernel
theorem ty_nn (t : TyN) : t.nm ≠ "__name__" := by cases t <;> decide +kernel
theorem ty_db (t : TyN) : (t.nm == ("__debug__" : Str)) = false := by cases t <;> decide +kernel
def tyOfD : D → String
  | .non => "NoneType" | .bl _ => "bool" | .int _ => "int" | .str _ => "str" | .tup _ => "tuple" | _ => "list"
theorem isi_ty {t : TyN} {d : D} {r : Bool} (h : isiD t d = some r) : PySem.W.kitOne K (.type (tyOfD d)) (.type t.id) = some r := by
  cases d with
  | non => cases h; cases t <;> exact kit_ty (by dsimp only [tyOfD, TyN.id]; decide +kernel)
  | bl _ => cases h; cases t <;> exact kit_ty (by dsimp only [tyOfD, TyN.id]; decide +kernel)
  | int _ => cases h; cases t <;> exact kit_ty (by dsimp only [tyOfD, TyN.id]; decide +kernel)
  | str _ => cases h; cases t <;> exact kit_ty (by dsimp only [tyOfD, TyN.id]; decide +kernel)
  | tup _ => cases h; cases t <;> exact kit_ty (by dsimp only [tyOfD, TyN.id]; decide +kernel)
  | lst _ => cases h; cases t <;> exact kit_ty (by dsimp only [tyOfD, TyN.id]; decide +kernel)
  | dic _ => cases h
  | ref _ => cases h
  | rol _ => cases h
theorem isi_tyx {t : TyN} {d : D} {r : Bool} {w : W} {S : St} {H : Hp} {v : V} (h : isiD t d = some r) (hr : Rel K w S H) (q : RTop K w H d v) : TyX K H v (.type (tyOfD d)) := by
  cases d with
  | non => cases (show v = .non from q); exact .base .non
  | bl x => cases (show v = .bl x from q); exact .base (.bl x)
  | int x => cases (show v = .int x from q); exact .base (.int x)
  | str x => cases (show v = .str x from q); exact .base (.str x)
  | tup ds =>
    obtain ⟨p, vs, rfl, ht, _⟩ := q
    rcases ht with (h1 | ⟨o, h1⟩) | ⟨o, its, n, h1, h2, _⟩
    · exact .base (.tup (hr.sub _ _ h1))
    · exact .fTuple (hr.sub _ _ h1)
    · exact .kTuple h1 h2
  | lst ds =>
    obtain ⟨p, vs, rfl, ht, _⟩ := q
    exact .base (.lst ht)
  | dic _ => cases h
  | ref _ => cases h
  | rol _ => cases h
def isiF (t : TyN) (fa : Env → M RV) : Env → M RV := fun ρ => M.bind (fa ρ) fun x => fun S => match view S x with
  | some d => match isiD t d with
    | some b => .ok (.d (.bl b)) S
    | none => .bad
  | none => .bad
theorem se_isi {t : TyN} {fa : Env → M RV} (hK : X.K = K) (hg : Gl X "isinstance") (hm : X.mg "isinstance" = none) (hg2 : Gl X t.nm) (hm2 : X.mg t.nm = none) (ha : PE X a (tE K fa)) (ho : okHead a = true) :
    PE X (.Call (.Name "isinstance" p0) [a, .Name t.nm p1] [] pos) (tE K (isiF t fa)) := by
  subst hK
  have hb : PE X (.Name t.nm p1) (tC (.ty t.id)) := pe_bltn hg2 hm2 (ty_boot t) rfl (ty_nn t) (ty_db t)
  refine PE.weak (pe_callB call_isi hg hm PyProof.Rows.boot_isinstance (pa_cons ha (pa_cons hb pa_nil) (star_cons ho)) (by decide +kernel) (by decide +kernel) (star_cons ho) rfl) fun σ H Q h => ?_
  obtain ⟨w, ρ, S, hr, sl, p⟩ := h
  unfold isiF at p
  obtain ⟨x, S1, ex, p⟩ := p.bind
  split at p
  · rename_i d vd
    split at p
    · rename_i r hi
      refine one hr sl ex fun w1 H1 v l r1 q => ?_
      exact ⟨v, .ty t.id, .type (tyOfD d), .type t.id, r, rfl, .ty _, isi_tyx hi r1 (r1.view X.K q vd), isi_ty hi, p w1 H1 _ l r1 rfl⟩
    · exact p.elim
  · exact p.elim
/-! ### sorted(set(..)) -/
theorem setI_mem : ∀ (l : List Int) (z : Int), z ∈ setI l ↔ z ∈ l
  | [], z => by simp [setI]
  | x :: l, z => by
    unfold setI
    split
    · rename_i h
      rw [setI_mem l z, List.mem_cons]
      rw [setI_mem l x] at h
      exact ⟨.inr, fun q => q.elim (fun q => q ▸ h) id⟩
    · rw [(insI_perm x (setI l)).mem_iff, List.mem_cons, List.mem_cons, setI_mem l z]
theorem setI_asc : ∀ l : List Int, (setI l).Pairwise (· < ·)
  | [] => .nil
  | x :: l => by
    have ih := setI_asc l
    unfold setI
    split
    · exact ih
    · rename_i h
      have hs := insI_sorted x (ih.imp fun h => Int.le_of_lt h)
      have hn : (insI x (setI l)).Nodup := (insI_perm x (setI l)).nodup_iff.mpr (List.nodup_cons.mpr ⟨h, ih.imp fun h => Int.ne_of_lt h⟩)
      exact (List.Pairwise.and hs hn).imp fun h => by omega
theorem asc_eq {l m : List Int} (hl : l.Pairwise (· < ·)) (hm : m.Pairwise (· < ·)) (h : ∀ z, z ∈ l ↔ z ∈ m) : l = m :=
  ((List.perm_ext_iff_of_nodup (hl.imp fun h => Int.ne_of_lt h) (hm.imp fun h => Int.ne_of_lt h)).mpr h).eq_of_pairwise (fun a b _ _ h1 h2 => by omega) hl hm
theorem sset_c {x r : RV} (h : ssetV x = some r) : ∃ ds ns, x = .d (.tup ds) ∧ intsD ds = some ns ∧ ns.length < 64 ∧ r = .new (.lst ((setI ns).map .int)) := by
  unfold ssetV at h
  split at h
  · rename_i ds
    split at h
    · rename_i ns hi
      split at h
      · rename_i hn
        cases h
        exact ⟨ds, ns, rfl, hi, of_decide_eq_true hn, rfl⟩
      · cases h
    · cases h
  · cases h
theorem lzip_c {x y r : RV} (h : lzipV x y = some r) : ∃ ds es, x = .d (.tup ds) ∧ y = .d (.tup es) ∧ min ds.length es.length ≤ sizeLine ∧ r = .new (.lst (zipT ds es)) := by
  unfold lzipV at h
  split at h
  · rename_i ds es
    split at h
    · rename_i hz
      cases h
      exact ⟨ds, es, rfl, rfl, sz_le hz, rfl⟩
    · cases h
  · cases h
theorem Post.opt {w : W} {Q : VK} {o : Option RV} {S : St} (h : Post K w Q (M.opt o S)) : ∃ r, o = some r ∧ Post K w Q (.ok r S) := by
  cases o with
  | none => exact False.elim h
  | some r => exact ⟨r, rfl, h⟩
def ssetF (fa : Env → M RV) : Env → M RV := fun ρ => M.bind (fa ρ) fun x => M.opt (ssetV x)
theorem se_sset {fa : Env → M RV} {p2 q0 : Pos} (hK : X.K = K) (hc : X.calm = true) (hg : Gl X "sorted") (hm : X.mg "sorted" = none) (hg2 : Gl X "set") (hm2 : X.mg "set" = none) (ha : PE X e (tE K fa)) (ho : okHead e = true) :
    PE X (.Call (.Name "sorted" p0) [.Call (.Name "set" p2) [e] [] q0] [] pos) (tE K (ssetF fa)) := by
  subst hK
  refine ⟨fun pins s σ H Q I h => ?_⟩
  obtain ⟨w, ρ, S, hr, sl, p⟩ := h
  unfold ssetF at p
  obtain ⟨x, S1, ex, p⟩ := p.bind
  obtain ⟨rr, err, p⟩ := p.opt
  obtain ⟨ds, ns, rfl, hi, hn, rfl⟩ := sset_c err
  refine Call_ (ld_blt I hg hm PyProof.Rows.boot_sorted ?_)
  refine PyProof.Rows.callWith_builtin1 (PyProof.Rows.args_cons ?_ rfl) rfl rfl
  refine Call_ (ld_blt I hg2 hm2 PyProof.Rows.boot_set ?_)
  refine PyProof.Rows.callWith_type1 (PyProof.Rows.args_cons (thn (ha.run pins s σ H (fun v H1 => ∃ a, v = .ref a ∧ SqT X.K H1 a (ns.map V.int) ∧ ∀ p, H1 p = none → ∀ q, q ≠ p → H1 q = none → ∀ o, Q (.ref q) (upd (upd H1 p o) q (.lst ((setI ns).map V.int)))) I (one hr sl ex fun w1 H1 v l r q => ?_)) fun v s1 ⟨x, H1, I1, r1, a, ea, ha1, q1⟩ => PyProof.Rows.args_nil ?_) (star_cons ho)) (star_cons ho) rfl
  · obtain ⟨a, vs, rfl, ht, hd⟩ := q
    refine ⟨a, rfl, r.sub.sqT X.K (by rw [← RDs.ints X.K hi hd]; exact ht), fun p1 hp q hq hq2 o => ?_⟩
    have r2 := r.new X.K (o := o) hp
    have hq3 : upd H1 p1 o q = none := by rw [upd_ne hq]; exact hq2
    exact r2.newL (rds_ints X.K (setI ns)) (fun w' H' v l' => p w' H' v (l.trans l')) q hq3
  · subst ea
    cases r1
    obtain ⟨its, rv, pl, hz⟩ := I1.tuple ha1
    refine call_set_tupI ns (I1.ok.hd hc) (show s1.heap.IsTuple a its.toArray from pl) (by simpa using rv.ints) (by unfold scanBound; omega) fun h' tk c R hcl hk => ?_
    refine PyProof.Rows.args_nil ?_
    have hf := I1.hok.fresh (Nat.le_refl _)
    have I2 : Inv X pins σ (upd H1 s1.heap.objs.size (SetO X.w s1.heap.objs.size (fun j => decide (j ∈ ns)) c)) { s1 with heap := h', toks := tk } := I1.laid hk (Nat.le_refl _) (setO_new R)
    refine cr_sortedSet hc pins _ σ _ [.ref s1.heap.objs.size] [.ref s1.heap.objs.size] Q I2 (.cons rfl .nil) ⟨s1.heap.objs.size, _, c, rfl, upd_same, by omega, fun ms q hm1 hm2 _ hq => ?_⟩
    have hqne : q ≠ s1.heap.objs.size := fun z => by rw [z, upd_same] at hq; cases hq
    have e : ms = setI ns := asc_eq hm1 (setI_asc ns) fun z => by rw [hm2 z, setI_mem]; simp
    rw [e]
    exact q1 _ hf q hqne (by rw [upd_ne hqne] at hq; exact hq) _
/-! ### list(zip(..)) -/
def lay (H : Hp) : List Addr → List V → List V → Hp
  | T :: Ts, x :: vs, y :: us => lay (upd H T (.tup [x, y])) Ts vs us
  | _, _, _ => H
theorem lay_ne : ∀ (Ts : List Addr) (vs us : List V) (H : Hp) (c : Addr), c ∉ Ts → lay H Ts vs us c = H c
  | [], _, _, _, _, _ => by unfold lay; rfl
  | T :: Ts, [], _, _, _, _ => by unfold lay; rfl
  | T :: Ts, _ :: _, [], _, _, _ => by unfold lay; rfl
  | T :: Ts, x :: vs, y :: us, H, c, h => by
    rw [List.mem_cons, not_or] at h
    unfold lay
    rw [lay_ne Ts vs us _ c h.2, upd_ne h.1]
theorem lay_rel {S : St} : ∀ (Ts : List Addr) (ds es : List D) (vs us : List V) (w : W) (H : Hp), Rel K w S H → RDs K w.F w.gl ds vs → RDs K w.F w.gl es us → Ts.length = min ds.length es.length → (∀ T ∈ Ts, H T = none) → Ts.Nodup →
    ∃ w', w.le w' ∧ Rel K w' S (lay H Ts vs us) ∧ RDs K w'.F w'.gl (zipT ds es) (Ts.map .ref)
  | [], ds, es, vs, us, w, H, hr, hd, he, hl, _, _ => by
    refine ⟨w, .refl w, by unfold lay; exact hr, ?_⟩
    have : zipT ds es = [] := by
      cases ds with
      | nil => rfl
      | cons d ds =>
        cases es with
        | nil => rfl
        | cons e es => simp at hl
    rw [this]
    rfl
  | T :: Ts, [], es, vs, us, w, H, hr, hd, he, hl, _, _ => by simp at hl
  | T :: Ts, d :: ds, [], vs, us, w, H, hr, hd, he, hl, _, _ => by simp at hl
  | T :: Ts, d :: ds, e :: es, _, _, w, H, hr, ⟨x, vs, rfl, qx, hd⟩, ⟨y, us, rfl, qy, he⟩, hl, hn, nd => by
    have hT := hn T List.mem_cons_self
    rw [List.nodup_cons] at nd
    obtain ⟨r2, l2⟩ := hr.newF K (o := .tup [x, y]) hT
    obtain ⟨w', l3, r3, q3⟩ := lay_rel Ts ds es vs us _ _ r2 (RDs.mono K l2.F l2.gl ds hd) (RDs.mono K l2.F l2.gl es he) (by simp at hl; omega) (fun T' h' => by rw [upd_ne (fun z => nd.1 (by rw [← z]; exact h'))]; exact hn T' (List.mem_cons_of_mem _ h')) nd.2
    refine ⟨w', l2.trans l3, r3, .ref T, _, rfl, ⟨T, [x, y], rfl, .inl (.inl (l3.F _ _ upd_same)), x, [y], rfl, RD.mono K (l2.F.trans l3.F) (l2.gl.trans l3.gl) d qx, y, [], rfl, RD.mono K (l2.F.trans l3.F) (l2.gl.trans l3.gl) e qy, rfl⟩, q3⟩
def PairL (h : Heap) : List Addr → List V → List V → Prop
  | [], _, _ => True
  | T :: Ts, x :: vs, y :: us => (∃ u u', RelV x u ∧ RelV y u' ∧ IsPair h T u u') ∧ PairL h Ts vs us
  | _ :: _, _, _ => False
theorem pairL_of {h : Heap} : ∀ (Ts : List Addr) {vs us : List V} {its its2 : List Value}, Vals vs its → Vals us its2 → Ts.length = min vs.length us.length → (∀ (j : Nat) (T : Addr), Ts[j]? = some T → ∃ x y, its[j]? = some x ∧ its2[j]? = some y ∧ IsPair h T x y) → PairL h Ts vs us
  | [], _, _, _, _, _, _, _, _ => trivial
  | T :: Ts, _, _, _, _, .nil, _, hl, _ => by simp at hl
  | T :: Ts, _, _, _, _, .cons _ _, .nil, hl, _ => by simp at hl
  | T :: Ts, _, _, _, _, .cons r1 t1, .cons r2 t2, hl, hp => by
    obtain ⟨x, y, e1, e2, e3⟩ := hp 0 T rfl
    simp at e1 e2
    subst e1 e2
    exact ⟨⟨_, _, r1, r2, e3⟩, pairL_of Ts t1 t2 (by simp at hl; omega) fun j T' h' => hp (j + 1) T' (by simpa using h')⟩
theorem un_more {fs : List Addr} {H H1 : Hp} {h h' : Heap} {a : Addr} {o : HO} (u : Un fs [] H H1 h h') (ha : h.objs.size ≤ a) (hn : H1 a = none) : Un fs [] H (upd H1 a o) h h' := by
  refine ⟨u.keep, u.slot, fun b x e n hx => ?_, u.there, fun b xs e => ?_, fun b x xs e => ?_, fun b ps e => ?_⟩
  · rw [upd_ne (Nat.ne_of_lt (Nat.lt_of_lt_of_le (Heap.lt_size e) ha))]; exact u.free b x e n hx
  · have := u.tups b xs e; rw [upd_ne (ne_of_none this hn)]; exact this
  · have := u.frzs b x xs e; rw [upd_ne (ne_of_none this hn)]; exact this
  · obtain ⟨m, e'⟩ := u.tbls b ps e
    exact ⟨m, by rw [upd_ne (ne_of_none e' hn)]; exact e'⟩
theorem hok_more {P : Program} {w : World} {H1 : Hp} {h' : Heap} {a : Addr} {o : HO} (k : HOk P w H1 h') (hn : H1 a = none) (new : ObjOk P w (upd H1 a o) h' a o) : HOk P w (upd H1 a o) h' := fun b u e => by
  by_cases hb : b = a
  · subst hb; rw [upd_same] at e; cases e; exact new
  · rw [upd_ne hb] at e
    exact (k b u e).stay (fun c v _ q => q) (fun c q => by rw [upd_ne (ne_of_none q hn)]; exact q) fun c xs q => by rw [upd_ne (ne_of_none q hn)]; exact q
theorem lay_ok {P : Program} {w : World} {fs : List Addr} {H : Hp} {h h' : Heap} : ∀ (Ts : List Addr) (vs us : List V) (H1 : Hp), Un fs [] H H1 h h' → HOk P w H1 h' → (∀ T ∈ Ts, h.objs.size ≤ T ∧ H1 T = none) → Ts.Nodup → PairL h' Ts vs us → Un fs [] H (lay H1 Ts vs us) h h' ∧ HOk P w (lay H1 Ts vs us) h'
  | [], _, _, H1, u, k, _, _, _ => by unfold lay; exact ⟨u, k⟩
  | T :: Ts, [], _, H1, u, k, _, _, hp => hp.elim
  | T :: Ts, _ :: _, [], H1, u, k, _, _, hp => hp.elim
  | T :: Ts, x :: vs, y :: us, H1, u, k, hn, nd, ⟨⟨a, b, ra, rb, e⟩, hp⟩ => by
    obtain ⟨h1, h2⟩ := hn T List.mem_cons_self
    rw [List.nodup_cons] at nd
    unfold lay
    exact lay_ok Ts vs us _ (un_more u h1 h2) (hok_more k h2 ⟨by show 2 ≤ sizeLine; decide, [a, b], .cons ra (.cons rb .nil), ⟨_, e, rfl, _, rfl⟩⟩) (fun T' h' => by
      rw [upd_ne (fun z => nd.1 (by rw [← z]; exact h'))]
      exact hn T' (List.mem_cons_of_mem _ h')) nd.2 hp
def lzipF (fa fb : Env → M RV) : Env → M RV := fun ρ => M.bind (fa ρ) fun x => M.bind (fb ρ) fun y => M.opt (lzipV x y)
theorem se_lzip {fa fb : Env → M RV} {p2 q0 : Pos} (hK : X.K = K) (hc : X.calm = true) (hg : Gl X "list") (hm : X.mg "list" = none) (hg2 : Gl X "zip") (hm2 : X.mg "zip" = none) (ha : PE X a (tE K fa)) (hb : PE X b (tE K fb)) (ho : okHead a = true) (ho2 : okHead b = true) :
    PE X (.Call (.Name "list" p0) [.Call (.Name "zip" p2) [a, b] [] q0] [] pos) (tE K (lzipF fa fb)) := by
  subst hK
  refine ⟨fun pins s σ H Q I h => ?_⟩
  obtain ⟨w, ρ, S, hr, sl, p⟩ := h
  unfold lzipF at p
  obtain ⟨x, S1, ex, p⟩ := p.bind
  obtain ⟨y, S2, ey, p⟩ := p.bind
  obtain ⟨rr, err, p⟩ := p.opt
  obtain ⟨ds, es, rfl, rfl, hn, rfl⟩ := lzip_c err
  refine Call_ (ld_blt I hg hm PyProof.Rows.boot_list ?_)
  refine PyProof.Rows.callWith_type1 (PyProof.Rows.args_cons ?_ rfl) rfl rfl
  have hpa : PA X [a, b] (tCons (tE X.K fa) (tCons (tE X.K fb) tNil)) := pa_cons ha (pa_cons hb pa_nil (star_cons ho2)) (star_cons ho)
  refine Call_ (ld_blt I hg2 hm2 PyProof.Rows.boot_zip (PyProof.Rows.callWith_type1 (thn (hpa.run q0 pins s σ H (fun xs H1 => ∃ a1 a2 vs us, xs = [.ref a1, .ref a2] ∧ SqT X.K H1 a1 vs ∧ SqT X.K H1 a2 us ∧ min vs.length us.length ≤ sizeLine ∧
      ∀ (Ts : List Addr) (q : Addr), Ts.length = min vs.length us.length → (∀ T ∈ Ts, H1 T = none) → Ts.Nodup → H1 q = none → q ∉ Ts → Q (.ref q) (upd (lay H1 Ts vs us) q (.lst (Ts.map .ref)))) I (one hr sl ex fun w1 H1 v1 l1 r1 q1 => one r1 (sl.mono X.K l1) ey fun w2 H2 v2 l2 r2 q2 => ?_)) fun us s1 ⟨xs, H1, I1, rv, q⟩ => ?_) (star_cons ho) (noStar (by rw [List.all_cons, ho2]; rfl))))
  · obtain ⟨a1, vs, rfl, t1, d1⟩ := q1
    obtain ⟨a2, us, rfl, t2, d2⟩ := q2
    have d1 := RDs.mono X.K l2.F l2.gl ds d1
    have lv := RDs.len X.K d1
    have lu := RDs.len X.K d2
    refine ⟨a1, a2, vs, us, rfl, (l2.F.trans r2.sub).sqT X.K t1, r2.sub.sqT X.K t2, by rw [lv, lu]; exact hn, fun Ts q hl hT nd hq hqT => ?_⟩
    rw [lv, lu] at hl
    obtain ⟨w3, l3, r3, d3⟩ := lay_rel Ts ds es vs us w2 H2 r2 d1 d2 hl hT nd
    exact r3.newL d3 (fun w' H' v l' => p w' H' v (((l1.trans l2).trans l3).trans l')) q (by rw [lay_ne Ts vs us H2 q hqT]; exact hq)
  · obtain ⟨a1, a2, vs, us', rfl, t1, t2, hn', q⟩ := q
    cases rv with
    | cons ra rr =>
    cases rr with
    | cons rb rr =>
    cases rr
    cases ra
    cases rb
    obtain ⟨its, rv1, pl1, _⟩ := I1.tuple t1
    obtain ⟨its2, rv2, pl2, _⟩ := I1.tuple t2
    obtain ⟨o1, ho1, _⟩ := id pl1
    obtain ⟨o2, ho2, _⟩ := id pl2
    have lv := rv1.length
    have lu := rv2.length
    refine RZ.call_zipT (show s1.heap.IsTuple a1 its.toArray from pl1) (show s1.heap.IsTuple a2 its2.toArray from pl2) fun h' hz hTI hTO g1 g2 hsz hk => ?_
    refine PyProof.Rows.args_nil ?_
    refine UZ.call_list_zip (s := { s1 with heap := h' }) (I1.ok.hd hc) (PySem.W.ktu_apart s1.heap.objs.size a1 a2 (Heap.lt_size ho1) (Heap.lt_size ho2)) hz hTI ⟨_, _, hTO⟩ g1 g2 ((show s1.heap.IsTuple a1 its.toArray from pl1).at fun o e => hk _ o e) ((show s1.heap.IsTuple a2 its2.toArray from pl2).at fun o e => hk _ o e) (by rw [List.size_toArray, List.size_toArray, ← lv, ← lu]; exact hn') fun h'' c' Ts hk' hL hl hp hge => ?_
    rw [List.size_toArray, List.size_toArray, ← lv, ← lu] at hl
    have hsz : h'.objs.size = s1.heap.objs.size + 5 := hsz
    have keep : ∀ b o, s1.heap.get? b = some o → h''.get? b = some o := fun b o e => by
      have hlt := Heap.lt_size e
      refine hk' b o (fun hm => ?_) (hk b o e)
      have e' : b = s1.heap.objs.size + 4 ∨ b = s1.heap.objs.size + 3 ∨ b = s1.heap.objs.size ∨ b = s1.heap.objs.size + 1 := by simpa using hm
      rcases e' with e' | e' | e' | e' <;> (rw [e'] at hlt; exact absurd hlt (Nat.not_lt.mpr (by first | exact Nat.le_add_right _ _ | exact Nat.le_refl _)))
    have hpl : PairL h'' Ts vs us' := pairL_of Ts rv1 rv2 hl fun j T e => by
      obtain ⟨_, x, y, e1, e2, e3⟩ := hp.2 j T e
      exact ⟨x, y, by simpa using e1, by simpa using e2, e3⟩
    have hTn : ∀ T ∈ Ts, s1.heap.objs.size ≤ T ∧ H1 T = none := fun T hT => by
      have : h'.objs.size ≤ T := hge T hT
      exact ⟨by omega, I1.hok.fresh (by omega)⟩
    obtain ⟨u1, k1⟩ := lay_ok Ts vs us' H1 (Un.kept (fs := X.fs) (ex := []) keep) (I1.hok.kept keep) hTn hp.1 hpl
    have hqT : h'.objs.size ∉ Ts := fun hT => by
      obtain ⟨j, hj⟩ := List.mem_iff_getElem?.mp hT
      have := (hp.2 j _ hj).1
      simp at this
    have hq1 : H1 h'.objs.size = none := I1.hok.fresh (by omega)
    have hq2 : lay H1 Ts vs us' h'.objs.size = none := by rw [lay_ne Ts vs us' H1 _ hqT]; exact hq1
    have new : ObjOk X.prog X.w (upd (lay H1 Ts vs us') h'.objs.size (.lst (Ts.map .ref))) h'' h'.objs.size (.lst (Ts.map .ref)) :=
      ⟨by rw [List.length_map, hl]; exact hn', Ts.map Value.ref, c', by
        clear hL hl hp hge hpl hTn u1 k1 hqT hq2
        induction Ts with
        | nil => exact .nil
        | cons T Ts ih => exact .cons rfl ih, hL⟩
    have I2 : Inv X pins σ (upd (lay H1 Ts vs us') h'.objs.size (.lst (Ts.map .ref))) { s1 with heap := h'' } := I1.un (t' := s1.toks) (un_more u1 (by omega) hq2) (hok_more k1 hq2 new)
    exact ⟨.ref h'.objs.size, _, I2, rfl, q Ts _ hl (fun T hT => (hTn T hT).2) hp.1 hq1 hqT⟩
end
end U

/-! USnd16: raise of an own class, try round a call, except suites that are constants. -/
namespace U
open PySem PySem.Spec PyProof.Rows L2
/-! ### the classes -/
def clsNm : Nat → Str
  | 0 => "UntoldError" | 1 => "BadSetting" | 2 => "BadProgram" | 3 => "BadEntry" | 4 => "BadState" | _ => "TooGreat"
def clsIx (x : Str) : Option Nat := if x = "UntoldError" then some 0 else if x = "BadSetting" then some 1 else if x = "BadProgram" then some 2 else if x = "BadEntry" then some 3 else if x = "BadState" then some 4 else if x = "TooGreat" then some 5 else none
def subC (i j : Nat) : Bool := decide (i = j) || decide (j = 0)
def bmV : List Value := [.type "ValueError", .type "Exception", .type "BaseException", .type "object"]
/-- a class of exceptions of the head -/
structure ClsF (K : PySem.W.Frag) (mg : Str → Option Value) (x : Str) (C : Addr) : Prop where
  gC : mg x = some (.ref C)
  kC : PySem.W.keepIn K (.ref C) = true
  bP : PySem.W.subIn K (.ref C) (.type "BaseException") = some true
  tP : PySem.W.typeIn K (.ref C) = some (.type "type")
  ec : ExcC K C
  ve : PySem.W.kitOne K (.ref C) (.type "ValueError") = some true
section
variable {K : PySem.W.Frag} {X : Cx} {pos : Pos} {cl : Nat → Addr}
/-- X() -/
theorem pmk_own0 {C : Addr} {bmB : List Value} {B newId initId : String} {x : Str} {p pos : Pos} (F : ExcBaseFacts B newId initId bmB) (q : PySem.W.excIn X.K C bmB newId = true) (gC : X.mg x = some (.ref C)) (kC : PySem.W.keepIn X.K (.ref C) = true) (r : Raises X (.ref C)) (hg : Gl X x)
    (hdb : (x == ("__debug__" : Str)) = false) : PMk X (.Call (.Name x p) [] [] pos) (fun _ H Q => Q (.ref C) none H) := by
  intro pins s σ H Q I h
  refine wpAny_Call_Name_kw (ld_glob I hg gC ?_ hdb)
  refine PySem.W.callWith_K0 I.kIn kC ?_
  show wpAny _ _ (call (.ref C) []) _ _ _
  obtain ⟨bm, N, nm, qn, bs, hdct, sn, sub, ab, col, dd, k0, k1, k2, k3, k5, mN, hC, hN, hni, T⟩ := exc_obj I.kIn q
  refine wpAny_call_exc_subT F T hC hN hni (fun h' e hm => ?_) (by show 0 ≤ sizeLine; exact Nat.zero_le _)
  exact mk_of I hm r h (I.hok.gone hm.new)
theorem ss_raise {E : XK} {x : Str} {c : Nat} {p p2 : Pos} (hc : X.calm = true) (tk : Takes X (fun cls d _ H => E cls d H)) (f : ClsF X.K X.mg x (cl c)) (q : PySem.W.excIn X.K (cl c) bmV "ValueError.__new__" = true) (hg : Gl X x) (hdb : (x == ("__debug__" : Str)) = false) :
    PS X (.Raise (some (.Call (.Name x p) [] [] p2)) none pos) (tS X.K (ZE cl E) fun _ => fun S => .exc ⟨c, []⟩ S) := by
  refine PS.weak (ps_raise hc tk (pmk_own0 PySem.F.excBase_ValueError q f.gC f.kC (raises_own f.bP f.tP) hg hdb)) fun D σ H h => ?_
  obtain ⟨w, ρ, S, hr, sl, p⟩ := h
  exact p w H (.refl w) hr
/-! ### a suite that is a constant -/
def KnOk (k : List (Nat × V)) (σ : L2.St) : Prop := ∀ p ∈ k, σ[p.1]? = some (some p.2)
def tKc (k : List (Nat × V)) (v : V) : TE := fun σ H Q => KnOk k σ ∧ Q v H
def tKt (k : List (Nat × V)) (b : Bool) : TT := fun σ H Q => KnOk k σ ∧ Q b H
def dv : D → V
  | .bl b => .bl b | .int i => .int i | .str s => .str s | _ => .non
def scB : D → Bool
  | .bl _ => true | .int _ => true | .str _ => true | .non => true | _ => false
def sEnd : SR → VK → Hp → Prop
  | .d d, Q, H => Q (dv d) H
  | .l ds, Q, H => ∀ p, H p = none → Q (.ref p) (upd H p (.lst (ds.map dv)))
def tKr (k : List (Nat × V)) (r : SR) : TS := fun D σ H => KnOk k σ ∧ sEnd r D.rt H
variable {k : List (Nat × V)} {e : Expr}
theorem PE.kc {v : V} (h : PE X e (tC v)) : PE X e (tKc k v) := PE.weak h fun σ H Q h => h.2
theorem PT.kc {b : Bool} (h : PE X e (tKc k (.bl b))) (ht : okTest e = true) : PT X e (tKt k b) := by
  refine ⟨fun pins s σ H Q I hq => ?_⟩
  have he : ∀ whole, PySem.isTrue e X.env whole = (do let v ← whole; standAt e.pos; holding [v] (truthy v)) := by
    intro whole
    unfold PySem.isTrue
    split <;> first | rfl | (simp [okTest] at ht)
  exact (pt_val h he).run pins s σ H Q I ⟨hq.1, b, rfl, hq.2⟩
/-! ### try -/
def tryS (rt : Bool) (C : Nat → List SV → M RV) (f : Nat) (fe : Env → M (List SV)) (c : Nat) (r : SR) : Env → M Flow := fun ρ => fun S => match M.bindT false (fe ρ) (fun vs => C f vs) S with
    | .ok v S1 => .ok (if rt = true then .ret v else .next ρ) S1
    | .exc x S1 => if x.C = c then .ok (.ret r.rv) S1 else .bad
    | .bad => .bad
def bodySt (rt : Bool) (e : Expr) (p : Pos) : Stmt := if rt = true then .Return (some e) p else .Expr e p
def bodyT (rt : Bool) (t : TE) : TS := fun D σ H => t σ H fun v H1 => if rt = true then D.rt v H1 else D.nx σ H1
theorem body_st {rt : Bool} {t : TE} {p : Pos} (he : PE X e t) (hs : swapsWith e none p.line X.env = pure false) : PSs X [bodySt rt e p] (bodyT rt t) := by
  cases rt with
  | true => exact pss_one (ps_ret he)
  | false => exact pss_one (ps_expr he hs)
theorem dv_rd {F : Hp} {g : List Addr} : ∀ {d : D}, scB d = true → RD K F g d (dv d)
  | .non, _ => rfl
  | .bl _, _ => rfl
  | .int _, _ => rfl
  | .str _, _ => rfl
theorem dv_rds {F : Hp} {g : List Addr} : ∀ {ds : List D}, ds.all scB = true → RDs K F g ds (ds.map dv)
  | [], _ => rfl
  | d :: ds, h => by
    rw [List.all_cons, Bool.and_eq_true] at h
    exact ⟨_, _, rfl, dv_rd h.1, dv_rds h.2⟩
def srB : SR → Bool
  | .d x => scB x
  | .l xs => xs.all scB
theorem sEnd_of {Z : Exc → Hp → Prop} {w w' : W} {D : Ends} {r : SR} {S1 : St} {H' : Hp} (hb : srB r = true) (p : PostS K Z w D (.ok (.ret r.rv) S1)) (l : w.le w') (r2 : Rel K w' S1 H') : sEnd r D.rt H' := by
  cases r with
  | d x => exact p w' H' (dv x) l r2 (dv_rd hb)
  | l xs => exact r2.newL (dv_rds hb) fun w2 H2 v l2 r3 q => p w2 H2 v (l.trans l2) r3 q
variable {C : Nat → List SV → M RV} {f c : Nat} {fe : Env → M (List SV)} {r : SR} {rt : Bool} {hx : Str} {hv : Value} {Wout : WX} {body : Stmt} {b₀ : Stmt} {suite : List Stmt} {np pos' : Pos} {Z : Exc → Hp → Prop}
theorem try_core {Wx : WX} {D : Ends} {σ : L2.St} {H : Hp} (h : tS X.K Z (tryS rt C f fe c r) D σ H) (hb : srB r = true)
    (hW : ∀ (w w' : W) (ρ : Env) (S1 : St) (H' : Hp), w.le w' → Rel X.K w' S1 H' → RSl X.K w' ρ σ → sEnd r D.rt H' → Wx (.ref (cl c)) none σ H') :
    bodyT rt (tEb X.K true (fun σ e H => Wx (.ref (cl e.C)) none σ H) (callF C f fe)) D σ H := by
  obtain ⟨w, ρ, S, hr, sl, p⟩ := h
  refine ⟨w, ρ, S, hr, sl, ?_⟩
  unfold tryS at p
  unfold callF
  generalize M.bindT false (fe ρ) (fun vs => C f vs) S = res at p ⊢
  cases res with
  | ok v S1 =>
    intro w' H' v' l r2 q
    cases rt with
    | true => exact p w' H' v' l r2 q
    | false => exact p w' σ H' l r2 (sl.mono X.K l)
  | exc x S1 =>
    dsimp only at p
    split at p
    · rename_i hxc
      refine ⟨rfl, fun w' H' l r2 => ?_⟩
      show Wx (.ref (cl x.C)) none σ H'
      rw [hxc]
      exact hW w w' ρ S1 H' l r2 (sl.mono X.K l) (sEnd_of hb p l r2)
    · exact False.elim p
  | bad => exact False.elim p
theorem ss_try0 (hs : X.stack = X.env :: X.outer) (hf : X.env.frame = some X.env.locals) (hN : Names X hx hv) (tk : Takes X Wout) (hb : srB r = true) (hm : PySem.W.exmOne X.K (.ref (cl c)) hv = some true)
    (hcall : ∀ (W : WX) (pn : List (Addr × Obj)) (xe : Value → Shared → Prop), Takes (X.tr pn xe) W → PassesOwn (model X.prog X.w) X.A X.env xe → PSs (X.tr pn xe) [body] (bodyT rt (tEb X.K true (fun σ e H => W (.ref (cl e.C)) none σ H) (callF C f fe))))
    (hsu : ∀ (a : Addr) (oe : Obj) (pn : List (Addr × Obj)), Zc (.ref (cl c)) none oe → (∃ vs, oe.data = .fields vs) → PSs (X.suite a ((a, oe) :: pn)) (b₀ :: suite) (tKr [] r)) :
    PS X (.Try [body] [.ExceptHandler (some (.Name hx np)) none (b₀ :: suite) pos'] [] [] pos) (tS X.K Z (tryS rt C f fe c r)) := by
  refine PS.weak (ps_try_only (ts := fun a cls d => fun D σ H => (cls = .ref (cl c) ∧ d = none) ∧ tKr [] r D σ H) hs hf hN tk hcall fun a oe cls d pn hz hv => ⟨fun pins s σ H D I h => ?_⟩) fun D σ H h => ?_
  · obtain ⟨⟨rfl, rfl⟩, h⟩ := h
    exact (hsu a oe pn hz hv).run pins s σ H D I h
  · exact try_core h hb fun w w' ρ S1 H' l r2 sl he => ⟨true, hm, fun _ a ha => ⟨⟨rfl, rfl⟩, And.intro (fun p hp => nomatch hp) he⟩, fun z => nomatch z⟩
theorem ss_try1 {i : Nat} {n : Str} (hs : X.stack = X.env :: X.outer) (hf : X.env.frame = some X.env.locals) (hnd : X.N.Nodup) (hi : X.N[i]? = some n) (hln : X.env.kindOf n = some .local) (hN : Names X hx hv) (tk : Takes X Wout) (hb : srB r = true) (hm : PySem.W.exmOne X.K (.ref (cl c)) hv = some true)
    (hcall : ∀ (W : WX) (pn : List (Addr × Obj)) (xe : Value → Shared → Prop), Takes (X.tr pn xe) W → PassesOwn (model X.prog X.w) X.A X.env xe → PSs (X.tr pn xe) [body] (bodyT rt (tEb X.K true (fun σ e H => W (.ref (cl e.C)) none σ H) (callF C f fe))))
    (hsu : ∀ (a : Addr) (oe : Obj) (pn : List (Addr × Obj)), Zc (.ref (cl c)) none oe → (∃ vs, oe.data = .fields vs) → PSs (X.suite a ((a, oe) :: pn)) (b₀ :: suite) (tKr [(i, .ref a)] r)) :
    PS X (.Try [body] [.ExceptHandler (some (.Name hx np)) (some n) (b₀ :: suite) pos'] [] [] pos) (tS X.K Z (tryS rt C f fe c r)) := by
  have key := ps_try_as (pos := pos) (pos' := pos') (np := np) (ts := fun a cls d => fun D σ H => (cls = .ref (cl c) ∧ d = none) ∧ tKr [(i, .ref a)] r D σ H) hs hf hnd hi hln hN tk hcall fun a oe cls d pn hz hv => ⟨fun pins s σ H D I h => by
    obtain ⟨⟨rfl, rfl⟩, h⟩ := h
    exact (hsu a oe pn hz hv).run pins s σ H D I h⟩
  refine ⟨fun pins s σ H D I h => key.run pins s σ H D I (try_core h hb fun w w' ρ S1 H' l r2 sl he => ⟨true, hm, fun _ a ha => ⟨⟨rfl, rfl⟩, And.intro (fun p hp => ?_) he⟩, fun z => nomatch z⟩)⟩
  rw [List.mem_singleton.mp hp]
  have hlt : i < σ.length := by rw [I.len]; exact (List.getElem?_eq_some_iff.mp hi).1
  exact List.getElem?_set_self hlt
end
end U

/-! UComp: from the model's syntax to the trees. -/
namespace U
open PySem PySem.Spec PyProof.Rows L2

structure CI where
  N : List Str
  fns : List (Str × Nat)
  kon : List (Str × D)
  mu : List Str
  blt : List Str
  cls : List Str
  hint : Nat
def slotOf : List Str → Str → Option Nat
  | [], _ => none
  | y :: r, x => if y = x then some 0 else (slotOf r x).map (· + 1)
def visB (sc : Scope) (x : Str) : Bool := match sc.names.lookup x with
  | some .local => true
  | some .cell => true
  | some .free => true
  | _ => false
def globB (sc : Scope) (x : Str) : Bool := match sc.names.lookup x with
  | some .globalImplicit => true
  | _ => false
def opOf : Operator → Option BOp
  | .Add => some .add | .Sub => some .sub | .Mult => some .mul | .Mod => some .mod | .FloorDiv => some .fdiv | .Pow => some .pow
  | _ => none
def copOf : CmpOp → Option COp
  | .Eq => some .eq | .NotEq => some .ne | .Lt => some .lt | .LtE => some .le | .Gt => some .gt | .GtE => some .ge | .Is => some .isN | .IsNot => some .notN | .In => some .in_ | .NotIn => some .notIn
def b1Of (x : Str) : Option B1 :=
  if x = "int" then some .int else if x = "len" then some .len else if x = "tuple" then some .tuple else if x = "list" then some .list else if x = "sum" then some .sum else if x = "repr" then some .repr
  else if x = "str" then some .str else if x = "max" then some .max else if x = "min" then some .min else if x = "sorted" then some .sorted else none
def b2Of (x : Str) : Option B1 := if x = "max" then some .max else if x = "min" then some .min else none
def m1Of (x : Str) : Option M1 := if x = "append" then some .append else if x = "extend" then some .extend else if x = "pop" then some .popAt else if x = "join" then some .join else if x = "index" then some .index else none
def isMinus1 : Expr → Bool
  | .UnaryOp .USub (.Constant (.int 1) _ _) _ => true
  | _ => false
/-- a list of expressions -/
def compArgs (f : Expr → Option DE) : List Expr → Option DE
  | [] => some .nil
  | e :: es => if okHead e then (f e).bind fun d => (compArgs f es).map fun r => .cons d r else none
def compPart (f : Expr → Option DE) : Option Expr → Option DE
  | none => some .nil
  | some e => (f e).map fun d => .cons d .nil
def compBool (f : Expr → Option DE) (op : PySem.BoolOp) : List Expr → Option DE
  | [] => none
  | [e] => f e
  | e :: es => (f e).bind fun d => (compBool f op es).map fun r => match op with
    | .And => .and d r
    | .Or => .or d r
/-- a target: its slots -/
def compTg (I : CI) (ok : Str → Bool) : Expr → Option Tg
  | .Name x _ => if ok x then (slotOf I.N x).map .one else none
  | .Tuple es _ _ => (es.mapM fun (e : Expr) => match e with
      | .Name x _ => if ok x then slotOf I.N x else none
      | _ => none).map .many
  | _ => none
def bltOk (I : CI) (sc : Scope) (x : Str) : Bool := I.blt.contains x && globB sc x
def locB (sc : Scope) (x : Str) : Bool := match sc.names.lookup x with
  | some .local => true
  | some .cell => true
  | _ => false
def ownOf (I : CI) : Tg → List (Str × Nat)
  | tg => tg.sl.filterMap fun i => (I.N[i]?).map fun x => (x, i)
def compWalk (I : CI) (f : Expr → Option DE) (sc : Scope) (it : Expr) : Option DE :=
  match it with
  | .Call (.Name x _) [a] [] _ =>
    if x = "range" ∧ bltOk I sc x then (if okHead a then (f a).map fun d => .wk .rng1 d .nil else none)
    else if x = "reversed" ∧ bltOk I sc x then (if okHead a then (f a).map fun d => .wk .rev d .nil else none)
    else (f it).map fun d => .wk .seq d .nil
  | .Call (.Name x _) [a, b] [] _ =>
    if x = "range" ∧ bltOk I sc x then (if okHead a && okHead b then (f a).bind fun d => (f b).map fun e => .wk .rng2 d e else none)
    else (f it).map fun d => .wk .seq d .nil
  | .Call (.Name x _) [a, b, c] [] _ =>
    if x = "range" ∧ bltOk I sc x then (if okHead a && okHead b && isMinus1 c then (f a).bind fun d => (f b).map fun e => .wk .rngD d e else none)
    else (f it).map fun d => .wk .seq d .nil
  | it => (f it).map fun d => .wk .seq d .nil
def noSet : Expr → Bool
  | .Set _ _ _ => false
  | _ => true
/-- range(a, b) as the only argument -/
def rangeArgs (I : CI) (sc : Scope) (x : Str) : List Expr → Option (Expr × Expr)
  | [.Call (.Name y _) [a, b] [] _] => if y = "range" ∧ bltOk I sc y ∧ okHead a ∧ okHead b ∧ (x = "tuple" ∨ x = "list") then some (a, b) else none
  | _ => none
/-- written keys -/
def keyStrs : List (Option Expr) → Option (List Str)
  | [] => some []
  | some (.Constant (.str s) _ _) :: r => (keyStrs r).map (s :: ·)
  | _ => none
/-- len(set(a)) -/
def setArg (I : CI) (sc : Scope) (x : Str) : List Expr → Option Expr
  | [.Call (.Name y _) [a] [] _] => if y = "set" ∧ bltOk I sc y ∧ okHead a ∧ x = "len" then some a else none
  | _ => none
/-- list(zip(a, b)) -/
def zipArgs (I : CI) (sc : Scope) (x : Str) : List Expr → Option (Expr × Expr)
  | [.Call (.Name y _) [a, b] [] _] => if y = "zip" ∧ bltOk I sc y ∧ okHead a ∧ okHead b ∧ x = "list" then some (a, b) else none
  | _ => none
/-- sorted(set(a)) -/
def ssetArg (I : CI) (sc : Scope) (x : Str) : List Expr → Option Expr
  | [.Call (.Name y _) [a] [] _] => if y = "set" ∧ bltOk I sc y ∧ okHead a ∧ x = "sorted" then some a else none
  | _ => none
def tyOf (x : Str) : Option TyN := if x = "tuple" then some .tup else if x = "str" then some .str else if x = "int" then some .int else if x = "bool" then some .bool else if x = "list" then some .lst else none
/-- isinstance(a, T) -/
def isiArgs (I : CI) (sc : Scope) (x : Str) : List Expr → Option (Expr × TyN)
  | [a, .Name t _] => if x = "isinstance" ∧ okHead a ∧ bltOk I sc t then (tyOf t).map fun y => (a, y) else none
  | _ => none
def compE (I : CI) : Nat → Scope → Expr → Option DE
  | 0, _, _ => none
  | n + 1, sc, e => match e with
    | .Name x _ => if x = "__debug__" ∨ x = "__classdict__" then none else if visB sc x then (slotOf I.N x).map .var else if globB sc x then (I.kon.lookup x).map .con else none
    | .Constant (.int i) _ _ => some (.con (.int i))
    | .Constant (.bool b) _ _ => some (.con (.bl b))
    | .Constant .none _ _ => some (.con .non)
    | .Constant (.str s) _ _ => some (.con (.str s))
    | .Tuple es _ _ => (compArgs (compE I n sc) es).map .tup
    | .List es _ => (compArgs (compE I n sc) es).map .lst
    | .BinOp a op b _ => (opOf op).bind fun o => (compE I n sc a).bind fun x => (compE I n sc b).map fun y => .bin o x y
    | .UnaryOp .USub a _ => (compE I n sc a).map .neg
    | .UnaryOp .Not a _ => (compE I n sc a).map .not
    | .BoolOp op (v :: v2 :: vs) _ => compBool (compE I n sc) op (v :: v2 :: vs)
    | .Compare a [op] [b] _ => if behindInMarks op b then none else (copOf op).bind fun o => (compE I n sc a).bind fun x => (compE I n sc b).map fun y => .cmp o x y
    | .Compare a [op, op2] [b, c] _ => if lastMarks [op, op2] [b, c] then none else (copOf op).bind fun o => (copOf op2).bind fun o2 => (compE I n sc a).bind fun x => (compE I n sc b).bind fun y => (compE I n sc c).map fun z => .chain o o2 x y z
    | .IfExp t a b _ => (compE I n sc t).bind fun x => (compE I n sc a).bind fun y => (compE I n sc b).map fun z => .ife x y z
    | .Subscript a (.Slice lo hi none _) _ => (compE I n sc a).bind fun x => (compPart (compE I n sc) lo).bind fun y => (compPart (compE I n sc) hi).map fun z => .sl x y z
    | .Subscript a i _ => if okHead i then (compE I n sc a).bind fun x => (compE I n sc i).map fun y => .ix x y else none
    | .ListComp elt [⟨tg, iter, ifs, 0⟩] scope _ =>
      if okHead iter && noSet iter then
        (compTg I (locB scope) tg).bind fun t => if blkC I.N sc scope (ownOf I t) && decide ((ownOf I t).map (·.2) = t.sl) then
          (compWalk I (compE I n sc) sc iter).bind fun w => (compE I n (relS scope sc) elt).bind fun d =>
            match ifs with
            | [] => some (.lc d t w (.con (.bl true)) t.sl)
            | [c] => (compE I n (relS scope sc) c).map fun c' => .lc d t w c' t.sl
            | _ => none
          else none
      else none
    | .Call (.Name x _) args [] _ =>
      if x = "__debug__" then none else if !globB sc x then none else
      match I.fns.lookup x with
      | some f => if args.isEmpty then none else (compArgs (compE I n sc) args).map fun as => .call f as
      | none => if !I.blt.contains x then none else match rangeArgs I sc x args with
        | some (a, b) => (compE I n sc a).bind fun d => (compE I n sc b).map fun e => .trng (decide (x = "list")) d e
        | none => match setArg I sc x args with
        | some a => (compE I n sc a).map .lens
        | none => match zipArgs I sc x args with
        | some (a, b) => (compE I n sc a).bind fun d => (compE I n sc b).map fun e => .lzip d e
        | none => match ssetArg I sc x args with
        | some a => (compE I n sc a).map .sset
        | none => match isiArgs I sc x args with
        | some (a, t) => (compE I n sc a).map fun d => .isi t d
        | none => match args with
          | [a] => if okHead a then (b1Of x).bind fun b1 => (compE I n sc a).map fun d => .b1 b1 d else none
          | [a, b] => if okHead a && okHead b then (b2Of x).bind fun b1 => (compE I n sc a).bind fun d => (compE I n sc b).map fun e => .b2 b1 d e else none
          | _ => none
    | .Dict keys vals _ => (keyStrs keys).bind fun ks => if decide (keys.length = vals.length) then (compArgs (compE I n sc) vals).map fun as => .dis ks as else none
    | .Call (.Attribute o m apos) [a, b] [] pos => if okHead o && okHead a && okHead b && (apos.endLine == pos.line) && decide (m = "get") then (compE I n sc o).bind fun d => (compE I n sc a).bind fun e => (compE I n sc b).map fun f => .dgt d e f else none
    | .Call (.Attribute o m apos) [a] [] pos => if okHead o && okHead a && (apos.endLine == pos.line) then (m1Of m).bind fun m1 => (compE I n sc o).bind fun d => (compE I n sc a).map fun e => .m1 m1 d e else none
    | _ => none

/-- x = [..] on one line of a def: stored within the comprehension's frame -/
def swapB (sc : Scope) (x : Str) (px : Pos) (scope : Scope) (lpos : Pos) : Bool :=
  (match sc.names.lookup x with
    | some .local => true
    | _ => false) && (px.line == lpos.line) && !(scope.names.any fun (n, k) => n == x && (k == .local || k == .cell))
def isLc : Expr → Bool
  | .ListComp _ _ _ _ => true
  | .SetComp _ _ _ _ => true
  | .DictComp _ _ _ _ _ => true
  | _ => false
def isTupE : Expr → Bool
  | .Tuple _ _ _ => true
  | _ => false
def compB (f : Stmt → Option DS) : List Stmt → Option DS
  | [] => some .skip
  | [s] => f s
  | s :: ss => (f s).bind fun a => (compB f ss).map fun b => .seq a b
/-! ### except suites that are constants; kn: what names are known to be -/
def notIfE : Expr → Bool
  | .IfExp _ _ _ _ => false
  | _ => true
def compXB (f : Expr → Option D) (op : PySem.BoolOp) : List Expr → Option Bool
  | [] => none
  | [e] => if notIfE e then match f e with
    | some (.bl b) => some b
    | _ => none
    else none
  | e :: es => if notIfE e then match f e, compXB f op es with
    | some (.bl b), some c => some (match op with
      | .And => b && c
      | .Or => b || c)
    | _, _ => none
    else none
def compX (I : CI) (sc : Scope) (c : Nat) (nm : Option Str) : Nat → List (Str × D) → Expr → Option D
  | 0, _, _ => none
  | n + 1, kn, e => match e with
    | .Constant (.int i) _ _ => some (.int i)
    | .Constant (.bool b) _ _ => some (.bl b)
    | .Constant .none _ _ => some .non
    | .Constant (.str s) _ _ => some (.str s)
    | .Name x _ => if x = "__debug__" ∨ x = "__classdict__" then none else if visB sc x then kn.lookup x else none
    | .UnaryOp .Not a _ => if notIfE a then match compX I sc c nm n kn a with
      | some (.bl b) => some (.bl (!b))
      | _ => none
      else none
    | .BoolOp op vs _ => (compXB (compX I sc c nm n kn) op vs).map .bl
    | .IfExp t a b _ => if notIfE t then match compX I sc c nm n kn t, compX I sc c nm n kn a, compX I sc c nm n kn b with
      | some (.bl v), some x, some y => some (if v = true then x else y)
      | _, _, _ => none
      else none
    | .Call (.Name f _) [.Name y _, .Name z _] [] _ => if f = "isinstance" ∧ bltOk I sc f ∧ nm = some y ∧ y ≠ "__debug__" ∧ y ≠ "__classdict__" ∧ z ≠ "__debug__" ∧ visB sc y ∧ globB sc z then
        if z ∈ I.cls then (clsIx z).map fun j => .bl (subC c j) else if z = "ValueError" ∧ I.blt.contains z then some (.bl true) else none
      else none
    | _ => none
def compXS (I : CI) (sc : Scope) (c : Nat) (nm : Option Str) (ok : Str → Bool) : Nat → List (Str × D) → List Stmt → Option SR
  | 0, _, _ => none
  | n + 1, kn, ss => match ss with
    | [.Return (some (.List [e] _)) _] => if okHead e then (compX I sc c nm n kn e).map fun d => .l [d] else none
    | [.Return (some e) _] => (compX I sc c nm n kn e).map .d
    | [.Return none _] => some (.d .non)
    | .If t a [] _ :: rest => if notIfE t then match compX I sc c nm n kn t, compXS I sc c nm ok n kn a, compXS I sc c nm ok n kn rest with
      | some (.bl v), some r, some q => some (if v = true then r else q)
      | _, _, _ => none
      else none
    | .Assign [.Name x _] e _ :: rest => if isLc e then none else if ok x ∧ nm ≠ some x ∧ kn.lookup x = none ∧ (slotOf I.N x).isSome then (compX I sc c nm n kn e).bind fun d => compXS I sc c nm ok n ((x, d) :: kn) rest else none
    | _ => none
/-- the class that a clause names, and what is taken to be raised -/
def tryCls (I : CI) (h : Str) : Option Nat := if h ∈ I.cls then (if h = "UntoldError" then (if clsNm I.hint ∈ I.cls ∧ clsIx (clsNm I.hint) = some I.hint then some I.hint else none) else clsIx h) else none
def locO (sc : Scope) (x : Str) : Bool := match sc.names.lookup x with
  | some .local => true
  | _ => false
def compTry (I : CI) (sc : Scope) (f : Expr → Option DE) (rt : Bool) (e : Expr) (h : Str) (nm : Option Str) (suite : List Stmt) : Option DS :=
  if isLc e || !globB sc h || decide (h = "__debug__") then none else match f e, tryCls I h with
    | some (.call g as), some c => if (match nm with
        | some n => locO sc n && (slotOf I.N n).isSome
        | none => true) then (compXS I sc c nm (locB sc) 40 [] suite).bind fun r => if srB r then some (.try_ rt g as c r) else none else none
    | _, _ => none
def compS (I : CI) (sc : Scope) : Nat → Stmt → Option DS
  | 0, _ => none
  | n + 1, st => match st with
    | .Expr e _ => if isLc e then none else (compE I n sc e).map .expr
    | .Assign [.Name x px] e _ => if locB sc x then (slotOf I.N x).bind fun i => (compE I n sc e).map fun d => .set i (I.mu.contains x) d else none
    | .Assign [.Tuple ts k p] e _ => if isLc e || isTupE e then none else (compTg I (locB sc) (.Tuple ts k p)).bind fun t => (compE I n sc e).map fun d => .unp t.sl d
    | .Assign [.Subscript o i _] e _ => if isLc e then none else if okHead i then (compE I n sc o).bind fun o' => (compE I n sc i).bind fun i' => (compE I n sc e).map fun e' => .setIx o' i' e' else none
    | .Return (some e) _ => (compE I n sc e).map .ret
    | .Return none _ => some .retN
    | .If c a b _ => (compE I n sc c).bind fun c' => (compB (compS I sc n) a).bind fun a' => (compB (compS I sc n) b).map fun b' => .ife c' a' b'
    | .For tg it body [] _ => if okHead it && noSet it then (compTg I (locB sc) tg).bind fun t => (compWalk I (compE I n sc) sc it).bind fun w => (compB (compS I sc n) body).map fun b => .for_ t w b else none
    | .While c body [] _ => (compE I n sc c).bind fun c' => (compB (compS I sc n) body).map fun b => .whl c' b
    | .Raise (some (.Call (.Name x _) [] [] _)) none _ => if x ∈ I.cls ∧ globB sc x ∧ x ≠ "__debug__" then (clsIx x).bind fun j => if j = 2 ∨ j = 3 then none else some (.raise j) else some .rai
    | .Raise _ _ _ => some .rai
    | .Try [.Expr e _] [.ExceptHandler (some (.Name h _)) nm (b :: suite) _] [] [] _ => compTry I sc (compE I n sc) false e h nm (b :: suite)
    | .Try [.Return (some e) _] [.ExceptHandler (some (.Name h _)) nm (b :: suite) _] [] [] _ => compTry I sc (compE I n sc) true e h nm (b :: suite)
    | .Break _ => some .brk
    | .Continue _ => some .cont
    | _ => none
end U

namespace U
open PySem PySem.Spec PyProof.Rows L2
structure XOk (I : CI) (cl : Nat → Addr) (C : Nat → List SV → M RV) (k : Nat) (X : Cx) (sc : Scope) : Prop where
  calm : X.calm = true
  gd : X.A.guards = some []
  un : X.A.units + 65 < cLine
  N : X.N = I.N
  nd : I.N.Nodup
  sc : X.env.scope = sc
  kd : X.env.scope.kind = .function
  rm : Room k X.A
  hp : PassesOwn (model X.prog X.w) X.A X.env X.xe
  fns : ∀ x f, I.fns.lookup x = some f → ∃ (fa : Addr) (fd : FuncData) (ps : List Str) (np : Nat), X.mg x = some (.ref fa) ∧ PySem.W.keepIn X.K (.ref fa) = true ∧ Binds X.K fd ps [] ∧ FnG X.prog X.w X.K X.mg X.base (L2.CX X.prog X.w) k fa fd ps (spC X.K cl C np f) ∧ ∀ vs S, C f vs S ≠ .bad → vs.length = np
  kon : ∀ x d, I.kon.lookup x = some d → ∃ (u : Value) (v : V), X.mg x = some u ∧ RelV v u ∧ ∀ F g, RD X.K F g d v
  blt : ∀ x, x ∈ I.blt → X.mg x = none
  cls : ∀ x ∈ I.cls, ∀ j, clsIx x = some j → ClsF X.K X.mg x (cl j) ∧ (j ≠ 2 → j ≠ 3 → PySem.W.excIn X.K (cl j) bmV "ValueError.__new__" = true)
  prs : ∀ x ∈ I.cls, ∀ y ∈ I.cls, ∀ i j, clsIx x = some i → clsIx y = some j → PySem.W.kitOne X.K (.ref (cl i)) (.ref (cl j)) = some (subC i j) ∧ PySem.W.exmOne X.K (.ref (cl i)) (.ref (cl j)) = some (subC i j)
theorem slotOf_ok : ∀ {N : List Str} {x : Str} {i : Nat}, slotOf N x = some i → N[i]? = some x
  | y :: r, x, i, h => by
    unfold slotOf at h
    split at h
    · rename_i e
      cases h; rw [← e]; rfl
    · cases e : slotOf r x with
      | none => rw [e] at h; cases h
      | some j => rw [e] at h; cases h; show r[j]? = some x; exact slotOf_ok e
theorem vis_ok {sc : Scope} {x : Str} (h : visB sc x = true) : Vis sc x := by
  unfold visB at h
  split at h
  · exact .inl (by assumption)
  · exact .inr (.inl (by assumption))
  · exact .inr (.inr (by assumption))
  · cases h
theorem loc_ok {sc : Scope} {x : Str} (h : locB sc x = true) : Loc sc x := by
  unfold locB at h
  split at h
  · exact .inl (by assumption)
  · exact .inr (by assumption)
  · cases h
theorem glob_ok {X : Cx} {sc : Scope} (hs : X.env.scope = sc) {x : Str} (h : globB sc x = true) : Gl X x := by
  unfold globB at h
  split at h
  · subst hs; assumption
  · cases h
theorem op_ok {o : Operator} {op : BOp} (h : opOf o = some op) : o = oper op := by
  cases o <;> first | (cases h; rfl) | cases h
theorem cop_ok {o : CmpOp} {op : COp} (h : copOf o = some op) : o = cmpop op := by
  cases o <;> first | (cases h; rfl) | cases h
theorem b1_ok {x : Str} {b : B1} (h : b1Of x = some b) : x = bname b := by
  unfold b1Of at h
  repeat (split at h; (rename_i e; cases h; exact e))
  cases h
theorem b2_ok {x : Str} {b : B1} (h : b2Of x = some b) : x = bname b := by
  unfold b2Of at h
  repeat (split at h; (rename_i e; cases h; exact e))
  cases h
theorem m1_ok {x : Str} {m : M1} (h : m1Of x = some m) : x = mname m := by
  unfold m1Of at h
  repeat (split at h; (rename_i e; cases h; exact e))
  cases h
section
variable {I : CI} {ca : Nat → Addr} {C : Nat → List SV → M RV} {k : Nat}
def Good (X : Cx) (C : Nat → List SV → M RV) (e : Expr) (d : DE) : Prop := PE X e (tE X.K (evE C d)) ∧ PT X e (tT X.K (evE C d))
theorem args_ok {X : Cx} {f : Expr → Option DE} : ∀ {es : List Expr} {d : DE}, (∀ e ∈ es, ∀ d, f e = some d → Good X C e d) → compArgs f es = some d → PA X es (tA X.K (evA C d)) ∧ PA X es (tK X.K (evK C d)) ∧ es.all okHead = true
  | [], d, _, h => by cases h; exact ⟨sa_nil, sk_nil, rfl⟩
  | e :: es, d, hf, h => by
    unfold compArgs at h
    split at h
    · rename_i ho
      cases he : f e with
      | none => rw [he] at h; cases h
      | some d1 =>
        rw [he] at h
        cases hr : compArgs f es with
        | none => rw [hr] at h; cases h
        | some d2 =>
          rw [hr] at h
          cases h
          obtain ⟨a1, a2, a3⟩ := args_ok (fun e he => hf e (List.mem_cons_of_mem _ he)) hr
          obtain ⟨g1, _⟩ := hf e List.mem_cons_self d1 he
          exact ⟨sa_cons g1 a1 ho, sk_cons g1 a2 ho, by rw [List.all_cons, ho, a3]; rfl⟩
    · cases h
theorem part_ok {X : Cx} {f : Expr → Option DE} {o : Option Expr} {d : DE} (hf : ∀ e, o = some e → ∀ d, f e = some d → Good X C e d) (h : compPart f o = some d) : PO X o (tP X.K (evP C d)) := by
  cases o with
  | none => cases h; exact so_none
  | some e =>
    have h : (f e).map (fun d => DE.cons d .nil) = some d := h
    cases he : f e with
    | none => rw [he] at h; cases h
    | some d1 =>
      rw [he] at h
      cases h
      exact so_some (hf e rfl d1 he).1
theorem bool_ok {X : Cx} {f : Expr → Option DE} {op : PySem.BoolOp} {pos : Pos} : ∀ {es : List Expr} {d : DE}, (∀ e ∈ es, ∀ d, f e = some d → Good X C e d) → compBool f op es = some d → PE X (.BoolOp op es pos) (tE X.K (evE C d)) ∧ PW X (.BoolOp op es pos) (tT X.K (evE C d))
  | [], d, _, h => by cases h
  | [e], d, hf, h => by
    obtain ⟨g1, g2⟩ := hf e List.mem_cons_self d h
    refine ⟨se_one g1, ?_⟩
    cases op with
    | And => exact pw_and1 g2
    | Or => exact pw_or1 g2
  | e :: e2 :: es, d, hf, h => by
    unfold compBool at h
    cases he : f e with
    | none => rw [he] at h; cases h
    | some d1 =>
      rw [he] at h
      cases hr : compBool f op (e2 :: es) with
      | none => rw [hr] at h; cases h
      | some d2 =>
        rw [hr] at h
        obtain ⟨r1, r2⟩ := bool_ok (pos := pos) (fun e he => hf e (List.mem_cons_of_mem _ he)) hr
        obtain ⟨g1, g2⟩ := hf e List.mem_cons_self d1 he
        cases op with
        | And => cases h; exact ⟨se_and g1 r1, sw_and g2 r2⟩
        | Or => cases h; exact ⟨se_or g1 r1, sw_or g2 r2⟩
theorem bopt {α β : Type} {o : Option α} {f : α → Option β} {b : β} (h : o.bind f = some b) : ∃ a, o = some a ∧ f a = some b := by
  cases o with
  | none => cases h
  | some a => exact ⟨a, rfl, h⟩
theorem mopt {α β : Type} {o : Option α} {f : α → β} {b : β} (h : o.map f = some b) : ∃ a, o = some a ∧ f a = b := by
  cases o with
  | none => cases h
  | some a => cases h; exact ⟨a, rfl, rfl⟩
/-- targets -/
theorem tg_slots {ok : Str → Bool} : ∀ {es : List Expr} {is : List Nat}, (es.mapM fun (e : Expr) => match e with
      | .Name x _ => if ok x then slotOf I.N x else none
      | _ => none) = some is → es.length = is.length ∧ ∀ X : Cx, X.N = I.N → I.N.Nodup → (∀ x, ok x = true → Loc X.env.scope x ∧ (X.fn x = true ∨ X.env.scope.names.lookup x = some .local)) → PGs X es (tGs X.K is) ∧ (assignEach es X.env).length = is.length ∧ (assignEach es X.env).findIdx? (·.1) = none
  | [], is, h => by
    cases h
    exact ⟨rfl, fun X hN nd hok => ⟨sgs_nil, rfl, rfl⟩⟩
  | e :: es, is, h => by
    rw [List.mapM_cons] at h
    obtain ⟨i, hi, h⟩ := bopt h
    obtain ⟨js, hj, h⟩ := bopt h
    cases h
    obtain ⟨h1, h2⟩ := tg_slots hj
    refine ⟨by rw [List.length_cons, List.length_cons, h1], fun X hN nd hok => ?_⟩
    obtain ⟨g1, g2, g3⟩ := h2 X hN nd hok
    cases e with
    | Name x p =>
      have hi : (if ok x then slotOf I.N x else none) = some i := hi
      split at hi
      · rename_i hx
        obtain ⟨l1, l2⟩ := hok x hx
        refine ⟨sgs_cons (sg_one (by rw [hN]; exact nd) (by rw [hN]; exact slotOf_ok hi) l1 l2) g1 rfl, ?_, ?_⟩
        · show (assignEach es X.env).length + 1 = js.length + 1
          rw [g2]
        · show (((false, assign (.Name x p) X.env) :: assignEach es X.env).findIdx? (·.1)) = none
          rw [List.findIdx?_cons, g3]; rfl
      · cases hi
    | _ => cases hi
theorem tg_ok {ok : Str → Bool} {e : Expr} {t : Tg} (h : compTg I ok e = some t) {X : Cx} (hN : X.N = I.N) (nd : I.N.Nodup) (hc : X.calm = true) (hok : ∀ x, ok x = true → Loc X.env.scope x ∧ (X.fn x = true ∨ X.env.scope.names.lookup x = some .local)) : PG X e (tG X.K t) := by
  cases e with
  | Name x p =>
    have h : (if ok x then (slotOf I.N x).map Tg.one else none) = some t := h
    split at h
    · rename_i hx
      obtain ⟨i, hi, rfl⟩ := mopt h
      obtain ⟨l1, l2⟩ := hok x hx
      exact sg_one (by rw [hN]; exact nd) (by rw [hN]; exact slotOf_ok hi) l1 l2
    · cases h
  | Tuple es k p =>
    obtain ⟨is, hi, rfl⟩ := mopt h
    obtain ⟨h1, h2⟩ := tg_slots hi
    obtain ⟨g1, g2, g3⟩ := h2 X hN nd hok
    exact sg_many rfl hc g1 g2 g3
  | _ => cases h
theorem lookup_relS_local {scope sc : Scope} {x : Str} (h : scope.names.lookup x = some .local) : (relS scope sc).names.lookup x = some .local := by
  unfold relS
  dsimp only
  generalize scope.names = names at h
  induction names with
  | nil => cases h
  | cons a r ih =>
    obtain ⟨n, k⟩ := a
    rw [List.lookup_cons] at h
    rw [List.map_cons]
    by_cases hx : (x == n) = true
    · rw [hx] at h
      cases h
      have : (NameKind.local == NameKind.free) = false := by decide
      rw [if_neg (by rw [this]; simp), List.lookup_cons, hx]
    · have hx : (x == n) = false := by simpa using hx
      rw [hx] at h
      split
      · rw [List.lookup_cons, hx]; exact ih h
      · rw [List.lookup_cons, hx]; exact ih h
theorem lookup_relS_cell {scope sc : Scope} {x : Str} (h : scope.names.lookup x = some .cell) : (relS scope sc).names.lookup x = some .cell := by
  unfold relS
  dsimp only
  generalize scope.names = names at h
  induction names with
  | nil => cases h
  | cons a r ih =>
    obtain ⟨n, k⟩ := a
    rw [List.lookup_cons] at h
    rw [List.map_cons]
    by_cases hx : (x == n) = true
    · rw [hx] at h
      cases h
      have : (NameKind.cell == NameKind.free) = false := by decide
      rw [if_neg (by rw [this]; simp), List.lookup_cons, hx]
    · have hx : (x == n) = false := by simpa using hx
      rw [hx] at h
      split
      · rw [List.lookup_cons, hx]; exact ih h
      · rw [List.lookup_cons, hx]; exact ih h
/-- within a comprehension -/
theorem XOk.blk {X : Cx} {sc scope : Scope} (x : XOk I ca C k X sc) (hk : scope.kind = .function) (s : Shared) (H : Hp) (Ca : Addr) (cl : List (Str × Addr)) (fp : List Addr) : XOk I ca C k (X.blk s H scope (compEnvC scope cl Ca X.env) fp) (relS scope sc) :=
  ⟨x.calm, x.gd, x.un, x.N, x.nd, by rw [← x.sc]; rfl, hk, x.rm, fun _ _ h => h.elim, x.fns, x.kon, x.blt, x.cls, x.prs⟩
theorem own_sub {t : Tg} (h : (ownOf I t).map (·.2) = t.sl) : ∀ i ∈ t.sl, i ∈ (ownOf I t).map (·.2) := by rw [h]; exact fun i h => h
end
end U

namespace U
open PySem PySem.Spec PyProof.Rows L2
section
variable {I : CI} {ca : Nat → Addr} {C : Nat → List SV → M RV} {k : Nat}
theorem Good.val {X : Cx} {e : Expr} {d : DE} (h : PE X e (tE X.K (evE C d))) (ht : okTest e = true) : Good X C e d := ⟨h, st_val h ht⟩
theorem if_some {α : Type} {b : Bool} {o : Option α} {a : α} (h : (if b then o else none) = some a) : b = true ∧ o = some a := by
  cases b with
  | true => exact ⟨rfl, h⟩
  | false => cases h
theorem if_none {α : Type} {b : Bool} {o : Option α} {a : α} (h : (if b then none else o) = some a) : b = false ∧ o = some a := by
  cases b with
  | false => exact ⟨rfl, h⟩
  | true => cases h
theorem noset {it : Expr} (h : noSet it = true) (env : PySem.Env) : ∀ x, foldedSetIterable it env x = pure x := by
  intro x
  unfold foldedSetIterable
  cases it <;> first | rfl | cases h
theorem minus1 {e : Expr} (h : isMinus1 e = true) : ∃ k q1 q2, e = .UnaryOp .USub (.Constant (.int 1) k q1) q2 := by
  unfold isMinus1 at h
  split at h
  · exact ⟨_, _, _, rfl⟩
  · cases h
theorem bltG {X : Cx} {sc : Scope} (x : XOk I ca C k X sc) {y : Str} (h : bltOk I sc y = true) : Gl X y ∧ X.mg y = none := by
  unfold bltOk at h
  rw [Bool.and_eq_true] at h
  exact ⟨glob_ok x.sc h.2, x.blt y (List.contains_iff_mem.mp h.1)⟩
theorem walk_ok {X : Cx} {sc : Scope} (x : XOk I ca C k X sc) {f : Expr → Option DE} {it tg : Expr} {d : DE} (hf : ∀ e d, f e = some d → Good X C e d) (h : compWalk I f sc it = some d) : PI X tg it (tW X.K (evW C d)) := by
  have sq : ∀ {d}, (f it).map (fun d => DE.wk .seq d .nil) = some d → PI X tg it (tW X.K (evW C d)) := fun h => by
    obtain ⟨d1, e1, rfl⟩ := mopt h
    exact si_seq rfl (hf _ _ e1).1
  unfold compWalk at h
  split at h
  · split at h
    · rename_i hx
      obtain ⟨rfl, hb⟩ := hx
      obtain ⟨ho, h⟩ := if_some h
      obtain ⟨d1, e1, rfl⟩ := mopt h
      obtain ⟨g1, g2⟩ := bltG x hb
      exact si_rng1 g1 g2 (hf _ _ e1).1 ho
    · split at h
      · rename_i hx
        obtain ⟨rfl, hb⟩ := hx
        obtain ⟨ho, h⟩ := if_some h
        obtain ⟨d1, e1, rfl⟩ := mopt h
        obtain ⟨g1, g2⟩ := bltG x hb
        exact si_rev rfl g1 g2 (hf _ _ e1).1 ho
      · exact sq h
  · split at h
    · rename_i hx
      obtain ⟨rfl, hb⟩ := hx
      obtain ⟨ho, h⟩ := if_some h
      obtain ⟨d1, e1, h⟩ := bopt h
      obtain ⟨d2, e2, rfl⟩ := mopt h
      obtain ⟨g1, g2⟩ := bltG x hb
      rw [Bool.and_eq_true] at ho
      exact si_rng2 g1 g2 (hf _ _ e1).1 (hf _ _ e2).1 ho.1 ho.2
    · exact sq h
  · split at h
    · rename_i hx
      obtain ⟨rfl, hb⟩ := hx
      obtain ⟨ho, h⟩ := if_some h
      obtain ⟨d1, e1, h⟩ := bopt h
      obtain ⟨d2, e2, rfl⟩ := mopt h
      obtain ⟨g1, g2⟩ := bltG x hb
      rw [Bool.and_eq_true, Bool.and_eq_true] at ho
      obtain ⟨k1, q1, q2, rfl⟩ := minus1 ho.2
      exact si_rngD g1 g2 (hf _ _ e1).1 (hf _ _ e2).1 ho.1.1 ho.1.2
    · exact sq h
  · exact sq h
theorem range_args {sc : Scope} {x : Str} {args : List Expr} {a b : Expr} (h : rangeArgs I sc x args = some (a, b)) : ∃ y p p2, args = [.Call (.Name y p) [a, b] [] p2] ∧ y = "range" ∧ bltOk I sc y = true ∧ okHead a = true ∧ okHead b = true ∧ (x = "tuple" ∨ x = "list") := by
  unfold rangeArgs at h
  split at h
  · split at h
    · rename_i hc
      cases h
      exact ⟨_, _, _, rfl, hc⟩
    · cases h
  · cases h
/-- what a comprehension needs -/
structure LcOk (X : Cx) (C : Nat → List SV → M RV) (elt tge iter : Expr) (ifs : List Expr) (scope : Scope) (own : List (Str × Nat)) (w : DE) (t : Tg) (c d : DE) : Prop where
  hi : PI X tge iter (tW X.K (evW C w))
  ok : BlkOk X.N X.env.scope scope own
  htg : ∀ i ∈ t.sl, i ∈ own.map (·.2)
  own : own.map (·.2) = t.sl
  hg : ∀ (s : Shared) (H : Hp) (C : Addr) (cl : List (Str × Addr)) (fp : List Addr), PG (X.blk s H scope (compEnvC scope cl C X.env) fp) tge (tG X.K t)
  ht : ∀ (s : Shared) (H : Hp) (C' : Addr) (cl : List (Str × Addr)) (fp : List Addr), PTs (X.blk s H scope (compEnvC scope cl C' X.env) fp) ifs (tT X.K (evE C c))
  he : ∀ (s : Shared) (H : Hp) (C' : Addr) (cl : List (Str × Addr)) (fp : List Addr), PE (X.blk s H scope (compEnvC scope cl C' X.env) fp) elt (tE X.K (evE C d))
  hs : ∀ x, foldedSetIterable iter X.env x = pure x
theorem pts_yes {X : Cx} : PTs X [] (tT X.K (evE C (.con (.bl true)))) := ⟨fun pins s σ H Q I hw => pts_nil.run pins s σ H Q I (by
  obtain ⟨w, ρ, S, hr, sl, p⟩ := hw
  obtain ⟨b, eb, p⟩ : ∃ b, truth (.d (.bl true)) = some b ∧ _ := p
  cases eb
  exact p w H (.refl _) hr)⟩
theorem PTs.one {X : Cx} {c : Expr} {t : TT} (h : PT X c t) : PTs X [c] t := pts_one h
theorem kind_of {scope : Scope} {N : List Str} {sc : Scope} {own : List (Str × Nat)} (h : blkC N sc scope own = true) : scope.kind = .function := by
  unfold blkC at h
  simp only [Bool.and_eq_true] at h
  obtain ⟨⟨⟨h1, _⟩, _⟩, _⟩ := h
  split at h1
  · assumption
  · cases h1
theorem lc_ok {n : Nat} (ih : ∀ (X : Cx) (sc : Scope) (e : Expr) (d : DE), XOk I ca C k X sc → compE I n sc e = some d → Good X C e d) {X : Cx} {sc : Scope} (x : XOk I ca C k X sc) {elt tge iter : Expr} {ifs : List Expr} {scope : Scope} {pos : Pos} {d' : DE}
    (h : compE I (n + 1) sc (.ListComp elt [⟨tge, iter, ifs, 0⟩] scope pos) = some d') : ∃ own w t c d, d' = .lc d t w c t.sl ∧ LcOk X C elt tge iter ifs scope own w t c d := by
  unfold compE at h
  obtain ⟨ho, h⟩ := if_some h
  rw [Bool.and_eq_true] at ho
  obtain ⟨t, et, h⟩ := bopt h
  obtain ⟨hb, h⟩ := if_some h
  rw [Bool.and_eq_true] at hb
  obtain ⟨hb, hown⟩ := hb
  have hown := of_decide_eq_true hown
  obtain ⟨w, ew, h⟩ := bopt h
  obtain ⟨d, ed, h⟩ := bopt h
  have hk := kind_of hb
  have bok : BlkOk X.N X.env.scope scope (ownOf I t) := by rw [x.N, x.sc]; exact blkOk_by hb
  have hin := own_sub hown
  have hi := walk_ok x (tg := tge) (fun e d h => ih X sc e d x h) ew
  have hg : ∀ (s : Shared) (H : Hp) (C' : Addr) (cl : List (Str × Addr)) (fp : List Addr), PG (X.blk s H scope (compEnvC scope cl C' X.env) fp) tge (tG X.K t) := fun s H C' cl fp => by
    refine tg_ok (I := I) et (X := X.blk s H scope (compEnvC scope cl C' X.env) fp) x.N x.nd x.calm fun y hy => ?_
    have := (x.blk hk s H C' cl fp).sc
    rw [this]
    unfold locB at hy
    split at hy
    · rename_i e; exact ⟨.inl (lookup_relS_local e), .inr (lookup_relS_local e)⟩
    · rename_i e
      refine ⟨.inr (lookup_relS_cell e), .inl ?_⟩
      show (scope.names.lookup y == some NameKind.cell) = true
      rw [e]; rfl
    · cases hy
  have he : ∀ (s : Shared) (H : Hp) (C' : Addr) (cl : List (Str × Addr)) (fp : List Addr), PE (X.blk s H scope (compEnvC scope cl C' X.env) fp) elt (tE X.K (evE C d)) := fun s H C' cl fp => (ih _ _ _ _ (x.blk hk s H C' cl fp) ed).1
  cases ifs with
  | nil =>
    cases h
    exact ⟨_, w, t, _, d, rfl, hi, bok, hin, hown, hg, fun s H C' cl fp => pts_yes, he, noset ho.2 _⟩
  | cons c r =>
    cases r with
    | nil =>
      obtain ⟨c', ec, rfl⟩ := mopt h
      exact ⟨_, w, t, c', d, rfl, hi, bok, hin, hown, hg, fun s H C' cl fp => pts_one (ih _ _ _ _ (x.blk hk s H C' cl fp) ec).2, he, noset ho.2 _⟩
    | cons _ _ => cases h
end
end U

set_option maxHeartbeats 1000000
namespace U
open PySem PySem.Spec PyProof.Rows L2
section
variable {I : CI} {ca : Nat → Addr} {C : Nat → List SV → M RV} {k : Nat}
theorem bool_nil {f : Expr → Option DE} {op : PySem.BoolOp} {d : DE} (h : compBool f op [] = some d) : False := by cases h
theorem if_noneP {α : Type} {p : Prop} [Decidable p] {o : Option α} {a : α} (h : (if p then none else o) = some a) : ¬p ∧ o = some a := by
  by_cases hp : p
  · rw [if_pos hp] at h; cases h
  · rw [if_neg hp] at h; exact ⟨hp, h⟩
theorem st_ife {X : Cx} {c a b : Expr} {pos : Pos} {ft fa fb : Env → M RV} (ht : PT X c (tT X.K ft)) (ha : PT X a (tT X.K fa)) (hb : PT X b (tT X.K fb)) : PT X (.IfExp c a b pos) (tT X.K (ifF ft fa fb)) := by
  refine ⟨fun pins s σ H Q I h => isTrue_IfExp ?_⟩
  obtain ⟨w, ρ, S, hr, sl, p⟩ := h
  unfold ifF at p
  obtain ⟨x, S1, ex, p⟩ := p.bind
  cases eb : truth x with
  | none => rw [eb] at p; exact False.elim p
  | some b0 =>
    rw [eb] at p
    refine thn (ht.run pins s σ H (fun c H1 => c = b0 ∧ ∃ w1, w.le w1 ∧ Rel X.K w1 S1 H1) I (oneT hr sl ex eb fun w1 H1 l r => ⟨rfl, w1, l, r⟩)) fun d s1 ⟨H1, I1, e1, w1, l, r⟩ => ?_
    subst e1
    cases d with
    | true => exact ha.run pins s1 σ H1 Q I1 ⟨w1, ρ, S1, r, sl.mono X.K l, p.le l⟩
    | false => exact hb.run pins s1 σ H1 Q I1 ⟨w1, ρ, S1, r, sl.mono X.K l, p.le l⟩
theorem keys_ok : ∀ {keys : List (Option Expr)} {ks : List Str}, keyStrs keys = some ks → keys.all (·.isSome) = true ∧ keys.length = ks.length
  | [], ks, h => by cases h; exact ⟨rfl, rfl⟩
  | k :: keys, ks, h => by
    unfold keyStrs at h
    split at h
    · rename_i e; cases e
    · rename_i e
      obtain ⟨r, er, rfl⟩ := mopt h
      cases e
      obtain ⟨h1, h2⟩ := keys_ok er
      exact ⟨by rw [List.all_cons, h1]; rfl, by rw [List.length_cons, List.length_cons, h2]⟩
    · cases h
theorem pairs_ok {X : Cx} {f : Expr → Option DE} {pos : Pos} : ∀ {keys : List (Option Expr)} {ks : List Str} {es : List Expr} {d : DE}, (∀ e ∈ es, ∀ d, f e = some d → Good X C e d) → keyStrs keys = some ks → keys.length = es.length → compArgs f es = some d → PPs X pos keys es (trsOf X.K C ks d)
  | [], ks, [], d, _, hk, _, h => by cases hk; cases h; exact pps_nil
  | [], ks, _ :: _, d, _, _, hl, _ => by simp at hl
  | _ :: _, ks, [], d, _, _, hl, _ => by simp at hl
  | k :: keys, ks, e :: es, d, hf, hk, hl, h => by
    unfold keyStrs at hk
    split at hk
    · rename_i ek; cases ek
    · rename_i ek
      obtain ⟨r, er, rfl⟩ := mopt hk
      cases ek
      unfold compArgs at h
      split at h
      · obtain ⟨d1, e1, h⟩ := bopt h
        obtain ⟨d2, e2, rfl⟩ := mopt h
        exact pps_cons pe_str (hf e List.mem_cons_self d1 e1).1 (pairs_ok (fun e he => hf e (List.mem_cons_of_mem _ he)) er (by simpa using hl) e2)
      · cases h
    · cases hk
theorem set_arg {sc : Scope} {x : Str} {args : List Expr} {a : Expr} (h : setArg I sc x args = some a) : ∃ y p p2, args = [.Call (.Name y p) [a] [] p2] ∧ y = "set" ∧ bltOk I sc y = true ∧ okHead a = true ∧ x = "len" := by
  unfold setArg at h
  split at h
  · split at h
    · rename_i hc
      cases h
      exact ⟨_, _, _, rfl, hc⟩
    · cases h
  · cases h
theorem zip_args {sc : Scope} {x : Str} {args : List Expr} {a b : Expr} (h : zipArgs I sc x args = some (a, b)) : ∃ y p p2, args = [.Call (.Name y p) [a, b] [] p2] ∧ y = "zip" ∧ bltOk I sc y = true ∧ okHead a = true ∧ okHead b = true ∧ x = "list" := by
  unfold zipArgs at h
  split at h
  · split at h
    · rename_i hc
      cases h
      exact ⟨_, _, _, rfl, hc⟩
    · cases h
  · cases h
theorem sset_arg {sc : Scope} {x : Str} {args : List Expr} {a : Expr} (h : ssetArg I sc x args = some a) : ∃ y p p2, args = [.Call (.Name y p) [a] [] p2] ∧ y = "set" ∧ bltOk I sc y = true ∧ okHead a = true ∧ x = "sorted" := by
  unfold ssetArg at h
  split at h
  · split at h
    · rename_i hc
      cases h
      exact ⟨_, _, _, rfl, hc⟩
    · cases h
  · cases h
theorem ty_of {x : Str} {t : TyN} (h : tyOf x = some t) : x = t.nm := by
  unfold tyOf at h
  repeat (split at h; (rename_i e; cases h; exact e))
  cases h
theorem isi_args {sc : Scope} {x : Str} {args : List Expr} {a : Expr} {t : TyN} (h : isiArgs I sc x args = some (a, t)) : ∃ p, args = [a, .Name t.nm p] ∧ x = "isinstance" ∧ bltOk I sc t.nm = true ∧ okHead a = true := by
  unfold isiArgs at h
  split at h
  · split at h
    · rename_i hc
      obtain ⟨y, ey, e⟩ := mopt h
      cases e
      have := ty_of ey
      subst this
      exact ⟨_, rfl, hc.1, hc.2.2, hc.2.1⟩
    · cases h
  · cases h
theorem m2_get {X : Cx} {o a b : Expr} {apos pos : Pos} (ho : okHead o = true) (ha : okHead a = true) (hb : okHead b = true) (hl : (apos.endLine == pos.line) = true) : L2.M2 X o "get" apos a b pos :=
  ⟨attr_base ho, by rw [noStarAll (by rw [List.all_cons, ha, List.all_cons, hb]; rfl)]; rfl, hl, by rw [star_cons ha, star_one hb]; rfl⟩
theorem comp_ok : ∀ (n : Nat) (X : Cx) (sc : Scope) (e : Expr) (d : DE), XOk I ca C k X sc → compE I n sc e = some d → Good X C e d
  | 0, X, sc, e, d, x, h => by unfold compE at h; cases h
  | n + 1, X, sc, e, d, x, h => by
    have ih := comp_ok n
    have h0 := h
    unfold compE at h
    split at h
    · -- a name
      split at h
      · cases h
      · rename_i hd
        rw [not_or] at hd
        split at h
        · rename_i hv
          obtain ⟨i, ei, rfl⟩ := mopt h
          refine Good.val (se_var (by rw [x.N]; exact slotOf_ok ei) (by rw [x.sc]; exact vis_ok hv) ?_ ?_) rfl
          · exact beq_false_of_ne hd.1
          · exact beq_false_of_ne hd.2
        · obtain ⟨hg, h⟩ := if_some h
          obtain ⟨c, ec, rfl⟩ := mopt h
          obtain ⟨u, v, hm, hr, hd'⟩ := x.kon _ _ ec
          exact Good.val (se_con (pe_glob (glob_ok x.sc hg) hm hr (beq_false_of_ne hd.1)) hd') rfl
    · cases h; exact Good.val (se_con pe_int fun F g => rfl) rfl
    · cases h; exact Good.val (se_con pe_bl fun F g => rfl) rfl
    · cases h; exact Good.val (se_con pe_non fun F g => rfl) rfl
    · cases h; exact Good.val (se_con pe_str fun F g => rfl) rfl
    · obtain ⟨as, ea, rfl⟩ := mopt h
      exact Good.val (se_tup (args_ok (fun e _ d h => ih X sc e d x h) ea).2.1) rfl
    · obtain ⟨as, ea, rfl⟩ := mopt h
      exact Good.val (se_lst (args_ok (fun e _ d h => ih X sc e d x h) ea).2.1) rfl
    · obtain ⟨o, eo, h⟩ := bopt h
      obtain ⟨a, ea, h⟩ := bopt h
      obtain ⟨b, eb, rfl⟩ := mopt h
      have := op_ok eo
      subst this
      exact Good.val (se_bin rfl (ih _ _ _ _ x ea).1 (ih _ _ _ _ x eb).1) rfl
    · obtain ⟨a, ea, rfl⟩ := mopt h
      exact Good.val (se_neg (ih _ _ _ _ x ea).1) rfl
    · obtain ⟨a, ea, rfl⟩ := mopt h
      exact ⟨se_not (ih _ _ _ _ x ea).1, st_not (ih _ _ _ _ x ea).2⟩
    · obtain ⟨h1, h2⟩ := bool_ok (fun e _ d h => ih X sc e d x h) h
      exact ⟨h1, h2.pt⟩
    · obtain ⟨hm, h⟩ := if_none h
      obtain ⟨o, eo, h⟩ := bopt h
      obtain ⟨a, ea, h⟩ := bopt h
      obtain ⟨b, eb, rfl⟩ := mopt h
      have := cop_ok eo
      subst this
      exact ⟨se_cmp rfl x.un (ih _ _ _ _ x ea).1 (ih _ _ _ _ x eb).1 hm, st_cmp rfl x.un (ih _ _ _ _ x ea).1 (ih _ _ _ _ x eb).1 hm⟩
    · obtain ⟨hm, h⟩ := if_none h
      obtain ⟨o, eo, h⟩ := bopt h
      obtain ⟨o2, eo2, h⟩ := bopt h
      obtain ⟨a, ea, h⟩ := bopt h
      obtain ⟨b, eb, h⟩ := bopt h
      obtain ⟨c, ec, rfl⟩ := mopt h
      have := cop_ok eo
      have := cop_ok eo2
      subst_vars
      exact ⟨se_chain rfl x.un (ih _ _ _ _ x ea).1 (ih _ _ _ _ x eb).1 (ih _ _ _ _ x ec).1 hm, st_chain rfl x.un (ih _ _ _ _ x ea).1 (ih _ _ _ _ x eb).1 (ih _ _ _ _ x ec).1 hm⟩
    · obtain ⟨t, et, h⟩ := bopt h
      obtain ⟨a, ea, h⟩ := bopt h
      obtain ⟨b, eb, rfl⟩ := mopt h
      exact ⟨se_ife (ih _ _ _ _ x et).2 (ih _ _ _ _ x ea).1 (ih _ _ _ _ x eb).1, st_ife (ih _ _ _ _ x et).2 (ih _ _ _ _ x ea).2 (ih _ _ _ _ x eb).2⟩
    · obtain ⟨a, ea, h⟩ := bopt h
      obtain ⟨lo, el, h⟩ := bopt h
      obtain ⟨hi, eh, rfl⟩ := mopt h
      exact Good.val (se_sl rfl (ih _ _ _ _ x ea).1 (part_ok (fun e _ d h => ih X sc e d x h) el) (part_ok (fun e _ d h => ih X sc e d x h) eh)) rfl
    · obtain ⟨ho, h⟩ := if_some h
      obtain ⟨a, ea, h⟩ := bopt h
      obtain ⟨b, eb, rfl⟩ := mopt h
      exact Good.val (se_ix rfl (ih _ _ _ _ x ea).1 (ih _ _ _ _ x eb).1 ho) rfl
    · obtain ⟨own, w, t, c, d, rfl, l⟩ := lc_ok ih x h0
      refine Good.val ?_ rfl
      have := se_lc (pos := ‹Pos›) rfl x.calm (by rw [x.N]; exact x.nd) l.hi l.ok l.htg l.hg l.ht l.he l.hs
      rw [l.own] at this
      exact this
    · -- a call of a name
      obtain ⟨hdb, h⟩ := if_noneP h
      obtain ⟨hg, h⟩ := if_none h
      have hg := glob_ok x.sc (by simpa using hg)
      have hdb := beq_false_of_ne hdb
      split at h
      · rename_i f ef
        obtain ⟨he, h⟩ := if_none h
        obtain ⟨as, ea, rfl⟩ := mopt h
        obtain ⟨fa, fd, ps, np, hm, hk, hb, F, hlen⟩ := x.fns _ _ ef
        obtain ⟨a1, _, a3⟩ := args_ok (fun e _ d h => ih X sc e d x h) ea
        cases ‹List Expr› with
        | nil => cases he
        | cons a as' => exact Good.val (se_call rfl F x.gd x.rm hg hm hk hb hlen a1 hdb a3) rfl
      · obtain ⟨hbl, h⟩ := if_none h
        have hm := x.blt _ (List.contains_iff_mem.mp (by simpa using hbl))
        split at h
        · rename_i a b er
          obtain ⟨d1, e1, h⟩ := bopt h
          obtain ⟨d2, e2, h⟩ := mopt h
          subst h
          obtain ⟨y, p, p2, rfl, rfl, hb, ho, ho', hx⟩ := range_args er
          obtain ⟨g1, g2⟩ := bltG x hb
          rcases hx with rfl | rfl
          · exact Good.val (se_trng rfl x.calm hg hm g1 g2 (ih _ _ _ _ x e1).1 (ih _ _ _ _ x e2).1 ho ho') rfl
          · exact Good.val (se_lrng rfl x.calm hg hm g1 g2 (ih _ _ _ _ x e1).1 (ih _ _ _ _ x e2).1 ho ho') rfl
        · split at h
          · rename_i a ea
            obtain ⟨d1, e1, rfl⟩ := mopt h
            obtain ⟨y, p, p2, rfl, rfl, hb, ho, rfl⟩ := set_arg ea
            obtain ⟨g1, g2⟩ := bltG x hb
            exact Good.val (se_lens rfl x.calm hg hm g1 g2 (ih _ _ _ _ x e1).1 ho) rfl
          split at h
          · rename_i a b ez
            obtain ⟨d1, e1, h⟩ := bopt h
            obtain ⟨d2, e2, rfl⟩ := mopt h
            obtain ⟨y, p, p2, rfl, rfl, hb, ho, ho', rfl⟩ := zip_args ez
            obtain ⟨g1, g2⟩ := bltG x hb
            exact Good.val (se_lzip rfl x.calm hg hm g1 g2 (ih _ _ _ _ x e1).1 (ih _ _ _ _ x e2).1 ho ho') rfl
          split at h
          · rename_i a ea
            obtain ⟨d1, e1, rfl⟩ := mopt h
            obtain ⟨y, p, p2, rfl, rfl, hb, ho, rfl⟩ := sset_arg ea
            obtain ⟨g1, g2⟩ := bltG x hb
            exact Good.val (se_sset rfl x.calm hg hm g1 g2 (ih _ _ _ _ x e1).1 ho) rfl
          split at h
          · rename_i a t ea
            obtain ⟨d1, e1, rfl⟩ := mopt h
            obtain ⟨p, rfl, rfl, hb, ho⟩ := isi_args ea
            obtain ⟨g1, g2⟩ := bltG x hb
            exact Good.val (se_isi rfl hg hm g1 g2 (ih _ _ _ _ x e1).1 ho) rfl
          split at h
          · obtain ⟨ho, h⟩ := if_some h
            obtain ⟨b1, eb, h⟩ := bopt h
            obtain ⟨d1, e1, rfl⟩ := mopt h
            have := b1_ok eb
            subst this
            exact Good.val (se_b1 rfl x.calm x.gd x.un hg hm (ih _ _ _ _ x e1).1 ho) rfl
          · obtain ⟨ho, h⟩ := if_some h
            obtain ⟨b1, eb, h⟩ := bopt h
            obtain ⟨d1, e1, h⟩ := bopt h
            obtain ⟨d2, e2, rfl⟩ := mopt h
            have := b2_ok eb
            subst this
            rw [Bool.and_eq_true] at ho
            exact Good.val (se_b2 rfl x.calm hg hm (ih _ _ _ _ x e1).1 (ih _ _ _ _ x e2).1 ho.1 ho.2) rfl
          · cases h
    · obtain ⟨ks, ek, h⟩ := bopt h
      obtain ⟨hl, h⟩ := if_some h
      have hl := of_decide_eq_true hl
      obtain ⟨as, ea, rfl⟩ := mopt h
      obtain ⟨h1, h2⟩ := keys_ok ek
      exact Good.val (se_dis rfl (pairs_ok (fun e _ d h => ih X sc e d x h) ek hl ea) h1 hl h2) rfl
    · obtain ⟨hc, h⟩ := if_some h
      obtain ⟨d1, e1, h⟩ := bopt h
      obtain ⟨d2, e2, h⟩ := bopt h
      obtain ⟨d3, e3, rfl⟩ := mopt h
      simp only [Bool.and_eq_true, decide_eq_true_eq] at hc
      obtain ⟨⟨⟨⟨c1, c2⟩, c3⟩, c4⟩, rfl⟩ := hc
      exact Good.val (se_dgt rfl (by have := x.un; omega) (ih _ _ _ _ x e1).1 (ih _ _ _ _ x e2).1 (ih _ _ _ _ x e3).1 (m2_get c1 c2 c3 c4)) rfl
    · obtain ⟨hc, h⟩ := if_some h
      obtain ⟨m1, em, h⟩ := bopt h
      obtain ⟨d1, e1, h⟩ := bopt h
      obtain ⟨d2, e2, rfl⟩ := mopt h
      have := m1_ok em
      subst this
      rw [Bool.and_eq_true, Bool.and_eq_true] at hc
      exact Good.val (se_m1 rfl (ih _ _ _ _ x e1).1 (ih _ _ _ _ x e2).1 hc.1.1 hc.1.2 hc.2) rfl
    · cases h
end
end U

/-! USui: an except suite that is a constant. -/
namespace U
open PySem PySem.Spec PyProof.Rows L2
theorem boot_ve : bootBuiltins "ValueError" = some (.type "ValueError") := by decide +kernel
/-- what is known of names and slots -/
structure KnC (N : List Str) (nm : Option Str) (a : Addr) (kn : List (Str × D)) (k : List (Nat × V)) : Prop where
  hkn : ∀ x d, kn.lookup x = some d → ∃ i, N[i]? = some x ∧ (i, dv d) ∈ k
  hnm : ∀ y, nm = some y → ∃ i, N[i]? = some y ∧ (i, V.ref a) ∈ k
  hon : ∀ p ∈ k, ∃ y, N[p.1]? = some y ∧ (nm = some y ∨ (kn.lookup y).isSome = true)
section
variable {I : CI} {ca : Nat → Addr} {C : Nat → List SV → M RV} {lv : Nat} {X : Cx} {sc : Scope} {c : Nat} {nm : Option Str} {a : Addr} {oe : Obj} {pn : List (Addr × Obj)} {k : List (Nat × V)}
abbrev Xs (X : Cx) (a : Addr) (oe : Obj) (pn : List (Addr × Obj)) : Cx := X.suite a ((a, oe) :: pn)
def GoodK (X : Cx) (k : List (Nat × V)) (e : Expr) (d : D) : Prop := PE X e (tKc k (dv d)) ∧ ∀ b, d = .bl b → notIfE e = true → PT X e (tKt k b)
theorem GoodK.val {X : Cx} {e : Expr} {d : D} (h : PE X e (tKc k (dv d))) (ht : okTest e = true) : GoodK X k e d := ⟨h, fun b e _ => PT.kc (by rw [e] at h; exact h) ht⟩
theorem xb_ok {X : Cx} {f : Expr → Option D} {op : PySem.BoolOp} {pos : Pos} (hf : ∀ e d, f e = some d → GoodK X k e d) : ∀ {es : List Expr} {r : Bool}, compXB f op es = some r → PE X (.BoolOp op es pos) (tKc k (.bl r)) ∧ PW X (.BoolOp op es pos) (tKt k r)
  | [], r, h => by cases h
  | [e], r, h => by
    unfold compXB at h
    obtain ⟨hn, h⟩ := if_some h
    split at h
    · rename_i b eb
      cases h
      obtain ⟨g1, g2⟩ := hf _ _ eb
      refine ⟨pe_one g1, ?_⟩
      cases op with
      | And => exact pw_and1 (g2 _ rfl hn)
      | Or => exact pw_or1 (g2 _ rfl hn)
    · cases h
  | e :: e2 :: es, r, h => by
    unfold compXB at h
    obtain ⟨hn, h⟩ := if_some h
    split at h
    · rename_i b c eb ec
      obtain ⟨g1, g2⟩ := hf _ _ eb
      obtain ⟨r1, r2⟩ := xb_ok (pos := pos) hf ec
      have g2 := g2 _ rfl hn
      cases op with
      | And =>
        cases h
        refine ⟨PE.weak (pe_and g1 r1) fun σ H Q h => ⟨h.1, b, rfl, ?_⟩, ⟨fun wh pins s σ H Q I h => (pw_and g2 r2).run wh pins s σ H Q I ⟨h.1, ?_⟩⟩⟩
        · cases b with
          | true => exact h
          | false => exact h.2
        · cases b with
          | true => exact h
          | false => exact h.2
      | Or =>
        cases h
        refine ⟨PE.weak (pe_or g1 r1) fun σ H Q h => ⟨h.1, b, rfl, ?_⟩, ⟨fun wh pins s σ H Q I h => (pw_or g2 r2).run wh pins s σ H Q I ⟨h.1, ?_⟩⟩⟩
        · cases b with
          | true => exact h.2
          | false => exact h
        · cases b with
          | true => exact h.2
          | false => exact h
    · cases h
theorem sui_ok (x : XOk I ca C lv X sc) (hc : ClsF X.K X.mg (clsNm c) (ca c)) (hcn : clsNm c ∈ I.cls) (hci : clsIx (clsNm c) = some c) (hz : Zc (.ref (ca c)) none oe) (hf : ∃ vs, oe.data = .fields vs) :
    ∀ (n : Nat) (kn : List (Str × D)) (e : Expr) (d : D), KnC X.N nm a kn k → compX I sc c nm n kn e = some d → GoodK (Xs X a oe pn) k e d
  | 0, kn, e, d, hk, h => by cases h
  | n + 1, kn, e, d, hk, h => by
    have ih := fun e d h => sui_ok x hc hcn hci hz hf n kn e d hk h
    unfold compX at h
    split at h
    · cases h; exact GoodK.val (PE.kc pe_int) rfl
    · cases h; exact GoodK.val (PE.kc pe_bl) rfl
    · cases h; exact GoodK.val (PE.kc pe_non) rfl
    · cases h; exact GoodK.val (PE.kc pe_str) rfl
    · split at h
      · cases h
      · rename_i hd
        rw [not_or] at hd
        obtain ⟨hv, h⟩ := if_some h
        obtain ⟨i, e1, e2⟩ := hk.hkn _ _ h
        refine GoodK.val (PE.weak (pe_var (X := Xs X a oe pn) (i := i) e1 (by show Vis X.env.scope _; rw [x.sc]; exact vis_ok hv) (beq_false_of_ne hd.1) (beq_false_of_ne hd.2)) fun σ H Q q => ⟨_, q.1 _ e2, q.2⟩) rfl
    · obtain ⟨hn, h⟩ := if_some h
      split at h
      · rename_i b eb
        cases h
        obtain ⟨g1, g2⟩ := ih _ _ eb
        refine ⟨PE.weak (pe_not g1) fun σ H Q q => ⟨q.1, b, rfl, q.2⟩, fun b' e _ => ?_⟩
        cases e
        exact ⟨fun pins s σ H Q I q => (pt_not (g2 _ rfl hn)).run pins s σ H Q I q⟩
      · cases h
    · obtain ⟨r, er, rfl⟩ := mopt h
      obtain ⟨h1, h2⟩ := xb_ok (pos := ‹Pos›) ih er
      exact ⟨h1, fun b e _ => by cases e; exact h2.pt⟩
    · obtain ⟨hn, h⟩ := if_some h
      split at h
      · rename_i v y z e1 e2 e3
        cases h
        refine ⟨PE.weak (pe_ifExp ((ih _ _ e1).2 _ rfl hn) (ih _ _ e2).1 (ih _ _ e3).1) fun σ H Q q => ⟨q.1, ?_⟩, fun b e hh => by cases hh⟩
        cases v with
        | true => exact q
        | false => exact q
      · cases h
    · rename_i ff p3 y p2 z p1 p0
      split at h
      · rename_i hh
        obtain ⟨rfl, hbl, hnm, hy1, hy2, hz1, hv, hg⟩ := hh
        obtain ⟨g1, g2⟩ := bltG x hbl
        obtain ⟨i, e1, e2⟩ := hk.hnm _ hnm
        have hvar := pe_var (X := Xs X a oe pn) (i := i) (pos := p2) e1 (by show Vis X.env.scope _; rw [x.sc]; exact vis_ok hv) (beq_false_of_ne hy1) (beq_false_of_ne hy2)
        have key : ∀ (z : Str) (zp yp : Pos) (v : V) (cv : Value) (b : Bool), PE (Xs X a oe pn) (.Name z zp) (tC v) → (∀ u, RelV v u → u = cv) → PySem.W.kitOne X.K (.ref (ca c)) cv = some b → ∀ (fp pos : Pos), GoodK (Xs X a oe pn) k (.Call (.Name "isinstance" fp) [.Name _ yp, .Name z zp] [] pos) (.bl b) := fun z zp yp v cv b hp hr hkit fp pos => by
          refine GoodK.val (PE.weak (pe_callB (X := Xs X a oe pn) (call_isE hc.ec hz hf) g1 g2 PyProof.Rows.boot_isinstance (pa_cons (pe_var (X := Xs X a oe pn) (i := i) (pos := yp) e1 (by show Vis X.env.scope _; rw [x.sc]; exact vis_ok hv) (beq_false_of_ne hy1) (beq_false_of_ne hy2)) (pa_cons hp pa_nil))) fun σ H Q q => ?_) rfl
          exact ⟨_, q.1 _ e2, v, cv, b, rfl, hr, hkit, q.2⟩
        split at h
        · rename_i hzc
          obtain ⟨j, ej, rfl⟩ := mopt h
          have hj : ClsF X.K X.mg z (ca j) := (x.cls z hzc j ej).1
          exact key _ _ _ (.ref (ca j)) (.ref (ca j)) _ (pe_glob (X := Xs X a oe pn) (glob_ok x.sc hg) hj.gC rfl (beq_false_of_ne hz1)) (fun u r => r) (x.prs _ hcn _ hzc _ _ hci ej).1 _ _
        · split at h
          case isFalse => cases h
          rename_i hve
          cases h
          obtain ⟨rfl, hb⟩ := hve
          exact key _ _ _ (.ty "ValueError") (.type "ValueError") _ (pe_bltn (X := Xs X a oe pn) (glob_ok x.sc hg) (x.blt _ (List.contains_iff_mem.mp hb)) boot_ve rfl (by decide +kernel) (by decide +kernel)) (fun u r => r) hc.ve _ _
      · cases h
    · cases h
theorem sEnd_ret {r : SR} {nx nx' bk bk' ct ct' : L2.St → Hp → Prop} {rt : VK} {H : Hp} (h : sEnd r rt H) : sEnd r (Ends.rt ⟨nx, rt, bk, ct⟩) H := h
theorem suiS_ok (x : XOk I ca C lv X sc) (hfn : X.fn = fun _ => true) (hc : ClsF X.K X.mg (clsNm c) (ca c)) (hcn : clsNm c ∈ I.cls) (hci : clsIx (clsNm c) = some c) (hz : Zc (.ref (ca c)) none oe) (hf : ∃ vs, oe.data = .fields vs) :
    ∀ (n : Nat) (kn : List (Str × D)) (k : List (Nat × V)) (ss : List Stmt) (r : SR), KnC X.N nm a kn k → compXS I sc c nm (locB sc) n kn ss = some r → PSs (Xs X a oe pn) ss (tKr k r)
  | 0, kn, k, ss, r, hk, h => by cases h
  | n + 1, kn, k, ss, r, hk, h => by
    have ie := fun e d h => sui_ok (k := k) (pn := pn) x hc hcn hci hz hf n kn e d hk h
    have is_ := fun kn k ss r hk h => suiS_ok x hfn hc hcn hci hz hf n kn k ss r hk h
    unfold compXS at h
    split at h
    · obtain ⟨ho, h⟩ := if_some h
      obtain ⟨d, e1, rfl⟩ := mopt h
      have g := (ie _ _ e1).1
      exact PSs.weak (pss_one (ps_ret (pe_lst (pa_cons g pa_nil (star_cons ho))))) fun D σ H q => ⟨q.1, by show 1 ≤ sizeLine; decide, q.2⟩
    · obtain ⟨d, e1, rfl⟩ := mopt h
      exact PSs.weak (pss_one (ps_ret (ie _ _ e1).1)) fun D σ H q => q
    · cases h
      exact PSs.weak (pss_one ps_retN) fun D σ H q => q.2
    · obtain ⟨hn, h⟩ := if_some h
      split at h
      · rename_i v r1 r2 e1 e2 e3
        cases h
        refine PSs.weak (pss_cons (ps_if ((ie _ _ e1).2 _ rfl hn) (is_ _ _ _ _ hk e2) pss_nil) (is_ _ _ _ _ hk e3)) fun D σ H q => ⟨q.1, ?_⟩
        cases v with
        | true => exact q
        | false => exact q
      · cases h
    · rename_i y py e p rest
      obtain ⟨hl, h⟩ := if_none h
      split at h
      · rename_i hh
        obtain ⟨hlc, hnm, hkn, hsl⟩ := hh
        obtain ⟨d, e1, h⟩ := bopt h
        obtain ⟨j, ej⟩ := Option.isSome_iff_exists.mp hsl
        have hj : X.N[j]? = some y := by rw [x.N]; exact slotOf_ok ej
        have hnd : X.N.Nodup := by rw [x.N]; exact x.nd
        have hk2 : KnC X.N nm a ((y, d) :: kn) ((j, dv d) :: k) := by
          refine ⟨fun z dz e => ?_, fun z e => ?_, fun p hp => ?_⟩
          · rw [List.lookup_cons] at e
            cases hzy : (z == y) with
            | true =>
              rw [hzy] at e
              cases e
              rw [eq_of_beq hzy]
              exact ⟨j, hj, List.mem_cons_self⟩
            | false =>
              rw [hzy] at e
              obtain ⟨i, h1, h2⟩ := hk.hkn z dz e
              exact ⟨i, h1, List.mem_cons_of_mem _ h2⟩
          · obtain ⟨i, h1, h2⟩ := hk.hnm z e
            exact ⟨i, h1, List.mem_cons_of_mem _ h2⟩
          · rcases List.mem_cons.mp hp with rfl | hp
            · exact ⟨y, hj, .inr (by rw [List.lookup_cons, beq_self_eq_true]; rfl)⟩
            · obtain ⟨z, h1, h2⟩ := hk.hon p hp
              refine ⟨z, h1, h2.imp id fun h3 => ?_⟩
              rw [List.lookup_cons]
              cases (z == y) with
              | true => rfl
              | false => exact h3
        have hloc : Loc X.env.scope y := by rw [x.sc]; exact loc_ok hlc
        have key := pss_cons (ps_set (X := Xs X a oe pn) (pos := p) (pos' := py) hnd hj hloc (ie _ _ e1).1 (by
          unfold swapsWith
          cases e <;> first | rfl | cases hl) (.inl (by show X.fn y = true; rw [hfn]))) (is_ _ _ _ _ hk2 h)
        refine ⟨fun pins s σ H D I q => key.run pins s σ H D I ⟨q.1, fun p hp => ?_, q.2⟩⟩
        have hlen : j < σ.length := by rw [I.len]; exact (List.getElem?_eq_some_iff.mp hj).1
        rcases List.mem_cons.mp hp with rfl | hp
        · exact List.getElem?_set_self hlen
        · obtain ⟨z, h1, h2⟩ := hk.hon p hp
          have hne : p.1 ≠ j := fun e => by
            rw [e, hj] at h1
            cases h1
            rcases h2 with h2 | h2
            · exact hnm h2
            · rw [hkn] at h2; cases h2
          rw [List.getElem?_set_ne (Ne.symm hne)]
          exact q.1 p hp
      · cases h
    · cases h
end
end U

set_option maxHeartbeats 1000000
namespace U
open PySem PySem.Spec PyProof.Rows L2
section
variable {I : CI} {ca : Nat → Addr} {C : Nat → List SV → M RV} {k : Nat}
theorem swap_no {e : Expr} (h : isLc e = false) (t : Option Expr) (l : Nat) (env : PySem.Env) : swapsWith e t l env = pure false := by
  unfold swapsWith
  cases e <;> first | rfl | cases h
theorem swap_lc {elt : Expr} {gs : List Comprehension} {scope : Scope} {pos py : Pos} {y : Str} {l : Nat} {env : PySem.Env} (hk : env.scope.kind = .function) : swapsWith (.ListComp elt gs scope pos) (some (.Name y py)) l env = pure (swapB env.scope y py scope pos) := by
  have hb : env.blockKind = .function := by unfold PySem.Env.blockKind; rw [hk]; rfl
  unfold swapsWith swapB
  simp only [hb, PySem.Env.kindOf, Expr.pos]
  cases env.scope.names.lookup y with
  | none => rfl
  | some kd => cases kd <;> rfl
theorem stores_no {ts : List Expr} {e : Expr} (h : isTupE e = false) (env : PySem.Env) : swappedStores ts e env = pure none := by
  unfold swappedStores
  cases e <;> first | (cases h; done) | (cases ts with
    | nil => rfl
    | cons t r => cases r <;> cases t <;> rfl)
theorem isLc_lc {n : Nat} {sc : Scope} {e : Expr} {d : DE} (h : compE I n sc e = some d) (hl : isLc e = true) : ∃ elt tge iter ifs scope pos, e = .ListComp elt [⟨tge, iter, ifs, 0⟩] scope pos := by
  cases n with
  | zero => unfold compE at h; cases h
  | succ n =>
    unfold compE at h
    split at h <;> first | exact ⟨_, _, _, _, _, _, rfl⟩ | (cases hl; done) | (cases h; done)
/-- an expression by itself: a call may raise -/
theorem exp_ok {W : WX} : ∀ (n : Nat) (X : Cx) (sc : Scope) (e : Expr) (d : DE), XOk I ca C k X sc → Takes X W → compE I n sc e = some d → isCallE d = true → PE X e (tEb X.K true (fun σ ex H => W (.ref (ca ex.C)) none σ H) (evE C d))
  | 0, X, sc, e, d, x, tk, h, hcc => by unfold compE at h; cases h
  | n + 1, X, sc, e, d, x, tk, h, hcc => by
    have h0 := h
    unfold compE at h
    split at h
    · -- a name
      split at h
      · cases h
      · rename_i hd
        rw [not_or] at hd
        split at h
        · rename_i hv
          obtain ⟨i, ei, rfl⟩ := mopt h
          cases hcc
        · obtain ⟨hg, h⟩ := if_some h
          obtain ⟨c, ec, rfl⟩ := mopt h
          obtain ⟨u, v, hm, hr, hd'⟩ := x.kon _ _ ec
          cases hcc
    · cases h; cases hcc
    · cases h; cases hcc
    · cases h; cases hcc
    · cases h; cases hcc
    · obtain ⟨as, ea, rfl⟩ := mopt h
      cases hcc
    · obtain ⟨as, ea, rfl⟩ := mopt h
      cases hcc
    · obtain ⟨o, eo, h⟩ := bopt h
      obtain ⟨a, ea, h⟩ := bopt h
      obtain ⟨b, eb, rfl⟩ := mopt h
      have := op_ok eo
      subst this
      cases hcc
    · obtain ⟨a, ea, rfl⟩ := mopt h
      cases hcc
    · obtain ⟨a, ea, rfl⟩ := mopt h
      cases hcc
    · unfold compBool at h
      obtain ⟨a, ea, h⟩ := bopt h
      obtain ⟨b, eb, h⟩ := mopt h
      subst h
      split at hcc <;> cases hcc
    · obtain ⟨hm, h⟩ := if_none h
      obtain ⟨o, eo, h⟩ := bopt h
      obtain ⟨a, ea, h⟩ := bopt h
      obtain ⟨b, eb, rfl⟩ := mopt h
      have := cop_ok eo
      subst this
      cases hcc
    · obtain ⟨hm, h⟩ := if_none h
      obtain ⟨o, eo, h⟩ := bopt h
      obtain ⟨o2, eo2, h⟩ := bopt h
      obtain ⟨a, ea, h⟩ := bopt h
      obtain ⟨b, eb, h⟩ := bopt h
      obtain ⟨c, ec, rfl⟩ := mopt h
      have := cop_ok eo
      have := cop_ok eo2
      subst_vars
      cases hcc
    · obtain ⟨t, et, h⟩ := bopt h
      obtain ⟨a, ea, h⟩ := bopt h
      obtain ⟨b, eb, rfl⟩ := mopt h
      cases hcc
    · obtain ⟨a, ea, h⟩ := bopt h
      obtain ⟨lo, el, h⟩ := bopt h
      obtain ⟨hi, eh, rfl⟩ := mopt h
      cases hcc
    · obtain ⟨ho, h⟩ := if_some h
      obtain ⟨a, ea, h⟩ := bopt h
      obtain ⟨b, eb, rfl⟩ := mopt h
      cases hcc
    · obtain ⟨own, w, t, c, d, rfl, l⟩ := lc_ok (comp_ok n) x h0
      cases hcc
    · -- a call of a name
      obtain ⟨hdb, h⟩ := if_noneP h
      obtain ⟨hg, h⟩ := if_none h
      have hg := glob_ok x.sc (by simpa using hg)
      have hdb := beq_false_of_ne hdb
      split at h
      · rename_i f ef
        obtain ⟨he, h⟩ := if_none h
        obtain ⟨as, ea, rfl⟩ := mopt h
        obtain ⟨fa, fd, ps, np, hm, hk, hb, F, hlen⟩ := x.fns _ _ ef
        obtain ⟨a1, _, a3⟩ := args_ok (fun e _ d h => comp_ok n X sc e d x h) ea
        cases ‹List Expr› with
        | nil => cases he
        | cons a as' => exact se_callX rfl F x.gd x.rm hg hm hk hb hlen tk a1 hdb a3
      · obtain ⟨hbl, h⟩ := if_none h
        have hm := x.blt _ (List.contains_iff_mem.mp (by simpa using hbl))
        split at h
        · rename_i a b er
          obtain ⟨d1, e1, h⟩ := bopt h
          obtain ⟨d2, e2, h⟩ := mopt h
          subst h
          obtain ⟨y, p, p2, rfl, rfl, hb, ho, ho', hx⟩ := range_args er
          obtain ⟨g1, g2⟩ := bltG x hb
          rcases hx with rfl | rfl
          · cases hcc
          · cases hcc
        · split at h
          · rename_i a ea
            obtain ⟨d1, e1, rfl⟩ := mopt h
            obtain ⟨y, p, p2, rfl, rfl, hb, ho, rfl⟩ := set_arg ea
            obtain ⟨g1, g2⟩ := bltG x hb
            cases hcc
          split at h
          · rename_i a b ez
            obtain ⟨d1, e1, h⟩ := bopt h
            obtain ⟨d2, e2, rfl⟩ := mopt h
            obtain ⟨y, p, p2, rfl, rfl, hb, ho, ho', rfl⟩ := zip_args ez
            obtain ⟨g1, g2⟩ := bltG x hb
            cases hcc
          split at h
          · rename_i a ea
            obtain ⟨d1, e1, rfl⟩ := mopt h
            obtain ⟨y, p, p2, rfl, rfl, hb, ho, rfl⟩ := sset_arg ea
            obtain ⟨g1, g2⟩ := bltG x hb
            cases hcc
          split at h
          · rename_i a t ea
            obtain ⟨d1, e1, rfl⟩ := mopt h
            obtain ⟨p, rfl, rfl, hb, ho⟩ := isi_args ea
            obtain ⟨g1, g2⟩ := bltG x hb
            cases hcc
          split at h
          · obtain ⟨ho, h⟩ := if_some h
            obtain ⟨b1, eb, h⟩ := bopt h
            obtain ⟨d1, e1, rfl⟩ := mopt h
            have := b1_ok eb
            subst this
            cases hcc
          · obtain ⟨ho, h⟩ := if_some h
            obtain ⟨b1, eb, h⟩ := bopt h
            obtain ⟨d1, e1, h⟩ := bopt h
            obtain ⟨d2, e2, rfl⟩ := mopt h
            have := b2_ok eb
            subst this
            rw [Bool.and_eq_true] at ho
            cases hcc
          · cases h
    · obtain ⟨ks, ek, h⟩ := bopt h
      obtain ⟨hl, h⟩ := if_some h
      have hl := of_decide_eq_true hl
      obtain ⟨as, ea, rfl⟩ := mopt h
      obtain ⟨h1, h2⟩ := keys_ok ek
      cases hcc
    · obtain ⟨hc, h⟩ := if_some h
      obtain ⟨d1, e1, h⟩ := bopt h
      obtain ⟨d2, e2, h⟩ := bopt h
      obtain ⟨d3, e3, rfl⟩ := mopt h
      simp only [Bool.and_eq_true, decide_eq_true_eq] at hc
      obtain ⟨⟨⟨⟨c1, c2⟩, c3⟩, c4⟩, rfl⟩ := hc
      cases hcc
    · obtain ⟨hc, h⟩ := if_some h
      obtain ⟨m1, em, h⟩ := bopt h
      obtain ⟨d1, e1, h⟩ := bopt h
      obtain ⟨d2, e2, rfl⟩ := mopt h
      have := m1_ok em
      subst this
      rw [Bool.and_eq_true, Bool.and_eq_true] at hc
      cases hcc
    · cases h

theorem exp_ok' {W : WX} {n : Nat} {X : Cx} {sc : Scope} {e : Expr} {d : DE} (x : XOk I ca C k X sc) (tk : Takes X W) (h : compE I n sc e = some d) : PE X e (tEb X.K (isCallE d) (fun σ ex H => W (.ref (ca ex.C)) none σ H) (evE C d)) := by
  cases hc : isCallE d with
  | false => exact PE.strict (comp_ok n X sc e d x h).1
  | true => exact exp_ok n X sc e d x tk h hc
theorem body_ok {X : Cx} {Z : Exc → Hp → Prop} {f : Stmt → Option DS} : ∀ {ss : List Stmt} {d : DS}, (∀ s ∈ ss, ∀ d, f s = some d → PS X s (tS X.K Z (evS C d))) → compB f ss = some d → PSs X ss (tS X.K Z (evS C d))
  | [], d, _, h => by cases h; exact ss_skip
  | [s], d, hf, h => ss_one (hf s List.mem_cons_self d h)
  | s :: s2 :: ss, d, hf, h => by
    unfold compB at h
    obtain ⟨a, ea, h⟩ := bopt h
    obtain ⟨b, eb, rfl⟩ := mopt h
    exact ss_cons (hf s List.mem_cons_self a ea) (body_ok (fun s hs => hf s (List.mem_cons_of_mem _ hs)) eb)
theorem XOk.tr {X : Cx} {sc : Scope} (x : XOk I ca C k X sc) (pn : List (Addr × Obj)) {xe : Value → Shared → Prop} (hp : PassesOwn (model X.prog X.w) X.A X.env xe) : XOk I ca C k (X.tr pn xe) sc :=
  ⟨x.calm, x.gd, x.un, x.N, x.nd, x.sc, x.kd, x.rm, hp, x.fns, x.kon, x.blt, x.cls, x.prs⟩
theorem locO_ok {sc : Scope} {y : Str} (h : locO sc y = true) : sc.names.lookup y = some .local := by
  unfold locO at h
  split at h
  · assumption
  · cases h
theorem try_ok' {sc : Scope} {E : XK} {n : Nat} {X : Cx} {rt : Bool} {e : Expr} {hh : Str} {nm : Option Str} {b : Stmt} {suite : List Stmt} {d : DS} {p1 p2 p3 p4 : Pos} (x : XOk I ca C k X sc) (hf : X.fn = fun _ => true) (hst : X.stack = X.env :: X.outer) (hfr : X.env.frame = some X.env.locals) (tk : Takes X (fun cls d _ H => E cls d H))
    (h : compTry I sc (compE I n sc) rt e hh nm (b :: suite) = some d) : PS X (.Try [bodySt rt e p1] [.ExceptHandler (some (.Name hh p2)) nm (b :: suite) p3] [] [] p4) (tS X.K (ZE ca E) (evS C d)) := by
  unfold compTry at h
  obtain ⟨hc, h⟩ := if_none h
  rw [Bool.or_eq_false_iff, Bool.or_eq_false_iff] at hc
  obtain ⟨⟨hlc, hg⟩, hdb⟩ := hc
  have hg : globB sc hh = true := by simpa using hg
  have hdb : hh ≠ "__debug__" := by simpa using hdb
  split at h
  case h_2 => cases h
  rename_i g as c ef ec
  obtain ⟨hnm, h⟩ := if_some h
  obtain ⟨r, er, h⟩ := bopt h
  obtain ⟨hsr, h⟩ := if_some h
  cases h
  obtain ⟨hin, j, ej, hcn, hci, hsub⟩ : hh ∈ I.cls ∧ ∃ j, clsIx hh = some j ∧ clsNm c ∈ I.cls ∧ clsIx (clsNm c) = some c ∧ subC c j = true := by
    unfold tryCls at ec
    split at ec
    · rename_i hin
      split at ec
      · rename_i e0
        split at ec
        · rename_i h2
          cases ec
          exact ⟨hin, 0, by rw [e0]; rfl, h2.1, h2.2, by unfold subC; simp⟩
        · cases ec
      · refine ⟨hin, c, ec, ?_⟩
        have key : clsNm c = hh ∧ clsIx (clsNm c) = some c := by
          unfold clsIx at ec
          repeat (split at ec; (rename_i e9; cases ec; exact ⟨e9.symm, by rfl⟩))
          cases ec
        exact ⟨by rw [key.1]; exact hin, key.2, by unfold subC; simp⟩
    · cases ec
  have hcls : ClsF X.K X.mg (clsNm c) (ca c) := (x.cls _ hcn c hci).1
  have hhcls : ClsF X.K X.mg hh (ca j) := (x.cls _ hin j ej).1
  have hN : Names X hh (.ref (ca j)) := ⟨glob_ok x.sc hg, beq_false_of_ne hdb, .inl hhcls.gC⟩
  have hm := (x.prs _ hcn _ hin _ _ hci ej).2
  rw [hsub] at hm
  have hcall : ∀ (W : WX) (pn : List (Addr × Obj)) (xe : Value → Shared → Prop), Takes (X.tr pn xe) W → PassesOwn (model X.prog X.w) X.A X.env xe → PSs (X.tr pn xe) [bodySt rt e p1] (bodyT rt (tEb X.K true (fun σ e H => W (.ref (ca e.C)) none σ H) (callF C g (evA C as)))) := fun W pn xe tkW hp => body_st (exp_ok n _ sc e _ (x.tr pn hp) tkW ef rfl) (swap_no hlc _ _ _)
  cases nm with
  | none =>
    exact ss_try0 (cl := ca) hst hfr hN tk hsr hm hcall fun a oe pn hz hv => suiS_ok x hf hcls hcn hci hz hv 40 [] [] _ r ⟨(fun x d h => by cases h), (fun y h => by cases h), (fun p h => by cases h)⟩ er
  | some m =>
    rw [Bool.and_eq_true] at hnm
    obtain ⟨i, ei⟩ := Option.isSome_iff_exists.mp hnm.2
    have hi : X.N[i]? = some m := by rw [x.N]; exact slotOf_ok ei
    refine ss_try1 (cl := ca) (i := i) hst hfr (by rw [x.N]; exact x.nd) hi ?_ hN tk hsr hm hcall fun a oe pn hz hv => suiS_ok x hf hcls hcn hci hz hv 40 [] [(i, .ref a)] _ r ⟨(fun x d h => by cases h), fun y h => ?_, fun p h => ?_⟩ er
    · show X.env.scope.names.lookup m = some .local
      rw [x.sc]
      exact locO_ok hnm.1
    · cases h; exact ⟨i, hi, List.mem_cons_self⟩
    · rw [List.mem_singleton.mp h]; exact ⟨m, hi, .inl rfl⟩
theorem stmt_ok {sc : Scope} {E : XK} : ∀ (n : Nat) (X : Cx) (st : Stmt) (d : DS), XOk I ca C k X sc → X.fn = (fun _ => true) → X.stack = X.env :: X.outer → X.env.frame = some X.env.locals → Takes X (fun cls d _ H => E cls d H) → compS I sc n st = some d → PS X st (tS X.K (ZE ca E) (evS C d))
  | 0, X, st, d, x, hf, hst, hfr, tk, h => by unfold compS at h; cases h
  | n + 1, X, st, d, x, hf, hst, hfr, tk, h => by
    have ih := stmt_ok (sc := sc) (E := E) n
    have hp : PassesOwn (model X.prog X.w) X.A X.env X.xe := x.hp
    have hfn : ∀ y, X.fn y = true ∨ X.env.scope.names.lookup y = some .local := fun y => .inl (by rw [hf])
    have htg : ∀ y, locB sc y = true → Loc X.env.scope y ∧ (X.fn y = true ∨ X.env.scope.names.lookup y = some .local) := fun y hy => ⟨by rw [x.sc]; exact loc_ok hy, hfn y⟩
    have hN : X.N.Nodup := by rw [x.N]; exact x.nd
    have hsl : ∀ {y i}, slotOf I.N y = some i → X.N[i]? = some y := fun h => by rw [x.N]; exact slotOf_ok h
    unfold compS at h
    split at h
    · obtain ⟨hl, h⟩ := if_none h
      obtain ⟨d, e1, rfl⟩ := mopt h
      exact ss_expr (exp_ok' x tk e1) (swap_no hl _ _ _)
    · rename_i y px e pos
      obtain ⟨hl, h⟩ := if_some h
      obtain ⟨i, ei, h⟩ := bopt h
      obtain ⟨d, e1, rfl⟩ := mopt h
      have hloc : Loc X.env.scope y := by rw [x.sc]; exact loc_ok hl
      cases hlc : isLc e with
      | false => exact ss_set hN (hsl ei) hloc (exp_ok' x tk e1) (swap_no hlc _ _ _) (hfn y)
      | true =>
        obtain ⟨elt, tge, iter, ifs, scope, lpos, rfl⟩ := isLc_lc e1 hlc
        have hsw := swap_lc (elt := elt) (gs := [⟨tge, iter, ifs, 0⟩]) (scope := scope) (pos := lpos) (py := px) (y := y) (l := pos.line) x.kd
        cases hb : swapB X.env.scope y px scope lpos with
        | false => rw [hb] at hsw; exact ss_set hN (hsl ei) hloc (exp_ok' x tk e1) hsw (hfn y)
        | true =>
          rw [hb] at hsw
          cases n with
          | zero => unfold compE at e1; cases e1
          | succ n =>
            obtain ⟨own, w, t, c, d, rfl, l⟩ := lc_ok (comp_ok n) x e1
            have hy : X.env.scope.names.lookup y = some .local := by
              unfold swapB at hb
              rw [Bool.and_eq_true, Bool.and_eq_true] at hb
              have := hb.1.1
              split at this
              · assumption
              · cases this
            have := ss_setLc (Z := ZE ca E) (m := I.mu.contains y) (i := i) (pos := pos) rfl x.calm hN (hsl ei) hy hsw l.hi l.ok l.htg l.hg l.ht l.he l.hs
            rw [l.own] at this
            exact this
    · obtain ⟨hl, h⟩ := if_none h
      rw [Bool.or_eq_false_iff] at hl
      obtain ⟨t, et, h⟩ := bopt h
      obtain ⟨d, e1, rfl⟩ := mopt h
      have hg := tg_ok (I := I) et x.N x.nd x.calm htg
      obtain ⟨is, ei, rfl⟩ := mopt et
      obtain ⟨t1, t2⟩ := tg_slots ei
      obtain ⟨t3, t4, t5⟩ := t2 X x.N x.nd htg
      exact ss_unp (exp_ok' x tk e1) hg (sg_manyL rfl x.calm t3 t4 t5) (by unfold swapsWithSole; exact swap_no hl.1 _ _ _) (stores_no hl.2 _) rfl
    · obtain ⟨hl, h⟩ := if_none h
      obtain ⟨ho, h⟩ := if_some h
      obtain ⟨o', e1, h⟩ := bopt h
      obtain ⟨i', e2, h⟩ := bopt h
      obtain ⟨d, e3, rfl⟩ := mopt h
      exact ss_setIx (comp_ok _ _ _ _ _ x e3).1 (comp_ok _ _ _ _ _ x e1).1 (comp_ok _ _ _ _ _ x e2).1 ho (by unfold swapsWithSole; exact swap_no hl _ _ _) (by
        unfold swappedStores
        cases ‹Expr› <;> rfl)
    · obtain ⟨d, e1, rfl⟩ := mopt h
      exact ss_ret (exp_ok' x tk e1)
    · cases h; exact ss_retN
    · obtain ⟨c, ec, h⟩ := bopt h
      obtain ⟨a, ea, h⟩ := bopt h
      obtain ⟨b, eb, rfl⟩ := mopt h
      exact ss_if (comp_ok _ _ _ _ _ x ec).2 (body_ok (fun s _ d h => ih X s d x hf hst hfr tk h) ea) (body_ok (fun s _ d h => ih X s d x hf hst hfr tk h) eb)
    · obtain ⟨ho, h⟩ := if_some h
      rw [Bool.and_eq_true] at ho
      obtain ⟨t, et, h⟩ := bopt h
      obtain ⟨w, ew, h⟩ := bopt h
      obtain ⟨b, eb, rfl⟩ := mopt h
      exact ss_for hp x.calm (walk_ok x (fun e d h => comp_ok _ _ _ _ _ x h) ew) (tg_ok (I := I) et x.N x.nd x.calm htg) (body_ok (fun s _ d h => ih X s d x hf hst hfr tk h) eb) (noset ho.2 _)
    · obtain ⟨c, ec, h⟩ := bopt h
      obtain ⟨b, eb, rfl⟩ := mopt h
      exact ss_whl hp (comp_ok _ _ _ _ _ x ec).2 (body_ok (fun s _ d h => ih X s d x hf hst hfr tk h) eb)
    · split at h
      · rename_i hh
        obtain ⟨j, ej, h⟩ := bopt h
        split at h
        · cases h
        · rename_i hj
          cases h
          rw [not_or] at hj
          obtain ⟨q1, q2⟩ := x.cls _ hh.1 j ej
          exact ss_raise x.calm tk q1 (q2 hj.1 hj.2) (glob_ok x.sc hh.2.1) (beq_false_of_ne hh.2.2)
      · cases h
        exact ⟨fun pins s σ H D I h => by obtain ⟨w, ρ, S, hr, sl, p⟩ := h; exact False.elim p⟩
    · cases h
      exact ⟨fun pins s σ H D I h => by obtain ⟨w, ρ, S, hr, sl, p⟩ := h; exact False.elim p⟩
    · exact try_ok' (rt := false) x hf hst hfr tk h
    · exact try_ok' (rt := true) x hf hst hfr tk h
    · cases h; exact ss_brk
    · cases h; exact ss_cont
    · cases h
end
end U

/-! UHead: a module of defs as a table of trees; the law's end. -/
namespace U
open PySem PySem.Spec PyProof.Rows L2

/-! ### constants -/
mutual
def conB (K : PySem.W.Frag) : D → Value → Bool
  | .non, .none => true
  | .bl b, .bool c => decide (b = c)
  | .int i, .int j _ => decide (i = j)
  | .str x, .str y _ => decide (x = y)
  | .tup ds, .ref a => (match K.lookup a with
    | some ⟨.type c, _, .seq its _, _⟩ => decide (c = "tuple") && (decide (its.size ≤ sizeLine) && conBs K ds its.toList)
    | _ => false)
  | .rol ds, .ref a => (match K.lookup a with
    | some ⟨.type c, none, .seq its _, _⟩ => decide (c = "list") && (decide (its.size ≤ sizeLine) && conBs K ds its.toList)
    | _ => false)
  | _, _ => false
def conBs (K : PySem.W.Frag) : List D → List Value → Bool
  | [], [] => true
  | d :: ds, u :: us => conB K d u && conBs K ds us
  | _, _ => false
end
theorem ba2 {a b : Bool} (h : (a && b) = true) : a = true ∧ b = true := Bool.and_eq_true_iff.mp h
section
variable {K : PySem.W.Frag}
mutual
theorem conB_ok : ∀ (d : D) (u : Value), conB K d u = true → ∃ v, RelV v u ∧ ∀ F g, RD K F g d v
  | .non, u, h => by
    cases u <;> first | exact ⟨.non, rfl, fun F g => rfl⟩ | cases h
  | .bl b, u, h => by
    cases u <;> first | cases h; done | skip
    have h : decide (b = _) = true := h
    have := of_decide_eq_true h
    subst this
    exact ⟨.bl b, rfl, fun F g => rfl⟩
  | .int i, u, h => by
    cases u <;> first | cases h; done | skip
    have h : decide (i = _) = true := h
    have := of_decide_eq_true h
    subst this
    exact ⟨.int i, ⟨_, rfl⟩, fun F g => rfl⟩
  | .str i, u, h => by
    cases u <;> first | cases h; done | skip
    have h : decide (i = _) = true := h
    have := of_decide_eq_true h
    subst this
    exact ⟨.str i, ⟨_, rfl⟩, fun F g => rfl⟩
  | .tup ds, u, h => by
    cases u with
    | ref a =>
      unfold conB at h
      split at h
      · rename_i c od its n sl e
        obtain ⟨h1, h⟩ := ba2 h
        obtain ⟨h2, h3⟩ := ba2 h
        have h1 := of_decide_eq_true h1
        subst h1
        obtain ⟨vs, hv, hd⟩ := conBs_ok ds _ h3
        exact ⟨.ref a, rfl, fun F g => ⟨a, vs, rfl, .inr ⟨_, its, n, e, rfl, rfl, of_decide_eq_true h2, hv⟩, hd F g⟩⟩
      · cases h
    | _ => cases h
  | .rol ds, u, h => by
    cases u with
    | ref a =>
      unfold conB at h
      split at h
      · rename_i c its n sl e
        obtain ⟨h1, h⟩ := ba2 h
        obtain ⟨h2, h3⟩ := ba2 h
        have h1 := of_decide_eq_true h1
        subst h1
        obtain ⟨vs, hv, hd⟩ := conBs_ok ds _ h3
        exact ⟨.ref a, rfl, fun F g => ⟨a, vs, rfl, .inr ⟨_, its, n, e, rfl, rfl, rfl, of_decide_eq_true h2, hv⟩, hd F g⟩⟩
      · cases h
    | _ => cases h
  | .lst ds, u, h => by cases u <;> cases h
  | .dic ds, u, h => by cases u <;> cases h
  | .ref i, u, h => by cases u <;> cases h
theorem conBs_ok : ∀ (ds : List D) (us : List Value), conBs K ds us = true → ∃ vs, Vals vs us ∧ ∀ F g, RDs K F g ds vs
  | [], us, h => by
    cases us with
    | nil => exact ⟨[], .nil, fun F g => rfl⟩
    | cons _ _ => cases h
  | d :: ds, us, h => by
    cases us with
    | nil => cases h
    | cons u us =>
      have h : (conB K d u && conBs K ds us) = true := h
      obtain ⟨h1, h2⟩ := ba2 h
      obtain ⟨v, hv, hd⟩ := conB_ok d u h1
      obtain ⟨vs, hvs, hds⟩ := conBs_ok ds us h2
      exact ⟨v :: vs, .cons hv hvs, fun F g => ⟨v, vs, rfl, hd F g, hds F g⟩⟩
end
end

/-! ### a def -/
structure UDef where
  d : He.DefD
  ps : List Str
  N : List Str
  mu : List Str
  fd : FD
def tbl (us : List UDef) (i : Nat) : Option FD := (us[i]?).map (·.fd)
def UDef.ci (fns : List (Str × Nat)) (kon : List (Str × D)) (blt : List Str) (cls : List Str) (hint : Nat) (u : UDef) : CI := ⟨u.N, fns, kon, u.mu, blt, cls, hint⟩
/-- what is asked of a def's tree -/
structure UOk (fns : List (Str × Nat)) (kon : List (Str × D)) (blt : List Str) (cls : List Str) (hint : Nat) (u : UDef) : Prop where
  at_ : u.d.at_ = (u.d.name, none)
  dfl : u.d.dfl = [] := by rfl
  kwd : u.d.kwd = [] := by rfl
  sc : FnScope u.N u.ps u.d.scope
  np : u.fd.np = u.ps.length := by rfl
  ns : u.N.length = u.fd.ns := by rfl
  body : compB (compS (u.ci fns kon blt cls hint) u.d.scope 60) u.d.body = some u.fd.body
  binds : ∀ (kV doc pm : Value) (an : Option Addr) (cdv ct : Value) (us : List Value), us.length = u.ps.length → bindArgs (PySem.W.fnOf u.d.name u.d.qual u.d.params u.d.body u.d.scope .none kV doc pm an cdv ct) ⟨us, []⟩ = pure (u.ps.zip us)
def fnsOk (us : List UDef) (fns : List (Str × Nat)) : Prop := ∀ x f, fns.lookup x = some f → ∃ u, us[f]? = some u ∧ u.d.name = x
def fnsC (us : List UDef) (fns : List (Str × Nat)) : Bool := fns.all fun p => match us[p.2]? with
  | some u => decide (u.d.name = p.1)
  | none => false
theorem lookup_mem {α β : Type} [BEq α] [LawfulBEq α] {x : α} {y : β} : ∀ {l : List (α × β)}, l.lookup x = some y → (x, y) ∈ l
  | [], h => by cases h
  | (a, b) :: l, h => by
    rw [List.lookup_cons] at h
    cases e : (x == a) with
    | true => rw [e] at h; cases h; rw [eq_of_beq e]; exact List.mem_cons_self
    | false => rw [e] at h; exact List.mem_cons_of_mem _ (lookup_mem h)
theorem fnsC_ok {us : List UDef} {fns : List (Str × Nat)} (h : fnsC us fns = true) : fnsOk us fns := fun x f e => by
  have h1 := List.all_eq_true.mp h _ (lookup_mem e)
  dsimp only at h1
  split at h1
  · rename_i u eu
    exact ⟨u, eu, of_decide_eq_true h1⟩
  · cases h1

/-! ### the head's facts -/
def exB0 (fns : List (Str × Nat)) (kon : List (Str × D)) (blt : List Str) (K : PySem.W.Frag) : Bool :=
  (fns.all fun p => (He.Fa.glo p.1).ok K) && ((blt.all fun x => (He.Fa.free x).ok K) && kon.all fun p => match PySem.W.nsIn K mainGlobals p.1 with
    | some (some u) => conB K p.2 u
    | _ => false)
/-- a class of exceptions -/
def clsB (K : PySem.W.Frag) (x : Str) : Bool :=
  (He.Fa.glo x).ok K && (PySem.W.keepIn K (.ref (He.ga K x)) && (PySem.W.subIn K (.ref (He.ga K x)) (.type "BaseException") == some true && (PySem.W.typeIn K (.ref (He.ga K x)) == some (.type "type") &&
  (PySem.W.findIn K (.ref (He.ga K x)) "__getattribute__" == some (some (.builtin "BaseException.__getattribute__")) && (PySem.W.findIn K (.ref (He.ga K x)) "__getattr__" == some none && (PySem.W.hasDictIn K (He.ga K x) &&
  (PySem.W.findIn K (.ref (He.ga K x)) "__class__" == some (some (.builtin "object.__class__")) && (PySem.W.specialIn K (.builtin "object.__class__") "__get__" == some (some (.builtin "getset_descriptor.__get__")) &&
  (PySem.W.takesIn K (.builtin "object.__class__") == some true && (PySem.W.mroIn K (He.ga K x) (.type "object") == some true && (PySem.W.kitOne K (.ref (He.ga K x)) (.type "ValueError") == some true &&
  (decide (x = "BadProgram" ∨ x = "BadEntry") || PySem.W.excIn K (He.ga K x) bmV "ValueError.__new__"))))))))))))
def prB (K : PySem.W.Frag) (x y : Str) : Bool := match clsIx x, clsIx y with
  | some i, some j => PySem.W.kitOne K (.ref (He.ga K x)) (.ref (He.ga K y)) == some (subC i j) && PySem.W.exmOne K (.ref (He.ga K x)) (.ref (He.ga K y)) == some (subC i j)
  | _, _ => false
def exB (fns : List (Str × Nat)) (kon : List (Str × D)) (blt : List Str) (cls : List Str) (K : PySem.W.Frag) : Bool :=
  exB0 fns kon blt K && ((cls.all fun x => clsB K x) && cls.all fun x => cls.all fun y => prB K x y)
abbrev AlU : Type := He.AlD × Bool
def SaysU (fn : List He.DefD) (ex : PySem.W.Frag → Bool) (K : PySem.W.Frag) : Prop := He.SaysD [] fn K ∧ ex K = true
def obsU (n : Nat) (fn : List He.DefD) (ex : PySem.W.Frag → Bool) (g : Addr → Option Obj) : AlU := (He.obsD [] fn (He.frG g (He.asD g n)), ex (He.frG g (He.asD g n)))
def hookU (n : Nat) (fn : List He.DefD) (ex : PySem.W.Frag → Bool) : PySem.W.Hook where
  α := AlU
  obs := fun s => obsU n fn ex s.heap.get?
  val := fun _ => (He.valD fn, true)
  says := fun _ h => ∃ K : PySem.W.Frag, K.In h ∧ SaysU fn ex K
  of := fun _ _ e => ⟨_, He.frG_in, congrArg (fun z : AlU => z.1) e, congrArg (fun z : AlU => z.2) e⟩
  keeps := fun _ _ _ ⟨K, hK, c⟩ k => ⟨K, PySem.W.Frag.In.keeps hK k, c⟩
theorem obsU_eq {n : Nat} {fn : List He.DefD} {ex : PySem.W.Frag → Bool} {g : Addr → Option Obj} {s : Shared} (h : ∀ a, g a = s.heap.get? a) : obsU n fn ex g = (hookU n fn ex).obs s := by
  have e : g = s.heap.get? := funext h
  rw [e] <;> rfl

section
variable {P : Program} {w : World} {K : PySem.W.Frag} {mg : Str → Option Value} {base : Heap} {k : Nat}
theorem fnG_ofD {N ps : List Str} {x qual : Str} {params : Arguments} {body : List Stmt} {scope : Scope} {dvs : List V} {kws : List (Str × V)} {f : Addr} {fd : FuncData} {sp : Sp} {CX : CXT} (F : FunD K x qual params body scope dvs kws f fd) (S : FnScope N ps scope) (len : ∀ vs H Q E, sp vs H Q E → vs.length = ps.length)
    (hbody : ∀ (cdv : Value) (A : Around) (outer : List PySem.Env) (s : Shared) (H : Hp) (vs : List V) (Q : VK) (E : XK), A.guards = some [] →
      Room k (A.deeper (envOfC qual scope s.heap.objs.size f cdv)) → sp vs H Q E →
      ∃ t, PSs (cxOf CX P w K mg base N qual scope f cdv A outer s H E) body t ∧ t { nx := fun _ H' => Q .non H', rt := Q } (start N vs) H) :
    FnG P w K mg base CX (k + 1) f fd ps sp := by
  obtain ⟨oc, od, dV, kV, doc, pm, an, cdv, ct, osl, efd, lk, hcd, _, _⟩ := F.ex
  subst efd
  constructor
  · exact len
  · intro A outer s H args us vs Q E hg room e0 hb hv hsp
    have inK := e0.mod.kin.keeps (fun b o e => (e0.bs b o e).1)
    refine codeAny_call_function room.depth (inK f _ lk) rfl S.co S.gen rfl (PySem.W.codeRec_of inK hcd) (hb _ _ _ _ ?_)
    refine wpAny_newFunctionEnv_cells S.kind ?_ (fun env he s1 x => ?_)
    · rintro ⟨n, v⟩ hy
      cases S.par n (List.of_mem_zip hy).1 with
      | inl q => exact Or.inl q
      | inr q => exact Or.inr (And.intro q (PySem.W.cellsFrom_some _ _ _ (Or.inl q)))
    · subst he
      refine And.intro ((e0.mod.nolimit.keeps (fun b o e => (e0.bs b o e).1)).keeps x.toInCall.keep) (codeAny_func ?_)
      obtain ⟨t, ht, hq⟩ := hbody cdv A outer s H vs Q E hg (room.deeper _) hsp
      have start := inv_start (CX := CX) (E := E) S room.hd e0 (len _ _ _ _ hsp) hv x
      refine wpAny_mono (ht.run [] s1 _ H _ start hq) ?_ (fun _ _ z => z)
      intro fl s' z
      cases fl with
      | next => obtain ⟨_, H', J, q⟩ := z; exact ⟨V.non, H', J.os, J.bare, J.base, J.hok, rfl, q⟩
      | ret u => obtain ⟨v, _, H', J, rv, q⟩ := z; exact ⟨v, H', J.os, J.bare, J.base, J.hok, rv, q⟩
      | cont => obtain ⟨_, _, _, q⟩ := z; exact q.elim
      | brk => obtain ⟨_, _, _, q⟩ := z; exact q.elim

variable {us : List UDef} {fns : List (Str × Nat)} {kon : List (Str × D)} {blt : List Str} {cls : List Str} {hint : Nat}
theorem cls_nm {x : Str} {j : Nat} (h : clsIx x = some j) : clsNm j = x := by
  unfold clsIx at h
  repeat (split at h; (rename_i e; cases h; exact e.symm))
  cases h
theorem cls_ok {h : Heap} (KX : K.In h) (G : h.Ns mainGlobals mg) {x : Str} (b : clsB K x = true) : ClsF K mg x (He.ga K x) ∧ (x ≠ "BadProgram" → x ≠ "BadEntry" → PySem.W.excIn K (He.ga K x) bmV "ValueError.__new__" = true) := by
  unfold clsB at b
  obtain ⟨b0, b⟩ := ba2 b
  obtain ⟨b1, b⟩ := ba2 b
  obtain ⟨b2, b⟩ := ba2 b
  obtain ⟨b3, b⟩ := ba2 b
  obtain ⟨b4, b⟩ := ba2 b
  obtain ⟨b5, b⟩ := ba2 b
  obtain ⟨b6, b⟩ := ba2 b
  obtain ⟨b7, b⟩ := ba2 b
  obtain ⟨b8, b⟩ := ba2 b
  obtain ⟨b9, b⟩ := ba2 b
  obtain ⟨b10, b⟩ := ba2 b
  obtain ⟨b11, b⟩ := ba2 b
  refine ⟨⟨He.glo_ok KX G b0, b1, eq_of_beq b2, eq_of_beq b3, ⟨eq_of_beq b4, eq_of_beq b5, eq_of_beq b2, b6, eq_of_beq b7, eq_of_beq b8, eq_of_beq b9, eq_of_beq b10⟩, eq_of_beq b11⟩, fun n1 n2 => ?_⟩
  rcases (Bool.or_eq_true _ _ ▸ b : _ ∨ _) with b | b
  · exact ((of_decide_eq_true b).elim n1 n2).elim
  · exact b
theorem pr_ok {x y : Str} {i j : Nat} (b : prB K x y = true) (hx : clsIx x = some i) (hy : clsIx y = some j) : PySem.W.kitOne K (.ref (He.ga K x)) (.ref (He.ga K y)) = some (subC i j) ∧ PySem.W.exmOne K (.ref (He.ga K x)) (.ref (He.ga K y)) = some (subC i j) := by
  unfold prB at b
  rw [hx, hy] at b
  obtain ⟨b1, b2⟩ := ba2 b
  exact ⟨eq_of_beq b1, eq_of_beq b2⟩
theorem kon_ok (X : ∀ {y v}, PySem.W.nsIn K mainGlobals y = some (some v) → mg y = some v) (h : (kon.all fun p => match PySem.W.nsIn K mainGlobals p.1 with
    | some (some u) => conB K p.2 u
    | _ => false) = true) {x : Str} {d : D} (e : kon.lookup x = some d) : ∃ (u : Value) (v : V), mg x = some u ∧ RelV v u ∧ ∀ F g, RD K F g d v := by
  have h1 := List.all_eq_true.mp h _ (lookup_mem e)
  dsimp only at h1
  split at h1
  · rename_i u eu
    obtain ⟨v, hv, hd⟩ := conB_ok d u h1
    exact ⟨u, v, X eu, hv, hd⟩
  · cases h1
theorem def_at {i : Nat} {u : UDef} (c : He.SaysD [] (us.map (·.d)) K) (O : ∀ u ∈ us, UOk fns kon blt cls hint u) (h : us[i]? = some u) : ∃ fd, FunD K u.d.name u.d.qual u.d.params u.d.body u.d.scope [] [] (He.ga K u.d.name) fd := by
  obtain ⟨fd, F⟩ := c.def_ i (d := u.d) (by rw [List.getElem?_map, h]; rfl)
  have o := O u (List.mem_of_getElem? h)
  refine ⟨fd, ?_⟩
  unfold He.DefD.dvs He.DefD.kws at F
  rw [o.dfl, o.kwd, o.at_] at F
  exact F
/-- every def keeps what its tree says -/
theorem defs_ok {h : Heap} (KX : K.In h) (G : h.Ns mainGlobals mg) (c : SaysU (us.map (·.d)) (exB fns kon blt cls) K) (O : ∀ u ∈ us, UOk fns kon blt cls hint u) (fo : fnsOk us fns) :
    ∀ (n i : Nat) (u : UDef) (fd : FuncData), us[i]? = some u → FunD K u.d.name u.d.qual u.d.params u.d.body u.d.scope [] [] (He.ga K u.d.name) fd → FnG P w K mg base (L2.CX P w) n (He.ga K u.d.name) fd u.ps (spC K (fun j => He.ga K (clsNm j)) (callN (tbl us) n) u.fd.np i)
  | 0, i, u, fd, hu, F => by
    have o := O u (List.mem_of_getElem? hu)
    refine ⟨fun vs H Q E h => ?_, fun A outer s H args us vs Q E _ _ _ _ _ h => ?_⟩
    · obtain ⟨w, S, svs, hl, hr, q, p⟩ := h
      rw [q.len, hl, o.np]
    · obtain ⟨w, S, svs, hl, hr, q, p⟩ := h
      exact False.elim p
  | n + 1, i, u, fd, hu, F => by
    have o := O u (List.mem_of_getElem? hu)
    have et : tbl us i = some u.fd := by unfold tbl; rw [hu]; rfl
    refine fnG_ofD F o.sc (fun vs H Q E h => ?_) fun cdv A outer s H vs Q E hg hr h => ?_
    · obtain ⟨w, S, svs, hl, hr, q, p⟩ := h
      rw [q.len, hl, o.np]
    · obtain ⟨w', S, svs, hl, hr', q, p⟩ := h
      obtain ⟨e1, e4⟩ := ba2 c.2
      obtain ⟨e4, e5⟩ := ba2 e4
      obtain ⟨e1, e2⟩ := ba2 e1
      obtain ⟨e2, e3⟩ := ba2 e2
      have x : XOk (u.ci fns kon blt cls hint) (fun j => He.ga K (clsNm j)) (callN (tbl us) n) n (cxOf (L2.CX P w) P w K mg base u.N u.d.qual u.d.scope (He.ga K u.d.name) cdv A outer s H E) u.d.scope :=
        { calm := rfl, gd := hg, un := by have := hr.un; show (A.deeper _).units + 65 < cLine; omega, N := rfl, nd := o.sc.nd, sc := rfl, kd := o.sc.kind, rm := hr, hp := passes_of rfl
          fns := fun y f ey => by
            obtain ⟨v, hv, en⟩ := fo y f ey
            have ov := O v (List.mem_of_getElem? hv)
            obtain ⟨fdv, Fv⟩ := def_at c.1 O hv
            have g := List.all_eq_true.mp e1 _ (lookup_mem ey)
            subst en
            refine ⟨He.ga K v.d.name, fdv, v.ps, v.fd.np, He.glo_ok KX G g, Fv.kp, Fv.bindsN ov.binds, defs_ok KX G c O fo n f v fdv hv Fv, fun vs S e => ?_⟩
            cases n with
            | zero => exact absurd rfl e
            | succ n =>
              have et : tbl us f = some v.fd := by unfold tbl; rw [hv]; rfl
              unfold callN at e
              rw [et] at e
              exact runF_len e
          kon := fun y d ey => kon_ok (fun e => PySem.W.mg_of KX G e) e3 ey
          blt := fun y hy => He.free_ok KX G (List.all_eq_true.mp e2 y hy)
          cls := fun y hy j ej => by
            have := cls_ok KX G (List.all_eq_true.mp e4 y hy)
            have e := cls_nm ej
            subst e
            refine ⟨this.1, fun n1 n2 => this.2 (fun z => ?_) fun z => ?_⟩
            · rw [z] at ej; cases ej; exact n1 rfl
            · rw [z] at ej; cases ej; exact n2 rfl
          prs := fun y hy z hz i j ei ej => by
            have := pr_ok (List.all_eq_true.mp (List.all_eq_true.mp e5 y hy) z hz) ei ej
            have e1 := cls_nm ei
            have e2 := cls_nm ej
            subst e1 e2
            exact this }
      refine ⟨_, body_ok (fun s _ d h => stmt_ok (E := E) 60 _ s d x rfl rfl rfl (takes_of rfl rfl rfl rfl) h) o.body, ?_⟩
      have p : PostB K true (ZE (fun j => He.ga K (clsNm j)) E) w' Q (runF (callN (tbl us) n) u.fd svs S) := by
        have p : PostB K true (ZE (fun j => He.ga K (clsNm j)) E) w' Q (callN (tbl us) (n + 1) i svs S) := p
        unfold callN at p
        rw [et] at p
        exact p
      exact run_fd o.ns hr' q p
end
/-- a law's end over such a head -/
theorem walk_U {l : PySem.W.OpenLaw} {n k : Nat} {q : Program} {loose : List Str} {XP : (Str → Option Value) → Heap → Prop} {YP : World → Heap → Prop} {d : DefRec} {x : Str}
    (hn : l.most = some n) (hn2 : n ≤ sizeLine) (hdf : d.params.defaults = []) (hr : Room k callerA)
    (F : ∀ (w : World) (mg : Str → Option Value) (fa : Addr) (h : Heap), YP w h → h.Ns mainGlobals mg → mg d.name = some (.ref fa) →
      ∃ (K : PySem.W.Frag) (fd : FuncData) (sp : Sp), K.In h ∧ (∀ (s : Shared) (u : Value), BindsTo s fd ⟨[u], []⟩ [(x, u)]) ∧
        (∀ (H : Hp) (a : Addr) (ns : List Int), ns.length ≤ n → SqL K H a (ns.map V.int) → sp [.ref a] H (fun v _ => v = .bl true) fun _ _ _ => False) ∧
        ∀ base : Heap, K.In base → base.Ns mainGlobals mg → FnG l.prog w K mg base CX0 k fa fd [x] sp) :
    PySem.W.WalkO q loose XP YP l.row.toRowW d [] (fun f vs => PySem.call f vs) := by
  apply Att.attach_call hn hdf
  intro w s₀ s₁ mg mb fa o pm cd doc a vs ns G Y ho hd hcd hmg hobj hints hlen hg
  obtain ⟨K, fd, sp, KX, hb, hsp, hF⟩ := F w mg fa _ Y G.T.g hmg
  exact law_callG KX G.T.g G.T.b G.T.builtins G.T.nolimit hg hobj hints (Nat.le_trans hlen hn2) hr hF hb fun H hS => hsp H a ns hlen hS
/-- a promise where no exception is wished for -/
def spN (sp : Sp) : Sp := fun vs H Q _ => sp vs H Q fun _ _ _ => False
theorem fnG_N {P : Program} {w : World} {K : PySem.W.Frag} {mg : Str → Option Value} {base : Heap} {k : Nat} {f : Addr} {fd : FuncData} {ps : List Str} {sp : Sp} (F : FnG P w K mg base (L2.CX P w) k f fd ps sp) : FnG P w K mg base CX0 k f fd ps (spN sp) :=
  ⟨fun vs H Q E h => F.len vs H Q _ h, fun A outer s H args us vs Q E hg r e b v q => codeAny_mono (F.run A outer s H args us vs Q _ hg r e b v q) fun res s' z => by
    match res, z with
    | .error e, ⟨_, _, _, _, _, _, _, _, _, _, _, _, z⟩ => exact z.elim
    | .ok (.ret u), z => exact z
    | .ok .next, z => exact z.elim
    | .ok .brk, z => exact z.elim
    | .ok .cont, z => exact z.elim⟩
theorem sp_start {K : PySem.W.Frag} {cl : Nat → Addr} {C : Nat → List SV → M RV} {i : Nat} {H : Hp} {a : Addr} {ns : List Int} {S' : St} (hS : SqL K H a (ns.map V.int)) (h : C i [.d (.rol (ns.map D.int))] ⟨[], [], []⟩ = .ok (.d (.bl true)) S') :
    spN (spC K cl C 1 i) [.ref a] H (fun v _ => v = .bl true) fun _ _ _ => False := by
  refine ⟨⟨H, [], [], [], []⟩, ⟨[], [], []⟩, [.d (.rol (ns.map D.int))], rfl, ⟨sub.refl H, rfl, rfl, rfl, ?_, .nil⟩, ⟨_, _, rfl, ⟨a, _, rfl, hS, rds_ints K ns⟩, rfl⟩, ?_⟩
  · intro p hp; cases hp
  · rw [h]
    exact fun w' H' v _ _ q => q
/-- the law's def, off the table -/
theorem law_U {l : PySem.W.OpenLaw} {n k i : Nat} {us : List UDef} {fns : List (Str × Nat)} {kon : List (Str × D)} {blt : List Str} {cls : List Str} {hint : Nat} {u : UDef} {x : Str} {q : Program} {loose : List Str} {XP : (Str → Option Value) → Heap → Prop} {d : DefRec} {m : Nat}
    (hn : l.most = some n) (hn2 : n ≤ sizeLine) (hdf : d.params.defaults = []) (hr : Room k callerA) (hi : us[i]? = some u) (hps : u.ps = [x]) (hname : d.name = u.d.name) (hin : fns.lookup u.d.name = some i)
    (O : ∀ u ∈ us, UOk fns kon blt cls hint u) (fo : fnsOk us fns)
    (law : ∀ ns : List Int, ns.length ≤ n → ∃ S', callN (tbl us) k i [.d (.rol (ns.map D.int))] ⟨[], [], []⟩ = .ok (.d (.bl true)) S') :
    PySem.W.WalkO q loose XP (hookU m (us.map (·.d)) (exB fns kon blt cls)).says l.row.toRowW d [] (fun f vs => PySem.call f vs) := by
  refine walk_U (k := k) (x := x) hn hn2 hdf hr fun w mg fa h Y G hmg => ?_
  obtain ⟨K, KX, c⟩ := Y
  obtain ⟨fd, F⟩ := def_at c.1 O hi
  have o := O u (List.mem_of_getElem? hi)
  have e : mg u.d.name = some (.ref (He.ga K u.d.name)) := He.glo_ok KX G (List.all_eq_true.mp (ba2 (ba2 c.2).1).1 _ (lookup_mem hin))
  rw [hname, e] at hmg
  cases hmg
  have hnp : u.fd.np = 1 := by rw [o.np, hps]; rfl
  refine ⟨K, fd, spN (spC K (fun j => He.ga K (clsNm j)) (callN (tbl us) k) 1 i), KX, fun s v => ?_, fun H a ns hl hS => ?_, fun base hb hg => ?_⟩
  · have := F.bindsA o.binds s [v] (by rw [hps]; rfl)
    rw [hps] at this
    exact this
  · obtain ⟨S', e⟩ := law ns hl
    exact sp_start hS e
  · have := defs_ok (P := l.prog) (w := w) (base := base) KX G c O fo k i u fd hi F
    rw [hnp, hps] at this
    exact fnG_N this
end U

/-! UTac: reading the trees. -/
namespace U
open PySem

/-- the result is a value with Q -/
def Res.post {α : Type} (r : Res α) (Q : α → St → Prop) : Prop := match r with
  | .ok a S => Q a S
  | _ => False
@[simp] theorem post_ok {α : Type} {a : α} {S : St} {Q : α → St → Prop} : (Res.ok a S).post Q = Q a S := (rfl)
theorem post_mono {α : Type} {r : Res α} {Q Q' : α → St → Prop} (h : r.post Q) (i : ∀ a S, Q a S → Q' a S) : r.post Q' := by
  cases r with
  | ok a S => exact i a S h
  | exc _ _ => exact h.elim
  | bad => exact h.elim
theorem post_ex {α : Type} {r : Res α} {Q : α → St → Prop} (h : r.post Q) : ∃ a S, r = .ok a S ∧ Q a S := by
  cases r with
  | ok a S => exact ⟨a, S, rfl, h⟩
  | exc _ _ => exact h.elim
  | bad => exact h.elim
/-- sequencing, as simp sees it -/
structure Tok {α : Type} (f : α) : Type where
def Res.go {α β : Type} (r : Res α) (f : α → St → Res β) (t : Tok f := ⟨⟩) (b : Bool := true) : Res β := match r with
  | .ok a S => f a S
  | .exc e S => match b with
    | true => .exc e S
    | false => .bad
  | .bad => .bad
@[simp] theorem go_ok {α β : Type} {a : α} {S : St} {f : α → St → Res β} {t : Tok f} {b : Bool} : (Res.ok a S).go f t b = f a S := (rfl)
@[simp] theorem go_exc {α β : Type} {e : Exc} {S : St} {f : α → St → Res β} {t : Tok f} : (Res.exc e S : Res α).go f t true = .exc e S := (rfl)
@[simp] theorem bindT_go {α β : Type} {b : Bool} {m : M α} {f : α → M β} {S : St} : M.bindT b m f S = (m S).go f ⟨⟩ b := (rfl)
@[simp] theorem bind_go {α β : Type} {m : M α} {f : α → M β} {S : St} : M.bind m f S = (m S).go f := (rfl)
@[simp] theorem ret_go {α : Type} {a : α} {S : St} : M.ret a S = .ok a S := (rfl)
@[simp] theorem bad_go {α : Type} {S : St} : (M.bad S : Res α) = .bad := (rfl)
@[simp] theorem opt_some {α : Type} {a : α} {S : St} : M.opt (some a) S = .ok a S := (rfl)
@[simp] theorem st_eta {S : St} : (⟨S.own, S.out, S.gl⟩ : St) = S := (rfl)
theorem post_go {α β : Type} {r : Res α} {f : α → St → Res β} {Q : β → St → Prop} (h : r.post fun a S => (f a S).post Q) : (r.go f).post Q := by
  cases r with
  | ok a S => exact h
  | exc _ _ => exact h.elim
  | bad => exact h.elim
/-- a call: the frame -/
def St.call (S : St) : St := ⟨[], S.own :: S.out, S.gl⟩
def endR (r : Res Flow) : Res RV := match r with
  | .ok (.ret r) S1 => leave S1 r
  | .ok (.next _) S1 => leave S1 (.d .non)
  | .ok _ _ => .bad
  | .exc e S1 => match popS S1 with
    | some S2 => .exc e S2
    | none => .bad
  | .bad => .bad
theorem call_eq {T : Nat → Option FD} {n f : Nat} {F : FD} {vs : List SV} {S : St} (h : T f = some F) (hl : vs.length = F.np) : callN T (n + 1) f vs S = endR (evS (callN T n) F.body ((vs.map fun v => some (shift v)) ++ List.replicate (F.ns - F.np) none) S.call) := by
  unfold callN
  rw [h]
  unfold runF
  dsimp only
  rw [if_pos hl]
  rfl
@[simp] theorem endR_ret {r : RV} {S : St} : endR (.ok (.ret r) S) = leave S r := (rfl)
@[simp] theorem endR_next {ρ : Env} {S : St} : endR (.ok (.next ρ) S) = leave S (.d .non) := (rfl)
@[simp] theorem leave_d {d : D} {S : St} {l : List LO} {r : List (List LO)} {g : List LO} {o : List LO} : leave ⟨o, l :: r, g⟩ (.d d) = .ok (.d d) ⟨l, r, g⟩ := (rfl)
@[simp] theorem leave_call {d : D} {S : St} : leave S.call (.d d) = .ok (.d d) S := (rfl)
@[simp] theorem leave_new {c : CO} {l : List LO} {r : List (List LO)} {g : List LO} {o : List LO} : leave ⟨o, l :: r, g⟩ (.new c) = .ok (.new c) ⟨l, r, g⟩ := (rfl)
@[simp] theorem leave_cnew {c : CO} {S : St} : leave S.call (.new c) = .ok (.new c) S := (rfl)
@[simp] theorem call_own {S : St} : S.call.own = [] := (rfl)
@[simp] theorem call_out {S : St} : S.call.out = S.own :: S.out := (rfl)
@[simp] theorem call_gl {S : St} : S.call.gl = S.gl := (rfl)
theorem ownFree_take {n : Nat} {ρ : Env} {S : St} (h : S.own.length = n) : trim n ρ S = S := by
  unfold trim
  split
  · rw [← h, List.take_length]
  · rfl
@[simp] theorem trim_self {ρ : Env} {S : St} : trim S.own.length ρ S = S := ownFree_take rfl
@[simp] theorem trim_zero {ρ : Env} {S : St} : trim 0 ρ S.call = S.call := ownFree_take rfl
/-- a while's turn -/
theorem whL_on {c : Env → M RV} {body : Env → M Flow} {ρ0 ρ : Env} {n0 n : Nat} {S : St} (h : c ρ S = .ok (.d (.bl true)) S) : whL c body ρ0 n0 (n + 1) ρ S = match body ρ S with
    | .ok (.next ρ2) S2 => whL c body ρ0 n0 n (mask ρ0 ρ2) (trim n0 (mask ρ0 ρ2) S2)
    | .ok (.cont ρ2) S2 => whL c body ρ0 n0 n (mask ρ0 ρ2) (trim n0 (mask ρ0 ρ2) S2)
    | .ok (.brk ρ2) S2 => .ok (.next (mask ρ0 ρ2)) (trim n0 (mask ρ0 ρ2) S2)
    | .ok (.ret r) S2 => .ok (.ret r) S2
    | .exc e S2 => .exc e S2
    | .bad => .bad := by
  rw [whL]
  dsimp only
  rw [h]
  rfl
theorem whL_off {c : Env → M RV} {body : Env → M Flow} {ρ0 ρ : Env} {n0 n : Nat} {S : St} (h : c ρ S = .ok (.d (.bl false)) S) : whL c body ρ0 n0 (n + 1) ρ S = .ok (.next ρ) S := by
  rw [whL]
  dsimp only
  rw [h]
  rfl
/-- a for by an invariant -/
theorem forL_inv {chk : St → Bool} {put : D → Env → Option Env} {body : Env → M Flow} {ρ0 : Env} {n0 : Nat} {Q : Flow → St → Prop} (I : List D → Env → St → Prop)
    (hs : ∀ x xs ρ S, I (x :: xs) ρ S → chk S = true ∧ ∃ ρ1, put x ρ = some ρ1 ∧ (body ρ1 S).post fun fl S2 => match fl with
      | .next ρ2 => I xs (mask ρ0 ρ2) (trim n0 (mask ρ0 ρ2) S2)
      | .cont ρ2 => I xs (mask ρ0 ρ2) (trim n0 (mask ρ0 ρ2) S2)
      | .brk ρ2 => Q (.next (mask ρ0 ρ2)) (trim n0 (mask ρ0 ρ2) S2)
      | .ret r => Q (.ret r) S2)
    (hn : ∀ ρ S, I [] ρ S → chk S = true ∧ Q (.next ρ) S) : ∀ (xs : List D) (ρ : Env) (S : St), I xs ρ S → (forL chk put body ρ0 n0 xs ρ S).post Q
  | [], ρ, S, h => by
    obtain ⟨h1, h2⟩ := hn ρ S h
    unfold forL
    rw [if_pos h1]
    exact h2
  | x :: xs, ρ, S, h => by
    obtain ⟨h1, ρ1, h2, h3⟩ := hs x xs ρ S h
    unfold forL
    rw [if_pos h1, h2]
    dsimp only
    obtain ⟨fl, S2, e, h3⟩ := post_ex h3
    rw [e]
    cases fl with
    | next ρ2 => exact forL_inv I hs hn xs _ _ h3
    | cont ρ2 => exact forL_inv I hs hn xs _ _ h3
    | brk ρ2 => exact h3
    | ret r => exact h3

/-! ### the equations, step by step -/
theorem go_ext {α β : Type} {r : Res α} {f g : α → St → Res β} {b : Bool} (h : ∀ a S, f a S = g a S) : r.go f ⟨⟩ b = r.go g ⟨⟩ b := by
  have : f = g := funext fun a => funext fun S => h a S
  subst this
  rfl
theorem bind_ext {α β : Type} {m : M α} {f : α → M β} {g : α → St → Res β} {S : St} (h : ∀ a S, f a S = g a S) : M.bind m f S = (m S).go g := by
  rw [bind_go]
  exact go_ext h
theorem bindT_ext {α β : Type} {b : Bool} {m : M α} {f : α → M β} {g : α → St → Res β} {S : St} (h : ∀ a S, f a S = g a S) : M.bindT b m f S = (m S).go g ⟨⟩ b := by
  rw [bindT_go]
  exact go_ext h
def tr {β : Type} (v : RV) (k : Bool → Res β) (t : Tok k := ⟨⟩) : Res β := match truth v with
  | some b => k b
  | none => .bad
@[simp] theorem tr_bl {β : Type} {b : Bool} {k : Bool → Res β} : tr (.d (.bl b)) k = k b := (rfl)
def pick {β : Type} (b : Bool) (x y : Unit → Res β) (t : Tok x := ⟨⟩) (t2 : Tok y := ⟨⟩) : Res β := match b with
  | true => x ()
  | false => y ()
@[simp] theorem pick_t {β : Type} {x y : Unit → Res β} : pick true x y = x () := (rfl)
@[simp] theorem pick_f {β : Type} {x y : Unit → Res β} : pick false x y = y () := (rfl)
def lift1 (o : Option RV) (S : St) : Res RV := M.opt o S
@[simp] theorem lift_some {r : RV} {S : St} : lift1 (some r) S = .ok r S := (rfl)
def binV (op : BOp) (x y : RV) (S : St) : Res RV := match view S (hold x).rv, view S y with
  | some d, some e => lift1 (bop op d e) S
  | _, _ => .bad
def cmpV (op : COp) (x y : RV) (S : St) : Res RV := match view S (hold x).rv, view S y with
  | some d, some e => (match cop op d e with
    | some b => .ok (.d (.bl b)) S
    | none => .bad)
  | _, _ => .bad
def b1V (b : B1) (x : RV) (S : St) : Res RV := match view S x with
  | some d => lift1 (blt1 b d) S
  | none => .bad
def b2V (b : B1) (x y : RV) (S : St) : Res RV := match view S (hold x).rv, view S y with
  | some d, some e => lift1 (blt2 b d e) S
  | _, _ => .bad
def ixV (x y : RV) (S : St) : Res RV := match view S (hold x).rv, view S y with
  | some d, some e => (match getIx d e with
    | some v => .ok (.d v) S
    | none => .bad)
  | _, _ => .bad
def negV (x : RV) (S : St) : Res RV := match x with
  | .d (.int i) => .ok (.d (.int (-i))) S
  | _ => .bad
def varV (ρ : Env) (i : Nat) (S : St) : Res RV := match ρ[i]? with
  | some (some v) => .ok v.rv S
  | _ => .bad
section
variable {C : Nat → List SV → M RV} {ρ : Env} {S : St} {a b c : DE} {op : BOp}
@[simp] theorem E_con {d : D} : evE C (.con d) ρ S = .ok (.d d) S := (rfl)
@[simp] theorem E_var {i : Nat} : evE C (.var i) ρ S = varV ρ i S := (rfl)
@[simp] theorem E_bin : evE C (.bin op a b) ρ S = (evE C a ρ S).go fun x S1 => (evE C b ρ S1).go fun y S2 => binV op x y S2 := (rfl)
@[simp] theorem E_cmp {op : COp} : evE C (.cmp op a b) ρ S = (evE C a ρ S).go fun x S1 => (evE C b ρ S1).go fun y S2 => cmpV op x y S2 := (rfl)
@[simp] theorem E_neg : evE C (.neg a) ρ S = (evE C a ρ S).go fun x S1 => negV x S1 := by
  show M.bind _ _ S = _
  rw [bind_go]
  refine go_ext fun x S1 => ?_
  cases x with
  | d d => cases d <;> rfl
  | loc _ _ => rfl
  | new _ => rfl
@[simp] theorem E_not : evE C (.not a) ρ S = (evE C a ρ S).go fun x S1 => tr x fun b => .ok (.d (.bl (!b))) S1 := by
  show M.bind _ _ S = _
  rw [bind_go]
  refine go_ext fun x S1 => ?_
  unfold tr
  generalize truth x = t
  cases t with
  | none => rfl
  | some b => cases b <;> rfl
@[simp] theorem E_and : evE C (.and a b) ρ S = (evE C a ρ S).go fun x S1 => tr x fun v => pick v (fun _ => evE C b ρ S1) fun _ => .ok (.d (.bl false)) S1 := by
  show M.bind _ _ S = _
  rw [bind_go]
  refine go_ext fun x S1 => ?_
  unfold tr
  generalize truth x = t
  cases t with
  | none => rfl
  | some b => cases b <;> rfl
@[simp] theorem E_or : evE C (.or a b) ρ S = (evE C a ρ S).go fun x S1 => tr x fun v => pick v (fun _ => .ok (.d (.bl true)) S1) fun _ => evE C b ρ S1 := by
  show M.bind _ _ S = _
  rw [bind_go]
  refine go_ext fun x S1 => ?_
  unfold tr
  generalize truth x = t
  cases t with
  | none => rfl
  | some b => cases b <;> rfl
@[simp] theorem E_ife {t : DE} : evE C (.ife t a b) ρ S = (evE C t ρ S).go fun x S1 => tr x fun v => pick v (fun _ => evE C a ρ S1) fun _ => evE C b ρ S1 := by
  show M.bind _ _ S = _
  rw [bind_go]
  refine go_ext fun x S1 => ?_
  unfold tr
  generalize truth x = t
  cases t with
  | none => rfl
  | some b => cases b <;> rfl
@[simp] theorem E_call {f : Nat} {es : DE} : evE C (.call f es) ρ S = (evA C es ρ S).go (fun vs S1 => C f vs S1) ⟨⟩ false := (rfl)
@[simp] theorem E_b1 {k : B1} : evE C (.b1 k a) ρ S = (evE C a ρ S).go fun x S1 => b1V k x S1 := (rfl)
@[simp] theorem E_b2 {k : B1} : evE C (.b2 k a b) ρ S = (evE C a ρ S).go fun x S1 => (evE C b ρ S1).go fun y S2 => b2V k x y S2 := (rfl)
@[simp] theorem E_ix : evE C (.ix a b) ρ S = (evE C a ρ S).go fun x S1 => (evE C b ρ S1).go fun y S2 => ixV x y S2 := (rfl)
@[simp] theorem E_tup {es : DE} : evE C (.tup es) ρ S = (evK C es ρ S).go fun ds S1 => if sz ds.length = true then .ok (.d (.tup ds)) S1 else .bad := (rfl)
@[simp] theorem E_lst {es : DE} : evE C (.lst es) ρ S = (evK C es ρ S).go fun ds S1 => if sz ds.length = true then .ok (.new (.lst ds)) S1 else .bad := (rfl)
@[simp] theorem A_nil : evA C .nil ρ S = .ok [] S := (rfl)
@[simp] theorem A_cons : evA C (.cons a b) ρ S = (evE C a ρ S).go fun x S1 => (evA C b ρ S1).go fun xs S2 => .ok (hold x :: xs) S2 := (rfl)
@[simp] theorem K_nil : evK C .nil ρ S = .ok [] S := (rfl)
@[simp] theorem K_cons : evK C (.cons a b) ρ S = (evE C a ρ S).go fun x S1 => (keep x S1).go fun d S2 => (evK C b ρ S2).go fun xs S3 => .ok (d :: xs) S3 := (rfl)
@[simp] theorem P_nil : evP C .nil ρ S = .ok none S := (rfl)
def partV (x : RV) (S : St) : Res (Option Int) := match dataInt x with
    | some i => .ok (some i) S
    | none => .bad
@[simp] theorem part_int {i : Int} : partV (.d (.int i)) S = .ok (some i) S := (rfl)
@[simp] theorem P_cons : evP C (.cons a b) ρ S = (evE C a ρ S).go fun x S1 => partV x S1 := by
  show M.bind _ _ S = _
  rw [bind_go]
  refine go_ext fun x S1 => ?_
  unfold partV
  generalize dataInt x = t
  cases t <;> rfl
@[simp] theorem keep_d {d : D} : keep (.d d) S = .ok d S := (rfl)
@[simp] theorem keep_new {c : CO} : keep (.new c) S = .ok c.dat S := (rfl)
@[simp] theorem dat_lst {ds : List D} : (CO.lst ds).dat = .lst ds := (rfl)
@[simp] theorem hold_d {d : D} : hold (.d d) = .d d := (rfl)
@[simp] theorem hold_locR {u i : Nat} : hold (.loc u i) = .loc u i := (rfl)
@[simp] theorem hold_new {c : CO} : hold (.new c) = .d c.dat := (rfl)
@[simp] theorem rv_d {d : D} : (SV.d d).rv = .d d := (rfl)
@[simp] theorem rv_loc {u i : Nat} : (SV.loc u i).rv = .loc u i := (rfl)
@[simp] theorem sh_d {d : D} : shift (.d d) = .d d := (rfl)
@[simp] theorem sh_loc {u i : Nat} : shift (.loc u i) = .loc (u + 1) i := (rfl)
@[simp] theorem dI_int {i : Int} : dataInt (.d (.int i)) = some i := (rfl)
/-! statements -/
def flowGo (r : Res Flow) (k : Env → St → Res Flow) (t : Tok k := ⟨⟩) : Res Flow := match r with
  | .ok (.next ρ) S => k ρ S
  | r => r
@[simp] theorem fg_next {k : Env → St → Res Flow} : flowGo (.ok (.next ρ) S) k = k ρ S := (rfl)
@[simp] theorem fg_ret {k : Env → St → Res Flow} {r : RV} : flowGo (.ok (.ret r) S) k = .ok (.ret r) S := (rfl)
@[simp] theorem fg_brk {k : Env → St → Res Flow} : flowGo (.ok (.brk ρ) S) k = .ok (.brk ρ) S := (rfl)
@[simp] theorem fg_cont {k : Env → St → Res Flow} : flowGo (.ok (.cont ρ) S) k = .ok (.cont ρ) S := (rfl)
variable {x y : DS}
def setV (ρ : Env) (i : Nat) (m : Bool) (r : RV) (S : St) : Res Flow := match r, m with
    | .new c, true => .ok (.next (ρ.set i (some (.loc 0 S.own.length)))) { S with own := S.own ++ [⟨false, c⟩] }
    | r, _ => .ok (.next (ρ.set i (some (hold r)))) S
@[simp] theorem set_d {i : Nat} {m : Bool} {d : D} : setV ρ i m (.d d) S = .ok (.next (ρ.set i (some (.d d)))) S := (rfl)
@[simp] theorem set_loc {i u j : Nat} {m : Bool} : setV ρ i m (.loc u j) S = .ok (.next (ρ.set i (some (.loc u j)))) S := (rfl)
@[simp] theorem set_newf {i : Nat} {c : CO} : setV ρ i false (.new c) S = .ok (.next (ρ.set i (some (.d c.dat)))) S := (rfl)
@[simp] theorem set_newt {i : Nat} {c : CO} : setV ρ i true (.new c) S = .ok (.next (ρ.set i (some (.loc 0 S.own.length)))) { S with own := S.own ++ [⟨false, c⟩] } := (rfl)
@[simp] theorem S_skip : evS C .skip ρ S = .ok (.next ρ) S := (rfl)
@[simp] theorem S_seq : evS C (.seq x y) ρ S = flowGo (evS C x ρ S) fun ρ1 S1 => evS C y ρ1 S1 := by
  show M.bind _ _ S = _
  rw [bind_go]
  unfold flowGo
  cases e : evS C x ρ S with
  | ok f S1 => cases f <;> rfl
  | exc _ _ => rfl
  | bad => rfl
@[simp] theorem S_expr {e : DE} : evS C (.expr e) ρ S = (evE C e ρ S).go (fun _ S1 => .ok (.next ρ) S1) ⟨⟩ (isCallE e) := (rfl)
@[simp] theorem S_set {i : Nat} {m : Bool} {e : DE} : evS C (.set i m e) ρ S = (evE C e ρ S).go (fun r S1 => setV ρ i m r S1) ⟨⟩ (isCallE e) := by
  show M.bindT _ _ _ S = _
  rw [bindT_go]
  refine go_ext fun r S1 => ?_
  cases r <;> cases m <;> rfl
@[simp] theorem S_ret {e : DE} : evS C (.ret e) ρ S = (evE C e ρ S).go (fun r S1 => .ok (.ret r) S1) ⟨⟩ (isCallE e) := (rfl)
@[simp] theorem isCall_call {f : Nat} {es : DE} : isCallE (.call f es) = true := (rfl)
def tryR (rt : Bool) (c : Nat) (v : RV) (ρ : Env) (r : Res RV) : Res Flow := match r with
  | .ok r S1 => .ok (if rt = true then .ret r else .next ρ) S1
  | .exc x S1 => if x.C = c then .ok (.ret v) S1 else .bad
  | .bad => .bad
@[simp] theorem try_ok {rt : Bool} {c : Nat} {v r : RV} : tryR rt c v ρ (.ok r S) = .ok (if rt = true then .ret r else .next ρ) S := (rfl)
@[simp] theorem try_exc {rt : Bool} {c : Nat} {v : RV} {ds : List D} : tryR rt c v ρ (.exc ⟨c, ds⟩ S) = .ok (.ret v) S := if_pos rfl
@[simp] theorem S_try {rt : Bool} {f c : Nat} {es : DE} {r : SR} : evS C (.try_ rt f es c r) ρ S = tryR rt c r.rv ρ ((evA C es ρ S).go (fun vs S1 => C f vs S1) ⟨⟩ false) := (rfl)
@[simp] theorem sr_d {d : D} : (SR.d d).rv = .d d := (rfl)
@[simp] theorem sr_l {ds : List D} : (SR.l ds).rv = .new (.lst ds) := (rfl)
@[simp] theorem S_raise {c : Nat} : evS C (.raise c) ρ S = .exc ⟨c, []⟩ S := (rfl)
@[simp] theorem fg_exc {k : Env → St → Res Flow} {e : Exc} : flowGo (.exc e S) k = .exc e S := (rfl)
@[simp] theorem S_retN : evS C .retN ρ S = .ok (.ret (.d .non)) S := (rfl)
@[simp] theorem S_ife {c : DE} : evS C (.ife c x y) ρ S = (evE C c ρ S).go (fun v S1 => tr v fun b => pick b (fun _ => evS C x ρ S1) fun _ => evS C y ρ S1) ⟨⟩ false := by
  show M.bindT _ _ _ S = _
  rw [bindT_go]
  refine go_ext fun x S1 => ?_
  unfold tr
  generalize truth x = t
  cases t with
  | none => rfl
  | some b => cases b <;> rfl
@[simp] theorem S_brk : evS C .brk ρ S = .ok (.brk ρ) S := (rfl)
@[simp] theorem S_cont : evS C .cont ρ S = .ok (.cont ρ) S := (rfl)
theorem S_whl {c : DE} : evS C (.whl c x) ρ S = whL (evE C c) (evS C x) ρ S.own.length 1000000000 ρ S := (rfl)
@[simp] theorem S_for {tg : Tg} {it : DE} : evS C (.for_ tg it x) ρ S = (evW C it ρ S).go (fun w S1 => forL w.chk (putT tg) (evS C x) ρ S1.own.length w.xs ρ S1) ⟨⟩ false := (rfl)
def unpV (is : List Nat) (r : RV) (ρ : Env) (S : St) : Res Flow := match unpD r with
    | some ds => (match puts is ds ρ with
      | some ρ1 => .ok (.next ρ1) S
      | none => .bad)
    | none => .bad
@[simp] theorem unpD_tup {ds : List D} : unpD (.d (.tup ds)) = some ds := (rfl)
@[simp] theorem unpD_lst {ds : List D} : unpD (.d (.lst ds)) = some ds := (rfl)
@[simp] theorem unpD_new {ds : List D} : unpD (.new (.lst ds)) = some ds := (rfl)
@[simp] theorem S_unp {is : List Nat} {e : DE} : evS C (.unp is e) ρ S = (evE C e ρ S).go (fun r S1 => unpV is r ρ S1) ⟨⟩ (isCallE e) := by
  show M.bindT _ _ _ S = _
  rw [bindT_go]
  refine go_ext fun r S1 => ?_
  unfold unpV
  generalize unpD r = t
  cases t with
  | none => rfl
  | some ds =>
    dsimp only
    generalize puts is ds ρ = t
    cases t <;> rfl
def stV (r k : RV) (d : D) (ρ : Env) (S : St) : Res Flow := match r, dataInt k with
    | .loc u j, some k => (match S.get u j with
      | some ⟨false, .lst ds⟩ => (match ixN ds.length k with
        | some n => .ok (.next ρ) (S.set u j ⟨false, .lst (ds.set n d)⟩)
        | none => .bad)
      | _ => .bad)
    | _, _ => .bad
@[simp] theorem S_setIx {o i e : DE} : evS C (.setIx o i e) ρ S = (evE C e ρ S).go (fun v S1 => (keep v S1).go fun d S2 => (evE C o ρ S2).go (fun r S3 => (evE C i ρ S3).go (fun k S4 => stV r k d ρ S4) ⟨⟩ false) ⟨⟩ false) ⟨⟩ false := by
  show M.bindT _ _ _ S = _
  refine bindT_ext fun v S1 => ?_; refine bind_ext fun d S2 => ?_; refine bindT_ext fun r S3 => ?_; refine bindT_ext fun k S4 => ?_
  cases r with
  | d d => rfl
  | new c => rfl
  | loc u j =>
    unfold stV
    generalize dataInt k = t
    cases t <;> rfl
/-! values -/
variable {i j : Int}
@[simp] theorem bin_int {op : BOp} : binV op (.d (.int i)) (.d (.int j)) S = lift1 (bop op (.int i) (.int j)) S := (rfl)
@[simp] theorem bop_add : bop .add (.int i) (.int j) = some (.d (.int (i + j))) := (rfl)
@[simp] theorem bop_sub : bop .sub (.int i) (.int j) = some (.d (.int (i - j))) := (rfl)
theorem bop_mul (h : small64 i = true ∨ small64 j = true) : bop .mul (.int i) (.int j) = some (.d (.int (i * j))) := if_pos (by simpa using h)
theorem bop_mod (h : 0 < j) : bop .mod (.int i) (.int j) = some (.d (.int (i % j))) := if_pos h
theorem bop_div (h : 0 < j) (h2 : j < 1073741824) : bop .fdiv (.int i) (.int j) = some (.d (.int (i / j))) := if_pos ⟨h, h2⟩
theorem bop_pow (h : 0 ≤ j ∧ j ≤ 1000 ∧ -1000000 ≤ i ∧ i ≤ 1000000) : bop .pow (.int i) (.int j) = some (.d (.int (i ^ j.toNat))) := if_pos h
@[simp] theorem cmp_int {op : COp} : cmpV op (.d (.int i)) (.d (.int j)) S = (match cop op (.int i) (.int j) with
    | some b => .ok (.d (.bl b)) S
    | none => .bad) := (rfl)
@[simp] theorem cop_lt : cop .lt (.int i) (.int j) = some (decide (i < j)) := (rfl)
@[simp] theorem cop_le : cop .le (.int i) (.int j) = some (decide (i ≤ j)) := (rfl)
@[simp] theorem cop_gt : cop .gt (.int i) (.int j) = some (decide (j < i)) := (rfl)
@[simp] theorem cop_ge : cop .ge (.int i) (.int j) = some (decide (j ≤ i)) := (rfl)
@[simp] theorem cop_eq : cop .eq (.int i) (.int j) = some (decide (i = j)) := (rfl)
@[simp] theorem cop_ne : cop .ne (.int i) (.int j) = some (!decide (i = j)) := (rfl)
@[simp] theorem b1_int : b1V .int (.d (.int i)) S = .ok (.d (.int i)) S := (rfl)
@[simp] theorem b1_len_rol {ds : List D} : b1V .len (.d (.rol ds)) S = .ok (.d (.int ds.length)) S := (rfl)
@[simp] theorem b1_len_tup {ds : List D} : b1V .len (.d (.tup ds)) S = .ok (.d (.int ds.length)) S := (rfl)
@[simp] theorem b1_len_lst {ds : List D} : b1V .len (.d (.lst ds)) S = .ok (.d (.int ds.length)) S := (rfl)
@[simp] theorem b1_len_new {ds : List D} : b1V .len (.new (.lst ds)) S = .ok (.d (.int ds.length)) S := (rfl)
@[simp] theorem b2_max : b2V .max (.d (.int i)) (.d (.int j)) S = .ok (.d (.int (if j > i then j else i))) S := (rfl)
@[simp] theorem b2_min : b2V .min (.d (.int i)) (.d (.int j)) S = .ok (.d (.int (if j < i then j else i))) S := (rfl)
@[simp] theorem neg_int : negV (.d (.int i)) S = .ok (.d (.int (-i))) S := (rfl)
theorem ixN_nat {n k : Nat} (h : k < n) : ixN n (k : Int) = some k := by
  unfold ixN
  rw [if_pos (Int.natCast_nonneg k), if_pos (by omega)]
  rfl
theorem ix_rol {ds : List D} {k : Nat} {d : D} (h : ds[k]? = some d) : ixV (.d (.rol ds)) (.d (.int k)) S = .ok (.d d) S := by
  have hk : k < ds.length := (List.getElem?_eq_some_iff.mp h).1
  show (match getIx (.rol ds) (.int k) with
    | some v => (.ok (.d v) S : Res RV)
    | none => .bad) = _
  have e : getIx (.rol ds) (.int k) = some d := by
    show (match ixN ds.length (k : Int) with
      | some k => ds[k]?
      | none => none) = _
    rw [ixN_nat hk]
    exact h
  rw [e]
theorem ix_tup {ds : List D} {k : Nat} {d : D} (h : ds[k]? = some d) : ixV (.d (.tup ds)) (.d (.int k)) S = .ok (.d d) S := by
  have hk : k < ds.length := (List.getElem?_eq_some_iff.mp h).1
  show (match getIx (.tup ds) (.int k) with
    | some v => (.ok (.d v) S : Res RV)
    | none => .bad) = _
  have e : getIx (.tup ds) (.int k) = some d := by
    show (match ixN ds.length (k : Int) with
      | some k => ds[k]?
      | none => none) = _
    rw [ixN_nat hk]
    exact h
  rw [e]
theorem ix_lst {ds : List D} {k : Nat} {d : D} (h : ds[k]? = some d) : ixV (.d (.lst ds)) (.d (.int k)) S = .ok (.d d) S := by
  have hk : k < ds.length := (List.getElem?_eq_some_iff.mp h).1
  show (match getIx (.lst ds) (.int k) with
    | some v => (.ok (.d v) S : Res RV)
    | none => .bad) = _
  have e : getIx (.lst ds) (.int k) = some d := by
    show (match ixN ds.length (k : Int) with
      | some k => ds[k]?
      | none => none) = _
    rw [ixN_nat hk]
    exact h
  rw [e]
theorem small_of {i : Int} (h1 : -18446744073709551616 < i) (h2 : i < 18446744073709551616) : small64 i = true := by
  unfold small64
  rw [decide_eq_true h1, decide_eq_true h2]
  rfl
theorem mul_l (h1 : -18446744073709551616 < i) (h2 : i < 18446744073709551616) : bop .mul (.int i) (.int j) = some (.d (.int (i * j))) := bop_mul (.inl (small_of h1 h2))
theorem mul_r (h1 : -18446744073709551616 < j) (h2 : j < 18446744073709551616) : bop .mul (.int i) (.int j) = some (.d (.int (i * j))) := bop_mul (.inr (small_of h1 h2))
@[simp] theorem mask_nil {ρ : Env} : mask [] ρ = ρ := by unfold mask; rfl
@[simp] theorem mask_some {v : SV} {w : Option SV} {r ρ : Env} : mask (some v :: r) (w :: ρ) = w :: mask r ρ := (rfl)
@[simp] theorem mask_none {w : Option SV} {r ρ : Env} : mask (none :: r) (w :: ρ) = none :: mask r ρ := (rfl)
/-! walks -/
def rng2V (x y : RV) (S : St) : Res Walk := match dataInt x, dataInt y with
    | some i, some j => if (big62 i && big62 j) = true then .ok ⟨rngUp i (j - i).toNat, none⟩ S else .bad
    | _, _ => .bad
def rngDV (x y : RV) (S : St) : Res Walk := match dataInt x, dataInt y with
    | some i, some j => if (big62 i && big62 j) = true then .ok ⟨rngDn i (i - j).toNat, none⟩ S else .bad
    | _, _ => .bad
def rng1V (x : RV) (S : St) : Res Walk := match dataInt x with
    | some j => if big62 j = true then .ok ⟨rngUp 0 j.toNat, none⟩ S else .bad
    | none => .bad
def revV (d : D) (S : St) : Res Walk := match items d with
    | some ds => .ok ⟨ds.reverse, none⟩ S
    | none => .bad
@[simp] theorem W_seq : evW C (.wk .seq a b) ρ S = (evE C a ρ S).go fun x S1 => walkSeq x S1 := (rfl)
@[simp] theorem W_rng1 : evW C (.wk .rng1 a b) ρ S = (evE C a ρ S).go fun x S1 => rng1V x S1 := by
  show M.bind _ _ S = _
  rw [bind_go]
  refine go_ext fun x S1 => ?_
  unfold rng1V
  generalize dataInt x = t
  cases t with
  | none => rfl
  | some j => dsimp only; split <;> rfl
@[simp] theorem W_rng2 : evW C (.wk .rng2 a b) ρ S = (evE C a ρ S).go fun x S1 => (evE C b ρ S1).go fun y S2 => rng2V x y S2 := by
  show M.bind _ _ S = _
  refine bind_ext fun x S1 => ?_; refine bind_ext fun y S2 => ?_
  unfold rng2V
  generalize dataInt x = t
  generalize dataInt y = t2
  cases t with
  | none => rfl
  | some i =>
    cases t2 with
    | none => rfl
    | some j => dsimp only; split <;> rfl
@[simp] theorem W_rngD : evW C (.wk .rngD a b) ρ S = (evE C a ρ S).go fun x S1 => (evE C b ρ S1).go fun y S2 => rngDV x y S2 := by
  show M.bind _ _ S = _
  refine bind_ext fun x S1 => ?_; refine bind_ext fun y S2 => ?_
  unfold rngDV
  generalize dataInt x = t
  generalize dataInt y = t2
  cases t with
  | none => rfl
  | some i =>
    cases t2 with
    | none => rfl
    | some j => dsimp only; split <;> rfl
@[simp] theorem W_rev : evW C (.wk .rev a b) ρ S = (evE C a ρ S).go fun x S1 => (keep x S1).go fun d S2 => revV d S2 := by
  show M.bind _ _ S = _
  refine bind_ext fun x S1 => ?_; refine bind_ext fun d S2 => ?_
  unfold revV
  generalize items d = t
  cases t <;> rfl
@[simp] theorem rev_lst {ds : List D} : revV (.lst ds) S = .ok ⟨ds.reverse, none⟩ S := (rfl)
@[simp] theorem rev_tup {ds : List D} : revV (.tup ds) S = .ok ⟨ds.reverse, none⟩ S := (rfl)
@[simp] theorem seq_tup {ds : List D} : walkSeq (.d (.tup ds)) S = .ok ⟨ds, none⟩ S := (rfl)
@[simp] theorem seq_lst {ds : List D} : walkSeq (.d (.lst ds)) S = .ok ⟨ds, none⟩ S := (rfl)
@[simp] theorem seq_new {ds : List D} : walkSeq (.new (.lst ds)) S = .ok ⟨ds, none⟩ S := (rfl)
theorem seq_loc {u i : Nat} {z : Bool} {ds : List D} (h : S.get u i = some ⟨z, .lst ds⟩) : walkSeq (.loc u i) S = .ok ⟨ds, some (u, i)⟩ S := by
  unfold walkSeq
  dsimp only
  rw [h]
theorem big_of {i : Int} (h1 : -4611686018427387904 ≤ i) (h2 : i < 4611686018427387904) : big62 i = true := by
  unfold big62
  rw [decide_eq_true h1, decide_eq_true h2]
  rfl
theorem rng2_int (h1 : -4611686018427387904 ≤ i) (h2 : i < 4611686018427387904) (h3 : -4611686018427387904 ≤ j) (h4 : j < 4611686018427387904) : rng2V (.d (.int i)) (.d (.int j)) S = .ok ⟨rngUp i (j - i).toNat, none⟩ S := by
  show (if (big62 i && big62 j) = true then _ else _) = _
  rw [big_of h1 h2, big_of h3 h4]
  rfl
theorem rngD_int (h1 : -4611686018427387904 ≤ i) (h2 : i < 4611686018427387904) (h3 : -4611686018427387904 ≤ j) (h4 : j < 4611686018427387904) : rngDV (.d (.int i)) (.d (.int j)) S = .ok ⟨rngDn i (i - j).toNat, none⟩ S := by
  show (if (big62 i && big62 j) = true then _ else _) = _
  rw [big_of h1 h2, big_of h3 h4]
  rfl
theorem rng1_int (h3 : -4611686018427387904 ≤ j) (h4 : j < 4611686018427387904) : rng1V (.d (.int j)) S = .ok ⟨rngUp 0 j.toNat, none⟩ S := by
  show (if big62 j = true then _ else _) = _
  rw [big_of h3 h4]
  rfl
@[simp] theorem chk_none {xs : List D} : (⟨xs, none⟩ : Walk).chk S = true := (rfl)
/-! methods -/
@[simp] theorem E_m1 {m : M1} : evE C (.m1 m a b) ρ S = (evE C a ρ S).go fun x S1 => if recvOk m (view S1 x) = true then (evE C b ρ S1).go fun y S2 => meth1 m (hold x) y S2 else .bad := by
  show M.bind _ _ S = _
  simp only [bind_go]
theorem app_d {u i : Nat} {ds : List D} {d : D} (h : S.get u i = some ⟨false, .lst ds⟩) (hl : ds.length < 16777216) : meth1 .append (.loc u i) (.d d) S = .ok (.d .non) (S.set u i ⟨false, .lst (ds ++ [d])⟩) := by
  unfold meth1
  simp only [bind_go, keep_d, go_ok]
  rw [h]
  dsimp only
  rw [if_pos hl]
theorem view_loc {u i : Nat} {z : Bool} {ds : List D} (h : S.get u i = some ⟨z, .lst ds⟩) : view S (.loc u i) = some (.lst ds) := by
  unfold view coAt
  dsimp only
  rw [h]
  rfl
theorem recv_loc {m : M1} {u i : Nat} {z : Bool} {ds : List D} (hm : m ≠ .join) (h : S.get u i = some ⟨z, .lst ds⟩) : recvOk m (view S (.loc u i)) = true := by
  rw [view_loc h]
  cases m <;> first | rfl | exact absurd rfl hm
@[simp] theorem call_get {u i : Nat} : S.call.get (u + 1) i = S.get u i := by
  cases u <;> rfl
@[simp] theorem call_set {u i : Nat} {x : LO} : S.call.set (u + 1) i x = (S.set u i x).call := by
  cases u <;> rfl
theorem get_set {u i : Nat} {x y : LO} (h : S.get u i = some y) : (S.set u i x).get u i = some x := by
  cases u with
  | zero =>
    have h : S.own[i]? = some y := h
    show (S.own.set i x)[i]? = some x
    have hi := (List.getElem?_eq_some_iff.mp h).1
    rw [List.getElem?_set_self hi]
  | succ u =>
    have h : (match S.out[u]? with
      | some l => l[i]?
      | none => none) = some y := h
    show (match (S.out.modify u fun l => l.set i x)[u]? with
      | some l => l[i]?
      | none => none) = some x
    cases e : S.out[u]? with
    | none => rw [e] at h; cases h
    | some l =>
      rw [e] at h
      rw [List.getElem?_modify_eq, e]
      have hi := (List.getElem?_eq_some_iff.mp h).1
      exact List.getElem?_set_self hi
theorem set_set {u i : Nat} {x y : LO} : (S.set u i x).set u i y = S.set u i y := by
  cases u with
  | zero => show (⟨(S.own.set i x).set i y, S.out, S.gl⟩ : St) = ⟨S.own.set i y, S.out, S.gl⟩; rw [List.set_set]
  | succ u =>
    show (⟨S.own, (S.out.modify u fun l => l.set i x).modify u fun l => l.set i y, S.gl⟩ : St) = ⟨S.own, S.out.modify u fun l => l.set i y, S.gl⟩
    congr 1
    rw [List.modify_modify_eq]
    congr 1
    funext l
    exact List.set_set ..
@[simp] theorem set_len {u i : Nat} {x : LO} : (S.set u i x).own.length = S.own.length := by
  cases u with
  | zero => exact List.length_set
  | succ u => rfl
theorem mod_nn (h : 0 < j) : 0 ≤ i % j := Int.emod_nonneg _ (by omega)
theorem mod_lt (h : 0 < j) : i % j < j := Int.emod_lt_of_pos _ h
/-! comprehensions -/
@[simp] theorem E_lc {elt it cond : DE} {tg : Tg} {vs : List Nat} : evE C (.lc elt tg it cond vs) ρ S = (evW C it ρ S).go fun w S1 => (compL w.chk (fun x => putT tg x (wipeE ρ vs)) (evE C cond) (evE C elt) w.xs S1).go fun ds S2 => if sz ds.length = true then .ok (.new (.lst ds)) S2 else .bad := by
  show M.bind _ _ S = _
  simp only [bind_go]
  rfl
theorem comp_pure {chk : St → Bool} {put : D → Option Env} {fc fe : Env → M RV} {c : D → Bool} {f : D → D} {r : D → Env} (hk : chk S = true) : ∀ xs : List D, (∀ x ∈ xs, put x = some (r x) ∧ fc (r x) S = .ok (.d (.bl (c x))) S ∧ (c x = true → fe (r x) S = .ok (.d (f x)) S)) → compL chk put fc fe xs S = .ok ((xs.filter c).map f) S
  | [], _ => by unfold compL; rw [if_pos hk]; rfl
  | x :: xs, h => by
    obtain ⟨h1, h2, h3⟩ := h x List.mem_cons_self
    have ih := comp_pure (f := f) hk xs fun y hy => h y (List.mem_cons_of_mem _ hy)
    unfold compL
    rw [if_pos hk, h1]
    dsimp only
    rw [h2]
    cases hc : c x with
    | true =>
      dsimp only [truth]
      rw [h3 hc]
      dsimp only
      rw [keep_d]
      dsimp only
      rw [ih, List.filter_cons_of_pos hc]
      rfl
    | false =>
      dsimp only [truth]
      rw [ih, List.filter_cons_of_neg (by rw [hc]; exact Bool.false_ne_true)]
/-- a chain of comparisons -/
def chV (op op2 : COp) (x y : RV) (fc : Unit → Res RV) (k : RV → RV → St → Res RV) (S : St) : Res RV := match view S (hold x).rv, view S (hold y).rv with
  | some d, some e => (match cop op d e with
    | some true => (fc ()).go fun z S1 => k (hold y).rv z S1
    | some false => .ok (.d (.bl false)) S
    | none => .bad)
  | _, _ => .bad
@[simp] theorem E_chain {op op2 : COp} : evE C (.chain op op2 a b c) ρ S = (evE C a ρ S).go fun x S1 => (evE C b ρ S1).go fun y S2 => chV op op2 x y (fun _ => evE C c ρ S2) (fun y z S3 => match view S3 y, view S3 z with
      | some e, some f => (match cop op2 e f with
        | some r => .ok (.d (.bl r)) S3
        | none => .bad)
      | _, _ => .bad) S2 := by
  show M.bind _ _ S = _
  simp only [bind_go]
  rfl
theorem chain_int {op op2 : COp} {fc : Unit → Res RV} {k : RV → RV → St → Res RV} : chV op op2 (.d (.int i)) (.d (.int j)) fc k S = match cop op (.int i) (.int j) with
    | some true => (fc ()).go fun z S1 => k (.d (.int j)) z S1
    | some false => .ok (.d (.bl false)) S
    | none => .bad := (rfl)
@[simp] theorem view_int {i : Int} : view S (.d (.int i)) = some (.int i) := (rfl)
/-! slices, tuples -/
def slV (x : RV) (l h : Option Int) (S : St) : Res RV := match view S (hold x).rv with
  | some d => M.opt (getSl d l h) S
  | none => .bad
@[simp] theorem E_sl {lo hi : DE} : evE C (.sl a lo hi) ρ S = (evE C a ρ S).go fun x S1 => (evP C lo ρ S1).go fun l S2 => (evP C hi ρ S2).go fun h S3 => slV x l h S3 := (rfl)
@[simp] theorem sl_tup {ds : List D} {l h : Option Int} : slV (.d (.tup ds)) l h S = .ok (.d (.tup (cut ds l h))) S := (rfl)
@[simp] theorem sl_lst {ds : List D} {l h : Option Int} : slV (.d (.lst ds)) l h S = .ok (.new (.lst (cut ds l h))) S := (rfl)
theorem cut_take {α : Type} {xs : List α} {k : Nat} (h : k ≤ xs.length) : cut xs none (some (k : Int)) = xs.take k := by
  unfold cut
  have h1 : sIx xs.length 0 none = 0 := rfl
  have h2 : sIx xs.length xs.length (some (k : Int)) = k := by
    unfold sIx
    dsimp only
    rw [if_neg (by omega)]
    show min k xs.length = k
    omega
  rw [h1, h2]
  simp
theorem cut_drop {α : Type} {xs : List α} {k : Nat} (h : k ≤ xs.length) : cut xs (some (k : Int)) none = xs.drop k := by
  unfold cut
  have h1 : sIx xs.length xs.length none = xs.length := rfl
  have h2 : sIx xs.length 0 (some (k : Int)) = k := by
    unfold sIx
    dsimp only
    rw [if_neg (by omega)]
    show min k xs.length = k
    omega
  rw [h1, h2]
  apply List.take_of_length_le
  simp
theorem bin_tup {s t : List D} (h : s.length + t.length ≤ 16777216) : binV .add (.d (.tup s)) (.d (.tup t)) S = .ok (.d (.tup (s ++ t))) S := by
  show M.opt (if sz (s.length + t.length) = true then _ else _) S = _
  rw [if_pos (show sz (s.length + t.length) = true from decide_eq_true h)]
  rfl
theorem mul_tup {s : List D} (h : -1000 ≤ j) (h2 : j ≤ 1000) (h3 : s.length ≤ 1000) : binV .mul (.d (.tup s)) (.d (.int j)) S = .ok (.d (.tup (rep j.toNat s))) S := by
  show M.opt (if _ then _ else _) S = _
  rw [if_pos (show (decide (-1000 ≤ j) && decide (j ≤ 1000) && decide (s.length ≤ 1000)) = true by rw [decide_eq_true h, decide_eq_true h2, decide_eq_true h3]; rfl)]
  rfl
end
end U

/-! UHarn: what every law's script is read by. -/
namespace U
open PySem
variable {T : Nat → Option FD} {n : Nat} {S : St}
/-! a cell -/
def hCell : FD := { np := 2, ns := 2, body := (.seq (.ife (.cmp .lt (.var 1) (.b1 .len (.var 0)))
    (.ret (.ix (.var 0) (.var 1)))
    .skip)
    (.ret (.con (.int 0)))) }
theorem s_cell {i : Nat} (h : T i = some hCell) (ns : List Int) (k : Int) (hk : 0 ≤ k) : ∃ c : Int, callN T (n + 1) i [.d (.rol (ns.map D.int)), .d (.int k)] S = .ok (.d (.int c)) S := by
  obtain ⟨k, rfl⟩ := Int.eq_ofNat_of_zero_le hk
  rw [call_eq h rfl]
  by_cases hl : k < ns.length
  · refine ⟨ns[k], ?_⟩
    have e : ixV (.d (.rol (ns.map D.int))) (.d (.int k)) S.call = .ok (.d (.int ns[k])) S.call := ix_rol (by rw [List.getElem?_map, List.getElem?_eq_getElem hl]; rfl)
    simp [hCell, varV, hl, e]
  · refine ⟨0, ?_⟩
    simp [hCell, varV, hl]
/-! the digits -/
def hb1 : DS := (.ife (.cmp .gt (.var 5) (.con (.int 0)))
    (.seq (.expr (.m1 .append (.var 3) (.bin .mod (.b1 .int (.var 5)) (.con (.int 1000)))))
    (.set 5 false (.bin .fdiv (.var 5) (.con (.int 1000)))))
    .skip)
def hb2 : DS := (.seq (.set 7 false (.bin .mod (.b1 .int (.bin .add (.bin .add (.bin .mul (.var 7) (.con (.int 16807))) (.bin .mul (.con (.int 7)) (.var 6))) (.con (.int 1)))) (.con (.int 2147483647))))
    (.expr (.m1 .append (.var 3) (.bin .mod (.b1 .int (.bin .fdiv (.var 7) (.con (.int 997)))) (.con (.int 1000))))))
def hb3 (ic : Nat) : DS := (.seq (.set 5 false (.call ic (.cons (.var 0) (.cons (.var 4) .nil))))
    (.seq (.ife (.cmp .lt (.var 5) (.con (.int 0)))
    (.set 5 false (.bin .sub (.con (.int 1)) (.bin .mul (.con (.int 2)) (.var 5))))
    .skip)
    (.ife (.cmp .ge (.var 5) (.bin .pow (.con (.int 10)) (.con (.int 18))))
    (.for_ (.one 6) (.wk .rng1 (.con (.int 60)) .nil)
    hb1)
    (.seq (.set 7 false (.bin .mod (.b1 .int (.bin .add (.bin .add (.bin .mul (.var 5) (.con (.int 48271))) (.bin .mul (.var 4) (.con (.int 69621)))) (.con (.int 11)))) (.con (.int 2147483647))))
    (.for_ (.one 6) (.wk .rng1 (.con (.int 12)) .nil)
    hb2)))))
def hDigits (ic : Nat) : FD := { np := 3, ns := 8, body := (.seq (.set 3 true (.lst .nil))
    (.seq (.for_ (.one 4) (.wk .rng2 (.var 1) (.var 2))
    (hb3 ic))
    (.ret (.var 3)))) }
def digS (S0 : St) (xs : List Int) : St := ⟨[⟨false, .lst (xs.map D.int)⟩], S0.own :: S0.out, S0.gl⟩
def Dig (xs : List Int) (m : Nat) : Prop := (∀ x ∈ xs, 0 ≤ x ∧ x < 1000) ∧ xs.length ≤ m
theorem digS_get {S0 : St} {xs : List Int} : (digS S0 xs).get 0 0 = some ⟨false, .lst (xs.map D.int)⟩ := rfl
theorem digS_set {S0 : St} {xs : List Int} {x : Int} : (digS S0 xs).set 0 0 ⟨false, .lst (xs.map D.int ++ [.int x])⟩ = digS S0 (xs ++ [x]) := by
  unfold digS St.set
  simp
theorem Dig.push {xs : List Int} {m : Nat} (h : Dig xs m) {x : Int} : Dig (xs ++ [x % 1000]) (m + 1) := by
  refine ⟨fun y hy => ?_, by rw [List.length_append]; have := h.2; simp; omega⟩
  rcases List.mem_append.mp hy with hy | hy
  · exact h.1 y hy
  · rw [List.mem_singleton.mp hy]; omega
theorem Dig.mono {xs : List Int} {m k : Nat} (h : Dig xs m) (hk : m ≤ k) : Dig xs k := ⟨h.1, Nat.le_trans h.2 hk⟩
theorem rng_len : ∀ (n : Nat) (lo : Int), (rngUp lo n).length = n
  | 0, _ => rfl
  | n + 1, lo => by unfold rngUp; rw [List.length_cons, rng_len n]
theorem rng_mem : ∀ (n : Nat) (lo : Int) (x : D), x ∈ rngUp lo n → ∃ i : Int, x = .int i ∧ lo ≤ i ∧ i < lo + n
  | 0, _, _, h => by cases h
  | n + 1, lo, x, h => by
    unfold rngUp at h
    rcases List.mem_cons.mp h with rfl | h
    · exact ⟨lo, rfl, by omega, by omega⟩
    · obtain ⟨i, e, h1, h2⟩ := rng_mem n _ _ h
      exact ⟨i, e, by omega, by omega⟩
section
variable {C : Nat → List SV → M RV} {S0 : St} {a0 a1 a2 a4 : SV}
theorem app_dig {xs : List Int} {m : Nat} (h : Dig xs m) (hm : m < 16000000) {x : Int} : meth1 .append (.loc 0 0) (.d (.int x)) (digS S0 xs) = .ok (.d .non) (digS S0 (xs ++ [x])) := by
  rw [app_d digS_get (by rw [List.length_map]; have := h.2; omega), digS_set]
theorem l_dig1 {xs : List Int} {m : Nat} (h : Dig xs m) (hm : m < 1000000) (c : Int) : (forL (fun _ => true) (putT (.one 6)) (evS C hb1) [some a0, some a1, some a2, some (.loc 0 0), some a4, some (.d (.int c)), none, none] 1 (rngUp 0 60) [some a0, some a1, some a2, some (.loc 0 0), some a4, some (.d (.int c)), none, none] (digS S0 xs)).post
    fun fl S' => ∃ c' ys, fl = .next [some a0, some a1, some a2, some (.loc 0 0), some a4, some (.d (.int c')), none, none] ∧ S' = digS S0 ys ∧ Dig ys (m + 60) := by
  refine forL_inv (fun rem ρ S => ∃ c' ys, ρ = [some a0, some a1, some a2, some (.loc 0 0), some a4, some (.d (.int c')), none, none] ∧ S = digS S0 ys ∧ rem.length ≤ 60 ∧ Dig ys (m + (60 - rem.length))) ?_ ?_ _ _ _ ⟨c, xs, rfl, rfl, by simp [rng_len], h.mono (by simp)⟩
  · rintro x rem ρ S ⟨c', ys, rfl, rfl, hl, hd⟩
    refine ⟨rfl, _, rfl, ?_⟩
    rw [List.length_cons] at hl hd
    by_cases hc : 0 < c'
    · simp [hb1, varV, Env.put, hc, recv_loc (m := .append) (by simp) digS_get, bop_mod (i := c') (j := 1000) (by omega), app_dig hd (by omega), bop_div (i := c') (j := 1000) (by omega) (by omega)]
      exact ⟨_, ownFree_take rfl, by omega, hd.push.mono (by omega)⟩
    · simp [hb1, varV, Env.put, hc]
      exact ⟨_, ownFree_take rfl, by omega, hd.mono (by omega)⟩
  · rintro ρ S ⟨c', ys, rfl, rfl, _, hd⟩
    exact ⟨rfl, c', ys, rfl, rfl, hd.mono (by simp)⟩
theorem l_dig2 {xs : List Int} {m : Nat} (h : Dig xs m) (hm : m < 1000000) (c : SV) (s : Int) (hs : 0 ≤ s ∧ s < 2147483647) : (forL (fun _ => true) (putT (.one 6)) (evS C hb2) [some a0, some a1, some a2, some (.loc 0 0), some a4, some c, none, some (.d (.int s))] 1 (rngUp 0 12) [some a0, some a1, some a2, some (.loc 0 0), some a4, some c, none, some (.d (.int s))] (digS S0 xs)).post
    fun fl S' => ∃ s' ys, fl = .next [some a0, some a1, some a2, some (.loc 0 0), some a4, some c, none, some (.d (.int s'))] ∧ S' = digS S0 ys ∧ Dig ys (m + 60) := by
  refine forL_inv (fun rem ρ S => ∃ s' ys, (0 ≤ s' ∧ s' < 2147483647) ∧ ρ = [some a0, some a1, some a2, some (.loc 0 0), some a4, some c, none, some (.d (.int s'))] ∧ S = digS S0 ys ∧ rem.length ≤ 12 ∧ (∀ x ∈ rem, ∃ i, x = D.int i ∧ 0 ≤ i ∧ i < 12) ∧ Dig ys (m + (12 - rem.length))) ?_ ?_ _ _ _ ⟨s, xs, hs, rfl, rfl, by simp [rng_len], fun x hx => by obtain ⟨i, e, h1, h2⟩ := rng_mem _ _ _ hx; exact ⟨i, e, by omega, by omega⟩, h.mono (by simp)⟩
  · rintro x rem ρ S ⟨s', ys, hs, rfl, rfl, hl, hr, hd⟩
    obtain ⟨i, rfl, h1, h2⟩ := hr x List.mem_cons_self
    refine ⟨rfl, _, rfl, ?_⟩
    rw [List.length_cons] at hl hd
    have hb : 0 ≤ (s' * 16807 + 7 * i + 1) % 2147483647 ∧ (s' * 16807 + 7 * i + 1) % 2147483647 < 2147483647 := ⟨mod_nn (by omega), mod_lt (by omega)⟩
    simp [hb2, varV, Env.put, recv_loc (m := .append) (by simp) digS_get, mul_l (i := s') (j := 16807) (by omega) (by omega), mul_l (i := 7) (j := i) (by omega) (by omega), bop_mod (j := 2147483647) (by omega), bop_mod (j := 1000) (by omega), bop_div (j := 997) (by omega) (by omega), app_dig hd (by omega)]
    exact ⟨_, hb, rfl, _, ownFree_take rfl, by omega, fun x hx => hr x (List.mem_cons_of_mem _ hx), hd.push.mono (by omega)⟩
  · rintro ρ S ⟨s', ys, hs, rfl, rfl, _, _, hd⟩
    exact ⟨rfl, s', ys, rfl, rfl, hd.mono (by simp)⟩
end
theorem s_digits {i ic : Nat} (h : T i = some (hDigits ic)) (hc : T ic = some hCell) (ns : List Int) (a b : Int) (ha : 0 ≤ a) (hab : a ≤ b) (hb : b ≤ 1000) :
    ∃ ds : List Int, (∀ x ∈ ds, 0 ≤ x ∧ x < 1000) ∧ ds.length ≤ 60000 ∧ callN T (n + 2) i [.d (.rol (ns.map D.int)), .d (.int a), .d (.int b)] S = .ok (.new (.lst (ds.map D.int))) S := by
  rw [call_eq h rfl]
  have key : (forL (fun _ => true) (putT (.one 4)) (evS (callN T (n + 1)) (hb3 ic)) [some (.d (.rol (ns.map D.int))), some (.d (.int a)), some (.d (.int b)), some (.loc 0 0), none, none, none, none] 1 (rngUp a (b - a).toNat) [some (.d (.rol (ns.map D.int))), some (.d (.int a)), some (.d (.int b)), some (.loc 0 0), none, none, none, none] (digS S [])).post
      fun fl S' => ∃ ys, fl = .next [some (.d (.rol (ns.map D.int))), some (.d (.int a)), some (.d (.int b)), some (.loc 0 0), none, none, none, none] ∧ S' = digS S ys ∧ Dig ys 60000 := by
    refine forL_inv (fun rem ρ S' => ∃ ys, ρ = [some (.d (.rol (ns.map D.int))), some (.d (.int a)), some (.d (.int b)), some (.loc 0 0), none, none, none, none] ∧ S' = digS S ys ∧ rem.length ≤ 1000 ∧ (∀ x ∈ rem, ∃ i, x = D.int i ∧ 0 ≤ i ∧ i < 1000) ∧ Dig ys (60 * (1000 - rem.length))) ?_ ?_ _ _ _ ⟨[], rfl, rfl, by rw [rng_len]; omega, fun x hx => by obtain ⟨i, e, h1, h2⟩ := rng_mem _ _ _ hx; exact ⟨i, e, by omega, by omega⟩, ⟨fun x hx => (by cases hx), by simp⟩⟩
    · rintro x rem ρ S' ⟨ys, rfl, rfl, hl, hr, hd⟩
      obtain ⟨i, rfl, h1, h2⟩ := hr x List.mem_cons_self
      refine ⟨rfl, _, rfl, ?_⟩
      rw [List.length_cons] at hl hd
      obtain ⟨c0, e0⟩ := s_cell (n := n) (S := digS S ys) hc ns i h1
      have next : ∀ ys' : List Int, Dig ys' (60 * (1000 - (rem.length + 1)) + 60) → ∃ ys_1, digS S ys' = digS S ys_1 ∧ rem.length ≤ 1000 ∧ (∀ x ∈ rem, ∃ i, x = D.int i ∧ 0 ≤ i ∧ i < 1000) ∧ Dig ys_1 (60 * (1000 - rem.length)) := fun ys' h => ⟨ys', rfl, by omega, fun x hx => hr x (List.mem_cons_of_mem _ hx), h.mono (by omega)⟩
      have main : ∀ c : Int, 0 ≤ c → (evS (callN T (n + 1)) (.ife (.cmp .ge (.var 5) (.bin .pow (.con (.int 10)) (.con (.int 18))))
          (.for_ (.one 6) (.wk .rng1 (.con (.int 60)) .nil)
          hb1)
          (.seq (.set 7 false (.bin .mod (.b1 .int (.bin .add (.bin .add (.bin .mul (.var 5) (.con (.int 48271))) (.bin .mul (.var 4) (.con (.int 69621)))) (.con (.int 11)))) (.con (.int 2147483647))))
          (.for_ (.one 6) (.wk .rng1 (.con (.int 12)) .nil)
          hb2))) [some (.d (.rol (ns.map D.int))), some (.d (.int a)), some (.d (.int b)), some (.loc 0 0), some (.d (.int i)), some (.d (.int c)), none, none] (digS S ys)).post fun fl S' => ∃ c' s' ys', fl = .next [some (.d (.rol (ns.map D.int))), some (.d (.int a)), some (.d (.int b)), some (.loc 0 0), some (.d (.int i)), some (.d (.int c')), none, s'] ∧ S' = digS S ys' ∧ Dig ys' (60 * (1000 - (rem.length + 1)) + 60) := by
        intro c hc0
        by_cases hbig : (1000000000000000000 : Int) ≤ c
        · simp [varV, bop_pow, hbig, rng1_int]
          refine post_mono (l_dig1 hd (by omega) c) ?_
          rintro fl S' ⟨c', ys', rfl, rfl, h⟩
          exact ⟨⟨c', none, rfl⟩, ys', rfl, h.mono (by omega)⟩
        · have hs : 0 ≤ (c * 48271 + i * 69621 + 11) % 2147483647 ∧ (c * 48271 + i * 69621 + 11) % 2147483647 < 2147483647 := ⟨mod_nn (by omega), mod_lt (by omega)⟩
          simp [varV, bop_pow, hbig, rng1_int, mul_l (i := c) (j := 48271) (by omega) (by omega), mul_l (i := i) (j := 69621) (by omega) (by omega), bop_mod (j := 2147483647) (by omega)]
          refine post_mono (l_dig2 hd (by omega) (.d (.int c)) _ hs) ?_
          rintro fl S' ⟨s', ys', rfl, rfl, h⟩
          exact ⟨⟨c, _, rfl⟩, ys', rfl, h.mono (by omega)⟩
      have fin : ∀ r : Res Flow, (r.post fun fl S' => ∃ c' s' ys', fl = .next [some (.d (.rol (ns.map D.int))), some (.d (.int a)), some (.d (.int b)), some (.loc 0 0), some (.d (.int i)), some (.d (.int c')), none, s'] ∧ S' = digS S ys' ∧ Dig ys' (60 * (1000 - (rem.length + 1)) + 60)) → r.post fun fl S2 => match fl with
          | .next ρ2 => ∃ ys, mask [some (.d (.rol (ns.map D.int))), some (.d (.int a)), some (.d (.int b)), some (.loc 0 0), none, none, none, none] ρ2 = [some (.d (.rol (ns.map D.int))), some (.d (.int a)), some (.d (.int b)), some (.loc 0 0), none, none, none, none] ∧ trim 1 (mask [some (.d (.rol (ns.map D.int))), some (.d (.int a)), some (.d (.int b)), some (.loc 0 0), none, none, none, none] ρ2) S2 = digS S ys ∧ rem.length ≤ 1000 ∧ (∀ x ∈ rem, ∃ i, x = D.int i ∧ 0 ≤ i ∧ i < 1000) ∧ Dig ys (60 * (1000 - rem.length))
          | .cont ρ2 => ∃ ys, mask [some (.d (.rol (ns.map D.int))), some (.d (.int a)), some (.d (.int b)), some (.loc 0 0), none, none, none, none] ρ2 = [some (.d (.rol (ns.map D.int))), some (.d (.int a)), some (.d (.int b)), some (.loc 0 0), none, none, none, none] ∧ trim 1 (mask [some (.d (.rol (ns.map D.int))), some (.d (.int a)), some (.d (.int b)), some (.loc 0 0), none, none, none, none] ρ2) S2 = digS S ys ∧ rem.length ≤ 1000 ∧ (∀ x ∈ rem, ∃ i, x = D.int i ∧ 0 ≤ i ∧ i < 1000) ∧ Dig ys (60 * (1000 - rem.length))
          | .brk ρ2 => ∃ ys, Flow.next (mask [some (.d (.rol (ns.map D.int))), some (.d (.int a)), some (.d (.int b)), some (.loc 0 0), none, none, none, none] ρ2) = .next [some (.d (.rol (ns.map D.int))), some (.d (.int a)), some (.d (.int b)), some (.loc 0 0), none, none, none, none] ∧ trim 1 (mask [some (.d (.rol (ns.map D.int))), some (.d (.int a)), some (.d (.int b)), some (.loc 0 0), none, none, none, none] ρ2) S2 = digS S ys ∧ Dig ys 60000
          | .ret r => ∃ ys, Flow.ret r = .next [some (.d (.rol (ns.map D.int))), some (.d (.int a)), some (.d (.int b)), some (.loc 0 0), none, none, none, none] ∧ S2 = digS S ys ∧ Dig ys 60000 := by
        intro r hr'
        refine post_mono hr' ?_
        rintro fl S2 ⟨c', s', ys', rfl, rfl, h⟩
        obtain ⟨z, e1, e2⟩ := next ys' h
        exact ⟨ys', rfl, ownFree_take rfl, (next ys' h).choose_spec.2.1, fun x hx => hr x (List.mem_cons_of_mem _ hx), h.mono (by omega)⟩
      refine fin _ ?_
      unfold hb3
      by_cases hneg : c0 < 0
      · simp [varV, Env.put, e0, hneg, mul_l (i := 2) (by omega) (by omega)]
        have := main (1 - 2 * c0) (by omega)
        simpa [varV] using this
      · simp [varV, Env.put, e0, hneg]
        have := main c0 (by omega)
        simpa [varV] using this
    · rintro ρ S' ⟨ys, rfl, rfl, _, _, hd⟩
      exact ⟨rfl, ys, rfl, rfl, hd.mono (by simp)⟩
  obtain ⟨fl, S', e, ys, rfl, rfl, hd⟩ := post_ex key
  refine ⟨ys, hd.1, hd.2, ?_⟩
  have e' : forL (⟨rngUp a (b - a).toNat, none⟩ : Walk).chk (putT (.one 4)) (evS (callN T (n + 1)) (hb3 ic)) [some (.d (.rol (ns.map D.int))), some (.d (.int a)), some (.d (.int b)), some (.loc 0 0), none, none, none, none] 1 (rngUp a (b - a).toNat) [some (.d (.rol (ns.map D.int))), some (.d (.int a)), some (.d (.int b)), some (.loc 0 0), none, none, none, none] ⟨[⟨false, .lst []⟩], S.own :: S.out, S.gl⟩ = _ := e
  simp [hDigits, varV, St.call, rng2_int (i := a) (j := b) (by omega) (by omega) (by omega) (by omega), e', sz]
  rfl
end U

namespace U
open PySem
section
variable {S : St} {C : Nat → List SV → M RV} {ρ : Env} {a b : DE} {i j : Int}
theorem ix_loc {u l : Nat} {z : Bool} {ds : List D} {k : Nat} {d : D} (hg : S.get u l = some ⟨z, .lst ds⟩) (h : ds[k]? = some d) : ixV (.loc u l) (.d (.int k)) S = .ok (.d d) S := by
  have hk : k < ds.length := (List.getElem?_eq_some_iff.mp h).1
  have e : getIx (.lst ds) (.int k) = some d := by
    show (match ixN ds.length (k : Int) with
      | some k => ds[k]?
      | none => none) = _
    rw [ixN_nat hk]
    exact h
  unfold ixV
  rw [hold_locR, rv_loc, view_loc hg]
  show (match getIx (.lst ds) (.int k) with
    | some v => (.ok (.d v) S : Res RV)
    | none => .bad) = _
  rw [e]
theorem len_loc {u l : Nat} {z : Bool} {ds : List D} (hg : S.get u l = some ⟨z, .lst ds⟩) : b1V .len (.loc u l) S = .ok (.d (.int ds.length)) S := by
  unfold b1V
  rw [view_loc hg]
  rfl
theorem st_loc {u l : Nat} {ds : List D} {k : Nat} {d : D} (hg : S.get u l = some ⟨false, .lst ds⟩) (h : k < ds.length) : stV (.loc u l) (.d (.int k)) d ρ S = .ok (.next ρ) (S.set u l ⟨false, .lst (ds.set k d)⟩) := by
  unfold stV
  rw [dI_int]
  dsimp only
  rw [hg]
  dsimp only
  rw [ixN_nat h]
theorem set_same {u l : Nat} {x : LO} (hg : S.get u l = some x) : S.set u l x = S := by
  cases u with
  | zero =>
    have hg : S.own[l]? = some x := hg
    show (⟨S.own.set l x, S.out, S.gl⟩ : St) = S
    obtain ⟨h, e⟩ := List.getElem?_eq_some_iff.mp hg
    rw [← e, List.set_getElem_self]
  | succ u =>
    have hg : (match S.out[u]? with
      | some l' => l'[l]?
      | none => none) = some x := hg
    show (⟨S.own, S.out.modify u fun l' => l'.set l x, S.gl⟩ : St) = S
    have : (S.out.modify u fun l' => l'.set l x) = S.out := by
      apply List.ext_getElem?
      intro m
      rw [List.getElem?_modify]
      cases e : S.out[m]? with
      | none => rfl
      | some l' =>
        by_cases hm : u = m
        · subst hm
          rw [e] at hg
          obtain ⟨h, e2⟩ := List.getElem?_eq_some_iff.mp hg
          simp [← e2]
        · simp [hm]
    rw [this]
end
variable {T : Nat → Option FD} {n : Nat} {S : St} {u j : Nat} {ds : List Int} {k : Nat}
/-! the box -/
def boxO (ds : List Int) (k : Nat) : LO := ⟨false, .lst [.lst (ds.map D.int), .int k]⟩
def drw (ds : List Int) (k : Nat) (m : Int) : Int := (ds[k]?.getD 0) % m
theorem drw_nn {m : Int} (h : 0 < m) : 0 ≤ drw ds k m := mod_nn h
theorem drw_lt {m : Int} (h : 0 < m) : drw ds k m < m := mod_lt h
def hDraw : FD := { np := 2, ns := 3, body := (.seq (.set 2 false (.ix (.var 0) (.con (.int 1))))
    (.seq (.setIx (.var 0) (.con (.int 1)) (.bin .add (.var 2) (.con (.int 1))))
    (.seq (.ife (.cmp .lt (.var 2) (.b1 .len (.ix (.var 0) (.con (.int 0)))))
    (.ret (.bin .mod (.b1 .int (.ix (.ix (.var 0) (.con (.int 0))) (.var 2))) (.var 1)))
    .skip)
    (.ret (.con (.int 0)))))) }
theorem s_draw {i : Nat} (h : T i = some hDraw) (hb : S.get u j = some (boxO ds k)) {m : Int} (hm : 0 < m) : callN T (n + 1) i [.loc u j, .d (.int m)] S = .ok (.d (.int (drw ds k m))) (S.set u j (boxO ds (k + 1))) := by
  rw [call_eq h rfl]
  have g0 : S.call.get (u + 1) j = some (boxO ds k) := by rw [call_get]; exact hb
  have e1 : ixV (.loc (u + 1) j) (.d (.int 1)) S.call = .ok (.d (.int k)) S.call := ix_loc (k := 1) g0 rfl
  have e2 : ∀ ρ, stV (.loc (u + 1) j) (.d (.int 1)) (.int (k + 1)) ρ S.call = .ok (.next ρ) (S.set u j (boxO ds (k + 1))).call := fun ρ => by
    rw [show (1 : Int) = ((1 : Nat) : Int) from rfl, st_loc (k := 1) g0 (by simp), call_set]
    rfl
  have g1 : (S.set u j (boxO ds (k + 1))).call.get (u + 1) j = some (boxO ds (k + 1)) := by rw [call_get]; exact get_set hb
  have e3 : ixV (.loc (u + 1) j) (.d (.int 0)) (S.set u j (boxO ds (k + 1))).call = .ok (.d (.lst (ds.map D.int))) (S.set u j (boxO ds (k + 1))).call := ix_loc (k := 0) g1 rfl
  by_cases hl : k < ds.length
  · have e4 : ixV (.d (.lst (ds.map D.int))) (.d (.int k)) (S.set u j (boxO ds (k + 1))).call = .ok (.d (.int ds[k])) (S.set u j (boxO ds (k + 1))).call := ix_lst (by rw [List.getElem?_map, List.getElem?_eq_getElem hl]; rfl)
    simp [hDraw, varV, e1, e2, e3, e4, hl, bop_mod hm, drw]
  · simp [hDraw, varV, e1, e2, e3, hl, drw]
def hPick (id : Nat) : FD := { np := 2, ns := 2, body := (.ret (.ix (.var 1) (.bin .mod (.b1 .int (.call id (.cons (.var 0) (.cons (.con (.int 900)) .nil)))) (.b1 .len (.var 1))))) }
theorem s_pick {i id : Nat} (h : T i = some (hPick id)) (hd : T id = some hDraw) (hb : S.get u j = some (boxO ds k)) (xs : List D) (hx : xs ≠ []) : ∃ x ∈ xs, callN T (n + 2) i [.loc u j, .d (.lst xs)] S = .ok (.d x) (S.set u j (boxO ds (k + 1))) := by
  have hpos : 0 < (xs.length : Int) := by
    have := List.length_pos_iff.mpr hx
    omega
  have g0 : S.call.get (u + 1) j = some (boxO ds k) := by rw [call_get]; exact hb
  have h1 := mod_nn (i := drw ds k 900) hpos
  have h2 := mod_lt (i := drw ds k 900) hpos
  obtain ⟨m, em⟩ := Int.eq_ofNat_of_zero_le h1
  have hm : m < xs.length := by omega
  refine ⟨xs[m], List.getElem_mem hm, ?_⟩
  rw [call_eq h rfl]
  have e1 := s_draw (n := n) (m := 900) hd g0 (by omega)
  rw [call_set] at e1
  have e2 : ixV (.d (.lst xs)) (.d (.int m)) (S.set u j (boxO ds (k + 1))).call = .ok (.d xs[m]) (S.set u j (boxO ds (k + 1))).call := ix_lst (List.getElem?_eq_getElem hm)
  simp [hPick, varV, e1, bop_mod hpos, em, e2]
theorem s_pickT {i id : Nat} (h : T i = some (hPick id)) (hd : T id = some hDraw) (hb : S.get u j = some (boxO ds k)) (xs : List D) (hx : xs ≠ []) : ∃ x ∈ xs, callN T (n + 2) i [.loc u j, .d (.tup xs)] S = .ok (.d x) (S.set u j (boxO ds (k + 1))) := by
  have hpos : 0 < (xs.length : Int) := by
    have := List.length_pos_iff.mpr hx
    omega
  have g0 : S.call.get (u + 1) j = some (boxO ds k) := by rw [call_get]; exact hb
  have h1 := mod_nn (i := drw ds k 900) hpos
  have h2 := mod_lt (i := drw ds k 900) hpos
  obtain ⟨m, em⟩ := Int.eq_ofNat_of_zero_le h1
  have hm : m < xs.length := by omega
  refine ⟨xs[m], List.getElem_mem hm, ?_⟩
  rw [call_eq h rfl]
  have e1 := s_draw (n := n) (m := 900) hd g0 (by omega)
  rw [call_set] at e1
  have e2 : ixV (.d (.tup xs)) (.d (.int m)) (S.set u j (boxO ds (k + 1))).call = .ok (.d xs[m]) (S.set u j (boxO ds (k + 1))).call := ix_tup (List.getElem?_eq_getElem hm)
  simp [hPick, varV, e1, bop_mod hpos, em, e2]
def hNumber (id : Nat) : FD := { np := 2, ns := 2, body := (.ret (.bin .mod (.b1 .int (.bin .add (.bin .mul (.call id (.cons (.var 0) (.cons (.con (.int 1000)) .nil))) (.con (.int 1009))) (.call id (.cons (.var 0) (.cons (.con (.int 1000)) .nil))))) (.var 1))) }
def num (ds : List Int) (k : Nat) (p : Int) : Int := (drw ds k 1000 * 1009 + drw ds (k + 1) 1000) % p
theorem num_nn {p : Int} (h : 0 < p) : 0 ≤ num ds k p := mod_nn h
theorem num_lt {p : Int} (h : 0 < p) : num ds k p < p := mod_lt h
theorem s_number {i id : Nat} (h : T i = some (hNumber id)) (hd : T id = some hDraw) (hb : S.get u j = some (boxO ds k)) {p : Int} (hp : 0 < p) : callN T (n + 2) i [.loc u j, .d (.int p)] S = .ok (.d (.int (num ds k p))) (S.set u j (boxO ds (k + 2))) := by
  have g0 : S.call.get (u + 1) j = some (boxO ds k) := by rw [call_get]; exact hb
  have g1 : (S.set u j (boxO ds (k + 1))).call.get (u + 1) j = some (boxO ds (k + 1)) := by rw [call_get]; exact get_set hb
  have e1 := s_draw (n := n) (m := 1000) hd g0 (by omega)
  have e2 := s_draw (n := n) (m := 1000) hd g1 (by omega)
  rw [call_set] at e1 e2
  rw [set_set] at e2
  have b1 := drw_nn (ds := ds) (k := k) (m := 1000) (by omega)
  have b2 := drw_lt (ds := ds) (k := k) (m := 1000) (by omega)
  rw [call_eq h rfl]
  simp [hNumber, varV, e1, e2, mul_r (i := drw ds k 1000) (j := 1009) (by omega) (by omega), bop_mod hp, num]
/-! the same text -/
def hSame : FD := { np := 2, ns := 2, body := (.ret (.cmp .eq (.b1 .repr (.var 0)) (.b1 .repr (.var 1)))) }
theorem strB {x : Str} : eqOk (.str x) (.str x) = true := rfl
theorem s_same {i : Nat} (h : T i = some hSame) {d : D} (h1 : showB 20 d = true) (h2 : sz (PyData.shown d.py).length = true) (hv : ∀ k, d ≠ .ref k) : callN T (n + 1) i [.d d, .d d] S = .ok (.d (.bl true)) S := by
  rw [call_eq h rfl]
  have e : ∀ S, b1V .repr (.d d) S = .ok (.d (.str (PyData.shown d.py))) S := fun S => by
    have : view S (.d d) = some d := by cases d <;> first | rfl | exact absurd rfl (hv _)
    unfold b1V
    rw [this]
    show M.opt (if (showB 20 d && sz (PyData.shown d.py).length) = true then _ else _) S = _
    rw [h1, h2]
    rfl
  have e2 : ∀ S x, cmpV .eq (.d (.str x)) (.d (.str x)) S = .ok (.d (.bl true)) S := fun S x => by
    show (match (if eqOk (.str x) (.str x) = true then some (D.beq (.str x) (.str x)) else none) with
      | some b => (.ok (.d (.bl b)) S : Res RV)
      | none => .bad) = _
    rw [if_pos strB, (D.beq_iff (.str x) (.str x)).mpr rfl]
  simp [hSame, varV, e, e2]
/-! powers, by forty turns -/
def hrb : DS := (.seq (.ife (.cmp .eq (.bin .mod (.b1 .int (.var 2)) (.con (.int 2))) (.con (.int 1)))
    (.set 3 false (.bin .mod (.b1 .int (.bin .mul (.var 3) (.var 1))) (.var 0)))
    .skip)
    (.seq (.set 1 false (.bin .mod (.b1 .int (.bin .mul (.var 1) (.var 1))) (.var 0)))
    (.set 2 false (.bin .fdiv (.var 2) (.con (.int 2))))))
def hRaised : FD := { np := 3, ns := 5, body := (.seq (.set 3 false (.bin .mod (.b1 .int (.con (.int 1))) (.var 0)))
    (.seq (.for_ (.one 4) (.wk .rng1 (.con (.int 40)) .nil)
    hrb)
    (.ret (.var 3)))) }
def rsL (p : Int) : Nat → Int → Int → Int → Int
  | 0, f, _, _ => f
  | m + 1, f, s, k => rsL p m (if k % 2 = 1 then f * s % p else f) (s * s % p) (k / 2)
def rs (p a k : Int) : Int := rsL p 40 (1 % p) a k
theorem l_raised {C : Nat → List SV → M RV} {p : Int} (hp : 0 < p ∧ p ≤ 1000000) {q0 q1 q2 q3 : SV} : ∀ (xs : List D) (f s k : Int), 0 ≤ f → f < p → 0 ≤ s → s < p → 0 ≤ k →
    ∃ s' k', forL (fun _ => true) (putT (.one 4)) (evS C hrb) [some q0, some q1, some q2, some q3, none] 0 xs [some (.d (.int p)), some (.d (.int s)), some (.d (.int k)), some (.d (.int f)), none] S.call =
      .ok (.next [some (.d (.int p)), some (.d (.int s')), some (.d (.int k')), some (.d (.int (rsL p xs.length f s k))), none]) S.call
  | [], f, s, k, _, _, _, _, _ => ⟨s, k, rfl⟩
  | x :: xs, f, s, k, hf, hf2, hs, hs2, hk => by
    have p0 := hp.1
    have hk2 : 0 ≤ k / 2 := by omega
    obtain ⟨s1, k1, e1⟩ := l_raised (C := C) hp xs (f * s % p) (s * s % p) (k / 2) (mod_nn p0) (mod_lt p0) (mod_nn p0) (mod_lt p0) hk2
    obtain ⟨s2, k2, e2⟩ := l_raised (C := C) hp xs f (s * s % p) (k / 2) hf hf2 (mod_nn p0) (mod_lt p0) hk2
    by_cases hm : k % 2 = 1
    · refine ⟨s1, k1, ?_⟩
      rw [forL]
      simp [putT, Env.put, hrb, varV, bop_mod (i := k) (j := 2) (by omega), hm, mul_l (i := f) (j := s) (by omega) (by omega), mul_l (i := s) (j := s) (by omega) (by omega), bop_mod p0, bop_div (i := k) (j := 2) (by omega) (by omega), rsL]
      exact e1
    · refine ⟨s2, k2, ?_⟩
      rw [forL]
      simp [putT, Env.put, hrb, varV, bop_mod (i := k) (j := 2) (by omega), hm, mul_l (i := f) (j := s) (by omega) (by omega), mul_l (i := s) (j := s) (by omega) (by omega), bop_mod p0, bop_div (i := k) (j := 2) (by omega) (by omega), rsL]
      exact e2
theorem s_raised {i : Nat} (h : T i = some hRaised) {p a k : Int} (hp : 0 < p ∧ p ≤ 1000000) (ha : 0 ≤ a) (ha2 : a < p) (hk : 0 ≤ k) : callN T (n + 1) i [.d (.int p), .d (.int a), .d (.int k)] S = .ok (.d (.int (rs p a k))) S := by
  have p0 := hp.1
  obtain ⟨s', k', e⟩ := l_raised (S := S) (C := callN T n) (q0 := .d (.int p)) (q1 := .d (.int a)) (q2 := .d (.int k)) (q3 := .d (.int (1 % p))) hp (rngUp 0 40) (1 % p) a k (mod_nn p0) (mod_lt p0) ha ha2 hk
  rw [call_eq h rfl]
  have e' : forL (⟨rngUp 0 40, none⟩ : Walk).chk (putT (.one 4)) (evS (callN T n) hrb) [some (.d (.int p)), some (.d (.int a)), some (.d (.int k)), some (.d (.int (1 % p))), none] 0 (rngUp 0 40) [some (.d (.int p)), some (.d (.int a)), some (.d (.int k)), some (.d (.int (1 % p))), none] S.call = _ := e
  simp [hRaised, varV, bop_mod p0, rng1_int, e']
  rfl
end U

/-! UPoly: numbers mod p, polynomials as lists of ints. -/
namespace U
/-- alike mod p -/
def cg (p a b : Int) : Prop := a % p = b % p
theorem cg.refl {p a : Int} : cg p a a := rfl
theorem cg.symm {p a b : Int} (h : cg p a b) : cg p b a := Eq.symm h
theorem cg.trans {p a b c : Int} (h : cg p a b) (k : cg p b c) : cg p a c := Eq.trans h k
theorem cg.add {p a b c d : Int} (h : cg p a b) (k : cg p c d) : cg p (a + c) (b + d) := by
  unfold cg at *
  rw [Int.add_emod, h, k, ← Int.add_emod]
theorem cg.mul {p a b c d : Int} (h : cg p a b) (k : cg p c d) : cg p (a * c) (b * d) := by
  unfold cg at *
  rw [Int.mul_emod, h, k, ← Int.mul_emod]
theorem cg.sub {p a b c d : Int} (h : cg p a b) (k : cg p c d) : cg p (a - c) (b - d) := by
  unfold cg at *
  rw [Int.sub_emod, h, k, ← Int.sub_emod]
theorem cg.mod {p a : Int} : cg p (a % p) a := by unfold cg; exact Int.emod_emod_of_dvd _ (Int.dvd_refl p)
theorem cg.of_eq {p a b : Int} (h : a = b) : cg p a b := by rw [h]; exact rfl
theorem cg.eq {p a b : Int} (h : cg p a b) (a0 : 0 ≤ a) (a1 : a < p) (b0 : 0 ≤ b) (b1 : b < p) : a = b := by
  unfold cg at h
  rwa [Int.emod_eq_of_lt a0 a1, Int.emod_eq_of_lt b0 b1] at h
theorem cg.eqm {p a b : Int} (h : cg p a b) (a0 : 0 ≤ a) (a1 : a < p) : a = b % p := by
  unfold cg at h
  rwa [Int.emod_eq_of_lt a0 a1] at h
theorem cg.sub0 {p a b : Int} : cg p (a - b) 0 ↔ cg p a b := by
  unfold cg
  rw [Int.zero_emod, Int.emod_eq_emod_iff_emod_sub_eq_zero]
/-- every number that isn't alike 0 has an inverse -/
def Fld (p : Int) : Prop := 2 ≤ p ∧ ∀ a, ¬ cg p a 0 → ∃ b, cg p (a * b) 1
theorem Fld.zero {p a b : Int} (F : Fld p) (h : cg p (a * b) 0) : cg p a 0 ∨ cg p b 0 := by
  by_cases ha : cg p a 0
  · exact .inl ha
  · obtain ⟨c, hc⟩ := F.2 a ha
    refine .inr ?_
    have h1 : cg p (a * b * c) (0 * c) := h.mul .refl
    have h2 : cg p (a * c * b) (1 * b) := hc.mul .refl
    have e : a * b * c = a * c * b := by grind
    rw [e] at h1
    rw [Int.one_mul] at h2
    rw [Int.zero_mul] at h1
    exact h2.symm.trans h1
theorem Fld.one {p : Int} (F : Fld p) : ¬ cg p 1 0 := by
  have := F.1
  unfold cg
  rw [Int.emod_eq_of_lt (by omega) (by omega), Int.zero_emod]
  decide
/-! polynomials -/
def pe (x : Int) : List Int → Int
  | [] => 0
  | c :: cs => c + x * pe x cs
theorem pe_append (x : Int) : ∀ (f g : List Int), pe x (f ++ g) = pe x f + x ^ f.length * pe x g
  | [], g => by simp [pe]
  | c :: f, g => by
    rw [List.cons_append, pe, pe, pe_append x f g, List.length_cons, Int.pow_succ]
    grind
def pAdd : List Int → List Int → List Int
  | a :: f, b :: g => (a + b) :: pAdd f g
  | _, _ => []
def pSc (c : Int) (f : List Int) : List Int := f.map (c * ·)
theorem pe_sc (x c : Int) : ∀ f : List Int, pe x (pSc c f) = c * pe x f
  | [] => by simp [pSc, pe]
  | a :: f => by
    show c * a + x * pe x (pSc c f) = _
    rw [pe_sc x c f, pe]
    grind
theorem pe_add (x : Int) : ∀ f g : List Int, f.length = g.length → pe x (pAdd f g) = pe x f + pe x g
  | [], [], _ => rfl
  | a :: f, b :: g, h => by
    rw [pAdd, pe, pe_add x f g (by simpa using h), pe, pe]
    grind
  | [], _ :: _, h => by simp at h
  | _ :: _, [], h => by simp at h
/-- numbers kept in [0, p) -/
def red (p : Int) (f : List Int) : List Int := f.map (· % p)
theorem pe_red (p x : Int) : ∀ f : List Int, cg p (pe x (red p f)) (pe x f)
  | [] => .refl
  | a :: f => by
    show cg p (a % p + x * pe x (red p f)) (a + x * pe x f)
    exact cg.mod.add (cg.refl.mul (pe_red p x f))
theorem pe_cg {p x y : Int} (h : cg p x y) : ∀ f : List Int, cg p (pe x f) (pe y f)
  | [] => .refl
  | a :: f => cg.refl.add (h.mul (pe_cg h f))
def Alike (p : Int) : List Int → List Int → Prop
  | [], [] => True
  | a :: f, b :: g => cg p a b ∧ Alike p f g
  | _, _ => False
theorem Alike.pe {p x : Int} : ∀ {f g : List Int}, Alike p f g → cg p (pe x f) (pe x g)
  | [], [], _ => .refl
  | a :: f, b :: g, ⟨h, t⟩ => h.add (cg.refl.mul t.pe)
  | [], _ :: _, h => h.elim
  | _ :: _, [], h => h.elim
/-- divided by x - a: the quotient -/
def pDiv (a : Int) : List Int → List Int
  | [] => []
  | [_] => []
  | _ :: d :: cs => pe a (d :: cs) :: pDiv a (d :: cs)
theorem pDiv_len (a : Int) : ∀ f : List Int, (pDiv a f).length = f.length - 1
  | [] => rfl
  | [_] => rfl
  | _ :: d :: cs => by
    rw [pDiv, List.length_cons, pDiv_len a (d :: cs)]
    simp
theorem pDiv_ok (a x : Int) : ∀ f : List Int, pe x f = pe a f + (x - a) * pe x (pDiv a f)
  | [] => by simp [pe, pDiv]
  | [c] => by simp [pe, pDiv]
  | c :: d :: cs => by
    have ih := pDiv_ok a x (d :: cs)
    rw [show pe x (c :: d :: cs) = c + x * pe x (d :: cs) from rfl, show pe a (c :: d :: cs) = c + a * pe a (d :: cs) from rfl, pDiv, show pe x (pe a (d :: cs) :: pDiv a (d :: cs)) = pe a (d :: cs) + x * pe x (pDiv a (d :: cs)) from rfl, ih]
    grind
/-- points unlike mod p -/
def Apart (p : Int) (pts : List Int) : Prop := pts.Pairwise fun a b => ¬ cg p a b
/-- as many roots as numbers: every number is alike 0 -/
theorem pe_zero {p a : Int} : ∀ g : List Int, (∀ c ∈ g, cg p c 0) → cg p (pe a g) 0
  | [], _ => .refl
  | u :: us, hu => by
    have := (hu u List.mem_cons_self).add (cg.refl (a := a) |>.mul (pe_zero (a := a) us fun c hc => hu c (List.mem_cons_of_mem _ hc)))
    simpa [pe] using this
theorem roots_zero {p : Int} (F : Fld p) : ∀ (pts f : List Int), Apart p pts → f.length ≤ pts.length → (∀ a ∈ pts, cg p (pe a f) 0) → ∀ c ∈ f, cg p c 0
  | [], f, _, hl, _ => by
    have : f = [] := List.eq_nil_of_length_eq_zero (by simpa using hl)
    subst this
    intro c hc; cases hc
  | a :: pts, [], _, _, _ => by intro c hc; cases hc
  | a :: pts, [c0], _, _, h => by
    intro c hc
    rw [List.mem_singleton.mp hc]
    have := h a List.mem_cons_self
    simpa [pe] using this
  | a :: pts, c0 :: c1 :: cs, ap, hl, h => by
    obtain ⟨ap1, ap2⟩ := List.pairwise_cons.mp ap
    have ha := h a List.mem_cons_self
    have hq : ∀ b ∈ pts, cg p (pe b (pDiv a (c0 :: c1 :: cs))) 0 := fun b hb => by
      have h1 := h b (List.mem_cons_of_mem _ hb)
      rw [pDiv_ok a b] at h1
      have h2 : cg p ((b - a) * pe b (pDiv a (c0 :: c1 :: cs))) 0 := by
        have := h1.sub ha
        have e : pe a (c0 :: c1 :: cs) + (b - a) * pe b (pDiv a (c0 :: c1 :: cs)) - pe a (c0 :: c1 :: cs) = (b - a) * pe b (pDiv a (c0 :: c1 :: cs)) := by omega
        rw [e] at this
        simpa using this
      rcases F.zero h2 with h3 | h3
      · exact absurd (cg.sub0.mp h3).symm (ap1 b hb)
      · exact h3
    have z := roots_zero F pts (pDiv a (c0 :: c1 :: cs)) ap2 (by rw [pDiv_len]; simpa using hl) hq
    -- all numbers from the second on: by the quotient's
    have tail : ∀ (f : List Int), (∀ c ∈ pDiv a f, cg p c 0) → ∀ c ∈ f.tail, cg p c 0 := by
      intro f
      induction f with
      | nil => intro _ c hc; cases hc
      | cons d ds ih =>
        cases ds with
        | nil => intro _ c hc; cases hc
        | cons e es =>
          intro hz c hc
          have hz1 : cg p (pe a (e :: es)) 0 := hz _ List.mem_cons_self
          have ih' := ih fun c hc => hz c (List.mem_cons_of_mem _ hc)
          rcases List.mem_cons.mp hc with rfl | hc
          · have : cg p (pe a es) 0 := by
              have : ∀ g : List Int, (∀ c ∈ g, cg p c 0) → cg p (pe a g) 0 := by
                intro g
                induction g with
                | nil => intro _; exact .refl
                | cons u us ihu =>
                  intro hu
                  have := (hu u List.mem_cons_self).add (cg.refl (a := a) |>.mul (ihu fun c hc => hu c (List.mem_cons_of_mem _ hc)))
                  simpa [pe] using this
              exact this es ih'
            have h5 : cg p (c + a * pe a es - a * pe a es) (0 - a * 0) := hz1.sub (cg.refl.mul this)
            have e5 : c + a * pe a es - a * pe a es = c := by omega
            rw [e5] at h5
            simpa using h5
          · exact ih' c hc
    have ht := tail _ z
    intro c hc
    rcases List.mem_cons.mp hc with rfl | hc
    · have : cg p (pe a (c1 :: cs)) 0 := by
        have : ∀ g : List Int, (∀ c ∈ g, cg p c 0) → cg p (pe a g) 0 := by
          intro g
          induction g with
          | nil => intro _; exact .refl
          | cons u us ihu =>
            intro hu
            have := (hu u List.mem_cons_self).add (cg.refl (a := a) |>.mul (ihu fun c hc => hu c (List.mem_cons_of_mem _ hc)))
            simpa [pe] using this
        exact this _ ht
      have h5 : cg p (c + a * pe a (c1 :: cs) - a * pe a (c1 :: cs)) (0 - a * 0) := ha.sub (cg.refl.mul this)
      have e5 : c + a * pe a (c1 :: cs) - a * pe a (c1 :: cs) = c := by omega
      rw [e5] at h5
      simpa using h5
    · exact ht c hc
/-- two short polynomials with the same values are alike -/
def pNeg (f : List Int) : List Int := pSc (-1) f
theorem same_poly {p : Int} (F : Fld p) {pts f g : List Int} (ap : Apart p pts) (hl : f.length ≤ pts.length) (hfg : f.length = g.length) (h : ∀ a ∈ pts, cg p (pe a f) (pe a g)) (x : Int) : cg p (pe x f) (pe x g) := by
  have hlen : (pNeg g).length = g.length := List.length_map ..
  have key : ∀ y, pe y (pAdd f (pNeg g)) = pe y f - pe y g := fun y => by
    rw [pe_add y f (pNeg g) (by rw [hlen, hfg]), pNeg, pe_sc]
    omega
  have hal : (pAdd f (pNeg g)).length ≤ pts.length := by
    have : ∀ f g : List Int, f.length = g.length → (pAdd f g).length = f.length := by
      intro f
      induction f with
      | nil => intro g _; cases g <;> rfl
      | cons a f ih =>
        intro g hg
        cases g with
        | nil => simp at hg
        | cons b g => rw [pAdd, List.length_cons, List.length_cons, ih g (by simpa using hg)]
    rw [this f _ (by rw [hlen, hfg])]
    exact hl
  have z := roots_zero F pts (pAdd f (pNeg g)) ap hal fun a ha => by
    rw [key]
    exact cg.sub0.mpr (h a ha)
  have := pe_zero (a := x) _ z
  rw [key] at this
  exact cg.sub0.mp this
/-! what the program makes of them -/
def InR (p : Int) (f : List Int) : Prop := ∀ c ∈ f, 0 ≤ c ∧ c < p
theorem red_in {p : Int} (hp : 0 < p) (f : List Int) : InR p (red p f) := fun c hc => by
  obtain ⟨a, _, rfl⟩ := List.mem_map.mp hc
  exact ⟨Int.emod_nonneg _ (by omega), Int.emod_lt_of_pos _ hp⟩
theorem red_len {p : Int} {f : List Int} : (red p f).length = f.length := List.length_map ..
theorem sc_len {c : Int} {f : List Int} : (pSc c f).length = f.length := List.length_map ..
theorem add_len : ∀ {f g : List Int}, f.length = g.length → (pAdd f g).length = f.length
  | [], [], _ => rfl
  | [], _ :: _, h => by simp at h
  | _ :: _, [], h => by simp at h
  | a :: f, b :: g, h => by rw [pAdd, List.length_cons, List.length_cons, add_len (by simpa using h)]
def scaledV (p c : Int) (f : List Int) : List Int := red p (pSc c f)
def addedV (p : Int) (f g : List Int) : List Int := red p (pAdd f g)
def wrV (p : Int) (f : List Int) (a : Int) : List Int := addedV p (0 :: f) (scaledV p (0 - a) f ++ [0])
def rtV (p : Int) (pts : List Int) : List Int := pts.foldl (wrV p) [1 % p]
def prd (x : Int) (pts : List Int) : Int := pts.foldl (fun acc a => acc * (x - a)) 1
theorem scaled_len {p c : Int} {f : List Int} : (scaledV p c f).length = f.length := by unfold scaledV; rw [red_len, sc_len]
theorem added_len {p : Int} {f g : List Int} (h : f.length = g.length) : (addedV p f g).length = f.length := by unfold addedV; rw [red_len, add_len h]
theorem scaled_pe (p c x : Int) (f : List Int) : cg p (pe x (scaledV p c f)) (c * pe x f) := (pe_red p x _).trans (cg.of_eq (pe_sc x c f))
theorem added_pe (p x : Int) {f g : List Int} (h : f.length = g.length) : cg p (pe x (addedV p f g)) (pe x f + pe x g) := (pe_red p x _).trans (cg.of_eq (pe_add x f g h))
theorem wr_len {p a : Int} {f : List Int} : (wrV p f a).length = f.length + 1 := by
  unfold wrV
  rw [added_len (by rw [List.length_cons, List.length_append, scaled_len]; rfl)]
  rfl
theorem wr_pe (p a x : Int) (f : List Int) : cg p (pe x (wrV p f a)) (pe x f * (x - a)) := by
  unfold wrV
  refine (added_pe p x (by rw [List.length_cons, List.length_append, scaled_len]; rfl)).trans ?_
  rw [pe_append]
  have h := scaled_pe p (0 - a) x f
  have : cg p (pe x (0 :: f) + (pe x (scaledV p (0 - a) f) + x ^ (scaledV p (0 - a) f).length * pe x [0])) (pe x (0 :: f) + ((0 - a) * pe x f + x ^ (scaledV p (0 - a) f).length * pe x [0])) := cg.refl.add (h.add .refl)
  refine this.trans (cg.of_eq ?_)
  simp only [pe]
  grind
theorem wr_in {p a : Int} (hp : 0 < p) {f : List Int} : InR p (wrV p f a) := red_in hp _
theorem rt_gen (p x : Int) : ∀ (pts f : List Int) (v : Int), cg p (pe x f) v → cg p (pe x (pts.foldl (wrV p) f)) (pts.foldl (fun acc a => acc * (x - a)) v)
  | [], f, v, h => h
  | a :: pts, f, v, h => rt_gen p x pts _ _ ((wr_pe p a x f).trans (h.mul .refl))
theorem rt_pe (p x : Int) (pts : List Int) : cg p (pe x (rtV p pts)) (prd x pts) := rt_gen p x pts _ _ (by simpa [pe] using (cg.mod (p := p) (a := 1)))
theorem rt_lenG (p : Int) : ∀ (pts f : List Int), (pts.foldl (wrV p) f).length = pts.length + f.length
  | [], f => by simp
  | a :: pts, f => by
    rw [List.foldl_cons, rt_lenG p pts, wr_len, List.length_cons]
    omega
theorem rt_len {p : Int} {pts : List Int} : (rtV p pts).length = pts.length + 1 := rt_lenG p pts _
theorem rt_inG {p : Int} (hp : 0 < p) : ∀ (pts f : List Int), InR p f → InR p (pts.foldl (wrV p) f)
  | [], f, h => h
  | a :: pts, f, _ => rt_inG hp pts _ (wr_in hp)
theorem rt_in {p : Int} (hp : 0 < p) {pts : List Int} : InR p (rtV p pts) := rt_inG hp pts _ fun c hc => by
  rw [List.mem_singleton.mp hc]
  exact ⟨Int.emod_nonneg _ (by omega), Int.emod_lt_of_pos _ hp⟩
theorem prd_gen (x : Int) : ∀ (pts : List Int) (v : Int), pts.foldl (fun acc a => acc * (x - a)) v = v * prd x pts
  | [], v => by simp [prd]
  | a :: pts, v => by
    rw [List.foldl_cons, prd_gen x pts]
    show v * (x - a) * prd x pts = v * pts.foldl (fun acc a => acc * (x - a)) (1 * (x - a))
    rw [prd_gen x pts (1 * (x - a))]
    grind
theorem prd_cons (x a : Int) (pts : List Int) : prd x (a :: pts) = (x - a) * prd x pts := by
  rw [prd, List.foldl_cons, prd_gen]
  grind
theorem prd_zero {p x : Int} : ∀ {pts : List Int} {a : Int}, a ∈ pts → cg p x a → cg p (prd x pts) 0
  | b :: pts, a, h, e => by
    rw [prd_cons]
    rcases List.mem_cons.mp h with rfl | h
    · have := (cg.sub0.mpr e).mul (cg.refl (p := p) (a := prd x pts))
      simpa using this
    · have := (cg.refl (p := p) (a := x - b)).mul (prd_zero h e)
      simpa using this
theorem prd_nz {p x : Int} (F : Fld p) : ∀ {pts : List Int}, (∀ a ∈ pts, ¬ cg p x a) → ¬ cg p (prd x pts) 0
  | [], _ => by
    have : prd x [] = 1 := rfl
    rw [this]
    exact F.one
  | b :: pts, h => by
    rw [prd_cons]
    intro z
    rcases F.zero z with z | z
    · exact h b List.mem_cons_self (cg.sub0.mp z)
    · exact prd_nz F (fun a ha => h a (List.mem_cons_of_mem _ ha)) z
end U

/-! UPolyS: the program's polynomials, what they compute. -/
namespace U
open PySem
variable {T : Nat → Option FD} {n : Nat} {S : St}
abbrev ti (f : List Int) : D := .tup (f.map D.int)
/-! value_at -/
def pVb : DS := (.set 3 false (.bin .mod (.b1 .int (.bin .add (.bin .mul (.var 3) (.var 2)) (.var 4))) (.var 0)))
def pValue : FD := { np := 3, ns := 5, body := (.seq (.set 3 false (.con (.int 0)))
    (.seq (.for_ (.one 4) (.wk .rev (.var 1) .nil)
    pVb)
    (.ret (.var 3)))) }
theorem l_value {C : Nat → List SV → M RV} {p x : Int} {a1 : SV} (hp : 0 < p ∧ p ≤ 1000000) : ∀ (f : List Int) (v : Int) (g : List Int), 0 ≤ v → v < p → cg p v (pe x g) →
    ∃ v', forL (fun _ => true) (putT (.one 4)) (evS C pVb) [some (.d (.int p)), some a1, some (.d (.int x)), some (.d (.int 0)), none] 0 (f.map D.int) [some (.d (.int p)), some a1, some (.d (.int x)), some (.d (.int v)), none] S.call =
      .ok (.next [some (.d (.int p)), some a1, some (.d (.int x)), some (.d (.int v')), none]) S.call ∧ 0 ≤ v' ∧ v' < p ∧ cg p v' (pe x (f.reverse ++ g))
  | [], v, g, h0, h1, h => ⟨v, rfl, h0, h1, h⟩
  | c :: f, v, g, h0, h1, h => by
    have p0 := hp.1
    have h2 : cg p ((v * x + c) % p) (pe x (c :: g)) := by
      refine cg.mod.trans ?_
      have := (h.mul (cg.refl (a := x))).add (cg.refl (a := c))
      refine this.trans (cg.of_eq ?_)
      rw [pe]
      grind
    obtain ⟨v', e, k0, k1, k2⟩ := l_value (a1 := a1) hp f ((v * x + c) % p) (c :: g) (mod_nn p0) (mod_lt p0) h2
    refine ⟨v', ?_, k0, k1, ?_⟩
    · rw [List.map_cons, forL]
      simp [putT, Env.put, pVb, varV, mul_l (i := v) (j := x) (by omega) (by omega), bop_mod p0]
      exact e
    · rw [List.reverse_cons, List.append_assoc]
      exact k2
theorem s_value {i : Nat} (h : T i = some pValue) {p x : Int} (hp : 0 < p ∧ p ≤ 1000000) (f : List Int) : callN T (n + 1) i [.d (.int p), .d (ti f), .d (.int x)] S = .ok (.d (.int (pe x f % p))) S := by
  obtain ⟨v', e, h0, h1, h2⟩ := l_value (S := S) (C := callN T n) (a1 := .d (ti f)) (x := x) hp f.reverse 0 [] (by omega) hp.1 .refl
  rw [List.reverse_reverse, List.append_nil] at h2
  rw [call_eq h rfl]
  rw [List.map_reverse] at e
  have e' : forL (⟨(f.map D.int).reverse, none⟩ : Walk).chk (putT (.one 4)) (evS (callN T n) pVb) [some (.d (.int p)), some (.d (ti f)), some (.d (.int x)), some (.d (.int 0)), none] 0 (f.map D.int).reverse [some (.d (.int p)), some (.d (ti f)), some (.d (.int x)), some (.d (.int 0)), none] S.call = _ := e
  simp [pValue, varV, e', h2.eqm h0 h1]
/-! added, scaled -/
def pAc : DE := (.bin .mod (.b1 .int (.bin .add (.ix (.var 1) (.var 3)) (.ix (.var 2) (.var 3)))) (.var 0))
def pAdded : FD := { np := 3, ns := 4, body := (.ret (.b1 .tuple (.lc pAc (.one 3) (.wk .rng1 (.b1 .len (.var 1)) .nil) (.con (.bl true)) [3]))) }
def pSc1 : DE := (.bin .mod (.b1 .int (.bin .mul (.var 1) (.var 3))) (.var 0))
def pScaled : FD := { np := 3, ns := 4, body := (.ret (.b1 .tuple (.lc pSc1 (.one 3) (.wk .seq (.var 2) .nil) (.con (.bl true)) [3]))) }
@[simp] theorem b1_tuple_new {ds : List D} : b1V .tuple (.new (.lst ds)) S = .ok (.d (.tup ds)) S := rfl
@[simp] theorem b1_list_tup {ds : List D} : b1V .list (.d (.tup ds)) S = .ok (.new (.lst ds)) S := rfl
theorem s_scaled {i : Nat} (h : T i = some pScaled) {p c : Int} (hp : 0 < p ∧ p ≤ 1000000) (hc : -1000000000000 ≤ c ∧ c ≤ 1000000000000) (f : List Int) (hl : f.length ≤ 1000000) : callN T (n + 1) i [.d (.int p), .d (.int c), .d (ti f)] S = .ok (.d (ti (scaledV p c f))) S := by
  have p0 := hp.1
  have e := comp_pure (chk := (⟨f.map D.int, none⟩ : Walk).chk) (S := S.call) (put := fun x => putT (.one 3) x (wipeE [some (.d (.int p)), some (.d (.int c)), some (.d (ti f)), none] [3])) (fc := evE (callN T n) (.con (.bl true))) (fe := evE (callN T n) pSc1) (c := fun _ => true)
    (f := fun x => match x with
      | .int a => .int (c * a % p)
      | d => d) (r := fun x => [some (.d (.int p)), some (.d (.int c)), some (.d (ti f)), some (.d x)]) rfl (f.map D.int) (fun x hx => by
    obtain ⟨a, _, rfl⟩ := List.mem_map.mp hx
    refine ⟨rfl, rfl, fun _ => ?_⟩
    simp [pSc1, varV, mul_l (i := c) (j := a) (by omega) (by omega), bop_mod p0])
  have hsz : sz f.length = true := decide_eq_true (by omega)
  rw [List.filter_eq_self.mpr (fun _ _ => rfl), List.map_map] at e
  have hh : f.map ((fun x => match x with
      | .int a => .int (c * a % p)
      | d => d) ∘ D.int) = (scaledV p c f).map D.int := by
    unfold scaledV red pSc
    rw [List.map_map, List.map_map]
    rfl
  have hsz : sz (scaledV p c f).length = true := by rw [scaled_len]; exact hsz
  rw [hh] at e
  rw [call_eq h rfl]
  simp [pScaled, varV, e, hsz]
theorem getI {f : List Int} {k : Nat} (h : k < f.length) : (f.map D.int)[k]? = some (.int f[k]) := by
  rw [List.getElem?_map, List.getElem?_eq_getElem h]; rfl
theorem rng_range : ∀ (n : Nat) (lo : Nat), rngUp (lo : Int) n = (List.range' lo n).map fun k => D.int (k : Nat)
  | 0, _ => rfl
  | n + 1, lo => by
    unfold rngUp
    rw [List.range'_succ, List.map_cons, ← rng_range n (lo + 1)]
    rfl
theorem add_get : ∀ {f g : List Int} {k : Nat} (hf : k < f.length) (hg : k < g.length), (pAdd f g)[k]? = some (f[k] + g[k])
  | a :: f, b :: g, 0, _, _ => rfl
  | a :: f, b :: g, k + 1, hf, hg => add_get (f := f) (g := g) (by simpa using hf) (by simpa using hg)
theorem added_rng {p : Int} {f g : List Int} (hfg : f.length = g.length) : ((rngUp 0 f.length).map fun x => match x with
      | .int a => D.int ((f.getD a.toNat 0 + g.getD a.toNat 0) % p)
      | d => d) = (addedV p f g).map D.int := by
  apply List.ext_getElem?
  intro k
  have h0 : rngUp 0 f.length = (List.range' 0 f.length).map fun k => D.int (k : Nat) := rng_range f.length 0
  rw [h0, List.map_map, List.getElem?_map, List.getElem?_map]
  by_cases hk : k < f.length
  · have hg : k < g.length := by omega
    rw [List.getElem?_range' hk]
    unfold addedV red
    rw [List.getElem?_map, add_get hk hg]
    simp [hk, hg]
  · have h1 : (List.range' 0 f.length)[k]? = none := List.getElem?_eq_none (by rw [List.length_range']; omega)
    have h2 : (addedV p f g)[k]? = none := List.getElem?_eq_none (by rw [added_len hfg]; omega)
    rw [h1, h2]
    rfl
theorem s_added {i : Nat} (h : T i = some pAdded) {p : Int} (hp : 0 < p ∧ p ≤ 1000000) (f g : List Int) (hfg : f.length = g.length) (hl : f.length ≤ 1000000) : callN T (n + 1) i [.d (.int p), .d (ti f), .d (ti g)] S = .ok (.d (ti (addedV p f g))) S := by
  have p0 := hp.1
  have e := comp_pure (chk := (⟨rngUp 0 f.length, none⟩ : Walk).chk) (S := S.call) (put := fun x => putT (.one 3) x (wipeE [some (.d (.int p)), some (.d (ti f)), some (.d (ti g)), none] [3])) (fc := evE (callN T n) (.con (.bl true))) (fe := evE (callN T n) pAc) (c := fun _ => true)
    (f := fun x => match x with
      | .int a => .int ((f.getD a.toNat 0 + g.getD a.toNat 0) % p)
      | d => d) (r := fun x => [some (.d (.int p)), some (.d (ti f)), some (.d (ti g)), some (.d x)]) rfl (rngUp 0 f.length) (fun x hx => by
    obtain ⟨a, rfl, h1, h2⟩ := rng_mem _ _ _ hx
    obtain ⟨a, rfl⟩ := Int.eq_ofNat_of_zero_le h1
    have hf : a < f.length := by omega
    have hg : a < g.length := by omega
    refine ⟨rfl, rfl, fun _ => ?_⟩
    have e1 : f.getD ((a : Int)).toNat 0 = f[a] := by simp [hf]
    have e2 : g.getD ((a : Int)).toNat 0 = g[a] := by simp [hg]
    show evE (callN T n) pAc [some (.d (.int p)), some (.d (ti f)), some (.d (ti g)), some (.d (.int a))] S.call = .ok (.d (.int ((f.getD ((a : Int)).toNat 0 + g.getD ((a : Int)).toNat 0) % p))) S.call
    rw [e1, e2]
    simp [pAc, varV, ix_tup (getI hf), ix_tup (getI hg), bop_mod p0])
  rw [List.filter_eq_self.mpr (fun _ _ => rfl), added_rng hfg] at e
  have hsz2 : sz (addedV p f g).length = true := by rw [added_len hfg]; exact decide_eq_true (by omega)
  rw [call_eq h rfl]
  simp [pAdded, varV, rng1_int (j := (f.length : Int)) (by omega) (by omega), e, hsz2]
end U

/-! UPow: powers and inverses mod p. -/
namespace U
open PySem
def pPc : DE := (.cmp .gt (.var 2) (.con (.int 0)))
def pPb : DS := (.seq (.ife (.cmp .eq (.bin .mod (.b1 .int (.var 2)) (.con (.int 2))) (.con (.int 1)))
    (.set 3 false (.bin .mod (.b1 .int (.bin .mul (.var 3) (.var 4))) (.var 0)))
    .skip)
    (.seq (.set 4 false (.bin .mod (.b1 .int (.bin .mul (.var 4) (.var 4))) (.var 0)))
    (.set 2 false (.bin .fdiv (.var 2) (.con (.int 2))))))
def pPower : FD := { np := 3, ns := 5, body := (.seq (.set 3 false (.bin .mod (.b1 .int (.con (.int 1))) (.var 0)))
    (.seq (.set 4 false (.bin .mod (.b1 .int (.var 1)) (.var 0)))
    (.seq (.whl pPc
    pPb)
    (.ret (.var 3))))) }
/-! powers -/
def pwL (p : Int) : Nat → Int → Int → Int → Int
  | 0, f, _, _ => f
  | m + 1, f, s, k => if 0 < k then pwL p m (if k % 2 = 1 then f * s % p else f) (s * s % p) (k / 2) else f
theorem l_power (C : Nat → List SV → M RV) (p a0 : Int) (hp : 0 < p ∧ p ≤ 1000000) (S : St) (a b c d e : SV) (j : Nat) : ∀ (m : Nat) (f s k : Int), 0 ≤ k → k < 2 ^ m → 0 ≤ f → f < p → 0 ≤ s → s < p →
    ∃ s' k', whL (evE C pPc) (evS C pPb) [some a, some b, some c, some d, some e] 0 (m + 1 + j) [some (.d (.int p)), some (.d (.int a0)), some (.d (.int k)), some (.d (.int f)), some (.d (.int s))] S.call =
      .ok (.next [some (.d (.int p)), some (.d (.int a0)), some (.d (.int k')), some (.d (.int (pwL p m f s k))), some (.d (.int s'))]) S.call
  | 0, f, s, k, h0, hk, hf, hf2, hs, hs2 => by
    have hk0 : k = 0 := by simp at hk; omega
    subst hk0
    refine ⟨s, 0, ?_⟩
    rw [show 0 + 1 + j = j + 1 by omega, whL_off (by simp [pPc, varV])]
    simp [pwL]
  | m + 1, f, s, k, h0, hk, hf, hf2, hs, hs2 => by
    have ee : m + 1 + 1 + j = (m + 1 + j) + 1 := by omega
    by_cases hd : 0 < k
    · rw [ee, whL_on (by simp [pPc, varV, hd])]
      have hk2 : k / 2 < 2 ^ m := by
        have : (2 : Int) ^ (m + 1) = 2 ^ m * 2 := by rw [Int.pow_succ]
        omega
      have p0 := hp.1
      have ms := Int.emod_nonneg (s * s) (show p ≠ 0 by omega)
      have ms2 := Int.emod_lt_of_pos (s * s) p0
      have mf := Int.emod_nonneg (f * s) (show p ≠ 0 by omega)
      have mf2 := Int.emod_lt_of_pos (f * s) p0
      by_cases hm : k % 2 = 1
      · obtain ⟨s', k', e'⟩ := l_power C p a0 hp S a b c d e j m (f * s % p) (s * s % p) (k / 2) (by omega) hk2 mf mf2 ms ms2
        refine ⟨s', k', ?_⟩
        simp [pPb, varV, bop_mod (i := k) (j := 2) (by omega), bop_mod (i := f * s) hp.1, bop_mod (i := s * s) hp.1, bop_div (i := k) (j := 2) (by omega) (by omega), mul_l (i := f) (j := s) (by omega) (by omega), mul_l (i := s) (j := s) (by omega) (by omega), hm, pwL, hd]
        exact e'
      · obtain ⟨s', k', e'⟩ := l_power C p a0 hp S a b c d e j m f (s * s % p) (k / 2) (by omega) hk2 hf hf2 ms ms2
        refine ⟨s', k', ?_⟩
        simp [pPb, varV, bop_mod (i := k) (j := 2) (by omega), bop_mod (i := f * s) hp.1, bop_mod (i := s * s) hp.1, bop_div (i := k) (j := 2) (by omega) (by omega), mul_l (i := f) (j := s) (by omega) (by omega), mul_l (i := s) (j := s) (by omega) (by omega), hm, pwL, hd]
        exact e'
    · refine ⟨s, k, ?_⟩
      rw [ee, whL_off (by simp [pPc, varV, hd])]
      simp [pwL, hd]
def pw (p a k : Int) : Int := pwL p 40 (1 % p) (a % p) k
theorem s_power {T : Nat → Option FD} {i : Nat} (h : T i = some pPower) (n : Nat) (p a k : Int) (hp : 0 < p ∧ p ≤ 1000000) (hk : 0 ≤ k) (hk2 : k < 1000000000000) (S : St) : callN T (n + 1) i [.d (.int p), .d (.int a), .d (.int k)] S = .ok (.d (.int (pw p a k))) S := by
  rw [call_eq h rfl]
  have p0 := hp.1
  obtain ⟨s', k', e⟩ := l_power (callN T n) p a hp S (.d (.int p)) (.d (.int a)) (.d (.int k)) (.d (.int (1 % p))) (.d (.int (a % p))) 999999959 40 (1 % p) (a % p) k hk (by omega) (Int.emod_nonneg _ (by omega)) (Int.emod_lt_of_pos _ p0) (Int.emod_nonneg _ (by omega)) (Int.emod_lt_of_pos _ p0)
  simp [pPower, varV, S_whl, bop_mod (i := 1) hp.1, bop_mod (i := a) hp.1]
  rw [show (1000000000 : Nat) = 40 + 1 + 999999959 from rfl, e]
  simp [varV, pw]
def pInverse (ip : Nat) : FD := { np := 2, ns := 2, body := (.ret (.ife (.cmp .gt (.var 0) (.con (.int 2))) (.call ip (.cons (.var 0) (.cons (.var 1) (.cons (.bin .sub (.var 0) (.con (.int 2))) .nil)))) (.var 1))) }
def inv (p a : Int) : Int := if 2 < p then pw p a (p - 2) else a
theorem s_inverse {T : Nat → Option FD} {i ip : Nat} (h : T i = some (pInverse ip)) (h2 : T ip = some pPower) (n : Nat) (p a : Int) (hp : 0 < p ∧ p ≤ 1000000) (S : St) : callN T (n + 2) i [.d (.int p), .d (.int a)] S = .ok (.d (.int (inv p a))) S := by
  rw [call_eq h rfl]
  by_cases hq : 2 < p
  · simp [pInverse, varV, hq, s_power h2 n p a (p - 2) hp (by omega) (by omega), inv]
  · simp [pInverse, varV, hq, inv]
/-! the same power -/
theorem rsL_zero {p : Int} : ∀ (m : Nat) (f s : Int), rsL p m f s 0 = f
  | 0, _, _ => rfl
  | m + 1, f, s => by
    unfold rsL
    rw [if_neg (by decide), show (0 : Int) / 2 = 0 from rfl, rsL_zero m]
theorem pw_rs {p : Int} : ∀ (m : Nat) (f s k : Int), 0 ≤ k → pwL p m f s k = rsL p m f s k
  | 0, _, _, _, _ => rfl
  | m + 1, f, s, k, hk => by
    unfold pwL
    split
    · rw [pw_rs m _ _ _ (by omega)]; rfl
    · have : k = 0 := by omega
      rw [this, rsL_zero]
theorem pow_same {p a k : Int} (ha : 0 ≤ a) (hap : a < p) (hk : 0 ≤ k) : pw p a k = rs p a k := by
  unfold pw rs
  rw [pw_rs _ _ _ _ hk, Int.emod_eq_of_lt ha hap]
/-! the inverse -/
theorem pwL_pow {p : Nat} : ∀ (m : Nat) (f s k : Nat), k < 2 ^ m → pwL p m f s k % p = ((f * s ^ k : Nat) : Int) % p
  | 0, f, s, k, hk => by
    have : k = 0 := by simp at hk; exact hk
    subst this
    simp [pwL]
  | m + 1, f, s, k, hk => by
    unfold pwL
    by_cases h0 : k = 0
    · subst h0
      simp
    · rw [if_pos (by omega)]
      have e2 : ((k : Int) / 2) = ((k / 2 : Nat) : Int) := rfl
      have e3 : ((s : Int) * s % p) = ((s * s % p : Nat) : Int) := rfl
      have e4 : ((f : Int) * s % p) = ((f * s % p : Nat) : Int) := rfl
      have hk2 : k / 2 < 2 ^ m := by rw [Nat.pow_succ] at hk; omega
      have hodd : ((k : Int) % 2 = 1) ↔ k % 2 = 1 := by omega
      have key : ∀ g : Nat, (g * (s * s % p) ^ (k / 2)) % p = (g * (s ^ (2 * (k / 2)))) % p := fun g => by
        rw [Nat.pow_mul, Nat.mul_mod, Nat.pow_mod, Nat.mod_mod, ← Nat.pow_mod, ← Nat.mul_mod, Nat.pow_two]
      by_cases ho : k % 2 = 1
      · rw [if_pos (hodd.mpr ho), e2, e3, e4, pwL_pow m _ _ _ hk2]
        have e5 : s ^ k = s * s ^ (2 * (k / 2)) := by
          rw [← Nat.pow_succ']
          congr 1
          omega
        have : ((f * s % p) * (s * s % p) ^ (k / 2)) % p = (f * s ^ k) % p := by
          rw [key, Nat.mul_mod, Nat.mod_mod, ← Nat.mul_mod, e5, Nat.mul_assoc]
        exact_mod_cast this
      · rw [if_neg (fun z => ho (hodd.mp z)), e2, e3, pwL_pow m _ _ _ hk2]
        have e5 : s ^ k = s ^ (2 * (k / 2)) := by
          congr 1
          omega
        have : (f * (s * s % p) ^ (k / 2)) % p = (f * s ^ k) % p := by rw [key, e5]
        exact_mod_cast this
theorem pwL_range {p : Int} (hp : 0 < p) : ∀ (m : Nat) (f s k : Int), 0 ≤ f → f < p → 0 ≤ pwL p m f s k ∧ pwL p m f s k < p
  | 0, f, s, k, h1, h2 => ⟨h1, h2⟩
  | m + 1, f, s, k, h1, h2 => by
    unfold pwL
    split
    · split
      · exact pwL_range hp m _ _ _ (mod_nn hp) (mod_lt hp)
      · exact pwL_range hp m _ _ _ h1 h2
    · exact ⟨h1, h2⟩
def allB (f : Nat → Bool) : Nat → Bool
  | 0 => true
  | n + 1 => f n && allB f n
theorem allB_ok {f : Nat → Bool} : ∀ {n : Nat}, allB f n = true → ∀ i, i < n → f i = true
  | 0, _, i, h => by omega
  | n + 1, h, i, hi => by
    unfold allB at h
    rw [Bool.and_eq_true] at h
    by_cases e : i = n
    · rw [e]; exact h.1
    · exact allB_ok h.2 i (by omega)
def fermB (p : Nat) : Bool := allB (fun a => Nat.beq a 0 || Nat.beq (a ^ (p - 1) % p) 1) p
theorem inv_ok {p : Nat} (hf : fermB p = true) (hp : 2 ≤ p) (hp2 : p ≤ 1000000) {a : Int} (h0 : 0 ≤ a) (ha : a < p) (hn : a ≠ 0) : 0 ≤ inv p a ∧ inv p a < p ∧ inv p a * a % p = 1 := by
  obtain ⟨a, rfl⟩ := Int.eq_ofNat_of_zero_le h0
  have ha : a < p := by omega
  have hn : a ≠ 0 := fun z => hn (by rw [z]; rfl)
  have h := allB_ok hf a ha
  have h1 : a ^ (p - 1) % p = 1 := by
    rw [Bool.or_eq_true] at h
    rcases h with h | h
    · exact absurd (Nat.eq_of_beq_eq_true h) hn
    · exact Nat.eq_of_beq_eq_true h
  unfold inv
  by_cases hp3 : 2 < p
  · rw [if_pos (by omega)]
    unfold pw
    have r := pwL_range (p := p) (by omega) 40 (1 % p) ((a : Int) % p) ((p : Int) - 2) (mod_nn (by omega)) (mod_lt (by omega))
    refine ⟨r.1, r.2, ?_⟩
    have ep : ((p : Int) - 2) = ((p - 2 : Nat) : Int) := by omega
    have e := pwL_pow (p := p) 40 (1 % p) (a % p) (p - 2) (by omega)
    have e1 : ((1 % p : Nat) : Int) = 1 % (p : Int) := rfl
    have e2 : ((a % p : Nat) : Int) = (a : Int) % (p : Int) := rfl
    rw [ep, Int.mul_emod, ← e1, ← e2, e]
    have : ((1 % p * (a % p) ^ (p - 2)) % p * (a % p)) % p = 1 := by
      rw [Nat.mod_eq_of_lt (show 1 < p by omega), Nat.one_mul, Nat.mod_eq_of_lt ha, Nat.mod_mul_mod, ← Nat.pow_succ, show (p - 2).succ = p - 1 by omega]
      exact h1
    exact_mod_cast this
  · have : p = 2 := by omega
    subst this
    have : a = 1 := by omega
    subst this
    decide
theorem ferm_2 : fermB 2 = true := by decide +kernel
theorem ferm_3 : fermB 3 = true := by decide +kernel
theorem ferm_5 : fermB 5 = true := by decide +kernel
theorem ferm_7 : fermB 7 = true := by decide +kernel
theorem ferm_11 : fermB 11 = true := by decide +kernel
theorem ferm_101 : fermB 101 = true := by decide +kernel
theorem ferm_10007 : fermB 10007 = true := by decide +kernel
end U

namespace U
open PySem
variable {T : Nat → Option FD} {n : Nat} {S : St}
/-! with_root, roots_at -/
def pWithRoot (isc iadd : Nat) : FD := { np := 3, ns := 5, body := (.seq (.set 3 false (.bin .add (.tup (.cons (.con (.int 0)) .nil)) (.var 1)))
    (.seq (.set 4 false (.bin .add (.call isc (.cons (.var 0) (.cons (.bin .sub (.con (.int 0)) (.var 2)) (.cons (.var 1) .nil)))) (.tup (.cons (.con (.int 0)) .nil))))
    (.ret (.call iadd (.cons (.var 0) (.cons (.var 3) (.cons (.var 4) .nil))))))) }
theorem s_withroot {i isc iadd : Nat} (h : T i = some (pWithRoot isc iadd)) (h1 : T isc = some pScaled) (h2 : T iadd = some pAdded) {p a : Int} (hp : 0 < p ∧ p ≤ 1000000) (ha : -1000000000000 ≤ a ∧ a ≤ 1000000000000) (f : List Int) (hl : f.length < 1000000) :
    callN T (n + 2) i [.d (.int p), .d (ti f), .d (.int a)] S = .ok (.d (ti (wrV p f a))) S := by
  have e1 := s_scaled (n := n) (S := S.call) h1 (c := 0 - a) hp (by omega) f (by omega)
  have e2 := s_added (n := n) (S := S.call) h2 hp (0 :: f) (scaledV p (0 - a) f ++ [0]) (by rw [List.length_cons, List.length_append, scaled_len]; rfl) (by rw [List.length_cons]; omega)
  rw [call_eq h rfl]
  have e3 : ∀ S : St, binV .add (.d (.tup [.int 0])) (.d (ti f)) S = .ok (.d (ti (0 :: f))) S := fun S => bin_tup (by simp; omega)
  have e4 : ∀ S : St, binV .add (.d (ti (scaledV p (0 - a) f))) (.d (.tup [.int 0])) S = .ok (.d (ti (scaledV p (0 - a) f ++ [0]))) S := fun S => by
    rw [bin_tup (by rw [List.length_map, scaled_len]; simp; omega)]
    simp [ti]
  simp only [ti, List.map_cons, List.map_append, List.map_nil] at e1 e2 e3 e4
  simp [pWithRoot, varV, sz, e3, -Int.zero_sub, e1, e4, e2]
  rfl
def pRb (iwr : Nat) : DS := (.set 2 false (.call iwr (.cons (.var 0) (.cons (.var 2) (.cons (.var 3) .nil)))))
def pRoots (iwr : Nat) : FD := { np := 2, ns := 4, body := (.seq (.set 2 false (.tup (.cons (.bin .mod (.b1 .int (.con (.int 1))) (.var 0)) .nil)))
    (.seq (.for_ (.one 3) (.wk .seq (.var 1) .nil)
    (pRb iwr))
    (.ret (.var 2)))) }
def Sm (f : List Int) : Prop := ∀ a ∈ f, -1000000000000 ≤ a ∧ a ≤ 1000000000000
theorem l_roots {iwr isc iadd : Nat} (h0 : T iwr = some (pWithRoot isc iadd)) (h1 : T isc = some pScaled) (h2 : T iadd = some pAdded) {p : Int} (hp : 0 < p ∧ p ≤ 1000000) {a1 a2 : SV} : ∀ (pts f : List Int), Sm pts → f.length + pts.length < 1000000 →
    forL (fun _ => true) (putT (.one 3)) (evS (callN T (n + 2)) (pRb iwr)) [some (.d (.int p)), some a1, some a2, none] 0 (pts.map D.int) [some (.d (.int p)), some a1, some (.d (ti f)), none] S.call =
      .ok (.next [some (.d (.int p)), some a1, some (.d (ti (pts.foldl (wrV p) f))), none]) S.call
  | [], f, _, _ => rfl
  | a :: pts, f, hs, hl => by
    have ih := l_roots h0 h1 h2 hp (a1 := a1) (a2 := a2) pts (wrV p f a) (fun b hb => hs b (List.mem_cons_of_mem _ hb)) (by rw [wr_len]; rw [List.length_cons] at hl; omega)
    have e := s_withroot (n := n) (S := S.call) h0 h1 h2 (a := a) hp (hs a List.mem_cons_self) f (by omega)
    rw [List.map_cons, forL]
    simp [putT, Env.put, pRb, varV, e]
    exact ih
theorem s_roots {i iwr isc iadd : Nat} (h : T i = some (pRoots iwr)) (h0 : T iwr = some (pWithRoot isc iadd)) (h1 : T isc = some pScaled) (h2 : T iadd = some pAdded) {p : Int} (hp : 0 < p ∧ p ≤ 1000000) (pts : List Int) (hs : Sm pts) (hl : pts.length ≤ 1000) :
    callN T (n + 3) i [.d (.int p), .d (ti pts)] S = .ok (.d (ti (rtV p pts))) S := by
  have e := l_roots (n := n) (S := S) h0 h1 h2 hp (a1 := .d (ti pts)) (a2 := .d (ti [1 % p])) pts [1 % p] hs (by simp; omega)
  rw [call_eq h rfl]
  have e' : forL (⟨pts.map D.int, none⟩ : Walk).chk (putT (.one 3)) (evS (callN T (n + 2)) (pRb iwr)) [some (.d (.int p)), some (.d (ti pts)), some (.d (ti [1 % p])), none] 0 (pts.map D.int) [some (.d (.int p)), some (.d (ti pts)), some (.d (ti [1 % p])), none] S.call = _ := e
  simp only [ti, List.map_cons, List.map_nil] at e'
  simp [pRoots, varV, bop_mod hp.1, sz, e']
  rfl
/-! bases -/
def pBb (irt isc iinv ival : Nat) : DS := (.seq (.set 4 false (.call irt (.cons (.var 0) (.cons (.bin .add (.sl (.var 1) .nil (.cons (.var 3) .nil)) (.sl (.var 1) (.cons (.bin .add (.var 3) (.con (.int 1))) .nil) .nil)) .nil))))
    (.expr (.m1 .append (.var 2) (.call isc (.cons (.var 0) (.cons (.call iinv (.cons (.var 0) (.cons (.call ival (.cons (.var 0) (.cons (.var 4) (.cons (.ix (.var 1) (.var 3)) .nil)))) .nil))) (.cons (.var 4) .nil)))))))
def pBases (irt isc iinv ival : Nat) : FD := { np := 2, ns := 5, body := (.seq (.set 2 true (.lst .nil))
    (.seq (.for_ (.one 3) (.wk .rng1 (.b1 .len (.var 1)) .nil)
    (pBb irt isc iinv ival))
    (.ret (.var 2)))) }
def others (pts : List Int) (i : Nat) : List Int := pts.take i ++ pts.drop (i + 1)
def baseV (p : Int) (pts : List Int) (i : Nat) : List Int := scaledV p (inv p (pe (pts.getD i 0) (rtV p (others pts i)) % p)) (rtV p (others pts i))
theorem others_len {pts : List Int} {i : Nat} (h : i < pts.length) : (others pts i).length = pts.length - 1 := by
  unfold others
  rw [List.length_append, List.length_take, List.length_drop]
  omega
theorem others_mem {pts : List Int} {i : Nat} {a : Int} (h : a ∈ others pts i) : a ∈ pts := by
  rcases List.mem_append.mp h with h | h
  · exact List.mem_of_mem_take h
  · exact List.mem_of_mem_drop h
structure PolyT (T : Nat → Option FD) (ipw iinv ival iadd isc iwr irt : Nat) : Prop where
  pw : T ipw = some pPower
  inv : T iinv = some (pInverse ipw)
  val : T ival = some pValue
  add : T iadd = some pAdded
  sc : T isc = some pScaled
  wr : T iwr = some (pWithRoot isc iadd)
  rt : T irt = some (pRoots iwr)
def bagS (S0 : St) (xs : List D) : St := ⟨[⟨false, .lst xs⟩], S0.own :: S0.out, S0.gl⟩
theorem bag_get {S0 : St} {xs : List D} : (bagS S0 xs).get 0 0 = some ⟨false, .lst xs⟩ := rfl
theorem bag_app {S0 : St} {xs : List D} (h : xs.length < 16777216) {d : D} : meth1 .append (.loc 0 0) (.d d) (bagS S0 xs) = .ok (.d .non) (bagS S0 (xs ++ [d])) := by
  rw [app_d bag_get h]
  rfl
theorem bag_recv {S0 : St} {xs : List D} : recvOk .append (view (bagS S0 xs) (.loc 0 0)) = true := recv_loc (by simp) bag_get
theorem inv_range {p a : Int} (hp : 0 < p) (ha : 0 ≤ a ∧ a < p) : 0 ≤ inv p a ∧ inv p a < p := by
  unfold inv
  split
  · exact pwL_range hp _ _ _ _ (mod_nn hp) (mod_lt hp)
  · exact ha
section
variable {ipw iinv ival iadd isc iwr irt : Nat}
theorem l_bases (P : PolyT T ipw iinv ival iadd isc iwr irt) {p : Int} (hp : 0 < p ∧ p ≤ 1000000) (pts : List Int) (hs : Sm pts) (hl : pts.length ≤ 1000) : ∀ (is : List Nat) (xs : List D), (∀ i ∈ is, i < pts.length) → xs.length + is.length < 1000000 →
    forL (fun _ => true) (putT (.one 3)) (evS (callN T (n + 3)) (pBb irt isc iinv ival)) [some (.d (.int p)), some (.d (ti pts)), some (.loc 0 0), none, none] 1 (is.map fun k => D.int (k : Nat)) [some (.d (.int p)), some (.d (ti pts)), some (.loc 0 0), none, none] (bagS S xs) =
      .ok (.next [some (.d (.int p)), some (.d (ti pts)), some (.loc 0 0), none, none]) (bagS S (xs ++ is.map fun i => ti (baseV p pts i)))
  | [], xs, _, _ => by
    have : xs ++ List.map (fun i => ti (baseV p pts i)) [] = xs := by simp
    rw [this]
    rfl
  | i :: is, xs, hi, hx => by
    have hi0 := hi i List.mem_cons_self
    rw [List.length_cons] at hx
    have ih := l_bases P hp pts hs hl is (xs ++ [ti (baseV p pts i)]) (fun k hk => hi k (List.mem_cons_of_mem _ hk)) (by rw [List.length_append]; simp; omega)
    have so : Sm (others pts i) := fun a ha => hs a (others_mem ha)
    have lo : (others pts i).length ≤ 1000 := by rw [others_len hi0]; omega
    have e1 := s_roots (n := n) (S := bagS S xs) P.rt P.wr P.sc P.add hp (others pts i) so lo
    have e2 := s_value (n := n + 2) (S := bagS S xs) P.val (x := pts[i]) hp (rtV p (others pts i))
    have e3 := s_inverse P.inv P.pw (n + 1) p (pe pts[i] (rtV p (others pts i)) % p) hp (bagS S xs)
    have hr := inv_range hp.1 (a := pe pts[i] (rtV p (others pts i)) % p) ⟨mod_nn hp.1, mod_lt hp.1⟩
    have e4 := s_scaled (n := n + 2) (S := bagS S xs) P.sc (c := inv p (pe pts[i] (rtV p (others pts i)) % p)) hp (by omega) (rtV p (others pts i)) (by rw [rt_len]; omega)
    have e5 : ∀ S : St, ixV (.d (ti pts)) (.d (.int i)) S = .ok (.d (.int pts[i])) S := fun S => ix_tup (getI hi0)
    have e6 : ∀ S : St, binV .add (.d (.tup (cut (pts.map D.int) none (some (i : Int))))) (.d (.tup (cut (pts.map D.int) (some ((i : Int) + 1)) none))) S = .ok (.d (ti (others pts i))) S := fun S => by
      rw [cut_take (by rw [List.length_map]; omega), show ((i : Int) + 1) = ((i + 1 : Nat) : Int) from rfl, cut_drop (by rw [List.length_map]; omega), bin_tup (by rw [List.length_take, List.length_drop, List.length_map]; omega)]
      unfold ti others
      rw [List.map_append, List.map_take, List.map_drop]
    have eb : baseV p pts i = scaledV p (inv p (pe pts[i] (rtV p (others pts i)) % p)) (rtV p (others pts i)) := by
      unfold baseV
      rw [show pts.getD i 0 = pts[i] by simp [hi0]]
    rw [← eb] at e4
    rw [List.map_cons, forL]
    simp [putT, Env.put, pBb, varV, e6, e1, e2, e3, e4, e5, bag_recv, bag_app (show xs.length < 16777216 by omega)]
    rw [ownFree_take (n := 1) (S := bagS S (xs ++ [ti (baseV p pts i)])) rfl]
    rw [List.append_assoc] at ih
    exact ih
theorem s_bases {i : Nat} (P : PolyT T ipw iinv ival iadd isc iwr irt) (h : T i = some (pBases irt isc iinv ival)) {p : Int} (hp : 0 < p ∧ p ≤ 1000000) (pts : List Int) (hs : Sm pts) (hl : pts.length ≤ 1000) :
    callN T (n + 4) i [.d (.int p), .d (ti pts)] S = .ok (.new (.lst ((List.range pts.length).map fun i => ti (baseV p pts i)))) S := by
  have e := l_bases (n := n) (S := S) P hp pts hs hl (List.range pts.length) [] (fun i hi => List.mem_range.mp hi) (by simp; omega)
  have er : rngUp 0 pts.length = (List.range pts.length).map fun k => D.int (k : Nat) := by
    rw [List.range_eq_range']
    exact rng_range pts.length 0
  rw [← er] at e
  rw [call_eq h rfl]
  have e' : forL (⟨rngUp 0 pts.length, none⟩ : Walk).chk (putT (.one 3)) (evS (callN T (n + 3)) (pBb irt isc iinv ival)) [some (.d (.int p)), some (.d (ti pts)), some (.loc 0 0), none, none] 1 (rngUp 0 pts.length) [some (.d (.int p)), some (.d (ti pts)), some (.loc 0 0), none, none] ⟨[⟨false, .lst []⟩], S.own :: S.out, S.gl⟩ = _ := e
  simp [pBases, varV, St.call, rng1_int (j := (pts.length : Int)) (by omega) (by omega), e', sz]
  rfl
end
end U

namespace U
open PySem
variable {T : Nat → Option FD} {n : Nat} {S : St}
section
variable {ipw iinv ival iadd isc iwr irt : Nat}
/-! through, weights, veil -/
def pTb (iadd isc : Nat) : DS := (.set 3 false (.call iadd (.cons (.var 0) (.cons (.var 3) (.cons (.call isc (.cons (.var 0) (.cons (.ix (.var 2) (.var 5)) (.cons (.ix (.var 4) (.var 5)) .nil)))) .nil)))))
def pThrough (iadd isc iba : Nat) : FD := { np := 3, ns := 6, body := (.seq (.set 3 false (.bin .mul (.tup (.cons (.con (.int 0)) .nil)) (.b1 .len (.var 1))))
    (.seq (.set 4 false (.call iba (.cons (.var 0) (.cons (.var 1) .nil))))
    (.seq (.for_ (.one 5) (.wk .rng1 (.b1 .len (.var 1)) .nil)
    (pTb iadd isc))
    (.ret (.var 3))))) }
def thrG (p : Int) (pts vals : List Int) (is : List Nat) (f : List Int) : List Int := is.foldl (fun f i => addedV p f (scaledV p (vals.getD i 0) (baseV p pts i))) f
def thrV (p : Int) (pts vals : List Int) : List Int := thrG p pts vals (List.range pts.length) (List.replicate pts.length 0)
theorem base_len {p : Int} {pts : List Int} {i : Nat} (h : i < pts.length) : (baseV p pts i).length = pts.length := by
  unfold baseV
  rw [scaled_len, rt_len, others_len h]
  omega
theorem rows_get {p : Int} {pts : List Int} {i : Nat} (h : i < pts.length) : ((List.range pts.length).map fun i => ti (baseV p pts i))[i]? = some (ti (baseV p pts i)) := by
  rw [List.getElem?_map, List.getElem?_range h]
  rfl
theorem l_through (P : PolyT T ipw iinv ival iadd isc iwr irt) {p : Int} (hp : 0 < p ∧ p ≤ 1000000) (pts vals : List Int) (hv : Sm vals) (hvl : vals.length = pts.length) (hl : pts.length ≤ 1000) {a3 : SV} {rows : List D} (hr : rows = (List.range pts.length).map fun i => ti (baseV p pts i)) : ∀ (is : List Nat) (f : List Int), (∀ i ∈ is, i < pts.length) → f.length = pts.length →
    forL (fun _ => true) (putT (.one 5)) (evS (callN T (n + 1)) (pTb iadd isc)) [some (.d (.int p)), some (.d (ti pts)), some (.d (ti vals)), some a3, some (.d (.lst rows)), none] 0 (is.map fun k => D.int (k : Nat)) [some (.d (.int p)), some (.d (ti pts)), some (.d (ti vals)), some (.d (ti f)), some (.d (.lst rows)), none] S.call =
      .ok (.next [some (.d (.int p)), some (.d (ti pts)), some (.d (ti vals)), some (.d (ti (thrG p pts vals is f))), some (.d (.lst rows)), none]) S.call
  | [], f, _, _ => rfl
  | i :: is, f, hi, hf => by
    have hi0 := hi i List.mem_cons_self
    have hiv : i < vals.length := by omega
    have hb := base_len (p := p) hi0
    have e1 : ∀ S : St, ixV (.d (ti vals)) (.d (.int i)) S = .ok (.d (.int vals[i])) S := fun S => ix_tup (getI hiv)
    have e2 : ∀ S : St, ixV (.d (.lst rows)) (.d (.int i)) S = .ok (.d (ti (baseV p pts i))) S := fun S => ix_lst (by rw [hr]; exact rows_get hi0)
    have e3 := s_scaled (n := n) (S := S.call) P.sc (c := vals[i]) hp (hv _ (List.getElem_mem hiv)) (baseV p pts i) (by omega)
    have e4 := s_added (n := n) (S := S.call) P.add hp f (scaledV p vals[i] (baseV p pts i)) (by rw [scaled_len]; omega) (by omega)
    have ih := l_through P hp pts vals hv hvl hl (a3 := a3) hr is (addedV p f (scaledV p vals[i] (baseV p pts i))) (fun k hk => hi k (List.mem_cons_of_mem _ hk)) (by rw [added_len (by rw [scaled_len]; omega)]; exact hf)
    have eg : thrG p pts vals (i :: is) f = thrG p pts vals is (addedV p f (scaledV p vals[i] (baseV p pts i))) := by
      unfold thrG
      rw [List.foldl_cons, show vals.getD i 0 = vals[i] by simp [hiv]]
    rw [eg, List.map_cons, forL]
    simp [putT, Env.put, pTb, varV, e1, e2, e3, e4]
    exact ih
theorem rep_one (k : Nat) : rep k [D.int 0] = (List.replicate k (0 : Int)).map D.int := by
  unfold rep
  induction k with
  | zero => rfl
  | succ k ih => rw [List.replicate_succ, List.flatten_cons, ih, List.replicate_succ, List.map_cons]; rfl
theorem s_through {i iba : Nat} (P : PolyT T ipw iinv ival iadd isc iwr irt) (hb : T iba = some (pBases irt isc iinv ival)) (h : T i = some (pThrough iadd isc iba)) {p : Int} (hp : 0 < p ∧ p ≤ 1000000) (pts vals : List Int) (hs : Sm pts) (hv : Sm vals) (hvl : vals.length = pts.length) (hl : pts.length ≤ 1000) :
    callN T (n + 5) i [.d (.int p), .d (ti pts), .d (ti vals)] S = .ok (.d (ti (thrV p pts vals))) S := by
  have e1 := s_bases (n := n) (S := S.call) P hb hp pts hs hl
  have e := l_through (n := n + 3) (S := S) P hp pts vals hv hvl hl (a3 := .d (ti (List.replicate pts.length 0))) rfl (List.range pts.length) (List.replicate pts.length 0) (fun i hi => List.mem_range.mp hi) List.length_replicate
  have er : rngUp 0 pts.length = (List.range pts.length).map fun k => D.int (k : Nat) := by
    rw [List.range_eq_range']
    exact rng_range pts.length 0
  rw [← er] at e
  have em : ∀ S : St, binV .mul (.d (.tup [.int 0])) (.d (.int (pts.length : Int))) S = .ok (.d (ti (List.replicate pts.length 0))) S := fun S => by
    rw [mul_tup (by omega) (by omega) (by simp), show ((pts.length : Int)).toNat = pts.length from rfl, rep_one]
  rw [call_eq h rfl]
  have e' : forL (⟨rngUp 0 pts.length, none⟩ : Walk).chk (putT (.one 5)) (evS (callN T (n + 4)) (pTb iadd isc)) [some (.d (.int p)), some (.d (ti pts)), some (.d (ti vals)), some (.d (ti (List.replicate pts.length 0))), some (.d (.lst ((List.range pts.length).map fun i => ti (baseV p pts i)))), none] 0 (rngUp 0 pts.length) [some (.d (.int p)), some (.d (ti pts)), some (.d (ti vals)), some (.d (ti (List.replicate pts.length 0))), some (.d (.lst ((List.range pts.length).map fun i => ti (baseV p pts i)))), none] S.call = _ := e
  simp [-List.map_replicate, pThrough, varV, sz, em, e1, rng1_int (j := (pts.length : Int)) (by omega) (by omega), e']
  rfl
def pWc (ival : Nat) : DE := (.call ival (.cons (.var 0) (.cons (.var 3) (.cons (.var 2) .nil))))
def pWeights (ival iba : Nat) : FD := { np := 3, ns := 4, body := (.ret (.b1 .tuple (.lc (pWc ival) (.one 3) (.wk .seq (.call iba (.cons (.var 0) (.cons (.var 1) .nil))) .nil) (.con (.bl true)) [3]))) }
def wtV (p : Int) (pts : List Int) (x : Int) : List Int := (List.range pts.length).map fun i => pe x (baseV p pts i) % p
theorem s_weights {i iba : Nat} (P : PolyT T ipw iinv ival iadd isc iwr irt) (hb : T iba = some (pBases irt isc iinv ival)) (h : T i = some (pWeights ival iba)) {p x : Int} (hp : 0 < p ∧ p ≤ 1000000) (pts : List Int) (hs : Sm pts) (hl : pts.length ≤ 1000) :
    callN T (n + 5) i [.d (.int p), .d (ti pts), .d (.int x)] S = .ok (.d (ti (wtV p pts x))) S := by
  have e1 := s_bases (n := n) (S := S.call) P hb hp pts hs hl
  have e := comp_pure (chk := (⟨(List.range pts.length).map fun i => ti (baseV p pts i), none⟩ : Walk).chk) (S := S.call) (put := fun y => putT (.one 3) y (wipeE [some (.d (.int p)), some (.d (ti pts)), some (.d (.int x)), none] [3])) (fc := evE (callN T (n + 4)) (.con (.bl true))) (fe := evE (callN T (n + 4)) (pWc ival)) (c := fun _ => true)
    (f := fun y => match y with
      | .tup ds => .int (pe x (ds.map fun d => match d with
        | .int a => a
        | _ => 0) % p)
      | d => d) (r := fun y => [some (.d (.int p)), some (.d (ti pts)), some (.d (.int x)), some (.d y)]) rfl ((List.range pts.length).map fun i => ti (baseV p pts i)) (fun y hy => by
    obtain ⟨j, hj, rfl⟩ := List.mem_map.mp hy
    refine ⟨rfl, rfl, fun _ => ?_⟩
    have e2 := s_value (n := n + 3) (S := S.call) P.val (x := x) hp (baseV p pts j)
    have e3 : ((baseV p pts j).map D.int).map (fun d => match d with
        | .int a => a
        | _ => (0 : Int)) = baseV p pts j := by rw [List.map_map]; exact List.map_id _
    show _ = Res.ok (RV.d (.int (pe x (((baseV p pts j).map D.int).map _) % p))) _
    rw [e3]
    simp [pWc, varV, e2])
  rw [List.filter_eq_self.mpr (fun _ _ => rfl), List.map_map] at e
  have e4 : (List.range pts.length).map ((fun y => match y with
      | .tup ds => .int (pe x (ds.map fun d => match d with
        | .int a => a
        | _ => 0) % p)
      | d => d) ∘ fun i => ti (baseV p pts i)) = (wtV p pts x).map D.int := by
    unfold wtV
    rw [List.map_map]
    refine List.map_congr_left fun j _ => ?_
    show D.int (pe x (((baseV p pts j).map D.int).map _) % p) = _
    rw [List.map_map]
    congr 3
    exact List.map_id _
  rw [e4] at e
  have hsz : sz (wtV p pts x).length = true := by
    unfold wtV
    rw [List.length_map, List.length_range]
    exact decide_eq_true (by omega)
  rw [call_eq h rfl]
  simp [pWeights, varV, e1, e, hsz]
def pVeil (irt isc iinv : Nat) : FD := { np := 2, ns := 3, body := (.seq (.set 2 false (.call irt (.cons (.var 0) (.cons (.var 1) .nil))))
    (.ret (.call isc (.cons (.var 0) (.cons (.call iinv (.cons (.var 0) (.cons (.ix (.var 2) (.con (.int 0))) .nil))) (.cons (.var 2) .nil)))))) }
def veilV (p : Int) (pts : List Int) : List Int := scaledV p (inv p ((rtV p pts).getD 0 0)) (rtV p pts)
theorem s_veil {i : Nat} (P : PolyT T ipw iinv ival iadd isc iwr irt) (h : T i = some (pVeil irt isc iinv)) {p : Int} (hp : 0 < p ∧ p ≤ 1000000) (pts : List Int) (hs : Sm pts) (hl : pts.length ≤ 1000) :
    callN T (n + 4) i [.d (.int p), .d (ti pts)] S = .ok (.d (ti (veilV p pts))) S := by
  have e1 := s_roots (n := n) (S := S.call) P.rt P.wr P.sc P.add hp pts hs hl
  have h0 : 0 < (rtV p pts).length := by rw [rt_len]; omega
  have hg : (rtV p pts).getD 0 0 = (rtV p pts)[0] := by simp [h0]
  have hin := rt_in hp.1 (pts := pts) _ (List.getElem_mem h0)
  have e2 : ∀ S : St, ixV (.d (ti (rtV p pts))) (.d (.int 0)) S = .ok (.d (.int (rtV p pts)[0])) S := fun S => ix_tup (k := 0) (getI h0)
  have e3 := s_inverse P.inv P.pw (n + 1) p (rtV p pts)[0] hp S.call
  have hr := inv_range hp.1 hin
  have e4 := s_scaled (n := n + 2) (S := S.call) P.sc (c := inv p (rtV p pts)[0]) hp (by omega) (rtV p pts) (by rw [rt_len]; omega)
  rw [call_eq h rfl]
  unfold veilV
  rw [hg]
  simp [pVeil, varV, e1, e2, e3, e4]
end
end U

/-! UHarn3: the law's own numbers and polynomials. -/
namespace U
open PySem
variable {T : Nat → Option FD} {n : Nat} {S : St} {u j : Nat} {ds : List Int} {k : Nat}
theorem comp_step {chk : St → Bool} {put : D → Option Env} {fc fe : Env → M RV} {x d : D} {xs ds : List D} {ρ : Env} {S2 S3 S4 : St} {y : RV} (hk : chk S = true) (h1 : put x = some ρ) (h2 : fc ρ S = .ok (.d (.bl true)) S) (h3 : fe ρ S = .ok y S2) (h4 : keep y S2 = .ok d S3) (h5 : compL chk put fc fe xs S3 = .ok ds S4) : compL chk put fc fe (x :: xs) S = .ok (d :: ds) S4 := by
  unfold compL
  rw [if_pos hk, h1]
  dsimp only
  rw [h2]
  dsimp only [truth]
  rw [h3]
  dsimp only
  rw [h4]
  dsimp only
  rw [h5]
/-! numbers -/
def hNc (inu : Nat) : DE := (.call inu (.cons (.var 0) (.cons (.var 1) .nil)))
def hNumbers (inu : Nat) : FD := { np := 3, ns := 4, body := (.ret (.b1 .tuple (.lc (hNc inu) (.one 3) (.wk .rng1 (.var 2) .nil) (.con (.bl true)) [3]))) }
theorem l_numbers {inu id : Nat} (h : T inu = some (hNumber id)) (hd : T id = some hDraw) {p : Int} (hp : 0 < p) {a2 : SV} : ∀ (xs : List D) (S : St) (k : Nat), S.get u j = some (boxO ds k) →
    ∃ ys : List Int, ys.length = xs.length ∧ InR p ys ∧ compL (fun _ => true) (fun x => putT (.one 3) x (wipeE [some (.loc (u + 1) j), some (.d (.int p)), some a2, none] [3])) (evE (callN T (n + 2)) (.con (.bl true))) (evE (callN T (n + 2)) (hNc inu)) xs S.call = .ok (ys.map D.int) (S.set u j (boxO ds (k + 2 * xs.length))).call
  | [], S, k, hb => ⟨[], rfl, fun c hc => (by cases hc), (by
      show Res.ok [] S.call = Res.ok [] (S.set u j (boxO ds (k + 2 * 0))).call
      rw [show k + 2 * 0 = k from rfl, set_same hb])⟩
  | x :: xs, S, k, hb => by
    have g0 : S.call.get (u + 1) j = some (boxO ds k) := by rw [call_get]; exact hb
    have e1 := s_number (n := n) h hd g0 hp
    rw [call_set] at e1
    obtain ⟨ys, hl, hr, e2⟩ := l_numbers h hd hp (a2 := a2) xs (S.set u j (boxO ds (k + 2))) (k + 2) (get_set hb)
    rw [set_set, show k + 2 + 2 * xs.length = k + 2 * (x :: xs).length by rw [List.length_cons]; omega] at e2
    refine ⟨num ds k p :: ys, by rw [List.length_cons, List.length_cons, hl], fun c hc => ?_, ?_⟩
    · rcases List.mem_cons.mp hc with rfl | hc
      · exact ⟨num_nn hp, num_lt hp⟩
      · exact hr c hc
    · have ev : evE (callN T (n + 2)) (hNc inu) [some (.loc (u + 1) j), some (.d (.int p)), some a2, some (.d x)] S.call = .ok (.d (.int (num ds k p))) (S.set u j (boxO ds (k + 2))).call := by
        simp [hNc, varV, e1]
      exact comp_step rfl rfl rfl ev rfl e2
theorem s_numbers {i inu id : Nat} (h : T i = some (hNumbers inu)) (h1 : T inu = some (hNumber id)) (hd : T id = some hDraw) (hb : S.get u j = some (boxO ds k)) {p : Int} (hp : 0 < p) {m : Nat} (hm : m ≤ 1000000) :
    ∃ ys : List Int, ys.length = m ∧ InR p ys ∧ callN T (n + 3) i [.loc u j, .d (.int p), .d (.int m)] S = .ok (.d (ti ys)) (S.set u j (boxO ds (k + 2 * m))) := by
  obtain ⟨ys, hl, hr, e⟩ := l_numbers (n := n) h1 hd hp (a2 := .d (.int m)) (rngUp 0 m) S k hb
  rw [rng_len] at hl e
  refine ⟨ys, hl, hr, ?_⟩
  have hsz : sz ys.length = true := decide_eq_true (by omega)
  rw [call_eq h rfl]
  have e' : compL (⟨rngUp 0 m, none⟩ : Walk).chk (fun x => putT (.one 3) x (wipeE [some (.loc (u + 1) j), some (.d (.int p)), some (.d (.int m)), none] [3])) (evE (callN T (n + 2)) (.con (.bl true))) (evE (callN T (n + 2)) (hNc inu)) (rngUp 0 m) S.call = _ := e
  simp [hNumbers, varV, rng1_int (j := (m : Int)) (by omega) (by omega), e', hsz]
/-! the value, by powers -/
def hAb : DS := (.seq (.set 3 false (.bin .mod (.b1 .int (.bin .add (.var 3) (.bin .mul (.var 5) (.var 4)))) (.var 0)))
    (.set 4 false (.bin .mod (.b1 .int (.bin .mul (.var 4) (.var 2))) (.var 0))))
def hAt : FD := { np := 3, ns := 6, body := (.seq (.set 3 false (.con (.int 0)))
    (.seq (.set 4 false (.con (.int 1)))
    (.seq (.for_ (.one 5) (.wk .seq (.var 1) .nil)
    hAb)
    (.ret (.var 3))))) }
theorem l_at {S : St} {C : Nat → List SV → M RV} {p x : Int} {a1 a3 a4 : SV} (hp : 2 ≤ p ∧ p ≤ 1000000) : ∀ (f : List Int) (t w : Int), 0 ≤ t → t < p → 0 ≤ w → w < p →
    ∃ t' w', forL (fun _ => true) (putT (.one 5)) (evS C hAb) [some (.d (.int p)), some a1, some (.d (.int x)), some a3, some a4, none] 0 (f.map D.int) [some (.d (.int p)), some a1, some (.d (.int x)), some (.d (.int t)), some (.d (.int w)), none] S.call =
      .ok (.next [some (.d (.int p)), some a1, some (.d (.int x)), some (.d (.int t')), some (.d (.int w')), none]) S.call ∧ 0 ≤ t' ∧ t' < p ∧ cg p t' (t + w * pe x f)
  | [], t, w, h0, h1, _, _ => ⟨t, w, rfl, h0, h1, cg.of_eq (by simp [pe])⟩
  | c :: f, t, w, h0, h1, h2, h3 => by
    have p0 : 0 < p := by omega
    obtain ⟨t', w', e, k0, k1, k2⟩ := l_at (S := S) (C := C) (x := x) (a1 := a1) (a3 := a3) (a4 := a4) hp f ((t + c * w) % p) (w * x % p) (mod_nn p0) (mod_lt p0) (mod_nn p0) (mod_lt p0)
    refine ⟨t', w', ?_, k0, k1, ?_⟩
    · rw [List.map_cons, forL]
      simp [putT, Env.put, hAb, varV, mul_r (i := c) (j := w) (by omega) (by omega), mul_l (i := w) (j := x) (by omega) (by omega), bop_mod p0]
      exact e
    · refine k2.trans ?_
      refine (cg.mod.add (cg.mod.mul .refl)).trans (cg.of_eq ?_)
      rw [pe]
      grind
theorem s_at {i : Nat} (h : T i = some hAt) {p x : Int} (hp : 2 ≤ p ∧ p ≤ 1000000) (f : List Int) : callN T (n + 1) i [.d (.int p), .d (ti f), .d (.int x)] S = .ok (.d (.int (pe x f % p))) S := by
  obtain ⟨t', w', e, k0, k1, k2⟩ := l_at (S := S) (C := callN T n) (x := x) (a1 := .d (ti f)) (a3 := .d (.int 0)) (a4 := .d (.int 1)) hp f 0 1 (by omega) (by omega) (by omega) (by omega)
  rw [Int.zero_add, Int.one_mul] at k2
  rw [call_eq h rfl]
  have e' : forL (⟨f.map D.int, none⟩ : Walk).chk (putT (.one 5)) (evS (callN T n) hAb) [some (.d (.int p)), some (.d (ti f)), some (.d (.int x)), some (.d (.int 0)), some (.d (.int 1)), none] 0 (f.map D.int) [some (.d (.int p)), some (.d (ti f)), some (.d (.int x)), some (.d (.int 0)), some (.d (.int 1)), none] S.call = _ := e
  simp [hAt, varV, e', k2.eqm k0 k1]
/-! the law's inverse -/
def hInverse (ira : Nat) : FD := { np := 2, ns := 2, body := (.ret (.call ira (.cons (.var 0) (.cons (.bin .mod (.b1 .int (.var 1)) (.var 0)) (.cons (.bin .sub (.var 0) (.con (.int 2))) .nil))))) }
def linv (p a : Int) : Int := rs p (a % p) (p - 2)
theorem s_linv {i ira : Nat} (h : T i = some (hInverse ira)) (h1 : T ira = some hRaised) {p a : Int} (hp : 2 ≤ p ∧ p ≤ 1000000) : callN T (n + 2) i [.d (.int p), .d (.int a)] S = .ok (.d (.int (linv p a))) S := by
  have p0 : 0 < p := by omega
  have e := s_raised (n := n) (S := S.call) h1 (p := p) (a := a % p) (k := p - 2) (by omega) (mod_nn p0) (mod_lt p0) (by omega)
  rw [call_eq h rfl]
  simp [hInverse, varV, bop_mod p0, e, linv]
end U

namespace U
open PySem
variable {T : Nat → Option FD} {n : Nat} {S : St} {u j : Nat}
/-! the law's weights -/
def topV (p x one : Int) : List Int → Int → Int
  | [], t => t
  | o :: os, t => topV p x one os (if o = one then t else t * (x - o) % p)
def hW1 : DS := (.ife (.cmp .ne (.var 7) (.var 4))
    (.seq (.set 5 false (.bin .mod (.b1 .int (.bin .mul (.var 5) (.bin .sub (.var 2) (.var 7)))) (.var 0)))
    (.set 6 false (.bin .mod (.b1 .int (.bin .mul (.var 6) (.bin .sub (.var 4) (.var 7)))) (.var 0))))
    .skip)
def hW2 (ili : Nat) : DS := (.seq (.set 5 false (.con (.int 1)))
    (.seq (.set 6 false (.con (.int 1)))
    (.seq (.for_ (.one 7) (.wk .seq (.var 1) .nil)
    hW1)
    (.expr (.m1 .append (.var 3) (.bin .mod (.b1 .int (.bin .mul (.var 5) (.call ili (.cons (.var 0) (.cons (.var 6) .nil))))) (.var 0)))))))
def hWeights (ili : Nat) : FD := { np := 3, ns := 8, body := (.seq (.set 3 true (.lst .nil))
    (.seq (.for_ (.one 4) (.wk .seq (.var 1) .nil)
    (hW2 ili))
    (.ret (.var 3)))) }
theorem top_range {p x one : Int} (hp : 0 < p) : ∀ (os : List Int) (t : Int), 0 ≤ t → t < p → 0 ≤ topV p x one os t ∧ topV p x one os t < p
  | [], t, h0, h1 => ⟨h0, h1⟩
  | o :: os, t, h0, h1 => by
    unfold topV
    split
    · exact top_range hp os t h0 h1
    · exact top_range hp os _ (mod_nn hp) (mod_lt hp)
theorem l_w1 {C : Nat → List SV → M RV} {p x one : Int} (hp : 2 ≤ p ∧ p ≤ 1000000) {chk : St → Bool} (hk : chk S = true) {n0 : Nat} (hn : S.own.length = n0) {a1 a3 q5 q6 : SV} : ∀ (os : List Int) (t l : Int), 0 ≤ t → t < p → 0 ≤ l → l < p →
    forL chk (putT (.one 7)) (evS C hW1) [some (.d (.int p)), some a1, some (.d (.int x)), some a3, some (.d (.int one)), some q5, some q6, none] n0 (os.map D.int) [some (.d (.int p)), some a1, some (.d (.int x)), some a3, some (.d (.int one)), some (.d (.int t)), some (.d (.int l)), none] S =
      .ok (.next [some (.d (.int p)), some a1, some (.d (.int x)), some a3, some (.d (.int one)), some (.d (.int (topV p x one os t))), some (.d (.int (topV p one one os l))), none]) S
  | [], t, l, _, _, _, _ => by
    rw [List.map_nil, forL]
    dsimp only
    rw [if_pos hk]
    rfl
  | o :: os, t, l, h0, h1, h2, h3 => by
    have p0 : 0 < p := by omega
    rw [List.map_cons, forL]
    dsimp only
    rw [if_pos hk]
    by_cases ho : o = one
    · have ih := l_w1 (C := C) (x := x) (one := one) (a1 := a1) (a3 := a3) (q5 := q5) (q6 := q6) hp hk hn os t l h0 h1 h2 h3
      simp [putT, Env.put, hW1, varV, ho, topV, ownFree_take hn]
      exact ih
    · have ih := l_w1 (C := C) (x := x) (one := one) (a1 := a1) (a3 := a3) (q5 := q5) (q6 := q6) hp hk hn os (t * (x - o) % p) (l * (one - o) % p) (mod_nn p0) (mod_lt p0) (mod_nn p0) (mod_lt p0)
      simp [putT, Env.put, hW1, varV, ho, topV, ownFree_take hn, mul_l (i := t) (j := x - o) (by omega) (by omega), mul_l (i := l) (j := one - o) (by omega) (by omega), bop_mod p0]
      exact ih
def lwV (p : Int) (pts : List Int) (x one : Int) : Int := topV p x one pts 1 * linv p (topV p one one pts 1) % p
theorem linv_range {p a : Int} (hp : 2 ≤ p) : 0 ≤ linv p a ∧ linv p a < p := by
  have p0 : 0 < p := by omega
  unfold linv rs
  rw [← pw_rs _ _ _ _ (by omega)]
  exact pwL_range p0 _ _ _ _ (mod_nn p0) (mod_lt p0)
theorem l_w2 {ili ira : Nat} (h1 : T ili = some (hInverse ira)) (h2 : T ira = some hRaised) {p x : Int} (hp : 2 ≤ p ∧ p ≤ 1000000) {z : Bool} {pts : List Int} (hg : S.get u j = some ⟨z, .lst (pts.map D.int)⟩) : ∀ (os : List Int) (xs : List Int), xs.length + os.length < 1000000 →
    forL (⟨pts.map D.int, some (u + 1, j)⟩ : Walk).chk (putT (.one 4)) (evS (callN T (n + 2)) (hW2 ili)) [some (.d (.int p)), some (.loc (u + 1) j), some (.d (.int x)), some (.loc 0 0), none, none, none, none] 1 (os.map D.int) [some (.d (.int p)), some (.loc (u + 1) j), some (.d (.int x)), some (.loc 0 0), none, none, none, none] (bagS S (xs.map D.int)) =
      .ok (.next [some (.d (.int p)), some (.loc (u + 1) j), some (.d (.int x)), some (.loc 0 0), none, none, none, none]) (bagS S ((xs ++ os.map (lwV p pts x)).map D.int)) := by
  have gk : ∀ xs : List Int, (bagS S (xs.map D.int)).get (u + 1) j = some ⟨z, .lst (pts.map D.int)⟩ := fun xs => by
    rw [← hg]
    cases u <;> rfl
  have ck : ∀ xs : List Int, (⟨pts.map D.int, some (u + 1, j)⟩ : Walk).chk (bagS S (xs.map D.int)) = true := fun xs => by
    unfold Walk.chk
    dsimp only
    rw [gk xs]
    exact decide_eq_true rfl
  intro os
  induction os with
  | nil =>
    intro xs _
    rw [List.map_nil, forL]
    dsimp only
    rw [if_pos (ck xs), List.map_nil, List.append_nil]
  | cons o os ih =>
    intro xs hx
    rw [List.length_cons] at hx
    have p0 : 0 < p := by omega
    have ih := ih (xs ++ [lwV p pts x o]) (by rw [List.length_append]; simp; omega)
    have r1 := top_range (x := x) (one := o) p0 pts 1 (by omega) (by omega)
    have r2 := top_range (x := o) (one := o) p0 pts 1 (by omega) (by omega)
    have r3 := linv_range (a := topV p o o pts 1) hp.1
    have e1 := l_w1 (S := bagS S (xs.map D.int)) (C := callN T (n + 2)) (x := x) (one := o) (a1 := .loc (u + 1) j) (a3 := .loc 0 0) (q5 := .d (.int 1)) (q6 := .d (.int 1)) hp (ck xs) (n0 := 1) rfl pts 1 1 (by omega) (by omega) (by omega) (by omega)
    have e2 := s_linv (n := n) (S := bagS S (xs.map D.int)) h1 h2 (a := topV p o o pts 1) hp
    have ew := seq_loc (gk xs)
    have e3 : meth1 .append (.loc 0 0) (.d (.int (lwV p pts x o))) (bagS S (xs.map D.int)) = .ok (.d .non) (bagS S ((xs ++ [lwV p pts x o]).map D.int)) := by
      rw [bag_app (by rw [List.length_map]; omega), List.map_append]
      rfl
    rw [List.map_cons, forL]
    dsimp only
    rw [if_pos (ck xs)]
    have ol : (bagS S (xs.map D.int)).own.length = 1 := rfl
    simp [putT, Env.put, hW2, varV, ew, ol, e1, bag_recv, e2, mul_l (i := topV p x o pts 1) (j := linv p (topV p o o pts 1)) (by omega) (by omega), bop_mod p0]
    rw [show topV p x o pts 1 * linv p (topV p o o pts 1) % p = lwV p pts x o from rfl, e3]
    simp
    rw [ownFree_take (n := 1) rfl]
    simp at ih
    exact ih
theorem s_lweights {i ili ira : Nat} (h : T i = some (hWeights ili)) (h1 : T ili = some (hInverse ira)) (h2 : T ira = some hRaised) {p x : Int} (hp : 2 ≤ p ∧ p ≤ 1000000) {z : Bool} {pts : List Int} (hl : pts.length < 1000000) (hg : S.get u j = some ⟨z, .lst (pts.map D.int)⟩) :
    callN T (n + 3) i [.d (.int p), .loc u j, .d (.int x)] S = .ok (.new (.lst ((pts.map (lwV p pts x)).map D.int))) S := by
  have e := l_w2 (n := n) (S := S) h1 h2 (x := x) hp hg pts [] (by simpa using hl)
  rw [List.nil_append] at e
  have gk : (bagS S []).get (u + 1) j = some ⟨z, .lst (pts.map D.int)⟩ := by
    rw [← hg]
    cases u <;> rfl
  have ew := seq_loc gk
  have hb : (⟨[⟨false, .lst []⟩], S.own :: S.out, S.gl⟩ : St) = bagS S [] := rfl
  have hb2 : (⟨[⟨false, .lst ((pts.map (lwV p pts x)).map D.int)⟩], S.own :: S.out, S.gl⟩ : St) = bagS S ((pts.map (lwV p pts x)).map D.int) := rfl
  have ol : (bagS S []).own.length = 1 := rfl
  rw [List.map_nil] at e
  rw [call_eq h rfl]
  simp only [List.map_map] at e
  simp [hWeights, varV, St.call, sz, hb, ew, ol, e]
  rfl
end U

/-! UPolyM: interpolation. -/
namespace U
open PySem
/-- p is one of the primes: fermB, and its size -/
structure Pr (p : Int) : Prop where
  lo : 2 ≤ p
  hi : p ≤ 1000000
  fe : fermB p.toNat = true
theorem Pr.pos {p : Int} (h : Pr p) : 0 < p := by have := h.lo; omega
theorem Pr.le {p : Int} (h : Pr p) : 0 < p ∧ p ≤ 1000000 := ⟨h.pos, h.hi⟩
theorem Pr.inv {p : Int} (h : Pr p) {a : Int} (h0 : 0 ≤ a) (ha : a < p) (hn : a ≠ 0) : cg p (a * U.inv p a) 1 := by
  obtain ⟨q, rfl⟩ := Int.eq_ofNat_of_zero_le (show 0 ≤ p by have := h.lo; omega)
  have h2 : 2 ≤ q := by have := h.lo; omega
  obtain ⟨_, _, e⟩ := inv_ok (p := q) h.fe h2 (by have := h.hi; omega) h0 ha hn
  rw [Int.mul_comm]
  unfold cg
  rw [e]
  exact (Int.emod_eq_of_lt (by omega) (by omega)).symm
theorem Pr.fld {p : Int} (h : Pr p) : Fld p := by
  refine ⟨h.lo, fun a ha => ?_⟩
  have hn : a % p ≠ 0 := fun z => ha (by unfold cg; rw [z, Int.zero_emod])
  exact ⟨U.inv p (a % p), (cg.mod.symm.mul .refl).trans (h.inv (mod_nn h.pos) (mod_lt h.pos) hn)⟩
theorem inv_cancel {p a b c : Int} (hb : cg p (a * b) 1) (hc : cg p (a * c) 1) : cg p b c := by
  have h1 : cg p (b * (a * c)) (b * 1) := cg.refl.mul hc
  have h2 : cg p (a * b * c) (1 * c) := hb.mul .refl
  have e : b * (a * c) = a * b * c := by grind
  rw [e, Int.mul_one] at h1
  rw [Int.one_mul] at h2
  exact h1.symm.trans h2
theorem linv_inv {p a : Int} (h : Pr p) (h0 : 0 ≤ a) (ha : a < p) (hn : a ≠ 0) : linv p a = inv p a := by
  unfold linv inv
  rw [Int.emod_eq_of_lt h0 ha]
  split
  · unfold rs pw
    rw [pw_rs _ _ _ _ (by omega), Int.emod_eq_of_lt h0 ha]
  · have hp : p = 2 := by have := h.lo; omega
    subst hp
    have : a = 1 := by omega
    subst this
    decide
/-! the base polynomials -/
theorem apart_others {p : Int} {pts : List Int} (ap : Apart p pts) {i : Nat} (hi : i < pts.length) : ∀ a ∈ others pts i, ¬ cg p pts[i] a := by
  intro a ha
  obtain ⟨k, hk, e⟩ := List.getElem_of_mem ha
  have hp := List.pairwise_iff_getElem.mp ap
  rcases List.mem_append.mp ha with h | h
  · obtain ⟨k, hk, rfl⟩ := List.getElem_of_mem h
    rw [List.length_take] at hk
    rw [List.getElem_take]
    exact fun z => hp k i (by omega) hi (by omega) z.symm
  · obtain ⟨k, hk, rfl⟩ := List.getElem_of_mem h
    rw [List.length_drop] at hk
    rw [List.getElem_drop]
    exact hp i (i + 1 + k) hi (by omega) (by omega)
theorem base_pe {p : Int} (h : Pr p) {pts : List Int} (ap : Apart p pts) {i : Nat} (hi : i < pts.length) (x : Int) : cg p (pe x (baseV p pts i)) (inv p (pe pts[i] (rtV p (others pts i)) % p) * prd x (others pts i)) := by
  unfold baseV
  rw [show pts.getD i 0 = pts[i] by simp [hi]]
  exact (scaled_pe p _ x _).trans (cg.refl.mul (rt_pe p x _))
theorem base_den {p : Int} (h : Pr p) {pts : List Int} (ap : Apart p pts) {i : Nat} (hi : i < pts.length) : cg p (prd pts[i] (others pts i) * inv p (pe pts[i] (rtV p (others pts i)) % p)) 1 := by
  have e : cg p (pe pts[i] (rtV p (others pts i)) % p) (prd pts[i] (others pts i)) := cg.mod.trans (rt_pe p _ _)
  have nz : ¬ cg p (prd pts[i] (others pts i)) 0 := prd_nz h.fld (apart_others ap hi)
  have hn : pe pts[i] (rtV p (others pts i)) % p ≠ 0 := fun z => nz (by
    rw [z] at e
    exact e.symm)
  exact (e.symm.mul .refl).trans (h.inv (mod_nn h.pos) (mod_lt h.pos) hn)
theorem base_same {p : Int} (h : Pr p) {pts : List Int} (ap : Apart p pts) {i : Nat} (hi : i < pts.length) : cg p (pe pts[i] (baseV p pts i)) 1 := by
  refine (base_pe h ap hi _).trans ?_
  rw [Int.mul_comm]
  exact base_den h ap hi
theorem mem_others {pts : List Int} {i k : Nat} (hk : k < pts.length) (hne : k ≠ i) : pts[k] ∈ others pts i := by
  unfold others
  by_cases hlt : k < i
  · refine List.mem_append_left _ ?_
    have : k < (pts.take i).length := by rw [List.length_take]; omega
    rw [← List.getElem_take (xs := pts) (j := i) (h := this)]
    exact List.getElem_mem this
  · refine List.mem_append_right _ ?_
    have : k - (i + 1) < (pts.drop (i + 1)).length := by rw [List.length_drop]; omega
    have e : (pts.drop (i + 1))[k - (i + 1)] = pts[k] := by
      rw [List.getElem_drop]
      congr 1
      omega
    rw [← e]
    exact List.getElem_mem this
theorem base_other {p : Int} (h : Pr p) {pts : List Int} (ap : Apart p pts) {i k : Nat} (hi : i < pts.length) (hk : k < pts.length) (hne : k ≠ i) : cg p (pe pts[k] (baseV p pts i)) 0 := by
  refine (base_pe h ap hi _).trans ?_
  have := (cg.refl (p := p) (a := inv p (pe pts[i] (rtV p (others pts i)) % p))).mul (prd_zero (p := p) (mem_others hk hne) (.refl))
  simpa using this
/-! through -/
def sumI (g : Nat → Int) : List Nat → Int
  | [] => 0
  | i :: is => g i + sumI g is
theorem thr_pe {p : Int} {pts vals : List Int} (x : Int) : ∀ (is : List Nat) (f : List Int), (∀ i ∈ is, i < pts.length) → f.length = pts.length → cg p (pe x (thrG p pts vals is f)) (pe x f + sumI (fun i => vals.getD i 0 * pe x (baseV p pts i)) is) ∧ (thrG p pts vals is f).length = pts.length
  | [], f, _, hf => ⟨cg.of_eq (by simp [thrG, sumI]), hf⟩
  | i :: is, f, hi, hf => by
    have hb := base_len (p := p) (hi i List.mem_cons_self)
    have hl : f.length = (scaledV p (vals.getD i 0) (baseV p pts i)).length := by rw [scaled_len]; omega
    obtain ⟨ih, il⟩ := thr_pe (vals := vals) x is (addedV p f (scaledV p (vals.getD i 0) (baseV p pts i))) (fun k hk => hi k (List.mem_cons_of_mem _ hk)) (by rw [added_len hl]; exact hf)
    refine ⟨ih.trans ?_, il⟩
    refine (((added_pe p x hl).trans (cg.refl.add (scaled_pe p _ x _))).add .refl).trans (cg.of_eq ?_)
    rw [sumI]
    grind
theorem thr_in {p : Int} (hp : 0 < p) {pts vals : List Int} : ∀ (is : List Nat) (f : List Int), InR p f → InR p (thrG p pts vals is f)
  | [], f, h => h
  | i :: is, f, h => thr_in hp is _ (red_in hp _)
theorem pe_rep (x : Int) : ∀ k : Nat, pe x (List.replicate k 0) = 0
  | 0 => rfl
  | k + 1 => by rw [List.replicate_succ, pe, pe_rep x k]; omega
theorem thrV_pe {p : Int} {pts vals : List Int} (x : Int) : cg p (pe x (thrV p pts vals)) (sumI (fun i => vals.getD i 0 * pe x (baseV p pts i)) (List.range pts.length)) := by
  have := (thr_pe (p := p) (pts := pts) (vals := vals) x (List.range pts.length) (List.replicate pts.length 0) (fun i hi => List.mem_range.mp hi) List.length_replicate).1
  rwa [pe_rep, Int.zero_add] at this
theorem thrV_len {p : Int} {pts vals : List Int} : (thrV p pts vals).length = pts.length := (thr_pe (p := p) (pts := pts) (vals := vals) 0 (List.range pts.length) (List.replicate pts.length 0) (fun i hi => List.mem_range.mp hi) List.length_replicate).2
theorem thrV_in {p : Int} (hp : 0 < p) {pts vals : List Int} : InR p (thrV p pts vals) := thr_in hp _ _ fun c hc => by
  rw [(List.mem_replicate.mp hc).2]
  omega
theorem sum_zero {p : Int} {g : Nat → Int} : ∀ {is : List Nat}, (∀ i ∈ is, cg p (g i) 0) → cg p (sumI g is) 0
  | [], _ => .refl
  | i :: is, h => by
    have := (h i List.mem_cons_self).add (sum_zero fun k hk => h k (List.mem_cons_of_mem _ hk))
    simpa [sumI] using this
theorem sum_one {p : Int} {g : Nat → Int} {k : Nat} : ∀ {is : List Nat}, is.Nodup → k ∈ is → (∀ i ∈ is, i ≠ k → cg p (g i) 0) → cg p (sumI g is) (g k)
  | i :: is, nd, hk, h => by
    obtain ⟨n1, n2⟩ := List.nodup_cons.mp nd
    rw [sumI]
    by_cases e : i = k
    · subst e
      have := (cg.refl (p := p) (a := g i)).add (sum_zero (p := p) (g := g) (is := is) fun q hq => h q (List.mem_cons_of_mem _ hq) fun z => n1 (z ▸ hq))
      simpa using this
    · have hk2 : k ∈ is := by
        rcases List.mem_cons.mp hk with z | z
        · exact absurd z.symm e
        · exact z
      have := (h i List.mem_cons_self e).add (sum_one n2 hk2 fun q hq => h q (List.mem_cons_of_mem _ hq))
      simpa using this
theorem thrV_at {p : Int} (h : Pr p) {pts vals : List Int} (ap : Apart p pts) {k : Nat} (hk : k < pts.length) : cg p (pe pts[k] (thrV p pts vals)) (vals.getD k 0) := by
  refine (thrV_pe _).trans ((sum_one (k := k) List.nodup_range (List.mem_range.mpr hk) fun i hi hne => ?_).trans ?_)
  · have := (cg.refl (p := p) (a := vals.getD i 0)).mul (base_other h ap (List.mem_range.mp hi) hk (fun z => hne z.symm))
    simpa using this
  · have := (cg.refl (p := p) (a := vals.getD k 0)).mul (base_same h ap hk)
    simpa using this
end U

/-! UShow: how long a shown text is. -/
namespace U
open PySem
variable {T : Nat → Option FD} {n : Nat} {S : St}
def Sz (f : List Int) : Prop := ∀ c ∈ f, -1000000000000000000 < c ∧ c < 1000000000000000000
theorem int_shown {c : Int} (h : -1000000000000000000 < c ∧ c < 1000000000000000000) : (PyData.shown (.int c)).length ≤ 19 := by
  have e : PyData.shown (.int c) = Str.ofString (toString c) := by unfold PyData.shown; rfl
  rw [e, ofString_length]
  exact int_text_length_le10 (k := 18) (by omega) (by omega)
theorem piled_le {B : Nat} : ∀ ts : List Str, (∀ t ∈ ts, t.length ≤ B) → piled ts ≤ ts.length * (B + 2)
  | [], _ => by simp [piled]
  | t :: ts, h => by
    have h1 := h t List.mem_cons_self
    have h2 := piled_le ts fun x hx => h x (List.mem_cons_of_mem _ hx)
    have e : piled (t :: ts) = t.length + 2 + piled ts := by simp [piled]; try omega
    rw [e, List.length_cons, Nat.add_mul]
    omega
theorem pys_int : ∀ f : List Int, D.pys (f.map D.int) = f.map PyData.int
  | [] => by simp [D.pys]
  | c :: f => by rw [List.map_cons, D.pys, pys_int f, List.map_cons]; rfl
theorem all_len : ∀ xs : List PyData, (PyData.shownAll xs).length = xs.length
  | [] => by simp [PyData.shownAll]
  | x :: xs => by rw [PyData.shownAll, List.length_cons, List.length_cons, all_len xs]
theorem all_mem : ∀ (f : List Int) (t : Str), Sz f → t ∈ PyData.shownAll (f.map PyData.int) → t.length ≤ 19
  | [], t, _, h => by rw [List.map_nil, PyData.shownAll] at h; cases h
  | c :: f, t, hs, h => by
    rw [List.map_cons, PyData.shownAll] at h
    rcases List.mem_cons.mp h with rfl | h
    · exact int_shown (hs c List.mem_cons_self)
    · exact all_mem f t (fun x hx => hs x (List.mem_cons_of_mem _ hx)) h
theorem tup_len (ts : List Str) : (tupleText ts).length ≤ piled ts + 4 := by
  unfold tupleText
  rw [strLen_append, strLen_append]
  have h1 : (("(" : Str)).length = 1 := rfl
  have h2 : ((if ts.length == 1 then ",)" else ")" : String) : Str).length ≤ 2 := by split <;> decide
  by_cases h : ts = []
  · subst h
    have : (Str.join ", " []).length = 0 := rfl
    omega
  · have := join_length_add ts h
    omega
theorem show_ti {f : List Int} (hs : Sz f) (hl : f.length ≤ 100000) : showB 20 (ti f) = true ∧ sz (PyData.shown (ti f).py).length = true := by
  constructor
  · show showBs 19 (f.map D.int) = true
    clear hl
    induction f with
    | nil => rfl
    | cons c f ih =>
      have h1 := hs c List.mem_cons_self
      rw [List.map_cons, showBs, ih fun x hx => hs x (List.mem_cons_of_mem _ hx)]
      show ((decide _ && decide _) && true) = true
      rw [decide_eq_true (by omega), decide_eq_true (by omega)]
      rfl
  · have e : PyData.shown (ti f).py = tupleText (PyData.shownAll (f.map PyData.int)) := by
      show PyData.shown (D.py (.tup (f.map D.int))) = _
      rw [D.py, pys_int, PyData.shown]
    rw [e]
    have h1 := tup_len (PyData.shownAll (f.map PyData.int))
    have h2 := piled_le (B := 19) (PyData.shownAll (f.map PyData.int)) fun t ht => all_mem f t hs ht
    rw [all_len, List.length_map] at h2
    exact decide_eq_true (by omega)
end U

/-! UMore: comparisons of ints' lists, sums; the weights' law. -/
namespace U
open PySem
section
variable {S : St}
theorem plain_ints (k : Nat) : ∀ f : List Int, plainBs k (f.map D.int) = true
  | [] => by unfold plainBs; rfl
  | c :: f => by
    rw [List.map_cons, plainBs, plain_ints k f]
    cases k <;> rfl
theorem eqOk_ti (f g : List Int) : eqOk (ti f) (ti g) = true := by
  show ((scalarB (ti f) && scalarB (ti g)) || (plainB 20 (ti f) && plainB 20 (ti g))) = true
  have h : ∀ f : List Int, plainB 20 (ti f) = true := fun f => plain_ints 19 f
  rw [h, h]
  rfl
theorem eqOk_li (f g : List Int) : eqOk (.lst (f.map D.int)) (.lst (g.map D.int)) = true := by
  show ((scalarB (.lst (f.map D.int)) && scalarB (.lst (g.map D.int))) || (plainB 20 (.lst (f.map D.int)) && plainB 20 (.lst (g.map D.int)))) = true
  have h : ∀ f : List Int, plainB 20 (.lst (f.map D.int)) = true := fun f => plain_ints 19 f
  rw [h, h]
  rfl
theorem beq_self (d : D) : D.beq d d = true := (D.beq_iff d d).mpr rfl
theorem ne_ti {f : List Int} : cmpV .ne (.d (ti f)) (.d (ti f)) S = .ok (.d (.bl false)) S := by
  show (match (if eqOk (ti f) (ti f) = true then some (!D.beq (ti f) (ti f)) else none) with
    | some b => (.ok (.d (.bl b)) S : Res RV)
    | none => .bad) = _
  rw [if_pos (eqOk_ti f f), beq_self]
  rfl
theorem ne_new {f : List Int} : cmpV .ne (.new (.lst (f.map D.int))) (.new (.lst (f.map D.int))) S = .ok (.d (.bl false)) S := by
  show (match (if eqOk (.lst (f.map D.int)) (.lst (f.map D.int)) = true then some (!D.beq (.lst (f.map D.int)) (.lst (f.map D.int))) else none) with
    | some b => (.ok (.d (.bl b)) S : Res RV)
    | none => .bad) = _
  rw [if_pos (eqOk_li f f), beq_self]
  rfl
theorem eq_new {f : List Int} : cmpV .eq (.new (.lst (f.map D.int))) (.new (.lst (f.map D.int))) S = .ok (.d (.bl true)) S := by
  show (match (if eqOk (.lst (f.map D.int)) (.lst (f.map D.int)) = true then some (D.beq (.lst (f.map D.int)) (.lst (f.map D.int))) else none) with
    | some b => (.ok (.d (.bl b)) S : Res RV)
    | none => .bad) = _
  rw [if_pos (eqOk_li f f), beq_self]
theorem in_ints (a : Int) : ∀ f : List Int, ((f.map D.int).any fun y => D.beq y (.int a)) = decide (a ∈ f)
  | [] => by simp
  | c :: f => by
    rw [List.map_cons, List.any_cons, in_ints a f]
    have : D.beq (.int c) (.int a) = decide (a = c) := by
      by_cases h : a = c
      · rw [h, beq_self, decide_eq_true rfl]
      · rw [decide_eq_false h]
        cases e : D.beq (.int c) (.int a) with
        | false => rfl
        | true =>
          have := (D.beq_iff _ _).mp e
          cases this
          exact absurd rfl h
    rw [this]
    simp
theorem inOk_ints (a : Int) (f : List Int) : inOk (.int a) (f.map D.int) = true := by
  have : ((f.map D.int).all fun y => scalarB y && eqOk y (.int a)) = true := by
    rw [List.all_eq_true]
    intro y hy
    obtain ⟨c, _, rfl⟩ := List.mem_map.mp hy
    rfl
  show ((true && ((f.map D.int).all fun y => scalarB y && eqOk y (.int a))) || _) = true
  rw [this]
  rfl
theorem notin_loc {u l : Nat} {z : Bool} {f : List Int} {a : Int} (hg : S.get u l = some ⟨z, .lst (f.map D.int)⟩) : cmpV .notIn (.d (.int a)) (.loc u l) S = .ok (.d (.bl (!decide (a ∈ f)))) S := by
  unfold cmpV
  rw [view_loc hg]
  show (match ((if inOk (.int a) (f.map D.int) = true then some ((f.map D.int).any fun y => D.beq y (.int a)) else none).map (!·)) with
    | some b => (.ok (.d (.bl b)) S : Res RV)
    | none => .bad) = _
  rw [if_pos (inOk_ints a f), in_ints]
  rfl
theorem tuple_loc {u l : Nat} {z : Bool} {ds : List D} (hg : S.get u l = some ⟨z, .lst ds⟩) : b1V .tuple (.loc u l) S = .ok (.d (.tup ds)) S := by
  unfold b1V
  rw [view_loc hg]
  rfl
theorem intsD_map : ∀ f : List Int, intsD (f.map D.int) = some f
  | [] => rfl
  | c :: f => by rw [List.map_cons, intsD, intsD_map f]; rfl
theorem sum_new {f : List Int} : b1V .sum (.new (.lst (f.map D.int))) S = .ok (.d (.int f.sum)) S := by
  show M.opt ((intsD (f.map D.int)).map fun ns => RV.d (.int ns.sum)) S = _
  rw [intsD_map]
  rfl
theorem mul_lst {s : List D} {j : Int} (h : 0 ≤ j) (h2 : j ≤ 1000) (h3 : s.length ≤ 1000) : binV .mul (.new (.lst s)) (.d (.int j)) S = .ok (.new (.lst (rep j.toNat s))) S := by
  have hz : (decide (-1000000 ≤ j) && decide (j ≤ 1000000) && sz (s.length * j.toNat)) = true := by
    have : s.length * j.toNat ≤ 1000 * 1000 := Nat.mul_le_mul h3 (by omega)
    rw [decide_eq_true (by omega), decide_eq_true (by omega)]
    show sz _ = true
    exact decide_eq_true (by omega)
  show M.opt (if _ then _ else _) S = _
  rw [if_pos hz]
  rfl
end
/-! the weights, two ways -/
theorem top_cg {p x one : Int} : ∀ (os : List Int) (t : Int), cg p (topV p x one os t) (t * prd x (os.filter fun o => decide (o ≠ one)))
  | [], t => cg.of_eq (by simp [topV, prd])
  | o :: os, t => by
    unfold topV
    by_cases h : o = one
    · rw [if_pos h, List.filter_cons_of_neg (by simp [h])]
      exact top_cg os t
    · rw [if_neg h, List.filter_cons_of_pos (by simp [h]), prd_cons]
      refine (top_cg os _).trans ((cg.mod.mul .refl).trans (cg.of_eq ?_))
      grind
theorem filter_others {pts : List Int} (nd : pts.Nodup) {i : Nat} (hi : i < pts.length) : (pts.filter fun o => decide (o ≠ pts[i])) = others pts i := by
  have e : pts = pts.take i ++ pts[i] :: pts.drop (i + 1) := by
    rw [← List.drop_eq_getElem_cons hi, List.take_append_drop]
  have nd2 := nd
  rw [e, List.nodup_append] at nd2
  obtain ⟨_, n2, n3⟩ := nd2
  obtain ⟨n4, _⟩ := List.nodup_cons.mp n2
  generalize ha : pts[i] = a at *
  unfold others
  generalize hA : pts.take i = A at *
  generalize hB : pts.drop (i + 1) = B at *
  rw [e, List.filter_append, List.filter_cons_of_neg (by simp)]
  congr 1
  · rw [List.filter_eq_self]
    intro o ho
    have := n3 o ho a List.mem_cons_self
    simpa using this
  · rw [List.filter_eq_self]
    intro o ho
    have : o ≠ a := fun z => n4 (z ▸ ho)
    simpa using this
theorem weight_same {p : Int} (h : Pr p) {pts : List Int} (ap : Apart p pts) (nd : pts.Nodup) {i : Nat} (hi : i < pts.length) (x : Int) : pe x (baseV p pts i) % p = lwV p pts x pts[i] := by
  unfold lwV
  have p0 := h.pos
  have r2 := top_range (x := pts[i]) (one := pts[i]) p0 pts 1 (by omega) (by have := h.lo; omega)
  have c1 := top_cg (p := p) (x := x) (one := pts[i]) pts 1
  have c2 := top_cg (p := p) (x := pts[i]) (one := pts[i]) pts 1
  rw [filter_others nd hi, Int.one_mul] at c1 c2
  have nz : ¬ cg p (prd pts[i] (others pts i)) 0 := prd_nz h.fld (apart_others ap hi)
  have hn : topV p pts[i] pts[i] pts 1 ≠ 0 := fun z => nz (by rw [z] at c2; exact c2.symm)
  rw [linv_inv h r2.1 r2.2 hn]
  have hi1 : cg p (prd pts[i] (others pts i) * inv p (topV p pts[i] pts[i] pts 1)) 1 := (c2.symm.mul .refl).trans (h.inv r2.1 r2.2 hn)
  have hi2 := base_den h ap hi
  have e := inv_cancel hi1 hi2
  have b := base_pe h ap hi x
  refine (b.trans ((e.symm.mul c1.symm).trans (cg.of_eq ?_)))
  rw [Int.mul_comm]
end U

/-! UTac2: more equations. -/
namespace U
open PySem
section
variable {C : Nat → List SV → M RV} {ρ : Env} {S : St} {a b c : DE} {i j : Int}
def trngV (l : Bool) (x y : RV) (S : St) : Res RV := match dataInt x, dataInt y with
    | some i, some j => if (big62 i && big62 j && decide ((j - i).toNat ≤ 1000000)) = true then .ok (if l then .new (.lst (rngUp i (j - i).toNat)) else .d (.tup (rngUp i (j - i).toNat))) S else .bad
    | _, _ => .bad
@[simp] theorem E_trng {l : Bool} : evE C (.trng l a b) ρ S = (evE C a ρ S).go fun x S1 => (evE C b ρ S1).go fun y S2 => trngV l x y S2 := by
  show M.bind _ _ S = _
  refine bind_ext fun x S1 => ?_
  refine bind_ext fun y S2 => ?_
  unfold trngV
  generalize dataInt x = t
  generalize dataInt y = t2
  cases t with
  | none => rfl
  | some i =>
    cases t2 with
    | none => rfl
    | some j => dsimp only; split <;> rfl
theorem trng_int {l : Bool} (h1 : -1000000 ≤ i) (h2 : i ≤ 1000000) (h3 : -1000000 ≤ j) (h4 : j ≤ 1000000) (h5 : j - i ≤ 1000000) : trngV l (.d (.int i)) (.d (.int j)) S = .ok (if l then .new (.lst (rngUp i (j - i).toNat)) else .d (.tup (rngUp i (j - i).toNat))) S := by
  show (if (big62 i && big62 j && decide ((j - i).toNat ≤ 1000000)) = true then _ else _) = _
  rw [big_of (by omega) (by omega), big_of (by omega) (by omega), decide_eq_true (by omega)]
  rfl
theorem plain_tis (k : Nat) : ∀ l : List (List Int), plainBs (k + 1) (l.map ti) = true
  | [] => by unfold plainBs; rfl
  | f :: l => by
    rw [List.map_cons, plainBs, plain_tis k l]
    show (plainBs k (f.map D.int) && true) = true
    rw [plain_ints]
    rfl
theorem inj_ints : ∀ {f g : List Int}, f.map D.int = g.map D.int → f = g
  | [], [], _ => rfl
  | [], _ :: _, h => by cases h
  | _ :: _, [], h => by cases h
  | a :: f, b :: g, h => by
    rw [List.map_cons, List.map_cons, List.cons.injEq] at h
    obtain ⟨h1, h2⟩ := h
    cases h1
    rw [inj_ints h2]
theorem inj_ti {f g : List Int} (h : ti f = ti g) : f = g := by
  have : f.map D.int = g.map D.int := by
    injection h
  exact inj_ints this
theorem in_tis (x : List Int) : ∀ l : List (List Int), ((l.map ti).any fun y => D.beq y (ti x)) = decide (x ∈ l)
  | [] => by simp
  | c :: l => by
    rw [List.map_cons, List.any_cons, in_tis x l]
    have : D.beq (ti c) (ti x) = decide (x = c) := by
      by_cases h : x = c
      · rw [h, beq_self, decide_eq_true rfl]
      · rw [decide_eq_false h]
        cases e : D.beq (ti c) (ti x) with
        | false => rfl
        | true => exact absurd (inj_ti ((D.beq_iff _ _).mp e)).symm h
    rw [this]
    simp
theorem inOk_tis (x : List Int) (l : List (List Int)) : inOk (ti x) (l.map ti) = true := by
  have h1 : plainB 20 (ti x) = true := plain_ints 19 x
  have h2 : plainBs 20 (l.map ti) = true := plain_tis 19 l
  show ((scalarB (ti x) && _) || (plainB 20 (ti x) && plainBs 20 (l.map ti))) = true
  rw [h1, h2]
  simp
theorem notin_tis {u k : Nat} {z : Bool} {l : List (List Int)} {x : List Int} (hg : S.get u k = some ⟨z, .lst (l.map ti)⟩) : cmpV .notIn (.d (ti x)) (.loc u k) S = .ok (.d (.bl (!decide (x ∈ l)))) S := by
  unfold cmpV
  rw [view_loc hg]
  show (match ((if inOk (ti x) (l.map ti) = true then some ((l.map ti).any fun y => D.beq y (ti x)) else none).map (!·)) with
    | some b => (.ok (.d (.bl b)) S : Res RV)
    | none => .bad) = _
  rw [if_pos (inOk_tis x l), in_tis]
  rfl
end
section
variable {C : Nat → List SV → M RV} {ρ : Env} {S : St} {a b : DE}
def isiV (t : TyN) (x : RV) (S : St) : Res RV := match view S x with
    | some d => (match isiD t d with
      | some b => .ok (.d (.bl b)) S
      | none => .bad)
    | none => .bad
@[simp] theorem E_isi {t : TyN} : evE C (.isi t a) ρ S = (evE C a ρ S).go fun x S1 => isiV t x S1 := (rfl)
@[simp] theorem E_lzip : evE C (.lzip a b) ρ S = (evE C a ρ S).go fun x S1 => (evE C b ρ S1).go fun y S2 => lift1 (lzipV x y) S2 := (rfl)
@[simp] theorem E_sset : evE C (.sset a) ρ S = (evE C a ρ S).go fun x S1 => lift1 (ssetV x) S1 := (rfl)
@[simp] theorem isi_non {t : TyN} : isiV t (.d .non) S = .ok (.d (.bl false)) S := (rfl)
@[simp] theorem isi_bl {t : TyN} {v : Bool} : isiV t (.d (.bl v)) S = .ok (.d (.bl (decide (t = .int ∨ t = .bool)))) S := (rfl)
@[simp] theorem isi_int {t : TyN} {v : Int} : isiV t (.d (.int v)) S = .ok (.d (.bl (decide (t = .int)))) S := (rfl)
@[simp] theorem isi_str {t : TyN} {v : Str} : isiV t (.d (.str v)) S = .ok (.d (.bl (decide (t = .str)))) S := (rfl)
@[simp] theorem isi_tup {t : TyN} {v : List D} : isiV t (.d (.tup v)) S = .ok (.d (.bl (decide (t = .tup)))) S := (rfl)
@[simp] theorem isi_lst {t : TyN} {v : List D} : isiV t (.d (.lst v)) S = .ok (.d (.bl (decide (t = .lst)))) S := (rfl)
end
end U

/-! UShare: settings, parties, sets of points. -/
namespace U
open PySem
variable {T : Nat → Option FD} {n : Nat} {S : St}
abbrev setD (p q t : Int) : D := .tup [.str (Str.ofString "setting"), .int p, .int q, .int t]
theorem set_ix1 {p q t : Int} {S : St} : ixV (.d (setD p q t)) (.d (.int 1)) S = .ok (.d (.int p)) S := ix_tup (k := 1) rfl
theorem set_ix2 {p q t : Int} {S : St} : ixV (.d (setD p q t)) (.d (.int 2)) S = .ok (.d (.int q)) S := ix_tup (k := 2) rfl
theorem set_ix3 {p q t : Int} {S : St} : ixV (.d (setD p q t)) (.d (.int 3)) S = .ok (.d (.int t)) S := ix_tup (k := 3) rfl
/-- 1 .. q -/
def ptI (q : Nat) : List Int := (List.range' 1 q).map fun k => ((k : Nat) : Int)
theorem pt_rng (q : Nat) : rngUp 1 q = (ptI q).map D.int := by
  unfold ptI
  rw [List.map_map]
  exact rng_range q 1
theorem pt_len {q : Nat} : (ptI q).length = q := by unfold ptI; rw [List.length_map, List.length_range']
theorem pt_mem {q : Nat} {a : Int} : a ∈ ptI q ↔ 1 ≤ a ∧ a ≤ q := by
  unfold ptI
  rw [List.mem_map]
  constructor
  · rintro ⟨k, hk, rfl⟩
    rw [List.mem_range'_1] at hk
    omega
  · rintro ⟨h1, h2⟩
    refine ⟨a.toNat, ?_, by omega⟩
    rw [List.mem_range'_1]
    omega
theorem pt_nd {q : Nat} : (ptI q).Nodup := by
  unfold ptI
  exact List.Pairwise.map _ (fun a b h z => h (by omega)) List.nodup_range'
def pParties : FD := { np := 1, ns := 1, body := (.ret (.trng false (.con (.int 1)) (.bin .add (.ix (.var 0) (.con (.int 2))) (.con (.int 1))))) }
theorem s_parties {i : Nat} (h : T i = some pParties) {p t : Int} {q : Nat} (hq : q ≤ 1000) : callN T (n + 1) i [.d (setD p q t)] S = .ok (.d (ti (ptI q))) S := by
  rw [call_eq h rfl]
  have e := trng_int (S := S.call) (l := false) (i := 1) (j := q + 1) (by omega) (by omega) (by omega) (by omega) (by omega)
  rw [show ((q : Int) + 1 - 1).toNat = q by omega, pt_rng] at e
  simp [pParties, varV, set_ix2, e]
/-! sets of things -/
def setsV : Nat → List Int → List (List Int)
  | 0, _ => [[]]
  | m + 1, xs => (List.range xs.length).flatMap fun i => (setsV m (xs.drop (i + 1))).map (xs.getD i 0 :: ·)
def pSb1 : DS := (.expr (.m1 .append (.var 2) (.bin .add (.tup (.cons (.ix (.var 0) (.var 3)) .nil)) (.var 4))))
def pSb2 (ise : Nat) : DS := (.for_ (.one 4) (.wk .seq (.call ise (.cons (.sl (.var 0) (.cons (.bin .add (.var 3) (.con (.int 1))) .nil) .nil) (.cons (.bin .sub (.var 1) (.con (.int 1))) .nil))) .nil)
    pSb1)
def pSets (ise : Nat) : FD := { np := 2, ns := 5, body := (.seq (.ife (.cmp .eq (.var 1) (.con (.int 0)))
    (.ret (.lst (.cons (.tup .nil) .nil)))
    .skip)
    (.seq (.set 2 true (.lst .nil))
    (.seq (.for_ (.one 3) (.wk .rng1 (.b1 .len (.var 0)) .nil)
    (pSb2 ise))
    (.ret (.var 2))))) }
theorem sets_len : ∀ (m : Nat) (xs : List Int), (setsV m xs).length ≤ (xs.length + 1) ^ m
  | 0, xs => by simp [setsV]
  | m + 1, xs => by
    unfold setsV
    rw [List.length_flatMap]
    have : ∀ is : List Nat, (is.map fun i => ((setsV m (xs.drop (i + 1))).map (xs.getD i 0 :: ·)).length).sum ≤ is.length * (xs.length + 1) ^ m := by
      intro is
      induction is with
      | nil => simp
      | cons i is ih =>
        rw [List.map_cons, List.sum_cons, List.length_cons, Nat.add_mul, List.length_map]
        have h1 := sets_len m (xs.drop (i + 1))
        have h2 : ((xs.drop (i + 1)).length + 1) ^ m ≤ (xs.length + 1) ^ m := Nat.pow_le_pow_left (by rw [List.length_drop]; omega) m
        omega
    have h := this (List.range xs.length)
    rw [List.length_range] at h
    refine Nat.le_trans h ?_
    rw [Nat.pow_succ, Nat.mul_comm]
    exact Nat.mul_le_mul_left _ (by omega)
theorem l_sets1 {C : Nat → List SV → M RV} {xs : List Int} {i : Nat} (hi : i < xs.length) {a1 : SV} : ∀ (rs : List (List Int)) (acc : List D), (∀ r ∈ rs, r.length ≤ 1000) → acc.length + rs.length < 16777216 →
    forL (fun _ => true) (putT (.one 4)) (evS C pSb1) [some (.d (ti xs)), some a1, some (.loc 0 0), some (.d (.int i)), none] 1 (rs.map ti) [some (.d (ti xs)), some a1, some (.loc 0 0), some (.d (.int i)), none] (bagS S acc) =
      .ok (.next [some (.d (ti xs)), some a1, some (.loc 0 0), some (.d (.int i)), none]) (bagS S (acc ++ rs.map fun r => ti (xs.getD i 0 :: r)))
  | [], acc, _, _ => by
    have : acc ++ ([] : List (List Int)).map (fun r => ti (xs.getD i 0 :: r)) = acc := by simp
    rw [this]
    rfl
  | r :: rs, acc, hr, hl => by
    rw [List.length_cons] at hl
    have ih := l_sets1 (C := C) hi (a1 := a1) rs (acc ++ [ti (xs.getD i 0 :: r)]) (fun q hq => hr q (List.mem_cons_of_mem _ hq)) (by rw [List.length_append]; simp; omega)
    have e1 : ixV (.d (ti xs)) (.d (.int i)) (bagS S acc) = .ok (.d (.int xs[i])) (bagS S acc) := ix_tup (getI hi)
    have e2 : binV .add (.d (.tup [.int xs[i]])) (.d (ti r)) (bagS S acc) = .ok (.d (ti (xs.getD i 0 :: r))) (bagS S acc) := by
      rw [bin_tup (by have := hr r List.mem_cons_self; simp; omega), show xs.getD i 0 = xs[i] by simp [hi]]
      rfl
    have z1 : sz 1 = true := rfl
    rw [List.map_cons, forL]
    simp [-List.getD_eq_getElem?_getD, putT, Env.put, pSb1, varV, e1, z1, e2, bag_recv, bag_app (show acc.length < 16777216 by omega)]
    rw [ownFree_take (n := 1) (S := bagS S (acc ++ [ti (xs.getD i 0 :: r)])) rfl]
    rw [List.append_assoc] at ih
    exact ih
theorem sets_in : ∀ (m : Nat) (xs r : List Int), r ∈ setsV m xs → r.length = m ∧ r.Sublist xs
  | 0, xs, r, h => by
    rw [setsV, List.mem_singleton] at h
    subst h
    exact ⟨rfl, List.nil_sublist _⟩
  | m + 1, xs, r, h => by
    unfold setsV at h
    obtain ⟨i, hi, h⟩ := List.mem_flatMap.mp h
    obtain ⟨q, hq, rfl⟩ := List.mem_map.mp h
    obtain ⟨h1, h2⟩ := sets_in m _ q hq
    have hi := List.mem_range.mp hi
    refine ⟨by rw [List.length_cons, h1], ?_⟩
    rw [show xs.getD i 0 = xs[i] by simp [hi]]
    have : (xs[i] :: q).Sublist (xs.drop i) := by
      rw [List.drop_eq_getElem_cons hi]
      exact h2.cons_cons _
    exact this.trans (List.drop_sublist _ _)
end U

/-! UKit: typed comprehensions, loops by folds. -/
namespace U
open PySem
section
variable {S : St} {C : Nat → List SV → M RV} {ρ : Env}
/-- a comprehension over typed items -/
theorem comp_ty {α : Type} {enc : α → D} {chk : St → Bool} {put : D → Option Env} {fc fe : Env → M RV} {c : α → Bool} {g : α → D} {v : α → RV} {r : α → Env} (hk : chk S = true) : ∀ l : List α, (∀ a ∈ l, put (enc a) = some (r a) ∧ fc (r a) S = .ok (.d (.bl (c a))) S ∧ (c a = true → fe (r a) S = .ok (v a) S ∧ keep (v a) S = .ok (g a) S)) → compL chk put fc fe (l.map enc) S = .ok ((l.filter c).map g) S
  | [], _ => by rw [List.map_nil]; unfold compL; rw [if_pos hk]; rfl
  | x :: xs, h => by
    obtain ⟨h1, h2, h3⟩ := h x List.mem_cons_self
    have ih := comp_ty (g := g) (v := v) hk xs fun y hy => h y (List.mem_cons_of_mem _ hy)
    rw [List.map_cons]
    unfold compL
    rw [if_pos hk, h1]
    dsimp only
    rw [h2]
    cases hc : c x with
    | true =>
      obtain ⟨h4, h5⟩ := h3 hc
      dsimp only [truth]
      rw [h4]
      dsimp only
      rw [h5]
      dsimp only
      rw [ih, List.filter_cons_of_pos hc]
      rfl
    | false =>
      dsimp only [truth]
      rw [ih, List.filter_cons_of_neg (by rw [hc]; exact Bool.false_ne_true)]
theorem lc_ty {α : Type} {enc : α → D} {l : List α} {c : α → Bool} {g : α → D} {v : α → RV} {r : α → Env} {elt it cond : DE} {tg : Tg} {vs : List Nat} {at_ : Option (Nat × Nat)}
    (hw : evW C it ρ S = .ok ⟨l.map enc, at_⟩ S) (hk : (⟨l.map enc, at_⟩ : Walk).chk S = true) (hl : l.length ≤ 16777216)
    (h : ∀ a ∈ l, putT tg (enc a) (wipeE ρ vs) = some (r a) ∧ evE C cond (r a) S = .ok (.d (.bl (c a))) S ∧ (c a = true → evE C elt (r a) S = .ok (v a) S ∧ keep (v a) S = .ok (g a) S)) :
    evE C (.lc elt tg it cond vs) ρ S = .ok (.new (.lst ((l.filter c).map g))) S := by
  rw [E_lc, hw, go_ok, comp_ty hk l h, go_ok, if_pos]
  refine decide_eq_true ?_
  rw [List.length_map]
  exact Nat.le_trans (List.length_filter_le _ _) hl
theorem filter_true {α : Type} (l : List α) : l.filter (fun _ => true) = l := List.filter_eq_self.mpr fun _ _ => rfl
/-- without a condition -/
theorem lc_map {α : Type} {enc : α → D} {l : List α} {g : α → D} {v : α → RV} {r : α → Env} {elt it : DE} {tg : Tg} {vs : List Nat} {at_ : Option (Nat × Nat)}
    (hw : evW C it ρ S = .ok ⟨l.map enc, at_⟩ S) (hk : (⟨l.map enc, at_⟩ : Walk).chk S = true) (hl : l.length ≤ 16777216)
    (h : ∀ a ∈ l, putT tg (enc a) (wipeE ρ vs) = some (r a) ∧ evE C elt (r a) S = .ok (v a) S ∧ keep (v a) S = .ok (g a) S) :
    evE C (.lc elt tg it (.con (.bl true)) vs) ρ S = .ok (.new (.lst (l.map g))) S := by
  have := lc_ty (c := fun _ => true) (r := r) hw hk hl fun a ha => ⟨(h a ha).1, E_con, fun _ => (h a ha).2⟩
  rw [filter_true] at this
  exact this
theorem forL_next {chk : St → Bool} {put : D → Env → Option Env} {body : Env → M Flow} {ρ0 ρ1 ρ2 : Env} {n0 : Nat} {x : D} {xs : List D} {S2 : St} (hk : chk S = true) (hp : put x ρ = some ρ1) (hb : body ρ1 S = .ok (.next ρ2) S2) : forL chk put body ρ0 n0 (x :: xs) ρ S = forL chk put body ρ0 n0 xs (mask ρ0 ρ2) (trim n0 (mask ρ0 ρ2) S2) := by
  rw [forL]
  dsimp only
  rw [if_pos hk, hp]
  dsimp only
  rw [hb]
theorem forL_end {chk : St → Bool} {put : D → Env → Option Env} {body : Env → M Flow} {ρ0 : Env} {n0 : Nat} (hk : chk S = true) : forL chk put body ρ0 n0 [] ρ S = .ok (.next ρ) S := by
  rw [forL]
  dsimp only
  rw [if_pos hk]
/-- a for that goes on to its end: a fold -/
theorem forL_fold {σ α : Type} {enc : α → D} {chk : St → Bool} {put : D → Env → Option Env} {body : Env → M Flow} {ρ0 : Env} {n0 : Nat} (st : σ → Env) (ss : σ → St) (step : σ → α → σ) (inv : List α → σ → Prop)
    (h : ∀ a l s, inv (a :: l) s → chk (ss s) = true ∧ ∃ ρ1 ρ2 S2, put (enc a) (st s) = some ρ1 ∧ body ρ1 (ss s) = .ok (.next ρ2) S2 ∧ mask ρ0 ρ2 = st (step s a) ∧ trim n0 (mask ρ0 ρ2) S2 = ss (step s a) ∧ inv l (step s a))
    (hn : ∀ s, inv [] s → chk (ss s) = true) : ∀ (l : List α) (s : σ), inv l s → forL chk put body ρ0 n0 (l.map enc) (st s) (ss s) = .ok (.next (st (l.foldl step s))) (ss (l.foldl step s)) ∧ inv [] (l.foldl step s)
  | [], s, hi => by
    rw [List.map_nil, forL]
    dsimp only
    rw [if_pos (hn s hi)]
    exact ⟨rfl, hi⟩
  | a :: l, s, hi => by
    obtain ⟨h1, ρ1, ρ2, S2, h2, h3, h4, h5, h6⟩ := h a l s hi
    rw [List.map_cons, forL]
    dsimp only
    rw [if_pos h1, h2]
    dsimp only
    rw [h3]
    dsimp only
    rw [h5, h4]
    exact forL_fold st ss step inv h hn l _ h6
end
end U

/-! UShow2: a bound for the length of a shown text, for all data. -/
namespace U
open PySem
variable {T : Nat → Option FD} {n : Nat} {S : St}
mutual
def lenB : D → Nat
  | .int _ => 23
  | .str s => (PyData.shown (.str s)).length
  | .tup ds => lenBs ds + 4
  | .lst ds => lenBs ds + 4
  | _ => 5
def lenBs : List D → Nat
  | [] => 0
  | d :: ds => lenB d + 2 + lenBs ds
end
theorem int_shown2 {c : Int} (h : -1000000000000000000000 ≤ c ∧ c ≤ 1000000000000000000000) : (PyData.shown (.int c)).length ≤ 23 := by
  have e : PyData.shown (.int c) = Str.ofString (toString c) := by unfold PyData.shown; rfl
  rw [e, ofString_length]
  exact int_text_length_le10 (k := 22) (by omega) (by omega)
theorem piled_cons' (t : Str) (ts : List Str) : piled (t :: ts) = (t.length + 2) + piled ts := by simp [piled]
theorem lst_len (ts : List Str) : (listText ts).length ≤ piled ts + 4 := by
  cases ts with
  | nil => decide
  | cons t r =>
    have h := textFrom_length_pos r 1 (("[" : Str) ++ (if (0 : Nat) > 0 then ", " else "" : String) ++ t) (Nat.succ_pos 0)
    have e : ((("[" : Str) ++ (if (0 : Nat) > 0 then ", " else "" : String) ++ t)).length = 1 + t.length := by
      rw [strLen_append, strLen_append]; rfl
    have hX : (listText (t :: r)).length = (textFrom 0 "[" (t :: r)).length + 1 := by
      show (textFrom 0 "[" (t :: r) ++ "]").length = _
      rw [strLen_append]; rfl
    have hY : (textFrom 0 "[" (t :: r)).length = (textFrom 1 (("[" : Str) ++ (if (0 : Nat) > 0 then ", " else "" : String) ++ t) r).length := rfl
    rw [piled_cons']
    omega
mutual
theorem shown_le : ∀ (k : Nat) (d : D), showB k d = true → (PyData.shown d.py).length ≤ lenB d
  | _, .non, _ => by decide
  | _, .bl b, _ => by cases b <;> decide
  | _, .int i, h => by
    have h : (decide (-1000000000000000000000 ≤ i) && decide (i ≤ 1000000000000000000000)) = true := h
    rw [Bool.and_eq_true] at h
    have h1 := of_decide_eq_true h.1
    have h2 := of_decide_eq_true h.2
    exact int_shown2 ⟨h1, h2⟩
  | _, .str s, _ => Nat.le_refl _
  | k + 1, .tup ds, h => by
    have ih := showns_le k ds h
    have e : PyData.shown (D.tup ds).py = tupleText (PyData.shownAll (D.pys ds)) := by rw [D.py, PyData.shown]
    rw [e]
    have := tup_len (PyData.shownAll (D.pys ds))
    show _ ≤ lenBs ds + 4
    omega
  | k + 1, .lst ds, h => by
    have ih := showns_le k ds h
    have e : PyData.shown (D.lst ds).py = listText (PyData.shownAll (D.pys ds)) := by rw [D.py, PyData.shown]
    rw [e]
    have := lst_len (PyData.shownAll (D.pys ds))
    show _ ≤ lenBs ds + 4
    omega
  | 0, .tup _, h => by simp [showB] at h
  | 0, .lst _, h => by simp [showB] at h
  | _, .dic _, h => by simp [showB] at h
  | _, .ref _, h => by simp [showB] at h
  | _, .rol _, h => by simp [showB] at h
theorem showns_le : ∀ (k : Nat) (ds : List D), showBs k ds = true → piled (PyData.shownAll (D.pys ds)) ≤ lenBs ds
  | _, [], _ => by simp [D.pys, PyData.shownAll, piled]
  | k, d :: ds, h => by
    rw [showBs, Bool.and_eq_true] at h
    have h1 := shown_le k d h.1
    have h2 := showns_le k ds h.2
    rw [D.pys, PyData.shownAll, piled_cons', lenBs]
    omega
end
theorem showBs_iff {k : Nat} : ∀ {ds : List D}, showBs k ds = true ↔ ∀ d ∈ ds, showB k d = true
  | [] => by simp [showBs]
  | d :: ds => by rw [showBs, Bool.and_eq_true, showBs_iff]; simp
theorem lenBs_le {B : Nat} : ∀ {ds : List D}, (∀ d ∈ ds, lenB d ≤ B) → lenBs ds ≤ ds.length * (B + 2)
  | [], _ => by simp [lenBs]
  | d :: ds, h => by
    have h1 := h d List.mem_cons_self
    have h2 := lenBs_le fun x hx => h x (List.mem_cons_of_mem _ hx)
    rw [lenBs, List.length_cons, Nat.add_mul]
    omega
/-- may be shown, in so many signs -/
structure Sh (k B : Nat) (d : D) : Prop where
  sh : showB k d = true
  le : lenB d ≤ B
theorem Sh.mono {k B B' : Nat} {d : D} (h : Sh k B d) (hb : B ≤ B') : Sh k B' d := ⟨h.sh, Nat.le_trans h.le hb⟩
theorem Sh.int {k : Nat} {c : Int} (h : -1000000000000000000000 ≤ c ∧ c ≤ 1000000000000000000000) : Sh k 23 (.int c) := by
  refine ⟨?_, by rw [lenB]; exact Nat.le_refl _⟩
  have : showB k (.int c) = (decide (-1000000000000000000000 ≤ c) && decide (c ≤ 1000000000000000000000)) := by cases k <;> rfl
  rw [this, decide_eq_true h.1, decide_eq_true h.2]; rfl
theorem Sh.non {k : Nat} : Sh k 5 .non := ⟨by cases k <;> rfl, by simp [lenB]⟩
theorem Sh.bl {k : Nat} {b : Bool} : Sh k 5 (.bl b) := ⟨by cases k <;> rfl, by simp [lenB]⟩
theorem Sh.str {k : Nat} {s : Str} : Sh k (PyData.shown (.str s)).length (.str s) := ⟨by cases k <;> rfl, by rw [lenB]; exact Nat.le_refl _⟩
theorem Sh.tup {k B m : Nat} {ds : List D} (h : ∀ d ∈ ds, Sh k B d) (hl : ds.length ≤ m) : Sh (k + 1) (m * (B + 2) + 4) (.tup ds) := by
  refine ⟨showBs_iff.mpr fun d hd => (h d hd).sh, ?_⟩
  have h1 := lenBs_le fun d hd => (h d hd).le
  have h2 := Nat.mul_le_mul_right (B + 2) hl
  show lenBs ds + 4 ≤ _
  omega
theorem Sh.lst {k B m : Nat} {ds : List D} (h : ∀ d ∈ ds, Sh k B d) (hl : ds.length ≤ m) : Sh (k + 1) (m * (B + 2) + 4) (.lst ds) := by
  refine ⟨showBs_iff.mpr fun d hd => (h d hd).sh, ?_⟩
  have h1 := lenBs_le fun d hd => (h d hd).le
  have h2 := Nat.mul_le_mul_right (B + 2) hl
  show lenBs ds + 4 ≤ _
  omega
theorem Sh.ti {k m : Nat} {f : List Int} (h : Sz f) (hl : f.length ≤ m) : Sh (k + 1) (m * 25 + 4) (ti f) := by
  refine Sh.tup (B := 23) (fun d hd => ?_) (by rw [List.length_map]; exact hl)
  obtain ⟨c, hc, rfl⟩ := List.mem_map.mp hd
  have := h c hc
  exact Sh.int (by omega)
theorem Sh.map {α : Type} {k B : Nat} {g : α → D} {l : List α} (h : ∀ a ∈ l, Sh k B (g a)) : ∀ d ∈ l.map g, Sh k B d := fun d hd => by
  obtain ⟨a, ha, rfl⟩ := List.mem_map.mp hd
  exact h a ha
theorem Sh.ok {B : Nat} {d : D} (h : Sh 20 B d) (hb : B ≤ 16777216) : showB 20 d = true ∧ sz (PyData.shown d.py).length = true :=
  ⟨h.sh, decide_eq_true (Nat.le_trans (shown_le 20 d h.sh) (Nat.le_trans h.le hb))⟩
theorem s_sameS {i B : Nat} (h : T i = some hSame) {d : D} (hd : Sh 20 B d) (hb : B ≤ 16777216) : callN T (n + 1) i [.d d, .d d] S = .ok (.d (.bl true)) S := by
  have hk := hd.ok hb
  refine s_same h hk.1 hk.2 fun k => ?_
  rintro rfl
  have := hd.sh
  simp [showB] at this
end U

/-! UBox: the box of draws at the head of a frame. -/
namespace U
open PySem
variable {T : Nat → Option FD} {n : Nat} {S : St}
/-- the law's own frame: the box first -/
def bx (ds : List Int) (k : Nat) (r : List LO) (o : List (List LO)) (g : List LO) : St := ⟨boxO ds k :: r, o, g⟩
section
variable {ds : List Int} {k : Nat} {r : List LO} {o : List (List LO)} {g : List LO}
theorem bx_get : (bx ds k r o g).get 0 0 = some (boxO ds k) := rfl
theorem bx_set {k' : Nat} : (bx ds k r o g).set 0 0 (boxO ds k') = bx ds k' r o g := rfl
theorem bx_own : (bx ds k r o g).own.length = r.length + 1 := rfl
theorem bx_get1 {i : Nat} : (bx ds k r o g).get 0 (i + 1) = r[i]? := rfl
theorem bx_set1 {i : Nat} {x : LO} : (bx ds k r o g).set 0 (i + 1) x = bx ds k (r.set i x) o g := rfl
theorem bx_push {x : LO} : ({ bx ds k r o g with own := (bx ds k r o g).own ++ [x] } : St) = bx ds k (r ++ [x]) o g := rfl
theorem x_draw {i : Nat} (h : T i = some hDraw) {m : Int} (hm : 0 < m) : callN T (n + 1) i [.loc 0 0, .d (.int m)] (bx ds k r o g) = .ok (.d (.int (drw ds k m))) (bx ds (k + 1) r o g) := s_draw h bx_get hm
theorem x_number {i id : Nat} (h : T i = some (hNumber id)) (hd : T id = some hDraw) {p : Int} (hp : 0 < p) : callN T (n + 2) i [.loc 0 0, .d (.int p)] (bx ds k r o g) = .ok (.d (.int (num ds k p))) (bx ds (k + 2) r o g) := s_number h hd bx_get hp
theorem x_pick {i id : Nat} (h : T i = some (hPick id)) (hd : T id = some hDraw) (xs : List D) (hx : xs ≠ []) : ∃ x ∈ xs, callN T (n + 2) i [.loc 0 0, .d (.lst xs)] (bx ds k r o g) = .ok (.d x) (bx ds (k + 1) r o g) := s_pick h hd bx_get xs hx
theorem x_pickT {i id : Nat} (h : T i = some (hPick id)) (hd : T id = some hDraw) (xs : List D) (hx : xs ≠ []) : ∃ x ∈ xs, callN T (n + 2) i [.loc 0 0, .d (.tup xs)] (bx ds k r o g) = .ok (.d x) (bx ds (k + 1) r o g) := s_pickT h hd bx_get xs hx
theorem x_numbers {i inu id : Nat} (h : T i = some (hNumbers inu)) (h1 : T inu = some (hNumber id)) (hd : T id = some hDraw) {p : Int} (hp : 0 < p) {m : Nat} (hm : m ≤ 1000000) :
    ∃ ys : List Int, ys.length = m ∧ InR p ys ∧ callN T (n + 3) i [.loc 0 0, .d (.int p), .d (.int m)] (bx ds k r o g) = .ok (.d (ti ys)) (bx ds (k + 2 * m) r o g) := s_numbers h h1 hd bx_get hp hm
end
/-! more values -/
theorem bin_lst {s t : List D} (h : s.length + t.length ≤ 16777216) {x y : RV} (hx : view S (hold x).rv = some (.lst s)) (hy : view S y = some (.lst t)) : binV .add x y S = .ok (.new (.lst (s ++ t))) S := by
  unfold binV
  rw [hx, hy]
  show M.opt (if sz (s.length + t.length) = true then _ else _) S = _
  rw [if_pos (show sz (s.length + t.length) = true from decide_eq_true h)]
  rfl
theorem ix_new {ds : List D} {k : Nat} {d : D} (h : ds[k]? = some d) : ixV (.new (.lst ds)) (.d (.int k)) S = .ok (.d d) S := ix_lst h
theorem rng0 (n : Nat) : rngUp 0 n = (List.range n).map fun k => D.int (k : Nat) := by
  rw [List.range_eq_range']
  exact rng_range n 0
theorem primesA {x : D} (hx : x ∈ [D.int 2, .int 3, .int 5, .int 7, .int 11, .int 13, .int 101, .int 10007]) : ∃ p : Int, x = .int p ∧ Pr p ∧ p ≤ 10007 := by
  simp at hx
  rcases hx with rfl | rfl | rfl | rfl | rfl | rfl | rfl | rfl
  · exact ⟨2, rfl, ⟨by decide, by decide, ferm_2⟩, by decide⟩
  · exact ⟨3, rfl, ⟨by decide, by decide, ferm_3⟩, by decide⟩
  · exact ⟨5, rfl, ⟨by decide, by decide, ferm_5⟩, by decide⟩
  · exact ⟨7, rfl, ⟨by decide, by decide, ferm_7⟩, by decide⟩
  · exact ⟨11, rfl, ⟨by decide, by decide, ferm_11⟩, by decide⟩
  · exact ⟨13, rfl, ⟨by decide, by decide, by decide +kernel⟩, by decide⟩
  · exact ⟨101, rfl, ⟨by decide, by decide, ferm_101⟩, by decide⟩
  · exact ⟨10007, rfl, ⟨by decide, by decide, ferm_10007⟩, by decide⟩
end U

/-! URead: readings, the plain law. -/
namespace U
open PySem
theorem add_nth : ∀ {f g : List Int} (i : Nat) (hf : i < f.length) (hg : i < g.length), ∃ h : i < (pAdd f g).length, (pAdd f g)[i] = f[i] + g[i]
  | a :: f, b :: g, 0, _, _ => ⟨by rw [pAdd, List.length_cons]; omega, rfl⟩
  | a :: f, b :: g, i + 1, hf, hg => by
    obtain ⟨h, e⟩ := add_nth (f := f) (g := g) i (by simpa using hf) (by simpa using hg)
    exact ⟨by rw [pAdd, List.length_cons]; omega, e⟩
/-- as many equal values as numbers: the same polynomial -/
theorem poly_eq {p : Int} (F : Fld p) {pts f g : List Int} (ap : Apart p pts) (hl : f.length ≤ pts.length) (hfg : f.length = g.length) (h : ∀ a ∈ pts, cg p (pe a f) (pe a g)) (hf : InR p f) (hg : InR p g) : f = g := by
  have hlen : (pNeg g).length = g.length := List.length_map ..
  have key : ∀ y, pe y (pAdd f (pNeg g)) = pe y f - pe y g := fun y => by
    rw [pe_add y f (pNeg g) (by rw [hlen, hfg]), pNeg, pe_sc]
    omega
  have z := roots_zero F pts (pAdd f (pNeg g)) ap (by rw [add_len (by rw [hlen, hfg])]; exact hl) fun a ha => by
    rw [key]
    exact cg.sub0.mpr (h a ha)
  apply List.ext_getElem hfg
  intro i h1 h2
  have h3 : i < (pNeg g).length := by rw [hlen]; exact h2
  obtain ⟨h4, e⟩ := add_nth i h1 h3
  have := z _ (List.getElem_mem h4)
  rw [e] at this
  have e2 : (pNeg g)[i] = -1 * g[i] := List.getElem_map ..
  rw [e2, show f[i] + -1 * g[i] = f[i] - g[i] by omega] at this
  have r1 := hf _ (List.getElem_mem h1)
  have r2 := hg _ (List.getElem_mem h2)
  exact (cg.sub0.mp this).eq r1.1 r1.2 r2.1 r2.2
/-- the share of a party in a row -/
def shr (row : List Int) (a : Int) : Int := row.getD (a - 1).toNat 0
def wrongV (p : Int) (q : Nat) (row f : List Int) : List Int := (ptI q).filter fun a => decide (shr row a ≠ pe a f % p)
theorem apart_pt {p : Int} {q : Nat} (hq : (q : Int) < p) : Apart p (ptI q) := by
  have nd := pt_nd (q := q)
  unfold Apart
  rw [List.pairwise_iff_getElem]
  intro i j hi hj hij z
  have a := pt_mem.mp (List.getElem_mem hi)
  have b := pt_mem.mp (List.getElem_mem hj)
  have := z.eq (by omega) (by omega) (by omega) (by omega)
  exact List.pairwise_iff_getElem.mp nd i j hi hj hij this
theorem apart_sub {p : Int} {a b : List Int} (h : Apart p b) (s : a.Sublist b) : Apart p a := List.Pairwise.sublist s h
theorem two_filters {α : Type} (f g : α → Bool) : ∀ l : List α, l.length ≤ (l.filter fun a => f a && g a).length + (l.filter fun a => !f a).length + (l.filter fun a => !g a).length
  | [] => by simp
  | a :: l => by
    have ih := two_filters f g l
    cases h1 : f a <;> cases h2 : g a <;> simp [List.filter_cons, h1, h2] <;> omega
theorem filter_not {α : Type} (f : α → Bool) : ∀ l : List α, (l.filter f).length + (l.filter fun a => !f a).length = l.length
  | [] => by simp
  | a :: l => by
    have ih := filter_not f l
    cases h1 : f a <;> simp [List.filter_cons, h1] <;> omega
/-- two polynomials near a row are one -/
theorem near_one {p : Int} (F : Fld p) {q e : Nat} (hq : (q : Int) < p) {row f g : List Int} (hfg : f.length = g.length) (hf : InR p f) (hg : InR p g) (h1 : (wrongV p q row f).length ≤ e) (h2 : (wrongV p q row g).length ≤ e) (hl : f.length + 2 * e ≤ q) : f = g := by
  have h := two_filters (fun a => decide (shr row a = pe a f % p)) (fun a => decide (shr row a = pe a g % p)) (ptI q)
  rw [pt_len] at h
  have e1 : (wrongV p q row f) = (ptI q).filter fun a => !decide (shr row a = pe a f % p) := by
    unfold wrongV; congr 1; funext a; simp
  have e2 : (wrongV p q row g) = (ptI q).filter fun a => !decide (shr row a = pe a g % p) := by
    unfold wrongV; congr 1; funext a; simp
  rw [e1] at h1
  rw [e2] at h2
  refine poly_eq F (pts := (ptI q).filter fun a => decide (shr row a = pe a f % p) && decide (shr row a = pe a g % p)) (apart_sub (apart_pt hq) List.filter_sublist) (by omega) hfg (fun a ha => ?_) hf hg
  have := (List.mem_filter.mp ha).2
  simp at this
  have e3 : pe a f % p = pe a g % p := by rw [← this.1, this.2]
  exact e3
/-! sets -/
theorem in_sets : ∀ (m : Nat) (xs r : List Int), r.Sublist xs → r.length = m → r ∈ setsV m xs
  | 0, xs, r, _, h => by
    rw [setsV, List.mem_singleton]
    exact List.length_eq_zero_iff.mp h
  | m + 1, xs, r, hs, h => by
    cases r with
    | nil => simp at h
    | cons a r =>
      unfold setsV
      have : ∃ i, ∃ hi : i < xs.length, xs[i] = a ∧ r.Sublist (xs.drop (i + 1)) := by
        clear h
        induction xs with
        | nil => cases hs
        | cons b xs ih =>
          cases hs with
          | cons _ hs =>
            obtain ⟨i, hi, h1, h2⟩ := ih hs
            exact ⟨i + 1, by simpa using hi, by simpa using h1, by simpa using h2⟩
          | cons_cons _ hs => exact ⟨0, by simp, rfl, by simpa using hs⟩
      obtain ⟨i, hi, h1, h2⟩ := this
      refine List.mem_flatMap.mpr ⟨i, List.mem_range.mpr hi, List.mem_map.mpr ⟨r, in_sets m _ r h2 (by simpa using h), ?_⟩⟩
      rw [show xs.getD i 0 = xs[i] by simp [hi], h1]
/-! the readings -/
def polyAt (p : Int) (row pts : List Int) : List Int := thrV p pts (pts.map (shr row))
def rdStep (p : Int) (q e : Nat) (row : List Int) (found : List (List Int)) (pts : List Int) : List (List Int) :=
  if polyAt p row pts ∉ found ∧ (wrongV p q row (polyAt p row pts)).length ≤ e then found ++ [polyAt p row pts] else found
def rdV (p : Int) (q m e : Nat) (row : List Int) : List (List Int) := (setsV m (ptI q)).foldl (rdStep p q e row) []
theorem rd_gen {p : Int} {q e : Nat} {row : List Int} : ∀ (l : List (List Int)) (found : List (List Int)), found.Nodup →
    (l.foldl (rdStep p q e row) found).Nodup ∧ ∀ f, f ∈ l.foldl (rdStep p q e row) found ↔ f ∈ found ∨ ∃ pts ∈ l, f = polyAt p row pts ∧ (wrongV p q row f).length ≤ e
  | [], found, h => ⟨h, fun f => by simp⟩
  | pts :: l, found, h => by
    rw [List.foldl_cons]
    by_cases hc : polyAt p row pts ∉ found ∧ (wrongV p q row (polyAt p row pts)).length ≤ e
    · rw [show rdStep p q e row found pts = found ++ [polyAt p row pts] from if_pos hc]
      have hn : (found ++ [polyAt p row pts]).Nodup := by
        rw [List.nodup_append]
        refine ⟨h, by simp, fun a ha b hb => ?_⟩
        rw [List.mem_singleton.mp hb]
        exact fun z => hc.1 (z ▸ ha)
      obtain ⟨h1, h2⟩ := rd_gen l _ hn
      refine ⟨h1, fun f => ?_⟩
      rw [h2 f]
      constructor
      · rintro (h | ⟨z, hz, h⟩)
        · rcases List.mem_append.mp h with h | h
          · exact .inl h
          · rw [List.mem_singleton] at h
            subst h
            exact .inr ⟨pts, List.mem_cons_self, rfl, hc.2⟩
        · exact .inr ⟨z, List.mem_cons_of_mem _ hz, h⟩
      · rintro (h | ⟨z, hz, h⟩)
        · exact .inl (List.mem_append_left _ h)
        · rcases List.mem_cons.mp hz with rfl | hz
          · exact .inl (List.mem_append_right _ (by rw [h.1]; simp))
          · exact .inr ⟨z, hz, h⟩
    · rw [show rdStep p q e row found pts = found from if_neg hc]
      obtain ⟨h1, h2⟩ := rd_gen l found h
      refine ⟨h1, fun f => ?_⟩
      rw [h2 f]
      constructor
      · rintro (h | ⟨z, hz, h⟩)
        · exact .inl h
        · exact .inr ⟨z, List.mem_cons_of_mem _ hz, h⟩
      · rintro (h | ⟨z, hz, h⟩)
        · exact .inl h
        · rcases List.mem_cons.mp hz with rfl | hz
          · refine .inl ?_
            have hw := h.2
            rw [h.1] at hw ⊢
            exact Classical.byContradiction fun hx => hc ⟨hx, hw⟩
          · exact .inr ⟨z, hz, h⟩
theorem shr_map {row : List Int} : ∀ q : Nat, row.length = q → (ptI q).map (shr row) = row := fun q h => by
  apply List.ext_getElem
  · rw [List.length_map, pt_len, h]
  · intro i h1 h2
    rw [List.getElem_map]
    have e : (ptI q)[i]'(by rw [List.length_map] at h1; exact h1) = ((1 + 1 * i : Nat) : Int) := by
      unfold ptI
      rw [List.getElem_map, List.getElem_range']
    rw [e]
    unfold shr
    rw [show (((1 + 1 * i : Nat) : Int) - 1).toNat = i by omega]
    simp [h2]
theorem shr_in {p : Int} (hp : 0 < p) {row : List Int} (hr : InR p row) (a : Int) : 0 ≤ shr row a ∧ shr row a < p := by
  unfold shr
  by_cases h : (a - 1).toNat < row.length
  · rw [List.getD_eq_getElem?_getD, List.getElem?_eq_getElem h]
    exact hr _ (List.getElem_mem h)
  · rw [List.getD_eq_getElem?_getD, List.getElem?_eq_none (by omega)]
    show (0 : Int) ≤ 0 ∧ (0 : Int) < p
    omega
theorem polyAt_val {p : Int} (hp : Pr p) {row pts : List Int} (hr : InR p row) (ap : Apart p pts) {a : Int} (ha : a ∈ pts) : pe a (polyAt p row pts) % p = shr row a := by
  obtain ⟨k, hk, rfl⟩ := List.getElem_of_mem ha
  have h := thrV_at hp (vals := pts.map (shr row)) ap hk
  have e : (pts.map (shr row)).getD k 0 = shr row pts[k] := by simp [hk]
  rw [e] at h
  have r := shr_in hp.pos hr pts[k]
  exact (h.symm.eqm r.1 r.2).symm
/-- what is read: all that is near -/
theorem rd_all {p : Int} (hp : Pr p) {q m e : Nat} (hq : (q : Int) < p) (hme : m + e ≤ q) {row : List Int} (hr : InR p row) (f : List Int) :
    f ∈ rdV p q m e row ↔ f.length = m ∧ InR p f ∧ (wrongV p q row f).length ≤ e := by
  unfold rdV
  rw [(rd_gen _ [] List.nodup_nil).2 f]
  constructor
  · rintro (h | ⟨pts, hpts, rfl, h⟩)
    · cases h
    · obtain ⟨h1, h2⟩ := sets_in _ _ _ hpts
      exact ⟨by unfold polyAt; rw [thrV_len, h1], thrV_in hp.pos, h⟩
  · rintro ⟨h1, h2, h3⟩
    refine .inr ?_
    have hn := filter_not (fun a => decide (shr row a = pe a f % p)) (ptI q)
    have e1 : (wrongV p q row f) = (ptI q).filter fun a => !decide (shr row a = pe a f % p) := by
      unfold wrongV; congr 1; funext a; simp
    rw [pt_len, ← e1] at hn
    generalize hA : (ptI q).filter (fun a => decide (shr row a = pe a f % p)) = A at hn
    have hsub : (A.take m).Sublist (ptI q) := (List.take_sublist _ _).trans (by rw [← hA]; exact List.filter_sublist)
    have hlen : (A.take m).length = m := by rw [List.length_take]; omega
    have ap := apart_sub (apart_pt hq) hsub
    refine ⟨A.take m, in_sets _ _ _ hsub hlen, ?_, h3⟩
    refine poly_eq hp.fld ap (by omega) (by unfold polyAt; rw [thrV_len, hlen, h1]) (fun a ha => ?_) h2 (thrV_in hp.pos)
    have hv := polyAt_val hp hr ap ha
    have hm : a ∈ A := List.mem_of_mem_take ha
    rw [← hA] at hm
    have := of_decide_eq_true (List.mem_filter.mp hm).2
    unfold cg
    rw [hv, this]
theorem rd_nd {p : Int} {q m e : Nat} {row : List Int} : (rdV p q m e row).Nodup := (rd_gen _ [] List.nodup_nil).1
theorem rd_len {p : Int} {q m e : Nat} {row : List Int} : (rdV p q m e row).length ≤ (setsV m (ptI q)).length := by
  have : ∀ (l found : List (List Int)), (l.foldl (rdStep p q e row) found).length ≤ found.length + l.length := by
    intro l
    induction l with
    | nil => intro found; simp
    | cons a l ih =>
      intro found
      rw [List.foldl_cons, List.length_cons]
      refine Nat.le_trans (ih _) ?_
      unfold rdStep
      split
      · rw [List.length_append]; simp; omega
      · omega
  have := this (setsV m (ptI q)) []
  rw [List.length_nil, Nat.zero_add] at this
  exact this
/-! sorting by the code -/
theorem cd_lt : ∀ f : List Int, (∀ c ∈ f, 0 ≤ c ∧ c < 1048576) → 0 ≤ cdI f ∧ cdI f < 1048576 ^ f.length
  | [], _ => by simp [cdI]
  | c :: f, h => by
    obtain ⟨h1, h2⟩ := cd_lt f fun x hx => h x (List.mem_cons_of_mem _ hx)
    have hc := h c List.mem_cons_self
    rw [cdI, List.length_cons, Int.pow_succ]
    have hp : 0 < (1048576 : Int) ^ f.length := Int.pow_pos (by omega)
    generalize (1048576 : Int) ^ f.length = B at *
    constructor
    · have := Int.mul_nonneg hc.1 (Int.le_of_lt hp)
      omega
    · have := Int.mul_le_mul_of_nonneg_right (show c ≤ 1048575 by omega) (Int.le_of_lt hp)
      omega
theorem cdI_inj : ∀ f g : List Int, f.length = g.length → (∀ c ∈ f, 0 ≤ c ∧ c < 1048576) → (∀ c ∈ g, 0 ≤ c ∧ c < 1048576) → cdI f = cdI g → f = g
  | [], [], _, _, _, _ => rfl
  | [], _ :: _, h, _, _, _ => by simp at h
  | _ :: _, [], h, _, _, _ => by simp at h
  | c :: f, d :: g, hl, hf, hg, h => by
    have hl : f.length = g.length := by simpa using hl
    obtain ⟨h1, h2⟩ := cd_lt f fun x hx => hf x (List.mem_cons_of_mem _ hx)
    obtain ⟨h3, h4⟩ := cd_lt g fun x hx => hg x (List.mem_cons_of_mem _ hx)
    rw [cdI, cdI, hl] at h
    rw [hl] at h2
    have hp : 0 < (1048576 : Int) ^ g.length := Int.pow_pos (by omega)
    have e1 : c = d := by
      have a1 := Int.add_mul_ediv_right (cdI f) c (c := (1048576 : Int) ^ g.length) (by omega)
      have a2 := Int.add_mul_ediv_right (cdI g) d (c := (1048576 : Int) ^ g.length) (by omega)
      rw [Int.ediv_eq_zero_of_lt h1 h2] at a1
      rw [Int.ediv_eq_zero_of_lt h3 h4] at a2
      rw [Int.add_comm, h, Int.add_comm, a2] at a1
      omega
    subst e1
    have hl : f.length = g.length := by simpa using hl
    rw [cdI_inj f g hl (fun x hx => hf x (List.mem_cons_of_mem _ hx)) (fun x hx => hg x (List.mem_cons_of_mem _ hx)) (by omega)]
/-- the same members, the same sorted list -/
theorem sort_same {k : Nat} {l l' : List (List Int)} (n1 : l.Nodup) (n2 : l'.Nodup) (hl : ∀ f ∈ l, f.length = k ∧ ∀ c ∈ f, 0 ≤ c ∧ c < 1048576) (h : ∀ f, f ∈ l ↔ f ∈ l') : sortT l = sortT l' := by
  have hp : l.Perm l' := (List.perm_ext_iff_of_nodup n1 n2).mpr h
  refine ((sortT_perm l).trans (hp.trans (sortT_perm l').symm)).eq_of_pairwise (fun a b ha hb h1 h2 => ?_) (sortT_sorted l) (sortT_sorted l')
  have a1 := hl a ((sortT_perm l).mem_iff.mp ha)
  have b1 := hl b ((h b).mpr ((sortT_perm l').mem_iff.mp hb))
  exact cdI_inj a b (by omega) a1.2 b1.2 (by omega)
end U

/-! UReadS: the program's readings, what they compute. -/
namespace U
open PySem
variable {T : Nat → Option FD} {n : Nat} {S : St}
theorem cut_ints {xs : List Int} {k : Nat} (h : k ≤ xs.length) : cut (xs.map D.int) (some (k : Int)) none = (xs.drop k).map D.int := by
  rw [cut_drop (by simpa using h), List.map_drop]
theorem l_sets2 {ise : Nat} {C : Nat → List SV → M RV} {m : Nat} {xs : List Int} {B : Nat} (hc : ∀ (ys : List Int) (S : St), ys.length ≤ xs.length → C ise [.d (ti ys), .d (.int m)] S = .ok (.new (.lst ((setsV m ys).map ti))) S) (hB : ∀ ys : List Int, ys.length ≤ xs.length → (setsV m ys).length ≤ B) (hx : xs.length ≤ 1000) (hm : m ≤ 999) :
    ∀ (is : List Nat) (acc : List D), (∀ i ∈ is, i < xs.length) → acc.length + is.length * B < 16777216 →
    forL (fun _ => true) (putT (.one 3)) (evS C (pSb2 ise)) [some (.d (ti xs)), some (.d (.int (m + 1))), some (.loc 0 0), none, none] 1 (is.map fun k => D.int (k : Nat)) [some (.d (ti xs)), some (.d (.int (m + 1))), some (.loc 0 0), none, none] (bagS S acc) =
      .ok (.next [some (.d (ti xs)), some (.d (.int (m + 1))), some (.loc 0 0), none, none]) (bagS S (acc ++ (is.flatMap fun i => (setsV m (xs.drop (i + 1))).map fun r => ti (xs.getD i 0 :: r))))
  | [], acc, _, _ => by
    rw [List.map_nil, List.flatMap_nil, List.append_nil]
    rfl
  | i :: is, acc, hi, hl => by
    have hi0 := hi i List.mem_cons_self
    have hb := hB (xs.drop (i + 1)) (by rw [List.length_drop]; omega)
    rw [List.length_cons, Nat.add_mul] at hl
    have e1 := hc (xs.drop (i + 1)) (bagS S acc) (by rw [List.length_drop]; omega)
    have e2 := l_sets1 (S := S) (C := C) hi0 (a1 := .d (.int (m + 1))) (setsV m (xs.drop (i + 1))) acc (fun r hr => by have := (sets_in _ _ _ hr).1; omega) (by omega)
    have ec := cut_ints (xs := xs) (k := i + 1) (by omega)
    have ih := l_sets2 hc hB hx hm is (acc ++ (setsV m (xs.drop (i + 1))).map fun r => ti (xs.getD i 0 :: r)) (fun k hk => hi k (List.mem_cons_of_mem _ hk)) (by rw [List.length_append, List.length_map]; omega)
    have e2' : forL (⟨(setsV m (xs.drop (i + 1))).map ti, none⟩ : Walk).chk (putT (.one 4)) (evS C pSb1) _ 1 _ _ _ = _ := e2
    have ol : (bagS S acc).own.length = 1 := rfl
    have hcast : ((i : Int) + 1) = ((i + 1 : Nat) : Int) := rfl
    have eb : evS C (pSb2 ise) [some (.d (ti xs)), some (.d (.int (m + 1))), some (.loc 0 0), some (.d (.int i)), none] (bagS S acc) = .ok (.next [some (.d (ti xs)), some (.d (.int (m + 1))), some (.loc 0 0), some (.d (.int i)), none]) (bagS S (acc ++ (setsV m (xs.drop (i + 1))).map fun r => ti (xs.getD i 0 :: r))) := by
      simp only [pSb2, S_for, W_seq, E_call, A_cons, A_nil, E_sl, E_var, varV, P_cons, P_nil, E_bin, E_con, go_ok, List.getElem?_cons_zero, List.getElem?_cons_succ, rv_d, bin_int, bop_add, bop_sub, lift_some, part_int, sl_tup, hold_d, Int.add_sub_cancel, ol]
      rw [hcast, ec, e1]
      simp only [go_ok, seq_new, ol]
      exact e2'
    rw [List.map_cons, forL_next rfl rfl eb]
    simp only [mask_some, mask_none, mask_nil]
    rw [ownFree_take (n := 1) rfl, ih, List.flatMap_cons, List.append_assoc]
theorem s_sets {ise : Nat} (h : T ise = some (pSets ise)) : ∀ (m n : Nat) (xs : List Int) (S : St), xs.length ≤ 1000 → m ≤ 999 → (xs.length + 1) ^ m ≤ 1000000 → callN T (n + m + 1) ise [.d (ti xs), .d (.int m)] S = .ok (.new (.lst ((setsV m xs).map ti))) S
  | 0, n, xs, S, _, _, _ => by
    rw [call_eq h rfl]
    simp [pSets, varV, setsV, sz]
  | m + 1, n, xs, S, hx, hm, hb => by
    have hp : (xs.length + 1) ^ m ≤ 1000000 := by
      have := Nat.le_trans (Nat.pow_le_pow_right (show 1 ≤ xs.length + 1 by omega) (show m ≤ m + 1 by omega)) hb
      exact this
    have hc : ∀ (ys : List Int) (S : St), ys.length ≤ xs.length → callN T (n + m + 1) ise [.d (ti ys), .d (.int m)] S = .ok (.new (.lst ((setsV m ys).map ti))) S := fun ys S hy => s_sets h m n ys S (by omega) (by omega) (Nat.le_trans (Nat.pow_le_pow_left (by omega) m) hp)
    have hB : ∀ ys : List Int, ys.length ≤ xs.length → (setsV m ys).length ≤ (xs.length + 1) ^ m := fun ys hy => Nat.le_trans (sets_len m ys) (Nat.pow_le_pow_left (by omega) m)
    have hsz : xs.length * (xs.length + 1) ^ m ≤ 1000000 := by
      rw [Nat.pow_succ, Nat.mul_comm] at hb
      exact Nat.le_trans (Nat.mul_le_mul_right _ (by omega)) hb
    have e := l_sets2 (S := S) hc hB hx (by omega) (List.range xs.length) [] (fun i hi => List.mem_range.mp hi) (by rw [List.length_range]; simp; omega)
    rw [call_eq h rfl]
    have er : rngUp 0 xs.length = (List.range xs.length).map fun k => D.int (k : Nat) := by
      rw [List.range_eq_range']
      exact rng_range xs.length 0
    rw [← er] at e
    have e' : forL (⟨rngUp 0 xs.length, none⟩ : Walk).chk (putT (.one 3)) (evS (callN T (n + (m + 1))) (pSb2 ise)) [some (.d (ti xs)), some (.d (.int (m + 1))), some (.loc 0 0), none, none] 1 (rngUp 0 xs.length) [some (.d (ti xs)), some (.d (.int (m + 1))), some (.loc 0 0), none, none] ⟨[⟨false, .lst []⟩], S.own :: S.out, S.gl⟩ = _ := e
    have hz : decide (((m : Int) + 1) = 0) = false := decide_eq_false (by omega)
    rw [show ((m + 1 : Nat) : Int) = (m : Int) + 1 from rfl]
    simp [pSets, varV, hz, St.call, sz, rng1_int (j := (xs.length : Int)) (by omega) (by omega), e']
    show leave (bagS S _) (.loc 0 0) = _
    show Res.ok (RV.new (.lst ([] ++ _))) _ = _
    rw [List.nil_append, setsV, List.map_flatMap]
    have : (fun i => (setsV m (xs.drop (i + 1))).map fun r => ti (xs[i]?.getD 0 :: r)) = fun i => ((setsV m (xs.drop (i + 1))).map (xs.getD i 0 :: ·)).map ti := by
      funext i
      rw [List.map_map]
      simp
    rw [← this]
    rfl
/-! wrong -/
def pWrc (ival : Nat) : DE := (.cmp .ne (.ix (.var 1) (.bin .sub (.var 3) (.con (.int 1)))) (.call ival (.cons (.ix (.var 0) (.con (.int 1))) (.cons (.var 2) (.cons (.var 3) .nil)))))
def pWrong (ipar ival : Nat) : FD := { np := 3, ns := 4, body := (.ret (.b1 .tuple (.lc (.var 3) (.one 3) (.wk .seq (.call ipar (.cons (.var 0) .nil)) .nil) (pWrc ival) [3]))) }
theorem shr_get {row : List Int} {a : Int} (h1 : 1 ≤ a) (h2 : a ≤ row.length) : ixV (.d (ti row)) (.d (.int (a - 1))) S = .ok (.d (.int (shr row a))) S := by
  have hk : (a - 1).toNat < row.length := by omega
  have := ix_tup (S := S) (getI hk)
  rw [show (((a - 1).toNat : Nat) : Int) = a - 1 by omega] at this
  rw [this]
  unfold shr
  rw [List.getD_eq_getElem?_getD, List.getElem?_eq_getElem hk]
  rfl
theorem s_wrong {i ipar ival : Nat} (h : T i = some (pWrong ipar ival)) (h1 : T ipar = some pParties) (h2 : T ival = some pValue) {p t : Int} {q : Nat} (hp : 0 < p ∧ p ≤ 1000000) (hq : q ≤ 1000) {row f : List Int} (hr : row.length = q) :
    callN T (n + 2) i [.d (setD p q t), .d (ti row), .d (ti f)] S = .ok (.d (ti (wrongV p q row f))) S := by
  have e0 := s_parties (n := n) (S := S.call) h1 (p := p) (t := t) hq
  rw [call_eq h rfl]
  simp only [pWrong, S_ret, E_b1]
  rw [lc_ty (enc := D.int) (l := ptI q) (c := fun a => decide (shr row a ≠ pe a f % p)) (g := D.int) (v := fun a => .d (.int a)) (at_ := none) ?hw rfl ?hl (fun a ha => ⟨rfl, ?hc, fun _ => ⟨rfl, rfl⟩⟩)]
  · simp [wrongV]
  case hw => simp [varV, e0]
  case hl => rw [pt_len]; omega
  case hc =>
    obtain ⟨a1, a2⟩ := pt_mem.mp ha
    have e1 := shr_get (S := S.call) (row := row) a1 (by omega)
    have e2 := s_value (n := n) (S := S.call) h2 (x := a) hp f
    simp [Env.put, wipeE, pWrc, varV, set_ix1, e1, e2]
theorem wrong_len {p : Int} {q : Nat} {row f : List Int} : (wrongV p q row f).length ≤ q := by
  unfold wrongV
  exact Nat.le_trans (List.length_filter_le _ _) (Nat.le_of_eq pt_len)
/-! readings -/
def pRdc : DE := (.ix (.var 1) (.bin .sub (.var 6) (.con (.int 1))))
def pRdb (ithr iwr : Nat) : DS := (.seq (.set 5 false (.call ithr (.cons (.ix (.var 0) (.con (.int 1))) (.cons (.var 4) (.cons (.b1 .tuple (.lc pRdc (.one 6) (.wk .seq (.var 4) .nil) (.con (.bl true)) [6])) .nil)))))
    (.ife (.and (.cmp .notIn (.var 5) (.var 3)) (.cmp .le (.b1 .len (.call iwr (.cons (.var 0) (.cons (.var 1) (.cons (.var 5) .nil))))) (.var 2)))
    (.expr (.m1 .append (.var 3) (.var 5)))
    .skip))
def pReadings (ise ipar ithr iwr : Nat) : FD := { np := 3, ns := 7, body := (.seq (.set 3 true (.lst .nil))
    (.seq (.for_ (.one 4) (.wk .seq (.call ise (.cons (.call ipar (.cons (.var 0) .nil)) (.cons (.bin .add (.ix (.var 0) (.con (.int 3))) (.con (.int 1))) .nil))) .nil)
    (pRdb ithr iwr))
    (.ret (.b1 .tuple (.b1 .sorted (.var 3)))))) }
theorem okT_of {k : Nat} (hk : 1 ≤ k) {l : List (List Int)} (hl : l.length < 64) (h : ∀ f ∈ l, f.length = k ∧ ∀ c ∈ f, 0 ≤ c ∧ c < 1048576) : okT k l = true := by
  unfold okT
  rw [decide_eq_true hk, decide_eq_true hl]
  simp only [Bool.true_and]
  rw [List.all_eq_true]
  intro f hf
  obtain ⟨h1, h2⟩ := h f hf
  rw [decide_eq_true h1]
  unfold bdB
  simp only [Bool.true_and]
  rw [List.all_eq_true]
  intro c hc
  have := h2 c hc
  rw [decide_eq_true this.1, decide_eq_true this.2]
  rfl
theorem tups_tis : ∀ l : List (List Int), tupsI (l.map ti) = some l
  | [] => rfl
  | f :: l => by
    rw [List.map_cons, tupsI]
    show (match intsD (f.map D.int) with
      | some n => (tupsI (l.map ti)).map (n :: ·)
      | none => none) = _
    rw [intsD_map, tups_tis l]
    rfl
theorem sorted_tis {k : Nat} (hk : 1 ≤ k) {l : List (List Int)} (hl : l.length < 64) (h : ∀ f ∈ l, f.length = k ∧ ∀ c ∈ f, 0 ≤ c ∧ c < 1048576) : sortedD (l.map ti) = some (.new (.lst ((sortT l).map ti))) := by
  cases l with
  | nil => rfl
  | cons f l =>
    have e1 : intsD ((f :: l).map ti) = none := rfl
    unfold sortedD
    rw [e1, tups_tis]
    dsimp only
    rw [(h f List.mem_cons_self).1, if_pos (okT_of hk hl h)]
    rfl
theorem sorted_loc {u j k : Nat} {z : Bool} {l : List (List Int)} (hg : S.get u j = some ⟨z, .lst (l.map ti)⟩) (hk : 1 ≤ k) (hl : l.length < 64) (h : ∀ f ∈ l, f.length = k ∧ ∀ c ∈ f, 0 ≤ c ∧ c < 1048576) : b1V .sorted (.loc u j) S = .ok (.new (.lst ((sortT l).map ti))) S := by
  unfold b1V
  rw [view_loc hg]
  show lift1 (sortedD (l.map ti)) S = _
  rw [sorted_tis hk hl h]
  rfl
theorem sorted_new {k : Nat} {l : List (List Int)} (hk : 1 ≤ k) (hl : l.length < 64) (h : ∀ f ∈ l, f.length = k ∧ ∀ c ∈ f, 0 ≤ c ∧ c < 1048576) : b1V .sorted (.new (.lst (l.map ti))) S = .ok (.new (.lst ((sortT l).map ti))) S := by
  show lift1 (sortedD (l.map ti)) S = _
  rw [sorted_tis hk hl h]
  rfl
section
variable {ipw iinv ival iadd isc iwr0 irt iba ithr iwr ise ipar : Nat}
theorem rd_bound {p : Int} (hp : Pr p) {q m e : Nat} (hq : (q : Int) < p) (hme : m + e ≤ q) {row : List Int} (hr : InR p row) : ∀ f ∈ rdV p q m e row, f.length = m ∧ ∀ c ∈ f, 0 ≤ c ∧ c < 1048576 := fun f hf => by
  obtain ⟨h1, h2, _⟩ := (rd_all hp hq hme hr f).mp hf
  refine ⟨h1, fun c hc => ?_⟩
  have := h2 c hc
  have := hp.hi
  omega
theorem b_readings (P : PolyT T ipw iinv ival iadd isc iwr0 irt) (hb : T iba = some (pBases irt isc iinv ival)) (ht : T ithr = some (pThrough iadd isc iba)) (hw : T iwr = some (pWrong ipar ival)) (hpa : T ipar = some pParties)
    {p : Int} (hp : Pr p) {q : Nat} {t : Int} {e : Nat} (hq9 : q ≤ 9) {row : List Int} (hr : InR p row) (hrl : row.length = q) {pts : List Int} (l2 : pts.Sublist (ptI q)) {s : List (List Int)} (hs : s.length < 1000000) {a5 a6 : Option SV} :
    evS (callN T (n + 5)) (pRdb ithr iwr) [some (.d (setD p q t)), some (.d (ti row)), some (.d (.int e)), some (.loc 0 0), some (.d (ti pts)), a5, a6] (bagS S (s.map ti)) = .ok (.next [some (.d (setD p q t)), some (.d (ti row)), some (.d (.int e)), some (.loc 0 0), some (.d (ti pts)), some (.d (ti (polyAt p row pts))), a6]) (bagS S ((rdStep p q e row s pts).map ti)) := by
  have hm : ∀ a ∈ pts, 1 ≤ a ∧ a ≤ q := fun a ha => pt_mem.mp (l2.subset ha)
  have hlen : pts.length ≤ q := by have := l2.length_le; rw [pt_len] at this; exact this
  have hsm : Sm pts := fun a ha => by have := hm a ha; omega
  have hv : InR p (pts.map (shr row)) := fun c hc => by
    obtain ⟨a, _, rfl⟩ := List.mem_map.mp hc
    exact shr_in hp.pos hr a
  have hvs : Sm (pts.map (shr row)) := fun c hc => by have := hv c hc; have := hp.hi; omega
  have ec : ∀ S : St, evE (callN T (n + 5)) (.lc pRdc (.one 6) (.wk .seq (.var 4) .nil) (.con (.bl true)) [6]) [some (.d (setD p q t)), some (.d (ti row)), some (.d (.int e)), some (.loc 0 0), some (.d (ti pts)), a5, a6] S = .ok (.new (.lst ((pts.map (shr row)).map D.int))) S := fun S => by
    rw [List.map_map]
    refine lc_map (enc := D.int) (v := fun a => .d (.int (shr row a))) (at_ := none) ?_ rfl (by omega) fun a ha => ⟨rfl, ?_, rfl⟩
    · simp [varV]
    · obtain ⟨a1, a2⟩ := hm a ha
      have e1 := shr_get (S := S) (row := row) a1 (by omega)
      simp [Env.put, wipeE, pRdc, varV, e1]
  have e3 := s_through (n := n) (S := bagS S (s.map ti)) P hb ht hp.le pts (pts.map (shr row)) hsm hvs (by rw [List.length_map]) (by omega)
  rw [show thrV p pts (pts.map (shr row)) = polyAt p row pts from rfl] at e3
  have e4 := s_wrong (n := n + 3) (S := bagS S (s.map ti)) hw hpa P.val (t := t) hp.le (by omega) (row := row) (f := polyAt p row pts) hrl
  have e5 := notin_tis (S := bagS S (s.map ti)) (u := 0) (k := 0) (x := polyAt p row pts) bag_get
  have ha := bag_app (S0 := S) (xs := s.map ti) (by rw [List.length_map]; omega) (d := ti (polyAt p row pts))
  unfold pRdb
  by_cases hc : polyAt p row pts ∈ s
  · rw [show rdStep p q e row s pts = s from if_neg (fun z => z.1 hc)]
    simp [-E_lc, varV, set_ix1, ec, -List.map_map, e3, e5, hc]
  · by_cases hc2 : (wrongV p q row (polyAt p row pts)).length ≤ e
    · rw [show rdStep p q e row s pts = s ++ [polyAt p row pts] from if_pos ⟨hc, hc2⟩, List.map_append]
      simp [-E_lc, varV, set_ix1, ec, -List.map_map, e3, e5, hc, e4, hc2, bag_recv, ha]
    · rw [show rdStep p q e row s pts = s from if_neg (fun z => hc2 z.2)]
      simp [-E_lc, varV, set_ix1, ec, -List.map_map, e3, e5, hc, e4, hc2]
theorem s_readings {i : Nat} (P : PolyT T ipw iinv ival iadd isc iwr0 irt) (hb : T iba = some (pBases irt isc iinv ival)) (ht : T ithr = some (pThrough iadd isc iba)) (hw : T iwr = some (pWrong ipar ival)) (hs : T ise = some (pSets ise)) (hpa : T ipar = some pParties) (h : T i = some (pReadings ise ipar ithr iwr))
    {p : Int} (hp : Pr p) {q t e : Nat} (hq9 : q ≤ 9) (hq : (q : Int) < p) (hte : t + 1 + e ≤ q) {row : List Int} (hr : InR p row) (hrl : row.length = q) (hcnt : (rdV p q (t + 1) e row).length < 64) (hpw : (q + 1) ^ (t + 1) ≤ 1000000) :
    callN T (n + t + 7) i [.d (setD p q t), .d (ti row), .d (.int e)] S = .ok (.d (.tup ((sortT (rdV p q (t + 1) e row)).map ti))) S := by
  have e1 := s_parties (n := n + t + 5) (S := bagS S []) hpa (p := p) (q := q) (t := t) (by omega)
  have e2 := s_sets hs (t + 1) (n + 4) (ptI q) (bagS S []) (by rw [pt_len]; omega) (by omega) (by rw [pt_len]; exact hpw)
  rw [show n + 4 + (t + 1) + 1 = n + t + 6 by omega] at e2
  have hsl : (setsV (t + 1) (ptI q)).length ≤ 1000000 := Nat.le_trans (sets_len _ _) (by rw [pt_len]; exact hpw)
  have el := forL_fold (enc := ti) (chk := (⟨(setsV (t + 1) (ptI q)).map ti, none⟩ : Walk).chk) (put := putT (.one 4)) (body := evS (callN T (n + t + 6)) (pRdb ithr iwr)) (n0 := 1)
    (ρ0 := [some (.d (setD p q t)), some (.d (ti row)), some (.d (.int e)), some (.loc 0 0), none, none, none])
    (fun _ => [some (.d (setD p q t)), some (.d (ti row)), some (.d (.int e)), some (.loc 0 0), none, none, none]) (fun s => bagS S (s.map ti)) (rdStep p q e row)
    (fun l s => (∀ pts ∈ l, pts.Sublist (ptI q)) ∧ s.length + l.length ≤ 1000000)
    (fun pts l s hi => by
      obtain ⟨hi1, hi2⟩ := hi
      rw [List.length_cons] at hi2
      refine ⟨rfl, _, _, _, rfl, b_readings (n := n + t + 1) P hb ht hw hpa hp hq9 hr hrl (hi1 pts List.mem_cons_self) (by omega), rfl, ownFree_take rfl, fun z hz => hi1 z (List.mem_cons_of_mem _ hz), ?_⟩
      unfold rdStep
      split
      · rw [List.length_append]; simp; omega
      · omega)
    (fun s _ => rfl) (setsV (t + 1) (ptI q)) [] ⟨fun pts hpts => (sets_in _ _ _ hpts).2, by simp; omega⟩
  have ef := el.1
  change forL _ _ _ _ _ _ _ (bagS S []) = .ok (.next _) (bagS S ((rdV p q (t + 1) e row).map ti)) at ef
  have eo := sorted_loc (S := bagS S ((rdV p q (t + 1) e row).map ti)) (u := 0) (j := 0) rfl (k := t + 1) (by omega) hcnt (rd_bound hp hq hte hr)
  have hb0 : (⟨[⟨false, .lst []⟩], S.own :: S.out, S.gl⟩ : St) = bagS S [] := rfl
  have ol : (bagS S []).own.length = 1 := rfl
  rw [call_eq h rfl]
  simp [pReadings, varV, St.call, sz, hb0, e1, set_ix3, ol]
  rw [show ((t : Int) + 1) = ((t + 1 : Nat) : Int) from rfl, e2]
  simp [ol, ef, varV, eo]
  rfl
def pMost : FD := { np := 1, ns := 1, body := (.ret (.bin .fdiv (.bin .sub (.bin .sub (.ix (.var 0) (.con (.int 2))) (.ix (.var 0) (.con (.int 3)))) (.con (.int 1))) (.con (.int 2)))) }
theorem s_most {i : Nat} (h : T i = some pMost) {p q t : Int} : callN T (n + 1) i [.d (setD p q t)] S = .ok (.d (.int ((q - t - 1) / 2))) S := by
  rw [call_eq h rfl]
  simp [pMost, varV, set_ix2, set_ix3, bop_div (j := 2)]
def pRead (ird imo : Nat) : FD := { np := 2, ns := 3, body := (.seq (.set 2 false (.call ird (.cons (.var 0) (.cons (.var 1) (.cons (.call imo (.cons (.var 0) .nil)) .nil)))))
    (.seq (.ife (.cmp .eq (.var 2) (.tup .nil))
    (.ret (.con .non))
    .skip)
    (.ret (.ix (.ix (.var 2) (.con (.int 0))) (.con (.int 0)))))) }
def headD (l : List (List Int)) : D := match l with
  | [] => .non
  | f :: _ => .int (f.getD 0 0)
theorem plain_tups (l : List (List Int)) : plainB 20 (.tup (l.map ti)) = true := plain_tis 18 l
theorem eqOk_tups (a b : List (List Int)) : eqOk (.tup (a.map ti)) (.tup (b.map ti)) = true := by
  show ((scalarB (.tup (a.map ti)) && scalarB (.tup (b.map ti))) || (plainB 20 (.tup (a.map ti)) && plainB 20 (.tup (b.map ti)))) = true
  rw [plain_tups, plain_tups]
  rfl
theorem inj_tis : ∀ {a b : List (List Int)}, a.map ti = b.map ti → a = b
  | [], [], _ => rfl
  | [], _ :: _, h => by cases h
  | _ :: _, [], h => by cases h
  | x :: a, y :: b, h => by
    rw [List.map_cons, List.map_cons, List.cons.injEq] at h
    rw [inj_ti h.1, inj_tis h.2]
theorem beq_tups (a b : List (List Int)) : D.beq (.tup (a.map ti)) (.tup (b.map ti)) = decide (a = b) := by
  by_cases h : a = b
  · rw [h, beq_self, decide_eq_true rfl]
  · rw [decide_eq_false h]
    cases e : D.beq (.tup (a.map ti)) (.tup (b.map ti)) with
    | false => rfl
    | true =>
      have := (D.beq_iff _ _).mp e
      injection this with this
      exact absurd (inj_tis this) h
theorem eq_tups (a b : List (List Int)) : cmpV .eq (.d (.tup (a.map ti))) (.d (.tup (b.map ti))) S = .ok (.d (.bl (decide (a = b)))) S := by
  show (match (if eqOk (.tup (a.map ti)) (.tup (b.map ti)) = true then some (D.beq (.tup (a.map ti)) (.tup (b.map ti))) else none) with
    | some b => (.ok (.d (.bl b)) S : Res RV)
    | none => .bad) = _
  rw [if_pos (eqOk_tups a b), beq_tups]
theorem s_read {i ird imo : Nat} (h : T i = some (pRead ird imo)) (hm : T imo = some pMost) {N : Nat} {p q t : Int} {row : List Int} {l : List (List Int)} (hl : ∀ f ∈ l, f ≠ [])
    (hr : ∀ S : St, callN T (N + 1) ird [.d (setD p q t), .d (ti row), .d (.int ((q - t - 1) / 2))] S = .ok (.d (.tup (l.map ti))) S) :
    callN T (N + 2) i [.d (setD p q t), .d (ti row)] S = .ok (.d (headD l)) S := by
  have e1 := s_most (n := N) (S := S.call) hm (p := p) (q := q) (t := t)
  have e2 := hr S.call
  have e3 := eq_tups (S := S.call) l []
  rw [List.map_nil] at e3
  rw [call_eq h rfl]
  cases l with
  | nil =>
    simp at e2 e3
    simp [pRead, varV, e1, e2, sz, e3, headD]
  | cons f l =>
    have hf := hl f List.mem_cons_self
    cases f with
    | nil => exact absurd rfl hf
    | cons c f =>
      simp at e2 e3
      have e4 : ixV (.d (.tup (ti (c :: f) :: l.map ti))) (.d (.int 0)) S.call = .ok (.d (ti (c :: f))) S.call := ix_tup (k := 0) rfl
      have e5 : ixV (.d (ti (c :: f))) (.d (.int 0)) S.call = .ok (.d (.int c)) S.call := ix_tup (k := 0) rfl
      simp [pRead, varV, e1, e2, sz, e3, e4, e5, headD]
end
end U

/-! URows: all rows of so many numbers. -/
namespace U
open PySem
variable {T : Nat → Option FD} {n : Nat} {S : St}
def snocs (p : Nat) (r : List Int) : List (List Int) := (List.range p).map fun (c : Nat) => r ++ [(c : Int)]
def lrV (p : Nat) : Nat → List (List Int)
  | 0 => [[]]
  | m + 1 => (lrV p m).flatMap (snocs p)
theorem lr_len (p : Nat) : ∀ m, (lrV p m).length = p ^ m
  | 0 => rfl
  | m + 1 => by
    rw [lrV, List.length_flatMap]
    have : ∀ l : List (List Int), (l.map fun r => (snocs p r).length).sum = l.length * p := by
      intro l
      induction l with
      | nil => simp
      | cons a l ih =>
        rw [List.map_cons, List.sum_cons, ih, List.length_cons, Nat.add_mul]
        unfold snocs
        rw [List.length_map, List.length_range]
        omega
    rw [this, lr_len p m, Nat.pow_succ]
theorem lr_mem {p : Nat} : ∀ {m : Nat} {f : List Int}, f ∈ lrV p m ↔ f.length = m ∧ InR p f
  | 0, f => by
    rw [lrV, List.mem_singleton]
    constructor
    · rintro rfl; exact ⟨rfl, fun c hc => by cases hc⟩
    · rintro ⟨h, _⟩; exact List.length_eq_zero_iff.mp h
  | m + 1, f => by
    rw [lrV, List.mem_flatMap]
    constructor
    · rintro ⟨r, hr, h⟩
      obtain ⟨h1, h2⟩ := lr_mem.mp hr
      obtain ⟨c, hc, rfl⟩ := List.mem_map.mp h
      rw [List.mem_range] at hc
      refine ⟨by rw [List.length_append, h1]; rfl, fun x hx => ?_⟩
      rcases List.mem_append.mp hx with hx | hx
      · exact h2 x hx
      · rw [List.mem_singleton.mp hx]
        omega
    · rintro ⟨h1, h2⟩
      have hne : f ≠ [] := by intro z; subst z; simp at h1
      have e : f.dropLast ++ [f.getLast hne] = f := List.dropLast_concat_getLast hne
      refine ⟨f.dropLast, lr_mem.mpr ⟨by rw [List.length_dropLast, h1]; rfl, fun x hx => h2 x ((List.dropLast_sublist _).subset hx)⟩, ?_⟩
      have r := h2 _ (List.getLast_mem hne)
      refine List.mem_map.mpr ⟨(f.getLast hne).toNat, List.mem_range.mpr (by omega), ?_⟩
      rw [show (((f.getLast hne).toNat : Nat) : Int) = f.getLast hne by omega]
      exact e
theorem lr_nd (p : Nat) : ∀ m, (lrV p m).Nodup
  | 0 => by rw [lrV]; simp
  | m + 1 => by
    rw [lrV]
    unfold List.Nodup
    rw [List.pairwise_flatMap]
    refine ⟨fun r _ => ?_, (lr_nd p m).imp fun {a b} hab => ?_⟩
    · unfold snocs
      refine List.Pairwise.map _ (fun x y h z => ?_) List.nodup_range
      have := List.append_cancel_left z
      simp at this
      omega
    · intro f h1 g h2 h
      subst h
      obtain ⟨c, _, rfl⟩ := List.mem_map.mp h1
      obtain ⟨d, _, h⟩ := List.mem_map.mp h2
      exact hab (List.append_inj_left' h.symm rfl)
/-! what the law computes -/
def hRo1 : DE := (.bin .add (.var 5) (.tup (.cons (.var 6) .nil)))
def hRo2 : DS := (.set 4 false (.bin .add (.var 4) (.lc hRo1 (.one 6) (.wk .rng1 (.var 0) .nil) (.con (.bl true)) [6])))
def hRo3 : DS := (.seq (.set 4 false (.lst .nil))
    (.seq (.for_ (.one 5) (.wk .seq (.var 2) .nil)
    hRo2)
    (.set 2 false (.var 4))))
def hRowsOf : FD := { np := 2, ns := 7, body := (.seq (.set 2 false (.lst (.cons (.tup .nil) .nil)))
    (.seq (.for_ (.one 3) (.wk .rng1 (.var 1) .nil)
    hRo3)
    (.ret (.var 2)))) }
theorem fold_flat {α β : Type} (f : α → List β) : ∀ (l : List α) (s : List β), l.foldl (fun s r => s ++ f r) s = s ++ l.flatMap f
  | [], s => by simp
  | a :: l, s => by rw [List.foldl_cons, fold_flat f l, List.flatMap_cons, List.append_assoc]
theorem flat_len {α β : Type} {f : α → List β} {b : Nat} : ∀ {l : List α}, (∀ a ∈ l, (f a).length ≤ b) → (l.flatMap f).length ≤ l.length * b
  | [], _ => by simp
  | a :: l, h => by
    rw [List.flatMap_cons, List.length_append, List.length_cons, Nat.add_mul]
    have h1 := h a List.mem_cons_self
    have h2 := flat_len fun x hx => h x (List.mem_cons_of_mem _ hx)
    omega
theorem b_rows {C : Nat → List SV → M RV} {p : Nat} (hp : p ≤ 100000) {a1 a3 a4 : SV} {rows : List (List Int)} (hr : rows.length * p ≤ 1000000) (hl : ∀ r ∈ rows, r.length ≤ 1000) :
    evS C hRo3 [some (.d (.int p)), some a1, some (.d (.lst (rows.map ti))), some a3, none, none, none] S.call = .ok (.next [some (.d (.int p)), some a1, some (.d (.lst ((rows.flatMap (snocs p)).map ti))), some a3, some (.d (.lst ((rows.flatMap (snocs p)).map ti))), none, none]) S.call := by
  have el := forL_fold (enc := ti) (chk := (⟨rows.map ti, none⟩ : Walk).chk) (put := putT (.one 5)) (body := evS C hRo2) (n0 := 0)
    (ρ0 := [some (.d (.int p)), some a1, some (.d (.lst (rows.map ti))), some a3, some (.d (.lst [])), none, none])
    (fun s => [some (.d (.int p)), some a1, some (.d (.lst (rows.map ti))), some a3, some (.d (.lst (s.map ti))), none, none]) (fun _ => S.call) (fun s r => s ++ snocs p r)
    (fun l s => (∀ r ∈ l, r.length ≤ 1000) ∧ s.length + l.length * p ≤ 1000000)
    (fun r l s hi => by
      obtain ⟨hi1, hi2⟩ := hi
      rw [List.length_cons, Nat.add_mul] at hi2
      have hrl := hi1 r List.mem_cons_self
      have hsn : (snocs p r).length = p := by unfold snocs; rw [List.length_map, List.length_range]
      have ec : evE C (.lc hRo1 (.one 6) (.wk .rng1 (.var 0) .nil) (.con (.bl true)) [6]) [some (.d (.int p)), some a1, some (.d (.lst (rows.map ti))), some a3, some (.d (.lst (s.map ti))), some (.d (ti r)), none] S.call = .ok (.new (.lst ((snocs p r).map ti))) S.call := by
        unfold snocs
        rw [List.map_map]
        refine lc_map (enc := fun (k : Nat) => D.int (k : Int)) (v := fun (c : Nat) => .d (ti (r ++ [(c : Int)]))) (at_ := none) ?_ rfl (by rw [List.length_range]; omega) fun c hc => ⟨rfl, ?_, rfl⟩
        · rw [← rng0]
          simp [varV, rng1_int (j := (p : Int)) (by omega) (by omega)]
        · have e2 : binV .add (.d (.tup (r.map D.int))) (.d (.tup [.int c])) S.call = .ok (.d (ti (r ++ [(c : Int)]))) S.call := by
            rw [bin_tup (by simp; omega), ti, List.map_append]
            rfl
          have z1 : sz 1 = true := rfl
          simp [Env.put, wipeE, hRo1, varV, z1, e2]
      have e3 := bin_lst (S := S.call) (s := s.map ti) (t := (snocs p r).map ti) (by rw [List.length_map, List.length_map, hsn]; omega) (x := .d (.lst (s.map ti))) (y := .new (.lst ((snocs p r).map ti))) rfl rfl
      rw [← List.map_append] at e3
      refine ⟨rfl, _, [some (.d (.int p)), some a1, some (.d (.lst (rows.map ti))), some a3, some (.d (.lst ((s ++ snocs p r).map ti))), some (.d (ti r)), none], S.call, rfl, ?_, rfl, ownFree_take rfl, fun z hz => hi1 z (List.mem_cons_of_mem _ hz), by rw [List.length_append, hsn]; omega⟩
      simp [-E_lc, -List.map_append, Env.put, hRo2, varV, ec, e3])
    (fun s _ => rfl) rows [] ⟨hl, by simpa using hr⟩
  have e1 := el.1
  rw [fold_flat, List.nil_append] at e1
  have z0 : sz 0 = true := rfl
  have ol : S.call.own.length = 0 := rfl
  rw [List.map_nil] at e1
  unfold hRo3
  simp only [S_seq, S_set, E_lst, K_nil, go_ok, List.length_nil, z0, if_true, set_newf, dat_lst, List.set_cons_succ, List.set_cons_zero, fg_next, S_for, W_seq, E_var, varV, List.getElem?_cons_succ, List.getElem?_cons_zero, rv_d, seq_lst, ol]
  rw [e1]
  simp [varV]
theorem l_rows {C : Nat → List SV → M RV} {p : Nat} (hp : p ≤ 100000) (hp1 : 1 ≤ p) {a1 a2 : SV} {m : Nat} (hm : m ≤ 1000) (hr : p ^ m ≤ 1000000) : ∀ (xs : List D) (j : Nat), j + xs.length = m →
    forL (fun _ => true) (putT (.one 3)) (evS C hRo3) [some (.d (.int p)), some a1, some a2, none, none, none, none] 0 xs [some (.d (.int p)), some a1, some (.d (.lst ((lrV p j).map ti))), none, none, none, none] S.call =
      .ok (.next [some (.d (.int p)), some a1, some (.d (.lst ((lrV p m).map ti))), none, none, none, none]) S.call
  | [], j, h => by
    rw [forL_end rfl, show j = m by simpa using h]
  | x :: xs, j, h => by
    rw [List.length_cons] at h
    have hb : (lrV p j).length * p ≤ 1000000 := by
      rw [lr_len, ← Nat.pow_succ]
      exact Nat.le_trans (Nat.pow_le_pow_right hp1 (by omega)) hr
    have e := b_rows (S := S) (C := C) hp (a1 := a1) (a3 := .d x) (a4 := .d x) hb (fun r hr => by have := (lr_mem.mp hr).1; omega)
    rw [forL_next rfl rfl e]
    simp only [mask_some, mask_none, mask_nil]
    rw [ownFree_take (n := 0) rfl]
    exact l_rows hp hp1 hm hr xs (j + 1) (by omega)
theorem s_rowsof {i : Nat} (h : T i = some hRowsOf) {p m : Nat} (hp : p ≤ 100000) (hp1 : 1 ≤ p) (hm : m ≤ 1000) (hr : p ^ m ≤ 1000000) : callN T (n + 1) i [.d (.int p), .d (.int m)] S = .ok (.d (.lst ((lrV p m).map ti))) S := by
  have e := l_rows (S := S) (C := callN T n) hp hp1 (a1 := .d (.int m)) (a2 := .d (.lst [.tup []])) hm hr (rngUp 0 m) 0 (by rw [rng_len]; omega)
  have e' : forL (⟨rngUp 0 m, none⟩ : Walk).chk (putT (.one 3)) (evS (callN T n) hRo3) [some (.d (.int p)), some (.d (.int m)), some (.d (.lst [.tup []])), none, none, none, none] 0 (rngUp 0 m) [some (.d (.int p)), some (.d (.int m)), some (.d (.lst [.tup []])), none, none, none, none] S.call = _ := e
  rw [call_eq h rfl]
  simp [hRowsOf, varV, sz, rng1_int (j := (m : Int)) (by omega) (by omega), e']
end U

/-! ULwr: the law's readings; the veil's values. -/
namespace U
open PySem
def lwr (p : Int) (q : Nat) (row f : List Int) : List Nat := (List.range q).filter fun k => decide (pe ((k : Int) + 1) f % p ≠ row.getD k 0)
theorem pt_map (q : Nat) : ptI q = (List.range q).map fun k => ((k : Nat) : Int) + 1 := by
  unfold ptI
  rw [List.range'_eq_map_range, List.map_map]
  apply List.map_congr_left
  intro k _
  show ((1 + k : Nat) : Int) = (k : Int) + 1
  omega
theorem wr_lw (p : Int) (q : Nat) (row f : List Int) : wrongV p q row f = (lwr p q row f).map fun k => ((k : Nat) : Int) + 1 := by
  unfold wrongV lwr
  rw [pt_map, List.filter_map]
  congr 1
  apply List.filter_congr
  intro k _
  unfold shr
  show decide (row.getD ((k : Int) + 1 - 1).toNat 0 ≠ _) = _
  rw [show ((k : Int) + 1 - 1).toNat = k by omega]
  simp only [ne_eq, decide_not]
  congr 1
  exact decide_eq_decide.mpr ⟨Eq.symm, Eq.symm⟩
theorem lw_len {p : Int} {q : Nat} {row f : List Int} : (lwr p q row f).length = (wrongV p q row f).length := by rw [wr_lw, List.length_map]
/-- the law's readings -/
def lrd (p q m e : Nat) (row : List Int) : List (List Int) := (lrV p m).filter fun f => decide ((lwr p q row f).length ≤ e)
theorem lrd_nd {p q m e : Nat} {row : List Int} : (lrd p q m e row).Nodup := List.Pairwise.filter _ (lr_nd p m)
theorem lrd_mem {p q m e : Nat} (hp : Pr p) (hq : (q : Int) < p) (hme : m + e ≤ q) {row : List Int} (hr : InR p row) (f : List Int) : f ∈ rdV p q m e row ↔ f ∈ lrd p q m e row := by
  rw [rd_all hp hq hme hr]
  unfold lrd
  rw [List.mem_filter, lr_mem, lw_len]
  simp [and_assoc]
theorem lrd_perm {p q m e : Nat} (hp : Pr p) (hq : (q : Int) < p) (hme : m + e ≤ q) {row : List Int} (hr : InR p row) : (rdV p q m e row).Perm (lrd p q m e row) :=
  (List.perm_ext_iff_of_nodup rd_nd lrd_nd).mpr fun f => lrd_mem hp hq hme hr f
theorem lrd_sort {p q m e : Nat} (hp : Pr p) (hq : (q : Int) < p) (hme : m + e ≤ q) {row : List Int} (hr : InR p row) : sortT (rdV p q m e row) = sortT (lrd p q m e row) :=
  sort_same rd_nd lrd_nd (rd_bound hp hq hme hr) fun f => lrd_mem hp hq hme hr f
/-- at most one -/
theorem lrd_one {p q m e : Nat} (hp : Pr p) (hq : (q : Int) < p) (hme : m + 2 * e ≤ q) {row : List Int} (hr : InR p row) : lrd p q m e row = [] ∨ ∃ f, f.length = m ∧ lrd p q m e row = [f] := by
  generalize hl : lrd p q m e row = l
  have nd := lrd_nd (p := p) (q := q) (m := m) (e := e) (row := row)
  have hm := fun f => lrd_mem (e := e) hp hq (m := m) (by omega) hr f
  rw [hl] at nd
  simp only [hl] at hm
  cases l with
  | nil => exact .inl rfl
  | cons f l =>
    cases l with
    | nil => exact .inr ⟨f, ((rd_all hp hq (by omega) hr f).mp ((hm f).mpr (by simp))).1, rfl⟩
    | cons g l =>
      exfalso
      obtain ⟨a1, a2, a3⟩ := (rd_all hp hq (by omega) hr f).mp ((hm f).mpr (by simp))
      obtain ⟨b1, b2, b3⟩ := (rd_all hp hq (by omega) hr g).mp ((hm g).mpr (by simp))
      have := near_one hp.fld hq (by omega) a2 b2 a3 b3 (by omega)
      subst this
      simp at nd
/-! the veil -/
theorem veil_len {p : Int} {pts : List Int} : (veilV p pts).length = pts.length + 1 := by
  unfold veilV
  rw [scaled_len, rt_len]
theorem head_pe : ∀ (f : List Int) (h : 0 < f.length), f[0] = pe 0 f
  | c :: cs, _ => by simp [pe]
theorem veil_zero {p : Int} (h : Pr p) {pts : List Int} (hr : InR p pts) (hn : ∀ a ∈ pts, a ≠ 0) : (veilV p pts)[0]? = some 1 := by
  have h0 : 0 < (rtV p pts).length := by rw [rt_len]; omega
  have hin := rt_in h.pos (pts := pts) _ (List.getElem_mem h0)
  have hc : cg p (rtV p pts)[0] (prd 0 pts) := by
    exact (cg.of_eq (head_pe _ h0)).trans (rt_pe p 0 pts)
  have nz : ¬ cg p (prd 0 pts) 0 := prd_nz h.fld fun a ha z => by
    have r := hr a ha
    have := z.eq (by omega) h.pos r.1 r.2
    exact hn a ha this.symm
  have hne : (rtV p pts)[0] ≠ 0 := fun z => nz (by rw [z] at hc; exact hc.symm)
  have hi := h.inv hin.1 hin.2 hne
  have hg : (rtV p pts).getD 0 0 = (rtV p pts)[0] := by simp [h0]
  unfold veilV scaledV red pSc
  rw [hg, List.getElem?_map, List.getElem?_map, List.getElem?_eq_getElem h0]
  show some (U.inv p (rtV p pts)[0] * (rtV p pts)[0] % p) = some 1
  rw [Int.mul_comm]
  congr 1
  unfold cg at hi
  rw [hi, Int.emod_eq_of_lt (by omega) (by have := h.lo; omega)]
theorem veil_root {p : Int} {pts : List Int} {a : Int} (ha : a ∈ pts) : pe a (veilV p pts) % p = 0 := by
  have h1 : cg p (pe a (veilV p pts)) 0 := by
    unfold veilV
    refine (scaled_pe p _ a _).trans ((cg.refl.mul ((rt_pe p a pts).trans (prd_zero ha .refl))).trans (cg.of_eq ?_))
    rw [Int.mul_zero]
  unfold cg at h1
  rw [h1, Int.zero_emod]
end U

/-! UShr: shares, settings by draws. -/
namespace U
open PySem
variable {T : Nat → Option FD} {n : Nat} {S : St} {u j : Nat} {ds : List Int} {k : Nat}
def sharesV (p : Int) (q : Nat) (f : List Int) : List Int := (ptI q).map fun a => pe a f % p
theorem shares_len {p : Int} {q : Nat} {f : List Int} : (sharesV p q f).length = q := by unfold sharesV; rw [List.length_map, pt_len]
theorem shares_in {p : Int} (hp : 0 < p) {q : Nat} {f : List Int} : InR p (sharesV p q f) := fun c hc => by
  obtain ⟨a, _, rfl⟩ := List.mem_map.mp hc
  exact ⟨mod_nn hp, mod_lt hp⟩
theorem pt_get {q i : Nat} (h : i < (ptI q).length) : (ptI q)[i] = (i : Int) + 1 := by
  simp only [pt_map, List.getElem_map, List.getElem_range]
theorem shares_get {p : Int} {q i : Nat} {f : List Int} (h : i < q) : (sharesV p q f)[i]? = some (pe ((i : Int) + 1) f % p) := by
  unfold sharesV
  rw [List.getElem?_map, List.getElem?_eq_getElem (by rw [pt_len]; exact h), pt_get]
  rfl
def pShc (ival : Nat) : DE := (.call ival (.cons (.ix (.var 0) (.con (.int 1))) (.cons (.var 1) (.cons (.var 2) .nil))))
def pSharesOf (ival ipar : Nat) : FD := { np := 2, ns := 3, body := (.ret (.b1 .tuple (.lc (pShc ival) (.one 2) (.wk .seq (.call ipar (.cons (.var 0) .nil)) .nil) (.con (.bl true)) [2]))) }
theorem s_sharesof {i ival ipar : Nat} (h : T i = some (pSharesOf ival ipar)) (h1 : T ival = some pValue) (h2 : T ipar = some pParties) {p t : Int} {q : Nat} (hp : 0 < p ∧ p ≤ 1000000) (hq : q ≤ 1000) (f : List Int) : callN T (n + 2) i [.d (setD p q t), .d (ti f)] S = .ok (.d (ti (sharesV p q f))) S := by
  have e0 := s_parties (n := n) (S := S.call) h2 (p := p) (t := t) hq
  rw [call_eq h rfl]
  simp only [pSharesOf, S_ret, E_b1]
  rw [lc_map (enc := D.int) (l := ptI q) (g := fun a => .int (pe a f % p)) (v := fun a => .d (.int (pe a f % p))) (at_ := none) ?hw rfl ?hl (fun a ha => ⟨rfl, ?hc, rfl⟩)]
  · simp [sharesV]
  case hw => simp [varV, e0]
  case hl => rw [pt_len]; omega
  case hc =>
    have e2 := s_value (n := n) (S := S.call) h1 (x := a) hp f
    simp [Env.put, wipeE, pShc, varV, set_ix1, e2]
/-! settings -/
structure SetOk (p q t : Nat) : Prop where
  pr : Pr p
  hp : p ≤ 10007
  q1 : 1 ≤ q
  q9 : q ≤ 9
  qp : q < p
  tq : 2 * t + 1 ≤ q
def hSetting (ipi idr : Nat) : FD := { np := 1, ns := 3, body := (.seq (.set 1 false (.call ipi (.cons (.var 0) (.cons (.lst (.cons (.con (.int 2)) (.cons (.con (.int 3)) (.cons (.con (.int 5)) (.cons (.con (.int 5)) (.cons (.con (.int 7)) (.cons (.con (.int 7)) (.cons (.con (.int 11)) (.cons (.con (.int 13)) (.cons (.con (.int 101)) (.cons (.con (.int 10007)) .nil))))))))))) .nil))))
    (.seq (.set 2 false (.bin .add (.con (.int 1)) (.call idr (.cons (.var 0) (.cons (.b2 .min (.con (.int 9)) (.bin .sub (.var 1) (.con (.int 1)))) .nil)))))
    (.ret (.tup (.cons (.con (.str (Str.ofString "setting"))) (.cons (.var 1) (.cons (.var 2) (.cons (.call idr (.cons (.var 0) (.cons (.bin .fdiv (.bin .add (.var 2) (.con (.int 1))) (.con (.int 2))) .nil))) .nil)))))))) }
theorem s_setting {i ipi idr : Nat} (h : T i = some (hSetting ipi idr)) (h1 : T ipi = some (hPick idr)) (h2 : T idr = some hDraw) (hb : S.get u j = some (boxO ds k)) :
    ∃ p q t : Nat, SetOk p q t ∧ callN T (n + 3) i [.loc u j] S = .ok (.d (setD p q t)) (S.set u j (boxO ds (k + 3))) := by
  have g0 : S.call.get (u + 1) j = some (boxO ds k) := by rw [call_get]; exact hb
  obtain ⟨x, hx, e1⟩ := s_pick (n := n) h1 h2 g0 [D.int 2, .int 3, .int 5, .int 5, .int 7, .int 7, .int 11, .int 13, .int 101, .int 10007] (by simp)
  obtain ⟨p, rfl, hp, hp2⟩ := primesA (x := x) (by simp at hx ⊢; omega)
  obtain ⟨p, rfl⟩ := Int.eq_ofNat_of_zero_le (show 0 ≤ p by have := hp.lo; omega)
  have plo := hp.lo
  rw [call_set] at e1
  have g1 : (S.set u j (boxO ds (k + 1))).call.get (u + 1) j = some (boxO ds (k + 1)) := by rw [call_get]; exact get_set hb
  generalize hw : (if (p : Int) - 1 < 9 then (p : Int) - 1 else 9) = w
  have w0 : 0 < w ∧ w ≤ 9 ∧ w ≤ p - 1 := by split at hw <;> omega
  have e2 := s_draw (n := n + 1) (m := w) h2 g1 w0.1
  have q0 := drw_nn (ds := ds) (k := k + 1) (m := w) w0.1
  have q1 := drw_lt (ds := ds) (k := k + 1) (m := w) w0.1
  generalize drw ds (k + 1) w = d at e2 q0 q1
  obtain ⟨q, hq⟩ : ∃ q : Nat, 1 + d = (q : Int) := ⟨(1 + d).toNat, by omega⟩
  rw [call_set, set_set] at e2
  have g2 : (S.set u j (boxO ds (k + 2))).call.get (u + 1) j = some (boxO ds (k + 2)) := by rw [call_get]; exact get_set hb
  have e3 := s_draw (n := n + 1) (m := ((q : Int) + 1) / 2) h2 g2 (by omega)
  have t0 := drw_nn (ds := ds) (k := k + 2) (m := ((q : Int) + 1) / 2) (by omega)
  have t1 := drw_lt (ds := ds) (k := k + 2) (m := ((q : Int) + 1) / 2) (by omega)
  generalize drw ds (k + 2) (((q : Int) + 1) / 2) = t at e3 t0 t1
  obtain ⟨t, rfl⟩ := Int.eq_ofNat_of_zero_le t0
  rw [call_set, set_set] at e3
  refine ⟨p, q, t, ⟨hp, by omega, by omega, by omega, by omega, by omega⟩, ?_⟩
  have eb5 : bop .fdiv (.int ((q : Int) + 1)) (.int 2) = some (.d (.int (((q : Int) + 1) / 2))) := bop_div (by omega) (by omega)
  have z10 : sz 10 = true := rfl
  have z4 : sz 4 = true := rfl
  rw [call_eq h rfl]
  simp [hSetting, varV, z10, z4, e1, hw, e2, hq, eb5, e3]
section
variable {r : List LO} {o : List (List LO)} {g : List LO}
theorem x_setting {i ipi idr : Nat} (h : T i = some (hSetting ipi idr)) (h1 : T ipi = some (hPick idr)) (h2 : T idr = some hDraw) :
    ∃ p q t : Nat, SetOk p q t ∧ callN T (n + 3) i [.loc 0 0] (bx ds k r o g) = .ok (.d (setD p q t)) (bx ds (k + 3) r o g) := s_setting h h1 h2 bx_get
end
theorem cut_set {a b c d : D} : cut [a, b, c, d] (some 1) none = [b, c, d] := rfl
theorem cut_set2 {a b c d : D} : cut [a, b, c, d] (some 2) none = [c, d] := rfl
theorem filter_range {a b q : Nat} {c : Nat → Bool} (h : ∀ k, k < q → c k = true → a ≤ k ∧ k < b) : ((List.range q).filter c).length ≤ b - a := by
  have hn : ((List.range q).filter c).Nodup := List.Pairwise.filter _ List.nodup_range
  have hs : (List.range q).filter c ⊆ List.range' a (b - a) := fun k hk => by
    obtain ⟨h1, h2⟩ := List.mem_filter.mp hk
    have := h k (List.mem_range.mp h1) h2
    rw [List.mem_range'_1]
    omega
  have := hn.length_le_of_subset hs
  rwa [List.length_range'] at this
end U

set_option maxHeartbeats 1000000
/-! UTwin: twins. -/
namespace U
open PySem
variable {T : Nat → Option FD} {n : Nat} {S : St}
def twinB (p t : Nat) : List Int := scaledV p 1 (veilV p (ptI t))
def twinR (p q t e : Nat) : List Int := List.replicate (min q (t + e)) 0 ++ (sharesV p q (twinB p t)).drop (min q (t + e))
def pTwins (isc ivl ish : Nat) : FD := { np := 2, ns := 9, body := (.seq (.unp [2, 3, 4] (.sl (.var 0) (.cons (.con (.int 1)) .nil) .nil))
    (.seq (.ife (.cmp .ge (.var 3) (.bin .add (.bin .add (.var 4) (.con (.int 1))) (.bin .mul (.con (.int 2)) (.var 1))))
    (.ret (.con .non))
    .skip)
    (.seq (.set 5 false (.bin .mul (.tup (.cons (.con (.int 0)) .nil)) (.bin .add (.var 4) (.con (.int 1)))))
    (.seq (.set 6 false (.call isc (.cons (.var 2) (.cons (.con (.int 1)) (.cons (.call ivl (.cons (.var 2) (.cons (.trng false (.con (.int 1)) (.bin .add (.var 4) (.con (.int 1)))) .nil))) .nil)))))
    (.seq (.set 7 false (.call ish (.cons (.var 0) (.cons (.var 6) .nil))))
    (.seq (.set 8 false (.bin .add (.bin .mul (.tup (.cons (.con (.int 0)) .nil)) (.b2 .min (.var 3) (.bin .add (.var 4) (.var 1)))) (.sl (.var 7) (.cons (.b2 .min (.var 3) (.bin .add (.var 4) (.var 1))) .nil) .nil)))
    (.ret (.tup (.cons (.var 8) (.cons (.var 5) (.cons (.var 6) .nil))))))))))) }
theorem mul_zeros {k : Nat} (h : k ≤ 1000) : binV .mul (.d (.tup [.int 0])) (.d (.int (k : Int))) S = .ok (.d (ti (List.replicate k 0))) S := by
  rw [mul_tup (by omega) (by omega) (by simp), show ((k : Int)).toNat = k from rfl, rep_one]
section
variable {ipw iinv ival iadd isc iwr irt ivl ish ipar : Nat}
theorem s_twinsA {i : Nat} (h : T i = some (pTwins isc ivl ish)) {p q t e : Nat} (hs : SetOk p q t) (he : e ≤ 9) (hq : t + 1 + 2 * e ≤ q) : callN T (n + 1) i [.d (setD p q t), .d (.int e)] S = .ok (.d .non) S := by
  rw [call_eq h rfl]
  have d1 : decide ((t : Int) + 1 + 2 * (e : Int) ≤ q) = true := decide_eq_true (by omega)
  simp [pTwins, varV, unpV, cut_set, puts, Env.put, mul_l (i := 2) (j := (e : Int)) (by omega) (by omega), d1]
theorem twinB_len {p t : Nat} : (twinB p t).length = t + 1 := by unfold twinB; rw [scaled_len, veil_len, pt_len]
theorem pt_sm {q : Nat} (h : q ≤ 1000) : Sm (ptI q) := fun a ha => by have := pt_mem.mp ha; omega
theorem s_twinsB {i : Nat} (P : PolyT T ipw iinv ival iadd isc iwr irt) (hv : T ivl = some (pVeil irt isc iinv)) (hsh : T ish = some (pSharesOf ival ipar)) (hpa : T ipar = some pParties) (h : T i = some (pTwins isc ivl ish)) {p q t e : Nat} (hs : SetOk p q t) (he : e ≤ 9) (hq : ¬ t + 1 + 2 * e ≤ q) :
    callN T (n + 5) i [.d (setD p q t), .d (.int e)] S = .ok (.d (.tup [ti (twinR p q t e), ti (List.replicate (t + 1) 0), ti (twinB p t)])) S := by
  have e1 := s_veil (n := n) (S := S.call) P hv hs.pr.le (ptI t) (pt_sm (by have := hs.tq; have := hs.q9; omega)) (by rw [pt_len]; have := hs.tq; have := hs.q9; omega)
  have e2 := s_scaled (n := n + 3) (S := S.call) P.sc (c := 1) hs.pr.le (by omega) (veilV p (ptI t)) (by rw [veil_len, pt_len]; have := hs.tq; have := hs.q9; omega)
  have e3 := s_sharesof (n := n + 2) (S := S.call) hsh P.val hpa (p := p) (q := q) (t := t) hs.pr.le (by have := hs.q9; omega) (twinB p t)
  have e4 := mul_zeros (S := S.call) (k := t + 1) (by have := hs.tq; have := hs.q9; omega)
  rw [show ((t + 1 : Nat) : Int) = (t : Int) + 1 from rfl] at e4
  have hm : (if (t : Int) + e < q then (t : Int) + e else q) = ((min q (t + e) : Nat) : Int) := by
    split <;> omega
  have e5 := mul_zeros (S := S.call) (k := min q (t + e)) (by have := hs.q9; omega)
  have e6 := cut_ints (xs := sharesV p q (twinB p t)) (k := min q (t + e)) (by rw [shares_len]; omega)
  have e7 : binV .add (.d (ti (List.replicate (min q (t + e)) 0))) (.d (ti ((sharesV p q (twinB p t)).drop (min q (t + e))))) S.call = .ok (.d (ti (twinR p q t e))) S.call := by
    rw [bin_tup (by rw [List.length_map, List.length_map, List.length_replicate, List.length_drop, shares_len]; have := hs.q9; omega)]
    unfold ti twinR
    rw [List.map_append]
  have et := trng_int (S := S.call) (l := false) (i := 1) (j := (t : Int) + 1) (by omega) (by omega) (by have := hs.tq; have := hs.q9; omega) (by have := hs.tq; have := hs.q9; omega) (by have := hs.tq; have := hs.q9; omega)
  rw [show ((t : Int) + 1 - 1).toNat = t by omega, pt_rng] at et
  have d1 : decide ((t : Int) + 1 + 2 * (e : Int) ≤ q) = false := decide_eq_false (by omega)
  have z1 : sz 1 = true := rfl
  have z3 : sz 3 = true := rfl
  rw [call_eq h rfl]
  unfold twinB at e3 e6 e7 ⊢
  simp [-List.map_replicate, -List.map_drop, pTwins, varV, unpV, cut_set, puts, Env.put, mul_l (i := 2) (j := (e : Int)) (by omega) (by omega), d1, z1, z3, e4, et, e1, e2, e3, hm, e5, e6, e7]
end
/-! the law's look at them -/
def hTf2 : DE := (.not (.chain .le .lt (.con (.int 0)) (.var 9) (.var 2)))
def hTf4 (iat : Nat) : DE := (.cmp .ne (.call iat (.cons (.var 2) (.cons (.var 10) (.cons (.bin .add (.var 11) (.con (.int 1))) .nil)))) (.ix (.var 6) (.var 11)))
def hTf5 (iat : Nat) : DS := (.ife (.cmp .gt (.b1 .len (.lc (.var 11) (.one 11) (.wk .rng1 (.var 3) .nil) (hTf4 iat) [11])) (.var 1))
    (.ret (.con (.bl false)))
    .skip)
def hTwinsFit (itw iat : Nat) : FD := { np := 2, ns := 12, body := (.seq (.unp [2, 3, 4] (.sl (.var 0) (.cons (.con (.int 1)) .nil) .nil))
    (.seq (.set 5 false (.call itw (.cons (.var 0) (.cons (.var 1) .nil))))
    (.seq (.ife (.cmp .ge (.var 3) (.bin .add (.bin .add (.var 4) (.con (.int 1))) (.bin .mul (.con (.int 2)) (.var 1))))
    (.ret (.cmp .isN (.var 5) (.con .non)))
    .skip)
    (.seq (.unp [6, 7, 8] (.var 5))
    (.seq (.ife (.or (.cmp .ne (.b1 .len (.var 6)) (.var 3)) (.or (.cmp .ne (.b1 .len (.var 7)) (.bin .add (.var 4) (.con (.int 1)))) (.or (.cmp .ne (.b1 .len (.var 8)) (.bin .add (.var 4) (.con (.int 1)))) (.cmp .eq (.ix (.var 7) (.con (.int 0))) (.ix (.var 8) (.con (.int 0)))))))
    (.ret (.con (.bl false)))
    .skip)
    (.seq (.ife (.cmp .ne (.lc (.var 9) (.one 9) (.wk .seq (.bin .add (.bin .add (.var 6) (.var 7)) (.var 8)) .nil) hTf2 [9]) (.lst .nil))
    (.ret (.con (.bl false)))
    .skip)
    (.seq (.for_ (.one 10) (.wk .seq (.lst (.cons (.var 7) (.cons (.var 8) .nil))) .nil)
    (hTf5 iat))
    (.ret (.con (.bl true)))))))))) }
theorem twinR_len {p q t e : Nat} : (twinR p q t e).length = q := by
  unfold twinR
  rw [List.length_append, List.length_replicate, List.length_drop, shares_len]
  omega
theorem twinR_get {p q t e k : Nat} (hk : k < q) : (twinR p q t e).getD k 0 = if k < min q (t + e) then 0 else pe ((k : Int) + 1) (twinB p t) % p := by
  unfold twinR
  rw [List.getD_eq_getElem?_getD]
  split
  · rename_i h
    rw [List.getElem?_append_left (by rw [List.length_replicate]; exact h), List.getElem?_replicate, if_pos (by omega)]
    rfl
  · rename_i h
    rw [List.getElem?_append_right (by rw [List.length_replicate]; omega), List.length_replicate, List.getElem?_drop, show min q (t + e) + (k - min q (t + e)) = k by omega, shares_get hk]
    rfl
theorem twin_first {p q t e : Nat} (hq : ¬ t + 1 + 2 * e ≤ q) (hp : 0 < p) : (lwr p q (twinR p q t e) (List.replicate (t + 1) 0)).length ≤ e := by
  refine Nat.le_trans (filter_range (a := min q (t + e)) (b := q) fun k hk hc => ?_) (by omega)
  rw [twinR_get hk, pe_rep] at hc
  split at hc
  · simp at hc
  · omega
theorem twinB_zero {p t k : Nat} (hk : k < t) : pe ((k : Int) + 1) (twinB p t) % p = 0 := by
  have h := scaled_pe p 1 ((k : Int) + 1) (veilV p (ptI t))
  have r := veil_root (p := p) (pts := ptI t) (a := (k : Int) + 1) (pt_mem.mpr (by omega))
  unfold twinB
  unfold cg at h
  rw [h, Int.one_mul, r]
theorem twin_second {p q t e : Nat} (hp : 0 < p) : (lwr p q (twinR p q t e) (twinB p t)).length ≤ e := by
  refine Nat.le_trans (filter_range (a := t) (b := min q (t + e)) fun k hk hc => ?_) (by omega)
  rw [twinR_get hk] at hc
  split at hc
  · rename_i hm
    refine ⟨Classical.byContradiction fun hx => ?_, hm⟩
    rw [twinB_zero (by omega)] at hc
    simp at hc
  · simp at hc
theorem twinB_head {p q t : Nat} (hs : SetOk p q t) : (twinB p t)[0]? = some 1 := by
  have h := veil_zero hs.pr (pts := ptI t) (fun a ha => by have := pt_mem.mp ha; have := hs.qp; have := hs.tq; omega) (fun a ha => by have := pt_mem.mp ha; omega)
  unfold twinB scaledV red pSc
  rw [List.getElem?_map, List.getElem?_map, h]
  have := hs.pr.lo
  show some (1 * 1 % (p : Int)) = some 1
  rw [Int.one_mul, Int.emod_eq_of_lt (by omega) (by omega)]
theorem twin_in {p q t e : Nat} (hs : SetOk p q t) : InR p (twinR p q t e ++ List.replicate (t + 1) 0 ++ twinB p t) := fun c hc => by
  have hp := hs.pr.pos
  rcases List.mem_append.mp hc with hc | hc
  · rcases List.mem_append.mp hc with hc | hc
    · unfold twinR at hc
      rcases List.mem_append.mp hc with hc | hc
      · rw [(List.mem_replicate.mp hc).2]; omega
      · exact shares_in hp c (List.mem_of_mem_drop hc)
    · rw [(List.mem_replicate.mp hc).2]; omega
  · exact red_in hp _ c hc
end U

set_option maxHeartbeats 2000000
namespace U
open PySem
variable {T : Nat → Option FD} {n : Nat} {S : St}
theorem isN_non {x : RV} {d : D} (h : view S (hold x).rv = some d) : cmpV .isN x (.d .non) S = .ok (.d (.bl (isNonB d))) S := by
  unfold cmpV
  rw [h]
  cases d <;> rfl
theorem filter_none {α : Type} {c : α → Bool} {l : List α} (h : ∀ a ∈ l, c a = false) : l.filter c = [] := by
  rw [List.filter_eq_nil_iff]
  intro a ha
  rw [h a ha]
  exact Bool.false_ne_true
theorem ne_tups (a b : List (List Int)) : cmpV .ne (.d (.tup (a.map ti))) (.d (.tup (b.map ti))) S = .ok (.d (.bl (!decide (a = b)))) S := by
  show (match (if eqOk (.tup (a.map ti)) (.tup (b.map ti)) = true then some (!D.beq (.tup (a.map ti)) (.tup (b.map ti))) else none) with
    | some b => (.ok (.d (.bl b)) S : Res RV)
    | none => .bad) = _
  rw [if_pos (eqOk_tups a b), beq_tups]
section
variable {ipw iinv ival iadd isc iwr irt ivl ish ipar itw iat : Nat}
/-- the law's count of differences -/
theorem e_lw {C : Nat → List SV → M RV} {elt cond it : DE} {tg : Tg} {vs : List Nat} {ρ : Env} {p : Int} {q : Nat} {row f : List Int} {r : Nat → Env} (hq : q ≤ 1000)
    (hw : evW C it ρ S = .ok ⟨(List.range q).map fun k => D.int (k : Nat), none⟩ S)
    (h : ∀ k : Nat, k < q → putT tg (.int (k : Int)) (wipeE ρ vs) = some (r k) ∧ evE C cond (r k) S = .ok (.d (.bl (decide (pe ((k : Int) + 1) f % p ≠ row.getD k 0)))) S ∧ evE C elt (r k) S = .ok (.d (.int (k : Int))) S) :
    evE C (.lc elt tg it cond vs) ρ S = .ok (.new (.lst ((lwr p q row f).map fun k => D.int (k : Nat)))) S :=
  lc_ty (enc := fun (k : Nat) => D.int (k : Int)) (l := List.range q) (c := fun (k : Nat) => decide (pe ((k : Int) + 1) f % p ≠ row.getD k 0)) (v := fun (k : Nat) => .d (.int (k : Int))) (r := r) hw rfl (by rw [List.length_range]; omega) fun k hk => ⟨(h k (List.mem_range.mp hk)).1, (h k (List.mem_range.mp hk)).2.1, fun _ => ⟨(h k (List.mem_range.mp hk)).2.2, rfl⟩⟩
theorem rng1_nat {q : Nat} (h : q ≤ 1000000) : rng1V (.d (.int (q : Int))) S = .ok ⟨(List.range q).map fun k => D.int (k : Nat), none⟩ S := by
  rw [rng1_int (by omega) (by omega), ← rng0]; rfl
theorem s_twinsfit {i : Nat} (P : PolyT T ipw iinv ival iadd isc iwr irt) (hv : T ivl = some (pVeil irt isc iinv)) (hsh : T ish = some (pSharesOf ival ipar)) (hpa : T ipar = some pParties) (htw : T itw = some (pTwins isc ivl ish)) (hat : T iat = some hAt) (h : T i = some (hTwinsFit itw iat)) {p q t e : Nat} (hs : SetOk p q t) (he : e ≤ 9) :
    callN T (n + 6) i [.d (setD p q t), .d (.int e)] S = .ok (.d (.bl true)) S := by
  have htq := hs.tq
  have hq9 := hs.q9
  have z0 : sz 0 = true := rfl
  have z2 : sz 2 = true := rfl
  by_cases hq : t + 1 + 2 * e ≤ q
  · have e1 := s_twinsA (n := n + 4) (S := S.call) htw hs he hq
    have d1 : decide ((t : Int) + 1 + 2 * (e : Int) ≤ q) = true := decide_eq_true (by omega)
    have e2 : cmpV .isN (.d .non) (.d .non) S.call = .ok (.d (.bl true)) S.call := isN_non (S := S.call) (x := .d .non) (d := .non) rfl
    rw [call_eq h rfl]
    simp [hTwinsFit, varV, unpV, cut_set, puts, Env.put, mul_l (i := 2) (j := (e : Int)) (by omega) (by omega), d1, e1, e2]
  · have e1 := s_twinsB (n := n) (S := S.call) P hv hsh hpa htw hs he hq
    have d1 : decide ((t : Int) + 1 + 2 * (e : Int) ≤ q) = false := decide_eq_false (by omega)
    have hf := twin_first (p := p) (e := e) hq (by have := hs.pr.lo; omega)
    have hsd := twin_second (p := p) (q := q) (t := t) (e := e) (by have := hs.pr.lo; omega)
    have hl := twinR_len (p := p) (q := q) (t := t) (e := e)
    have hbl := twinB_len (p := p) (t := t)
    have hh := twinB_head hs
    have hin := twin_in (e := e) hs
    generalize twinR p q t e = row at *
    generalize twinB p t = sec at *
    have hfl : (List.replicate (t + 1) (0 : Int)).length = t + 1 := List.length_replicate
    have i7 : ixV (.d (ti (List.replicate (t + 1) 0))) (.d (.int 0)) S.call = .ok (.d (.int 0)) S.call := ix_tup (k := 0) rfl
    have i8 : ixV (.d (ti sec)) (.d (.int 0)) S.call = .ok (.d (.int 1)) S.call := ix_tup (k := 0) (by rw [List.getElem?_map, hh]; rfl)
    generalize hfst : List.replicate (t + 1) (0 : Int) = fst at *
    have b1 : binV .add (.d (ti row)) (.d (ti fst)) S.call = .ok (.d (ti (row ++ fst))) S.call := by
      rw [bin_tup (by rw [List.length_map, List.length_map]; omega), ti, List.map_append]
    have b2 : binV .add (.d (ti (row ++ fst))) (.d (ti sec)) S.call = .ok (.d (ti (row ++ fst ++ sec))) S.call := by
      rw [bin_tup (by rw [List.length_map, List.length_map, List.length_append]; omega), ti, List.map_append]
      rw [← List.map_append, ← List.map_append]
    have hbody : ∀ (f : List Int) (a5 a7 a8 a9 : Option SV), (lwr p q row f).length ≤ e → evS (callN T (n + 5)) (hTf5 iat) [some (.d (setD p q t)), some (.d (.int e)), some (.d (.int p)), some (.d (.int q)), some (.d (.int t)), a5, some (.d (ti row)), a7, a8, a9, some (.d (ti f)), none] S.call = .ok (.next [some (.d (setD p q t)), some (.d (.int e)), some (.d (.int p)), some (.d (.int q)), some (.d (.int t)), a5, some (.d (ti row)), a7, a8, a9, some (.d (ti f)), none]) S.call := fun f a5 a7 a8 a9 hle => by
      have d2 : decide (e < (lwr p q row f).length) = false := decide_eq_false (by omega)
      unfold hTf5
      simp only [S_ife, E_cmp, E_b1]
      rw [e_lw (p := p) (q := q) (row := row) (f := f) (by omega) ?hw (fun k hk => ⟨rfl, ?hc, ?he⟩)]
      · simp [varV, d2]
      case hw => simp [varV, rng1_nat (q := q) (by omega)]
      case he => simp [Env.put, wipeE, varV]
      case hc =>
        have q := s_at (n := n + 4) (S := S.call) hat (x := (k : Int) + 1) ⟨hs.pr.lo, hs.pr.hi⟩ f
        have g : ixV (.d (ti row)) (.d (.int (k : Nat))) S.call = .ok (.d (.int row[k])) S.call := ix_tup (getI (by omega))
        simp [Env.put, wipeE, hTf4, varV, q, g, show row[k]? = some row[k] from List.getElem?_eq_getElem (by omega)]
    have el : ∀ (a5 a7 a8 a9 : Option SV), forL (⟨[ti fst, ti sec], none⟩ : Walk).chk (putT (.one 10)) (evS (callN T (n + 5)) (hTf5 iat)) [some (.d (setD p q t)), some (.d (.int e)), some (.d (.int p)), some (.d (.int q)), some (.d (.int t)), some (.d (.tup [ti row, ti fst, ti sec])), some (.d (ti row)), some (.d (ti fst)), some (.d (ti sec)), none, none, none] 0 [ti fst, ti sec] [some (.d (setD p q t)), some (.d (.int e)), some (.d (.int p)), some (.d (.int q)), some (.d (.int t)), some (.d (.tup [ti row, ti fst, ti sec])), some (.d (ti row)), some (.d (ti fst)), some (.d (ti sec)), none, none, none] S.call = .ok (.next [some (.d (setD p q t)), some (.d (.int e)), some (.d (.int p)), some (.d (.int q)), some (.d (.int t)), some (.d (.tup [ti row, ti fst, ti sec])), some (.d (ti row)), some (.d (ti fst)), some (.d (ti sec)), none, none, none]) S.call := fun a5 a7 a8 a9 => by
      refine (forL_next rfl rfl (hbody fst _ _ _ _ hf)).trans ?_
      simp only [mask_some, mask_none, mask_nil, trim_zero]
      refine (forL_next rfl rfl (hbody sec _ _ _ _ hsd)).trans ?_
      simp only [mask_some, mask_none, mask_nil, trim_zero]
      exact forL_end rfl
    rw [call_eq h rfl]
    simp [-E_lc, -S_for, hTwinsFit, varV, unpV, cut_set, puts, Env.put, mul_l (i := 2) (j := (e : Int)) (by omega) (by omega), d1, e1, hl, hfl, hbl, i7, i8]
    rw [lc_ty (enc := D.int) (l := row ++ fst ++ sec) (c := fun _ => false) (g := D.int) (v := fun a => .d (.int a)) (at_ := none) ?hw rfl ?hl (fun a ha => ⟨rfl, ?hc, fun z => nomatch z⟩)]
    case hw => simp only [W_seq, E_bin, E_var, varV, List.getElem?_cons_zero, List.getElem?_cons_succ, go_ok, rv_d, b1, b2, seq_tup]
    case hl => rw [List.length_append, List.length_append]; omega
    case hc =>
      obtain ⟨c1, c2⟩ := hin a ha
      simp [Env.put, wipeE, hTf2, varV, chain_int, c1, c2]
    rw [filter_none (fun _ _ => rfl), List.map_nil]
    have n1 := ne_new (S := S.call) (f := [])
    rw [List.map_nil] at n1
    simp [-E_lc, -S_for, varV, z0, n1]
    have ol : S.call.own.length = 0 := rfl
    simp [-E_lc, varV, z2, ol]
    rw [el none none none none]
    simp
end
end U

/-! UStr: texts, dicts with written keys, as simp sees them. -/
namespace U
open PySem
variable {T : Nat → Option FD} {n : Nat} {S : St} {C : Nat → List SV → M RV} {ρ : Env}
theorem str_inj {a b : String} (h : Str.ofString a = Str.ofString b) : a = b := by
  rw [Str.ofString_eq_toList, Str.ofString_eq_toList] at h
  injection h with h
  have h := congrArg Array.toList h
  simp at h
  have inj : ∀ (x y : List Char), x.map Char.toNat = y.map Char.toNat → x = y := by
    intro x
    induction x with
    | nil => intro y h; cases y with
      | nil => rfl
      | cons _ _ => simp at h
    | cons c x ih => intro y h; cases y with
      | nil => simp at h
      | cons d y =>
        simp only [List.map_cons, List.cons.injEq] at h
        rw [ih y h.2, Char.toNat_inj.mp h.1]
  exact String.toList_inj.mp (inj _ _ h)
theorem beq_str {a b : String} : D.beq (.str (Str.ofString a)) (.str (Str.ofString b)) = decide (a = b) := by
  by_cases h : a = b
  · rw [h, beq_self, decide_eq_true rfl]
  · rw [decide_eq_false h]
    cases e : D.beq (.str (Str.ofString a)) (.str (Str.ofString b)) with
    | false => rfl
    | true =>
      have := (D.beq_iff _ _).mp e
      injection this with this
      exact absurd (str_inj this) h
@[simp] theorem eq_str {a b : String} : cmpV .eq (.d (.str (Str.ofString a))) (.d (.str (Str.ofString b))) S = .ok (.d (.bl (decide (a = b)))) S := by
  show (match (if eqOk (.str (Str.ofString a)) (.str (Str.ofString b)) = true then some (D.beq (.str (Str.ofString a)) (.str (Str.ofString b))) else none) with
    | some b => (.ok (.d (.bl b)) S : Res RV)
    | none => .bad) = _
  rw [if_pos (show eqOk (.str (Str.ofString a)) (.str (Str.ofString b)) = true from rfl), beq_str]
@[simp] theorem ne_str {a b : String} : cmpV .ne (.d (.str (Str.ofString a))) (.d (.str (Str.ofString b))) S = .ok (.d (.bl (!decide (a = b)))) S := by
  show (match (if eqOk (.str (Str.ofString a)) (.str (Str.ofString b)) = true then some (!D.beq (.str (Str.ofString a)) (.str (Str.ofString b))) else none) with
    | some b => (.ok (.d (.bl b)) S : Res RV)
    | none => .bad) = _
  rw [if_pos (show eqOk (.str (Str.ofString a)) (.str (Str.ofString b)) = true from rfl), beq_str]
abbrev sD (a : String) : D := .str (Str.ofString a)
theorem inOk_strs (a : String) (f : List String) : inOk (sD a) (f.map sD) = true := by
  have : ((f.map sD).all fun y => scalarB y && eqOk y (sD a)) = true := by
    rw [List.all_eq_true]
    intro y hy
    obtain ⟨c, _, rfl⟩ := List.mem_map.mp hy
    rfl
  show ((true && ((f.map sD).all fun y => scalarB y && eqOk y (sD a))) || _) = true
  rw [this]
  rfl
theorem any_strs (a : String) : ∀ f : List String, ((f.map sD).any fun y => D.beq y (sD a)) = decide (a ∈ f)
  | [] => by simp
  | c :: f => by
    rw [List.map_cons, List.any_cons, any_strs a f, beq_str]
    by_cases h : a = c
    · simp [h]
    · simp [h, Ne.symm h]
theorem in_strs (a : String) (f : List String) : cmpV .in_ (.d (sD a)) (.d (.tup (f.map sD))) S = .ok (.d (.bl (decide (a ∈ f)))) S := by
  show (match (if inOk (sD a) (f.map sD) = true then some ((f.map sD).any fun y => D.beq y (sD a)) else none) with
    | some b => (.ok (.d (.bl b)) S : Res RV)
    | none => .bad) = _
  rw [if_pos (inOk_strs a f), any_strs]
theorem in_tup (a : Int) (f : List Int) : cmpV .in_ (.d (.int a)) (.d (.tup (f.map D.int))) S = .ok (.d (.bl (decide (a ∈ f)))) S := by
  show (match (if inOk (.int a) (f.map D.int) = true then some ((f.map D.int).any fun y => D.beq y (.int a)) else none) with
    | some b => (.ok (.d (.bl b)) S : Res RV)
    | none => .bad) = _
  rw [if_pos (inOk_ints a f), in_ints]
theorem ne_nil {xs : List D} (h : plainBs 19 xs = true) : cmpV .ne (.d (.lst xs)) (.new (.lst [])) S = .ok (.d (.bl (!decide (xs = [])))) S := by
  have he : eqOk (.lst xs) (.lst []) = true := by
    show ((scalarB (.lst xs) && scalarB (.lst [])) || (plainB 20 (.lst xs) && plainB 20 (.lst []))) = true
    rw [show plainB 20 (.lst xs) = true from h]
    rfl
  have hb : D.beq (.lst xs) (.lst []) = decide (xs = []) := by cases xs <;> rfl
  show (match (if eqOk (.lst xs) (.lst []) = true then some (!D.beq (.lst xs) (.lst [])) else none) with
    | some b => (.ok (.d (.bl b)) S : Res RV)
    | none => .bad) = _
  rw [if_pos he, hb]
/-! items of written tuples -/
@[simp] theorem ix_t0 {a : D} {r : List D} : ixV (.d (.tup (a :: r))) (.d (.int 0)) S = .ok (.d a) S := ix_tup (k := 0) rfl
@[simp] theorem ix_t1 {a b : D} {r : List D} : ixV (.d (.tup (a :: b :: r))) (.d (.int 1)) S = .ok (.d b) S := ix_tup (k := 1) rfl
@[simp] theorem ix_t2 {a b c : D} {r : List D} : ixV (.d (.tup (a :: b :: c :: r))) (.d (.int 2)) S = .ok (.d c) S := ix_tup (k := 2) rfl
@[simp] theorem ix_t3 {a b c d : D} {r : List D} : ixV (.d (.tup (a :: b :: c :: d :: r))) (.d (.int 3)) S = .ok (.d d) S := ix_tup (k := 3) rfl
/-! dicts with written keys -/
@[simp] theorem E_dis {ks : List Str} {vs : DE} : evE C (.dis ks vs) ρ S = (evK C vs ρ S).go fun ds S1 => if disOk ks ds = true then .ok (.d (.dic (zipK ks ds))) S1 else .bad := (rfl)
@[simp] theorem E_dgt {o k d : DE} : evE C (.dgt o k d) ρ S = (evE C o ρ S).go fun x S1 => if isDic x = true then (evE C k ρ S1).go fun y S2 => (evE C d ρ S2).go fun z S3 => (keep z S3).go fun dz S4 => lift1 (dgtV x y dz) S4 else .bad := by
  show M.bind _ _ S = _
  simp only [bind_go]
  rfl
@[simp] theorem isDic_d {kvs : List (D × D)} : isDic (.d (.dic kvs)) = true := (rfl)
@[simp] theorem dgt_d {kvs : List (D × D)} {s : Str} {dz : D} : dgtV (.d (.dic kvs)) (.d (.str s)) dz = some (.d ((lookS s kvs).getD dz)) := (rfl)
@[simp] theorem zipK_cons {k : Str} {ks : List Str} {d : D} {ds : List D} : zipK (k :: ks) (d :: ds) = (.str k, d) :: zipK ks ds := (rfl)
@[simp] theorem zipK_nil {ds : List D} : zipK [] ds = [] := by unfold zipK; cases ds <;> rfl
@[simp] theorem lookS_nil {s : Str} : lookS s [] = none := (rfl)
@[simp] theorem lookS_cons {a b : String} {d : D} {r : List (D × D)} : lookS (Str.ofString b) ((.str (Str.ofString a), d) :: r) = if a = b then some d else lookS (Str.ofString b) r := by
  show (if Str.ofString a = Str.ofString b then some d else lookS (Str.ofString b) r) = _
  by_cases h : a = b
  · rw [if_pos h, if_pos (congrArg _ h)]
  · rw [if_neg h, if_neg (fun z => h (str_inj z))]
theorem disOk_of {ks : List String} {ds : List D} (h1 : ks.Nodup) (h2 : ks.length = ds.length) (h3 : 1 ≤ ks.length) (h4 : ks.length ≤ 15) : disOk (ks.map Str.ofString) ds = true := by
  unfold disOk
  have nd : (ks.map Str.ofString).Nodup := List.Pairwise.map _ (fun a b hab z => hab (str_inj z)) h1
  rw [decide_eq_true nd, List.length_map, decide_eq_true h2, decide_eq_true h3, decide_eq_true h4]
  rfl
end U

/-! k02_settings_checked: the defs as trees (printed by mklaw.py). -/
namespace U.L_k02
open PySem PySem.Spec PyProof.Rows L2 U
abbrev P : Program := PySem.Challenge.pw_untold_k02_settings_checked
def top (i : Nat) : Stmt := P.main.body.getD i (.Pass ⟨0, 0, 0, 0⟩)
def dd (x : Str) (i : Nat) : He.DefD := ⟨(x, none), x, x, defArgs (top i), defBody (top i), defScope (top i), [], []⟩
namespace F
abbrev is_prime : Nat := 0
abbrev is_integer : Nat := 1
abbrev check_setting : Nat := 2
abbrev _law_cell : Nat := 3
abbrev _law_digits : Nat := 4
abbrev _law_draw : Nat := 5
abbrev _law_pick : Nat := 6
abbrev _law_setting : Nat := 7
abbrev _law_word : Nat := 8
abbrev law : Nat := 9
end F
def fns : List (Str × Nat) := ([("is_prime", 0), ("is_integer", 1), ("check_setting", 2), ("_law_cell", 3), ("_law_digits", 4), ("_law_draw", 5), ("_law_pick", 6), ("_law_setting", 7), ("_law_word", 8), ("law", 9)] : List (Str × Nat))
def kon : List (Str × D) := ([("MOST_PRIME", (.int 10007)), ("MOST_PARTIES", (.int 9))] : List (Str × D))
def cls : List Str := ["UntoldError", "BadSetting", "BadProgram", "BadEntry", "BadState", "TooGreat"]
def hint : Nat := 1
def blt : List Str := ["ValueError", "bool", "int", "isinstance", "len", "list", "min", "range", "str", "tuple"]
def c_is_prime_1 : DE := (.cmp .le (.bin .mul (.var 1) (.var 1)) (.var 0))
def b_is_prime_2 : DS := (.seq (.ife (.cmp .eq (.bin .mod (.b1 .int (.var 0)) (.var 1)) (.con (.int 0)))
    (.ret (.con (.bl false)))
    .skip)
    (.set 1 false (.bin .add (.var 1) (.con (.int 1)))))
def d_is_prime : FD := { np := 1, ns := 2, body := (.seq (.ife (.cmp .lt (.var 0) (.con (.int 2)))
    (.ret (.con (.bl false)))
    .skip)
    (.seq (.set 1 false (.con (.int 2)))
    (.seq (.whl c_is_prime_1
    b_is_prime_2)
    (.ret (.con (.bl true)))))) }
def u_is_prime : UDef := ⟨dd "is_prime" 8, ["n"], ["n", "divisor"], [], d_is_prime⟩
theorem ok_is_prime : UOk fns kon blt cls hint u_is_prime := { at_ := rfl, sc := C8.fnScope_by (by decide +kernel), body := by kernel_rfl, binds := fun _ _ _ _ _ _ us hl => match us, hl with | [_], _ => rfl }
def d_is_integer : FD := { np := 1, ns := 1, body := (.ret (.and (.isi .int (.var 0)) (.not (.isi .bool (.var 0))))) }
def u_is_integer : UDef := ⟨dd "is_integer" 12, ["thing"], ["thing"], [], d_is_integer⟩
theorem ok_is_integer : UOk fns kon blt cls hint u_is_integer := { at_ := rfl, sc := C8.fnScope_by (by decide +kernel), body := by kernel_rfl, binds := fun _ _ _ _ _ _ us hl => match us, hl with | [_], _ => rfl }
def d_check_setting : FD := { np := 1, ns := 4, body := (.seq (.ife (.or (.not (.isi .tup (.var 0))) (.or (.cmp .ne (.b1 .len (.var 0)) (.con (.int 4))) (.cmp .ne (.ix (.var 0) (.con (.int 0))) (.con (.str (Str.ofString "setting"))))))
    (.raise 1)
    .skip)
    (.seq (.unp [1, 2, 3] (.sl (.var 0) (.cons (.con (.int 1)) .nil) .nil))
    (.seq (.ife (.or (.not (.call F.is_integer (.cons (.var 1) .nil))) (.or (.not (.call F.is_integer (.cons (.var 2) .nil))) (.not (.call F.is_integer (.cons (.var 3) .nil)))))
    (.raise 1)
    .skip)
    (.seq (.ife (.or (.not (.chain .le .le (.con (.int 2)) (.var 1) (.con (.int 10007)))) (.not (.call F.is_prime (.cons (.var 1) .nil))))
    (.raise 1)
    .skip)
    (.ife (.or (.not (.chain .le .le (.con (.int 1)) (.var 2) (.con (.int 9)))) (.or (.cmp .ge (.var 2) (.var 1)) (.or (.cmp .lt (.var 3) (.con (.int 0))) (.cmp .gt (.bin .add (.bin .mul (.con (.int 2)) (.var 3)) (.con (.int 1))) (.var 2)))))
    (.raise 1)
    .skip))))) }
def u_check_setting : UDef := ⟨dd "check_setting" 13, ["setting"], ["setting", "p", "n", "t"], [], d_check_setting⟩
theorem ok_check_setting : UOk fns kon blt cls hint u_check_setting := { at_ := rfl, sc := C8.fnScope_by (by decide +kernel), body := by kernel_rfl, binds := fun _ _ _ _ _ _ us hl => match us, hl with | [_], _ => rfl }
def d__law_cell : FD := { np := 2, ns := 2, body := (.seq (.ife (.cmp .lt (.var 1) (.b1 .len (.var 0)))
    (.ret (.ix (.var 0) (.var 1)))
    .skip)
    (.ret (.con (.int 0)))) }
def u__law_cell : UDef := ⟨dd "_law_cell" 15, ["_law_script", "_law_k"], ["_law_script", "_law_k"], [], d__law_cell⟩
theorem ok__law_cell : UOk fns kon blt cls hint u__law_cell := { at_ := rfl, sc := C8.fnScope_by (by decide +kernel), body := by kernel_rfl, binds := fun _ _ _ _ _ _ us hl => match us, hl with | [_, _], _ => rfl }
def b__law_digits_1 : DS := (.ife (.cmp .gt (.var 5) (.con (.int 0)))
    (.seq (.expr (.m1 .append (.var 3) (.bin .mod (.b1 .int (.var 5)) (.con (.int 1000)))))
    (.set 5 false (.bin .fdiv (.var 5) (.con (.int 1000)))))
    .skip)
def b__law_digits_2 : DS := (.seq (.set 7 false (.bin .mod (.b1 .int (.bin .add (.bin .add (.bin .mul (.var 7) (.con (.int 16807))) (.bin .mul (.con (.int 7)) (.var 6))) (.con (.int 1)))) (.con (.int 2147483647))))
    (.expr (.m1 .append (.var 3) (.bin .mod (.b1 .int (.bin .fdiv (.var 7) (.con (.int 997)))) (.con (.int 1000))))))
def b__law_digits_3 : DS := (.seq (.set 5 false (.call F._law_cell (.cons (.var 0) (.cons (.var 4) .nil))))
    (.seq (.ife (.cmp .lt (.var 5) (.con (.int 0)))
    (.set 5 false (.bin .sub (.con (.int 1)) (.bin .mul (.con (.int 2)) (.var 5))))
    .skip)
    (.ife (.cmp .ge (.var 5) (.bin .pow (.con (.int 10)) (.con (.int 18))))
    (.for_ (.one 6) (.wk .rng1 (.con (.int 60)) .nil)
    b__law_digits_1)
    (.seq (.set 7 false (.bin .mod (.b1 .int (.bin .add (.bin .add (.bin .mul (.var 5) (.con (.int 48271))) (.bin .mul (.var 4) (.con (.int 69621)))) (.con (.int 11)))) (.con (.int 2147483647))))
    (.for_ (.one 6) (.wk .rng1 (.con (.int 12)) .nil)
    b__law_digits_2)))))
def d__law_digits : FD := { np := 3, ns := 8, body := (.seq (.set 3 true (.lst .nil))
    (.seq (.for_ (.one 4) (.wk .rng2 (.var 1) (.var 2))
    b__law_digits_3)
    (.ret (.var 3)))) }
def u__law_digits : UDef := ⟨dd "_law_digits" 16, ["_law_script", "_law_first", "_law_last"], ["_law_script", "_law_first", "_law_last", "_law_digits_here", "_law_k", "_law_cell_here", "_law_turn", "_law_seed"], ["_law_digits_here"], d__law_digits⟩
theorem ok__law_digits : UOk fns kon blt cls hint u__law_digits := { at_ := rfl, sc := C8.fnScope_by (by decide +kernel), body := by kernel_rfl, binds := fun _ _ _ _ _ _ us hl => match us, hl with | [_, _, _], _ => rfl }
def d__law_draw : FD := { np := 2, ns := 3, body := (.seq (.set 2 false (.ix (.var 0) (.con (.int 1))))
    (.seq (.setIx (.var 0) (.con (.int 1)) (.bin .add (.var 2) (.con (.int 1))))
    (.seq (.ife (.cmp .lt (.var 2) (.b1 .len (.ix (.var 0) (.con (.int 0)))))
    (.ret (.bin .mod (.b1 .int (.ix (.ix (.var 0) (.con (.int 0))) (.var 2))) (.var 1)))
    .skip)
    (.ret (.con (.int 0)))))) }
def u__law_draw : UDef := ⟨dd "_law_draw" 17, ["_law_box", "_law_many"], ["_law_box", "_law_many", "_law_at"], ["_law_box"], d__law_draw⟩
theorem ok__law_draw : UOk fns kon blt cls hint u__law_draw := { at_ := rfl, sc := C8.fnScope_by (by decide +kernel), body := by kernel_rfl, binds := fun _ _ _ _ _ _ us hl => match us, hl with | [_, _], _ => rfl }
def d__law_pick : FD := { np := 2, ns := 2, body := (.ret (.ix (.var 1) (.bin .mod (.b1 .int (.call F._law_draw (.cons (.var 0) (.cons (.con (.int 900)) .nil)))) (.b1 .len (.var 1))))) }
def u__law_pick : UDef := ⟨dd "_law_pick" 18, ["_law_box", "_law_things"], ["_law_box", "_law_things"], ["_law_box"], d__law_pick⟩
theorem ok__law_pick : UOk fns kon blt cls hint u__law_pick := { at_ := rfl, sc := C8.fnScope_by (by decide +kernel), body := by kernel_rfl, binds := fun _ _ _ _ _ _ us hl => match us, hl with | [_, _], _ => rfl }
def d__law_setting : FD := { np := 1, ns := 3, body := (.seq (.set 1 false (.call F._law_pick (.cons (.var 0) (.cons (.lst (.cons (.con (.int 2)) (.cons (.con (.int 3)) (.cons (.con (.int 5)) (.cons (.con (.int 5)) (.cons (.con (.int 7)) (.cons (.con (.int 7)) (.cons (.con (.int 11)) (.cons (.con (.int 13)) (.cons (.con (.int 101)) (.cons (.con (.int 10007)) .nil))))))))))) .nil))))
    (.seq (.set 2 false (.bin .add (.con (.int 1)) (.call F._law_draw (.cons (.var 0) (.cons (.b2 .min (.con (.int 9)) (.bin .sub (.var 1) (.con (.int 1)))) .nil)))))
    (.ret (.tup (.cons (.con (.str (Str.ofString "setting"))) (.cons (.var 1) (.cons (.var 2) (.cons (.call F._law_draw (.cons (.var 0) (.cons (.bin .fdiv (.bin .add (.var 2) (.con (.int 1))) (.con (.int 2))) .nil))) .nil)))))))) }
def u__law_setting : UDef := ⟨dd "_law_setting" 19, ["_law_box"], ["_law_box", "_law_p", "_law_n"], ["_law_box"], d__law_setting⟩
theorem ok__law_setting : UOk fns kon blt cls hint u__law_setting := { at_ := rfl, sc := C8.fnScope_by (by decide +kernel), body := by kernel_rfl, binds := fun _ _ _ _ _ _ us hl => match us, hl with | [_], _ => rfl }
def d__law_word : FD := { np := 1, ns := 3, body := (.seq (.try_ false F.check_setting (.cons (.var 0) .nil) 1 (.d (.str (Str.ofString "refused"))))
    (.ret (.con (.str (Str.ofString ""))))) }
def u__law_word : UDef := ⟨dd "_law_word" 20, ["_law_thing"], ["_law_thing", "e", "_law_others"], [], d__law_word⟩
theorem ok__law_word : UOk fns kon blt cls hint u__law_word := { at_ := rfl, sc := C8.fnScope_by (by decide +kernel), body := by kernel_rfl, binds := fun _ _ _ _ _ _ us hl => match us, hl with | [_], _ => rfl }
def b_law_1 : DS := (.ife (.cmp .ne (.call F._law_word (.cons (.call F._law_pick (.cons (.var 1) (.cons (.var 7) .nil))) .nil)) (.con (.str (Str.ofString "refused"))))
    (.ret (.con (.bl false)))
    .skip)
def d_law : FD := { np := 1, ns := 9, body := (.seq (.set 1 true (.lst (.cons (.call F._law_digits (.cons (.var 0) (.cons (.con (.int 0)) (.cons (.con (.int 63)) .nil)))) (.cons (.con (.int 0)) .nil))))
    (.seq (.set 2 false (.call F._law_setting (.cons (.var 1) .nil)))
    (.seq (.unp [3, 4, 5, 6] (.var 2))
    (.seq (.set 7 false (.lst (.cons (.tup .nil) (.cons (.con .non) (.cons (.con (.int 5)) (.cons (.con (.str (Str.ofString "setting"))) (.cons (.tup (.cons (.con (.str (Str.ofString "setting"))) .nil)) (.cons (.b1 .list (.var 2)) (.cons (.tup (.cons (.con (.str (Str.ofString "settings"))) (.cons (.var 4) (.cons (.var 5) (.cons (.var 6) .nil))))) (.cons (.bin .add (.var 2) (.tup (.cons (.con (.int 0)) .nil))) (.cons (.sl (.var 2) .nil (.cons (.con (.int 3)) .nil)) (.cons (.tup (.cons (.con (.int 1)) (.cons (.var 4) (.cons (.var 5) (.cons (.var 6) .nil))))) .nil))))))))))))
    (.seq (.set 7 false (.bin .add (.var 7) (.lst (.cons (.tup (.cons (.var 3) (.cons (.con (.int 9)) (.cons (.con (.int 1)) (.cons (.con (.int 0)) .nil))))) (.cons (.tup (.cons (.var 3) (.cons (.con (.int 1)) (.cons (.con (.int 1)) (.cons (.con (.int 0)) .nil))))) (.cons (.tup (.cons (.var 3) (.cons (.con (.int 0)) (.cons (.con (.int 1)) (.cons (.con (.int 0)) .nil))))) (.cons (.tup (.cons (.var 3) (.cons (.neg (.con (.int 7))) (.cons (.con (.int 1)) (.cons (.con (.int 0)) .nil))))) (.cons (.tup (.cons (.var 3) (.cons (.con (.int 10009)) (.cons (.con (.int 1)) (.cons (.con (.int 0)) .nil))))) (.cons (.tup (.cons (.var 3) (.cons (.con (.int 10001)) (.cons (.con (.int 1)) (.cons (.con (.int 0)) .nil))))) (.cons (.tup (.cons (.var 3) (.cons (.con (.bl true)) (.cons (.con (.int 1)) (.cons (.con (.int 0)) .nil))))) .nil))))))))))
    (.seq (.set 7 false (.bin .add (.var 7) (.lst (.cons (.tup (.cons (.var 3) (.cons (.var 4) (.cons (.con (.int 0)) (.cons (.con (.int 0)) .nil))))) (.cons (.tup (.cons (.var 3) (.cons (.var 4) (.cons (.var 4) (.cons (.con (.int 0)) .nil))))) (.cons (.tup (.cons (.var 3) (.cons (.con (.int 10007)) (.cons (.con (.int 10)) (.cons (.con (.int 0)) .nil))))) (.cons (.tup (.cons (.var 3) (.cons (.var 4) (.cons (.var 5) (.cons (.neg (.con (.int 1))) .nil))))) (.cons (.tup (.cons (.var 3) (.cons (.var 4) (.cons (.var 5) (.cons (.bin .fdiv (.bin .add (.var 5) (.con (.int 1))) (.con (.int 2))) .nil))))) (.cons (.tup (.cons (.var 3) (.cons (.var 4) (.cons (.con (.bl true)) (.cons (.con (.int 0)) .nil))))) (.cons (.tup (.cons (.var 3) (.cons (.var 4) (.cons (.var 5) (.cons (.con (.bl false)) .nil))))) .nil))))))))))
    (.seq (.set 7 false (.bin .add (.var 7) (.lst (.cons (.tup (.cons (.var 3) (.cons (.b1 .str (.var 4)) (.cons (.var 5) (.cons (.var 6) .nil))))) (.cons (.tup (.cons (.var 3) (.cons (.var 4) (.cons (.var 5) (.cons (.con .non) .nil))))) (.cons (.tup (.cons (.var 3) (.cons (.var 4) (.cons (.tup (.cons (.var 5) .nil)) (.cons (.var 6) .nil))))) .nil))))))
    (.seq (.for_ (.one 8) (.wk .rng1 (.con (.int 6)) .nil)
    b_law_1)
    (.ret (.and (.cmp .eq (.call F._law_word (.cons (.var 2) .nil)) (.con (.str (Str.ofString "")))) (.and (.cmp .eq (.call F._law_word (.cons (.tup (.cons (.var 3) (.cons (.con (.int 10007)) (.cons (.con (.int 9)) (.cons (.con (.int 4)) .nil))))) .nil)) (.con (.str (Str.ofString "")))) (.cmp .eq (.call F._law_word (.cons (.tup (.cons (.var 3) (.cons (.con (.int 2)) (.cons (.con (.int 1)) (.cons (.con (.int 0)) .nil))))) .nil)) (.con (.str (Str.ofString ""))))))))))))))) }
def u_law : UDef := ⟨dd "law" 21, ["_law_script"], ["_law_script", "_law_box", "_law_setting_here", "_law_name", "_law_p", "_law_n", "_law_t", "_law_wrong", "_law_turn"], ["_law_box"], d_law⟩
theorem ok_law : UOk fns kon blt cls hint u_law := { at_ := rfl, sc := C8.fnScope_by (by decide +kernel), body := by kernel_rfl, binds := fun _ _ _ _ _ _ us hl => match us, hl with | [_], _ => rfl }
def us0 : List UDef := [u_is_prime, u_is_integer, u_check_setting, u__law_cell, u__law_digits, u__law_draw, u__law_pick, u__law_setting, u__law_word, u_law]
theorem all_ok0 : ∀ u ∈ us0, UOk fns kon blt cls hint u := by
  intro u h
  simp only [us0, List.mem_cons, List.not_mem_nil, or_false] at h
  rcases h with rfl | rfl | rfl | rfl | rfl | rfl | rfl | rfl | rfl | rfl
  · exact ok_is_prime
  · exact ok_is_integer
  · exact ok_check_setting
  · exact ok__law_cell
  · exact ok__law_digits
  · exact ok__law_draw
  · exact ok__law_pick
  · exact ok__law_setting
  · exact ok__law_word
  · exact ok_law
def us : List UDef := us0
theorem all_ok : ∀ u ∈ us, UOk fns kon blt cls hint u := by
  intro u h
  simp only [us, List.mem_append] at h
  rcases h with h
  · exact all_ok0 u h
theorem fo : fnsOk us fns := fnsC_ok (by decide +kernel)
abbrev T : Nat → Option FD := tbl us
theorem T_0 : T 0 = some d_is_prime := rfl
theorem T_1 : T 1 = some d_is_integer := rfl
theorem T_2 : T 2 = some d_check_setting := rfl
theorem T_3 : T 3 = some d__law_cell := rfl
theorem T_4 : T 4 = some d__law_digits := rfl
theorem T_5 : T 5 = some d__law_draw := rfl
theorem T_6 : T 6 = some d__law_pick := rfl
theorem T_7 : T 7 = some d__law_setting := rfl
theorem T_8 : T 8 = some d__law_word := rfl
theorem T_9 : T 9 = some d_law := rfl
end U.L_k02

set_option maxHeartbeats 4000000
namespace U.L_k02
open PySem U
variable {n : Nat} {S : St}
def prA (m : Nat) : Nat → Nat → Option Bool
  | 0, _ => none
  | k + 1, d => if d * d ≤ m then (if m % d = 0 then some false else prA m k (d + 1)) else some true
section
variable {C : Nat → List SV → M RV}
theorem pr_c {m d : Nat} (hm : d ≤ 30000) : evE C c_is_prime_1 [some (.d (.int m)), some (.d (.int d))] S.call = .ok (.d (.bl (decide ((d : Int) * d ≤ m)))) S.call := by
  have e1 : bop .mul (.int (d : Int)) (.int (d : Int)) = some (.d (.int ((d : Int) * d))) := mul_l (by omega) (by omega)
  simp [c_is_prime_1, varV, e1]
theorem pr_b {m d : Nat} (hd : 0 < d) {z : Bool} (hz : decide ((m : Int) % d = 0) = z) : evS C b_is_prime_2 [some (.d (.int m)), some (.d (.int d))] S.call = .ok (if z = true then .ret (.d (.bl false)) else .next [some (.d (.int m)), some (.d (.int ((d : Int) + 1)))]) S.call := by
  have e2 : bop .mod (.int (m : Int)) (.int (d : Int)) = some (.d (.int ((m : Int) % d))) := bop_mod (by omega)
  cases z <;> (simp [b_is_prime_2, varV, e2, hz])
theorem trim_pr {a b : SV} : trim 0 (mask [some a, some b] [some (.d x), some (.d y)]) S.call = S.call := rfl
theorem mask_pr {a b : SV} {c d : Option SV} : mask [some a, some b] [c, d] = [c, d] := rfl
end
theorem whL_eqs {c : Env → M RV} {body : Env → M Flow} {ρ0 : Env} {n0 f : Nat} {ρ : Env} : whL c body ρ0 n0 (f + 1) ρ S = match c ρ S with
    | .ok v S1 => match truth v with
      | some true => match body ρ S1 with
        | .ok (.next ρ2) S2 => whL c body ρ0 n0 f (mask ρ0 ρ2) (trim n0 (mask ρ0 ρ2) S2)
        | .ok (.cont ρ2) S2 => whL c body ρ0 n0 f (mask ρ0 ρ2) (trim n0 (mask ρ0 ρ2) S2)
        | .ok (.brk ρ2) S2 => .ok (.next (mask ρ0 ρ2)) (trim n0 (mask ρ0 ρ2) S2)
        | .ok (.ret r) S2 => .ok (.ret r) S2
        | .exc e S2 => .exc e S2
        | .bad => .bad
      | some false => .ok (.next ρ) S1
      | none => .bad
    | .exc _ _ => .bad
    | .bad => .bad := by rfl
theorem pr_loop {C : Nat → List SV → M RV} {m : Nat} (hm : m ≤ 20000) (k : Nat) : ∀ (f d : Nat) (b : Bool), k ≤ f → 2 ≤ d → d ≤ m + 1 → prA m k d = some b →
    ∃ ρ, whL (evE C c_is_prime_1) (evS C b_is_prime_2) [some (.d (.int m)), some (.d (.int 2))] 0 f [some (.d (.int m)), some (.d (.int d))] S.call = .ok (if b = true then .next ρ else .ret (.d (.bl false))) S.call := by
  induction k with
  | zero => intro f d b _ _ _ h; cases h
  | succ k ih =>
    intro f d b hk h2 hd h
    obtain ⟨f, rfl⟩ : ∃ g, f = g + 1 := ⟨f - 1, by omega⟩
    have ec := pr_c (C := C) (S := S) (m := m) (d := d) (by omega)
    have eb := fun z hz => pr_b (C := C) (S := S) (m := m) (d := d) (by omega) (z := z) hz
    have cm : ((m : Int) % d = 0) ↔ m % d = 0 := by omega
    have cd : ((d : Int) * d ≤ m) ↔ d * d ≤ m := by
      rw [← Int.natCast_mul]
      omega
    unfold prA at h
    rw [whL_eqs, ec]
    by_cases hc : d * d ≤ m
    · rw [if_pos hc] at h
      rw [decide_eq_true (cd.mpr hc)]
      have hdm : d ≤ m := Nat.le_trans (Nat.le_mul_self d) hc
      by_cases hz : m % d = 0
      · rw [if_pos hz] at h
        cases h
        refine ⟨[], ?_⟩
        dsimp only [truth]
        rw [eb true (decide_eq_true (cm.mpr hz))]
        rfl
      · rw [if_neg hz] at h
        obtain ⟨ρ, ih⟩ := ih f (d + 1) b (by omega) (by omega) (by omega) h
        refine ⟨ρ, ?_⟩
        dsimp only [truth]
        rw [eb false (decide_eq_false fun hh => hz (cm.mp hh)), ← ih]
        rfl
    · rw [if_neg hc] at h
      cases h
      refine ⟨[some (.d (.int m)), some (.d (.int d))], ?_⟩
      rw [decide_eq_false fun hh => hc (cd.mp hh)]
      rfl
theorem s_prime {m : Nat} (hm : m ≤ 20000) (h2 : 2 ≤ m) {b : Bool} {k : Nat} (hk : k ≤ 1000000000) (h : prA m k 2 = some b) : callN T (n + 1) 0 [.d (.int m)] S = .ok (.d (.bl b)) S := by
  rw [call_eq T_0 rfl]
  obtain ⟨ρ, e⟩ := pr_loop (C := callN T n) (S := S) hm k 1000000000 2 b hk (by omega) (by omega) h
  rw [show ((2 : Nat) : Int) = 2 from rfl] at e
  have h2' : ¬ ((m : Int) < 2) := by omega
  have ol : S.call.own.length = 0 := rfl
  cases b with
  | true => 
    rw [if_pos rfl] at e
    simp [d_is_prime, varV, h2', S_whl, ol]
    rw [e]
    simp
    try rfl
  | false =>
    rw [if_neg (by decide)] at e
    simp [d_is_prime, varV, h2', S_whl, ol]
    rw [e]
    simp
    try rfl
theorem prA_ok {p : Nat} (h : ∀ d, 2 ≤ d → d < p → p % d ≠ 0) (hp : 2 ≤ p) : ∀ (k d : Nat), 2 ≤ d → d ≤ p + 1 → p + 2 ≤ d + k → prA p k d = some true
  | 0, d, _, h1, h2 => by omega
  | k + 1, d, h1, h2, h3 => by
    unfold prA
    by_cases hc : d * d ≤ p
    · have hl : d < d * d := by
        calc d < 2 * d := by omega
          _ ≤ d * d := Nat.mul_le_mul_right d h1
      rw [if_pos hc, if_neg (h d h1 (by omega))]
      exact prA_ok h hp k (d + 1) (by omega) (by omega) (by omega)
    · rw [if_neg hc]
theorem dvd_pow_ (d : Nat) : ∀ {k : Nat}, k ≠ 0 → d ∣ d ^ k
  | 0, h => absurd rfl h
  | k + 1, _ => ⟨d ^ k, by rw [Nat.pow_succ, Nat.mul_comm]⟩
theorem pr_div {p : Nat} (hp : Pr p) : ∀ d, 2 ≤ d → d < p → p % d ≠ 0 := fun d h2 hd h0 => by
  have hl := hp.lo
  have h := allB_ok hp.fe d (by simpa using hd)
  simp at h
  rcases h with h | h
  · omega
  · have e : (p : Int).toNat = p := by simp
    have e1 : d ∣ p := Nat.dvd_of_mod_eq_zero h0
    have e2 : d ∣ d ^ (p - 1) := dvd_pow_ d (show p - 1 ≠ 0 by omega)
    have e3 : d ∣ d ^ (p - 1) % p := (Nat.dvd_mod_iff e1).mpr e2
    rw [h] at e3
    have := Nat.le_of_dvd (by omega) e3
    omega
theorem s_primeP {p : Nat} (hp : Pr p) (hh : p ≤ 10007) : callN T (n + 1) 0 [.d (.int p)] S = .ok (.d (.bl true)) S := by
  have hl := hp.lo
  exact s_prime (by omega) (by omega) (k := p + 2) (by omega) (prA_ok (pr_div hp) (by omega) (p + 2) 2 (by omega) (by omega) (by omega))
def isIntB : D → Bool
  | .int _ => true
  | _ => false
theorem s_isint {d : D} (h : match d with | .int _ => True | .bl _ => True | .str _ => True | .non => True | .tup _ => True | _ => False) : callN T (n + 1) 1 [.d d] S = .ok (.d (.bl (isIntB d))) S := by
  rw [call_eq T_1 rfl]
  cases d <;> first | exact absurd h id | (simp [d_is_integer, varV]; rfl)

theorem lt4 {a b c d : D} : ([a, b, c, d] : List D).length = 4 := rfl
/-- what check_setting lets through -/
theorem cs_ok {p q t : Nat} (hs : SetOk p q t) : callN T (n + 2) 2 [.d (setD p q t)] S = .ok (.d .non) S := by
  have htq := hs.tq
  have hq9 := hs.q9
  have hq1 := hs.q1
  have hqp := hs.qp
  have hpp := hs.hp
  have hp2 := hs.pr.lo
  rw [call_eq T_2 rfl]
  have e1 := s_isint (n := n) (S := S.call) (d := .int p) trivial
  have e2 := s_isint (n := n) (S := S.call) (d := .int q) trivial
  have e3 := s_isint (n := n) (S := S.call) (d := .int t) trivial
  have e4 := s_primeP (n := n) (S := S.call) hs.pr (by omega)
  have c1 : (2 : Int) ≤ p := by omega
  have c2 : (p : Int) ≤ 10007 := by omega
  have c3 : (1 : Int) ≤ q := by omega
  have c4 : (q : Int) ≤ 9 := by omega
  have c5 : ¬ (p : Int) ≤ q := by omega
  have c6 : ¬ (t : Int) < 0 := by omega
  have c7 : ¬ (q : Int) < 2 * t + 1 := by omega
  have m1 : bop .mul (.int 2) (.int (t : Int)) = some (.d (.int (2 * t))) := mul_l (by omega) (by omega)
  have ei : ixV (.d (.tup [.str (Str.ofString "setting"), .int p, .int q, .int t])) (.d (.int 0)) S.call = .ok (.d (.str (Str.ofString "setting"))) S.call := ix_tup (k := 0) rfl
  simp [d_check_setting, setD, varV, ei, cut_set, F.is_integer, F.is_prime, e1, e2, e3, e4, isIntB, c1, c2, c3, c4, c5, c6, c7, m1, chain_int, unpV, puts, Env.put]
  try rfl

theorem end_exc {e : Exc} : endR (.exc e S.call) = .exc e S := rfl
def sS : D := .str (Str.ofString "setting")
theorem cs_bad {d : D} (h : match d with | .non => True | .int _ => True | .str _ => True | .lst _ => True | .tup ds => ds.length ≠ 4 | _ => False) : callN T (n + 2) 2 [.d d] S = .exc ⟨1, []⟩ S := by
  rw [call_eq T_2 rfl]
  cases d with
  | tup ds =>
    have h' : ¬ (ds.length : Int) = 4 := by dsimp only at h; omega
    simp [d_check_setting, varV, h', end_exc]
  | non => simp [d_check_setting, varV, end_exc]
  | int _ => simp [d_check_setting, varV, end_exc]
  | str _ => simp [d_check_setting, varV, end_exc]
  | lst _ => simp [d_check_setting, varV, end_exc]
  | bl _ => exact absurd h id
  | rol _ => exact absurd h id
  | dic _ => exact absurd h id
  | ref _ => exact absurd h id
theorem cs_name {x a b c : D} (h : cmpV .ne (.d x) (.d sS) S.call = .ok (.d (.bl true)) S.call) : callN T (n + 2) 2 [.d (.tup [x, a, b, c])] S = .exc ⟨1, []⟩ S := by
  rw [call_eq T_2 rfl]
  unfold sS at h
  have ei : ixV (.d (.tup [x, a, b, c])) (.d (.int 0)) S.call = .ok (.d x) S.call := ix_tup (k := 0) rfl
  simp [d_check_setting, varV, ei, h, end_exc]
def flatB : D → Prop
  | .int _ => True | .bl _ => True | .str _ => True | .non => True | .tup _ => True | _ => False
theorem s_isint' {d : D} (h : flatB d) : callN T (n + 1) 1 [.d d] S = .ok (.d (.bl (isIntB d))) S := s_isint (by cases d <;> first | trivial | exact absurd h id)
theorem cs_kind {a b c : D} (ha : flatB a) (hb : flatB b) (hc : flatB c) (h : (isIntB a && (isIntB b && isIntB c)) = false) : callN T (n + 2) 2 [.d (.tup [sS, a, b, c])] S = .exc ⟨1, []⟩ S := by
  rw [call_eq T_2 rfl]
  have ei : ixV (.d (.tup [.str (Str.ofString "setting"), a, b, c])) (.d (.int 0)) S.call = .ok (.d (.str (Str.ofString "setting"))) S.call := ix_tup (k := 0) rfl
  have e1 := s_isint' (n := n) (S := S.call) ha
  have e2 := s_isint' (n := n) (S := S.call) hb
  have e3 := s_isint' (n := n) (S := S.call) hc
  cases h1 : isIntB a <;> cases h2 : isIntB b <;> cases h3 : isIntB c <;> rw [h1, h2, h3] at h <;> first | exact absurd h (by decide) | (rw [h1] at e1; rw [h2] at e2; rw [h3] at e3; simp [d_check_setting, sS, varV, ei, cut_set, F.is_integer, e1, e2, e3, end_exc, unpV, puts, Env.put])
theorem cs_small {p q t : Int} (h : p < 2 ∨ 10007 < p) : callN T (n + 2) 2 [.d (.tup [sS, .int p, .int q, .int t])] S = .exc ⟨1, []⟩ S := by
  rw [call_eq T_2 rfl]
  have e1 := s_isint (n := n) (S := S.call) (d := .int p) trivial
  have e2 := s_isint (n := n) (S := S.call) (d := .int q) trivial
  have e3 := s_isint (n := n) (S := S.call) (d := .int t) trivial
  have ei : ixV (.d (.tup [.str (Str.ofString "setting"), .int p, .int q, .int t])) (.d (.int 0)) S.call = .ok (.d (.str (Str.ofString "setting"))) S.call := ix_tup (k := 0) rfl
  by_cases c1 : (2 : Int) ≤ p
  · have c2 : ¬ p ≤ (10007 : Int) := by omega
    simp [d_check_setting, sS, varV, ei, cut_set, F.is_integer, F.is_prime, e1, e2, e3, isIntB, c1, c2, chain_int, unpV, puts, Env.put, end_exc]
  · simp [d_check_setting, sS, varV, ei, cut_set, F.is_integer, F.is_prime, e1, e2, e3, isIntB, c1, chain_int, unpV, puts, Env.put, end_exc]
theorem cs_comp {p : Nat} {q t : Int} (h2 : 2 ≤ p) (h : p ≤ 10007) {k : Nat} (hk : k ≤ 100000) (hp : prA p k 2 = some false) : callN T (n + 2) 2 [.d (.tup [sS, .int p, .int q, .int t])] S = .exc ⟨1, []⟩ S := by
  rw [call_eq T_2 rfl]
  have e1 := s_isint (n := n) (S := S.call) (d := .int p) trivial
  have e2 := s_isint (n := n) (S := S.call) (d := .int q) trivial
  have e3 := s_isint (n := n) (S := S.call) (d := .int t) trivial
  have e4 := s_prime (n := n) (S := S.call) (m := p) (by omega) h2 (k := k) (by omega) hp
  have ei : ixV (.d (.tup [.str (Str.ofString "setting"), .int p, .int q, .int t])) (.d (.int 0)) S.call = .ok (.d (.str (Str.ofString "setting"))) S.call := ix_tup (k := 0) rfl
  have c1 : (2 : Int) ≤ p := by omega
  have c2 : (p : Int) ≤ 10007 := by omega
  simp [d_check_setting, sS, varV, ei, cut_set, F.is_integer, F.is_prime, e1, e2, e3, e4, isIntB, c1, c2, chain_int, unpV, puts, Env.put, end_exc]
theorem cs_rest {p : Nat} {q t : Int} (hp : Pr p) (h : p ≤ 10007) (ht : -100 ≤ t) (ht2 : t ≤ 100) (hb : q < 1 ∨ 9 < q ∨ (p : Int) ≤ q ∨ t < 0 ∨ q < 2 * t + 1) : callN T (n + 2) 2 [.d (.tup [sS, .int p, .int q, .int t])] S = .exc ⟨1, []⟩ S := by
  rw [call_eq T_2 rfl]
  have hp2 := hp.lo
  have e1 := s_isint (n := n) (S := S.call) (d := .int p) trivial
  have e2 := s_isint (n := n) (S := S.call) (d := .int q) trivial
  have e3 := s_isint (n := n) (S := S.call) (d := .int t) trivial
  have e4 := s_primeP (n := n) (S := S.call) hp h
  have ei : ixV (.d (.tup [.str (Str.ofString "setting"), .int p, .int q, .int t])) (.d (.int 0)) S.call = .ok (.d (.str (Str.ofString "setting"))) S.call := ix_tup (k := 0) rfl
  have c1 : (2 : Int) ≤ p := by omega
  have c2 : (p : Int) ≤ 10007 := by omega
  have m1 : bop .mul (.int 2) (.int t) = some (.d (.int (2 * t))) := mul_l (by omega) (by omega)
  by_cases c3 : (1 : Int) ≤ q
  · by_cases c4 : q ≤ (9 : Int)
    · by_cases c5 : (p : Int) ≤ q
      · simp [d_check_setting, sS, varV, ei, cut_set, F.is_integer, F.is_prime, e1, e2, e3, e4, isIntB, c1, c2, c3, c4, c5, chain_int, unpV, puts, Env.put, end_exc]
      · by_cases c6 : t < 0
        · simp [d_check_setting, sS, varV, ei, cut_set, F.is_integer, F.is_prime, e1, e2, e3, e4, isIntB, c1, c2, c3, c4, c5, c6, chain_int, unpV, puts, Env.put, end_exc]
        · have c7 : q < 2 * t + 1 := by omega
          simp [d_check_setting, sS, varV, ei, cut_set, F.is_integer, F.is_prime, e1, e2, e3, e4, isIntB, c1, c2, c3, c4, c5, c6, c7, m1, chain_int, unpV, puts, Env.put, end_exc]
    · simp [d_check_setting, sS, varV, ei, cut_set, F.is_integer, F.is_prime, e1, e2, e3, e4, isIntB, c1, c2, c3, c4, chain_int, unpV, puts, Env.put, end_exc]
  · simp [d_check_setting, sS, varV, ei, cut_set, F.is_integer, F.is_prime, e1, e2, e3, e4, isIntB, c1, c2, c3, chain_int, unpV, puts, Env.put, end_exc]
theorem w_bad {d : D} (h : ∀ S, callN T (n + 2) 2 [.d d] S = .exc ⟨1, []⟩ S) : callN T (n + 3) 8 [.d d] S = .ok (.d (.str (Str.ofString "refused"))) S := by
  rw [call_eq T_8 rfl]
  simp [d__law_word, varV, F.check_setting, h]
  try rfl
theorem w_ok {p q t : Nat} (hs : SetOk p q t) : callN T (n + 3) 8 [.d (setD p q t)] S = .ok (.d (.str (Str.ofString ""))) S := by
  rw [call_eq T_8 rfl]
  have e := cs_ok (n := n) (S := S.call) hs
  simp [d__law_word, varV, F.check_setting, e]
  try rfl
def wrongs (w : Str) (p q t : Nat) : List D := [.tup [], .non, .int 5, sS, .tup [sS], .lst [sS, .int p, .int q, .int t], .tup [.str (Str.ofString "settings"), .int p, .int q, .int t], .tup [sS, .int p, .int q, .int t, .int 0], .tup [sS, .int p, .int q], .tup [.int 1, .int p, .int q, .int t]] ++
  [.tup [sS, .int 9, .int 1, .int 0], .tup [sS, .int 1, .int 1, .int 0], .tup [sS, .int 0, .int 1, .int 0], .tup [sS, .int (-7), .int 1, .int 0], .tup [sS, .int 10009, .int 1, .int 0], .tup [sS, .int 10001, .int 1, .int 0], .tup [sS, .bl true, .int 1, .int 0]] ++
  [.tup [sS, .int p, .int 0, .int 0], .tup [sS, .int p, .int p, .int 0], .tup [sS, .int 10007, .int 10, .int 0], .tup [sS, .int p, .int q, .int (-1)], .tup [sS, .int p, .int q, .int (((q : Int) + 1) / 2)], .tup [sS, .int p, .bl true, .int 0], .tup [sS, .int p, .int q, .bl false]] ++
  [.tup [sS, .str w, .int q, .int t], .tup [sS, .int p, .int q, .non], .tup [sS, .int p, .tup [.int q], .int t]]
theorem w_wrong {p q t : Nat} (hs : SetOk p q t) {x : D} {w : Str} (hx : x ∈ wrongs w p q t) : callN T (n + 3) 8 [.d x] S = .ok (.d (.str (Str.ofString "refused"))) S := by
  have htq := hs.tq
  have hq9 := hs.q9
  have hq1 := hs.q1
  have hqp := hs.qp
  have hpp := hs.hp
  have p7 : Pr 10007 := ⟨by decide, by decide, ferm_10007⟩
  refine w_bad fun S => ?_
  simp only [wrongs, List.mem_append, List.mem_cons, List.not_mem_nil, or_false] at hx
  rcases hx with ((((h | h | h | h | h | h | h | h | h | h) | (h | h | h | h | h | h | h)) | (h | h | h | h | h | h | h)) | (h | h | h)) <;> subst h
  · exact cs_bad (d := .tup []) (by decide)
  · exact cs_bad (d := .non) trivial
  · exact cs_bad (d := .int 5) trivial
  · exact cs_bad (d := .str (Str.ofString "setting")) trivial
  · exact cs_bad (d := .tup [sS]) (show 1 ≠ 4 by decide)
  · exact cs_bad (d := .lst _) trivial
  · exact cs_name (by unfold sS; simp)
  · exact cs_bad (d := .tup [_, _, _, _, _]) (show 5 ≠ 4 by decide)
  · exact cs_bad (d := .tup [_, _, _]) (show 3 ≠ 4 by decide)
  · exact cs_name rfl
  · exact cs_comp (p := 9) (by decide) (by decide) (k := 10) (by decide) (by decide)
  · exact cs_small (.inl (by decide))
  · exact cs_small (.inl (by decide))
  · exact cs_small (.inl (by decide))
  · exact cs_small (.inr (by decide))
  · exact cs_comp (p := 10001) (by decide) (by decide) (k := 100) (by decide) (by decide +kernel)
  · exact cs_kind trivial trivial trivial rfl
  · exact cs_rest hs.pr hpp (by omega) (by omega) (.inl (by omega))
  · exact cs_rest hs.pr hpp (by omega) (by omega) (.inr (.inr (.inl (by omega))))
  · exact cs_rest (p := 10007) p7 (by decide) (by omega) (by omega) (.inr (.inl (by omega)))
  · exact cs_rest hs.pr hpp (by omega) (by omega) (.inr (.inr (.inr (.inl (by omega)))))
  · exact cs_rest hs.pr hpp (by omega) (by omega) (.inr (.inr (.inr (.inr (by omega)))))
  · exact cs_kind trivial trivial trivial rfl
  · exact cs_kind trivial trivial trivial rfl
  · exact cs_kind trivial trivial trivial rfl
  · exact cs_kind trivial trivial trivial rfl
  · exact cs_kind trivial trivial trivial rfl

theorem hbody {ds : List Int} {k p q t : Nat} (hs : SetOk p q t) {a0 a2 a3 a4 a5 a6 : SV} {x : D} {w : Str} :
    evS (callN T 19) b_law_1 [some a0, some (.loc 0 0), some a2, some a3, some a4, some a5, some a6, some (.d (.lst (wrongs w p q t))), some (.d x)] (bx ds k [] [[]] []) = .ok (.next [some a0, some (.loc 0 0), some a2, some a3, some a4, some a5, some a6, some (.d (.lst (wrongs w p q t))), some (.d x)]) (bx ds (k + 1) [] [[]] []) := by
  obtain ⟨y, hy, e⟩ := s_pick (T := T) (n := 17) (S := bx ds k [] [[]] []) (u := 0) (j := 0) T_6 T_5 rfl (wrongs w p q t) (by simp [wrongs])
  rw [bx_set] at e
  have e2 := w_wrong (n := 16) (S := bx ds (k + 1) [] [[]] []) hs hy
  simp [b_law_1, varV, F._law_word, F._law_pick, e, e2]
theorem plain (ns : List Int) (hl : ns.length ≤ 63) : ∃ S', callN (tbl us) 20 F.law [.d (.rol (ns.map D.int))] ⟨[], [], []⟩ = .ok (.d (.bl true)) S' := by
  obtain ⟨ds, hd, hdl, e⟩ := s_digits (T := T) (n := 17) (S := ⟨[], [[]], []⟩) T_4 T_3 ns 0 63 (by omega) (by omega) (by omega)
  obtain ⟨p, q, t, hs, e2⟩ := x_setting (T := T) (n := 16) (ds := ds) (k := 0) (r := []) (o := [[]]) (g := []) T_7 T_6 T_5
  obtain ⟨w, hw⟩ : ∃ w, w = Str.ofString (toString (p : Int)) := ⟨_, rfl⟩
  have el := forL_fold (enc := fun (k : Nat) => D.int (k : Int)) (chk := (⟨(List.range 6).map fun k => D.int (k : Nat), none⟩ : Walk).chk) (put := putT (.one 8)) (body := evS (callN T 19) b_law_1) (n0 := 1)
    (ρ0 := [some (.d (.rol (ns.map D.int))), some (.loc 0 0), some (.d (setD p q t)), some (.d sS), some (.d (.int p)), some (.d (.int q)), some (.d (.int t)), some (.d (.lst (wrongs w p q t))), none])
    (fun _ => [some (.d (.rol (ns.map D.int))), some (.loc 0 0), some (.d (setD p q t)), some (.d sS), some (.d (.int p)), some (.d (.int q)), some (.d (.int t)), some (.d (.lst (wrongs w p q t))), none]) (fun (k : Nat) => bx ds k [] [[]] []) (fun k _ => k + 1)
    (fun l k => True)
    (fun r l k _ => ⟨rfl, _, _, _, rfl, hbody hs, rfl, rfl, trivial⟩)
    (fun s _ => rfl) (List.range 6) 3 trivial
  have e11 := el.1
  have w1 := w_ok (n := 16) (S := bx ds ((List.range 6).foldl (fun k _ => k + 1) 3) [] [[]] []) hs
  have w2 := w_ok (n := 16) (S := bx ds ((List.range 6).foldl (fun k _ => k + 1) 3) [] [[]] []) (p := 10007) (q := 9) (t := 4) ⟨⟨by decide, by decide, ferm_10007⟩, by decide, by decide, by decide, by decide, by decide⟩
  have w3 := w_ok (n := 16) (S := bx ds ((List.range 6).foldl (fun k _ => k + 1) 3) [] [[]] []) (p := 2) (q := 1) (t := 0) ⟨⟨by decide, by decide, ferm_2⟩, by decide, by decide, by decide, by decide, by decide⟩
  change callN T 19 8 [.d (.tup [.str (Str.ofString "setting"), .int 10007, .int 9, .int 4])] _ = _ at w2
  change callN T 19 8 [.d (.tup [.str (Str.ofString "setting"), .int 2, .int 1, .int 0])] _ = _ at w3
  have hb : (⟨[⟨false, .lst [.lst (ds.map D.int), .int 0]⟩], [[]], []⟩ : St) = bx ds 0 [] [[]] [] := rfl
  have ol : (bx ds 3 [] [[]] []).own.length = 1 := rfl
  have z2 : sz 2 = true := rfl
  have z17 : sz 17 = true := rfl
  have z24 : sz 24 = true := rfl
  have z27 : sz 27 = true := rfl
  have hadd : ∀ (A B : List D) (S : St), sz (A.length + B.length) = true → binV .add (.d (.lst A)) (.new (.lst B)) S = .ok (.new (.lst (A ++ B))) S := fun A B S h => by
    show lift1 (if sz (A.length + B.length) = true then some (RV.new (.lst (A ++ B))) else none) S = _
    rw [if_pos h]
    rfl
  have hstr : ∀ S : St, b1V .str (.d (.int (p : Int))) S = .ok (.d (.str w)) S := fun S => by
    rw [hw]
    have hpp := hs.hp
    show lift1 (if (decide (-1000000000000000000000 ≤ (p : Int)) && decide ((p : Int) ≤ 1000000000000000000000)) = true then some (.d (.str (Str.ofString (toString (p : Int))))) else none) S = _
    rw [if_pos (by simp; omega)]
    rfl
  have hat : ∀ (a b c d : D) (S : St), binV .add (.d (.tup [a, b, c, d])) (.d (.tup [.int 0])) S = .ok (.d (.tup [a, b, c, d, .int 0])) S := fun _ _ _ _ _ => rfl
  have hcut : ∀ a b c d : D, cut [a, b, c, d] none (some 3) = [a, b, c] := fun _ _ _ _ => rfl
  have f1 : bop .fdiv (.int ((q : Int) + 1)) (.int 2) = some (.d (.int (((q : Int) + 1) / 2))) := bop_div (by omega) (by omega)
  have z1 : sz 1 = true := rfl
  have z0 : sz 0 = true := rfl
  have z5 : sz 5 = true := rfl
  have z3 : sz 3 = true := rfl
  have z4 : sz 4 = true := rfl
  have z7 : sz 7 = true := rfl
  have z10 : sz 10 = true := rfl
  have hrg : rng1V (.d (.int 6)) (bx ds 3 [] [[]] []) = .ok ⟨(List.range 6).map fun k => D.int (k : Nat), none⟩ (bx ds 3 [] [[]] []) := rng1_nat (q := 6) (by omega)
  generalize (List.range 6).map (fun k => D.int (k : Nat)) = six at *
  generalize (List.range 6).foldl (fun k _ => k + 1) 3 = kk at *
  simp only [wrongs, setD, sS, List.cons_append, List.nil_append] at e11 w1
  refine ⟨⟨[], [], []⟩, ?_⟩
  show callN T (19 + 1) _ _ _ = _
  rw [call_eq T_9 rfl]
  simp [d_law, varV, St.call, F._law_digits, F._law_setting, F._law_word, e, z0, z1, z2, z3, z4, z5, z7, z10, hb, e2, setD, unpV, puts, Env.put, hadd, hat, hcut, f1, z17, z24, z27, hstr, hrg, ol, e11, w1, w2, w3]
  rfl
end U.L_k02

namespace U.L_k02
open PySem PySem.Spec PyProof.Rows L2 U
abbrev R : PySem.W.OpenRow := PySem.W.OpenLaw.row PySem.Challenge.rw_untold_k02_settings_checked
def dsU : List He.DefD := us.map fun u => u.d
abbrev hk : PySem.W.Hook := hookU 4 dsU (exB fns kon blt cls)
def ob (t : PySem.W.SharedT) : AlU := obsU 4 dsU (exB fns kon blt cls) (HandSHeadRun.getT t)
theorem ob_eq (t : PySem.W.SharedT) : ob t = hk.obs t.abs := obsU_eq (HandSHeadRun.getT_eq t)
def loose : List Str := (["UntoldError", "BadSetting", "BadProgram", "BadEntry", "BadState", "TooGreat", "is_prime", "MOST_PRIME", "MOST_PARTIES", "is_integer", "check_setting", "_law_cell", "_law_digits", "_law_draw", "_law_pick", "_law_setting", "_law_word"] : List Str)
set_option maxHeartbeats 0 in
theorem run (w : World) : HandSHeadRun.RunEq R (PySem.W.view R.prog [21]) hk ob 4000 loose w := by
  intro os
  kernel_rfl
end U.L_k02
open PySem PySem.W PySem.Calls PyProof.Rows
set_option maxHeartbeats 0 in
theorem PySem.Challenge.cw_untold_k02_settings_checked_holds : PySem.Challenge.rw_untold_k02_settings_checked.Holds := by
  w_on; o_law
  refine HandSHeadRun.head_any (r := U.L_k02.R) (q := view U.L_k02.R.prog [21]) (H := U.L_k02.hk) (ob := U.L_k02.ob) (M := 4000) (loose := U.L_k02.loose) (d := HandSHeadRun.topDef U.L_k02.R.prog 21) (kwd := []) U.L_k02.ob_eq
    (by kernel_rfl) (fun t => by kernel_rfl) U.L_k02.run (by kernel_rfl) (by kernel_rfl) (by kernel_rfl) (by rfl) (by first | assumption | decide +kernel) (by decide +kernel) ⟨rfl, rfl, rfl, rfl, rfl, by decide +kernel⟩ ?hw ?hc
  case hw => w_witness2
  case hc => exact U.law_U (l := PySem.Challenge.rw_untold_k02_settings_checked) (n := 63) (k := 20) (i := U.L_k02.F.law) (us := U.L_k02.us) (u := U.L_k02.u_law) rfl (by decide) (by kernel_rfl) ⟨rfl, by decide, by decide⟩ rfl rfl (by kernel_rfl) (by kernel_rfl) U.L_k02.all_ok U.L_k02.fo U.L_k02.plain
