import PyProof.Rows.All
import Wide.All
import OpenK.AllK
import Wide.FinOn
import HandS.ForMost
import HandS.TupMul
import HandS.TupAny
import HandS.SortInts
import HandS.Rev
import HandS.Conv
import HandS.Deep
import HandS.Ends
import HandS.RaiseMore
import HandS.TupSets
import HandS.NoneIn
import HandS.Head0
import HandS.Head1
import HandS.Head2
import HandS.HeadEnd
import HandS.HeadHook1
import HandS.HeadHook2
import HandS.Codes
import PySem.Challenge.RW_untold_k18_lies_are_read_through
set_option Elab.async false
set_option linter.all false
set_option maxRecDepth 100000
/-! UCore: data, state, the small tree language and its evaluator. -/
namespace U
open PySem

/-! ### data -/
inductive D where
  | non | bl (b : Bool) | int (i : Int) | str (s : Str) | tup (ds : List D) | lst (ds : List D) | dic (kvs : List (D × D)) | ref (i : Nat) | rol (ds : List D)
  deriving Inhabited

mutual
def D.beq : D → D → Bool
  | .non, .non => true
  | .bl a, .bl b => a == b
  | .int a, .int b => a == b
  | .str a, .str b => a == b
  | .tup a, .tup b => D.beqs a b
  | .lst a, .lst b => D.beqs a b
  | .dic a, .dic b => D.beqk a b
  | .ref a, .ref b => a == b
  | .rol a, .rol b => D.beqs a b
  | _, _ => false
def D.beqs : List D → List D → Bool
  | [], [] => true
  | x :: xs, y :: ys => D.beq x y && D.beqs xs ys
  | _, _ => false
def D.beqk : List (D × D) → List (D × D) → Bool
  | [], [] => true
  | (x, u) :: xs, (y, v) :: ys => D.beq x y && D.beq u v && D.beqk xs ys
  | _, _ => false
end
mutual
theorem D.beq_iff : ∀ a b : D, D.beq a b = true ↔ a = b
  | .non, b => by cases b <;> simp [D.beq]
  | .bl a, b => by cases b <;> simp [D.beq]
  | .int a, b => by cases b <;> simp [D.beq]
  | .str a, b => by cases b <;> simp [D.beq]
  | .tup a, b => by cases b <;> simp [D.beq, D.beqs_iff a]
  | .lst a, b => by cases b <;> simp [D.beq, D.beqs_iff a]
  | .dic a, b => by cases b <;> simp [D.beq, D.beqk_iff a]
  | .ref a, b => by cases b <;> simp [D.beq]
  | .rol a, b => by cases b <;> simp [D.beq, D.beqs_iff a]
theorem D.beqs_iff : ∀ a b : List D, D.beqs a b = true ↔ a = b
  | [], b => by cases b <;> simp [D.beqs]
  | x :: xs, b => by
    cases b with
    | nil => simp [D.beqs]
    | cons y ys => simp [D.beqs, D.beq_iff x y, D.beqs_iff xs ys]
theorem D.beqk_iff : ∀ a b : List (D × D), D.beqk a b = true ↔ a = b
  | [], b => by cases b <;> simp [D.beqk]
  | (x, u) :: xs, b => by
    cases b with
    | nil => simp [D.beqk]
    | cons y ys =>
      obtain ⟨y, v⟩ := y
      simp [D.beqk, D.beq_iff x y, D.beq_iff u v, D.beqk_iff xs ys]
end
instance : DecidableEq D := fun a b => if h : D.beq a b = true then isTrue ((D.beq_iff a b).mp h) else isFalse fun e => h ((D.beq_iff a b).mpr e)
end U

namespace U
open PySem

/-! ### state -/
inductive CO where
  | lst (ds : List D) | dic (kvs : List (D × D)) | ins (C : Nat) (fs : List (Str × D))
/-- frozen or still to be changed -/
structure LO where
  z : Bool
  c : CO
structure St where
  own : List LO
  out : List (List LO)
  gl : List LO
inductive SV where
  | d (d : D) | loc (u i : Nat)
inductive RV where
  | d (d : D) | loc (u i : Nat) | new (c : CO)
abbrev Env := List (Option SV)

def St.get (S : St) : Nat → Nat → Option LO
  | 0, i => S.own[i]?
  | u + 1, i => match S.out[u]? with
    | some l => l[i]?
    | none => none
def St.set (S : St) : Nat → Nat → LO → St
  | 0, i, x => { S with own := S.own.set i x }
  | u + 1, i, x => { S with out := S.out.modify u fun l => l.set i x }
def CO.dat : CO → D
  | .lst ds => .lst ds
  | .dic kvs => .dic kvs
  | .ins _ _ => .non

structure Exc where
  C : Nat
  as : List D
inductive Res (α : Type) where
  | ok (a : α) (S : St) | exc (e : Exc) (S : St) | bad
abbrev M (α : Type) := St → Res α
@[inline] def M.ret {α : Type} (a : α) : M α := fun S => .ok a S
@[inline] def M.bind {α β : Type} (m : M α) (f : α → M β) : M β := fun S => match m S with
  | .ok a S1 => f a S1
  | .exc e S1 => .exc e S1
  | .bad => .bad
def M.bad {α : Type} : M α := fun _ => .bad
def M.opt {α : Type} (o : Option α) : M α := fun S => match o with
  | some a => .ok a S
  | none => .bad
instance : Monad M where
  pure := M.ret
  bind := M.bind

/-- the content of a list or dict in the frames -/
def coAt (S : St) (u i : Nat) : Option CO := match S.get u i with
  | some o => some o.c
  | none => none
/-- a value as data, to be read now -/
def view (S : St) : RV → Option D
  | .d (.ref i) => match S.gl[i]? with
    | some ⟨_, .lst ds⟩ => some (.lst ds)
    | some ⟨_, .dic kvs⟩ => some (.dic kvs)
    | _ => some (.ref i)
  | .d d => some d
  | .loc u i => match coAt S u i with
    | some c => some c.dat
    | none => none
  | .new c => some c.dat
/-- a value as data, to be kept: what is in a frame is frozen -/
def keep : RV → M D
  | .d d => M.ret d
  | .new c => M.ret c.dat
  | .loc u i => fun S => match S.get u i with
    | some ⟨_, c⟩ => .ok c.dat (S.set u i ⟨true, c⟩)
    | none => .bad
/-- a value that waits while others are reckoned -/
def hold : RV → SV
  | .d d => .d d
  | .loc u i => .loc u i
  | .new c => .d c.dat
def SV.rv : SV → RV
  | .d x => .d x
  | .loc u i => .loc u i

/-! ### operators -/
inductive BOp where | add | sub | mul | mod | fdiv | pow
  deriving DecidableEq
inductive COp where | eq | ne | lt | le | gt | ge | isN | notN | in_ | notIn
  deriving DecidableEq
def sz (n : Nat) : Bool := decide (n ≤ 16777216)
def small64 (i : Int) : Bool := decide (-18446744073709551616 < i) && decide (i < 18446744073709551616)
def rep {α : Type} (k : Nat) (xs : List α) : List α := (List.replicate k xs).flatten
def bop : BOp → D → D → Option RV
  | .add, .int i, .int j => some (.d (.int (i + j)))
  | .add, .str s, .str t => if sz (s.length + t.length) then some (.d (.str (s ++ t))) else none
  | .add, .tup s, .tup t => if sz (s.length + t.length) then some (.d (.tup (s ++ t))) else none
  | .add, .lst s, .lst t => if sz (s.length + t.length) then some (.new (.lst (s ++ t))) else none
  | .sub, .int i, .int j => some (.d (.int (i - j)))
  | .mul, .int i, .int j => if small64 i || small64 j then some (.d (.int (i * j))) else none
  | .mul, .tup s, .int j => if decide (-1000 ≤ j) && decide (j ≤ 1000) && decide (s.length ≤ 1000) then some (.d (.tup (rep j.toNat s))) else none
  | .mul, .lst s, .int j => if decide (-1000000 ≤ j) && decide (j ≤ 1000000) && sz (s.length * j.toNat) then some (.new (.lst (rep j.toNat s))) else none
  | .mod, .int i, .int j => if 0 < j then some (.d (.int (i % j))) else none
  | .fdiv, .int i, .int j => if 0 < j ∧ j < 1073741824 then some (.d (.int (i / j))) else none
  | .pow, .int i, .int j => if 0 ≤ j ∧ j ≤ 1000 ∧ -1000000 ≤ i ∧ i ≤ 1000000 then some (.d (.int (i ^ j.toNat))) else none
  | _, _, _ => none
mutual
/-- data that may be compared: no bools, dicts, objects within; at most k deep -/
def plainB : Nat → D → Bool
  | _, .non => true
  | _, .int _ => true
  | _, .str s => PyData.strOk s
  | n + 1, .tup ds => plainBs n ds
  | n + 1, .lst ds => plainBs n ds
  | _, _ => false
def plainBs : Nat → List D → Bool
  | _, [] => true
  | n, d :: ds => plainB n d && plainBs n ds
end
def scalarB : D → Bool
  | .non => true
  | .bl _ => true
  | .int _ => true
  | .str _ => true
  | _ => false
def eqOk (a b : D) : Bool := match a, b with
  | .bl _, .int _ => false
  | .int _, .bl _ => false
  | a, b => (scalarB a && scalarB b) || (plainB 20 a && plainB 20 b)
def isNonB : D → Bool
  | .non => true
  | _ => false
def inOk (x : D) (ys : List D) : Bool := (scalarB x && ys.all fun y => scalarB y && eqOk y x) || (plainB 20 x && plainBs 20 ys)
def hasIn (x : D) (ys : List D) : Option Bool := if inOk x ys = true then some (ys.any fun y => D.beq y x) else none
def cop : COp → D → D → Option Bool
  | .eq, a, b => if eqOk a b then some (D.beq a b) else none
  | .ne, a, b => if eqOk a b then some (!D.beq a b) else none
  | .lt, .int i, .int j => some (decide (i < j))
  | .le, .int i, .int j => some (decide (i ≤ j))
  | .gt, .int i, .int j => some (decide (j < i))
  | .ge, .int i, .int j => some (decide (j ≤ i))
  | .isN, a, .non => some (isNonB a)
  | .notN, a, .non => some (!isNonB a)
  | .in_, a, .tup ds => hasIn a ds
  | .in_, a, .lst ds => hasIn a ds
  | .notIn, a, .tup ds => (hasIn a ds).map (!·)
  | .notIn, a, .lst ds => (hasIn a ds).map (!·)
  | _, _, _ => none

/-! ### places -/
def ixN (n : Nat) (i : Int) : Option Nat := if 0 ≤ i then (if i < n then some i.toNat else none) else if -(n : Int) ≤ i then some (i + n).toNat else none
def sIx (n d : Nat) : Option Int → Nat
  | none => d
  | some v => if v < 0 then (v + (n : Int)).toNat else min v.toNat n
def cut {α : Type} (xs : List α) (lo hi : Option Int) : List α := (xs.drop (sIx xs.length 0 lo)).take (sIx xs.length xs.length hi - sIx xs.length 0 lo)
def getIx : D → D → Option D
  | .tup ds, .int i => match ixN ds.length i with
    | some k => ds[k]?
    | none => none
  | .lst ds, .int i => match ixN ds.length i with
    | some k => ds[k]?
    | none => none
  | .rol ds, .int i => match ixN ds.length i with
    | some k => ds[k]?
    | none => none
  | .str s, .int i => if sz s.length = true then match ixN s.length i with
    | some k => match s.cps.toList[k]? with
      | some c => some (.str ⟨#[c]⟩)
      | none => none
    | none => none
    else none
  | _, _ => none
def getSl : D → Option Int → Option Int → Option RV
  | .tup ds, lo, hi => some (.d (.tup (cut ds lo hi)))
  | .lst ds, lo, hi => some (.new (.lst (cut ds lo hi)))
  | .str s, lo, hi => if sz s.length = true then some (.d (.str ⟨(cut s.cps.toList lo hi).toArray⟩)) else none
  | _, _, _ => none

/-! ### built-ins of one value -/
inductive B1 where | int | len | tuple | list | sum | str | repr | max | min | sorted | isTup | isStr | isInt | isBool | set | absV
  deriving DecidableEq
def intsD : List D → Option (List Int)
  | [] => some []
  | .int i :: r => (intsD r).map (i :: ·)
  | _ :: _ => none
def strsD : List D → Option (List Str)
  | [] => some []
  | .str i :: r => (strsD r).map (i :: ·)
  | _ :: _ => none
mutual
def D.py : D → PyData
  | .non => .none
  | .bl b => .bool b
  | .int i => .int i
  | .str s => .str s
  | .tup ds => .tuple (D.pys ds)
  | .lst ds => .list (D.pys ds)
  | .dic _ => .none
  | .ref _ => .none
  | .rol _ => .none
def D.pys : List D → List PyData
  | [] => []
  | d :: ds => D.py d :: D.pys ds
end
mutual
def showB : Nat → D → Bool
  | _, .non => true
  | _, .bl _ => true
  | _, .int i => decide (-1000000000000000000000 ≤ i) && decide (i ≤ 1000000000000000000000)
  | _, .str _ => true
  | n + 1, .tup ds => showBs n ds
  | n + 1, .lst ds => showBs n ds
  | _, _ => false
def showBs : Nat → List D → Bool
  | _, [] => true
  | n, d :: ds => showB n d && showBs n ds
end
def maxL : List Int → Option Int
  | [] => none
  | x :: r => some (r.foldl (fun a b => if b > a then b else a) x)
def minL : List Int → Option Int
  | [] => none
  | x :: r => some (r.foldl (fun a b => if b < a then b else a) x)
def items : D → Option (List D)
  | .tup ds => some ds
  | .lst ds => some ds
  | _ => none
def insI (x : Int) : List Int → List Int
  | [] => [x]
  | y :: r => if x ≤ y then x :: y :: r else y :: insI x r
def sortI (l : List Int) : List Int := l.foldr insI []
/-! tuples of ints, in order -/
def tupI : D → Option (List Int)
  | .tup ds => intsD ds
  | _ => none
def tupsI : List D → Option (List (List Int))
  | [] => some []
  | d :: r => match tupI d with
    | some n => (tupsI r).map (n :: ·)
    | none => none
def bdB (ns : List Int) : Bool := ns.all fun i => decide (0 ≤ i) && decide (i < 1048576)
def okT (d : Nat) (l : List (List Int)) : Bool := decide (1 ≤ d) && decide (l.length < 64) && l.all fun m => decide (m.length = d) && bdB m
def cdI : List Int → Int
  | [] => 0
  | d :: r => d * 1048576 ^ r.length + cdI r
def insT (x : List Int) : List (List Int) → List (List Int)
  | [] => [x]
  | y :: r => if cdI x ≤ cdI y then x :: y :: r else y :: insT x r
def sortT (l : List (List Int)) : List (List Int) := l.foldr insT []
def tiD (n : List Int) : D := .tup (n.map .int)
def sortedD (ds : List D) : Option RV := match intsD ds with
  | some ns => some (.new (.lst ((sortI ns).map .int)))
  | none => match tupsI ds with
    | some (n :: l) => if okT n.length (n :: l) = true then some (.new (.lst ((sortT (n :: l)).map tiD))) else none
    | _ => none
def blt1 : B1 → D → Option RV
  | .int, .int i => some (.d (.int i))
  | .int, .bl b => some (.d (.int (if b then 1 else 0)))
  | .len, .str s => if sz s.length = true then some (.d (.int s.length)) else none
  | .len, .tup ds => some (.d (.int ds.length))
  | .len, .lst ds => some (.d (.int ds.length))
  | .len, .rol ds => some (.d (.int ds.length))
  | .tuple, .tup ds => some (.d (.tup ds))
  | .tuple, .lst ds => some (.d (.tup ds))
  | .list, .tup ds => some (.new (.lst ds))
  | .list, .lst ds => some (.new (.lst ds))
  | .sum, .lst ds => (intsD ds).map fun ns => .d (.int ns.sum)
  | .max, .lst ds => match intsD ds with
    | some ns => (maxL ns).map fun m => .d (.int m)
    | none => none
  | .min, .lst ds => match intsD ds with
    | some ns => (minL ns).map fun m => .d (.int m)
    | none => none
  | .sorted, .lst ds => sortedD ds
  | .str, .int i => if decide (-1000000000000000000000 ≤ i) && decide (i ≤ 1000000000000000000000) then some (.d (.str (Str.ofString (toString i)))) else none
  | .str, .str s => some (.d (.str s))
  | .repr, d => if showB 20 d && sz (PyData.shown d.py).length then some (.d (.str (PyData.shown d.py))) else none
  | _, _ => none
def blt2 : B1 → D → D → Option RV
  | .max, .int i, .int j => some (.d (.int (if j > i then j else i)))
  | .min, .int i, .int j => some (.d (.int (if j < i then j else i)))
  | _, _, _ => none
end U

namespace U
open PySem

/-! ### trees -/
inductive Tg where | one (i : Nat) | many (is : List Nat)
inductive IK where | seq | rng1 | rng2 | rngD | rev | zip
  deriving DecidableEq
inductive M1 where | append | extend | popAt | join | index
  deriving DecidableEq
inductive DE where
  | con (d : D)
  | var (i : Nat)
  | nil
  | cons (a r : DE)
  | tup (es : DE)
  | lst (es : DE)
  | bin (op : BOp) (a b : DE)
  | cmp (op : COp) (a b : DE)
  | chain (op op2 : COp) (a b c : DE)
  | neg (a : DE)
  | not (a : DE)
  | and (a b : DE)
  | or (a b : DE)
  | ife (t a b : DE)
  | call (f : Nat) (es : DE)
  | b1 (b : B1) (a : DE)
  | b2 (b : B1) (a c : DE)
  | trng (l : Bool) (a b : DE)
  | ix (a i : DE)
  | sl (a lo hi : DE)
  | wk (ik : IK) (a b : DE)
  | lc (elt : DE) (tg : Tg) (it : DE) (cond : DE) (vs : List Nat)
  | m1 (m : M1) (o a : DE)
  | dis (ks : List Str) (vs : DE)
  | dgt (o k d : DE)
  | lens (a : DE)
inductive DS where
  | skip
  | seq (a b : DS)
  | expr (e : DE)
  | set (i : Nat) (m : Bool) (e : DE)
  | unp (is : List Nat) (e : DE)
  | setIx (o i e : DE)
  | ret (e : DE)
  | retN
  | ife (c : DE) (a b : DS)
  | for_ (tg : Tg) (it : DE) (body : DS)
  | whl (c : DE) (body : DS)
  | brk
  | cont
  | rai

/-! ### the evaluator -/
def Env.put (ρ : Env) (i : Nat) (d : D) : Env := ρ.set i (some (.d d))
def puts : List Nat → List D → Env → Option Env
  | [], [], ρ => some ρ
  | i :: is, d :: ds, ρ => puts is ds (ρ.put i d)
  | _, _, _ => none
def putT : Tg → D → Env → Option Env
  | .one i, d, ρ => some (ρ.put i d)
  | .many is, .tup ds, ρ => puts is ds ρ
  | .many _, _, _ => none
def wipeE : Env → List Nat → Env
  | ρ, [] => ρ
  | ρ, v :: vs => (wipeE ρ vs).set v none

inductive Flow where | next (ρ : Env) | brk (ρ : Env) | cont (ρ : Env) | ret (r : RV)

def truth : RV → Option Bool
  | .d (.bl b) => some b
  | _ => none

/-- what a walk goes over, and where it stands -/
structure Walk where
  xs : List D
  at_ : Option (Nat × Nat)
def Walk.chk (w : Walk) (S : St) : Bool := match w.at_ with
  | none => true
  | some (u, i) => match S.get u i with
    | some ⟨_, .lst ds⟩ => decide (ds = w.xs)
    | _ => false

def rngUp (lo : Int) : Nat → List D
  | 0 => []
  | n + 1 => .int lo :: rngUp (lo + 1) n
def rngDn (lo : Int) : Nat → List D
  | 0 => []
  | n + 1 => .int lo :: rngDn (lo - 1) n
def big62 (i : Int) : Bool := decide (-4611686018427387904 ≤ i) && decide (i < 4611686018427387904)
def strItems (s : Str) : List D := s.cps.toList.map fun c => .str ⟨#[c]⟩
def zipT : List D → List D → List D
  | x :: xs, y :: ys => .tup [x, y] :: zipT xs ys
  | _, _ => []

def walkSeq (r : RV) : M Walk := fun S => match r with
  | .loc u i => match S.get u i with
    | some ⟨_, .lst ds⟩ => .ok ⟨ds, some (u, i)⟩ S
    | _ => .bad
  | .new (.lst ds) => .ok ⟨ds, none⟩ S
  | .d (.tup ds) => .ok ⟨ds, none⟩ S
  | .d (.lst ds) => .ok ⟨ds, none⟩ S
  | .d (.str s) => .ok ⟨strItems s, none⟩ S
  | _ => .bad
def dataInt (r : RV) : Option Int := match r with
  | .d (.int i) => some i
  | _ => none

/-- a comprehension's turns -/
def compL (chk : St → Bool) (put : D → Option Env) (cond elt : Env → M RV) : List D → M (List D)
  | [] => fun S => if chk S = true then .ok [] S else .bad
  | x :: xs => fun S => if chk S = true then match put x with
    | none => .bad
    | some ρ => match cond ρ S with
      | .ok c S1 => match truth c with
        | some true => match elt ρ S1 with
          | .ok y S2 => match keep y S2 with
            | .ok d S3 => match compL chk put cond elt xs S3 with
              | .ok ds S4 => .ok (d :: ds) S4
              | _ => .bad
            | _ => .bad
          | _ => .bad
        | some false => compL chk put cond elt xs S1
        | none => .bad
      | _ => .bad
    else .bad

/-- behind a turn: names that had no value ahead of the loop have none, and lists that no name holds are dropped -/
def mask : Env → Env → Env
  | some _ :: a, v :: b => v :: mask a b
  | none :: a, _ :: b => none :: mask a b
  | [], b => b
  | _ :: _, [] => []
def ownFree (n : Nat) : Env → Bool
  | [] => true
  | some (.loc 0 i) :: r => decide (i < n) && ownFree n r
  | _ :: r => ownFree n r
def trim (n : Nat) (ρ : Env) (S : St) : St := if ownFree n ρ = true then { S with own := S.own.take n } else S

def forL (chk : St → Bool) (put : D → Env → Option Env) (body : Env → M Flow) (ρ0 : Env) (n0 : Nat) : List D → Env → M Flow
  | [], ρ => fun S => if chk S = true then .ok (.next ρ) S else .bad
  | x :: xs, ρ => fun S => if chk S = true then match put x ρ with
    | none => .bad
    | some ρ1 => match body ρ1 S with
      | .ok (.next ρ2) S2 => forL chk put body ρ0 n0 xs (mask ρ0 ρ2) (trim n0 (mask ρ0 ρ2) S2)
      | .ok (.cont ρ2) S2 => forL chk put body ρ0 n0 xs (mask ρ0 ρ2) (trim n0 (mask ρ0 ρ2) S2)
      | .ok (.brk ρ2) S2 => .ok (.next (mask ρ0 ρ2)) (trim n0 (mask ρ0 ρ2) S2)
      | .ok (.ret r) S2 => .ok (.ret r) S2
      | .exc e S2 => .exc e S2
      | .bad => .bad
    else .bad
def whL (c : Env → M RV) (body : Env → M Flow) (ρ0 : Env) (n0 : Nat) : Nat → Env → M Flow
  | 0, _ => fun _ => .bad
  | n + 1, ρ => fun S => match c ρ S with
    | .ok v S1 => match truth v with
      | some true => match body ρ S1 with
        | .ok (.next ρ2) S2 => whL c body ρ0 n0 n (mask ρ0 ρ2) (trim n0 (mask ρ0 ρ2) S2)
        | .ok (.cont ρ2) S2 => whL c body ρ0 n0 n (mask ρ0 ρ2) (trim n0 (mask ρ0 ρ2) S2)
        | .ok (.brk ρ2) S2 => .ok (.next (mask ρ0 ρ2)) (trim n0 (mask ρ0 ρ2) S2)
        | .ok (.ret r) S2 => .ok (.ret r) S2
        | .exc e S2 => .exc e S2
        | .bad => .bad
      | some false => .ok (.next ρ) S1
      | none => .bad
    | .exc e S1 => .exc e S1
    | .bad => .bad

def idxOf (x : D) : List D → Option Nat
  | [] => none
  | y :: r => if D.beq y x then some 0 else (idxOf x r).map (· + 1)
/-- a method with one argument -/
def meth1 (m : M1) (o : SV) (a : RV) : M RV := match m, o with
  | .append, .loc u i => M.bind (keep a) fun y => fun S => match S.get u i with
    | some ⟨false, .lst ds⟩ => if ds.length < 16777216 then .ok (.d .non) (S.set u i ⟨false, .lst (ds ++ [y])⟩) else .bad
    | _ => .bad
  | .extend, .loc u i => fun S => match S.get u i, (view S a).bind items with
    | some ⟨false, .lst ds⟩, some ys => if ds.length + ys.length ≤ 16777216 then .ok (.d .non) (S.set u i ⟨false, .lst (ds ++ ys)⟩) else .bad
    | _, _ => .bad
  | .popAt, .loc u i => fun S => match S.get u i, a with
    | some ⟨false, .lst ds⟩, .d (.int k) => if decide (-1000000000 ≤ k) && decide (k ≤ 1000000000) then match ixN ds.length k with
      | some j => match ds[j]? with
        | some x => .ok (.d x) (S.set u i ⟨false, .lst (ds.eraseIdx j)⟩)
        | none => .bad
      | none => .bad
      else .bad
    | _, _ => .bad
  | .join, .d (.str s) => fun S => match (view S a).bind items with
    | some ds => match strsD ds with
      | some ss => if sz ((ss.map (·.length)).sum + ss.length * s.length) = true then .ok (.d (.str (Txt.join s ss))) S else .bad
      | none => .bad
    | none => .bad
  | .index, o => fun S => match view S o.rv, view S a with
    | some (.lst ds), some x => if (scalarB x && ds.all fun y => scalarB y && eqOk y x) = true then match idxOf x ds with
      | some k => .ok (.d (.int k)) S
      | none => .bad
      else .bad
    | _, _ => .bad
  | _, _ => fun _ => .bad

/-- what a method is called of -/
def recvOk : M1 → Option D → Bool
  | .join, some (.str _) => true
  | .join, _ => false
  | _, some (.lst _) => true
  | _, _ => false
def asPart (r : RV) : Option Int := match r with
  | .d (.int i) => some i
  | _ => none

/-! dicts with written keys, kept as they are -/
def zipK : List Str → List D → List (D × D)
  | k :: ks, d :: ds => (.str k, d) :: zipK ks ds
  | _, _ => []
def disOk (ks : List Str) (ds : List D) : Bool := decide ks.Nodup && (decide (ks.length = ds.length) && (decide (1 ≤ ks.length) && decide (ks.length ≤ 15)))
def lookS (s : Str) : List (D × D) → Option D
  | [] => none
  | (.str k, d) :: r => if k = s then some d else lookS s r
  | _ :: r => lookS s r
def dgtV (x y : RV) (dz : D) : Option RV := match x, y with
  | .d (.dic kvs), .d (.str s) => some (.d ((lookS s kvs).getD dz))
  | _, _ => none
def isDic : RV → Bool
  | .d (.dic _) => true
  | _ => false
/-- len(set(..)) of a list of ints -/
def lensV (d : D) : Option RV := match d with
  | .lst ds => match intsD ds with
    | some ns => if decide (ns.length ≤ 4000) = true then some (.d (.int (PyProof.Rows.firstMet (fun i => ns.getD i 0) ns.length).length)) else none
    | none => none
  | _ => none

mutual
def evE (C : Nat → List SV → M RV) : DE → Env → M RV
  | .con d, _ => M.ret (.d d)
  | .var i, ρ => fun S => match ρ[i]? with
    | some (some v) => .ok v.rv S
    | _ => .bad
  | .tup es, ρ => M.bind (evK C es ρ) fun ds => fun S => if sz ds.length = true then .ok (.d (.tup ds)) S else .bad
  | .lst es, ρ => M.bind (evK C es ρ) fun ds => fun S => if sz ds.length = true then .ok (.new (.lst ds)) S else .bad
  | .bin op a b, ρ => M.bind (evE C a ρ) fun x => M.bind (evE C b ρ) fun y => fun S => match view S (hold x).rv, view S y with
    | some d, some e => M.opt (bop op d e) S
    | _, _ => .bad
  | .cmp op a b, ρ => M.bind (evE C a ρ) fun x => M.bind (evE C b ρ) fun y => fun S => match view S (hold x).rv, view S y with
    | some d, some e => match cop op d e with
      | some c => .ok (.d (.bl c)) S
      | none => .bad
    | _, _ => .bad
  | .chain op op2 a b c, ρ => M.bind (evE C a ρ) fun x => M.bind (evE C b ρ) fun y => fun S => match view S (hold x).rv, view S (hold y).rv with
    | some d, some e => match cop op d e with
      | some true => M.bind (evE C c ρ) (fun z => fun S1 => match view S1 (hold y).rv, view S1 z with
        | some e', some f => match cop op2 e' f with
          | some r => .ok (.d (.bl r)) S1
          | none => .bad
        | _, _ => .bad) S
      | some false => .ok (.d (.bl false)) S
      | none => .bad
    | _, _ => .bad
  | .neg a, ρ => M.bind (evE C a ρ) fun x => match x with
    | .d (.int i) => M.ret (.d (.int (-i)))
    | _ => M.bad
  | .not a, ρ => M.bind (evE C a ρ) fun x => match truth x with
    | some b => M.ret (.d (.bl (!b)))
    | none => M.bad
  | .and a b, ρ => M.bind (evE C a ρ) fun x => match truth x with
    | some true => evE C b ρ
    | some false => M.ret (.d (.bl false))
    | none => M.bad
  | .or a b, ρ => M.bind (evE C a ρ) fun x => match truth x with
    | some true => M.ret (.d (.bl true))
    | some false => evE C b ρ
    | none => M.bad
  | .ife t a b, ρ => M.bind (evE C t ρ) fun x => match truth x with
    | some true => evE C a ρ
    | some false => evE C b ρ
    | none => M.bad
  | .call f es, ρ => M.bind (evA C es ρ) fun vs => C f vs
  | .b1 b a, ρ => M.bind (evE C a ρ) fun x => fun S => match view S x with
    | some d => M.opt (blt1 b d) S
    | none => .bad
  | .b2 b a c, ρ => M.bind (evE C a ρ) fun x => M.bind (evE C c ρ) fun y => fun S => match view S (hold x).rv, view S y with
    | some d, some e => M.opt (blt2 b d e) S
    | _, _ => .bad
  | .trng l a b, ρ => M.bind (evE C a ρ) fun x => M.bind (evE C b ρ) fun y => match dataInt x, dataInt y with
    | some i, some j => if (big62 i && big62 j && decide ((j - i).toNat ≤ 1000000)) = true then M.ret (if l then .new (.lst (rngUp i (j - i).toNat)) else .d (.tup (rngUp i (j - i).toNat))) else M.bad
    | _, _ => M.bad
  | .ix a i, ρ => M.bind (evE C a ρ) fun x => M.bind (evE C i ρ) fun y => fun S => match view S (hold x).rv, view S y with
    | some d, some e => match getIx d e with
      | some v => .ok (.d v) S
      | none => .bad
    | _, _ => .bad
  | .sl a lo hi, ρ => M.bind (evE C a ρ) fun x => M.bind (evP C lo ρ) fun l => M.bind (evP C hi ρ) fun h => fun S => match view S (hold x).rv with
    | some d => M.opt (getSl d l h) S
    | none => .bad
  | .lc elt tg it cond vs, ρ => M.bind (evW C it ρ) fun w => M.bind (compL w.chk (fun x => putT tg x (wipeE ρ vs)) (evE C cond) (evE C elt) w.xs) fun ds => fun S => if sz ds.length = true then .ok (.new (.lst ds)) S else .bad
  | .m1 m o a, ρ => M.bind (evE C o ρ) fun x => fun S1 => if recvOk m (view S1 x) = true then M.bind (evE C a ρ) (fun y => meth1 m (hold x) y) S1 else .bad
  | .dis ks vs, ρ => M.bind (evK C vs ρ) fun ds => fun S => if disOk ks ds = true then .ok (.d (.dic (zipK ks ds))) S else .bad
  | .dgt o k d, ρ => M.bind (evE C o ρ) fun x => fun S1 => if isDic x = true then M.bind (evE C k ρ) (fun y => M.bind (evE C d ρ) fun z => M.bind (keep z) fun dz => M.opt (dgtV x y dz)) S1 else .bad
  | .lens a, ρ => M.bind (evE C a ρ) fun x => fun S => match view S x with
    | some d => M.opt (lensV d) S
    | none => .bad
  | .nil, _ => M.bad
  | .cons _ _, _ => M.bad
  | .wk _ _ _, _ => M.bad
/-- arguments -/
def evA (C : Nat → List SV → M RV) : DE → Env → M (List SV)
  | .nil, _ => M.ret []
  | .cons a r, ρ => M.bind (evE C a ρ) fun x => M.bind (evA C r ρ) fun xs => M.ret (hold x :: xs)
  | _, _ => M.bad
/-- items, kept as data -/
def evK (C : Nat → List SV → M RV) : DE → Env → M (List D)
  | .nil, _ => M.ret []
  | .cons a r, ρ => M.bind (evE C a ρ) fun x => M.bind (keep x) fun d => M.bind (evK C r ρ) fun ds => M.ret (d :: ds)
  | _, _ => M.bad
/-- a part of a slice -/
def evP (C : Nat → List SV → M RV) : DE → Env → M (Option Int)
  | .nil, _ => M.ret none
  | .cons a _, ρ => M.bind (evE C a ρ) fun x => match dataInt x with
    | some i => M.ret (some i)
    | none => M.bad
  | _, _ => M.bad
/-- what is walked -/
def evW (C : Nat → List SV → M RV) : DE → Env → M Walk
  | .wk .seq a _, ρ => M.bind (evE C a ρ) walkSeq
  | .wk .rng1 a _, ρ => M.bind (evE C a ρ) fun x => match dataInt x with
    | some j => if big62 j = true then M.ret ⟨rngUp 0 j.toNat, none⟩ else M.bad
    | none => M.bad
  | .wk .rng2 a b, ρ => M.bind (evE C a ρ) fun x => M.bind (evE C b ρ) fun y => match dataInt x, dataInt y with
    | some i, some j => if (big62 i && big62 j) = true then M.ret ⟨rngUp i (j - i).toNat, none⟩ else M.bad
    | _, _ => M.bad
  | .wk .rngD a b, ρ => M.bind (evE C a ρ) fun x => M.bind (evE C b ρ) fun y => match dataInt x, dataInt y with
    | some i, some j => if (big62 i && big62 j) = true then M.ret ⟨rngDn i (i - j).toNat, none⟩ else M.bad
    | _, _ => M.bad
  | .wk .rev a _, ρ => M.bind (evE C a ρ) fun x => M.bind (keep x) fun d => match items d with
    | some ds => M.ret ⟨ds.reverse, none⟩
    | none => M.bad
  | .wk .zip a b, ρ => M.bind (evE C a ρ) fun x => M.bind (evE C b ρ) fun y => M.bind (walkSeq (hold x).rv) fun w => M.bind (walkSeq y) fun v => if w.at_.isNone && v.at_.isNone then M.ret ⟨zipT w.xs v.xs, none⟩ else M.bad
  | _, _ => M.bad
end

/-- what may be unpacked -/
def unpD : RV → Option (List D)
  | .d (.tup ds) => some ds
  | .d (.lst ds) => some ds
  | .new (.lst ds) => some ds
  | _ => none
def evS (C : Nat → List SV → M RV) : DS → Env → M Flow
  | .skip, ρ => M.ret (.next ρ)
  | .seq a b, ρ => M.bind (evS C a ρ) fun f => match f with
    | .next ρ1 => evS C b ρ1
    | f => M.ret f
  | .expr e, ρ => M.bind (evE C e ρ) fun _ => M.ret (.next ρ)
  | .set i m e, ρ => M.bind (evE C e ρ) fun r => match r, m with
    | .new c, true => fun S => .ok (.next (ρ.set i (some (.loc 0 S.own.length)))) { S with own := S.own ++ [⟨false, c⟩] }
    | r, _ => M.ret (.next (ρ.set i (some (hold r))))
  | .unp is e, ρ => M.bind (evE C e ρ) fun r => match unpD r with
    | some ds => match puts is ds ρ with
      | some ρ1 => M.ret (.next ρ1)
      | none => M.bad
    | none => M.bad
  | .setIx o i e, ρ => M.bind (evE C e ρ) fun v => M.bind (keep v) fun d => M.bind (evE C o ρ) fun r => M.bind (evE C i ρ) fun k => match r, dataInt k with
    | .loc u j, some k => fun S => match S.get u j with
      | some ⟨false, .lst ds⟩ => match ixN ds.length k with
        | some n => .ok (.next ρ) (S.set u j ⟨false, .lst (ds.set n d)⟩)
        | none => .bad
      | _ => .bad
    | _, _ => M.bad
  | .ret e, ρ => M.bind (evE C e ρ) fun r => M.ret (.ret r)
  | .retN, _ => M.ret (.ret (.d .non))
  | .ife c a b, ρ => M.bind (evE C c ρ) fun x => match truth x with
    | some true => evS C a ρ
    | some false => evS C b ρ
    | none => M.bad
  | .for_ tg it body, ρ => M.bind (evW C it ρ) fun w => fun S => forL w.chk (putT tg) (evS C body) ρ S.own.length w.xs ρ S
  | .whl c body, ρ => fun S => whL (evE C c) (evS C body) ρ S.own.length 1000000000 ρ S
  | .brk, ρ => M.ret (.brk ρ)
  | .cont, ρ => M.ret (.cont ρ)
  | .rai, _ => M.bad

/-! ### defs -/
structure FD where
  np : Nat
  ns : Nat
  body : DS
def shift : SV → SV
  | .d d => .d d
  | .loc u i => .loc (u + 1) i
/-- behind a call: the frame is dropped -/
def popS (S : St) : Option St := match S.out with
  | l :: r => some ⟨l, r, S.gl⟩
  | [] => none
def leave (S : St) (r : RV) : Res RV := match popS S with
  | none => .bad
  | some S' => match r with
    | .d d => .ok (.d d) S'
    | .new c => .ok (.new c) S'
    | .loc (u + 1) i => .ok (.loc u i) S'
    | .loc 0 i => match S.own[i]? with
      | some ⟨false, c⟩ => .ok (.new c) S'
      | some ⟨true, c⟩ => .ok (.d c.dat) S'
      | none => .bad
def runF (C : Nat → List SV → M RV) (F : FD) (vs : List SV) : M RV := fun S =>
  if vs.length = F.np then match evS C F.body ((vs.map fun v => some (shift v)) ++ List.replicate (F.ns - F.np) none) ⟨[], S.own :: S.out, S.gl⟩ with
    | .ok (.ret r) S1 => leave S1 r
    | .ok (.next _) S1 => leave S1 (.d .non)
    | .ok _ _ => .bad
    | .exc e S1 => match popS S1 with
      | some S2 => .exc e S2
      | none => .bad
    | .bad => .bad
  else .bad
def callN (T : Nat → Option FD) : Nat → Nat → List SV → M RV
  | 0, _, _ => fun _ => .bad
  | n + 1, f, vs => match T f with
    | some F => runF (callN T n) F vs
    | none => fun _ => .bad
end U

/-! URel: how the evaluator's state lies in the hand layer's heap. -/
namespace U
open PySem PySem.Spec PyProof.Rows L2

/-- where things lie: what is frozen, the frames' lists, the objects -/
structure W where
  F : Hp
  own : List Addr
  out : List (List Addr)
  gl : List Addr
  ex : List (Addr × HO)
def W.ad (w : W) : Nat → Nat → Option Addr
  | 0, i => w.own[i]?
  | u + 1, i => match w.out[u]? with
    | some l => l[i]?
    | none => none

section
variable (K : PySem.W.Frag)
def RKey (k : D) (key : Key) : Prop := match k with
  | .int i => key = .inl i
  | .str s => key = .inr s
  | _ => False
mutual
def RD (F : Hp) (g : List Addr) : D → V → Prop
  | .non, v => v = .non
  | .bl b, v => v = .bl b
  | .int i, v => v = .int i
  | .str s, v => v = .str s
  | .tup ds, v => ∃ a vs, v = .ref a ∧ SqT K F a vs ∧ RDs F g ds vs
  | .lst ds, v => ∃ a vs, v = .ref a ∧ F a = some (.lst vs) ∧ RDs F g ds vs
  | .dic kvs, v => ∃ a us, v = .ref a ∧ F a = some (.dK us) ∧ RDk F g kvs us
  | .ref i, v => ∃ a, g[i]? = some a ∧ v = .ref a
  | .rol ds, v => ∃ a vs, v = .ref a ∧ SqL K F a vs ∧ RDs F g ds vs
def RDs (F : Hp) (g : List Addr) : List D → List V → Prop
  | [], vs => vs = []
  | d :: ds, vs => ∃ v r, vs = v :: r ∧ RD F g d v ∧ RDs F g ds r
def RDk (F : Hp) (g : List Addr) : List (D × D) → List (Key × V) → Prop
  | [], us => us = []
  | (k, d) :: r, us => ∃ key v us', us = (key, v) :: us' ∧ RKey k key ∧ RD F g d v ∧ RDk F g r us'
end
def sub (F F' : Hp) : Prop := ∀ a o, F a = some o → F' a = some o
theorem sub.refl (F : Hp) : sub F F := fun _ _ h => h
theorem sub.trans {F F1 F2 : Hp} (a : sub F F1) (b : sub F1 F2) : sub F F2 := fun c o h => b c o (a c o h)
theorem sub.rd {F F' : Hp} (s : sub F F') {a : Addr} {u : HO} (h : Rd F a u) : Rd F' a u := h.elim (fun z => .inl (s _ _ z)) fun ⟨o, z⟩ => .inr ⟨o, s _ _ z⟩
theorem sub.sqL {F F' : Hp} (s : sub F F') {a : Addr} {xs : List V} (h : SqL K F a xs) : SqL K F' a xs := h.elim (fun z => .inl (s.rd z)) .inr
theorem sub.sqT {F F' : Hp} (s : sub F F') {a : Addr} {xs : List V} (h : SqT K F a xs) : SqT K F' a xs := h.elim (fun z => .inl (s.rd z)) .inr
def pre (g g' : List Addr) : Prop := ∃ m, g' = g ++ m
theorem pre.refl (g : List Addr) : pre g g := ⟨[], (List.append_nil g).symm⟩
theorem pre.trans {g g1 g2 : List Addr} (a : pre g g1) (b : pre g1 g2) : pre g g2 := by
  obtain ⟨m, rfl⟩ := a; obtain ⟨n, rfl⟩ := b; exact ⟨m ++ n, by rw [List.append_assoc]⟩
theorem pre.get {g g' : List Addr} (a : pre g g') {i : Nat} {x : Addr} (h : g[i]? = some x) : g'[i]? = some x := by
  obtain ⟨m, rfl⟩ := a
  rw [List.getElem?_append_left (List.getElem?_eq_some_iff.mp h).1]
  exact h
mutual
theorem RD.mono {F F' : Hp} {g g' : List Addr} (s : sub F F') (p : pre g g') : ∀ (d : D) {v : V}, RD K F g d v → RD K F' g' d v
  | .non, _, h => h
  | .bl _, _, h => h
  | .int _, _, h => h
  | .str _, _, h => h
  | .tup ds, _, ⟨a, vs, e, q, r⟩ => ⟨a, vs, e, s.sqT K q, RDs.mono s p ds r⟩
  | .lst ds, _, ⟨a, vs, e, q, r⟩ => ⟨a, vs, e, s _ _ q, RDs.mono s p ds r⟩
  | .rol ds, _, ⟨a, vs, e, q, r⟩ => ⟨a, vs, e, s.sqL K q, RDs.mono s p ds r⟩
  | .dic kvs, _, ⟨a, us, e, q, r⟩ => ⟨a, us, e, s _ _ q, RDk.mono s p kvs r⟩
  | .ref _, _, ⟨a, q, e⟩ => ⟨a, p.get q, e⟩
theorem RDs.mono {F F' : Hp} {g g' : List Addr} (s : sub F F') (p : pre g g') : ∀ (ds : List D) {vs : List V}, RDs K F g ds vs → RDs K F' g' ds vs
  | [], _, h => h
  | d :: ds, _, ⟨v, r, e, q, t⟩ => ⟨v, r, e, RD.mono s p d q, RDs.mono s p ds t⟩
theorem RDk.mono {F F' : Hp} {g g' : List Addr} (s : sub F F') (p : pre g g') : ∀ (kvs : List (D × D)) {us : List (Key × V)}, RDk K F g kvs us → RDk K F' g' kvs us
  | [], _, h => h
  | (k, d) :: r, _, ⟨key, v, us', e, q, t, z⟩ => ⟨key, v, us', e, q, RD.mono s p d t, RDk.mono s p r z⟩
end
theorem RDs.len {F : Hp} {g : List Addr} : ∀ {ds : List D} {vs : List V}, RDs K F g ds vs → vs.length = ds.length
  | [], _, h => by rw [show _ = [] from h]; rfl
  | d :: ds, _, ⟨v, r, e, q, t⟩ => by rw [e, List.length_cons, List.length_cons, RDs.len t]
theorem RDs.get {F : Hp} {g : List Addr} : ∀ {ds : List D} {vs : List V} {i : Nat} {d : D}, RDs K F g ds vs → ds[i]? = some d → ∃ v, vs[i]? = some v ∧ RD K F g d v
  | [], _, _, _, _, e => by simp at e
  | d :: ds, _, 0, _, ⟨v, r, e, q, t⟩, h => by
    simp at h; subst h; subst e
    exact ⟨v, rfl, q⟩
  | d :: ds, _, i + 1, _, ⟨v, r, e, q, t⟩, h => by
    subst e
    obtain ⟨x, h1, h2⟩ := RDs.get (i := i) t (by simpa using h)
    exact ⟨x, by simpa using h1, h2⟩
theorem RDs.app {F : Hp} {g : List Addr} : ∀ {ds es : List D} {vs us : List V}, RDs K F g ds vs → RDs K F g es us → RDs K F g (ds ++ es) (vs ++ us)
  | [], _, _, _, h, k => by rw [show _ = [] from h]; exact k
  | d :: ds, _, _, _, ⟨v, r, e, q, t⟩, k => by
    subst e
    exact ⟨v, _, rfl, q, RDs.app t k⟩
theorem RDs.drop {F : Hp} {g : List Addr} : ∀ {ds : List D} {vs : List V} (n : Nat), RDs K F g ds vs → RDs K F g (ds.drop n) (vs.drop n)
  | ds, vs, 0, h => h
  | [], _, n + 1, h => by rw [show _ = [] from h]; exact rfl
  | d :: ds, _, n + 1, ⟨v, r, e, q, t⟩ => by subst e; exact RDs.drop n t
theorem RDs.take {F : Hp} {g : List Addr} : ∀ {ds : List D} {vs : List V} (n : Nat), RDs K F g ds vs → RDs K F g (ds.take n) (vs.take n)
  | ds, vs, 0, h => rfl
  | [], _, n + 1, h => by rw [show _ = [] from h]; exact rfl
  | d :: ds, _, n + 1, ⟨v, r, e, q, t⟩ => by subst e; exact ⟨v, _, rfl, q, RDs.take n t⟩
theorem RDs.set {F : Hp} {g : List Addr} {x : D} {u : V} (hx : RD K F g x u) : ∀ {ds : List D} {vs : List V} (n : Nat), RDs K F g ds vs → RDs K F g (ds.set n x) (vs.set n u)
  | [], _, n, h => by rw [show _ = [] from h]; exact rfl
  | d :: ds, _, 0, ⟨v, r, e, q, t⟩ => by subst e; exact ⟨u, _, rfl, hx, t⟩
  | d :: ds, _, n + 1, ⟨v, r, e, q, t⟩ => by subst e; exact ⟨v, _, rfl, q, RDs.set hx n t⟩
theorem RDs.erase {F : Hp} {g : List Addr} : ∀ {ds : List D} {vs : List V} (n : Nat), RDs K F g ds vs → RDs K F g (ds.eraseIdx n) (vs.eraseIdx n)
  | [], _, n, h => by rw [show _ = [] from h]; exact rfl
  | d :: ds, _, 0, ⟨v, r, e, q, t⟩ => by subst e; exact t
  | d :: ds, _, n + 1, ⟨v, r, e, q, t⟩ => by subst e; exact ⟨v, _, rfl, q, RDs.erase n t⟩
theorem RDs.rev {F : Hp} {g : List Addr} : ∀ {ds : List D} {vs : List V}, RDs K F g ds vs → RDs K F g ds.reverse vs.reverse
  | [], _, h => by rw [show _ = [] from h]; exact rfl
  | d :: ds, _, ⟨v, r, e, q, t⟩ => by
    subst e
    rw [List.reverse_cons, List.reverse_cons]
    exact RDs.app K (RDs.rev t) ⟨v, [], rfl, q, rfl⟩
theorem RDs.rep {F : Hp} {g : List Addr} {ds : List D} {vs : List V} (h : RDs K F g ds vs) : ∀ k : Nat, RDs K F g (rep k ds) (List.replicate k vs).flatten
  | 0 => rfl
  | k + 1 => by
    unfold U.rep
    rw [List.replicate_succ, List.replicate_succ, List.flatten_cons, List.flatten_cons]
    exact RDs.app K h (RDs.rep h k)
theorem RDs.ints {F : Hp} {g : List Addr} : ∀ {ds : List D} {ns : List Int} {vs : List V}, intsD ds = some ns → RDs K F g ds vs → vs = ns.map V.int
  | [], ns, vs, h, r => by
    rw [show vs = [] from r]
    cases (show some [] = some ns from h); rfl
  | .int i :: ds, ns, vs, h, ⟨v, r, e, q, t⟩ => by
    unfold intsD at h
    cases e2 : intsD ds with
    | none => rw [e2] at h; cases h
    | some m =>
      rw [e2] at h
      cases h
      subst e
      rw [RDs.ints e2 t, show v = .int i from q]
      rfl
theorem RDs.strs {F : Hp} {g : List Addr} : ∀ {ds : List D} {ns : List Str} {vs : List V}, strsD ds = some ns → RDs K F g ds vs → vs = ns.map V.str
  | [], ns, vs, h, r => by
    rw [show vs = [] from r]
    cases (show some [] = some ns from h); rfl
  | .str i :: ds, ns, vs, h, ⟨v, r, e, q, t⟩ => by
    unfold strsD at h
    cases e2 : strsD ds with
    | none => rw [e2] at h; cases h
    | some m =>
      rw [e2] at h
      cases h
      subst e
      rw [RDs.strs e2 t, show v = .str i from q]
      rfl
theorem rds_ints {F : Hp} {g : List Addr} : ∀ ns : List Int, RDs K F g (ns.map D.int) (ns.map V.int)
  | [] => rfl
  | n :: ns => ⟨_, _, rfl, rfl, rds_ints ns⟩
end
end U

namespace U
open PySem PySem.Spec PyProof.Rows L2

section
variable (K : PySem.W.Frag)
/-- one list of the frames -/
def RO (F : Hp) (g : List Addr) (H : Hp) : LO → Addr → Prop
  | ⟨false, .lst ds⟩, a => F a = none ∧ ∃ vs, H a = some (.lst vs) ∧ RDs K F g ds vs
  | ⟨true, .lst ds⟩, a => ∃ vs, F a = some (.lst vs) ∧ RDs K F g ds vs
  | _, _ => False
def RFr (F : Hp) (g : List Addr) (H : Hp) : List LO → List Addr → Prop
  | [], as => as = []
  | o :: os, as => ∃ a r, as = a :: r ∧ RO K F g H o a ∧ RFr F g H os r
def RFrs (F : Hp) (g : List Addr) (H : Hp) : List (List LO) → List (List Addr) → Prop
  | [], as => as = []
  | o :: os, as => ∃ a r, as = a :: r ∧ RFr K F g H o a ∧ RFrs F g H os r
def W.all (w : W) : List Addr := w.own ++ w.out.flatten ++ w.gl ++ w.ex.map (·.1)
structure Rel (w : W) (S : St) (H : Hp) : Prop where
  sub : sub w.F H
  own : RFr K w.F w.gl H S.own w.own
  out : RFrs K w.F w.gl H S.out w.out
  gl : RFr K w.F w.gl H S.gl w.gl
  ex : ∀ p ∈ w.ex, H p.1 = some p.2 ∧ w.F p.1 = none
  nd : w.all.Nodup
structure W.le (w w' : W) : Prop where
  F : U.sub w.F w'.F
  own : pre w.own w'.own
  out : w'.out = w.out
  gl : pre w.gl w'.gl
  ex : w'.ex = w.ex
theorem W.le.refl (w : W) : w.le w := ⟨sub.refl _, pre.refl _, rfl, pre.refl _, rfl⟩
theorem W.le.trans {a b c : W} (x : a.le b) (y : b.le c) : a.le c := ⟨x.F.trans y.F, x.own.trans y.own, y.out.trans x.out, x.gl.trans y.gl, y.ex.trans x.ex⟩
theorem W.le.ad {w w' : W} (x : w.le w') {u i : Nat} {a : Addr} (h : w.ad u i = some a) : w'.ad u i = some a := by
  cases u with
  | zero => exact x.own.get h
  | succ u => unfold W.ad at h ⊢; rw [x.out]; exact h

theorem RFr.get {F : Hp} {g : List Addr} {H : Hp} : ∀ {os : List LO} {as : List Addr} {i : Nat} {o : LO}, RFr K F g H os as → os[i]? = some o → ∃ a, as[i]? = some a ∧ RO K F g H o a
  | [], _, _, _, _, e => by simp at e
  | d :: ds, _, 0, _, ⟨v, r, e, q, t⟩, h => by simp at h; subst h; subst e; exact ⟨v, rfl, q⟩
  | d :: ds, _, i + 1, _, ⟨v, r, e, q, t⟩, h => by
    subst e
    obtain ⟨x, h1, h2⟩ := RFr.get (i := i) t (by simpa using h)
    exact ⟨x, by simpa using h1, h2⟩
theorem RFrs.get {F : Hp} {g : List Addr} {H : Hp} : ∀ {os : List (List LO)} {as : List (List Addr)} {i : Nat} {o : List LO}, RFrs K F g H os as → os[i]? = some o → ∃ a, as[i]? = some a ∧ RFr K F g H o a
  | [], _, _, _, _, e => by simp at e
  | d :: ds, _, 0, _, ⟨v, r, e, q, t⟩, h => by simp at h; subst h; subst e; exact ⟨v, rfl, q⟩
  | d :: ds, _, i + 1, _, ⟨v, r, e, q, t⟩, h => by
    subst e
    obtain ⟨x, h1, h2⟩ := RFrs.get (i := i) t (by simpa using h)
    exact ⟨x, by simpa using h1, h2⟩
theorem RFr.len {F : Hp} {g : List Addr} {H : Hp} : ∀ {os : List LO} {as : List Addr}, RFr K F g H os as → as.length = os.length
  | [], _, h => by rw [show _ = [] from h]; rfl
  | d :: ds, _, ⟨v, r, e, q, t⟩ => by rw [e, List.length_cons, List.length_cons, RFr.len t]
theorem Rel.get {w : W} {S : St} {H : Hp} (r : Rel K w S H) {u i : Nat} {o : LO} (h : S.get u i = some o) : ∃ a, w.ad u i = some a ∧ RO K w.F w.gl H o a := by
  cases u with
  | zero => exact r.own.get K h
  | succ u =>
    have h : (match S.out[u]? with
      | some l => l[i]?
      | none => none) = some o := h
    cases e : S.out[u]? with
    | none => rw [e] at h; cases h
    | some l =>
      rw [e] at h
      obtain ⟨as, h1, h2⟩ := r.out.get K e
      obtain ⟨a, h3, h4⟩ := h2.get K h
      refine ⟨a, ?_, h4⟩
      show (match w.out[u]? with
        | some l => l[i]?
        | none => none) = some a
      rw [h1]; exact h3
theorem W.ad_mem {w : W} {u i : Nat} {a : Addr} (h : w.ad u i = some a) : a ∈ w.all := by
  unfold W.all
  cases u with
  | zero => exact List.mem_append_left _ (List.mem_append_left _ (List.mem_append_left _ (List.mem_of_getElem? h)))
  | succ u =>
    have h : (match w.out[u]? with
      | some l => l[i]?
      | none => none) = some a := h
    cases e : w.out[u]? with
    | none => rw [e] at h; cases h
    | some l =>
      rw [e] at h
      exact List.mem_append_left _ (List.mem_append_left _ (List.mem_append_right _ (List.mem_flatten.mpr ⟨l, List.mem_of_getElem? e, List.mem_of_getElem? h⟩)))

/-- what is kept of an object of the frames -/
theorem RO.keep {F F' : Hp} {g g' : List Addr} {H H' : Hp} (s : sub F F') (p : pre g g') : ∀ {o : LO} {a : Addr}, RO K F g H o a → (F a = none → F' a = none) → (F a = none → ∀ u, H a = some u → H' a = some u) → RO K F' g' H' o a
  | ⟨false, .lst ds⟩, a, ⟨n, vs, e, q⟩, hn, hk => ⟨hn n, vs, hk n _ e, q.mono K s p⟩
  | ⟨true, .lst ds⟩, a, ⟨vs, e, q⟩, _, _ => ⟨vs, s _ _ e, q.mono K s p⟩
theorem RFr.keep {F F' : Hp} {g g' : List Addr} {H H' : Hp} (s : sub F F') (p : pre g g') : ∀ {os : List LO} {as : List Addr}, RFr K F g H os as → (∀ a ∈ as, F a = none → F' a = none) → (∀ a ∈ as, F a = none → ∀ u, H a = some u → H' a = some u) → RFr K F' g' H' os as
  | [], _, h, _, _ => h
  | o :: os, _, ⟨a, r, e, q, t⟩, hn, hk => by
    subst e
    exact ⟨a, r, rfl, q.keep K s p (hn a List.mem_cons_self) (hk a List.mem_cons_self), t.keep s p (fun b hb => hn b (List.mem_cons_of_mem _ hb)) fun b hb => hk b (List.mem_cons_of_mem _ hb)⟩
theorem RFrs.keep {F F' : Hp} {g g' : List Addr} {H H' : Hp} (s : sub F F') (p : pre g g') : ∀ {os : List (List LO)} {as : List (List Addr)}, RFrs K F g H os as → (∀ a ∈ as.flatten, F a = none → F' a = none) → (∀ a ∈ as.flatten, F a = none → ∀ u, H a = some u → H' a = some u) → RFrs K F' g' H' os as
  | [], _, h, _, _ => h
  | o :: os, _, ⟨a, r, e, q, t⟩, hn, hk => by
    subst e
    rw [List.flatten_cons] at hn hk
    exact ⟨a, r, rfl, q.keep K s p (fun b hb => hn b (List.mem_append_left _ hb)) (fun b hb => hk b (List.mem_append_left _ hb)), t.keep s p (fun b hb => hn b (List.mem_append_right _ hb)) fun b hb => hk b (List.mem_append_right _ hb)⟩
/-- nothing of the frames changes, more is frozen that was not ours -/
theorem Rel.keep {w : W} {S : St} {H F' H' : Hp} (r : Rel K w S H) (s : U.sub w.F F') (sH : U.sub F' H') (hn : ∀ a ∈ w.all, w.F a = none → F' a = none) (hk : ∀ a ∈ w.all, w.F a = none → ∀ u, H a = some u → H' a = some u) : Rel K ⟨F', w.own, w.out, w.gl, w.ex⟩ S H' := by
  unfold W.all at hn hk
  refine ⟨sH, r.own.keep K s (pre.refl _) ?_ ?_, r.out.keep K s (pre.refl _) ?_ ?_, r.gl.keep K s (pre.refl _) ?_ ?_, ?_, r.nd⟩
  · exact fun a h => hn a (List.mem_append_left _ (List.mem_append_left _ (List.mem_append_left _ h)))
  · exact fun a h => hk a (List.mem_append_left _ (List.mem_append_left _ (List.mem_append_left _ h)))
  · exact fun a h => hn a (List.mem_append_left _ (List.mem_append_left _ (List.mem_append_right _ h)))
  · exact fun a h => hk a (List.mem_append_left _ (List.mem_append_left _ (List.mem_append_right _ h)))
  · exact fun a h => hn a (List.mem_append_left _ (List.mem_append_right _ h))
  · exact fun a h => hk a (List.mem_append_left _ (List.mem_append_right _ h))
  · intro p hp
    obtain ⟨h1, h2⟩ := r.ex p hp
    have hm := List.mem_append_right (w.own ++ w.out.flatten ++ w.gl) (List.mem_map_of_mem (f := (·.1)) hp)
    exact ⟨hk _ hm h2 _ h1, hn _ hm h2⟩
theorem RO.there {F : Hp} {g : List Addr} {H : Hp} (sH : sub F H) : ∀ {o : LO} {a : Addr}, RO K F g H o a → ∃ u, H a = some u
  | ⟨false, .lst ds⟩, a, ⟨n, vs, e, q⟩ => ⟨_, e⟩
  | ⟨true, .lst ds⟩, a, ⟨vs, e, q⟩ => ⟨_, sH _ _ e⟩
theorem RFr.there {F : Hp} {g : List Addr} {H : Hp} (sH : sub F H) : ∀ {os : List LO} {as : List Addr}, RFr K F g H os as → ∀ a ∈ as, ∃ u, H a = some u
  | [], _, h, a, ha => by rw [show _ = [] from h] at ha; cases ha
  | o :: os, _, ⟨b, r, e, q, t⟩, a, ha => by
    subst e
    rcases List.mem_cons.mp ha with rfl | ha
    · exact q.there K sH
    · exact t.there sH a ha
theorem RFrs.there {F : Hp} {g : List Addr} {H : Hp} (sH : sub F H) : ∀ {os : List (List LO)} {as : List (List Addr)}, RFrs K F g H os as → ∀ a ∈ as.flatten, ∃ u, H a = some u
  | [], _, h, a, ha => by rw [show _ = [] from h] at ha; cases ha
  | o :: os, _, ⟨b, r, e, q, t⟩, a, ha => by
    subst e
    rw [List.flatten_cons] at ha
    rcases List.mem_append.mp ha with ha | ha
    · exact q.there K sH a ha
    · exact t.there sH a ha
theorem Rel.there {w : W} {S : St} {H : Hp} (r : Rel K w S H) {a : Addr} (ha : a ∈ w.all) : ∃ u, H a = some u := by
  unfold W.all at ha
  rcases List.mem_append.mp ha with ha | ha
  · rcases List.mem_append.mp ha with ha | ha
    · rcases List.mem_append.mp ha with ha | ha
      · exact r.own.there K r.sub a ha
      · exact r.out.there K r.sub a ha
    · exact r.gl.there K r.sub a ha
  · obtain ⟨p, hp, rfl⟩ := List.mem_map.mp ha
    exact ⟨_, (r.ex p hp).1⟩
/-- a new object that is frozen at once -/
theorem Rel.newF {w : W} {S : St} {H : Hp} (r : Rel K w S H) {p : Addr} {o : HO} (hp : H p = none) : Rel K ⟨upd w.F p o, w.own, w.out, w.gl, w.ex⟩ S (upd H p o) ∧ w.le ⟨upd w.F p o, w.own, w.out, w.gl, w.ex⟩ := by
  have hF : w.F p = none := by
    cases e : w.F p with
    | none => rfl
    | some u => rw [r.sub _ _ e] at hp; cases hp
  have s : U.sub w.F (upd w.F p o) := fun a u e => by rw [upd_ne (ne_of_none e hF)]; exact e
  have na : ∀ a ∈ w.all, a ≠ p := fun a ha z => by
    obtain ⟨u, e⟩ := r.there K ha
    rw [z, hp] at e; cases e
  refine ⟨r.keep K s (fun a u e => ?_) (fun a ha n => by rw [upd_ne (na a ha)]; exact n) (fun a ha _ u e => by rw [upd_ne (na a ha)]; exact e), ⟨s, pre.refl _, rfl, pre.refl _, rfl⟩⟩
  by_cases h : a = p
  · subst h; rw [upd_same] at e ⊢; exact e
  · rw [upd_ne h] at e ⊢; exact r.sub _ _ e
/-- a new object, not ours -/
theorem Rel.new {w : W} {S : St} {H : Hp} (r : Rel K w S H) {p : Addr} {o : HO} (hp : H p = none) : Rel K w S (upd H p o) := by
  have na : ∀ a u, H a = some u → a ≠ p := fun a u e z => by rw [z, hp] at e; cases e
  exact r.keep K (sub.refl _) (fun a u e => by rw [upd_ne (na _ _ (r.sub _ _ e))]; exact r.sub _ _ e) (fun _ _ n => n) (fun a ha _ u e => by rw [upd_ne (na _ _ e)]; exact e)
theorem Rel.notF {w : W} {S : St} {H : Hp} (r : Rel K w S H) {p : Addr} (hp : H p = none) : w.F p = none ∧ p ∉ w.all := by
  refine ⟨?_, fun h => ?_⟩
  · cases e : w.F p with
    | none => rfl
    | some u => rw [r.sub _ _ e] at hp; cases hp
  · obtain ⟨u, e⟩ := r.there K h
    rw [hp] at e; cases e
/-- a loose object is frozen -/
theorem Rel.froze {w : W} {S : St} {H : Hp} (r : Rel K w S H) {p : Addr} {o : HO} (hp : H p = some o) (hF : w.F p = none) (ha : p ∉ w.all) : Rel K ⟨upd w.F p o, w.own, w.out, w.gl, w.ex⟩ S H ∧ w.le ⟨upd w.F p o, w.own, w.out, w.gl, w.ex⟩ := by
  have s : U.sub w.F (upd w.F p o) := fun a u e => by rw [upd_ne (ne_of_none e hF)]; exact e
  have na : ∀ a ∈ w.all, a ≠ p := fun a h z => ha (z ▸ h)
  refine ⟨r.keep K s (fun a u e => ?_) (fun a ha n => by rw [upd_ne (na a ha)]; exact n) (fun a ha _ u e => e), ⟨s, pre.refl _, rfl, pre.refl _, rfl⟩⟩
  by_cases h : a = p
  · subst h; rw [upd_same] at e; rw [← e]; exact hp
  · rw [upd_ne h] at e; exact r.sub _ _ e
theorem RFr.snoc {F : Hp} {g : List Addr} {H : Hp} {o : LO} {a : Addr} (q : RO K F g H o a) : ∀ {os : List LO} {as : List Addr}, RFr K F g H os as → RFr K F g H (os ++ [o]) (as ++ [a])
  | [], _, h => by rw [show _ = [] from h]; exact ⟨a, [], rfl, q, rfl⟩
  | d :: ds, _, ⟨b, r, e, z, t⟩ => by subst e; exact ⟨b, _, rfl, z, RFr.snoc q t⟩
/-- a loose list becomes ours -/
theorem Rel.mine {w : W} {S : St} {H : Hp} (r : Rel K w S H) {p : Addr} {vs : List V} {ds : List D} (hp : H p = some (.lst vs)) (hd : RDs K w.F w.gl ds vs) (hF : w.F p = none) (ha : p ∉ w.all) :
    Rel K ⟨w.F, w.own ++ [p], w.out, w.gl, w.ex⟩ { S with own := S.own ++ [⟨false, .lst ds⟩] } H ∧ w.le ⟨w.F, w.own ++ [p], w.out, w.gl, w.ex⟩ := by
  refine ⟨⟨r.sub, RFr.snoc K (o := ⟨false, .lst ds⟩) (a := p) ⟨hF, vs, hp, hd⟩ r.own, r.out, r.gl, r.ex, ?_⟩, ⟨sub.refl _, ⟨_, rfl⟩, rfl, pre.refl _, rfl⟩⟩
  have h := r.nd
  unfold W.all at h ha ⊢
  simp only [List.append_assoc] at h ha ⊢
  rw [List.mem_append, not_or] at ha
  rw [List.nodup_append] at h ⊢
  obtain ⟨h1, h2, h3⟩ := h
  refine ⟨h1, ?_, fun a h a' h' => ?_⟩
  · rw [List.singleton_append, List.nodup_cons]
    exact ⟨ha.2, h2⟩
  · rw [List.singleton_append] at h'
    rcases List.mem_cons.mp h' with rfl | h'
    · exact fun z => ha.1 (z ▸ h)
    · exact h3 a h a' h'
/-- an extra object is written, left, taken up -/
theorem Rel.exset {w : W} {S : St} {H : Hp} {p : Addr} {o o' : HO} {l : List (Addr × HO)} (r : Rel K w S H) (e : w.ex = (p, o) :: l) : Rel K { w with ex := (p, o') :: l } S (upd H p o') := by
  have nd := r.nd
  unfold W.all at nd
  rw [e, List.map_cons] at nd
  have hx := r.ex
  rw [e] at hx
  have hp := hx _ List.mem_cons_self
  have na : ∀ a ∈ w.own ++ w.out.flatten ++ w.gl, a ≠ p := fun a ha z => by
    rw [List.nodup_append] at nd
    exact nd.2.2 a ha p List.mem_cons_self z
  have nl : ∀ q ∈ l, q.1 ≠ p := fun q hq z => by
    rw [List.nodup_append] at nd
    exact (List.nodup_cons.mp nd.2.1).1 (z ▸ List.mem_map_of_mem (f := (·.1)) hq)
  refine ⟨fun a u ha => ?_, ?_, ?_, ?_, ?_, ?_⟩
  · have : a ≠ p := fun z => by rw [z, hp.2] at ha; cases ha
    rw [upd_ne this]; exact r.sub _ _ ha
  · exact r.own.keep K (sub.refl _) (pre.refl _) (fun _ _ n => n) fun a ha _ u q => by rw [upd_ne (na a (List.mem_append_left _ (List.mem_append_left _ ha)))]; exact q
  · exact r.out.keep K (sub.refl _) (pre.refl _) (fun _ _ n => n) fun a ha _ u q => by rw [upd_ne (na a (List.mem_append_left _ (List.mem_append_right _ ha)))]; exact q
  · exact r.gl.keep K (sub.refl _) (pre.refl _) (fun _ _ n => n) fun a ha _ u q => by rw [upd_ne (na a (List.mem_append_right _ ha))]; exact q
  · intro q hq
    rcases List.mem_cons.mp hq with rfl | hq
    · exact ⟨upd_same, hp.2⟩
    · rw [upd_ne (nl q hq)]
      exact hx q (List.mem_cons_of_mem _ hq)
  · show (w.own ++ w.out.flatten ++ w.gl ++ ((p, o') :: l).map (·.1)).Nodup
    rw [List.map_cons]; exact nd
theorem Rel.exdrop {w : W} {S : St} {H : Hp} {p : Addr} {o : HO} {l : List (Addr × HO)} (r : Rel K w S H) (e : w.ex = (p, o) :: l) : Rel K { w with ex := l } S H ∧ H p = some o ∧ w.F p = none ∧ p ∉ ({ w with ex := l } : W).all := by
  have nd := r.nd
  unfold W.all at nd
  rw [e, List.map_cons] at nd
  have hx := r.ex
  rw [e] at hx
  have hp := hx _ List.mem_cons_self
  have nd' := nd
  rw [List.nodup_append] at nd'
  obtain ⟨n1, n2, n3⟩ := nd'
  refine ⟨⟨r.sub, r.own, r.out, r.gl, fun q hq => hx q (List.mem_cons_of_mem _ hq), ?_⟩, hp.1, hp.2, fun h => ?_⟩
  · show (w.own ++ w.out.flatten ++ w.gl ++ l.map (·.1)).Nodup
    rw [List.nodup_append]
    exact ⟨n1, (List.nodup_cons.mp n2).2, fun a ha b hb => n3 a ha b (List.mem_cons_of_mem _ hb)⟩
  · have h : p ∈ w.own ++ w.out.flatten ++ w.gl ++ l.map (·.1) := h
    rcases List.mem_append.mp h with h | h
    · exact n3 p h p List.mem_cons_self rfl
    · exact (List.nodup_cons.mp n2).1 h
theorem Rel.extake {w : W} {S : St} {H : Hp} {p : Addr} {o : HO} (r : Rel K w S H) (hp : H p = some o) (hF : w.F p = none) (ha : p ∉ w.all) : Rel K { w with ex := (p, o) :: w.ex } S H := by
  refine ⟨r.sub, r.own, r.out, r.gl, fun q hq => ?_, ?_⟩
  · rcases List.mem_cons.mp hq with rfl | hq
    · exact ⟨hp, hF⟩
    · exact r.ex q hq
  · show (w.own ++ w.out.flatten ++ w.gl ++ ((p, o) :: w.ex).map (·.1)).Nodup
    have nd := r.nd
    unfold W.all at nd ha
    rw [List.map_cons]
    rw [List.mem_append, not_or] at ha
    rw [List.nodup_append] at nd ⊢
    refine ⟨nd.1, List.nodup_cons.mpr ⟨ha.2, nd.2.1⟩, fun a h b hb => ?_⟩
    rcases List.mem_cons.mp hb with rfl | hb
    · exact fun z => ha.1 (z ▸ h)
    · exact nd.2.2 a h b hb
end
end U

namespace U
open PySem PySem.Spec PyProof.Rows L2

section
variable (K : PySem.W.Frag)
theorem RFr.chg {F F' : Hp} {g : List Addr} {H H' : Hp} {a : Addr} {o' : LO} (s : sub F F') (q' : RO K F' g H' o' a) : ∀ {os : List LO} {as : List Addr} {i : Nat}, RFr K F g H os as → as[i]? = some a → as.Nodup →
    (∀ b ∈ as, b ≠ a → F b = none → F' b = none) → (∀ b ∈ as, b ≠ a → F b = none → ∀ u, H b = some u → H' b = some u) → RFr K F' g H' (os.set i o') as
  | [], _, _, h, e, _, _, _ => by rw [show _ = [] from h] at e; simp at e
  | o :: os, _, 0, ⟨b, r, e, q, t⟩, h, nd, hn, hk => by
    subst e
    simp at h; subst h
    have na : ∀ c ∈ r, c ≠ b := fun c hc z => (List.nodup_cons.mp nd).1 (z ▸ hc)
    exact ⟨b, r, rfl, q', t.keep K s (pre.refl _) (fun c hc => hn c (List.mem_cons_of_mem _ hc) (na c hc)) fun c hc => hk c (List.mem_cons_of_mem _ hc) (na c hc)⟩
  | o :: os, _, i + 1, ⟨b, r, e, q, t⟩, h, nd, hn, hk => by
    subst e
    have h : r[i]? = some a := by simpa using h
    have nb : b ≠ a := fun z => (List.nodup_cons.mp nd).1 (z ▸ List.mem_of_getElem? h)
    exact ⟨b, r, rfl, q.keep K s (pre.refl _) (hn b List.mem_cons_self nb) (hk b List.mem_cons_self nb), RFr.chg s q' t h (List.nodup_cons.mp nd).2 (fun c hc => hn c (List.mem_cons_of_mem _ hc)) fun c hc => hk c (List.mem_cons_of_mem _ hc)⟩
theorem RFrs.chg {F F' : Hp} {g : List Addr} {H H' : Hp} {a : Addr} {o' : LO} (s : sub F F') (q' : RO K F' g H' o' a) : ∀ {os : List (List LO)} {as : List (List Addr)} {u i : Nat} {l : List Addr}, RFrs K F g H os as → as[u]? = some l → l[i]? = some a → as.flatten.Nodup →
    (∀ b ∈ as.flatten, b ≠ a → F b = none → F' b = none) → (∀ b ∈ as.flatten, b ≠ a → F b = none → ∀ u, H b = some u → H' b = some u) → RFrs K F' g H' (os.modify u fun x => x.set i o') as
  | [], _, _, _, _, h, e, _, _, _, _ => by rw [show _ = [] from h] at e; simp at e
  | o :: os, _, 0, i, l, ⟨b, r, e, q, t⟩, h, hl, nd, hn, hk => by
    subst e
    simp at h; subst h
    rw [List.flatten_cons] at nd hn hk
    rw [List.nodup_append] at nd
    obtain ⟨n1, n2, n3⟩ := nd
    have ha := List.mem_of_getElem? hl
    have na : ∀ c ∈ r.flatten, c ≠ a := fun c hc z => n3 a ha c hc z.symm
    exact ⟨b, r, rfl, RFr.chg K s q' q hl n1 (fun c hc => hn c (List.mem_append_left _ hc)) (fun c hc => hk c (List.mem_append_left _ hc)), t.keep K s (pre.refl _) (fun c hc => hn c (List.mem_append_right _ hc) (na c hc)) fun c hc => hk c (List.mem_append_right _ hc) (na c hc)⟩
  | o :: os, _, u + 1, i, l, ⟨b, r, e, q, t⟩, h, hl, nd, hn, hk => by
    subst e
    have h : r[u]? = some l := by simpa using h
    rw [List.flatten_cons] at nd hn hk
    rw [List.nodup_append] at nd
    obtain ⟨n1, n2, n3⟩ := nd
    have ha : a ∈ r.flatten := List.mem_flatten.mpr ⟨l, List.mem_of_getElem? h, List.mem_of_getElem? hl⟩
    have na : ∀ c ∈ b, c ≠ a := fun c hc z => n3 c hc a ha z
    exact ⟨b, r, rfl, q.keep K s (pre.refl _) (fun c hc => hn c (List.mem_append_left _ hc) (na c hc)) (fun c hc => hk c (List.mem_append_left _ hc) (na c hc)),
      RFrs.chg s q' t h hl n2 (fun c hc => hn c (List.mem_append_right _ hc)) fun c hc => hk c (List.mem_append_right _ hc)⟩
/-- the object at a place changes -/
theorem Rel.chg {w : W} {S : St} {H F' H' : Hp} {u i : Nat} {a : Addr} {o' : LO} (r : Rel K w S H) (s : U.sub w.F F') (sH : U.sub F' H') (ha : w.ad u i = some a) (q' : RO K F' w.gl H' o' a)
    (hn : ∀ b ∈ w.all, b ≠ a → w.F b = none → F' b = none) (hk : ∀ b ∈ w.all, b ≠ a → w.F b = none → ∀ u, H b = some u → H' b = some u) : Rel K ⟨F', w.own, w.out, w.gl, w.ex⟩ (S.set u i o') H' := by
  have nd := r.nd
  unfold W.all at hn hk nd
  rw [List.nodup_append] at nd
  obtain ⟨nd, _, x3⟩ := nd
  rw [List.nodup_append] at nd
  obtain ⟨n1, n2, n3⟩ := nd
  have hn := hn
  have exk : a ∈ w.own ++ w.out.flatten ++ w.gl → ∀ p ∈ w.ex, H' p.1 = some p.2 ∧ F' p.1 = none := fun ha p hp => by
    obtain ⟨h1, h2⟩ := r.ex p hp
    have hm : p.1 ∈ w.ex.map (·.1) := List.mem_map_of_mem (f := (·.1)) hp
    have ne : p.1 ≠ a := fun z => x3 a ha p.1 hm z.symm
    exact ⟨hk _ (List.mem_append_right _ hm) ne h2 _ h1, hn _ (List.mem_append_right _ hm) ne h2⟩
  have hn : ∀ b ∈ w.own ++ w.out.flatten ++ w.gl, b ≠ a → w.F b = none → F' b = none := fun b hb => hn b (List.mem_append_left _ hb)
  have hk : ∀ b ∈ w.own ++ w.out.flatten ++ w.gl, b ≠ a → w.F b = none → ∀ u, H b = some u → H' b = some u := fun b hb => hk b (List.mem_append_left _ hb)
  rw [List.nodup_append] at n1
  obtain ⟨m1, m2, m3⟩ := n1
  have kg : ∀ (as : List Addr) (os : List LO), (∀ b ∈ as, b ∈ w.own ++ w.out.flatten ++ w.gl) → (∀ b ∈ as, b ≠ a) → RFr K w.F w.gl H os as → RFr K F' w.gl H' os as := fun as os h1 h2 t =>
    t.keep K s (pre.refl _) (fun c hc => hn c (h1 c hc) (h2 c hc)) fun c hc => hk c (h1 c hc) (h2 c hc)
  cases u with
  | zero =>
    have ha : w.own[i]? = some a := ha
    have am := List.mem_of_getElem? ha
    refine ⟨sH, RFr.chg K s q' r.own ha m1 (fun b hb => hn b (List.mem_append_left _ (List.mem_append_left _ hb))) (fun b hb => hk b (List.mem_append_left _ (List.mem_append_left _ hb))), ?_, kg _ _ (fun b hb => List.mem_append_right _ hb) (fun b hb z => n3 a (List.mem_append_left _ am) b hb z.symm) r.gl, exk (List.mem_append_left _ (List.mem_append_left _ am)), r.nd⟩
    exact r.out.keep K s (pre.refl _) (fun c hc => hn c (List.mem_append_left _ (List.mem_append_right _ hc)) fun z => m3 a am c hc z.symm) fun c hc => hk c (List.mem_append_left _ (List.mem_append_right _ hc)) fun z => m3 a am c hc z.symm
  | succ u =>
    have ha : (match w.out[u]? with
      | some l => l[i]?
      | none => none) = some a := ha
    cases e : w.out[u]? with
    | none => rw [e] at ha; cases ha
    | some l =>
      rw [e] at ha
      have am : a ∈ w.out.flatten := List.mem_flatten.mpr ⟨l, List.mem_of_getElem? e, List.mem_of_getElem? ha⟩
      refine ⟨sH, kg _ _ (fun b hb => List.mem_append_left _ (List.mem_append_left _ hb)) (fun b hb z => m3 b hb a am z) r.own, ?_, kg _ _ (fun b hb => List.mem_append_right _ hb) (fun b hb z => n3 a (List.mem_append_right _ am) b hb z.symm) r.gl, exk (List.mem_append_left _ (List.mem_append_right _ am)), r.nd⟩
      exact RFrs.chg K s q' r.out e ha m2 (fun b hb => hn b (List.mem_append_left _ (List.mem_append_right _ hb))) (fun b hb => hk b (List.mem_append_left _ (List.mem_append_right _ hb)))
/-- a list of ours is written -/
theorem Rel.write {w : W} {S : St} {H : Hp} {u i : Nat} {ds ds' : List D} {vs' : List V} {a : Addr} {z' : LO} (r : Rel K w S H) (h : S.get u i = some ⟨false, .lst ds⟩) (ha : w.ad u i = some a) (hd : RDs K w.F w.gl ds' vs') :
    Rel K w (S.set u i ⟨false, .lst ds'⟩) (upd H a (.lst vs')) := by
  obtain ⟨b, hb, hn, vs, hv, hr⟩ := r.get K h
  rw [ha] at hb; cases hb
  refine r.chg K (sub.refl _) (fun b u e => ?_) ha ⟨hn, vs', upd_same, hd⟩ (fun _ _ _ n => n) (fun b _ hb _ u e => by rw [upd_ne hb]; exact e)
  have hb : b ≠ a := fun z => by rw [z, hn] at e; cases e
  rw [upd_ne hb]
  exact r.sub _ _ e
/-- a list of ours is frozen -/
theorem Rel.froze2 {w : W} {S : St} {H : Hp} {u i : Nat} {z : Bool} {c : CO} (r : Rel K w S H) (h : S.get u i = some ⟨z, c⟩) : ∃ w' a, w.ad u i = some a ∧ w.le w' ∧ Rel K w' (S.set u i ⟨true, c⟩) H ∧ w'.own = w.own ∧ RD K w'.F w'.gl c.dat (.ref a) := by
  obtain ⟨a, ha, hr⟩ := r.get K h
  match z, c, h, hr with
  | true, .lst ds, h, ⟨vs, e, q⟩ =>
    exact ⟨w, a, ha, W.le.refl w, r.chg K (sub.refl _) r.sub ha ⟨vs, e, q⟩ (fun _ _ _ n => n) (fun _ _ _ _ _ e => e), rfl, a, vs, rfl, e, q⟩
  | false, .lst ds, h, ⟨n, vs, e, q⟩ =>
    have s : U.sub w.F (upd w.F a (.lst vs)) := fun b u eb => by rw [upd_ne (ne_of_none eb n)]; exact eb
    refine ⟨⟨upd w.F a (.lst vs), w.own, w.out, w.gl, w.ex⟩, a, ha, ⟨s, pre.refl _, rfl, pre.refl _, rfl⟩, ?_, rfl, a, vs, rfl, upd_same, q.mono K s (pre.refl _)⟩
    refine r.chg K s (fun b u eb => ?_) ha ⟨vs, upd_same, q.mono K s (pre.refl _)⟩ (fun b _ hb nb => by rw [upd_ne hb]; exact nb) (fun _ _ _ _ _ e => e)
    by_cases hb : b = a
    · subst hb; rw [upd_same] at eb; cases eb; exact e
    · rw [upd_ne hb] at eb; exact r.sub _ _ eb

/-! ### slots and results -/
def RSV (w : W) : SV → V → Prop
  | .d d, v => RD K w.F w.gl d v
  | .loc u i, v => ∃ a, w.ad u i = some a ∧ v = .ref a
def RRV (w : W) (H : Hp) : RV → V → Prop
  | .d d, v => RD K w.F w.gl d v
  | .loc u i, v => ∃ a, w.ad u i = some a ∧ v = .ref a
  | .new (.lst ds), v => ∃ a vs, v = .ref a ∧ H a = some (.lst vs) ∧ RDs K w.F w.gl ds vs ∧ w.F a = none ∧ a ∉ w.all
  | .new _, _ => False
theorem RSV.mono {w w' : W} (l : w.le w') : ∀ {x : SV} {v : V}, RSV K w x v → RSV K w' x v
  | .d d, v, h => RD.mono K l.F l.gl d h
  | .loc u i, v, ⟨a, h, e⟩ => ⟨a, l.ad h, e⟩
def RSl (w : W) : Env → List (Option V) → Prop
  | [], σ => σ = []
  | x :: ρ, σ => ∃ y r, σ = y :: r ∧ (∀ s, x = some s → ∃ v, y = some v ∧ RSV K w s v) ∧ RSl w ρ r
theorem RSl.mono {w w' : W} (l : w.le w') : ∀ {ρ : Env} {σ : List (Option V)}, RSl K w ρ σ → RSl K w' ρ σ
  | [], _, h => h
  | x :: ρ, _, ⟨y, r, e, h, t⟩ => ⟨y, r, e, fun s es => let ⟨v, e1, q⟩ := h s es; ⟨v, e1, q.mono K l⟩, t.mono l⟩
theorem RSl.get {w : W} : ∀ {ρ : Env} {σ : List (Option V)} {i : Nat} {s : SV}, RSl K w ρ σ → ρ[i]? = some (some s) → ∃ v, σ[i]? = some (some v) ∧ RSV K w s v
  | [], _, _, _, _, e => by simp at e
  | x :: ρ, _, 0, s, ⟨y, r, e, h, t⟩, he => by
    simp at he
    obtain ⟨v, e1, q⟩ := h s he
    subst e; subst e1
    exact ⟨v, rfl, q⟩
  | x :: ρ, _, i + 1, s, ⟨y, r, e, h, t⟩, he => by
    subst e
    obtain ⟨v, e1, q⟩ := RSl.get (i := i) t (by simpa using he)
    exact ⟨v, by simpa using e1, q⟩
theorem RSl.set {w : W} {s : SV} {v : V} (q : RSV K w s v) : ∀ {ρ : Env} {σ : List (Option V)} (i : Nat), RSl K w ρ σ → RSl K w (ρ.set i (some s)) (σ.set i (some v))
  | [], _, i, h => by rw [show _ = [] from h]; exact rfl
  | x :: ρ, _, 0, ⟨y, r, e, h, t⟩ => by subst e; exact ⟨_, _, rfl, fun s' e => by cases e; exact ⟨v, rfl, q⟩, t⟩
  | x :: ρ, _, i + 1, ⟨y, r, e, h, t⟩ => by subst e; exact ⟨_, _, rfl, h, RSl.set q i t⟩
theorem RSl.wipe1 {w : W} : ∀ {ρ : Env} {σ : List (Option V)} (i : Nat), RSl K w ρ σ → RSl K w (ρ.set i none) (σ.set i none)
  | [], _, i, h => by rw [show _ = [] from h]; exact rfl
  | x :: ρ, _, 0, ⟨y, r, e, h, t⟩ => by subst e; exact ⟨_, _, rfl, (fun s' e => nomatch e), t⟩
  | x :: ρ, _, i + 1, ⟨y, r, e, h, t⟩ => by subst e; exact ⟨_, _, rfl, h, RSl.wipe1 i t⟩
theorem RSl.wipe {w : W} {ρ : Env} {σ : List (Option V)} (h : RSl K w ρ σ) : ∀ vs : List Nat, RSl K w (wipeE ρ vs) (wipe σ vs)
  | [] => h
  | v :: vs => RSl.wipe1 K v (h.wipe vs)
theorem RSl.mask {w : W} : ∀ {ρ0 ρ : Env} {σ : List (Option V)}, RSl K w ρ σ → RSl K w (U.mask ρ0 ρ) σ
  | [], _, _, h => h
  | some _ :: _, [], _, h => h
  | none :: _, [], _, h => h
  | some _ :: a, x :: ρ, _, ⟨y, r, e1, h, t⟩ => ⟨y, r, e1, h, RSl.mask t⟩
  | none :: a, x :: ρ, _, ⟨y, r, e1, h, t⟩ => ⟨y, r, e1, (fun s es => by cases es), RSl.mask t⟩
theorem RSl.len {w : W} : ∀ {ρ : Env} {σ : List (Option V)}, RSl K w ρ σ → σ.length = ρ.length
  | [], _, h => by rw [show _ = [] from h]; rfl
  | x :: ρ, _, ⟨y, r, e, h, t⟩ => by rw [e, List.length_cons, List.length_cons, RSl.len t]
/-- a result that waits -/
theorem Rel.hold {w : W} {S : St} {H : Hp} {r : RV} {v : V} (h : Rel K w S H) (q : RRV K w H r v) : ∃ w', w.le w' ∧ Rel K w' S H ∧ w'.own = w.own ∧ RSV K w' (U.hold r) v := by
  match r, q with
  | .d d, q => exact ⟨w, .refl w, h, rfl, q⟩
  | .loc u i, q => exact ⟨w, .refl w, h, rfl, q⟩
  | .new (.lst ds), ⟨a, vs, e, hv, hd, hF, ha⟩ =>
    obtain ⟨h2, l⟩ := h.froze K hv hF ha
    exact ⟨_, l, h2, rfl, a, vs, e, upd_same, RDs.mono K l.F l.gl ds hd⟩
/-- a result kept as data -/
theorem Rel.kept {w : W} {S S' : St} {H : Hp} {r : RV} {d : D} {v : V} (h : Rel K w S H) (q : RRV K w H r v) (e : U.keep r S = .ok d S') : ∃ w', w.le w' ∧ Rel K w' S' H ∧ w'.own = w.own ∧ RD K w'.F w'.gl d v := by
  match r, q, e with
  | .d d, q, e => cases e; exact ⟨w, .refl w, h, rfl, q⟩
  | .new (.lst ds), ⟨a, vs, ev, hv, hd, hF, ha⟩, e =>
    cases e
    obtain ⟨h2, l⟩ := h.froze K hv hF ha
    exact ⟨_, l, h2, rfl, a, vs, ev, upd_same, RDs.mono K l.F l.gl ds hd⟩
  | .loc u i, ⟨a, ha, ev⟩, e =>
    dsimp only [U.keep] at e
    split at e
    · rename_i z c hg
      cases e
      obtain ⟨w', b, hb, l, h2, ho, hd⟩ := h.froze2 K hg
      rw [ha] at hb; cases hb
      exact ⟨w', l, h2, ho, ev ▸ hd⟩
    · cases e
/-- .. read now -/
def RTop (w : W) (H : Hp) : D → V → Prop
  | .lst ds, v => ∃ a vs, v = .ref a ∧ H a = some (.lst vs) ∧ RDs K w.F w.gl ds vs
  | d, v => RD K w.F w.gl d v
theorem RTop.rd {w : W} {H : Hp} (sb : U.sub w.F H) : ∀ {d : D} {v : V}, RTop K w H d v → RD K H w.gl d v
  | .lst ds, v, ⟨a, vs, e, h, q⟩ => ⟨a, vs, e, h, RDs.mono K sb (pre.refl _) ds q⟩
  | .non, _, h => h
  | .bl _, _, h => h
  | .int _, _, h => h
  | .str _, _, h => h
  | .tup ds, _, h => RD.mono K sb (pre.refl _) (.tup ds) h
  | .dic kvs, _, h => RD.mono K sb (pre.refl _) (.dic kvs) h
  | .ref _, _, h => h
  | .rol ds, _, h => RD.mono K sb (pre.refl _) (.rol ds) h
theorem RTop.of {w : W} {H : Hp} (sb : U.sub w.F H) : ∀ {d : D} {v : V}, RD K w.F w.gl d v → RTop K w H d v
  | .lst ds, v, ⟨a, vs, e, h, q⟩ => ⟨a, vs, e, sb _ _ h, q⟩
  | .non, _, h => h
  | .bl _, _, h => h
  | .int _, _, h => h
  | .str _, _, h => h
  | .tup ds, _, h => h
  | .dic _, _, h => h
  | .ref _, _, h => h
  | .rol ds, _, h => h
theorem Rel.view {w : W} {S : St} {H : Hp} {r : RV} {d : D} {v : V} (h : Rel K w S H) (q : RRV K w H r v) (e : view S r = some d) : RTop K w H d v := by
  have sb := h.sub
  match r, q, e with
  | .d (.ref i), ⟨a, ha, ev⟩, e =>
    dsimp only [U.view] at e
    split at e
    · rename_i z ds hg
      cases e
      obtain ⟨b, hb, ro⟩ := h.gl.get K hg
      rw [ha] at hb; cases hb
      cases z with
      | false => obtain ⟨n, vs, hv, hd⟩ := ro; exact ⟨a, vs, ev, hv, hd⟩
      | true => obtain ⟨vs, hv, hd⟩ := ro; exact ⟨a, vs, ev, sb _ _ hv, hd⟩
    · rename_i z kvs hg
      obtain ⟨b, hb, ro⟩ := h.gl.get K hg
      cases z <;> exact ro.elim
    · cases e; exact ⟨a, ha, ev⟩
  | .d .non, q, e => cases e; exact q
  | .d (.bl _), q, e => cases e; exact q
  | .d (.int _), q, e => cases e; exact q
  | .d (.str _), q, e => cases e; exact q
  | .d (.dic _), q, e => cases e; exact q
  | .d (.tup ds), q, e => cases e; exact q
  | .d (.lst ds), q, e => cases e; exact RTop.of K sb q
  | .d (.rol ds), q, e => cases e; exact q
  | .new (.lst ds), ⟨a, vs, ev, hv, hd, hF, ha⟩, e => cases e; exact ⟨a, vs, ev, hv, hd⟩
  | .loc u i, ⟨a, ha, ev⟩, e =>
    dsimp only [U.view, coAt] at e
    cases hg : S.get u i with
    | none => rw [hg] at e; cases e
    | some o =>
      rw [hg] at e
      cases e
      obtain ⟨b, hb, ro⟩ := h.get K hg
      rw [ha] at hb; cases hb
      match o, ro with
      | ⟨false, .lst ds⟩, ⟨n, vs, hv, hd⟩ => exact ⟨a, vs, ev, hv, hd⟩
      | ⟨true, .lst ds⟩, ⟨vs, hv, hd⟩ => exact ⟨a, vs, ev, sb _ _ hv, hd⟩
theorem RRV.of {w : W} {H : Hp} : ∀ {x : SV} {v : V}, RSV K w x v → RRV K w H x.rv v
  | .d _, _, h => h
  | .loc _ _, _, h => h
end
end U

set_option maxHeartbeats 4000000
namespace U
open PySem PySem.Spec PyProof.Rows L2
/-- t * 1, () * n: t itself -/
theorem tuple_mul_same (l : Addr) (items : Array Value) (n : Nat) (dd : Option Addr) (sl : Array (Option Value)) (x : Int) (u : Tok) (c0 : (decide (x < -(2 ^ 63)) || decide (x ≥ 2 ^ 63)) = false) (c1 : (items.isEmpty || x == 1) = true) :
    Meets (Builtin.«tuple.__mul__» ⟨[.ref l, .int x u], []⟩) (fun _ R s => s.heap.get? l = some { cls := .type "tuple", dict := dd, data := .seq items n, slots := sl } ∧ R (.ok (.ret (Value.ref l))) s) :=
  .of_wp fun prog w A R s h => by
    obtain ⟨hp, g, d, tk, os⟩ := s
    obtain ⟨hl, h⟩ := h
    have f1 := AutoSeq1.idx_int
    wp_walk using wpAny_loadPart' hl
    refine wpAny_ite_false (decide_eq_false (by rw [c0]; exact Bool.false_ne_true)) ?_
    wp_walk using wpAny_loadPart' hl
    exact ⟨_, rfl, h⟩
theorem tuple_mul_none (l : Addr) (items : Array Value) (n : Nat) (dd : Option Addr) (sl : Array (Option Value)) (x : Int) (u : Tok) (c0 : (decide (x < -(2 ^ 63)) || decide (x ≥ 2 ^ 63)) = false) (c1 : (items.isEmpty || x == 1) = false) (c2 : (decide (x ≤ 0) || items.isEmpty) = true) :
    Meets (Builtin.«tuple.__mul__» ⟨[.ref l, .int x u], []⟩) (fun _ R s => s.heap.get? l = some { cls := .type "tuple", dict := dd, data := .seq items n, slots := sl } ∧
      R (.ok (.ret (Value.ref s.heap.objs.size))) { s with heap := s.heap.push { cls := Value.type "tuple", data := Data.seq #[] }, toks := s.toks }) :=
  .of_wp fun prog w A R s h => by
    obtain ⟨hp, g, d, tk, os⟩ := s
    obtain ⟨hl, h⟩ := h
    have f1 := AutoSeq1.idx_int
    wp_walk using wpAny_loadPart' hl
    refine wpAny_ite_false (decide_eq_false (by rw [c0]; exact Bool.false_ne_true)) ?_
    wp_walk using wpAny_loadPart' hl
    exact ⟨_, rfl, h⟩
section
variable {X : Cx}
def rRepA (K : PySem.W.Frag) : R2 := fun x y H Q => ∃ l k xs, x = .ref l ∧ y = .int k ∧ SqT K H l xs ∧ -1000 ≤ k ∧ k ≤ 1000 ∧ xs.length ≤ 1000 ∧ ((xs = [] ∨ k = 1) → Q (.ref l) H) ∧ (¬ (xs = [] ∨ k = 1) → ∀ p, H p = none → Q (.ref p) (upd H p (.tup (List.replicate k.toNat xs).flatten)))
theorem op_repA : OpR X (binaryOp .Mult) (rRepA X.K) := by
  intro pins s σ H x y v u Q I rx ry h
  obtain ⟨l, k, xs, rfl, rfl, hT, h1, h2, hz, q1, q2⟩ := h
  by_cases hc : xs = [] ∨ k = 1
  · cases rx
    obtain ⟨t, rfl⟩ := ry
    obtain ⟨its, r, ⟨⟨cls, dd, data, sl⟩, ho, hc', n, hd⟩, hs⟩ := I.tuple hT
    simp only at hc' hd
    subst hc' hd
    have c0 : (decide (k < -(2 ^ 63)) || decide (k ≥ 2 ^ 63)) = false := by
      rw [decide_eq_false (by omega), decide_eq_false (by omega)] <;> rfl
    have c1 : (its.toArray.isEmpty || k == 1) = true := by
      rcases hc with z | z
      · have : its = [] := (r.nil_iff).mpr z
        rw [this]; rfl
      · rw [z]; simp
    exact wpAny_binaryOp_repeat_ref (T := "tuple") (U := "int") (by decide) ⟨_, ho, rfl⟩ (fun s' => typeIs_int s' k t) noFill_tuple_mul F.fills_int_mul F.slot_int_rmul repeat_tuple F.slot_int_index.lookup
      (call_meets F.slot_int_rmul (typeIs_int s k t) F.entry_int_rmul (F.args_int_rmul_2 _ _) (int_rmul_tuple k t l its.toArray n dd sl)
        ⟨ho, rfl, ⟨_, ho, rfl⟩, call_meets F.slot_tuple_mul ⟨_, ho, rfl⟩ F.entry_tuple_mul (F.args_tuple_mul_2 _ _) (tuple_mul_same l its.toArray n dd sl k t c0 c1) ⟨ho, .ref l, H, I, rfl, q1 hc⟩⟩)
  · by_cases hk : 2 ≤ k
    · exact op_repT pins s σ H _ _ v u Q I rx ry ⟨l, k, xs, rfl, rfl, hT, fun z => hc (.inl z), hk, h2, hz, q2 hc⟩
    · have hk0 : k ≤ 0 := by
        have : ¬ k = 1 := fun z => hc (.inr z)
        omega
      cases rx
      obtain ⟨t, rfl⟩ := ry
      obtain ⟨its, r, ⟨⟨cls, dd, data, sl⟩, ho, hc', n, hd⟩, hs⟩ := I.tuple hT
      simp only at hc' hd
      subst hc' hd
      have c0 : (decide (k < -(2 ^ 63)) || decide (k ≥ 2 ^ 63)) = false := by
        rw [decide_eq_false (by omega), decide_eq_false (by omega)] <;> rfl
      have c1 : (its.toArray.isEmpty || k == 1) = false := by
        have h1 : its ≠ [] := fun z => hc (.inl ((r.nil_iff).mp z))
        have h2 : (k == 1) = false := beq_eq_false_iff_ne.mpr fun z => hc (.inr z)
        rw [h2]
        cases its with
        | nil => exact absurd rfl h1
        | cons a b => rfl
      have c2 : (decide (k ≤ 0) || its.toArray.isEmpty) = true := by rw [decide_eq_true hk0]; rfl
      refine wpAny_binaryOp_repeat_ref (T := "tuple") (U := "int") (by decide) ⟨_, ho, rfl⟩ (fun s' => typeIs_int s' k t) noFill_tuple_mul F.fills_int_mul F.slot_int_rmul repeat_tuple F.slot_int_index.lookup
        (call_meets F.slot_int_rmul (typeIs_int s k t) F.entry_int_rmul (F.args_int_rmul_2 _ _) (int_rmul_tuple k t l its.toArray n dd sl)
          ⟨ho, rfl, ⟨_, ho, rfl⟩, call_meets F.slot_tuple_mul ⟨_, ho, rfl⟩ F.entry_tuple_mul (F.args_tuple_mul_2 _ _) (tuple_mul_none l its.toArray n dd sl k t c0 c1 c2) ⟨ho, ?_⟩⟩)
      have q := q2 hc _ (I.hok.fresh (Nat.le_refl _))
      have e0 : k.toNat = 0 := by omega
      rw [e0] at q
      refine ⟨.ref s.heap.objs.size, _, I.laid (t' := s.toks) (o := .tup []) (fun b ob q => Heap.get?_push_of_some _ q) (Nat.le_refl _) ?_, rfl, q⟩
      exact ⟨Nat.zero_le _, [], .nil, IsTup.new _ _⟩
end
end U

namespace U
open PySem PySem.Spec PyProof.Rows L2

/-- what is wanted of an end of the evaluator -/
def Post (K : PySem.W.Frag) (w : W) (Q : VK) : Res RV → Prop
  | .ok r S => ∀ w' H' v, w.le w' → Rel K w' S H' → RRV K w' H' r v → Q v H'
  | _ => False
def PostT (K : PySem.W.Frag) (w : W) (Q : Bool → Hp → Prop) : Res RV → Prop
  | .ok r S => ∃ b, truth r = some b ∧ ∀ w' H', w.le w' → Rel K w' S H' → Q b H'
  | _ => False
def RSVs (K : PySem.W.Frag) (w : W) : List SV → List V → Prop
  | [], vs => vs = []
  | x :: xs, vs => ∃ v r, vs = v :: r ∧ RSV K w x v ∧ RSVs K w xs r
theorem RSVs.mono {K : PySem.W.Frag} {w w' : W} (l : w.le w') : ∀ {xs : List SV} {vs : List V}, RSVs K w xs vs → RSVs K w' xs vs
  | [], _, h => h
  | x :: xs, _, ⟨v, r, e, q, t⟩ => ⟨v, r, e, q.mono K l, t.mono l⟩
def PostA (K : PySem.W.Frag) (w : W) (Q : List V → Hp → Prop) : Res (List SV) → Prop
  | .ok r S => ∀ w' H' vs, w.le w' → Rel K w' S H' → RSVs K w' r vs → Q vs H'
  | _ => False
def PostK (K : PySem.W.Frag) (w : W) (Q : List V → Hp → Prop) : Res (List D) → Prop
  | .ok r S => ∀ w' H' vs, w.le w' → Rel K w' S H' → RDs K w'.F w'.gl r vs → Q vs H'
  | _ => False
def PostP (K : PySem.W.Frag) (w : W) (Q : Option Int → Hp → Prop) : Res (Option Int) → Prop
  | .ok r S => ∀ w' H', w.le w' → Rel K w' S H' → Q r H'
  | _ => False
def tE (K : PySem.W.Frag) (f : Env → M RV) : TE := fun σ H Q => ∃ w ρ S, Rel K w S H ∧ RSl K w ρ σ ∧ Post K w Q (f ρ S)
def tT (K : PySem.W.Frag) (f : Env → M RV) : TT := fun σ H Q => ∃ w ρ S, Rel K w S H ∧ RSl K w ρ σ ∧ PostT K w Q (f ρ S)
def tA (K : PySem.W.Frag) (f : Env → M (List SV)) : TA := fun σ H Q => ∃ w ρ S, Rel K w S H ∧ RSl K w ρ σ ∧ PostA K w Q (f ρ S)
def tK (K : PySem.W.Frag) (f : Env → M (List D)) : TA := fun σ H Q => ∃ w ρ S, Rel K w S H ∧ RSl K w ρ σ ∧ PostK K w Q (f ρ S)
def tP (K : PySem.W.Frag) (f : Env → M (Option Int)) : TO := fun σ H Q => ∃ w ρ S, Rel K w S H ∧ RSl K w ρ σ ∧ PostP K w Q (f ρ S)
theorem PE.weak {X : Cx} {e : Expr} {t t' : TE} (h : PE X e t) (i : ∀ σ H Q, t' σ H Q → t σ H Q) : PE X e t' := ⟨fun pins s σ H Q I q => h.run pins s σ H Q I (i σ H Q q)⟩
theorem PT.weak {X : Cx} {e : Expr} {t t' : TT} (h : PT X e t) (i : ∀ σ H Q, t' σ H Q → t σ H Q) : PT X e t' := ⟨fun pins s σ H Q I q => h.run pins s σ H Q I (i σ H Q q)⟩
theorem PA.weak {X : Cx} {e : List Expr} {t t' : TA} (h : PA X e t) (i : ∀ σ H Q, t' σ H Q → t σ H Q) : PA X e t' := ⟨fun pos pins s σ H Q I q => h.run pos pins s σ H Q I (i σ H Q q)⟩
theorem PO.weak {X : Cx} {e : Option Expr} {t t' : TO} (h : PO X e t) (i : ∀ σ H Q, t' σ H Q → t σ H Q) : PO X e t' := by
  refine ⟨fun pins s σ H Q I q => ?_⟩
  exact h.run pins s σ H Q I (i σ H Q q)

section
variable {K : PySem.W.Frag}
theorem bind_ok {α β : Type} {m : M α} {f : α → M β} {S S2 : St} {b : β} (h : M.bind m f S = .ok b S2) : ∃ a S1, m S = .ok a S1 ∧ f a S1 = .ok b S2 := by
  unfold M.bind at h
  split at h
  · exact ⟨_, _, by assumption, h⟩
  · cases h
  · cases h
theorem Post.ok {w : W} {Q : VK} {r : Res RV} (h : Post K w Q r) : ∃ v S, r = .ok v S := by
  cases r with
  | ok v S => exact ⟨v, S, rfl⟩
  | exc _ _ => exact h.elim
  | bad => exact h.elim
/-- an operand, then the rest -/
theorem one {fa : Env → M RV} {w : W} {ρ : Env} {S S1 : St} {x : RV} {σ : L2.St} {H : Hp} {R : VK} (r : Rel K w S H) (sl : RSl K w ρ σ) (ex : fa ρ S = .ok x S1)
    (h : ∀ w1 H1 vx, w.le w1 → Rel K w1 S1 H1 → RRV K w1 H1 x vx → R vx H1) : tE K fa σ H R := ⟨w, ρ, S, r, sl, by rw [ex]; exact h⟩
/-- two operands, then the operator -/
theorem two {fa fb : Env → M RV} {w : W} {ρ : Env} {S S1 S2 : St} {x y : RV} {σ : L2.St} {H : Hp} {Q : VK} {r : R2} (hr : Rel K w S H) (sl : RSl K w ρ σ) (ex : fa ρ S = .ok x S1) (ey : fb ρ S1 = .ok y S2)
    (h : ∀ w2 H2 vx vy, w.le w2 → Rel K w2 S2 H2 → RSV K w2 (hold x) vx → RRV K w2 H2 y vy → r vx vy H2 Q) : tOp r (tE K fa) (tE K fb) σ H Q := by
  refine one hr sl ex fun w1 H1 vx l1 r1 q1 => ?_
  obtain ⟨w1', l1', r1', _, q1'⟩ := r1.hold K q1
  refine one r1' (sl.mono K (l1.trans l1')) ey fun w2 H2 vy l2 r2 q2 => ?_
  exact h w2 H2 vx vy ((l1.trans l1').trans l2) r2 (q1'.mono K l2) q2

/-! ### names and constants -/
variable {X : Cx}
theorem se_var {i : Nat} {x : Str} {pos : Pos} (hN : X.N[i]? = some x) (hv : Vis X.env.scope x) (hd : (x == ("__debug__" : Str)) = false) (hcd : (x == ("__classdict__" : Str)) = false) :
    PE X (.Name x pos) (tE K fun ρ S => match ρ[i]? with
      | some (some v) => .ok v.rv S
      | _ => .bad) := by
  refine PE.weak (pe_var hN hv hd hcd) fun σ H Q h => ?_
  obtain ⟨w, ρ, S, r, sl, p⟩ := h
  dsimp only at p
  split at p
  · rename_i v e
    obtain ⟨u, e1, q⟩ := sl.get K e
    exact ⟨u, e1, p w H u (.refl w) r (RRV.of K q)⟩
  · exact p.elim
theorem se_con {e : Expr} {d : D} {v : V} (h : PE X e (tC v)) (hd : ∀ F g, RD K F g d v) : PE X e (tE K fun _ => M.ret (.d d)) := by
  refine PE.weak h fun σ H Q h => ?_
  obtain ⟨w, ρ, S, r, sl, p⟩ := h
  exact p w H v (.refl w) r (hd _ _)

/-! ### operators -/
variable {a b : Expr} {pos : Pos}
def binF (op : BOp) (fa fb : Env → M RV) : Env → M RV := fun ρ => M.bind (fa ρ) fun x => M.bind (fb ρ) fun y => fun S => match view S (hold x).rv, view S y with
  | some d, some e => M.opt (bop op d e) S
  | _, _ => .bad
def oper : BOp → Operator
  | .add => .Add | .sub => .Sub | .mul => .Mult | .mod => .Mod | .fdiv => .FloorDiv | .pow => .Pow
theorem sz_le {n : Nat} (h : sz n = true) : n ≤ sizeLine := by rw [sizeLine_eq]; exact of_decide_eq_true h
theorem Rel.newT {w : W} {S : St} {H : Hp} {Q : VK} {ds : List D} {vs : List V} (r : Rel K w S H) (hF : RDs K w.F w.gl ds vs) (p : ∀ w' H' v, w.le w' → Rel K w' S H' → RRV K w' H' (.d (.tup ds)) v → Q v H') : ∀ a, H a = none → Q (.ref a) (upd H a (.tup vs)) := fun a ha => by
  obtain ⟨r2, l⟩ := r.newF K (o := .tup vs) ha
  exact p _ _ _ l r2 ⟨a, vs, rfl, .inl (.inl upd_same), RDs.mono K l.F l.gl ds hF⟩
theorem Rel.newL {w : W} {S : St} {H : Hp} {Q : VK} {ds : List D} {vs : List V} (r : Rel K w S H) (hF : RDs K w.F w.gl ds vs) (p : ∀ w' H' v, w.le w' → Rel K w' S H' → RRV K w' H' (.new (.lst ds)) v → Q v H') : ∀ a, H a = none → Q (.ref a) (upd H a (.lst vs)) := fun a ha => by
  obtain ⟨hf, hn⟩ := r.notF K ha
  exact p w _ _ (.refl w) (r.new K ha) ⟨a, vs, rfl, upd_same, hF, hf, hn⟩
/-- both operands, read -/
theorem two' {fa fb : Env → M RV} {w : W} {ρ : Env} {S S1 S2 : St} {x y : RV} {d e : D} {σ : L2.St} {H : Hp} {Q : VK} {r : R2} (hr : Rel K w S H) (sl : RSl K w ρ σ) (ex : fa ρ S = .ok x S1) (ey : fb ρ S1 = .ok y S2)
    (vx : U.view S2 (hold x).rv = some d) (vy : U.view S2 y = some e)
    (h : ∀ w2 H2 vx vy, w.le w2 → Rel K w2 S2 H2 → RTop K w2 H2 d vx → RTop K w2 H2 e vy → r vx vy H2 Q) : tOp r (tE K fa) (tE K fb) σ H Q :=
  two hr sl ex ey fun w2 H2 x1 y1 l r2 qx qy => h w2 H2 x1 y1 l r2 (r2.view K (RRV.of K qx) vx) (r2.view K qy vy)
theorem Post.bind {α : Type} {w : W} {Q : VK} {m : M α} {f : α → M RV} {S : St} (h : Post K w Q (M.bind m f S)) : ∃ a S1, m S = .ok a S1 ∧ Post K w Q (f a S1) := by
  unfold M.bind at h
  split at h
  · exact ⟨_, _, by assumption, h⟩
  · exact h.elim
  · exact h.elim
theorem small64_ok {i : Int} (h : small64 i = true) : -(2 ^ 64) < i ∧ i < 2 ^ 64 := by
  unfold small64 at h
  rw [Bool.and_eq_true] at h
  exact ⟨of_decide_eq_true h.1, of_decide_eq_true h.2⟩
inductive BopC : BOp → D → D → RV → Prop
  | addI (i j : Int) : BopC .add (.int i) (.int j) (.d (.int (i + j)))
  | addS (i j : Str) (h : sz (i.length + j.length) = true) : BopC .add (.str i) (.str j) (.d (.str (i ++ j)))
  | addT (s t : List D) (h : sz (s.length + t.length) = true) : BopC .add (.tup s) (.tup t) (.d (.tup (s ++ t)))
  | addL (s t : List D) (h : sz (s.length + t.length) = true) : BopC .add (.lst s) (.lst t) (.new (.lst (s ++ t)))
  | subI (i j : Int) : BopC .sub (.int i) (.int j) (.d (.int (i - j)))
  | mulI (i j : Int) (h : (small64 i || small64 j) = true) : BopC .mul (.int i) (.int j) (.d (.int (i * j)))
  | mulT (s : List D) (j : Int) (h : (decide (-1000 ≤ j) && decide (j ≤ 1000) && decide (s.length ≤ 1000)) = true) : BopC .mul (.tup s) (.int j) (.d (.tup (rep j.toNat s)))
  | mulL (s : List D) (j : Int) (h : (decide (-1000000 ≤ j) && decide (j ≤ 1000000) && sz (s.length * j.toNat)) = true) : BopC .mul (.lst s) (.int j) (.new (.lst (rep j.toNat s)))
  | mod (i j : Int) (h : 0 < j) : BopC .mod (.int i) (.int j) (.d (.int (i % j)))
  | fdiv (i j : Int) (h : 0 < j ∧ j < 1073741824) : BopC .fdiv (.int i) (.int j) (.d (.int (i / j)))
  | pow (i j : Int) (h : 0 ≤ j ∧ j ≤ 1000 ∧ -1000000 ≤ i ∧ i ≤ 1000000) : BopC .pow (.int i) (.int j) (.d (.int (i ^ j.toNat)))
theorem bop_c {op : BOp} {d e : D} {r : RV} (h : bop op d e = some r) : BopC op d e r := by
  unfold bop at h
  split at h
  all_goals first
    | (cases h; constructor)
    | (split at h
       · cases h; constructor; assumption
       · cases h)
    | cases h
theorem se_bin {op : BOp} {fa fb : Env → M RV} (hK : X.K = K) (ha : PE X a (tE K fa)) (hb : PE X b (tE K fb)) : PE X (.BinOp a (oper op) b pos) (tE K (binF op fa fb)) := by
  subst hK
  refine ⟨fun pins s σ H Q I h => ?_⟩
  obtain ⟨w, ρ, S, hr, sl, p⟩ := h
  unfold binF at p
  obtain ⟨x, S1, ex, p⟩ := p.bind
  obtain ⟨y, S2, ey, p⟩ := p.bind
  split at p
  · rename_i d e vx vy
    have key : ∀ (r : R2) (_ : OpR X (binaryOp (oper op)) r)
        (_ : ∀ w2 H2 vx vy, w.le w2 → Rel X.K w2 S2 H2 → RTop X.K w2 H2 d vx → RTop X.K w2 H2 e vy → r vx vy H2 Q), wpAny (model X.prog X.w) X.A (eval (.BinOp a (oper op) b pos) X.env) (EP X pins σ Q) X.xe s :=
      fun r hr' h => (pe_op hr' ha hb).run pins s σ H Q I (two' hr sl ex ey vx vy h)
    unfold M.opt at p
    split at p
    · rename_i r hbop
      cases bop_c hbop with
      | addI i j => exact key _ op_add fun w2 H2 x1 y1 l r2 q1 q2 => ⟨i, j, q1, q2, p w2 H2 _ l r2 rfl⟩
      | subI i j => exact key _ op_sub fun w2 H2 x1 y1 l r2 q1 q2 => ⟨i, j, q1, q2, p w2 H2 _ l r2 rfl⟩
      | mulI i j h64 =>
        refine key _ op_mul fun w2 H2 x1 y1 l r2 q1 q2 => ⟨i, j, q1, q2, ?_, p w2 H2 _ l r2 rfl⟩
        rcases Bool.or_eq_true _ _ |>.mp h64 with z | z
        · exact .inl (small64_ok z)
        · exact .inr (small64_ok z)
      | mod i j h0 => exact key _ op_mod fun w2 H2 x1 y1 l r2 q1 q2 => ⟨i, j, q1, q2, h0, p w2 H2 _ l r2 rfl⟩
      | fdiv i j h0 => exact key _ op_fdiv fun w2 H2 x1 y1 l r2 q1 q2 => ⟨i, j, q1, q2, h0, p w2 H2 _ l r2 rfl⟩
      | pow i j h0 => exact key _ op_pow fun w2 H2 x1 y1 l r2 q1 q2 => ⟨i, j, q1, q2, ⟨h0.1, by omega, by omega⟩, p w2 H2 _ l r2 rfl⟩
      | addS i j h0 => exact key _ op_add_str fun w2 H2 x1 y1 l r2 q1 q2 => ⟨i, j, q1, q2, sz_le h0, p w2 H2 _ l r2 rfl⟩
      | addT s t h0 =>
        refine key _ op_catA fun w2 H2 x1 y1 l r2 ⟨a1, v1, e1, t1, d1⟩ ⟨a2, v2, e2, t2, d2⟩ => ?_
        refine ⟨a1, a2, v1, v2, e1, e2, r2.sub.sqT X.K t1, r2.sub.sqT X.K t2, by rw [RDs.len X.K d1, RDs.len X.K d2]; exact sz_le h0, fun z => ?_, fun _ z => ?_, fun _ _ => ?_⟩
        · subst z
          have d0 : s = [] := List.eq_nil_of_length_eq_zero (by rw [← RDs.len X.K d1]; rfl)
          exact p w2 H2 _ l r2 ⟨a2, v2, rfl, t2, by rw [d0, List.nil_append]; exact d2⟩
        · subst z
          have d0 : t = [] := List.eq_nil_of_length_eq_zero (by rw [← RDs.len X.K d2]; rfl)
          exact p w2 H2 _ l r2 ⟨a1, v1, rfl, t1, by rw [d0, List.append_nil]; exact d1⟩
        · exact r2.newT (RDs.app X.K d1 d2) fun w' H' v l' => p w' H' v (l.trans l')
      | addL s t h0 =>
        refine key _ op_cat fun w2 H2 x1 y1 l r2 ⟨a1, v1, e1, t1, d1⟩ ⟨a2, v2, e2, t2, d2⟩ => ⟨a1, a2, v1, v2, e1, e2, t1, t2, ?_, ?_⟩
        · rw [RDs.len X.K d1, RDs.len X.K d2]; exact sz_le h0
        · exact r2.newL (RDs.app X.K d1 d2) fun w' H' v l' => p w' H' v (l.trans l')
      | mulL s j h0 =>
        rw [Bool.and_eq_true, Bool.and_eq_true, decide_eq_true_eq, decide_eq_true_eq] at h0
        refine key _ op_rep fun w2 H2 x1 y1 l r2 ⟨a1, v1, e1, t1, d1⟩ q2 => ⟨a1, j, v1, e1, q2, t1, by omega, by omega, ?_, ?_⟩
        · rw [RDs.len X.K d1]; exact sz_le h0.2
        · exact r2.newL (RDs.rep X.K d1 j.toNat) fun w' H' v l' => p w' H' v (l.trans l')
      | mulT s j h0 =>
        rw [Bool.and_eq_true, Bool.and_eq_true, decide_eq_true_eq, decide_eq_true_eq, decide_eq_true_eq] at h0
        refine key _ op_repA fun w2 H2 x1 y1 l r2 ⟨a1, v1, e1, t1, d1⟩ q2 => ⟨a1, j, v1, e1, q2, r2.sub.sqT X.K t1, h0.1.1, h0.1.2, by rw [RDs.len X.K d1]; exact h0.2, fun z => ?_, fun _ => ?_⟩
        · refine p w2 H2 _ l r2 ⟨a1, v1, rfl, t1, ?_⟩
          rcases z with z | z
          · subst z
            have d0 : s = [] := List.eq_nil_of_length_eq_zero (by rw [← RDs.len X.K d1]; rfl)
            rw [d0, show rep j.toNat ([] : List D) = [] by unfold rep; simp]
            exact rfl
          · subst z
            rw [show rep (1 : Int).toNat s = s by show (List.replicate 1 s).flatten = s; simp]
            exact d1
        · exact r2.newT (RDs.rep X.K d1 j.toNat) fun w' H' v l' => p w' H' v (l.trans l')
    · exact p.elim
  · exact p.elim
end
end U

namespace U
open PySem PySem.Spec PyProof.Rows L2
section
variable {K : PySem.W.Frag} {H : Hp} {g : List Addr}
mutual
theorem rd_dp : ∀ (n : Nat) (d : D) {v : V}, plainB n d = true → RD K H g d v → Dp K H v (D.py d)
  | _, .non, v, _, q => by rw [show v = .non from q]; exact .non
  | _, .int i, v, _, q => by rw [show v = .int i from q]; exact .int i
  | _, .str s, v, _, q => by rw [show v = .str s from q]; exact .str s
  | n + 1, .tup ds, v, h, ⟨a, vs, e, t, r⟩ => by subst e; exact .tup t (rds_dp n ds h r)
  | n + 1, .lst ds, v, h, ⟨a, vs, e, t, r⟩ => by subst e; exact .lst (SqL.of t) (rds_dp n ds h r)
  | 0, .tup _, _, h, _ => by simp [plainB] at h
  | 0, .lst _, _, h, _ => by simp [plainB] at h
  | _, .bl _, _, h, _ => by simp [plainB] at h
  | _, .dic _, _, h, _ => by simp [plainB] at h
  | _, .ref _, _, h, _ => by simp [plainB] at h
  | _, .rol _, _, h, _ => by simp [plainB] at h
theorem rds_dp : ∀ (n : Nat) (ds : List D) {vs : List V}, plainBs n ds = true → RDs K H g ds vs → DpAll K H vs (D.pys ds)
  | n, [], vs, _, q => by rw [show vs = [] from q]; exact .nil
  | n, d :: ds, vs, h, ⟨v, r, e, q, t⟩ => by
    subst e
    rw [plainBs, Bool.and_eq_true] at h
    exact .cons (rd_dp n d h.1 q) (rds_dp n ds h.2 t)
end
mutual
theorem py_lay : ∀ (n : Nat) (d : D), plainB n d = true → (D.py d).canLay0 = true ∧ (D.py d).depth ≤ n
  | n, .non, _ => ⟨rfl, Nat.zero_le _⟩
  | n, .int i, _ => ⟨rfl, Nat.zero_le _⟩
  | n, .str s, h => ⟨by simpa [plainB, D.py, PyData.canLay0] using h, Nat.zero_le _⟩
  | n + 1, .tup ds, h => by
    obtain ⟨h1, h2⟩ := pys_lay n ds h
    exact ⟨h1, Nat.succ_le_succ h2⟩
  | n + 1, .lst ds, h => by
    obtain ⟨h1, h2⟩ := pys_lay n ds h
    exact ⟨h1, Nat.succ_le_succ h2⟩
  | 0, .tup _, h => by simp [plainB] at h
  | 0, .lst _, h => by simp [plainB] at h
  | _, .bl _, h => by simp [plainB] at h
  | _, .dic _, h => by simp [plainB] at h
  | _, .ref _, h => by simp [plainB] at h
  | _, .rol _, h => by simp [plainB] at h
theorem pys_lay : ∀ (n : Nat) (ds : List D), plainBs n ds = true → PyData.canLayAll0 (D.pys ds) = true ∧ PyData.depthAll (D.pys ds) ≤ n
  | n, [], _ => ⟨rfl, Nat.zero_le _⟩
  | n, d :: ds, h => by
    rw [plainBs, Bool.and_eq_true] at h
    obtain ⟨a1, a2⟩ := py_lay n d h.1
    obtain ⟨b1, b2⟩ := pys_lay n ds h.2
    refine ⟨?_, ?_⟩
    · show (PyData.canLay0 (D.py d) && PyData.canLayAll0 (D.pys ds)) = true
      rw [a1, b1]; rfl
    · show max (PyData.depth (D.py d)) (PyData.depthAll (D.pys ds)) ≤ n
      omega
end
theorem py_shaped {d : D} (h : plainB 20 d = true) : SeqAt.shaped (D.py d) = true := by
  obtain ⟨h1, h2⟩ := py_lay 20 d h
  unfold SeqAt.shaped
  rw [h1, decide_eq_true (by omega)]; rfl
theorem pys_shaped {ds : List D} (h : plainBs 20 ds = true) : SeqAt.shaped (.list (D.pys ds)) = true := by
  obtain ⟨h1, h2⟩ := pys_lay 20 ds h
  unfold SeqAt.shaped
  show (PyData.canLayAll0 (D.pys ds) && decide (PyData.depthAll (D.pys ds) + 1 ≤ 64)) = true
  rw [h1, decide_eq_true (by omega)]; rfl
mutual
theorem py_eqv : ∀ (n m : Nat) (a b : D), plainB n a = true → plainB m b = true → PyData.eqv (D.py a) (D.py b) = D.beq a b
  | n, m, .non, b, ha, hb => by cases b <;> first | rfl | (cases m <;> simp [plainB] at hb)
  | n, m, .int i, b, ha, hb => by cases b <;> first | rfl | (cases m <;> simp [plainB] at hb)
  | n, m, .str s, b, ha, hb => by cases b <;> first | rfl | (cases m <;> simp [plainB] at hb)
  | n + 1, m, .tup ds, b, ha, hb => by
    cases b with
    | tup es =>
      cases m with
      | zero => simp [plainB] at hb
      | succ m => exact pys_eqv n m ds es ha hb
    | non => rfl
    | int _ => rfl
    | str _ => rfl
    | lst _ => rfl
    | bl _ => simp [plainB] at hb
    | dic _ => simp [plainB] at hb
    | ref _ => simp [plainB] at hb
    | rol _ => simp [plainB] at hb
  | n + 1, m, .lst ds, b, ha, hb => by
    cases b with
    | lst es =>
      cases m with
      | zero => simp [plainB] at hb
      | succ m => exact pys_eqv n m ds es ha hb
    | non => rfl
    | int _ => rfl
    | str _ => rfl
    | tup _ => rfl
    | bl _ => simp [plainB] at hb
    | dic _ => simp [plainB] at hb
    | ref _ => simp [plainB] at hb
    | rol _ => simp [plainB] at hb
  | 0, _, .tup _, _, h, _ => by simp [plainB] at h
  | 0, _, .lst _, _, h, _ => by simp [plainB] at h
  | _, _, .bl _, _, h, _ => by simp [plainB] at h
  | _, _, .dic _, _, h, _ => by simp [plainB] at h
  | _, _, .ref _, _, h, _ => by simp [plainB] at h
  | _, _, .rol _, _, h, _ => by simp [plainB] at h
theorem pys_eqv : ∀ (n m : Nat) (a b : List D), plainBs n a = true → plainBs m b = true → PyData.eqvAll (D.pys a) (D.pys b) = D.beqs a b
  | n, m, [], b, ha, hb => by cases b <;> rfl
  | n, m, x :: xs, [], ha, hb => rfl
  | n, m, x :: xs, y :: ys, ha, hb => by
    rw [plainBs, Bool.and_eq_true] at ha hb
    show (PyData.eqv (D.py x) (D.py y) && PyData.eqvAll (D.pys xs) (D.pys ys)) = (D.beq x y && D.beqs xs ys)
    rw [py_eqv n m x y ha.1 hb.1, pys_eqv n m xs ys ha.2 hb.2]
end
theorem any_eqv {x : D} {n m : Nat} (hx : plainB m x = true) : ∀ {ys : List D}, plainBs n ys = true → ((D.pys ys).any fun z => PyData.eqv z (D.py x)) = ys.any fun y => D.beq y x
  | [], _ => rfl
  | y :: ys, h => by
    rw [plainBs, Bool.and_eq_true] at h
    show (PyData.eqv (D.py y) (D.py x) || (D.pys ys).any fun z => PyData.eqv z (D.py x)) = (D.beq y x || ys.any fun y => D.beq y x)
    rw [py_eqv n m y x h.1 hx, any_eqv hx h.2]
/-- scalars -/
theorem scalar_eq {a b : D} {x y : V} (ha : scalarB a = true) (hb : scalarB b = true) (he : eqOk a b = true) (qa : RD K H g a x) (qb : RD K H g b y) : scal x y = true ∧ decide (x = y) = D.beq a b := by
  cases a <;> cases b <;> first
    | (simp [scalarB] at ha; done)
    | (simp [scalarB] at hb; done)
    | (simp [eqOk] at he; done)
    | (rw [show x = _ from qa, show y = _ from qb]
       first
         | exact ⟨rfl, rfl⟩
         | exact ⟨rfl, dec_int⟩
         | exact ⟨rfl, dec_bl⟩
         | exact ⟨rfl, dec_str⟩)
theorem scalar_flat {a : D} {x : V} (ha : scalarB a = true) (qa : RD K H g a x) : flatV x = true := by
  cases a <;> first
    | (simp [scalarB] at ha; done)
    | (rw [show x = _ from qa]; rfl)
theorem scalar_eqV {a b : D} {x y : V} (ha : scalarB a = true) (hb : scalarB b = true) (he : eqOk a b = true) (qa : RD K H g a x) (qb : RD K H g b y) : eqV x y = D.beq a b := by
  cases a <;> cases b <;> first
    | (simp [scalarB] at ha; done)
    | (simp [scalarB] at hb; done)
    | (simp [eqOk] at he; done)
    | (rw [show x = _ from qa, show y = _ from qb]; rfl)
theorem any_eqV {x : D} {vx : V} (hx : scalarB x = true) (qx : RD K H g x vx) : ∀ {ys : List D} {vs : List V}, (ys.all fun y => scalarB y && eqOk y x) = true → RDs K H g ys vs → vs.all flatV = true ∧ inV vx vs = ys.any fun y => D.beq y x
  | [], vs, _, q => by rw [show vs = [] from q]; exact ⟨rfl, rfl⟩
  | y :: ys, _, h, ⟨v, r, e, q, t⟩ => by
    subst e
    rw [List.all_cons, Bool.and_eq_true, Bool.and_eq_true] at h
    obtain ⟨h1, h2⟩ := any_eqV hx qx h.2 t
    refine ⟨?_, ?_⟩
    · rw [List.all_cons, scalar_flat h.1.1 q, h1]; rfl
    · show (eqV v vx || inV vx r) = (D.beq y x || ys.any fun y => D.beq y x)
      rw [scalar_eqV h.1.1 hx h.1.2 q qx, h2]
end
end U

namespace U
open PySem PySem.Spec PyProof.Rows L2
section
variable {K : PySem.W.Frag} {X : Cx}
def cmpop : COp → CmpOp
  | .eq => .Eq | .ne => .NotEq | .lt => .Lt | .le => .LtE | .gt => .Gt | .ge => .GtE | .isN => .Is | .notN => .IsNot | .in_ => .In | .notIn => .NotIn
inductive CopC : COp → D → D → Bool → Prop
  | eq (a b : D) (h : eqOk a b = true) : CopC .eq a b (D.beq a b)
  | ne (a b : D) (h : eqOk a b = true) : CopC .ne a b (!D.beq a b)
  | lt (i j : Int) : CopC .lt (.int i) (.int j) (decide (i < j))
  | le (i j : Int) : CopC .le (.int i) (.int j) (decide (i ≤ j))
  | gt (i j : Int) : CopC .gt (.int i) (.int j) (decide (j < i))
  | ge (i j : Int) : CopC .ge (.int i) (.int j) (decide (j ≤ i))
  | isN (a : D) : CopC .isN a .non (isNonB a)
  | notN (a : D) : CopC .notN a .non (!isNonB a)
  | inT (a : D) (ds : List D) (h : inOk a ds = true) : CopC .in_ a (.tup ds) (ds.any fun y => D.beq y a)
  | inL (a : D) (ds : List D) (h : inOk a ds = true) : CopC .in_ a (.lst ds) (ds.any fun y => D.beq y a)
  | notInT (a : D) (ds : List D) (h : inOk a ds = true) : CopC .notIn a (.tup ds) (!ds.any fun y => D.beq y a)
  | notInL (a : D) (ds : List D) (h : inOk a ds = true) : CopC .notIn a (.lst ds) (!ds.any fun y => D.beq y a)
theorem cop_c {op : COp} {d e : D} {r : Bool} (h : cop op d e = some r) : CopC op d e r := by
  unfold cop at h
  split at h
  all_goals first
    | (cases h; constructor)
    | (split at h
       · cases h; constructor; assumption
       · cases h)
    | (unfold hasIn at h
       split at h
       · cases h; constructor; assumption
       · cases h)
    | cases h
/-- in, not in, a tuple of nested data -/
def rInTD (K : PySem.W.Frag) (neg : Bool) : R2 := fun x y H Q => ∃ d ds, Dp K H x d ∧ Dp K H y (.tuple ds) ∧ SeqAt.shaped d = true ∧ SeqAt.shaped (.tuple ds) = true ∧ Q (.bl (if neg then !ds.any fun z => PyData.eqv z d else ds.any fun z => PyData.eqv z d)) H
theorem op_inTD (hu : X.A.units + 65 < cLine) : OpR X (compareOp .In) (rInTD X.K false) := by
  intro pins s σ H x y v u Q I rx ry h
  obtain ⟨d, ds, hd, he, sd, se, q⟩ := h
  obtain ⟨as, r1⟩ := Dp.reads I d x v hd rx
  obtain ⟨bs, r2⟩ := Dp.reads I (.tuple ds) y u he ry
  exact SeqAt.in_tuple_reads r2 r1 (SeqAt.canLay_of_shaped se) (SeqAt.canLay_of_shaped sd) (room_in_shaped sd hu) ⟨.bl _, H, I, rfl, q⟩
theorem op_notInTD (hu : X.A.units + 65 < cLine) : OpR X (compareOp .NotIn) (rInTD X.K true) := by
  intro pins s σ H x y v u Q I rx ry h
  obtain ⟨d, ds, hd, he, sd, se, q⟩ := h
  obtain ⟨as, r1⟩ := Dp.reads I d x v hd rx
  obtain ⟨bs, r2⟩ := Dp.reads I (.tuple ds) y u he ry
  exact SeqAt.notIn_tuple_reads r2 r1 (SeqAt.canLay_of_shaped se) (SeqAt.canLay_of_shaped sd) (room_in_shaped sd hu) ⟨.bl _, H, I, rfl, q⟩
theorem plainBs_shapedT {ds : List D} (h : plainBs 20 ds = true) : SeqAt.shaped (.tuple (D.pys ds)) = true := by
  obtain ⟨h1, h2⟩ := pys_lay 20 ds h
  unfold SeqAt.shaped
  show (PyData.canLayAll0 (D.pys ds) && decide (PyData.depthAll (D.pys ds) + 1 ≤ 64)) = true
  rw [h1, decide_eq_true (by omega)]; rfl
theorem isNon_iff {H : Hp} {g : List Addr} {a : D} {x : V} (q : RD K H g a x) : decide (x = .non) = isNonB a := by
  cases a with
  | non => rw [show x = _ from q]; rfl
  | bl _ => rw [show x = _ from q]; rfl
  | int _ => rw [show x = _ from q]; rfl
  | str _ => rw [show x = _ from q]; rfl
  | tup _ => obtain ⟨a, vs, e, _⟩ := q; subst e; rfl
  | lst _ => obtain ⟨a, vs, e, _⟩ := q; subst e; rfl
  | rol _ => obtain ⟨a, vs, e, _⟩ := q; subst e; rfl
  | dic _ => obtain ⟨a, us, e, _⟩ := q; subst e; rfl
  | ref _ => obtain ⟨a, _, e⟩ := q; subst e; rfl
/-- each comparison has its rule -/
theorem cop_rule {op : COp} {d e : D} {c : Bool} (hu : X.A.units + 65 < cLine) (h : cop op d e = some c) : ∃ r : R2, OpR X (compareOp (cmpop op)) r ∧
    ∀ (w : W) (S : St) (H : Hp) (x y : V) (Q : VK), Rel X.K w S H → RTop X.K w H d x → RTop X.K w H e y → Q (.bl c) H → r x y H Q := by
  have inT : ∀ (neg : Bool) (a : D) (ds : List D), inOk a ds = true → ∀ (cop : CmpOp), OpR X (compareOp cop) (rIn X.K neg) → OpR X (compareOp cop) (rInTD X.K neg) → ∃ r : R2, OpR X (compareOp cop) r ∧
      ∀ (w : W) (S : St) (H : Hp) (x y : V) (Q : VK), Rel X.K w S H → RTop X.K w H a x → RTop X.K w H (.tup ds) y → Q (.bl (if neg then !ds.any fun y => D.beq y a else ds.any fun y => D.beq y a)) H → r x y H Q := fun neg a ds hok cop o1 o2 => by
    unfold inOk at hok
    rw [Bool.or_eq_true, Bool.and_eq_true, Bool.and_eq_true] at hok
    rcases hok with ⟨h1, h2⟩ | ⟨h1, h2⟩
    · refine ⟨_, o1, fun w S H x y Q r qx qy q => ?_⟩
      have rx := qx.rd X.K r.sub
      obtain ⟨p, vs, rfl, ht, hd⟩ := qy.rd X.K r.sub
      obtain ⟨f1, f2⟩ := any_eqV h1 rx h2 hd
      exact ⟨p, vs, rfl, .inr ht, scalar_flat h1 rx, f1, by rw [f2]; exact q⟩
    · refine ⟨_, o2, fun w S H x y Q r qx qy q => ?_⟩
      have rx := qx.rd X.K r.sub
      obtain ⟨p, vs, rfl, ht, hd⟩ := qy.rd X.K r.sub
      exact ⟨D.py a, D.pys ds, rd_dp 20 a h1 rx, .tup ht (rds_dp 20 ds h2 hd), py_shaped h1, plainBs_shapedT h2, by rw [any_eqv h1 h2]; exact q⟩
  have inL : ∀ (neg : Bool) (a : D) (ds : List D), inOk a ds = true → ∀ (cop : CmpOp), OpR X (compareOp cop) (rIn X.K neg) → OpR X (compareOp cop) (if neg then rNotInD X.K else rInD X.K) → ∃ r : R2, OpR X (compareOp cop) r ∧
      ∀ (w : W) (S : St) (H : Hp) (x y : V) (Q : VK), Rel X.K w S H → RTop X.K w H a x → RTop X.K w H (.lst ds) y → Q (.bl (if neg then !ds.any fun y => D.beq y a else ds.any fun y => D.beq y a)) H → r x y H Q := fun neg a ds hok cop o1 o2 => by
    unfold inOk at hok
    rw [Bool.or_eq_true, Bool.and_eq_true, Bool.and_eq_true] at hok
    rcases hok with ⟨h1, h2⟩ | ⟨h1, h2⟩
    · refine ⟨_, o1, fun w S H x y Q r qx qy q => ?_⟩
      have rx := qx.rd X.K r.sub
      obtain ⟨p, vs, rfl, ht, hd⟩ := qy.rd X.K r.sub
      obtain ⟨f1, f2⟩ := any_eqV h1 rx h2 hd
      exact ⟨p, vs, rfl, .inl (SqL.of ht), scalar_flat h1 rx, f1, by rw [f2]; exact q⟩
    · refine ⟨_, o2, fun w S H x y Q r qx qy q => ?_⟩
      have rx := qx.rd X.K r.sub
      obtain ⟨p, vs, rfl, ht, hd⟩ := qy.rd X.K r.sub
      cases neg
      · exact ⟨D.py a, D.pys ds, rd_dp 20 a h1 rx, .lst (SqL.of ht) (rds_dp 20 ds h2 hd), py_shaped h1, pys_shaped h2, by rw [any_eqv h1 h2]; exact q⟩
      · exact ⟨D.py a, D.pys ds, rd_dp 20 a h1 rx, .lst (SqL.of ht) (rds_dp 20 ds h2 hd), py_shaped h1, pys_shaped h2, by rw [any_eqv h1 h2]; exact q⟩
  have eqR : ∀ (a b : D), eqOk a b = true → (scalarB a = true ∧ scalarB b = true) ∨ (plainB 20 a = true ∧ plainB 20 b = true) := fun a b h => by
    unfold eqOk at h
    split at h
    · cases h
    · cases h
    · rw [Bool.or_eq_true, Bool.and_eq_true, Bool.and_eq_true] at h
      exact h
  cases cop_c h with
  | eq a b hok =>
    rcases eqR _ _ hok with ⟨h1, h2⟩ | ⟨h1, h2⟩
    · refine ⟨_, op_eq, fun w S H x y Q r qx qy q => ?_⟩
      obtain ⟨s1, s2⟩ := scalar_eq h1 h2 hok (qx.rd X.K r.sub) (qy.rd X.K r.sub)
      exact ⟨s1, by rw [s2]; exact q⟩
    · refine ⟨_, op_eqD (by omega), fun w S H x y Q r qx qy q => ?_⟩
      exact ⟨_, _, rd_dp 20 d h1 (qx.rd X.K r.sub), rd_dp 20 e h2 (qy.rd X.K r.sub), py_shaped h1, py_shaped h2, by rw [py_eqv 20 20 _ _ h1 h2]; exact q⟩
  | ne a b hok =>
    rcases eqR _ _ hok with ⟨h1, h2⟩ | ⟨h1, h2⟩
    · refine ⟨_, op_ne, fun w S H x y Q r qx qy q => ?_⟩
      obtain ⟨s1, s2⟩ := scalar_eq h1 h2 hok (qx.rd X.K r.sub) (qy.rd X.K r.sub)
      exact ⟨s1, by rw [s2]; exact q⟩
    · refine ⟨_, op_neD (by omega), fun w S H x y Q r qx qy q => ?_⟩
      exact ⟨_, _, rd_dp 20 d h1 (qx.rd X.K r.sub), rd_dp 20 e h2 (qy.rd X.K r.sub), py_shaped h1, py_shaped h2, by rw [py_eqv 20 20 _ _ h1 h2]; exact q⟩
  | lt i j => exact ⟨_, op_lt, fun w S H x y Q r qx qy q => ⟨i, j, qx, qy, q⟩⟩
  | le i j => exact ⟨_, op_le, fun w S H x y Q r qx qy q => ⟨i, j, qx, qy, q⟩⟩
  | gt i j => exact ⟨_, op_gt, fun w S H x y Q r qx qy q => ⟨i, j, qx, qy, q⟩⟩
  | ge i j => exact ⟨_, op_ge, fun w S H x y Q r qx qy q => ⟨i, j, qx, qy, q⟩⟩
  | isN a => exact ⟨_, op_isN, fun w S H x y Q r qx qy q => ⟨qy, by rw [isNon_iff (qx.rd X.K r.sub)]; exact q⟩⟩
  | notN a => exact ⟨_, op_notN, fun w S H x y Q r qx qy q => ⟨qy, by rw [isNon_iff (qx.rd X.K r.sub)]; exact q⟩⟩
  | inT a ds hok => exact inT false _ ds hok _ op_in_seq (op_inTD hu)
  | inL a ds hok => exact inL false _ ds hok _ op_in_seq (op_inD hu)
  | notInT a ds hok => exact inT true _ ds hok _ op_notIn_seq (op_notInTD hu)
  | notInL a ds hok => exact inL true _ ds hok _ op_notIn_seq (op_notInD hu)

/-! ### comparisons as values, as tests -/
variable {a b c : Expr} {pos : Pos}
def cmpF (op : COp) (fa fb : Env → M RV) : Env → M RV := fun ρ => M.bind (fa ρ) fun x => M.bind (fb ρ) fun y => fun S => match view S (hold x).rv, view S y with
  | some d, some e => match cop op d e with
    | some c => .ok (.d (.bl c)) S
    | none => .bad
  | _, _ => .bad
theorem PostT.bind {α : Type} {w : W} {Q : Bool → Hp → Prop} {m : M α} {f : α → M RV} {S : St} (h : PostT K w Q (M.bind m f S)) : ∃ a S1, m S = .ok a S1 ∧ PostT K w Q (f a S1) := by
  unfold M.bind at h
  split at h
  · exact ⟨_, _, by assumption, h⟩
  · exact h.elim
  · exact h.elim
theorem se_cmp {op : COp} {fa fb : Env → M RV} (hK : X.K = K) (hu : X.A.units + 65 < cLine) (ha : PE X a (tE K fa)) (hb : PE X b (tE K fb)) (hm : behindInMarks (cmpop op) b = false) : PE X (.Compare a [cmpop op] [b] pos) (tE K (cmpF op fa fb)) := by
  subst hK
  refine ⟨fun pins s σ H Q I h => ?_⟩
  obtain ⟨w, ρ, S, hr, sl, p⟩ := h
  unfold cmpF at p
  obtain ⟨x, S1, ex, p⟩ := p.bind
  obtain ⟨y, S2, ey, p⟩ := p.bind
  split at p
  · rename_i d e vx vy
    split at p
    · rename_i c hc
      obtain ⟨r, ho, hq⟩ := cop_rule hu hc
      exact (pe_cmpR ho ha hb hm).run pins s σ H Q I (two' hr sl ex ey vx vy fun w2 H2 x1 y1 l r2 q1 q2 => hq w2 S2 H2 x1 y1 Q r2 q1 q2 (p w2 H2 _ l r2 rfl))
    · exact p.elim
  · exact p.elim
theorem st_cmp {op : COp} {fa fb : Env → M RV} (hK : X.K = K) (hu : X.A.units + 65 < cLine) (ha : PE X a (tE K fa)) (hb : PE X b (tE K fb)) (hm : behindInMarks (cmpop op) b = false) : PT X (.Compare a [cmpop op] [b] pos) (tT K (cmpF op fa fb)) := by
  subst hK
  refine ⟨fun pins s σ H Q I h => ?_⟩
  obtain ⟨w, ρ, S, hr, sl, p⟩ := h
  unfold cmpF at p
  obtain ⟨x, S1, ex, p⟩ := p.bind
  obtain ⟨y, S2, ey, p⟩ := p.bind
  split at p
  · rename_i d e vx vy
    split at p
    · rename_i c hc
      obtain ⟨r, ho, hq⟩ := cop_rule hu hc
      obtain ⟨c', ec, p⟩ := p
      cases ec
      exact (pt_cmpR ho ha hb hm).run pins s σ H Q I (two' hr sl ex ey vx vy fun w2 H2 x1 y1 l r2 q1 q2 => hq w2 S2 H2 x1 y1 _ r2 q1 q2 ⟨c, rfl, p w2 H2 l r2⟩)
    · exact p.elim
  · exact p.elim
def chainF (op op2 : COp) (fa fb fc : Env → M RV) : Env → M RV := fun ρ => M.bind (fa ρ) fun x => M.bind (fb ρ) fun y => fun S => match view S (hold x).rv, view S (hold y).rv with
  | some d, some e => match cop op d e with
    | some true => M.bind (fc ρ) (fun z => fun S1 => match view S1 (hold y).rv, view S1 z with
      | some e', some f => match cop op2 e' f with
        | some r => .ok (.d (.bl r)) S1
        | none => .bad
      | _, _ => .bad) S
    | some false => .ok (.d (.bl false)) S
    | none => .bad
  | _, _ => .bad
theorem chain_core {op op2 : COp} {fa fb fc : Env → M RV} {w : W} {ρ : Env} {S S1 S2 : St} {x y : RV} {σ : L2.St} {H : Hp} {Q : VK} {rr : Res RV} {d e : D} (hu : X.A.units + 65 < cLine) (hr : Rel X.K w S H) (sl : RSl X.K w ρ σ) (ex : fa ρ S = .ok x S1) (ey : fb ρ S1 = .ok y S2)
    (vx : U.view S2 (hold x).rv = some d) (vy : U.view S2 (hold y).rv = some e)
    (hres : chainF op op2 fa fb fc ρ S = rr) {b : Bool} {S3 : St} (hb : rr = .ok (.d (.bl b)) S3) (p : ∀ w' H', w.le w' → Rel X.K w' S3 H' → Q (.bl b) H') :
    ∃ r r', OpR X (compareOp (cmpop op)) r ∧ OpR X (compareOp (cmpop op2)) r' ∧ tChain r r' (tE X.K fa) (tE X.K fb) (tE X.K fc) σ H Q := by
  subst hres
  unfold chainF M.bind at hb
  rw [ex] at hb
  dsimp only at hb
  rw [ey] at hb
  dsimp only at hb
  rw [vx, vy] at hb
  dsimp only at hb
  have two2 : ∀ (R : V → V → Hp → Prop), (∀ w2 H2 vx vy, w.le w2 → Rel X.K w2 S2 H2 → RTop X.K w2 H2 d vx → RSV X.K w2 (hold y) vy → RTop X.K w2 H2 e vy → R vx vy H2) → tE X.K fa σ H (fun x H1 => tE X.K fb σ H1 fun y H2 => R x y H2) := fun R h => by
    refine one hr sl ex fun w1 H1 vx1 l1 r1 q1 => ?_
    obtain ⟨w1', l1', r1', _, q1'⟩ := r1.hold X.K q1
    refine one r1' (sl.mono X.K (l1.trans l1')) ey fun w2 H2 vy1 l2 r2 q2 => ?_
    obtain ⟨w2', l2', r2', _, q2'⟩ := r2.hold X.K q2
    exact h w2' H2 _ _ (((l1.trans l1').trans l2).trans l2') r2' (r2'.view X.K (RRV.of X.K (q1'.mono X.K (l2.trans l2'))) vx) q2' (r2'.view X.K (RRV.of X.K q2') vy)
  cases hc : cop op d e with
  | none => rw [hc] at hb; cases hb
  | some c =>
    rw [hc] at hb
    obtain ⟨r, ho, hq⟩ := cop_rule (X := X) hu hc
    cases c with
    | false =>
      cases hb
      refine ⟨r, fun _ _ _ _ => False, ho, fun _ _ _ _ _ _ _ _ _ _ _ _ h => h.elim, ?_⟩
      exact two2 _ fun w2 H2 vx1 vy1 l r2 q1 _ q2 => hq w2 S2 H2 _ _ _ r2 q1 q2 ⟨false, rfl, p w2 H2 l r2⟩
    | true =>
      dsimp only at hb
      cases hz : fc ρ S2 with
      | exc _ _ => rw [hz] at hb; cases hb
      | bad => rw [hz] at hb; cases hb
      | ok z S4 =>
        rw [hz] at hb
        dsimp only at hb
        split at hb
        · rename_i e' f vy' vz
          cases hc2 : cop op2 e' f with
          | none => rw [hc2] at hb; cases hb
          | some c2 =>
            rw [hc2] at hb
            cases hb
            obtain ⟨r', ho', hq'⟩ := cop_rule (X := X) hu hc2
            refine ⟨r, r', ho, ho', ?_⟩
            refine two2 _ fun w2 H2 vx1 vy1 l r2 q1 qh q2 => hq w2 S2 H2 _ _ _ r2 q1 q2 ⟨true, rfl, ?_⟩
            rw [if_pos rfl]
            refine one r2 (sl.mono X.K l) hz fun w3 H3 vz1 l3 r3 q3 => ?_
            exact hq' w3 _ H3 _ _ _ r3 (r3.view X.K (RRV.of X.K (qh.mono X.K l3)) vy') (r3.view X.K q3 vz) (p w3 H3 (l.trans l3) r3)
        · cases hb
theorem chain_bl {op op2 : COp} {fa fb fc : Env → M RV} {ρ : Env} {S S3 : St} {r : RV} (h : chainF op op2 fa fb fc ρ S = .ok r S3) : ∃ x S1 y S2 d e b, fa ρ S = .ok x S1 ∧ fb ρ S1 = .ok y S2 ∧ U.view S2 (hold x).rv = some d ∧ U.view S2 (hold y).rv = some e ∧ r = .d (.bl b) := by
  unfold chainF at h
  obtain ⟨x, S1, ex, h⟩ := bind_ok h
  obtain ⟨y, S2, ey, h⟩ := bind_ok h
  split at h
  · rename_i d e vx vy
    refine ⟨x, S1, y, S2, d, e, ?_⟩
    split at h
    · obtain ⟨z, S4, ez, h⟩ := bind_ok h
      split at h
      · split at h
        · cases h; exact ⟨_, ex, ey, vx, vy, rfl⟩
        · cases h
      · cases h
    · cases h; exact ⟨_, ex, ey, vx, vy, rfl⟩
    · cases h
  · cases h
theorem se_chain {op op2 : COp} {fa fb fc : Env → M RV} (hK : X.K = K) (hu : X.A.units + 65 < cLine) (ha : PE X a (tE K fa)) (hb : PE X b (tE K fb)) (hc : PE X c (tE K fc)) (hm : lastMarks [cmpop op, cmpop op2] [b, c] = false) :
    PE X (.Compare a [cmpop op, cmpop op2] [b, c] pos) (tE K (chainF op op2 fa fb fc)) := by
  subst hK
  refine ⟨fun pins s σ H Q I h => ?_⟩
  obtain ⟨w, ρ, S, hr, sl, p⟩ := h
  obtain ⟨v, S3, ev⟩ := p.ok
  rw [ev] at p
  obtain ⟨x, S1, y, S2, d, e, b, ex, ey, vx, vy, rfl⟩ := chain_bl ev
  obtain ⟨r, r', ho, ho', t⟩ := chain_core hu hr sl ex ey vx vy rfl ev fun w' H' l r' => p w' H' _ l r' rfl
  exact (pe_chain ho ho' ha hb hc hm).run pins s σ H Q I t
theorem st_chain {op op2 : COp} {fa fb fc : Env → M RV} (hK : X.K = K) (hu : X.A.units + 65 < cLine) (ha : PE X a (tE K fa)) (hb : PE X b (tE K fb)) (hc : PE X c (tE K fc)) (hm : lastMarks [cmpop op, cmpop op2] [b, c] = false) :
    PT X (.Compare a [cmpop op, cmpop op2] [b, c] pos) (tT K (chainF op op2 fa fb fc)) := by
  subst hK
  refine ⟨fun pins s σ H Q I h => ?_⟩
  obtain ⟨w, ρ, S, hr, sl, p⟩ := h
  have : ∃ v S3, chainF op op2 fa fb fc ρ S = .ok v S3 := by
    cases e : chainF op op2 fa fb fc ρ S with
    | ok v S3 => exact ⟨v, S3, rfl⟩
    | exc _ _ => rw [e] at p; exact p.elim
    | bad => rw [e] at p; exact p.elim
  obtain ⟨v, S3, ev⟩ := this
  rw [ev] at p
  obtain ⟨x, S1, y, S2, d, e, b, ex, ey, vx, vy, rfl⟩ := chain_bl ev
  obtain ⟨b', eb, p⟩ := p
  cases eb
  obtain ⟨r, r', ho, ho', t⟩ := chain_core (Q := fun x H' => ∃ k, x = .bl k ∧ Q k H') hu hr sl ex ey vx vy rfl ev fun w' H' l r' => ⟨b, rfl, p w' H' l r'⟩
  exact (pt_chain ho ho' ha hb hc hm).run pins s σ H Q I t
end
end U

namespace U
open PySem PySem.Spec PyProof.Rows L2

/-! ### heads of syntax -/
def okHead : Expr → Bool
  | .Starred _ _ => false
  | .Slice _ _ _ _ => false
  | .Call (.Name _ _) [] [] _ => false
  | .Set _ _ _ => false
  | .SetComp _ _ _ _ => false
  | .DictComp _ _ _ _ _ => false
  | _ => true
theorem star_cons {e : Expr} {es : List Expr} {env : PySem.Env} (h : okHead e = true) : starEach (e :: es) env = (false, eval e env) :: starEach es env := by
  cases e <;> first | rfl | (simp [okHead] at h)
theorem star_one {e : Expr} {env : PySem.Env} (h : okHead e = true) : starEach [e] env = [(false, eval e env)] := by
  cases e <;> first | rfl | (simp [okHead] at h)
theorem plain_ix {e : Expr} (h : okHead e = true) : PlainIx e := by
  intro o i
  cases e <;> first | rfl | (simp [okHead] at h)
theorem attr_base {e : Expr} {a : Str} {env : PySem.Env} {w : Sem Value} (h : okHead e = true) : attributeBase e a env w = w := by
  unfold attributeBase
  split
  · simp [okHead] at h
  · rfl
theorem folded_set {e : Expr} {env : PySem.Env} (h : okHead e = true) (x : Value) : foldedSetIterable e env x = pure x := by
  unfold foldedSetIterable
  cases e <;> first | rfl | (simp [okHead] at h)
theorem noStar {pos : Pos} {env : PySem.Env} : ∀ {es : List Expr}, es.all okHead = true → (backTo pos (starEach es env)).any (·.1) = false
  | [], _ => rfl
  | e :: es, h => by
    rw [List.all_cons, Bool.and_eq_true] at h
    rw [star_cons h.1]
    show (false || (backTo pos (starEach es env)).any (·.1)) = false
    rw [noStar h.2]; rfl
theorem noStarAll {pos : Pos} {env : PySem.Env} : ∀ {es : List Expr}, es.all okHead = true → (backTo pos (starEach es env)).all (fun x => !x.1) = true
  | [], _ => rfl
  | e :: es, h => by
    rw [List.all_cons, Bool.and_eq_true] at h
    rw [star_cons h.1]
    show (!false && (backTo pos (starEach es env)).all fun x => !x.1) = true
    rw [noStarAll h.2]; rfl

section
variable {K : PySem.W.Frag} {X : Cx} {a b c : Expr} {pos : Pos}
/-! ### unary, and, or, if -/
def negF (fa : Env → M RV) : Env → M RV := fun ρ => M.bind (fa ρ) fun x => match x with
  | .d (.int i) => M.ret (.d (.int (-i)))
  | _ => M.bad
theorem se_neg {fa : Env → M RV} (ha : PE X a (tE K fa)) : PE X (.UnaryOp .USub a pos) (tE K (negF fa)) := by
  refine ⟨fun pins s σ H Q I h => ?_⟩
  obtain ⟨w, ρ, S, hr, sl, p⟩ := h
  unfold negF at p
  obtain ⟨x, S1, ex, p⟩ := p.bind
  have : ∃ i, x = .d (.int i) := by
    cases x with
    | d d =>
      cases d <;> first | exact ⟨_, rfl⟩ | exact False.elim p
    | loc u i => exact False.elim p
    | new c => exact False.elim p
  obtain ⟨i, rfl⟩ := this
  exact (pe_un un_neg ha).run pins s σ H Q I (one hr sl ex fun w1 H1 v l r q => ⟨i, q, p w1 H1 _ l r rfl⟩)
def notF (fa : Env → M RV) : Env → M RV := fun ρ => M.bind (fa ρ) fun x => match truth x with
  | some b => M.ret (.d (.bl (!b)))
  | none => M.bad
theorem truth_bl {x : RV} {b : Bool} (h : truth x = some b) : x = .d (.bl b) := by
  unfold truth at h
  split at h
  · cases h; rfl
  · cases h
theorem oneT {fa : Env → M RV} {w : W} {ρ : Env} {S S1 : St} {x : RV} {b : Bool} {σ : L2.St} {H : Hp} {R : Bool → Hp → Prop} (r : Rel K w S H) (sl : RSl K w ρ σ) (ex : fa ρ S = .ok x S1) (eb : truth x = some b)
    (h : ∀ w1 H1, w.le w1 → Rel K w1 S1 H1 → R b H1) : tT K fa σ H R := ⟨w, ρ, S, r, sl, by rw [ex]; exact ⟨b, eb, h⟩⟩
theorem se_not {fa : Env → M RV} (ha : PE X a (tE K fa)) : PE X (.UnaryOp .Not a pos) (tE K (notF fa)) := by
  refine ⟨fun pins s σ H Q I h => ?_⟩
  obtain ⟨w, ρ, S, hr, sl, p⟩ := h
  unfold notF at p
  obtain ⟨x, S1, ex, p⟩ := p.bind
  cases eb : truth x with
  | none => rw [eb] at p; exact False.elim p
  | some b =>
    rw [eb] at p
    have eb := truth_bl eb
    subst eb
    exact (pe_not ha).run pins s σ H Q I (one hr sl ex fun w1 H1 v l r q => ⟨b, q, p w1 H1 _ l r rfl⟩)
theorem st_not {fa : Env → M RV} (ha : PT X a (tT K fa)) : PT X (.UnaryOp .Not a pos) (tT K (notF fa)) := by
  refine ⟨fun pins s σ H Q I h => ?_⟩
  obtain ⟨w, ρ, S, hr, sl, p⟩ := h
  unfold notF at p
  obtain ⟨x, S1, ex, p⟩ := p.bind
  cases eb : truth x with
  | none => rw [eb] at p; exact False.elim p
  | some b =>
    rw [eb] at p
    obtain ⟨b', e', p⟩ := p
    cases e'
    exact (pt_not ha).run pins s σ H Q I (oneT hr sl ex eb fun w1 H1 l r => p w1 H1 l r)
def andF (fa fb : Env → M RV) : Env → M RV := fun ρ => M.bind (fa ρ) fun x => match truth x with
  | some true => fb ρ
  | some false => M.ret (.d (.bl false))
  | none => M.bad
def orF (fa fb : Env → M RV) : Env → M RV := fun ρ => M.bind (fa ρ) fun x => match truth x with
  | some true => M.ret (.d (.bl true))
  | some false => fb ρ
  | none => M.bad
variable {rest : List Expr}
theorem Post.le {w w1 : W} {Q : VK} {r : Res RV} (l : w.le w1) (p : Post K w Q r) : Post K w1 Q r := by
  cases r with
  | ok v S => exact fun w' H' v l' => p w' H' v (l.trans l')
  | exc _ _ => exact p
  | bad => exact p
theorem PostT.le {w w1 : W} {Q : Bool → Hp → Prop} {r : Res RV} (l : w.le w1) (p : PostT K w Q r) : PostT K w1 Q r := by
  cases r with
  | ok v S =>
    obtain ⟨b, e, p⟩ := p
    exact ⟨b, e, fun w' H' l' => p w' H' (l.trans l')⟩
  | exc _ _ => exact p
  | bad => exact p
theorem se_and {fa fb : Env → M RV} (ha : PE X a (tE K fa)) (hb : PE X (.BoolOp .And (b :: rest) pos) (tE K fb)) : PE X (.BoolOp .And (a :: b :: rest) pos) (tE K (andF fa fb)) := by
  refine ⟨fun pins s σ H Q I h => ?_⟩
  obtain ⟨w, ρ, S, hr, sl, p⟩ := h
  unfold andF at p
  obtain ⟨x, S1, ex, p⟩ := p.bind
  refine (pe_and ha hb).run pins s σ H Q I (one hr sl ex fun w1 H1 v l r q => ?_)
  cases eb : truth x with
  | none => rw [eb] at p; exact False.elim p
  | some b0 =>
    rw [eb] at p
    cases b0 with
    | true =>
      have eb := truth_bl eb
      subst eb
      exact ⟨true, q, by rw [if_pos rfl]; exact ⟨w1, ρ, S1, r, sl.mono K l, p.le l⟩⟩
    | false =>
      have eb := truth_bl eb
      subst eb
      exact ⟨false, q, by rw [if_neg Bool.false_ne_true]; exact p w1 H1 _ l r rfl⟩
theorem se_or {fa fb : Env → M RV} (ha : PE X a (tE K fa)) (hb : PE X (.BoolOp .Or (b :: rest) pos) (tE K fb)) : PE X (.BoolOp .Or (a :: b :: rest) pos) (tE K (orF fa fb)) := by
  refine ⟨fun pins s σ H Q I h => ?_⟩
  obtain ⟨w, ρ, S, hr, sl, p⟩ := h
  unfold orF at p
  obtain ⟨x, S1, ex, p⟩ := p.bind
  refine (pe_or ha hb).run pins s σ H Q I (one hr sl ex fun w1 H1 v l r q => ?_)
  cases eb : truth x with
  | none => rw [eb] at p; exact False.elim p
  | some b0 =>
    rw [eb] at p
    cases b0 with
    | true =>
      have eb := truth_bl eb
      subst eb
      exact ⟨true, q, by rw [if_pos rfl]; exact p w1 H1 _ l r rfl⟩
    | false =>
      have eb := truth_bl eb
      subst eb
      exact ⟨false, q, by rw [if_neg Bool.false_ne_true]; exact ⟨w1, ρ, S1, r, sl.mono K l, p.le l⟩⟩
theorem se_one {op : PySem.BoolOp} {fa : Env → M RV} (ha : PE X a (tE K fa)) : PE X (.BoolOp op [a] pos) (tE K fa) := pe_one ha
theorem sw_and {fa fb : Env → M RV} (ha : PT X a (tT K fa)) (hb : PW X (.BoolOp .And (b :: rest) pos) (tT K fb)) : PW X (.BoolOp .And (a :: b :: rest) pos) (tT K (andF fa fb)) := by
  refine ⟨fun wh pins s σ H Q I h => ?_⟩
  obtain ⟨w, ρ, S, hr, sl, p⟩ := h
  unfold andF at p
  obtain ⟨x, S1, ex, p⟩ := p.bind
  cases eb : truth x with
  | none => rw [eb] at p; exact False.elim p
  | some b0 =>
    rw [eb] at p
    cases b0 with
    | true =>
      exact (pw_and ha hb).run wh pins s σ H Q I (oneT hr sl ex eb fun w1 H1 l r => by rw [if_pos rfl]; exact ⟨w1, ρ, S1, r, sl.mono K l, p.le l⟩)
    | false =>
      obtain ⟨b', e', p⟩ := p
      cases e'
      exact (pw_and ha hb).run wh pins s σ H Q I (oneT hr sl ex eb fun w1 H1 l r => by rw [if_neg Bool.false_ne_true]; exact p w1 H1 l r)
theorem sw_or {fa fb : Env → M RV} (ha : PT X a (tT K fa)) (hb : PW X (.BoolOp .Or (b :: rest) pos) (tT K fb)) : PW X (.BoolOp .Or (a :: b :: rest) pos) (tT K (orF fa fb)) := by
  refine ⟨fun wh pins s σ H Q I h => ?_⟩
  obtain ⟨w, ρ, S, hr, sl, p⟩ := h
  unfold orF at p
  obtain ⟨x, S1, ex, p⟩ := p.bind
  cases eb : truth x with
  | none => rw [eb] at p; exact False.elim p
  | some b0 =>
    rw [eb] at p
    cases b0 with
    | true =>
      obtain ⟨b', e', p⟩ := p
      cases e'
      exact (pw_or ha hb).run wh pins s σ H Q I (oneT hr sl ex eb fun w1 H1 l r => by rw [if_pos rfl]; exact p w1 H1 l r)
    | false =>
      exact (pw_or ha hb).run wh pins s σ H Q I (oneT hr sl ex eb fun w1 H1 l r => by rw [if_neg Bool.false_ne_true]; exact ⟨w1, ρ, S1, r, sl.mono K l, p.le l⟩)
def ifF (ft fa fb : Env → M RV) : Env → M RV := fun ρ => M.bind (ft ρ) fun x => match truth x with
  | some true => fa ρ
  | some false => fb ρ
  | none => M.bad
theorem se_ife {ft fa fb : Env → M RV} (ht : PT X c (tT K ft)) (ha : PE X a (tE K fa)) (hb : PE X b (tE K fb)) : PE X (.IfExp c a b pos) (tE K (ifF ft fa fb)) := by
  refine ⟨fun pins s σ H Q I h => ?_⟩
  obtain ⟨w, ρ, S, hr, sl, p⟩ := h
  unfold ifF at p
  obtain ⟨x, S1, ex, p⟩ := p.bind
  cases eb : truth x with
  | none => rw [eb] at p; exact False.elim p
  | some b0 =>
    rw [eb] at p
    cases b0 with
    | true =>
      exact (pe_ifExp ht ha hb).run pins s σ H Q I (oneT hr sl ex eb fun w1 H1 l r => by rw [if_pos rfl]; exact ⟨w1, ρ, S1, r, sl.mono K l, p.le l⟩)
    | false =>
      exact (pe_ifExp ht ha hb).run pins s σ H Q I (oneT hr sl ex eb fun w1 H1 l r => by rw [if_neg Bool.false_ne_true]; exact ⟨w1, ρ, S1, r, sl.mono K l, p.le l⟩)
/-- any other expression as a test -/
def okTest : Expr → Bool
  | .UnaryOp .Not _ _ => false
  | .BoolOp _ _ _ => false
  | .IfExp _ _ _ _ => false
  | .Compare _ _ _ _ => false
  | _ => true
theorem st_val {f : Env → M RV} (h : PE X a (tE K f)) (ht : okTest a = true) : PT X a (tT K f) := by
  refine ⟨fun pins s σ H Q I hq => ?_⟩
  obtain ⟨w, ρ, S, hr, sl, p⟩ := hq
  have he : ∀ whole, PySem.isTrue a X.env whole = (do let v ← whole; standAt a.pos; holding [v] (truthy v)) := by
    intro whole
    unfold PySem.isTrue
    split <;> first | rfl | (simp [okTest] at ht)
  refine (pt_val h he).run pins s σ H Q I ?_
  cases ev : f ρ S with
  | ok v S1 =>
    rw [ev] at p
    obtain ⟨b, eb, p⟩ := p
    have eb := truth_bl eb
    subst eb
    exact one hr sl ev fun w1 H1 v l r q => ⟨b, q, p w1 H1 l r⟩
  | exc _ _ => rw [ev] at p; exact p.elim
  | bad => rw [ev] at p; exact p.elim

/-! ### arguments, displays -/
def argF (fa : Env → M RV) (fr : Env → M (List SV)) : Env → M (List SV) := fun ρ => M.bind (fa ρ) fun x => M.bind (fr ρ) fun xs => M.ret (hold x :: xs)
def itemF (fa : Env → M RV) (fr : Env → M (List D)) : Env → M (List D) := fun ρ => M.bind (fa ρ) fun x => M.bind (keep x) fun d => M.bind (fr ρ) fun ds => M.ret (d :: ds)
variable {es : List Expr}
theorem PostA.bind {α : Type} {w : W} {Q : List V → Hp → Prop} {m : M α} {f : α → M (List SV)} {S : St} (h : PostA K w Q (M.bind m f S)) : ∃ a S1, m S = .ok a S1 ∧ PostA K w Q (f a S1) := by
  unfold M.bind at h
  split at h
  · exact ⟨_, _, by assumption, h⟩
  · exact h.elim
  · exact h.elim
theorem PostK.bind {α : Type} {w : W} {Q : List V → Hp → Prop} {m : M α} {f : α → M (List D)} {S : St} (h : PostK K w Q (M.bind m f S)) : ∃ a S1, m S = .ok a S1 ∧ PostK K w Q (f a S1) := by
  unfold M.bind at h
  split at h
  · exact ⟨_, _, by assumption, h⟩
  · exact h.elim
  · exact h.elim
theorem sa_nil : PA X [] (tA K fun _ => M.ret []) := by
  refine PA.weak pa_nil fun σ H Q h => ?_
  obtain ⟨w, ρ, S, hr, sl, p⟩ := h
  exact p w H [] (.refl w) hr rfl
theorem sa_cons {fa : Env → M RV} {fr : Env → M (List SV)} (ha : PE X a (tE K fa)) (hr : PA X es (tA K fr)) (ho : okHead a = true) : PA X (a :: es) (tA K (argF fa fr)) := by
  refine PA.weak (pa_cons ha hr (star_cons ho)) fun σ H Q h => ?_
  obtain ⟨w, ρ, S, hr, sl, p⟩ := h
  unfold argF at p
  obtain ⟨x, S1, ex, p⟩ := p.bind
  obtain ⟨xs, S2, exs, p⟩ := p.bind
  refine one hr sl ex fun w1 H1 v l r q => ?_
  obtain ⟨w1', l1', r1', _, q1'⟩ := r.hold K q
  refine ⟨w1', ρ, S1, r1', sl.mono K (l.trans l1'), ?_⟩
  rw [exs]
  exact fun w2 H2 vs l2 r2 q2 => p w2 H2 (v :: vs) ((l.trans l1').trans l2) r2 ⟨v, vs, rfl, q1'.mono K l2, q2⟩
theorem sk_nil : PA X [] (tK K fun _ => M.ret []) := by
  refine PA.weak pa_nil fun σ H Q h => ?_
  obtain ⟨w, ρ, S, hr, sl, p⟩ := h
  exact p w H [] (.refl w) hr rfl
theorem sk_cons {fa : Env → M RV} {fr : Env → M (List D)} (ha : PE X a (tE K fa)) (hr : PA X es (tK K fr)) (ho : okHead a = true) : PA X (a :: es) (tK K (itemF fa fr)) := by
  refine PA.weak (pa_cons ha hr (star_cons ho)) fun σ H Q h => ?_
  obtain ⟨w, ρ, S, hr, sl, p⟩ := h
  unfold itemF at p
  obtain ⟨x, S1, ex, p⟩ := p.bind
  obtain ⟨d, S1', ed, p⟩ := p.bind
  obtain ⟨xs, S2, exs, p⟩ := p.bind
  refine one hr sl ex fun w1 H1 v l r q => ?_
  obtain ⟨w1', l1', r1', _, q1'⟩ := r.kept K q ed
  refine ⟨w1', ρ, S1', r1', sl.mono K (l.trans l1'), ?_⟩
  rw [exs]
  exact fun w2 H2 vs l2 r2 q2 => p w2 H2 (v :: vs) ((l.trans l1').trans l2) r2 ⟨v, vs, rfl, RD.mono K l2.F l2.gl d q1', q2⟩
def tupF (fe : Env → M (List D)) : Env → M RV := fun ρ => M.bind (fe ρ) fun ds => fun S => if sz ds.length = true then .ok (.d (.tup ds)) S else .bad
def lstF (fe : Env → M (List D)) : Env → M RV := fun ρ => M.bind (fe ρ) fun ds => fun S => if sz ds.length = true then .ok (.new (.lst ds)) S else .bad
theorem se_tup {fe : Env → M (List D)} {n : Nat} (he : PA X es (tK K fe)) : PE X (.Tuple es n pos) (tE K (tupF fe)) := by
  refine ⟨fun pins s σ H Q I h => ?_⟩
  obtain ⟨w, ρ, S, hr, sl, p⟩ := h
  unfold tupF at p
  obtain ⟨ds, S1, ex, p⟩ := p.bind
  split at p
  · rename_i hz
    refine (pe_tup he).run pins s σ H Q I ⟨w, ρ, S, hr, sl, ?_⟩
    rw [ex]
    exact fun w' H' vs l r q => ⟨by rw [RDs.len K q]; exact sz_le hz, r.newT q fun w2 H2 v l2 => p w2 H2 v (l.trans l2)⟩
  · exact p.elim
theorem se_lst {fe : Env → M (List D)} (he : PA X es (tK K fe)) : PE X (.List es pos) (tE K (lstF fe)) := by
  refine ⟨fun pins s σ H Q I h => ?_⟩
  obtain ⟨w, ρ, S, hr, sl, p⟩ := h
  unfold lstF at p
  obtain ⟨ds, S1, ex, p⟩ := p.bind
  split at p
  · rename_i hz
    refine (pe_lst he).run pins s σ H Q I ⟨w, ρ, S, hr, sl, ?_⟩
    rw [ex]
    exact fun w' H' vs l r q => ⟨by rw [RDs.len K q]; exact sz_le hz, r.newL q fun w2 H2 v l2 => p w2 H2 v (l.trans l2)⟩
  · exact p.elim
end
end U

/-! UFn: a def's promise where nothing is being shown (repr) around the call. -/
namespace U
open PySem PySem.Spec PyProof.Rows L2

/-- FnOk of the layer, asked only of calls around which nothing is being shown -/
structure FnG (P : Program) (w : World) (K : PySem.W.Frag) (mg : Str → Option Value) (base : Heap) (CX : CXT) (k : Nat) (f : Addr) (fd : FuncData) (ps : List Str) (sp : Sp) : Prop where
  len : ∀ vs H Q E, sp vs H Q E → vs.length = ps.length
  run : ∀ (A : Around) (outer : List PySem.Env) (s : Shared) (H : Hp) (args : Args) (us : List Value) (vs : List V) (Q : VK) (E : XK), A.guards = some [] → Room k A →
    Env0 P w K mg base A outer s H → BindsTo s fd args (ps.zip us) → Vals vs us → sp vs H Q E → codeAny (model P w) A (.call (.ref f) args) (CR CX outer P w H s Q E) s
section
variable {CX : CXT} {P : Program} {w : World} {K : PySem.W.Frag} {mg : Str → Option Value} {base : Heap} {k : Nat} {f : Addr} {fd : FuncData} {ps : List Str} {sp : Sp}
theorem FnG.imp {sp' : Sp} (F : FnG P w K mg base CX k f fd ps sp) (h : ∀ vs H Q E, sp' vs H Q E → sp vs H Q E) : FnG P w K mg base CX k f fd ps sp' :=
  ⟨fun _ _ _ _ q => F.len _ _ _ _ (h _ _ _ _ q), fun A outer s H args us vs Q E g r e b v q => F.run A outer s H args us vs Q E g r e b v (h _ _ _ _ q)⟩
theorem FnG.mono {j : Nat} (F : FnG P w K mg base CX j f fd ps sp) (h : j ≤ k) : FnG P w K mg base CX k f fd ps sp :=
  ⟨F.len, fun A outer s H args us vs Q E g r => F.run A outer s H args us vs Q E g (r.mono h)⟩
/-- by its body -/
theorem fnG_of {N : List Str} {x qual : Str} {st : Stmt} (F : Fun K x qual st f fd) (S : FnScope N ps (defScope st)) (len : ∀ vs H Q E, sp vs H Q E → vs.length = ps.length)
    (body : ∀ (cdv : Value) (A : Around) (outer : List PySem.Env) (s : Shared) (H : Hp) (vs : List V) (Q : VK) (E : XK), A.guards = some [] →
      Room k (A.deeper (envOfC qual (defScope st) s.heap.objs.size f cdv)) → sp vs H Q E →
      ∃ t, PSs (cxOf CX P w K mg base N qual (defScope st) f cdv A outer s H E) (defBody st) t ∧ t { nx := fun _ H' => Q .non H', rt := Q } (start N vs) H) :
    FnG P w K mg base CX (k + 1) f fd ps sp := by
  obtain ⟨oc, od, kV, doc, pm, an, cdv, ct, osl, efd, lk, hcd⟩ := F.ex
  subst efd
  constructor
  · exact len
  · intro A outer s H args us vs Q E hg room e0 hb hv hsp
    have inK := e0.mod.kin.keeps (fun b o e => (e0.bs b o e).1)
    refine codeAny_call_function room.depth (inK f _ lk) rfl S.co S.gen rfl (PySem.W.codeRec_of inK hcd) (hb _ _ _ _ ?_)
    refine wpAny_newFunctionEnv_cells S.kind ?_ (fun env he s1 x => ?_)
    · rintro ⟨n, v⟩ hy
      cases S.par n (List.of_mem_zip hy).1 with
      | inl q => exact Or.inl q
      | inr q => exact Or.inr (And.intro q (PySem.W.cellsFrom_some _ _ _ (Or.inl q)))
    · subst he
      refine And.intro ((e0.mod.nolimit.keeps (fun b o e => (e0.bs b o e).1)).keeps x.toInCall.keep) (codeAny_func ?_)
      obtain ⟨t, ht, hq⟩ := body cdv A outer s H vs Q E hg (room.deeper _) hsp
      have start := inv_start (CX := CX) (E := E) S room.hd e0 (len _ _ _ _ hsp) hv x
      refine wpAny_mono (ht.run [] s1 _ H _ start hq) ?_ (fun _ _ z => z)
      intro fl s' z
      cases fl with
      | next => obtain ⟨_, H', J, q⟩ := z; exact ⟨V.non, H', J.os, J.bare, J.base, J.hok, rfl, q⟩
      | ret u => obtain ⟨v, _, H', J, rv, q⟩ := z; exact ⟨v, H', J.os, J.bare, J.base, J.hok, rv, q⟩
      | cont => obtain ⟨_, _, _, q⟩ := z; exact q.elim
      | brk => obtain ⟨_, _, _, q⟩ := z; exact q.elim
end
section
variable {X : Cx} {CX : CXT} {k : Nat} {f : Addr} {fd : FuncData} {ps : List Str} {sp : Sp} {E : XK} {x : Str} {p pos : Pos} {e : Expr} {es : List Expr} {t : TA}
theorem run_G {pins : List (Addr × Obj)} {σ : L2.St} {H : Hp} {s : Shared} {Q : VK} {us : List Value} {vs : List V} (F : FnG X.prog X.w X.K X.mg X.base CX k f fd ps sp) (hg : X.A.guards = some []) (hr : Room k X.A) (hb : Binds X.K fd ps [])
    (hx : Passes CX X E) (I : Inv X pins σ H s) (r : Vals vs us) (h : sp vs H Q E) : wpAny (model X.prog X.w) X.A (call (.ref f) us) (EP X pins σ Q) X.xe s := by
  have hl : us.length = ps.length := r.length.symm.trans (F.len _ _ _ _ h)
  have hbi : BindsTo s fd ⟨us, []⟩ (ps.zip us) := by
    have := hb s us I.kIn (by rw [List.append_nil]; exact hl)
    rw [List.append_nil] at this
    exact this
  refine wpAny_call (codeAny_mono (F.run X.A X.stack s H _ us vs Q E hg hr I.env0 hbi r h) ?_)
  intro res s' z
  match res, z with
  | .error e, z => exact hx pins σ H s e s' I z
  | .ok (.ret u), z => exact I.after z
  | .ok .next, z => exact z.elim
  | .ok .brk, z => exact z.elim
  | .ok .cont, z => exact z.elim
theorem ce_call (F : FnG X.prog X.w X.K X.mg X.base CX k f fd ps sp) (hgd : X.A.guards = some []) (hr : Room k X.A) (hg : Gl X x) (hm : X.mg x = some (.ref f)) (hk : PySem.W.keepIn X.K (.ref f) = true) (hb : Binds X.K fd ps []) (hx : Passes CX X E)
    (ha : PA X (e :: es) t) (hdb : (x == ("__debug__" : Str)) = false) (ho : (e :: es).all okHead = true) : PE X (.Call (.Name x p) (e :: es) [] pos) (tCall sp [] E t) := by
  rw [List.all_cons, Bool.and_eq_true] at ho
  constructor
  intro pins s σ H Q I h
  refine wpAny_Call_Name_kw (ld_glob I hg hm ?_ hdb)
  refine PySem.W.callWith_K (h₀ := X.base) I.ok.mod.kin hk (thn (ha.run pos pins s σ H _ I h) ?_) (star_cons ho.1) (noStar ho.2)
  rintro us s1 ⟨vs, H1, I1, r, q⟩
  rw [List.append_nil] at q
  exact ⟨I1.kIn, run_G F hgd hr hb hx I1 r q⟩
end

/-! ### the law's own call -/
section
variable {P : Program} {w : World} {K : PySem.W.Frag} {mg mb : Str → Option Value} {k : Nat} {fa a : Addr} {fd : FuncData} {x : Str} {sp : Sp} {s₁ : Shared} {vs : List Value} {ns : List Int}
theorem law_core (KX : K.In s₁.heap) (hns : s₁.heap.Ns mainGlobals mg) (hb : s₁.heap.Ns builtinsNs mb) (hbb : ∀ x : Str, x ≠ "__name__" → mb x = bootBuiltins x) (hlim : s₁.heap.NoLimit) (hg : s₁.gens = #[])
    (ha : s₁.heap.get? a = some { cls := .type "list", data := .seq vs.toArray }) (hr : Room k callerA) (F : ∀ base : Heap, K.In base → base.Ns mainGlobals mg → FnG P w K mg base CX0 k fa fd [x] sp)
    (hbind : ∀ (s : Shared) (u : Value), BindsTo s fd ⟨[u], []⟩ [(x, u)]) {H : Hp} (hO : Only H) (hok : HOk P w H s₁.heap) (only : ∀ b, H b ≠ none → b = a) (notK : H a ≠ none → K.lookup a = none)
    (hsp : sp [.ref a] H (fun v _ => v = .bl true) fun _ _ _ => False) :
    codeAny (model P w) callerA (.call (.ref fa) ⟨[.ref a], []⟩) (fun r s' => r = .ok (.ret (.bool true)) ∧ OldK s₁.heap s'.heap ∧ s'.os = s₁.os ∧ AllBare s'.gens) s₁ := by
  have dictFree : ∀ (b : Addr) (o : Obj) (es : Array DictEntry) (ep : Nat), s₁.heap.get? b = some o → o.data = .dict es ep → H b = none := by
    intro b o es ep e d
    apply Classical.byContradiction
    intro nz
    have : b = a := only b nz
    subst this
    rw [ha] at e
    cases e
    cases d
  have ns_hid : ∀ (b : Addr) (m : Str → Option Value), s₁.heap.Ns b m → (hidT s₁.heap H).Ns b m := by
    rintro b m ⟨o, es, ep, e, d, rr⟩
    exact ⟨o, es, ep, hidT_get e (dictFree b o es ep e d), d, rr⟩
  have kin : K.In (hidT s₁.heap H) := by
    intro b o e
    refine hidT_get (KX b o e) (Classical.byContradiction fun nz => ?_)
    have : b = a := only b nz
    subst this
    rw [notK nz] at e
    cases e
  have e0 : Env0 P w K mg (hidT s₁.heap H) callerA [] s₁ H := by
    refine ⟨rfl, ⟨kin, ns_hid _ _ hns, ⟨mb, ns_hid _ _ hb, hbb⟩, ?_⟩, fun b o e => of_hidT e, Nat.le_of_eq (hidT_size _ _), trivial, ?_, hok, .of_eq hg⟩
    · obtain ⟨mc, h1, h2⟩ := hlim
      exact ⟨mc, ns_hid _ _ h1, h2⟩
    · intro b z
      exact absurd (show b ∈ ([] : List Addr) from z) List.not_mem_nil
  refine codeAny_mono ((F _ kin (ns_hid _ _ hns)).run callerA [] s₁ H _ [.ref a] [.ref a] _ _ rfl hr e0 (hbind s₁ (.ref a)) (.cons rfl .nil) hsp) ?_
  intro res s' z
  match res, z with
  | .ok (.ret u), ⟨v, H', os, bare, un, hok', rv, q⟩ =>
    have q : v = .bl true := q
    subst q
    obtain rfl : u = Value.bool true := rv
    refine ⟨rfl, OldK.of_keep ?_, os, bare⟩
    intro b o e
    cases q : H b with
    | none => exact un.keep b o e q (fun z => absurd (show b ∈ ([] : List Addr) from z) List.not_mem_nil) List.not_mem_nil
    | some u =>
      cases hO b with
      | inl z => rw [q] at z; cases z
      | inr z =>
        obtain ⟨ob, xs, z⟩ := z
        have h1 := (hok b _ z).1
        rw [e] at h1
        cases h1
        exact (hok' b _ (un.frzs b _ _ z)).1
theorem law_callG (KX : K.In s₁.heap) (hns : s₁.heap.Ns mainGlobals mg) (hb : s₁.heap.Ns builtinsNs mb) (hbb : ∀ x : Str, x ≠ "__name__" → mb x = bootBuiltins x) (hlim : s₁.heap.NoLimit) (hg : s₁.gens = #[])
    (ha : s₁.heap.get? a = some { cls := .type "list", data := .seq vs.toArray }) (hi : IntsAre vs ns) (hl : ns.length ≤ sizeLine) (hr : Room k callerA) (F : ∀ base : Heap, K.In base → base.Ns mainGlobals mg → FnG P w K mg base CX0 k fa fd [x] sp)
    (hbind : ∀ (s : Shared) (u : Value), BindsTo s fd ⟨[u], []⟩ [(x, u)]) (hsp : ∀ H : Hp, SqL K H a (ns.map V.int) → sp [.ref a] H (fun v _ => v = .bl true) fun _ _ _ => False) :
    codeAny (model P w) callerA (.call (.ref fa) ⟨[.ref a], []⟩) (fun r s' => r = .ok (.ret (.bool true)) ∧ OldK s₁.heap s'.heap ∧ s'.os = s₁.os ∧ AllBare s'.gens) s₁ := by
  have rv := vals_of_ints hi
  cases hk : K.lookup a with
  | some o =>
    have e := KX a o hk
    rw [ha] at e
    cases e
    have sq : SqL K (fun _ => none) a (ns.map V.int) := Or.inr ⟨_, vs.toArray, _, hk, rfl, rfl, rfl, by rw [List.size_toArray, hi.length]; exact hl, by simpa using rv⟩
    exact law_core KX hns hb hbb hlim hg ha hr F hbind (H := fun _ => none) (fun _ => Or.inl rfl) (fun b u z => nomatch z) (fun b z => absurd rfl z) (fun z => absurd rfl z) (hsp _ sq)
  | none =>
    have atA : ∀ b, (upd (fun _ => none) a (.frz { cls := .type "list", data := .seq vs.toArray } (.lst (ns.map V.int)))) b ≠ none → b = a := by
      intro b z
      apply Classical.byContradiction
      intro hb
      rw [upd_ne hb] at z
      exact z rfl
    refine law_core KX hns hb hbb hlim hg ha hr F hbind (H := upd (fun _ => none) a (.frz { cls := .type "list", data := .seq vs.toArray } (.lst (ns.map V.int)))) ?_ ?_ atA (fun _ => hk) (hsp _ (Or.inl (Or.inr ⟨_, upd_same⟩)))
    · intro b
      by_cases hb : b = a
      · subst hb; exact Or.inr ⟨_, _, upd_same⟩
      · exact Or.inl (upd_ne hb)
    · intro b u z
      have hb : b = a := atA b (by rw [z]; intro q; cases q)
      subst hb
      rw [upd_same] at z
      cases z
      exact ⟨ha, by rw [List.length_map]; exact hl, vs, _, rv, ha⟩
end
theorem walk_G {l : PySem.W.OpenLaw} {n k : Nat} {q : Program} {loose : List Str} {XP : (Str → Option Value) → Heap → Prop} {YP : World → Heap → Prop} {d : DefRec} {K : Params → PySem.W.Frag} {sp : World → Sp} {x : Str}
    (hn : l.most = some n) (hn2 : n ≤ sizeLine) (hdf : d.params.defaults = []) (hr : Room k callerA) (hY : ∀ (w : World) (h : Heap), YP w h → (K w.params).In h)
    (F : ∀ (w : World) (mg : Str → Option Value) (fa : Addr) (h : Heap), (K w.params).In h → h.Ns mainGlobals mg → mg d.name = some (.ref fa) →
      ∃ fd : FuncData, (∀ (s : Shared) (u : Value), BindsTo s fd ⟨[u], []⟩ [(x, u)]) ∧ ∀ base : Heap, (K w.params).In base → base.Ns mainGlobals mg → FnG l.prog w (K w.params) mg base CX0 k fa fd [x] (sp w))
    (hsp : ∀ (w : World) (H : Hp) (a : Addr) (ns : List Int), ns.length ≤ n → SqL (K w.params) H a (ns.map V.int) → sp w [.ref a] H (fun v _ => v = .bl true) fun _ _ _ => False) :
    PySem.W.WalkO q loose XP YP l.row.toRowW d [] (fun f vs => PySem.call f vs) := by
  apply Att.attach_call hn hdf
  intro w s₀ s₁ mg mb fa o pm cd doc a vs ns G Y ho hd hcd hmg hobj hints hlen hg
  obtain ⟨fd, hb, hF⟩ := F w mg fa _ (hY w _ Y) G.T.g hmg
  exact law_callG (hY w _ Y) G.T.g G.T.b G.T.builtins G.T.nolimit hg hobj hints (Nat.le_trans hlen hn2) hr hF hb fun H hS => hsp w H a ns hlen hS
end U

namespace U
open PySem PySem.Spec PyProof.Rows L2
section
variable {K : PySem.W.Frag} {X : Cx} {a b c e : Expr} {es : List Expr} {x : Str} {p pos : Pos}

/-! ### calls -/
def spC (K : PySem.W.Frag) (C : Nat → List SV → M RV) (np f : Nat) : Sp := fun vs H Q E => ∃ w S svs, svs.length = np ∧ Rel K w S H ∧ RSVs K w svs vs ∧ Post K w Q (C f svs S)
theorem RSVs.len {w : W} : ∀ {xs : List SV} {vs : List V}, RSVs K w xs vs → vs.length = xs.length
  | [], _, h => by rw [show _ = [] from h]; rfl
  | x :: xs, _, ⟨v, r, e, q, t⟩ => by rw [e, List.length_cons, List.length_cons, RSVs.len t]
def callF (C : Nat → List SV → M RV) (f : Nat) (fe : Env → M (List SV)) : Env → M RV := fun ρ => M.bind (fe ρ) fun vs => C f vs
theorem se_call {C : Nat → List SV → M RV} {f np : Nat} {fe : Env → M (List SV)} {k : Nat} {fa : Addr} {fd : FuncData} {ps : List Str} (hK : X.K = K) (F : FnG X.prog X.w X.K X.mg X.base CX0 k fa fd ps (spC X.K C np f)) (hgd : X.A.guards = some []) (hr : Room k X.A) (hg : Gl X x) (hm : X.mg x = some (.ref fa))
    (hk : PySem.W.keepIn X.K (.ref fa) = true) (hb : Binds X.K fd ps []) (hlen : ∀ vs S r S', C f vs S = .ok r S' → vs.length = np) (ha : PA X (e :: es) (tA K fe)) (hdb : (x == ("__debug__" : Str)) = false) (ho : (e :: es).all okHead = true) :
    PE X (.Call (.Name x p) (e :: es) [] pos) (tE K (callF C f fe)) := by
  subst hK
  refine PE.weak (ce_call (E := E0) F hgd hr hg hm hk hb pass0 ha hdb ho) fun σ H Q h => ?_
  obtain ⟨w, ρ, S, hr, sl, p⟩ := h
  unfold callF at p
  obtain ⟨vs, S1, ex, p⟩ := p.bind
  obtain ⟨r, S2, er⟩ := p.ok
  refine ⟨w, ρ, S, hr, sl, ?_⟩
  rw [ex]
  exact fun w1 H1 us l r1 q => by
    show spC X.K C np f (us ++ []) H1 Q E0
    rw [List.append_nil]
    exact ⟨w1, S1, vs, hlen _ _ _ _ er, r1, q, p.le l⟩

/-! ### subscripts -/
def ixF (fa fb : Env → M RV) : Env → M RV := fun ρ => M.bind (fa ρ) fun x => M.bind (fb ρ) fun y => fun S => match view S (hold x).rv, view S y with
  | some d, some e => match getIx d e with
    | some v => .ok (.d v) S
    | none => .bad
  | _, _ => .bad
inductive IxC : D → D → D → Prop
  | tup (ds : List D) (i : Int) (k : Nat) (v : D) (h : U.ixN ds.length i = some k) (hv : ds[k]? = some v) : IxC (.tup ds) (.int i) v
  | lst (ds : List D) (i : Int) (k : Nat) (v : D) (h : U.ixN ds.length i = some k) (hv : ds[k]? = some v) : IxC (.lst ds) (.int i) v
  | rol (ds : List D) (i : Int) (k : Nat) (v : D) (h : U.ixN ds.length i = some k) (hv : ds[k]? = some v) : IxC (.rol ds) (.int i) v
  | str (s : Str) (i : Int) (k : Nat) (c : Nat) (hz : sz s.length = true) (h : U.ixN s.length i = some k) (hv : s.cps.toList[k]? = some c) : IxC (.str s) (.int i) (.str ⟨#[c]⟩)
theorem ix_c {d e v : D} (h : getIx d e = some v) : IxC d e v := by
  unfold getIx at h
  split at h
  · split at h
    · exact .tup _ _ _ _ (by assumption) h
    · cases h
  · split at h
    · exact .lst _ _ _ _ (by assumption) h
    · cases h
  · split at h
    · exact .rol _ _ _ _ (by assumption) h
    · cases h
  · split at h
    · split at h
      · split at h
        · cases h; exact .str _ _ _ _ (by assumption) (by assumption) (by assumption)
        · cases h
      · cases h
    · cases h
  · cases h
theorem ixN_eq (n : Nat) (i : Int) : U.ixN n i = L2.ixN n i := rfl
theorem atI_of {α : Type} {xs : List α} {i : Int} {k : Nat} {v : α} (h : U.ixN xs.length i = some k) (hv : xs[k]? = some v) : atI xs i = some v := by
  unfold atI
  rw [← ixN_eq, h]
  exact hv
theorem se_ix {fa fb : Env → M RV} (hK : X.K = K) (ha : PE X a (tE K fa)) (hb : PE X b (tE K fb)) (ho : okHead b = true) : PE X (.Subscript a b pos) (tE K (ixF fa fb)) := by
  subst hK
  refine ⟨fun pins s σ H Q I h => ?_⟩
  obtain ⟨w, ρ, S, hr, sl, p⟩ := h
  unfold ixF at p
  obtain ⟨x, S1, ex, p⟩ := p.bind
  obtain ⟨y, S2, ey, p⟩ := p.bind
  split at p
  · rename_i d e vx vy
    split at p
    · rename_i v hv
      have key : ∀ (r : R2) (_ : IxR X r) (_ : ∀ w2 H2 vx vy, w.le w2 → Rel X.K w2 S2 H2 → RTop X.K w2 H2 d vx → RTop X.K w2 H2 e vy → r vx vy H2 Q), wpAny (model X.prog X.w) X.A (eval (.Subscript a b pos) X.env) (EP X pins σ Q) X.xe s :=
        fun r hr' h => (pe_ix hr' ha hb (plain_ix ho)).run pins s σ H Q I (two' hr sl ex ey vx vy h)
      cases ix_c hv with
      | tup ds i k v h hv =>
        refine key _ ix_tup fun w2 H2 x1 y1 l r2 ⟨a1, v1, e1, t1, d1⟩ q2 => ?_
        obtain ⟨u, hu, ru⟩ := RDs.get X.K d1 hv
        exact ⟨a1, v1, i, u, e1, q2, r2.sub.sqT X.K t1, atI_of (by rw [RDs.len X.K d1]; exact h) hu, p w2 H2 _ l r2 ru⟩
      | lst ds i k v h hv =>
        refine key _ ix_list fun w2 H2 x1 y1 l r2 ⟨a1, v1, e1, t1, d1⟩ q2 => ?_
        obtain ⟨u, hu, ru⟩ := RDs.get X.K d1 hv
        exact ⟨a1, v1, i, u, e1, q2, SqL.of t1, atI_of (by rw [RDs.len X.K d1]; exact h) hu, p w2 H2 _ l r2 ru⟩
      | rol ds i k v h hv =>
        refine key _ ix_list fun w2 H2 x1 y1 l r2 ⟨a1, v1, e1, t1, d1⟩ q2 => ?_
        obtain ⟨u, hu, ru⟩ := RDs.get X.K d1 hv
        exact ⟨a1, v1, i, u, e1, q2, r2.sub.sqL X.K t1, atI_of (by rw [RDs.len X.K d1]; exact h) hu, p w2 H2 _ l r2 ru⟩
      | str z i k c hz h hv2 =>
        refine key _ ix_str fun w2 H2 x1 y1 l r2 q1 q2 => ⟨z, i, c, q1, q2, sz_le hz, atI_of ?_ hv2, p w2 H2 _ l r2 rfl⟩
        rw [Array.length_toList]; exact h
    · exact p.elim
  · exact p.elim

/-! ### slices -/
def slF (fa : Env → M RV) (fl fh : Env → M (Option Int)) : Env → M RV := fun ρ => M.bind (fa ρ) fun x => M.bind (fl ρ) fun l => M.bind (fh ρ) fun h => fun S => match view S (hold x).rv with
  | some d => M.opt (getSl d l h) S
  | none => .bad
theorem PostP.bind {α : Type} {w : W} {Q : Option Int → Hp → Prop} {m : M α} {f : α → M (Option Int)} {S : St} (h : PostP K w Q (M.bind m f S)) : ∃ a S1, m S = .ok a S1 ∧ PostP K w Q (f a S1) := by
  unfold M.bind at h
  split at h
  · exact ⟨_, _, by assumption, h⟩
  · exact h.elim
  · exact h.elim
theorem so_none : PO X none (tP K fun _ => M.ret none) := by
  refine PO.weak po_none fun σ H Q h => ?_
  obtain ⟨w, ρ, S, hr, sl, p⟩ := h
  exact p w H (.refl w) hr
def partF (fa : Env → M RV) : Env → M (Option Int) := fun ρ => M.bind (fa ρ) fun x => match dataInt x with
  | some i => M.ret (some i)
  | none => M.bad
theorem dataInt_eq {r : RV} {i : Int} (h : dataInt r = some i) : r = .d (.int i) := by
  unfold dataInt at h
  split at h
  · cases h; rfl
  · cases h
theorem so_some {fa : Env → M RV} (ha : PE X a (tE K fa)) : PO X (some a) (tP K (partF fa)) := by
  refine PO.weak (po_some ha) fun σ H Q h => ?_
  obtain ⟨w, ρ, S, hr, sl, p⟩ := h
  unfold partF at p
  obtain ⟨x, S1, ex, p⟩ := p.bind
  cases hi : dataInt x with
  | none => rw [hi] at p; exact False.elim p
  | some i =>
    rw [hi] at p
    have := dataInt_eq hi
    subst this
    exact one hr sl ex fun w1 H1 v l r q => ⟨i, q, p w1 H1 l r⟩
theorem sIx_eq (n d : Nat) : ∀ o : Option Int, U.sIx n d o = HT.sIx n d o := by
  intro o
  cases o with
  | none => rfl
  | some v =>
    have h := HT.clip_eq v n d
    show (if v < 0 then (v + (n : Int)).toNat else min v.toNat n) = _
    by_cases hv : v < 0
    · rw [if_pos hv] at h ⊢
      omega
    · rw [if_neg hv] at h ⊢
      omega
inductive SlC : D → Option Int → Option Int → RV → Prop
  | tup (ds : List D) (l h : Option Int) : SlC (.tup ds) l h (.d (.tup (U.cut ds l h)))
  | lst (ds : List D) (l h : Option Int) : SlC (.lst ds) l h (.new (.lst (U.cut ds l h)))
  | str (z : Str) (l h : Option Int) (hz : sz z.length = true) : SlC (.str z) l h (.d (.str ⟨(U.cut z.cps.toList l h).toArray⟩))
theorem sl_c {d : D} {l h : Option Int} {r : RV} (e : getSl d l h = some r) : SlC d l h r := by
  unfold getSl at e
  split at e
  · cases e; constructor
  · cases e; constructor
  · split at e
    · cases e; constructor; assumption
    · cases e
  · cases e
theorem RDs.cut {F : Hp} {g : List Addr} {ds : List D} {vs : List V} (h : RDs K F g ds vs) (lo hi : Option Int) : RDs K F g (U.cut ds lo hi) (cutV vs lo hi) := by
  unfold U.cut cutV
  rw [RDs.len K h, sIx_eq, sIx_eq]
  exact RDs.take K _ (RDs.drop K _ h)
theorem se_sl {fa : Env → M RV} {fl fh : Env → M (Option Int)} {lo hi : Option Expr} {p2 : Pos} (hK : X.K = K) (ha : PE X a (tE K fa)) (hl : PO X lo (tP K fl)) (hh : PO X hi (tP K fh)) : PE X (.Subscript a (.Slice lo hi none p2) pos) (tE K (slF fa fl fh)) := by
  subst hK
  refine ⟨fun pins s σ H Q I h => ?_⟩
  obtain ⟨w, ρ, S, hr, sl, p⟩ := h
  unfold slF at p
  obtain ⟨x, S1, ex, p⟩ := p.bind
  obtain ⟨l, S2, el, p⟩ := p.bind
  obtain ⟨h, S3, eh, p⟩ := p.bind
  split at p
  · rename_i d vd
    have key : ∀ (r : V → Option Int → Option Int → Hp → VK → Prop) (_ : SlR X r) (_ : ∀ w2 H2 vx, w.le w2 → Rel X.K w2 S3 H2 → RTop X.K w2 H2 d vx → r vx l h H2 Q), wpAny (model X.prog X.w) X.A (eval (.Subscript a (.Slice lo hi none p2) pos) X.env) (EP X pins σ Q) X.xe s := by
      intro r hr' hq
      refine (pe_slice hr' ha hl hh).run pins s σ H Q I ?_
      refine one hr sl ex fun w1 H1 v1 l1 r1 q1 => ?_
      obtain ⟨w1', l1', r1', _, q1'⟩ := r1.hold X.K q1
      refine ⟨w1', ρ, S1, r1', sl.mono X.K (l1.trans l1'), ?_⟩
      rw [el]
      intro w2 H2 l2 r2
      refine ⟨w2, ρ, S2, r2, sl.mono X.K ((l1.trans l1').trans l2), ?_⟩
      rw [eh]
      intro w3 H3 l3 r3
      exact hq w3 H3 v1 (((l1.trans l1').trans l2).trans l3) r3 (r3.view X.K (RRV.of X.K (q1'.mono X.K (l2.trans l3))) vd)
    cases hs : getSl d l h with
    | none => rw [hs] at p; exact False.elim p
    | some r =>
      rw [hs] at p
      cases sl_c hs with
      | tup ds l h =>
        refine key _ sl_tupA fun w2 H2 x1 l2 r2 ⟨a1, v1, e1, t1, d1⟩ => ⟨a1, v1, e1, r2.sub.sqT X.K t1, fun z => ?_, fun z => ?_⟩
        · refine p w2 H2 _ l2 r2 ⟨a1, v1, rfl, t1, ?_⟩
          have e : cutV v1 l h = v1 := by
            unfold cutV
            rw [z.1, z.2]
            simp
          have d2 := d1.cut l h
          rw [e] at d2
          exact d2
        · exact r2.newT (d1.cut l h) fun w' H' v l' => p w' H' v (l2.trans l')
      | lst ds l h =>
        refine key _ sl_list fun w2 H2 x1 l2 r2 ⟨a1, v1, e1, t1, d1⟩ => ⟨a1, v1, e1, SqL.of t1, ?_⟩
        exact r2.newL (d1.cut l h) fun w' H' v l' => p w' H' v (l2.trans l')
      | str z l h hz =>
        refine key _ sl_str fun w2 H2 x1 l2 r2 q1 => ⟨z, q1, sz_le hz, ?_⟩
        have e : cutS z l h = ⟨(U.cut z.cps.toList l h).toArray⟩ := by
          unfold cutS U.cut
          rw [sIx_eq, sIx_eq, Array.length_toList]
          rfl
        rw [e]
        exact p w2 H2 _ l2 r2 rfl
  · exact p.elim
end
end U

set_option exponentiation.threshold 2000
namespace U
open PySem PySem.Spec PyProof.Rows L2
section
variable {K : PySem.W.Frag} {H : Hp} {g : List Addr}
mutual
theorem rd_dpS : ∀ (n : Nat) (d : D) {v : V}, showB n d = true → RD K H g d v → Dp K H v (D.py d)
  | _, .non, v, _, q => by rw [show v = .non from q]; exact .non
  | _, .bl b, v, _, q => by rw [show v = .bl b from q]; exact .bl b
  | _, .int i, v, _, q => by rw [show v = .int i from q]; exact .int i
  | _, .str s, v, _, q => by rw [show v = .str s from q]; exact .str s
  | n + 1, .tup ds, v, h, ⟨a, vs, e, t, r⟩ => by subst e; exact .tup t (rds_dpS n ds h r)
  | n + 1, .lst ds, v, h, ⟨a, vs, e, t, r⟩ => by subst e; exact .lst (SqL.of t) (rds_dpS n ds h r)
  | 0, .tup _, _, h, _ => by simp [showB] at h
  | 0, .lst _, _, h, _ => by simp [showB] at h
  | _, .dic _, _, h, _ => by simp [showB] at h
  | _, .ref _, _, h, _ => by simp [showB] at h
  | _, .rol _, _, h, _ => by simp [showB] at h
theorem rds_dpS : ∀ (n : Nat) (ds : List D) {vs : List V}, showBs n ds = true → RDs K H g ds vs → DpAll K H vs (D.pys ds)
  | n, [], vs, _, q => by rw [show vs = [] from q]; exact .nil
  | n, d :: ds, vs, h, ⟨v, r, e, q, t⟩ => by
    subst e
    rw [showBs, Bool.and_eq_true] at h
    exact .cons (rd_dpS n d h.1 q) (rds_dpS n ds h.2 t)
end
theorem log_ok {i : Int} (h : (decide (-1000000000000000000000 ≤ i) && decide (i ≤ 1000000000000000000000)) = true) : i.natAbs.log2 < 1920 := by
  rw [Bool.and_eq_true, decide_eq_true_eq, decide_eq_true_eq] at h
  by_cases h0 : i.natAbs = 0
  · rw [h0]; decide
  · have h1 : i.natAbs < 2 ^ 1920 := Nat.lt_of_le_of_lt (show i.natAbs ≤ 1000000000000000000000 by omega) (by decide)
    exact (Nat.log2_lt h0).mpr h1
mutual
theorem py_show : ∀ (n : Nat) (d : D), showB n d = true → (D.py d).showable = true ∧ (D.py d).hasDict = false ∧ (D.py d).depth ≤ n
  | n, .non, _ => ⟨rfl, rfl, Nat.zero_le _⟩
  | n, .bl _, _ => ⟨rfl, rfl, Nat.zero_le _⟩
  | n, .int i, h => ⟨by
      have h' : (decide (-1000000000000000000000 ≤ i) && decide (i ≤ 1000000000000000000000)) = true := by cases n <;> simpa [showB] using h
      show decide (i.natAbs.log2 < 1920) = true
      exact decide_eq_true (log_ok h'), rfl, Nat.zero_le _⟩
  | n, .str s, h => ⟨rfl, rfl, Nat.zero_le _⟩
  | n + 1, .tup ds, h => by
    obtain ⟨h1, h2, h3⟩ := pys_show n ds h
    exact ⟨h1, h2, Nat.succ_le_succ h3⟩
  | n + 1, .lst ds, h => by
    obtain ⟨h1, h2, h3⟩ := pys_show n ds h
    exact ⟨h1, h2, Nat.succ_le_succ h3⟩
  | 0, .tup _, h => by simp [showB] at h
  | 0, .lst _, h => by simp [showB] at h
  | _, .dic _, h => by simp [showB] at h
  | _, .ref _, h => by simp [showB] at h
  | _, .rol _, h => by simp [showB] at h
theorem pys_show : ∀ (n : Nat) (ds : List D), showBs n ds = true → PyData.showableAll (D.pys ds) = true ∧ PyData.hasDictAll (D.pys ds) = false ∧ PyData.depthAll (D.pys ds) ≤ n
  | n, [], _ => ⟨rfl, rfl, Nat.zero_le _⟩
  | n, d :: ds, h => by
    rw [showBs, Bool.and_eq_true] at h
    obtain ⟨a1, a2, a3⟩ := py_show n d h.1
    obtain ⟨b1, b2, b3⟩ := pys_show n ds h.2
    refine ⟨?_, ?_, ?_⟩
    · show (PyData.showable (D.py d) && PyData.showableAll (D.pys ds)) = true
      rw [a1, b1]; rfl
    · show (PyData.hasDict (D.py d) || PyData.hasDictAll (D.pys ds)) = false
      rw [a2, b2]; rfl
    · show max (PyData.depth (D.py d)) (PyData.depthAll (D.pys ds)) ≤ n
      omega
end
end
section
variable {X : Cx}
/-- repr of data -/
def rRepr (K : PySem.W.Frag) : List V → Hp → VK → Prop := fun xs H Q => ∃ v d, xs = [v] ∧ Dp K H v d ∧ d.showable = true ∧ d.hasDict = false ∧ d.depth ≤ 20 ∧ d.shown.length ≤ sizeLine ∧ Q (.str d.shown) H
theorem call_repr (hg : X.A.guards = some []) (hu : X.A.units + 65 < cLine) : CallR X (.builtin "repr") (rRepr X.K) := by
  intro pins s σ H xs us Q I r h
  obtain ⟨v, d, rfl, hd, hs, hn, hdp, hz, q⟩ := h
  obtain ⟨u, rfl, ru⟩ := vals1 r
  cases hd with
  | non => cases ru; exact PySem.P.repr_of_none ⟨.str _, H, I.tok _, ⟨_, rfl⟩, q⟩
  | bl b => cases ru; exact PySem.P.repr_of_bool ⟨.str _, H, I.tok _, ⟨_, rfl⟩, (by cases b <;> exact q)⟩
  | int i =>
    obtain ⟨t, rfl⟩ := ru
    exact PySem.P.repr_of_int (of_decide_eq_true hs) ⟨.str _, H, I.tok _, ⟨_, rfl⟩, q⟩
  | str x =>
    obtain ⟨t, rfl⟩ := ru
    exact PySem.P.repr_of_str ⟨.str _, H, I.tok _, ⟨_, rfl⟩, q⟩ hz
  | lst h1 h2 =>
    obtain ⟨as, rd⟩ := Dp.reads I _ _ _ (Dp.lst h1 h2) ru
    cases ru
    exact PySem.repr_of_reads' rd hs (fun z => by rw [hn] at z; cases z) hg (by omega) (fun _ _ z => z) (fun h' u tk k => ⟨.str _, H, I.kept k, ⟨_, rfl⟩, q⟩) hz
  | tup h1 h2 =>
    obtain ⟨as, rd⟩ := Dp.reads I _ _ _ (Dp.tup h1 h2) ru
    cases ru
    exact PySem.repr_of_reads' rd hs (fun z => by rw [hn] at z; cases z) hg (by omega) (fun _ _ z => z) (fun h' u tk k => ⟨.str _, H, I.kept k, ⟨_, rfl⟩, q⟩) hz
end

/-! ### built-ins by name -/
def bval : B1 → Value
  | .int => .type "int" | .tuple => .type "tuple" | .list => .type "list" | .str => .type "str" | .set => .type "set"
  | .len => .builtin "len" | .sum => .builtin "sum" | .repr => .builtin "repr" | .max => .builtin "max" | .min => .builtin "min" | .sorted => .builtin "sorted" | .absV => .builtin "abs"
  | .isTup => .builtin "isinstance" | .isStr => .builtin "isinstance" | .isInt => .builtin "isinstance" | .isBool => .builtin "isinstance"
def bname : B1 → Str
  | .int => "int" | .tuple => "tuple" | .list => "list" | .str => "str" | .set => "set"
  | .len => "len" | .sum => "sum" | .repr => "repr" | .max => "max" | .min => "min" | .sorted => "sorted" | .absV => "abs"
  | .isTup => "isinstance" | .isStr => "isinstance" | .isInt => "isinstance" | .isBool => "isinstance"
theorem bboot (b : B1) : bootBuiltins (bname b) = some (bval b) := by cases b <;> decide +kernel
theorem bdebug (b : B1) : (bname b == ("__debug__" : Str)) = false := by cases b <;> decide +kernel
theorem bnoname (b : B1) : bname b ≠ "__name__" := by cases b <;> decide +kernel
section
variable {X : Cx} {e : Expr} {es : List Expr} {t : TA} {p pos : Pos} {r : List V → Hp → VK → Prop}
theorem ce_blt {b : B1} (hc : CallR X (bval b) r) (hg : Gl X (bname b)) (hm : X.mg (bname b) = none) (ha : PA X (e :: es) t) (ho : (e :: es).all okHead = true) : PE X (.Call (.Name (bname b) p) (e :: es) [] pos) (tCB r t) := by
  rw [List.all_cons, Bool.and_eq_true] at ho
  have h1 : ∀ (id : String), bval b = .builtin id → PE X (.Call (.Name (bname b) p) (e :: es) [] pos) (tCB r t) := fun id h => by
    rw [h] at hc
    exact pe_callB hc hg hm (by rw [bboot, h]) ha (bnoname b) (bdebug b) (star_cons ho.1) (noStar ho.2)
  have h2 : ∀ (id : String), bval b = .type id → PE X (.Call (.Name (bname b) p) (e :: es) [] pos) (tCB r t) := fun id h => by
    rw [h] at hc
    exact pe_callTy hc hg hm (by rw [bboot, h]) ha (bnoname b) (bdebug b) (star_cons ho.1) (noStar ho.2)
  cases b <;> first | exact h1 _ rfl | exact h2 _ rfl

/-! ### the mathematics of max, min, sorted -/
theorem foldl_max : ∀ (l : List Int) (x : Int), (l.foldl (fun a b => if b > a then b else a) x = x ∨ l.foldl (fun a b => if b > a then b else a) x ∈ l) ∧ x ≤ l.foldl (fun a b => if b > a then b else a) x ∧ ∀ y ∈ l, y ≤ l.foldl (fun a b => if b > a then b else a) x
  | [], x => ⟨.inl rfl, Int.le_refl _, fun y hy => by cases hy⟩
  | z :: l, x => by
    obtain ⟨h1, h2, h3⟩ := foldl_max l (if z > x then z else x)
    rw [List.foldl_cons]
    refine ⟨?_, ?_, fun y hy => ?_⟩
    · rcases h1 with h1 | h1
      · rw [h1]; split
        · exact .inr List.mem_cons_self
        · exact .inl rfl
      · exact .inr (List.mem_cons_of_mem _ h1)
    · refine Int.le_trans ?_ h2; split <;> omega
    · rcases List.mem_cons.mp hy with rfl | hy
      · refine Int.le_trans ?_ h2; split <;> omega
      · exact h3 y hy
theorem foldl_min : ∀ (l : List Int) (x : Int), (l.foldl (fun a b => if b < a then b else a) x = x ∨ l.foldl (fun a b => if b < a then b else a) x ∈ l) ∧ l.foldl (fun a b => if b < a then b else a) x ≤ x ∧ ∀ y ∈ l, l.foldl (fun a b => if b < a then b else a) x ≤ y
  | [], x => ⟨.inl rfl, Int.le_refl _, fun y hy => by cases hy⟩
  | z :: l, x => by
    obtain ⟨h1, h2, h3⟩ := foldl_min l (if z < x then z else x)
    rw [List.foldl_cons]
    refine ⟨?_, ?_, fun y hy => ?_⟩
    · rcases h1 with h1 | h1
      · rw [h1]; split
        · exact .inr List.mem_cons_self
        · exact .inl rfl
      · exact .inr (List.mem_cons_of_mem _ h1)
    · refine Int.le_trans h2 ?_; split <;> omega
    · rcases List.mem_cons.mp hy with rfl | hy
      · refine Int.le_trans h2 ?_; split <;> omega
      · exact h3 y hy
theorem maxL_eq {ns : List Int} {m m' : Int} (h : maxL ns = some m) (h1 : m' ∈ ns) (h2 : ∀ y ∈ ns, y ≤ m') : m' = m := by
  cases ns with
  | nil => cases h1
  | cons x r =>
    cases (show some (r.foldl (fun a b => if b > a then b else a) x) = some m from h)
    obtain ⟨a1, a2, a3⟩ := foldl_max r x
    have b1 : m' ≤ r.foldl (fun a b => if b > a then b else a) x := by
      rcases List.mem_cons.mp h1 with rfl | h1
      · exact a2
      · exact a3 _ h1
    have b2 : r.foldl (fun a b => if b > a then b else a) x ≤ m' := by
      rcases a1 with a1 | a1
      · rw [a1]; exact h2 _ List.mem_cons_self
      · exact h2 _ (List.mem_cons_of_mem _ a1)
    omega
theorem minL_eq {ns : List Int} {m m' : Int} (h : minL ns = some m) (h1 : m' ∈ ns) (h2 : ∀ y ∈ ns, m' ≤ y) : m' = m := by
  cases ns with
  | nil => cases h1
  | cons x r =>
    cases (show some (r.foldl (fun a b => if b < a then b else a) x) = some m from h)
    obtain ⟨a1, a2, a3⟩ := foldl_min r x
    have b1 : r.foldl (fun a b => if b < a then b else a) x ≤ m' := by
      rcases List.mem_cons.mp h1 with rfl | h1
      · exact a2
      · exact a3 _ h1
    have b2 : m' ≤ r.foldl (fun a b => if b < a then b else a) x := by
      rcases a1 with a1 | a1
      · rw [a1]; exact h2 _ List.mem_cons_self
      · exact h2 _ (List.mem_cons_of_mem _ a1)
    omega
theorem insI_perm (x : Int) : ∀ l : List Int, (insI x l).Perm (x :: l)
  | [] => .refl _
  | y :: r => by
    unfold insI
    split
    · exact .refl _
    · exact ((insI_perm x r).cons y).trans (.swap x y r)
theorem insI_mem (x : Int) (l : List Int) {z : Int} (h : z ∈ insI x l) : z = x ∨ z ∈ l := List.mem_cons.mp ((insI_perm x l).mem_iff.mp h)
theorem insI_sorted (x : Int) : ∀ {l : List Int}, l.Pairwise (· ≤ ·) → (insI x l).Pairwise (· ≤ ·)
  | [], _ => List.pairwise_singleton _ _
  | y :: r, h => by
    unfold insI
    split
    · rename_i hxy
      refine List.pairwise_cons.mpr ⟨fun z hz => ?_, h⟩
      rcases List.mem_cons.mp hz with rfl | hz
      · exact hxy
      · exact Int.le_trans hxy ((List.pairwise_cons.mp h).1 z hz)
    · rename_i hxy
      refine List.pairwise_cons.mpr ⟨fun z hz => ?_, insI_sorted x (List.pairwise_cons.mp h).2⟩
      rcases insI_mem x r hz with rfl | hz
      · omega
      · exact (List.pairwise_cons.mp h).1 z hz
theorem sortI_perm : ∀ l : List Int, (sortI l).Perm l
  | [] => .refl _
  | x :: l => (insI_perm x _).trans ((sortI_perm l).cons x)
theorem sortI_sorted : ∀ l : List Int, (sortI l).Pairwise (· ≤ ·)
  | [] => .nil
  | x :: l => insI_sorted x (sortI_sorted l)
theorem sortI_eq {ns ns' : List Int} (h1 : ns'.Perm ns) (h2 : ns'.Pairwise (· ≤ ·)) : ns' = sortI ns :=
  List.Perm.eq_of_pairwise (le := (· ≤ ·)) (fun a b _ _ h h' => Int.le_antisymm h h') h2 (sortI_sorted ns) (h1.trans (sortI_perm ns).symm)

/-! ### one argument -/
theorem intsD_some {ds : List D} : ∀ {ns : List Int}, intsD ds = some ns → ds = ns.map D.int := by
  induction ds with
  | nil => intro ns h; cases h; rfl
  | cons d ds ih =>
    intro ns h
    cases d with
    | int i =>
      unfold intsD at h
      cases e : intsD ds with
      | none => rw [e] at h; cases h
      | some m => rw [e] at h; cases h; rw [ih e]; rfl
    | _ => cases h
/-! tuples of ints, sorted -/
theorem okT_ok {d : Nat} {l : List (List Int)} (h : okT d l = true) : 1 ≤ d ∧ l.length < 64 ∧ ∀ m ∈ l, m.length = d ∧ TS.Bd 1048576 m := by
  unfold okT at h
  simp only [Bool.and_eq_true, decide_eq_true_eq, List.all_eq_true] at h
  obtain ⟨⟨h1, h2⟩, h3⟩ := h
  refine ⟨h1, h2, fun m hm => ⟨(h3 m hm).1, fun i hi => ?_⟩⟩
  have := (h3 m hm).2
  unfold bdB at this
  have := List.all_eq_true.mp this i hi
  simp only [Bool.and_eq_true, decide_eq_true_eq] at this
  exact this
theorem tupsI_some : ∀ {ds : List D} {l : List (List Int)}, tupsI ds = some l → ds = l.map tiD
  | [], l, h => by cases h; rfl
  | d :: ds, l, h => by
    unfold tupsI at h
    cases e : tupI d with
    | none => rw [e] at h; cases h
    | some n =>
      rw [e] at h
      dsimp only at h
      cases e2 : tupsI ds with
      | none => rw [e2] at h; cases h
      | some m =>
        rw [e2] at h
        cases h
        rw [List.map_cons, ← tupsI_some e2]
        congr 1
        cases d with
        | tup xs => rw [tiD, ← intsD_some e]
        | _ => cases e
theorem tups_len {ds : List D} {l : List (List Int)} (h : tupsI ds = some l) : ds.length = l.length := by rw [tupsI_some h, List.length_map]
theorem intsD_map0 : ∀ f : List Int, intsD (f.map D.int) = some f
  | [] => rfl
  | c :: f => by rw [List.map_cons, intsD, intsD_map0 f]; rfl
theorem cd_eq : ∀ n : List Int, cdI n = TS.code 1048576 n
  | [] => rfl
  | d :: r => by rw [cdI, cd_eq r]; rfl
section
variable {K : PySem.W.Frag} {H F : Hp} {g : List Addr}
/-- a tuple of ints as a value -/
theorem tup_rd {n : List Int} {v : V} (hs : sub F H) (h : RD K F g (tiD n) v) : L2.TupI K H v n := by
  obtain ⟨a, vs, e, t, q⟩ := h
  refine ⟨a, e, ?_⟩
  rw [← RDs.ints K (intsD_map0 n) q]
  exact hs.sqT K t
theorem tups_each (hs : sub F H) {d : Nat} : ∀ {l : List (List Int)} {vs : List V}, (∀ m ∈ l, m.length = d ∧ TS.Bd 1048576 m) → RDs K F g (l.map tiD) vs → ∀ {y : V}, y ∈ vs → ∃ ns, L2.TupI K H y ns ∧ ns.length = d ∧ TS.Bd 1048576 ns
  | [], vs, _, q, y, hy => by rw [show vs = [] from q] at hy; cases hy
  | n :: l, _, hall, ⟨v, r, e, q, t⟩, y, hy => by
    subst e
    rcases List.mem_cons.mp hy with rfl | hy
    · exact ⟨n, tup_rd hs q, hall n List.mem_cons_self⟩
    · exact tups_each hs (fun m hm => hall m (List.mem_cons_of_mem _ hm)) t hy
theorem tups_perm {ys vs : List V} (h : ys.Perm vs) : ∀ l : List (List Int), RDs K F g (l.map tiD) vs → ∃ l' : List (List Int), l'.Perm l ∧ RDs K F g (l'.map tiD) ys := by
  induction h with
  | nil => exact fun l q => ⟨l, .refl _, q⟩
  | cons x _ ih =>
    intro l q
    cases l with
    | nil => cases (show _ = [] from q)
    | cons n l =>
      obtain ⟨v, r, e, q1, t⟩ := q
      cases e
      obtain ⟨l', p, q2⟩ := ih l t
      exact ⟨n :: l', p.cons n, _, _, rfl, q1, q2⟩
  | swap x y zs =>
    intro l q
    cases l with
    | nil => cases (show _ = [] from q)
    | cons n l =>
      obtain ⟨v, r, e, q1, t⟩ := q
      cases e
      cases l with
      | nil => cases (show _ = [] from t)
      | cons m l =>
        obtain ⟨v2, r2, e2, q2, t2⟩ := t
        cases e2
        exact ⟨m :: n :: l, .swap _ _ _, _, _, rfl, q2, _, _, rfl, q1, t2⟩
  | trans _ _ ih1 ih2 =>
    intro l q
    obtain ⟨l1, p1, q1⟩ := ih2 l q
    obtain ⟨l2, p2, q2⟩ := ih1 l1 q1
    exact ⟨l2, p2.trans p1, q2⟩
theorem cd_inj {d : Nat} : ∀ {a b : List Int}, a.length = d → b.length = d → TS.Bd 1048576 a → TS.Bd 1048576 b → cdI a = cdI b → a = b := by
  induction d with
  | zero => intro a b ha hb _ _ _; rw [List.eq_nil_of_length_eq_zero ha, List.eq_nil_of_length_eq_zero hb]
  | succ d ih =>
    intro a b ha hb h1 h2 e
    cases a with
    | nil => cases ha
    | cons x a =>
      cases b with
      | nil => cases hb
      | cons y b =>
        have la : a.length = d := by simpa using ha
        have lb : b.length = d := by simpa using hb
        rw [cd_eq, cd_eq] at e
        have hxy : x = y := by
          rcases Int.lt_trichotomy x y with z | z | z
          · have := TS.code_lt (B := 1048576) (la.trans lb.symm) h1.tail h2.tail z
            omega
          · exact z
          · have := TS.code_lt (B := 1048576) (lb.trans la.symm) h2.tail h1.tail z
            omega
        subst hxy
        have e2 : cdI a = cdI b := by
          rw [cd_eq, cd_eq]
          rw [TS.code, TS.code, la, lb] at e
          omega
        rw [ih la lb h1.tail h2.tail e2]
theorem insT_perm (x : List Int) : ∀ l, (insT x l).Perm (x :: l)
  | [] => .refl _
  | y :: l => by
    unfold insT
    split
    · exact .refl _
    · exact ((insT_perm x l).cons y).trans (.swap x y l)
theorem sortT_perm : ∀ l, (sortT l).Perm l
  | [] => .refl _
  | x :: l => (insT_perm x (sortT l)).trans ((sortT_perm l).cons x)
theorem insT_sorted (x : List Int) : ∀ {l : List (List Int)}, l.Pairwise (fun a b => cdI a ≤ cdI b) → (insT x l).Pairwise (fun a b => cdI a ≤ cdI b)
  | [], _ => by unfold insT; exact List.pairwise_singleton _ _
  | y :: l, h => by
    obtain ⟨h1, h2⟩ := List.pairwise_cons.mp h
    unfold insT
    split
    · rename_i hxy
      refine List.pairwise_cons.mpr ⟨fun z hz => ?_, h⟩
      rcases List.mem_cons.mp hz with rfl | hz
      · exact hxy
      · exact Int.le_trans hxy (h1 z hz)
    · rename_i hxy
      refine List.pairwise_cons.mpr ⟨fun z hz => ?_, insT_sorted x h2⟩
      rcases List.mem_cons.mp ((insT_perm x l).mem_iff.mp hz) with rfl | hz
      · omega
      · exact h1 z hz
theorem sortT_sorted : ∀ l : List (List Int), (sortT l).Pairwise (fun a b => cdI a ≤ cdI b)
  | [] => .nil
  | x :: l => insT_sorted x (sortT_sorted l)
theorem tups_pair (hs : sub F H) : ∀ {l : List (List Int)} {ys : List V}, RDs K F g (l.map tiD) ys → ys.Pairwise (fun x y => ∀ n m, L2.TupI K H x n → L2.TupI K H y m → TS.code 1048576 n ≤ TS.code 1048576 m) → l.Pairwise (fun a b => cdI a ≤ cdI b)
  | [], _, _, _ => .nil
  | n :: l, _, ⟨v, r, e, q, t⟩, h => by
    subst e
    obtain ⟨h1, h2⟩ := List.pairwise_cons.mp h
    refine List.pairwise_cons.mpr ⟨fun m hm => ?_, tups_pair hs t h2⟩
    obtain ⟨i, hi, rfl⟩ := List.getElem_of_mem hm
    obtain ⟨y, hy, qy⟩ := RDs.get K (i := i) t (by rw [List.getElem?_map, List.getElem?_eq_getElem hi]; rfl)
    rw [cd_eq, cd_eq]
    exact h1 y (List.mem_of_getElem? hy) _ _ (tup_rd hs q) (tup_rd hs qy)
theorem tups_sorted (hs : sub F H) {d : Nat} {l : List (List Int)} {ys vs : List V} (hall : ∀ m ∈ l, m.length = d ∧ TS.Bd 1048576 m) (q : RDs K F g (l.map tiD) vs) (h1 : ys.Perm vs) (h2 : ys.Pairwise (fun x y => ∀ n m, L2.TupI K H x n → L2.TupI K H y m → TS.code 1048576 n ≤ TS.code 1048576 m)) : RDs K F g ((sortT l).map tiD) ys := by
  obtain ⟨l', p, q2⟩ := tups_perm h1 l q
  have s1 := tups_pair hs q2 h2
  have e : l' = sortT l := List.Perm.eq_of_pairwise (le := fun a b => cdI a ≤ cdI b) (fun a b ha hb x y => by
    have a1 := hall a (p.mem_iff.mp ha)
    have b1 := hall b ((sortT_perm l).mem_iff.mp hb)
    exact cd_inj a1.1 b1.1 a1.2 b1.2 (Int.le_antisymm x y)) s1 (sortT_sorted l) (p.trans (sortT_perm l).symm)
  rw [← e]
  exact q2
end
inductive B1C : B1 → D → RV → Prop
  | intI (i : Int) : B1C .int (.int i) (.d (.int i))
  | intB (b : Bool) : B1C .int (.bl b) (.d (.int (if b then 1 else 0)))
  | lenS (s : Str) (h : sz s.length = true) : B1C .len (.str s) (.d (.int s.length))
  | lenT (ds : List D) : B1C .len (.tup ds) (.d (.int ds.length))
  | lenL (ds : List D) : B1C .len (.lst ds) (.d (.int ds.length))
  | lenR (ds : List D) : B1C .len (.rol ds) (.d (.int ds.length))
  | tupT (ds : List D) : B1C .tuple (.tup ds) (.d (.tup ds))
  | tupL (ds : List D) : B1C .tuple (.lst ds) (.d (.tup ds))
  | lstT (ds : List D) : B1C .list (.tup ds) (.new (.lst ds))
  | lstL (ds : List D) : B1C .list (.lst ds) (.new (.lst ds))
  | sum (ds : List D) (ns : List Int) (h : intsD ds = some ns) : B1C .sum (.lst ds) (.d (.int ns.sum))
  | max (ds : List D) (ns : List Int) (m : Int) (h : intsD ds = some ns) (hm : maxL ns = some m) : B1C .max (.lst ds) (.d (.int m))
  | min (ds : List D) (ns : List Int) (m : Int) (h : intsD ds = some ns) (hm : minL ns = some m) : B1C .min (.lst ds) (.d (.int m))
  | sorted (ds : List D) (r : RV) (h : sortedD ds = some r) : B1C .sorted (.lst ds) r
  | strI (i : Int) (h : (decide (-1000000000000000000000 ≤ i) && decide (i ≤ 1000000000000000000000)) = true) : B1C .str (.int i) (.d (.str (Str.ofString (toString i))))
  | strS (s : Str) : B1C .str (.str s) (.d (.str s))
  | repr (d : D) (h : showB 20 d = true) (hz : sz (PyData.shown d.py).length = true) : B1C .repr d (.d (.str (PyData.shown d.py)))
theorem sorted_c {ds : List D} {r : RV} (h : sortedD ds = some r) : (∃ ns, intsD ds = some ns ∧ r = .new (.lst ((sortI ns).map .int))) ∨ ∃ n l, tupsI ds = some (n :: l) ∧ okT n.length (n :: l) = true ∧ r = .new (.lst ((sortT (n :: l)).map tiD)) := by
  unfold sortedD at h
  split at h
  · rename_i ns e
    cases h
    exact .inl ⟨ns, e, rfl⟩
  · split at h
    · rename_i n l e
      split at h
      · rename_i ho
        cases h
        exact .inr ⟨n, l, e, ho, rfl⟩
      · cases h
    · cases h
theorem b1_c {b : B1} {d : D} {r : RV} (h : blt1 b d = some r) : B1C b d r := by
  unfold blt1 at h
  split at h
  all_goals first
    | exact .sorted _ _ h
    | (cases h; constructor; done)
    | (split at h
       · cases h; constructor; assumption
       · cases h)
    | (rename_i ds
       cases e : intsD ds with
       | none => rw [e] at h; cases h
       | some ns => rw [e] at h; cases h; constructor; assumption)
    | (rename_i ds
       cases e : intsD ds with
       | none => rw [e] at h; cases h
       | some ns =>
         rw [e] at h
         dsimp only at h
         cases em : maxL ns with
         | none => rw [em] at h; cases h
         | some m => rw [em] at h; cases h; exact .max _ _ _ e em)
    | (rename_i ds
       cases e : intsD ds with
       | none => rw [e] at h; cases h
       | some ns =>
         rw [e] at h
         dsimp only at h
         cases em : minL ns with
         | none => rw [em] at h; cases h
         | some m => rw [em] at h; cases h; exact .min _ _ _ e em)
    | (split at h
       · rename_i hh
         rw [Bool.and_eq_true] at hh
         cases h
         exact .repr _ hh.1 hh.2
       · cases h)
    | cases h
theorem b1_rule {b : B1} {d : D} {r : RV} (hc : X.calm = true) (hgd : X.A.guards = some []) (hu : X.A.units + 65 < cLine) (h : blt1 b d = some r) : ∃ rr, CallR X (bval b) rr ∧
    ∀ (w : W) (S : St) (H : Hp) (x : V) (Q : VK), Rel X.K w S H → RTop X.K w H d x → (∀ w' H' v, w.le w' → Rel X.K w' S H' → RRV X.K w' H' r v → Q v H') → rr [x] H Q := by
  cases b1_c h with
  | intI i => exact ⟨_, call_int1, fun w S H x Q r q p => .inl ⟨i, by rw [show x = .int i from q], p w H _ (.refl w) r rfl⟩⟩
  | intB b => exact ⟨_, call_int1, fun w S H x Q r q p => .inr ⟨b, by rw [show x = .bl b from q], p w H _ (.refl w) r rfl⟩⟩
  | lenS s hz => exact ⟨_, call_len_str, fun w S H x Q r q p => ⟨s, by rw [show x = .str s from q], sz_le hz, p w H _ (.refl w) r rfl⟩⟩
  | lenT ds => exact ⟨_, call_len_seq, fun w S H x Q r ⟨a, vs, e, t, q⟩ p => ⟨a, vs, by rw [e], .inr (r.sub.sqT X.K t), p w H _ (.refl w) r (by rw [RDs.len X.K q]; rfl)⟩⟩
  | lenL ds => exact ⟨_, call_len_seq, fun w S H x Q r ⟨a, vs, e, t, q⟩ p => ⟨a, vs, by rw [e], .inl (SqL.of t), p w H _ (.refl w) r (by rw [RDs.len X.K q]; rfl)⟩⟩
  | lenR ds => exact ⟨_, call_len_seq, fun w S H x Q r ⟨a, vs, e, t, q⟩ p => ⟨a, vs, by rw [e], .inl (r.sub.sqL X.K t), p w H _ (.refl w) r (by rw [RDs.len X.K q]; rfl)⟩⟩
  | tupT ds => exact ⟨_, call_tuple_of, fun w S H x Q r ⟨a, vs, e, t, q⟩ p => ⟨a, vs, by rw [e], .inr ⟨r.sub.sqT X.K t, p w H _ (.refl w) r ⟨a, vs, rfl, t, q⟩⟩⟩⟩
  | tupL ds => exact ⟨_, call_tuple_of, fun w S H x Q r ⟨a, vs, e, t, q⟩ p => ⟨a, vs, by rw [e], .inl ⟨SqL.of t, r.newT q p⟩⟩⟩
  | lstT ds => exact ⟨_, call_list_of, fun w S H x Q r ⟨a, vs, e, t, q⟩ p => ⟨a, vs, by rw [e], .inr (r.sub.sqT X.K t), r.newL q p⟩⟩
  | lstL ds => exact ⟨_, call_list_of, fun w S H x Q r ⟨a, vs, e, t, q⟩ p => ⟨a, vs, by rw [e], .inl (SqL.of t), r.newL q p⟩⟩
  | sum ds ns hi => exact ⟨_, cr_sum hc, fun w S H x Q r ⟨a, vs, e, t, q⟩ p => ⟨a, ns, by rw [e], by rw [← RDs.ints X.K hi q]; exact SqL.of t, p w H _ (.refl w) r rfl⟩⟩
  | max ds ns m hi hm =>
    refine ⟨_, cr_max hc, fun w S H x Q r ⟨a, vs, e, t, q⟩ p => ⟨a, ns, by rw [e], by rw [← RDs.ints X.K hi q]; exact SqL.of t, ?_, fun m' h1 h2 => ?_⟩⟩
    · cases ns with
      | nil => cases hm
      | cons _ _ => exact Nat.succ_pos _
    · rw [maxL_eq hm h1 h2]; exact p w H _ (.refl w) r rfl
  | min ds ns m hi hm =>
    refine ⟨_, cr_min hc, fun w S H x Q r ⟨a, vs, e, t, q⟩ p => ⟨a, ns, by rw [e], by rw [← RDs.ints X.K hi q]; exact SqL.of t, ?_, fun m' h1 h2 => ?_⟩⟩
    · cases ns with
      | nil => cases hm
      | cons _ _ => exact Nat.succ_pos _
    · rw [minL_eq hm h1 h2]; exact p w H _ (.refl w) r rfl
  | sorted ds rr hs =>
    rcases sorted_c hs with ⟨ns, hi, rfl⟩ | ⟨n, l, ht, ho, rfl⟩
    · refine ⟨_, cr_sortedI, fun w S H x Q r ⟨a, vs, e, t, q⟩ p => ⟨a, ns, by rw [e], by rw [← RDs.ints X.K hi q]; exact SqL.of t, fun ns' l h1 h2 hl => ?_⟩⟩
      rw [sortI_eq h1 h2]
      exact r.newL (rds_ints X.K _) p l hl
    · obtain ⟨hd, h64, hall⟩ := okT_ok ho
      refine ⟨_, cr_sortT (d := n.length) (B := 1048576) hd, fun w S H x Q r ⟨a, vs, e, t, q⟩ p => ⟨a, vs, by rw [e], SqL.of t, by rw [RDs.len X.K q, tups_len ht]; exact h64, fun y hy => tups_each (K := X.K) r.sub hall (by rw [← tupsI_some ht]; exact q) hy, fun ys l' h1 h2 hl => ?_⟩⟩
      exact r.newL (tups_sorted (K := X.K) r.sub hall (by rw [← tupsI_some ht]; exact q) h1 h2) p l' hl
  | strI i hi => exact ⟨_, call_str_int, fun w S H x Q r q p => ⟨i, by rw [show x = .int i from q], log_ok hi, p w H _ (.refl w) r rfl⟩⟩
  | strS s => exact ⟨_, SkE.call_str_str, fun w S H x Q r q p => ⟨s, by rw [show x = .str s from q], p w H _ (.refl w) r rfl⟩⟩
  | repr d hs hz =>
    refine ⟨_, L2.CallR.or (call_repr hgd hu) (call_repr hgd hu), fun w S H x Q r q p => .inl ?_⟩
    obtain ⟨h1, h2, h3⟩ := py_show 20 d hs
    exact ⟨x, _, rfl, rd_dpS 20 d hs (q.rd X.K r.sub), h1, h2, h3, sz_le hz, p w H _ (.refl w) r rfl⟩
end
end U

namespace U
open PySem PySem.Spec PyProof.Rows L2
section
variable {K : PySem.W.Frag} {X : Cx} {a b c e : Expr} {p0 pos : Pos}
def b1F (b : B1) (fa : Env → M RV) : Env → M RV := fun ρ => M.bind (fa ρ) fun x => fun S => match view S x with
  | some d => M.opt (blt1 b d) S
  | none => .bad
/-- one argument, read -/
theorem se_b1 {b : B1} {fa : Env → M RV} (hK : X.K = K) (hc : X.calm = true) (hgd : X.A.guards = some []) (hu : X.A.units + 65 < cLine) (hg : Gl X (bname b)) (hm : X.mg (bname b) = none) (ha : PE X a (tE K fa)) (ho : okHead a = true) :
    PE X (.Call (.Name (bname b) p0) [a] [] pos) (tE K (b1F b fa)) := by
  subst hK
  refine ⟨fun pins s σ H Q I h => ?_⟩
  obtain ⟨w, ρ, S, hr, sl, p⟩ := h
  unfold b1F at p
  obtain ⟨x, S1, ex, p⟩ := p.bind
  split at p
  · rename_i d vd
    cases hb : blt1 b d with
    | none => rw [hb] at p; exact False.elim p
    | some r =>
      rw [hb] at p
      obtain ⟨rr, hcr, hq⟩ := b1_rule hc hgd hu hb
      refine (ce_blt hcr hg hm (pa_cons ha pa_nil (star_cons ho)) (by rw [List.all_cons, ho]; rfl)).run pins s σ H Q I ?_
      refine one hr sl ex fun w1 H1 v l r1 q => ?_
      exact hq w1 S1 H1 v Q r1 (r1.view X.K q vd) fun w' H' v' l' => p w' H' v' (l.trans l')
  · exact p.elim
def b2F (b : B1) (fa fb : Env → M RV) : Env → M RV := fun ρ => M.bind (fa ρ) fun x => M.bind (fb ρ) fun y => fun S => match view S (hold x).rv, view S y with
  | some d, some e => M.opt (blt2 b d e) S
  | _, _ => .bad
theorem se_b2 {b : B1} {fa fb : Env → M RV} {a' : Expr} (hK : X.K = K) (hc : X.calm = true) (hg : Gl X (bname b)) (hm : X.mg (bname b) = none) (ha : PE X a (tE K fa)) (hb : PE X a' (tE K fb)) (ho : okHead a = true) (ho' : okHead a' = true) :
    PE X (.Call (.Name (bname b) p0) [a, a'] [] pos) (tE K (b2F b fa fb)) := by
  subst hK
  refine ⟨fun pins s σ H Q I h => ?_⟩
  obtain ⟨w, ρ, S, hr, sl, p⟩ := h
  unfold b2F at p
  obtain ⟨x, S1, ex, p⟩ := p.bind
  obtain ⟨y, S2, ey, p⟩ := p.bind
  split at p
  · rename_i d e vx vy
    have key : ∀ (r : List V → Hp → VK → Prop) (_ : CallR X (bval b) r) (_ : ∀ w2 H2 vx vy, w.le w2 → Rel X.K w2 S2 H2 → RTop X.K w2 H2 d vx → RTop X.K w2 H2 e vy → r [vx, vy] H2 Q), wpAny (model X.prog X.w) X.A (eval (.Call (.Name (bname b) p0) [a, a'] [] pos) X.env) (EP X pins σ Q) X.xe s :=
      fun r hr' h => (ce_blt hr' hg hm (pa_cons ha (pa_cons hb pa_nil (star_cons ho')) (star_cons ho)) (by rw [List.all_cons, ho, List.all_cons, ho']; rfl)).run pins s σ H Q I (two' (r := fun x y H Q => r [x, y] H Q) hr sl ex ey vx vy h)
    cases hb2 : blt2 b d e with
    | none => rw [hb2] at p; exact False.elim p
    | some r =>
      rw [hb2] at p
      unfold blt2 at hb2
      split at hb2
      · cases hb2
        exact key _ (call_max2 hc) fun w2 H2 vx vy l r2 q1 q2 => ⟨_, _, by rw [show vx = _ from q1, show vy = _ from q2], p w2 H2 _ l r2 rfl⟩
      · cases hb2
        exact key _ (call_min2 hc) fun w2 H2 vx vy l r2 q1 q2 => ⟨_, _, by rw [show vx = _ from q1, show vy = _ from q2], p w2 H2 _ l r2 rfl⟩
      · cases hb2
  · exact p.elim

/-! ### tuple(range(a, b)) -/
theorem big62_ok {i : Int} (h : big62 i = true) : -(2 ^ 62) ≤ i ∧ i < 2 ^ 62 := by
  unfold big62 at h
  rw [Bool.and_eq_true, decide_eq_true_eq, decide_eq_true_eq] at h
  omega
theorem rgV_succ (lo : Int) (n : Nat) : rgV lo (lo + (n + 1 : Nat)) = V.int lo :: rgV (lo + 1) (lo + 1 + (n : Nat)) := by
  unfold rgV
  rw [show (lo + ((n + 1 : Nat) : Int) - lo).toNat = n + 1 by omega, show (lo + 1 + (n : Int) - (lo + 1)).toNat = n by omega, List.range_succ_eq_map, List.map_cons, List.map_map]
  congr 1
  · show V.int (lo + 0) = V.int lo
    rw [Int.add_zero]
  · apply List.map_congr_left
    intro i _
    show V.int (lo + ((i + 1 : Nat) : Int)) = V.int (lo + 1 + (i : Int))
    congr 1
    omega
theorem rds_rng {F : Hp} {g : List Addr} : ∀ (n : Nat) (lo : Int), RDs K F g (rngUp lo n) (rgV lo (lo + (n : Nat)))
  | 0, lo => by
    show rgV lo (lo + (0 : Nat)) = []
    unfold rgV
    rw [show (lo + ((0 : Nat) : Int) - lo).toNat = 0 by omega]
    rfl
  | n + 1, lo => ⟨_, _, rgV_succ lo n, rfl, rds_rng n (lo + 1)⟩
theorem rgV_toNat (i j : Int) : rgV i j = rgV i (i + ((j - i).toNat : Nat)) := by
  unfold rgV
  rw [show (i + ((j - i).toNat : Int) - i).toNat = (j - i).toNat by omega]
def trngF (l : Bool) (fa fb : Env → M RV) : Env → M RV := fun ρ => M.bind (fa ρ) fun x => M.bind (fb ρ) fun y => match dataInt x, dataInt y with
  | some i, some j => if (big62 i && big62 j && decide ((j - i).toNat ≤ 1000000)) = true then M.ret (if l then .new (.lst (rngUp i (j - i).toNat)) else .d (.tup (rngUp i (j - i).toNat))) else M.bad
  | _, _ => M.bad
theorem trng_ok {l : Bool} {fa fb : Env → M RV} {ρ : Env} {S : St} {w : W} {Q : VK} (h : Post K w Q (trngF l fa fb ρ S)) : ∃ i j S1 S2, fa ρ S = .ok (.d (.int i)) S1 ∧ fb ρ S1 = .ok (.d (.int j)) S2 ∧ RgOk i j ∧
    Post K w Q (.ok (if l then .new (.lst (rngUp i (j - i).toNat)) else .d (.tup (rngUp i (j - i).toNat))) S2) := by
  unfold trngF at h
  obtain ⟨x, S1, ex, h⟩ := h.bind
  obtain ⟨y, S2, ey, h⟩ := h.bind
  cases ei : dataInt x with
  | none => rw [ei] at h; exact False.elim h
  | some i =>
    cases ej : dataInt y with
    | none => rw [ei, ej] at h; exact False.elim h
    | some j =>
      rw [ei, ej] at h
      have h : Post K w Q ((if (big62 i && big62 j && decide ((j - i).toNat ≤ 1000000)) = true then M.ret (if l then .new (.lst (rngUp i (j - i).toNat)) else .d (.tup (rngUp i (j - i).toNat))) else M.bad : M RV) S2) := h
      split at h
      · rename_i hh
        rw [Bool.and_eq_true, Bool.and_eq_true, decide_eq_true_eq] at hh
        obtain ⟨⟨h1, h2⟩, h3⟩ := hh
        have h1 := big62_ok h1
        have h2 := big62_ok h2
        exact ⟨i, j, S1, S2, by rw [ex, dataInt_eq ei], by rw [ey, dataInt_eq ej], ⟨h1.1, h1.2, h2.1, h2.2, by omega⟩, h⟩
      · exact False.elim h
theorem se_trng {fa fb : Env → M RV} {a' : Expr} {p2 pos2 : Pos} (hK : X.K = K) (hc : X.calm = true) (hg : Gl X "tuple") (hm : X.mg "tuple" = none) (hg2 : Gl X "range") (hm2 : X.mg "range" = none) (ha : PE X a (tE K fa)) (hb : PE X a' (tE K fb)) (ho : okHead a = true) (ho' : okHead a' = true) :
    PE X (.Call (.Name "tuple" p0) [.Call (.Name "range" p2) [a, a'] [] pos2] [] pos) (tE K (trngF false fa fb)) := by
  subst hK
  refine ⟨fun pins s σ H Q I h => ?_⟩
  obtain ⟨w, ρ, S, hr, sl, p⟩ := h
  obtain ⟨i, j, S1, S2, ex, ey, hrg, p⟩ := trng_ok p
  refine (pe_tupRg hc hg hm (prg_2 hg2 hm2 ha hb (star_cons ho) (star_cons ho') (noStar (by rw [List.all_cons, ho']; rfl))) (star_cons rfl)).run pins s σ H Q I ?_
  refine two (r := fun x y H2 Q' => ∃ i j, x = .int i ∧ y = .int j ∧ RgOk i j ∧ ∀ q, H2 q = none → Q' (.ref q) (upd H2 q (.tup (rgV i j)))) hr sl ex ey fun w2 H2 vx vy l r2 q1 q2 => ⟨i, j, q1, q2, hrg, ?_⟩
  rw [rgV_toNat]
  exact r2.newT (rds_rng _ _) fun w' H' v l' => p w' H' v (l.trans l')
theorem se_lrng {fa fb : Env → M RV} {a' : Expr} {p2 pos2 : Pos} (hK : X.K = K) (hc : X.calm = true) (hg : Gl X "list") (hm : X.mg "list" = none) (hg2 : Gl X "range") (hm2 : X.mg "range" = none) (ha : PE X a (tE K fa)) (hb : PE X a' (tE K fb)) (ho : okHead a = true) (ho' : okHead a' = true) :
    PE X (.Call (.Name "list" p0) [.Call (.Name "range" p2) [a, a'] [] pos2] [] pos) (tE K (trngF true fa fb)) := by
  subst hK
  refine ⟨fun pins s σ H Q I h => ?_⟩
  obtain ⟨w, ρ, S, hr, sl, p⟩ := h
  obtain ⟨i, j, S1, S2, ex, ey, hrg, p⟩ := trng_ok p
  refine (pe_listRg hc hg hm (prg_2 hg2 hm2 ha hb (star_cons ho) (star_cons ho') (noStar (by rw [List.all_cons, ho']; rfl))) (star_cons rfl)).run pins s σ H Q I ?_
  refine two (r := fun x y H2 Q' => ∃ i j, x = .int i ∧ y = .int j ∧ RgOk i j ∧ ∀ q, H2 q = none → Q' (.ref q) (upd H2 q (.lst (rgV i j)))) hr sl ex ey fun w2 H2 vx vy l r2 q1 q2 => ⟨i, j, q1, q2, hrg, ?_⟩
  rw [rgV_toNat]
  exact r2.newL (rds_rng _ _) fun w' H' v l' => p w' H' v (l.trans l')
end
end U

set_option maxHeartbeats 4000000
namespace U
open PySem PySem.Spec PyProof.Rows L2
/-- xs.extend(t), t any tuple -/
theorem extend_tup (l : Addr) (items : Array Value) (n : Nat) (b : Addr) (more : Array Value) (n2 : Nat) (dd : Option Addr) (sl : Array (Option Value))
    (hlong : ¬(!items.isEmpty && Builtin.List.listTooLong (items.size + more.size)) = true) (h1 : items.size ≤ sizeLine) (h2 : items.size + more.size ≤ sizeLine + 1) :
    Meets (Builtin.«list.extend» ⟨[.ref l, .ref b], []⟩) (fun _ R s => s.heap.get? l = some { cls := .type "list", data := .seq items n } ∧
      s.heap.get? b = some { cls := .type "tuple", dict := dd, data := .seq more n2, slots := sl } ∧ R (.ok (.ret Value.none)) { s with heap := s.heap.update l (Obj.mapSeq fun x => x ++ more), toks := s.toks }) :=
  .of_wp fun prog w A R s h => by
    obtain ⟨hp, g, d, tk, os⟩ := s
    obtain ⟨hl, hb, h⟩ := h
    have f1 := AutoSeq1.idx_int
    have f2 := AutoSeq1.sub_tuple_tuple
    have f3 := AutoSeq1.sub_list_list
    have f4 := AutoSeq1.sub_tuple_list
    have f5 := AutoSeq1.sub_list_tuple
    have hz : (items ++ more).size ≤ sizeLine + 1 := by rw [Array.size_append]; exact h2
    wp_walk using (wpAny_updateSeq hl rfl (hz := h1) (_hz' := hz)), wpAny_loadPart' hl, wpAny_loadPart' hb
    exact ⟨_, rfl, h⟩
section
variable {X : Cx}
def rExtT (K : PySem.W.Frag) : V → List V → Hp → VK → Prop := fun x vs H Q => ∃ l b xs zs, x = .ref l ∧ vs = [.ref b] ∧ H l = some (.lst xs) ∧ SqT K H b zs ∧ xs.length + zs.length ≤ sizeLine ∧ Q .non (upd H l (.lst (xs ++ zs)))
theorem mt_extT : MtM X "list.extend" (rExtT X.K) := by
  intro pins s σ H x vs v us Q I rx rv h
  obtain ⟨l, b, xs, zs, rfl, rfl, hH, hB, hz, q⟩ := h
  cases rx
  obtain ⟨u, rfl, ru⟩ := rv.one
  cases ru
  obtain ⟨z, its, n, r, hl, e⟩ := I.lstM hH
  obtain ⟨its2, r2, ⟨⟨cls, dd, data, sl⟩, ho, hc, n2, hd⟩, _⟩ := I.tuple hB
  simp only at hc hd
  subst hc hd
  have hl2 := r2.length
  have hlong : ¬ (!its.toArray.isEmpty && Builtin.List.listTooLong (its.toArray.size + its2.toArray.size)) = true := by
    rw [notLongL (by rw [List.size_toArray, List.size_toArray]; omega), Bool.and_false]
    exact Bool.false_ne_true
  refine call_meets F.slot_list_extend ⟨_, e, rfl⟩ F.entry_list_extend (F.args_list_extend_2 _ _) (extend_tup l its.toArray n b its2.toArray n2 dd sl hlong (by rw [List.size_toArray]; omega) (by rw [List.size_toArray, List.size_toArray]; omega)) ⟨e, ho, ?_⟩
  refine ⟨.non, _, I.lset (its' := its ++ its2) hH e (by simp) (r.append r2) ?_, rfl, q⟩
  rw [List.length_append]
  exact hz
end
end U

namespace U
open PySem PySem.Spec PyProof.Rows L2
section
variable {K : PySem.W.Frag} {X : Cx} {o e : Expr} {apos pos : Pos}
/-! ### methods with one argument -/
def mname : M1 → Str
  | .append => "append" | .extend => "extend" | .popAt => "pop" | .join => "join" | .index => "index"
def m1F (m : M1) (fo fa : Env → M RV) : Env → M RV := fun ρ => M.bind (fo ρ) fun x => fun S1 => if recvOk m (view S1 x) = true then M.bind (fa ρ) (fun y => meth1 m (hold x) y) S1 else .bad
theorem few1 {env : PySem.Env} (ho : okHead e = true) : ((backTo pos (starEach [e] env)).all (fun x => !x.1) && (backToKw pos (keywordEach [] env)).all (fun x => x.1.isSome) && decide (([e] : List Expr).length + ([] : List Keyword).length + (if ([] : List Keyword).isEmpty then 0 else 1) < 30)) = true := by
  rw [noStarAll (by rw [List.all_cons, ho]; rfl)]
  rfl
/-- a method of a list of ours, a text: the object, the argument, then the rule -/
theorem se_meth {T id : String} {name : Str} {r : V → List V → Hp → VK → Prop} {fo fa : Env → M RV} (hK : X.K = K) (pa : PlainAttrs T) (slot : Slot T name id) (hty : typeOf (.builtin id) = pure (.type "method_descriptor")) (hm : MtR X id r) (ho : PE X o (tE K fo)) (ha : PE X e (tE K fa))
    (hho : okHead o = true) (hhe : okHead e = true) (hline : (apos.endLine == pos.line) = true)
    {pins : List (Addr × Obj)} {s : Shared} {σ : L2.St} {H : Hp} {Q : VK} (I : L2.Inv X pins σ H s) {w : W} {ρ : Env} {S S1 S2 : St} {x y : RV} (hr : Rel K w S H) (sl : RSl K w ρ σ) (ex : fo ρ S = .ok x S1) (ey : fa ρ S1 = .ok y S2)
    (hT : ∀ w1 H1 vx, w.le w1 → Rel K w1 S1 H1 → RSV K w1 (hold x) vx → tyV K T vx H1)
    (hq : ∀ w2 H2 vx vy, w.le w2 → Rel K w2 S2 H2 → RSV K w2 (hold x) vx → RRV K w2 H2 y vy → r vx [vy] H2 Q) : wpAny (model X.prog X.w) X.A (eval (.Call (.Attribute o name apos) [e] [] pos) X.env) (EP X pins σ Q) X.xe s := by
  subst hK
  refine (pe_bm pa slot hty hm ho (pa_cons ha pa_nil (star_cons hhe)) (attr_base hho) (few1 hhe) hline (star_cons hhe) rfl).run pins s σ H Q I ?_
  refine one hr sl ex fun w1 H1 v l1 r1 q1 => ?_
  obtain ⟨w1', l1', r1', _, q1'⟩ := r1.hold X.K q1
  refine ⟨hT w1' H1 v (l1.trans l1') r1' q1', ?_⟩
  refine one r1' (sl.mono X.K (l1.trans l1')) ey fun w2 H2 vy l2 r2 q2 => ?_
  exact hq w2 H2 v vy ((l1.trans l1').trans l2) r2 (q1'.mono X.K l2) q2
theorem hold_loc {x : RV} {u i : Nat} (h : hold x = .loc u i) : x = .loc u i := by
  cases x with
  | loc a b => cases h; rfl
  | d _ => cases h
  | new _ => cases h
theorem loc_lst {w : W} {S : St} {H : Hp} {u i : Nat} {v : V} {z : Bool} {ds : List D} (r : Rel K w S H) (q : RSV K w (.loc u i) v) (h : S.get u i = some ⟨z, .lst ds⟩) : ∃ a vs, v = .ref a ∧ w.ad u i = some a ∧ H a = some (.lst vs) ∧ RDs K w.F w.gl ds vs := by
  obtain ⟨a, ha, rfl⟩ := q
  obtain ⟨b, hb, ro⟩ := r.get K h
  rw [ha] at hb; cases hb
  cases z with
  | false => obtain ⟨n, vs, hv, hd⟩ := ro; exact ⟨a, vs, rfl, ha, hv, hd⟩
  | true => obtain ⟨vs, hv, hd⟩ := ro; exact ⟨a, vs, rfl, ha, r.sub _ _ hv, hd⟩

theorem view_hold {S : St} {x : RV} : view S (hold x).rv = view S x := by
  cases x with
  | d _ => rfl
  | loc _ _ => rfl
  | new c => cases c <;> rfl
theorem tyL {w : W} {H : Hp} {ds : List D} {v : V} (q : RTop K w H (.lst ds) v) : tyV K "list" v H := by
  obtain ⟨a, vs, rfl, h, _⟩ := q
  exact .inl ⟨rfl, vs, SqL.of h⟩
theorem RDs.allScalar {F : Hp} {g : List Addr} {x : D} : ∀ {ds : List D} {vs : List V}, (ds.all fun y => scalarB y && eqOk y x) = true → RDs K F g ds vs → vs.all flatV = true
  | [], vs, _, q => by rw [show vs = [] from q]; rfl
  | y :: ys, _, h, ⟨v, r, e, q, t⟩ => by
    subst e
    rw [List.all_cons, Bool.and_eq_true, Bool.and_eq_true] at h
    rw [List.all_cons, scalar_flat h.1.1 q, RDs.allScalar h.2 t]; rfl
theorem idx_ok {H : Hp} {g : List Addr} {x : D} {vx : V} (hx : scalarB x = true) (qx : RD K H g x vx) : ∀ {ds : List D} {vs : List V} {k : Nat}, (ds.all fun y => scalarB y && eqOk y x) = true → RDs K H g ds vs → idxOf x ds = some k →
    (∃ z, vs[k]? = some z ∧ eqV z vx = true) ∧ ∀ (m : Nat) (z' : V), m < k → vs[m]? = some z' → eqV z' vx = false
  | [], vs, k, _, _, e => by cases e
  | y :: ys, _, k, h, ⟨v, r, e, q, t⟩, ek => by
    subst e
    rw [List.all_cons, Bool.and_eq_true, Bool.and_eq_true] at h
    have ev := scalar_eqV h.1.1 hx h.1.2 q qx
    unfold idxOf at ek
    split at ek
    · rename_i hb
      cases ek
      exact ⟨⟨v, rfl, by rw [ev]; exact hb⟩, fun m z' hm => absurd hm (Nat.not_lt_zero _)⟩
    · rename_i hb
      cases e2 : idxOf x ys with
      | none => rw [e2] at ek; cases ek
      | some k' =>
        rw [e2] at ek
        cases ek
        obtain ⟨⟨z, h1, h2⟩, h3⟩ := idx_ok hx qx h.2 t e2
        refine ⟨⟨z, by simpa using h1, h2⟩, fun m z' hm hz => ?_⟩
        cases m with
        | zero =>
          simp at hz
          subst hz
          rw [ev]
          simpa using hb
        | succ m => exact h3 m z' (Nat.lt_of_succ_lt_succ hm) (by simpa using hz)
theorem keep_get {S S' : St} {y : RV} {d : D} {u i : Nat} {o : LO} (e : U.keep y S = .ok d S') (h : S'.get u i = some o) (hz : o.z = false) : True := trivial
theorem se_m1 {m : M1} {fo fa : Env → M RV} (hK : X.K = K) (ho : PE X o (tE K fo)) (ha : PE X e (tE K fa)) (hho : okHead o = true) (hhe : okHead e = true) (hline : (apos.endLine == pos.line) = true) :
    PE X (.Call (.Attribute o (mname m) apos) [e] [] pos) (tE K (m1F m fo fa)) := by
  subst hK
  refine ⟨fun pins s σ H Q I h => ?_⟩
  obtain ⟨w, ρ, S, hr, sl, p⟩ := h
  unfold m1F at p
  obtain ⟨x, S1, ex, p⟩ := p.bind
  split at p
  · rename_i hrv
    obtain ⟨y, S2, ey, p⟩ := p.bind
    have lstT : ∀ (hm : m ≠ .join), ∀ w1 H1 vx, w.le w1 → Rel X.K w1 S1 H1 → RSV X.K w1 (hold x) vx → tyV X.K "list" vx H1 := fun hm w1 H1 vx l r q => by
      cases ev : view S1 x with
      | none => rw [ev] at hrv; cases m <;> simp [recvOk] at hrv
      | some d =>
        rw [ev] at hrv
        have : ∃ ds, d = .lst ds := by cases m <;> cases d <;> first | exact ⟨_, rfl⟩ | (simp [recvOk] at hrv; done) | exact absurd rfl hm
        obtain ⟨ds, rfl⟩ := this
        exact tyL (r.view X.K (RRV.of X.K q) (by rw [view_hold]; exact ev))
    cases m with
    | append =>
      cases hx : hold x with
      | d _ => rw [hx] at p; exact False.elim p
      | loc u i =>
        rw [hx] at p
        obtain ⟨yd, S3, ek, p⟩ := Post.bind (f := fun y => fun S => match S.get u i with
          | some ⟨false, .lst ds⟩ => if ds.length < 16777216 then .ok (.d .non) (S.set u i ⟨false, .lst (ds ++ [y])⟩) else .bad
          | _ => .bad) p
        split at p
        · rename_i ds hg
          split at p
          · rename_i hlen
            refine se_meth rfl F.plainAttrs_list F.slot_list_append F.type_list_append mt_append ho ha hho hhe hline I hr sl ex ey (lstT (by decide)) fun w2 H2 vx vy l r q1 q2 => ?_
            obtain ⟨w3, l3, r3, _, qd⟩ := r.kept X.K q2 ek
            rw [hx] at q1
            obtain ⟨a, vs, rfl, had, hv, hd⟩ := loc_lst r3 (q1.mono X.K l3) hg
            refine ⟨a, vs, vy, rfl, rfl, hv, ?_, ?_⟩
            · rw [RDs.len X.K hd, sizeLine_eq]; exact hlen
            · exact p w3 _ _ (l.trans l3) (r3.write X.K hg had (RDs.app X.K hd ⟨vy, [], rfl, qd, rfl⟩) (z' := ⟨false, .lst ds⟩)) rfl
          · exact p.elim
        · exact p.elim
    | extend =>
      cases hx : hold x with
      | d _ => rw [hx] at p; exact False.elim p
      | loc u i =>
        rw [hx] at p
        have p : Post X.K w Q (match S2.get u i, (view S2 y).bind items with
          | some ⟨false, .lst ds⟩, some ys => if ds.length + ys.length ≤ 16777216 then .ok (.d .non) (S2.set u i ⟨false, .lst (ds ++ ys)⟩) else .bad
          | _, _ => .bad) := p
        split at p
        · rename_i ds ys hg hy
          split at p
          · rename_i hlen
            cases evy : view S2 y with
            | none => rw [evy] at hy; cases hy
            | some dy =>
              rw [evy] at hy
              cases dy with
              | tup es =>
                cases hy
                refine se_meth rfl F.plainAttrs_list F.slot_list_extend F.type_list_extend mt_extT ho ha hho hhe hline I hr sl ex ey (lstT (by decide)) fun w2 H2 vx vy l r q1 q2 => ?_
                obtain ⟨a2, vs2, e2, t2, d2⟩ := r.view X.K q2 evy
                rw [hx] at q1
                obtain ⟨a, vs, rfl, had, hv, hd⟩ := loc_lst r q1 hg
                subst e2
                refine ⟨a, a2, vs, vs2, rfl, rfl, hv, r.sub.sqT X.K t2, ?_, ?_⟩
                · rw [RDs.len X.K hd, RDs.len X.K d2, sizeLine_eq]; exact hlen
                · exact p w2 _ _ l (r.write X.K hg had (RDs.app X.K hd d2) (z' := ⟨false, .lst ds⟩)) rfl
              | lst es =>
                cases hy
                refine se_meth rfl F.plainAttrs_list F.slot_list_extend F.type_list_extend mt_extend ho ha hho hhe hline I hr sl ex ey (lstT (by decide)) fun w2 H2 vx vy l r q1 q2 => ?_
                obtain ⟨a2, vs2, e2, t2, d2⟩ := r.view X.K q2 evy
                rw [hx] at q1
                obtain ⟨a, vs, rfl, had, hv, hd⟩ := loc_lst r q1 hg
                subst e2
                refine ⟨a, a2, vs, vs2, rfl, rfl, hv, t2, ?_, ?_⟩
                · rw [RDs.len X.K hd, RDs.len X.K d2, sizeLine_eq]; exact hlen
                · exact p w2 _ _ l (r.write X.K hg had (RDs.app X.K hd d2) (z' := ⟨false, .lst ds⟩)) rfl
              | _ => cases hy
          · exact p.elim
        · exact p.elim
    | popAt =>
      cases hx : hold x with
      | d _ => rw [hx] at p; exact False.elim p
      | loc u i =>
        rw [hx] at p
        have p : Post X.K w Q (match (generalizing := false) S2.get u i, y with
          | some ⟨false, .lst ds⟩, .d (.int k) => if decide (-1000000000 ≤ k) && decide (k ≤ 1000000000) then match U.ixN ds.length k with
            | some j => match ds[j]? with
              | some x => .ok (.d x) (S2.set u i ⟨false, .lst (ds.eraseIdx j)⟩)
              | none => .bad
            | none => .bad
            else .bad
          | _, _ => .bad) := p
        split at p
        · rename_i _ ds k hg _
          split at p
          · rename_i hk
            rw [Bool.and_eq_true, decide_eq_true_eq, decide_eq_true_eq] at hk
            split at p
            · rename_i j hj
              split at p
              · rename_i z hz
                refine se_meth rfl F.plainAttrs_list F.slot_list_pop F.type_list_pop mt_popAt ho ha hho hhe hline I hr sl ex ey (lstT (by decide)) fun w2 H2 vx vy l r q1 q2 => ?_
                rw [hx] at q1
                obtain ⟨a, vs, rfl, had, hv, hd⟩ := loc_lst r q1 hg
                obtain ⟨zv, hz1, hz2⟩ := RDs.get X.K hd hz
                obtain ⟨s1, s2, s3, s4⟩ := ixN_seq (show L2.ixN vs.length k = some j by rw [RDs.len X.K hd]; exact hj)
                refine ⟨a, vs, k, j, zv, rfl, by rw [show vy = .int k from q2], hv, by omega, by omega, s1, hz1, ?_⟩
                exact p w2 _ _ l (r.write X.K hg had (RDs.erase X.K j hd) (z' := ⟨false, .lst ds⟩)) hz2
              · exact p.elim
            · exact p.elim
          · exact p.elim
        · exact p.elim
    | join =>
      cases hx : hold x with
      | loc _ _ => rw [hx] at p; exact False.elim p
      | d xd =>
        rw [hx] at p
        cases xd with
        | str z =>
          have p : Post X.K w Q (match (view S2 y).bind items with
            | some ds => match strsD ds with
              | some ss => if sz ((ss.map (·.length)).sum + ss.length * z.length) = true then .ok (.d (.str (Txt.join z ss))) S2 else .bad
              | none => .bad
            | none => .bad) := p
          split at p
          · rename_i ds hds
            split at p
            · rename_i ss hss
              split at p
              · rename_i hz
                have hz : (ss.map (·.length)).sum + ss.length * z.length ≤ 16777216 := of_decide_eq_true hz
                cases evy : view S2 y with
                | none => rw [evy] at hds; cases hds
                | some dy =>
                  rw [evy] at hds
                  refine se_meth rfl F.plainAttrs_str F.slot_str_join F.type_str_join mt_join ho ha hho hhe hline I hr sl ex ey (fun w1 H1 vx l r q => ?_) fun w2 H2 vx vy l r q1 q2 => ?_
                  · rw [hx] at q
                    rw [show vx = .str z from q]
                    exact rfl
                  · rw [hx] at q1
                    have qv := r.view X.K q2 evy
                    cases dy with
                    | tup es =>
                      cases hds
                      obtain ⟨a2, vs2, e2, t2, d2⟩ := qv
                      subst e2
                      exact ⟨z, a2, ss, q1, rfl, .inr (by rw [← RDs.strs X.K hss d2]; exact r.sub.sqT X.K t2), hz, p w2 H2 _ l r rfl⟩
                    | lst es =>
                      cases hds
                      obtain ⟨a2, vs2, e2, t2, d2⟩ := qv
                      subst e2
                      exact ⟨z, a2, ss, q1, rfl, .inl (by rw [← RDs.strs X.K hss d2]; exact SqL.of t2), hz, p w2 H2 _ l r rfl⟩
                    | _ => cases hds
              · exact p.elim
            · exact p.elim
          · exact p.elim
        | _ => exact False.elim p
    | index =>
      have p : Post X.K w Q (match view S2 (hold x).rv, view S2 y with
        | some (.lst ds), some x => if (scalarB x && ds.all fun y => scalarB y && eqOk y x) = true then match idxOf x ds with
          | some k => .ok (.d (.int k)) S2
          | none => .bad
          else .bad
        | _, _ => .bad) := p
      split at p
      · rename_i ds dx vx vy
        split at p
        · rename_i hok
          rw [Bool.and_eq_true] at hok
          split at p
          · rename_i k hk
            refine se_meth rfl F.plainAttrs_list F.slot_list_index F.type_list_index mt_index ho ha hho hhe hline I hr sl ex ey (lstT (by decide)) fun w2 H2 v1 v2 l r q1 q2 => ?_
            obtain ⟨a, vs, rfl, hv, hd⟩ := r.view X.K (RRV.of X.K q1) vx
            have qx := (r.view X.K q2 vy).rd X.K r.sub
            have hd' := RDs.mono X.K r.sub (pre.refl _) ds hd
            obtain ⟨⟨z, h1, h2⟩, h3⟩ := idx_ok hok.1 qx hok.2 hd' hk
            exact ⟨a, vs, v2, k, z, rfl, rfl, SqL.of hv, scalar_flat hok.1 qx, RDs.allScalar hok.2 hd', h1, h2, h3, p w2 H2 _ l r rfl⟩
          · exact p.elim
        · exact p.elim
      · exact p.elim
  · exact p.elim
end
end U

namespace U
open PySem PySem.Spec PyProof.Rows L2
/-- later, but for the extra objects -/
structure W.lex (a b : W) : Prop where
  F : U.sub a.F b.F
  own : pre a.own b.own
  out : b.out = a.out
  gl : pre a.gl b.gl
theorem W.le.lex {a b : W} (l : a.le b) : a.lex b := ⟨l.F, l.own, l.out, l.gl⟩
theorem W.lex.trans {a b c : W} (x : a.lex b) (y : b.lex c) : a.lex c := ⟨x.F.trans y.F, x.own.trans y.own, y.out.trans x.out, x.gl.trans y.gl⟩
theorem W.lex.le {a b : W} (x : a.lex b) (h : b.ex = a.ex) : a.le b := ⟨x.F, x.own, x.out, x.gl, h⟩
theorem W.lex.ad {w w' : W} (x : w.lex w') {u i : Nat} {a : Addr} (h : w.ad u i = some a) : w'.ad u i = some a := by
  cases u with
  | zero => exact x.own.get h
  | succ u => unfold W.ad at h ⊢; rw [x.out]; exact h
/-- an iterator that yields what the walk says -/
def GW (K : PySem.W.Frag) (J : It) (w0 : W) (k : Walk) : Prop := ∀ (w : W) (S : St) (H : Hp) (i : Nat), w0.lex w → Rel K w S H → k.chk S = true →
  (∀ d, k.xs[i]? = some d → J.go i H ∧ ∀ x H', J.yld i H x H' → ∃ w', w.le w' ∧ w'.own = w.own ∧ Rel K w' S H' ∧ RD K w'.F w'.gl d x) ∧ (k.xs[i]? = none → J.stop i H)
def tW (K : PySem.W.Frag) (f : Env → M Walk) : TI := fun σ H R => ∃ w ρ S, Rel K w S H ∧ RSl K w ρ σ ∧ match f ρ S with
  | .ok k S1 => ∀ w1 H1 J, w.le w1 → Rel K w1 S1 H1 → GW K J w1 k → R J H1
  | _ => False
theorem PI.weak {X : Cx} {tg e : Expr} {t t' : TI} (h : PI X tg e t) (i : ∀ σ H Q, t' σ H Q → t σ H Q) : PI X tg e t' := ⟨fun pins s σ H Q I q => h.run pins s σ H Q I (i σ H Q q)⟩
section
variable {K : PySem.W.Frag} {X : Cx} {tg a b : Expr} {p0 pos : Pos}
theorem gw_list {w0 : W} {ds : List D} {ad : Addr} {at_ : Option (Nat × Nat)} (h : ∀ w S H, w0.lex w → Rel K w S H → (⟨ds, at_⟩ : Walk).chk S = true → ∃ vs, H ad = some (.lst vs) ∧ RDs K w.F w.gl ds vs) : GW K (Itl K ad) w0 ⟨ds, at_⟩ := fun w S H i l r c => by
  obtain ⟨vs, hv, hd⟩ := h w S H l r c
  refine ⟨fun d e => ?_, fun e => ⟨vs, SqL.of hv, ?_⟩⟩
  · obtain ⟨v, e1, q⟩ := RDs.get K hd e
    refine ⟨⟨vs, v, SqL.of hv, e1⟩, fun x H' y => ?_⟩
    obtain ⟨rfl, y⟩ := y
    have e2 := y vs (SqL.of hv)
    rw [e1] at e2; cases e2
    exact ⟨w, .refl w, rfl, r, q⟩
  · rw [RDs.len K hd]; exact List.getElem?_eq_none_iff.mp e
theorem gw_tup {w0 : W} {ds : List D} {vs : List V} {ad : Addr} (ht : SqT K w0.F ad vs) (hd : RDs K w0.F w0.gl ds vs) : GW K (Itt K ad) w0 ⟨ds, none⟩ := fun w S H i l r c => by
  have ht := (l.F.trans r.sub).sqT K ht
  have hd := RDs.mono K l.F l.gl ds hd
  refine ⟨fun d e => ?_, fun e => ⟨vs, ht, ?_⟩⟩
  · obtain ⟨v, e1, q⟩ := RDs.get K hd e
    refine ⟨⟨vs, v, ht, e1⟩, fun x H' y => ?_⟩
    obtain ⟨rfl, y⟩ := y
    have e2 := y vs ht
    rw [e1] at e2; cases e2
    exact ⟨w, .refl w, rfl, r, q⟩
  · rw [RDs.len K hd]; exact List.getElem?_eq_none_iff.mp e
theorem walk_at {k : Walk} {S : St} {u i : Nat} {ds : List D} (hk : k = ⟨ds, some (u, i)⟩) (h : k.chk S = true) : ∃ z, S.get u i = some ⟨z, .lst ds⟩ := by
  subst hk
  have h : (match S.get u i with
    | some ⟨_, .lst es⟩ => decide (es = ds)
    | _ => false) = true := h
  split at h
  · rename_i z es e
    have := of_decide_eq_true h
    subst this
    exact ⟨z, e⟩
  · cases h
def seqF (fa : Env → M RV) : Env → M Walk := fun ρ => M.bind (fa ρ) walkSeq
/-- a value that is walked: what it is, and where -/
inductive WkC : RV → St → Walk → Prop
  | loc (u i : Nat) (S : St) (z : Bool) (ds : List D) (h : S.get u i = some ⟨z, .lst ds⟩) : WkC (.loc u i) S ⟨ds, some (u, i)⟩
  | new (ds : List D) (S : St) : WkC (.new (.lst ds)) S ⟨ds, none⟩
  | tup (ds : List D) (S : St) : WkC (.d (.tup ds)) S ⟨ds, none⟩
  | lst (ds : List D) (S : St) : WkC (.d (.lst ds)) S ⟨ds, none⟩
  | str (s : Str) (S : St) : WkC (.d (.str s)) S ⟨strItems s, none⟩
theorem wk_c {r : RV} {S S' : St} {k : Walk} (h : walkSeq r S = .ok k S') : WkC r S k ∧ S' = S := by
  unfold walkSeq at h
  split at h
  · split at h
    · cases h; exact ⟨.loc _ _ _ _ _ (by assumption), rfl⟩
    · cases h
  · cases h; exact ⟨.new _ _, rfl⟩
  · cases h; exact ⟨.tup _ _, rfl⟩
  · cases h; exact ⟨.lst _ _, rfl⟩
  · cases h; exact ⟨.str _ _, rfl⟩
  · cases h
/-- the list or tuple behind it -/
theorem wk_list {w1 : W} {S : St} {H1 : Hp} {r : RV} {v : V} {k : Walk} (hr : Rel K w1 S H1) (q : RRV K w1 H1 r v) (c : WkC r S k) :
    (∃ (ad : Addr) (vs : List V) (w2 : W), v = .ref ad ∧ H1 ad = some (.lst vs) ∧ w1.le w2 ∧ Rel K w2 S H1 ∧ ∀ w S' H, w2.lex w → Rel K w S' H → k.chk S' = true → ∃ vs', H ad = some (.lst vs') ∧ RDs K w.F w.gl k.xs vs') ∨
    (∃ (ad : Addr) (vs : List V), v = .ref ad ∧ SqT K w1.F ad vs ∧ RDs K w1.F w1.gl k.xs vs ∧ k.at_ = none) ∨ (∃ s, r = .d (.str s) ∧ v = .str s) := by
  cases c with
  | loc u i S z ds h =>
    left
    obtain ⟨ad, vs, rfl, had, hv, hd⟩ := loc_lst hr (show RSV K w1 (.loc u i) v from q) h
    refine ⟨ad, vs, w1, rfl, hv, .refl _, hr, fun w S' H l r' c => ?_⟩
    obtain ⟨z', h'⟩ := walk_at rfl c
    obtain ⟨ad', vs', e, had', hv', hd'⟩ := loc_lst r' (show RSV K w (.loc u i) (.ref ad) from ⟨ad, l.ad had, rfl⟩) h'
    cases e
    exact ⟨vs', hv', hd'⟩
  | new ds S =>
    left
    obtain ⟨ad, vs, rfl, hv, hd, hF, ha⟩ := q
    obtain ⟨r2, l2⟩ := hr.froze K hv hF ha
    refine ⟨ad, vs, _, rfl, hv, l2, r2, fun w S' H l r' _ => ⟨vs, r'.sub _ _ (l.F _ _ upd_same), RDs.mono K (l2.F.trans l.F) (l2.gl.trans l.gl) ds hd⟩⟩
  | tup ds S =>
    right; left
    obtain ⟨ad, vs, rfl, ht, hd⟩ := q
    exact ⟨ad, vs, rfl, ht, hd, rfl⟩
  | lst ds S =>
    left
    obtain ⟨ad, vs, rfl, hv, hd⟩ := q
    exact ⟨ad, vs, w1, rfl, hr.sub _ _ hv, .refl _, hr, fun w S' H l r' _ => ⟨vs, r'.sub _ _ (l.F _ _ hv), RDs.mono K l.F l.gl ds hd⟩⟩
  | str s S =>
    right; right
    exact ⟨s, rfl, q⟩
theorem tW.bind {α : Type} {m : M α} {f : α → M Walk} {S : St} {P : Walk → St → Prop} (h : match M.bind m f S with
    | .ok k S1 => P k S1
    | _ => False) : ∃ a S1 k S2, m S = .ok a S1 ∧ f a S1 = .ok k S2 ∧ P k S2 := by
  unfold M.bind at h
  cases e : m S with
  | ok a S1 =>
    rw [e] at h
    dsimp only at h
    cases e2 : f a S1 with
    | ok k S2 => rw [e2] at h; exact ⟨a, S1, k, S2, rfl, e2, h⟩
    | exc _ _ => rw [e2] at h; exact h.elim
    | bad => rw [e2] at h; exact h.elim
  | exc _ _ => rw [e] at h; exact h.elim
  | bad => rw [e] at h; exact h.elim
theorem si_seq {fa : Env → M RV} (hK : X.K = K) (ha : PE X a (tE K fa)) : PI X tg a (tW K (seqF fa)) := by
  subst hK
  refine ⟨fun pins s σ H R I h => ?_⟩
  obtain ⟨w, ρ, S, hr, sl, p⟩ := h
  obtain ⟨x, S1, k, S2, ex, ek, p⟩ := tW.bind p
  obtain ⟨c, rfl⟩ := wk_c ek
  by_cases hs : ∃ z, x = .d (.str z)
  · obtain ⟨z, rfl⟩ := hs
    refine (pi_str ha).run pins s σ H R I (one hr sl ex fun w1 H1 v l r q => ⟨z, q, p w1 H1 _ l r ?_⟩)
    cases c
    intro w' S' H' i l' r' _
    refine ⟨fun d e => ?_, fun e => ?_⟩
    · have e : (z.cps.toList.map fun c => D.str ⟨#[c]⟩)[i]? = some d := e
      rw [List.getElem?_map] at e
      cases ez : z.cps.toList[i]? with
      | none => rw [ez] at e; cases e
      | some ch =>
        rw [ez] at e; cases e
        have ez' : z.cps[i]? = some ch := by rw [← Array.getElem?_toList]; exact ez
        refine ⟨(Array.getElem?_eq_some_iff.mp ez').1, fun x H2 y => ?_⟩
        obtain ⟨rfl, c', e1, rfl⟩ := y
        rw [ez'] at e1; cases e1
        exact ⟨w', .refl _, rfl, r', rfl⟩
    · have e : (z.cps.toList.map fun c => D.str ⟨#[c]⟩)[i]? = none := e
      have e := List.getElem?_eq_none_iff.mp e
      rw [List.length_map, Array.length_toList] at e
      exact e
  · have noS : ∀ {w1 : W} {H1 : Hp} {v : V}, Rel X.K w1 S2 H1 → RRV X.K w1 H1 x v → _ := fun {w1 H1 v} r q => wk_list (K := X.K) r q c
    by_cases ht : ∃ ds, x = .d (.tup ds)
    · refine (pi_tup ha).run pins s σ H R I (one hr sl ex fun w1 H1 v l r q => ?_)
      obtain ⟨ds, rfl⟩ := ht
      cases c
      obtain ⟨ad, vs, rfl, ht, hd⟩ := q
      exact ⟨ad, rfl, ⟨vs, r.sub.sqT X.K ht⟩, p w1 H1 _ l r (gw_tup ht hd)⟩
    · refine (pi_list ha).run pins s σ H R I (one hr sl ex fun w1 H1 v l r q => ?_)
      rcases noS r q with ⟨ad, vs, w2, rfl, hv, l2, r2, hw⟩ | ⟨ad, vs, rfl, _, _, _⟩ | ⟨z, e, _⟩
      · exact ⟨ad, rfl, ⟨vs, SqL.of hv⟩, p w2 H1 _ (l.trans l2) r2 (gw_list (fun w S' H l3 r3 c3 => hw w S' H l3 r3 c3))⟩
      · cases c with
        | tup ds S => exact absurd ⟨ds, rfl⟩ ht
        | loc u i S z ds h =>
          obtain ⟨ad', vs', e, had, hv, hd⟩ := loc_lst r (show RSV X.K w1 (.loc u i) (.ref ad) from q) h
          cases e
          exact ⟨ad, rfl, ⟨vs', SqL.of hv⟩, p w1 H1 _ l r (gw_list fun w S' H l' r' c' => by
            obtain ⟨z', h'⟩ := walk_at rfl c'
            obtain ⟨ad', vs', e, had', hv', hd'⟩ := loc_lst r' (show RSV X.K w (.loc u i) (.ref ad) from ⟨ad, l'.ad had, rfl⟩) h'
            cases e
            exact ⟨vs', hv', hd'⟩)⟩
        | new ds S =>
          obtain ⟨ad', vs', e, hv, hd, hF, ha⟩ := q
          cases e
          obtain ⟨r2, l2⟩ := r.froze X.K hv hF ha
          exact ⟨ad, rfl, ⟨vs', SqL.of hv⟩, p _ H1 _ (l.trans l2) r2 (gw_list fun w S' H l' r' _ => ⟨vs', r'.sub _ _ (l'.F _ _ upd_same), RDs.mono X.K (l2.F.trans l'.F) (l2.gl.trans l'.gl) ds hd⟩)⟩
        | lst ds S =>
          obtain ⟨ad', vs', e, hv, hd⟩ := q
          cases e
          exact ⟨ad, rfl, ⟨vs', SqL.of (r.sub _ _ hv)⟩, p w1 H1 _ l r (gw_list fun w S' H l' r' _ => ⟨vs', r'.sub _ _ (l'.F _ _ hv), RDs.mono X.K l'.F l'.gl ds hd⟩)⟩
        | str z S => exact absurd ⟨z, rfl⟩ hs
      · exact absurd ⟨z, e⟩ hs
end
end U

namespace U
open PySem PySem.Spec PyProof.Rows L2
section
variable {K : PySem.W.Frag} {X : Cx} {tg a b : Expr} {p0 pos : Pos}
theorem rngUp_get : ∀ (n : Nat) (lo : Int) (i : Nat), (rngUp lo n)[i]? = if i < n then some (D.int (lo + i)) else none
  | 0, lo, i => by rw [if_neg (Nat.not_lt_zero _)]; rfl
  | n + 1, lo, 0 => by rw [if_pos (Nat.succ_pos _)]; show some (D.int lo) = _; rw [show lo + ((0 : Nat) : Int) = lo by omega]
  | n + 1, lo, i + 1 => by
    show (rngUp (lo + 1) n)[i]? = _
    rw [rngUp_get n (lo + 1) i]
    by_cases h : i < n
    · rw [if_pos h, if_pos (by omega), show lo + 1 + (i : Int) = lo + ((i + 1 : Nat) : Int) by omega]
    · rw [if_neg h, if_neg (by omega)]
theorem rngDn_get : ∀ (n : Nat) (lo : Int) (i : Nat), (rngDn lo n)[i]? = if i < n then some (D.int (lo + (i : Nat) * (-1))) else none
  | 0, lo, i => by rw [if_neg (Nat.not_lt_zero _)]; rfl
  | n + 1, lo, 0 => by rw [if_pos (Nat.succ_pos _)]; show some (D.int lo) = _; rw [show lo + ((0 : Nat) : Int) * (-1) = lo by omega]
  | n + 1, lo, i + 1 => by
    show (rngDn (lo - 1) n)[i]? = _
    rw [rngDn_get n (lo - 1) i]
    by_cases h : i < n
    · rw [if_pos h, if_pos (by omega), show lo - 1 + (i : Int) * (-1) = lo + ((i + 1 : Nat) : Int) * (-1) by omega]
    · rw [if_neg h, if_neg (by omega)]
theorem gw_up {w0 : W} (lo : Int) (n : Nat) : GW K (Itr lo n) w0 ⟨rngUp lo n, none⟩ := fun w S H i l r c => by
  refine ⟨fun d e => ?_, fun e => ?_⟩
  · rw [rngUp_get] at e
    by_cases h : i < n
    · rw [if_pos h] at e; cases e
      exact ⟨h, fun x H' y => by obtain ⟨rfl, rfl⟩ := y; exact ⟨w, .refl w, rfl, r, rfl⟩⟩
    · rw [if_neg h] at e; cases e
  · rw [rngUp_get] at e
    by_cases h : i < n
    · rw [if_pos h] at e; cases e
    · exact Nat.not_lt.mp h
theorem gw_dn {w0 : W} (lo : Int) (n : Nat) : GW K (Itc lo (-1) n) w0 ⟨rngDn lo n, none⟩ := fun w S H i l r c => by
  refine ⟨fun d e => ?_, fun e => ?_⟩
  · rw [rngDn_get] at e
    by_cases h : i < n
    · rw [if_pos h] at e; cases e
      exact ⟨h, fun x H' y => by obtain ⟨rfl, rfl⟩ := y; exact ⟨w, .refl w, rfl, r, rfl⟩⟩
    · rw [if_neg h] at e; cases e
  · rw [rngDn_get] at e
    by_cases h : i < n
    · rw [if_pos h] at e; cases e
    · exact Nat.not_lt.mp h
def rng1F (fa : Env → M RV) : Env → M Walk := fun ρ => M.bind (fa ρ) fun x => match dataInt x with
  | some j => if big62 j = true then M.ret ⟨rngUp 0 j.toNat, none⟩ else M.bad
  | none => M.bad
theorem si_rng1 {fa : Env → M RV} (hg : Gl X "range") (hm : X.mg "range" = none) (ha : PE X a (tE K fa)) (ho : okHead a = true) : PI X tg (.Call (.Name "range" p0) [a] [] pos) (tW K (rng1F fa)) := by
  refine PI.weak (pi_range1 hg hm (pa_cons ha pa_nil (star_cons ho)) (star_one ho)) fun σ H R h => ?_
  obtain ⟨w, ρ, S, hr, sl, p⟩ := h
  obtain ⟨x, S1, k, S2, ex, ek, p⟩ := tW.bind p
  cases ei : dataInt x with
  | none => rw [ei] at ek; cases ek
  | some j =>
    rw [ei] at ek
    dsimp only at ek
    split at ek
    · rename_i hb
      cases ek
      have := dataInt_eq ei
      subst this
      have hb := big62_ok hb
      exact one hr sl ex fun w1 H1 v l r q => ⟨j, by rw [show v = .int j from q], hb.1, hb.2, p w1 H1 _ l r (gw_up 0 _)⟩
    · cases ek
def rng2F (fa fb : Env → M RV) : Env → M Walk := fun ρ => M.bind (fa ρ) fun x => M.bind (fb ρ) fun y => match dataInt x, dataInt y with
  | some i, some j => if (big62 i && big62 j) = true then M.ret ⟨rngUp i (j - i).toNat, none⟩ else M.bad
  | _, _ => M.bad
def rngDF (fa fb : Env → M RV) : Env → M Walk := fun ρ => M.bind (fa ρ) fun x => M.bind (fb ρ) fun y => match dataInt x, dataInt y with
  | some i, some j => if (big62 i && big62 j) = true then M.ret ⟨rngDn i (i - j).toNat, none⟩ else M.bad
  | _, _ => M.bad
theorem rng2_ok {f : Int → Int → Walk} {fa fb : Env → M RV} {ρ : Env} {S S2 : St} {k : Walk} (h : (M.bind (fa ρ) fun x => M.bind (fb ρ) fun y => match dataInt x, dataInt y with
    | some i, some j => if (big62 i && big62 j) = true then M.ret (f i j) else M.bad
    | _, _ => M.bad) S = .ok k S2) : ∃ i j S1, fa ρ S = .ok (.d (.int i)) S1 ∧ fb ρ S1 = .ok (.d (.int j)) S2 ∧ (-(2 ^ 62) ≤ i ∧ i < 2 ^ 62 ∧ -(2 ^ 62) ≤ j ∧ j < 2 ^ 62) ∧ k = f i j := by
  obtain ⟨x, S1, ex, h⟩ := bind_ok h
  obtain ⟨y, S3, ey, h⟩ := bind_ok h
  cases ei : dataInt x with
  | none => rw [ei] at h; cases h
  | some i =>
    cases ej : dataInt y with
    | none => rw [ei, ej] at h; cases h
    | some j =>
      rw [ei, ej] at h
      dsimp only at h
      split at h
      · rename_i hb
        rw [Bool.and_eq_true] at hb
        cases h
        have b1 := big62_ok hb.1
        have b2 := big62_ok hb.2
        exact ⟨i, j, S1, by rw [ex, dataInt_eq ei], by rw [ey, dataInt_eq ej], ⟨b1.1, b1.2, b2.1, b2.2⟩, rfl⟩
      · cases h
theorem tW.ok {f : Env → M Walk} {ρ : Env} {S : St} {P : Walk → St → Prop} (h : match f ρ S with
    | .ok k S1 => P k S1
    | _ => False) : ∃ k S1, f ρ S = .ok k S1 ∧ P k S1 := by
  cases e : f ρ S with
  | ok k S1 => rw [e] at h; exact ⟨k, S1, rfl, h⟩
  | exc _ _ => rw [e] at h; exact h.elim
  | bad => rw [e] at h; exact h.elim
theorem si_rng2 {fa fb : Env → M RV} (hg : Gl X "range") (hm : X.mg "range" = none) (ha : PE X a (tE K fa)) (hb : PE X b (tE K fb)) (ho : okHead a = true) (ho' : okHead b = true) : PI X tg (.Call (.Name "range" p0) [a, b] [] pos) (tW K (rng2F fa fb)) := by
  refine PI.weak (pi_range2 hg hm (pa_cons ha (pa_cons hb pa_nil (star_cons ho')) (star_cons ho)) (by rw [star_cons ho, star_one ho']) (star_one ho')) fun σ H R h => ?_
  obtain ⟨w, ρ, S, hr, sl, p⟩ := h
  obtain ⟨k, S2, ek, p⟩ := tW.ok p
  obtain ⟨i, j, S1, ex, ey, hb, rfl⟩ := rng2_ok (f := fun i j => ⟨rngUp i (j - i).toNat, none⟩) ek
  exact two (r := fun x y H Q => Q x H ∨ Q x H ∨ ∃ i j : Int, [x, y] = [.int i, .int j] ∧ (-(2 ^ 62) ≤ i ∧ i < 2 ^ 62 ∧ -(2 ^ 62) ≤ j ∧ j < 2 ^ 62) ∧ R (Itr i (j - i).toNat) H) (Q := fun _ _ => False) hr sl ex ey (fun w2 H2 vx vy l r q1 q2 => .inr (.inr ⟨i, j, by rw [show vx = .int i from q1, show vy = .int j from q2], hb, p w2 H2 _ l r (gw_up _ _)⟩)) |> fun t => by
    obtain ⟨w, ρ, S, r1, s1, t⟩ := t
    refine ⟨w, ρ, S, r1, s1, ?_⟩
    cases e : fa ρ S with
    | ok x S1 =>
      rw [e] at t
      intro w' H' v l r q
      obtain ⟨w2, ρ2, S2, r2, s2, t2⟩ := t w' H' v l r q
      refine ⟨w2, ρ2, S2, r2, s2, ?_⟩
      cases e2 : fb ρ2 S2 with
      | ok y S3 =>
        rw [e2] at t2
        intro w3 H3 v3 l3 r3 q3
        rcases t2 w3 H3 v3 l3 r3 q3 with h | h | h
        · exact h.elim
        · exact h.elim
        · exact h
      | exc _ _ => rw [e2] at t2; exact t2.elim
      | bad => rw [e2] at t2; exact t2.elim
    | exc _ _ => rw [e] at t; exact t.elim
    | bad => rw [e] at t; exact t.elim
theorem twoP {fa fb : Env → M RV} {w : W} {ρ : Env} {S S1 S2 : St} {x y : RV} {σ : L2.St} {H : Hp} {R : V → V → Hp → Prop} (hr : Rel K w S H) (sl : RSl K w ρ σ) (ex : fa ρ S = .ok x S1) (ey : fb ρ S1 = .ok y S2)
    (h : ∀ w2 H2 vx vy, w.le w2 → Rel K w2 S2 H2 → RSV K w2 (hold x) vx → RRV K w2 H2 y vy → R vx vy H2) : tE K fa σ H fun x H1 => tE K fb σ H1 fun y H2 => R x y H2 := by
  refine one hr sl ex fun w1 H1 vx l1 r1 q1 => ?_
  obtain ⟨w1', l1', r1', _, q1'⟩ := r1.hold K q1
  refine one r1' (sl.mono K (l1.trans l1')) ey fun w2 H2 vy l2 r2 q2 => ?_
  exact h w2 H2 vx vy ((l1.trans l1').trans l2) r2 (q1'.mono K l2) q2
theorem si_rngD {fa fb : Env → M RV} {k1 : Nat} {q1 q2 : Pos} (hg : Gl X "range") (hm : X.mg "range" = none) (ha : PE X a (tE K fa)) (hb : PE X b (tE K fb)) (ho : okHead a = true) (ho' : okHead b = true) :
    PI X tg (.Call (.Name "range" p0) [a, b, .UnaryOp .USub (.Constant (.int 1) k1 q1) q2] [] pos) (tW K (rngDF fa fb)) := by
  refine PI.weak (pi_range3 hg hm (pa_cons ha (pa_cons hb (pa_cons (pe_un un_neg pe_int) pa_nil rfl) (star_cons ho')) (star_cons ho)) (star_cons ho) (noStar (by rw [List.all_cons, ho']; rfl))) fun σ H R h => ?_
  obtain ⟨w, ρ, S, hr, sl, p⟩ := h
  obtain ⟨k, S2, ek, p⟩ := tW.ok p
  obtain ⟨i, j, S1, ex, ey, hb, rfl⟩ := rng2_ok (f := fun i j => ⟨rngDn i (i - j).toNat, none⟩) ek
  refine twoP hr sl ex ey fun w2 H2 vx vy l r q1 q2 => ⟨1, rfl, i, j, -1, _, ?_, RgC.neg hb.1 hb.2.1 hb.2.2.1 hb.2.2.2, p w2 H2 _ l r (gw_dn _ _)⟩
  rw [show vx = .int i from q1, show vy = .int j from q2]
def revF (fa : Env → M RV) : Env → M Walk := fun ρ => M.bind (fa ρ) fun x => M.bind (keep x) fun d => match items d with
  | some ds => M.ret ⟨ds.reverse, none⟩
  | none => M.bad
theorem rev_get {α : Type} {xs : List α} {n i : Nat} (hn : xs.length = n) : xs.reverse[i]? = if i < n then xs[n - 1 - i]? else none := by
  by_cases h : i < n
  · rw [if_pos h, List.getElem?_reverse (by omega), hn]
  · rw [if_neg h, List.getElem?_eq_none_iff.mpr (by rw [List.length_reverse]; omega)]
theorem si_rev {fa : Env → M RV} (hK : X.K = K) (hg : Gl X "reversed") (hm : X.mg "reversed" = none) (ha : PE X a (tE K fa)) (ho : okHead a = true) : PI X tg (.Call (.Name "reversed" p0) [a] [] pos) (tW K (revF fa)) := by
  subst hK
  refine PI.weak (RT.pi_revA hg hm ha (star_cons ho)) fun σ H R h => ?_
  obtain ⟨w, ρ, S, hr, sl, p⟩ := h
  obtain ⟨k, S3, ek, p⟩ := tW.ok p
  obtain ⟨x, S1, ex, ek⟩ := bind_ok ek
  obtain ⟨d, S2, ed, ek⟩ := bind_ok ek
  have core : ∀ (ad : Addr) (vs : List V) (ds : List D) (w1 : W) (J : It), (∀ (w2 : W) (S : St) (H : Hp), w1.lex w2 → Rel X.K w2 S H → RDs X.K w2.F w2.gl ds vs) → vs.length = ds.length →
      (∀ (w2 : W) (S : St) (H : Hp) (i : Nat), w1.lex w2 → Rel X.K w2 S H → (∀ u, i < vs.length → vs[vs.length - 1 - i]? = some u → J.go i H ∧ ∀ x H', J.yld i H x H' → H' = H ∧ x = u) ∧ (vs.length ≤ i → J.stop i H)) → GW X.K J w1 ⟨ds.reverse, none⟩ := by
    intro ad vs ds w1 J hd hl hj w3 S3 H3 i l3 r3 c3
    have hd3 := hd w3 S3 H3 l3 r3
    obtain ⟨j1, j2⟩ := hj w3 S3 H3 i l3 r3
    refine ⟨fun d e => ?_, fun e => ?_⟩
    · rw [rev_get hl.symm] at e
      by_cases hi : i < vs.length
      · rw [if_pos hi] at e
        obtain ⟨u, e1, qu⟩ := RDs.get X.K hd3 e
        obtain ⟨a1, a2⟩ := j1 u hi e1
        refine ⟨a1, fun x H' y => ?_⟩
        obtain ⟨rfl, rfl⟩ := a2 x H' y
        exact ⟨w3, .refl _, rfl, r3, qu⟩
      · rw [if_neg hi] at e; cases e
    · have e := List.getElem?_eq_none_iff.mp e
      rw [List.length_reverse] at e
      exact j2 (by omega)
  refine one hr sl ex fun w1 H1 v l r q => ?_
  obtain ⟨w2, l2, r2, _, qd⟩ := r.kept X.K q ed
  cases d with
  | tup ds =>
    cases ek
    obtain ⟨ad, vs, rfl, ht, hd⟩ := qd
    refine ⟨ad, vs, rfl, .inr ⟨r2.sub.sqT X.K ht, p w2 H1 _ (l.trans l2) r2 (core ad vs ds w2 _ (fun w3 _ _ l3 _ => RDs.mono X.K l3.F l3.gl ds hd) (RDs.len X.K hd) fun w3 S3 H3 i l3 r3 => ?_)⟩⟩
    have ht3 := (l3.F.trans r3.sub).sqT X.K ht
    refine ⟨fun u hi e1 => ⟨⟨hi, vs, u, ht3, e1⟩, fun x H' y => ?_⟩, fun h => h⟩
    obtain ⟨rfl, y⟩ := y
    have e2 := y vs ht3
    rw [e1] at e2; cases e2
    exact ⟨rfl, rfl⟩
  | lst ds =>
    cases ek
    obtain ⟨ad, vs, rfl, ht, hd⟩ := qd
    refine ⟨ad, vs, rfl, .inl ⟨SqL.of (r2.sub _ _ ht), p w2 H1 _ (l.trans l2) r2 (core ad vs ds w2 _ (fun w3 _ _ l3 _ => RDs.mono X.K l3.F l3.gl ds hd) (RDs.len X.K hd) fun w3 S3 H3 i l3 r3 => ?_)⟩⟩
    have ht3 := r3.sub _ _ (l3.F _ _ ht)
    refine ⟨fun u hi e1 => ⟨⟨hi, vs, u, SqL.of ht3, e1⟩, fun x H' y => ?_⟩, fun h => h⟩
    obtain ⟨rfl, y⟩ := y
    have e2 := y vs (SqL.of ht3)
    rw [e1] at e2; cases e2
    exact ⟨rfl, rfl⟩
  | _ => cases ek
end
end U

namespace U
open PySem PySem.Spec PyProof.Rows L2

theorem RSV.lexm (K : PySem.W.Frag) {w w' : W} (l : w.lex w') : ∀ {x : SV} {v : V}, RSV K w x v → RSV K w' x v
  | .d d, v, h => RD.mono K l.F l.gl d h
  | .loc u i, v, ⟨a, h, e⟩ => ⟨a, l.ad h, e⟩
theorem RSl.lexm (K : PySem.W.Frag) {w w' : W} (l : w.lex w') : ∀ {ρ : Env} {σ : List (Option V)}, RSl K w ρ σ → RSl K w' ρ σ
  | [], _, h => h
  | x :: ρ, _, ⟨y, r, e, h, t⟩ => ⟨y, r, e, fun s es => let ⟨v, e1, q⟩ := h s es; ⟨v, e1, q.lexm K l⟩, RSl.lexm K l t⟩
/-! ### targets -/
def Tg.sl : Tg → List Nat
  | .one i => [i]
  | .many is => is
theorem wipe_set : ∀ {vs : List Nat} {σ : L2.St} {i : Nat} {x : Option V}, i ∈ vs → wipe (σ.set i x) vs = wipe σ vs
  | [], _, _, _, h => by cases h
  | v :: vs, σ, i, x, h => by
    show (wipe (σ.set i x) vs).set v none = (wipe σ vs).set v none
    by_cases hi : i ∈ vs
    · rw [wipe_set hi]
    · have e : i = v := by
        rcases List.mem_cons.mp h with e | e
        · exact e
        · exact absurd e hi
      subst e
      have : ∀ (vs : List Nat), i ∉ vs → wipe (σ.set i x) vs = (wipe σ vs).set i x := by
        intro vs
        induction vs with
        | nil => intro _; rfl
        | cons u us ih =>
          intro hu
          show (wipe (σ.set i x) us).set u none = ((wipe σ us).set u none).set i x
          rw [ih (fun z => hu (List.mem_cons_of_mem _ z)), List.set_comm _ _ (fun z => hu (by rw [z]; exact List.mem_cons_self))]
      rw [this vs hi, List.set_set]
theorem wipe_none : ∀ {vs : List Nat} {σ : L2.St} {i : Nat}, i ∈ vs → (wipe σ vs).set i none = wipe σ vs
  | [], _, _, h => by cases h
  | v :: vs, σ, i, h => by
    show ((wipe σ vs).set v none).set i none = (wipe σ vs).set v none
    by_cases hv : i = v
    · subst hv; rw [List.set_set]
    · have hi : i ∈ vs := by
        rcases List.mem_cons.mp h with e | e
        · exact absurd e hv
        · exact e
      rw [List.set_comm _ _ (fun z => hv z.symm), wipe_none hi]
theorem wipe_wipe (vs : List Nat) (σ : L2.St) : wipe (wipe σ vs) vs = wipe σ vs := by
  have : ∀ us : List Nat, (∀ u ∈ us, u ∈ vs) → wipe (wipe σ vs) us = wipe σ vs := by
    intro us
    induction us with
    | nil => intro _; rfl
    | cons u us ih =>
      intro hu
      show (wipe (wipe σ vs) us).set u none = wipe σ vs
      rw [ih fun x hx => hu x (List.mem_cons_of_mem _ hx)]
      exact wipe_none (hu u List.mem_cons_self)
  exact this vs fun _ h => h
/-- a target takes a value -/
def tG (K : PySem.W.Frag) (tg : Tg) : TG := fun v σ H Q => ∃ w ρ d ρ', RSl K w ρ σ ∧ U.sub w.F H ∧ RD K w.F w.gl d v ∧ putT tg d ρ = some ρ' ∧ ∀ σ', RSl K w ρ' σ' → (∀ vs, (∀ i ∈ tg.sl, i ∈ vs) → wipe σ' vs = wipe σ vs) → Q σ' H
theorem PG.weak {X : Cx} {tg : Expr} {t t' : TG} (h : PG X tg t) (i : ∀ v σ H Q, t' v σ H Q → t v σ H Q) : PG X tg t' := ⟨fun pins s σ H v u Q I r q => h.run pins s σ H v u Q I r (i v σ H Q q)⟩
theorem PGs.weak {X : Cx} {tg : List Expr} {t t' : TGs} (h : PGs X tg t) (i : ∀ v σ H Q, t' v σ H Q → t v σ H Q) : PGs X tg t' := ⟨fun pins s σ H v u Q I r q => h.run pins s σ H v u Q I r (i v σ H Q q)⟩
section
variable {K : PySem.W.Frag} {X : Cx} {pos : Pos}
theorem sg_one {i : Nat} {x : Str} (hN : X.N.Nodup) (hi : X.N[i]? = some x) (hx : Loc X.env.scope x) (hf : X.fn x = true ∨ X.env.scope.names.lookup x = some .local) : PG X (.Name x pos) (tG K (.one i)) := by
  refine PG.weak (pg_name hN hi hx hf) fun v σ H Q h => ?_
  obtain ⟨w, ρ, d, ρ', sl, sb, q, e, h⟩ := h
  cases e
  exact h _ (RSl.set K (s := .d d) q i sl) fun vs hv => wipe_set (hv i List.mem_cons_self)
def tGs (K : PySem.W.Frag) (is : List Nat) : TGs := fun vs σ H Q => ∃ w ρ ds ρ', RSl K w ρ σ ∧ U.sub w.F H ∧ RDs K w.F w.gl ds vs ∧ puts is ds ρ = some ρ' ∧ ∀ σ', RSl K w ρ' σ' → (∀ us, (∀ i ∈ is, i ∈ us) → wipe σ' us = wipe σ us) → Q σ' H
theorem sgs_nil : PGs X [] (tGs K []) := by
  refine PGs.weak pgs_nil fun vs σ H Q h => ?_
  obtain ⟨w, ρ, ds, ρ', sl, sb, q, e, h⟩ := h
  cases ds with
  | nil => cases e; exact ⟨q, h σ sl fun _ _ => rfl⟩
  | cons _ _ => cases e
theorem sgs_cons {e : Expr} {es : List Expr} {i : Nat} {is : List Nat} (h1 : PG X e (tG K (.one i))) (h2 : PGs X es (tGs K is)) (hs : (assignEach (e :: es) X.env).map (·.2) = assign e X.env :: (assignEach es X.env).map (·.2)) : PGs X (e :: es) (tGs K (i :: is)) := by
  refine PGs.weak (pgs_cons h1 h2 hs) fun vs σ H Q h => ?_
  obtain ⟨w, ρ, ds, ρ', sl, sb, q, e, h⟩ := h
  cases ds with
  | nil => cases e
  | cons d ds =>
    obtain ⟨v, r, rfl, qv, qr⟩ := q
    refine ⟨v, r, rfl, w, ρ, d, ρ.put i d, sl, sb, qv, rfl, fun σ1 sl1 hw1 => ?_⟩
    refine ⟨w, ρ.put i d, ds, ρ', sl1, sb, qr, e, fun σ2 sl2 hw2 => ?_⟩
    refine h σ2 sl2 fun us hu => ?_
    rw [hw2 us fun j hj => hu j (List.mem_cons_of_mem _ hj), hw1 us fun j hj => hu j ?_]
    rcases List.mem_cons.mp hj with rfl | hj
    · exact List.mem_cons_self
    · cases hj
theorem puts_len : ∀ {is : List Nat} {ds : List D} {ρ ρ' : Env}, puts is ds ρ = some ρ' → ds.length = is.length
  | [], [], _, _, _ => rfl
  | _ :: _, _ :: _, _, _, h => congrArg Nat.succ (puts_len h)
  | [], _ :: _, _, _, h => by cases h
  | _ :: _, [], _, _, h => by cases h
theorem sg_many {es : List Expr} {k : Nat} {is : List Nat} (hK : X.K = K) (hc : X.calm = true) (h : PGs X es (tGs K is)) (hn : (assignEach es X.env).length = is.length) (hst : (assignEach es X.env).findIdx? (·.1) = none) : PG X (.Tuple es k pos) (tG K (.many is)) := by
  subst hK
  refine PG.weak (pg_tup hc h hn hst) fun v σ H Q h => ?_
  obtain ⟨w, ρ, d, ρ', sl, sb, q, e, h⟩ := h
  cases d with
  | tup ds =>
    obtain ⟨a, vs, rfl, ht, hd⟩ := q
    have e : puts is ds ρ = some ρ' := e
    exact ⟨a, vs, rfl, sb.sqT X.K ht, by rw [RDs.len X.K hd]; exact puts_len e, w, ρ, ds, ρ', sl, sb, hd, e, fun σ' sl' hw => h σ' sl' fun us hu => hw us hu⟩
  | _ => cases e

/-- a list's items -/
def tGL (K : PySem.W.Frag) (is : List Nat) : TG := fun v σ H Q => ∃ w ρ ds ρ', RSl K w ρ σ ∧ U.sub w.F H ∧ (∃ a vs, v = .ref a ∧ SqL K H a vs ∧ RDs K w.F w.gl ds vs) ∧ puts is ds ρ = some ρ' ∧ ∀ σ', RSl K w ρ' σ' → (∀ us, (∀ i ∈ is, i ∈ us) → wipe σ' us = wipe σ us) → Q σ' H
theorem sg_manyL {es : List Expr} {k : Nat} {is : List Nat} (hK : X.K = K) (hc : X.calm = true) (h : PGs X es (tGs K is)) (hn : (assignEach es X.env).length = is.length) (hst : (assignEach es X.env).findIdx? (·.1) = none) : PG X (.Tuple es k pos) (tGL K is) := by
  subst hK
  refine PG.weak (pg_unl hc h hn hst) fun v σ H Q h => ?_
  obtain ⟨w, ρ, ds, ρ', sl, sb, ⟨a, vs, rfl, hq, hd⟩, e, h⟩ := h
  exact ⟨a, vs, rfl, hq, by rw [RDs.len X.K hd]; exact puts_len e, w, ρ, ds, ρ', sl, sb, hd, e, h⟩
/-! ### comprehensions -/
def lcF (fw : Env → M Walk) (tg : Tg) (fc fe : Env → M RV) (vs : List Nat) : Env → M RV := fun ρ => M.bind (fw ρ) fun k => M.bind (compL k.chk (fun x => putT tg x (wipeE ρ vs)) fc fe k.xs) fun ds => fun S => if sz ds.length = true then .ok (.new (.lst ds)) S else .bad
theorem compL_nil {chk : St → Bool} {put : D → Option Env} {fc fe : Env → M RV} {S S' : St} {ds : List D} (h : compL chk put fc fe [] S = .ok ds S') : chk S = true ∧ ds = [] ∧ S' = S := by
  unfold compL at h
  split at h
  · cases h; exact ⟨by assumption, rfl, rfl⟩
  · cases h
theorem compL_cons {chk : St → Bool} {put : D → Option Env} {fc fe : Env → M RV} {S S' : St} {x : D} {xs ds : List D} (h : compL chk put fc fe (x :: xs) S = .ok ds S') :
    chk S = true ∧ ∃ ρ c S1, put x = some ρ ∧ fc ρ S = .ok c S1 ∧ ((truth c = some false ∧ compL chk put fc fe xs S1 = .ok ds S') ∨
      (truth c = some true ∧ ∃ y S2 d S3 ds', fe ρ S1 = .ok y S2 ∧ keep y S2 = .ok d S3 ∧ compL chk put fc fe xs S3 = .ok ds' S' ∧ ds = d :: ds')) := by
  unfold compL at h
  split at h
  · rename_i hc
    refine ⟨hc, ?_⟩
    split at h
    · cases h
    · rename_i ρ hp
      split at h
      · rename_i c S1 hfc
        refine ⟨ρ, c, S1, hp, hfc, ?_⟩
        split at h
        · rename_i ht
          right
          refine ⟨ht, ?_⟩
          split at h
          · rename_i y S2 hfe
            split at h
            · rename_i d S3 hk
              split at h
              · rename_i ds' S4 hr
                cases h
                exact ⟨y, S2, d, S3, ds', hfe, hk, hr, rfl⟩
              · cases h
            · cases h
          · cases h
        · rename_i ht
          left
          exact ⟨ht, h⟩
        · cases h
      · cases h
  · cases h
theorem lc_core' {own : List (Str × Nat)} {fw : Env → M Walk} {tg : Tg} {fc fe : Env → M RV} {σ : L2.St} {H : Hp} {Q : VK} (htg : ∀ i ∈ tg.sl, i ∈ own.map (·.2)) (h : tE X.K (lcF fw tg fc fe (own.map (·.2))) σ H Q) :
    tLc (tW X.K fw) (tG X.K tg) (tT X.K fc) (tE X.K fe) (own.map (·.2)) σ H Q := by
  obtain ⟨w, ρ, S, hr, sl, p⟩ := h
  unfold lcF at p
  obtain ⟨k, S1, ek, p⟩ := p.bind
  obtain ⟨ds, S2, ed, p⟩ := p.bind
  split at p
  · rename_i hz
    have hz := sz_le hz
    refine ⟨w, ρ, S, hr, sl, ?_⟩
    rw [ek]
    intro w1 H1 J l1 r1 gw A hA
    have sl1 := sl.mono X.K l1
    obtain ⟨hF, hnA⟩ := r1.notF X.K hA
    -- the list so far
    have dsl : ∀ {acc ds' : List D}, ds = acc ++ ds' → acc.length ≤ ds.length := fun h => by rw [h, List.length_append]; omega
    refine ⟨fun i m H' => m = k.xs.length - i ∧ ∃ w' S' acc vacc ds', w'.ex = (A, .lst vacc) :: w1.ex ∧ w1.lex w' ∧ Rel X.K w' S' H' ∧ RDs X.K w'.F w'.gl acc vacc ∧
      compL k.chk (fun x => putT tg x (wipeE ρ (own.map (·.2)))) fc fe (k.xs.drop i) S' = .ok ds' S2 ∧ ds = acc ++ ds', ?_, ?_⟩
    · refine ⟨_, rfl, { w1 with ex := (A, .lst []) :: w1.ex }, S1, [], [], ds, rfl, ⟨U.sub.refl _, pre.refl _, rfl, pre.refl _⟩, (r1.new X.K hA).extake X.K upd_same hF hnA, rfl, ?_, rfl⟩
      rw [List.drop_zero]; exact ed
    · rintro i m H' ⟨rfl, w', S', acc, vacc, ds', hex, l', r', qa, hcl, hds⟩
      by_cases hlt : i < k.xs.length
      · -- one more turn
        right
        rw [List.drop_eq_getElem_cons hlt] at hcl
        obtain ⟨hchk, ρ1, c, S3, hput, hfc, hrest⟩ := compL_cons hcl
        obtain ⟨g1, _⟩ := gw w' S' H' i l' r' hchk
        obtain ⟨hgo, hy⟩ := g1 _ (List.getElem?_eq_getElem hlt)
        refine ⟨hgo, fun H2 => ∃ w2 S2' acc2 vacc2 ds2, w2.ex = (A, .lst vacc2) :: w1.ex ∧ w1.lex w2 ∧ Rel X.K w2 S2' H2 ∧ RDs X.K w2.F w2.gl acc2 vacc2 ∧
          compL k.chk (fun x => putT tg x (wipeE ρ (own.map (·.2)))) fc fe (k.xs.drop (i + 1)) S2' = .ok ds2 S2 ∧ ds = acc2 ++ ds2, fun H2 h2 => ⟨_, by omega, rfl, h2⟩, fun x H2 yx => ?_⟩
        obtain ⟨w3, l3, o3, r3, qx⟩ := hy x H2 yx
        have l13 := l'.trans l3.lex
        have slw := (RSl.wipe X.K (sl1.lexm X.K l13) (own.map (·.2)))
        refine ⟨w3, _, _, _, slw, r3.sub, qx, hput, fun σ' sl' hw => ?_⟩
        refine ⟨by rw [hw (own.map (·.2)) htg, wipe_wipe], ?_⟩
        refine ⟨w3, ρ1, S', r3, sl', ?_⟩
        rw [hfc]
        rcases hrest with ⟨htf, hcl'⟩ | ⟨htt, y, S4, d, S5, ds2, hfe, hk, hcl', rfl⟩
        · refine ⟨false, htf, fun w4 H4 l4 r4 => ?_⟩
          refine iteF ?_
          exact ⟨w4, S3, acc, vacc, ds', by rw [l4.ex, l3.ex, hex], l13.trans l4.lex, r4, RDs.mono X.K (l3.F.trans l4.F) (l3.gl.trans l4.gl) acc qa, hcl', hds⟩
        · refine ⟨true, htt, fun w4 H4 l4 r4 => ?_⟩
          refine iteT ?_
          refine ⟨w4, ρ1, S3, r4, sl'.mono X.K l4, ?_⟩
          rw [hfe]
          intro w5 H5 v l5 r5 q5
          obtain ⟨w6, l6, r6, _, q6⟩ := r5.kept X.K q5 hk
          have e6 : w6.ex = (A, .lst vacc) :: w1.ex := by rw [l6.ex, l5.ex, l4.ex, l3.ex, hex]
          have hA6 := (r6.ex (A, .lst vacc) (by rw [e6]; exact List.mem_cons_self)).1
          have qa6 := RDs.mono X.K (((l3.F.trans l4.F).trans l5.F).trans l6.F) (((l3.gl.trans l4.gl).trans l5.gl).trans l6.gl) acc qa
          refine ⟨vacc, hA6, ?_, { w6 with ex := (A, .lst (vacc ++ [v])) :: w1.ex }, S5, acc ++ [d], vacc ++ [v], ds2, rfl, ?_, r6.exset X.K e6, RDs.app X.K qa6 ⟨v, [], rfl, q6, rfl⟩, hcl', by rw [hds, List.append_assoc]; rfl⟩
          · rw [RDs.len X.K qa]
            have : (acc ++ d :: ds2).length ≤ sizeLine := by rw [← hds]; exact hz
            rw [List.length_append, List.length_cons] at this
            omega
          · have l6' := ((l13.trans l4.lex).trans l5.lex).trans l6.lex
            exact ⟨l6'.F, l6'.own, l6'.out, l6'.gl⟩
      · left
        obtain ⟨rd, hD, hFD, hnD⟩ := r'.exdrop X.K hex
        have hd0 : k.xs.drop i = [] := List.drop_eq_nil_of_le (by omega)
        rw [hd0] at hcl
        obtain ⟨hchk, rfl, rfl⟩ := compL_nil hcl
        obtain ⟨_, g2⟩ := gw w' S2 H' i l' r' hchk
        refine ⟨g2 (List.getElem?_eq_none_iff.mpr (by omega)), ?_⟩
        rw [List.append_nil] at hds
        subst hds
        exact p { w' with ex := w1.ex } H' _ (l1.trans ⟨l'.F, l'.own, l'.out, l'.gl, rfl⟩) rd ⟨A, vacc, rfl, hD, qa, hFD, hnD⟩
  · exact p.elim
theorem se_lc {elt tge iter : Expr} {ifs : List Expr} {scope : Scope} {own : List (Str × Nat)} {fw : Env → M Walk} {tg : Tg} {fc fe : Env → M RV} (hK : X.K = K) (hc : X.calm = true) (hN : X.N.Nodup) (hi : PI X tge iter (tW K fw)) (ok : BlkOk X.N X.env.scope scope own)
    (htg : ∀ i ∈ tg.sl, i ∈ own.map (·.2))
    (hg : ∀ (s : Shared) (H : Hp) (C : Addr) (cl : List (Str × Addr)) (fp : List Addr), PG (X.blk s H scope (compEnvC scope cl C X.env) fp) tge (tG K tg)) (ht : ∀ (s : Shared) (H : Hp) (C : Addr) (cl : List (Str × Addr)) (fp : List Addr), PTs (X.blk s H scope (compEnvC scope cl C X.env) fp) ifs (tT K fc))
    (he : ∀ (s : Shared) (H : Hp) (C : Addr) (cl : List (Str × Addr)) (fp : List Addr), PE (X.blk s H scope (compEnvC scope cl C X.env) fp) elt (tE K fe)) (hs : ∀ x, foldedSetIterable iter X.env x = pure x) :
    PE X (.ListComp elt [⟨tge, iter, ifs, 0⟩] scope pos) (tE K (lcF fw tg fc fe (own.map (·.2)))) := by
  subst hK
  exact PE.weak (pe_lc hc hN hi ok hg ht he hs) fun σ H Q h => lc_core' htg h
end
end U

namespace U
open PySem PySem.Spec PyProof.Rows L2

def PostS (K : PySem.W.Frag) (w : W) (D : Ends) : Res Flow → Prop
  | .ok (.next ρ) S => ∀ w' σ' H', w.le w' → Rel K w' S H' → RSl K w' ρ σ' → D.nx σ' H'
  | .ok (.brk ρ) S => ∀ w' σ' H', w.le w' → Rel K w' S H' → RSl K w' ρ σ' → D.bk σ' H'
  | .ok (.cont ρ) S => ∀ w' σ' H', w.le w' → Rel K w' S H' → RSl K w' ρ σ' → D.ct σ' H'
  | .ok (.ret r) S => ∀ w' H' v, w.le w' → Rel K w' S H' → RRV K w' H' r v → D.rt v H'
  | _ => False
def tS (K : PySem.W.Frag) (f : Env → M Flow) : TS := fun D σ H => ∃ w ρ S, Rel K w S H ∧ RSl K w ρ σ ∧ PostS K w D (f ρ S)
theorem PS.weak {X : Cx} {st : Stmt} {t t' : TS} (h : PS X st t) (i : ∀ D σ H, t' D σ H → t D σ H) : PS X st t' := ⟨fun pins s σ H D I q => h.run pins s σ H D I (i D σ H q)⟩
theorem PSs.weak {X : Cx} {st : List Stmt} {t t' : TS} (h : PSs X st t) (i : ∀ D σ H, t' D σ H → t D σ H) : PSs X st t' := ⟨fun pins s σ H D I q => h.run pins s σ H D I (i D σ H q)⟩
section
variable {K : PySem.W.Frag} {X : Cx} {pos : Pos}
theorem PostS.le {w w1 : W} {D : Ends} {r : Res Flow} (l : w.le w1) (p : PostS K w D r) : PostS K w1 D r := by
  cases r with
  | ok f S =>
    cases f with
    | next ρ => exact fun w' σ' H' l' => p w' σ' H' (l.trans l')
    | brk ρ => exact fun w' σ' H' l' => p w' σ' H' (l.trans l')
    | cont ρ => exact fun w' σ' H' l' => p w' σ' H' (l.trans l')
    | ret r => exact fun w' H' v l' => p w' H' v (l.trans l')
  | exc _ _ => exact p
  | bad => exact p
theorem PostS.bind {α : Type} {w : W} {D : Ends} {m : M α} {f : α → M Flow} {S : St} (h : PostS K w D (M.bind m f S)) : ∃ a S1, m S = .ok a S1 ∧ PostS K w D (f a S1) := by
  unfold M.bind at h
  cases e : m S with
  | ok a S1 => rw [e] at h; exact ⟨a, S1, rfl, h⟩
  | exc _ _ => rw [e] at h; exact h.elim
  | bad => rw [e] at h; exact h.elim

/-! ### small statements -/
theorem ss_skip : PSs X [] (tS K fun ρ => M.ret (.next ρ)) := by
  refine PSs.weak pss_nil fun D σ H h => ?_
  obtain ⟨w, ρ, S, hr, sl, p⟩ := h
  exact p w σ H (.refl w) hr sl
def seqS (f g : Env → M Flow) : Env → M Flow := fun ρ => M.bind (f ρ) fun fl => match fl with
  | .next ρ1 => g ρ1
  | fl => M.ret fl
theorem ss_cons {st : Stmt} {rest : List Stmt} {f g : Env → M Flow} (h1 : PS X st (tS K f)) (h2 : PSs X rest (tS K g)) : PSs X (st :: rest) (tS K (seqS f g)) := by
  refine PSs.weak (pss_cons h1 h2) fun D σ H h => ?_
  obtain ⟨w, ρ, S, hr, sl, p⟩ := h
  refine ⟨w, ρ, S, hr, sl, ?_⟩
  unfold seqS at p
  obtain ⟨fl, S1, e, p⟩ := p.bind
  rw [e]
  cases fl with
  | next ρ1 => exact fun w' σ' H' l r sl' => ⟨w', ρ1, S1, r, sl', p.le l⟩
  | brk ρ1 => exact p
  | cont ρ1 => exact p
  | ret r => exact p
theorem ss_one {st : Stmt} {f : Env → M Flow} (h1 : PS X st (tS K f)) : PSs X [st] (tS K f) := pss_one h1
theorem ss_expr {e : Expr} {f : Env → M RV} (he : PE X e (tE K f)) (hs : swapsWith e none pos.line X.env = pure false) : PS X (.Expr e pos) (tS K fun ρ => M.bind (f ρ) fun _ => M.ret (.next ρ)) := by
  refine PS.weak (ps_expr he hs) fun D σ H h => ?_
  obtain ⟨w, ρ, S, hr, sl, p⟩ := h
  obtain ⟨x, S1, ex, p⟩ := p.bind
  exact one hr sl ex fun w1 H1 v l r q => p w1 σ H1 l r (sl.mono K l)
theorem ss_ret {e : Expr} {f : Env → M RV} (he : PE X e (tE K f)) : PS X (.Return (some e) pos) (tS K fun ρ => M.bind (f ρ) fun r => M.ret (.ret r)) := by
  refine PS.weak (ps_ret he) fun D σ H h => ?_
  obtain ⟨w, ρ, S, hr, sl, p⟩ := h
  obtain ⟨x, S1, ex, p⟩ := p.bind
  exact one hr sl ex fun w1 H1 v l r q => p w1 H1 v l r q
theorem ss_retN : PS X (.Return none pos) (tS K fun _ => M.ret (.ret (.d .non))) := by
  refine PS.weak ps_retN fun D σ H h => ?_
  obtain ⟨w, ρ, S, hr, sl, p⟩ := h
  exact p w H .non (.refl w) hr rfl
theorem ss_brk : PS X (.Break pos) (tS K fun ρ => M.ret (.brk ρ)) := by
  refine PS.weak ps_break fun D σ H h => ?_
  obtain ⟨w, ρ, S, hr, sl, p⟩ := h
  exact p w σ H (.refl w) hr sl
theorem ss_cont : PS X (.Continue pos) (tS K fun ρ => M.ret (.cont ρ)) := by
  refine PS.weak ps_continue fun D σ H h => ?_
  obtain ⟨w, ρ, S, hr, sl, p⟩ := h
  exact p w σ H (.refl w) hr sl
def ifS (c : Env → M RV) (f g : Env → M Flow) : Env → M Flow := fun ρ => M.bind (c ρ) fun x => match truth x with
  | some true => f ρ
  | some false => g ρ
  | none => M.bad
theorem ss_if {c : Expr} {a b : List Stmt} {fc : Env → M RV} {f g : Env → M Flow} (hc : PT X c (tT K fc)) (ha : PSs X a (tS K f)) (hb : PSs X b (tS K g)) : PS X (.If c a b pos) (tS K (ifS fc f g)) := by
  refine PS.weak (ps_if hc ha hb) fun D σ H h => ?_
  obtain ⟨w, ρ, S, hr, sl, p⟩ := h
  unfold ifS at p
  obtain ⟨x, S1, ex, p⟩ := p.bind
  cases eb : truth x with
  | none => rw [eb] at p; exact False.elim p
  | some b0 =>
    rw [eb] at p
    refine oneT hr sl ex eb fun w1 H1 l r => ?_
    cases b0 with
    | true => exact iteT ⟨w1, ρ, S1, r, sl.mono K l, p.le l⟩
    | false => exact iteF ⟨w1, ρ, S1, r, sl.mono K l, p.le l⟩

/-! ### assignments -/
def setS (i : Nat) (m : Bool) (f : Env → M RV) : Env → M Flow := fun ρ => M.bind (f ρ) fun r => match r, m with
  | .new c, true => fun S => .ok (.next (ρ.set i (some (.loc 0 S.own.length)))) { S with own := S.own ++ [⟨false, c⟩] }
  | r, _ => M.ret (.next (ρ.set i (some (hold r))))
theorem set_core {i : Nat} {m : Bool} {f : Env → M RV} {D : Ends} {σ : L2.St} {H : Hp} (h : tS K (setS i m f) D σ H) : tE K f σ H fun x H1 => gName i x σ H1 D.nx := by
  obtain ⟨w, ρ, S, hr, sl, p⟩ := h
  unfold setS at p
  obtain ⟨x, S1, ex, p⟩ := p.bind
  refine one hr sl ex fun w1 H1 v l r q => ?_
  have plain : PostS K w D (.ok (.next (ρ.set i (some (hold x)))) S1) → D.nx (σ.set i (some v)) H1 := fun p => by
    obtain ⟨w2, l2, r2, _, q2⟩ := r.hold K q
    exact p w2 _ H1 (l.trans l2) r2 (RSl.set K q2 i (sl.mono K (l.trans l2)))
  cases x with
  | d _ => cases m <;> exact plain p
  | loc _ _ => cases m <;> exact plain p
  | new c =>
    cases m with
    | false => exact plain p
    | true =>
      cases c with
      | lst ds =>
        obtain ⟨a, vs, rfl, hv, hd, hF, ha⟩ := q
        obtain ⟨r2, l2⟩ := r.mine K hv hd hF ha
        refine p _ _ H1 (l.trans l2) r2 (RSl.set K (s := .loc 0 S1.own.length) ⟨a, ?_, rfl⟩ i (sl.mono K (l.trans l2)))
        show (w1.own ++ [a])[S1.own.length]? = some a
        rw [← r.own.len K, List.getElem?_append_right (Nat.le_refl _), Nat.sub_self]
        rfl
      | dic _ => exact q.elim
      | ins _ _ => exact q.elim
theorem ss_set {i : Nat} {m : Bool} {x : Str} {e : Expr} {f : Env → M RV} {pos' : Pos} (hN : X.N.Nodup) (hi : X.N[i]? = some x) (hx : Loc X.env.scope x) (he : PE X e (tE K f)) (hs : swapsWith e (some (.Name x pos')) pos.line X.env = pure false) (hf : X.fn x = true ∨ X.env.scope.names.lookup x = some .local) :
    PS X (.Assign [.Name x pos'] e pos) (tS K (setS i m f)) := PS.weak (ps_set hN hi hx he hs hf) fun D σ H h => set_core h
theorem ss_setLc {i : Nat} {m : Bool} {y : Str} {py : Pos} {elt tge iter : Expr} {ifs : List Expr} {scope : Scope} {own : List (Str × Nat)} {fw : Env → M Walk} {tg : Tg} {fc fe : Env → M RV} {lpos : Pos} (hK : X.K = K) (hc : X.calm = true) (hN : X.N.Nodup) (hy : X.N[i]? = some y) (hyl : X.env.scope.names.lookup y = some .local)
    (hsw : swapsWith (.ListComp elt [⟨tge, iter, ifs, 0⟩] scope lpos) (some (.Name y py)) pos.line X.env = pure true) (hi : PI X tge iter (tW K fw)) (ok : BlkOk X.N X.env.scope scope own) (htg : ∀ i ∈ tg.sl, i ∈ own.map (·.2))
    (hg : ∀ (s : Shared) (H : Hp) (C : Addr) (cl : List (Str × Addr)) (fp : List Addr), PG (X.blk s H scope (compEnvC scope cl C X.env) fp) tge (tG K tg)) (ht : ∀ (s : Shared) (H : Hp) (C : Addr) (cl : List (Str × Addr)) (fp : List Addr), PTs (X.blk s H scope (compEnvC scope cl C X.env) fp) ifs (tT K fc))
    (he : ∀ (s : Shared) (H : Hp) (C : Addr) (cl : List (Str × Addr)) (fp : List Addr), PE (X.blk s H scope (compEnvC scope cl C X.env) fp) elt (tE K fe)) (hs : ∀ x, foldedSetIterable iter X.env x = pure x) :
    PS X (.Assign [.Name y py] (.ListComp elt [⟨tge, iter, ifs, 0⟩] scope lpos) pos) (tS K (setS i m (lcF fw tg fc fe (own.map (·.2))))) := by
  subst hK
  exact PS.weak (ps_setLc hc hN hy hyl hsw hi ok hg ht he hs) fun D σ H h => lc_core' htg (set_core h)
def unpS (is : List Nat) (f : Env → M RV) : Env → M Flow := fun ρ => M.bind (f ρ) fun r => match unpD r with
  | some ds => match puts is ds ρ with
    | some ρ1 => M.ret (.next ρ1)
    | none => M.bad
  | none => M.bad
theorem unp_c {r : RV} {ds : List D} (h : unpD r = some ds) : r = .d (.tup ds) ∨ r = .d (.lst ds) ∨ r = .new (.lst ds) := by
  unfold unpD at h
  split at h
  · cases h; exact .inl rfl
  · cases h; exact .inr (.inl rfl)
  · cases h; exact .inr (.inr rfl)
  · cases h
theorem ss_unp {tge e : Expr} {is : List Nat} {f : Env → M RV} (he : PE X e (tE K f)) (hg : PG X tge (tG K (.many is))) (hgL : PG X tge (tGL K is)) (hs : swapsWithSole [tge] e pos.line X.env = pure false) (hw : swappedStores [tge] e X.env = pure none) (h1 : (assignEach [tge] X.env).map (·.2) = [assign tge X.env]) :
    PS X (.Assign [tge] e pos) (tS K (unpS is f)) := by
  refine ⟨fun pins s σ H D I h => ?_⟩
  obtain ⟨w, ρ, S, hr, sl, p⟩ := h
  unfold unpS at p
  obtain ⟨x, S1, ex, p⟩ := p.bind
  have : ∃ ds ρ1, unpD x = some ds ∧ puts is ds ρ = some ρ1 ∧ PostS K w D (.ok (.next ρ1) S1) := by
    cases eu : unpD x with
    | none => rw [eu] at p; exact False.elim p
    | some ds =>
      rw [eu] at p
      dsimp only at p
      cases e1 : puts is ds ρ with
      | none => rw [e1] at p; exact False.elim p
      | some ρ1 => rw [e1] at p; exact ⟨ds, ρ1, rfl, e1, p⟩
  obtain ⟨ds, ρ1, eu, e1, p2⟩ := this
  rcases unp_c eu with rfl | rfl | rfl
  · refine (ps_asg he hg hs hw h1).run pins s σ H D I (one hr sl ex fun w1 H1 v l r q => ?_)
    exact ⟨w1, ρ, .tup ds, ρ1, sl.mono K l, r.sub, q, e1, fun σ' sl' _ => p2 w1 σ' H1 l r sl'⟩
  · refine (ps_asg he hgL hs hw h1).run pins s σ H D I (one hr sl ex fun w1 H1 v l r q => ?_)
    obtain ⟨a, vs, rfl, hv, hd⟩ := q
    exact ⟨w1, ρ, ds, ρ1, sl.mono K l, r.sub, ⟨a, vs, rfl, SqL.of (r.sub _ _ hv), hd⟩, e1, fun σ' sl' _ => p2 w1 σ' H1 l r sl'⟩
  · refine (ps_asg he hgL hs hw h1).run pins s σ H D I (one hr sl ex fun w1 H1 v l r q => ?_)
    obtain ⟨a, vs, rfl, hv, hd, _⟩ := q
    exact ⟨w1, ρ, ds, ρ1, sl.mono K l, r.sub, ⟨a, vs, rfl, SqL.of hv, hd⟩, e1, fun σ' sl' _ => p2 w1 σ' H1 l r sl'⟩
def setIxS (fo fi fe : Env → M RV) : Env → M Flow := fun ρ => M.bind (fe ρ) fun v => M.bind (keep v) fun d => M.bind (fo ρ) fun r => M.bind (fi ρ) fun k => match r, dataInt k with
  | .loc u j, some k => fun S => match S.get u j with
    | some ⟨false, .lst ds⟩ => match U.ixN ds.length k with
      | some n => .ok (.next ρ) (S.set u j ⟨false, .lst (ds.set n d)⟩)
      | none => .bad
    | _ => .bad
  | _, _ => M.bad
theorem assign_sub {o i : Expr} {env : PySem.Env} (ho : okHead i = true) (v : Value) : assign (.Subscript o i pos) env v = (do
      let ov ← holding [v] (eval o env)
      let iv ← holding [v, ov] (eval i env)
      standAt pos
      holding [v, ov, iv] (setItem ov iv v)
      release [v, ov, iv] []) := by
  cases i <;> first | rfl | (simp [okHead] at ho)
theorem ss_setIx {o i e : Expr} {fo fi fe : Env → M RV} {p2 : Pos} (he : PE X e (tE K fe)) (hoe : PE X o (tE K fo)) (hie : PE X i (tE K fi)) (ho : okHead i = true) (hs : swapsWithSole [.Subscript o i p2] e pos.line X.env = pure false) (hw : swappedStores [.Subscript o i p2] e X.env = pure none) :
    PS X (.Assign [.Subscript o i p2] e pos) (tS K (setIxS fo fi fe)) := by
  refine PS.weak (ps_asg he (pg_sub hoe hie set_list (assign_sub ho)) hs hw rfl) fun D σ H h => ?_
  obtain ⟨w, ρ, S, hr, sl, p⟩ := h
  unfold setIxS at p
  obtain ⟨x, S1, ex, p⟩ := p.bind
  obtain ⟨d, S2, ed, p⟩ := p.bind
  obtain ⟨r, S3, er, p⟩ := p.bind
  obtain ⟨k, S4, ek, p⟩ := p.bind
  have : ∃ u j k', r = .loc u j ∧ k = .d (.int k') ∧ ∃ ds n, S4.get u j = some ⟨false, .lst ds⟩ ∧ U.ixN ds.length k' = some n ∧ PostS K w D (.ok (.next ρ) (S4.set u j ⟨false, .lst (ds.set n d)⟩)) := by
    cases r with
    | d _ => exact False.elim p
    | new _ => exact False.elim p
    | loc u j =>
      cases hk : dataInt k with
      | none => rw [hk] at p; exact False.elim p
      | some k' =>
        rw [hk] at p
        have p : PostS K w D (match S4.get u j with
          | some ⟨false, .lst ds⟩ => match U.ixN ds.length k' with
            | some n => .ok (.next ρ) (S4.set u j ⟨false, .lst (ds.set n d)⟩)
            | none => .bad
          | _ => .bad) := p
        split at p
        · rename_i ds hg
          split at p
          · rename_i n hn
            exact ⟨u, j, k', rfl, dataInt_eq hk, ds, n, hg, hn, p⟩
          · exact p.elim
        · exact p.elim
  obtain ⟨u, j, k', rfl, rfl, ds, n, hg, hn, p⟩ := this
  refine one hr sl ex fun w1 H1 v l1 r1 q1 => ?_
  obtain ⟨w2, l2, r2, _, q2⟩ := r1.kept K q1 ed
  refine one r2 (sl.mono K (l1.trans l2)) er fun w3 H3 ov l3 r3 q3 => ?_
  refine one r3 (sl.mono K ((l1.trans l2).trans l3)) ek fun w4 H4 iv l4 r4 q4 => ?_
  have l := ((l1.trans l2).trans l3).trans l4
  obtain ⟨a, vs, rfl, had, hv, hd⟩ := loc_lst r4 (RSV.mono K (x := .loc u j) l4 q3) hg
  refine ⟨a, vs, k', n, rfl, q4, hv, by rw [← ixN_eq, RDs.len K hd]; exact hn, ?_⟩
  exact p w4 σ _ l (r4.write K hg had (RDs.set K (RD.mono K (l3.F.trans l4.F) (l3.gl.trans l4.gl) d q2) n hd) (z' := ⟨false, .lst ds⟩)) (sl.mono K l)
end
end U

namespace U
open PySem PySem.Spec PyProof.Rows L2
section
variable {K : PySem.W.Frag} {X : Cx} {pos : Pos}
/-! ### a frame's lists dropped behind a turn -/
theorem RFr.take {F : Hp} {g : List Addr} {H : Hp} : ∀ {os : List LO} {as : List Addr} (n : Nat), RFr K F g H os as → RFr K F g H (os.take n) (as.take n)
  | os, as, 0, h => rfl
  | [], _, n + 1, h => by rw [show _ = [] from h]; exact rfl
  | d :: ds, _, n + 1, ⟨v, r, e, q, t⟩ => by subst e; exact ⟨v, _, rfl, q, RFr.take n t⟩
theorem Rel.take {w : W} {S : St} {H : Hp} (r : Rel K w S H) (n : Nat) : Rel K { w with own := w.own.take n } { S with own := S.own.take n } H := by
  refine ⟨r.sub, r.own.take n, r.out, r.gl, r.ex, ?_⟩
  have nd := r.nd
  unfold W.all at nd ⊢
  exact nd.sublist (((List.Sublist.append (List.Sublist.append (List.take_sublist n w.own) (.refl _)) (.refl _))).append (.refl _))
theorem RSl.take {w : W} {n : Nat} : ∀ {ρ : Env} {σ : L2.St}, ownFree n ρ = true → RSl K w ρ σ → RSl K { w with own := w.own.take n } ρ σ
  | [], _, _, h => h
  | x :: ρ, _, hf, ⟨y, r, e, h, t⟩ => by
    have ht : ownFree n ρ = true := by
      match x, hf with
      | none, hf => exact hf
      | some (.d _), hf => exact hf
      | some (.loc 0 i), hf => exact (Bool.and_eq_true _ _ ▸ hf : _ ∧ _).2
      | some (.loc (u + 1) i), hf => exact hf
    refine ⟨y, r, e, fun s es => ?_, RSl.take ht t⟩
    obtain ⟨v, e1, q⟩ := h s es
    refine ⟨v, e1, ?_⟩
    cases s with
    | d d => exact q
    | loc u i =>
      obtain ⟨a, ha, ev⟩ := q
      refine ⟨a, ?_, ev⟩
      cases u with
      | succ u => exact ha
      | zero =>
        subst es
        have hi : i < n := of_decide_eq_true (Bool.and_eq_true _ _ ▸ hf : _ ∧ _).1
        show (w.own.take n)[i]? = some a
        rw [List.getElem?_take_of_lt hi]
        exact ha
/-- behind a turn: masked, trimmed -/
theorem tidy {w1 w : W} {S : St} {H : Hp} {ρ0 ρ : Env} {σ : L2.St} {n0 : Nat} (hn : n0 = w1.own.length) (l : w1.le w) (r : Rel K w S H) (sl : RSl K w ρ σ) : ∃ w', w1.le w' ∧ Rel K w' (trim n0 (mask ρ0 ρ) S) H ∧ RSl K w' (mask ρ0 ρ) σ := by
  have sm := RSl.mask K (ρ0 := ρ0) sl
  unfold trim
  split
  · rename_i hf
    refine ⟨{ w with own := w.own.take n0 }, ⟨l.F, ?_, l.out, l.gl, l.ex⟩, r.take n0, RSl.take hf sm⟩
    obtain ⟨m, e⟩ := l.own
    refine ⟨[], ?_⟩
    show w.own.take n0 = w1.own ++ []
    rw [e, hn, List.take_left, List.append_nil]
  · exact ⟨w, l, r, sm⟩

/-! ### for -/
def forS (fw : Env → M Walk) (tg : Tg) (fb : Env → M Flow) : Env → M Flow := fun ρ => M.bind (fw ρ) fun w => fun S => forL w.chk (putT tg) fb ρ S.own.length w.xs ρ S
theorem forL_nil {chk : St → Bool} {put : D → Env → Option Env} {body : Env → M Flow} {ρ0 ρ : Env} {n0 : Nat} {S : St} {w : W} {D : Ends} (h : PostS K w D (forL chk put body ρ0 n0 [] ρ S)) : chk S = true ∧ PostS K w D (.ok (.next ρ) S) := by
  unfold forL at h
  split at h
  · exact ⟨by assumption, h⟩
  · exact h.elim
theorem forL_cons {chk : St → Bool} {put : D → Env → Option Env} {body : Env → M Flow} {ρ0 ρ : Env} {n0 : Nat} {S : St} {x : D} {xs : List D} {w : W} {D : Ends} (h : PostS K w D (forL chk put body ρ0 n0 (x :: xs) ρ S)) :
    chk S = true ∧ ∃ ρ1, put x ρ = some ρ1 ∧ ∃ fl S2, body ρ1 S = .ok fl S2 ∧ match fl with
      | .next ρ2 => PostS K w D (forL chk put body ρ0 n0 xs (mask ρ0 ρ2) (trim n0 (mask ρ0 ρ2) S2))
      | .cont ρ2 => PostS K w D (forL chk put body ρ0 n0 xs (mask ρ0 ρ2) (trim n0 (mask ρ0 ρ2) S2))
      | .brk ρ2 => PostS K w D (.ok (.next (mask ρ0 ρ2)) (trim n0 (mask ρ0 ρ2) S2))
      | .ret r => PostS K w D (.ok (.ret r) S2) := by
  unfold forL at h
  split at h
  · rename_i hc
    refine ⟨hc, ?_⟩
    split at h
    · exact h.elim
    · rename_i ρ1 hp
      refine ⟨ρ1, hp, ?_⟩
      split at h
      · rename_i ρ2 S2 e; exact ⟨_, S2, e, h⟩
      · rename_i ρ2 S2 e; exact ⟨_, S2, e, h⟩
      · rename_i ρ2 S2 e; exact ⟨_, S2, e, h⟩
      · rename_i r S2 e; exact ⟨_, S2, e, h⟩
      · exact h.elim
      · exact h.elim
  · exact h.elim
theorem ss_for {tge iter : Expr} {body : List Stmt} {fw : Env → M Walk} {tg : Tg} {fb : Env → M Flow} (hp : PassesOwn (model X.prog X.w) X.A X.env X.xe) (hc : X.calm = true) (hi : PI X tge iter (tW K fw)) (hg : PG X tge (tG K tg)) (hb : PSs X body (tS K fb)) (hs : ∀ x, foldedSetIterable iter X.env x = pure x) :
    PS X (.For tge iter body [] pos) (tS K (forS fw tg fb)) := by
  refine PS.weak (ps_for hp hc hi hg hb hs) fun D σ H h => ?_
  obtain ⟨w, ρ, S, hr, sl, p⟩ := h
  unfold forS at p
  obtain ⟨k, S1, ek, p⟩ := p.bind
  refine ⟨w, ρ, S, hr, sl, ?_⟩
  rw [ek]
  intro w1 H1 J l1 r1 gw
  have hn : S1.own.length = w1.own.length := (r1.own.len K).symm
  refine ⟨fun i m σ' H' => m = k.xs.length - i ∧ ∃ w' S' ρ', w1.le w' ∧ Rel K w' S' H' ∧ RSl K w' ρ' σ' ∧ PostS K w1 D (forL k.chk (putT tg) fb ρ S1.own.length (k.xs.drop i) ρ' S'), ⟨_, rfl, w1, S1, ρ, .refl _, r1, sl.mono K l1, ?_⟩, ?_⟩
  · rw [List.drop_zero]; exact p.le l1
  · rintro i m σ' H' ⟨rfl, w', S', ρ', l', r', sl', p'⟩
    by_cases hlt : i < k.xs.length
    · right
      rw [List.drop_eq_getElem_cons hlt] at p'
      obtain ⟨hchk, ρ1, hput, fl, S2, eb, hfl⟩ := forL_cons p'
      obtain ⟨g1, _⟩ := gw w' S' H' i l'.lex r' hchk
      obtain ⟨hgo, hy⟩ := g1 _ (List.getElem?_eq_getElem hlt)
      refine ⟨hgo, fun σ2 H2 => ∃ w2 S2 ρ2, w1.le w2 ∧ Rel K w2 S2 H2 ∧ RSl K w2 ρ2 σ2 ∧ PostS K w1 D (forL k.chk (putT tg) fb ρ S1.own.length (k.xs.drop (i + 1)) ρ2 S2), fun σ2 H2 h2 => ⟨_, by omega, rfl, h2⟩, fun x H2 yx => ?_⟩
      obtain ⟨w3, l3, o3, r3, qx⟩ := hy x H2 yx
      have l13 := l'.trans l3
      refine ⟨w3, ρ', _, ρ1, sl'.mono K l3, r3.sub, qx, hput, fun σ4 sl4 _ => ⟨w3, ρ1, S', r3, sl4, ?_⟩⟩
      rw [eb]
      cases fl with
      | next ρ2 =>
        intro w5 σ5 H5 l5 r5 sl5
        obtain ⟨w6, l6, r6, sl6⟩ := tidy hn (l13.trans l5) r5 sl5
        exact ⟨w6, _, _, l6, r6, sl6, hfl⟩
      | cont ρ2 =>
        intro w5 σ5 H5 l5 r5 sl5
        obtain ⟨w6, l6, r6, sl6⟩ := tidy hn (l13.trans l5) r5 sl5
        exact ⟨w6, _, _, l6, r6, sl6, hfl⟩
      | brk ρ2 =>
        intro w5 σ5 H5 l5 r5 sl5
        obtain ⟨w6, l6, r6, sl6⟩ := tidy hn (l13.trans l5) r5 sl5
        exact hfl w6 σ5 H5 l6 r6 sl6
      | ret r => exact fun w5 H5 v l5 r5 q5 => hfl w5 H5 v (l13.trans l5) r5 q5
    · left
      have hd0 : k.xs.drop i = [] := List.drop_eq_nil_of_le (by omega)
      rw [hd0] at p'
      obtain ⟨hchk, p'⟩ := forL_nil p'
      obtain ⟨_, g2⟩ := gw w' S' H' i l'.lex r' hchk
      exact ⟨g2 (List.getElem?_eq_none_iff.mpr (by omega)), p' w' σ' H' l' r' sl'⟩

/-! ### while -/
def whlS (fc : Env → M RV) (fb : Env → M Flow) : Env → M Flow := fun ρ => fun S => whL fc fb ρ S.own.length 1000000000 ρ S
theorem whL_succ {fc : Env → M RV} {fb : Env → M Flow} {ρ0 ρ : Env} {n0 n : Nat} {S : St} {w : W} {D : Ends} (h : PostS K w D (whL fc fb ρ0 n0 (n + 1) ρ S)) :
    ∃ v S1, fc ρ S = .ok v S1 ∧ ((truth v = some false ∧ PostS K w D (.ok (.next ρ) S1)) ∨ (truth v = some true ∧ ∃ fl S2, fb ρ S1 = .ok fl S2 ∧ match fl with
      | .next ρ2 => PostS K w D (whL fc fb ρ0 n0 n (mask ρ0 ρ2) (trim n0 (mask ρ0 ρ2) S2))
      | .cont ρ2 => PostS K w D (whL fc fb ρ0 n0 n (mask ρ0 ρ2) (trim n0 (mask ρ0 ρ2) S2))
      | .brk ρ2 => PostS K w D (.ok (.next (mask ρ0 ρ2)) (trim n0 (mask ρ0 ρ2) S2))
      | .ret r => PostS K w D (.ok (.ret r) S2))) := by
  unfold whL at h
  split at h
  · rename_i v S1 e
    refine ⟨v, S1, e, ?_⟩
    split at h
    · rename_i ht
      right
      refine ⟨ht, ?_⟩
      split at h
      · rename_i ρ2 S2 e; exact ⟨_, S2, e, h⟩
      · rename_i ρ2 S2 e; exact ⟨_, S2, e, h⟩
      · rename_i ρ2 S2 e; exact ⟨_, S2, e, h⟩
      · rename_i r S2 e; exact ⟨_, S2, e, h⟩
      · exact h.elim
      · exact h.elim
    · rename_i ht
      left
      exact ⟨ht, h⟩
    · exact h.elim
  · exact h.elim
  · exact h.elim
theorem ss_whl {c : Expr} {body : List Stmt} {fc : Env → M RV} {fb : Env → M Flow} (hp : PassesOwn (model X.prog X.w) X.A X.env X.xe) (hc : PT X c (tT K fc)) (hb : PSs X body (tS K fb)) : PS X (.While c body [] pos) (tS K (whlS fc fb)) := by
  refine PS.weak (ps_while hp hc hb) fun D σ H h => ?_
  obtain ⟨w1, ρ, S1, r1, sl1, p⟩ := h
  unfold whlS at p
  have hn : S1.own.length = w1.own.length := (r1.own.len K).symm
  refine ⟨fun m σ' H' => ∃ w' S' ρ', w1.le w' ∧ Rel K w' S' H' ∧ RSl K w' ρ' σ' ∧ PostS K w1 D (whL fc fb ρ S1.own.length m ρ' S'), ⟨_, w1, S1, ρ, .refl _, r1, sl1, p⟩, ?_⟩
  rintro m σ' H' ⟨w', S', ρ', l', r', sl', p'⟩
  cases m with
  | zero => exact False.elim p'
  | succ m =>
    obtain ⟨v, S2, ev, hv⟩ := whL_succ p'
    rcases hv with ⟨ht, hv⟩ | ⟨ht, fl, S3, eb, hfl⟩
    · exact oneT r' sl' ev ht fun w2 H2 l2 r2 => iteF (hv w2 σ' H2 (l'.trans l2) r2 (sl'.mono K l2))
    · refine oneT r' sl' ev ht fun w2 H2 l2 r2 => iteT ?_
      refine ⟨fun σ3 H3 => ∃ w3 S3 ρ3, w1.le w3 ∧ Rel K w3 S3 H3 ∧ RSl K w3 ρ3 σ3 ∧ PostS K w1 D (whL fc fb ρ S1.own.length m ρ3 S3), fun σ3 H3 h3 => ⟨m, Nat.lt_succ_self m, h3⟩, w2, ρ', S2, r2, sl'.mono K l2, ?_⟩
      have l13 := l'.trans l2
      rw [eb]
      cases fl with
      | next ρ2 =>
        intro w5 σ5 H5 l5 r5 sl5
        obtain ⟨w6, l6, r6, sl6⟩ := tidy hn (l13.trans l5) r5 sl5
        exact ⟨w6, _, _, l6, r6, sl6, hfl⟩
      | cont ρ2 =>
        intro w5 σ5 H5 l5 r5 sl5
        obtain ⟨w6, l6, r6, sl6⟩ := tidy hn (l13.trans l5) r5 sl5
        exact ⟨w6, _, _, l6, r6, sl6, hfl⟩
      | brk ρ2 =>
        intro w5 σ5 H5 l5 r5 sl5
        obtain ⟨w6, l6, r6, sl6⟩ := tidy hn (l13.trans l5) r5 sl5
        exact hfl w6 σ5 H5 l6 r6 sl6
      | ret r => exact fun w5 H5 v l5 r5 q5 => hfl w5 H5 v (l13.trans l5) r5 q5
end
end U

namespace U
open PySem PySem.Spec PyProof.Rows L2
section
variable {K : PySem.W.Frag}
theorem start_rsl {w : W} : ∀ {svs : List SV} {vs : List V} (m : Nat), RSVs K w svs vs → RSl K ⟨w.F, [], w.own :: w.out, w.gl, w.ex⟩ ((svs.map fun v => some (shift v)) ++ List.replicate m none) (vs.map some ++ List.replicate m none)
  | [], vs, m, h => by
    rw [show vs = [] from h]
    have : ∀ m : Nat, RSl K ⟨w.F, [], w.own :: w.out, w.gl, w.ex⟩ (List.replicate m none) (List.replicate m none) := by
      intro m
      induction m with
      | zero => exact rfl
      | succ m ih => exact ⟨none, _, rfl, (fun s e => nomatch e), ih⟩
    exact this m
  | x :: xs, _, m, ⟨v, r, e, q, t⟩ => by
    subst e
    refine ⟨some v, _, rfl, fun s es => ⟨v, rfl, ?_⟩, start_rsl m t⟩
    cases es
    cases x with
    | d d => exact q
    | loc u i =>
      obtain ⟨a, ha, ev⟩ := q
      refine ⟨a, ?_, ev⟩
      cases u with
      | zero => exact ha
      | succ u => exact ha
theorem pop_rel {w w' : W} {S1 S' : St} {H : Hp} (l : (⟨w.F, [], w.own :: w.out, w.gl, w.ex⟩ : W).le w') (r : Rel K w' S1 H) (h : popS S1 = some S') :
    w.le ⟨w'.F, w.own, w.out, w'.gl, w'.ex⟩ ∧ Rel K ⟨w'.F, w.own, w.out, w'.gl, w'.ex⟩ S' H ∧ (∀ a, a ∈ (⟨w'.F, w.own, w.out, w'.gl, w'.ex⟩ : W).all → a ∈ w'.all) ∧ (∀ a ∈ w'.own, a ∉ (⟨w'.F, w.own, w.out, w'.gl, w'.ex⟩ : W).all) := by
  have ho : w'.out = w.own :: w.out := l.out
  have rout := r.out
  rw [ho] at rout
  have nd := r.nd
  have hall : w'.all = w'.own ++ (⟨w'.F, w.own, w.out, w'.gl, w'.ex⟩ : W).all := by
    unfold W.all
    rw [ho, List.flatten_cons]
    simp [List.append_assoc]
  unfold popS at h
  split at h
  · rename_i lo ro eo
    cases h
    rw [eo] at rout
    obtain ⟨a, rr, e, q, t⟩ := rout
    cases e
    refine ⟨⟨l.F, pre.refl _, rfl, l.gl, l.ex⟩, ⟨r.sub, q, t, r.gl, r.ex, ?_⟩, fun a ha => by rw [hall]; exact List.mem_append_right _ ha, fun a ha hb => ?_⟩
    · rw [hall, List.nodup_append] at nd
      exact nd.2.1
    · rw [hall, List.nodup_append] at nd
      exact nd.2.2 a ha a hb rfl
  · cases h
theorem leave_rel {w w' : W} {S1 S' : St} {H : Hp} {r r' : RV} {v : V} (l : (⟨w.F, [], w.own :: w.out, w.gl, w.ex⟩ : W).le w') (hr : Rel K w' S1 H) (q : RRV K w' H r v) (h : leave S1 r = .ok r' S') :
    w.le ⟨w'.F, w.own, w.out, w'.gl, w'.ex⟩ ∧ Rel K ⟨w'.F, w.own, w.out, w'.gl, w'.ex⟩ S' H ∧ RRV K ⟨w'.F, w.own, w.out, w'.gl, w'.ex⟩ H r' v := by
  unfold leave at h
  cases hp : popS S1 with
  | none => rw [hp] at h; cases h
  | some S2 =>
    rw [hp] at h
    obtain ⟨l2, r2, sb, dis⟩ := pop_rel l hr hp
    cases r with
    | d d => cases h; exact ⟨l2, r2, q⟩
    | new c =>
      cases h
      refine ⟨l2, r2, ?_⟩
      cases c with
      | lst ds =>
        obtain ⟨a, vs, e, hv, hd, hF, ha⟩ := q
        exact ⟨a, vs, e, hv, hd, hF, fun z => ha (sb a z)⟩
      | dic _ => exact q
      | ins _ _ => exact q
    | loc u i =>
      cases u with
      | succ u =>
        cases h
        refine ⟨l2, r2, ?_⟩
        obtain ⟨a, ha, e⟩ := q
        refine ⟨a, ?_, e⟩
        have ho : w'.out = w.own :: w.out := l.out
        have ha : (match w'.out[u]? with
          | some l => l[i]?
          | none => none) = some a := ha
        rw [ho] at ha
        cases u with
        | zero => exact ha
        | succ u => exact ha
      | zero =>
        have h : (match S1.own[i]? with
          | some ⟨false, c⟩ => (.ok (.new c) S2 : Res RV)
          | some ⟨true, c⟩ => .ok (.d c.dat) S2
          | none => .bad) = .ok r' S' := h
        obtain ⟨a, ha, e⟩ := q
        split at h
        · rename_i c hg
          cases h
          obtain ⟨b, hb, ro⟩ := hr.own.get K hg
          have ha : w'.own[i]? = some a := ha
          rw [ha] at hb; cases hb
          refine ⟨l2, r2, ?_⟩
          cases c with
          | lst ds =>
            obtain ⟨n, vs, hv, hd⟩ := ro
            exact ⟨a, vs, e, hv, hd, n, dis a (List.mem_of_getElem? ha)⟩
          | dic _ => exact ro.elim
          | ins _ _ => exact ro.elim
        · rename_i c hg
          cases h
          obtain ⟨b, hb, ro⟩ := hr.own.get K hg
          have ha : w'.own[i]? = some a := ha
          rw [ha] at hb; cases hb
          refine ⟨l2, r2, ?_⟩
          cases c with
          | lst ds =>
            obtain ⟨vs, hv, hd⟩ := ro
            exact ⟨a, vs, e, hv, hd⟩
          | dic _ => exact ro.elim
          | ins _ _ => exact ro.elim
        · cases h
/-- a def runs -/
theorem run_fd {C : Nat → List SV → M RV} {F : FD} {N : List Str} {w : W} {S : St} {svs : List SV} {vs : List V} {H : Hp} {Q : VK} (hN : N.length = F.ns) (hr : Rel K w S H) (q : RSVs K w svs vs) (p : Post K w Q (runF C F svs S)) :
    tS K (evS C F.body) { nx := fun _ H' => Q .non H', rt := Q } (L2.start N vs) H := by
  unfold runF at p
  split at p
  · rename_i hl
    refine ⟨⟨w.F, [], w.own :: w.out, w.gl, w.ex⟩, (svs.map fun v => some (shift v)) ++ List.replicate (F.ns - F.np) none, ⟨[], S.own :: S.out, S.gl⟩, ?_, ?_, ?_⟩
    · refine ⟨hr.sub, rfl, ⟨w.own, w.out, rfl, hr.own, hr.out⟩, hr.gl, hr.ex, ?_⟩
      have nd := hr.nd
      unfold W.all at nd ⊢
      show (([] : List Addr) ++ (w.own :: w.out).flatten ++ w.gl ++ w.ex.map (fun p => p.1)).Nodup
      rw [List.nil_append, List.flatten_cons]
      exact nd
    · unfold L2.start
      rw [hN, q.len, hl]
      exact start_rsl _ q
    · split at p
      · rename_i r S1 e
        rw [e]
        cases hlv : leave S1 r with
        | ok r' S' =>
          rw [hlv] at p
          intro w' H' v l r2 qv
          obtain ⟨l3, r3, q3⟩ := leave_rel l r2 qv hlv
          exact p _ H' v l3 r3 q3
        | exc _ _ => rw [hlv] at p; exact p.elim
        | bad => rw [hlv] at p; exact p.elim
      · rename_i ρ1 S1 e
        rw [e]
        cases hlv : leave S1 (.d .non) with
        | ok r' S' =>
          rw [hlv] at p
          intro w' σ' H' l r2 _
          obtain ⟨l3, r3, q3⟩ := leave_rel (r := .d .non) (v := .non) l r2 (show V.non = V.non from rfl) hlv
          exact p _ H' .non l3 r3 q3
        | exc _ _ => rw [hlv] at p; exact p.elim
        | bad => rw [hlv] at p; exact p.elim
      · exact p.elim
      · split at p
        · exact p.elim
        · exact p.elim
      · exact p.elim
  · exact p.elim
theorem runF_len {C : Nat → List SV → M RV} {F : FD} {svs : List SV} {S S' : St} {r : RV} (h : runF C F svs S = .ok r S') : svs.length = F.np := by
  unfold runF at h
  split at h
  · assumption
  · cases h
end
end U

/-! USnd14: dicts with written keys; len(set(..)); raise as a stop. -/
namespace U
open PySem PySem.Spec PyProof.Rows L2
section
variable {K : PySem.W.Frag} {X : Cx} {o e f : Expr} {p0 p1 apos pos : Pos}
/-! ### the display -/
def trsOf (K : PySem.W.Frag) (C : Nat → List SV → M RV) : List Str → DE → List (TE × TE)
  | k :: ks, .cons a r => (tC (.str k), tE K (evE C a)) :: trsOf K C ks r
  | _, _ => []
theorem PostK.ok {w : W} {Q : List V → Hp → Prop} {r : Res (List D)} (h : PostK K w Q r) : ∃ v S, r = .ok v S := by
  cases r with
  | ok v S => exact ⟨v, S, rfl⟩
  | exc _ _ => exact h.elim
  | bad => exact h.elim
theorem pairs_ev {C : Nat → List SV → M RV} {ρ : Env} {σ : L2.St} {S' : St} : ∀ (ks : List Str) (vs : DE) (ds : List D) (w : W) (S : St) (H : Hp) (R : List (V × V) → Hp → Prop), ks.length = ds.length → Rel K w S H → RSl K w ρ σ → evK C vs ρ S = .ok ds S' →
    (∀ w' H' us, w.le w' → Rel K w' S' H' → RDs K w'.F w'.gl ds us → R ((ks.map V.str).zip us) H') → tPairs (trsOf K C ks vs) σ H R
  | [], vs, ds, w, S, H, R, hl, hr, sl, he, h => by
    cases ds with
    | cons _ _ => simp at hl
    | nil =>
      have : S = S' := by
        cases vs with
        | nil => cases he; rfl
        | cons a r =>
          exfalso
          have he : M.bind (evE C a ρ) (fun x => M.bind (keep x) fun d => M.bind (evK C r ρ) fun ds => M.ret (d :: ds)) S = .ok [] S' := he
          obtain ⟨x, S1, _, he⟩ := bind_ok he
          obtain ⟨d, S2, _, he⟩ := bind_ok he
          obtain ⟨ds, S3, _, he⟩ := bind_ok he
          cases he
        | _ => cases he
      subst this
      exact h w H [] (.refl w) hr rfl
  | k :: ks, vs, ds, w, S, H, R, hl, hr, sl, he, h => by
    cases vs with
    | cons a r =>
      have he : M.bind (evE C a ρ) (fun x => M.bind (keep x) fun d => M.bind (evK C r ρ) fun ds => M.ret (d :: ds)) S = .ok ds S' := he
      obtain ⟨x, S1, ex, he⟩ := bind_ok he
      obtain ⟨d, S2, ed, he⟩ := bind_ok he
      obtain ⟨ds', S3, eds, he⟩ := bind_ok he
      cases he
      show tC (.str k) σ H fun x H1 => tE K (evE C a) σ H1 fun y H2 => tPairs (trsOf K C ks r) σ H2 fun ps H3 => R ((x, y) :: ps) H3
      refine one hr sl ex fun w1 H1 v l1 r1 q1 => ?_
      obtain ⟨w2, l2, r2, _, q2⟩ := r1.kept K q1 ed
      refine pairs_ev ks r ds' w2 S2 H1 _ (by simpa using hl) r2 (sl.mono K (l1.trans l2)) eds fun w3 H3 us l3 r3 q3 => ?_
      exact h w3 H3 (v :: us) ((l1.trans l2).trans l3) r3 ⟨v, us, rfl, RD.mono K l3.F l3.gl d q2, q3⟩
    | nil => cases he; simp at hl
    | _ => cases he
theorem zip_kvs : ∀ (ks : List Str) (us : List V), (ks.map V.str).zip us = ((ks.zip us).map fun p => ((.inr p.1 : Key), p.2)).map fun kv => (kV kv.1, kv.2)
  | [], us => by simp
  | k :: ks, [] => by simp
  | k :: ks, u :: us => by
    have := zip_kvs ks us
    simp only [List.map_cons, List.zip_cons_cons, this]
    rfl
theorem merge_nodup : ∀ (more kvs : List (Key × V)), (∀ k ∈ more.map (·.1), valV kvs k = none) → (more.map (·.1)).Nodup → mergeK kvs more = kvs ++ more
  | [], kvs, _, _ => by unfold mergeK; simp
  | (k, v) :: more, kvs, h, nd => by
    rw [List.map_cons, List.nodup_cons] at nd
    unfold mergeK
    rw [List.foldl_cons]
    have e : putK kvs k v = kvs ++ [(k, v)] := putK_new v (h k (by simp))
    rw [e]
    have ih := merge_nodup more (kvs ++ [(k, v)]) (fun j hj => by
      have hne : ¬ j = k := fun z => nd.1 (by rw [← z]; exact hj)
      rw [valV_snoc k j v kvs (h k (by simp)), if_neg hne]
      exact h j (by rw [List.map_cons]; exact List.mem_cons_of_mem _ hj)) nd.2
    unfold mergeK at ih
    rw [ih, List.append_assoc]
    rfl
theorem RDk.of {F : Hp} {g : List Addr} : ∀ {ks : List Str} {ds : List D} {us : List V}, ks.length = ds.length → RDs K F g ds us → RDk K F g (zipK ks ds) ((ks.zip us).map fun p => ((.inr p.1 : Key), p.2))
  | [], ds, us, _, _ => by unfold zipK; exact rfl
  | k :: ks, [], us, h, _ => by simp at h
  | k :: ks, d :: ds, _, h, ⟨v, r, e, q, t⟩ => by
    subst e
    exact ⟨_, v, _, rfl, rfl, q, RDk.of (by simpa using h) t⟩
def disF (ks : List Str) (fe : Env → M (List D)) : Env → M RV := fun ρ => M.bind (fe ρ) fun ds => fun S => if disOk ks ds = true then .ok (.d (.dic (zipK ks ds))) S else .bad
theorem se_dis {C : Nat → List SV → M RV} {ks : List Str} {vs : DE} {keys : List (Option Expr)} {es : List Expr} (hK : X.K = K) (h : PPs X pos keys es (trsOf K C ks vs)) (hall : keys.all (·.isSome) = true) (hl : keys.length = es.length) (hk : keys.length = ks.length) :
    PE X (.Dict keys es pos) (tE K (disF ks (evK C vs))) := by
  subst hK
  refine ⟨fun pins s σ H Q I hh => ?_⟩
  obtain ⟨w, ρ, S, hr, sl, p⟩ := hh
  unfold disF at p
  obtain ⟨ds, S1, ed, p⟩ := p.bind
  split at p
  · rename_i hok
    unfold disOk at hok
    simp only [Bool.and_eq_true, decide_eq_true_eq] at hok
    obtain ⟨h1, h2, h3, h4⟩ := hok
    refine (pe_disp h hall hl (fun z => by subst z; simp at hk; omega) (by omega)).run pins s σ H Q I fun q hq => ?_
    have hn := hr.notF X.K hq
    have r0 := hr.new X.K (o := .dK []) hq
    have r1 := r0.extake X.K (p := q) (o := .dK []) upd_same hn.1 hn.2
    have le0 : ∀ w', ({ w with ex := (q, .dK []) :: w.ex } : W).le w' → w'.ex = (q, .dK []) :: w.ex := fun w' l => l.ex
    refine pairs_ev ks vs ds { w with ex := (q, .dK []) :: w.ex } S (upd H q (.dK [])) _ h2 r1 ?_ ed fun w' H' us l r' q' => ?_
    · have lx : w.lex ({ w with ex := (q, .dK []) :: w.ex } : W) := ⟨sub.refl _, pre.refl _, rfl, pre.refl _⟩
      exact RSl.lexm X.K lx sl
    · have hex := le0 w' l
      obtain ⟨rd, hD, hF, hnD⟩ := r'.exdrop X.K hex
      refine ⟨hD, (ks.zip us).map fun p => ((.inr p.1 : Key), p.2), zip_kvs ks us, ?_, ?_⟩
      · rw [List.length_map, List.length_zip]; omega
      · have hm : ((ks.zip us).map fun p => ((.inr p.1 : Key), p.2)).map (·.1) = ks.map Sum.inr := by
          rw [List.map_map]
          have : us.length = ks.length := by rw [RDs.len X.K q', h2]
          have e2 : (ks.zip us).map Prod.fst = ks := List.map_fst_zip (by omega)
          calc _ = ((ks.zip us).map Prod.fst).map (Sum.inr : Str → Key) := by rw [List.map_map]; rfl
            _ = _ := by rw [e2]
        rw [merge_nodup _ [] (fun k _ => rfl) (by
          rw [hm]
          exact List.Pairwise.map _ (fun a b hab z => hab (Sum.inr.inj z)) h1), List.nil_append]
        have r2 := r'.exset X.K (o' := .dK ((ks.zip us).map fun p => ((.inr p.1 : Key), p.2))) hex
        obtain ⟨rd2, hD2, hF2, hnD2⟩ := r2.exdrop X.K rfl
        obtain ⟨r3, l3⟩ := rd2.froze X.K hD2 hF2 hnD2
        refine p _ _ _ ?_ r3 ⟨q, _, rfl, upd_same, RDk.mono X.K l3.F l3.gl _ (RDk.of (K := X.K) h2 q')⟩
        exact ⟨l.F.trans l3.F, l.own.trans l3.own, l3.out.trans l.out, l.gl.trans l3.gl, l3.ex⟩
  · exact p.elim
/-! ### get, with a default -/
theorem look_val {F : Hp} {g : List Addr} {s : Str} : ∀ {kvs : List (D × D)} {us : List (Key × V)}, RDk K F g kvs us →
    (lookS s kvs = none ∧ valV us (.inr s) = none) ∨ ∃ d v, lookS s kvs = some d ∧ valV us (.inr s) = some v ∧ RD K F g d v
  | [], us, h => by rw [show us = [] from h]; exact .inl ⟨rfl, rfl⟩
  | (k, d) :: r, _, ⟨key, v, us', e, hk, q, t⟩ => by
    subst e
    cases k with
    | str x =>
      have hk : key = .inr x := hk
      subst hk
      unfold lookS
      by_cases hx : x = s
      · rw [if_pos hx]
        subst hx
        exact .inr ⟨d, v, rfl, valV_pos rfl, q⟩
      · rw [if_neg hx, valV_neg (fun z => hx (Sum.inr.inj z))]
        exact look_val t
    | int i =>
      have hk : key = .inl i := hk
      subst hk
      show (lookS s r = none ∧ _) ∨ ∃ d' v', lookS s r = some d' ∧ _
      rw [valV_neg (fun z => by cases z)]
      exact look_val t
    | _ => exact False.elim hk
theorem dgt_c {x y : RV} {dz : D} {rv : RV} (h : dgtV x y dz = some rv) : ∃ kvs key, x = .d (.dic kvs) ∧ y = .d (.str key) ∧ rv = .d ((lookS key kvs).getD dz) := by
  unfold dgtV at h
  split at h
  · cases h; exact ⟨_, _, rfl, rfl, rfl⟩
  · cases h
def dgtF (fo fk fd : Env → M RV) : Env → M RV := fun ρ => M.bind (fo ρ) fun x => fun S1 => if isDic x = true then M.bind (fk ρ) (fun y => M.bind (fd ρ) fun z => M.bind (keep z) fun dz => M.opt (dgtV x y dz)) S1 else .bad
theorem m2_of {env : PySem.Env} (he : okHead e = true) (hf : okHead f = true) : backTo pos (starEach [e, f] env) = [(false, eval e env), (false, eval f env)] ∨ True := .inr trivial
theorem se_dgt {fo fk fd : Env → M RV} (hK : X.K = K) (hu : X.A.units + 1 < cLine) (ho : PE X o (tE K fo)) (hk : PE X e (tE K fk)) (hd : PE X f (tE K fd)) (m : L2.M2 X o "get" apos e f pos) :
    PE X (.Call (.Attribute o "get" apos) [e, f] [] pos) (tE K (dgtF fo fk fd)) := by
  subst hK
  refine ⟨fun pins s σ H Q I hh => ?_⟩
  obtain ⟨w, ρ, S, hr, sl, p⟩ := hh
  unfold dgtF at p
  obtain ⟨x, S1, ex, p⟩ := p.bind
  split at p
  · rename_i hx
    obtain ⟨y, S2, ey, p⟩ := p.bind
    obtain ⟨z, S3, ez, p⟩ := p.bind
    obtain ⟨dz, S4, edz, p⟩ := p.bind
    unfold M.opt at p
    split at p
    · rename_i rv hv
      obtain ⟨kvs, key, rfl, rfl, rfl⟩ := dgt_c hv
      · refine (pe_dget2 hu ho hk hd m).run pins s σ H Q I ?_
        refine one hr sl ex fun w1 H1 v1 l1 r1 q1 => ?_
        obtain ⟨a, us, rfl, hFa, hu'⟩ := q1
        refine ⟨a, rfl, .inl ⟨us, .inl (r1.sub _ _ hFa)⟩, ?_⟩
        refine one r1 (sl.mono X.K l1) ey fun w2 H2 v2 l2 r2 q2 => ?_
        refine one r2 (sl.mono X.K (l1.trans l2)) ez fun w3 H3 v3 l3 r3 q3 => ?_
        obtain ⟨w4, l4, r4, _, q4⟩ := r3.kept X.K q3 edz
        have hq2 : v2 = .str key := q2
        subst hq2
        refine ⟨valV us (.inr key), DGet.k (k := .inr key) (r3.sub _ _ (l3.F _ _ (l2.F _ _ hFa))), ?_⟩
        have lA : w.le w4 := ((l1.trans l2).trans l3).trans l4
        have lB : w1.le w4 := (l2.trans l3).trans l4
        rcases look_val (K := X.K) (s := key) (RDk.mono X.K lB.F lB.gl kvs hu') with ⟨h1, h2⟩ | ⟨d, v, h1, h2, h3⟩
        · rw [h2]
          rw [h1] at p
          exact p w4 H3 _ lA r4 q4
        · rw [h2]
          rw [h1] at p
          exact p w4 H3 _ lA r4 h3
    · exact p.elim
  · exact p.elim
/-! ### len(set(..)) -/
def lensF (fa : Env → M RV) : Env → M RV := fun ρ => M.bind (fa ρ) fun x => fun S => match view S x with
  | some d => M.opt (lensV d) S
  | none => .bad
theorem se_lens {fa : Env → M RV} {p2 q0 : Pos} (hK : X.K = K) (hc : X.calm = true) (hg : Gl X "len") (hm : X.mg "len" = none) (hg2 : Gl X "set") (hm2 : X.mg "set" = none) (ha : PE X e (tE K fa)) (ho : okHead e = true) :
    PE X (.Call (.Name "len" p0) [.Call (.Name "set" p2) [e] [] q0] [] pos) (tE K (lensF fa)) := by
  subst hK
  refine ⟨fun pins s σ H Q I h => ?_⟩
  obtain ⟨w, ρ, S, hr, sl, p⟩ := h
  unfold lensF at p
  obtain ⟨x, S1, ex, p⟩ := p.bind
  split at p
  · rename_i d vd
    unfold M.opt at p
    split at p
    · rename_i rv hv
      unfold lensV at hv
      split at hv
      · rename_i ds
        split at hv
        · rename_i ns hi
          split at hv
          · rename_i hn
            have hn := of_decide_eq_true hn
            cases hv
            refine Call_ (ld_blt I hg hm PySem.boot_len ?_)
            refine PyProof.Rows.callWith_builtin1 (PyProof.Rows.args_cons ?_ rfl) rfl rfl
            refine Call_ (ld_blt I hg2 hm2 PyProof.Rows.boot_set ?_)
            refine PyProof.Rows.callWith_type1 (PyProof.Rows.args_cons (thn (ha.run pins s σ H (fun v H1 => ∃ a, v = .ref a ∧ H1 a = some (.lst (ns.map V.int)) ∧ ∀ j : Nat, j = (firstMet (fun i => ns.getD i 0) ns.length).length → Q (.int j) H1) I (one hr sl ex fun w1 H1 v l r q => ?_)) fun v s1 ⟨x, H1, I1, r1, a, ea, ha1, q1⟩ => PyProof.Rows.args_nil ?_) (star_cons ho)) (star_cons ho) rfl
            · obtain ⟨a, vs, rfl, hva, hd⟩ := r.view X.K q vd
              refine ⟨a, rfl, by rw [← RDs.ints X.K hi hd]; exact hva, fun j hj => ?_⟩
              rw [hj]
              exact p w1 H1 _ l r rfl
            · subst ea
              cases r1
              obtain ⟨its, r, pl, hz⟩ := I1.list (SqL.of (K := X.K) ha1)
              have hl : its.toArray.size = ns.length := by rw [List.size_toArray, ← r.length, List.length_map]
              refine call_set_list (I1.ok.hd hc) pl.isList (ns := ns) (by simpa using r.ints) (by rw [hl]; unfold scanBound; omega) fun h' tk hS hk => ?_
              rw [hl] at hS
              refine PyProof.Rows.args_nil ?_
              obtain ⟨o, es, ep, t, ho', hex, hd, _, _, _, hf, hn'⟩ := hS
              have I2 : Inv X pins σ H1 { s1 with heap := h', toks := tk } := I1.kept fun b o e => hk b o (Heap.lt_size e) e
              have hle := firstMet_length_le (fun i => ns.getD i 0) ns.length
              refine call_len_set ho' hex hd hf (by rw [hn'] <;> omega) ⟨.int (firstMet (fun i => ns.getD i 0) ns.length).length, H1, I2.tok _, ⟨_, by rw [hn']⟩, q1 _ rfl⟩
          · cases hv
        · cases hv
      · cases hv
    · exact p.elim
  · exact p.elim
end
end U

/-! UComp: from the model's syntax to the trees. -/
namespace U
open PySem PySem.Spec PyProof.Rows L2

structure CI where
  N : List Str
  fns : List (Str × Nat)
  kon : List (Str × D)
  mu : List Str
  blt : List Str
def slotOf : List Str → Str → Option Nat
  | [], _ => none
  | y :: r, x => if y = x then some 0 else (slotOf r x).map (· + 1)
def visB (sc : Scope) (x : Str) : Bool := match sc.names.lookup x with
  | some .local => true
  | some .cell => true
  | some .free => true
  | _ => false
def globB (sc : Scope) (x : Str) : Bool := match sc.names.lookup x with
  | some .globalImplicit => true
  | _ => false
def opOf : Operator → Option BOp
  | .Add => some .add | .Sub => some .sub | .Mult => some .mul | .Mod => some .mod | .FloorDiv => some .fdiv | .Pow => some .pow
  | _ => none
def copOf : CmpOp → Option COp
  | .Eq => some .eq | .NotEq => some .ne | .Lt => some .lt | .LtE => some .le | .Gt => some .gt | .GtE => some .ge | .Is => some .isN | .IsNot => some .notN | .In => some .in_ | .NotIn => some .notIn
def b1Of (x : Str) : Option B1 :=
  if x = "int" then some .int else if x = "len" then some .len else if x = "tuple" then some .tuple else if x = "list" then some .list else if x = "sum" then some .sum else if x = "repr" then some .repr
  else if x = "str" then some .str else if x = "max" then some .max else if x = "min" then some .min else if x = "sorted" then some .sorted else none
def b2Of (x : Str) : Option B1 := if x = "max" then some .max else if x = "min" then some .min else none
def m1Of (x : Str) : Option M1 := if x = "append" then some .append else if x = "extend" then some .extend else if x = "pop" then some .popAt else if x = "join" then some .join else if x = "index" then some .index else none
def isMinus1 : Expr → Bool
  | .UnaryOp .USub (.Constant (.int 1) _ _) _ => true
  | _ => false
/-- a list of expressions -/
def compArgs (f : Expr → Option DE) : List Expr → Option DE
  | [] => some .nil
  | e :: es => if okHead e then (f e).bind fun d => (compArgs f es).map fun r => .cons d r else none
def compPart (f : Expr → Option DE) : Option Expr → Option DE
  | none => some .nil
  | some e => (f e).map fun d => .cons d .nil
def compBool (f : Expr → Option DE) (op : PySem.BoolOp) : List Expr → Option DE
  | [] => none
  | [e] => f e
  | e :: es => (f e).bind fun d => (compBool f op es).map fun r => match op with
    | .And => .and d r
    | .Or => .or d r
/-- a target: its slots -/
def compTg (I : CI) (ok : Str → Bool) : Expr → Option Tg
  | .Name x _ => if ok x then (slotOf I.N x).map .one else none
  | .Tuple es _ _ => (es.mapM fun (e : Expr) => match e with
      | .Name x _ => if ok x then slotOf I.N x else none
      | _ => none).map .many
  | _ => none
def bltOk (I : CI) (sc : Scope) (x : Str) : Bool := I.blt.contains x && globB sc x
def locB (sc : Scope) (x : Str) : Bool := match sc.names.lookup x with
  | some .local => true
  | some .cell => true
  | _ => false
def ownOf (I : CI) : Tg → List (Str × Nat)
  | tg => tg.sl.filterMap fun i => (I.N[i]?).map fun x => (x, i)
def compWalk (I : CI) (f : Expr → Option DE) (sc : Scope) (it : Expr) : Option DE :=
  match it with
  | .Call (.Name x _) [a] [] _ =>
    if x = "range" ∧ bltOk I sc x then (if okHead a then (f a).map fun d => .wk .rng1 d .nil else none)
    else if x = "reversed" ∧ bltOk I sc x then (if okHead a then (f a).map fun d => .wk .rev d .nil else none)
    else (f it).map fun d => .wk .seq d .nil
  | .Call (.Name x _) [a, b] [] _ =>
    if x = "range" ∧ bltOk I sc x then (if okHead a && okHead b then (f a).bind fun d => (f b).map fun e => .wk .rng2 d e else none)
    else (f it).map fun d => .wk .seq d .nil
  | .Call (.Name x _) [a, b, c] [] _ =>
    if x = "range" ∧ bltOk I sc x then (if okHead a && okHead b && isMinus1 c then (f a).bind fun d => (f b).map fun e => .wk .rngD d e else none)
    else (f it).map fun d => .wk .seq d .nil
  | it => (f it).map fun d => .wk .seq d .nil
def noSet : Expr → Bool
  | .Set _ _ _ => false
  | _ => true
/-- range(a, b) as the only argument -/
def rangeArgs (I : CI) (sc : Scope) (x : Str) : List Expr → Option (Expr × Expr)
  | [.Call (.Name y _) [a, b] [] _] => if y = "range" ∧ bltOk I sc y ∧ okHead a ∧ okHead b ∧ (x = "tuple" ∨ x = "list") then some (a, b) else none
  | _ => none
/-- written keys -/
def keyStrs : List (Option Expr) → Option (List Str)
  | [] => some []
  | some (.Constant (.str s) _ _) :: r => (keyStrs r).map (s :: ·)
  | _ => none
/-- len(set(a)) -/
def setArg (I : CI) (sc : Scope) (x : Str) : List Expr → Option Expr
  | [.Call (.Name y _) [a] [] _] => if y = "set" ∧ bltOk I sc y ∧ okHead a ∧ x = "len" then some a else none
  | _ => none
def compE (I : CI) : Nat → Scope → Expr → Option DE
  | 0, _, _ => none
  | n + 1, sc, e => match e with
    | .Name x _ => if x = "__debug__" ∨ x = "__classdict__" then none else if visB sc x then (slotOf I.N x).map .var else if globB sc x then (I.kon.lookup x).map .con else none
    | .Constant (.int i) _ _ => some (.con (.int i))
    | .Constant (.bool b) _ _ => some (.con (.bl b))
    | .Constant .none _ _ => some (.con .non)
    | .Constant (.str s) _ _ => some (.con (.str s))
    | .Tuple es _ _ => (compArgs (compE I n sc) es).map .tup
    | .List es _ => (compArgs (compE I n sc) es).map .lst
    | .BinOp a op b _ => (opOf op).bind fun o => (compE I n sc a).bind fun x => (compE I n sc b).map fun y => .bin o x y
    | .UnaryOp .USub a _ => (compE I n sc a).map .neg
    | .UnaryOp .Not a _ => (compE I n sc a).map .not
    | .BoolOp op vs _ => compBool (compE I n sc) op vs
    | .Compare a [op] [b] _ => if behindInMarks op b then none else (copOf op).bind fun o => (compE I n sc a).bind fun x => (compE I n sc b).map fun y => .cmp o x y
    | .Compare a [op, op2] [b, c] _ => if lastMarks [op, op2] [b, c] then none else (copOf op).bind fun o => (copOf op2).bind fun o2 => (compE I n sc a).bind fun x => (compE I n sc b).bind fun y => (compE I n sc c).map fun z => .chain o o2 x y z
    | .IfExp t a b _ => (compE I n sc t).bind fun x => (compE I n sc a).bind fun y => (compE I n sc b).map fun z => .ife x y z
    | .Subscript a (.Slice lo hi none _) _ => (compE I n sc a).bind fun x => (compPart (compE I n sc) lo).bind fun y => (compPart (compE I n sc) hi).map fun z => .sl x y z
    | .Subscript a i _ => if okHead i then (compE I n sc a).bind fun x => (compE I n sc i).map fun y => .ix x y else none
    | .ListComp elt [⟨tg, iter, ifs, 0⟩] scope _ =>
      if okHead iter && noSet iter then
        (compTg I (locB scope) tg).bind fun t => if blkC I.N sc scope (ownOf I t) && decide ((ownOf I t).map (·.2) = t.sl) then
          (compWalk I (compE I n sc) sc iter).bind fun w => (compE I n (relS scope sc) elt).bind fun d =>
            match ifs with
            | [] => some (.lc d t w (.con (.bl true)) t.sl)
            | [c] => (compE I n (relS scope sc) c).map fun c' => .lc d t w c' t.sl
            | _ => none
          else none
      else none
    | .Call (.Name x _) args [] _ =>
      if x = "__debug__" then none else if !globB sc x then none else
      match I.fns.lookup x with
      | some f => if args.isEmpty then none else (compArgs (compE I n sc) args).map fun as => .call f as
      | none => if !I.blt.contains x then none else match rangeArgs I sc x args with
        | some (a, b) => (compE I n sc a).bind fun d => (compE I n sc b).map fun e => .trng (decide (x = "list")) d e
        | none => match setArg I sc x args with
        | some a => (compE I n sc a).map .lens
        | none => match args with
          | [a] => if okHead a then (b1Of x).bind fun b1 => (compE I n sc a).map fun d => .b1 b1 d else none
          | [a, b] => if okHead a && okHead b then (b2Of x).bind fun b1 => (compE I n sc a).bind fun d => (compE I n sc b).map fun e => .b2 b1 d e else none
          | _ => none
    | .Dict keys vals _ => (keyStrs keys).bind fun ks => if decide (keys.length = vals.length) then (compArgs (compE I n sc) vals).map fun as => .dis ks as else none
    | .Call (.Attribute o m apos) [a, b] [] pos => if okHead o && okHead a && okHead b && (apos.endLine == pos.line) && decide (m = "get") then (compE I n sc o).bind fun d => (compE I n sc a).bind fun e => (compE I n sc b).map fun f => .dgt d e f else none
    | .Call (.Attribute o m apos) [a] [] pos => if okHead o && okHead a && (apos.endLine == pos.line) then (m1Of m).bind fun m1 => (compE I n sc o).bind fun d => (compE I n sc a).map fun e => .m1 m1 d e else none
    | _ => none

/-- x = [..] on one line of a def: stored within the comprehension's frame -/
def swapB (sc : Scope) (x : Str) (px : Pos) (scope : Scope) (lpos : Pos) : Bool :=
  (match sc.names.lookup x with
    | some .local => true
    | _ => false) && (px.line == lpos.line) && !(scope.names.any fun (n, k) => n == x && (k == .local || k == .cell))
def isLc : Expr → Bool
  | .ListComp _ _ _ _ => true
  | .SetComp _ _ _ _ => true
  | .DictComp _ _ _ _ _ => true
  | _ => false
def isTupE : Expr → Bool
  | .Tuple _ _ _ => true
  | _ => false
def compB (f : Stmt → Option DS) : List Stmt → Option DS
  | [] => some .skip
  | [s] => f s
  | s :: ss => (f s).bind fun a => (compB f ss).map fun b => .seq a b
def compS (I : CI) (sc : Scope) : Nat → Stmt → Option DS
  | 0, _ => none
  | n + 1, st => match st with
    | .Expr e _ => if isLc e then none else (compE I n sc e).map .expr
    | .Assign [.Name x px] e _ => if locB sc x then (slotOf I.N x).bind fun i => (compE I n sc e).map fun d => .set i (I.mu.contains x) d else none
    | .Assign [.Tuple ts k p] e _ => if isLc e || isTupE e then none else (compTg I (locB sc) (.Tuple ts k p)).bind fun t => (compE I n sc e).map fun d => .unp t.sl d
    | .Assign [.Subscript o i _] e _ => if isLc e then none else if okHead i then (compE I n sc o).bind fun o' => (compE I n sc i).bind fun i' => (compE I n sc e).map fun e' => .setIx o' i' e' else none
    | .Return (some e) _ => (compE I n sc e).map .ret
    | .Return none _ => some .retN
    | .If c a b _ => (compE I n sc c).bind fun c' => (compB (compS I sc n) a).bind fun a' => (compB (compS I sc n) b).map fun b' => .ife c' a' b'
    | .For tg it body [] _ => if okHead it && noSet it then (compTg I (locB sc) tg).bind fun t => (compWalk I (compE I n sc) sc it).bind fun w => (compB (compS I sc n) body).map fun b => .for_ t w b else none
    | .While c body [] _ => (compE I n sc c).bind fun c' => (compB (compS I sc n) body).map fun b => .whl c' b
    | .Raise _ _ _ => some .rai
    | .Break _ => some .brk
    | .Continue _ => some .cont
    | _ => none
end U

namespace U
open PySem PySem.Spec PyProof.Rows L2
structure XOk (I : CI) (C : Nat → List SV → M RV) (k : Nat) (X : Cx) (sc : Scope) : Prop where
  calm : X.calm = true
  gd : X.A.guards = some []
  un : X.A.units + 65 < cLine
  N : X.N = I.N
  nd : I.N.Nodup
  sc : X.env.scope = sc
  kd : X.env.scope.kind = .function
  rm : Room k X.A
  xe : X.xe = fun _ _ => False
  fns : ∀ x f, I.fns.lookup x = some f → ∃ (fa : Addr) (fd : FuncData) (ps : List Str) (np : Nat), X.mg x = some (.ref fa) ∧ PySem.W.keepIn X.K (.ref fa) = true ∧ Binds X.K fd ps [] ∧ FnG X.prog X.w X.K X.mg X.base CX0 k fa fd ps (spC X.K C np f) ∧ ∀ vs S r S', C f vs S = .ok r S' → vs.length = np
  kon : ∀ x d, I.kon.lookup x = some d → ∃ (u : Value) (v : V), X.mg x = some u ∧ RelV v u ∧ ∀ F g, RD X.K F g d v
  blt : ∀ x, x ∈ I.blt → X.mg x = none
theorem slotOf_ok : ∀ {N : List Str} {x : Str} {i : Nat}, slotOf N x = some i → N[i]? = some x
  | y :: r, x, i, h => by
    unfold slotOf at h
    split at h
    · rename_i e
      cases h; rw [← e]; rfl
    · cases e : slotOf r x with
      | none => rw [e] at h; cases h
      | some j => rw [e] at h; cases h; show r[j]? = some x; exact slotOf_ok e
theorem vis_ok {sc : Scope} {x : Str} (h : visB sc x = true) : Vis sc x := by
  unfold visB at h
  split at h
  · exact .inl (by assumption)
  · exact .inr (.inl (by assumption))
  · exact .inr (.inr (by assumption))
  · cases h
theorem loc_ok {sc : Scope} {x : Str} (h : locB sc x = true) : Loc sc x := by
  unfold locB at h
  split at h
  · exact .inl (by assumption)
  · exact .inr (by assumption)
  · cases h
theorem glob_ok {X : Cx} {sc : Scope} (hs : X.env.scope = sc) {x : Str} (h : globB sc x = true) : Gl X x := by
  unfold globB at h
  split at h
  · subst hs; assumption
  · cases h
theorem op_ok {o : Operator} {op : BOp} (h : opOf o = some op) : o = oper op := by
  cases o <;> first | (cases h; rfl) | cases h
theorem cop_ok {o : CmpOp} {op : COp} (h : copOf o = some op) : o = cmpop op := by
  cases o <;> first | (cases h; rfl) | cases h
theorem b1_ok {x : Str} {b : B1} (h : b1Of x = some b) : x = bname b := by
  unfold b1Of at h
  repeat (split at h; (rename_i e; cases h; exact e))
  cases h
theorem b2_ok {x : Str} {b : B1} (h : b2Of x = some b) : x = bname b := by
  unfold b2Of at h
  repeat (split at h; (rename_i e; cases h; exact e))
  cases h
theorem m1_ok {x : Str} {m : M1} (h : m1Of x = some m) : x = mname m := by
  unfold m1Of at h
  repeat (split at h; (rename_i e; cases h; exact e))
  cases h
section
variable {I : CI} {C : Nat → List SV → M RV} {k : Nat}
def Good (X : Cx) (C : Nat → List SV → M RV) (e : Expr) (d : DE) : Prop := PE X e (tE X.K (evE C d)) ∧ PT X e (tT X.K (evE C d))
theorem args_ok {X : Cx} {f : Expr → Option DE} : ∀ {es : List Expr} {d : DE}, (∀ e ∈ es, ∀ d, f e = some d → Good X C e d) → compArgs f es = some d → PA X es (tA X.K (evA C d)) ∧ PA X es (tK X.K (evK C d)) ∧ es.all okHead = true
  | [], d, _, h => by cases h; exact ⟨sa_nil, sk_nil, rfl⟩
  | e :: es, d, hf, h => by
    unfold compArgs at h
    split at h
    · rename_i ho
      cases he : f e with
      | none => rw [he] at h; cases h
      | some d1 =>
        rw [he] at h
        cases hr : compArgs f es with
        | none => rw [hr] at h; cases h
        | some d2 =>
          rw [hr] at h
          cases h
          obtain ⟨a1, a2, a3⟩ := args_ok (fun e he => hf e (List.mem_cons_of_mem _ he)) hr
          obtain ⟨g1, _⟩ := hf e List.mem_cons_self d1 he
          exact ⟨sa_cons g1 a1 ho, sk_cons g1 a2 ho, by rw [List.all_cons, ho, a3]; rfl⟩
    · cases h
theorem part_ok {X : Cx} {f : Expr → Option DE} {o : Option Expr} {d : DE} (hf : ∀ e, o = some e → ∀ d, f e = some d → Good X C e d) (h : compPart f o = some d) : PO X o (tP X.K (evP C d)) := by
  cases o with
  | none => cases h; exact so_none
  | some e =>
    have h : (f e).map (fun d => DE.cons d .nil) = some d := h
    cases he : f e with
    | none => rw [he] at h; cases h
    | some d1 =>
      rw [he] at h
      cases h
      exact so_some (hf e rfl d1 he).1
theorem bool_ok {X : Cx} {f : Expr → Option DE} {op : PySem.BoolOp} {pos : Pos} : ∀ {es : List Expr} {d : DE}, (∀ e ∈ es, ∀ d, f e = some d → Good X C e d) → compBool f op es = some d → PE X (.BoolOp op es pos) (tE X.K (evE C d)) ∧ PW X (.BoolOp op es pos) (tT X.K (evE C d))
  | [], d, _, h => by cases h
  | [e], d, hf, h => by
    obtain ⟨g1, g2⟩ := hf e List.mem_cons_self d h
    refine ⟨se_one g1, ?_⟩
    cases op with
    | And => exact pw_and1 g2
    | Or => exact pw_or1 g2
  | e :: e2 :: es, d, hf, h => by
    unfold compBool at h
    cases he : f e with
    | none => rw [he] at h; cases h
    | some d1 =>
      rw [he] at h
      cases hr : compBool f op (e2 :: es) with
      | none => rw [hr] at h; cases h
      | some d2 =>
        rw [hr] at h
        obtain ⟨r1, r2⟩ := bool_ok (pos := pos) (fun e he => hf e (List.mem_cons_of_mem _ he)) hr
        obtain ⟨g1, g2⟩ := hf e List.mem_cons_self d1 he
        cases op with
        | And => cases h; exact ⟨se_and g1 r1, sw_and g2 r2⟩
        | Or => cases h; exact ⟨se_or g1 r1, sw_or g2 r2⟩
theorem bopt {α β : Type} {o : Option α} {f : α → Option β} {b : β} (h : o.bind f = some b) : ∃ a, o = some a ∧ f a = some b := by
  cases o with
  | none => cases h
  | some a => exact ⟨a, rfl, h⟩
theorem mopt {α β : Type} {o : Option α} {f : α → β} {b : β} (h : o.map f = some b) : ∃ a, o = some a ∧ f a = b := by
  cases o with
  | none => cases h
  | some a => cases h; exact ⟨a, rfl, rfl⟩
/-- targets -/
theorem tg_slots {ok : Str → Bool} : ∀ {es : List Expr} {is : List Nat}, (es.mapM fun (e : Expr) => match e with
      | .Name x _ => if ok x then slotOf I.N x else none
      | _ => none) = some is → es.length = is.length ∧ ∀ X : Cx, X.N = I.N → I.N.Nodup → (∀ x, ok x = true → Loc X.env.scope x ∧ (X.fn x = true ∨ X.env.scope.names.lookup x = some .local)) → PGs X es (tGs X.K is) ∧ (assignEach es X.env).length = is.length ∧ (assignEach es X.env).findIdx? (·.1) = none
  | [], is, h => by
    cases h
    exact ⟨rfl, fun X hN nd hok => ⟨sgs_nil, rfl, rfl⟩⟩
  | e :: es, is, h => by
    rw [List.mapM_cons] at h
    obtain ⟨i, hi, h⟩ := bopt h
    obtain ⟨js, hj, h⟩ := bopt h
    cases h
    obtain ⟨h1, h2⟩ := tg_slots hj
    refine ⟨by rw [List.length_cons, List.length_cons, h1], fun X hN nd hok => ?_⟩
    obtain ⟨g1, g2, g3⟩ := h2 X hN nd hok
    cases e with
    | Name x p =>
      have hi : (if ok x then slotOf I.N x else none) = some i := hi
      split at hi
      · rename_i hx
        obtain ⟨l1, l2⟩ := hok x hx
        refine ⟨sgs_cons (sg_one (by rw [hN]; exact nd) (by rw [hN]; exact slotOf_ok hi) l1 l2) g1 rfl, ?_, ?_⟩
        · show (assignEach es X.env).length + 1 = js.length + 1
          rw [g2]
        · show (((false, assign (.Name x p) X.env) :: assignEach es X.env).findIdx? (·.1)) = none
          rw [List.findIdx?_cons, g3]; rfl
      · cases hi
    | _ => cases hi
theorem tg_ok {ok : Str → Bool} {e : Expr} {t : Tg} (h : compTg I ok e = some t) {X : Cx} (hN : X.N = I.N) (nd : I.N.Nodup) (hc : X.calm = true) (hok : ∀ x, ok x = true → Loc X.env.scope x ∧ (X.fn x = true ∨ X.env.scope.names.lookup x = some .local)) : PG X e (tG X.K t) := by
  cases e with
  | Name x p =>
    have h : (if ok x then (slotOf I.N x).map Tg.one else none) = some t := h
    split at h
    · rename_i hx
      obtain ⟨i, hi, rfl⟩ := mopt h
      obtain ⟨l1, l2⟩ := hok x hx
      exact sg_one (by rw [hN]; exact nd) (by rw [hN]; exact slotOf_ok hi) l1 l2
    · cases h
  | Tuple es k p =>
    obtain ⟨is, hi, rfl⟩ := mopt h
    obtain ⟨h1, h2⟩ := tg_slots hi
    obtain ⟨g1, g2, g3⟩ := h2 X hN nd hok
    exact sg_many rfl hc g1 g2 g3
  | _ => cases h
theorem lookup_relS_local {scope sc : Scope} {x : Str} (h : scope.names.lookup x = some .local) : (relS scope sc).names.lookup x = some .local := by
  unfold relS
  dsimp only
  generalize scope.names = names at h
  induction names with
  | nil => cases h
  | cons a r ih =>
    obtain ⟨n, k⟩ := a
    rw [List.lookup_cons] at h
    rw [List.map_cons]
    by_cases hx : (x == n) = true
    · rw [hx] at h
      cases h
      have : (NameKind.local == NameKind.free) = false := by decide
      rw [if_neg (by rw [this]; simp), List.lookup_cons, hx]
    · have hx : (x == n) = false := by simpa using hx
      rw [hx] at h
      split
      · rw [List.lookup_cons, hx]; exact ih h
      · rw [List.lookup_cons, hx]; exact ih h
theorem lookup_relS_cell {scope sc : Scope} {x : Str} (h : scope.names.lookup x = some .cell) : (relS scope sc).names.lookup x = some .cell := by
  unfold relS
  dsimp only
  generalize scope.names = names at h
  induction names with
  | nil => cases h
  | cons a r ih =>
    obtain ⟨n, k⟩ := a
    rw [List.lookup_cons] at h
    rw [List.map_cons]
    by_cases hx : (x == n) = true
    · rw [hx] at h
      cases h
      have : (NameKind.cell == NameKind.free) = false := by decide
      rw [if_neg (by rw [this]; simp), List.lookup_cons, hx]
    · have hx : (x == n) = false := by simpa using hx
      rw [hx] at h
      split
      · rw [List.lookup_cons, hx]; exact ih h
      · rw [List.lookup_cons, hx]; exact ih h
/-- within a comprehension -/
theorem XOk.blk {X : Cx} {sc scope : Scope} (x : XOk I C k X sc) (hk : scope.kind = .function) (s : Shared) (H : Hp) (Ca : Addr) (cl : List (Str × Addr)) (fp : List Addr) : XOk I C k (X.blk s H scope (compEnvC scope cl Ca X.env) fp) (relS scope sc) :=
  ⟨x.calm, x.gd, x.un, x.N, x.nd, by rw [← x.sc]; rfl, hk, x.rm, rfl, x.fns, x.kon, x.blt⟩
theorem own_sub {t : Tg} (h : (ownOf I t).map (·.2) = t.sl) : ∀ i ∈ t.sl, i ∈ (ownOf I t).map (·.2) := by rw [h]; exact fun i h => h
end
end U

namespace U
open PySem PySem.Spec PyProof.Rows L2
section
variable {I : CI} {C : Nat → List SV → M RV} {k : Nat}
theorem Good.val {X : Cx} {e : Expr} {d : DE} (h : PE X e (tE X.K (evE C d))) (ht : okTest e = true) : Good X C e d := ⟨h, st_val h ht⟩
theorem if_some {α : Type} {b : Bool} {o : Option α} {a : α} (h : (if b then o else none) = some a) : b = true ∧ o = some a := by
  cases b with
  | true => exact ⟨rfl, h⟩
  | false => cases h
theorem if_none {α : Type} {b : Bool} {o : Option α} {a : α} (h : (if b then none else o) = some a) : b = false ∧ o = some a := by
  cases b with
  | false => exact ⟨rfl, h⟩
  | true => cases h
theorem noset {it : Expr} (h : noSet it = true) (env : PySem.Env) : ∀ x, foldedSetIterable it env x = pure x := by
  intro x
  unfold foldedSetIterable
  cases it <;> first | rfl | cases h
theorem minus1 {e : Expr} (h : isMinus1 e = true) : ∃ k q1 q2, e = .UnaryOp .USub (.Constant (.int 1) k q1) q2 := by
  unfold isMinus1 at h
  split at h
  · exact ⟨_, _, _, rfl⟩
  · cases h
theorem bltG {X : Cx} {sc : Scope} (x : XOk I C k X sc) {y : Str} (h : bltOk I sc y = true) : Gl X y ∧ X.mg y = none := by
  unfold bltOk at h
  rw [Bool.and_eq_true] at h
  exact ⟨glob_ok x.sc h.2, x.blt y (List.contains_iff_mem.mp h.1)⟩
theorem walk_ok {X : Cx} {sc : Scope} (x : XOk I C k X sc) {f : Expr → Option DE} {it tg : Expr} {d : DE} (hf : ∀ e d, f e = some d → Good X C e d) (h : compWalk I f sc it = some d) : PI X tg it (tW X.K (evW C d)) := by
  have sq : ∀ {d}, (f it).map (fun d => DE.wk .seq d .nil) = some d → PI X tg it (tW X.K (evW C d)) := fun h => by
    obtain ⟨d1, e1, rfl⟩ := mopt h
    exact si_seq rfl (hf _ _ e1).1
  unfold compWalk at h
  split at h
  · split at h
    · rename_i hx
      obtain ⟨rfl, hb⟩ := hx
      obtain ⟨ho, h⟩ := if_some h
      obtain ⟨d1, e1, rfl⟩ := mopt h
      obtain ⟨g1, g2⟩ := bltG x hb
      exact si_rng1 g1 g2 (hf _ _ e1).1 ho
    · split at h
      · rename_i hx
        obtain ⟨rfl, hb⟩ := hx
        obtain ⟨ho, h⟩ := if_some h
        obtain ⟨d1, e1, rfl⟩ := mopt h
        obtain ⟨g1, g2⟩ := bltG x hb
        exact si_rev rfl g1 g2 (hf _ _ e1).1 ho
      · exact sq h
  · split at h
    · rename_i hx
      obtain ⟨rfl, hb⟩ := hx
      obtain ⟨ho, h⟩ := if_some h
      obtain ⟨d1, e1, h⟩ := bopt h
      obtain ⟨d2, e2, rfl⟩ := mopt h
      obtain ⟨g1, g2⟩ := bltG x hb
      rw [Bool.and_eq_true] at ho
      exact si_rng2 g1 g2 (hf _ _ e1).1 (hf _ _ e2).1 ho.1 ho.2
    · exact sq h
  · split at h
    · rename_i hx
      obtain ⟨rfl, hb⟩ := hx
      obtain ⟨ho, h⟩ := if_some h
      obtain ⟨d1, e1, h⟩ := bopt h
      obtain ⟨d2, e2, rfl⟩ := mopt h
      obtain ⟨g1, g2⟩ := bltG x hb
      rw [Bool.and_eq_true, Bool.and_eq_true] at ho
      obtain ⟨k1, q1, q2, rfl⟩ := minus1 ho.2
      exact si_rngD g1 g2 (hf _ _ e1).1 (hf _ _ e2).1 ho.1.1 ho.1.2
    · exact sq h
  · exact sq h
theorem range_args {sc : Scope} {x : Str} {args : List Expr} {a b : Expr} (h : rangeArgs I sc x args = some (a, b)) : ∃ y p p2, args = [.Call (.Name y p) [a, b] [] p2] ∧ y = "range" ∧ bltOk I sc y = true ∧ okHead a = true ∧ okHead b = true ∧ (x = "tuple" ∨ x = "list") := by
  unfold rangeArgs at h
  split at h
  · split at h
    · rename_i hc
      cases h
      exact ⟨_, _, _, rfl, hc⟩
    · cases h
  · cases h
/-- what a comprehension needs -/
structure LcOk (X : Cx) (C : Nat → List SV → M RV) (elt tge iter : Expr) (ifs : List Expr) (scope : Scope) (own : List (Str × Nat)) (w : DE) (t : Tg) (c d : DE) : Prop where
  hi : PI X tge iter (tW X.K (evW C w))
  ok : BlkOk X.N X.env.scope scope own
  htg : ∀ i ∈ t.sl, i ∈ own.map (·.2)
  own : own.map (·.2) = t.sl
  hg : ∀ (s : Shared) (H : Hp) (C : Addr) (cl : List (Str × Addr)) (fp : List Addr), PG (X.blk s H scope (compEnvC scope cl C X.env) fp) tge (tG X.K t)
  ht : ∀ (s : Shared) (H : Hp) (C' : Addr) (cl : List (Str × Addr)) (fp : List Addr), PTs (X.blk s H scope (compEnvC scope cl C' X.env) fp) ifs (tT X.K (evE C c))
  he : ∀ (s : Shared) (H : Hp) (C' : Addr) (cl : List (Str × Addr)) (fp : List Addr), PE (X.blk s H scope (compEnvC scope cl C' X.env) fp) elt (tE X.K (evE C d))
  hs : ∀ x, foldedSetIterable iter X.env x = pure x
theorem pts_yes {X : Cx} : PTs X [] (tT X.K (evE C (.con (.bl true)))) := ⟨fun pins s σ H Q I hw => pts_nil.run pins s σ H Q I (by
  obtain ⟨w, ρ, S, hr, sl, p⟩ := hw
  obtain ⟨b, eb, p⟩ : ∃ b, truth (.d (.bl true)) = some b ∧ _ := p
  cases eb
  exact p w H (.refl _) hr)⟩
theorem PTs.one {X : Cx} {c : Expr} {t : TT} (h : PT X c t) : PTs X [c] t := pts_one h
theorem kind_of {scope : Scope} {N : List Str} {sc : Scope} {own : List (Str × Nat)} (h : blkC N sc scope own = true) : scope.kind = .function := by
  unfold blkC at h
  simp only [Bool.and_eq_true] at h
  obtain ⟨⟨⟨h1, _⟩, _⟩, _⟩ := h
  split at h1
  · assumption
  · cases h1
theorem lc_ok {n : Nat} (ih : ∀ (X : Cx) (sc : Scope) (e : Expr) (d : DE), XOk I C k X sc → compE I n sc e = some d → Good X C e d) {X : Cx} {sc : Scope} (x : XOk I C k X sc) {elt tge iter : Expr} {ifs : List Expr} {scope : Scope} {pos : Pos} {d' : DE}
    (h : compE I (n + 1) sc (.ListComp elt [⟨tge, iter, ifs, 0⟩] scope pos) = some d') : ∃ own w t c d, d' = .lc d t w c t.sl ∧ LcOk X C elt tge iter ifs scope own w t c d := by
  unfold compE at h
  obtain ⟨ho, h⟩ := if_some h
  rw [Bool.and_eq_true] at ho
  obtain ⟨t, et, h⟩ := bopt h
  obtain ⟨hb, h⟩ := if_some h
  rw [Bool.and_eq_true] at hb
  obtain ⟨hb, hown⟩ := hb
  have hown := of_decide_eq_true hown
  obtain ⟨w, ew, h⟩ := bopt h
  obtain ⟨d, ed, h⟩ := bopt h
  have hk := kind_of hb
  have bok : BlkOk X.N X.env.scope scope (ownOf I t) := by rw [x.N, x.sc]; exact blkOk_by hb
  have hin := own_sub hown
  have hi := walk_ok x (tg := tge) (fun e d h => ih X sc e d x h) ew
  have hg : ∀ (s : Shared) (H : Hp) (C' : Addr) (cl : List (Str × Addr)) (fp : List Addr), PG (X.blk s H scope (compEnvC scope cl C' X.env) fp) tge (tG X.K t) := fun s H C' cl fp => by
    refine tg_ok (I := I) et (X := X.blk s H scope (compEnvC scope cl C' X.env) fp) x.N x.nd x.calm fun y hy => ?_
    have := (x.blk hk s H C' cl fp).sc
    rw [this]
    unfold locB at hy
    split at hy
    · rename_i e; exact ⟨.inl (lookup_relS_local e), .inr (lookup_relS_local e)⟩
    · rename_i e
      refine ⟨.inr (lookup_relS_cell e), .inl ?_⟩
      show (scope.names.lookup y == some NameKind.cell) = true
      rw [e]; rfl
    · cases hy
  have he : ∀ (s : Shared) (H : Hp) (C' : Addr) (cl : List (Str × Addr)) (fp : List Addr), PE (X.blk s H scope (compEnvC scope cl C' X.env) fp) elt (tE X.K (evE C d)) := fun s H C' cl fp => (ih _ _ _ _ (x.blk hk s H C' cl fp) ed).1
  cases ifs with
  | nil =>
    cases h
    exact ⟨_, w, t, _, d, rfl, hi, bok, hin, hown, hg, fun s H C' cl fp => pts_yes, he, noset ho.2 _⟩
  | cons c r =>
    cases r with
    | nil =>
      obtain ⟨c', ec, rfl⟩ := mopt h
      exact ⟨_, w, t, c', d, rfl, hi, bok, hin, hown, hg, fun s H C' cl fp => pts_one (ih _ _ _ _ (x.blk hk s H C' cl fp) ec).2, he, noset ho.2 _⟩
    | cons _ _ => cases h
end
end U

set_option maxHeartbeats 1000000
namespace U
open PySem PySem.Spec PyProof.Rows L2
section
variable {I : CI} {C : Nat → List SV → M RV} {k : Nat}
theorem bool_nil {f : Expr → Option DE} {op : PySem.BoolOp} {d : DE} (h : compBool f op [] = some d) : False := by cases h
theorem if_noneP {α : Type} {p : Prop} [Decidable p] {o : Option α} {a : α} (h : (if p then none else o) = some a) : ¬p ∧ o = some a := by
  by_cases hp : p
  · rw [if_pos hp] at h; cases h
  · rw [if_neg hp] at h; exact ⟨hp, h⟩
theorem st_ife {X : Cx} {c a b : Expr} {pos : Pos} {ft fa fb : Env → M RV} (ht : PT X c (tT X.K ft)) (ha : PT X a (tT X.K fa)) (hb : PT X b (tT X.K fb)) : PT X (.IfExp c a b pos) (tT X.K (ifF ft fa fb)) := by
  refine ⟨fun pins s σ H Q I h => isTrue_IfExp ?_⟩
  obtain ⟨w, ρ, S, hr, sl, p⟩ := h
  unfold ifF at p
  obtain ⟨x, S1, ex, p⟩ := p.bind
  cases eb : truth x with
  | none => rw [eb] at p; exact False.elim p
  | some b0 =>
    rw [eb] at p
    refine thn (ht.run pins s σ H (fun c H1 => c = b0 ∧ ∃ w1, w.le w1 ∧ Rel X.K w1 S1 H1) I (oneT hr sl ex eb fun w1 H1 l r => ⟨rfl, w1, l, r⟩)) fun d s1 ⟨H1, I1, e1, w1, l, r⟩ => ?_
    subst e1
    cases d with
    | true => exact ha.run pins s1 σ H1 Q I1 ⟨w1, ρ, S1, r, sl.mono X.K l, p.le l⟩
    | false => exact hb.run pins s1 σ H1 Q I1 ⟨w1, ρ, S1, r, sl.mono X.K l, p.le l⟩
theorem keys_ok : ∀ {keys : List (Option Expr)} {ks : List Str}, keyStrs keys = some ks → keys.all (·.isSome) = true ∧ keys.length = ks.length
  | [], ks, h => by cases h; exact ⟨rfl, rfl⟩
  | k :: keys, ks, h => by
    unfold keyStrs at h
    split at h
    · rename_i e; cases e
    · rename_i e
      obtain ⟨r, er, rfl⟩ := mopt h
      cases e
      obtain ⟨h1, h2⟩ := keys_ok er
      exact ⟨by rw [List.all_cons, h1]; rfl, by rw [List.length_cons, List.length_cons, h2]⟩
    · cases h
theorem pairs_ok {X : Cx} {f : Expr → Option DE} {pos : Pos} : ∀ {keys : List (Option Expr)} {ks : List Str} {es : List Expr} {d : DE}, (∀ e ∈ es, ∀ d, f e = some d → Good X C e d) → keyStrs keys = some ks → keys.length = es.length → compArgs f es = some d → PPs X pos keys es (trsOf X.K C ks d)
  | [], ks, [], d, _, hk, _, h => by cases hk; cases h; exact pps_nil
  | [], ks, _ :: _, d, _, _, hl, _ => by simp at hl
  | _ :: _, ks, [], d, _, _, hl, _ => by simp at hl
  | k :: keys, ks, e :: es, d, hf, hk, hl, h => by
    unfold keyStrs at hk
    split at hk
    · rename_i ek; cases ek
    · rename_i ek
      obtain ⟨r, er, rfl⟩ := mopt hk
      cases ek
      unfold compArgs at h
      split at h
      · obtain ⟨d1, e1, h⟩ := bopt h
        obtain ⟨d2, e2, rfl⟩ := mopt h
        exact pps_cons pe_str (hf e List.mem_cons_self d1 e1).1 (pairs_ok (fun e he => hf e (List.mem_cons_of_mem _ he)) er (by simpa using hl) e2)
      · cases h
    · cases hk
theorem set_arg {sc : Scope} {x : Str} {args : List Expr} {a : Expr} (h : setArg I sc x args = some a) : ∃ y p p2, args = [.Call (.Name y p) [a] [] p2] ∧ y = "set" ∧ bltOk I sc y = true ∧ okHead a = true ∧ x = "len" := by
  unfold setArg at h
  split at h
  · split at h
    · rename_i hc
      cases h
      exact ⟨_, _, _, rfl, hc⟩
    · cases h
  · cases h
theorem m2_get {X : Cx} {o a b : Expr} {apos pos : Pos} (ho : okHead o = true) (ha : okHead a = true) (hb : okHead b = true) (hl : (apos.endLine == pos.line) = true) : L2.M2 X o "get" apos a b pos :=
  ⟨attr_base ho, by rw [noStarAll (by rw [List.all_cons, ha, List.all_cons, hb]; rfl)]; rfl, hl, by rw [star_cons ha, star_one hb]; rfl⟩
theorem comp_ok : ∀ (n : Nat) (X : Cx) (sc : Scope) (e : Expr) (d : DE), XOk I C k X sc → compE I n sc e = some d → Good X C e d
  | 0, X, sc, e, d, x, h => by unfold compE at h; cases h
  | n + 1, X, sc, e, d, x, h => by
    have ih := comp_ok n
    have h0 := h
    unfold compE at h
    split at h
    · -- a name
      split at h
      · cases h
      · rename_i hd
        rw [not_or] at hd
        split at h
        · rename_i hv
          obtain ⟨i, ei, rfl⟩ := mopt h
          refine Good.val (se_var (by rw [x.N]; exact slotOf_ok ei) (by rw [x.sc]; exact vis_ok hv) ?_ ?_) rfl
          · exact beq_false_of_ne hd.1
          · exact beq_false_of_ne hd.2
        · obtain ⟨hg, h⟩ := if_some h
          obtain ⟨c, ec, rfl⟩ := mopt h
          obtain ⟨u, v, hm, hr, hd'⟩ := x.kon _ _ ec
          exact Good.val (se_con (pe_glob (glob_ok x.sc hg) hm hr (beq_false_of_ne hd.1)) hd') rfl
    · cases h; exact Good.val (se_con pe_int fun F g => rfl) rfl
    · cases h; exact Good.val (se_con pe_bl fun F g => rfl) rfl
    · cases h; exact Good.val (se_con pe_non fun F g => rfl) rfl
    · cases h; exact Good.val (se_con pe_str fun F g => rfl) rfl
    · obtain ⟨as, ea, rfl⟩ := mopt h
      exact Good.val (se_tup (args_ok (fun e _ d h => ih X sc e d x h) ea).2.1) rfl
    · obtain ⟨as, ea, rfl⟩ := mopt h
      exact Good.val (se_lst (args_ok (fun e _ d h => ih X sc e d x h) ea).2.1) rfl
    · obtain ⟨o, eo, h⟩ := bopt h
      obtain ⟨a, ea, h⟩ := bopt h
      obtain ⟨b, eb, rfl⟩ := mopt h
      have := op_ok eo
      subst this
      exact Good.val (se_bin rfl (ih _ _ _ _ x ea).1 (ih _ _ _ _ x eb).1) rfl
    · obtain ⟨a, ea, rfl⟩ := mopt h
      exact Good.val (se_neg (ih _ _ _ _ x ea).1) rfl
    · obtain ⟨a, ea, rfl⟩ := mopt h
      exact ⟨se_not (ih _ _ _ _ x ea).1, st_not (ih _ _ _ _ x ea).2⟩
    · obtain ⟨h1, h2⟩ := bool_ok (fun e _ d h => ih X sc e d x h) h
      exact ⟨h1, h2.pt⟩
    · obtain ⟨hm, h⟩ := if_none h
      obtain ⟨o, eo, h⟩ := bopt h
      obtain ⟨a, ea, h⟩ := bopt h
      obtain ⟨b, eb, rfl⟩ := mopt h
      have := cop_ok eo
      subst this
      exact ⟨se_cmp rfl x.un (ih _ _ _ _ x ea).1 (ih _ _ _ _ x eb).1 hm, st_cmp rfl x.un (ih _ _ _ _ x ea).1 (ih _ _ _ _ x eb).1 hm⟩
    · obtain ⟨hm, h⟩ := if_none h
      obtain ⟨o, eo, h⟩ := bopt h
      obtain ⟨o2, eo2, h⟩ := bopt h
      obtain ⟨a, ea, h⟩ := bopt h
      obtain ⟨b, eb, h⟩ := bopt h
      obtain ⟨c, ec, rfl⟩ := mopt h
      have := cop_ok eo
      have := cop_ok eo2
      subst_vars
      exact ⟨se_chain rfl x.un (ih _ _ _ _ x ea).1 (ih _ _ _ _ x eb).1 (ih _ _ _ _ x ec).1 hm, st_chain rfl x.un (ih _ _ _ _ x ea).1 (ih _ _ _ _ x eb).1 (ih _ _ _ _ x ec).1 hm⟩
    · obtain ⟨t, et, h⟩ := bopt h
      obtain ⟨a, ea, h⟩ := bopt h
      obtain ⟨b, eb, rfl⟩ := mopt h
      exact ⟨se_ife (ih _ _ _ _ x et).2 (ih _ _ _ _ x ea).1 (ih _ _ _ _ x eb).1, st_ife (ih _ _ _ _ x et).2 (ih _ _ _ _ x ea).2 (ih _ _ _ _ x eb).2⟩
    · obtain ⟨a, ea, h⟩ := bopt h
      obtain ⟨lo, el, h⟩ := bopt h
      obtain ⟨hi, eh, rfl⟩ := mopt h
      exact Good.val (se_sl rfl (ih _ _ _ _ x ea).1 (part_ok (fun e _ d h => ih X sc e d x h) el) (part_ok (fun e _ d h => ih X sc e d x h) eh)) rfl
    · obtain ⟨ho, h⟩ := if_some h
      obtain ⟨a, ea, h⟩ := bopt h
      obtain ⟨b, eb, rfl⟩ := mopt h
      exact Good.val (se_ix rfl (ih _ _ _ _ x ea).1 (ih _ _ _ _ x eb).1 ho) rfl
    · obtain ⟨own, w, t, c, d, rfl, l⟩ := lc_ok ih x h0
      refine Good.val ?_ rfl
      have := se_lc (pos := ‹Pos›) rfl x.calm (by rw [x.N]; exact x.nd) l.hi l.ok l.htg l.hg l.ht l.he l.hs
      rw [l.own] at this
      exact this
    · -- a call of a name
      obtain ⟨hdb, h⟩ := if_noneP h
      obtain ⟨hg, h⟩ := if_none h
      have hg := glob_ok x.sc (by simpa using hg)
      have hdb := beq_false_of_ne hdb
      split at h
      · rename_i f ef
        obtain ⟨he, h⟩ := if_none h
        obtain ⟨as, ea, rfl⟩ := mopt h
        obtain ⟨fa, fd, ps, np, hm, hk, hb, F, hlen⟩ := x.fns _ _ ef
        obtain ⟨a1, _, a3⟩ := args_ok (fun e _ d h => ih X sc e d x h) ea
        cases ‹List Expr› with
        | nil => cases he
        | cons a as' => exact Good.val (se_call rfl F x.gd x.rm hg hm hk hb hlen a1 hdb a3) rfl
      · obtain ⟨hbl, h⟩ := if_none h
        have hm := x.blt _ (List.contains_iff_mem.mp (by simpa using hbl))
        split at h
        · rename_i a b er
          obtain ⟨d1, e1, h⟩ := bopt h
          obtain ⟨d2, e2, h⟩ := mopt h
          subst h
          obtain ⟨y, p, p2, rfl, rfl, hb, ho, ho', hx⟩ := range_args er
          obtain ⟨g1, g2⟩ := bltG x hb
          rcases hx with rfl | rfl
          · exact Good.val (se_trng rfl x.calm hg hm g1 g2 (ih _ _ _ _ x e1).1 (ih _ _ _ _ x e2).1 ho ho') rfl
          · exact Good.val (se_lrng rfl x.calm hg hm g1 g2 (ih _ _ _ _ x e1).1 (ih _ _ _ _ x e2).1 ho ho') rfl
        · split at h
          · rename_i a ea
            obtain ⟨d1, e1, rfl⟩ := mopt h
            obtain ⟨y, p, p2, rfl, rfl, hb, ho, rfl⟩ := set_arg ea
            obtain ⟨g1, g2⟩ := bltG x hb
            exact Good.val (se_lens rfl x.calm hg hm g1 g2 (ih _ _ _ _ x e1).1 ho) rfl
          split at h
          · obtain ⟨ho, h⟩ := if_some h
            obtain ⟨b1, eb, h⟩ := bopt h
            obtain ⟨d1, e1, rfl⟩ := mopt h
            have := b1_ok eb
            subst this
            exact Good.val (se_b1 rfl x.calm x.gd x.un hg hm (ih _ _ _ _ x e1).1 ho) rfl
          · obtain ⟨ho, h⟩ := if_some h
            obtain ⟨b1, eb, h⟩ := bopt h
            obtain ⟨d1, e1, h⟩ := bopt h
            obtain ⟨d2, e2, rfl⟩ := mopt h
            have := b2_ok eb
            subst this
            rw [Bool.and_eq_true] at ho
            exact Good.val (se_b2 rfl x.calm hg hm (ih _ _ _ _ x e1).1 (ih _ _ _ _ x e2).1 ho.1 ho.2) rfl
          · cases h
    · obtain ⟨ks, ek, h⟩ := bopt h
      obtain ⟨hl, h⟩ := if_some h
      have hl := of_decide_eq_true hl
      obtain ⟨as, ea, rfl⟩ := mopt h
      obtain ⟨h1, h2⟩ := keys_ok ek
      exact Good.val (se_dis rfl (pairs_ok (fun e _ d h => ih X sc e d x h) ek hl ea) h1 hl h2) rfl
    · obtain ⟨hc, h⟩ := if_some h
      obtain ⟨d1, e1, h⟩ := bopt h
      obtain ⟨d2, e2, h⟩ := bopt h
      obtain ⟨d3, e3, rfl⟩ := mopt h
      simp only [Bool.and_eq_true, decide_eq_true_eq] at hc
      obtain ⟨⟨⟨⟨c1, c2⟩, c3⟩, c4⟩, rfl⟩ := hc
      exact Good.val (se_dgt rfl (by have := x.un; omega) (ih _ _ _ _ x e1).1 (ih _ _ _ _ x e2).1 (ih _ _ _ _ x e3).1 (m2_get c1 c2 c3 c4)) rfl
    · obtain ⟨hc, h⟩ := if_some h
      obtain ⟨m1, em, h⟩ := bopt h
      obtain ⟨d1, e1, h⟩ := bopt h
      obtain ⟨d2, e2, rfl⟩ := mopt h
      have := m1_ok em
      subst this
      rw [Bool.and_eq_true, Bool.and_eq_true] at hc
      exact Good.val (se_m1 rfl (ih _ _ _ _ x e1).1 (ih _ _ _ _ x e2).1 hc.1.1 hc.1.2 hc.2) rfl
    · cases h
end
end U

set_option maxHeartbeats 1000000
namespace U
open PySem PySem.Spec PyProof.Rows L2
section
variable {I : CI} {C : Nat → List SV → M RV} {k : Nat}
theorem swap_no {e : Expr} (h : isLc e = false) (t : Option Expr) (l : Nat) (env : PySem.Env) : swapsWith e t l env = pure false := by
  unfold swapsWith
  cases e <;> first | rfl | cases h
theorem swap_lc {elt : Expr} {gs : List Comprehension} {scope : Scope} {pos py : Pos} {y : Str} {l : Nat} {env : PySem.Env} (hk : env.scope.kind = .function) : swapsWith (.ListComp elt gs scope pos) (some (.Name y py)) l env = pure (swapB env.scope y py scope pos) := by
  have hb : env.blockKind = .function := by unfold PySem.Env.blockKind; rw [hk]; rfl
  unfold swapsWith swapB
  simp only [hb, PySem.Env.kindOf, Expr.pos]
  cases env.scope.names.lookup y with
  | none => rfl
  | some kd => cases kd <;> rfl
theorem stores_no {ts : List Expr} {e : Expr} (h : isTupE e = false) (env : PySem.Env) : swappedStores ts e env = pure none := by
  unfold swappedStores
  cases e <;> first | (cases h; done) | (cases ts with
    | nil => rfl
    | cons t r => cases r <;> cases t <;> rfl)
theorem isLc_lc {n : Nat} {sc : Scope} {e : Expr} {d : DE} (h : compE I n sc e = some d) (hl : isLc e = true) : ∃ elt tge iter ifs scope pos, e = .ListComp elt [⟨tge, iter, ifs, 0⟩] scope pos := by
  cases n with
  | zero => unfold compE at h; cases h
  | succ n =>
    unfold compE at h
    split at h <;> first | exact ⟨_, _, _, _, _, _, rfl⟩ | (cases hl; done) | (cases h; done)
theorem body_ok {X : Cx} {f : Stmt → Option DS} : ∀ {ss : List Stmt} {d : DS}, (∀ s ∈ ss, ∀ d, f s = some d → PS X s (tS X.K (evS C d))) → compB f ss = some d → PSs X ss (tS X.K (evS C d))
  | [], d, _, h => by cases h; exact ss_skip
  | [s], d, hf, h => ss_one (hf s List.mem_cons_self d h)
  | s :: s2 :: ss, d, hf, h => by
    unfold compB at h
    obtain ⟨a, ea, h⟩ := bopt h
    obtain ⟨b, eb, rfl⟩ := mopt h
    exact ss_cons (hf s List.mem_cons_self a ea) (body_ok (fun s hs => hf s (List.mem_cons_of_mem _ hs)) eb)
theorem stmt_ok {sc : Scope} : ∀ (n : Nat) (X : Cx) (st : Stmt) (d : DS), XOk I C k X sc → X.fn = (fun _ => true) → compS I sc n st = some d → PS X st (tS X.K (evS C d))
  | 0, X, st, d, x, hf, h => by unfold compS at h; cases h
  | n + 1, X, st, d, x, hf, h => by
    have ih := stmt_ok (sc := sc) n
    have hp : PassesOwn (model X.prog X.w) X.A X.env X.xe := by rw [x.xe]; exact fun _ _ h => h.elim
    have hfn : ∀ y, X.fn y = true ∨ X.env.scope.names.lookup y = some .local := fun y => .inl (by rw [hf])
    have htg : ∀ y, locB sc y = true → Loc X.env.scope y ∧ (X.fn y = true ∨ X.env.scope.names.lookup y = some .local) := fun y hy => ⟨by rw [x.sc]; exact loc_ok hy, hfn y⟩
    have hN : X.N.Nodup := by rw [x.N]; exact x.nd
    have hsl : ∀ {y i}, slotOf I.N y = some i → X.N[i]? = some y := fun h => by rw [x.N]; exact slotOf_ok h
    unfold compS at h
    split at h
    · obtain ⟨hl, h⟩ := if_none h
      obtain ⟨d, e1, rfl⟩ := mopt h
      exact ss_expr (comp_ok _ _ _ _ _ x e1).1 (swap_no hl _ _ _)
    · rename_i y px e pos
      obtain ⟨hl, h⟩ := if_some h
      obtain ⟨i, ei, h⟩ := bopt h
      obtain ⟨d, e1, rfl⟩ := mopt h
      have hloc : Loc X.env.scope y := by rw [x.sc]; exact loc_ok hl
      cases hlc : isLc e with
      | false => exact ss_set hN (hsl ei) hloc (comp_ok _ _ _ _ _ x e1).1 (swap_no hlc _ _ _) (hfn y)
      | true =>
        obtain ⟨elt, tge, iter, ifs, scope, lpos, rfl⟩ := isLc_lc e1 hlc
        have hsw := swap_lc (elt := elt) (gs := [⟨tge, iter, ifs, 0⟩]) (scope := scope) (pos := lpos) (py := px) (y := y) (l := pos.line) x.kd
        cases hb : swapB X.env.scope y px scope lpos with
        | false => rw [hb] at hsw; exact ss_set hN (hsl ei) hloc (comp_ok _ _ _ _ _ x e1).1 hsw (hfn y)
        | true =>
          rw [hb] at hsw
          cases n with
          | zero => unfold compE at e1; cases e1
          | succ n =>
            obtain ⟨own, w, t, c, d, rfl, l⟩ := lc_ok (comp_ok n) x e1
            have hy : X.env.scope.names.lookup y = some .local := by
              unfold swapB at hb
              rw [Bool.and_eq_true, Bool.and_eq_true] at hb
              have := hb.1.1
              split at this
              · assumption
              · cases this
            have := ss_setLc (m := I.mu.contains y) (i := i) (pos := pos) rfl x.calm hN (hsl ei) hy hsw l.hi l.ok l.htg l.hg l.ht l.he l.hs
            rw [l.own] at this
            exact this
    · obtain ⟨hl, h⟩ := if_none h
      rw [Bool.or_eq_false_iff] at hl
      obtain ⟨t, et, h⟩ := bopt h
      obtain ⟨d, e1, rfl⟩ := mopt h
      have hg := tg_ok (I := I) et x.N x.nd x.calm htg
      obtain ⟨is, ei, rfl⟩ := mopt et
      obtain ⟨t1, t2⟩ := tg_slots ei
      obtain ⟨t3, t4, t5⟩ := t2 X x.N x.nd htg
      exact ss_unp (comp_ok _ _ _ _ _ x e1).1 hg (sg_manyL rfl x.calm t3 t4 t5) (by unfold swapsWithSole; exact swap_no hl.1 _ _ _) (stores_no hl.2 _) rfl
    · obtain ⟨hl, h⟩ := if_none h
      obtain ⟨ho, h⟩ := if_some h
      obtain ⟨o', e1, h⟩ := bopt h
      obtain ⟨i', e2, h⟩ := bopt h
      obtain ⟨d, e3, rfl⟩ := mopt h
      exact ss_setIx (comp_ok _ _ _ _ _ x e3).1 (comp_ok _ _ _ _ _ x e1).1 (comp_ok _ _ _ _ _ x e2).1 ho (by unfold swapsWithSole; exact swap_no hl _ _ _) (by
        unfold swappedStores
        cases ‹Expr› <;> rfl)
    · obtain ⟨d, e1, rfl⟩ := mopt h
      exact ss_ret (comp_ok _ _ _ _ _ x e1).1
    · cases h; exact ss_retN
    · obtain ⟨c, ec, h⟩ := bopt h
      obtain ⟨a, ea, h⟩ := bopt h
      obtain ⟨b, eb, rfl⟩ := mopt h
      exact ss_if (comp_ok _ _ _ _ _ x ec).2 (body_ok (fun s _ d h => ih X s d x hf h) ea) (body_ok (fun s _ d h => ih X s d x hf h) eb)
    · obtain ⟨ho, h⟩ := if_some h
      rw [Bool.and_eq_true] at ho
      obtain ⟨t, et, h⟩ := bopt h
      obtain ⟨w, ew, h⟩ := bopt h
      obtain ⟨b, eb, rfl⟩ := mopt h
      exact ss_for hp x.calm (walk_ok x (fun e d h => comp_ok _ _ _ _ _ x h) ew) (tg_ok (I := I) et x.N x.nd x.calm htg) (body_ok (fun s _ d h => ih X s d x hf h) eb) (noset ho.2 _)
    · obtain ⟨c, ec, h⟩ := bopt h
      obtain ⟨b, eb, rfl⟩ := mopt h
      exact ss_whl hp (comp_ok _ _ _ _ _ x ec).2 (body_ok (fun s _ d h => ih X s d x hf h) eb)
    · cases h
      exact ⟨fun pins s σ H D I h => by obtain ⟨w, ρ, S, hr, sl, p⟩ := h; exact False.elim p⟩
    · cases h; exact ss_brk
    · cases h; exact ss_cont
    · cases h
end
end U

/-! UHead: a module of defs as a table of trees; the law's end. -/
namespace U
open PySem PySem.Spec PyProof.Rows L2

/-! ### constants -/
mutual
def conB (K : PySem.W.Frag) : D → Value → Bool
  | .non, .none => true
  | .bl b, .bool c => decide (b = c)
  | .int i, .int j _ => decide (i = j)
  | .str x, .str y _ => decide (x = y)
  | .tup ds, .ref a => (match K.lookup a with
    | some ⟨.type c, _, .seq its _, _⟩ => decide (c = "tuple") && (decide (its.size ≤ sizeLine) && conBs K ds its.toList)
    | _ => false)
  | .rol ds, .ref a => (match K.lookup a with
    | some ⟨.type c, none, .seq its _, _⟩ => decide (c = "list") && (decide (its.size ≤ sizeLine) && conBs K ds its.toList)
    | _ => false)
  | _, _ => false
def conBs (K : PySem.W.Frag) : List D → List Value → Bool
  | [], [] => true
  | d :: ds, u :: us => conB K d u && conBs K ds us
  | _, _ => false
end
theorem ba2 {a b : Bool} (h : (a && b) = true) : a = true ∧ b = true := Bool.and_eq_true_iff.mp h
section
variable {K : PySem.W.Frag}
mutual
theorem conB_ok : ∀ (d : D) (u : Value), conB K d u = true → ∃ v, RelV v u ∧ ∀ F g, RD K F g d v
  | .non, u, h => by
    cases u <;> first | exact ⟨.non, rfl, fun F g => rfl⟩ | cases h
  | .bl b, u, h => by
    cases u <;> first | cases h; done | skip
    have h : decide (b = _) = true := h
    have := of_decide_eq_true h
    subst this
    exact ⟨.bl b, rfl, fun F g => rfl⟩
  | .int i, u, h => by
    cases u <;> first | cases h; done | skip
    have h : decide (i = _) = true := h
    have := of_decide_eq_true h
    subst this
    exact ⟨.int i, ⟨_, rfl⟩, fun F g => rfl⟩
  | .str i, u, h => by
    cases u <;> first | cases h; done | skip
    have h : decide (i = _) = true := h
    have := of_decide_eq_true h
    subst this
    exact ⟨.str i, ⟨_, rfl⟩, fun F g => rfl⟩
  | .tup ds, u, h => by
    cases u with
    | ref a =>
      unfold conB at h
      split at h
      · rename_i c od its n sl e
        obtain ⟨h1, h⟩ := ba2 h
        obtain ⟨h2, h3⟩ := ba2 h
        have h1 := of_decide_eq_true h1
        subst h1
        obtain ⟨vs, hv, hd⟩ := conBs_ok ds _ h3
        exact ⟨.ref a, rfl, fun F g => ⟨a, vs, rfl, .inr ⟨_, its, n, e, rfl, rfl, of_decide_eq_true h2, hv⟩, hd F g⟩⟩
      · cases h
    | _ => cases h
  | .rol ds, u, h => by
    cases u with
    | ref a =>
      unfold conB at h
      split at h
      · rename_i c its n sl e
        obtain ⟨h1, h⟩ := ba2 h
        obtain ⟨h2, h3⟩ := ba2 h
        have h1 := of_decide_eq_true h1
        subst h1
        obtain ⟨vs, hv, hd⟩ := conBs_ok ds _ h3
        exact ⟨.ref a, rfl, fun F g => ⟨a, vs, rfl, .inr ⟨_, its, n, e, rfl, rfl, rfl, of_decide_eq_true h2, hv⟩, hd F g⟩⟩
      · cases h
    | _ => cases h
  | .lst ds, u, h => by cases u <;> cases h
  | .dic ds, u, h => by cases u <;> cases h
  | .ref i, u, h => by cases u <;> cases h
theorem conBs_ok : ∀ (ds : List D) (us : List Value), conBs K ds us = true → ∃ vs, Vals vs us ∧ ∀ F g, RDs K F g ds vs
  | [], us, h => by
    cases us with
    | nil => exact ⟨[], .nil, fun F g => rfl⟩
    | cons _ _ => cases h
  | d :: ds, us, h => by
    cases us with
    | nil => cases h
    | cons u us =>
      have h : (conB K d u && conBs K ds us) = true := h
      obtain ⟨h1, h2⟩ := ba2 h
      obtain ⟨v, hv, hd⟩ := conB_ok d u h1
      obtain ⟨vs, hvs, hds⟩ := conBs_ok ds us h2
      exact ⟨v :: vs, .cons hv hvs, fun F g => ⟨v, vs, rfl, hd F g, hds F g⟩⟩
end
end

/-! ### a def -/
structure UDef where
  d : He.DefD
  ps : List Str
  N : List Str
  mu : List Str
  fd : FD
def tbl (us : List UDef) (i : Nat) : Option FD := (us[i]?).map (·.fd)
def UDef.ci (fns : List (Str × Nat)) (kon : List (Str × D)) (blt : List Str) (u : UDef) : CI := ⟨u.N, fns, kon, u.mu, blt⟩
/-- what is asked of a def's tree -/
structure UOk (fns : List (Str × Nat)) (kon : List (Str × D)) (blt : List Str) (u : UDef) : Prop where
  at_ : u.d.at_ = (u.d.name, none)
  dfl : u.d.dfl = [] := by rfl
  kwd : u.d.kwd = [] := by rfl
  sc : FnScope u.N u.ps u.d.scope
  np : u.fd.np = u.ps.length := by rfl
  ns : u.N.length = u.fd.ns := by rfl
  body : compB (compS (u.ci fns kon blt) u.d.scope 60) u.d.body = some u.fd.body
  binds : ∀ (kV doc pm : Value) (an : Option Addr) (cdv ct : Value) (us : List Value), us.length = u.ps.length → bindArgs (PySem.W.fnOf u.d.name u.d.qual u.d.params u.d.body u.d.scope .none kV doc pm an cdv ct) ⟨us, []⟩ = pure (u.ps.zip us)
def fnsOk (us : List UDef) (fns : List (Str × Nat)) : Prop := ∀ x f, fns.lookup x = some f → ∃ u, us[f]? = some u ∧ u.d.name = x
def fnsC (us : List UDef) (fns : List (Str × Nat)) : Bool := fns.all fun p => match us[p.2]? with
  | some u => decide (u.d.name = p.1)
  | none => false
theorem lookup_mem {α β : Type} [BEq α] [LawfulBEq α] {x : α} {y : β} : ∀ {l : List (α × β)}, l.lookup x = some y → (x, y) ∈ l
  | [], h => by cases h
  | (a, b) :: l, h => by
    rw [List.lookup_cons] at h
    cases e : (x == a) with
    | true => rw [e] at h; cases h; rw [eq_of_beq e]; exact List.mem_cons_self
    | false => rw [e] at h; exact List.mem_cons_of_mem _ (lookup_mem h)
theorem fnsC_ok {us : List UDef} {fns : List (Str × Nat)} (h : fnsC us fns = true) : fnsOk us fns := fun x f e => by
  have h1 := List.all_eq_true.mp h _ (lookup_mem e)
  dsimp only at h1
  split at h1
  · rename_i u eu
    exact ⟨u, eu, of_decide_eq_true h1⟩
  · cases h1

/-! ### the head's facts -/
def exB (fns : List (Str × Nat)) (kon : List (Str × D)) (blt : List Str) (K : PySem.W.Frag) : Bool :=
  (fns.all fun p => (He.Fa.glo p.1).ok K) && ((blt.all fun x => (He.Fa.free x).ok K) && kon.all fun p => match PySem.W.nsIn K mainGlobals p.1 with
    | some (some u) => conB K p.2 u
    | _ => false)
abbrev AlU : Type := He.AlD × Bool
def SaysU (fn : List He.DefD) (ex : PySem.W.Frag → Bool) (K : PySem.W.Frag) : Prop := He.SaysD [] fn K ∧ ex K = true
def obsU (n : Nat) (fn : List He.DefD) (ex : PySem.W.Frag → Bool) (g : Addr → Option Obj) : AlU := (He.obsD [] fn (He.frG g (He.asD g n)), ex (He.frG g (He.asD g n)))
def hookU (n : Nat) (fn : List He.DefD) (ex : PySem.W.Frag → Bool) : PySem.W.Hook where
  α := AlU
  obs := fun s => obsU n fn ex s.heap.get?
  val := fun _ => (He.valD fn, true)
  says := fun _ h => ∃ K : PySem.W.Frag, K.In h ∧ SaysU fn ex K
  of := fun _ _ e => ⟨_, He.frG_in, congrArg (fun z : AlU => z.1) e, congrArg (fun z : AlU => z.2) e⟩
  keeps := fun _ _ _ ⟨K, hK, c⟩ k => ⟨K, PySem.W.Frag.In.keeps hK k, c⟩
theorem obsU_eq {n : Nat} {fn : List He.DefD} {ex : PySem.W.Frag → Bool} {g : Addr → Option Obj} {s : Shared} (h : ∀ a, g a = s.heap.get? a) : obsU n fn ex g = (hookU n fn ex).obs s := by
  have e : g = s.heap.get? := funext h
  rw [e] <;> rfl

section
variable {P : Program} {w : World} {K : PySem.W.Frag} {mg : Str → Option Value} {base : Heap} {k : Nat}
theorem fnG_ofD {N ps : List Str} {x qual : Str} {params : Arguments} {body : List Stmt} {scope : Scope} {dvs : List V} {kws : List (Str × V)} {f : Addr} {fd : FuncData} {sp : Sp} {CX : CXT} (F : FunD K x qual params body scope dvs kws f fd) (S : FnScope N ps scope) (len : ∀ vs H Q E, sp vs H Q E → vs.length = ps.length)
    (hbody : ∀ (cdv : Value) (A : Around) (outer : List PySem.Env) (s : Shared) (H : Hp) (vs : List V) (Q : VK) (E : XK), A.guards = some [] →
      Room k (A.deeper (envOfC qual scope s.heap.objs.size f cdv)) → sp vs H Q E →
      ∃ t, PSs (cxOf CX P w K mg base N qual scope f cdv A outer s H E) body t ∧ t { nx := fun _ H' => Q .non H', rt := Q } (start N vs) H) :
    FnG P w K mg base CX (k + 1) f fd ps sp := by
  obtain ⟨oc, od, dV, kV, doc, pm, an, cdv, ct, osl, efd, lk, hcd, _, _⟩ := F.ex
  subst efd
  constructor
  · exact len
  · intro A outer s H args us vs Q E hg room e0 hb hv hsp
    have inK := e0.mod.kin.keeps (fun b o e => (e0.bs b o e).1)
    refine codeAny_call_function room.depth (inK f _ lk) rfl S.co S.gen rfl (PySem.W.codeRec_of inK hcd) (hb _ _ _ _ ?_)
    refine wpAny_newFunctionEnv_cells S.kind ?_ (fun env he s1 x => ?_)
    · rintro ⟨n, v⟩ hy
      cases S.par n (List.of_mem_zip hy).1 with
      | inl q => exact Or.inl q
      | inr q => exact Or.inr (And.intro q (PySem.W.cellsFrom_some _ _ _ (Or.inl q)))
    · subst he
      refine And.intro ((e0.mod.nolimit.keeps (fun b o e => (e0.bs b o e).1)).keeps x.toInCall.keep) (codeAny_func ?_)
      obtain ⟨t, ht, hq⟩ := hbody cdv A outer s H vs Q E hg (room.deeper _) hsp
      have start := inv_start (CX := CX) (E := E) S room.hd e0 (len _ _ _ _ hsp) hv x
      refine wpAny_mono (ht.run [] s1 _ H _ start hq) ?_ (fun _ _ z => z)
      intro fl s' z
      cases fl with
      | next => obtain ⟨_, H', J, q⟩ := z; exact ⟨V.non, H', J.os, J.bare, J.base, J.hok, rfl, q⟩
      | ret u => obtain ⟨v, _, H', J, rv, q⟩ := z; exact ⟨v, H', J.os, J.bare, J.base, J.hok, rv, q⟩
      | cont => obtain ⟨_, _, _, q⟩ := z; exact q.elim
      | brk => obtain ⟨_, _, _, q⟩ := z; exact q.elim

variable {us : List UDef} {fns : List (Str × Nat)} {kon : List (Str × D)} {blt : List Str}
theorem kon_ok (X : ∀ {y v}, PySem.W.nsIn K mainGlobals y = some (some v) → mg y = some v) (h : (kon.all fun p => match PySem.W.nsIn K mainGlobals p.1 with
    | some (some u) => conB K p.2 u
    | _ => false) = true) {x : Str} {d : D} (e : kon.lookup x = some d) : ∃ (u : Value) (v : V), mg x = some u ∧ RelV v u ∧ ∀ F g, RD K F g d v := by
  have h1 := List.all_eq_true.mp h _ (lookup_mem e)
  dsimp only at h1
  split at h1
  · rename_i u eu
    obtain ⟨v, hv, hd⟩ := conB_ok d u h1
    exact ⟨u, v, X eu, hv, hd⟩
  · cases h1
theorem def_at {i : Nat} {u : UDef} (c : He.SaysD [] (us.map (·.d)) K) (O : ∀ u ∈ us, UOk fns kon blt u) (h : us[i]? = some u) : ∃ fd, FunD K u.d.name u.d.qual u.d.params u.d.body u.d.scope [] [] (He.ga K u.d.name) fd := by
  obtain ⟨fd, F⟩ := c.def_ i (d := u.d) (by rw [List.getElem?_map, h]; rfl)
  have o := O u (List.mem_of_getElem? h)
  refine ⟨fd, ?_⟩
  unfold He.DefD.dvs He.DefD.kws at F
  rw [o.dfl, o.kwd, o.at_] at F
  exact F
/-- every def keeps what its tree says -/
theorem defs_ok {h : Heap} (KX : K.In h) (G : h.Ns mainGlobals mg) (c : SaysU (us.map (·.d)) (exB fns kon blt) K) (O : ∀ u ∈ us, UOk fns kon blt u) (fo : fnsOk us fns) :
    ∀ (n i : Nat) (u : UDef) (fd : FuncData), us[i]? = some u → FunD K u.d.name u.d.qual u.d.params u.d.body u.d.scope [] [] (He.ga K u.d.name) fd → FnG P w K mg base CX0 n (He.ga K u.d.name) fd u.ps (spC K (callN (tbl us) n) u.fd.np i)
  | 0, i, u, fd, hu, F => by
    have o := O u (List.mem_of_getElem? hu)
    refine ⟨fun vs H Q E h => ?_, fun A outer s H args us vs Q E _ _ _ _ _ h => ?_⟩
    · obtain ⟨w, S, svs, hl, hr, q, p⟩ := h
      rw [q.len, hl, o.np]
    · obtain ⟨w, S, svs, hl, hr, q, p⟩ := h
      exact False.elim p
  | n + 1, i, u, fd, hu, F => by
    have o := O u (List.mem_of_getElem? hu)
    have et : tbl us i = some u.fd := by unfold tbl; rw [hu]; rfl
    refine fnG_ofD F o.sc (fun vs H Q E h => ?_) fun cdv A outer s H vs Q E hg hr h => ?_
    · obtain ⟨w, S, svs, hl, hr, q, p⟩ := h
      rw [q.len, hl, o.np]
    · obtain ⟨w', S, svs, hl, hr', q, p⟩ := h
      obtain ⟨e1, e2⟩ := ba2 c.2
      obtain ⟨e2, e3⟩ := ba2 e2
      have x : XOk (u.ci fns kon blt) (callN (tbl us) n) n (cxOf CX0 P w K mg base u.N u.d.qual u.d.scope (He.ga K u.d.name) cdv A outer s H E).nox u.d.scope :=
        { calm := rfl, gd := hg, un := by have := hr.un; show (A.deeper _).units + 65 < cLine; omega, N := rfl, nd := o.sc.nd, sc := rfl, kd := o.sc.kind, rm := hr, xe := rfl
          fns := fun y f ey => by
            obtain ⟨v, hv, en⟩ := fo y f ey
            have ov := O v (List.mem_of_getElem? hv)
            obtain ⟨fdv, Fv⟩ := def_at c.1 O hv
            have g := List.all_eq_true.mp e1 _ (lookup_mem ey)
            subst en
            refine ⟨He.ga K v.d.name, fdv, v.ps, v.fd.np, He.glo_ok KX G g, Fv.kp, Fv.bindsN ov.binds, defs_ok KX G c O fo n f v fdv hv Fv, fun vs S r S' e => ?_⟩
            cases n with
            | zero => cases e
            | succ n =>
              have et : tbl us f = some v.fd := by unfold tbl; rw [hv]; rfl
              unfold callN at e
              rw [et] at e
              exact runF_len e
          kon := fun y d ey => kon_ok (fun e => PySem.W.mg_of KX G e) e3 ey
          blt := fun y hy => He.free_ok KX G (List.all_eq_true.mp e2 y hy) }
      refine ⟨_, PSs.nox (body_ok (fun s _ d h => stmt_ok 60 _ s d x rfl h) o.body), ?_⟩
      have p : Post K w' Q (runF (callN (tbl us) n) u.fd svs S) := by
        have p : Post K w' Q (callN (tbl us) (n + 1) i svs S) := p
        unfold callN at p
        rw [et] at p
        exact p
      exact run_fd o.ns hr' q p
end
/-- a law's end over such a head -/
theorem walk_U {l : PySem.W.OpenLaw} {n k : Nat} {q : Program} {loose : List Str} {XP : (Str → Option Value) → Heap → Prop} {YP : World → Heap → Prop} {d : DefRec} {x : Str}
    (hn : l.most = some n) (hn2 : n ≤ sizeLine) (hdf : d.params.defaults = []) (hr : Room k callerA)
    (F : ∀ (w : World) (mg : Str → Option Value) (fa : Addr) (h : Heap), YP w h → h.Ns mainGlobals mg → mg d.name = some (.ref fa) →
      ∃ (K : PySem.W.Frag) (fd : FuncData) (sp : Sp), K.In h ∧ (∀ (s : Shared) (u : Value), BindsTo s fd ⟨[u], []⟩ [(x, u)]) ∧
        (∀ (H : Hp) (a : Addr) (ns : List Int), ns.length ≤ n → SqL K H a (ns.map V.int) → sp [.ref a] H (fun v _ => v = .bl true) fun _ _ _ => False) ∧
        ∀ base : Heap, K.In base → base.Ns mainGlobals mg → FnG l.prog w K mg base CX0 k fa fd [x] sp) :
    PySem.W.WalkO q loose XP YP l.row.toRowW d [] (fun f vs => PySem.call f vs) := by
  apply Att.attach_call hn hdf
  intro w s₀ s₁ mg mb fa o pm cd doc a vs ns G Y ho hd hcd hmg hobj hints hlen hg
  obtain ⟨K, fd, sp, KX, hb, hsp, hF⟩ := F w mg fa _ Y G.T.g hmg
  exact law_callG KX G.T.g G.T.b G.T.builtins G.T.nolimit hg hobj hints (Nat.le_trans hlen hn2) hr hF hb fun H hS => hsp H a ns hlen hS
theorem sp_start {K : PySem.W.Frag} {C : Nat → List SV → M RV} {i : Nat} {H : Hp} {a : Addr} {ns : List Int} {S' : St} (hS : SqL K H a (ns.map V.int)) (h : C i [.d (.rol (ns.map D.int))] ⟨[], [], []⟩ = .ok (.d (.bl true)) S') :
    spC K C 1 i [.ref a] H (fun v _ => v = .bl true) fun _ _ _ => False := by
  refine ⟨⟨H, [], [], [], []⟩, ⟨[], [], []⟩, [.d (.rol (ns.map D.int))], rfl, ⟨sub.refl H, rfl, rfl, rfl, ?_, .nil⟩, ⟨_, _, rfl, ⟨a, _, rfl, hS, rds_ints K ns⟩, rfl⟩, ?_⟩
  · intro p hp; cases hp
  · rw [h]
    exact fun w' H' v _ _ q => q
/-- the law's def, off the table -/
theorem law_U {l : PySem.W.OpenLaw} {n k i : Nat} {us : List UDef} {fns : List (Str × Nat)} {kon : List (Str × D)} {blt : List Str} {u : UDef} {x : Str} {q : Program} {loose : List Str} {XP : (Str → Option Value) → Heap → Prop} {d : DefRec} {m : Nat}
    (hn : l.most = some n) (hn2 : n ≤ sizeLine) (hdf : d.params.defaults = []) (hr : Room k callerA) (hi : us[i]? = some u) (hps : u.ps = [x]) (hname : d.name = u.d.name) (hin : fns.lookup u.d.name = some i)
    (O : ∀ u ∈ us, UOk fns kon blt u) (fo : fnsOk us fns)
    (law : ∀ ns : List Int, ns.length ≤ n → ∃ S', callN (tbl us) k i [.d (.rol (ns.map D.int))] ⟨[], [], []⟩ = .ok (.d (.bl true)) S') :
    PySem.W.WalkO q loose XP (hookU m (us.map (·.d)) (exB fns kon blt)).says l.row.toRowW d [] (fun f vs => PySem.call f vs) := by
  refine walk_U (k := k) (x := x) hn hn2 hdf hr fun w mg fa h Y G hmg => ?_
  obtain ⟨K, KX, c⟩ := Y
  obtain ⟨fd, F⟩ := def_at c.1 O hi
  have o := O u (List.mem_of_getElem? hi)
  have e : mg u.d.name = some (.ref (He.ga K u.d.name)) := He.glo_ok KX G (List.all_eq_true.mp (ba2 c.2).1 _ (lookup_mem hin))
  rw [hname, e] at hmg
  cases hmg
  have hnp : u.fd.np = 1 := by rw [o.np, hps]; rfl
  refine ⟨K, fd, spC K (callN (tbl us) k) 1 i, KX, fun s v => ?_, fun H a ns hl hS => ?_, fun base hb hg => ?_⟩
  · have := F.bindsA o.binds s [v] (by rw [hps]; rfl)
    rw [hps] at this
    exact this
  · obtain ⟨S', e⟩ := law ns hl
    exact sp_start hS e
  · have := defs_ok (P := l.prog) (w := w) (base := base) KX G c O fo k i u fd hi F
    rw [hnp, hps] at this
    exact this
end U

/-! UTac: reading the trees. -/
namespace U
open PySem

/-- the result is a value with Q -/
def Res.post {α : Type} (r : Res α) (Q : α → St → Prop) : Prop := match r with
  | .ok a S => Q a S
  | _ => False
@[simp] theorem post_ok {α : Type} {a : α} {S : St} {Q : α → St → Prop} : (Res.ok a S).post Q = Q a S := (rfl)
theorem post_mono {α : Type} {r : Res α} {Q Q' : α → St → Prop} (h : r.post Q) (i : ∀ a S, Q a S → Q' a S) : r.post Q' := by
  cases r with
  | ok a S => exact i a S h
  | exc _ _ => exact h.elim
  | bad => exact h.elim
theorem post_ex {α : Type} {r : Res α} {Q : α → St → Prop} (h : r.post Q) : ∃ a S, r = .ok a S ∧ Q a S := by
  cases r with
  | ok a S => exact ⟨a, S, rfl, h⟩
  | exc _ _ => exact h.elim
  | bad => exact h.elim
/-- sequencing, as simp sees it -/
structure Tok {α : Type} (f : α) : Type where
def Res.go {α β : Type} (r : Res α) (f : α → St → Res β) (t : Tok f := ⟨⟩) : Res β := match r with
  | .ok a S => f a S
  | .exc e S => .exc e S
  | .bad => .bad
@[simp] theorem go_ok {α β : Type} {a : α} {S : St} {f : α → St → Res β} : (Res.ok a S).go f = f a S := (rfl)
@[simp] theorem bind_go {α β : Type} {m : M α} {f : α → M β} {S : St} : M.bind m f S = (m S).go f := (rfl)
@[simp] theorem ret_go {α : Type} {a : α} {S : St} : M.ret a S = .ok a S := (rfl)
@[simp] theorem bad_go {α : Type} {S : St} : (M.bad S : Res α) = .bad := (rfl)
@[simp] theorem opt_some {α : Type} {a : α} {S : St} : M.opt (some a) S = .ok a S := (rfl)
@[simp] theorem st_eta {S : St} : (⟨S.own, S.out, S.gl⟩ : St) = S := (rfl)
theorem post_go {α β : Type} {r : Res α} {f : α → St → Res β} {Q : β → St → Prop} (h : r.post fun a S => (f a S).post Q) : (r.go f).post Q := by
  cases r with
  | ok a S => exact h
  | exc _ _ => exact h.elim
  | bad => exact h.elim
/-- a call: the frame -/
def St.call (S : St) : St := ⟨[], S.own :: S.out, S.gl⟩
def endR (r : Res Flow) : Res RV := match r with
  | .ok (.ret r) S1 => leave S1 r
  | .ok (.next _) S1 => leave S1 (.d .non)
  | .ok _ _ => .bad
  | .exc e S1 => match popS S1 with
    | some S2 => .exc e S2
    | none => .bad
  | .bad => .bad
theorem call_eq {T : Nat → Option FD} {n f : Nat} {F : FD} {vs : List SV} {S : St} (h : T f = some F) (hl : vs.length = F.np) : callN T (n + 1) f vs S = endR (evS (callN T n) F.body ((vs.map fun v => some (shift v)) ++ List.replicate (F.ns - F.np) none) S.call) := by
  unfold callN
  rw [h]
  unfold runF
  dsimp only
  rw [if_pos hl]
  rfl
@[simp] theorem endR_ret {r : RV} {S : St} : endR (.ok (.ret r) S) = leave S r := (rfl)
@[simp] theorem endR_next {ρ : Env} {S : St} : endR (.ok (.next ρ) S) = leave S (.d .non) := (rfl)
@[simp] theorem leave_d {d : D} {S : St} {l : List LO} {r : List (List LO)} {g : List LO} {o : List LO} : leave ⟨o, l :: r, g⟩ (.d d) = .ok (.d d) ⟨l, r, g⟩ := (rfl)
@[simp] theorem leave_call {d : D} {S : St} : leave S.call (.d d) = .ok (.d d) S := (rfl)
@[simp] theorem leave_new {c : CO} {l : List LO} {r : List (List LO)} {g : List LO} {o : List LO} : leave ⟨o, l :: r, g⟩ (.new c) = .ok (.new c) ⟨l, r, g⟩ := (rfl)
@[simp] theorem leave_cnew {c : CO} {S : St} : leave S.call (.new c) = .ok (.new c) S := (rfl)
@[simp] theorem call_own {S : St} : S.call.own = [] := (rfl)
@[simp] theorem call_out {S : St} : S.call.out = S.own :: S.out := (rfl)
@[simp] theorem call_gl {S : St} : S.call.gl = S.gl := (rfl)
theorem ownFree_take {n : Nat} {ρ : Env} {S : St} (h : S.own.length = n) : trim n ρ S = S := by
  unfold trim
  split
  · rw [← h, List.take_length]
  · rfl
@[simp] theorem trim_self {ρ : Env} {S : St} : trim S.own.length ρ S = S := ownFree_take rfl
@[simp] theorem trim_zero {ρ : Env} {S : St} : trim 0 ρ S.call = S.call := ownFree_take rfl
/-- a while's turn -/
theorem whL_on {c : Env → M RV} {body : Env → M Flow} {ρ0 ρ : Env} {n0 n : Nat} {S : St} (h : c ρ S = .ok (.d (.bl true)) S) : whL c body ρ0 n0 (n + 1) ρ S = match body ρ S with
    | .ok (.next ρ2) S2 => whL c body ρ0 n0 n (mask ρ0 ρ2) (trim n0 (mask ρ0 ρ2) S2)
    | .ok (.cont ρ2) S2 => whL c body ρ0 n0 n (mask ρ0 ρ2) (trim n0 (mask ρ0 ρ2) S2)
    | .ok (.brk ρ2) S2 => .ok (.next (mask ρ0 ρ2)) (trim n0 (mask ρ0 ρ2) S2)
    | .ok (.ret r) S2 => .ok (.ret r) S2
    | .exc e S2 => .exc e S2
    | .bad => .bad := by
  rw [whL]
  dsimp only
  rw [h]
  rfl
theorem whL_off {c : Env → M RV} {body : Env → M Flow} {ρ0 ρ : Env} {n0 n : Nat} {S : St} (h : c ρ S = .ok (.d (.bl false)) S) : whL c body ρ0 n0 (n + 1) ρ S = .ok (.next ρ) S := by
  rw [whL]
  dsimp only
  rw [h]
  rfl
/-- a for by an invariant -/
theorem forL_inv {chk : St → Bool} {put : D → Env → Option Env} {body : Env → M Flow} {ρ0 : Env} {n0 : Nat} {Q : Flow → St → Prop} (I : List D → Env → St → Prop)
    (hs : ∀ x xs ρ S, I (x :: xs) ρ S → chk S = true ∧ ∃ ρ1, put x ρ = some ρ1 ∧ (body ρ1 S).post fun fl S2 => match fl with
      | .next ρ2 => I xs (mask ρ0 ρ2) (trim n0 (mask ρ0 ρ2) S2)
      | .cont ρ2 => I xs (mask ρ0 ρ2) (trim n0 (mask ρ0 ρ2) S2)
      | .brk ρ2 => Q (.next (mask ρ0 ρ2)) (trim n0 (mask ρ0 ρ2) S2)
      | .ret r => Q (.ret r) S2)
    (hn : ∀ ρ S, I [] ρ S → chk S = true ∧ Q (.next ρ) S) : ∀ (xs : List D) (ρ : Env) (S : St), I xs ρ S → (forL chk put body ρ0 n0 xs ρ S).post Q
  | [], ρ, S, h => by
    obtain ⟨h1, h2⟩ := hn ρ S h
    unfold forL
    rw [if_pos h1]
    exact h2
  | x :: xs, ρ, S, h => by
    obtain ⟨h1, ρ1, h2, h3⟩ := hs x xs ρ S h
    unfold forL
    rw [if_pos h1, h2]
    dsimp only
    obtain ⟨fl, S2, e, h3⟩ := post_ex h3
    rw [e]
    cases fl with
    | next ρ2 => exact forL_inv I hs hn xs _ _ h3
    | cont ρ2 => exact forL_inv I hs hn xs _ _ h3
    | brk ρ2 => exact h3
    | ret r => exact h3

/-! ### the equations, step by step -/
theorem go_ext {α β : Type} {r : Res α} {f g : α → St → Res β} (h : ∀ a S, f a S = g a S) : r.go f = r.go g := by
  have : f = g := funext fun a => funext fun S => h a S
  subst this
  rfl
def tr {β : Type} (v : RV) (k : Bool → Res β) (t : Tok k := ⟨⟩) : Res β := match truth v with
  | some b => k b
  | none => .bad
@[simp] theorem tr_bl {β : Type} {b : Bool} {k : Bool → Res β} : tr (.d (.bl b)) k = k b := (rfl)
def pick {β : Type} (b : Bool) (x y : Unit → Res β) (t : Tok x := ⟨⟩) (t2 : Tok y := ⟨⟩) : Res β := match b with
  | true => x ()
  | false => y ()
@[simp] theorem pick_t {β : Type} {x y : Unit → Res β} : pick true x y = x () := (rfl)
@[simp] theorem pick_f {β : Type} {x y : Unit → Res β} : pick false x y = y () := (rfl)
def lift1 (o : Option RV) (S : St) : Res RV := M.opt o S
@[simp] theorem lift_some {r : RV} {S : St} : lift1 (some r) S = .ok r S := (rfl)
def binV (op : BOp) (x y : RV) (S : St) : Res RV := match view S (hold x).rv, view S y with
  | some d, some e => lift1 (bop op d e) S
  | _, _ => .bad
def cmpV (op : COp) (x y : RV) (S : St) : Res RV := match view S (hold x).rv, view S y with
  | some d, some e => (match cop op d e with
    | some b => .ok (.d (.bl b)) S
    | none => .bad)
  | _, _ => .bad
def b1V (b : B1) (x : RV) (S : St) : Res RV := match view S x with
  | some d => lift1 (blt1 b d) S
  | none => .bad
def b2V (b : B1) (x y : RV) (S : St) : Res RV := match view S (hold x).rv, view S y with
  | some d, some e => lift1 (blt2 b d e) S
  | _, _ => .bad
def ixV (x y : RV) (S : St) : Res RV := match view S (hold x).rv, view S y with
  | some d, some e => (match getIx d e with
    | some v => .ok (.d v) S
    | none => .bad)
  | _, _ => .bad
def negV (x : RV) (S : St) : Res RV := match x with
  | .d (.int i) => .ok (.d (.int (-i))) S
  | _ => .bad
def varV (ρ : Env) (i : Nat) (S : St) : Res RV := match ρ[i]? with
  | some (some v) => .ok v.rv S
  | _ => .bad
section
variable {C : Nat → List SV → M RV} {ρ : Env} {S : St} {a b c : DE} {op : BOp}
@[simp] theorem E_con {d : D} : evE C (.con d) ρ S = .ok (.d d) S := (rfl)
@[simp] theorem E_var {i : Nat} : evE C (.var i) ρ S = varV ρ i S := (rfl)
@[simp] theorem E_bin : evE C (.bin op a b) ρ S = (evE C a ρ S).go fun x S1 => (evE C b ρ S1).go fun y S2 => binV op x y S2 := (rfl)
@[simp] theorem E_cmp {op : COp} : evE C (.cmp op a b) ρ S = (evE C a ρ S).go fun x S1 => (evE C b ρ S1).go fun y S2 => cmpV op x y S2 := (rfl)
@[simp] theorem E_neg : evE C (.neg a) ρ S = (evE C a ρ S).go fun x S1 => negV x S1 := by
  show M.bind _ _ S = _
  rw [bind_go]
  refine go_ext fun x S1 => ?_
  cases x with
  | d d => cases d <;> rfl
  | loc _ _ => rfl
  | new _ => rfl
@[simp] theorem E_not : evE C (.not a) ρ S = (evE C a ρ S).go fun x S1 => tr x fun b => .ok (.d (.bl (!b))) S1 := by
  show M.bind _ _ S = _
  rw [bind_go]
  refine go_ext fun x S1 => ?_
  unfold tr
  generalize truth x = t
  cases t with
  | none => rfl
  | some b => cases b <;> rfl
@[simp] theorem E_and : evE C (.and a b) ρ S = (evE C a ρ S).go fun x S1 => tr x fun v => pick v (fun _ => evE C b ρ S1) fun _ => .ok (.d (.bl false)) S1 := by
  show M.bind _ _ S = _
  rw [bind_go]
  refine go_ext fun x S1 => ?_
  unfold tr
  generalize truth x = t
  cases t with
  | none => rfl
  | some b => cases b <;> rfl
@[simp] theorem E_or : evE C (.or a b) ρ S = (evE C a ρ S).go fun x S1 => tr x fun v => pick v (fun _ => .ok (.d (.bl true)) S1) fun _ => evE C b ρ S1 := by
  show M.bind _ _ S = _
  rw [bind_go]
  refine go_ext fun x S1 => ?_
  unfold tr
  generalize truth x = t
  cases t with
  | none => rfl
  | some b => cases b <;> rfl
@[simp] theorem E_ife {t : DE} : evE C (.ife t a b) ρ S = (evE C t ρ S).go fun x S1 => tr x fun v => pick v (fun _ => evE C a ρ S1) fun _ => evE C b ρ S1 := by
  show M.bind _ _ S = _
  rw [bind_go]
  refine go_ext fun x S1 => ?_
  unfold tr
  generalize truth x = t
  cases t with
  | none => rfl
  | some b => cases b <;> rfl
@[simp] theorem E_call {f : Nat} {es : DE} : evE C (.call f es) ρ S = (evA C es ρ S).go fun vs S1 => C f vs S1 := (rfl)
@[simp] theorem E_b1 {k : B1} : evE C (.b1 k a) ρ S = (evE C a ρ S).go fun x S1 => b1V k x S1 := (rfl)
@[simp] theorem E_b2 {k : B1} : evE C (.b2 k a b) ρ S = (evE C a ρ S).go fun x S1 => (evE C b ρ S1).go fun y S2 => b2V k x y S2 := (rfl)
@[simp] theorem E_ix : evE C (.ix a b) ρ S = (evE C a ρ S).go fun x S1 => (evE C b ρ S1).go fun y S2 => ixV x y S2 := (rfl)
@[simp] theorem E_tup {es : DE} : evE C (.tup es) ρ S = (evK C es ρ S).go fun ds S1 => if sz ds.length = true then .ok (.d (.tup ds)) S1 else .bad := (rfl)
@[simp] theorem E_lst {es : DE} : evE C (.lst es) ρ S = (evK C es ρ S).go fun ds S1 => if sz ds.length = true then .ok (.new (.lst ds)) S1 else .bad := (rfl)
@[simp] theorem A_nil : evA C .nil ρ S = .ok [] S := (rfl)
@[simp] theorem A_cons : evA C (.cons a b) ρ S = (evE C a ρ S).go fun x S1 => (evA C b ρ S1).go fun xs S2 => .ok (hold x :: xs) S2 := (rfl)
@[simp] theorem K_nil : evK C .nil ρ S = .ok [] S := (rfl)
@[simp] theorem K_cons : evK C (.cons a b) ρ S = (evE C a ρ S).go fun x S1 => (keep x S1).go fun d S2 => (evK C b ρ S2).go fun xs S3 => .ok (d :: xs) S3 := (rfl)
@[simp] theorem P_nil : evP C .nil ρ S = .ok none S := (rfl)
def partV (x : RV) (S : St) : Res (Option Int) := match dataInt x with
    | some i => .ok (some i) S
    | none => .bad
@[simp] theorem part_int {i : Int} : partV (.d (.int i)) S = .ok (some i) S := (rfl)
@[simp] theorem P_cons : evP C (.cons a b) ρ S = (evE C a ρ S).go fun x S1 => partV x S1 := by
  show M.bind _ _ S = _
  rw [bind_go]
  refine go_ext fun x S1 => ?_
  unfold partV
  generalize dataInt x = t
  cases t <;> rfl
@[simp] theorem keep_d {d : D} : keep (.d d) S = .ok d S := (rfl)
@[simp] theorem keep_new {c : CO} : keep (.new c) S = .ok c.dat S := (rfl)
@[simp] theorem dat_lst {ds : List D} : (CO.lst ds).dat = .lst ds := (rfl)
@[simp] theorem hold_d {d : D} : hold (.d d) = .d d := (rfl)
@[simp] theorem hold_locR {u i : Nat} : hold (.loc u i) = .loc u i := (rfl)
@[simp] theorem hold_new {c : CO} : hold (.new c) = .d c.dat := (rfl)
@[simp] theorem rv_d {d : D} : (SV.d d).rv = .d d := (rfl)
@[simp] theorem rv_loc {u i : Nat} : (SV.loc u i).rv = .loc u i := (rfl)
@[simp] theorem sh_d {d : D} : shift (.d d) = .d d := (rfl)
@[simp] theorem sh_loc {u i : Nat} : shift (.loc u i) = .loc (u + 1) i := (rfl)
@[simp] theorem dI_int {i : Int} : dataInt (.d (.int i)) = some i := (rfl)
/-! statements -/
def flowGo (r : Res Flow) (k : Env → St → Res Flow) (t : Tok k := ⟨⟩) : Res Flow := match r with
  | .ok (.next ρ) S => k ρ S
  | r => r
@[simp] theorem fg_next {k : Env → St → Res Flow} : flowGo (.ok (.next ρ) S) k = k ρ S := (rfl)
@[simp] theorem fg_ret {k : Env → St → Res Flow} {r : RV} : flowGo (.ok (.ret r) S) k = .ok (.ret r) S := (rfl)
@[simp] theorem fg_brk {k : Env → St → Res Flow} : flowGo (.ok (.brk ρ) S) k = .ok (.brk ρ) S := (rfl)
@[simp] theorem fg_cont {k : Env → St → Res Flow} : flowGo (.ok (.cont ρ) S) k = .ok (.cont ρ) S := (rfl)
variable {x y : DS}
def setV (ρ : Env) (i : Nat) (m : Bool) (r : RV) (S : St) : Res Flow := match r, m with
    | .new c, true => .ok (.next (ρ.set i (some (.loc 0 S.own.length)))) { S with own := S.own ++ [⟨false, c⟩] }
    | r, _ => .ok (.next (ρ.set i (some (hold r)))) S
@[simp] theorem set_d {i : Nat} {m : Bool} {d : D} : setV ρ i m (.d d) S = .ok (.next (ρ.set i (some (.d d)))) S := (rfl)
@[simp] theorem set_loc {i u j : Nat} {m : Bool} : setV ρ i m (.loc u j) S = .ok (.next (ρ.set i (some (.loc u j)))) S := (rfl)
@[simp] theorem set_newf {i : Nat} {c : CO} : setV ρ i false (.new c) S = .ok (.next (ρ.set i (some (.d c.dat)))) S := (rfl)
@[simp] theorem set_newt {i : Nat} {c : CO} : setV ρ i true (.new c) S = .ok (.next (ρ.set i (some (.loc 0 S.own.length)))) { S with own := S.own ++ [⟨false, c⟩] } := (rfl)
@[simp] theorem S_skip : evS C .skip ρ S = .ok (.next ρ) S := (rfl)
@[simp] theorem S_seq : evS C (.seq x y) ρ S = flowGo (evS C x ρ S) fun ρ1 S1 => evS C y ρ1 S1 := by
  show M.bind _ _ S = _
  rw [bind_go]
  unfold flowGo
  cases e : evS C x ρ S with
  | ok f S1 => cases f <;> rfl
  | exc _ _ => rfl
  | bad => rfl
@[simp] theorem S_expr {e : DE} : evS C (.expr e) ρ S = (evE C e ρ S).go fun _ S1 => .ok (.next ρ) S1 := (rfl)
@[simp] theorem S_set {i : Nat} {m : Bool} {e : DE} : evS C (.set i m e) ρ S = (evE C e ρ S).go fun r S1 => setV ρ i m r S1 := by
  show M.bind _ _ S = _
  rw [bind_go]
  refine go_ext fun r S1 => ?_
  cases r <;> cases m <;> rfl
@[simp] theorem S_ret {e : DE} : evS C (.ret e) ρ S = (evE C e ρ S).go fun r S1 => .ok (.ret r) S1 := (rfl)
@[simp] theorem S_retN : evS C .retN ρ S = .ok (.ret (.d .non)) S := (rfl)
@[simp] theorem S_ife {c : DE} : evS C (.ife c x y) ρ S = (evE C c ρ S).go fun v S1 => tr v fun b => pick b (fun _ => evS C x ρ S1) fun _ => evS C y ρ S1 := by
  show M.bind _ _ S = _
  rw [bind_go]
  refine go_ext fun x S1 => ?_
  unfold tr
  generalize truth x = t
  cases t with
  | none => rfl
  | some b => cases b <;> rfl
@[simp] theorem S_brk : evS C .brk ρ S = .ok (.brk ρ) S := (rfl)
@[simp] theorem S_cont : evS C .cont ρ S = .ok (.cont ρ) S := (rfl)
theorem S_whl {c : DE} : evS C (.whl c x) ρ S = whL (evE C c) (evS C x) ρ S.own.length 1000000000 ρ S := (rfl)
@[simp] theorem S_for {tg : Tg} {it : DE} : evS C (.for_ tg it x) ρ S = (evW C it ρ S).go fun w S1 => forL w.chk (putT tg) (evS C x) ρ S1.own.length w.xs ρ S1 := (rfl)
def unpV (is : List Nat) (r : RV) (ρ : Env) (S : St) : Res Flow := match unpD r with
    | some ds => (match puts is ds ρ with
      | some ρ1 => .ok (.next ρ1) S
      | none => .bad)
    | none => .bad
@[simp] theorem unpD_tup {ds : List D} : unpD (.d (.tup ds)) = some ds := (rfl)
@[simp] theorem unpD_lst {ds : List D} : unpD (.d (.lst ds)) = some ds := (rfl)
@[simp] theorem unpD_new {ds : List D} : unpD (.new (.lst ds)) = some ds := (rfl)
@[simp] theorem S_unp {is : List Nat} {e : DE} : evS C (.unp is e) ρ S = (evE C e ρ S).go fun r S1 => unpV is r ρ S1 := by
  show M.bind _ _ S = _
  rw [bind_go]
  refine go_ext fun r S1 => ?_
  unfold unpV
  generalize unpD r = t
  cases t with
  | none => rfl
  | some ds =>
    dsimp only
    generalize puts is ds ρ = t
    cases t <;> rfl
def stV (r k : RV) (d : D) (ρ : Env) (S : St) : Res Flow := match r, dataInt k with
    | .loc u j, some k => (match S.get u j with
      | some ⟨false, .lst ds⟩ => (match ixN ds.length k with
        | some n => .ok (.next ρ) (S.set u j ⟨false, .lst (ds.set n d)⟩)
        | none => .bad)
      | _ => .bad)
    | _, _ => .bad
@[simp] theorem S_setIx {o i e : DE} : evS C (.setIx o i e) ρ S = (evE C e ρ S).go fun v S1 => (keep v S1).go fun d S2 => (evE C o ρ S2).go fun r S3 => (evE C i ρ S3).go fun k S4 => stV r k d ρ S4 := by
  show M.bind _ _ S = _
  simp only [bind_go]
  refine go_ext fun v S1 => ?_; refine go_ext fun d S2 => ?_; refine go_ext fun r S3 => ?_; refine go_ext fun k S4 => ?_
  cases r with
  | d d => rfl
  | new c => rfl
  | loc u j =>
    unfold stV
    generalize dataInt k = t
    cases t <;> rfl
/-! values -/
variable {i j : Int}
@[simp] theorem bin_int {op : BOp} : binV op (.d (.int i)) (.d (.int j)) S = lift1 (bop op (.int i) (.int j)) S := (rfl)
@[simp] theorem bop_add : bop .add (.int i) (.int j) = some (.d (.int (i + j))) := (rfl)
@[simp] theorem bop_sub : bop .sub (.int i) (.int j) = some (.d (.int (i - j))) := (rfl)
theorem bop_mul (h : small64 i = true ∨ small64 j = true) : bop .mul (.int i) (.int j) = some (.d (.int (i * j))) := if_pos (by simpa using h)
theorem bop_mod (h : 0 < j) : bop .mod (.int i) (.int j) = some (.d (.int (i % j))) := if_pos h
theorem bop_div (h : 0 < j) (h2 : j < 1073741824) : bop .fdiv (.int i) (.int j) = some (.d (.int (i / j))) := if_pos ⟨h, h2⟩
theorem bop_pow (h : 0 ≤ j ∧ j ≤ 1000 ∧ -1000000 ≤ i ∧ i ≤ 1000000) : bop .pow (.int i) (.int j) = some (.d (.int (i ^ j.toNat))) := if_pos h
@[simp] theorem cmp_int {op : COp} : cmpV op (.d (.int i)) (.d (.int j)) S = (match cop op (.int i) (.int j) with
    | some b => .ok (.d (.bl b)) S
    | none => .bad) := (rfl)
@[simp] theorem cop_lt : cop .lt (.int i) (.int j) = some (decide (i < j)) := (rfl)
@[simp] theorem cop_le : cop .le (.int i) (.int j) = some (decide (i ≤ j)) := (rfl)
@[simp] theorem cop_gt : cop .gt (.int i) (.int j) = some (decide (j < i)) := (rfl)
@[simp] theorem cop_ge : cop .ge (.int i) (.int j) = some (decide (j ≤ i)) := (rfl)
@[simp] theorem cop_eq : cop .eq (.int i) (.int j) = some (decide (i = j)) := (rfl)
@[simp] theorem cop_ne : cop .ne (.int i) (.int j) = some (!decide (i = j)) := (rfl)
@[simp] theorem b1_int : b1V .int (.d (.int i)) S = .ok (.d (.int i)) S := (rfl)
@[simp] theorem b1_len_rol {ds : List D} : b1V .len (.d (.rol ds)) S = .ok (.d (.int ds.length)) S := (rfl)
@[simp] theorem b1_len_tup {ds : List D} : b1V .len (.d (.tup ds)) S = .ok (.d (.int ds.length)) S := (rfl)
@[simp] theorem b1_len_lst {ds : List D} : b1V .len (.d (.lst ds)) S = .ok (.d (.int ds.length)) S := (rfl)
@[simp] theorem b1_len_new {ds : List D} : b1V .len (.new (.lst ds)) S = .ok (.d (.int ds.length)) S := (rfl)
@[simp] theorem b2_max : b2V .max (.d (.int i)) (.d (.int j)) S = .ok (.d (.int (if j > i then j else i))) S := (rfl)
@[simp] theorem b2_min : b2V .min (.d (.int i)) (.d (.int j)) S = .ok (.d (.int (if j < i then j else i))) S := (rfl)
@[simp] theorem neg_int : negV (.d (.int i)) S = .ok (.d (.int (-i))) S := (rfl)
theorem ixN_nat {n k : Nat} (h : k < n) : ixN n (k : Int) = some k := by
  unfold ixN
  rw [if_pos (Int.natCast_nonneg k), if_pos (by omega)]
  rfl
theorem ix_rol {ds : List D} {k : Nat} {d : D} (h : ds[k]? = some d) : ixV (.d (.rol ds)) (.d (.int k)) S = .ok (.d d) S := by
  have hk : k < ds.length := (List.getElem?_eq_some_iff.mp h).1
  show (match getIx (.rol ds) (.int k) with
    | some v => (.ok (.d v) S : Res RV)
    | none => .bad) = _
  have e : getIx (.rol ds) (.int k) = some d := by
    show (match ixN ds.length (k : Int) with
      | some k => ds[k]?
      | none => none) = _
    rw [ixN_nat hk]
    exact h
  rw [e]
theorem ix_tup {ds : List D} {k : Nat} {d : D} (h : ds[k]? = some d) : ixV (.d (.tup ds)) (.d (.int k)) S = .ok (.d d) S := by
  have hk : k < ds.length := (List.getElem?_eq_some_iff.mp h).1
  show (match getIx (.tup ds) (.int k) with
    | some v => (.ok (.d v) S : Res RV)
    | none => .bad) = _
  have e : getIx (.tup ds) (.int k) = some d := by
    show (match ixN ds.length (k : Int) with
      | some k => ds[k]?
      | none => none) = _
    rw [ixN_nat hk]
    exact h
  rw [e]
theorem ix_lst {ds : List D} {k : Nat} {d : D} (h : ds[k]? = some d) : ixV (.d (.lst ds)) (.d (.int k)) S = .ok (.d d) S := by
  have hk : k < ds.length := (List.getElem?_eq_some_iff.mp h).1
  show (match getIx (.lst ds) (.int k) with
    | some v => (.ok (.d v) S : Res RV)
    | none => .bad) = _
  have e : getIx (.lst ds) (.int k) = some d := by
    show (match ixN ds.length (k : Int) with
      | some k => ds[k]?
      | none => none) = _
    rw [ixN_nat hk]
    exact h
  rw [e]
theorem small_of {i : Int} (h1 : -18446744073709551616 < i) (h2 : i < 18446744073709551616) : small64 i = true := by
  unfold small64
  rw [decide_eq_true h1, decide_eq_true h2]
  rfl
theorem mul_l (h1 : -18446744073709551616 < i) (h2 : i < 18446744073709551616) : bop .mul (.int i) (.int j) = some (.d (.int (i * j))) := bop_mul (.inl (small_of h1 h2))
theorem mul_r (h1 : -18446744073709551616 < j) (h2 : j < 18446744073709551616) : bop .mul (.int i) (.int j) = some (.d (.int (i * j))) := bop_mul (.inr (small_of h1 h2))
@[simp] theorem mask_nil {ρ : Env} : mask [] ρ = ρ := by unfold mask; rfl
@[simp] theorem mask_some {v : SV} {w : Option SV} {r ρ : Env} : mask (some v :: r) (w :: ρ) = w :: mask r ρ := (rfl)
@[simp] theorem mask_none {w : Option SV} {r ρ : Env} : mask (none :: r) (w :: ρ) = none :: mask r ρ := (rfl)
/-! walks -/
def rng2V (x y : RV) (S : St) : Res Walk := match dataInt x, dataInt y with
    | some i, some j => if (big62 i && big62 j) = true then .ok ⟨rngUp i (j - i).toNat, none⟩ S else .bad
    | _, _ => .bad
def rngDV (x y : RV) (S : St) : Res Walk := match dataInt x, dataInt y with
    | some i, some j => if (big62 i && big62 j) = true then .ok ⟨rngDn i (i - j).toNat, none⟩ S else .bad
    | _, _ => .bad
def rng1V (x : RV) (S : St) : Res Walk := match dataInt x with
    | some j => if big62 j = true then .ok ⟨rngUp 0 j.toNat, none⟩ S else .bad
    | none => .bad
def revV (d : D) (S : St) : Res Walk := match items d with
    | some ds => .ok ⟨ds.reverse, none⟩ S
    | none => .bad
@[simp] theorem W_seq : evW C (.wk .seq a b) ρ S = (evE C a ρ S).go fun x S1 => walkSeq x S1 := (rfl)
@[simp] theorem W_rng1 : evW C (.wk .rng1 a b) ρ S = (evE C a ρ S).go fun x S1 => rng1V x S1 := by
  show M.bind _ _ S = _
  rw [bind_go]
  refine go_ext fun x S1 => ?_
  unfold rng1V
  generalize dataInt x = t
  cases t with
  | none => rfl
  | some j => dsimp only; split <;> rfl
@[simp] theorem W_rng2 : evW C (.wk .rng2 a b) ρ S = (evE C a ρ S).go fun x S1 => (evE C b ρ S1).go fun y S2 => rng2V x y S2 := by
  show M.bind _ _ S = _
  simp only [bind_go]
  refine go_ext fun x S1 => ?_; refine go_ext fun y S2 => ?_
  unfold rng2V
  generalize dataInt x = t
  generalize dataInt y = t2
  cases t with
  | none => rfl
  | some i =>
    cases t2 with
    | none => rfl
    | some j => dsimp only; split <;> rfl
@[simp] theorem W_rngD : evW C (.wk .rngD a b) ρ S = (evE C a ρ S).go fun x S1 => (evE C b ρ S1).go fun y S2 => rngDV x y S2 := by
  show M.bind _ _ S = _
  simp only [bind_go]
  refine go_ext fun x S1 => ?_; refine go_ext fun y S2 => ?_
  unfold rngDV
  generalize dataInt x = t
  generalize dataInt y = t2
  cases t with
  | none => rfl
  | some i =>
    cases t2 with
    | none => rfl
    | some j => dsimp only; split <;> rfl
@[simp] theorem W_rev : evW C (.wk .rev a b) ρ S = (evE C a ρ S).go fun x S1 => (keep x S1).go fun d S2 => revV d S2 := by
  show M.bind _ _ S = _
  simp only [bind_go]
  refine go_ext fun x S1 => ?_; refine go_ext fun d S2 => ?_
  unfold revV
  generalize items d = t
  cases t <;> rfl
@[simp] theorem rev_lst {ds : List D} : revV (.lst ds) S = .ok ⟨ds.reverse, none⟩ S := (rfl)
@[simp] theorem rev_tup {ds : List D} : revV (.tup ds) S = .ok ⟨ds.reverse, none⟩ S := (rfl)
@[simp] theorem seq_tup {ds : List D} : walkSeq (.d (.tup ds)) S = .ok ⟨ds, none⟩ S := (rfl)
@[simp] theorem seq_lst {ds : List D} : walkSeq (.d (.lst ds)) S = .ok ⟨ds, none⟩ S := (rfl)
@[simp] theorem seq_new {ds : List D} : walkSeq (.new (.lst ds)) S = .ok ⟨ds, none⟩ S := (rfl)
theorem seq_loc {u i : Nat} {z : Bool} {ds : List D} (h : S.get u i = some ⟨z, .lst ds⟩) : walkSeq (.loc u i) S = .ok ⟨ds, some (u, i)⟩ S := by
  unfold walkSeq
  dsimp only
  rw [h]
theorem big_of {i : Int} (h1 : -4611686018427387904 ≤ i) (h2 : i < 4611686018427387904) : big62 i = true := by
  unfold big62
  rw [decide_eq_true h1, decide_eq_true h2]
  rfl
theorem rng2_int (h1 : -4611686018427387904 ≤ i) (h2 : i < 4611686018427387904) (h3 : -4611686018427387904 ≤ j) (h4 : j < 4611686018427387904) : rng2V (.d (.int i)) (.d (.int j)) S = .ok ⟨rngUp i (j - i).toNat, none⟩ S := by
  show (if (big62 i && big62 j) = true then _ else _) = _
  rw [big_of h1 h2, big_of h3 h4]
  rfl
theorem rngD_int (h1 : -4611686018427387904 ≤ i) (h2 : i < 4611686018427387904) (h3 : -4611686018427387904 ≤ j) (h4 : j < 4611686018427387904) : rngDV (.d (.int i)) (.d (.int j)) S = .ok ⟨rngDn i (i - j).toNat, none⟩ S := by
  show (if (big62 i && big62 j) = true then _ else _) = _
  rw [big_of h1 h2, big_of h3 h4]
  rfl
theorem rng1_int (h3 : -4611686018427387904 ≤ j) (h4 : j < 4611686018427387904) : rng1V (.d (.int j)) S = .ok ⟨rngUp 0 j.toNat, none⟩ S := by
  show (if big62 j = true then _ else _) = _
  rw [big_of h3 h4]
  rfl
@[simp] theorem chk_none {xs : List D} : (⟨xs, none⟩ : Walk).chk S = true := (rfl)
/-! methods -/
@[simp] theorem E_m1 {m : M1} : evE C (.m1 m a b) ρ S = (evE C a ρ S).go fun x S1 => if recvOk m (view S1 x) = true then (evE C b ρ S1).go fun y S2 => meth1 m (hold x) y S2 else .bad := by
  show M.bind _ _ S = _
  simp only [bind_go]
theorem app_d {u i : Nat} {ds : List D} {d : D} (h : S.get u i = some ⟨false, .lst ds⟩) (hl : ds.length < 16777216) : meth1 .append (.loc u i) (.d d) S = .ok (.d .non) (S.set u i ⟨false, .lst (ds ++ [d])⟩) := by
  unfold meth1
  simp only [bind_go, keep_d, go_ok]
  rw [h]
  dsimp only
  rw [if_pos hl]
theorem view_loc {u i : Nat} {z : Bool} {ds : List D} (h : S.get u i = some ⟨z, .lst ds⟩) : view S (.loc u i) = some (.lst ds) := by
  unfold view coAt
  dsimp only
  rw [h]
  rfl
theorem recv_loc {m : M1} {u i : Nat} {z : Bool} {ds : List D} (hm : m ≠ .join) (h : S.get u i = some ⟨z, .lst ds⟩) : recvOk m (view S (.loc u i)) = true := by
  rw [view_loc h]
  cases m <;> first | rfl | exact absurd rfl hm
@[simp] theorem call_get {u i : Nat} : S.call.get (u + 1) i = S.get u i := by
  cases u <;> rfl
@[simp] theorem call_set {u i : Nat} {x : LO} : S.call.set (u + 1) i x = (S.set u i x).call := by
  cases u <;> rfl
theorem get_set {u i : Nat} {x y : LO} (h : S.get u i = some y) : (S.set u i x).get u i = some x := by
  cases u with
  | zero =>
    have h : S.own[i]? = some y := h
    show (S.own.set i x)[i]? = some x
    have hi := (List.getElem?_eq_some_iff.mp h).1
    rw [List.getElem?_set_self hi]
  | succ u =>
    have h : (match S.out[u]? with
      | some l => l[i]?
      | none => none) = some y := h
    show (match (S.out.modify u fun l => l.set i x)[u]? with
      | some l => l[i]?
      | none => none) = some x
    cases e : S.out[u]? with
    | none => rw [e] at h; cases h
    | some l =>
      rw [e] at h
      rw [List.getElem?_modify_eq, e]
      have hi := (List.getElem?_eq_some_iff.mp h).1
      exact List.getElem?_set_self hi
theorem set_set {u i : Nat} {x y : LO} : (S.set u i x).set u i y = S.set u i y := by
  cases u with
  | zero => show (⟨(S.own.set i x).set i y, S.out, S.gl⟩ : St) = ⟨S.own.set i y, S.out, S.gl⟩; rw [List.set_set]
  | succ u =>
    show (⟨S.own, (S.out.modify u fun l => l.set i x).modify u fun l => l.set i y, S.gl⟩ : St) = ⟨S.own, S.out.modify u fun l => l.set i y, S.gl⟩
    congr 1
    rw [List.modify_modify_eq]
    congr 1
    funext l
    exact List.set_set ..
@[simp] theorem set_len {u i : Nat} {x : LO} : (S.set u i x).own.length = S.own.length := by
  cases u with
  | zero => exact List.length_set
  | succ u => rfl
theorem mod_nn (h : 0 < j) : 0 ≤ i % j := Int.emod_nonneg _ (by omega)
theorem mod_lt (h : 0 < j) : i % j < j := Int.emod_lt_of_pos _ h
/-! comprehensions -/
@[simp] theorem E_lc {elt it cond : DE} {tg : Tg} {vs : List Nat} : evE C (.lc elt tg it cond vs) ρ S = (evW C it ρ S).go fun w S1 => (compL w.chk (fun x => putT tg x (wipeE ρ vs)) (evE C cond) (evE C elt) w.xs S1).go fun ds S2 => if sz ds.length = true then .ok (.new (.lst ds)) S2 else .bad := by
  show M.bind _ _ S = _
  simp only [bind_go]
  rfl
theorem comp_pure {chk : St → Bool} {put : D → Option Env} {fc fe : Env → M RV} {c : D → Bool} {f : D → D} {r : D → Env} (hk : chk S = true) : ∀ xs : List D, (∀ x ∈ xs, put x = some (r x) ∧ fc (r x) S = .ok (.d (.bl (c x))) S ∧ (c x = true → fe (r x) S = .ok (.d (f x)) S)) → compL chk put fc fe xs S = .ok ((xs.filter c).map f) S
  | [], _ => by unfold compL; rw [if_pos hk]; rfl
  | x :: xs, h => by
    obtain ⟨h1, h2, h3⟩ := h x List.mem_cons_self
    have ih := comp_pure (f := f) hk xs fun y hy => h y (List.mem_cons_of_mem _ hy)
    unfold compL
    rw [if_pos hk, h1]
    dsimp only
    rw [h2]
    cases hc : c x with
    | true =>
      dsimp only [truth]
      rw [h3 hc]
      dsimp only
      rw [keep_d]
      dsimp only
      rw [ih, List.filter_cons_of_pos hc]
      rfl
    | false =>
      dsimp only [truth]
      rw [ih, List.filter_cons_of_neg (by rw [hc]; exact Bool.false_ne_true)]
/-- a chain of comparisons -/
def chV (op op2 : COp) (x y : RV) (fc : Unit → Res RV) (k : RV → RV → St → Res RV) (S : St) : Res RV := match view S (hold x).rv, view S (hold y).rv with
  | some d, some e => (match cop op d e with
    | some true => (fc ()).go fun z S1 => k (hold y).rv z S1
    | some false => .ok (.d (.bl false)) S
    | none => .bad)
  | _, _ => .bad
@[simp] theorem E_chain {op op2 : COp} : evE C (.chain op op2 a b c) ρ S = (evE C a ρ S).go fun x S1 => (evE C b ρ S1).go fun y S2 => chV op op2 x y (fun _ => evE C c ρ S2) (fun y z S3 => match view S3 y, view S3 z with
      | some e, some f => (match cop op2 e f with
        | some r => .ok (.d (.bl r)) S3
        | none => .bad)
      | _, _ => .bad) S2 := by
  show M.bind _ _ S = _
  simp only [bind_go]
  rfl
theorem chain_int {op op2 : COp} {fc : Unit → Res RV} {k : RV → RV → St → Res RV} : chV op op2 (.d (.int i)) (.d (.int j)) fc k S = match cop op (.int i) (.int j) with
    | some true => (fc ()).go fun z S1 => k (.d (.int j)) z S1
    | some false => .ok (.d (.bl false)) S
    | none => .bad := (rfl)
@[simp] theorem view_int {i : Int} : view S (.d (.int i)) = some (.int i) := (rfl)
/-! slices, tuples -/
def slV (x : RV) (l h : Option Int) (S : St) : Res RV := match view S (hold x).rv with
  | some d => M.opt (getSl d l h) S
  | none => .bad
@[simp] theorem E_sl {lo hi : DE} : evE C (.sl a lo hi) ρ S = (evE C a ρ S).go fun x S1 => (evP C lo ρ S1).go fun l S2 => (evP C hi ρ S2).go fun h S3 => slV x l h S3 := (rfl)
@[simp] theorem sl_tup {ds : List D} {l h : Option Int} : slV (.d (.tup ds)) l h S = .ok (.d (.tup (cut ds l h))) S := (rfl)
@[simp] theorem sl_lst {ds : List D} {l h : Option Int} : slV (.d (.lst ds)) l h S = .ok (.new (.lst (cut ds l h))) S := (rfl)
theorem cut_take {α : Type} {xs : List α} {k : Nat} (h : k ≤ xs.length) : cut xs none (some (k : Int)) = xs.take k := by
  unfold cut
  have h1 : sIx xs.length 0 none = 0 := rfl
  have h2 : sIx xs.length xs.length (some (k : Int)) = k := by
    unfold sIx
    dsimp only
    rw [if_neg (by omega)]
    show min k xs.length = k
    omega
  rw [h1, h2]
  simp
theorem cut_drop {α : Type} {xs : List α} {k : Nat} (h : k ≤ xs.length) : cut xs (some (k : Int)) none = xs.drop k := by
  unfold cut
  have h1 : sIx xs.length xs.length none = xs.length := rfl
  have h2 : sIx xs.length 0 (some (k : Int)) = k := by
    unfold sIx
    dsimp only
    rw [if_neg (by omega)]
    show min k xs.length = k
    omega
  rw [h1, h2]
  apply List.take_of_length_le
  simp
theorem bin_tup {s t : List D} (h : s.length + t.length ≤ 16777216) : binV .add (.d (.tup s)) (.d (.tup t)) S = .ok (.d (.tup (s ++ t))) S := by
  show M.opt (if sz (s.length + t.length) = true then _ else _) S = _
  rw [if_pos (show sz (s.length + t.length) = true from decide_eq_true h)]
  rfl
theorem mul_tup {s : List D} (h : -1000 ≤ j) (h2 : j ≤ 1000) (h3 : s.length ≤ 1000) : binV .mul (.d (.tup s)) (.d (.int j)) S = .ok (.d (.tup (rep j.toNat s))) S := by
  show M.opt (if _ then _ else _) S = _
  rw [if_pos (show (decide (-1000 ≤ j) && decide (j ≤ 1000) && decide (s.length ≤ 1000)) = true by rw [decide_eq_true h, decide_eq_true h2, decide_eq_true h3]; rfl)]
  rfl
end
end U

/-! UHarn: what every law's script is read by. -/
namespace U
open PySem
variable {T : Nat → Option FD} {n : Nat} {S : St}
/-! a cell -/
def hCell : FD := { np := 2, ns := 2, body := (.seq (.ife (.cmp .lt (.var 1) (.b1 .len (.var 0)))
    (.ret (.ix (.var 0) (.var 1)))
    .skip)
    (.ret (.con (.int 0)))) }
theorem s_cell {i : Nat} (h : T i = some hCell) (ns : List Int) (k : Int) (hk : 0 ≤ k) : ∃ c : Int, callN T (n + 1) i [.d (.rol (ns.map D.int)), .d (.int k)] S = .ok (.d (.int c)) S := by
  obtain ⟨k, rfl⟩ := Int.eq_ofNat_of_zero_le hk
  rw [call_eq h rfl]
  by_cases hl : k < ns.length
  · refine ⟨ns[k], ?_⟩
    have e : ixV (.d (.rol (ns.map D.int))) (.d (.int k)) S.call = .ok (.d (.int ns[k])) S.call := ix_rol (by rw [List.getElem?_map, List.getElem?_eq_getElem hl]; rfl)
    simp [hCell, varV, hl, e]
  · refine ⟨0, ?_⟩
    simp [hCell, varV, hl]
/-! the digits -/
def hb1 : DS := (.ife (.cmp .gt (.var 5) (.con (.int 0)))
    (.seq (.expr (.m1 .append (.var 3) (.bin .mod (.b1 .int (.var 5)) (.con (.int 1000)))))
    (.set 5 false (.bin .fdiv (.var 5) (.con (.int 1000)))))
    .skip)
def hb2 : DS := (.seq (.set 7 false (.bin .mod (.b1 .int (.bin .add (.bin .add (.bin .mul (.var 7) (.con (.int 16807))) (.bin .mul (.con (.int 7)) (.var 6))) (.con (.int 1)))) (.con (.int 2147483647))))
    (.expr (.m1 .append (.var 3) (.bin .mod (.b1 .int (.bin .fdiv (.var 7) (.con (.int 997)))) (.con (.int 1000))))))
def hb3 (ic : Nat) : DS := (.seq (.set 5 false (.call ic (.cons (.var 0) (.cons (.var 4) .nil))))
    (.seq (.ife (.cmp .lt (.var 5) (.con (.int 0)))
    (.set 5 false (.bin .sub (.con (.int 1)) (.bin .mul (.con (.int 2)) (.var 5))))
    .skip)
    (.ife (.cmp .ge (.var 5) (.bin .pow (.con (.int 10)) (.con (.int 18))))
    (.for_ (.one 6) (.wk .rng1 (.con (.int 60)) .nil)
    hb1)
    (.seq (.set 7 false (.bin .mod (.b1 .int (.bin .add (.bin .add (.bin .mul (.var 5) (.con (.int 48271))) (.bin .mul (.var 4) (.con (.int 69621)))) (.con (.int 11)))) (.con (.int 2147483647))))
    (.for_ (.one 6) (.wk .rng1 (.con (.int 12)) .nil)
    hb2)))))
def hDigits (ic : Nat) : FD := { np := 3, ns := 8, body := (.seq (.set 3 true (.lst .nil))
    (.seq (.for_ (.one 4) (.wk .rng2 (.var 1) (.var 2))
    (hb3 ic))
    (.ret (.var 3)))) }
def digS (S0 : St) (xs : List Int) : St := ⟨[⟨false, .lst (xs.map D.int)⟩], S0.own :: S0.out, S0.gl⟩
def Dig (xs : List Int) (m : Nat) : Prop := (∀ x ∈ xs, 0 ≤ x ∧ x < 1000) ∧ xs.length ≤ m
theorem digS_get {S0 : St} {xs : List Int} : (digS S0 xs).get 0 0 = some ⟨false, .lst (xs.map D.int)⟩ := rfl
theorem digS_set {S0 : St} {xs : List Int} {x : Int} : (digS S0 xs).set 0 0 ⟨false, .lst (xs.map D.int ++ [.int x])⟩ = digS S0 (xs ++ [x]) := by
  unfold digS St.set
  simp
theorem Dig.push {xs : List Int} {m : Nat} (h : Dig xs m) {x : Int} : Dig (xs ++ [x % 1000]) (m + 1) := by
  refine ⟨fun y hy => ?_, by rw [List.length_append]; have := h.2; simp; omega⟩
  rcases List.mem_append.mp hy with hy | hy
  · exact h.1 y hy
  · rw [List.mem_singleton.mp hy]; omega
theorem Dig.mono {xs : List Int} {m k : Nat} (h : Dig xs m) (hk : m ≤ k) : Dig xs k := ⟨h.1, Nat.le_trans h.2 hk⟩
theorem rng_len : ∀ (n : Nat) (lo : Int), (rngUp lo n).length = n
  | 0, _ => rfl
  | n + 1, lo => by unfold rngUp; rw [List.length_cons, rng_len n]
theorem rng_mem : ∀ (n : Nat) (lo : Int) (x : D), x ∈ rngUp lo n → ∃ i : Int, x = .int i ∧ lo ≤ i ∧ i < lo + n
  | 0, _, _, h => by cases h
  | n + 1, lo, x, h => by
    unfold rngUp at h
    rcases List.mem_cons.mp h with rfl | h
    · exact ⟨lo, rfl, by omega, by omega⟩
    · obtain ⟨i, e, h1, h2⟩ := rng_mem n _ _ h
      exact ⟨i, e, by omega, by omega⟩
section
variable {C : Nat → List SV → M RV} {S0 : St} {a0 a1 a2 a4 : SV}
theorem app_dig {xs : List Int} {m : Nat} (h : Dig xs m) (hm : m < 16000000) {x : Int} : meth1 .append (.loc 0 0) (.d (.int x)) (digS S0 xs) = .ok (.d .non) (digS S0 (xs ++ [x])) := by
  rw [app_d digS_get (by rw [List.length_map]; have := h.2; omega), digS_set]
theorem l_dig1 {xs : List Int} {m : Nat} (h : Dig xs m) (hm : m < 1000000) (c : Int) : (forL (fun _ => true) (putT (.one 6)) (evS C hb1) [some a0, some a1, some a2, some (.loc 0 0), some a4, some (.d (.int c)), none, none] 1 (rngUp 0 60) [some a0, some a1, some a2, some (.loc 0 0), some a4, some (.d (.int c)), none, none] (digS S0 xs)).post
    fun fl S' => ∃ c' ys, fl = .next [some a0, some a1, some a2, some (.loc 0 0), some a4, some (.d (.int c')), none, none] ∧ S' = digS S0 ys ∧ Dig ys (m + 60) := by
  refine forL_inv (fun rem ρ S => ∃ c' ys, ρ = [some a0, some a1, some a2, some (.loc 0 0), some a4, some (.d (.int c')), none, none] ∧ S = digS S0 ys ∧ rem.length ≤ 60 ∧ Dig ys (m + (60 - rem.length))) ?_ ?_ _ _ _ ⟨c, xs, rfl, rfl, by simp [rng_len], h.mono (by simp)⟩
  · rintro x rem ρ S ⟨c', ys, rfl, rfl, hl, hd⟩
    refine ⟨rfl, _, rfl, ?_⟩
    rw [List.length_cons] at hl hd
    by_cases hc : 0 < c'
    · simp [hb1, varV, Env.put, hc, recv_loc (m := .append) (by simp) digS_get, bop_mod (i := c') (j := 1000) (by omega), app_dig hd (by omega), bop_div (i := c') (j := 1000) (by omega) (by omega)]
      exact ⟨_, ownFree_take rfl, by omega, hd.push.mono (by omega)⟩
    · simp [hb1, varV, Env.put, hc]
      exact ⟨_, ownFree_take rfl, by omega, hd.mono (by omega)⟩
  · rintro ρ S ⟨c', ys, rfl, rfl, _, hd⟩
    exact ⟨rfl, c', ys, rfl, rfl, hd.mono (by simp)⟩
theorem l_dig2 {xs : List Int} {m : Nat} (h : Dig xs m) (hm : m < 1000000) (c : SV) (s : Int) (hs : 0 ≤ s ∧ s < 2147483647) : (forL (fun _ => true) (putT (.one 6)) (evS C hb2) [some a0, some a1, some a2, some (.loc 0 0), some a4, some c, none, some (.d (.int s))] 1 (rngUp 0 12) [some a0, some a1, some a2, some (.loc 0 0), some a4, some c, none, some (.d (.int s))] (digS S0 xs)).post
    fun fl S' => ∃ s' ys, fl = .next [some a0, some a1, some a2, some (.loc 0 0), some a4, some c, none, some (.d (.int s'))] ∧ S' = digS S0 ys ∧ Dig ys (m + 60) := by
  refine forL_inv (fun rem ρ S => ∃ s' ys, (0 ≤ s' ∧ s' < 2147483647) ∧ ρ = [some a0, some a1, some a2, some (.loc 0 0), some a4, some c, none, some (.d (.int s'))] ∧ S = digS S0 ys ∧ rem.length ≤ 12 ∧ (∀ x ∈ rem, ∃ i, x = D.int i ∧ 0 ≤ i ∧ i < 12) ∧ Dig ys (m + (12 - rem.length))) ?_ ?_ _ _ _ ⟨s, xs, hs, rfl, rfl, by simp [rng_len], fun x hx => by obtain ⟨i, e, h1, h2⟩ := rng_mem _ _ _ hx; exact ⟨i, e, by omega, by omega⟩, h.mono (by simp)⟩
  · rintro x rem ρ S ⟨s', ys, hs, rfl, rfl, hl, hr, hd⟩
    obtain ⟨i, rfl, h1, h2⟩ := hr x List.mem_cons_self
    refine ⟨rfl, _, rfl, ?_⟩
    rw [List.length_cons] at hl hd
    have hb : 0 ≤ (s' * 16807 + 7 * i + 1) % 2147483647 ∧ (s' * 16807 + 7 * i + 1) % 2147483647 < 2147483647 := ⟨mod_nn (by omega), mod_lt (by omega)⟩
    simp [hb2, varV, Env.put, recv_loc (m := .append) (by simp) digS_get, mul_l (i := s') (j := 16807) (by omega) (by omega), mul_l (i := 7) (j := i) (by omega) (by omega), bop_mod (j := 2147483647) (by omega), bop_mod (j := 1000) (by omega), bop_div (j := 997) (by omega) (by omega), app_dig hd (by omega)]
    exact ⟨_, hb, rfl, _, ownFree_take rfl, by omega, fun x hx => hr x (List.mem_cons_of_mem _ hx), hd.push.mono (by omega)⟩
  · rintro ρ S ⟨s', ys, hs, rfl, rfl, _, _, hd⟩
    exact ⟨rfl, s', ys, rfl, rfl, hd.mono (by simp)⟩
end
theorem s_digits {i ic : Nat} (h : T i = some (hDigits ic)) (hc : T ic = some hCell) (ns : List Int) (a b : Int) (ha : 0 ≤ a) (hab : a ≤ b) (hb : b ≤ 1000) :
    ∃ ds : List Int, (∀ x ∈ ds, 0 ≤ x ∧ x < 1000) ∧ ds.length ≤ 60000 ∧ callN T (n + 2) i [.d (.rol (ns.map D.int)), .d (.int a), .d (.int b)] S = .ok (.new (.lst (ds.map D.int))) S := by
  rw [call_eq h rfl]
  have key : (forL (fun _ => true) (putT (.one 4)) (evS (callN T (n + 1)) (hb3 ic)) [some (.d (.rol (ns.map D.int))), some (.d (.int a)), some (.d (.int b)), some (.loc 0 0), none, none, none, none] 1 (rngUp a (b - a).toNat) [some (.d (.rol (ns.map D.int))), some (.d (.int a)), some (.d (.int b)), some (.loc 0 0), none, none, none, none] (digS S [])).post
      fun fl S' => ∃ ys, fl = .next [some (.d (.rol (ns.map D.int))), some (.d (.int a)), some (.d (.int b)), some (.loc 0 0), none, none, none, none] ∧ S' = digS S ys ∧ Dig ys 60000 := by
    refine forL_inv (fun rem ρ S' => ∃ ys, ρ = [some (.d (.rol (ns.map D.int))), some (.d (.int a)), some (.d (.int b)), some (.loc 0 0), none, none, none, none] ∧ S' = digS S ys ∧ rem.length ≤ 1000 ∧ (∀ x ∈ rem, ∃ i, x = D.int i ∧ 0 ≤ i ∧ i < 1000) ∧ Dig ys (60 * (1000 - rem.length))) ?_ ?_ _ _ _ ⟨[], rfl, rfl, by rw [rng_len]; omega, fun x hx => by obtain ⟨i, e, h1, h2⟩ := rng_mem _ _ _ hx; exact ⟨i, e, by omega, by omega⟩, ⟨fun x hx => (by cases hx), by simp⟩⟩
    · rintro x rem ρ S' ⟨ys, rfl, rfl, hl, hr, hd⟩
      obtain ⟨i, rfl, h1, h2⟩ := hr x List.mem_cons_self
      refine ⟨rfl, _, rfl, ?_⟩
      rw [List.length_cons] at hl hd
      obtain ⟨c0, e0⟩ := s_cell (n := n) (S := digS S ys) hc ns i h1
      have next : ∀ ys' : List Int, Dig ys' (60 * (1000 - (rem.length + 1)) + 60) → ∃ ys_1, digS S ys' = digS S ys_1 ∧ rem.length ≤ 1000 ∧ (∀ x ∈ rem, ∃ i, x = D.int i ∧ 0 ≤ i ∧ i < 1000) ∧ Dig ys_1 (60 * (1000 - rem.length)) := fun ys' h => ⟨ys', rfl, by omega, fun x hx => hr x (List.mem_cons_of_mem _ hx), h.mono (by omega)⟩
      have main : ∀ c : Int, 0 ≤ c → (evS (callN T (n + 1)) (.ife (.cmp .ge (.var 5) (.bin .pow (.con (.int 10)) (.con (.int 18))))
          (.for_ (.one 6) (.wk .rng1 (.con (.int 60)) .nil)
          hb1)
          (.seq (.set 7 false (.bin .mod (.b1 .int (.bin .add (.bin .add (.bin .mul (.var 5) (.con (.int 48271))) (.bin .mul (.var 4) (.con (.int 69621)))) (.con (.int 11)))) (.con (.int 2147483647))))
          (.for_ (.one 6) (.wk .rng1 (.con (.int 12)) .nil)
          hb2))) [some (.d (.rol (ns.map D.int))), some (.d (.int a)), some (.d (.int b)), some (.loc 0 0), some (.d (.int i)), some (.d (.int c)), none, none] (digS S ys)).post fun fl S' => ∃ c' s' ys', fl = .next [some (.d (.rol (ns.map D.int))), some (.d (.int a)), some (.d (.int b)), some (.loc 0 0), some (.d (.int i)), some (.d (.int c')), none, s'] ∧ S' = digS S ys' ∧ Dig ys' (60 * (1000 - (rem.length + 1)) + 60) := by
        intro c hc0
        by_cases hbig : (1000000000000000000 : Int) ≤ c
        · simp [varV, bop_pow, hbig, rng1_int]
          refine post_mono (l_dig1 hd (by omega) c) ?_
          rintro fl S' ⟨c', ys', rfl, rfl, h⟩
          exact ⟨⟨c', none, rfl⟩, ys', rfl, h.mono (by omega)⟩
        · have hs : 0 ≤ (c * 48271 + i * 69621 + 11) % 2147483647 ∧ (c * 48271 + i * 69621 + 11) % 2147483647 < 2147483647 := ⟨mod_nn (by omega), mod_lt (by omega)⟩
          simp [varV, bop_pow, hbig, rng1_int, mul_l (i := c) (j := 48271) (by omega) (by omega), mul_l (i := i) (j := 69621) (by omega) (by omega), bop_mod (j := 2147483647) (by omega)]
          refine post_mono (l_dig2 hd (by omega) (.d (.int c)) _ hs) ?_
          rintro fl S' ⟨s', ys', rfl, rfl, h⟩
          exact ⟨⟨c, _, rfl⟩, ys', rfl, h.mono (by omega)⟩
      have fin : ∀ r : Res Flow, (r.post fun fl S' => ∃ c' s' ys', fl = .next [some (.d (.rol (ns.map D.int))), some (.d (.int a)), some (.d (.int b)), some (.loc 0 0), some (.d (.int i)), some (.d (.int c')), none, s'] ∧ S' = digS S ys' ∧ Dig ys' (60 * (1000 - (rem.length + 1)) + 60)) → r.post fun fl S2 => match fl with
          | .next ρ2 => ∃ ys, mask [some (.d (.rol (ns.map D.int))), some (.d (.int a)), some (.d (.int b)), some (.loc 0 0), none, none, none, none] ρ2 = [some (.d (.rol (ns.map D.int))), some (.d (.int a)), some (.d (.int b)), some (.loc 0 0), none, none, none, none] ∧ trim 1 (mask [some (.d (.rol (ns.map D.int))), some (.d (.int a)), some (.d (.int b)), some (.loc 0 0), none, none, none, none] ρ2) S2 = digS S ys ∧ rem.length ≤ 1000 ∧ (∀ x ∈ rem, ∃ i, x = D.int i ∧ 0 ≤ i ∧ i < 1000) ∧ Dig ys (60 * (1000 - rem.length))
          | .cont ρ2 => ∃ ys, mask [some (.d (.rol (ns.map D.int))), some (.d (.int a)), some (.d (.int b)), some (.loc 0 0), none, none, none, none] ρ2 = [some (.d (.rol (ns.map D.int))), some (.d (.int a)), some (.d (.int b)), some (.loc 0 0), none, none, none, none] ∧ trim 1 (mask [some (.d (.rol (ns.map D.int))), some (.d (.int a)), some (.d (.int b)), some (.loc 0 0), none, none, none, none] ρ2) S2 = digS S ys ∧ rem.length ≤ 1000 ∧ (∀ x ∈ rem, ∃ i, x = D.int i ∧ 0 ≤ i ∧ i < 1000) ∧ Dig ys (60 * (1000 - rem.length))
          | .brk ρ2 => ∃ ys, Flow.next (mask [some (.d (.rol (ns.map D.int))), some (.d (.int a)), some (.d (.int b)), some (.loc 0 0), none, none, none, none] ρ2) = .next [some (.d (.rol (ns.map D.int))), some (.d (.int a)), some (.d (.int b)), some (.loc 0 0), none, none, none, none] ∧ trim 1 (mask [some (.d (.rol (ns.map D.int))), some (.d (.int a)), some (.d (.int b)), some (.loc 0 0), none, none, none, none] ρ2) S2 = digS S ys ∧ Dig ys 60000
          | .ret r => ∃ ys, Flow.ret r = .next [some (.d (.rol (ns.map D.int))), some (.d (.int a)), some (.d (.int b)), some (.loc 0 0), none, none, none, none] ∧ S2 = digS S ys ∧ Dig ys 60000 := by
        intro r hr'
        refine post_mono hr' ?_
        rintro fl S2 ⟨c', s', ys', rfl, rfl, h⟩
        obtain ⟨z, e1, e2⟩ := next ys' h
        exact ⟨ys', rfl, ownFree_take rfl, (next ys' h).choose_spec.2.1, fun x hx => hr x (List.mem_cons_of_mem _ hx), h.mono (by omega)⟩
      refine fin _ ?_
      unfold hb3
      by_cases hneg : c0 < 0
      · simp [varV, Env.put, e0, hneg, mul_l (i := 2) (by omega) (by omega)]
        have := main (1 - 2 * c0) (by omega)
        simpa [varV] using this
      · simp [varV, Env.put, e0, hneg]
        have := main c0 (by omega)
        simpa [varV] using this
    · rintro ρ S' ⟨ys, rfl, rfl, _, _, hd⟩
      exact ⟨rfl, ys, rfl, rfl, hd.mono (by simp)⟩
  obtain ⟨fl, S', e, ys, rfl, rfl, hd⟩ := post_ex key
  refine ⟨ys, hd.1, hd.2, ?_⟩
  have e' : forL (⟨rngUp a (b - a).toNat, none⟩ : Walk).chk (putT (.one 4)) (evS (callN T (n + 1)) (hb3 ic)) [some (.d (.rol (ns.map D.int))), some (.d (.int a)), some (.d (.int b)), some (.loc 0 0), none, none, none, none] 1 (rngUp a (b - a).toNat) [some (.d (.rol (ns.map D.int))), some (.d (.int a)), some (.d (.int b)), some (.loc 0 0), none, none, none, none] ⟨[⟨false, .lst []⟩], S.own :: S.out, S.gl⟩ = _ := e
  simp [hDigits, varV, St.call, rng2_int (i := a) (j := b) (by omega) (by omega) (by omega) (by omega), e', sz]
  rfl
end U

namespace U
open PySem
section
variable {S : St} {C : Nat → List SV → M RV} {ρ : Env} {a b : DE} {i j : Int}
theorem ix_loc {u l : Nat} {z : Bool} {ds : List D} {k : Nat} {d : D} (hg : S.get u l = some ⟨z, .lst ds⟩) (h : ds[k]? = some d) : ixV (.loc u l) (.d (.int k)) S = .ok (.d d) S := by
  have hk : k < ds.length := (List.getElem?_eq_some_iff.mp h).1
  have e : getIx (.lst ds) (.int k) = some d := by
    show (match ixN ds.length (k : Int) with
      | some k => ds[k]?
      | none => none) = _
    rw [ixN_nat hk]
    exact h
  unfold ixV
  rw [hold_locR, rv_loc, view_loc hg]
  show (match getIx (.lst ds) (.int k) with
    | some v => (.ok (.d v) S : Res RV)
    | none => .bad) = _
  rw [e]
theorem len_loc {u l : Nat} {z : Bool} {ds : List D} (hg : S.get u l = some ⟨z, .lst ds⟩) : b1V .len (.loc u l) S = .ok (.d (.int ds.length)) S := by
  unfold b1V
  rw [view_loc hg]
  rfl
theorem st_loc {u l : Nat} {ds : List D} {k : Nat} {d : D} (hg : S.get u l = some ⟨false, .lst ds⟩) (h : k < ds.length) : stV (.loc u l) (.d (.int k)) d ρ S = .ok (.next ρ) (S.set u l ⟨false, .lst (ds.set k d)⟩) := by
  unfold stV
  rw [dI_int]
  dsimp only
  rw [hg]
  dsimp only
  rw [ixN_nat h]
theorem set_same {u l : Nat} {x : LO} (hg : S.get u l = some x) : S.set u l x = S := by
  cases u with
  | zero =>
    have hg : S.own[l]? = some x := hg
    show (⟨S.own.set l x, S.out, S.gl⟩ : St) = S
    obtain ⟨h, e⟩ := List.getElem?_eq_some_iff.mp hg
    rw [← e, List.set_getElem_self]
  | succ u =>
    have hg : (match S.out[u]? with
      | some l' => l'[l]?
      | none => none) = some x := hg
    show (⟨S.own, S.out.modify u fun l' => l'.set l x, S.gl⟩ : St) = S
    have : (S.out.modify u fun l' => l'.set l x) = S.out := by
      apply List.ext_getElem?
      intro m
      rw [List.getElem?_modify]
      cases e : S.out[m]? with
      | none => rfl
      | some l' =>
        by_cases hm : u = m
        · subst hm
          rw [e] at hg
          obtain ⟨h, e2⟩ := List.getElem?_eq_some_iff.mp hg
          simp [← e2]
        · simp [hm]
    rw [this]
end
variable {T : Nat → Option FD} {n : Nat} {S : St} {u j : Nat} {ds : List Int} {k : Nat}
/-! the box -/
def boxO (ds : List Int) (k : Nat) : LO := ⟨false, .lst [.lst (ds.map D.int), .int k]⟩
def drw (ds : List Int) (k : Nat) (m : Int) : Int := (ds[k]?.getD 0) % m
theorem drw_nn {m : Int} (h : 0 < m) : 0 ≤ drw ds k m := mod_nn h
theorem drw_lt {m : Int} (h : 0 < m) : drw ds k m < m := mod_lt h
def hDraw : FD := { np := 2, ns := 3, body := (.seq (.set 2 false (.ix (.var 0) (.con (.int 1))))
    (.seq (.setIx (.var 0) (.con (.int 1)) (.bin .add (.var 2) (.con (.int 1))))
    (.seq (.ife (.cmp .lt (.var 2) (.b1 .len (.ix (.var 0) (.con (.int 0)))))
    (.ret (.bin .mod (.b1 .int (.ix (.ix (.var 0) (.con (.int 0))) (.var 2))) (.var 1)))
    .skip)
    (.ret (.con (.int 0)))))) }
theorem s_draw {i : Nat} (h : T i = some hDraw) (hb : S.get u j = some (boxO ds k)) {m : Int} (hm : 0 < m) : callN T (n + 1) i [.loc u j, .d (.int m)] S = .ok (.d (.int (drw ds k m))) (S.set u j (boxO ds (k + 1))) := by
  rw [call_eq h rfl]
  have g0 : S.call.get (u + 1) j = some (boxO ds k) := by rw [call_get]; exact hb
  have e1 : ixV (.loc (u + 1) j) (.d (.int 1)) S.call = .ok (.d (.int k)) S.call := ix_loc (k := 1) g0 rfl
  have e2 : ∀ ρ, stV (.loc (u + 1) j) (.d (.int 1)) (.int (k + 1)) ρ S.call = .ok (.next ρ) (S.set u j (boxO ds (k + 1))).call := fun ρ => by
    rw [show (1 : Int) = ((1 : Nat) : Int) from rfl, st_loc (k := 1) g0 (by simp), call_set]
    rfl
  have g1 : (S.set u j (boxO ds (k + 1))).call.get (u + 1) j = some (boxO ds (k + 1)) := by rw [call_get]; exact get_set hb
  have e3 : ixV (.loc (u + 1) j) (.d (.int 0)) (S.set u j (boxO ds (k + 1))).call = .ok (.d (.lst (ds.map D.int))) (S.set u j (boxO ds (k + 1))).call := ix_loc (k := 0) g1 rfl
  by_cases hl : k < ds.length
  · have e4 : ixV (.d (.lst (ds.map D.int))) (.d (.int k)) (S.set u j (boxO ds (k + 1))).call = .ok (.d (.int ds[k])) (S.set u j (boxO ds (k + 1))).call := ix_lst (by rw [List.getElem?_map, List.getElem?_eq_getElem hl]; rfl)
    simp [hDraw, varV, e1, e2, e3, e4, hl, bop_mod hm, drw]
  · simp [hDraw, varV, e1, e2, e3, hl, drw]
def hPick (id : Nat) : FD := { np := 2, ns := 2, body := (.ret (.ix (.var 1) (.bin .mod (.b1 .int (.call id (.cons (.var 0) (.cons (.con (.int 900)) .nil)))) (.b1 .len (.var 1))))) }
theorem s_pick {i id : Nat} (h : T i = some (hPick id)) (hd : T id = some hDraw) (hb : S.get u j = some (boxO ds k)) (xs : List D) (hx : xs ≠ []) : ∃ x ∈ xs, callN T (n + 2) i [.loc u j, .d (.lst xs)] S = .ok (.d x) (S.set u j (boxO ds (k + 1))) := by
  have hpos : 0 < (xs.length : Int) := by
    have := List.length_pos_iff.mpr hx
    omega
  have g0 : S.call.get (u + 1) j = some (boxO ds k) := by rw [call_get]; exact hb
  have h1 := mod_nn (i := drw ds k 900) hpos
  have h2 := mod_lt (i := drw ds k 900) hpos
  obtain ⟨m, em⟩ := Int.eq_ofNat_of_zero_le h1
  have hm : m < xs.length := by omega
  refine ⟨xs[m], List.getElem_mem hm, ?_⟩
  rw [call_eq h rfl]
  have e1 := s_draw (n := n) (m := 900) hd g0 (by omega)
  rw [call_set] at e1
  have e2 : ixV (.d (.lst xs)) (.d (.int m)) (S.set u j (boxO ds (k + 1))).call = .ok (.d xs[m]) (S.set u j (boxO ds (k + 1))).call := ix_lst (List.getElem?_eq_getElem hm)
  simp [hPick, varV, e1, bop_mod hpos, em, e2]
theorem s_pickT {i id : Nat} (h : T i = some (hPick id)) (hd : T id = some hDraw) (hb : S.get u j = some (boxO ds k)) (xs : List D) (hx : xs ≠ []) : ∃ x ∈ xs, callN T (n + 2) i [.loc u j, .d (.tup xs)] S = .ok (.d x) (S.set u j (boxO ds (k + 1))) := by
  have hpos : 0 < (xs.length : Int) := by
    have := List.length_pos_iff.mpr hx
    omega
  have g0 : S.call.get (u + 1) j = some (boxO ds k) := by rw [call_get]; exact hb
  have h1 := mod_nn (i := drw ds k 900) hpos
  have h2 := mod_lt (i := drw ds k 900) hpos
  obtain ⟨m, em⟩ := Int.eq_ofNat_of_zero_le h1
  have hm : m < xs.length := by omega
  refine ⟨xs[m], List.getElem_mem hm, ?_⟩
  rw [call_eq h rfl]
  have e1 := s_draw (n := n) (m := 900) hd g0 (by omega)
  rw [call_set] at e1
  have e2 : ixV (.d (.tup xs)) (.d (.int m)) (S.set u j (boxO ds (k + 1))).call = .ok (.d xs[m]) (S.set u j (boxO ds (k + 1))).call := ix_tup (List.getElem?_eq_getElem hm)
  simp [hPick, varV, e1, bop_mod hpos, em, e2]
def hNumber (id : Nat) : FD := { np := 2, ns := 2, body := (.ret (.bin .mod (.b1 .int (.bin .add (.bin .mul (.call id (.cons (.var 0) (.cons (.con (.int 1000)) .nil))) (.con (.int 1009))) (.call id (.cons (.var 0) (.cons (.con (.int 1000)) .nil))))) (.var 1))) }
def num (ds : List Int) (k : Nat) (p : Int) : Int := (drw ds k 1000 * 1009 + drw ds (k + 1) 1000) % p
theorem num_nn {p : Int} (h : 0 < p) : 0 ≤ num ds k p := mod_nn h
theorem num_lt {p : Int} (h : 0 < p) : num ds k p < p := mod_lt h
theorem s_number {i id : Nat} (h : T i = some (hNumber id)) (hd : T id = some hDraw) (hb : S.get u j = some (boxO ds k)) {p : Int} (hp : 0 < p) : callN T (n + 2) i [.loc u j, .d (.int p)] S = .ok (.d (.int (num ds k p))) (S.set u j (boxO ds (k + 2))) := by
  have g0 : S.call.get (u + 1) j = some (boxO ds k) := by rw [call_get]; exact hb
  have g1 : (S.set u j (boxO ds (k + 1))).call.get (u + 1) j = some (boxO ds (k + 1)) := by rw [call_get]; exact get_set hb
  have e1 := s_draw (n := n) (m := 1000) hd g0 (by omega)
  have e2 := s_draw (n := n) (m := 1000) hd g1 (by omega)
  rw [call_set] at e1 e2
  rw [set_set] at e2
  have b1 := drw_nn (ds := ds) (k := k) (m := 1000) (by omega)
  have b2 := drw_lt (ds := ds) (k := k) (m := 1000) (by omega)
  rw [call_eq h rfl]
  simp [hNumber, varV, e1, e2, mul_r (i := drw ds k 1000) (j := 1009) (by omega) (by omega), bop_mod hp, num]
/-! the same text -/
def hSame : FD := { np := 2, ns := 2, body := (.ret (.cmp .eq (.b1 .repr (.var 0)) (.b1 .repr (.var 1)))) }
theorem strB {x : Str} : eqOk (.str x) (.str x) = true := rfl
theorem s_same {i : Nat} (h : T i = some hSame) {d : D} (h1 : showB 20 d = true) (h2 : sz (PyData.shown d.py).length = true) (hv : ∀ k, d ≠ .ref k) : callN T (n + 1) i [.d d, .d d] S = .ok (.d (.bl true)) S := by
  rw [call_eq h rfl]
  have e : ∀ S, b1V .repr (.d d) S = .ok (.d (.str (PyData.shown d.py))) S := fun S => by
    have : view S (.d d) = some d := by cases d <;> first | rfl | exact absurd rfl (hv _)
    unfold b1V
    rw [this]
    show M.opt (if (showB 20 d && sz (PyData.shown d.py).length) = true then _ else _) S = _
    rw [h1, h2]
    rfl
  have e2 : ∀ S x, cmpV .eq (.d (.str x)) (.d (.str x)) S = .ok (.d (.bl true)) S := fun S x => by
    show (match (if eqOk (.str x) (.str x) = true then some (D.beq (.str x) (.str x)) else none) with
      | some b => (.ok (.d (.bl b)) S : Res RV)
      | none => .bad) = _
    rw [if_pos strB, (D.beq_iff (.str x) (.str x)).mpr rfl]
  simp [hSame, varV, e, e2]
/-! powers, by forty turns -/
def hrb : DS := (.seq (.ife (.cmp .eq (.bin .mod (.b1 .int (.var 2)) (.con (.int 2))) (.con (.int 1)))
    (.set 3 false (.bin .mod (.b1 .int (.bin .mul (.var 3) (.var 1))) (.var 0)))
    .skip)
    (.seq (.set 1 false (.bin .mod (.b1 .int (.bin .mul (.var 1) (.var 1))) (.var 0)))
    (.set 2 false (.bin .fdiv (.var 2) (.con (.int 2))))))
def hRaised : FD := { np := 3, ns := 5, body := (.seq (.set 3 false (.bin .mod (.b1 .int (.con (.int 1))) (.var 0)))
    (.seq (.for_ (.one 4) (.wk .rng1 (.con (.int 40)) .nil)
    hrb)
    (.ret (.var 3)))) }
def rsL (p : Int) : Nat → Int → Int → Int → Int
  | 0, f, _, _ => f
  | m + 1, f, s, k => rsL p m (if k % 2 = 1 then f * s % p else f) (s * s % p) (k / 2)
def rs (p a k : Int) : Int := rsL p 40 (1 % p) a k
theorem l_raised {C : Nat → List SV → M RV} {p : Int} (hp : 0 < p ∧ p ≤ 1000000) {q0 q1 q2 q3 : SV} : ∀ (xs : List D) (f s k : Int), 0 ≤ f → f < p → 0 ≤ s → s < p → 0 ≤ k →
    ∃ s' k', forL (fun _ => true) (putT (.one 4)) (evS C hrb) [some q0, some q1, some q2, some q3, none] 0 xs [some (.d (.int p)), some (.d (.int s)), some (.d (.int k)), some (.d (.int f)), none] S.call =
      .ok (.next [some (.d (.int p)), some (.d (.int s')), some (.d (.int k')), some (.d (.int (rsL p xs.length f s k))), none]) S.call
  | [], f, s, k, _, _, _, _, _ => ⟨s, k, rfl⟩
  | x :: xs, f, s, k, hf, hf2, hs, hs2, hk => by
    have p0 := hp.1
    have hk2 : 0 ≤ k / 2 := by omega
    obtain ⟨s1, k1, e1⟩ := l_raised (C := C) hp xs (f * s % p) (s * s % p) (k / 2) (mod_nn p0) (mod_lt p0) (mod_nn p0) (mod_lt p0) hk2
    obtain ⟨s2, k2, e2⟩ := l_raised (C := C) hp xs f (s * s % p) (k / 2) hf hf2 (mod_nn p0) (mod_lt p0) hk2
    by_cases hm : k % 2 = 1
    · refine ⟨s1, k1, ?_⟩
      rw [forL]
      simp [putT, Env.put, hrb, varV, bop_mod (i := k) (j := 2) (by omega), hm, mul_l (i := f) (j := s) (by omega) (by omega), mul_l (i := s) (j := s) (by omega) (by omega), bop_mod p0, bop_div (i := k) (j := 2) (by omega) (by omega), rsL]
      exact e1
    · refine ⟨s2, k2, ?_⟩
      rw [forL]
      simp [putT, Env.put, hrb, varV, bop_mod (i := k) (j := 2) (by omega), hm, mul_l (i := f) (j := s) (by omega) (by omega), mul_l (i := s) (j := s) (by omega) (by omega), bop_mod p0, bop_div (i := k) (j := 2) (by omega) (by omega), rsL]
      exact e2
theorem s_raised {i : Nat} (h : T i = some hRaised) {p a k : Int} (hp : 0 < p ∧ p ≤ 1000000) (ha : 0 ≤ a) (ha2 : a < p) (hk : 0 ≤ k) : callN T (n + 1) i [.d (.int p), .d (.int a), .d (.int k)] S = .ok (.d (.int (rs p a k))) S := by
  have p0 := hp.1
  obtain ⟨s', k', e⟩ := l_raised (S := S) (C := callN T n) (q0 := .d (.int p)) (q1 := .d (.int a)) (q2 := .d (.int k)) (q3 := .d (.int (1 % p))) hp (rngUp 0 40) (1 % p) a k (mod_nn p0) (mod_lt p0) ha ha2 hk
  rw [call_eq h rfl]
  have e' : forL (⟨rngUp 0 40, none⟩ : Walk).chk (putT (.one 4)) (evS (callN T n) hrb) [some (.d (.int p)), some (.d (.int a)), some (.d (.int k)), some (.d (.int (1 % p))), none] 0 (rngUp 0 40) [some (.d (.int p)), some (.d (.int a)), some (.d (.int k)), some (.d (.int (1 % p))), none] S.call = _ := e
  simp [hRaised, varV, bop_mod p0, rng1_int, e']
  rfl
end U

/-! UPoly: numbers mod p, polynomials as lists of ints. -/
namespace U
/-- alike mod p -/
def cg (p a b : Int) : Prop := a % p = b % p
theorem cg.refl {p a : Int} : cg p a a := rfl
theorem cg.symm {p a b : Int} (h : cg p a b) : cg p b a := Eq.symm h
theorem cg.trans {p a b c : Int} (h : cg p a b) (k : cg p b c) : cg p a c := Eq.trans h k
theorem cg.add {p a b c d : Int} (h : cg p a b) (k : cg p c d) : cg p (a + c) (b + d) := by
  unfold cg at *
  rw [Int.add_emod, h, k, ← Int.add_emod]
theorem cg.mul {p a b c d : Int} (h : cg p a b) (k : cg p c d) : cg p (a * c) (b * d) := by
  unfold cg at *
  rw [Int.mul_emod, h, k, ← Int.mul_emod]
theorem cg.sub {p a b c d : Int} (h : cg p a b) (k : cg p c d) : cg p (a - c) (b - d) := by
  unfold cg at *
  rw [Int.sub_emod, h, k, ← Int.sub_emod]
theorem cg.mod {p a : Int} : cg p (a % p) a := by unfold cg; exact Int.emod_emod_of_dvd _ (Int.dvd_refl p)
theorem cg.of_eq {p a b : Int} (h : a = b) : cg p a b := by rw [h]; exact rfl
theorem cg.eq {p a b : Int} (h : cg p a b) (a0 : 0 ≤ a) (a1 : a < p) (b0 : 0 ≤ b) (b1 : b < p) : a = b := by
  unfold cg at h
  rwa [Int.emod_eq_of_lt a0 a1, Int.emod_eq_of_lt b0 b1] at h
theorem cg.eqm {p a b : Int} (h : cg p a b) (a0 : 0 ≤ a) (a1 : a < p) : a = b % p := by
  unfold cg at h
  rwa [Int.emod_eq_of_lt a0 a1] at h
theorem cg.sub0 {p a b : Int} : cg p (a - b) 0 ↔ cg p a b := by
  unfold cg
  rw [Int.zero_emod, Int.emod_eq_emod_iff_emod_sub_eq_zero]
/-- every number that isn't alike 0 has an inverse -/
def Fld (p : Int) : Prop := 2 ≤ p ∧ ∀ a, ¬ cg p a 0 → ∃ b, cg p (a * b) 1
theorem Fld.zero {p a b : Int} (F : Fld p) (h : cg p (a * b) 0) : cg p a 0 ∨ cg p b 0 := by
  by_cases ha : cg p a 0
  · exact .inl ha
  · obtain ⟨c, hc⟩ := F.2 a ha
    refine .inr ?_
    have h1 : cg p (a * b * c) (0 * c) := h.mul .refl
    have h2 : cg p (a * c * b) (1 * b) := hc.mul .refl
    have e : a * b * c = a * c * b := by grind
    rw [e] at h1
    rw [Int.one_mul] at h2
    rw [Int.zero_mul] at h1
    exact h2.symm.trans h1
theorem Fld.one {p : Int} (F : Fld p) : ¬ cg p 1 0 := by
  have := F.1
  unfold cg
  rw [Int.emod_eq_of_lt (by omega) (by omega), Int.zero_emod]
  decide
/-! polynomials -/
def pe (x : Int) : List Int → Int
  | [] => 0
  | c :: cs => c + x * pe x cs
theorem pe_append (x : Int) : ∀ (f g : List Int), pe x (f ++ g) = pe x f + x ^ f.length * pe x g
  | [], g => by simp [pe]
  | c :: f, g => by
    rw [List.cons_append, pe, pe, pe_append x f g, List.length_cons, Int.pow_succ]
    grind
def pAdd : List Int → List Int → List Int
  | a :: f, b :: g => (a + b) :: pAdd f g
  | _, _ => []
def pSc (c : Int) (f : List Int) : List Int := f.map (c * ·)
theorem pe_sc (x c : Int) : ∀ f : List Int, pe x (pSc c f) = c * pe x f
  | [] => by simp [pSc, pe]
  | a :: f => by
    show c * a + x * pe x (pSc c f) = _
    rw [pe_sc x c f, pe]
    grind
theorem pe_add (x : Int) : ∀ f g : List Int, f.length = g.length → pe x (pAdd f g) = pe x f + pe x g
  | [], [], _ => rfl
  | a :: f, b :: g, h => by
    rw [pAdd, pe, pe_add x f g (by simpa using h), pe, pe]
    grind
  | [], _ :: _, h => by simp at h
  | _ :: _, [], h => by simp at h
/-- numbers kept in [0, p) -/
def red (p : Int) (f : List Int) : List Int := f.map (· % p)
theorem pe_red (p x : Int) : ∀ f : List Int, cg p (pe x (red p f)) (pe x f)
  | [] => .refl
  | a :: f => by
    show cg p (a % p + x * pe x (red p f)) (a + x * pe x f)
    exact cg.mod.add (cg.refl.mul (pe_red p x f))
theorem pe_cg {p x y : Int} (h : cg p x y) : ∀ f : List Int, cg p (pe x f) (pe y f)
  | [] => .refl
  | a :: f => cg.refl.add (h.mul (pe_cg h f))
def Alike (p : Int) : List Int → List Int → Prop
  | [], [] => True
  | a :: f, b :: g => cg p a b ∧ Alike p f g
  | _, _ => False
theorem Alike.pe {p x : Int} : ∀ {f g : List Int}, Alike p f g → cg p (pe x f) (pe x g)
  | [], [], _ => .refl
  | a :: f, b :: g, ⟨h, t⟩ => h.add (cg.refl.mul t.pe)
  | [], _ :: _, h => h.elim
  | _ :: _, [], h => h.elim
/-- divided by x - a: the quotient -/
def pDiv (a : Int) : List Int → List Int
  | [] => []
  | [_] => []
  | _ :: d :: cs => pe a (d :: cs) :: pDiv a (d :: cs)
theorem pDiv_len (a : Int) : ∀ f : List Int, (pDiv a f).length = f.length - 1
  | [] => rfl
  | [_] => rfl
  | _ :: d :: cs => by
    rw [pDiv, List.length_cons, pDiv_len a (d :: cs)]
    simp
theorem pDiv_ok (a x : Int) : ∀ f : List Int, pe x f = pe a f + (x - a) * pe x (pDiv a f)
  | [] => by simp [pe, pDiv]
  | [c] => by simp [pe, pDiv]
  | c :: d :: cs => by
    have ih := pDiv_ok a x (d :: cs)
    rw [show pe x (c :: d :: cs) = c + x * pe x (d :: cs) from rfl, show pe a (c :: d :: cs) = c + a * pe a (d :: cs) from rfl, pDiv, show pe x (pe a (d :: cs) :: pDiv a (d :: cs)) = pe a (d :: cs) + x * pe x (pDiv a (d :: cs)) from rfl, ih]
    grind
/-- points unlike mod p -/
def Apart (p : Int) (pts : List Int) : Prop := pts.Pairwise fun a b => ¬ cg p a b
/-- as many roots as numbers: every number is alike 0 -/
theorem pe_zero {p a : Int} : ∀ g : List Int, (∀ c ∈ g, cg p c 0) → cg p (pe a g) 0
  | [], _ => .refl
  | u :: us, hu => by
    have := (hu u List.mem_cons_self).add (cg.refl (a := a) |>.mul (pe_zero (a := a) us fun c hc => hu c (List.mem_cons_of_mem _ hc)))
    simpa [pe] using this
theorem roots_zero {p : Int} (F : Fld p) : ∀ (pts f : List Int), Apart p pts → f.length ≤ pts.length → (∀ a ∈ pts, cg p (pe a f) 0) → ∀ c ∈ f, cg p c 0
  | [], f, _, hl, _ => by
    have : f = [] := List.eq_nil_of_length_eq_zero (by simpa using hl)
    subst this
    intro c hc; cases hc
  | a :: pts, [], _, _, _ => by intro c hc; cases hc
  | a :: pts, [c0], _, _, h => by
    intro c hc
    rw [List.mem_singleton.mp hc]
    have := h a List.mem_cons_self
    simpa [pe] using this
  | a :: pts, c0 :: c1 :: cs, ap, hl, h => by
    obtain ⟨ap1, ap2⟩ := List.pairwise_cons.mp ap
    have ha := h a List.mem_cons_self
    have hq : ∀ b ∈ pts, cg p (pe b (pDiv a (c0 :: c1 :: cs))) 0 := fun b hb => by
      have h1 := h b (List.mem_cons_of_mem _ hb)
      rw [pDiv_ok a b] at h1
      have h2 : cg p ((b - a) * pe b (pDiv a (c0 :: c1 :: cs))) 0 := by
        have := h1.sub ha
        have e : pe a (c0 :: c1 :: cs) + (b - a) * pe b (pDiv a (c0 :: c1 :: cs)) - pe a (c0 :: c1 :: cs) = (b - a) * pe b (pDiv a (c0 :: c1 :: cs)) := by omega
        rw [e] at this
        simpa using this
      rcases F.zero h2 with h3 | h3
      · exact absurd (cg.sub0.mp h3).symm (ap1 b hb)
      · exact h3
    have z := roots_zero F pts (pDiv a (c0 :: c1 :: cs)) ap2 (by rw [pDiv_len]; simpa using hl) hq
    -- all numbers from the second on: by the quotient's
    have tail : ∀ (f : List Int), (∀ c ∈ pDiv a f, cg p c 0) → ∀ c ∈ f.tail, cg p c 0 := by
      intro f
      induction f with
      | nil => intro _ c hc; cases hc
      | cons d ds ih =>
        cases ds with
        | nil => intro _ c hc; cases hc
        | cons e es =>
          intro hz c hc
          have hz1 : cg p (pe a (e :: es)) 0 := hz _ List.mem_cons_self
          have ih' := ih fun c hc => hz c (List.mem_cons_of_mem _ hc)
          rcases List.mem_cons.mp hc with rfl | hc
          · have : cg p (pe a es) 0 := by
              have : ∀ g : List Int, (∀ c ∈ g, cg p c 0) → cg p (pe a g) 0 := by
                intro g
                induction g with
                | nil => intro _; exact .refl
                | cons u us ihu =>
                  intro hu
                  have := (hu u List.mem_cons_self).add (cg.refl (a := a) |>.mul (ihu fun c hc => hu c (List.mem_cons_of_mem _ hc)))
                  simpa [pe] using this
              exact this es ih'
            have h5 : cg p (c + a * pe a es - a * pe a es) (0 - a * 0) := hz1.sub (cg.refl.mul this)
            have e5 : c + a * pe a es - a * pe a es = c := by omega
            rw [e5] at h5
            simpa using h5
          · exact ih' c hc
    have ht := tail _ z
    intro c hc
    rcases List.mem_cons.mp hc with rfl | hc
    · have : cg p (pe a (c1 :: cs)) 0 := by
        have : ∀ g : List Int, (∀ c ∈ g, cg p c 0) → cg p (pe a g) 0 := by
          intro g
          induction g with
          | nil => intro _; exact .refl
          | cons u us ihu =>
            intro hu
            have := (hu u List.mem_cons_self).add (cg.refl (a := a) |>.mul (ihu fun c hc => hu c (List.mem_cons_of_mem _ hc)))
            simpa [pe] using this
        exact this _ ht
      have h5 : cg p (c + a * pe a (c1 :: cs) - a * pe a (c1 :: cs)) (0 - a * 0) := ha.sub (cg.refl.mul this)
      have e5 : c + a * pe a (c1 :: cs) - a * pe a (c1 :: cs) = c := by omega
      rw [e5] at h5
      simpa using h5
    · exact ht c hc
/-- two short polynomials with the same values are alike -/
def pNeg (f : List Int) : List Int := pSc (-1) f
theorem same_poly {p : Int} (F : Fld p) {pts f g : List Int} (ap : Apart p pts) (hl : f.length ≤ pts.length) (hfg : f.length = g.length) (h : ∀ a ∈ pts, cg p (pe a f) (pe a g)) (x : Int) : cg p (pe x f) (pe x g) := by
  have hlen : (pNeg g).length = g.length := List.length_map ..
  have key : ∀ y, pe y (pAdd f (pNeg g)) = pe y f - pe y g := fun y => by
    rw [pe_add y f (pNeg g) (by rw [hlen, hfg]), pNeg, pe_sc]
    omega
  have hal : (pAdd f (pNeg g)).length ≤ pts.length := by
    have : ∀ f g : List Int, f.length = g.length → (pAdd f g).length = f.length := by
      intro f
      induction f with
      | nil => intro g _; cases g <;> rfl
      | cons a f ih =>
        intro g hg
        cases g with
        | nil => simp at hg
        | cons b g => rw [pAdd, List.length_cons, List.length_cons, ih g (by simpa using hg)]
    rw [this f _ (by rw [hlen, hfg])]
    exact hl
  have z := roots_zero F pts (pAdd f (pNeg g)) ap hal fun a ha => by
    rw [key]
    exact cg.sub0.mpr (h a ha)
  have := pe_zero (a := x) _ z
  rw [key] at this
  exact cg.sub0.mp this
/-! what the program makes of them -/
def InR (p : Int) (f : List Int) : Prop := ∀ c ∈ f, 0 ≤ c ∧ c < p
theorem red_in {p : Int} (hp : 0 < p) (f : List Int) : InR p (red p f) := fun c hc => by
  obtain ⟨a, _, rfl⟩ := List.mem_map.mp hc
  exact ⟨Int.emod_nonneg _ (by omega), Int.emod_lt_of_pos _ hp⟩
theorem red_len {p : Int} {f : List Int} : (red p f).length = f.length := List.length_map ..
theorem sc_len {c : Int} {f : List Int} : (pSc c f).length = f.length := List.length_map ..
theorem add_len : ∀ {f g : List Int}, f.length = g.length → (pAdd f g).length = f.length
  | [], [], _ => rfl
  | [], _ :: _, h => by simp at h
  | _ :: _, [], h => by simp at h
  | a :: f, b :: g, h => by rw [pAdd, List.length_cons, List.length_cons, add_len (by simpa using h)]
def scaledV (p c : Int) (f : List Int) : List Int := red p (pSc c f)
def addedV (p : Int) (f g : List Int) : List Int := red p (pAdd f g)
def wrV (p : Int) (f : List Int) (a : Int) : List Int := addedV p (0 :: f) (scaledV p (0 - a) f ++ [0])
def rtV (p : Int) (pts : List Int) : List Int := pts.foldl (wrV p) [1 % p]
def prd (x : Int) (pts : List Int) : Int := pts.foldl (fun acc a => acc * (x - a)) 1
theorem scaled_len {p c : Int} {f : List Int} : (scaledV p c f).length = f.length := by unfold scaledV; rw [red_len, sc_len]
theorem added_len {p : Int} {f g : List Int} (h : f.length = g.length) : (addedV p f g).length = f.length := by unfold addedV; rw [red_len, add_len h]
theorem scaled_pe (p c x : Int) (f : List Int) : cg p (pe x (scaledV p c f)) (c * pe x f) := (pe_red p x _).trans (cg.of_eq (pe_sc x c f))
theorem added_pe (p x : Int) {f g : List Int} (h : f.length = g.length) : cg p (pe x (addedV p f g)) (pe x f + pe x g) := (pe_red p x _).trans (cg.of_eq (pe_add x f g h))
theorem wr_len {p a : Int} {f : List Int} : (wrV p f a).length = f.length + 1 := by
  unfold wrV
  rw [added_len (by rw [List.length_cons, List.length_append, scaled_len]; rfl)]
  rfl
theorem wr_pe (p a x : Int) (f : List Int) : cg p (pe x (wrV p f a)) (pe x f * (x - a)) := by
  unfold wrV
  refine (added_pe p x (by rw [List.length_cons, List.length_append, scaled_len]; rfl)).trans ?_
  rw [pe_append]
  have h := scaled_pe p (0 - a) x f
  have : cg p (pe x (0 :: f) + (pe x (scaledV p (0 - a) f) + x ^ (scaledV p (0 - a) f).length * pe x [0])) (pe x (0 :: f) + ((0 - a) * pe x f + x ^ (scaledV p (0 - a) f).length * pe x [0])) := cg.refl.add (h.add .refl)
  refine this.trans (cg.of_eq ?_)
  simp only [pe]
  grind
theorem wr_in {p a : Int} (hp : 0 < p) {f : List Int} : InR p (wrV p f a) := red_in hp _
theorem rt_gen (p x : Int) : ∀ (pts f : List Int) (v : Int), cg p (pe x f) v → cg p (pe x (pts.foldl (wrV p) f)) (pts.foldl (fun acc a => acc * (x - a)) v)
  | [], f, v, h => h
  | a :: pts, f, v, h => rt_gen p x pts _ _ ((wr_pe p a x f).trans (h.mul .refl))
theorem rt_pe (p x : Int) (pts : List Int) : cg p (pe x (rtV p pts)) (prd x pts) := rt_gen p x pts _ _ (by simpa [pe] using (cg.mod (p := p) (a := 1)))
theorem rt_lenG (p : Int) : ∀ (pts f : List Int), (pts.foldl (wrV p) f).length = pts.length + f.length
  | [], f => by simp
  | a :: pts, f => by
    rw [List.foldl_cons, rt_lenG p pts, wr_len, List.length_cons]
    omega
theorem rt_len {p : Int} {pts : List Int} : (rtV p pts).length = pts.length + 1 := rt_lenG p pts _
theorem rt_inG {p : Int} (hp : 0 < p) : ∀ (pts f : List Int), InR p f → InR p (pts.foldl (wrV p) f)
  | [], f, h => h
  | a :: pts, f, _ => rt_inG hp pts _ (wr_in hp)
theorem rt_in {p : Int} (hp : 0 < p) {pts : List Int} : InR p (rtV p pts) := rt_inG hp pts _ fun c hc => by
  rw [List.mem_singleton.mp hc]
  exact ⟨Int.emod_nonneg _ (by omega), Int.emod_lt_of_pos _ hp⟩
theorem prd_gen (x : Int) : ∀ (pts : List Int) (v : Int), pts.foldl (fun acc a => acc * (x - a)) v = v * prd x pts
  | [], v => by simp [prd]
  | a :: pts, v => by
    rw [List.foldl_cons, prd_gen x pts]
    show v * (x - a) * prd x pts = v * pts.foldl (fun acc a => acc * (x - a)) (1 * (x - a))
    rw [prd_gen x pts (1 * (x - a))]
    grind
theorem prd_cons (x a : Int) (pts : List Int) : prd x (a :: pts) = (x - a) * prd x pts := by
  rw [prd, List.foldl_cons, prd_gen]
  grind
theorem prd_zero {p x : Int} : ∀ {pts : List Int} {a : Int}, a ∈ pts → cg p x a → cg p (prd x pts) 0
  | b :: pts, a, h, e => by
    rw [prd_cons]
    rcases List.mem_cons.mp h with rfl | h
    · have := (cg.sub0.mpr e).mul (cg.refl (p := p) (a := prd x pts))
      simpa using this
    · have := (cg.refl (p := p) (a := x - b)).mul (prd_zero h e)
      simpa using this
theorem prd_nz {p x : Int} (F : Fld p) : ∀ {pts : List Int}, (∀ a ∈ pts, ¬ cg p x a) → ¬ cg p (prd x pts) 0
  | [], _ => by
    have : prd x [] = 1 := rfl
    rw [this]
    exact F.one
  | b :: pts, h => by
    rw [prd_cons]
    intro z
    rcases F.zero z with z | z
    · exact h b List.mem_cons_self (cg.sub0.mp z)
    · exact prd_nz F (fun a ha => h a (List.mem_cons_of_mem _ ha)) z
end U

/-! UPolyS: the program's polynomials, what they compute. -/
namespace U
open PySem
variable {T : Nat → Option FD} {n : Nat} {S : St}
abbrev ti (f : List Int) : D := .tup (f.map D.int)
/-! value_at -/
def pVb : DS := (.set 3 false (.bin .mod (.b1 .int (.bin .add (.bin .mul (.var 3) (.var 2)) (.var 4))) (.var 0)))
def pValue : FD := { np := 3, ns := 5, body := (.seq (.set 3 false (.con (.int 0)))
    (.seq (.for_ (.one 4) (.wk .rev (.var 1) .nil)
    pVb)
    (.ret (.var 3)))) }
theorem l_value {C : Nat → List SV → M RV} {p x : Int} {a1 : SV} (hp : 0 < p ∧ p ≤ 1000000) : ∀ (f : List Int) (v : Int) (g : List Int), 0 ≤ v → v < p → cg p v (pe x g) →
    ∃ v', forL (fun _ => true) (putT (.one 4)) (evS C pVb) [some (.d (.int p)), some a1, some (.d (.int x)), some (.d (.int 0)), none] 0 (f.map D.int) [some (.d (.int p)), some a1, some (.d (.int x)), some (.d (.int v)), none] S.call =
      .ok (.next [some (.d (.int p)), some a1, some (.d (.int x)), some (.d (.int v')), none]) S.call ∧ 0 ≤ v' ∧ v' < p ∧ cg p v' (pe x (f.reverse ++ g))
  | [], v, g, h0, h1, h => ⟨v, rfl, h0, h1, h⟩
  | c :: f, v, g, h0, h1, h => by
    have p0 := hp.1
    have h2 : cg p ((v * x + c) % p) (pe x (c :: g)) := by
      refine cg.mod.trans ?_
      have := (h.mul (cg.refl (a := x))).add (cg.refl (a := c))
      refine this.trans (cg.of_eq ?_)
      rw [pe]
      grind
    obtain ⟨v', e, k0, k1, k2⟩ := l_value (a1 := a1) hp f ((v * x + c) % p) (c :: g) (mod_nn p0) (mod_lt p0) h2
    refine ⟨v', ?_, k0, k1, ?_⟩
    · rw [List.map_cons, forL]
      simp [putT, Env.put, pVb, varV, mul_l (i := v) (j := x) (by omega) (by omega), bop_mod p0]
      exact e
    · rw [List.reverse_cons, List.append_assoc]
      exact k2
theorem s_value {i : Nat} (h : T i = some pValue) {p x : Int} (hp : 0 < p ∧ p ≤ 1000000) (f : List Int) : callN T (n + 1) i [.d (.int p), .d (ti f), .d (.int x)] S = .ok (.d (.int (pe x f % p))) S := by
  obtain ⟨v', e, h0, h1, h2⟩ := l_value (S := S) (C := callN T n) (a1 := .d (ti f)) (x := x) hp f.reverse 0 [] (by omega) hp.1 .refl
  rw [List.reverse_reverse, List.append_nil] at h2
  rw [call_eq h rfl]
  rw [List.map_reverse] at e
  have e' : forL (⟨(f.map D.int).reverse, none⟩ : Walk).chk (putT (.one 4)) (evS (callN T n) pVb) [some (.d (.int p)), some (.d (ti f)), some (.d (.int x)), some (.d (.int 0)), none] 0 (f.map D.int).reverse [some (.d (.int p)), some (.d (ti f)), some (.d (.int x)), some (.d (.int 0)), none] S.call = _ := e
  simp [pValue, varV, e', h2.eqm h0 h1]
/-! added, scaled -/
def pAc : DE := (.bin .mod (.b1 .int (.bin .add (.ix (.var 1) (.var 3)) (.ix (.var 2) (.var 3)))) (.var 0))
def pAdded : FD := { np := 3, ns := 4, body := (.ret (.b1 .tuple (.lc pAc (.one 3) (.wk .rng1 (.b1 .len (.var 1)) .nil) (.con (.bl true)) [3]))) }
def pSc1 : DE := (.bin .mod (.b1 .int (.bin .mul (.var 1) (.var 3))) (.var 0))
def pScaled : FD := { np := 3, ns := 4, body := (.ret (.b1 .tuple (.lc pSc1 (.one 3) (.wk .seq (.var 2) .nil) (.con (.bl true)) [3]))) }
@[simp] theorem b1_tuple_new {ds : List D} : b1V .tuple (.new (.lst ds)) S = .ok (.d (.tup ds)) S := rfl
@[simp] theorem b1_list_tup {ds : List D} : b1V .list (.d (.tup ds)) S = .ok (.new (.lst ds)) S := rfl
theorem s_scaled {i : Nat} (h : T i = some pScaled) {p c : Int} (hp : 0 < p ∧ p ≤ 1000000) (hc : -1000000000000 ≤ c ∧ c ≤ 1000000000000) (f : List Int) (hl : f.length ≤ 1000000) : callN T (n + 1) i [.d (.int p), .d (.int c), .d (ti f)] S = .ok (.d (ti (scaledV p c f))) S := by
  have p0 := hp.1
  have e := comp_pure (chk := (⟨f.map D.int, none⟩ : Walk).chk) (S := S.call) (put := fun x => putT (.one 3) x (wipeE [some (.d (.int p)), some (.d (.int c)), some (.d (ti f)), none] [3])) (fc := evE (callN T n) (.con (.bl true))) (fe := evE (callN T n) pSc1) (c := fun _ => true)
    (f := fun x => match x with
      | .int a => .int (c * a % p)
      | d => d) (r := fun x => [some (.d (.int p)), some (.d (.int c)), some (.d (ti f)), some (.d x)]) rfl (f.map D.int) (fun x hx => by
    obtain ⟨a, _, rfl⟩ := List.mem_map.mp hx
    refine ⟨rfl, rfl, fun _ => ?_⟩
    simp [pSc1, varV, mul_l (i := c) (j := a) (by omega) (by omega), bop_mod p0])
  have hsz : sz f.length = true := decide_eq_true (by omega)
  rw [List.filter_eq_self.mpr (fun _ _ => rfl), List.map_map] at e
  have hh : f.map ((fun x => match x with
      | .int a => .int (c * a % p)
      | d => d) ∘ D.int) = (scaledV p c f).map D.int := by
    unfold scaledV red pSc
    rw [List.map_map, List.map_map]
    rfl
  have hsz : sz (scaledV p c f).length = true := by rw [scaled_len]; exact hsz
  rw [hh] at e
  rw [call_eq h rfl]
  simp [pScaled, varV, e, hsz]
theorem getI {f : List Int} {k : Nat} (h : k < f.length) : (f.map D.int)[k]? = some (.int f[k]) := by
  rw [List.getElem?_map, List.getElem?_eq_getElem h]; rfl
theorem rng_range : ∀ (n : Nat) (lo : Nat), rngUp (lo : Int) n = (List.range' lo n).map fun k => D.int (k : Nat)
  | 0, _ => rfl
  | n + 1, lo => by
    unfold rngUp
    rw [List.range'_succ, List.map_cons, ← rng_range n (lo + 1)]
    rfl
theorem add_get : ∀ {f g : List Int} {k : Nat} (hf : k < f.length) (hg : k < g.length), (pAdd f g)[k]? = some (f[k] + g[k])
  | a :: f, b :: g, 0, _, _ => rfl
  | a :: f, b :: g, k + 1, hf, hg => add_get (f := f) (g := g) (by simpa using hf) (by simpa using hg)
theorem added_rng {p : Int} {f g : List Int} (hfg : f.length = g.length) : ((rngUp 0 f.length).map fun x => match x with
      | .int a => D.int ((f.getD a.toNat 0 + g.getD a.toNat 0) % p)
      | d => d) = (addedV p f g).map D.int := by
  apply List.ext_getElem?
  intro k
  have h0 : rngUp 0 f.length = (List.range' 0 f.length).map fun k => D.int (k : Nat) := rng_range f.length 0
  rw [h0, List.map_map, List.getElem?_map, List.getElem?_map]
  by_cases hk : k < f.length
  · have hg : k < g.length := by omega
    rw [List.getElem?_range' hk]
    unfold addedV red
    rw [List.getElem?_map, add_get hk hg]
    simp [hk, hg]
  · have h1 : (List.range' 0 f.length)[k]? = none := List.getElem?_eq_none (by rw [List.length_range']; omega)
    have h2 : (addedV p f g)[k]? = none := List.getElem?_eq_none (by rw [added_len hfg]; omega)
    rw [h1, h2]
    rfl
theorem s_added {i : Nat} (h : T i = some pAdded) {p : Int} (hp : 0 < p ∧ p ≤ 1000000) (f g : List Int) (hfg : f.length = g.length) (hl : f.length ≤ 1000000) : callN T (n + 1) i [.d (.int p), .d (ti f), .d (ti g)] S = .ok (.d (ti (addedV p f g))) S := by
  have p0 := hp.1
  have e := comp_pure (chk := (⟨rngUp 0 f.length, none⟩ : Walk).chk) (S := S.call) (put := fun x => putT (.one 3) x (wipeE [some (.d (.int p)), some (.d (ti f)), some (.d (ti g)), none] [3])) (fc := evE (callN T n) (.con (.bl true))) (fe := evE (callN T n) pAc) (c := fun _ => true)
    (f := fun x => match x with
      | .int a => .int ((f.getD a.toNat 0 + g.getD a.toNat 0) % p)
      | d => d) (r := fun x => [some (.d (.int p)), some (.d (ti f)), some (.d (ti g)), some (.d x)]) rfl (rngUp 0 f.length) (fun x hx => by
    obtain ⟨a, rfl, h1, h2⟩ := rng_mem _ _ _ hx
    obtain ⟨a, rfl⟩ := Int.eq_ofNat_of_zero_le h1
    have hf : a < f.length := by omega
    have hg : a < g.length := by omega
    refine ⟨rfl, rfl, fun _ => ?_⟩
    have e1 : f.getD ((a : Int)).toNat 0 = f[a] := by simp [hf]
    have e2 : g.getD ((a : Int)).toNat 0 = g[a] := by simp [hg]
    show evE (callN T n) pAc [some (.d (.int p)), some (.d (ti f)), some (.d (ti g)), some (.d (.int a))] S.call = .ok (.d (.int ((f.getD ((a : Int)).toNat 0 + g.getD ((a : Int)).toNat 0) % p))) S.call
    rw [e1, e2]
    simp [pAc, varV, ix_tup (getI hf), ix_tup (getI hg), bop_mod p0])
  rw [List.filter_eq_self.mpr (fun _ _ => rfl), added_rng hfg] at e
  have hsz2 : sz (addedV p f g).length = true := by rw [added_len hfg]; exact decide_eq_true (by omega)
  rw [call_eq h rfl]
  simp [pAdded, varV, rng1_int (j := (f.length : Int)) (by omega) (by omega), e, hsz2]
end U

/-! UPow: powers and inverses mod p. -/
namespace U
open PySem
def pPc : DE := (.cmp .gt (.var 2) (.con (.int 0)))
def pPb : DS := (.seq (.ife (.cmp .eq (.bin .mod (.b1 .int (.var 2)) (.con (.int 2))) (.con (.int 1)))
    (.set 3 false (.bin .mod (.b1 .int (.bin .mul (.var 3) (.var 4))) (.var 0)))
    .skip)
    (.seq (.set 4 false (.bin .mod (.b1 .int (.bin .mul (.var 4) (.var 4))) (.var 0)))
    (.set 2 false (.bin .fdiv (.var 2) (.con (.int 2))))))
def pPower : FD := { np := 3, ns := 5, body := (.seq (.set 3 false (.bin .mod (.b1 .int (.con (.int 1))) (.var 0)))
    (.seq (.set 4 false (.bin .mod (.b1 .int (.var 1)) (.var 0)))
    (.seq (.whl pPc
    pPb)
    (.ret (.var 3))))) }
/-! powers -/
def pwL (p : Int) : Nat → Int → Int → Int → Int
  | 0, f, _, _ => f
  | m + 1, f, s, k => if 0 < k then pwL p m (if k % 2 = 1 then f * s % p else f) (s * s % p) (k / 2) else f
theorem l_power (C : Nat → List SV → M RV) (p a0 : Int) (hp : 0 < p ∧ p ≤ 1000000) (S : St) (a b c d e : SV) (j : Nat) : ∀ (m : Nat) (f s k : Int), 0 ≤ k → k < 2 ^ m → 0 ≤ f → f < p → 0 ≤ s → s < p →
    ∃ s' k', whL (evE C pPc) (evS C pPb) [some a, some b, some c, some d, some e] 0 (m + 1 + j) [some (.d (.int p)), some (.d (.int a0)), some (.d (.int k)), some (.d (.int f)), some (.d (.int s))] S.call =
      .ok (.next [some (.d (.int p)), some (.d (.int a0)), some (.d (.int k')), some (.d (.int (pwL p m f s k))), some (.d (.int s'))]) S.call
  | 0, f, s, k, h0, hk, hf, hf2, hs, hs2 => by
    have hk0 : k = 0 := by simp at hk; omega
    subst hk0
    refine ⟨s, 0, ?_⟩
    rw [show 0 + 1 + j = j + 1 by omega, whL_off (by simp [pPc, varV])]
    simp [pwL]
  | m + 1, f, s, k, h0, hk, hf, hf2, hs, hs2 => by
    have ee : m + 1 + 1 + j = (m + 1 + j) + 1 := by omega
    by_cases hd : 0 < k
    · rw [ee, whL_on (by simp [pPc, varV, hd])]
      have hk2 : k / 2 < 2 ^ m := by
        have : (2 : Int) ^ (m + 1) = 2 ^ m * 2 := by rw [Int.pow_succ]
        omega
      have p0 := hp.1
      have ms := Int.emod_nonneg (s * s) (show p ≠ 0 by omega)
      have ms2 := Int.emod_lt_of_pos (s * s) p0
      have mf := Int.emod_nonneg (f * s) (show p ≠ 0 by omega)
      have mf2 := Int.emod_lt_of_pos (f * s) p0
      by_cases hm : k % 2 = 1
      · obtain ⟨s', k', e'⟩ := l_power C p a0 hp S a b c d e j m (f * s % p) (s * s % p) (k / 2) (by omega) hk2 mf mf2 ms ms2
        refine ⟨s', k', ?_⟩
        simp [pPb, varV, bop_mod (i := k) (j := 2) (by omega), bop_mod (i := f * s) hp.1, bop_mod (i := s * s) hp.1, bop_div (i := k) (j := 2) (by omega) (by omega), mul_l (i := f) (j := s) (by omega) (by omega), mul_l (i := s) (j := s) (by omega) (by omega), hm, pwL, hd]
        exact e'
      · obtain ⟨s', k', e'⟩ := l_power C p a0 hp S a b c d e j m f (s * s % p) (k / 2) (by omega) hk2 hf hf2 ms ms2
        refine ⟨s', k', ?_⟩
        simp [pPb, varV, bop_mod (i := k) (j := 2) (by omega), bop_mod (i := f * s) hp.1, bop_mod (i := s * s) hp.1, bop_div (i := k) (j := 2) (by omega) (by omega), mul_l (i := f) (j := s) (by omega) (by omega), mul_l (i := s) (j := s) (by omega) (by omega), hm, pwL, hd]
        exact e'
    · refine ⟨s, k, ?_⟩
      rw [ee, whL_off (by simp [pPc, varV, hd])]
      simp [pwL, hd]
def pw (p a k : Int) : Int := pwL p 40 (1 % p) (a % p) k
theorem s_power {T : Nat → Option FD} {i : Nat} (h : T i = some pPower) (n : Nat) (p a k : Int) (hp : 0 < p ∧ p ≤ 1000000) (hk : 0 ≤ k) (hk2 : k < 1000000000000) (S : St) : callN T (n + 1) i [.d (.int p), .d (.int a), .d (.int k)] S = .ok (.d (.int (pw p a k))) S := by
  rw [call_eq h rfl]
  have p0 := hp.1
  obtain ⟨s', k', e⟩ := l_power (callN T n) p a hp S (.d (.int p)) (.d (.int a)) (.d (.int k)) (.d (.int (1 % p))) (.d (.int (a % p))) 999999959 40 (1 % p) (a % p) k hk (by omega) (Int.emod_nonneg _ (by omega)) (Int.emod_lt_of_pos _ p0) (Int.emod_nonneg _ (by omega)) (Int.emod_lt_of_pos _ p0)
  simp [pPower, varV, S_whl, bop_mod (i := 1) hp.1, bop_mod (i := a) hp.1]
  rw [show (1000000000 : Nat) = 40 + 1 + 999999959 from rfl, e]
  simp [varV, pw]
def pInverse (ip : Nat) : FD := { np := 2, ns := 2, body := (.ret (.ife (.cmp .gt (.var 0) (.con (.int 2))) (.call ip (.cons (.var 0) (.cons (.var 1) (.cons (.bin .sub (.var 0) (.con (.int 2))) .nil)))) (.var 1))) }
def inv (p a : Int) : Int := if 2 < p then pw p a (p - 2) else a
theorem s_inverse {T : Nat → Option FD} {i ip : Nat} (h : T i = some (pInverse ip)) (h2 : T ip = some pPower) (n : Nat) (p a : Int) (hp : 0 < p ∧ p ≤ 1000000) (S : St) : callN T (n + 2) i [.d (.int p), .d (.int a)] S = .ok (.d (.int (inv p a))) S := by
  rw [call_eq h rfl]
  by_cases hq : 2 < p
  · simp [pInverse, varV, hq, s_power h2 n p a (p - 2) hp (by omega) (by omega), inv]
  · simp [pInverse, varV, hq, inv]
/-! the same power -/
theorem rsL_zero {p : Int} : ∀ (m : Nat) (f s : Int), rsL p m f s 0 = f
  | 0, _, _ => rfl
  | m + 1, f, s => by
    unfold rsL
    rw [if_neg (by decide), show (0 : Int) / 2 = 0 from rfl, rsL_zero m]
theorem pw_rs {p : Int} : ∀ (m : Nat) (f s k : Int), 0 ≤ k → pwL p m f s k = rsL p m f s k
  | 0, _, _, _, _ => rfl
  | m + 1, f, s, k, hk => by
    unfold pwL
    split
    · rw [pw_rs m _ _ _ (by omega)]; rfl
    · have : k = 0 := by omega
      rw [this, rsL_zero]
theorem pow_same {p a k : Int} (ha : 0 ≤ a) (hap : a < p) (hk : 0 ≤ k) : pw p a k = rs p a k := by
  unfold pw rs
  rw [pw_rs _ _ _ _ hk, Int.emod_eq_of_lt ha hap]
/-! the inverse -/
theorem pwL_pow {p : Nat} : ∀ (m : Nat) (f s k : Nat), k < 2 ^ m → pwL p m f s k % p = ((f * s ^ k : Nat) : Int) % p
  | 0, f, s, k, hk => by
    have : k = 0 := by simp at hk; exact hk
    subst this
    simp [pwL]
  | m + 1, f, s, k, hk => by
    unfold pwL
    by_cases h0 : k = 0
    · subst h0
      simp
    · rw [if_pos (by omega)]
      have e2 : ((k : Int) / 2) = ((k / 2 : Nat) : Int) := rfl
      have e3 : ((s : Int) * s % p) = ((s * s % p : Nat) : Int) := rfl
      have e4 : ((f : Int) * s % p) = ((f * s % p : Nat) : Int) := rfl
      have hk2 : k / 2 < 2 ^ m := by rw [Nat.pow_succ] at hk; omega
      have hodd : ((k : Int) % 2 = 1) ↔ k % 2 = 1 := by omega
      have key : ∀ g : Nat, (g * (s * s % p) ^ (k / 2)) % p = (g * (s ^ (2 * (k / 2)))) % p := fun g => by
        rw [Nat.pow_mul, Nat.mul_mod, Nat.pow_mod, Nat.mod_mod, ← Nat.pow_mod, ← Nat.mul_mod, Nat.pow_two]
      by_cases ho : k % 2 = 1
      · rw [if_pos (hodd.mpr ho), e2, e3, e4, pwL_pow m _ _ _ hk2]
        have e5 : s ^ k = s * s ^ (2 * (k / 2)) := by
          rw [← Nat.pow_succ']
          congr 1
          omega
        have : ((f * s % p) * (s * s % p) ^ (k / 2)) % p = (f * s ^ k) % p := by
          rw [key, Nat.mul_mod, Nat.mod_mod, ← Nat.mul_mod, e5, Nat.mul_assoc]
        exact_mod_cast this
      · rw [if_neg (fun z => ho (hodd.mp z)), e2, e3, pwL_pow m _ _ _ hk2]
        have e5 : s ^ k = s ^ (2 * (k / 2)) := by
          congr 1
          omega
        have : (f * (s * s % p) ^ (k / 2)) % p = (f * s ^ k) % p := by rw [key, e5]
        exact_mod_cast this
theorem pwL_range {p : Int} (hp : 0 < p) : ∀ (m : Nat) (f s k : Int), 0 ≤ f → f < p → 0 ≤ pwL p m f s k ∧ pwL p m f s k < p
  | 0, f, s, k, h1, h2 => ⟨h1, h2⟩
  | m + 1, f, s, k, h1, h2 => by
    unfold pwL
    split
    · split
      · exact pwL_range hp m _ _ _ (mod_nn hp) (mod_lt hp)
      · exact pwL_range hp m _ _ _ h1 h2
    · exact ⟨h1, h2⟩
def allB (f : Nat → Bool) : Nat → Bool
  | 0 => true
  | n + 1 => f n && allB f n
theorem allB_ok {f : Nat → Bool} : ∀ {n : Nat}, allB f n = true → ∀ i, i < n → f i = true
  | 0, _, i, h => by omega
  | n + 1, h, i, hi => by
    unfold allB at h
    rw [Bool.and_eq_true] at h
    by_cases e : i = n
    · rw [e]; exact h.1
    · exact allB_ok h.2 i (by omega)
def fermB (p : Nat) : Bool := allB (fun a => Nat.beq a 0 || Nat.beq (a ^ (p - 1) % p) 1) p
theorem inv_ok {p : Nat} (hf : fermB p = true) (hp : 2 ≤ p) (hp2 : p ≤ 1000000) {a : Int} (h0 : 0 ≤ a) (ha : a < p) (hn : a ≠ 0) : 0 ≤ inv p a ∧ inv p a < p ∧ inv p a * a % p = 1 := by
  obtain ⟨a, rfl⟩ := Int.eq_ofNat_of_zero_le h0
  have ha : a < p := by omega
  have hn : a ≠ 0 := fun z => hn (by rw [z]; rfl)
  have h := allB_ok hf a ha
  have h1 : a ^ (p - 1) % p = 1 := by
    rw [Bool.or_eq_true] at h
    rcases h with h | h
    · exact absurd (Nat.eq_of_beq_eq_true h) hn
    · exact Nat.eq_of_beq_eq_true h
  unfold inv
  by_cases hp3 : 2 < p
  · rw [if_pos (by omega)]
    unfold pw
    have r := pwL_range (p := p) (by omega) 40 (1 % p) ((a : Int) % p) ((p : Int) - 2) (mod_nn (by omega)) (mod_lt (by omega))
    refine ⟨r.1, r.2, ?_⟩
    have ep : ((p : Int) - 2) = ((p - 2 : Nat) : Int) := by omega
    have e := pwL_pow (p := p) 40 (1 % p) (a % p) (p - 2) (by omega)
    have e1 : ((1 % p : Nat) : Int) = 1 % (p : Int) := rfl
    have e2 : ((a % p : Nat) : Int) = (a : Int) % (p : Int) := rfl
    rw [ep, Int.mul_emod, ← e1, ← e2, e]
    have : ((1 % p * (a % p) ^ (p - 2)) % p * (a % p)) % p = 1 := by
      rw [Nat.mod_eq_of_lt (show 1 < p by omega), Nat.one_mul, Nat.mod_eq_of_lt ha, Nat.mod_mul_mod, ← Nat.pow_succ, show (p - 2).succ = p - 1 by omega]
      exact h1
    exact_mod_cast this
  · have : p = 2 := by omega
    subst this
    have : a = 1 := by omega
    subst this
    decide
theorem ferm_2 : fermB 2 = true := by decide +kernel
theorem ferm_3 : fermB 3 = true := by decide +kernel
theorem ferm_5 : fermB 5 = true := by decide +kernel
theorem ferm_7 : fermB 7 = true := by decide +kernel
theorem ferm_11 : fermB 11 = true := by decide +kernel
theorem ferm_101 : fermB 101 = true := by decide +kernel
theorem ferm_10007 : fermB 10007 = true := by decide +kernel
end U

namespace U
open PySem
variable {T : Nat → Option FD} {n : Nat} {S : St}
/-! with_root, roots_at -/
def pWithRoot (isc iadd : Nat) : FD := { np := 3, ns := 5, body := (.seq (.set 3 false (.bin .add (.tup (.cons (.con (.int 0)) .nil)) (.var 1)))
    (.seq (.set 4 false (.bin .add (.call isc (.cons (.var 0) (.cons (.bin .sub (.con (.int 0)) (.var 2)) (.cons (.var 1) .nil)))) (.tup (.cons (.con (.int 0)) .nil))))
    (.ret (.call iadd (.cons (.var 0) (.cons (.var 3) (.cons (.var 4) .nil))))))) }
theorem s_withroot {i isc iadd : Nat} (h : T i = some (pWithRoot isc iadd)) (h1 : T isc = some pScaled) (h2 : T iadd = some pAdded) {p a : Int} (hp : 0 < p ∧ p ≤ 1000000) (ha : -1000000000000 ≤ a ∧ a ≤ 1000000000000) (f : List Int) (hl : f.length < 1000000) :
    callN T (n + 2) i [.d (.int p), .d (ti f), .d (.int a)] S = .ok (.d (ti (wrV p f a))) S := by
  have e1 := s_scaled (n := n) (S := S.call) h1 (c := 0 - a) hp (by omega) f (by omega)
  have e2 := s_added (n := n) (S := S.call) h2 hp (0 :: f) (scaledV p (0 - a) f ++ [0]) (by rw [List.length_cons, List.length_append, scaled_len]; rfl) (by rw [List.length_cons]; omega)
  rw [call_eq h rfl]
  have e3 : ∀ S : St, binV .add (.d (.tup [.int 0])) (.d (ti f)) S = .ok (.d (ti (0 :: f))) S := fun S => bin_tup (by simp; omega)
  have e4 : ∀ S : St, binV .add (.d (ti (scaledV p (0 - a) f))) (.d (.tup [.int 0])) S = .ok (.d (ti (scaledV p (0 - a) f ++ [0]))) S := fun S => by
    rw [bin_tup (by rw [List.length_map, scaled_len]; simp; omega)]
    simp [ti]
  simp only [ti, List.map_cons, List.map_append, List.map_nil] at e1 e2 e3 e4
  simp [pWithRoot, varV, sz, e3, -Int.zero_sub, e1, e4, e2]
  rfl
def pRb (iwr : Nat) : DS := (.set 2 false (.call iwr (.cons (.var 0) (.cons (.var 2) (.cons (.var 3) .nil)))))
def pRoots (iwr : Nat) : FD := { np := 2, ns := 4, body := (.seq (.set 2 false (.tup (.cons (.bin .mod (.b1 .int (.con (.int 1))) (.var 0)) .nil)))
    (.seq (.for_ (.one 3) (.wk .seq (.var 1) .nil)
    (pRb iwr))
    (.ret (.var 2)))) }
def Sm (f : List Int) : Prop := ∀ a ∈ f, -1000000000000 ≤ a ∧ a ≤ 1000000000000
theorem l_roots {iwr isc iadd : Nat} (h0 : T iwr = some (pWithRoot isc iadd)) (h1 : T isc = some pScaled) (h2 : T iadd = some pAdded) {p : Int} (hp : 0 < p ∧ p ≤ 1000000) {a1 a2 : SV} : ∀ (pts f : List Int), Sm pts → f.length + pts.length < 1000000 →
    forL (fun _ => true) (putT (.one 3)) (evS (callN T (n + 2)) (pRb iwr)) [some (.d (.int p)), some a1, some a2, none] 0 (pts.map D.int) [some (.d (.int p)), some a1, some (.d (ti f)), none] S.call =
      .ok (.next [some (.d (.int p)), some a1, some (.d (ti (pts.foldl (wrV p) f))), none]) S.call
  | [], f, _, _ => rfl
  | a :: pts, f, hs, hl => by
    have ih := l_roots h0 h1 h2 hp (a1 := a1) (a2 := a2) pts (wrV p f a) (fun b hb => hs b (List.mem_cons_of_mem _ hb)) (by rw [wr_len]; rw [List.length_cons] at hl; omega)
    have e := s_withroot (n := n) (S := S.call) h0 h1 h2 (a := a) hp (hs a List.mem_cons_self) f (by omega)
    rw [List.map_cons, forL]
    simp [putT, Env.put, pRb, varV, e]
    exact ih
theorem s_roots {i iwr isc iadd : Nat} (h : T i = some (pRoots iwr)) (h0 : T iwr = some (pWithRoot isc iadd)) (h1 : T isc = some pScaled) (h2 : T iadd = some pAdded) {p : Int} (hp : 0 < p ∧ p ≤ 1000000) (pts : List Int) (hs : Sm pts) (hl : pts.length ≤ 1000) :
    callN T (n + 3) i [.d (.int p), .d (ti pts)] S = .ok (.d (ti (rtV p pts))) S := by
  have e := l_roots (n := n) (S := S) h0 h1 h2 hp (a1 := .d (ti pts)) (a2 := .d (ti [1 % p])) pts [1 % p] hs (by simp; omega)
  rw [call_eq h rfl]
  have e' : forL (⟨pts.map D.int, none⟩ : Walk).chk (putT (.one 3)) (evS (callN T (n + 2)) (pRb iwr)) [some (.d (.int p)), some (.d (ti pts)), some (.d (ti [1 % p])), none] 0 (pts.map D.int) [some (.d (.int p)), some (.d (ti pts)), some (.d (ti [1 % p])), none] S.call = _ := e
  simp only [ti, List.map_cons, List.map_nil] at e'
  simp [pRoots, varV, bop_mod hp.1, sz, e']
  rfl
/-! bases -/
def pBb (irt isc iinv ival : Nat) : DS := (.seq (.set 4 false (.call irt (.cons (.var 0) (.cons (.bin .add (.sl (.var 1) .nil (.cons (.var 3) .nil)) (.sl (.var 1) (.cons (.bin .add (.var 3) (.con (.int 1))) .nil) .nil)) .nil))))
    (.expr (.m1 .append (.var 2) (.call isc (.cons (.var 0) (.cons (.call iinv (.cons (.var 0) (.cons (.call ival (.cons (.var 0) (.cons (.var 4) (.cons (.ix (.var 1) (.var 3)) .nil)))) .nil))) (.cons (.var 4) .nil)))))))
def pBases (irt isc iinv ival : Nat) : FD := { np := 2, ns := 5, body := (.seq (.set 2 true (.lst .nil))
    (.seq (.for_ (.one 3) (.wk .rng1 (.b1 .len (.var 1)) .nil)
    (pBb irt isc iinv ival))
    (.ret (.var 2)))) }
def others (pts : List Int) (i : Nat) : List Int := pts.take i ++ pts.drop (i + 1)
def baseV (p : Int) (pts : List Int) (i : Nat) : List Int := scaledV p (inv p (pe (pts.getD i 0) (rtV p (others pts i)) % p)) (rtV p (others pts i))
theorem others_len {pts : List Int} {i : Nat} (h : i < pts.length) : (others pts i).length = pts.length - 1 := by
  unfold others
  rw [List.length_append, List.length_take, List.length_drop]
  omega
theorem others_mem {pts : List Int} {i : Nat} {a : Int} (h : a ∈ others pts i) : a ∈ pts := by
  rcases List.mem_append.mp h with h | h
  · exact List.mem_of_mem_take h
  · exact List.mem_of_mem_drop h
structure PolyT (T : Nat → Option FD) (ipw iinv ival iadd isc iwr irt : Nat) : Prop where
  pw : T ipw = some pPower
  inv : T iinv = some (pInverse ipw)
  val : T ival = some pValue
  add : T iadd = some pAdded
  sc : T isc = some pScaled
  wr : T iwr = some (pWithRoot isc iadd)
  rt : T irt = some (pRoots iwr)
def bagS (S0 : St) (xs : List D) : St := ⟨[⟨false, .lst xs⟩], S0.own :: S0.out, S0.gl⟩
theorem bag_get {S0 : St} {xs : List D} : (bagS S0 xs).get 0 0 = some ⟨false, .lst xs⟩ := rfl
theorem bag_app {S0 : St} {xs : List D} (h : xs.length < 16777216) {d : D} : meth1 .append (.loc 0 0) (.d d) (bagS S0 xs) = .ok (.d .non) (bagS S0 (xs ++ [d])) := by
  rw [app_d bag_get h]
  rfl
theorem bag_recv {S0 : St} {xs : List D} : recvOk .append (view (bagS S0 xs) (.loc 0 0)) = true := recv_loc (by simp) bag_get
theorem inv_range {p a : Int} (hp : 0 < p) (ha : 0 ≤ a ∧ a < p) : 0 ≤ inv p a ∧ inv p a < p := by
  unfold inv
  split
  · exact pwL_range hp _ _ _ _ (mod_nn hp) (mod_lt hp)
  · exact ha
section
variable {ipw iinv ival iadd isc iwr irt : Nat}
theorem l_bases (P : PolyT T ipw iinv ival iadd isc iwr irt) {p : Int} (hp : 0 < p ∧ p ≤ 1000000) (pts : List Int) (hs : Sm pts) (hl : pts.length ≤ 1000) : ∀ (is : List Nat) (xs : List D), (∀ i ∈ is, i < pts.length) → xs.length + is.length < 1000000 →
    forL (fun _ => true) (putT (.one 3)) (evS (callN T (n + 3)) (pBb irt isc iinv ival)) [some (.d (.int p)), some (.d (ti pts)), some (.loc 0 0), none, none] 1 (is.map fun k => D.int (k : Nat)) [some (.d (.int p)), some (.d (ti pts)), some (.loc 0 0), none, none] (bagS S xs) =
      .ok (.next [some (.d (.int p)), some (.d (ti pts)), some (.loc 0 0), none, none]) (bagS S (xs ++ is.map fun i => ti (baseV p pts i)))
  | [], xs, _, _ => by
    have : xs ++ List.map (fun i => ti (baseV p pts i)) [] = xs := by simp
    rw [this]
    rfl
  | i :: is, xs, hi, hx => by
    have hi0 := hi i List.mem_cons_self
    rw [List.length_cons] at hx
    have ih := l_bases P hp pts hs hl is (xs ++ [ti (baseV p pts i)]) (fun k hk => hi k (List.mem_cons_of_mem _ hk)) (by rw [List.length_append]; simp; omega)
    have so : Sm (others pts i) := fun a ha => hs a (others_mem ha)
    have lo : (others pts i).length ≤ 1000 := by rw [others_len hi0]; omega
    have e1 := s_roots (n := n) (S := bagS S xs) P.rt P.wr P.sc P.add hp (others pts i) so lo
    have e2 := s_value (n := n + 2) (S := bagS S xs) P.val (x := pts[i]) hp (rtV p (others pts i))
    have e3 := s_inverse P.inv P.pw (n + 1) p (pe pts[i] (rtV p (others pts i)) % p) hp (bagS S xs)
    have hr := inv_range hp.1 (a := pe pts[i] (rtV p (others pts i)) % p) ⟨mod_nn hp.1, mod_lt hp.1⟩
    have e4 := s_scaled (n := n + 2) (S := bagS S xs) P.sc (c := inv p (pe pts[i] (rtV p (others pts i)) % p)) hp (by omega) (rtV p (others pts i)) (by rw [rt_len]; omega)
    have e5 : ∀ S : St, ixV (.d (ti pts)) (.d (.int i)) S = .ok (.d (.int pts[i])) S := fun S => ix_tup (getI hi0)
    have e6 : ∀ S : St, binV .add (.d (.tup (cut (pts.map D.int) none (some (i : Int))))) (.d (.tup (cut (pts.map D.int) (some ((i : Int) + 1)) none))) S = .ok (.d (ti (others pts i))) S := fun S => by
      rw [cut_take (by rw [List.length_map]; omega), show ((i : Int) + 1) = ((i + 1 : Nat) : Int) from rfl, cut_drop (by rw [List.length_map]; omega), bin_tup (by rw [List.length_take, List.length_drop, List.length_map]; omega)]
      unfold ti others
      rw [List.map_append, List.map_take, List.map_drop]
    have eb : baseV p pts i = scaledV p (inv p (pe pts[i] (rtV p (others pts i)) % p)) (rtV p (others pts i)) := by
      unfold baseV
      rw [show pts.getD i 0 = pts[i] by simp [hi0]]
    rw [← eb] at e4
    rw [List.map_cons, forL]
    simp [putT, Env.put, pBb, varV, e6, e1, e2, e3, e4, e5, bag_recv, bag_app (show xs.length < 16777216 by omega)]
    rw [ownFree_take (n := 1) (S := bagS S (xs ++ [ti (baseV p pts i)])) rfl]
    rw [List.append_assoc] at ih
    exact ih
theorem s_bases {i : Nat} (P : PolyT T ipw iinv ival iadd isc iwr irt) (h : T i = some (pBases irt isc iinv ival)) {p : Int} (hp : 0 < p ∧ p ≤ 1000000) (pts : List Int) (hs : Sm pts) (hl : pts.length ≤ 1000) :
    callN T (n + 4) i [.d (.int p), .d (ti pts)] S = .ok (.new (.lst ((List.range pts.length).map fun i => ti (baseV p pts i)))) S := by
  have e := l_bases (n := n) (S := S) P hp pts hs hl (List.range pts.length) [] (fun i hi => List.mem_range.mp hi) (by simp; omega)
  have er : rngUp 0 pts.length = (List.range pts.length).map fun k => D.int (k : Nat) := by
    rw [List.range_eq_range']
    exact rng_range pts.length 0
  rw [← er] at e
  rw [call_eq h rfl]
  have e' : forL (⟨rngUp 0 pts.length, none⟩ : Walk).chk (putT (.one 3)) (evS (callN T (n + 3)) (pBb irt isc iinv ival)) [some (.d (.int p)), some (.d (ti pts)), some (.loc 0 0), none, none] 1 (rngUp 0 pts.length) [some (.d (.int p)), some (.d (ti pts)), some (.loc 0 0), none, none] ⟨[⟨false, .lst []⟩], S.own :: S.out, S.gl⟩ = _ := e
  simp [pBases, varV, St.call, rng1_int (j := (pts.length : Int)) (by omega) (by omega), e', sz]
  rfl
end
end U

namespace U
open PySem
variable {T : Nat → Option FD} {n : Nat} {S : St}
section
variable {ipw iinv ival iadd isc iwr irt : Nat}
/-! through, weights, veil -/
def pTb (iadd isc : Nat) : DS := (.set 3 false (.call iadd (.cons (.var 0) (.cons (.var 3) (.cons (.call isc (.cons (.var 0) (.cons (.ix (.var 2) (.var 5)) (.cons (.ix (.var 4) (.var 5)) .nil)))) .nil)))))
def pThrough (iadd isc iba : Nat) : FD := { np := 3, ns := 6, body := (.seq (.set 3 false (.bin .mul (.tup (.cons (.con (.int 0)) .nil)) (.b1 .len (.var 1))))
    (.seq (.set 4 false (.call iba (.cons (.var 0) (.cons (.var 1) .nil))))
    (.seq (.for_ (.one 5) (.wk .rng1 (.b1 .len (.var 1)) .nil)
    (pTb iadd isc))
    (.ret (.var 3))))) }
def thrG (p : Int) (pts vals : List Int) (is : List Nat) (f : List Int) : List Int := is.foldl (fun f i => addedV p f (scaledV p (vals.getD i 0) (baseV p pts i))) f
def thrV (p : Int) (pts vals : List Int) : List Int := thrG p pts vals (List.range pts.length) (List.replicate pts.length 0)
theorem base_len {p : Int} {pts : List Int} {i : Nat} (h : i < pts.length) : (baseV p pts i).length = pts.length := by
  unfold baseV
  rw [scaled_len, rt_len, others_len h]
  omega
theorem rows_get {p : Int} {pts : List Int} {i : Nat} (h : i < pts.length) : ((List.range pts.length).map fun i => ti (baseV p pts i))[i]? = some (ti (baseV p pts i)) := by
  rw [List.getElem?_map, List.getElem?_range h]
  rfl
theorem l_through (P : PolyT T ipw iinv ival iadd isc iwr irt) {p : Int} (hp : 0 < p ∧ p ≤ 1000000) (pts vals : List Int) (hv : Sm vals) (hvl : vals.length = pts.length) (hl : pts.length ≤ 1000) {a3 : SV} {rows : List D} (hr : rows = (List.range pts.length).map fun i => ti (baseV p pts i)) : ∀ (is : List Nat) (f : List Int), (∀ i ∈ is, i < pts.length) → f.length = pts.length →
    forL (fun _ => true) (putT (.one 5)) (evS (callN T (n + 1)) (pTb iadd isc)) [some (.d (.int p)), some (.d (ti pts)), some (.d (ti vals)), some a3, some (.d (.lst rows)), none] 0 (is.map fun k => D.int (k : Nat)) [some (.d (.int p)), some (.d (ti pts)), some (.d (ti vals)), some (.d (ti f)), some (.d (.lst rows)), none] S.call =
      .ok (.next [some (.d (.int p)), some (.d (ti pts)), some (.d (ti vals)), some (.d (ti (thrG p pts vals is f))), some (.d (.lst rows)), none]) S.call
  | [], f, _, _ => rfl
  | i :: is, f, hi, hf => by
    have hi0 := hi i List.mem_cons_self
    have hiv : i < vals.length := by omega
    have hb := base_len (p := p) hi0
    have e1 : ∀ S : St, ixV (.d (ti vals)) (.d (.int i)) S = .ok (.d (.int vals[i])) S := fun S => ix_tup (getI hiv)
    have e2 : ∀ S : St, ixV (.d (.lst rows)) (.d (.int i)) S = .ok (.d (ti (baseV p pts i))) S := fun S => ix_lst (by rw [hr]; exact rows_get hi0)
    have e3 := s_scaled (n := n) (S := S.call) P.sc (c := vals[i]) hp (hv _ (List.getElem_mem hiv)) (baseV p pts i) (by omega)
    have e4 := s_added (n := n) (S := S.call) P.add hp f (scaledV p vals[i] (baseV p pts i)) (by rw [scaled_len]; omega) (by omega)
    have ih := l_through P hp pts vals hv hvl hl (a3 := a3) hr is (addedV p f (scaledV p vals[i] (baseV p pts i))) (fun k hk => hi k (List.mem_cons_of_mem _ hk)) (by rw [added_len (by rw [scaled_len]; omega)]; exact hf)
    have eg : thrG p pts vals (i :: is) f = thrG p pts vals is (addedV p f (scaledV p vals[i] (baseV p pts i))) := by
      unfold thrG
      rw [List.foldl_cons, show vals.getD i 0 = vals[i] by simp [hiv]]
    rw [eg, List.map_cons, forL]
    simp [putT, Env.put, pTb, varV, e1, e2, e3, e4]
    exact ih
theorem rep_one (k : Nat) : rep k [D.int 0] = (List.replicate k (0 : Int)).map D.int := by
  unfold rep
  induction k with
  | zero => rfl
  | succ k ih => rw [List.replicate_succ, List.flatten_cons, ih, List.replicate_succ, List.map_cons]; rfl
theorem s_through {i iba : Nat} (P : PolyT T ipw iinv ival iadd isc iwr irt) (hb : T iba = some (pBases irt isc iinv ival)) (h : T i = some (pThrough iadd isc iba)) {p : Int} (hp : 0 < p ∧ p ≤ 1000000) (pts vals : List Int) (hs : Sm pts) (hv : Sm vals) (hvl : vals.length = pts.length) (hl : pts.length ≤ 1000) :
    callN T (n + 5) i [.d (.int p), .d (ti pts), .d (ti vals)] S = .ok (.d (ti (thrV p pts vals))) S := by
  have e1 := s_bases (n := n) (S := S.call) P hb hp pts hs hl
  have e := l_through (n := n + 3) (S := S) P hp pts vals hv hvl hl (a3 := .d (ti (List.replicate pts.length 0))) rfl (List.range pts.length) (List.replicate pts.length 0) (fun i hi => List.mem_range.mp hi) List.length_replicate
  have er : rngUp 0 pts.length = (List.range pts.length).map fun k => D.int (k : Nat) := by
    rw [List.range_eq_range']
    exact rng_range pts.length 0
  rw [← er] at e
  have em : ∀ S : St, binV .mul (.d (.tup [.int 0])) (.d (.int (pts.length : Int))) S = .ok (.d (ti (List.replicate pts.length 0))) S := fun S => by
    rw [mul_tup (by omega) (by omega) (by simp), show ((pts.length : Int)).toNat = pts.length from rfl, rep_one]
  rw [call_eq h rfl]
  have e' : forL (⟨rngUp 0 pts.length, none⟩ : Walk).chk (putT (.one 5)) (evS (callN T (n + 4)) (pTb iadd isc)) [some (.d (.int p)), some (.d (ti pts)), some (.d (ti vals)), some (.d (ti (List.replicate pts.length 0))), some (.d (.lst ((List.range pts.length).map fun i => ti (baseV p pts i)))), none] 0 (rngUp 0 pts.length) [some (.d (.int p)), some (.d (ti pts)), some (.d (ti vals)), some (.d (ti (List.replicate pts.length 0))), some (.d (.lst ((List.range pts.length).map fun i => ti (baseV p pts i)))), none] S.call = _ := e
  simp [-List.map_replicate, pThrough, varV, sz, em, e1, rng1_int (j := (pts.length : Int)) (by omega) (by omega), e']
  rfl
def pWc (ival : Nat) : DE := (.call ival (.cons (.var 0) (.cons (.var 3) (.cons (.var 2) .nil))))
def pWeights (ival iba : Nat) : FD := { np := 3, ns := 4, body := (.ret (.b1 .tuple (.lc (pWc ival) (.one 3) (.wk .seq (.call iba (.cons (.var 0) (.cons (.var 1) .nil))) .nil) (.con (.bl true)) [3]))) }
def wtV (p : Int) (pts : List Int) (x : Int) : List Int := (List.range pts.length).map fun i => pe x (baseV p pts i) % p
theorem s_weights {i iba : Nat} (P : PolyT T ipw iinv ival iadd isc iwr irt) (hb : T iba = some (pBases irt isc iinv ival)) (h : T i = some (pWeights ival iba)) {p x : Int} (hp : 0 < p ∧ p ≤ 1000000) (pts : List Int) (hs : Sm pts) (hl : pts.length ≤ 1000) :
    callN T (n + 5) i [.d (.int p), .d (ti pts), .d (.int x)] S = .ok (.d (ti (wtV p pts x))) S := by
  have e1 := s_bases (n := n) (S := S.call) P hb hp pts hs hl
  have e := comp_pure (chk := (⟨(List.range pts.length).map fun i => ti (baseV p pts i), none⟩ : Walk).chk) (S := S.call) (put := fun y => putT (.one 3) y (wipeE [some (.d (.int p)), some (.d (ti pts)), some (.d (.int x)), none] [3])) (fc := evE (callN T (n + 4)) (.con (.bl true))) (fe := evE (callN T (n + 4)) (pWc ival)) (c := fun _ => true)
    (f := fun y => match y with
      | .tup ds => .int (pe x (ds.map fun d => match d with
        | .int a => a
        | _ => 0) % p)
      | d => d) (r := fun y => [some (.d (.int p)), some (.d (ti pts)), some (.d (.int x)), some (.d y)]) rfl ((List.range pts.length).map fun i => ti (baseV p pts i)) (fun y hy => by
    obtain ⟨j, hj, rfl⟩ := List.mem_map.mp hy
    refine ⟨rfl, rfl, fun _ => ?_⟩
    have e2 := s_value (n := n + 3) (S := S.call) P.val (x := x) hp (baseV p pts j)
    have e3 : ((baseV p pts j).map D.int).map (fun d => match d with
        | .int a => a
        | _ => (0 : Int)) = baseV p pts j := by rw [List.map_map]; exact List.map_id _
    show _ = Res.ok (RV.d (.int (pe x (((baseV p pts j).map D.int).map _) % p))) _
    rw [e3]
    simp [pWc, varV, e2])
  rw [List.filter_eq_self.mpr (fun _ _ => rfl), List.map_map] at e
  have e4 : (List.range pts.length).map ((fun y => match y with
      | .tup ds => .int (pe x (ds.map fun d => match d with
        | .int a => a
        | _ => 0) % p)
      | d => d) ∘ fun i => ti (baseV p pts i)) = (wtV p pts x).map D.int := by
    unfold wtV
    rw [List.map_map]
    refine List.map_congr_left fun j _ => ?_
    show D.int (pe x (((baseV p pts j).map D.int).map _) % p) = _
    rw [List.map_map]
    congr 3
    exact List.map_id _
  rw [e4] at e
  have hsz : sz (wtV p pts x).length = true := by
    unfold wtV
    rw [List.length_map, List.length_range]
    exact decide_eq_true (by omega)
  rw [call_eq h rfl]
  simp [pWeights, varV, e1, e, hsz]
def pVeil (irt isc iinv : Nat) : FD := { np := 2, ns := 3, body := (.seq (.set 2 false (.call irt (.cons (.var 0) (.cons (.var 1) .nil))))
    (.ret (.call isc (.cons (.var 0) (.cons (.call iinv (.cons (.var 0) (.cons (.ix (.var 2) (.con (.int 0))) .nil))) (.cons (.var 2) .nil)))))) }
def veilV (p : Int) (pts : List Int) : List Int := scaledV p (inv p ((rtV p pts).getD 0 0)) (rtV p pts)
theorem s_veil {i : Nat} (P : PolyT T ipw iinv ival iadd isc iwr irt) (h : T i = some (pVeil irt isc iinv)) {p : Int} (hp : 0 < p ∧ p ≤ 1000000) (pts : List Int) (hs : Sm pts) (hl : pts.length ≤ 1000) :
    callN T (n + 4) i [.d (.int p), .d (ti pts)] S = .ok (.d (ti (veilV p pts))) S := by
  have e1 := s_roots (n := n) (S := S.call) P.rt P.wr P.sc P.add hp pts hs hl
  have h0 : 0 < (rtV p pts).length := by rw [rt_len]; omega
  have hg : (rtV p pts).getD 0 0 = (rtV p pts)[0] := by simp [h0]
  have hin := rt_in hp.1 (pts := pts) _ (List.getElem_mem h0)
  have e2 : ∀ S : St, ixV (.d (ti (rtV p pts))) (.d (.int 0)) S = .ok (.d (.int (rtV p pts)[0])) S := fun S => ix_tup (k := 0) (getI h0)
  have e3 := s_inverse P.inv P.pw (n + 1) p (rtV p pts)[0] hp S.call
  have hr := inv_range hp.1 hin
  have e4 := s_scaled (n := n + 2) (S := S.call) P.sc (c := inv p (rtV p pts)[0]) hp (by omega) (rtV p pts) (by rw [rt_len]; omega)
  rw [call_eq h rfl]
  unfold veilV
  rw [hg]
  simp [pVeil, varV, e1, e2, e3, e4]
end
end U

/-! UHarn3: the law's own numbers and polynomials. -/
namespace U
open PySem
variable {T : Nat → Option FD} {n : Nat} {S : St} {u j : Nat} {ds : List Int} {k : Nat}
theorem comp_step {chk : St → Bool} {put : D → Option Env} {fc fe : Env → M RV} {x d : D} {xs ds : List D} {ρ : Env} {S2 S3 S4 : St} {y : RV} (hk : chk S = true) (h1 : put x = some ρ) (h2 : fc ρ S = .ok (.d (.bl true)) S) (h3 : fe ρ S = .ok y S2) (h4 : keep y S2 = .ok d S3) (h5 : compL chk put fc fe xs S3 = .ok ds S4) : compL chk put fc fe (x :: xs) S = .ok (d :: ds) S4 := by
  unfold compL
  rw [if_pos hk, h1]
  dsimp only
  rw [h2]
  dsimp only [truth]
  rw [h3]
  dsimp only
  rw [h4]
  dsimp only
  rw [h5]
/-! numbers -/
def hNc (inu : Nat) : DE := (.call inu (.cons (.var 0) (.cons (.var 1) .nil)))
def hNumbers (inu : Nat) : FD := { np := 3, ns := 4, body := (.ret (.b1 .tuple (.lc (hNc inu) (.one 3) (.wk .rng1 (.var 2) .nil) (.con (.bl true)) [3]))) }
theorem l_numbers {inu id : Nat} (h : T inu = some (hNumber id)) (hd : T id = some hDraw) {p : Int} (hp : 0 < p) {a2 : SV} : ∀ (xs : List D) (S : St) (k : Nat), S.get u j = some (boxO ds k) →
    ∃ ys : List Int, ys.length = xs.length ∧ InR p ys ∧ compL (fun _ => true) (fun x => putT (.one 3) x (wipeE [some (.loc (u + 1) j), some (.d (.int p)), some a2, none] [3])) (evE (callN T (n + 2)) (.con (.bl true))) (evE (callN T (n + 2)) (hNc inu)) xs S.call = .ok (ys.map D.int) (S.set u j (boxO ds (k + 2 * xs.length))).call
  | [], S, k, hb => ⟨[], rfl, fun c hc => (by cases hc), (by
      show Res.ok [] S.call = Res.ok [] (S.set u j (boxO ds (k + 2 * 0))).call
      rw [show k + 2 * 0 = k from rfl, set_same hb])⟩
  | x :: xs, S, k, hb => by
    have g0 : S.call.get (u + 1) j = some (boxO ds k) := by rw [call_get]; exact hb
    have e1 := s_number (n := n) h hd g0 hp
    rw [call_set] at e1
    obtain ⟨ys, hl, hr, e2⟩ := l_numbers h hd hp (a2 := a2) xs (S.set u j (boxO ds (k + 2))) (k + 2) (get_set hb)
    rw [set_set, show k + 2 + 2 * xs.length = k + 2 * (x :: xs).length by rw [List.length_cons]; omega] at e2
    refine ⟨num ds k p :: ys, by rw [List.length_cons, List.length_cons, hl], fun c hc => ?_, ?_⟩
    · rcases List.mem_cons.mp hc with rfl | hc
      · exact ⟨num_nn hp, num_lt hp⟩
      · exact hr c hc
    · have ev : evE (callN T (n + 2)) (hNc inu) [some (.loc (u + 1) j), some (.d (.int p)), some a2, some (.d x)] S.call = .ok (.d (.int (num ds k p))) (S.set u j (boxO ds (k + 2))).call := by
        simp [hNc, varV, e1]
      exact comp_step rfl rfl rfl ev rfl e2
theorem s_numbers {i inu id : Nat} (h : T i = some (hNumbers inu)) (h1 : T inu = some (hNumber id)) (hd : T id = some hDraw) (hb : S.get u j = some (boxO ds k)) {p : Int} (hp : 0 < p) {m : Nat} (hm : m ≤ 1000000) :
    ∃ ys : List Int, ys.length = m ∧ InR p ys ∧ callN T (n + 3) i [.loc u j, .d (.int p), .d (.int m)] S = .ok (.d (ti ys)) (S.set u j (boxO ds (k + 2 * m))) := by
  obtain ⟨ys, hl, hr, e⟩ := l_numbers (n := n) h1 hd hp (a2 := .d (.int m)) (rngUp 0 m) S k hb
  rw [rng_len] at hl e
  refine ⟨ys, hl, hr, ?_⟩
  have hsz : sz ys.length = true := decide_eq_true (by omega)
  rw [call_eq h rfl]
  have e' : compL (⟨rngUp 0 m, none⟩ : Walk).chk (fun x => putT (.one 3) x (wipeE [some (.loc (u + 1) j), some (.d (.int p)), some (.d (.int m)), none] [3])) (evE (callN T (n + 2)) (.con (.bl true))) (evE (callN T (n + 2)) (hNc inu)) (rngUp 0 m) S.call = _ := e
  simp [hNumbers, varV, rng1_int (j := (m : Int)) (by omega) (by omega), e', hsz]
/-! the value, by powers -/
def hAb : DS := (.seq (.set 3 false (.bin .mod (.b1 .int (.bin .add (.var 3) (.bin .mul (.var 5) (.var 4)))) (.var 0)))
    (.set 4 false (.bin .mod (.b1 .int (.bin .mul (.var 4) (.var 2))) (.var 0))))
def hAt : FD := { np := 3, ns := 6, body := (.seq (.set 3 false (.con (.int 0)))
    (.seq (.set 4 false (.con (.int 1)))
    (.seq (.for_ (.one 5) (.wk .seq (.var 1) .nil)
    hAb)
    (.ret (.var 3))))) }
theorem l_at {S : St} {C : Nat → List SV → M RV} {p x : Int} {a1 a3 a4 : SV} (hp : 2 ≤ p ∧ p ≤ 1000000) : ∀ (f : List Int) (t w : Int), 0 ≤ t → t < p → 0 ≤ w → w < p →
    ∃ t' w', forL (fun _ => true) (putT (.one 5)) (evS C hAb) [some (.d (.int p)), some a1, some (.d (.int x)), some a3, some a4, none] 0 (f.map D.int) [some (.d (.int p)), some a1, some (.d (.int x)), some (.d (.int t)), some (.d (.int w)), none] S.call =
      .ok (.next [some (.d (.int p)), some a1, some (.d (.int x)), some (.d (.int t')), some (.d (.int w')), none]) S.call ∧ 0 ≤ t' ∧ t' < p ∧ cg p t' (t + w * pe x f)
  | [], t, w, h0, h1, _, _ => ⟨t, w, rfl, h0, h1, cg.of_eq (by simp [pe])⟩
  | c :: f, t, w, h0, h1, h2, h3 => by
    have p0 : 0 < p := by omega
    obtain ⟨t', w', e, k0, k1, k2⟩ := l_at (S := S) (C := C) (x := x) (a1 := a1) (a3 := a3) (a4 := a4) hp f ((t + c * w) % p) (w * x % p) (mod_nn p0) (mod_lt p0) (mod_nn p0) (mod_lt p0)
    refine ⟨t', w', ?_, k0, k1, ?_⟩
    · rw [List.map_cons, forL]
      simp [putT, Env.put, hAb, varV, mul_r (i := c) (j := w) (by omega) (by omega), mul_l (i := w) (j := x) (by omega) (by omega), bop_mod p0]
      exact e
    · refine k2.trans ?_
      refine (cg.mod.add (cg.mod.mul .refl)).trans (cg.of_eq ?_)
      rw [pe]
      grind
theorem s_at {i : Nat} (h : T i = some hAt) {p x : Int} (hp : 2 ≤ p ∧ p ≤ 1000000) (f : List Int) : callN T (n + 1) i [.d (.int p), .d (ti f), .d (.int x)] S = .ok (.d (.int (pe x f % p))) S := by
  obtain ⟨t', w', e, k0, k1, k2⟩ := l_at (S := S) (C := callN T n) (x := x) (a1 := .d (ti f)) (a3 := .d (.int 0)) (a4 := .d (.int 1)) hp f 0 1 (by omega) (by omega) (by omega) (by omega)
  rw [Int.zero_add, Int.one_mul] at k2
  rw [call_eq h rfl]
  have e' : forL (⟨f.map D.int, none⟩ : Walk).chk (putT (.one 5)) (evS (callN T n) hAb) [some (.d (.int p)), some (.d (ti f)), some (.d (.int x)), some (.d (.int 0)), some (.d (.int 1)), none] 0 (f.map D.int) [some (.d (.int p)), some (.d (ti f)), some (.d (.int x)), some (.d (.int 0)), some (.d (.int 1)), none] S.call = _ := e
  simp [hAt, varV, e', k2.eqm k0 k1]
/-! the law's inverse -/
def hInverse (ira : Nat) : FD := { np := 2, ns := 2, body := (.ret (.call ira (.cons (.var 0) (.cons (.bin .mod (.b1 .int (.var 1)) (.var 0)) (.cons (.bin .sub (.var 0) (.con (.int 2))) .nil))))) }
def linv (p a : Int) : Int := rs p (a % p) (p - 2)
theorem s_linv {i ira : Nat} (h : T i = some (hInverse ira)) (h1 : T ira = some hRaised) {p a : Int} (hp : 2 ≤ p ∧ p ≤ 1000000) : callN T (n + 2) i [.d (.int p), .d (.int a)] S = .ok (.d (.int (linv p a))) S := by
  have p0 : 0 < p := by omega
  have e := s_raised (n := n) (S := S.call) h1 (p := p) (a := a % p) (k := p - 2) (by omega) (mod_nn p0) (mod_lt p0) (by omega)
  rw [call_eq h rfl]
  simp [hInverse, varV, bop_mod p0, e, linv]
end U

namespace U
open PySem
variable {T : Nat → Option FD} {n : Nat} {S : St} {u j : Nat}
/-! the law's weights -/
def topV (p x one : Int) : List Int → Int → Int
  | [], t => t
  | o :: os, t => topV p x one os (if o = one then t else t * (x - o) % p)
def hW1 : DS := (.ife (.cmp .ne (.var 7) (.var 4))
    (.seq (.set 5 false (.bin .mod (.b1 .int (.bin .mul (.var 5) (.bin .sub (.var 2) (.var 7)))) (.var 0)))
    (.set 6 false (.bin .mod (.b1 .int (.bin .mul (.var 6) (.bin .sub (.var 4) (.var 7)))) (.var 0))))
    .skip)
def hW2 (ili : Nat) : DS := (.seq (.set 5 false (.con (.int 1)))
    (.seq (.set 6 false (.con (.int 1)))
    (.seq (.for_ (.one 7) (.wk .seq (.var 1) .nil)
    hW1)
    (.expr (.m1 .append (.var 3) (.bin .mod (.b1 .int (.bin .mul (.var 5) (.call ili (.cons (.var 0) (.cons (.var 6) .nil))))) (.var 0)))))))
def hWeights (ili : Nat) : FD := { np := 3, ns := 8, body := (.seq (.set 3 true (.lst .nil))
    (.seq (.for_ (.one 4) (.wk .seq (.var 1) .nil)
    (hW2 ili))
    (.ret (.var 3)))) }
theorem top_range {p x one : Int} (hp : 0 < p) : ∀ (os : List Int) (t : Int), 0 ≤ t → t < p → 0 ≤ topV p x one os t ∧ topV p x one os t < p
  | [], t, h0, h1 => ⟨h0, h1⟩
  | o :: os, t, h0, h1 => by
    unfold topV
    split
    · exact top_range hp os t h0 h1
    · exact top_range hp os _ (mod_nn hp) (mod_lt hp)
theorem l_w1 {C : Nat → List SV → M RV} {p x one : Int} (hp : 2 ≤ p ∧ p ≤ 1000000) {chk : St → Bool} (hk : chk S = true) {n0 : Nat} (hn : S.own.length = n0) {a1 a3 q5 q6 : SV} : ∀ (os : List Int) (t l : Int), 0 ≤ t → t < p → 0 ≤ l → l < p →
    forL chk (putT (.one 7)) (evS C hW1) [some (.d (.int p)), some a1, some (.d (.int x)), some a3, some (.d (.int one)), some q5, some q6, none] n0 (os.map D.int) [some (.d (.int p)), some a1, some (.d (.int x)), some a3, some (.d (.int one)), some (.d (.int t)), some (.d (.int l)), none] S =
      .ok (.next [some (.d (.int p)), some a1, some (.d (.int x)), some a3, some (.d (.int one)), some (.d (.int (topV p x one os t))), some (.d (.int (topV p one one os l))), none]) S
  | [], t, l, _, _, _, _ => by
    rw [List.map_nil, forL]
    dsimp only
    rw [if_pos hk]
    rfl
  | o :: os, t, l, h0, h1, h2, h3 => by
    have p0 : 0 < p := by omega
    rw [List.map_cons, forL]
    dsimp only
    rw [if_pos hk]
    by_cases ho : o = one
    · have ih := l_w1 (C := C) (x := x) (one := one) (a1 := a1) (a3 := a3) (q5 := q5) (q6 := q6) hp hk hn os t l h0 h1 h2 h3
      simp [putT, Env.put, hW1, varV, ho, topV, ownFree_take hn]
      exact ih
    · have ih := l_w1 (C := C) (x := x) (one := one) (a1 := a1) (a3 := a3) (q5 := q5) (q6 := q6) hp hk hn os (t * (x - o) % p) (l * (one - o) % p) (mod_nn p0) (mod_lt p0) (mod_nn p0) (mod_lt p0)
      simp [putT, Env.put, hW1, varV, ho, topV, ownFree_take hn, mul_l (i := t) (j := x - o) (by omega) (by omega), mul_l (i := l) (j := one - o) (by omega) (by omega), bop_mod p0]
      exact ih
def lwV (p : Int) (pts : List Int) (x one : Int) : Int := topV p x one pts 1 * linv p (topV p one one pts 1) % p
theorem linv_range {p a : Int} (hp : 2 ≤ p) : 0 ≤ linv p a ∧ linv p a < p := by
  have p0 : 0 < p := by omega
  unfold linv rs
  rw [← pw_rs _ _ _ _ (by omega)]
  exact pwL_range p0 _ _ _ _ (mod_nn p0) (mod_lt p0)
theorem l_w2 {ili ira : Nat} (h1 : T ili = some (hInverse ira)) (h2 : T ira = some hRaised) {p x : Int} (hp : 2 ≤ p ∧ p ≤ 1000000) {z : Bool} {pts : List Int} (hg : S.get u j = some ⟨z, .lst (pts.map D.int)⟩) : ∀ (os : List Int) (xs : List Int), xs.length + os.length < 1000000 →
    forL (⟨pts.map D.int, some (u + 1, j)⟩ : Walk).chk (putT (.one 4)) (evS (callN T (n + 2)) (hW2 ili)) [some (.d (.int p)), some (.loc (u + 1) j), some (.d (.int x)), some (.loc 0 0), none, none, none, none] 1 (os.map D.int) [some (.d (.int p)), some (.loc (u + 1) j), some (.d (.int x)), some (.loc 0 0), none, none, none, none] (bagS S (xs.map D.int)) =
      .ok (.next [some (.d (.int p)), some (.loc (u + 1) j), some (.d (.int x)), some (.loc 0 0), none, none, none, none]) (bagS S ((xs ++ os.map (lwV p pts x)).map D.int)) := by
  have gk : ∀ xs : List Int, (bagS S (xs.map D.int)).get (u + 1) j = some ⟨z, .lst (pts.map D.int)⟩ := fun xs => by
    rw [← hg]
    cases u <;> rfl
  have ck : ∀ xs : List Int, (⟨pts.map D.int, some (u + 1, j)⟩ : Walk).chk (bagS S (xs.map D.int)) = true := fun xs => by
    unfold Walk.chk
    dsimp only
    rw [gk xs]
    exact decide_eq_true rfl
  intro os
  induction os with
  | nil =>
    intro xs _
    rw [List.map_nil, forL]
    dsimp only
    rw [if_pos (ck xs), List.map_nil, List.append_nil]
  | cons o os ih =>
    intro xs hx
    rw [List.length_cons] at hx
    have p0 : 0 < p := by omega
    have ih := ih (xs ++ [lwV p pts x o]) (by rw [List.length_append]; simp; omega)
    have r1 := top_range (x := x) (one := o) p0 pts 1 (by omega) (by omega)
    have r2 := top_range (x := o) (one := o) p0 pts 1 (by omega) (by omega)
    have r3 := linv_range (a := topV p o o pts 1) hp.1
    have e1 := l_w1 (S := bagS S (xs.map D.int)) (C := callN T (n + 2)) (x := x) (one := o) (a1 := .loc (u + 1) j) (a3 := .loc 0 0) (q5 := .d (.int 1)) (q6 := .d (.int 1)) hp (ck xs) (n0 := 1) rfl pts 1 1 (by omega) (by omega) (by omega) (by omega)
    have e2 := s_linv (n := n) (S := bagS S (xs.map D.int)) h1 h2 (a := topV p o o pts 1) hp
    have ew := seq_loc (gk xs)
    have e3 : meth1 .append (.loc 0 0) (.d (.int (lwV p pts x o))) (bagS S (xs.map D.int)) = .ok (.d .non) (bagS S ((xs ++ [lwV p pts x o]).map D.int)) := by
      rw [bag_app (by rw [List.length_map]; omega), List.map_append]
      rfl
    rw [List.map_cons, forL]
    dsimp only
    rw [if_pos (ck xs)]
    have ol : (bagS S (xs.map D.int)).own.length = 1 := rfl
    simp [putT, Env.put, hW2, varV, ew, ol, e1, bag_recv, e2, mul_l (i := topV p x o pts 1) (j := linv p (topV p o o pts 1)) (by omega) (by omega), bop_mod p0]
    rw [show topV p x o pts 1 * linv p (topV p o o pts 1) % p = lwV p pts x o from rfl, e3]
    simp
    rw [ownFree_take (n := 1) rfl]
    simp at ih
    exact ih
theorem s_lweights {i ili ira : Nat} (h : T i = some (hWeights ili)) (h1 : T ili = some (hInverse ira)) (h2 : T ira = some hRaised) {p x : Int} (hp : 2 ≤ p ∧ p ≤ 1000000) {z : Bool} {pts : List Int} (hl : pts.length < 1000000) (hg : S.get u j = some ⟨z, .lst (pts.map D.int)⟩) :
    callN T (n + 3) i [.d (.int p), .loc u j, .d (.int x)] S = .ok (.new (.lst ((pts.map (lwV p pts x)).map D.int))) S := by
  have e := l_w2 (n := n) (S := S) h1 h2 (x := x) hp hg pts [] (by simpa using hl)
  rw [List.nil_append] at e
  have gk : (bagS S []).get (u + 1) j = some ⟨z, .lst (pts.map D.int)⟩ := by
    rw [← hg]
    cases u <;> rfl
  have ew := seq_loc gk
  have hb : (⟨[⟨false, .lst []⟩], S.own :: S.out, S.gl⟩ : St) = bagS S [] := rfl
  have hb2 : (⟨[⟨false, .lst ((pts.map (lwV p pts x)).map D.int)⟩], S.own :: S.out, S.gl⟩ : St) = bagS S ((pts.map (lwV p pts x)).map D.int) := rfl
  have ol : (bagS S []).own.length = 1 := rfl
  rw [List.map_nil] at e
  rw [call_eq h rfl]
  simp only [List.map_map] at e
  simp [hWeights, varV, St.call, sz, hb, ew, ol, e]
  rfl
end U

/-! UPolyM: interpolation. -/
namespace U
open PySem
/-- p is one of the primes: fermB, and its size -/
structure Pr (p : Int) : Prop where
  lo : 2 ≤ p
  hi : p ≤ 1000000
  fe : fermB p.toNat = true
theorem Pr.pos {p : Int} (h : Pr p) : 0 < p := by have := h.lo; omega
theorem Pr.le {p : Int} (h : Pr p) : 0 < p ∧ p ≤ 1000000 := ⟨h.pos, h.hi⟩
theorem Pr.inv {p : Int} (h : Pr p) {a : Int} (h0 : 0 ≤ a) (ha : a < p) (hn : a ≠ 0) : cg p (a * U.inv p a) 1 := by
  obtain ⟨q, rfl⟩ := Int.eq_ofNat_of_zero_le (show 0 ≤ p by have := h.lo; omega)
  have h2 : 2 ≤ q := by have := h.lo; omega
  obtain ⟨_, _, e⟩ := inv_ok (p := q) h.fe h2 (by have := h.hi; omega) h0 ha hn
  rw [Int.mul_comm]
  unfold cg
  rw [e]
  exact (Int.emod_eq_of_lt (by omega) (by omega)).symm
theorem Pr.fld {p : Int} (h : Pr p) : Fld p := by
  refine ⟨h.lo, fun a ha => ?_⟩
  have hn : a % p ≠ 0 := fun z => ha (by unfold cg; rw [z, Int.zero_emod])
  exact ⟨U.inv p (a % p), (cg.mod.symm.mul .refl).trans (h.inv (mod_nn h.pos) (mod_lt h.pos) hn)⟩
theorem inv_cancel {p a b c : Int} (hb : cg p (a * b) 1) (hc : cg p (a * c) 1) : cg p b c := by
  have h1 : cg p (b * (a * c)) (b * 1) := cg.refl.mul hc
  have h2 : cg p (a * b * c) (1 * c) := hb.mul .refl
  have e : b * (a * c) = a * b * c := by grind
  rw [e, Int.mul_one] at h1
  rw [Int.one_mul] at h2
  exact h1.symm.trans h2
theorem linv_inv {p a : Int} (h : Pr p) (h0 : 0 ≤ a) (ha : a < p) (hn : a ≠ 0) : linv p a = inv p a := by
  unfold linv inv
  rw [Int.emod_eq_of_lt h0 ha]
  split
  · unfold rs pw
    rw [pw_rs _ _ _ _ (by omega), Int.emod_eq_of_lt h0 ha]
  · have hp : p = 2 := by have := h.lo; omega
    subst hp
    have : a = 1 := by omega
    subst this
    decide
/-! the base polynomials -/
theorem apart_others {p : Int} {pts : List Int} (ap : Apart p pts) {i : Nat} (hi : i < pts.length) : ∀ a ∈ others pts i, ¬ cg p pts[i] a := by
  intro a ha
  obtain ⟨k, hk, e⟩ := List.getElem_of_mem ha
  have hp := List.pairwise_iff_getElem.mp ap
  rcases List.mem_append.mp ha with h | h
  · obtain ⟨k, hk, rfl⟩ := List.getElem_of_mem h
    rw [List.length_take] at hk
    rw [List.getElem_take]
    exact fun z => hp k i (by omega) hi (by omega) z.symm
  · obtain ⟨k, hk, rfl⟩ := List.getElem_of_mem h
    rw [List.length_drop] at hk
    rw [List.getElem_drop]
    exact hp i (i + 1 + k) hi (by omega) (by omega)
theorem base_pe {p : Int} (h : Pr p) {pts : List Int} (ap : Apart p pts) {i : Nat} (hi : i < pts.length) (x : Int) : cg p (pe x (baseV p pts i)) (inv p (pe pts[i] (rtV p (others pts i)) % p) * prd x (others pts i)) := by
  unfold baseV
  rw [show pts.getD i 0 = pts[i] by simp [hi]]
  exact (scaled_pe p _ x _).trans (cg.refl.mul (rt_pe p x _))
theorem base_den {p : Int} (h : Pr p) {pts : List Int} (ap : Apart p pts) {i : Nat} (hi : i < pts.length) : cg p (prd pts[i] (others pts i) * inv p (pe pts[i] (rtV p (others pts i)) % p)) 1 := by
  have e : cg p (pe pts[i] (rtV p (others pts i)) % p) (prd pts[i] (others pts i)) := cg.mod.trans (rt_pe p _ _)
  have nz : ¬ cg p (prd pts[i] (others pts i)) 0 := prd_nz h.fld (apart_others ap hi)
  have hn : pe pts[i] (rtV p (others pts i)) % p ≠ 0 := fun z => nz (by
    rw [z] at e
    exact e.symm)
  exact (e.symm.mul .refl).trans (h.inv (mod_nn h.pos) (mod_lt h.pos) hn)
theorem base_same {p : Int} (h : Pr p) {pts : List Int} (ap : Apart p pts) {i : Nat} (hi : i < pts.length) : cg p (pe pts[i] (baseV p pts i)) 1 := by
  refine (base_pe h ap hi _).trans ?_
  rw [Int.mul_comm]
  exact base_den h ap hi
theorem mem_others {pts : List Int} {i k : Nat} (hk : k < pts.length) (hne : k ≠ i) : pts[k] ∈ others pts i := by
  unfold others
  by_cases hlt : k < i
  · refine List.mem_append_left _ ?_
    have : k < (pts.take i).length := by rw [List.length_take]; omega
    rw [← List.getElem_take (xs := pts) (j := i) (h := this)]
    exact List.getElem_mem this
  · refine List.mem_append_right _ ?_
    have : k - (i + 1) < (pts.drop (i + 1)).length := by rw [List.length_drop]; omega
    have e : (pts.drop (i + 1))[k - (i + 1)] = pts[k] := by
      rw [List.getElem_drop]
      congr 1
      omega
    rw [← e]
    exact List.getElem_mem this
theorem base_other {p : Int} (h : Pr p) {pts : List Int} (ap : Apart p pts) {i k : Nat} (hi : i < pts.length) (hk : k < pts.length) (hne : k ≠ i) : cg p (pe pts[k] (baseV p pts i)) 0 := by
  refine (base_pe h ap hi _).trans ?_
  have := (cg.refl (p := p) (a := inv p (pe pts[i] (rtV p (others pts i)) % p))).mul (prd_zero (p := p) (mem_others hk hne) (.refl))
  simpa using this
/-! through -/
def sumI (g : Nat → Int) : List Nat → Int
  | [] => 0
  | i :: is => g i + sumI g is
theorem thr_pe {p : Int} {pts vals : List Int} (x : Int) : ∀ (is : List Nat) (f : List Int), (∀ i ∈ is, i < pts.length) → f.length = pts.length → cg p (pe x (thrG p pts vals is f)) (pe x f + sumI (fun i => vals.getD i 0 * pe x (baseV p pts i)) is) ∧ (thrG p pts vals is f).length = pts.length
  | [], f, _, hf => ⟨cg.of_eq (by simp [thrG, sumI]), hf⟩
  | i :: is, f, hi, hf => by
    have hb := base_len (p := p) (hi i List.mem_cons_self)
    have hl : f.length = (scaledV p (vals.getD i 0) (baseV p pts i)).length := by rw [scaled_len]; omega
    obtain ⟨ih, il⟩ := thr_pe (vals := vals) x is (addedV p f (scaledV p (vals.getD i 0) (baseV p pts i))) (fun k hk => hi k (List.mem_cons_of_mem _ hk)) (by rw [added_len hl]; exact hf)
    refine ⟨ih.trans ?_, il⟩
    refine (((added_pe p x hl).trans (cg.refl.add (scaled_pe p _ x _))).add .refl).trans (cg.of_eq ?_)
    rw [sumI]
    grind
theorem thr_in {p : Int} (hp : 0 < p) {pts vals : List Int} : ∀ (is : List Nat) (f : List Int), InR p f → InR p (thrG p pts vals is f)
  | [], f, h => h
  | i :: is, f, h => thr_in hp is _ (red_in hp _)
theorem pe_rep (x : Int) : ∀ k : Nat, pe x (List.replicate k 0) = 0
  | 0 => rfl
  | k + 1 => by rw [List.replicate_succ, pe, pe_rep x k]; omega
theorem thrV_pe {p : Int} {pts vals : List Int} (x : Int) : cg p (pe x (thrV p pts vals)) (sumI (fun i => vals.getD i 0 * pe x (baseV p pts i)) (List.range pts.length)) := by
  have := (thr_pe (p := p) (pts := pts) (vals := vals) x (List.range pts.length) (List.replicate pts.length 0) (fun i hi => List.mem_range.mp hi) List.length_replicate).1
  rwa [pe_rep, Int.zero_add] at this
theorem thrV_len {p : Int} {pts vals : List Int} : (thrV p pts vals).length = pts.length := (thr_pe (p := p) (pts := pts) (vals := vals) 0 (List.range pts.length) (List.replicate pts.length 0) (fun i hi => List.mem_range.mp hi) List.length_replicate).2
theorem thrV_in {p : Int} (hp : 0 < p) {pts vals : List Int} : InR p (thrV p pts vals) := thr_in hp _ _ fun c hc => by
  rw [(List.mem_replicate.mp hc).2]
  omega
theorem sum_zero {p : Int} {g : Nat → Int} : ∀ {is : List Nat}, (∀ i ∈ is, cg p (g i) 0) → cg p (sumI g is) 0
  | [], _ => .refl
  | i :: is, h => by
    have := (h i List.mem_cons_self).add (sum_zero fun k hk => h k (List.mem_cons_of_mem _ hk))
    simpa [sumI] using this
theorem sum_one {p : Int} {g : Nat → Int} {k : Nat} : ∀ {is : List Nat}, is.Nodup → k ∈ is → (∀ i ∈ is, i ≠ k → cg p (g i) 0) → cg p (sumI g is) (g k)
  | i :: is, nd, hk, h => by
    obtain ⟨n1, n2⟩ := List.nodup_cons.mp nd
    rw [sumI]
    by_cases e : i = k
    · subst e
      have := (cg.refl (p := p) (a := g i)).add (sum_zero (p := p) (g := g) (is := is) fun q hq => h q (List.mem_cons_of_mem _ hq) fun z => n1 (z ▸ hq))
      simpa using this
    · have hk2 : k ∈ is := by
        rcases List.mem_cons.mp hk with z | z
        · exact absurd z.symm e
        · exact z
      have := (h i List.mem_cons_self e).add (sum_one n2 hk2 fun q hq => h q (List.mem_cons_of_mem _ hq))
      simpa using this
theorem thrV_at {p : Int} (h : Pr p) {pts vals : List Int} (ap : Apart p pts) {k : Nat} (hk : k < pts.length) : cg p (pe pts[k] (thrV p pts vals)) (vals.getD k 0) := by
  refine (thrV_pe _).trans ((sum_one (k := k) List.nodup_range (List.mem_range.mpr hk) fun i hi hne => ?_).trans ?_)
  · have := (cg.refl (p := p) (a := vals.getD i 0)).mul (base_other h ap (List.mem_range.mp hi) hk (fun z => hne z.symm))
    simpa using this
  · have := (cg.refl (p := p) (a := vals.getD k 0)).mul (base_same h ap hk)
    simpa using this
end U

/-! UShow: how long a shown text is. -/
namespace U
open PySem
variable {T : Nat → Option FD} {n : Nat} {S : St}
def Sz (f : List Int) : Prop := ∀ c ∈ f, -1000000000000000000 < c ∧ c < 1000000000000000000
theorem int_shown {c : Int} (h : -1000000000000000000 < c ∧ c < 1000000000000000000) : (PyData.shown (.int c)).length ≤ 19 := by
  have e : PyData.shown (.int c) = Str.ofString (toString c) := by unfold PyData.shown; rfl
  rw [e, ofString_length]
  exact int_text_length_le10 (k := 18) (by omega) (by omega)
theorem piled_le {B : Nat} : ∀ ts : List Str, (∀ t ∈ ts, t.length ≤ B) → piled ts ≤ ts.length * (B + 2)
  | [], _ => by simp [piled]
  | t :: ts, h => by
    have h1 := h t List.mem_cons_self
    have h2 := piled_le ts fun x hx => h x (List.mem_cons_of_mem _ hx)
    have e : piled (t :: ts) = t.length + 2 + piled ts := by simp [piled]; try omega
    rw [e, List.length_cons, Nat.add_mul]
    omega
theorem pys_int : ∀ f : List Int, D.pys (f.map D.int) = f.map PyData.int
  | [] => by simp [D.pys]
  | c :: f => by rw [List.map_cons, D.pys, pys_int f, List.map_cons]; rfl
theorem all_len : ∀ xs : List PyData, (PyData.shownAll xs).length = xs.length
  | [] => by simp [PyData.shownAll]
  | x :: xs => by rw [PyData.shownAll, List.length_cons, List.length_cons, all_len xs]
theorem all_mem : ∀ (f : List Int) (t : Str), Sz f → t ∈ PyData.shownAll (f.map PyData.int) → t.length ≤ 19
  | [], t, _, h => by rw [List.map_nil, PyData.shownAll] at h; cases h
  | c :: f, t, hs, h => by
    rw [List.map_cons, PyData.shownAll] at h
    rcases List.mem_cons.mp h with rfl | h
    · exact int_shown (hs c List.mem_cons_self)
    · exact all_mem f t (fun x hx => hs x (List.mem_cons_of_mem _ hx)) h
theorem tup_len (ts : List Str) : (tupleText ts).length ≤ piled ts + 4 := by
  unfold tupleText
  rw [strLen_append, strLen_append]
  have h1 : (("(" : Str)).length = 1 := rfl
  have h2 : ((if ts.length == 1 then ",)" else ")" : String) : Str).length ≤ 2 := by split <;> decide
  by_cases h : ts = []
  · subst h
    have : (Str.join ", " []).length = 0 := rfl
    omega
  · have := join_length_add ts h
    omega
theorem show_ti {f : List Int} (hs : Sz f) (hl : f.length ≤ 100000) : showB 20 (ti f) = true ∧ sz (PyData.shown (ti f).py).length = true := by
  constructor
  · show showBs 19 (f.map D.int) = true
    clear hl
    induction f with
    | nil => rfl
    | cons c f ih =>
      have h1 := hs c List.mem_cons_self
      rw [List.map_cons, showBs, ih fun x hx => hs x (List.mem_cons_of_mem _ hx)]
      show ((decide _ && decide _) && true) = true
      rw [decide_eq_true (by omega), decide_eq_true (by omega)]
      rfl
  · have e : PyData.shown (ti f).py = tupleText (PyData.shownAll (f.map PyData.int)) := by
      show PyData.shown (D.py (.tup (f.map D.int))) = _
      rw [D.py, pys_int, PyData.shown]
    rw [e]
    have h1 := tup_len (PyData.shownAll (f.map PyData.int))
    have h2 := piled_le (B := 19) (PyData.shownAll (f.map PyData.int)) fun t ht => all_mem f t hs ht
    rw [all_len, List.length_map] at h2
    exact decide_eq_true (by omega)
end U

/-! UMore: comparisons of ints' lists, sums; the weights' law. -/
namespace U
open PySem
section
variable {S : St}
theorem plain_ints (k : Nat) : ∀ f : List Int, plainBs k (f.map D.int) = true
  | [] => by unfold plainBs; rfl
  | c :: f => by
    rw [List.map_cons, plainBs, plain_ints k f]
    cases k <;> rfl
theorem eqOk_ti (f g : List Int) : eqOk (ti f) (ti g) = true := by
  show ((scalarB (ti f) && scalarB (ti g)) || (plainB 20 (ti f) && plainB 20 (ti g))) = true
  have h : ∀ f : List Int, plainB 20 (ti f) = true := fun f => plain_ints 19 f
  rw [h, h]
  rfl
theorem eqOk_li (f g : List Int) : eqOk (.lst (f.map D.int)) (.lst (g.map D.int)) = true := by
  show ((scalarB (.lst (f.map D.int)) && scalarB (.lst (g.map D.int))) || (plainB 20 (.lst (f.map D.int)) && plainB 20 (.lst (g.map D.int)))) = true
  have h : ∀ f : List Int, plainB 20 (.lst (f.map D.int)) = true := fun f => plain_ints 19 f
  rw [h, h]
  rfl
theorem beq_self (d : D) : D.beq d d = true := (D.beq_iff d d).mpr rfl
theorem ne_ti {f : List Int} : cmpV .ne (.d (ti f)) (.d (ti f)) S = .ok (.d (.bl false)) S := by
  show (match (if eqOk (ti f) (ti f) = true then some (!D.beq (ti f) (ti f)) else none) with
    | some b => (.ok (.d (.bl b)) S : Res RV)
    | none => .bad) = _
  rw [if_pos (eqOk_ti f f), beq_self]
  rfl
theorem ne_new {f : List Int} : cmpV .ne (.new (.lst (f.map D.int))) (.new (.lst (f.map D.int))) S = .ok (.d (.bl false)) S := by
  show (match (if eqOk (.lst (f.map D.int)) (.lst (f.map D.int)) = true then some (!D.beq (.lst (f.map D.int)) (.lst (f.map D.int))) else none) with
    | some b => (.ok (.d (.bl b)) S : Res RV)
    | none => .bad) = _
  rw [if_pos (eqOk_li f f), beq_self]
  rfl
theorem eq_new {f : List Int} : cmpV .eq (.new (.lst (f.map D.int))) (.new (.lst (f.map D.int))) S = .ok (.d (.bl true)) S := by
  show (match (if eqOk (.lst (f.map D.int)) (.lst (f.map D.int)) = true then some (D.beq (.lst (f.map D.int)) (.lst (f.map D.int))) else none) with
    | some b => (.ok (.d (.bl b)) S : Res RV)
    | none => .bad) = _
  rw [if_pos (eqOk_li f f), beq_self]
theorem in_ints (a : Int) : ∀ f : List Int, ((f.map D.int).any fun y => D.beq y (.int a)) = decide (a ∈ f)
  | [] => by simp
  | c :: f => by
    rw [List.map_cons, List.any_cons, in_ints a f]
    have : D.beq (.int c) (.int a) = decide (a = c) := by
      by_cases h : a = c
      · rw [h, beq_self, decide_eq_true rfl]
      · rw [decide_eq_false h]
        cases e : D.beq (.int c) (.int a) with
        | false => rfl
        | true =>
          have := (D.beq_iff _ _).mp e
          cases this
          exact absurd rfl h
    rw [this]
    simp
theorem inOk_ints (a : Int) (f : List Int) : inOk (.int a) (f.map D.int) = true := by
  have : ((f.map D.int).all fun y => scalarB y && eqOk y (.int a)) = true := by
    rw [List.all_eq_true]
    intro y hy
    obtain ⟨c, _, rfl⟩ := List.mem_map.mp hy
    rfl
  show ((true && ((f.map D.int).all fun y => scalarB y && eqOk y (.int a))) || _) = true
  rw [this]
  rfl
theorem notin_loc {u l : Nat} {z : Bool} {f : List Int} {a : Int} (hg : S.get u l = some ⟨z, .lst (f.map D.int)⟩) : cmpV .notIn (.d (.int a)) (.loc u l) S = .ok (.d (.bl (!decide (a ∈ f)))) S := by
  unfold cmpV
  rw [view_loc hg]
  show (match ((if inOk (.int a) (f.map D.int) = true then some ((f.map D.int).any fun y => D.beq y (.int a)) else none).map (!·)) with
    | some b => (.ok (.d (.bl b)) S : Res RV)
    | none => .bad) = _
  rw [if_pos (inOk_ints a f), in_ints]
  rfl
theorem tuple_loc {u l : Nat} {z : Bool} {ds : List D} (hg : S.get u l = some ⟨z, .lst ds⟩) : b1V .tuple (.loc u l) S = .ok (.d (.tup ds)) S := by
  unfold b1V
  rw [view_loc hg]
  rfl
theorem intsD_map : ∀ f : List Int, intsD (f.map D.int) = some f
  | [] => rfl
  | c :: f => by rw [List.map_cons, intsD, intsD_map f]; rfl
theorem sum_new {f : List Int} : b1V .sum (.new (.lst (f.map D.int))) S = .ok (.d (.int f.sum)) S := by
  show M.opt ((intsD (f.map D.int)).map fun ns => RV.d (.int ns.sum)) S = _
  rw [intsD_map]
  rfl
theorem mul_lst {s : List D} {j : Int} (h : 0 ≤ j) (h2 : j ≤ 1000) (h3 : s.length ≤ 1000) : binV .mul (.new (.lst s)) (.d (.int j)) S = .ok (.new (.lst (rep j.toNat s))) S := by
  have hz : (decide (-1000000 ≤ j) && decide (j ≤ 1000000) && sz (s.length * j.toNat)) = true := by
    have : s.length * j.toNat ≤ 1000 * 1000 := Nat.mul_le_mul h3 (by omega)
    rw [decide_eq_true (by omega), decide_eq_true (by omega)]
    show sz _ = true
    exact decide_eq_true (by omega)
  show M.opt (if _ then _ else _) S = _
  rw [if_pos hz]
  rfl
end
/-! the weights, two ways -/
theorem top_cg {p x one : Int} : ∀ (os : List Int) (t : Int), cg p (topV p x one os t) (t * prd x (os.filter fun o => decide (o ≠ one)))
  | [], t => cg.of_eq (by simp [topV, prd])
  | o :: os, t => by
    unfold topV
    by_cases h : o = one
    · rw [if_pos h, List.filter_cons_of_neg (by simp [h])]
      exact top_cg os t
    · rw [if_neg h, List.filter_cons_of_pos (by simp [h]), prd_cons]
      refine (top_cg os _).trans ((cg.mod.mul .refl).trans (cg.of_eq ?_))
      grind
theorem filter_others {pts : List Int} (nd : pts.Nodup) {i : Nat} (hi : i < pts.length) : (pts.filter fun o => decide (o ≠ pts[i])) = others pts i := by
  have e : pts = pts.take i ++ pts[i] :: pts.drop (i + 1) := by
    rw [← List.drop_eq_getElem_cons hi, List.take_append_drop]
  have nd2 := nd
  rw [e, List.nodup_append] at nd2
  obtain ⟨_, n2, n3⟩ := nd2
  obtain ⟨n4, _⟩ := List.nodup_cons.mp n2
  generalize ha : pts[i] = a at *
  unfold others
  generalize hA : pts.take i = A at *
  generalize hB : pts.drop (i + 1) = B at *
  rw [e, List.filter_append, List.filter_cons_of_neg (by simp)]
  congr 1
  · rw [List.filter_eq_self]
    intro o ho
    have := n3 o ho a List.mem_cons_self
    simpa using this
  · rw [List.filter_eq_self]
    intro o ho
    have : o ≠ a := fun z => n4 (z ▸ ho)
    simpa using this
theorem weight_same {p : Int} (h : Pr p) {pts : List Int} (ap : Apart p pts) (nd : pts.Nodup) {i : Nat} (hi : i < pts.length) (x : Int) : pe x (baseV p pts i) % p = lwV p pts x pts[i] := by
  unfold lwV
  have p0 := h.pos
  have r2 := top_range (x := pts[i]) (one := pts[i]) p0 pts 1 (by omega) (by have := h.lo; omega)
  have c1 := top_cg (p := p) (x := x) (one := pts[i]) pts 1
  have c2 := top_cg (p := p) (x := pts[i]) (one := pts[i]) pts 1
  rw [filter_others nd hi, Int.one_mul] at c1 c2
  have nz : ¬ cg p (prd pts[i] (others pts i)) 0 := prd_nz h.fld (apart_others ap hi)
  have hn : topV p pts[i] pts[i] pts 1 ≠ 0 := fun z => nz (by rw [z] at c2; exact c2.symm)
  rw [linv_inv h r2.1 r2.2 hn]
  have hi1 : cg p (prd pts[i] (others pts i) * inv p (topV p pts[i] pts[i] pts 1)) 1 := (c2.symm.mul .refl).trans (h.inv r2.1 r2.2 hn)
  have hi2 := base_den h ap hi
  have e := inv_cancel hi1 hi2
  have b := base_pe h ap hi x
  refine (b.trans ((e.symm.mul c1.symm).trans (cg.of_eq ?_)))
  rw [Int.mul_comm]
end U

/-! UTac2: more equations. -/
namespace U
open PySem
section
variable {C : Nat → List SV → M RV} {ρ : Env} {S : St} {a b c : DE} {i j : Int}
def trngV (l : Bool) (x y : RV) (S : St) : Res RV := match dataInt x, dataInt y with
    | some i, some j => if (big62 i && big62 j && decide ((j - i).toNat ≤ 1000000)) = true then .ok (if l then .new (.lst (rngUp i (j - i).toNat)) else .d (.tup (rngUp i (j - i).toNat))) S else .bad
    | _, _ => .bad
@[simp] theorem E_trng {l : Bool} : evE C (.trng l a b) ρ S = (evE C a ρ S).go fun x S1 => (evE C b ρ S1).go fun y S2 => trngV l x y S2 := by
  show M.bind _ _ S = _
  simp only [bind_go]
  refine go_ext fun x S1 => ?_
  refine go_ext fun y S2 => ?_
  unfold trngV
  generalize dataInt x = t
  generalize dataInt y = t2
  cases t with
  | none => rfl
  | some i =>
    cases t2 with
    | none => rfl
    | some j => dsimp only; split <;> rfl
theorem trng_int {l : Bool} (h1 : -1000000 ≤ i) (h2 : i ≤ 1000000) (h3 : -1000000 ≤ j) (h4 : j ≤ 1000000) (h5 : j - i ≤ 1000000) : trngV l (.d (.int i)) (.d (.int j)) S = .ok (if l then .new (.lst (rngUp i (j - i).toNat)) else .d (.tup (rngUp i (j - i).toNat))) S := by
  show (if (big62 i && big62 j && decide ((j - i).toNat ≤ 1000000)) = true then _ else _) = _
  rw [big_of (by omega) (by omega), big_of (by omega) (by omega), decide_eq_true (by omega)]
  rfl
theorem plain_tis (k : Nat) : ∀ l : List (List Int), plainBs (k + 1) (l.map ti) = true
  | [] => by unfold plainBs; rfl
  | f :: l => by
    rw [List.map_cons, plainBs, plain_tis k l]
    show (plainBs k (f.map D.int) && true) = true
    rw [plain_ints]
    rfl
theorem inj_ints : ∀ {f g : List Int}, f.map D.int = g.map D.int → f = g
  | [], [], _ => rfl
  | [], _ :: _, h => by cases h
  | _ :: _, [], h => by cases h
  | a :: f, b :: g, h => by
    rw [List.map_cons, List.map_cons, List.cons.injEq] at h
    obtain ⟨h1, h2⟩ := h
    cases h1
    rw [inj_ints h2]
theorem inj_ti {f g : List Int} (h : ti f = ti g) : f = g := by
  have : f.map D.int = g.map D.int := by
    injection h
  exact inj_ints this
theorem in_tis (x : List Int) : ∀ l : List (List Int), ((l.map ti).any fun y => D.beq y (ti x)) = decide (x ∈ l)
  | [] => by simp
  | c :: l => by
    rw [List.map_cons, List.any_cons, in_tis x l]
    have : D.beq (ti c) (ti x) = decide (x = c) := by
      by_cases h : x = c
      · rw [h, beq_self, decide_eq_true rfl]
      · rw [decide_eq_false h]
        cases e : D.beq (ti c) (ti x) with
        | false => rfl
        | true => exact absurd (inj_ti ((D.beq_iff _ _).mp e)).symm h
    rw [this]
    simp
theorem inOk_tis (x : List Int) (l : List (List Int)) : inOk (ti x) (l.map ti) = true := by
  have h1 : plainB 20 (ti x) = true := plain_ints 19 x
  have h2 : plainBs 20 (l.map ti) = true := plain_tis 19 l
  show ((scalarB (ti x) && _) || (plainB 20 (ti x) && plainBs 20 (l.map ti))) = true
  rw [h1, h2]
  simp
theorem notin_tis {u k : Nat} {z : Bool} {l : List (List Int)} {x : List Int} (hg : S.get u k = some ⟨z, .lst (l.map ti)⟩) : cmpV .notIn (.d (ti x)) (.loc u k) S = .ok (.d (.bl (!decide (x ∈ l)))) S := by
  unfold cmpV
  rw [view_loc hg]
  show (match ((if inOk (ti x) (l.map ti) = true then some ((l.map ti).any fun y => D.beq y (ti x)) else none).map (!·)) with
    | some b => (.ok (.d (.bl b)) S : Res RV)
    | none => .bad) = _
  rw [if_pos (inOk_tis x l), in_tis]
  rfl
end
end U

/-! UShare: settings, parties, sets of points. -/
namespace U
open PySem
variable {T : Nat → Option FD} {n : Nat} {S : St}
abbrev setD (p q t : Int) : D := .tup [.str (Str.ofString "setting"), .int p, .int q, .int t]
theorem set_ix1 {p q t : Int} {S : St} : ixV (.d (setD p q t)) (.d (.int 1)) S = .ok (.d (.int p)) S := ix_tup (k := 1) rfl
theorem set_ix2 {p q t : Int} {S : St} : ixV (.d (setD p q t)) (.d (.int 2)) S = .ok (.d (.int q)) S := ix_tup (k := 2) rfl
theorem set_ix3 {p q t : Int} {S : St} : ixV (.d (setD p q t)) (.d (.int 3)) S = .ok (.d (.int t)) S := ix_tup (k := 3) rfl
/-- 1 .. q -/
def ptI (q : Nat) : List Int := (List.range' 1 q).map fun k => ((k : Nat) : Int)
theorem pt_rng (q : Nat) : rngUp 1 q = (ptI q).map D.int := by
  unfold ptI
  rw [List.map_map]
  exact rng_range q 1
theorem pt_len {q : Nat} : (ptI q).length = q := by unfold ptI; rw [List.length_map, List.length_range']
theorem pt_mem {q : Nat} {a : Int} : a ∈ ptI q ↔ 1 ≤ a ∧ a ≤ q := by
  unfold ptI
  rw [List.mem_map]
  constructor
  · rintro ⟨k, hk, rfl⟩
    rw [List.mem_range'_1] at hk
    omega
  · rintro ⟨h1, h2⟩
    refine ⟨a.toNat, ?_, by omega⟩
    rw [List.mem_range'_1]
    omega
theorem pt_nd {q : Nat} : (ptI q).Nodup := by
  unfold ptI
  exact List.Pairwise.map _ (fun a b h z => h (by omega)) List.nodup_range'
def pParties : FD := { np := 1, ns := 1, body := (.ret (.trng false (.con (.int 1)) (.bin .add (.ix (.var 0) (.con (.int 2))) (.con (.int 1))))) }
theorem s_parties {i : Nat} (h : T i = some pParties) {p t : Int} {q : Nat} (hq : q ≤ 1000) : callN T (n + 1) i [.d (setD p q t)] S = .ok (.d (ti (ptI q))) S := by
  rw [call_eq h rfl]
  have e := trng_int (S := S.call) (l := false) (i := 1) (j := q + 1) (by omega) (by omega) (by omega) (by omega) (by omega)
  rw [show ((q : Int) + 1 - 1).toNat = q by omega, pt_rng] at e
  simp [pParties, varV, set_ix2, e]
/-! sets of things -/
def setsV : Nat → List Int → List (List Int)
  | 0, _ => [[]]
  | m + 1, xs => (List.range xs.length).flatMap fun i => (setsV m (xs.drop (i + 1))).map (xs.getD i 0 :: ·)
def pSb1 : DS := (.expr (.m1 .append (.var 2) (.bin .add (.tup (.cons (.ix (.var 0) (.var 3)) .nil)) (.var 4))))
def pSb2 (ise : Nat) : DS := (.for_ (.one 4) (.wk .seq (.call ise (.cons (.sl (.var 0) (.cons (.bin .add (.var 3) (.con (.int 1))) .nil) .nil) (.cons (.bin .sub (.var 1) (.con (.int 1))) .nil))) .nil)
    pSb1)
def pSets (ise : Nat) : FD := { np := 2, ns := 5, body := (.seq (.ife (.cmp .eq (.var 1) (.con (.int 0)))
    (.ret (.lst (.cons (.tup .nil) .nil)))
    .skip)
    (.seq (.set 2 true (.lst .nil))
    (.seq (.for_ (.one 3) (.wk .rng1 (.b1 .len (.var 0)) .nil)
    (pSb2 ise))
    (.ret (.var 2))))) }
theorem sets_len : ∀ (m : Nat) (xs : List Int), (setsV m xs).length ≤ (xs.length + 1) ^ m
  | 0, xs => by simp [setsV]
  | m + 1, xs => by
    unfold setsV
    rw [List.length_flatMap]
    have : ∀ is : List Nat, (is.map fun i => ((setsV m (xs.drop (i + 1))).map (xs.getD i 0 :: ·)).length).sum ≤ is.length * (xs.length + 1) ^ m := by
      intro is
      induction is with
      | nil => simp
      | cons i is ih =>
        rw [List.map_cons, List.sum_cons, List.length_cons, Nat.add_mul, List.length_map]
        have h1 := sets_len m (xs.drop (i + 1))
        have h2 : ((xs.drop (i + 1)).length + 1) ^ m ≤ (xs.length + 1) ^ m := Nat.pow_le_pow_left (by rw [List.length_drop]; omega) m
        omega
    have h := this (List.range xs.length)
    rw [List.length_range] at h
    refine Nat.le_trans h ?_
    rw [Nat.pow_succ, Nat.mul_comm]
    exact Nat.mul_le_mul_left _ (by omega)
theorem l_sets1 {C : Nat → List SV → M RV} {xs : List Int} {i : Nat} (hi : i < xs.length) {a1 : SV} : ∀ (rs : List (List Int)) (acc : List D), (∀ r ∈ rs, r.length ≤ 1000) → acc.length + rs.length < 16777216 →
    forL (fun _ => true) (putT (.one 4)) (evS C pSb1) [some (.d (ti xs)), some a1, some (.loc 0 0), some (.d (.int i)), none] 1 (rs.map ti) [some (.d (ti xs)), some a1, some (.loc 0 0), some (.d (.int i)), none] (bagS S acc) =
      .ok (.next [some (.d (ti xs)), some a1, some (.loc 0 0), some (.d (.int i)), none]) (bagS S (acc ++ rs.map fun r => ti (xs.getD i 0 :: r)))
  | [], acc, _, _ => by
    have : acc ++ ([] : List (List Int)).map (fun r => ti (xs.getD i 0 :: r)) = acc := by simp
    rw [this]
    rfl
  | r :: rs, acc, hr, hl => by
    rw [List.length_cons] at hl
    have ih := l_sets1 (C := C) hi (a1 := a1) rs (acc ++ [ti (xs.getD i 0 :: r)]) (fun q hq => hr q (List.mem_cons_of_mem _ hq)) (by rw [List.length_append]; simp; omega)
    have e1 : ixV (.d (ti xs)) (.d (.int i)) (bagS S acc) = .ok (.d (.int xs[i])) (bagS S acc) := ix_tup (getI hi)
    have e2 : binV .add (.d (.tup [.int xs[i]])) (.d (ti r)) (bagS S acc) = .ok (.d (ti (xs.getD i 0 :: r))) (bagS S acc) := by
      rw [bin_tup (by have := hr r List.mem_cons_self; simp; omega), show xs.getD i 0 = xs[i] by simp [hi]]
      rfl
    have z1 : sz 1 = true := rfl
    rw [List.map_cons, forL]
    simp [-List.getD_eq_getElem?_getD, putT, Env.put, pSb1, varV, e1, z1, e2, bag_recv, bag_app (show acc.length < 16777216 by omega)]
    rw [ownFree_take (n := 1) (S := bagS S (acc ++ [ti (xs.getD i 0 :: r)])) rfl]
    rw [List.append_assoc] at ih
    exact ih
theorem sets_in : ∀ (m : Nat) (xs r : List Int), r ∈ setsV m xs → r.length = m ∧ r.Sublist xs
  | 0, xs, r, h => by
    rw [setsV, List.mem_singleton] at h
    subst h
    exact ⟨rfl, List.nil_sublist _⟩
  | m + 1, xs, r, h => by
    unfold setsV at h
    obtain ⟨i, hi, h⟩ := List.mem_flatMap.mp h
    obtain ⟨q, hq, rfl⟩ := List.mem_map.mp h
    obtain ⟨h1, h2⟩ := sets_in m _ q hq
    have hi := List.mem_range.mp hi
    refine ⟨by rw [List.length_cons, h1], ?_⟩
    rw [show xs.getD i 0 = xs[i] by simp [hi]]
    have : (xs[i] :: q).Sublist (xs.drop i) := by
      rw [List.drop_eq_getElem_cons hi]
      exact h2.cons_cons _
    exact this.trans (List.drop_sublist _ _)
end U

/-! UKit: typed comprehensions, loops by folds. -/
namespace U
open PySem
section
variable {S : St} {C : Nat → List SV → M RV} {ρ : Env}
/-- a comprehension over typed items -/
theorem comp_ty {α : Type} {enc : α → D} {chk : St → Bool} {put : D → Option Env} {fc fe : Env → M RV} {c : α → Bool} {g : α → D} {v : α → RV} {r : α → Env} (hk : chk S = true) : ∀ l : List α, (∀ a ∈ l, put (enc a) = some (r a) ∧ fc (r a) S = .ok (.d (.bl (c a))) S ∧ (c a = true → fe (r a) S = .ok (v a) S ∧ keep (v a) S = .ok (g a) S)) → compL chk put fc fe (l.map enc) S = .ok ((l.filter c).map g) S
  | [], _ => by rw [List.map_nil]; unfold compL; rw [if_pos hk]; rfl
  | x :: xs, h => by
    obtain ⟨h1, h2, h3⟩ := h x List.mem_cons_self
    have ih := comp_ty (g := g) (v := v) hk xs fun y hy => h y (List.mem_cons_of_mem _ hy)
    rw [List.map_cons]
    unfold compL
    rw [if_pos hk, h1]
    dsimp only
    rw [h2]
    cases hc : c x with
    | true =>
      obtain ⟨h4, h5⟩ := h3 hc
      dsimp only [truth]
      rw [h4]
      dsimp only
      rw [h5]
      dsimp only
      rw [ih, List.filter_cons_of_pos hc]
      rfl
    | false =>
      dsimp only [truth]
      rw [ih, List.filter_cons_of_neg (by rw [hc]; exact Bool.false_ne_true)]
theorem lc_ty {α : Type} {enc : α → D} {l : List α} {c : α → Bool} {g : α → D} {v : α → RV} {r : α → Env} {elt it cond : DE} {tg : Tg} {vs : List Nat} {at_ : Option (Nat × Nat)}
    (hw : evW C it ρ S = .ok ⟨l.map enc, at_⟩ S) (hk : (⟨l.map enc, at_⟩ : Walk).chk S = true) (hl : l.length ≤ 16777216)
    (h : ∀ a ∈ l, putT tg (enc a) (wipeE ρ vs) = some (r a) ∧ evE C cond (r a) S = .ok (.d (.bl (c a))) S ∧ (c a = true → evE C elt (r a) S = .ok (v a) S ∧ keep (v a) S = .ok (g a) S)) :
    evE C (.lc elt tg it cond vs) ρ S = .ok (.new (.lst ((l.filter c).map g))) S := by
  rw [E_lc, hw, go_ok, comp_ty hk l h, go_ok, if_pos]
  refine decide_eq_true ?_
  rw [List.length_map]
  exact Nat.le_trans (List.length_filter_le _ _) hl
theorem filter_true {α : Type} (l : List α) : l.filter (fun _ => true) = l := List.filter_eq_self.mpr fun _ _ => rfl
/-- without a condition -/
theorem lc_map {α : Type} {enc : α → D} {l : List α} {g : α → D} {v : α → RV} {r : α → Env} {elt it : DE} {tg : Tg} {vs : List Nat} {at_ : Option (Nat × Nat)}
    (hw : evW C it ρ S = .ok ⟨l.map enc, at_⟩ S) (hk : (⟨l.map enc, at_⟩ : Walk).chk S = true) (hl : l.length ≤ 16777216)
    (h : ∀ a ∈ l, putT tg (enc a) (wipeE ρ vs) = some (r a) ∧ evE C elt (r a) S = .ok (v a) S ∧ keep (v a) S = .ok (g a) S) :
    evE C (.lc elt tg it (.con (.bl true)) vs) ρ S = .ok (.new (.lst (l.map g))) S := by
  have := lc_ty (c := fun _ => true) (r := r) hw hk hl fun a ha => ⟨(h a ha).1, E_con, fun _ => (h a ha).2⟩
  rw [filter_true] at this
  exact this
theorem forL_next {chk : St → Bool} {put : D → Env → Option Env} {body : Env → M Flow} {ρ0 ρ1 ρ2 : Env} {n0 : Nat} {x : D} {xs : List D} {S2 : St} (hk : chk S = true) (hp : put x ρ = some ρ1) (hb : body ρ1 S = .ok (.next ρ2) S2) : forL chk put body ρ0 n0 (x :: xs) ρ S = forL chk put body ρ0 n0 xs (mask ρ0 ρ2) (trim n0 (mask ρ0 ρ2) S2) := by
  rw [forL]
  dsimp only
  rw [if_pos hk, hp]
  dsimp only
  rw [hb]
theorem forL_end {chk : St → Bool} {put : D → Env → Option Env} {body : Env → M Flow} {ρ0 : Env} {n0 : Nat} (hk : chk S = true) : forL chk put body ρ0 n0 [] ρ S = .ok (.next ρ) S := by
  rw [forL]
  dsimp only
  rw [if_pos hk]
/-- a for that goes on to its end: a fold -/
theorem forL_fold {σ α : Type} {enc : α → D} {chk : St → Bool} {put : D → Env → Option Env} {body : Env → M Flow} {ρ0 : Env} {n0 : Nat} (st : σ → Env) (ss : σ → St) (step : σ → α → σ) (inv : List α → σ → Prop)
    (h : ∀ a l s, inv (a :: l) s → chk (ss s) = true ∧ ∃ ρ1 ρ2 S2, put (enc a) (st s) = some ρ1 ∧ body ρ1 (ss s) = .ok (.next ρ2) S2 ∧ mask ρ0 ρ2 = st (step s a) ∧ trim n0 (mask ρ0 ρ2) S2 = ss (step s a) ∧ inv l (step s a))
    (hn : ∀ s, inv [] s → chk (ss s) = true) : ∀ (l : List α) (s : σ), inv l s → forL chk put body ρ0 n0 (l.map enc) (st s) (ss s) = .ok (.next (st (l.foldl step s))) (ss (l.foldl step s)) ∧ inv [] (l.foldl step s)
  | [], s, hi => by
    rw [List.map_nil, forL]
    dsimp only
    rw [if_pos (hn s hi)]
    exact ⟨rfl, hi⟩
  | a :: l, s, hi => by
    obtain ⟨h1, ρ1, ρ2, S2, h2, h3, h4, h5, h6⟩ := h a l s hi
    rw [List.map_cons, forL]
    dsimp only
    rw [if_pos h1, h2]
    dsimp only
    rw [h3]
    dsimp only
    rw [h5, h4]
    exact forL_fold st ss step inv h hn l _ h6
end
end U

/-! UShow2: a bound for the length of a shown text, for all data. -/
namespace U
open PySem
variable {T : Nat → Option FD} {n : Nat} {S : St}
mutual
def lenB : D → Nat
  | .int _ => 23
  | .str s => (PyData.shown (.str s)).length
  | .tup ds => lenBs ds + 4
  | .lst ds => lenBs ds + 4
  | _ => 5
def lenBs : List D → Nat
  | [] => 0
  | d :: ds => lenB d + 2 + lenBs ds
end
theorem int_shown2 {c : Int} (h : -1000000000000000000000 ≤ c ∧ c ≤ 1000000000000000000000) : (PyData.shown (.int c)).length ≤ 23 := by
  have e : PyData.shown (.int c) = Str.ofString (toString c) := by unfold PyData.shown; rfl
  rw [e, ofString_length]
  exact int_text_length_le10 (k := 22) (by omega) (by omega)
theorem piled_cons' (t : Str) (ts : List Str) : piled (t :: ts) = (t.length + 2) + piled ts := by simp [piled]
theorem lst_len (ts : List Str) : (listText ts).length ≤ piled ts + 4 := by
  cases ts with
  | nil => decide
  | cons t r =>
    have h := textFrom_length_pos r 1 (("[" : Str) ++ (if (0 : Nat) > 0 then ", " else "" : String) ++ t) (Nat.succ_pos 0)
    have e : ((("[" : Str) ++ (if (0 : Nat) > 0 then ", " else "" : String) ++ t)).length = 1 + t.length := by
      rw [strLen_append, strLen_append]; rfl
    have hX : (listText (t :: r)).length = (textFrom 0 "[" (t :: r)).length + 1 := by
      show (textFrom 0 "[" (t :: r) ++ "]").length = _
      rw [strLen_append]; rfl
    have hY : (textFrom 0 "[" (t :: r)).length = (textFrom 1 (("[" : Str) ++ (if (0 : Nat) > 0 then ", " else "" : String) ++ t) r).length := rfl
    rw [piled_cons']
    omega
mutual
theorem shown_le : ∀ (k : Nat) (d : D), showB k d = true → (PyData.shown d.py).length ≤ lenB d
  | _, .non, _ => by decide
  | _, .bl b, _ => by cases b <;> decide
  | _, .int i, h => by
    have h : (decide (-1000000000000000000000 ≤ i) && decide (i ≤ 1000000000000000000000)) = true := h
    rw [Bool.and_eq_true] at h
    have h1 := of_decide_eq_true h.1
    have h2 := of_decide_eq_true h.2
    exact int_shown2 ⟨h1, h2⟩
  | _, .str s, _ => Nat.le_refl _
  | k + 1, .tup ds, h => by
    have ih := showns_le k ds h
    have e : PyData.shown (D.tup ds).py = tupleText (PyData.shownAll (D.pys ds)) := by rw [D.py, PyData.shown]
    rw [e]
    have := tup_len (PyData.shownAll (D.pys ds))
    show _ ≤ lenBs ds + 4
    omega
  | k + 1, .lst ds, h => by
    have ih := showns_le k ds h
    have e : PyData.shown (D.lst ds).py = listText (PyData.shownAll (D.pys ds)) := by rw [D.py, PyData.shown]
    rw [e]
    have := lst_len (PyData.shownAll (D.pys ds))
    show _ ≤ lenBs ds + 4
    omega
  | 0, .tup _, h => by simp [showB] at h
  | 0, .lst _, h => by simp [showB] at h
  | _, .dic _, h => by simp [showB] at h
  | _, .ref _, h => by simp [showB] at h
  | _, .rol _, h => by simp [showB] at h
theorem showns_le : ∀ (k : Nat) (ds : List D), showBs k ds = true → piled (PyData.shownAll (D.pys ds)) ≤ lenBs ds
  | _, [], _ => by simp [D.pys, PyData.shownAll, piled]
  | k, d :: ds, h => by
    rw [showBs, Bool.and_eq_true] at h
    have h1 := shown_le k d h.1
    have h2 := showns_le k ds h.2
    rw [D.pys, PyData.shownAll, piled_cons', lenBs]
    omega
end
theorem showBs_iff {k : Nat} : ∀ {ds : List D}, showBs k ds = true ↔ ∀ d ∈ ds, showB k d = true
  | [] => by simp [showBs]
  | d :: ds => by rw [showBs, Bool.and_eq_true, showBs_iff]; simp
theorem lenBs_le {B : Nat} : ∀ {ds : List D}, (∀ d ∈ ds, lenB d ≤ B) → lenBs ds ≤ ds.length * (B + 2)
  | [], _ => by simp [lenBs]
  | d :: ds, h => by
    have h1 := h d List.mem_cons_self
    have h2 := lenBs_le fun x hx => h x (List.mem_cons_of_mem _ hx)
    rw [lenBs, List.length_cons, Nat.add_mul]
    omega
/-- may be shown, in so many signs -/
structure Sh (k B : Nat) (d : D) : Prop where
  sh : showB k d = true
  le : lenB d ≤ B
theorem Sh.mono {k B B' : Nat} {d : D} (h : Sh k B d) (hb : B ≤ B') : Sh k B' d := ⟨h.sh, Nat.le_trans h.le hb⟩
theorem Sh.int {k : Nat} {c : Int} (h : -1000000000000000000000 ≤ c ∧ c ≤ 1000000000000000000000) : Sh k 23 (.int c) := by
  refine ⟨?_, by rw [lenB]; exact Nat.le_refl _⟩
  have : showB k (.int c) = (decide (-1000000000000000000000 ≤ c) && decide (c ≤ 1000000000000000000000)) := by cases k <;> rfl
  rw [this, decide_eq_true h.1, decide_eq_true h.2]; rfl
theorem Sh.non {k : Nat} : Sh k 5 .non := ⟨by cases k <;> rfl, by simp [lenB]⟩
theorem Sh.bl {k : Nat} {b : Bool} : Sh k 5 (.bl b) := ⟨by cases k <;> rfl, by simp [lenB]⟩
theorem Sh.str {k : Nat} {s : Str} : Sh k (PyData.shown (.str s)).length (.str s) := ⟨by cases k <;> rfl, by rw [lenB]; exact Nat.le_refl _⟩
theorem Sh.tup {k B m : Nat} {ds : List D} (h : ∀ d ∈ ds, Sh k B d) (hl : ds.length ≤ m) : Sh (k + 1) (m * (B + 2) + 4) (.tup ds) := by
  refine ⟨showBs_iff.mpr fun d hd => (h d hd).sh, ?_⟩
  have h1 := lenBs_le fun d hd => (h d hd).le
  have h2 := Nat.mul_le_mul_right (B + 2) hl
  show lenBs ds + 4 ≤ _
  omega
theorem Sh.lst {k B m : Nat} {ds : List D} (h : ∀ d ∈ ds, Sh k B d) (hl : ds.length ≤ m) : Sh (k + 1) (m * (B + 2) + 4) (.lst ds) := by
  refine ⟨showBs_iff.mpr fun d hd => (h d hd).sh, ?_⟩
  have h1 := lenBs_le fun d hd => (h d hd).le
  have h2 := Nat.mul_le_mul_right (B + 2) hl
  show lenBs ds + 4 ≤ _
  omega
theorem Sh.ti {k m : Nat} {f : List Int} (h : Sz f) (hl : f.length ≤ m) : Sh (k + 1) (m * 25 + 4) (ti f) := by
  refine Sh.tup (B := 23) (fun d hd => ?_) (by rw [List.length_map]; exact hl)
  obtain ⟨c, hc, rfl⟩ := List.mem_map.mp hd
  have := h c hc
  exact Sh.int (by omega)
theorem Sh.map {α : Type} {k B : Nat} {g : α → D} {l : List α} (h : ∀ a ∈ l, Sh k B (g a)) : ∀ d ∈ l.map g, Sh k B d := fun d hd => by
  obtain ⟨a, ha, rfl⟩ := List.mem_map.mp hd
  exact h a ha
theorem Sh.ok {B : Nat} {d : D} (h : Sh 20 B d) (hb : B ≤ 16777216) : showB 20 d = true ∧ sz (PyData.shown d.py).length = true :=
  ⟨h.sh, decide_eq_true (Nat.le_trans (shown_le 20 d h.sh) (Nat.le_trans h.le hb))⟩
theorem s_sameS {i B : Nat} (h : T i = some hSame) {d : D} (hd : Sh 20 B d) (hb : B ≤ 16777216) : callN T (n + 1) i [.d d, .d d] S = .ok (.d (.bl true)) S := by
  have hk := hd.ok hb
  refine s_same h hk.1 hk.2 fun k => ?_
  rintro rfl
  have := hd.sh
  simp [showB] at this
end U

/-! UBox: the box of draws at the head of a frame. -/
namespace U
open PySem
variable {T : Nat → Option FD} {n : Nat} {S : St}
/-- the law's own frame: the box first -/
def bx (ds : List Int) (k : Nat) (r : List LO) (o : List (List LO)) (g : List LO) : St := ⟨boxO ds k :: r, o, g⟩
section
variable {ds : List Int} {k : Nat} {r : List LO} {o : List (List LO)} {g : List LO}
theorem bx_get : (bx ds k r o g).get 0 0 = some (boxO ds k) := rfl
theorem bx_set {k' : Nat} : (bx ds k r o g).set 0 0 (boxO ds k') = bx ds k' r o g := rfl
theorem bx_own : (bx ds k r o g).own.length = r.length + 1 := rfl
theorem bx_get1 {i : Nat} : (bx ds k r o g).get 0 (i + 1) = r[i]? := rfl
theorem bx_set1 {i : Nat} {x : LO} : (bx ds k r o g).set 0 (i + 1) x = bx ds k (r.set i x) o g := rfl
theorem bx_push {x : LO} : ({ bx ds k r o g with own := (bx ds k r o g).own ++ [x] } : St) = bx ds k (r ++ [x]) o g := rfl
theorem x_draw {i : Nat} (h : T i = some hDraw) {m : Int} (hm : 0 < m) : callN T (n + 1) i [.loc 0 0, .d (.int m)] (bx ds k r o g) = .ok (.d (.int (drw ds k m))) (bx ds (k + 1) r o g) := s_draw h bx_get hm
theorem x_number {i id : Nat} (h : T i = some (hNumber id)) (hd : T id = some hDraw) {p : Int} (hp : 0 < p) : callN T (n + 2) i [.loc 0 0, .d (.int p)] (bx ds k r o g) = .ok (.d (.int (num ds k p))) (bx ds (k + 2) r o g) := s_number h hd bx_get hp
theorem x_pick {i id : Nat} (h : T i = some (hPick id)) (hd : T id = some hDraw) (xs : List D) (hx : xs ≠ []) : ∃ x ∈ xs, callN T (n + 2) i [.loc 0 0, .d (.lst xs)] (bx ds k r o g) = .ok (.d x) (bx ds (k + 1) r o g) := s_pick h hd bx_get xs hx
theorem x_pickT {i id : Nat} (h : T i = some (hPick id)) (hd : T id = some hDraw) (xs : List D) (hx : xs ≠ []) : ∃ x ∈ xs, callN T (n + 2) i [.loc 0 0, .d (.tup xs)] (bx ds k r o g) = .ok (.d x) (bx ds (k + 1) r o g) := s_pickT h hd bx_get xs hx
theorem x_numbers {i inu id : Nat} (h : T i = some (hNumbers inu)) (h1 : T inu = some (hNumber id)) (hd : T id = some hDraw) {p : Int} (hp : 0 < p) {m : Nat} (hm : m ≤ 1000000) :
    ∃ ys : List Int, ys.length = m ∧ InR p ys ∧ callN T (n + 3) i [.loc 0 0, .d (.int p), .d (.int m)] (bx ds k r o g) = .ok (.d (ti ys)) (bx ds (k + 2 * m) r o g) := s_numbers h h1 hd bx_get hp hm
end
/-! more values -/
theorem bin_lst {s t : List D} (h : s.length + t.length ≤ 16777216) {x y : RV} (hx : view S (hold x).rv = some (.lst s)) (hy : view S y = some (.lst t)) : binV .add x y S = .ok (.new (.lst (s ++ t))) S := by
  unfold binV
  rw [hx, hy]
  show M.opt (if sz (s.length + t.length) = true then _ else _) S = _
  rw [if_pos (show sz (s.length + t.length) = true from decide_eq_true h)]
  rfl
theorem ix_new {ds : List D} {k : Nat} {d : D} (h : ds[k]? = some d) : ixV (.new (.lst ds)) (.d (.int k)) S = .ok (.d d) S := ix_lst h
theorem rng0 (n : Nat) : rngUp 0 n = (List.range n).map fun k => D.int (k : Nat) := by
  rw [List.range_eq_range']
  exact rng_range n 0
theorem primesA {x : D} (hx : x ∈ [D.int 2, .int 3, .int 5, .int 7, .int 11, .int 13, .int 101, .int 10007]) : ∃ p : Int, x = .int p ∧ Pr p ∧ p ≤ 10007 := by
  simp at hx
  rcases hx with rfl | rfl | rfl | rfl | rfl | rfl | rfl | rfl
  · exact ⟨2, rfl, ⟨by decide, by decide, ferm_2⟩, by decide⟩
  · exact ⟨3, rfl, ⟨by decide, by decide, ferm_3⟩, by decide⟩
  · exact ⟨5, rfl, ⟨by decide, by decide, ferm_5⟩, by decide⟩
  · exact ⟨7, rfl, ⟨by decide, by decide, ferm_7⟩, by decide⟩
  · exact ⟨11, rfl, ⟨by decide, by decide, ferm_11⟩, by decide⟩
  · exact ⟨13, rfl, ⟨by decide, by decide, by decide +kernel⟩, by decide⟩
  · exact ⟨101, rfl, ⟨by decide, by decide, ferm_101⟩, by decide⟩
  · exact ⟨10007, rfl, ⟨by decide, by decide, ferm_10007⟩, by decide⟩
end U

/-! URead: readings, the plain law. -/
namespace U
open PySem
theorem add_nth : ∀ {f g : List Int} (i : Nat) (hf : i < f.length) (hg : i < g.length), ∃ h : i < (pAdd f g).length, (pAdd f g)[i] = f[i] + g[i]
  | a :: f, b :: g, 0, _, _ => ⟨by rw [pAdd, List.length_cons]; omega, rfl⟩
  | a :: f, b :: g, i + 1, hf, hg => by
    obtain ⟨h, e⟩ := add_nth (f := f) (g := g) i (by simpa using hf) (by simpa using hg)
    exact ⟨by rw [pAdd, List.length_cons]; omega, e⟩
/-- as many equal values as numbers: the same polynomial -/
theorem poly_eq {p : Int} (F : Fld p) {pts f g : List Int} (ap : Apart p pts) (hl : f.length ≤ pts.length) (hfg : f.length = g.length) (h : ∀ a ∈ pts, cg p (pe a f) (pe a g)) (hf : InR p f) (hg : InR p g) : f = g := by
  have hlen : (pNeg g).length = g.length := List.length_map ..
  have key : ∀ y, pe y (pAdd f (pNeg g)) = pe y f - pe y g := fun y => by
    rw [pe_add y f (pNeg g) (by rw [hlen, hfg]), pNeg, pe_sc]
    omega
  have z := roots_zero F pts (pAdd f (pNeg g)) ap (by rw [add_len (by rw [hlen, hfg])]; exact hl) fun a ha => by
    rw [key]
    exact cg.sub0.mpr (h a ha)
  apply List.ext_getElem hfg
  intro i h1 h2
  have h3 : i < (pNeg g).length := by rw [hlen]; exact h2
  obtain ⟨h4, e⟩ := add_nth i h1 h3
  have := z _ (List.getElem_mem h4)
  rw [e] at this
  have e2 : (pNeg g)[i] = -1 * g[i] := List.getElem_map ..
  rw [e2, show f[i] + -1 * g[i] = f[i] - g[i] by omega] at this
  have r1 := hf _ (List.getElem_mem h1)
  have r2 := hg _ (List.getElem_mem h2)
  exact (cg.sub0.mp this).eq r1.1 r1.2 r2.1 r2.2
/-- the share of a party in a row -/
def shr (row : List Int) (a : Int) : Int := row.getD (a - 1).toNat 0
def wrongV (p : Int) (q : Nat) (row f : List Int) : List Int := (ptI q).filter fun a => decide (shr row a ≠ pe a f % p)
theorem apart_pt {p : Int} {q : Nat} (hq : (q : Int) < p) : Apart p (ptI q) := by
  have nd := pt_nd (q := q)
  unfold Apart
  rw [List.pairwise_iff_getElem]
  intro i j hi hj hij z
  have a := pt_mem.mp (List.getElem_mem hi)
  have b := pt_mem.mp (List.getElem_mem hj)
  have := z.eq (by omega) (by omega) (by omega) (by omega)
  exact List.pairwise_iff_getElem.mp nd i j hi hj hij this
theorem apart_sub {p : Int} {a b : List Int} (h : Apart p b) (s : a.Sublist b) : Apart p a := List.Pairwise.sublist s h
theorem two_filters {α : Type} (f g : α → Bool) : ∀ l : List α, l.length ≤ (l.filter fun a => f a && g a).length + (l.filter fun a => !f a).length + (l.filter fun a => !g a).length
  | [] => by simp
  | a :: l => by
    have ih := two_filters f g l
    cases h1 : f a <;> cases h2 : g a <;> simp [List.filter_cons, h1, h2] <;> omega
theorem filter_not {α : Type} (f : α → Bool) : ∀ l : List α, (l.filter f).length + (l.filter fun a => !f a).length = l.length
  | [] => by simp
  | a :: l => by
    have ih := filter_not f l
    cases h1 : f a <;> simp [List.filter_cons, h1] <;> omega
/-- two polynomials near a row are one -/
theorem near_one {p : Int} (F : Fld p) {q e : Nat} (hq : (q : Int) < p) {row f g : List Int} (hfg : f.length = g.length) (hf : InR p f) (hg : InR p g) (h1 : (wrongV p q row f).length ≤ e) (h2 : (wrongV p q row g).length ≤ e) (hl : f.length + 2 * e ≤ q) : f = g := by
  have h := two_filters (fun a => decide (shr row a = pe a f % p)) (fun a => decide (shr row a = pe a g % p)) (ptI q)
  rw [pt_len] at h
  have e1 : (wrongV p q row f) = (ptI q).filter fun a => !decide (shr row a = pe a f % p) := by
    unfold wrongV; congr 1; funext a; simp
  have e2 : (wrongV p q row g) = (ptI q).filter fun a => !decide (shr row a = pe a g % p) := by
    unfold wrongV; congr 1; funext a; simp
  rw [e1] at h1
  rw [e2] at h2
  refine poly_eq F (pts := (ptI q).filter fun a => decide (shr row a = pe a f % p) && decide (shr row a = pe a g % p)) (apart_sub (apart_pt hq) List.filter_sublist) (by omega) hfg (fun a ha => ?_) hf hg
  have := (List.mem_filter.mp ha).2
  simp at this
  have e3 : pe a f % p = pe a g % p := by rw [← this.1, this.2]
  exact e3
/-! sets -/
theorem in_sets : ∀ (m : Nat) (xs r : List Int), r.Sublist xs → r.length = m → r ∈ setsV m xs
  | 0, xs, r, _, h => by
    rw [setsV, List.mem_singleton]
    exact List.length_eq_zero_iff.mp h
  | m + 1, xs, r, hs, h => by
    cases r with
    | nil => simp at h
    | cons a r =>
      unfold setsV
      have : ∃ i, ∃ hi : i < xs.length, xs[i] = a ∧ r.Sublist (xs.drop (i + 1)) := by
        clear h
        induction xs with
        | nil => cases hs
        | cons b xs ih =>
          cases hs with
          | cons _ hs =>
            obtain ⟨i, hi, h1, h2⟩ := ih hs
            exact ⟨i + 1, by simpa using hi, by simpa using h1, by simpa using h2⟩
          | cons_cons _ hs => exact ⟨0, by simp, rfl, by simpa using hs⟩
      obtain ⟨i, hi, h1, h2⟩ := this
      refine List.mem_flatMap.mpr ⟨i, List.mem_range.mpr hi, List.mem_map.mpr ⟨r, in_sets m _ r h2 (by simpa using h), ?_⟩⟩
      rw [show xs.getD i 0 = xs[i] by simp [hi], h1]
/-! the readings -/
def polyAt (p : Int) (row pts : List Int) : List Int := thrV p pts (pts.map (shr row))
def rdStep (p : Int) (q e : Nat) (row : List Int) (found : List (List Int)) (pts : List Int) : List (List Int) :=
  if polyAt p row pts ∉ found ∧ (wrongV p q row (polyAt p row pts)).length ≤ e then found ++ [polyAt p row pts] else found
def rdV (p : Int) (q m e : Nat) (row : List Int) : List (List Int) := (setsV m (ptI q)).foldl (rdStep p q e row) []
theorem rd_gen {p : Int} {q e : Nat} {row : List Int} : ∀ (l : List (List Int)) (found : List (List Int)), found.Nodup →
    (l.foldl (rdStep p q e row) found).Nodup ∧ ∀ f, f ∈ l.foldl (rdStep p q e row) found ↔ f ∈ found ∨ ∃ pts ∈ l, f = polyAt p row pts ∧ (wrongV p q row f).length ≤ e
  | [], found, h => ⟨h, fun f => by simp⟩
  | pts :: l, found, h => by
    rw [List.foldl_cons]
    by_cases hc : polyAt p row pts ∉ found ∧ (wrongV p q row (polyAt p row pts)).length ≤ e
    · rw [show rdStep p q e row found pts = found ++ [polyAt p row pts] from if_pos hc]
      have hn : (found ++ [polyAt p row pts]).Nodup := by
        rw [List.nodup_append]
        refine ⟨h, by simp, fun a ha b hb => ?_⟩
        rw [List.mem_singleton.mp hb]
        exact fun z => hc.1 (z ▸ ha)
      obtain ⟨h1, h2⟩ := rd_gen l _ hn
      refine ⟨h1, fun f => ?_⟩
      rw [h2 f]
      constructor
      · rintro (h | ⟨z, hz, h⟩)
        · rcases List.mem_append.mp h with h | h
          · exact .inl h
          · rw [List.mem_singleton] at h
            subst h
            exact .inr ⟨pts, List.mem_cons_self, rfl, hc.2⟩
        · exact .inr ⟨z, List.mem_cons_of_mem _ hz, h⟩
      · rintro (h | ⟨z, hz, h⟩)
        · exact .inl (List.mem_append_left _ h)
        · rcases List.mem_cons.mp hz with rfl | hz
          · exact .inl (List.mem_append_right _ (by rw [h.1]; simp))
          · exact .inr ⟨z, hz, h⟩
    · rw [show rdStep p q e row found pts = found from if_neg hc]
      obtain ⟨h1, h2⟩ := rd_gen l found h
      refine ⟨h1, fun f => ?_⟩
      rw [h2 f]
      constructor
      · rintro (h | ⟨z, hz, h⟩)
        · exact .inl h
        · exact .inr ⟨z, List.mem_cons_of_mem _ hz, h⟩
      · rintro (h | ⟨z, hz, h⟩)
        · exact .inl h
        · rcases List.mem_cons.mp hz with rfl | hz
          · refine .inl ?_
            have hw := h.2
            rw [h.1] at hw ⊢
            exact Classical.byContradiction fun hx => hc ⟨hx, hw⟩
          · exact .inr ⟨z, hz, h⟩
theorem shr_map {row : List Int} : ∀ q : Nat, row.length = q → (ptI q).map (shr row) = row := fun q h => by
  apply List.ext_getElem
  · rw [List.length_map, pt_len, h]
  · intro i h1 h2
    rw [List.getElem_map]
    have e : (ptI q)[i]'(by rw [List.length_map] at h1; exact h1) = ((1 + 1 * i : Nat) : Int) := by
      unfold ptI
      rw [List.getElem_map, List.getElem_range']
    rw [e]
    unfold shr
    rw [show (((1 + 1 * i : Nat) : Int) - 1).toNat = i by omega]
    simp [h2]
theorem shr_in {p : Int} (hp : 0 < p) {row : List Int} (hr : InR p row) (a : Int) : 0 ≤ shr row a ∧ shr row a < p := by
  unfold shr
  by_cases h : (a - 1).toNat < row.length
  · rw [List.getD_eq_getElem?_getD, List.getElem?_eq_getElem h]
    exact hr _ (List.getElem_mem h)
  · rw [List.getD_eq_getElem?_getD, List.getElem?_eq_none (by omega)]
    show (0 : Int) ≤ 0 ∧ (0 : Int) < p
    omega
theorem polyAt_val {p : Int} (hp : Pr p) {row pts : List Int} (hr : InR p row) (ap : Apart p pts) {a : Int} (ha : a ∈ pts) : pe a (polyAt p row pts) % p = shr row a := by
  obtain ⟨k, hk, rfl⟩ := List.getElem_of_mem ha
  have h := thrV_at hp (vals := pts.map (shr row)) ap hk
  have e : (pts.map (shr row)).getD k 0 = shr row pts[k] := by simp [hk]
  rw [e] at h
  have r := shr_in hp.pos hr pts[k]
  exact (h.symm.eqm r.1 r.2).symm
/-- what is read: all that is near -/
theorem rd_all {p : Int} (hp : Pr p) {q m e : Nat} (hq : (q : Int) < p) (hme : m + e ≤ q) {row : List Int} (hr : InR p row) (f : List Int) :
    f ∈ rdV p q m e row ↔ f.length = m ∧ InR p f ∧ (wrongV p q row f).length ≤ e := by
  unfold rdV
  rw [(rd_gen _ [] List.nodup_nil).2 f]
  constructor
  · rintro (h | ⟨pts, hpts, rfl, h⟩)
    · cases h
    · obtain ⟨h1, h2⟩ := sets_in _ _ _ hpts
      exact ⟨by unfold polyAt; rw [thrV_len, h1], thrV_in hp.pos, h⟩
  · rintro ⟨h1, h2, h3⟩
    refine .inr ?_
    have hn := filter_not (fun a => decide (shr row a = pe a f % p)) (ptI q)
    have e1 : (wrongV p q row f) = (ptI q).filter fun a => !decide (shr row a = pe a f % p) := by
      unfold wrongV; congr 1; funext a; simp
    rw [pt_len, ← e1] at hn
    generalize hA : (ptI q).filter (fun a => decide (shr row a = pe a f % p)) = A at hn
    have hsub : (A.take m).Sublist (ptI q) := (List.take_sublist _ _).trans (by rw [← hA]; exact List.filter_sublist)
    have hlen : (A.take m).length = m := by rw [List.length_take]; omega
    have ap := apart_sub (apart_pt hq) hsub
    refine ⟨A.take m, in_sets _ _ _ hsub hlen, ?_, h3⟩
    refine poly_eq hp.fld ap (by omega) (by unfold polyAt; rw [thrV_len, hlen, h1]) (fun a ha => ?_) h2 (thrV_in hp.pos)
    have hv := polyAt_val hp hr ap ha
    have hm : a ∈ A := List.mem_of_mem_take ha
    rw [← hA] at hm
    have := of_decide_eq_true (List.mem_filter.mp hm).2
    unfold cg
    rw [hv, this]
theorem rd_nd {p : Int} {q m e : Nat} {row : List Int} : (rdV p q m e row).Nodup := (rd_gen _ [] List.nodup_nil).1
theorem rd_len {p : Int} {q m e : Nat} {row : List Int} : (rdV p q m e row).length ≤ (setsV m (ptI q)).length := by
  have : ∀ (l found : List (List Int)), (l.foldl (rdStep p q e row) found).length ≤ found.length + l.length := by
    intro l
    induction l with
    | nil => intro found; simp
    | cons a l ih =>
      intro found
      rw [List.foldl_cons, List.length_cons]
      refine Nat.le_trans (ih _) ?_
      unfold rdStep
      split
      · rw [List.length_append]; simp; omega
      · omega
  have := this (setsV m (ptI q)) []
  rw [List.length_nil, Nat.zero_add] at this
  exact this
/-! sorting by the code -/
theorem cd_lt : ∀ f : List Int, (∀ c ∈ f, 0 ≤ c ∧ c < 1048576) → 0 ≤ cdI f ∧ cdI f < 1048576 ^ f.length
  | [], _ => by simp [cdI]
  | c :: f, h => by
    obtain ⟨h1, h2⟩ := cd_lt f fun x hx => h x (List.mem_cons_of_mem _ hx)
    have hc := h c List.mem_cons_self
    rw [cdI, List.length_cons, Int.pow_succ]
    have hp : 0 < (1048576 : Int) ^ f.length := Int.pow_pos (by omega)
    generalize (1048576 : Int) ^ f.length = B at *
    constructor
    · have := Int.mul_nonneg hc.1 (Int.le_of_lt hp)
      omega
    · have := Int.mul_le_mul_of_nonneg_right (show c ≤ 1048575 by omega) (Int.le_of_lt hp)
      omega
theorem cdI_inj : ∀ f g : List Int, f.length = g.length → (∀ c ∈ f, 0 ≤ c ∧ c < 1048576) → (∀ c ∈ g, 0 ≤ c ∧ c < 1048576) → cdI f = cdI g → f = g
  | [], [], _, _, _, _ => rfl
  | [], _ :: _, h, _, _, _ => by simp at h
  | _ :: _, [], h, _, _, _ => by simp at h
  | c :: f, d :: g, hl, hf, hg, h => by
    have hl : f.length = g.length := by simpa using hl
    obtain ⟨h1, h2⟩ := cd_lt f fun x hx => hf x (List.mem_cons_of_mem _ hx)
    obtain ⟨h3, h4⟩ := cd_lt g fun x hx => hg x (List.mem_cons_of_mem _ hx)
    rw [cdI, cdI, hl] at h
    rw [hl] at h2
    have hp : 0 < (1048576 : Int) ^ g.length := Int.pow_pos (by omega)
    have e1 : c = d := by
      have a1 := Int.add_mul_ediv_right (cdI f) c (c := (1048576 : Int) ^ g.length) (by omega)
      have a2 := Int.add_mul_ediv_right (cdI g) d (c := (1048576 : Int) ^ g.length) (by omega)
      rw [Int.ediv_eq_zero_of_lt h1 h2] at a1
      rw [Int.ediv_eq_zero_of_lt h3 h4] at a2
      rw [Int.add_comm, h, Int.add_comm, a2] at a1
      omega
    subst e1
    have hl : f.length = g.length := by simpa using hl
    rw [cdI_inj f g hl (fun x hx => hf x (List.mem_cons_of_mem _ hx)) (fun x hx => hg x (List.mem_cons_of_mem _ hx)) (by omega)]
/-- the same members, the same sorted list -/
theorem sort_same {k : Nat} {l l' : List (List Int)} (n1 : l.Nodup) (n2 : l'.Nodup) (hl : ∀ f ∈ l, f.length = k ∧ ∀ c ∈ f, 0 ≤ c ∧ c < 1048576) (h : ∀ f, f ∈ l ↔ f ∈ l') : sortT l = sortT l' := by
  have hp : l.Perm l' := (List.perm_ext_iff_of_nodup n1 n2).mpr h
  refine ((sortT_perm l).trans (hp.trans (sortT_perm l').symm)).eq_of_pairwise (fun a b ha hb h1 h2 => ?_) (sortT_sorted l) (sortT_sorted l')
  have a1 := hl a ((sortT_perm l).mem_iff.mp ha)
  have b1 := hl b ((h b).mpr ((sortT_perm l').mem_iff.mp hb))
  exact cdI_inj a b (by omega) a1.2 b1.2 (by omega)
end U

/-! UReadS: the program's readings, what they compute. -/
namespace U
open PySem
variable {T : Nat → Option FD} {n : Nat} {S : St}
theorem cut_ints {xs : List Int} {k : Nat} (h : k ≤ xs.length) : cut (xs.map D.int) (some (k : Int)) none = (xs.drop k).map D.int := by
  rw [cut_drop (by simpa using h), List.map_drop]
theorem l_sets2 {ise : Nat} {C : Nat → List SV → M RV} {m : Nat} {xs : List Int} {B : Nat} (hc : ∀ (ys : List Int) (S : St), ys.length ≤ xs.length → C ise [.d (ti ys), .d (.int m)] S = .ok (.new (.lst ((setsV m ys).map ti))) S) (hB : ∀ ys : List Int, ys.length ≤ xs.length → (setsV m ys).length ≤ B) (hx : xs.length ≤ 1000) (hm : m ≤ 999) :
    ∀ (is : List Nat) (acc : List D), (∀ i ∈ is, i < xs.length) → acc.length + is.length * B < 16777216 →
    forL (fun _ => true) (putT (.one 3)) (evS C (pSb2 ise)) [some (.d (ti xs)), some (.d (.int (m + 1))), some (.loc 0 0), none, none] 1 (is.map fun k => D.int (k : Nat)) [some (.d (ti xs)), some (.d (.int (m + 1))), some (.loc 0 0), none, none] (bagS S acc) =
      .ok (.next [some (.d (ti xs)), some (.d (.int (m + 1))), some (.loc 0 0), none, none]) (bagS S (acc ++ (is.flatMap fun i => (setsV m (xs.drop (i + 1))).map fun r => ti (xs.getD i 0 :: r))))
  | [], acc, _, _ => by
    rw [List.map_nil, List.flatMap_nil, List.append_nil]
    rfl
  | i :: is, acc, hi, hl => by
    have hi0 := hi i List.mem_cons_self
    have hb := hB (xs.drop (i + 1)) (by rw [List.length_drop]; omega)
    rw [List.length_cons, Nat.add_mul] at hl
    have e1 := hc (xs.drop (i + 1)) (bagS S acc) (by rw [List.length_drop]; omega)
    have e2 := l_sets1 (S := S) (C := C) hi0 (a1 := .d (.int (m + 1))) (setsV m (xs.drop (i + 1))) acc (fun r hr => by have := (sets_in _ _ _ hr).1; omega) (by omega)
    have ec := cut_ints (xs := xs) (k := i + 1) (by omega)
    have ih := l_sets2 hc hB hx hm is (acc ++ (setsV m (xs.drop (i + 1))).map fun r => ti (xs.getD i 0 :: r)) (fun k hk => hi k (List.mem_cons_of_mem _ hk)) (by rw [List.length_append, List.length_map]; omega)
    have e2' : forL (⟨(setsV m (xs.drop (i + 1))).map ti, none⟩ : Walk).chk (putT (.one 4)) (evS C pSb1) _ 1 _ _ _ = _ := e2
    have ol : (bagS S acc).own.length = 1 := rfl
    have hcast : ((i : Int) + 1) = ((i + 1 : Nat) : Int) := rfl
    have eb : evS C (pSb2 ise) [some (.d (ti xs)), some (.d (.int (m + 1))), some (.loc 0 0), some (.d (.int i)), none] (bagS S acc) = .ok (.next [some (.d (ti xs)), some (.d (.int (m + 1))), some (.loc 0 0), some (.d (.int i)), none]) (bagS S (acc ++ (setsV m (xs.drop (i + 1))).map fun r => ti (xs.getD i 0 :: r))) := by
      simp only [pSb2, S_for, W_seq, E_call, A_cons, A_nil, E_sl, E_var, varV, P_cons, P_nil, E_bin, E_con, go_ok, List.getElem?_cons_zero, List.getElem?_cons_succ, rv_d, bin_int, bop_add, bop_sub, lift_some, part_int, sl_tup, hold_d, Int.add_sub_cancel, ol]
      rw [hcast, ec, e1]
      simp only [go_ok, seq_new, ol]
      exact e2'
    rw [List.map_cons, forL_next rfl rfl eb]
    simp only [mask_some, mask_none, mask_nil]
    rw [ownFree_take (n := 1) rfl, ih, List.flatMap_cons, List.append_assoc]
theorem s_sets {ise : Nat} (h : T ise = some (pSets ise)) : ∀ (m n : Nat) (xs : List Int) (S : St), xs.length ≤ 1000 → m ≤ 999 → (xs.length + 1) ^ m ≤ 1000000 → callN T (n + m + 1) ise [.d (ti xs), .d (.int m)] S = .ok (.new (.lst ((setsV m xs).map ti))) S
  | 0, n, xs, S, _, _, _ => by
    rw [call_eq h rfl]
    simp [pSets, varV, setsV, sz]
  | m + 1, n, xs, S, hx, hm, hb => by
    have hp : (xs.length + 1) ^ m ≤ 1000000 := by
      have := Nat.le_trans (Nat.pow_le_pow_right (show 1 ≤ xs.length + 1 by omega) (show m ≤ m + 1 by omega)) hb
      exact this
    have hc : ∀ (ys : List Int) (S : St), ys.length ≤ xs.length → callN T (n + m + 1) ise [.d (ti ys), .d (.int m)] S = .ok (.new (.lst ((setsV m ys).map ti))) S := fun ys S hy => s_sets h m n ys S (by omega) (by omega) (Nat.le_trans (Nat.pow_le_pow_left (by omega) m) hp)
    have hB : ∀ ys : List Int, ys.length ≤ xs.length → (setsV m ys).length ≤ (xs.length + 1) ^ m := fun ys hy => Nat.le_trans (sets_len m ys) (Nat.pow_le_pow_left (by omega) m)
    have hsz : xs.length * (xs.length + 1) ^ m ≤ 1000000 := by
      rw [Nat.pow_succ, Nat.mul_comm] at hb
      exact Nat.le_trans (Nat.mul_le_mul_right _ (by omega)) hb
    have e := l_sets2 (S := S) hc hB hx (by omega) (List.range xs.length) [] (fun i hi => List.mem_range.mp hi) (by rw [List.length_range]; simp; omega)
    rw [call_eq h rfl]
    have er : rngUp 0 xs.length = (List.range xs.length).map fun k => D.int (k : Nat) := by
      rw [List.range_eq_range']
      exact rng_range xs.length 0
    rw [← er] at e
    have e' : forL (⟨rngUp 0 xs.length, none⟩ : Walk).chk (putT (.one 3)) (evS (callN T (n + (m + 1))) (pSb2 ise)) [some (.d (ti xs)), some (.d (.int (m + 1))), some (.loc 0 0), none, none] 1 (rngUp 0 xs.length) [some (.d (ti xs)), some (.d (.int (m + 1))), some (.loc 0 0), none, none] ⟨[⟨false, .lst []⟩], S.own :: S.out, S.gl⟩ = _ := e
    have hz : decide (((m : Int) + 1) = 0) = false := decide_eq_false (by omega)
    rw [show ((m + 1 : Nat) : Int) = (m : Int) + 1 from rfl]
    simp [pSets, varV, hz, St.call, sz, rng1_int (j := (xs.length : Int)) (by omega) (by omega), e']
    show leave (bagS S _) (.loc 0 0) = _
    show Res.ok (RV.new (.lst ([] ++ _))) _ = _
    rw [List.nil_append, setsV, List.map_flatMap]
    have : (fun i => (setsV m (xs.drop (i + 1))).map fun r => ti (xs[i]?.getD 0 :: r)) = fun i => ((setsV m (xs.drop (i + 1))).map (xs.getD i 0 :: ·)).map ti := by
      funext i
      rw [List.map_map]
      simp
    rw [← this]
    rfl
/-! wrong -/
def pWrc (ival : Nat) : DE := (.cmp .ne (.ix (.var 1) (.bin .sub (.var 3) (.con (.int 1)))) (.call ival (.cons (.ix (.var 0) (.con (.int 1))) (.cons (.var 2) (.cons (.var 3) .nil)))))
def pWrong (ipar ival : Nat) : FD := { np := 3, ns := 4, body := (.ret (.b1 .tuple (.lc (.var 3) (.one 3) (.wk .seq (.call ipar (.cons (.var 0) .nil)) .nil) (pWrc ival) [3]))) }
theorem shr_get {row : List Int} {a : Int} (h1 : 1 ≤ a) (h2 : a ≤ row.length) : ixV (.d (ti row)) (.d (.int (a - 1))) S = .ok (.d (.int (shr row a))) S := by
  have hk : (a - 1).toNat < row.length := by omega
  have := ix_tup (S := S) (getI hk)
  rw [show (((a - 1).toNat : Nat) : Int) = a - 1 by omega] at this
  rw [this]
  unfold shr
  rw [List.getD_eq_getElem?_getD, List.getElem?_eq_getElem hk]
  rfl
theorem s_wrong {i ipar ival : Nat} (h : T i = some (pWrong ipar ival)) (h1 : T ipar = some pParties) (h2 : T ival = some pValue) {p t : Int} {q : Nat} (hp : 0 < p ∧ p ≤ 1000000) (hq : q ≤ 1000) {row f : List Int} (hr : row.length = q) :
    callN T (n + 2) i [.d (setD p q t), .d (ti row), .d (ti f)] S = .ok (.d (ti (wrongV p q row f))) S := by
  have e0 := s_parties (n := n) (S := S.call) h1 (p := p) (t := t) hq
  rw [call_eq h rfl]
  simp only [pWrong, S_ret, E_b1]
  rw [lc_ty (enc := D.int) (l := ptI q) (c := fun a => decide (shr row a ≠ pe a f % p)) (g := D.int) (v := fun a => .d (.int a)) (at_ := none) ?hw rfl ?hl (fun a ha => ⟨rfl, ?hc, fun _ => ⟨rfl, rfl⟩⟩)]
  · simp [wrongV]
  case hw => simp [varV, e0]
  case hl => rw [pt_len]; omega
  case hc =>
    obtain ⟨a1, a2⟩ := pt_mem.mp ha
    have e1 := shr_get (S := S.call) (row := row) a1 (by omega)
    have e2 := s_value (n := n) (S := S.call) h2 (x := a) hp f
    simp [Env.put, wipeE, pWrc, varV, set_ix1, e1, e2]
theorem wrong_len {p : Int} {q : Nat} {row f : List Int} : (wrongV p q row f).length ≤ q := by
  unfold wrongV
  exact Nat.le_trans (List.length_filter_le _ _) (Nat.le_of_eq pt_len)
/-! readings -/
def pRdc : DE := (.ix (.var 1) (.bin .sub (.var 6) (.con (.int 1))))
def pRdb (ithr iwr : Nat) : DS := (.seq (.set 5 false (.call ithr (.cons (.ix (.var 0) (.con (.int 1))) (.cons (.var 4) (.cons (.b1 .tuple (.lc pRdc (.one 6) (.wk .seq (.var 4) .nil) (.con (.bl true)) [6])) .nil)))))
    (.ife (.and (.cmp .notIn (.var 5) (.var 3)) (.cmp .le (.b1 .len (.call iwr (.cons (.var 0) (.cons (.var 1) (.cons (.var 5) .nil))))) (.var 2)))
    (.expr (.m1 .append (.var 3) (.var 5)))
    .skip))
def pReadings (ise ipar ithr iwr : Nat) : FD := { np := 3, ns := 7, body := (.seq (.set 3 true (.lst .nil))
    (.seq (.for_ (.one 4) (.wk .seq (.call ise (.cons (.call ipar (.cons (.var 0) .nil)) (.cons (.bin .add (.ix (.var 0) (.con (.int 3))) (.con (.int 1))) .nil))) .nil)
    (pRdb ithr iwr))
    (.ret (.b1 .tuple (.b1 .sorted (.var 3)))))) }
theorem okT_of {k : Nat} (hk : 1 ≤ k) {l : List (List Int)} (hl : l.length < 64) (h : ∀ f ∈ l, f.length = k ∧ ∀ c ∈ f, 0 ≤ c ∧ c < 1048576) : okT k l = true := by
  unfold okT
  rw [decide_eq_true hk, decide_eq_true hl]
  simp only [Bool.true_and]
  rw [List.all_eq_true]
  intro f hf
  obtain ⟨h1, h2⟩ := h f hf
  rw [decide_eq_true h1]
  unfold bdB
  simp only [Bool.true_and]
  rw [List.all_eq_true]
  intro c hc
  have := h2 c hc
  rw [decide_eq_true this.1, decide_eq_true this.2]
  rfl
theorem tups_tis : ∀ l : List (List Int), tupsI (l.map ti) = some l
  | [] => rfl
  | f :: l => by
    rw [List.map_cons, tupsI]
    show (match intsD (f.map D.int) with
      | some n => (tupsI (l.map ti)).map (n :: ·)
      | none => none) = _
    rw [intsD_map, tups_tis l]
    rfl
theorem sorted_tis {k : Nat} (hk : 1 ≤ k) {l : List (List Int)} (hl : l.length < 64) (h : ∀ f ∈ l, f.length = k ∧ ∀ c ∈ f, 0 ≤ c ∧ c < 1048576) : sortedD (l.map ti) = some (.new (.lst ((sortT l).map ti))) := by
  cases l with
  | nil => rfl
  | cons f l =>
    have e1 : intsD ((f :: l).map ti) = none := rfl
    unfold sortedD
    rw [e1, tups_tis]
    dsimp only
    rw [(h f List.mem_cons_self).1, if_pos (okT_of hk hl h)]
    rfl
theorem sorted_loc {u j k : Nat} {z : Bool} {l : List (List Int)} (hg : S.get u j = some ⟨z, .lst (l.map ti)⟩) (hk : 1 ≤ k) (hl : l.length < 64) (h : ∀ f ∈ l, f.length = k ∧ ∀ c ∈ f, 0 ≤ c ∧ c < 1048576) : b1V .sorted (.loc u j) S = .ok (.new (.lst ((sortT l).map ti))) S := by
  unfold b1V
  rw [view_loc hg]
  show lift1 (sortedD (l.map ti)) S = _
  rw [sorted_tis hk hl h]
  rfl
theorem sorted_new {k : Nat} {l : List (List Int)} (hk : 1 ≤ k) (hl : l.length < 64) (h : ∀ f ∈ l, f.length = k ∧ ∀ c ∈ f, 0 ≤ c ∧ c < 1048576) : b1V .sorted (.new (.lst (l.map ti))) S = .ok (.new (.lst ((sortT l).map ti))) S := by
  show lift1 (sortedD (l.map ti)) S = _
  rw [sorted_tis hk hl h]
  rfl
section
variable {ipw iinv ival iadd isc iwr0 irt iba ithr iwr ise ipar : Nat}
theorem rd_bound {p : Int} (hp : Pr p) {q m e : Nat} (hq : (q : Int) < p) (hme : m + e ≤ q) {row : List Int} (hr : InR p row) : ∀ f ∈ rdV p q m e row, f.length = m ∧ ∀ c ∈ f, 0 ≤ c ∧ c < 1048576 := fun f hf => by
  obtain ⟨h1, h2, _⟩ := (rd_all hp hq hme hr f).mp hf
  refine ⟨h1, fun c hc => ?_⟩
  have := h2 c hc
  have := hp.hi
  omega
theorem b_readings (P : PolyT T ipw iinv ival iadd isc iwr0 irt) (hb : T iba = some (pBases irt isc iinv ival)) (ht : T ithr = some (pThrough iadd isc iba)) (hw : T iwr = some (pWrong ipar ival)) (hpa : T ipar = some pParties)
    {p : Int} (hp : Pr p) {q : Nat} {t : Int} {e : Nat} (hq9 : q ≤ 9) {row : List Int} (hr : InR p row) (hrl : row.length = q) {pts : List Int} (l2 : pts.Sublist (ptI q)) {s : List (List Int)} (hs : s.length < 1000000) {a5 a6 : Option SV} :
    evS (callN T (n + 5)) (pRdb ithr iwr) [some (.d (setD p q t)), some (.d (ti row)), some (.d (.int e)), some (.loc 0 0), some (.d (ti pts)), a5, a6] (bagS S (s.map ti)) = .ok (.next [some (.d (setD p q t)), some (.d (ti row)), some (.d (.int e)), some (.loc 0 0), some (.d (ti pts)), some (.d (ti (polyAt p row pts))), a6]) (bagS S ((rdStep p q e row s pts).map ti)) := by
  have hm : ∀ a ∈ pts, 1 ≤ a ∧ a ≤ q := fun a ha => pt_mem.mp (l2.subset ha)
  have hlen : pts.length ≤ q := by have := l2.length_le; rw [pt_len] at this; exact this
  have hsm : Sm pts := fun a ha => by have := hm a ha; omega
  have hv : InR p (pts.map (shr row)) := fun c hc => by
    obtain ⟨a, _, rfl⟩ := List.mem_map.mp hc
    exact shr_in hp.pos hr a
  have hvs : Sm (pts.map (shr row)) := fun c hc => by have := hv c hc; have := hp.hi; omega
  have ec : ∀ S : St, evE (callN T (n + 5)) (.lc pRdc (.one 6) (.wk .seq (.var 4) .nil) (.con (.bl true)) [6]) [some (.d (setD p q t)), some (.d (ti row)), some (.d (.int e)), some (.loc 0 0), some (.d (ti pts)), a5, a6] S = .ok (.new (.lst ((pts.map (shr row)).map D.int))) S := fun S => by
    rw [List.map_map]
    refine lc_map (enc := D.int) (v := fun a => .d (.int (shr row a))) (at_ := none) ?_ rfl (by omega) fun a ha => ⟨rfl, ?_, rfl⟩
    · simp [varV]
    · obtain ⟨a1, a2⟩ := hm a ha
      have e1 := shr_get (S := S) (row := row) a1 (by omega)
      simp [Env.put, wipeE, pRdc, varV, e1]
  have e3 := s_through (n := n) (S := bagS S (s.map ti)) P hb ht hp.le pts (pts.map (shr row)) hsm hvs (by rw [List.length_map]) (by omega)
  rw [show thrV p pts (pts.map (shr row)) = polyAt p row pts from rfl] at e3
  have e4 := s_wrong (n := n + 3) (S := bagS S (s.map ti)) hw hpa P.val (t := t) hp.le (by omega) (row := row) (f := polyAt p row pts) hrl
  have e5 := notin_tis (S := bagS S (s.map ti)) (u := 0) (k := 0) (x := polyAt p row pts) bag_get
  have ha := bag_app (S0 := S) (xs := s.map ti) (by rw [List.length_map]; omega) (d := ti (polyAt p row pts))
  unfold pRdb
  by_cases hc : polyAt p row pts ∈ s
  · rw [show rdStep p q e row s pts = s from if_neg (fun z => z.1 hc)]
    simp [-E_lc, varV, set_ix1, ec, -List.map_map, e3, e5, hc]
  · by_cases hc2 : (wrongV p q row (polyAt p row pts)).length ≤ e
    · rw [show rdStep p q e row s pts = s ++ [polyAt p row pts] from if_pos ⟨hc, hc2⟩, List.map_append]
      simp [-E_lc, varV, set_ix1, ec, -List.map_map, e3, e5, hc, e4, hc2, bag_recv, ha]
    · rw [show rdStep p q e row s pts = s from if_neg (fun z => hc2 z.2)]
      simp [-E_lc, varV, set_ix1, ec, -List.map_map, e3, e5, hc, e4, hc2]
theorem s_readings {i : Nat} (P : PolyT T ipw iinv ival iadd isc iwr0 irt) (hb : T iba = some (pBases irt isc iinv ival)) (ht : T ithr = some (pThrough iadd isc iba)) (hw : T iwr = some (pWrong ipar ival)) (hs : T ise = some (pSets ise)) (hpa : T ipar = some pParties) (h : T i = some (pReadings ise ipar ithr iwr))
    {p : Int} (hp : Pr p) {q t e : Nat} (hq9 : q ≤ 9) (hq : (q : Int) < p) (hte : t + 1 + e ≤ q) {row : List Int} (hr : InR p row) (hrl : row.length = q) (hcnt : (rdV p q (t + 1) e row).length < 64) (hpw : (q + 1) ^ (t + 1) ≤ 1000000) :
    callN T (n + t + 7) i [.d (setD p q t), .d (ti row), .d (.int e)] S = .ok (.d (.tup ((sortT (rdV p q (t + 1) e row)).map ti))) S := by
  have e1 := s_parties (n := n + t + 5) (S := bagS S []) hpa (p := p) (q := q) (t := t) (by omega)
  have e2 := s_sets hs (t + 1) (n + 4) (ptI q) (bagS S []) (by rw [pt_len]; omega) (by omega) (by rw [pt_len]; exact hpw)
  rw [show n + 4 + (t + 1) + 1 = n + t + 6 by omega] at e2
  have hsl : (setsV (t + 1) (ptI q)).length ≤ 1000000 := Nat.le_trans (sets_len _ _) (by rw [pt_len]; exact hpw)
  have el := forL_fold (enc := ti) (chk := (⟨(setsV (t + 1) (ptI q)).map ti, none⟩ : Walk).chk) (put := putT (.one 4)) (body := evS (callN T (n + t + 6)) (pRdb ithr iwr)) (n0 := 1)
    (ρ0 := [some (.d (setD p q t)), some (.d (ti row)), some (.d (.int e)), some (.loc 0 0), none, none, none])
    (fun _ => [some (.d (setD p q t)), some (.d (ti row)), some (.d (.int e)), some (.loc 0 0), none, none, none]) (fun s => bagS S (s.map ti)) (rdStep p q e row)
    (fun l s => (∀ pts ∈ l, pts.Sublist (ptI q)) ∧ s.length + l.length ≤ 1000000)
    (fun pts l s hi => by
      obtain ⟨hi1, hi2⟩ := hi
      rw [List.length_cons] at hi2
      refine ⟨rfl, _, _, _, rfl, b_readings (n := n + t + 1) P hb ht hw hpa hp hq9 hr hrl (hi1 pts List.mem_cons_self) (by omega), rfl, ownFree_take rfl, fun z hz => hi1 z (List.mem_cons_of_mem _ hz), ?_⟩
      unfold rdStep
      split
      · rw [List.length_append]; simp; omega
      · omega)
    (fun s _ => rfl) (setsV (t + 1) (ptI q)) [] ⟨fun pts hpts => (sets_in _ _ _ hpts).2, by simp; omega⟩
  have ef := el.1
  change forL _ _ _ _ _ _ _ (bagS S []) = .ok (.next _) (bagS S ((rdV p q (t + 1) e row).map ti)) at ef
  have eo := sorted_loc (S := bagS S ((rdV p q (t + 1) e row).map ti)) (u := 0) (j := 0) rfl (k := t + 1) (by omega) hcnt (rd_bound hp hq hte hr)
  have hb0 : (⟨[⟨false, .lst []⟩], S.own :: S.out, S.gl⟩ : St) = bagS S [] := rfl
  have ol : (bagS S []).own.length = 1 := rfl
  rw [call_eq h rfl]
  simp [pReadings, varV, St.call, sz, hb0, e1, set_ix3, ol]
  rw [show ((t : Int) + 1) = ((t + 1 : Nat) : Int) from rfl, e2]
  simp [ol, ef, varV, eo]
  rfl
def pMost : FD := { np := 1, ns := 1, body := (.ret (.bin .fdiv (.bin .sub (.bin .sub (.ix (.var 0) (.con (.int 2))) (.ix (.var 0) (.con (.int 3)))) (.con (.int 1))) (.con (.int 2)))) }
theorem s_most {i : Nat} (h : T i = some pMost) {p q t : Int} : callN T (n + 1) i [.d (setD p q t)] S = .ok (.d (.int ((q - t - 1) / 2))) S := by
  rw [call_eq h rfl]
  simp [pMost, varV, set_ix2, set_ix3, bop_div (j := 2)]
def pRead (ird imo : Nat) : FD := { np := 2, ns := 3, body := (.seq (.set 2 false (.call ird (.cons (.var 0) (.cons (.var 1) (.cons (.call imo (.cons (.var 0) .nil)) .nil)))))
    (.seq (.ife (.cmp .eq (.var 2) (.tup .nil))
    (.ret (.con .non))
    .skip)
    (.ret (.ix (.ix (.var 2) (.con (.int 0))) (.con (.int 0)))))) }
def headD (l : List (List Int)) : D := match l with
  | [] => .non
  | f :: _ => .int (f.getD 0 0)
theorem plain_tups (l : List (List Int)) : plainB 20 (.tup (l.map ti)) = true := plain_tis 18 l
theorem eqOk_tups (a b : List (List Int)) : eqOk (.tup (a.map ti)) (.tup (b.map ti)) = true := by
  show ((scalarB (.tup (a.map ti)) && scalarB (.tup (b.map ti))) || (plainB 20 (.tup (a.map ti)) && plainB 20 (.tup (b.map ti)))) = true
  rw [plain_tups, plain_tups]
  rfl
theorem inj_tis : ∀ {a b : List (List Int)}, a.map ti = b.map ti → a = b
  | [], [], _ => rfl
  | [], _ :: _, h => by cases h
  | _ :: _, [], h => by cases h
  | x :: a, y :: b, h => by
    rw [List.map_cons, List.map_cons, List.cons.injEq] at h
    rw [inj_ti h.1, inj_tis h.2]
theorem beq_tups (a b : List (List Int)) : D.beq (.tup (a.map ti)) (.tup (b.map ti)) = decide (a = b) := by
  by_cases h : a = b
  · rw [h, beq_self, decide_eq_true rfl]
  · rw [decide_eq_false h]
    cases e : D.beq (.tup (a.map ti)) (.tup (b.map ti)) with
    | false => rfl
    | true =>
      have := (D.beq_iff _ _).mp e
      injection this with this
      exact absurd (inj_tis this) h
theorem eq_tups (a b : List (List Int)) : cmpV .eq (.d (.tup (a.map ti))) (.d (.tup (b.map ti))) S = .ok (.d (.bl (decide (a = b)))) S := by
  show (match (if eqOk (.tup (a.map ti)) (.tup (b.map ti)) = true then some (D.beq (.tup (a.map ti)) (.tup (b.map ti))) else none) with
    | some b => (.ok (.d (.bl b)) S : Res RV)
    | none => .bad) = _
  rw [if_pos (eqOk_tups a b), beq_tups]
theorem s_read {i ird imo : Nat} (h : T i = some (pRead ird imo)) (hm : T imo = some pMost) {N : Nat} {p q t : Int} {row : List Int} {l : List (List Int)} (hl : ∀ f ∈ l, f ≠ [])
    (hr : ∀ S : St, callN T (N + 1) ird [.d (setD p q t), .d (ti row), .d (.int ((q - t - 1) / 2))] S = .ok (.d (.tup (l.map ti))) S) :
    callN T (N + 2) i [.d (setD p q t), .d (ti row)] S = .ok (.d (headD l)) S := by
  have e1 := s_most (n := N) (S := S.call) hm (p := p) (q := q) (t := t)
  have e2 := hr S.call
  have e3 := eq_tups (S := S.call) l []
  rw [List.map_nil] at e3
  rw [call_eq h rfl]
  cases l with
  | nil =>
    simp at e2 e3
    simp [pRead, varV, e1, e2, sz, e3, headD]
  | cons f l =>
    have hf := hl f List.mem_cons_self
    cases f with
    | nil => exact absurd rfl hf
    | cons c f =>
      simp at e2 e3
      have e4 : ixV (.d (.tup (ti (c :: f) :: l.map ti))) (.d (.int 0)) S.call = .ok (.d (ti (c :: f))) S.call := ix_tup (k := 0) rfl
      have e5 : ixV (.d (ti (c :: f))) (.d (.int 0)) S.call = .ok (.d (.int c)) S.call := ix_tup (k := 0) rfl
      simp [pRead, varV, e1, e2, sz, e3, e4, e5, headD]
end
end U

/-! URows: all rows of so many numbers. -/
namespace U
open PySem
variable {T : Nat → Option FD} {n : Nat} {S : St}
def snocs (p : Nat) (r : List Int) : List (List Int) := (List.range p).map fun (c : Nat) => r ++ [(c : Int)]
def lrV (p : Nat) : Nat → List (List Int)
  | 0 => [[]]
  | m + 1 => (lrV p m).flatMap (snocs p)
theorem lr_len (p : Nat) : ∀ m, (lrV p m).length = p ^ m
  | 0 => rfl
  | m + 1 => by
    rw [lrV, List.length_flatMap]
    have : ∀ l : List (List Int), (l.map fun r => (snocs p r).length).sum = l.length * p := by
      intro l
      induction l with
      | nil => simp
      | cons a l ih =>
        rw [List.map_cons, List.sum_cons, ih, List.length_cons, Nat.add_mul]
        unfold snocs
        rw [List.length_map, List.length_range]
        omega
    rw [this, lr_len p m, Nat.pow_succ]
theorem lr_mem {p : Nat} : ∀ {m : Nat} {f : List Int}, f ∈ lrV p m ↔ f.length = m ∧ InR p f
  | 0, f => by
    rw [lrV, List.mem_singleton]
    constructor
    · rintro rfl; exact ⟨rfl, fun c hc => by cases hc⟩
    · rintro ⟨h, _⟩; exact List.length_eq_zero_iff.mp h
  | m + 1, f => by
    rw [lrV, List.mem_flatMap]
    constructor
    · rintro ⟨r, hr, h⟩
      obtain ⟨h1, h2⟩ := lr_mem.mp hr
      obtain ⟨c, hc, rfl⟩ := List.mem_map.mp h
      rw [List.mem_range] at hc
      refine ⟨by rw [List.length_append, h1]; rfl, fun x hx => ?_⟩
      rcases List.mem_append.mp hx with hx | hx
      · exact h2 x hx
      · rw [List.mem_singleton.mp hx]
        omega
    · rintro ⟨h1, h2⟩
      have hne : f ≠ [] := by intro z; subst z; simp at h1
      have e : f.dropLast ++ [f.getLast hne] = f := List.dropLast_concat_getLast hne
      refine ⟨f.dropLast, lr_mem.mpr ⟨by rw [List.length_dropLast, h1]; rfl, fun x hx => h2 x ((List.dropLast_sublist _).subset hx)⟩, ?_⟩
      have r := h2 _ (List.getLast_mem hne)
      refine List.mem_map.mpr ⟨(f.getLast hne).toNat, List.mem_range.mpr (by omega), ?_⟩
      rw [show (((f.getLast hne).toNat : Nat) : Int) = f.getLast hne by omega]
      exact e
theorem lr_nd (p : Nat) : ∀ m, (lrV p m).Nodup
  | 0 => by rw [lrV]; simp
  | m + 1 => by
    rw [lrV]
    unfold List.Nodup
    rw [List.pairwise_flatMap]
    refine ⟨fun r _ => ?_, (lr_nd p m).imp fun {a b} hab => ?_⟩
    · unfold snocs
      refine List.Pairwise.map _ (fun x y h z => ?_) List.nodup_range
      have := List.append_cancel_left z
      simp at this
      omega
    · intro f h1 g h2 h
      subst h
      obtain ⟨c, _, rfl⟩ := List.mem_map.mp h1
      obtain ⟨d, _, h⟩ := List.mem_map.mp h2
      exact hab (List.append_inj_left' h.symm rfl)
/-! what the law computes -/
def hRo1 : DE := (.bin .add (.var 5) (.tup (.cons (.var 6) .nil)))
def hRo2 : DS := (.set 4 false (.bin .add (.var 4) (.lc hRo1 (.one 6) (.wk .rng1 (.var 0) .nil) (.con (.bl true)) [6])))
def hRo3 : DS := (.seq (.set 4 false (.lst .nil))
    (.seq (.for_ (.one 5) (.wk .seq (.var 2) .nil)
    hRo2)
    (.set 2 false (.var 4))))
def hRowsOf : FD := { np := 2, ns := 7, body := (.seq (.set 2 false (.lst (.cons (.tup .nil) .nil)))
    (.seq (.for_ (.one 3) (.wk .rng1 (.var 1) .nil)
    hRo3)
    (.ret (.var 2)))) }
theorem fold_flat {α β : Type} (f : α → List β) : ∀ (l : List α) (s : List β), l.foldl (fun s r => s ++ f r) s = s ++ l.flatMap f
  | [], s => by simp
  | a :: l, s => by rw [List.foldl_cons, fold_flat f l, List.flatMap_cons, List.append_assoc]
theorem flat_len {α β : Type} {f : α → List β} {b : Nat} : ∀ {l : List α}, (∀ a ∈ l, (f a).length ≤ b) → (l.flatMap f).length ≤ l.length * b
  | [], _ => by simp
  | a :: l, h => by
    rw [List.flatMap_cons, List.length_append, List.length_cons, Nat.add_mul]
    have h1 := h a List.mem_cons_self
    have h2 := flat_len fun x hx => h x (List.mem_cons_of_mem _ hx)
    omega
theorem b_rows {C : Nat → List SV → M RV} {p : Nat} (hp : p ≤ 100000) {a1 a3 a4 : SV} {rows : List (List Int)} (hr : rows.length * p ≤ 1000000) (hl : ∀ r ∈ rows, r.length ≤ 1000) :
    evS C hRo3 [some (.d (.int p)), some a1, some (.d (.lst (rows.map ti))), some a3, none, none, none] S.call = .ok (.next [some (.d (.int p)), some a1, some (.d (.lst ((rows.flatMap (snocs p)).map ti))), some a3, some (.d (.lst ((rows.flatMap (snocs p)).map ti))), none, none]) S.call := by
  have el := forL_fold (enc := ti) (chk := (⟨rows.map ti, none⟩ : Walk).chk) (put := putT (.one 5)) (body := evS C hRo2) (n0 := 0)
    (ρ0 := [some (.d (.int p)), some a1, some (.d (.lst (rows.map ti))), some a3, some (.d (.lst [])), none, none])
    (fun s => [some (.d (.int p)), some a1, some (.d (.lst (rows.map ti))), some a3, some (.d (.lst (s.map ti))), none, none]) (fun _ => S.call) (fun s r => s ++ snocs p r)
    (fun l s => (∀ r ∈ l, r.length ≤ 1000) ∧ s.length + l.length * p ≤ 1000000)
    (fun r l s hi => by
      obtain ⟨hi1, hi2⟩ := hi
      rw [List.length_cons, Nat.add_mul] at hi2
      have hrl := hi1 r List.mem_cons_self
      have hsn : (snocs p r).length = p := by unfold snocs; rw [List.length_map, List.length_range]
      have ec : evE C (.lc hRo1 (.one 6) (.wk .rng1 (.var 0) .nil) (.con (.bl true)) [6]) [some (.d (.int p)), some a1, some (.d (.lst (rows.map ti))), some a3, some (.d (.lst (s.map ti))), some (.d (ti r)), none] S.call = .ok (.new (.lst ((snocs p r).map ti))) S.call := by
        unfold snocs
        rw [List.map_map]
        refine lc_map (enc := fun (k : Nat) => D.int (k : Int)) (v := fun (c : Nat) => .d (ti (r ++ [(c : Int)]))) (at_ := none) ?_ rfl (by rw [List.length_range]; omega) fun c hc => ⟨rfl, ?_, rfl⟩
        · rw [← rng0]
          simp [varV, rng1_int (j := (p : Int)) (by omega) (by omega)]
        · have e2 : binV .add (.d (.tup (r.map D.int))) (.d (.tup [.int c])) S.call = .ok (.d (ti (r ++ [(c : Int)]))) S.call := by
            rw [bin_tup (by simp; omega), ti, List.map_append]
            rfl
          have z1 : sz 1 = true := rfl
          simp [Env.put, wipeE, hRo1, varV, z1, e2]
      have e3 := bin_lst (S := S.call) (s := s.map ti) (t := (snocs p r).map ti) (by rw [List.length_map, List.length_map, hsn]; omega) (x := .d (.lst (s.map ti))) (y := .new (.lst ((snocs p r).map ti))) rfl rfl
      rw [← List.map_append] at e3
      refine ⟨rfl, _, [some (.d (.int p)), some a1, some (.d (.lst (rows.map ti))), some a3, some (.d (.lst ((s ++ snocs p r).map ti))), some (.d (ti r)), none], S.call, rfl, ?_, rfl, ownFree_take rfl, fun z hz => hi1 z (List.mem_cons_of_mem _ hz), by rw [List.length_append, hsn]; omega⟩
      simp [-E_lc, -List.map_append, Env.put, hRo2, varV, ec, e3])
    (fun s _ => rfl) rows [] ⟨hl, by simpa using hr⟩
  have e1 := el.1
  rw [fold_flat, List.nil_append] at e1
  have z0 : sz 0 = true := rfl
  have ol : S.call.own.length = 0 := rfl
  rw [List.map_nil] at e1
  unfold hRo3
  simp only [S_seq, S_set, E_lst, K_nil, go_ok, List.length_nil, z0, if_true, set_newf, dat_lst, List.set_cons_succ, List.set_cons_zero, fg_next, S_for, W_seq, E_var, varV, List.getElem?_cons_succ, List.getElem?_cons_zero, rv_d, seq_lst, ol]
  rw [e1]
  simp [varV]
theorem l_rows {C : Nat → List SV → M RV} {p : Nat} (hp : p ≤ 100000) (hp1 : 1 ≤ p) {a1 a2 : SV} {m : Nat} (hm : m ≤ 1000) (hr : p ^ m ≤ 1000000) : ∀ (xs : List D) (j : Nat), j + xs.length = m →
    forL (fun _ => true) (putT (.one 3)) (evS C hRo3) [some (.d (.int p)), some a1, some a2, none, none, none, none] 0 xs [some (.d (.int p)), some a1, some (.d (.lst ((lrV p j).map ti))), none, none, none, none] S.call =
      .ok (.next [some (.d (.int p)), some a1, some (.d (.lst ((lrV p m).map ti))), none, none, none, none]) S.call
  | [], j, h => by
    rw [forL_end rfl, show j = m by simpa using h]
  | x :: xs, j, h => by
    rw [List.length_cons] at h
    have hb : (lrV p j).length * p ≤ 1000000 := by
      rw [lr_len, ← Nat.pow_succ]
      exact Nat.le_trans (Nat.pow_le_pow_right hp1 (by omega)) hr
    have e := b_rows (S := S) (C := C) hp (a1 := a1) (a3 := .d x) (a4 := .d x) hb (fun r hr => by have := (lr_mem.mp hr).1; omega)
    rw [forL_next rfl rfl e]
    simp only [mask_some, mask_none, mask_nil]
    rw [ownFree_take (n := 0) rfl]
    exact l_rows hp hp1 hm hr xs (j + 1) (by omega)
theorem s_rowsof {i : Nat} (h : T i = some hRowsOf) {p m : Nat} (hp : p ≤ 100000) (hp1 : 1 ≤ p) (hm : m ≤ 1000) (hr : p ^ m ≤ 1000000) : callN T (n + 1) i [.d (.int p), .d (.int m)] S = .ok (.d (.lst ((lrV p m).map ti))) S := by
  have e := l_rows (S := S) (C := callN T n) hp hp1 (a1 := .d (.int m)) (a2 := .d (.lst [.tup []])) hm hr (rngUp 0 m) 0 (by rw [rng_len]; omega)
  have e' : forL (⟨rngUp 0 m, none⟩ : Walk).chk (putT (.one 3)) (evS (callN T n) hRo3) [some (.d (.int p)), some (.d (.int m)), some (.d (.lst [.tup []])), none, none, none, none] 0 (rngUp 0 m) [some (.d (.int p)), some (.d (.int m)), some (.d (.lst [.tup []])), none, none, none, none] S.call = _ := e
  rw [call_eq h rfl]
  simp [hRowsOf, varV, sz, rng1_int (j := (m : Int)) (by omega) (by omega), e']
end U

/-! ULwr: the law's readings; the veil's values. -/
namespace U
open PySem
def lwr (p : Int) (q : Nat) (row f : List Int) : List Nat := (List.range q).filter fun k => decide (pe ((k : Int) + 1) f % p ≠ row.getD k 0)
theorem pt_map (q : Nat) : ptI q = (List.range q).map fun k => ((k : Nat) : Int) + 1 := by
  unfold ptI
  rw [List.range'_eq_map_range, List.map_map]
  apply List.map_congr_left
  intro k _
  show ((1 + k : Nat) : Int) = (k : Int) + 1
  omega
theorem wr_lw (p : Int) (q : Nat) (row f : List Int) : wrongV p q row f = (lwr p q row f).map fun k => ((k : Nat) : Int) + 1 := by
  unfold wrongV lwr
  rw [pt_map, List.filter_map]
  congr 1
  apply List.filter_congr
  intro k _
  unfold shr
  show decide (row.getD ((k : Int) + 1 - 1).toNat 0 ≠ _) = _
  rw [show ((k : Int) + 1 - 1).toNat = k by omega]
  simp only [ne_eq, decide_not]
  congr 1
  exact decide_eq_decide.mpr ⟨Eq.symm, Eq.symm⟩
theorem lw_len {p : Int} {q : Nat} {row f : List Int} : (lwr p q row f).length = (wrongV p q row f).length := by rw [wr_lw, List.length_map]
/-- the law's readings -/
def lrd (p q m e : Nat) (row : List Int) : List (List Int) := (lrV p m).filter fun f => decide ((lwr p q row f).length ≤ e)
theorem lrd_nd {p q m e : Nat} {row : List Int} : (lrd p q m e row).Nodup := List.Pairwise.filter _ (lr_nd p m)
theorem lrd_mem {p q m e : Nat} (hp : Pr p) (hq : (q : Int) < p) (hme : m + e ≤ q) {row : List Int} (hr : InR p row) (f : List Int) : f ∈ rdV p q m e row ↔ f ∈ lrd p q m e row := by
  rw [rd_all hp hq hme hr]
  unfold lrd
  rw [List.mem_filter, lr_mem, lw_len]
  simp [and_assoc]
theorem lrd_perm {p q m e : Nat} (hp : Pr p) (hq : (q : Int) < p) (hme : m + e ≤ q) {row : List Int} (hr : InR p row) : (rdV p q m e row).Perm (lrd p q m e row) :=
  (List.perm_ext_iff_of_nodup rd_nd lrd_nd).mpr fun f => lrd_mem hp hq hme hr f
theorem lrd_sort {p q m e : Nat} (hp : Pr p) (hq : (q : Int) < p) (hme : m + e ≤ q) {row : List Int} (hr : InR p row) : sortT (rdV p q m e row) = sortT (lrd p q m e row) :=
  sort_same rd_nd lrd_nd (rd_bound hp hq hme hr) fun f => lrd_mem hp hq hme hr f
/-- at most one -/
theorem lrd_one {p q m e : Nat} (hp : Pr p) (hq : (q : Int) < p) (hme : m + 2 * e ≤ q) {row : List Int} (hr : InR p row) : lrd p q m e row = [] ∨ ∃ f, f.length = m ∧ lrd p q m e row = [f] := by
  generalize hl : lrd p q m e row = l
  have nd := lrd_nd (p := p) (q := q) (m := m) (e := e) (row := row)
  have hm := fun f => lrd_mem (e := e) hp hq (m := m) (by omega) hr f
  rw [hl] at nd
  simp only [hl] at hm
  cases l with
  | nil => exact .inl rfl
  | cons f l =>
    cases l with
    | nil => exact .inr ⟨f, ((rd_all hp hq (by omega) hr f).mp ((hm f).mpr (by simp))).1, rfl⟩
    | cons g l =>
      exfalso
      obtain ⟨a1, a2, a3⟩ := (rd_all hp hq (by omega) hr f).mp ((hm f).mpr (by simp))
      obtain ⟨b1, b2, b3⟩ := (rd_all hp hq (by omega) hr g).mp ((hm g).mpr (by simp))
      have := near_one hp.fld hq (by omega) a2 b2 a3 b3 (by omega)
      subst this
      simp at nd
/-! the veil -/
theorem veil_len {p : Int} {pts : List Int} : (veilV p pts).length = pts.length + 1 := by
  unfold veilV
  rw [scaled_len, rt_len]
theorem head_pe : ∀ (f : List Int) (h : 0 < f.length), f[0] = pe 0 f
  | c :: cs, _ => by simp [pe]
theorem veil_zero {p : Int} (h : Pr p) {pts : List Int} (hr : InR p pts) (hn : ∀ a ∈ pts, a ≠ 0) : (veilV p pts)[0]? = some 1 := by
  have h0 : 0 < (rtV p pts).length := by rw [rt_len]; omega
  have hin := rt_in h.pos (pts := pts) _ (List.getElem_mem h0)
  have hc : cg p (rtV p pts)[0] (prd 0 pts) := by
    exact (cg.of_eq (head_pe _ h0)).trans (rt_pe p 0 pts)
  have nz : ¬ cg p (prd 0 pts) 0 := prd_nz h.fld fun a ha z => by
    have r := hr a ha
    have := z.eq (by omega) h.pos r.1 r.2
    exact hn a ha this.symm
  have hne : (rtV p pts)[0] ≠ 0 := fun z => nz (by rw [z] at hc; exact hc.symm)
  have hi := h.inv hin.1 hin.2 hne
  have hg : (rtV p pts).getD 0 0 = (rtV p pts)[0] := by simp [h0]
  unfold veilV scaledV red pSc
  rw [hg, List.getElem?_map, List.getElem?_map, List.getElem?_eq_getElem h0]
  show some (U.inv p (rtV p pts)[0] * (rtV p pts)[0] % p) = some 1
  rw [Int.mul_comm]
  congr 1
  unfold cg at hi
  rw [hi, Int.emod_eq_of_lt (by omega) (by have := h.lo; omega)]
theorem veil_root {p : Int} {pts : List Int} {a : Int} (ha : a ∈ pts) : pe a (veilV p pts) % p = 0 := by
  have h1 : cg p (pe a (veilV p pts)) 0 := by
    unfold veilV
    refine (scaled_pe p _ a _).trans ((cg.refl.mul ((rt_pe p a pts).trans (prd_zero ha .refl))).trans (cg.of_eq ?_))
    rw [Int.mul_zero]
  unfold cg at h1
  rw [h1, Int.zero_emod]
end U

/-! UShr: shares, settings by draws. -/
namespace U
open PySem
variable {T : Nat → Option FD} {n : Nat} {S : St} {u j : Nat} {ds : List Int} {k : Nat}
def sharesV (p : Int) (q : Nat) (f : List Int) : List Int := (ptI q).map fun a => pe a f % p
theorem shares_len {p : Int} {q : Nat} {f : List Int} : (sharesV p q f).length = q := by unfold sharesV; rw [List.length_map, pt_len]
theorem shares_in {p : Int} (hp : 0 < p) {q : Nat} {f : List Int} : InR p (sharesV p q f) := fun c hc => by
  obtain ⟨a, _, rfl⟩ := List.mem_map.mp hc
  exact ⟨mod_nn hp, mod_lt hp⟩
theorem pt_get {q i : Nat} (h : i < (ptI q).length) : (ptI q)[i] = (i : Int) + 1 := by
  simp only [pt_map, List.getElem_map, List.getElem_range]
theorem shares_get {p : Int} {q i : Nat} {f : List Int} (h : i < q) : (sharesV p q f)[i]? = some (pe ((i : Int) + 1) f % p) := by
  unfold sharesV
  rw [List.getElem?_map, List.getElem?_eq_getElem (by rw [pt_len]; exact h), pt_get]
  rfl
def pShc (ival : Nat) : DE := (.call ival (.cons (.ix (.var 0) (.con (.int 1))) (.cons (.var 1) (.cons (.var 2) .nil))))
def pSharesOf (ival ipar : Nat) : FD := { np := 2, ns := 3, body := (.ret (.b1 .tuple (.lc (pShc ival) (.one 2) (.wk .seq (.call ipar (.cons (.var 0) .nil)) .nil) (.con (.bl true)) [2]))) }
theorem s_sharesof {i ival ipar : Nat} (h : T i = some (pSharesOf ival ipar)) (h1 : T ival = some pValue) (h2 : T ipar = some pParties) {p t : Int} {q : Nat} (hp : 0 < p ∧ p ≤ 1000000) (hq : q ≤ 1000) (f : List Int) : callN T (n + 2) i [.d (setD p q t), .d (ti f)] S = .ok (.d (ti (sharesV p q f))) S := by
  have e0 := s_parties (n := n) (S := S.call) h2 (p := p) (t := t) hq
  rw [call_eq h rfl]
  simp only [pSharesOf, S_ret, E_b1]
  rw [lc_map (enc := D.int) (l := ptI q) (g := fun a => .int (pe a f % p)) (v := fun a => .d (.int (pe a f % p))) (at_ := none) ?hw rfl ?hl (fun a ha => ⟨rfl, ?hc, rfl⟩)]
  · simp [sharesV]
  case hw => simp [varV, e0]
  case hl => rw [pt_len]; omega
  case hc =>
    have e2 := s_value (n := n) (S := S.call) h1 (x := a) hp f
    simp [Env.put, wipeE, pShc, varV, set_ix1, e2]
/-! settings -/
structure SetOk (p q t : Nat) : Prop where
  pr : Pr p
  hp : p ≤ 10007
  q1 : 1 ≤ q
  q9 : q ≤ 9
  qp : q < p
  tq : 2 * t + 1 ≤ q
def hSetting (ipi idr : Nat) : FD := { np := 1, ns := 3, body := (.seq (.set 1 false (.call ipi (.cons (.var 0) (.cons (.lst (.cons (.con (.int 2)) (.cons (.con (.int 3)) (.cons (.con (.int 5)) (.cons (.con (.int 5)) (.cons (.con (.int 7)) (.cons (.con (.int 7)) (.cons (.con (.int 11)) (.cons (.con (.int 13)) (.cons (.con (.int 101)) (.cons (.con (.int 10007)) .nil))))))))))) .nil))))
    (.seq (.set 2 false (.bin .add (.con (.int 1)) (.call idr (.cons (.var 0) (.cons (.b2 .min (.con (.int 9)) (.bin .sub (.var 1) (.con (.int 1)))) .nil)))))
    (.ret (.tup (.cons (.con (.str (Str.ofString "setting"))) (.cons (.var 1) (.cons (.var 2) (.cons (.call idr (.cons (.var 0) (.cons (.bin .fdiv (.bin .add (.var 2) (.con (.int 1))) (.con (.int 2))) .nil))) .nil)))))))) }
theorem s_setting {i ipi idr : Nat} (h : T i = some (hSetting ipi idr)) (h1 : T ipi = some (hPick idr)) (h2 : T idr = some hDraw) (hb : S.get u j = some (boxO ds k)) :
    ∃ p q t : Nat, SetOk p q t ∧ callN T (n + 3) i [.loc u j] S = .ok (.d (setD p q t)) (S.set u j (boxO ds (k + 3))) := by
  have g0 : S.call.get (u + 1) j = some (boxO ds k) := by rw [call_get]; exact hb
  obtain ⟨x, hx, e1⟩ := s_pick (n := n) h1 h2 g0 [D.int 2, .int 3, .int 5, .int 5, .int 7, .int 7, .int 11, .int 13, .int 101, .int 10007] (by simp)
  obtain ⟨p, rfl, hp, hp2⟩ := primesA (x := x) (by simp at hx ⊢; omega)
  obtain ⟨p, rfl⟩ := Int.eq_ofNat_of_zero_le (show 0 ≤ p by have := hp.lo; omega)
  have plo := hp.lo
  rw [call_set] at e1
  have g1 : (S.set u j (boxO ds (k + 1))).call.get (u + 1) j = some (boxO ds (k + 1)) := by rw [call_get]; exact get_set hb
  generalize hw : (if (p : Int) - 1 < 9 then (p : Int) - 1 else 9) = w
  have w0 : 0 < w ∧ w ≤ 9 ∧ w ≤ p - 1 := by split at hw <;> omega
  have e2 := s_draw (n := n + 1) (m := w) h2 g1 w0.1
  have q0 := drw_nn (ds := ds) (k := k + 1) (m := w) w0.1
  have q1 := drw_lt (ds := ds) (k := k + 1) (m := w) w0.1
  generalize drw ds (k + 1) w = d at e2 q0 q1
  obtain ⟨q, hq⟩ : ∃ q : Nat, 1 + d = (q : Int) := ⟨(1 + d).toNat, by omega⟩
  rw [call_set, set_set] at e2
  have g2 : (S.set u j (boxO ds (k + 2))).call.get (u + 1) j = some (boxO ds (k + 2)) := by rw [call_get]; exact get_set hb
  have e3 := s_draw (n := n + 1) (m := ((q : Int) + 1) / 2) h2 g2 (by omega)
  have t0 := drw_nn (ds := ds) (k := k + 2) (m := ((q : Int) + 1) / 2) (by omega)
  have t1 := drw_lt (ds := ds) (k := k + 2) (m := ((q : Int) + 1) / 2) (by omega)
  generalize drw ds (k + 2) (((q : Int) + 1) / 2) = t at e3 t0 t1
  obtain ⟨t, rfl⟩ := Int.eq_ofNat_of_zero_le t0
  rw [call_set, set_set] at e3
  refine ⟨p, q, t, ⟨hp, by omega, by omega, by omega, by omega, by omega⟩, ?_⟩
  have eb5 : bop .fdiv (.int ((q : Int) + 1)) (.int 2) = some (.d (.int (((q : Int) + 1) / 2))) := bop_div (by omega) (by omega)
  have z10 : sz 10 = true := rfl
  have z4 : sz 4 = true := rfl
  rw [call_eq h rfl]
  simp [hSetting, varV, z10, z4, e1, hw, e2, hq, eb5, e3]
section
variable {r : List LO} {o : List (List LO)} {g : List LO}
theorem x_setting {i ipi idr : Nat} (h : T i = some (hSetting ipi idr)) (h1 : T ipi = some (hPick idr)) (h2 : T idr = some hDraw) :
    ∃ p q t : Nat, SetOk p q t ∧ callN T (n + 3) i [.loc 0 0] (bx ds k r o g) = .ok (.d (setD p q t)) (bx ds (k + 3) r o g) := s_setting h h1 h2 bx_get
end
theorem cut_set {a b c d : D} : cut [a, b, c, d] (some 1) none = [b, c, d] := rfl
theorem cut_set2 {a b c d : D} : cut [a, b, c, d] (some 2) none = [c, d] := rfl
theorem filter_range {a b q : Nat} {c : Nat → Bool} (h : ∀ k, k < q → c k = true → a ≤ k ∧ k < b) : ((List.range q).filter c).length ≤ b - a := by
  have hn : ((List.range q).filter c).Nodup := List.Pairwise.filter _ List.nodup_range
  have hs : (List.range q).filter c ⊆ List.range' a (b - a) := fun k hk => by
    obtain ⟨h1, h2⟩ := List.mem_filter.mp hk
    have := h k (List.mem_range.mp h1) h2
    rw [List.mem_range'_1]
    omega
  have := hn.length_le_of_subset hs
  rwa [List.length_range'] at this
end U

set_option maxHeartbeats 1000000
/-! UTwin: twins. -/
namespace U
open PySem
variable {T : Nat → Option FD} {n : Nat} {S : St}
def twinB (p t : Nat) : List Int := scaledV p 1 (veilV p (ptI t))
def twinR (p q t e : Nat) : List Int := List.replicate (min q (t + e)) 0 ++ (sharesV p q (twinB p t)).drop (min q (t + e))
def pTwins (isc ivl ish : Nat) : FD := { np := 2, ns := 9, body := (.seq (.unp [2, 3, 4] (.sl (.var 0) (.cons (.con (.int 1)) .nil) .nil))
    (.seq (.ife (.cmp .ge (.var 3) (.bin .add (.bin .add (.var 4) (.con (.int 1))) (.bin .mul (.con (.int 2)) (.var 1))))
    (.ret (.con .non))
    .skip)
    (.seq (.set 5 false (.bin .mul (.tup (.cons (.con (.int 0)) .nil)) (.bin .add (.var 4) (.con (.int 1)))))
    (.seq (.set 6 false (.call isc (.cons (.var 2) (.cons (.con (.int 1)) (.cons (.call ivl (.cons (.var 2) (.cons (.trng false (.con (.int 1)) (.bin .add (.var 4) (.con (.int 1)))) .nil))) .nil)))))
    (.seq (.set 7 false (.call ish (.cons (.var 0) (.cons (.var 6) .nil))))
    (.seq (.set 8 false (.bin .add (.bin .mul (.tup (.cons (.con (.int 0)) .nil)) (.b2 .min (.var 3) (.bin .add (.var 4) (.var 1)))) (.sl (.var 7) (.cons (.b2 .min (.var 3) (.bin .add (.var 4) (.var 1))) .nil) .nil)))
    (.ret (.tup (.cons (.var 8) (.cons (.var 5) (.cons (.var 6) .nil))))))))))) }
theorem mul_zeros {k : Nat} (h : k ≤ 1000) : binV .mul (.d (.tup [.int 0])) (.d (.int (k : Int))) S = .ok (.d (ti (List.replicate k 0))) S := by
  rw [mul_tup (by omega) (by omega) (by simp), show ((k : Int)).toNat = k from rfl, rep_one]
section
variable {ipw iinv ival iadd isc iwr irt ivl ish ipar : Nat}
theorem s_twinsA {i : Nat} (h : T i = some (pTwins isc ivl ish)) {p q t e : Nat} (hs : SetOk p q t) (he : e ≤ 9) (hq : t + 1 + 2 * e ≤ q) : callN T (n + 1) i [.d (setD p q t), .d (.int e)] S = .ok (.d .non) S := by
  rw [call_eq h rfl]
  have d1 : decide ((t : Int) + 1 + 2 * (e : Int) ≤ q) = true := decide_eq_true (by omega)
  simp [pTwins, varV, unpV, cut_set, puts, Env.put, mul_l (i := 2) (j := (e : Int)) (by omega) (by omega), d1]
theorem twinB_len {p t : Nat} : (twinB p t).length = t + 1 := by unfold twinB; rw [scaled_len, veil_len, pt_len]
theorem pt_sm {q : Nat} (h : q ≤ 1000) : Sm (ptI q) := fun a ha => by have := pt_mem.mp ha; omega
theorem s_twinsB {i : Nat} (P : PolyT T ipw iinv ival iadd isc iwr irt) (hv : T ivl = some (pVeil irt isc iinv)) (hsh : T ish = some (pSharesOf ival ipar)) (hpa : T ipar = some pParties) (h : T i = some (pTwins isc ivl ish)) {p q t e : Nat} (hs : SetOk p q t) (he : e ≤ 9) (hq : ¬ t + 1 + 2 * e ≤ q) :
    callN T (n + 5) i [.d (setD p q t), .d (.int e)] S = .ok (.d (.tup [ti (twinR p q t e), ti (List.replicate (t + 1) 0), ti (twinB p t)])) S := by
  have e1 := s_veil (n := n) (S := S.call) P hv hs.pr.le (ptI t) (pt_sm (by have := hs.tq; have := hs.q9; omega)) (by rw [pt_len]; have := hs.tq; have := hs.q9; omega)
  have e2 := s_scaled (n := n + 3) (S := S.call) P.sc (c := 1) hs.pr.le (by omega) (veilV p (ptI t)) (by rw [veil_len, pt_len]; have := hs.tq; have := hs.q9; omega)
  have e3 := s_sharesof (n := n + 2) (S := S.call) hsh P.val hpa (p := p) (q := q) (t := t) hs.pr.le (by have := hs.q9; omega) (twinB p t)
  have e4 := mul_zeros (S := S.call) (k := t + 1) (by have := hs.tq; have := hs.q9; omega)
  rw [show ((t + 1 : Nat) : Int) = (t : Int) + 1 from rfl] at e4
  have hm : (if (t : Int) + e < q then (t : Int) + e else q) = ((min q (t + e) : Nat) : Int) := by
    split <;> omega
  have e5 := mul_zeros (S := S.call) (k := min q (t + e)) (by have := hs.q9; omega)
  have e6 := cut_ints (xs := sharesV p q (twinB p t)) (k := min q (t + e)) (by rw [shares_len]; omega)
  have e7 : binV .add (.d (ti (List.replicate (min q (t + e)) 0))) (.d (ti ((sharesV p q (twinB p t)).drop (min q (t + e))))) S.call = .ok (.d (ti (twinR p q t e))) S.call := by
    rw [bin_tup (by rw [List.length_map, List.length_map, List.length_replicate, List.length_drop, shares_len]; have := hs.q9; omega)]
    unfold ti twinR
    rw [List.map_append]
  have et := trng_int (S := S.call) (l := false) (i := 1) (j := (t : Int) + 1) (by omega) (by omega) (by have := hs.tq; have := hs.q9; omega) (by have := hs.tq; have := hs.q9; omega) (by have := hs.tq; have := hs.q9; omega)
  rw [show ((t : Int) + 1 - 1).toNat = t by omega, pt_rng] at et
  have d1 : decide ((t : Int) + 1 + 2 * (e : Int) ≤ q) = false := decide_eq_false (by omega)
  have z1 : sz 1 = true := rfl
  have z3 : sz 3 = true := rfl
  rw [call_eq h rfl]
  unfold twinB at e3 e6 e7 ⊢
  simp [-List.map_replicate, -List.map_drop, pTwins, varV, unpV, cut_set, puts, Env.put, mul_l (i := 2) (j := (e : Int)) (by omega) (by omega), d1, z1, z3, e4, et, e1, e2, e3, hm, e5, e6, e7]
end
/-! the law's look at them -/
def hTf2 : DE := (.not (.chain .le .lt (.con (.int 0)) (.var 9) (.var 2)))
def hTf4 (iat : Nat) : DE := (.cmp .ne (.call iat (.cons (.var 2) (.cons (.var 10) (.cons (.bin .add (.var 11) (.con (.int 1))) .nil)))) (.ix (.var 6) (.var 11)))
def hTf5 (iat : Nat) : DS := (.ife (.cmp .gt (.b1 .len (.lc (.var 11) (.one 11) (.wk .rng1 (.var 3) .nil) (hTf4 iat) [11])) (.var 1))
    (.ret (.con (.bl false)))
    .skip)
def hTwinsFit (itw iat : Nat) : FD := { np := 2, ns := 12, body := (.seq (.unp [2, 3, 4] (.sl (.var 0) (.cons (.con (.int 1)) .nil) .nil))
    (.seq (.set 5 false (.call itw (.cons (.var 0) (.cons (.var 1) .nil))))
    (.seq (.ife (.cmp .ge (.var 3) (.bin .add (.bin .add (.var 4) (.con (.int 1))) (.bin .mul (.con (.int 2)) (.var 1))))
    (.ret (.cmp .isN (.var 5) (.con .non)))
    .skip)
    (.seq (.unp [6, 7, 8] (.var 5))
    (.seq (.ife (.or (.cmp .ne (.b1 .len (.var 6)) (.var 3)) (.or (.cmp .ne (.b1 .len (.var 7)) (.bin .add (.var 4) (.con (.int 1)))) (.or (.cmp .ne (.b1 .len (.var 8)) (.bin .add (.var 4) (.con (.int 1)))) (.cmp .eq (.ix (.var 7) (.con (.int 0))) (.ix (.var 8) (.con (.int 0)))))))
    (.ret (.con (.bl false)))
    .skip)
    (.seq (.ife (.cmp .ne (.lc (.var 9) (.one 9) (.wk .seq (.bin .add (.bin .add (.var 6) (.var 7)) (.var 8)) .nil) hTf2 [9]) (.lst .nil))
    (.ret (.con (.bl false)))
    .skip)
    (.seq (.for_ (.one 10) (.wk .seq (.lst (.cons (.var 7) (.cons (.var 8) .nil))) .nil)
    (hTf5 iat))
    (.ret (.con (.bl true)))))))))) }
theorem twinR_len {p q t e : Nat} : (twinR p q t e).length = q := by
  unfold twinR
  rw [List.length_append, List.length_replicate, List.length_drop, shares_len]
  omega
theorem twinR_get {p q t e k : Nat} (hk : k < q) : (twinR p q t e).getD k 0 = if k < min q (t + e) then 0 else pe ((k : Int) + 1) (twinB p t) % p := by
  unfold twinR
  rw [List.getD_eq_getElem?_getD]
  split
  · rename_i h
    rw [List.getElem?_append_left (by rw [List.length_replicate]; exact h), List.getElem?_replicate, if_pos (by omega)]
    rfl
  · rename_i h
    rw [List.getElem?_append_right (by rw [List.length_replicate]; omega), List.length_replicate, List.getElem?_drop, show min q (t + e) + (k - min q (t + e)) = k by omega, shares_get hk]
    rfl
theorem twin_first {p q t e : Nat} (hq : ¬ t + 1 + 2 * e ≤ q) (hp : 0 < p) : (lwr p q (twinR p q t e) (List.replicate (t + 1) 0)).length ≤ e := by
  refine Nat.le_trans (filter_range (a := min q (t + e)) (b := q) fun k hk hc => ?_) (by omega)
  rw [twinR_get hk, pe_rep] at hc
  split at hc
  · simp at hc
  · omega
theorem twinB_zero {p t k : Nat} (hk : k < t) : pe ((k : Int) + 1) (twinB p t) % p = 0 := by
  have h := scaled_pe p 1 ((k : Int) + 1) (veilV p (ptI t))
  have r := veil_root (p := p) (pts := ptI t) (a := (k : Int) + 1) (pt_mem.mpr (by omega))
  unfold twinB
  unfold cg at h
  rw [h, Int.one_mul, r]
theorem twin_second {p q t e : Nat} (hp : 0 < p) : (lwr p q (twinR p q t e) (twinB p t)).length ≤ e := by
  refine Nat.le_trans (filter_range (a := t) (b := min q (t + e)) fun k hk hc => ?_) (by omega)
  rw [twinR_get hk] at hc
  split at hc
  · rename_i hm
    refine ⟨Classical.byContradiction fun hx => ?_, hm⟩
    rw [twinB_zero (by omega)] at hc
    simp at hc
  · simp at hc
theorem twinB_head {p q t : Nat} (hs : SetOk p q t) : (twinB p t)[0]? = some 1 := by
  have h := veil_zero hs.pr (pts := ptI t) (fun a ha => by have := pt_mem.mp ha; have := hs.qp; have := hs.tq; omega) (fun a ha => by have := pt_mem.mp ha; omega)
  unfold twinB scaledV red pSc
  rw [List.getElem?_map, List.getElem?_map, h]
  have := hs.pr.lo
  show some (1 * 1 % (p : Int)) = some 1
  rw [Int.one_mul, Int.emod_eq_of_lt (by omega) (by omega)]
theorem twin_in {p q t e : Nat} (hs : SetOk p q t) : InR p (twinR p q t e ++ List.replicate (t + 1) 0 ++ twinB p t) := fun c hc => by
  have hp := hs.pr.pos
  rcases List.mem_append.mp hc with hc | hc
  · rcases List.mem_append.mp hc with hc | hc
    · unfold twinR at hc
      rcases List.mem_append.mp hc with hc | hc
      · rw [(List.mem_replicate.mp hc).2]; omega
      · exact shares_in hp c (List.mem_of_mem_drop hc)
    · rw [(List.mem_replicate.mp hc).2]; omega
  · exact red_in hp _ c hc
end U

set_option maxHeartbeats 2000000
namespace U
open PySem
variable {T : Nat → Option FD} {n : Nat} {S : St}
theorem isN_non {x : RV} {d : D} (h : view S (hold x).rv = some d) : cmpV .isN x (.d .non) S = .ok (.d (.bl (isNonB d))) S := by
  unfold cmpV
  rw [h]
  rfl
theorem filter_none {α : Type} {c : α → Bool} {l : List α} (h : ∀ a ∈ l, c a = false) : l.filter c = [] := by
  rw [List.filter_eq_nil_iff]
  intro a ha
  rw [h a ha]
  exact Bool.false_ne_true
theorem ne_tups (a b : List (List Int)) : cmpV .ne (.d (.tup (a.map ti))) (.d (.tup (b.map ti))) S = .ok (.d (.bl (!decide (a = b)))) S := by
  show (match (if eqOk (.tup (a.map ti)) (.tup (b.map ti)) = true then some (!D.beq (.tup (a.map ti)) (.tup (b.map ti))) else none) with
    | some b => (.ok (.d (.bl b)) S : Res RV)
    | none => .bad) = _
  rw [if_pos (eqOk_tups a b), beq_tups]
section
variable {ipw iinv ival iadd isc iwr irt ivl ish ipar itw iat : Nat}
/-- the law's count of differences -/
theorem e_lw {C : Nat → List SV → M RV} {elt cond it : DE} {tg : Tg} {vs : List Nat} {ρ : Env} {p : Int} {q : Nat} {row f : List Int} {r : Nat → Env} (hq : q ≤ 1000)
    (hw : evW C it ρ S = .ok ⟨(List.range q).map fun k => D.int (k : Nat), none⟩ S)
    (h : ∀ k : Nat, k < q → putT tg (.int (k : Int)) (wipeE ρ vs) = some (r k) ∧ evE C cond (r k) S = .ok (.d (.bl (decide (pe ((k : Int) + 1) f % p ≠ row.getD k 0)))) S ∧ evE C elt (r k) S = .ok (.d (.int (k : Int))) S) :
    evE C (.lc elt tg it cond vs) ρ S = .ok (.new (.lst ((lwr p q row f).map fun k => D.int (k : Nat)))) S :=
  lc_ty (enc := fun (k : Nat) => D.int (k : Int)) (l := List.range q) (c := fun (k : Nat) => decide (pe ((k : Int) + 1) f % p ≠ row.getD k 0)) (v := fun (k : Nat) => .d (.int (k : Int))) (r := r) hw rfl (by rw [List.length_range]; omega) fun k hk => ⟨(h k (List.mem_range.mp hk)).1, (h k (List.mem_range.mp hk)).2.1, fun _ => ⟨(h k (List.mem_range.mp hk)).2.2, rfl⟩⟩
theorem rng1_nat {q : Nat} (h : q ≤ 1000000) : rng1V (.d (.int (q : Int))) S = .ok ⟨(List.range q).map fun k => D.int (k : Nat), none⟩ S := by
  rw [rng1_int (by omega) (by omega), ← rng0]; rfl
theorem s_twinsfit {i : Nat} (P : PolyT T ipw iinv ival iadd isc iwr irt) (hv : T ivl = some (pVeil irt isc iinv)) (hsh : T ish = some (pSharesOf ival ipar)) (hpa : T ipar = some pParties) (htw : T itw = some (pTwins isc ivl ish)) (hat : T iat = some hAt) (h : T i = some (hTwinsFit itw iat)) {p q t e : Nat} (hs : SetOk p q t) (he : e ≤ 9) :
    callN T (n + 6) i [.d (setD p q t), .d (.int e)] S = .ok (.d (.bl true)) S := by
  have htq := hs.tq
  have hq9 := hs.q9
  have z0 : sz 0 = true := rfl
  have z2 : sz 2 = true := rfl
  by_cases hq : t + 1 + 2 * e ≤ q
  · have e1 := s_twinsA (n := n + 4) (S := S.call) htw hs he hq
    have d1 : decide ((t : Int) + 1 + 2 * (e : Int) ≤ q) = true := decide_eq_true (by omega)
    have e2 : cmpV .isN (.d .non) (.d .non) S.call = .ok (.d (.bl true)) S.call := isN_non (S := S.call) (x := .d .non) (d := .non) rfl
    rw [call_eq h rfl]
    simp [hTwinsFit, varV, unpV, cut_set, puts, Env.put, mul_l (i := 2) (j := (e : Int)) (by omega) (by omega), d1, e1, e2]
  · have e1 := s_twinsB (n := n) (S := S.call) P hv hsh hpa htw hs he hq
    have d1 : decide ((t : Int) + 1 + 2 * (e : Int) ≤ q) = false := decide_eq_false (by omega)
    have hf := twin_first (p := p) (e := e) hq (by have := hs.pr.lo; omega)
    have hsd := twin_second (p := p) (q := q) (t := t) (e := e) (by have := hs.pr.lo; omega)
    have hl := twinR_len (p := p) (q := q) (t := t) (e := e)
    have hbl := twinB_len (p := p) (t := t)
    have hh := twinB_head hs
    have hin := twin_in (e := e) hs
    generalize twinR p q t e = row at *
    generalize twinB p t = sec at *
    have hfl : (List.replicate (t + 1) (0 : Int)).length = t + 1 := List.length_replicate
    have i7 : ixV (.d (ti (List.replicate (t + 1) 0))) (.d (.int 0)) S.call = .ok (.d (.int 0)) S.call := ix_tup (k := 0) rfl
    have i8 : ixV (.d (ti sec)) (.d (.int 0)) S.call = .ok (.d (.int 1)) S.call := ix_tup (k := 0) (by rw [List.getElem?_map, hh]; rfl)
    generalize hfst : List.replicate (t + 1) (0 : Int) = fst at *
    have b1 : binV .add (.d (ti row)) (.d (ti fst)) S.call = .ok (.d (ti (row ++ fst))) S.call := by
      rw [bin_tup (by rw [List.length_map, List.length_map]; omega), ti, List.map_append]
    have b2 : binV .add (.d (ti (row ++ fst))) (.d (ti sec)) S.call = .ok (.d (ti (row ++ fst ++ sec))) S.call := by
      rw [bin_tup (by rw [List.length_map, List.length_map, List.length_append]; omega), ti, List.map_append]
      rw [← List.map_append, ← List.map_append]
    have hbody : ∀ (f : List Int) (a5 a7 a8 a9 : Option SV), (lwr p q row f).length ≤ e → evS (callN T (n + 5)) (hTf5 iat) [some (.d (setD p q t)), some (.d (.int e)), some (.d (.int p)), some (.d (.int q)), some (.d (.int t)), a5, some (.d (ti row)), a7, a8, a9, some (.d (ti f)), none] S.call = .ok (.next [some (.d (setD p q t)), some (.d (.int e)), some (.d (.int p)), some (.d (.int q)), some (.d (.int t)), a5, some (.d (ti row)), a7, a8, a9, some (.d (ti f)), none]) S.call := fun f a5 a7 a8 a9 hle => by
      have d2 : decide (e < (lwr p q row f).length) = false := decide_eq_false (by omega)
      unfold hTf5
      simp only [S_ife, E_cmp, E_b1]
      rw [e_lw (p := p) (q := q) (row := row) (f := f) (by omega) ?hw (fun k hk => ⟨rfl, ?hc, ?he⟩)]
      · simp [varV, d2]
      case hw => simp [varV, rng1_nat (q := q) (by omega)]
      case he => simp [Env.put, wipeE, varV]
      case hc =>
        have q := s_at (n := n + 4) (S := S.call) hat (x := (k : Int) + 1) ⟨hs.pr.lo, hs.pr.hi⟩ f
        have g : ixV (.d (ti row)) (.d (.int (k : Nat))) S.call = .ok (.d (.int row[k])) S.call := ix_tup (getI (by omega))
        simp [Env.put, wipeE, hTf4, varV, q, g, show row[k]? = some row[k] from List.getElem?_eq_getElem (by omega)]
    have el : ∀ (a5 a7 a8 a9 : Option SV), forL (⟨[ti fst, ti sec], none⟩ : Walk).chk (putT (.one 10)) (evS (callN T (n + 5)) (hTf5 iat)) [some (.d (setD p q t)), some (.d (.int e)), some (.d (.int p)), some (.d (.int q)), some (.d (.int t)), some (.d (.tup [ti row, ti fst, ti sec])), some (.d (ti row)), some (.d (ti fst)), some (.d (ti sec)), none, none, none] 0 [ti fst, ti sec] [some (.d (setD p q t)), some (.d (.int e)), some (.d (.int p)), some (.d (.int q)), some (.d (.int t)), some (.d (.tup [ti row, ti fst, ti sec])), some (.d (ti row)), some (.d (ti fst)), some (.d (ti sec)), none, none, none] S.call = .ok (.next [some (.d (setD p q t)), some (.d (.int e)), some (.d (.int p)), some (.d (.int q)), some (.d (.int t)), some (.d (.tup [ti row, ti fst, ti sec])), some (.d (ti row)), some (.d (ti fst)), some (.d (ti sec)), none, none, none]) S.call := fun a5 a7 a8 a9 => by
      refine (forL_next rfl rfl (hbody fst _ _ _ _ hf)).trans ?_
      simp only [mask_some, mask_none, mask_nil, trim_zero]
      refine (forL_next rfl rfl (hbody sec _ _ _ _ hsd)).trans ?_
      simp only [mask_some, mask_none, mask_nil, trim_zero]
      exact forL_end rfl
    rw [call_eq h rfl]
    simp [-E_lc, -S_for, hTwinsFit, varV, unpV, cut_set, puts, Env.put, mul_l (i := 2) (j := (e : Int)) (by omega) (by omega), d1, e1, hl, hfl, hbl, i7, i8]
    rw [lc_ty (enc := D.int) (l := row ++ fst ++ sec) (c := fun _ => false) (g := D.int) (v := fun a => .d (.int a)) (at_ := none) ?hw rfl ?hl (fun a ha => ⟨rfl, ?hc, fun z => nomatch z⟩)]
    case hw => simp only [W_seq, E_bin, E_var, varV, List.getElem?_cons_zero, List.getElem?_cons_succ, go_ok, rv_d, b1, b2, seq_tup]
    case hl => rw [List.length_append, List.length_append]; omega
    case hc =>
      obtain ⟨c1, c2⟩ := hin a ha
      simp [Env.put, wipeE, hTf2, varV, chain_int, c1, c2]
    rw [filter_none (fun _ _ => rfl), List.map_nil]
    have n1 := ne_new (S := S.call) (f := [])
    rw [List.map_nil] at n1
    simp [-E_lc, -S_for, varV, z0, n1]
    have ol : S.call.own.length = 0 := rfl
    simp [-E_lc, varV, z2, ol]
    rw [el none none none none]
    simp
end
end U

/-! UStr: texts, dicts with written keys, as simp sees them. -/
namespace U
open PySem
variable {T : Nat → Option FD} {n : Nat} {S : St} {C : Nat → List SV → M RV} {ρ : Env}
theorem str_inj {a b : String} (h : Str.ofString a = Str.ofString b) : a = b := by
  rw [Str.ofString_eq_toList, Str.ofString_eq_toList] at h
  injection h with h
  have h := congrArg Array.toList h
  simp at h
  have inj : ∀ (x y : List Char), x.map Char.toNat = y.map Char.toNat → x = y := by
    intro x
    induction x with
    | nil => intro y h; cases y with
      | nil => rfl
      | cons _ _ => simp at h
    | cons c x ih => intro y h; cases y with
      | nil => simp at h
      | cons d y =>
        simp only [List.map_cons, List.cons.injEq] at h
        rw [ih y h.2, Char.toNat_inj.mp h.1]
  exact String.toList_inj.mp (inj _ _ h)
theorem beq_str {a b : String} : D.beq (.str (Str.ofString a)) (.str (Str.ofString b)) = decide (a = b) := by
  by_cases h : a = b
  · rw [h, beq_self, decide_eq_true rfl]
  · rw [decide_eq_false h]
    cases e : D.beq (.str (Str.ofString a)) (.str (Str.ofString b)) with
    | false => rfl
    | true =>
      have := (D.beq_iff _ _).mp e
      injection this with this
      exact absurd (str_inj this) h
@[simp] theorem eq_str {a b : String} : cmpV .eq (.d (.str (Str.ofString a))) (.d (.str (Str.ofString b))) S = .ok (.d (.bl (decide (a = b)))) S := by
  show (match (if eqOk (.str (Str.ofString a)) (.str (Str.ofString b)) = true then some (D.beq (.str (Str.ofString a)) (.str (Str.ofString b))) else none) with
    | some b => (.ok (.d (.bl b)) S : Res RV)
    | none => .bad) = _
  rw [if_pos (show eqOk (.str (Str.ofString a)) (.str (Str.ofString b)) = true from rfl), beq_str]
@[simp] theorem ne_str {a b : String} : cmpV .ne (.d (.str (Str.ofString a))) (.d (.str (Str.ofString b))) S = .ok (.d (.bl (!decide (a = b)))) S := by
  show (match (if eqOk (.str (Str.ofString a)) (.str (Str.ofString b)) = true then some (!D.beq (.str (Str.ofString a)) (.str (Str.ofString b))) else none) with
    | some b => (.ok (.d (.bl b)) S : Res RV)
    | none => .bad) = _
  rw [if_pos (show eqOk (.str (Str.ofString a)) (.str (Str.ofString b)) = true from rfl), beq_str]
abbrev sD (a : String) : D := .str (Str.ofString a)
theorem inOk_strs (a : String) (f : List String) : inOk (sD a) (f.map sD) = true := by
  have : ((f.map sD).all fun y => scalarB y && eqOk y (sD a)) = true := by
    rw [List.all_eq_true]
    intro y hy
    obtain ⟨c, _, rfl⟩ := List.mem_map.mp hy
    rfl
  show ((true && ((f.map sD).all fun y => scalarB y && eqOk y (sD a))) || _) = true
  rw [this]
  rfl
theorem any_strs (a : String) : ∀ f : List String, ((f.map sD).any fun y => D.beq y (sD a)) = decide (a ∈ f)
  | [] => by simp
  | c :: f => by
    rw [List.map_cons, List.any_cons, any_strs a f, beq_str]
    by_cases h : a = c
    · simp [h]
    · simp [h, Ne.symm h]
theorem in_strs (a : String) (f : List String) : cmpV .in_ (.d (sD a)) (.d (.tup (f.map sD))) S = .ok (.d (.bl (decide (a ∈ f)))) S := by
  show (match (if inOk (sD a) (f.map sD) = true then some ((f.map sD).any fun y => D.beq y (sD a)) else none) with
    | some b => (.ok (.d (.bl b)) S : Res RV)
    | none => .bad) = _
  rw [if_pos (inOk_strs a f), any_strs]
theorem in_tup (a : Int) (f : List Int) : cmpV .in_ (.d (.int a)) (.d (.tup (f.map D.int))) S = .ok (.d (.bl (decide (a ∈ f)))) S := by
  show (match (if inOk (.int a) (f.map D.int) = true then some ((f.map D.int).any fun y => D.beq y (.int a)) else none) with
    | some b => (.ok (.d (.bl b)) S : Res RV)
    | none => .bad) = _
  rw [if_pos (inOk_ints a f), in_ints]
theorem ne_nil {xs : List D} (h : plainBs 19 xs = true) : cmpV .ne (.d (.lst xs)) (.new (.lst [])) S = .ok (.d (.bl (!decide (xs = [])))) S := by
  have he : eqOk (.lst xs) (.lst []) = true := by
    show ((scalarB (.lst xs) && scalarB (.lst [])) || (plainB 20 (.lst xs) && plainB 20 (.lst []))) = true
    rw [show plainB 20 (.lst xs) = true from h]
    rfl
  have hb : D.beq (.lst xs) (.lst []) = decide (xs = []) := by cases xs <;> rfl
  show (match (if eqOk (.lst xs) (.lst []) = true then some (!D.beq (.lst xs) (.lst [])) else none) with
    | some b => (.ok (.d (.bl b)) S : Res RV)
    | none => .bad) = _
  rw [if_pos he, hb]
/-! items of written tuples -/
@[simp] theorem ix_t0 {a : D} {r : List D} : ixV (.d (.tup (a :: r))) (.d (.int 0)) S = .ok (.d a) S := ix_tup (k := 0) rfl
@[simp] theorem ix_t1 {a b : D} {r : List D} : ixV (.d (.tup (a :: b :: r))) (.d (.int 1)) S = .ok (.d b) S := ix_tup (k := 1) rfl
@[simp] theorem ix_t2 {a b c : D} {r : List D} : ixV (.d (.tup (a :: b :: c :: r))) (.d (.int 2)) S = .ok (.d c) S := ix_tup (k := 2) rfl
@[simp] theorem ix_t3 {a b c d : D} {r : List D} : ixV (.d (.tup (a :: b :: c :: d :: r))) (.d (.int 3)) S = .ok (.d d) S := ix_tup (k := 3) rfl
/-! dicts with written keys -/
@[simp] theorem E_dis {ks : List Str} {vs : DE} : evE C (.dis ks vs) ρ S = (evK C vs ρ S).go fun ds S1 => if disOk ks ds = true then .ok (.d (.dic (zipK ks ds))) S1 else .bad := (rfl)
@[simp] theorem E_dgt {o k d : DE} : evE C (.dgt o k d) ρ S = (evE C o ρ S).go fun x S1 => if isDic x = true then (evE C k ρ S1).go fun y S2 => (evE C d ρ S2).go fun z S3 => (keep z S3).go fun dz S4 => lift1 (dgtV x y dz) S4 else .bad := by
  show M.bind _ _ S = _
  simp only [bind_go]
  rfl
@[simp] theorem isDic_d {kvs : List (D × D)} : isDic (.d (.dic kvs)) = true := (rfl)
@[simp] theorem dgt_d {kvs : List (D × D)} {s : Str} {dz : D} : dgtV (.d (.dic kvs)) (.d (.str s)) dz = some (.d ((lookS s kvs).getD dz)) := (rfl)
@[simp] theorem zipK_cons {k : Str} {ks : List Str} {d : D} {ds : List D} : zipK (k :: ks) (d :: ds) = (.str k, d) :: zipK ks ds := (rfl)
@[simp] theorem zipK_nil {ds : List D} : zipK [] ds = [] := by unfold zipK; cases ds <;> rfl
@[simp] theorem lookS_nil {s : Str} : lookS s [] = none := (rfl)
@[simp] theorem lookS_cons {a b : String} {d : D} {r : List (D × D)} : lookS (Str.ofString b) ((.str (Str.ofString a), d) :: r) = if a = b then some d else lookS (Str.ofString b) r := by
  show (if Str.ofString a = Str.ofString b then some d else lookS (Str.ofString b) r) = _
  by_cases h : a = b
  · rw [if_pos h, if_pos (congrArg _ h)]
  · rw [if_neg h, if_neg (fun z => h (str_inj z))]
theorem disOk_of {ks : List String} {ds : List D} (h1 : ks.Nodup) (h2 : ks.length = ds.length) (h3 : 1 ≤ ks.length) (h4 : ks.length ≤ 15) : disOk (ks.map Str.ofString) ds = true := by
  unfold disOk
  have nd : (ks.map Str.ofString).Nodup := List.Pairwise.map _ (fun a b hab z => hab (str_inj z)) h1
  rw [decide_eq_true nd, List.length_map, decide_eq_true h2, decide_eq_true h3, decide_eq_true h4]
  rfl
end U

/-! UOld: the shared defs whose trees stand in older texts (printed by lib.py). -/
namespace U
open PySem
abbrev N.power : Nat := 1
abbrev N.inverse : Nat := 2
abbrev N.value_at : Nat := 12
abbrev N.added : Nat := 13
abbrev N.scaled : Nat := 14
abbrev N.with_root : Nat := 15
abbrev N.roots_at : Nat := 16
abbrev N.bases : Nat := 18
abbrev N.through : Nat := 19
abbrev N.weights : Nat := 20
abbrev N.veil : Nat := 17
abbrev N.parties : Nat := 27
abbrev N.shares_of : Nat := 28
abbrev N.sets_of : Nat := 34
abbrev N.wrong : Nat := 35
abbrev N.readings : Nat := 36
abbrev N.most_wrong : Nat := 37
abbrev N.read : Nat := 38
abbrev N._law_cell : Nat := 3
abbrev N._law_digits : Nat := 4
abbrev N._law_draw : Nat := 5
abbrev N._law_pick : Nat := 6
abbrev N._law_same : Nat := 9
abbrev N._law_number : Nat := 7
abbrev N._law_numbers : Nat := 21
abbrev N._law_at : Nat := 22
abbrev N._law_raised : Nat := 8
abbrev N._law_inverse : Nat := 23
abbrev N._law_weights : Nat := 24
abbrev N._law_setting : Nat := 26
abbrev N._law_rows_of : Nat := 32
structure H_power (T : Nat → Option FD) (I : Nat → Nat) : Prop where
  at_ : T (I N.power) = some pPower
structure H_inverse (T : Nat → Option FD) (I : Nat → Nat) : Prop where
  at_ : T (I N.inverse) = some (pInverse (I N.power))
  power : H_power T I
structure H_value_at (T : Nat → Option FD) (I : Nat → Nat) : Prop where
  at_ : T (I N.value_at) = some pValue
structure H_added (T : Nat → Option FD) (I : Nat → Nat) : Prop where
  at_ : T (I N.added) = some pAdded
structure H_scaled (T : Nat → Option FD) (I : Nat → Nat) : Prop where
  at_ : T (I N.scaled) = some pScaled
structure H_with_root (T : Nat → Option FD) (I : Nat → Nat) : Prop where
  at_ : T (I N.with_root) = some (pWithRoot (I N.scaled) (I N.added))
  scaled : H_scaled T I
  added : H_added T I
structure H_roots_at (T : Nat → Option FD) (I : Nat → Nat) : Prop where
  at_ : T (I N.roots_at) = some (pRoots (I N.with_root))
  with_root : H_with_root T I
structure H_bases (T : Nat → Option FD) (I : Nat → Nat) : Prop where
  at_ : T (I N.bases) = some (pBases (I N.roots_at) (I N.scaled) (I N.inverse) (I N.value_at))
  roots_at : H_roots_at T I
  scaled : H_scaled T I
  inverse : H_inverse T I
  value_at : H_value_at T I
structure H_through (T : Nat → Option FD) (I : Nat → Nat) : Prop where
  at_ : T (I N.through) = some (pThrough (I N.added) (I N.scaled) (I N.bases))
  added : H_added T I
  scaled : H_scaled T I
  bases : H_bases T I
structure H_weights (T : Nat → Option FD) (I : Nat → Nat) : Prop where
  at_ : T (I N.weights) = some (pWeights (I N.value_at) (I N.bases))
  value_at : H_value_at T I
  bases : H_bases T I
structure H_veil (T : Nat → Option FD) (I : Nat → Nat) : Prop where
  at_ : T (I N.veil) = some (pVeil (I N.roots_at) (I N.scaled) (I N.inverse))
  roots_at : H_roots_at T I
  scaled : H_scaled T I
  inverse : H_inverse T I
structure H_parties (T : Nat → Option FD) (I : Nat → Nat) : Prop where
  at_ : T (I N.parties) = some pParties
structure H_shares_of (T : Nat → Option FD) (I : Nat → Nat) : Prop where
  at_ : T (I N.shares_of) = some (pSharesOf (I N.value_at) (I N.parties))
  value_at : H_value_at T I
  parties : H_parties T I
structure H_sets_of (T : Nat → Option FD) (I : Nat → Nat) : Prop where
  at_ : T (I N.sets_of) = some (pSets (I N.sets_of))
structure H_wrong (T : Nat → Option FD) (I : Nat → Nat) : Prop where
  at_ : T (I N.wrong) = some (pWrong (I N.parties) (I N.value_at))
  parties : H_parties T I
  value_at : H_value_at T I
structure H_readings (T : Nat → Option FD) (I : Nat → Nat) : Prop where
  at_ : T (I N.readings) = some (pReadings (I N.sets_of) (I N.parties) (I N.through) (I N.wrong))
  sets_of : H_sets_of T I
  parties : H_parties T I
  through : H_through T I
  wrong : H_wrong T I
structure H_most_wrong (T : Nat → Option FD) (I : Nat → Nat) : Prop where
  at_ : T (I N.most_wrong) = some pMost
structure H_read (T : Nat → Option FD) (I : Nat → Nat) : Prop where
  at_ : T (I N.read) = some (pRead (I N.readings) (I N.most_wrong))
  readings : H_readings T I
  most_wrong : H_most_wrong T I
structure H__law_cell (T : Nat → Option FD) (I : Nat → Nat) : Prop where
  at_ : T (I N._law_cell) = some hCell
structure H__law_digits (T : Nat → Option FD) (I : Nat → Nat) : Prop where
  at_ : T (I N._law_digits) = some (hDigits (I N._law_cell))
  _law_cell : H__law_cell T I
structure H__law_draw (T : Nat → Option FD) (I : Nat → Nat) : Prop where
  at_ : T (I N._law_draw) = some hDraw
structure H__law_pick (T : Nat → Option FD) (I : Nat → Nat) : Prop where
  at_ : T (I N._law_pick) = some (hPick (I N._law_draw))
  _law_draw : H__law_draw T I
structure H__law_same (T : Nat → Option FD) (I : Nat → Nat) : Prop where
  at_ : T (I N._law_same) = some hSame
structure H__law_number (T : Nat → Option FD) (I : Nat → Nat) : Prop where
  at_ : T (I N._law_number) = some (hNumber (I N._law_draw))
  _law_draw : H__law_draw T I
structure H__law_numbers (T : Nat → Option FD) (I : Nat → Nat) : Prop where
  at_ : T (I N._law_numbers) = some (hNumbers (I N._law_number))
  _law_number : H__law_number T I
structure H__law_at (T : Nat → Option FD) (I : Nat → Nat) : Prop where
  at_ : T (I N._law_at) = some hAt
structure H__law_raised (T : Nat → Option FD) (I : Nat → Nat) : Prop where
  at_ : T (I N._law_raised) = some hRaised
structure H__law_inverse (T : Nat → Option FD) (I : Nat → Nat) : Prop where
  at_ : T (I N._law_inverse) = some (hInverse (I N._law_raised))
  _law_raised : H__law_raised T I
structure H__law_weights (T : Nat → Option FD) (I : Nat → Nat) : Prop where
  at_ : T (I N._law_weights) = some (hWeights (I N._law_inverse))
  _law_inverse : H__law_inverse T I
structure H__law_setting (T : Nat → Option FD) (I : Nat → Nat) : Prop where
  at_ : T (I N._law_setting) = some (hSetting (I N._law_pick) (I N._law_draw))
  _law_pick : H__law_pick T I
  _law_draw : H__law_draw T I
structure H__law_rows_of (T : Nat → Option FD) (I : Nat → Nat) : Prop where
  at_ : T (I N._law_rows_of) = some hRowsOf
end U

/-! UTrA: trees of shared defs (printed by lib.py). -/
namespace U
open PySem
abbrev N._law_program : Nat := 49
abbrev N._law_inputs : Nat := 66
abbrev N.value_of : Nat := 61
abbrev N.values : Nat := 62
abbrev N.output_rows : Nat := 48
abbrev N.input_rows : Nat := 47
abbrev N.shown : Nat := 63
abbrev N._law_values : Nat := 67
abbrev N._law_shown : Nat := 68
abbrev N.places : Nat := 64
abbrev N.coins_of : Nat := 65
abbrev N.taken : Nat := 82
abbrev N.law_k09 : Nat := 69
def b__law_program_1 (I : Nat → Nat) : DS := (.seq (.set 11 false (.call (I N._law_draw) (.cons (.var 0) (.cons (.con (.int 13)) .nil))))
    (.seq (.set 12 false (.tup (.cons (.con (.str (Str.ofString "in"))) (.cons (.bin .add (.con (.int 1)) (.call (I N._law_draw) (.cons (.var 0) (.cons (.var 5) .nil)))) .nil))))
    (.seq (.ife (.cmp .eq (.var 11) (.con (.int 3)))
    (.set 12 false (.tup (.cons (.con (.str (Str.ofString "const"))) (.cons (.call (I N._law_number) (.cons (.var 0) (.cons (.var 4) .nil))) .nil))))
    .skip)
    (.seq (.ife (.and (.cmp .ne (.var 9) (.lst .nil)) (.cmp .in_ (.var 11) (.tup (.cons (.con (.int 4)) (.cons (.con (.int 5)) (.cons (.con (.int 12)) .nil))))))
    (.set 12 false (.tup (.cons (.con (.str (Str.ofString "kept"))) (.cons (.call (I N._law_pick) (.cons (.var 0) (.cons (.var 9) .nil))) .nil))))
    (.ife (.cmp .ne (.var 8) (.lst .nil))
    (.seq (.set 13 false (.call (I N._law_pick) (.cons (.var 0) (.cons (.var 8) .nil))))
    (.seq (.set 14 false (.call (I N._law_pick) (.cons (.var 0) (.cons (.var 8) .nil))))
    (.seq (.ife (.cmp .in_ (.var 11) (.tup (.cons (.con (.int 4)) (.cons (.con (.int 5)) (.cons (.con (.int 6)) .nil)))))
    (.set 12 false (.tup (.cons (.con (.str (Str.ofString "product"))) (.cons (.var 13) (.cons (.var 14) .nil)))))
    .skip)
    (.seq (.ife (.cmp .eq (.var 11) (.con (.int 7)))
    (.set 12 false (.tup (.cons (.con (.str (Str.ofString "sum"))) (.cons (.var 13) (.cons (.var 14) .nil)))))
    .skip)
    (.seq (.ife (.cmp .eq (.var 11) (.con (.int 8)))
    (.set 12 false (.tup (.cons (.con (.str (Str.ofString "less"))) (.cons (.var 13) (.cons (.var 14) .nil)))))
    .skip)
    (.seq (.ife (.cmp .eq (.var 11) (.con (.int 9)))
    (.set 12 false (.tup (.cons (.con (.str (Str.ofString "times"))) (.cons (.call (I N._law_number) (.cons (.var 0) (.cons (.var 4) .nil))) (.cons (.var 13) .nil)))))
    .skip)
    (.ife (.cmp .eq (.var 11) (.con (.int 10)))
    (.set 12 false (.tup (.cons (.con (.str (Str.ofString "out"))) (.cons (.var 13) (.cons (.bin .add (.con (.int 1)) (.call (I N._law_draw) (.cons (.var 0) (.cons (.var 5) .nil)))) .nil)))))
    .skip)))))))
    .skip))
    (.seq (.ife (.and (.cmp .eq (.var 11) (.con (.int 11))) (.cmp .gt (.var 3) (.con (.int 0))))
    (.seq (.set 12 false (.tup (.cons (.con (.str (Str.ofString "next"))) .nil)))
    (.seq (.set 3 false (.bin .sub (.var 3) (.con (.int 1))))
    (.seq (.set 9 false (.var 8))
    (.set 8 false (.lst .nil)))))
    (.ife (.cmp .ne (.ix (.var 12) (.con (.int 0))) (.con (.str (Str.ofString "out"))))
    (.set 8 false (.bin .add (.var 8) (.lst (.cons (.var 10) .nil))))
    .skip))
    (.expr (.m1 .append (.var 7) (.var 12))))))))
def p__law_program (I : Nat → Nat) : FD := { np := 4, ns := 15, body := (.seq (.unp [4, 5, 6] (.sl (.var 1) (.cons (.con (.int 1)) .nil) .nil))
    (.seq (.set 7 true (.lst .nil))
    (.seq (.set 8 false (.lst .nil))
    (.seq (.set 9 false (.lst .nil))
    (.seq (.for_ (.one 10) (.wk .rng1 (.bin .add (.con (.int 1)) (.call (I N._law_draw) (.cons (.var 0) (.cons (.var 2) .nil)))) .nil)
    (b__law_program_1 I))
    (.ret (.tup (.cons (.con (.str (Str.ofString "program"))) (.cons (.b1 .tuple (.var 7)) .nil))))))))) }
-- slots of _law_program: 0:_law_box 1:_law_setting_here 2:_law_most 3:_law_turns 4:_law_p 5:_law_n 6:_law_t 7:_law_rows 8:_law_wires_here 9:_law_before 10:_law_k 11:_law_kind 12:_law_row 13:_law_a 14:_law_b
structure H__law_program (T : Nat → Option FD) (I : Nat → Nat) : Prop where
  at_ : T (I N._law_program) = some (p__law_program I)
  _law_draw : H__law_draw T I
  _law_number : H__law_number T I
  _law_pick : H__law_pick T I
def c__law_inputs_1 (I : Nat → Nat) : DE := (.var 3)
def c__law_inputs_2 (I : Nat → Nat) : DE := (.cmp .eq (.ix (.var 3) (.con (.int 0))) (.con (.str (Str.ofString "in"))))
def p__law_inputs (I : Nat → Nat) : FD := { np := 3, ns := 4, body := (.ret (.call (I N._law_numbers) (.cons (.var 0) (.cons (.ix (.var 1) (.con (.int 1))) (.cons (.b1 .len (.lc (c__law_inputs_1 I) (.one 3) (.wk .seq (.ix (.var 2) (.con (.int 1))) .nil) (c__law_inputs_2 I) [3])) .nil))))) }
-- slots of _law_inputs: 0:_law_box 1:_law_setting_here 2:_law_program_here 3:_law_row
structure H__law_inputs (T : Nat → Option FD) (I : Nat → Nat) : Prop where
  at_ : T (I N._law_inputs) = some (p__law_inputs I)
  _law_numbers : H__law_numbers T I
def p_value_of (I : Nat → Nat) : FD := { np := 4, ns := 5, body := (.seq (.set 4 false (.ix (.var 1) (.con (.int 0))))
    (.seq (.ife (.cmp .eq (.var 4) (.con (.str (Str.ofString "in"))))
    (.ret (.m1 .popAt (.var 3) (.con (.int 0))))
    .skip)
    (.seq (.ife (.cmp .eq (.var 4) (.con (.str (Str.ofString "const"))))
    (.ret (.ix (.var 1) (.con (.int 1))))
    .skip)
    (.seq (.ife (.cmp .eq (.var 4) (.con (.str (Str.ofString "sum"))))
    (.ret (.bin .mod (.b1 .int (.bin .add (.ix (.var 2) (.ix (.var 1) (.con (.int 1)))) (.ix (.var 2) (.ix (.var 1) (.con (.int 2)))))) (.var 0)))
    .skip)
    (.seq (.ife (.cmp .eq (.var 4) (.con (.str (Str.ofString "less"))))
    (.ret (.bin .mod (.b1 .int (.bin .sub (.ix (.var 2) (.ix (.var 1) (.con (.int 1)))) (.ix (.var 2) (.ix (.var 1) (.con (.int 2)))))) (.var 0)))
    .skip)
    (.seq (.ife (.cmp .eq (.var 4) (.con (.str (Str.ofString "product"))))
    (.ret (.bin .mod (.b1 .int (.bin .mul (.ix (.var 2) (.ix (.var 1) (.con (.int 1)))) (.ix (.var 2) (.ix (.var 1) (.con (.int 2)))))) (.var 0)))
    .skip)
    (.seq (.ife (.cmp .eq (.var 4) (.con (.str (Str.ofString "times"))))
    (.ret (.bin .mod (.b1 .int (.bin .mul (.ix (.var 1) (.con (.int 1))) (.ix (.var 2) (.ix (.var 1) (.con (.int 2)))))) (.var 0)))
    .skip)
    (.ret (.ife (.cmp .eq (.var 4) (.con (.str (Str.ofString "kept")))) (.ix (.var 2) (.ix (.var 1) (.con (.int 1)))) (.con .non)))))))))) }
-- slots of value_of: 0:p 1:row 2:found 3:left 4:kind
structure H_value_of (T : Nat → Option FD) (I : Nat → Nat) : Prop where
  at_ : T (I N.value_of) = some (p_value_of I)
def b_values_1 (I : Nat → Nat) : DS := (.expr (.m1 .append (.var 3) (.call (I N.value_of) (.cons (.ix (.var 0) (.con (.int 1))) (.cons (.var 5) (.cons (.var 3) (.cons (.var 4) .nil)))))))
def p_values (I : Nat → Nat) : FD := { np := 3, ns := 6, body := (.seq (.set 3 true (.lst .nil))
    (.seq (.set 4 true (.b1 .list (.var 2)))
    (.seq (.for_ (.one 5) (.wk .seq (.ix (.var 1) (.con (.int 1))) .nil)
    (b_values_1 I))
    (.ret (.b1 .tuple (.var 3)))))) }
-- slots of values: 0:setting 1:program 2:inputs 3:found 4:left 5:row
structure H_values (T : Nat → Option FD) (I : Nat → Nat) : Prop where
  at_ : T (I N.values) = some (p_values I)
  value_of : H_value_of T I
def c_output_rows_1 (I : Nat → Nat) : DE := (.var 1)
def c_output_rows_2 (I : Nat → Nat) : DE := (.cmp .eq (.ix (.ix (.ix (.var 0) (.con (.int 1))) (.var 1)) (.con (.int 0))) (.con (.str (Str.ofString "out"))))
def p_output_rows (I : Nat → Nat) : FD := { np := 1, ns := 2, body := (.ret (.b1 .tuple (.lc (c_output_rows_1 I) (.one 1) (.wk .rng1 (.b1 .len (.ix (.var 0) (.con (.int 1)))) .nil) (c_output_rows_2 I) [1]))) }
-- slots of output_rows: 0:program 1:k
structure H_output_rows (T : Nat → Option FD) (I : Nat → Nat) : Prop where
  at_ : T (I N.output_rows) = some (p_output_rows I)
def c_input_rows_1 (I : Nat → Nat) : DE := (.var 1)
def c_input_rows_2 (I : Nat → Nat) : DE := (.cmp .eq (.ix (.ix (.ix (.var 0) (.con (.int 1))) (.var 1)) (.con (.int 0))) (.con (.str (Str.ofString "in"))))
def p_input_rows (I : Nat → Nat) : FD := { np := 1, ns := 2, body := (.ret (.b1 .tuple (.lc (c_input_rows_1 I) (.one 1) (.wk .rng1 (.b1 .len (.ix (.var 0) (.con (.int 1)))) .nil) (c_input_rows_2 I) [1]))) }
-- slots of input_rows: 0:program 1:k
structure H_input_rows (T : Nat → Option FD) (I : Nat → Nat) : Prop where
  at_ : T (I N.input_rows) = some (p_input_rows I)
def c_shown_1 (I : Nat → Nat) : DE := (.tup (.cons (.var 4) (.cons (.ix (.ix (.ix (.var 1) (.con (.int 1))) (.var 4)) (.con (.int 2))) (.cons (.ix (.var 3) (.ix (.ix (.ix (.var 1) (.con (.int 1))) (.var 4)) (.con (.int 1)))) .nil))))
def p_shown (I : Nat → Nat) : FD := { np := 3, ns := 5, body := (.seq (.set 3 false (.call (I N.values) (.cons (.var 0) (.cons (.var 1) (.cons (.var 2) .nil)))))
    (.ret (.b1 .tuple (.lc (c_shown_1 I) (.one 4) (.wk .seq (.call (I N.output_rows) (.cons (.var 1) .nil)) .nil) (.con (.bl true)) [4])))) }
-- slots of shown: 0:setting 1:program 2:inputs 3:found 4:k
structure H_shown (T : Nat → Option FD) (I : Nat → Nat) : Prop where
  at_ : T (I N.shown) = some (p_shown I)
  values : H_values T I
  output_rows : H_output_rows T I
def b__law_values_1 (I : Nat → Nat) : DS := (.seq (.set 7 false (.ix (.var 6) (.con (.int 0))))
    (.seq (.set 8 false (.con .non))
    (.seq (.ife (.cmp .eq (.var 7) (.con (.str (Str.ofString "in"))))
    (.seq (.set 8 false (.ix (.var 2) (.var 5)))
    (.set 5 false (.bin .add (.var 5) (.con (.int 1)))))
    (.ife (.cmp .eq (.var 7) (.con (.str (Str.ofString "const"))))
    (.set 8 false (.ix (.var 6) (.con (.int 1))))
    (.ife (.cmp .eq (.var 7) (.con (.str (Str.ofString "kept"))))
    (.set 8 false (.ix (.var 4) (.ix (.var 6) (.con (.int 1)))))
    (.ife (.cmp .eq (.var 7) (.con (.str (Str.ofString "times"))))
    (.set 8 false (.bin .mod (.b1 .int (.bin .mul (.ix (.var 6) (.con (.int 1))) (.ix (.var 4) (.ix (.var 6) (.con (.int 2)))))) (.var 3)))
    (.ife (.cmp .in_ (.var 7) (.tup (.cons (.con (.str (Str.ofString "sum"))) (.cons (.con (.str (Str.ofString "less"))) (.cons (.con (.str (Str.ofString "product"))) .nil)))))
    (.seq (.set 9 false (.ix (.var 4) (.ix (.var 6) (.con (.int 1)))))
    (.seq (.set 10 false (.ix (.var 4) (.ix (.var 6) (.con (.int 2)))))
    (.set 8 false (.bin .mod (.b1 .int (.ix (.lst (.cons (.bin .add (.var 9) (.var 10)) (.cons (.bin .sub (.var 9) (.var 10)) (.cons (.bin .mul (.var 9) (.var 10)) .nil)))) (.m1 .index (.lst (.cons (.con (.str (Str.ofString "sum"))) (.cons (.con (.str (Str.ofString "less"))) (.cons (.con (.str (Str.ofString "product"))) .nil)))) (.var 7)))) (.var 3)))))
    .skip)))))
    (.expr (.m1 .append (.var 4) (.var 8))))))
def p__law_values (I : Nat → Nat) : FD := { np := 3, ns := 11, body := (.seq (.set 3 false (.ix (.var 0) (.con (.int 1))))
    (.seq (.set 4 true (.lst .nil))
    (.seq (.set 5 false (.con (.int 0)))
    (.seq (.for_ (.one 6) (.wk .seq (.ix (.var 1) (.con (.int 1))) .nil)
    (b__law_values_1 I))
    (.ret (.var 4)))))) }
-- slots of _law_values: 0:_law_setting_here 1:_law_program_here 2:_law_inputs_here 3:_law_p 4:_law_found 5:_law_used 6:_law_row 7:_law_kind 8:_law_value 9:_law_a 10:_law_b
structure H__law_values (T : Nat → Option FD) (I : Nat → Nat) : Prop where
  at_ : T (I N._law_values) = some (p__law_values I)
def c__law_shown_1 (I : Nat → Nat) : DE := (.tup (.cons (.var 5) (.cons (.ix (.ix (.var 4) (.var 5)) (.con (.int 2))) (.cons (.ix (.var 3) (.ix (.ix (.var 4) (.var 5)) (.con (.int 1)))) .nil))))
def c__law_shown_2 (I : Nat → Nat) : DE := (.cmp .eq (.ix (.ix (.var 4) (.var 5)) (.con (.int 0))) (.con (.str (Str.ofString "out"))))
def p__law_shown (I : Nat → Nat) : FD := { np := 3, ns := 6, body := (.seq (.set 3 false (.call (I N._law_values) (.cons (.var 0) (.cons (.var 1) (.cons (.var 2) .nil)))))
    (.seq (.set 4 false (.ix (.var 1) (.con (.int 1))))
    (.ret (.b1 .tuple (.lc (c__law_shown_1 I) (.one 5) (.wk .rng1 (.b1 .len (.var 4)) .nil) (c__law_shown_2 I) [5]))))) }
-- slots of _law_shown: 0:_law_setting_here 1:_law_program_here 2:_law_inputs_here 3:_law_found 4:_law_rows 5:_law_k
structure H__law_shown (T : Nat → Option FD) (I : Nat → Nat) : Prop where
  at_ : T (I N._law_shown) = some (p__law_shown I)
  _law_values : H__law_values T I
def c_places_1 (I : Nat → Nat) : DE := (.trng false (.bin .add (.var 5) (.bin .mul (.var 3) (.var 8))) (.bin .add (.bin .add (.var 5) (.bin .mul (.var 3) (.var 8))) (.var 3)))
def b_places_2 (I : Nat → Nat) : DS := (.seq (.set 7 false (.dgt (.dis [Str.ofString "in", Str.ofString "product", Str.ofString "kept"] (.cons (.con (.int 1)) (.cons (.var 2) (.cons (.var 2) .nil)))) (.ix (.var 6) (.con (.int 0))) (.con (.int 0))))
    (.seq (.expr (.m1 .append (.var 4) (.b1 .tuple (.lc (c_places_1 I) (.one 8) (.wk .rng1 (.var 7) .nil) (.con (.bl true)) [8]))))
    (.set 5 false (.bin .add (.var 5) (.bin .mul (.var 3) (.var 7))))))
def p_places (I : Nat → Nat) : FD := { np := 2, ns := 9, body := (.seq (.unp [2, 3] (.sl (.var 0) (.cons (.con (.int 2)) .nil) .nil))
    (.seq (.set 4 true (.lst .nil))
    (.seq (.set 5 false (.con (.int 0)))
    (.seq (.for_ (.one 6) (.wk .seq (.ix (.var 1) (.con (.int 1))) .nil)
    (b_places_2 I))
    (.ret (.b1 .tuple (.var 4))))))) }
-- slots of places: 0:setting 1:program 2:n 3:t 4:found 5:at 6:row 7:many 8:k
structure H_places (T : Nat → Option FD) (I : Nat → Nat) : Prop where
  at_ : T (I N.places) = some (p_places I)
def c_coins_of_1 (I : Nat → Nat) : DE := (.bin .mul (.ix (.var 0) (.con (.int 3))) (.b1 .len (.var 2)))
def p_coins_of (I : Nat → Nat) : FD := { np := 2, ns := 3, body := (.ret (.b1 .sum (.lc (c_coins_of_1 I) (.one 2) (.wk .seq (.call (I N.places) (.cons (.var 0) (.cons (.var 1) .nil))) .nil) (.con (.bl true)) [2]))) }
-- slots of coins_of: 0:setting 1:program 2:row
structure H_coins_of (T : Nat → Option FD) (I : Nat → Nat) : Prop where
  at_ : T (I N.coins_of) = some (p_coins_of I)
  places : H_places T I
def c_taken_1 (I : Nat → Nat) : DE := (.ix (.var 0) (.var 2))
def c_taken_2 (I : Nat → Nat) : DE := (.b1 .tuple (.lc (c_taken_1 I) (.one 2) (.wk .seq (.var 3) .nil) (.con (.bl true)) [2]))
def p_taken (I : Nat → Nat) : FD := { np := 2, ns := 4, body := (.ret (.b1 .tuple (.lc (c_taken_2 I) (.one 3) (.wk .seq (.var 1) .nil) (.con (.bl true)) [3]))) }
-- slots of taken: 0:coins 1:row 2:place 3:some
structure H_taken (T : Nat → Option FD) (I : Nat → Nat) : Prop where
  at_ : T (I N.taken) = some (p_taken I)
def b_law_k09_1 (I : Nat → Nat) : DS := (.seq (.expr (.m1 .append (.var 10) (.trng false (.var 7) (.bin .add (.var 7) (.var 4)))))
    (.set 7 false (.bin .add (.var 7) (.var 4))))
def b_law_k09_2 (I : Nat → Nat) : DS := (.seq (.set 10 true (.lst .nil))
    (.seq (.for_ (.one 11) (.wk .rng1 (.dgt (.dis [Str.ofString "in", Str.ofString "product", Str.ofString "kept"] (.cons (.con (.int 1)) (.cons (.var 3) (.cons (.var 3) .nil)))) (.ix (.var 9) (.con (.int 0))) (.con (.int 0))) .nil)
    (b_law_k09_1 I))
    (.expr (.m1 .append (.var 8) (.b1 .tuple (.var 10))))))
def p_law_k09 (I : Nat → Nat) : FD := { np := 1, ns := 12, body := (.seq (.set 1 true (.lst (.cons (.call (I N._law_digits) (.cons (.var 0) (.cons (.con (.int 0)) (.cons (.con (.int 63)) .nil)))) (.cons (.con (.int 0)) .nil))))
    (.seq (.set 2 false (.call (I N._law_setting) (.cons (.var 1) .nil)))
    (.seq (.unp [3, 4] (.sl (.var 2) (.cons (.con (.int 2)) .nil) .nil))
    (.seq (.set 5 false (.call (I N._law_program) (.cons (.var 1) (.cons (.var 2) (.cons (.con (.int 30)) (.cons (.con (.int 2)) .nil))))))
    (.seq (.set 6 false (.call (I N._law_inputs) (.cons (.var 1) (.cons (.var 2) (.cons (.var 5) .nil)))))
    (.seq (.ife (.not (.call (I N._law_same) (.cons (.call (I N.values) (.cons (.var 2) (.cons (.var 5) (.cons (.var 6) .nil)))) (.cons (.b1 .tuple (.call (I N._law_values) (.cons (.var 2) (.cons (.var 5) (.cons (.var 6) .nil))))) .nil))))
    (.ret (.con (.bl false)))
    .skip)
    (.seq (.ife (.not (.call (I N._law_same) (.cons (.call (I N.shown) (.cons (.var 2) (.cons (.var 5) (.cons (.var 6) .nil)))) (.cons (.call (I N._law_shown) (.cons (.var 2) (.cons (.var 5) (.cons (.var 6) .nil)))) .nil))))
    (.ret (.con (.bl false)))
    .skip)
    (.seq (.set 7 false (.con (.int 0)))
    (.seq (.set 8 true (.lst .nil))
    (.seq (.for_ (.one 9) (.wk .seq (.ix (.var 5) (.con (.int 1))) .nil)
    (b_law_k09_2 I))
    (.ret (.and (.cmp .eq (.call (I N.coins_of) (.cons (.var 2) (.cons (.var 5) .nil))) (.var 7)) (.call (I N._law_same) (.cons (.call (I N.places) (.cons (.var 2) (.cons (.var 5) .nil))) (.cons (.b1 .tuple (.var 8)) .nil))))))))))))))) }
-- slots of law_k09: 0:_law_script 1:_law_box 2:_law_setting_here 3:_law_n 4:_law_t 5:_law_program_here 6:_law_inputs_here 7:_law_at 8:_law_due 9:_law_row 10:_law_some 11:_law_k
structure H_law_k09 (T : Nat → Option FD) (I : Nat → Nat) : Prop where
  at_ : T (I N.law_k09) = some (p_law_k09 I)
  _law_setting : H__law_setting T I
  _law_program : H__law_program T I
  _law_inputs : H__law_inputs T I
  _law_digits : H__law_digits T I
  _law_same : H__law_same T I
  values : H_values T I
  shown : H_shown T I
  _law_shown : H__law_shown T I
  coins_of : H_coins_of T I
  places : H_places T I
  _law_values : H__law_values T I
end U

set_option maxHeartbeats 1000000
/-! UProg: programs as rows; the law's draw of a program. -/
namespace U
open PySem
variable {T : Nat → Option FD} {I : Nat → Nat} {n : Nat} {S : St}
inductive Row where
  | inp (j : Nat) | cst (c : Int) | sum (a b : Nat) | less (a b : Nat) | prod (a b : Nat) | times (c : Int) (a : Nat) | out (a j : Nat) | next | kept (a : Nat)
  deriving DecidableEq, Inhabited
def Row.enc : Row → D
  | .inp j => .tup [sD "in", .int j]
  | .cst c => .tup [sD "const", .int c]
  | .sum a b => .tup [sD "sum", .int a, .int b]
  | .less a b => .tup [sD "less", .int a, .int b]
  | .prod a b => .tup [sD "product", .int a, .int b]
  | .times c a => .tup [sD "times", .int c, .int a]
  | .out a j => .tup [sD "out", .int a, .int j]
  | .next => .tup [sD "next"]
  | .kept a => .tup [sD "kept", .int a]
section
variable {a b j : Nat} {c : Int}
@[simp] theorem enc_inp : (Row.inp j).enc = .tup [sD "in", .int j] := (rfl)
@[simp] theorem enc_cst : (Row.cst c).enc = .tup [sD "const", .int c] := (rfl)
@[simp] theorem enc_sum : (Row.sum a b).enc = .tup [sD "sum", .int a, .int b] := (rfl)
@[simp] theorem enc_less : (Row.less a b).enc = .tup [sD "less", .int a, .int b] := (rfl)
@[simp] theorem enc_prod : (Row.prod a b).enc = .tup [sD "product", .int a, .int b] := (rfl)
@[simp] theorem enc_times : (Row.times c a).enc = .tup [sD "times", .int c, .int a] := (rfl)
@[simp] theorem enc_out : (Row.out a j).enc = .tup [sD "out", .int a, .int j] := (rfl)
@[simp] theorem enc_next : Row.next.enc = .tup [sD "next"] := (rfl)
@[simp] theorem enc_kept : (Row.kept a).enc = .tup [sD "kept", .int a] := (rfl)
end
def Row.wire : Row → Bool
  | .out _ _ => false
  | .next => false
  | _ => true
def Row.isNext : Row → Bool
  | .next => true
  | _ => false
def Row.isIn : Row → Bool
  | .inp _ => true
  | _ => false
def Row.isOut : Row → Bool
  | .out _ _ => true
  | _ => false
abbrev progD (rows : List Row) : D := .tup [sD "program", .tup (rows.map Row.enc)]
/-- the present epoch; that of a row -/
def epc (rows : List Row) : Nat := (rows.filter Row.isNext).length
def epo (rows : List Row) (a : Nat) : Nat := epc (rows.take (a + 1))
def Wire (rows : List Row) (e a : Nat) : Prop := ∃ r, rows[a]? = some r ∧ r.wire = true ∧ epo rows a = e
def RowOk (p q : Nat) (pre : List Row) : Row → Prop
  | .inp j => 1 ≤ j ∧ j ≤ q
  | .cst c => 0 ≤ c ∧ c < p
  | .sum a b => Wire pre (epc pre) a ∧ Wire pre (epc pre) b
  | .less a b => Wire pre (epc pre) a ∧ Wire pre (epc pre) b
  | .prod a b => Wire pre (epc pre) a ∧ Wire pre (epc pre) b
  | .times c a => (0 ≤ c ∧ c < p) ∧ Wire pre (epc pre) a
  | .out a j => Wire pre (epc pre) a ∧ 1 ≤ j ∧ j ≤ q
  | .next => True
  | .kept a => ∃ e, epc pre = e + 1 ∧ Wire pre e a
inductive Prog (p q : Nat) : List Row → Prop
  | nil : Prog p q []
  | snoc {rows : List Row} {r : Row} : Prog p q rows → RowOk p q rows r → Prog p q (rows ++ [r])
theorem Prog.at {p q : Nat} {rows : List Row} (h : Prog p q rows) : ∀ {pre : List Row} {r : Row} {suf : List Row}, rows = pre ++ r :: suf → RowOk p q pre r := by
  induction h with
  | nil => intro pre r suf e; simp at e
  | @snoc rows r' _ hr ih =>
    intro pre r suf e
    rcases List.eq_nil_or_concat suf with rfl | ⟨suf', x, rfl⟩
    · obtain ⟨h1, h2⟩ := List.append_inj' e rfl
      subst h1
      simp at h2
      subst h2
      exact hr
    · rw [List.concat_eq_append, ← List.cons_append, ← List.append_assoc] at e
      obtain ⟨h1, h2⟩ := List.append_inj' e rfl
      exact ih h1
theorem epc_snoc (rows : List Row) (r : Row) : epc (rows ++ [r]) = epc rows + if r.isNext then 1 else 0 := by
  unfold epc
  rw [List.filter_append, List.length_append]
  cases h : r.isNext <;> simp [List.filter_cons, h]
theorem epc_append (a b : List Row) : epc (a ++ b) = epc a + epc b := by
  unfold epc
  rw [List.filter_append, List.length_append]
theorem epo_snoc {rows : List Row} {r : Row} {a : Nat} (h : a < rows.length) : epo (rows ++ [r]) a = epo rows a := by
  unfold epo
  rw [List.take_append_of_le_length (by omega)]
theorem Wire.lt {rows : List Row} {e a : Nat} (h : Wire rows e a) : a < rows.length := by
  obtain ⟨r, h, _⟩ := h
  exact (List.getElem?_eq_some_iff.mp h).1
theorem Wire.snoc {rows : List Row} {r : Row} {e a : Nat} (h : Wire rows e a) : Wire (rows ++ [r]) e a := by
  have hl := h.lt
  obtain ⟨r', h1, h2, h3⟩ := h
  exact ⟨r', by rw [List.getElem?_append_left hl]; exact h1, h2, by rw [epo_snoc hl]; exact h3⟩
theorem Wire.new {rows : List Row} {r : Row} (h : r.wire = true) : Wire (rows ++ [r]) (epc (rows ++ [r])) rows.length := by
  refine ⟨r, by rw [List.getElem?_append_right (Nat.le_refl _)]; simp, h, ?_⟩
  unfold epo
  rw [List.take_of_length_le (by simp)]
/-! the draw -/
abbrev natsD (l : List Nat) : List D := l.map fun a => D.int (a : Nat)
theorem plain_nats (k : Nat) : ∀ l : List Nat, plainBs k (natsD l) = true
  | [] => by unfold plainBs; rfl
  | c :: f => by
    show (plainB k (.int c) && plainBs k (natsD f)) = true
    rw [plain_nats k f]
    cases k <;> rfl
theorem ne_nats {l : List Nat} : cmpV .ne (.d (.lst (natsD l))) (.new (.lst [])) S = .ok (.d (.bl (!decide (l = [])))) S := by
  rw [ne_nil (plain_nats 19 l)]
  simp
/-- what is known of the wires while a program is drawn -/
structure Drawn (p q : Nat) (rows : List Row) (wires before : List Nat) : Prop where
  prog : Prog p q rows
  w : ∀ a ∈ wires, Wire rows (epc rows) a
  b : ∀ a ∈ before, ∃ e, epc rows = e + 1 ∧ Wire rows e a
  lw : wires.length ≤ rows.length
  lb : before.length ≤ rows.length
theorem Drawn.add {p q : Nat} {rows : List Row} {wires before : List Nat} {r : Row} (h : Drawn p q rows wires before) (hr : RowOk p q rows r) (hn : r.isNext = false) : Drawn p q (rows ++ [r]) (if r.wire then wires ++ [rows.length] else wires) before := by
  have he : epc (rows ++ [r]) = epc rows := by rw [epc_snoc, hn]; rfl
  refine ⟨h.prog.snoc hr, fun a ha => ?_, fun a ha => ?_, ?_, by rw [List.length_append]; have := h.lb; omega⟩
  · split at ha
    · rename_i hw
      rcases List.mem_append.mp ha with ha | ha
      · rw [he]; exact (h.w a ha).snoc
      · rw [List.mem_singleton.mp ha]
        exact Wire.new hw
    · rw [he]; exact (h.w a ha).snoc
  · obtain ⟨e, h1, h2⟩ := h.b a ha
    exact ⟨e, by rw [he]; exact h1, h2.snoc⟩
  · rw [List.length_append]
    split
    · rw [List.length_append]; have := h.lw; simp; omega
    · have := h.lw; simp; omega
theorem Drawn.turn {p q : Nat} {rows : List Row} {wires before : List Nat} (h : Drawn p q rows wires before) : Drawn p q (rows ++ [.next]) [] wires := by
  refine ⟨h.prog.snoc trivial, fun a ha => (by cases ha), fun a ha => ⟨epc rows, by rw [epc_snoc]; rfl, (h.w a ha).snoc⟩, by simp, by rw [List.length_append]; have := h.lw; omega⟩
section
variable {ds : List Int} {k u j : Nat} {p q t : Nat}
/-- the body's middle: kept, or by the wires -/
def midS (I : Nat → Nat) : DS := (.ife (.and (.cmp .ne (.var 9) (.lst .nil)) (.cmp .in_ (.var 11) (.tup (.cons (.con (.int 4)) (.cons (.con (.int 5)) (.cons (.con (.int 12)) .nil))))))
    (.set 12 false (.tup (.cons (.con (.str (Str.ofString "kept"))) (.cons (.call (I N._law_pick) (.cons (.var 0) (.cons (.var 9) .nil))) .nil))))
    (.ife (.cmp .ne (.var 8) (.lst .nil))
    (.seq (.set 13 false (.call (I N._law_pick) (.cons (.var 0) (.cons (.var 8) .nil))))
    (.seq (.set 14 false (.call (I N._law_pick) (.cons (.var 0) (.cons (.var 8) .nil))))
    (.seq (.ife (.cmp .in_ (.var 11) (.tup (.cons (.con (.int 4)) (.cons (.con (.int 5)) (.cons (.con (.int 6)) .nil)))))
    (.set 12 false (.tup (.cons (.con (.str (Str.ofString "product"))) (.cons (.var 13) (.cons (.var 14) .nil)))))
    .skip)
    (.seq (.ife (.cmp .eq (.var 11) (.con (.int 7)))
    (.set 12 false (.tup (.cons (.con (.str (Str.ofString "sum"))) (.cons (.var 13) (.cons (.var 14) .nil)))))
    .skip)
    (.seq (.ife (.cmp .eq (.var 11) (.con (.int 8)))
    (.set 12 false (.tup (.cons (.con (.str (Str.ofString "less"))) (.cons (.var 13) (.cons (.var 14) .nil)))))
    .skip)
    (.seq (.ife (.cmp .eq (.var 11) (.con (.int 9)))
    (.set 12 false (.tup (.cons (.con (.str (Str.ofString "times"))) (.cons (.call (I N._law_number) (.cons (.var 0) (.cons (.var 4) .nil))) (.cons (.var 13) .nil)))))
    .skip)
    (.ife (.cmp .eq (.var 11) (.con (.int 10)))
    (.set 12 false (.tup (.cons (.con (.str (Str.ofString "out"))) (.cons (.var 13) (.cons (.bin .add (.con (.int 1)) (.call (I N._law_draw) (.cons (.var 0) (.cons (.var 5) .nil)))) .nil)))))
    .skip)))))))
    .skip))
theorem bag_bx {xs : List D} (hb : S.get u j = some (boxO ds k)) : (bagS S xs).get (u + 1) j = some (boxO ds k) := by
  rw [← hb]
  cases u <;> rfl
theorem bag_set {xs : List D} {x : LO} : (bagS S xs).set (u + 1) j x = bagS (S.set u j x) xs := by
  cases u <;> rfl
theorem mid_ok (h : H__law_program T I) (hb : S.get u j = some (boxO ds k)) (hp : 2 ≤ p) (hq : 1 ≤ q) {rows : List Row} {wires before : List Nat} (hd : Drawn p q rows wires before) {r0 : Row} (hr0 : RowOk p q rows r0) (hn0 : r0.isNext = false) {xs : List D} {a0 a1 a2 a3 a6 a10 : SV} {κ : Int} :
    ∃ (k' : Nat) (r : Row) (a13 a14 : Option SV), RowOk p q rows r ∧ r.isNext = false ∧ evS (callN T (n + 3)) (midS I) [some (.loc (u + 1) j), some a1, some a2, some a3, some (.d (.int p)), some (.d (.int q)), some a6, some (.loc 0 0), some (.d (.lst (natsD wires))), some (.d (.lst (natsD before))), some a10, some (.d (.int κ)), some (.d r0.enc), none, none] (bagS S xs) =
      .ok (.next [some (.loc (u + 1) j), some a1, some a2, some a3, some (.d (.int p)), some (.d (.int q)), some a6, some (.loc 0 0), some (.d (.lst (natsD wires))), some (.d (.lst (natsD before))), some a10, some (.d (.int κ)), some (.d r.enc), a13, a14]) (bagS (S.set u j (boxO ds k')) xs) := by
  have z0 : sz 0 = true := rfl
  have z2 : sz 2 = true := rfl
  have z3 : sz 3 = true := rfl
  have nb : ∀ S : St, cmpV .ne (.d (.lst (natsD before))) (.new (.lst [])) S = .ok (.d (.bl (!decide (before = [])))) S := fun S => ne_nats
  have nw : ∀ S : St, cmpV .ne (.d (.lst (natsD wires))) (.new (.lst [])) S = .ok (.d (.bl (!decide (wires = [])))) S := fun S => ne_nats
  have i1 : ∀ S : St, cmpV .in_ (.d (.int κ)) (.d (.tup [.int 4, .int 5, .int 12])) S = .ok (.d (.bl (decide (κ ∈ ([4, 5, 12] : List Int))))) S := fun S => in_tup κ [4, 5, 12]
  have i2 : ∀ S : St, cmpV .in_ (.d (.int κ)) (.d (.tup [.int 4, .int 5, .int 6])) S = .ok (.d (.bl (decide (κ ∈ ([4, 5, 6] : List Int))))) S := fun S => in_tup κ [4, 5, 6]
  have g0 := bag_bx (xs := xs) hb
  have set0 : S.set u j (boxO ds k) = S := set_same hb
  unfold natsD at nb nw
  generalize hA : decide (κ ∈ ([4, 5, 12] : List Int)) = A at i1
  generalize hB : decide (κ ∈ ([4, 5, 6] : List Int)) = B at i2
  by_cases hkept : before ≠ [] ∧ A = true
  · obtain ⟨x, hx, e1⟩ := s_pick (n := n + 1) h._law_pick.at_ h._law_draw.at_ g0 (natsD before) (by simpa using hkept.1)
    obtain ⟨a, ha, rfl⟩ := List.mem_map.mp hx
    rw [bag_set] at e1
    refine ⟨k + 1, .kept a, none, none, ?_, rfl, ?_⟩
    · exact hd.b a ha
    · unfold midS natsD at *
      simp [varV, nb, i1, hkept.1, hkept.2, z0, z2, z3, e1]
  · have hc : (!decide (before = [])) = false ∨ A = false := by
      by_cases hbe : before = []
      · exact .inl (by rw [hbe]; rfl)
      · exact .inr (by cases A <;> simp_all)
    have hif : ∀ (x y : Unit → Res Flow), (∀ S : St, True) → pick (!decide (before = [])) (fun _ => pick A x y) y = y () := fun x y _ => by
      rcases hc with hc | hc
      · rw [hc]; rfl
      · rw [hc]
        cases (!decide (before = [])) <;> rfl
    by_cases hw : wires = []
    · refine ⟨k, r0, none, none, hr0, hn0, ?_⟩
      rw [set0]
      unfold midS natsD at *
      rcases hc with hc | hc <;> cases hbb : decide (before = []) <;> simp [varV, nb, nw, i1, hc, hbb, hw, z0, z3] <;> simp_all
    · obtain ⟨x, hx, e1⟩ := s_pick (n := n + 1) h._law_pick.at_ h._law_draw.at_ g0 (natsD wires) (by simpa using hw)
      obtain ⟨a, ha, rfl⟩ := List.mem_map.mp hx
      rw [bag_set] at e1
      have hb1 : (S.set u j (boxO ds (k + 1))).get u j = some (boxO ds (k + 1)) := get_set hb
      obtain ⟨x, hx, e2⟩ := s_pick (n := n + 1) h._law_pick.at_ h._law_draw.at_ (bag_bx (xs := xs) hb1) (natsD wires) (by simpa using hw)
      obtain ⟨b, hb', rfl⟩ := List.mem_map.mp hx
      rw [bag_set, set_set] at e2
      have hb2 : (S.set u j (boxO ds (k + 2))).get u j = some (boxO ds (k + 2)) := get_set hb
      have e3 := s_number (n := n + 1) h._law_number.at_ h._law_draw.at_ (bag_bx (xs := xs) hb2) (p := (p : Int)) (by omega)
      have n0 := num_nn (ds := ds) (k := k + 2) (p := (p : Int)) (by omega)
      have n1 := num_lt (ds := ds) (k := k + 2) (p := (p : Int)) (by omega)
      generalize num ds (k + 2) (p : Int) = c at e3 n0 n1
      rw [bag_set, set_set] at e3
      have e4 := s_draw (n := n + 2) h._law_draw.at_ (bag_bx (xs := xs) hb2) (m := (q : Int)) (by omega)
      have d0 := drw_nn (ds := ds) (k := k + 2) (m := (q : Int)) (by omega)
      have d1 := drw_lt (ds := ds) (k := k + 2) (m := (q : Int)) (by omega)
      generalize drw ds (k + 2) (q : Int) = d at e4 d0 d1
      obtain ⟨jj, hjj⟩ : ∃ z : Nat, 1 + d = (z : Int) := ⟨(1 + d).toNat, by omega⟩
      rw [bag_set, set_set] at e4
      have wa := hd.w a ha
      have wb := hd.w b hb'
      have key : ∀ (k' : Nat) (r : Row), RowOk p q rows r → r.isNext = false → evS (callN T (n + 3)) (.seq (.ife (.cmp .in_ (.var 11) (.tup (.cons (.con (.int 4)) (.cons (.con (.int 5)) (.cons (.con (.int 6)) .nil)))))
            (.set 12 false (.tup (.cons (.con (.str (Str.ofString "product"))) (.cons (.var 13) (.cons (.var 14) .nil)))))
            .skip)
            (.seq (.ife (.cmp .eq (.var 11) (.con (.int 7)))
            (.set 12 false (.tup (.cons (.con (.str (Str.ofString "sum"))) (.cons (.var 13) (.cons (.var 14) .nil)))))
            .skip)
            (.seq (.ife (.cmp .eq (.var 11) (.con (.int 8)))
            (.set 12 false (.tup (.cons (.con (.str (Str.ofString "less"))) (.cons (.var 13) (.cons (.var 14) .nil)))))
            .skip)
            (.seq (.ife (.cmp .eq (.var 11) (.con (.int 9)))
            (.set 12 false (.tup (.cons (.con (.str (Str.ofString "times"))) (.cons (.call (I N._law_number) (.cons (.var 0) (.cons (.var 4) .nil))) (.cons (.var 13) .nil)))))
            .skip)
            (.ife (.cmp .eq (.var 11) (.con (.int 10)))
            (.set 12 false (.tup (.cons (.con (.str (Str.ofString "out"))) (.cons (.var 13) (.cons (.bin .add (.con (.int 1)) (.call (I N._law_draw) (.cons (.var 0) (.cons (.var 5) .nil)))) .nil)))))
            .skip)))))
            [some (.loc (u + 1) j), some a1, some a2, some a3, some (.d (.int p)), some (.d (.int q)), some a6, some (.loc 0 0), some (.d (.lst (natsD wires))), some (.d (.lst (natsD before))), some a10, some (.d (.int κ)), some (.d r0.enc), some (.d (.int a)), some (.d (.int b))] (bagS (S.set u j (boxO ds (k + 2))) xs) =
            .ok (.next [some (.loc (u + 1) j), some a1, some a2, some a3, some (.d (.int p)), some (.d (.int q)), some a6, some (.loc 0 0), some (.d (.lst (natsD wires))), some (.d (.lst (natsD before))), some a10, some (.d (.int κ)), some (.d r.enc), some (.d (.int a)), some (.d (.int b))]) (bagS (S.set u j (boxO ds k')) xs) →
          ∃ (k' : Nat) (r : Row) (a13 a14 : Option SV), RowOk p q rows r ∧ r.isNext = false ∧ evS (callN T (n + 3)) (midS I) [some (.loc (u + 1) j), some a1, some a2, some a3, some (.d (.int p)), some (.d (.int q)), some a6, some (.loc 0 0), some (.d (.lst (natsD wires))), some (.d (.lst (natsD before))), some a10, some (.d (.int κ)), some (.d r0.enc), none, none] (bagS S xs) =
            .ok (.next [some (.loc (u + 1) j), some a1, some a2, some a3, some (.d (.int p)), some (.d (.int q)), some a6, some (.loc 0 0), some (.d (.lst (natsD wires))), some (.d (.lst (natsD before))), some a10, some (.d (.int κ)), some (.d r.enc), a13, a14]) (bagS (S.set u j (boxO ds k')) xs) := fun k' r hr hn he => by
        refine ⟨k', r, some (.d (.int a)), some (.d (.int b)), hr, hn, ?_⟩
        unfold midS
        rw [← he]
        unfold natsD at *
        rcases hc with hc | hc <;> cases hbb : decide (before = []) <;> simp [-S_seq, varV, nb, nw, i1, hc, hbb, hw, z0, z3] <;> first | simp_all; done | (rw [S_seq, S_set]; simp [-S_seq, varV, e1]; rw [S_seq, S_set]; simp [-S_seq, varV, e2])
      by_cases c1 : B = true
      · have cc : κ = 4 ∨ κ = 5 ∨ κ = 6 := by rw [← hB] at c1; simpa using c1
        refine key (k + 2) (.prod a b) ⟨wa, wb⟩ rfl ?_
        rcases cc with rfl | rfl | rfl <;> simp [varV, i2, c1, z3]
      · have c1 : B = false := by simpa using c1
        by_cases c7 : κ = 7
        · subst c7
          refine key (k + 2) (.sum a b) ⟨wa, wb⟩ rfl ?_
          simp [varV, i2, c1, z3]
        by_cases c8 : κ = 8
        · subst c8
          refine key (k + 2) (.less a b) ⟨wa, wb⟩ rfl ?_
          simp [varV, i2, c1, z3]
        by_cases c9 : κ = 9
        · subst c9
          refine key (k + 4) (.times c a) ⟨⟨n0, n1⟩, wa⟩ rfl ?_
          simp [varV, i2, c1, z3, e3]
        by_cases c10 : κ = 10
        · subst c10
          refine key (k + 3) (.out a jj) ⟨wa, by omega⟩ rfl ?_
          simp [varV, i2, c1, z3, e4, hjj]
        · refine key (k + 2) r0 hr0 hn0 ?_
          simp [varV, i2, c1, z3, c7, c8, c9, c10]
end
end U

set_option maxHeartbeats 2000000
namespace U
open PySem
variable {T : Nat → Option FD} {I : Nat → Nat} {n : Nat} {S : St}
section
variable {ds : List Int} {k u j : Nat} {p q t : Nat}
theorem prog_body (h : H__law_program T I) (hb : S.get u j = some (boxO ds k)) (hp : 2 ≤ p) (hq : 1 ≤ q) {rows : List Row} {wires before : List Nat} (hd : Drawn p q rows wires before) {tn E : Nat} (hE : epc rows + tn ≤ E) (hrl : rows.length ≤ 1000) {a1 a2 a6 : SV} :
    ∃ (k' : Nat) (r : Row) (wires' before' : List Nat) (tn' : Nat) (a11 a12 a13 a14 : Option SV), Drawn p q (rows ++ [r]) wires' before' ∧ epc (rows ++ [r]) + tn' ≤ E ∧
      evS (callN T (n + 3)) (b__law_program_1 I) [some (.loc (u + 1) j), some a1, some a2, some (.d (.int tn)), some (.d (.int p)), some (.d (.int q)), some a6, some (.loc 0 0), some (.d (.lst (natsD wires))), some (.d (.lst (natsD before))), some (.d (.int rows.length)), none, none, none, none] (bagS S (rows.map Row.enc)) =
      .ok (.next [some (.loc (u + 1) j), some a1, some a2, some (.d (.int tn')), some (.d (.int p)), some (.d (.int q)), some a6, some (.loc 0 0), some (.d (.lst (natsD wires'))), some (.d (.lst (natsD before'))), some (.d (.int rows.length)), a11, a12, a13, a14]) (bagS (S.set u j (boxO ds k')) ((rows ++ [r]).map Row.enc)) := by
  have z0 : sz 0 = true := rfl
  have z1 : sz 1 = true := rfl
  have z2 : sz 2 = true := rfl
  have g0 := bag_bx (xs := rows.map Row.enc) hb
  have e1 := s_draw (n := n + 2) h._law_draw.at_ g0 (m := 13) (by omega)
  generalize drw ds k 13 = κ at e1
  have hb1 : (S.set u j (boxO ds (k + 1))).get u j = some (boxO ds (k + 1)) := get_set hb
  rw [bag_set] at e1
  have e2 := s_draw (n := n + 2) h._law_draw.at_ (bag_bx (xs := rows.map Row.enc) hb1) (m := (q : Int)) (by omega)
  have d0 := drw_nn (ds := ds) (k := k + 1) (m := (q : Int)) (by omega)
  have d1 := drw_lt (ds := ds) (k := k + 1) (m := (q : Int)) (by omega)
  generalize drw ds (k + 1) (q : Int) = d at e2 d0 d1
  rw [bag_set, set_set] at e2
  obtain ⟨jj, hjj⟩ : ∃ z : Nat, 1 + d = (z : Int) := ⟨(1 + d).toNat, by omega⟩
  have hb2 : (S.set u j (boxO ds (k + 2))).get u j = some (boxO ds (k + 2)) := get_set hb
  have e3 := s_number (n := n + 1) h._law_number.at_ h._law_draw.at_ (bag_bx (xs := rows.map Row.enc) hb2) (p := (p : Int)) (by omega)
  have n0 := num_nn (ds := ds) (k := k + 2) (p := (p : Int)) (by omega)
  have n1 := num_lt (ds := ds) (k := k + 2) (p := (p : Int)) (by omega)
  generalize num ds (k + 2) (p : Int) = c at e3 n0 n1
  rw [bag_set, set_set] at e3
  -- the row ahead of the middle
  obtain ⟨k2, r0, hr0, hn0, e4⟩ : ∃ (k2 : Nat) (r0 : Row), RowOk p q rows r0 ∧ r0.isNext = false ∧ evS (callN T (n + 3)) (b__law_program_1 I) [some (.loc (u + 1) j), some a1, some a2, some (.d (.int tn)), some (.d (.int p)), some (.d (.int q)), some a6, some (.loc 0 0), some (.d (.lst (natsD wires))), some (.d (.lst (natsD before))), some (.d (.int rows.length)), none, none, none, none] (bagS S (rows.map Row.enc)) =
      evS (callN T (n + 3)) (.seq (midS I) (.seq (.ife (.and (.cmp .eq (.var 11) (.con (.int 11))) (.cmp .gt (.var 3) (.con (.int 0))))
        (.seq (.set 12 false (.tup (.cons (.con (.str (Str.ofString "next"))) .nil)))
        (.seq (.set 3 false (.bin .sub (.var 3) (.con (.int 1))))
        (.seq (.set 9 false (.var 8))
        (.set 8 false (.lst .nil)))))
        (.ife (.cmp .ne (.ix (.var 12) (.con (.int 0))) (.con (.str (Str.ofString "out"))))
        (.set 8 false (.bin .add (.var 8) (.lst (.cons (.var 10) .nil))))
        .skip))
        (.expr (.m1 .append (.var 7) (.var 12))))) [some (.loc (u + 1) j), some a1, some a2, some (.d (.int tn)), some (.d (.int p)), some (.d (.int q)), some a6, some (.loc 0 0), some (.d (.lst (natsD wires))), some (.d (.lst (natsD before))), some (.d (.int rows.length)), some (.d (.int κ)), some (.d r0.enc), none, none] (bagS (S.set u j (boxO ds k2)) (rows.map Row.enc)) := by
    by_cases c3 : κ = 3
    · subst c3
      refine ⟨k + 4, .cst c, ⟨n0, n1⟩, rfl, ?_⟩
      unfold b__law_program_1
      rw [S_seq, S_set]; simp [-S_seq, varV, e1]
      rw [S_seq, S_set]; simp [-S_seq, varV, z2, e2, hjj]
      rw [S_seq, S_ife]; simp [-S_seq, varV, z2, e3]
      rfl
    · refine ⟨k + 2, .inp jj, ⟨by omega, by omega⟩, rfl, ?_⟩
      unfold b__law_program_1
      rw [S_seq, S_set]; simp [-S_seq, varV, e1]
      rw [S_seq, S_set]; simp [-S_seq, varV, z2, e2, hjj]
      rw [S_seq, S_ife]; simp [-S_seq, varV, c3]
      rfl
  have hb3 : (S.set u j (boxO ds k2)).get u j = some (boxO ds k2) := get_set hb
  obtain ⟨k3, r, a13, a14, hr, hn, e5⟩ := mid_ok (n := n) (a0 := a1) h hb3 hp hq hd hr0 hn0 (xs := rows.map Row.enc) (a1 := a1) (a2 := a2) (a3 := .d (.int tn)) (a6 := a6) (a10 := .d (.int rows.length)) (κ := κ)
  rw [set_set] at e5
  have ap := fun (x : Row) => bag_app (S0 := S.set u j (boxO ds k3)) (xs := rows.map Row.enc) (d := x.enc) (by rw [List.length_map]; omega)
  have hmap : ∀ x : Row, rows.map Row.enc ++ [x.enc] = (rows ++ [x]).map Row.enc := fun x => by rw [List.map_append]; rfl
  simp only [hmap] at ap
  by_cases hnx : κ = 11 ∧ 0 < tn
  · obtain ⟨c11, ht⟩ := hnx
    subst c11
    refine ⟨k3, .next, [], wires, tn - 1, some (.d (.int 11)), some (.d Row.next.enc), a13, a14, hd.turn, by rw [epc_snoc]; show epc rows + 1 + (tn - 1) ≤ E; omega, ?_⟩
    rw [e4, S_seq, e5]
    have hcast : (tn : Int) - 1 = ((tn - 1 : Nat) : Int) := by omega
    have apn := ap .next
    rw [enc_next] at apn
    simp [varV, ht, z0, z1, hcast, bag_recv, apn]
  · have hpick : ∀ (x y : Unit → Res Flow), pick (decide (κ = 11)) (fun _ => pick (decide (0 < tn)) x y) y = y () := fun x y => by
      by_cases c11 : κ = 11
      · have : ¬ 0 < tn := fun z => hnx ⟨c11, z⟩
        simp [c11, this]
      · simp [c11]
    have hw' := hd.add hr hn
    refine ⟨k3, r, if r.wire then wires ++ [rows.length] else wires, before, tn, some (.d (.int κ)), some (.d r.enc), a13, a14, hw', by rw [epc_snoc, hn]; simpa using hE, ?_⟩
    have bl : ∀ S : St, binV .add (.d (.lst (natsD wires))) (.new (.lst [.int rows.length])) S = .ok (.new (.lst (natsD (wires ++ [rows.length])))) S := fun S => by
      rw [bin_lst (s := natsD wires) (t := [.int rows.length]) (by have := hd.lw; simp [natsD]; omega) rfl rfl]
      simp [natsD]
    have apr := ap r
    rw [e4, S_seq, e5]
    have tail : ∀ (w' : List Nat), flowGo (Res.ok (.next [some (.loc (u + 1) j), some a1, some a2, some (.d (.int tn)), some (.d (.int p)), some (.d (.int q)), some a6, some (.loc 0 0), some (.d (.lst (natsD w'))), some (.d (.lst (natsD before))), some (.d (.int rows.length)), some (.d (.int κ)), some (.d r.enc), a13, a14]) (bagS (S.set u j (boxO ds k3)) (rows.map Row.enc))) (fun ρ1 S1 => evS (callN T (n + 3)) (.expr (.m1 .append (.var 7) (.var 12))) ρ1 S1) = .ok (.next [some (.loc (u + 1) j), some a1, some a2, some (.d (.int tn)), some (.d (.int p)), some (.d (.int q)), some a6, some (.loc 0 0), some (.d (.lst (natsD w'))), some (.d (.lst (natsD before))), some (.d (.int rows.length)), some (.d (.int κ)), some (.d r.enc), a13, a14]) (bagS (S.set u j (boxO ds k3)) ((rows ++ [r]).map Row.enc)) := fun w' => by
      rw [fg_next, S_expr]
      simp only [E_m1, E_var, varV, List.getElem?_cons_succ, List.getElem?_cons_zero, go_ok, rv_loc, bag_recv, if_true, rv_d, hold_locR]
      rw [apr, go_ok]
    have head : evS (callN T (n + 3)) (.ife (.and (.cmp .eq (.var 11) (.con (.int 11))) (.cmp .gt (.var 3) (.con (.int 0))))
        (.seq (.set 12 false (.tup (.cons (.con (.str (Str.ofString "next"))) .nil)))
        (.seq (.set 3 false (.bin .sub (.var 3) (.con (.int 1))))
        (.seq (.set 9 false (.var 8))
        (.set 8 false (.lst .nil)))))
        (.ife (.cmp .ne (.ix (.var 12) (.con (.int 0))) (.con (.str (Str.ofString "out"))))
        (.set 8 false (.bin .add (.var 8) (.lst (.cons (.var 10) .nil))))
        .skip)) [some (.loc (u + 1) j), some a1, some a2, some (.d (.int tn)), some (.d (.int p)), some (.d (.int q)), some a6, some (.loc 0 0), some (.d (.lst (natsD wires))), some (.d (.lst (natsD before))), some (.d (.int rows.length)), some (.d (.int κ)), some (.d r.enc), a13, a14] (bagS (S.set u j (boxO ds k3)) (rows.map Row.enc)) =
        .ok (.next [some (.loc (u + 1) j), some a1, some a2, some (.d (.int tn)), some (.d (.int p)), some (.d (.int q)), some a6, some (.loc 0 0), some (.d (.lst (natsD (if r.wire then wires ++ [rows.length] else wires)))), some (.d (.lst (natsD before))), some (.d (.int rows.length)), some (.d (.int κ)), some (.d r.enc), a13, a14]) (bagS (S.set u j (boxO ds k3)) (rows.map Row.enc)) := by
      rw [S_ife, E_and]
      simp only [E_cmp, E_var, E_con, varV, List.getElem?_cons_succ, List.getElem?_cons_zero, go_ok, rv_d, cmp_int, cop_eq, cop_gt, tr_bl]
      by_cases c11 : κ = 11
      · have ht : ¬ 0 < tn := fun z => hnx ⟨c11, z⟩
        subst c11
        cases r <;> simp [varV, ht, z1, bl, Row.wire] <;> first | (simp [Row.isNext] at hn; done) | skip
      · cases r <;> simp [varV, c11, z1, bl, Row.wire] <;> first | (simp [Row.isNext] at hn; done) | skip
    rw [fg_next, S_seq, head]
    exact tail _
theorem prog_loop (h : H__law_program T I) (hp : 2 ≤ p) (hq : 1 ≤ q) {E m : Nat} (hm : m ≤ 1000) {a1 a2 a6 : SV} {q3 q8 q9 : SV} : ∀ (c : Nat) (rows : List Row) (wires before : List Nat) (tn : Nat) (S : St) (k : Nat), S.get u j = some (boxO ds k) → Drawn p q rows wires before → epc rows + tn ≤ E → rows.length + c = m →
    ∃ (k' : Nat) (rows' : List Row) (wires' before' : List Nat) (tn' : Nat), Drawn p q rows' wires' before' ∧ epc rows' + tn' ≤ E ∧ rows'.length = m ∧
      forL (fun _ => true) (putT (.one 10)) (evS (callN T (n + 3)) (b__law_program_1 I)) [some (.loc (u + 1) j), some a1, some a2, some q3, some (.d (.int p)), some (.d (.int q)), some a6, some (.loc 0 0), some q8, some q9, none, none, none, none, none] 1 (rngUp rows.length c) [some (.loc (u + 1) j), some a1, some a2, some (.d (.int tn)), some (.d (.int p)), some (.d (.int q)), some a6, some (.loc 0 0), some (.d (.lst (natsD wires))), some (.d (.lst (natsD before))), none, none, none, none, none] (bagS S (rows.map Row.enc)) =
      .ok (.next [some (.loc (u + 1) j), some a1, some a2, some (.d (.int tn')), some (.d (.int p)), some (.d (.int q)), some a6, some (.loc 0 0), some (.d (.lst (natsD wires'))), some (.d (.lst (natsD before'))), none, none, none, none, none]) (bagS (S.set u j (boxO ds k')) (rows'.map Row.enc))
  | 0, rows, wires, before, tn, S, k, hb, hd, hE, hl => ⟨k, rows, wires, before, tn, hd, hE, by omega, by
    rw [set_same hb]
    exact forL_end rfl⟩
  | c + 1, rows, wires, before, tn, S, k, hb, hd, hE, hl => by
    obtain ⟨k1, r, w1, b1, t1, x11, x12, x13, x14, hd1, hE1, e1⟩ := prog_body (n := n) h hb hp hq hd hE (by omega) (a1 := a1) (a2 := a2) (a6 := a6)
    obtain ⟨k2, rows', w2, b2, t2, hd2, hE2, hl2, e2⟩ := prog_loop h hp hq hm (a1 := a1) (a2 := a2) (a6 := a6) (q3 := q3) (q8 := q8) (q9 := q9) c (rows ++ [r]) w1 b1 t1 (S.set u j (boxO ds k1)) k1 (get_set hb) hd1 hE1 (by rw [List.length_append]; simp; omega)
    refine ⟨k2, rows', w2, b2, t2, hd2, hE2, hl2, ?_⟩
    rw [set_set] at e2
    rw [show rngUp (rows.length : Int) (c + 1) = .int (rows.length : Nat) :: rngUp ((rows.length : Int) + 1) c from rfl]
    refine (forL_next rfl (by rfl) e1).trans ?_
    simp only [mask_some, mask_none, mask_nil]
    rw [ownFree_take (n := 1) rfl, show (rows.length : Int) + 1 = ((rows ++ [r]).length : Nat) by rw [List.length_append]; rfl]
    exact e2
theorem s_program (h : H__law_program T I) (hb : S.get u j = some (boxO ds k)) (hs : SetOk p q t) {most turns : Nat} (hm : 1 ≤ most) (hm2 : most ≤ 1000) :
    ∃ (k' : Nat) (rows : List Row), Prog p q rows ∧ 1 ≤ rows.length ∧ rows.length ≤ most ∧ epc rows ≤ turns ∧
      callN T (n + 4) (I N._law_program) [.loc u j, .d (setD p q t), .d (.int most), .d (.int turns)] S = .ok (.d (progD rows)) (S.set u j (boxO ds k')) := by
  have g0 : (bagS S []).get (u + 1) j = some (boxO ds k) := bag_bx hb
  have e1 := s_draw (n := n + 2) h._law_draw.at_ g0 (m := (most : Int)) (by omega)
  have d0 := drw_nn (ds := ds) (k := k) (m := (most : Int)) (by omega)
  have d1 := drw_lt (ds := ds) (k := k) (m := (most : Int)) (by omega)
  generalize drw ds k (most : Int) = d at e1 d0 d1
  rw [bag_set] at e1
  obtain ⟨m, hmm⟩ : ∃ z : Nat, 1 + d = (z : Int) := ⟨(1 + d).toNat, by omega⟩
  have plo := hs.pr.lo
  obtain ⟨k2, rows, w, b, tn, hd, hE, hl, e2⟩ := prog_loop (n := n) (p := p) (q := q) h (by omega) hs.q1 (E := turns) (m := m) (by omega) (a1 := .d (setD p q t)) (a2 := .d (.int most)) (a6 := .d (.int t)) (q3 := .d (.int turns)) (q8 := .d (.lst [])) (q9 := .d (.lst [])) m [] [] [] turns (S.set u j (boxO ds (k + 1))) (k + 1) (get_set hb) ⟨.nil, fun a ha => (by cases ha), fun a ha => (by cases ha), by simp, by simp⟩ (by simp [epc]) (by simp)
  rw [set_set] at e2
  refine ⟨k2, rows, hd.prog, by omega, by omega, by omega, ?_⟩
  have z0 : sz 0 = true := rfl
  have z2 : sz 2 = true := rfl
  have er := rng1_int (S := bagS (S.set u j (boxO ds (k + 1))) []) (j := (m : Int)) (by omega) (by omega)
  have e2' : forL (⟨rngUp 0 m, none⟩ : Walk).chk (putT (.one 10)) (evS (callN T (n + 3)) (b__law_program_1 I)) _ 1 (rngUp 0 m) _ (bagS (S.set u j (boxO ds (k + 1))) []) = _ := e2
  have hb0 : (⟨[⟨false, .lst []⟩], S.own :: S.out, S.gl⟩ : St) = bagS S [] := rfl
  have ol : (bagS (S.set u j (boxO ds (k + 1))) []).own.length = 1 := rfl
  have et := tuple_loc (S := bagS (S.set u j (boxO ds k2)) (rows.map Row.enc)) (u := 0) (l := 0) (z := false) (ds := rows.map Row.enc) rfl
  simp only [natsD, List.map_nil] at e2'
  rw [call_eq h.at_ rfl]
  simp [p__law_program, varV, unpV, cut_set, puts, Env.put, z0, z2, St.call, hb0, e1, hmm, er, ol, e2', et]
  rfl
end
end U

set_option maxHeartbeats 2000000
/-! UVal: plain values. -/
namespace U
open PySem
variable {T : Nat → Option FD} {I : Nat → Nat} {n : Nat} {S : St}
def od : Option Int → D
  | none => .non
  | some v => .int v
@[simp] theorem od_some {v : Int} : od (some v) = .int v := (rfl)
@[simp] theorem od_none : od none = .non := (rfl)
def gv (found : List (Option Int)) (a : Nat) : Int := ((found[a]?).getD none).getD 0
def rowVal (p : Int) (found : List (Option Int)) (left : List Int) : Row → Option Int
  | .inp _ => some (left.headD 0)
  | .cst c => some c
  | .sum a b => some ((gv found a + gv found b) % p)
  | .less a b => some ((gv found a - gv found b) % p)
  | .prod a b => some ((gv found a * gv found b) % p)
  | .times c a => some ((c * gv found a) % p)
  | .kept a => some (gv found a)
  | _ => none
def vstep (p : Int) (st : List (Option Int) × List Int) (r : Row) : List (Option Int) × List Int := (st.1 ++ [rowVal p st.1 st.2 r], if r.isIn then st.2.tail else st.2)
def valsV (p : Int) (inputs : List Int) (rows : List Row) : List (Option Int) := (rows.foldl (vstep p) ([], inputs)).1
def nIn (rows : List Row) : Nat := (rows.filter Row.isIn).length
/-- what holds while values are reckoned -/
structure VI (p q : Nat) (pre suf : List Row) (st : List (Option Int) × List Int) : Prop where
  prog : Prog p q (pre ++ suf)
  len : st.1.length = pre.length
  wire : ∀ (a : Nat) (r : Row), pre[a]? = some r → r.wire = true → ∃ v, st.1[a]? = some (some v) ∧ 0 ≤ v ∧ v < p
  inr : InR p st.2
  left : st.2.length = nIn suf
theorem VI.gv {p q : Nat} {pre suf : List Row} {st : List (Option Int) × List Int} (h : VI p q pre suf st) {e a : Nat} (hw : Wire pre e a) : st.1[a]? = some (some (gv st.1 a)) ∧ 0 ≤ gv st.1 a ∧ gv st.1 a < p := by
  obtain ⟨r, h1, h2, _⟩ := hw
  obtain ⟨v, h3, h4, h5⟩ := h.wire a r h1 h2
  have : U.gv st.1 a = v := by unfold U.gv; rw [h3]; rfl
  rw [this]
  exact ⟨h3, h4, h5⟩
theorem VI.val {p q : Nat} {pre suf : List Row} {r : Row} {st : List (Option Int) × List Int} (h : VI p q pre (r :: suf) st) (hw : r.wire = true) : ∃ v, rowVal p st.1 st.2 r = some v ∧ 0 ≤ v ∧ v < p := by
  have hr := h.prog.at rfl
  cases r with
  | inp j =>
    have hl := h.left
    have : 0 < st.2.length := by rw [hl]; simp [nIn, List.filter_cons, Row.isIn]
    cases hs : st.2 with
    | nil => rw [hs] at this; simp at this
    | cons x xs => exact ⟨x, rfl, h.inr x (by rw [hs]; simp)⟩
  | cst c => exact ⟨c, rfl, hr⟩
  | sum a b =>
    have p0 : (0 : Int) < p := by have := (h.gv hr.1).2; omega
    exact ⟨_, rfl, mod_nn p0, mod_lt p0⟩
  | less a b =>
    have p0 : (0 : Int) < p := by have := (h.gv hr.1).2; omega
    exact ⟨_, rfl, mod_nn p0, mod_lt p0⟩
  | prod a b =>
    have p0 : (0 : Int) < p := by have := (h.gv hr.1).2; omega
    exact ⟨_, rfl, mod_nn p0, mod_lt p0⟩
  | times c a =>
    have p0 : (0 : Int) < p := by have := (h.gv hr.2).2; omega
    exact ⟨_, rfl, mod_nn p0, mod_lt p0⟩
  | kept a =>
    obtain ⟨e, _, hw⟩ := hr
    exact ⟨_, rfl, (h.gv hw).2⟩
  | out _ _ => simp [Row.wire] at hw
  | next => simp [Row.wire] at hw
theorem VI.step {p q : Nat} {pre suf : List Row} {r : Row} {st : List (Option Int) × List Int} (h : VI p q pre (r :: suf) st) : VI p q (pre ++ [r]) suf (vstep p st r) := by
  refine ⟨by rw [List.append_assoc]; exact h.prog, by unfold vstep; rw [List.length_append, List.length_append, h.len]; rfl, fun a r' ha hw => ?_, fun c hc => ?_, ?_⟩
  · unfold vstep
    by_cases hl : a < pre.length
    · rw [List.getElem?_append_left hl] at ha
      obtain ⟨v, h1, h2⟩ := h.wire a r' ha hw
      exact ⟨v, by rw [List.getElem?_append_left (by rw [h.len]; exact hl)]; exact h1, h2⟩
    · have hl2 : a = pre.length := by
        have := (List.getElem?_eq_some_iff.mp ha).1
        rw [List.length_append] at this
        simp at this
        omega
      subst hl2
      rw [List.getElem?_append_right (Nat.le_refl _)] at ha
      simp at ha
      subst ha
      obtain ⟨v, h1, h2⟩ := h.val hw
      exact ⟨v, by rw [List.getElem?_append_right (by rw [h.len]; exact Nat.le_refl _), h.len, h1]; simp, h2⟩
  · unfold vstep at hc
    dsimp only at hc
    split at hc
    · exact h.inr c (List.mem_of_mem_tail hc)
    · exact h.inr c hc
  · have := h.left
    unfold vstep nIn at *
    rw [List.filter_cons] at this
    cases hi : r.isIn with
    | true =>
      rw [hi] at this
      simp at this
      simp [this]
    | false =>
      rw [hi] at this
      simpa using this
theorem pop0 {u i : Nat} {x : D} {xs : List D} (h : S.get u i = some ⟨false, .lst (x :: xs)⟩) : meth1 .popAt (.loc u i) (.d (.int 0)) S = .ok (.d x) (S.set u i ⟨false, .lst xs⟩) := by
  have e : ixN (x :: xs).length 0 = some 0 := ixN_nat (n := (x :: xs).length) (k := 0) (by simp)
  unfold meth1
  dsimp only
  rw [h]
  dsimp only
  rw [if_pos (by decide), e]
  rfl
section
variable {p q : Nat} {pre suf : List Row} {st : List (Option Int) × List Int} {u1 i1 u2 i2 : Nat}
theorem s_valueof (hT : H_value_of T I) {r : Row} (h : VI p q pre (r :: suf) st) (hp : 2 ≤ p ∧ p ≤ 1000000) (g1 : S.get u1 i1 = some ⟨false, .lst (st.1.map od)⟩) (g2 : S.get u2 i2 = some ⟨false, .lst (st.2.map D.int)⟩) :
    callN T (n + 1) (I N.value_of) [.d (.int p), .d r.enc, .loc u1 i1, .loc u2 i2] S = .ok (.d (od (rowVal p st.1 st.2 r))) (S.set u2 i2 ⟨false, .lst ((vstep p st r).2.map D.int)⟩) := by
  have hr := h.prog.at rfl
  have k1 : S.call.get (u1 + 1) i1 = some ⟨false, .lst (st.1.map od)⟩ := by rw [call_get]; exact g1
  have k2 : S.call.get (u2 + 1) i2 = some ⟨false, .lst (st.2.map D.int)⟩ := by rw [call_get]; exact g2
  have gx : ∀ {e a : Nat}, Wire pre e a → ixV (.loc (u1 + 1) i1) (.d (.int (a : Nat))) S.call = .ok (.d (.int (gv st.1 a))) S.call := fun {e a} hw => by
    refine ix_loc k1 ?_
    rw [List.getElem?_map, (h.gv hw).1]
    rfl
  have same : r.isIn = false → S.set u2 i2 ⟨false, .lst ((vstep p st r).2.map D.int)⟩ = S := fun hi => by
    unfold vstep
    rw [hi]
    exact set_same g2
  rw [call_eq hT.at_ rfl]
  cases r with
  | inp j =>
    have : 0 < st.2.length := by rw [h.left]; simp [nIn, List.filter_cons, Row.isIn]
    obtain ⟨f0, l0⟩ := st
    cases l0 with
    | nil => simp at this
    | cons x xs =>
      have er := recv_loc (m := .popAt) (by simp) k2
      have ep := pop0 (x := .int x) (xs := xs.map D.int) k2
      rw [call_set] at ep
      simp [p_value_of, varV, er, ep, rowVal, vstep, Row.isIn]
  | cst c =>
    rw [same rfl]
    simp [p_value_of, varV, rowVal]
  | sum a b =>
    rw [same rfl]
    simp [p_value_of, varV, rowVal, gx hr.1, gx hr.2, bop_mod (j := (p : Int)) (by omega)]
  | less a b =>
    rw [same rfl]
    simp [p_value_of, varV, rowVal, gx hr.1, gx hr.2, bop_mod (j := (p : Int)) (by omega)]
  | prod a b =>
    rw [same rfl]
    have w1 := (h.gv hr.1).2
    simp [p_value_of, varV, rowVal, gx hr.1, gx hr.2, mul_l (i := gv st.1 a) (j := gv st.1 b) (by omega) (by omega), bop_mod (j := (p : Int)) (by omega)]
  | times c a =>
    rw [same rfl]
    have hc := hr.1
    simp [p_value_of, varV, rowVal, gx hr.2, mul_l (i := c) (j := gv st.1 a) (by omega) (by omega), bop_mod (j := (p : Int)) (by omega)]
  | out a j =>
    rw [same rfl]
    simp [p_value_of, varV, rowVal]
  | next =>
    rw [same rfl]
    simp [p_value_of, varV, rowVal]
  | kept a =>
    obtain ⟨e, _, hw⟩ := hr
    rw [same rfl]
    simp [p_value_of, varV, rowVal, gx hw]
end
/-- two lists of a frame -/
def bag2 (S0 : St) (xs ys : List D) : St := ⟨[⟨false, .lst xs⟩, ⟨false, .lst ys⟩], S0.own :: S0.out, S0.gl⟩
theorem s_values (hT : H_values T I) {p q t : Nat} (hs : SetOk p q t) {rows : List Row} (hP : Prog p q rows) (hl : rows.length ≤ 1000) {inputs : List Int} (hi : InR p inputs) (hn : inputs.length = nIn rows) :
    callN T (n + 2) (I N.values) [.d (setD p q t), .d (progD rows), .d (ti inputs)] S = .ok (.d (.tup ((valsV p inputs rows).map od))) S := by
  have plo := hs.pr.lo
  have phi := hs.hp
  have el := forL_fold (enc := Row.enc) (chk := (⟨rows.map Row.enc, none⟩ : Walk).chk) (put := putT (.one 5)) (body := evS (callN T (n + 1)) (b_values_1 I)) (n0 := 2)
    (ρ0 := [some (.d (setD p q t)), some (.d (progD rows)), some (.d (ti inputs)), some (.loc 0 0), some (.loc 0 1), none])
    (fun _ => [some (.d (setD p q t)), some (.d (progD rows)), some (.d (ti inputs)), some (.loc 0 0), some (.loc 0 1), none]) (fun st => bag2 S (st.1.map od) (st.2.map D.int)) (vstep p)
    (fun l st => ∃ pre, VI p q pre l st ∧ pre.length + l.length ≤ 1000)
    (fun r l st hi => by
      obtain ⟨pre, hv, hlen⟩ := hi
      rw [List.length_cons] at hlen
      have e1 := s_valueof (n := n) (S := bag2 S (st.1.map od) (st.2.map D.int)) hT.value_of hv (by omega) (u1 := 0) (i1 := 0) (u2 := 0) (i2 := 1) rfl rfl
      refine ⟨rfl, _, [some (.d (setD p q t)), some (.d (progD rows)), some (.d (ti inputs)), some (.loc 0 0), some (.loc 0 1), some (.d r.enc)], bag2 S ((vstep p st r).1.map od) ((vstep p st r).2.map D.int), rfl, ?_, rfl, ownFree_take rfl, pre ++ [r], hv.step, by rw [List.length_append]; simp; omega⟩
      have er : recvOk .append (view (bag2 S (st.1.map od) (st.2.map D.int)) (.loc 0 0)) = true := recv_loc (ds := st.1.map od) (z := false) (by simp) rfl
      have ea : meth1 .append (.loc 0 0) (.d (od (rowVal p st.1 st.2 r))) ((bag2 S (st.1.map od) (st.2.map D.int)).set 0 1 ⟨false, .lst ((vstep p st r).2.map D.int)⟩) = .ok (.d .non) (bag2 S ((vstep p st r).1.map od) ((vstep p st r).2.map D.int)) := by
        rw [app_d (u := 0) (i := 0) (ds := st.1.map od) rfl (by rw [List.length_map, hv.len]; omega)]
        unfold vstep
        rw [List.map_append]
        rfl
      simp [Env.put, b_values_1, varV, er, set_ix1, e1, ea])
    (fun s _ => rfl) rows ([], inputs) ⟨[], ⟨hP, rfl, fun a r h => (by simp at h), hi, hn⟩, by simpa using hl⟩
  have e1 := el.1
  have hb0 : (⟨[⟨false, .lst []⟩, ⟨false, .lst (inputs.map D.int)⟩], S.own :: S.out, S.gl⟩ : St) = bag2 S [] (inputs.map D.int) := rfl
  have ol : (bag2 S [] (inputs.map D.int)).own.length = 2 := rfl
  simp only [List.map_nil] at e1
  have z0 : sz 0 = true := rfl
  rw [call_eq hT.at_ rfl]
  simp [-b1_list_tup, p_values, varV, z0, St.call, hb0, ol]
  simp [hb0, ol, varV, e1]
  rw [tuple_loc (ds := (rows.foldl (vstep p) ([], inputs)).1.map od) (z := false) rfl]
  rfl
end U

set_option maxHeartbeats 2000000
namespace U
open PySem
variable {T : Nat → Option FD} {I : Nat → Nat} {n : Nat} {S : St}
/-! the law's values -/
theorem idx_strs {fs : List String} {a : String} {k : Nat} (h : idxOf (sD a) (fs.map sD) = some k) : meth1 .index (.d (.lst (fs.map sD))) (.d (sD a)) S = .ok (.d (.int k)) S := by
  have h1 : (scalarB (sD a) && (fs.map sD).all fun y => scalarB y && eqOk y (sD a)) = true := by
    have : ((fs.map sD).all fun y => scalarB y && eqOk y (sD a)) = true := by
      rw [List.all_eq_true]
      intro y hy
      obtain ⟨c, _, rfl⟩ := List.mem_map.mp hy
      rfl
    rw [this]
    rfl
  show (match view S (.d (.lst (fs.map sD))), view S (.d (sD a)) with
    | some (.lst ds), some x => if (scalarB x && ds.all fun y => scalarB y && eqOk y x) = true then (match idxOf x ds with
      | some k => (.ok (.d (.int k)) S : Res RV)
      | none => .bad)
      else .bad
    | _, _ => .bad) = _
  show (if (scalarB (sD a) && (fs.map sD).all fun y => scalarB y && eqOk y (sD a)) = true then (match idxOf (sD a) (fs.map sD) with
      | some k => (.ok (.d (.int k)) S : Res RV)
      | none => .bad)
      else .bad) = _
  rw [if_pos h1, h]
theorem idx_a : meth1 .index (.d (.lst [sD "sum", sD "less", sD "product"])) (.d (sD "sum")) S = .ok (.d (.int 0)) S := idx_strs (fs := ["sum", "less", "product"]) (k := 0) (by simp [idxOf, beq_str])
theorem idx_b : meth1 .index (.d (.lst [sD "sum", sD "less", sD "product"])) (.d (sD "less")) S = .ok (.d (.int 1)) S := idx_strs (fs := ["sum", "less", "product"]) (k := 1) (by simp [idxOf, beq_str])
theorem idx_c : meth1 .index (.d (.lst [sD "sum", sD "less", sD "product"])) (.d (sD "product")) S = .ok (.d (.int 2)) S := idx_strs (fs := ["sum", "less", "product"]) (k := 2) (by simp [idxOf, beq_str])
theorem in_str7 (a : String) : cmpV .in_ (.d (sD a)) (.d (.tup [sD "sum", sD "less", sD "product"])) S = .ok (.d (.bl (decide (a ∈ ["sum", "less", "product"])))) S := in_strs a ["sum", "less", "product"]
theorem ixn0 {a b c : D} : ixV (.new (.lst [a, b, c])) (.d (.int 0)) S = .ok (.d a) S := ix_new (k := 0) rfl
theorem ixn1 {a b c : D} : ixV (.new (.lst [a, b, c])) (.d (.int 1)) S = .ok (.d b) S := ix_new (k := 1) rfl
theorem ixn2 {a b c : D} : ixV (.new (.lst [a, b, c])) (.d (.int 2)) S = .ok (.d c) S := ix_new (k := 2) rfl
@[simp] theorem recv_newi {ds : List D} : recvOk .index (view S (.new (.lst ds))) = true := (rfl)
theorem lv_body (hT : H__law_values T I) {p q : Nat} {pre suf : List Row} {r : Row} {st : List (Option Int) × List Int} {inputs : List Int} {used : Nat} (h : VI p q pre (r :: suf) st) (hp : 2 ≤ p ∧ p ≤ 1000000) (hl : pre.length ≤ 1000) (hu : st.2 = inputs.drop used) {a0 a1 : SV} :
    ∃ a9 a10, evS (callN T n) (b__law_values_1 I) [some a0, some a1, some (.d (ti inputs)), some (.d (.int p)), some (.loc 0 0), some (.d (.int used)), some (.d r.enc), none, none, none, none] (bagS S (st.1.map od)) =
      .ok (.next [some a0, some a1, some (.d (ti inputs)), some (.d (.int p)), some (.loc 0 0), some (.d (.int (if r.isIn then used + 1 else used : Nat))), some (.d r.enc), some (.d (sD (match r with
  | .inp _ => "in" | .cst _ => "const" | .sum _ _ => "sum" | .less _ _ => "less" | .prod _ _ => "product" | .times _ _ => "times" | .out _ _ => "out" | .next => "next" | .kept _ => "kept"))), some (.d (od (rowVal p st.1 st.2 r))), a9, a10]) (bagS S ((vstep p st r).1.map od)) := by
  have hr := h.prog.at rfl
  have gx : ∀ {e a : Nat}, Wire pre e a → ixV (.loc 0 0) (.d (.int (a : Nat))) (bagS S (st.1.map od)) = .ok (.d (.int (gv st.1 a))) (bagS S (st.1.map od)) := fun {e a} hw => by
    refine ix_loc (ds := st.1.map od) (z := false) rfl ?_
    rw [List.getElem?_map, (h.gv hw).1]
    rfl
  have ea := bag_app (S0 := S) (xs := st.1.map od) (d := od (rowVal p st.1 st.2 r)) (by rw [List.length_map, h.len]; omega)
  have e2 : st.1.map od ++ [od (rowVal p st.1 st.2 r)] = (vstep p st r).1.map od := by unfold vstep; rw [List.map_append]; rfl
  rw [e2] at ea
  generalize (vstep p st r).1.map od = res at ea
  cases r with
  | inp j =>
    refine ⟨none, none, ?_⟩
    have hlen : 0 < st.2.length := by rw [h.left]; simp [nIn, List.filter_cons, Row.isIn]
    have hu2 : used < inputs.length := by rw [hu, List.length_drop] at hlen; omega
    have ei : ∀ S : St, ixV (.d (ti inputs)) (.d (.int used)) S = .ok (.d (.int inputs[used])) S := fun S => ix_tup (getI hu2)
    have ev : rowVal (p : Int) st.1 st.2 (.inp j) = some inputs[used] := by
      unfold rowVal
      rw [hu, List.drop_eq_getElem_cons hu2]
      rfl
    rw [ev] at ea ⊢
    simp only [od_some] at ea
    simp [b__law_values_1, varV, ei, bag_recv, ea, Row.isIn]
  | cst c =>
    refine ⟨none, none, ?_⟩
    simp only [rowVal, od_some] at ea
    simp [b__law_values_1, varV, bag_recv, ea, Row.isIn, rowVal]
  | sum a b =>
    have w1 := (h.gv hr.1).2
    have w2 := (h.gv hr.2).2
    refine ⟨some (.d (.int (gv st.1 a))), some (.d (.int (gv st.1 b))), ?_⟩
    simp only [rowVal, od_some] at ea
    have z3 : sz 3 = true := rfl
    simp [b__law_values_1, varV, bag_recv, ea, Row.isIn, rowVal, in_str7, gx hr.1, gx hr.2, z3, idx_a, ixn0, mul_l (i := gv st.1 a) (j := gv st.1 b) (by omega) (by omega), bop_mod (j := (p : Int)) (by omega), recv_newi]
  | less a b =>
    have w1 := (h.gv hr.1).2
    have w2 := (h.gv hr.2).2
    refine ⟨some (.d (.int (gv st.1 a))), some (.d (.int (gv st.1 b))), ?_⟩
    simp only [rowVal, od_some] at ea
    have z3 : sz 3 = true := rfl
    simp [b__law_values_1, varV, bag_recv, ea, Row.isIn, rowVal, in_str7, gx hr.1, gx hr.2, z3, idx_b, ixn1, mul_l (i := gv st.1 a) (j := gv st.1 b) (by omega) (by omega), bop_mod (j := (p : Int)) (by omega), recv_newi]
  | prod a b =>
    have w1 := (h.gv hr.1).2
    have w2 := (h.gv hr.2).2
    refine ⟨some (.d (.int (gv st.1 a))), some (.d (.int (gv st.1 b))), ?_⟩
    simp only [rowVal, od_some] at ea
    have z3 : sz 3 = true := rfl
    simp [b__law_values_1, varV, bag_recv, ea, Row.isIn, rowVal, in_str7, gx hr.1, gx hr.2, z3, idx_c, ixn2, mul_l (i := gv st.1 a) (j := gv st.1 b) (by omega) (by omega), bop_mod (j := (p : Int)) (by omega), recv_newi]
  | times c a =>
    have hc := hr.1
    refine ⟨none, none, ?_⟩
    simp only [rowVal, od_some] at ea
    simp [b__law_values_1, varV, bag_recv, ea, Row.isIn, rowVal, gx hr.2, mul_l (i := c) (j := gv st.1 a) (by omega) (by omega), bop_mod (j := (p : Int)) (by omega)]
  | out a j =>
    refine ⟨none, none, ?_⟩
    simp only [rowVal, od_none] at ea
    have z3 : sz 3 = true := rfl
    simp [b__law_values_1, varV, bag_recv, ea, Row.isIn, rowVal, in_str7, z3]
  | next =>
    refine ⟨none, none, ?_⟩
    simp only [rowVal, od_none] at ea
    have z3 : sz 3 = true := rfl
    simp [b__law_values_1, varV, bag_recv, ea, Row.isIn, rowVal, in_str7, z3]
  | kept a =>
    obtain ⟨e, _, hw⟩ := hr
    refine ⟨none, none, ?_⟩
    simp only [rowVal, od_some] at ea
    simp [b__law_values_1, varV, bag_recv, ea, Row.isIn, rowVal, gx hw]
theorem s_lvalues (hT : H__law_values T I) {p q t : Nat} (hs : SetOk p q t) {rows : List Row} (hP : Prog p q rows) (hl : rows.length ≤ 1000) {inputs : List Int} (hi : InR p inputs) (hn : inputs.length = nIn rows) :
    callN T (n + 1) (I N._law_values) [.d (setD p q t), .d (progD rows), .d (ti inputs)] S = .ok (.new (.lst ((valsV p inputs rows).map od))) S := by
  have plo := hs.pr.lo
  have phi := hs.hp
  have el := forL_fold (enc := Row.enc) (chk := (⟨rows.map Row.enc, none⟩ : Walk).chk) (put := putT (.one 6)) (body := evS (callN T n) (b__law_values_1 I)) (n0 := 1)
    (ρ0 := [some (.d (setD p q t)), some (.d (progD rows)), some (.d (ti inputs)), some (.d (.int p)), some (.loc 0 0), some (.d (.int 0)), none, none, none, none, none])
    (fun st => [some (.d (setD p q t)), some (.d (progD rows)), some (.d (ti inputs)), some (.d (.int p)), some (.loc 0 0), some (.d (.int (inputs.length - st.2.length : Nat))), none, none, none, none, none]) (fun st => bagS S (st.1.map od)) (vstep p)
    (fun l st => ∃ pre, VI p q pre l st ∧ pre.length + l.length ≤ 1000 ∧ ∃ used, st.2 = inputs.drop used ∧ used ≤ inputs.length)
    (fun r l st hi => by
      obtain ⟨pre, hv, hlen, used, hu, hu2⟩ := hi
      rw [List.length_cons] at hlen
      have he : inputs.length - st.2.length = used := by rw [hu, List.length_drop]; omega
      obtain ⟨a9, a10, e1⟩ := lv_body (n := n) (S := S) hT hv (by omega) (by omega) hu (a0 := .d (setD p q t)) (a1 := .d (progD rows))
      have hst := hv.step
      subst he
      generalize hud : inputs.length - st.2.length = used at *
      refine ⟨rfl, _, _, _, rfl, e1, ?_, ?_, pre ++ [r], hst, by rw [List.length_append]; simp; omega, if r.isIn then used + 1 else used, ?_⟩
      · have hn' : inputs.length - (vstep p st r).2.length = if r.isIn then used + 1 else used := by
          unfold vstep
          dsimp only
          cases hin : r.isIn with
          | true =>
            have hleft := hv.left
            have : 0 < st.2.length := by rw [hleft]; simp [nIn, List.filter_cons, hin]
            rw [if_pos rfl, if_pos rfl, List.length_tail, hu, List.length_drop]
            rw [hu, List.length_drop] at this
            omega
          | false => rw [if_neg Bool.false_ne_true, if_neg Bool.false_ne_true, hu, List.length_drop]; omega
        rw [hn']
        rfl
      · exact ownFree_take rfl
      · unfold vstep
        dsimp only
        cases hin : r.isIn with
        | true =>
          have hleft := hv.left
          have : 0 < st.2.length := by rw [hleft]; simp [nIn, List.filter_cons, hin]
          rw [hu, List.length_drop] at this
          rw [if_pos rfl, if_pos rfl, hu, List.tail_drop]
          exact ⟨rfl, by omega⟩
        | false => exact ⟨hu, hu2⟩)
    (fun s _ => rfl) rows ([], inputs) ⟨[], ⟨hP, rfl, fun a r h => (by simp at h), hi, hn⟩, by simpa using hl, 0, rfl, by omega⟩
  have e1 := el.1
  have hb0 : (⟨[⟨false, .lst []⟩], S.own :: S.out, S.gl⟩ : St) = bagS S [] := rfl
  have ol : (bagS S []).own.length = 1 := rfl
  simp only [List.map_nil, Nat.sub_self] at e1
  have z0 : sz 0 = true := rfl
  rw [call_eq hT.at_ rfl]
  have e1' : forL (⟨rows.map Row.enc, none⟩ : Walk).chk (putT (.one 6)) (evS (callN T n) (b__law_values_1 I)) _ 1 _ [some (.d (setD p q t)), some (.d (progD rows)), some (.d (ti inputs)), some (.d (.int p)), some (.loc 0 0), some (.d (.int 0)), none, none, none, none, none] (bagS S []) = _ := e1
  simp [p__law_values, varV, z0, St.call, hb0, ol, set_ix1, e1']
  rfl
end U

set_option maxHeartbeats 2000000
/-! UVal3: what is shown; inputs; places of coins. -/
namespace U
open PySem
variable {T : Nat → Option FD} {I : Nat → Nat} {n : Nat} {S : St}
theorem pr_ix1 {rows : List Row} : ixV (.d (progD rows)) (.d (.int 1)) S = .ok (.d (.tup (rows.map Row.enc))) S := ix_tup (k := 1) rfl
theorem row_ix {rows : List Row} {k : Nat} {r : Row} (h : rows[k]? = some r) : ixV (.d (.tup (rows.map Row.enc))) (.d (.int k)) S = .ok (.d r.enc) S := ix_tup (by rw [List.getElem?_map, h]; rfl)
def rowAt (rows : List Row) (k : Nat) : Row := (rows[k]?).getD .next
theorem rowAt_some {rows : List Row} {k : Nat} (h : k < rows.length) : rows[k]? = some (rowAt rows k) := by
  unfold rowAt
  rw [List.getElem?_eq_getElem h]
  rfl
def outsV (rows : List Row) : List Nat := (List.range rows.length).filter fun k => (rowAt rows k).isOut
def insV (rows : List Row) : List Nat := (List.range rows.length).filter fun k => (rowAt rows k).isIn
theorem s_outs (hT : H_output_rows T I) {rows : List Row} (hl : rows.length ≤ 1000) : callN T (n + 1) (I N.output_rows) [.d (progD rows)] S = .ok (.d (.tup (natsD (outsV rows)))) S := by
  rw [call_eq hT.at_ rfl]
  simp only [p_output_rows, S_ret, E_b1]
  rw [lc_ty (enc := fun (k : Nat) => D.int (k : Int)) (l := List.range rows.length) (c := fun k => (rowAt rows k).isOut) (g := fun (k : Nat) => D.int (k : Int)) (v := fun (k : Nat) => .d (.int (k : Int))) (at_ := none) ?hw rfl ?hl (fun k hk => ⟨rfl, ?hc, fun _ => ⟨?he, rfl⟩⟩)]
  · simp [outsV]
  case hw => simp [varV, rng1_nat (q := rows.length) (by omega)]
  case hl => rw [List.length_range]; omega
  case he => simp [Env.put, wipeE, c_output_rows_1, varV]
  case hc =>
    have hk := List.mem_range.mp hk
    have e := row_ix (S := S.call) (rowAt_some hk)
    generalize rowAt rows k = r at *
    cases r <;> simp at e <;> simp [Env.put, wipeE, c_output_rows_2, varV, e, Row.isOut]
theorem s_ins (hT : H_input_rows T I) {rows : List Row} (hl : rows.length ≤ 1000) : callN T (n + 1) (I N.input_rows) [.d (progD rows)] S = .ok (.d (.tup (natsD (insV rows)))) S := by
  rw [call_eq hT.at_ rfl]
  simp only [p_input_rows, S_ret, E_b1]
  rw [lc_ty (enc := fun (k : Nat) => D.int (k : Int)) (l := List.range rows.length) (c := fun k => (rowAt rows k).isIn) (g := fun (k : Nat) => D.int (k : Int)) (v := fun (k : Nat) => .d (.int (k : Int))) (at_ := none) ?hw rfl ?hl (fun k hk => ⟨rfl, ?hc, fun _ => ⟨?he, rfl⟩⟩)]
  · simp [insV]
  case hw => simp [varV, rng1_nat (q := rows.length) (by omega)]
  case hl => rw [List.length_range]; omega
  case he => simp [Env.put, wipeE, c_input_rows_1, varV]
  case hc =>
    have hk := List.mem_range.mp hk
    have e := row_ix (S := S.call) (rowAt_some hk)
    generalize rowAt rows k = r at *
    cases r <;> simp at e <;> simp [Env.put, wipeE, c_input_rows_2, varV, e, Row.isIn]
def outW : Row → Nat
  | .out a _ => a
  | _ => 0
def outJ : Row → Nat
  | .out _ j => j
  | _ => 0
/-- all values, and where they stand -/
theorem VI.start {p q : Nat} {rows : List Row} {inputs : List Int} (hP : Prog p q rows) (hi : InR p inputs) (hn : inputs.length = nIn rows) : VI p q [] rows ([], inputs) := ⟨hP, rfl, fun a r h => (by simp at h), hi, hn⟩
theorem VI.run {p q : Nat} : ∀ {suf pre : List Row} {st : List (Option Int) × List Int}, VI p q pre suf st → VI p q (pre ++ suf) [] (suf.foldl (vstep p) st)
  | [], pre, st, h => by rw [List.append_nil]; exact h
  | r :: suf, pre, st, h => by
    have := h.step.run
    rw [List.append_assoc] at this
    exact this
theorem vals_len {p q : Nat} {rows : List Row} {inputs : List Int} (hP : Prog p q rows) (hi : InR p inputs) (hn : inputs.length = nIn rows) : (valsV p inputs rows).length = rows.length := by
  have := (VI.start hP hi hn).run.len
  unfold valsV
  simpa using this
theorem vals_get {p q : Nat} {rows : List Row} {inputs : List Int} (hP : Prog p q rows) (hi : InR p inputs) (hn : inputs.length = nIn rows) {a : Nat} {r : Row} (ha : rows[a]? = some r) (hw : r.wire = true) : (valsV p inputs rows)[a]? = some (some (gv (valsV p inputs rows) a)) ∧ 0 ≤ gv (valsV p inputs rows) a ∧ gv (valsV p inputs rows) a < p := by
  obtain ⟨v, h1, h2, h3⟩ := (VI.start hP hi hn).run.wire a r (by simpa using ha) hw
  have : gv (valsV p inputs rows) a = v := by unfold gv valsV; rw [h1]; rfl
  rw [this]
  exact ⟨h1, h2, h3⟩
theorem Prog.row {p q : Nat} {rows : List Row} (hP : Prog p q rows) {k : Nat} {r : Row} (h : rows[k]? = some r) : RowOk p q (rows.take k) r := by
  obtain ⟨hk, e⟩ := List.getElem?_eq_some_iff.mp h
  refine hP.at (suf := rows.drop (k + 1)) ?_
  rw [← e, ← List.drop_eq_getElem_cons hk, List.take_append_drop]
theorem Wire.up {rows : List Row} {k e a : Nat} (h : Wire (rows.take k) e a) : ∃ r, rows[a]? = some r ∧ r.wire = true ∧ epo rows a = e ∧ a < k := by
  have hl := h.lt
  obtain ⟨r, h1, h2, h3⟩ := h
  rw [List.length_take] at hl
  rw [List.getElem?_take_of_lt (by omega)] at h1
  refine ⟨r, h1, h2, ?_, by omega⟩
  unfold epo at h3 ⊢
  rw [List.take_take, show min (a + 1) k = a + 1 by omega] at h3
  exact h3
def showD (rows : List Row) (vals : List (Option Int)) (k : Nat) : D := .tup [.int k, .int (outJ (rowAt rows k)), .int (gv vals (outW (rowAt rows k)))]
def shownV (rows : List Row) (vals : List (Option Int)) : List D := (outsV rows).map (showD rows vals)
theorem outs_mem {rows : List Row} {k : Nat} (h : k ∈ outsV rows) : k < rows.length ∧ ∃ a j, rowAt rows k = .out a j := by
  unfold outsV at h
  obtain ⟨h1, h2⟩ := List.mem_filter.mp h
  refine ⟨List.mem_range.mp h1, ?_⟩
  cases hr : rowAt rows k <;> rw [hr] at h2 <;> first | exact ⟨_, _, rfl⟩ | (simp [Row.isOut] at h2)
theorem out_val {p q : Nat} {rows : List Row} {inputs : List Int} (hP : Prog p q rows) (hi : InR p inputs) (hn : inputs.length = nIn rows) {k a j : Nat} (hk : k < rows.length) (hr : rowAt rows k = .out a j) : (valsV p inputs rows)[a]? = some (some (gv (valsV p inputs rows) a)) ∧ 0 ≤ gv (valsV p inputs rows) a ∧ gv (valsV p inputs rows) a < p ∧ 1 ≤ j ∧ j ≤ q := by
  have h1 := rowAt_some hk
  rw [hr] at h1
  have ok := hP.row h1
  obtain ⟨r, h2, h3, _⟩ := ok.1.up
  have := vals_get hP hi hn h2 h3
  exact ⟨this.1, this.2.1, this.2.2, ok.2⟩
theorem s_shown (hT : H_shown T I) {p q t : Nat} (hs : SetOk p q t) {rows : List Row} (hP : Prog p q rows) (hl : rows.length ≤ 1000) {inputs : List Int} (hi : InR p inputs) (hn : inputs.length = nIn rows) :
    callN T (n + 3) (I N.shown) [.d (setD p q t), .d (progD rows), .d (ti inputs)] S = .ok (.d (.tup (shownV rows (valsV p inputs rows)))) S := by
  have e1 := s_values (n := n) (S := S.call) hT.values hs hP hl hi hn
  have e2 := s_outs (n := n + 1) (S := S.call) hT.output_rows hl
  have hlen : (outsV rows).length ≤ 1000 := Nat.le_trans (List.length_filter_le _ _) (by rw [List.length_range]; omega)
  have z3 : sz 3 = true := rfl
  rw [call_eq hT.at_ rfl]
  simp [-E_lc, p_shown, varV, e1]
  rw [lc_map (enc := fun (k : Nat) => D.int (k : Int)) (l := outsV rows) (g := showD rows (valsV p inputs rows)) (v := fun k => .d (showD rows (valsV p inputs rows) k)) (at_ := none) ?hw rfl ?hl (fun k hk => ⟨rfl, ?hc, rfl⟩)]
  · simp [shownV]
  case hw => simp [varV, e2]
  case hl => omega
  case hc =>
    obtain ⟨h1, a, j, h2⟩ := outs_mem hk
    have h3 := rowAt_some h1
    rw [h2] at h3
    have h4 := out_val hP hi hn h1 h2
    have e3 := row_ix (S := S.call) h3
    have e4 : ixV (.d (.tup ((valsV p inputs rows).map od))) (.d (.int a)) S.call = .ok (.d (.int (gv (valsV p inputs rows) a))) S.call := ix_tup (by rw [List.getElem?_map, h4.1]; rfl)
    simp at e3
    simp [Env.put, wipeE, c_shown_1, varV, pr_ix1, e3, e4, z3, showD, h2, outJ, outW]
theorem s_lshown (hT : H__law_shown T I) {p q t : Nat} (hs : SetOk p q t) {rows : List Row} (hP : Prog p q rows) (hl : rows.length ≤ 1000) {inputs : List Int} (hi : InR p inputs) (hn : inputs.length = nIn rows) :
    callN T (n + 2) (I N._law_shown) [.d (setD p q t), .d (progD rows), .d (ti inputs)] S = .ok (.d (.tup (shownV rows (valsV p inputs rows)))) S := by
  have e1 := s_lvalues (n := n) (S := S.call) hT._law_values hs hP hl hi hn
  have z3 : sz 3 = true := rfl
  rw [call_eq hT.at_ rfl]
  simp [-E_lc, p__law_shown, varV, e1, pr_ix1]
  rw [lc_ty (enc := fun (k : Nat) => D.int (k : Int)) (l := List.range rows.length) (c := fun k => (rowAt rows k).isOut) (g := showD rows (valsV p inputs rows)) (v := fun k => .d (showD rows (valsV p inputs rows) k)) (at_ := none) ?hw rfl ?hl (fun k hk => ⟨rfl, ?hc, fun hc => ⟨?hd, rfl⟩⟩)]
  · simp [shownV, outsV]
  case hw => simp [varV, rng1_nat (q := rows.length) (by omega)]
  case hl => rw [List.length_range]; omega
  case hc =>
    have hk := List.mem_range.mp hk
    have e := row_ix (S := S.call) (rowAt_some hk)
    generalize rowAt rows k = r at *
    cases r <;> simp at e <;> simp [Env.put, wipeE, c__law_shown_2, varV, e, Row.isOut]
  case hd =>
    have h1 := List.mem_range.mp hk
    obtain ⟨a, j, h2⟩ : ∃ a j, rowAt rows k = .out a j := by
      cases hr : rowAt rows k <;> rw [hr] at hc <;> first | exact ⟨_, _, rfl⟩ | (simp [Row.isOut] at hc)
    have h3 := rowAt_some h1
    rw [h2] at h3
    have h4 := out_val hP hi hn h1 h2
    have e3 := row_ix (S := S.call) h3
    have e4 : ixV (.d (.lst ((valsV p inputs rows).map od))) (.d (.int a)) S.call = .ok (.d (.int (gv (valsV p inputs rows) a))) S.call := ix_lst (by rw [List.getElem?_map, h4.1]; rfl)
    simp at e3
    simp [Env.put, wipeE, c__law_shown_1, varV, e3, e4, z3, showD, h2, outJ, outW]
/-! inputs -/
theorem s_inputs (hT : H__law_inputs T I) {u j : Nat} {ds : List Int} {k : Nat} (hb : S.get u j = some (boxO ds k)) {p q t : Nat} (hs : SetOk p q t) {rows : List Row} (hl : rows.length ≤ 1000) :
    ∃ (k' : Nat) (inputs : List Int), InR p inputs ∧ inputs.length = nIn rows ∧ callN T (n + 4) (I N._law_inputs) [.loc u j, .d (setD p q t), .d (progD rows)] S = .ok (.d (ti inputs)) (S.set u j (boxO ds k')) := by
  have hni : nIn rows ≤ rows.length := List.length_filter_le _ _
  have g0 : S.call.get (u + 1) j = some (boxO ds k) := by rw [call_get]; exact hb
  obtain ⟨ys, h1, h2, e1⟩ := s_numbers (n := n) hT._law_numbers.at_ hT._law_numbers._law_number.at_ hT._law_numbers._law_number._law_draw.at_ g0 (p := (p : Int)) hs.pr.pos (m := nIn rows) (by omega)
  rw [call_set] at e1
  refine ⟨k + 2 * nIn rows, ys, h2, h1, ?_⟩
  rw [call_eq hT.at_ rfl]
  simp [-E_lc, p__law_inputs, varV, set_ix1]
  rw [lc_ty (enc := Row.enc) (l := rows) (c := Row.isIn) (g := Row.enc) (v := fun r => .d r.enc) (at_ := none) ?hw rfl ?hl (fun r hr => ⟨rfl, ?hc, fun _ => ⟨?he, rfl⟩⟩)]
  · have hln : ((rows.filter Row.isIn).map Row.enc).length = nIn rows := by rw [List.length_map]; rfl
    generalize (rows.filter Row.isIn).map Row.enc = z at hln
    simp [varV, set_ix1, hln, e1]
  case hw => simp [varV, pr_ix1]
  case hl => omega
  case he => simp [Env.put, wipeE, c__law_inputs_1, varV]
  case hc => cases r <;> simp [Env.put, wipeE, c__law_inputs_2, varV, Row.isIn]
/-! places of coins -/
def manyR (q : Nat) : Row → Nat
  | .inp _ => 1
  | .prod _ _ => q
  | .kept _ => q
  | _ => 0
def rngI (lo n : Nat) : List Int := (List.range' lo n).map fun k => ((k : Nat) : Int)
theorem rngI_up (lo n : Nat) : rngUp (lo : Int) n = (rngI lo n).map D.int := by
  unfold rngI
  rw [List.map_map]
  exact rng_range n lo
theorem rngI_len {lo n : Nat} : (rngI lo n).length = n := by unfold rngI; rw [List.length_map, List.length_range']
def plR (t at_ m : Nat) : List (List Int) := (List.range m).map fun k => rngI (at_ + t * k) t
def plstep (q t : Nat) (st : List (List (List Int)) × Nat) (r : Row) : List (List (List Int)) × Nat := (st.1 ++ [plR t st.2 (manyR q r)], st.2 + t * manyR q r)
def plV (q t : Nat) (rows : List Row) : List (List (List Int)) := (rows.foldl (plstep q t) ([], 0)).1
def plN (q t : Nat) (rows : List Row) : Nat := (rows.foldl (plstep q t) ([], 0)).2
abbrev ttD (l : List (List Int)) : D := .tup (l.map ti)
theorem many_le {q : Nat} {r : Row} (hq : 1 ≤ q) : manyR q r ≤ q := by cases r <;> simp [manyR] <;> omega
theorem disOk3 {a b c : D} : disOk [Str.ofString "in", Str.ofString "product", Str.ofString "kept"] [a, b, c] = true := disOk_of (ks := ["in", "product", "kept"]) (ds := [a, b, c]) (by decide) rfl (by decide) (by decide)
theorem many_get {q : Nat} {r : Row} {C : Nat → List SV → M RV} {ρ : Env} {vs kx : DE} (hv : evK C vs ρ S = .ok [.int 1, .int q, .int q] S) (hk : evE C kx ρ S = .ok (.d r.enc) S) : evE C (.dgt (.dis [Str.ofString "in", Str.ofString "product", Str.ofString "kept"] vs) (.ix kx (.con (.int 0))) (.con (.int 0))) ρ S = .ok (.d (.int (manyR q r))) S := by
  have z : zipK [Str.ofString "in", Str.ofString "product", Str.ofString "kept"] [D.int 1, .int q, .int q] = [(sD "in", .int 1), (sD "product", .int q), (sD "kept", .int q)] := by simp
  rw [E_dgt, E_dis, hv, go_ok, disOk3, if_pos rfl, go_ok, isDic_d, if_pos rfl, E_ix, hk, z]
  cases r <;> simp [manyR]
theorem pl_row {C : Nat → List SV → M RV} {ρ : Env} {q t at_ m : Nat} {it elt : DE} {vs : List Nat} {tg : Tg} {r : Nat → Env} (hm : m ≤ 100) (ht : t ≤ 100) (ha : at_ ≤ 500000)
    (hw : evW C it ρ S = .ok ⟨(List.range m).map fun k => D.int (k : Nat), none⟩ S) (h : ∀ k, k < m → putT tg (.int (k : Nat)) (wipeE ρ vs) = some (r k) ∧ evE C elt (r k) S = trngV false (.d (.int (at_ + t * k))) (.d (.int (at_ + t * k + t))) S) :
    evE C (.lc elt tg it (.con (.bl true)) vs) ρ S = .ok (.new (.lst ((plR t at_ m).map ti))) S := by
  unfold plR
  rw [List.map_map]
  refine lc_map (enc := fun (k : Nat) => D.int (k : Int)) (v := fun k => .d (ti (rngI (at_ + t * k) t))) (r := r) hw rfl (by rw [List.length_range]; omega) fun k hk => ?_
  have hk := List.mem_range.mp hk
  obtain ⟨h1, h2⟩ := h k hk
  refine ⟨h1, ?_, rfl⟩
  have hb : t * k ≤ 100 * 100 := Nat.mul_le_mul ht (by omega)
  rw [h2]
  have e : ((at_ : Int) + t * k) = ((at_ + t * k : Nat) : Int) := by push_cast; rfl
  rw [e, show (((at_ + t * k : Nat) : Int) + t) = ((at_ + t * k + t : Nat) : Int) by push_cast; rfl]
  rw [trng_int (by omega) (by omega) (by omega) (by omega) (by omega), show (((at_ + t * k + t : Nat) : Int) - ((at_ + t * k : Nat) : Int)).toNat = t by omega, rngI_up]
  rfl
theorem b_places (hT : H_places T I) {q t : Nat} (hq : 1 ≤ q ∧ q ≤ 9) (ht : t ≤ 9) {st : List (List (List Int)) × Nat} {r : Row} (hl : st.1.length ≤ 1000) (ha : st.2 ≤ 100 * st.1.length) {a0 a1 : SV} :
    ∃ a7, evS (callN T n) (b_places_2 I) [some a0, some a1, some (.d (.int q)), some (.d (.int t)), some (.loc 0 0), some (.d (.int st.2)), some (.d r.enc), none, none] (bagS S (st.1.map ttD)) =
      .ok (.next [some a0, some a1, some (.d (.int q)), some (.d (.int t)), some (.loc 0 0), some (.d (.int (plstep q t st r).2)), some (.d r.enc), a7, none]) (bagS S ((plstep q t st r).1.map ttD)) := by
  have hm := many_le (q := q) (r := r) hq.1
  refine ⟨some (.d (.int (manyR q r))), ?_⟩
  have e1 := many_get (q := q) (r := r) (C := callN T n) (S := bagS S (st.1.map ttD)) (ρ := [some a0, some a1, some (.d (.int q)), some (.d (.int t)), some (.loc 0 0), some (.d (.int st.2)), some (.d r.enc), none, none]) (vs := .cons (.con (.int 1)) (.cons (.var 2) (.cons (.var 2) .nil))) (kx := .var 6) (by simp [varV]) (by simp [varV])
  have e2 := pl_row (C := callN T n) (S := bagS S (st.1.map ttD)) (ρ := [some a0, some a1, some (.d (.int q)), some (.d (.int t)), some (.loc 0 0), some (.d (.int st.2)), some (.d r.enc), some (.d (.int (manyR q r))), none]) (t := t) (at_ := st.2) (m := manyR q r) (it := .wk .rng1 (.var 7) .nil) (elt := c_places_1 I) (vs := [8]) (tg := .one 8) (q := q) (by omega) (by omega) (by omega) (by simp [varV, rng1_nat (q := manyR q r) (by omega)]) (fun k hk => ⟨rfl, by
    have hb : t * k ≤ 9 * 9 := Nat.mul_le_mul ht (by omega)
    simp [Env.put, wipeE, c_places_1, varV, mul_l (i := (t : Int)) (j := (k : Int)) (by omega) (by omega)]⟩)
  have ea := bag_app (S0 := S) (xs := st.1.map ttD) (d := ttD (plR t st.2 (manyR q r))) (by rw [List.length_map]; omega)
  have e3 : st.1.map ttD ++ [ttD (plR t st.2 (manyR q r))] = (plstep q t st r).1.map ttD := by unfold plstep; rw [List.map_append]; rfl
  rw [e3] at ea
  have e4 : (((plstep q t st r).2 : Nat) : Int) = (st.2 : Int) + t * manyR q r := by unfold plstep; push_cast; rfl
  rw [e4]
  generalize (plstep q t st r).1.map ttD = res at ea
  unfold b_places_2
  rw [S_seq, S_set, e1]
  simp [-E_lc, -E_dgt, varV, bag_recv, e2, ea, mul_l (i := (t : Int)) (j := (manyR q r : Int)) (by omega) (by omega)]
theorem s_places (hT : H_places T I) {p q t : Nat} (hs : SetOk p q t) {rows : List Row} (hl : rows.length ≤ 1000) : callN T (n + 1) (I N.places) [.d (setD p q t), .d (progD rows)] S = .ok (.d (.tup ((plV q t rows).map ttD))) S := by
  have htq := hs.tq
  have hq9 := hs.q9
  have el := forL_fold (enc := Row.enc) (chk := (⟨rows.map Row.enc, none⟩ : Walk).chk) (put := putT (.one 6)) (body := evS (callN T n) (b_places_2 I)) (n0 := 1)
    (ρ0 := [some (.d (setD p q t)), some (.d (progD rows)), some (.d (.int q)), some (.d (.int t)), some (.loc 0 0), some (.d (.int 0)), none, none, none])
    (fun st => [some (.d (setD p q t)), some (.d (progD rows)), some (.d (.int q)), some (.d (.int t)), some (.loc 0 0), some (.d (.int (st.2 : Nat))), none, none, none]) (fun st => bagS S (st.1.map ttD)) (plstep q t)
    (fun l st => st.1.length + l.length ≤ 1000 ∧ st.2 ≤ 100 * st.1.length)
    (fun r l st hi => by
      obtain ⟨h1, h2⟩ := hi
      rw [List.length_cons] at h1
      obtain ⟨a7, e1⟩ := b_places (n := n) (S := S) hT (q := q) (t := t) ⟨hs.q1, hq9⟩ (by omega) (st := st) (r := r) (by omega) h2 (a0 := .d (setD p q t)) (a1 := .d (progD rows))
      have hm := many_le (q := q) (r := r) hs.q1
      have hb : t * manyR q r ≤ 9 * 9 := Nat.mul_le_mul (by omega) (by omega)
      refine ⟨rfl, _, _, _, rfl, e1, rfl, ownFree_take rfl, ?_, ?_⟩
      · unfold plstep; rw [List.length_append]; simp; omega
      · unfold plstep; rw [List.length_append]; simp; omega)
    (fun s _ => rfl) rows ([], 0) ⟨by simpa using hl, by simp⟩
  have e1 := el.1
  have hb0 : (⟨[⟨false, .lst []⟩], S.own :: S.out, S.gl⟩ : St) = bagS S [] := rfl
  have ol : (bagS S []).own.length = 1 := rfl
  simp only [List.map_nil] at e1
  have z0 : sz 0 = true := rfl
  have e1' : forL (⟨rows.map Row.enc, none⟩ : Walk).chk (putT (.one 6)) (evS (callN T n) (b_places_2 I)) _ 1 _ [some (.d (setD p q t)), some (.d (progD rows)), some (.d (.int q)), some (.d (.int t)), some (.loc 0 0), some (.d (.int 0)), none, none, none] (bagS S []) = _ := e1
  have et := tuple_loc (S := bagS S ((plV q t rows).map ttD)) (u := 0) (l := 0) (z := false) (ds := (plV q t rows).map ttD) rfl
  rw [call_eq hT.at_ rfl]
  unfold plV at et ⊢
  simp [p_places, varV, unpV, cut_set2, puts, Env.put, z0, St.call, hb0, ol, pr_ix1, e1', et]
  rfl
end U

/-! URunM: runs, the plain mathematics. -/
namespace U
open PySem
theorem sumI_append (g : Nat → Int) : ∀ a b : List Nat, sumI g (a ++ b) = sumI g a + sumI g b
  | [], b => by simp [sumI]
  | i :: a, b => by rw [List.cons_append, sumI, sumI, sumI_append g a b]; omega
theorem sumI_congr {f g : Nat → Int} : ∀ {is : List Nat}, (∀ i ∈ is, f i = g i) → sumI f is = sumI g is
  | [], _ => rfl
  | i :: is, h => by rw [sumI, sumI, h i List.mem_cons_self, sumI_congr fun k hk => h k (List.mem_cons_of_mem _ hk)]
theorem sumI_add (f g : Nat → Int) : ∀ is : List Nat, sumI (fun i => f i + g i) is = sumI f is + sumI g is
  | [] => rfl
  | i :: is => by rw [sumI, sumI, sumI, sumI_add f g is]; omega
theorem sumI_mul (c : Int) (f : Nat → Int) : ∀ is : List Nat, sumI (fun i => c * f i) is = c * sumI f is
  | [] => by simp [sumI]
  | i :: is => by rw [sumI, sumI, sumI_mul c f is, Int.mul_add]
theorem sumI_zero : ∀ is : List Nat, sumI (fun _ => 0) is = 0
  | [] => rfl
  | i :: is => by rw [sumI, sumI_zero is]; rfl
theorem sumI_swap (f : Nat → Nat → Int) : ∀ (is js : List Nat), sumI (fun i => sumI (fun j => f i j) js) is = sumI (fun j => sumI (fun i => f i j) is) js
  | [], js => by
    show 0 = sumI (fun _ => 0) js
    rw [sumI_zero]
  | i :: is, js => by
    show sumI (fun j => f i j) js + sumI (fun i => sumI (fun j => f i j) js) is = sumI (fun j => f i j + sumI (fun i => f i j) is) js
    rw [sumI_swap f is js, ← sumI_add]
theorem sumI_cg {p : Int} {f g : Nat → Int} : ∀ {is : List Nat}, (∀ i ∈ is, cg p (f i) (g i)) → cg p (sumI f is) (sumI g is)
  | [], _ => .refl
  | i :: is, h => (h i List.mem_cons_self).add (sumI_cg fun k hk => h k (List.mem_cons_of_mem _ hk))
theorem sum_sumI (g : Nat → Int) : ∀ is : List Nat, (is.map g).sum = sumI g is
  | [] => rfl
  | i :: is => by rw [List.map_cons, List.sum_cons, sum_sumI g is]; rfl
theorem pe_snoc (x : Int) (f : List Int) (c : Int) : pe x (f ++ [c]) = pe x f + c * x ^ f.length := by
  rw [pe_append]
  simp [pe]
  rw [Int.mul_comm]
theorem pe_range (x : Int) (g : Nat → Int) : ∀ m : Nat, pe x ((List.range m).map g) = sumI (fun j => g j * x ^ j) (List.range m)
  | 0 => rfl
  | m + 1 => by
    rw [List.range_succ, List.map_append, sumI_append, List.map_cons, List.map_nil, pe_snoc, pe_range x g m, List.length_map, List.length_range]
    simp [sumI]
theorem list_range (f : List Int) : f = (List.range f.length).map fun j => f.getD j 0 := by
  apply List.ext_getElem
  · simp
  · intro i h1 h2
    simp [h1]
theorem pe_sumI (x : Int) (f : List Int) : pe x f = sumI (fun j => f.getD j 0 * x ^ j) (List.range f.length) := by
  conv => lhs; rw [list_range f]
  rw [pe_range]
/-- the weighed sum of polynomials -/
def psum (p : Int) (rows : List (List Int)) (w : List Int) : List Int := (List.range (rows.headD []).length).map fun j => sumI (fun k => w.getD k 0 * (rows.getD k []).getD j 0) (List.range rows.length) % p
theorem psum_len {p : Int} {rows : List (List Int)} {w : List Int} : (psum p rows w).length = (rows.headD []).length := by unfold psum; rw [List.length_map, List.length_range]
theorem psum_in {p : Int} (hp : 0 < p) {rows : List (List Int)} {w : List Int} : InR p (psum p rows w) := fun c hc => by
  obtain ⟨j, _, rfl⟩ := List.mem_map.mp hc
  exact ⟨mod_nn hp, mod_lt hp⟩
theorem psum_pe {p : Int} {rows : List (List Int)} {w : List Int} {m : Nat} (hm : ∀ r ∈ rows, r.length = m) (hne : rows ≠ []) (x : Int) : cg p (pe x (psum p rows w)) (sumI (fun k => w.getD k 0 * pe x (rows.getD k [])) (List.range rows.length)) := by
  have hh : (rows.headD []).length = m := by
    cases rows with
    | nil => exact absurd rfl hne
    | cons r rs => exact hm r List.mem_cons_self
  unfold psum
  rw [hh, pe_range]
  have h1 : cg p (sumI (fun j => (sumI (fun k => w.getD k 0 * (rows.getD k []).getD j 0) (List.range rows.length) % p) * x ^ j) (List.range m)) (sumI (fun j => sumI (fun k => w.getD k 0 * (rows.getD k []).getD j 0) (List.range rows.length) * x ^ j) (List.range m)) := sumI_cg fun j _ => cg.mod.mul .refl
  refine h1.trans (cg.of_eq ?_)
  have h2 : sumI (fun j => sumI (fun k => w.getD k 0 * (rows.getD k []).getD j 0) (List.range rows.length) * x ^ j) (List.range m) = sumI (fun j => sumI (fun k => w.getD k 0 * (rows.getD k []).getD j 0 * x ^ j) (List.range rows.length)) (List.range m) := sumI_congr fun j _ => by
    rw [Int.mul_comm, ← sumI_mul]
    exact sumI_congr fun k _ => by rw [Int.mul_comm]
  rw [h2, sumI_swap]
  refine sumI_congr fun k hk => ?_
  have hk := List.mem_range.mp hk
  have hr : (rows.getD k []).length = m := by
    rw [List.getD_eq_getElem?_getD, List.getElem?_eq_getElem hk]
    exact hm _ (List.getElem_mem hk)
  have h3 := pe_sumI x (rows.getD k [])
  rw [hr] at h3
  rw [h3, ← sumI_mul]
  exact sumI_congr fun j _ => by rw [Int.mul_assoc]
theorem psum_head {p : Int} {rows : List (List Int)} {w : List Int} (h : 0 < (rows.headD []).length) : (psum p rows w).getD 0 0 = sumI (fun k => w.getD k 0 * (rows.getD k []).getD 0 0) (List.range rows.length) % p := by
  unfold psum
  rw [List.getD_eq_getElem?_getD, List.getElem?_map, List.getElem?_range h]
  rfl
/-! products of polynomials -/
def pAddP : List Int → List Int → List Int
  | [], g => g
  | a :: f, [] => a :: f
  | a :: f, b :: g => (a + b) :: pAddP f g
theorem pAddP_len : ∀ f g : List Int, (pAddP f g).length = max f.length g.length
  | [], g => by simp [pAddP]
  | a :: f, [] => by simp [pAddP]
  | a :: f, b :: g => by rw [pAddP, List.length_cons, pAddP_len f g, List.length_cons, List.length_cons]; omega
theorem pAddP_pe (x : Int) : ∀ f g : List Int, pe x (pAddP f g) = pe x f + pe x g
  | [], g => by simp [pAddP, pe]
  | a :: f, [] => by simp [pAddP, pe]
  | a :: f, b :: g => by
    rw [pAddP, show pe x ((a + b) :: pAddP f g) = (a + b) + x * pe x (pAddP f g) from rfl, pAddP_pe x f g, show pe x (a :: f) = a + x * pe x f from rfl, show pe x (b :: g) = b + x * pe x g from rfl]
    grind
def pMul : List Int → List Int → List Int
  | [], _ => []
  | a :: f, g => pAddP (pSc a g) (0 :: pMul f g)
theorem pMul_len : ∀ (f g : List Int), g ≠ [] → (pMul f g).length ≤ f.length + g.length - 1
  | [], g, _ => by simp [pMul]
  | a :: f, g, hg => by
    have ih := pMul_len f g hg
    have hg0 := List.length_pos_iff.mpr hg
    rw [pMul, pAddP_len, sc_len, List.length_cons, List.length_cons]
    omega
theorem pMul_pe (x : Int) : ∀ (f g : List Int), pe x (pMul f g) = pe x f * pe x g
  | [], g => by simp [pMul, pe]
  | a :: f, g => by
    rw [pMul, pAddP_pe, pe_sc, show pe x (0 :: pMul f g) = 0 + x * pe x (pMul f g) from rfl, pMul_pe x f g, show pe x (a :: f) = a + x * pe x f from rfl]
    grind
/-- the weights give the value of every short polynomial -/
theorem wt_val {p : Int} (h : Pr p) {pts f : List Int} (ap : Apart p pts) (hl : f.length ≤ pts.length) (x : Int) : cg p (sumI (fun i => (wtV p pts x).getD i 0 * pe (pts.getD i 0) f) (List.range pts.length)) (pe x f) := by
  have hpad : (f ++ List.replicate (pts.length - f.length) 0).length = (thrV p pts (pts.map fun a => pe a f)).length := by
    rw [List.length_append, List.length_replicate, thrV_len]; omega
  have hpe : ∀ y, pe y (f ++ List.replicate (pts.length - f.length) 0) = pe y f := fun y => by rw [pe_append, pe_rep]; simp
  have h1 := same_poly h.fld (f := f ++ List.replicate (pts.length - f.length) 0) (g := thrV p pts (pts.map fun a => pe a f)) ap (by rw [hpad, thrV_len]; exact Nat.le_refl _) hpad (fun a ha => by
    obtain ⟨k, hk, rfl⟩ := List.getElem_of_mem ha
    rw [hpe]
    have := thrV_at h (vals := pts.map fun a => pe a f) ap hk
    rw [show (pts.map fun a => pe a f).getD k 0 = pe pts[k] f by simp [hk]] at this
    exact this.symm) x
  rw [hpe] at h1
  refine (cg.trans ?_ (thrV_pe (vals := pts.map fun a => pe a f) x).symm).trans h1.symm
  refine sumI_cg fun i hi => ?_
  have hi := List.mem_range.mp hi
  have e1 : (wtV p pts x).getD i 0 = pe x (baseV p pts i) % p := by
    unfold wtV
    rw [List.getD_eq_getElem?_getD, List.getElem?_map, List.getElem?_range hi]
    rfl
  have e2 : (pts.map fun a => pe a f).getD i 0 = pe (pts.getD i 0) f := by simp [hi]
  rw [e1, e2, Int.mul_comm]
  exact cg.refl.mul cg.mod
theorem pe_zero_head (f : List Int) : pe 0 f = f.getD 0 0 := by cases f <;> simp [pe]
/-- a polynomial through its own shares -/
theorem thr_self {p : Int} (h : Pr p) {pts f : List Int} (ap : Apart p pts) (hl : f.length = pts.length) (hf : InR p f) : thrV p pts (pts.map fun a => pe a f % p) = f := by
  refine poly_eq h.fld ap (by rw [thrV_len]; exact Nat.le_refl _) (by rw [thrV_len, hl]) (fun a ha => ?_) (thrV_in h.pos) hf
  obtain ⟨k, hk, rfl⟩ := List.getElem_of_mem ha
  have := thrV_at h (vals := pts.map fun a => pe a f % p) ap hk
  rw [show (pts.map fun a => pe a f % p).getD k 0 = pe pts[k] f % p by simp [hk]] at this
  exact this.trans cg.mod
end U

/-! UTrB: trees of shared defs (printed by lib.py). -/
namespace U
open PySem
abbrev N.shares : Nat := 29
abbrev N.dealt : Nat := 83
abbrev N.joined : Nat := 84
abbrev N.plain_shares : Nat := 85
abbrev N.run : Nat := 86
abbrev N.poly_of : Nat := 87
abbrev N.polys_of : Nat := 88
abbrev N.sent : Nat := 89
abbrev N._law_coins_of : Nat := 90
abbrev N._law_coins : Nat := 91
abbrev N._law_poly_sum : Nat := 92
abbrev N._law_run : Nat := 93
abbrev N._law_shares : Nat := 94
abbrev N.law_k12 : Nat := 95
def p_shares (I : Nat → Nat) : FD := { np := 3, ns := 3, body := (.ret (.call (I N.shares_of) (.cons (.var 0) (.cons (.bin .add (.tup (.cons (.var 1) .nil)) (.var 2)) .nil)))) }
-- slots of shares: 0:setting 1:s 2:coins
structure H_shares (T : Nat → Option FD) (I : Nat → Nat) : Prop where
  at_ : T (I N.shares) = some (p_shares I)
  shares_of : H_shares_of T I
def c_dealt_1 (I : Nat → Nat) : DE := (.bin .add (.tup (.cons (.con (.int 0)) .nil)) (.var 5))
def c_dealt_2 (I : Nat → Nat) : DE := (.bin .add (.tup (.cons (.bin .mod (.b1 .int (.bin .mul (.ix (.var 6) (.var 8)) (.ix (.var 7) (.var 8)))) (.var 4)) .nil)) (.ix (.var 3) (.var 8)))
def p_dealt (I : Nat → Nat) : FD := { np := 4, ns := 9, body := (.seq (.set 4 false (.ix (.var 0) (.con (.int 1))))
    (.seq (.ife (.cmp .eq (.ix (.var 1) (.con (.int 0))) (.con (.str (Str.ofString "kept"))))
    (.ret (.b1 .tuple (.lc (c_dealt_1 I) (.one 5) (.wk .seq (.var 3) .nil) (.con (.bl true)) [5])))
    .skip)
    (.seq (.set 6 false (.ix (.var 2) (.ix (.var 1) (.con (.int 1)))))
    (.seq (.set 7 false (.ix (.var 2) (.ix (.var 1) (.con (.int 2)))))
    (.ret (.b1 .tuple (.lc (c_dealt_2 I) (.one 8) (.wk .rng1 (.b1 .len (.var 3)) .nil) (.con (.bl true)) [8]))))))) }
-- slots of dealt: 0:setting 1:row 2:found 3:coins 4:p 5:some 6:one 7:other 8:k
structure H_dealt (T : Nat → Option FD) (I : Nat → Nat) : Prop where
  at_ : T (I N.dealt) = some (p_dealt I)
def c_joined_1 (I : Nat → Nat) : DE := (.bin .mul (.ix (.var 5) (.var 9)) (.call (I N.value_at) (.cons (.var 4) (.cons (.ix (.var 3) (.var 9)) (.cons (.var 7) .nil)))))
def b_joined_2 (I : Nat → Nat) : DS := (.seq (.set 8 false (.b1 .sum (.lc (c_joined_1 I) (.one 9) (.wk .rng1 (.b1 .len (.var 3)) .nil) (.con (.bl true)) [9])))
    (.seq (.ife (.cmp .eq (.ix (.var 1) (.con (.int 0))) (.con (.str (Str.ofString "kept"))))
    (.set 8 false (.bin .add (.var 8) (.ix (.ix (.var 2) (.ix (.var 1) (.con (.int 1)))) (.bin .sub (.var 7) (.con (.int 1))))))
    .skip)
    (.expr (.m1 .append (.var 6) (.bin .mod (.b1 .int (.var 8)) (.var 4))))))
def p_joined (I : Nat → Nat) : FD := { np := 4, ns := 10, body := (.seq (.set 4 false (.ix (.var 0) (.con (.int 1))))
    (.seq (.set 5 false (.bin .mul (.tup (.cons (.con (.int 1)) .nil)) (.b1 .len (.var 3))))
    (.seq (.ife (.cmp .eq (.ix (.var 1) (.con (.int 0))) (.con (.str (Str.ofString "product"))))
    (.set 5 false (.call (I N.weights) (.cons (.var 4) (.cons (.call (I N.parties) (.cons (.var 0) .nil)) (.cons (.con (.int 0)) .nil)))))
    .skip)
    (.seq (.set 6 true (.lst .nil))
    (.seq (.for_ (.one 7) (.wk .seq (.call (I N.parties) (.cons (.var 0) .nil)) .nil)
    (b_joined_2 I))
    (.ret (.b1 .tuple (.var 6)))))))) }
-- slots of joined: 0:setting 1:row 2:found 3:polys 4:p 5:weighed 6:made 7:party 8:total 9:k
structure H_joined (T : Nat → Option FD) (I : Nat → Nat) : Prop where
  at_ : T (I N.joined) = some (p_joined I)
  parties : H_parties T I
  weights : H_weights T I
  value_at : H_value_at T I
def c_plain_shares_1 (I : Nat → Nat) : DE := (.bin .mod (.b1 .int (.bin .mul (.ix (.var 1) (.con (.int 1))) (.var 4))) (.var 3))
def c_plain_shares_2 (I : Nat → Nat) : DE := (.bin .mod (.b1 .int (.bin .add (.ix (.ix (.var 2) (.ix (.var 1) (.con (.int 1)))) (.var 5)) (.ix (.ix (.var 2) (.ix (.var 1) (.con (.int 2)))) (.var 5)))) (.var 3))
def c_plain_shares_3 (I : Nat → Nat) : DE := (.bin .mod (.b1 .int (.bin .sub (.ix (.ix (.var 2) (.ix (.var 1) (.con (.int 1)))) (.var 5)) (.ix (.ix (.var 2) (.ix (.var 1) (.con (.int 2)))) (.var 5)))) (.var 3))
def p_plain_shares (I : Nat → Nat) : FD := { np := 3, ns := 6, body := (.seq (.set 3 false (.ix (.var 0) (.con (.int 1))))
    (.seq (.ife (.cmp .eq (.ix (.var 1) (.con (.int 0))) (.con (.str (Str.ofString "const"))))
    (.ret (.bin .mul (.tup (.cons (.ix (.var 1) (.con (.int 1))) .nil)) (.ix (.var 0) (.con (.int 2)))))
    .skip)
    (.seq (.ife (.cmp .eq (.ix (.var 1) (.con (.int 0))) (.con (.str (Str.ofString "times"))))
    (.ret (.b1 .tuple (.lc (c_plain_shares_1 I) (.one 4) (.wk .seq (.ix (.var 2) (.ix (.var 1) (.con (.int 2)))) .nil) (.con (.bl true)) [4])))
    .skip)
    (.seq (.ife (.cmp .eq (.ix (.var 1) (.con (.int 0))) (.con (.str (Str.ofString "sum"))))
    (.ret (.b1 .tuple (.lc (c_plain_shares_2 I) (.one 5) (.wk .rng1 (.ix (.var 0) (.con (.int 2))) .nil) (.con (.bl true)) [5])))
    .skip)
    (.seq (.ife (.cmp .eq (.ix (.var 1) (.con (.int 0))) (.con (.str (Str.ofString "less"))))
    (.ret (.b1 .tuple (.lc (c_plain_shares_3 I) (.one 5) (.wk .rng1 (.ix (.var 0) (.con (.int 2))) .nil) (.con (.bl true)) [5])))
    .skip)
    (.ret (.con .non))))))) }
-- slots of plain_shares: 0:setting 1:row 2:found 3:p 4:share 5:k
structure H_plain_shares (T : Nat → Option FD) (I : Nat → Nat) : Prop where
  at_ : T (I N.plain_shares) = some (p_plain_shares I)
def b_run_1 (I : Nat → Nat) : DS := (.seq (.set 8 false (.ix (.ix (.var 1) (.con (.int 1))) (.var 7)))
    (.seq (.set 9 false (.call (I N.taken) (.cons (.var 3) (.cons (.ix (.var 6) (.var 7)) .nil))))
    (.ife (.cmp .eq (.ix (.var 8) (.con (.int 0))) (.con (.str (Str.ofString "in"))))
    (.expr (.m1 .append (.var 4) (.call (I N.shares) (.cons (.var 0) (.cons (.m1 .popAt (.var 5) (.con (.int 0))) (.cons (.ix (.var 9) (.con (.int 0))) .nil))))))
    (.ife (.cmp .in_ (.ix (.var 8) (.con (.int 0))) (.tup (.cons (.con (.str (Str.ofString "product"))) (.cons (.con (.str (Str.ofString "kept"))) .nil))))
    (.expr (.m1 .append (.var 4) (.call (I N.joined) (.cons (.var 0) (.cons (.var 8) (.cons (.var 4) (.cons (.call (I N.dealt) (.cons (.var 0) (.cons (.var 8) (.cons (.var 4) (.cons (.var 9) .nil))))) .nil)))))))
    (.expr (.m1 .append (.var 4) (.call (I N.plain_shares) (.cons (.var 0) (.cons (.var 8) (.cons (.var 4) .nil))))))))))
def p_run (I : Nat → Nat) : FD := { np := 4, ns := 10, body := (.seq (.set 4 true (.lst .nil))
    (.seq (.set 5 true (.b1 .list (.var 2)))
    (.seq (.set 6 false (.call (I N.places) (.cons (.var 0) (.cons (.var 1) .nil))))
    (.seq (.for_ (.one 7) (.wk .rng1 (.b1 .len (.ix (.var 1) (.con (.int 1)))) .nil)
    (b_run_1 I))
    (.ret (.b1 .tuple (.var 4))))))) }
-- slots of run: 0:setting 1:program 2:inputs 3:coins 4:found 5:left 6:rows 7:k 8:row 9:mine
structure H_run (T : Nat → Option FD) (I : Nat → Nat) : Prop where
  at_ : T (I N.run) = some (p_run I)
  places : H_places T I
  taken : H_taken T I
  shares : H_shares T I
  joined : H_joined T I
  plain_shares : H_plain_shares T I
  dealt : H_dealt T I
def p_poly_of (I : Nat → Nat) : FD := { np := 2, ns := 3, body := (.seq (.set 2 false (.sl (.call (I N.parties) (.cons (.var 0) .nil)) .nil (.cons (.bin .add (.ix (.var 0) (.con (.int 3))) (.con (.int 1))) .nil)))
    (.ret (.call (I N.through) (.cons (.ix (.var 0) (.con (.int 1))) (.cons (.var 2) (.cons (.sl (.var 1) .nil (.cons (.bin .add (.ix (.var 0) (.con (.int 3))) (.con (.int 1))) .nil)) .nil)))))) }
-- slots of poly_of: 0:setting 1:row 2:points
structure H_poly_of (T : Nat → Option FD) (I : Nat → Nat) : Prop where
  at_ : T (I N.poly_of) = some (p_poly_of I)
  through : H_through T I
  parties : H_parties T I
def c_polys_of_1 (I : Nat → Nat) : DE := (.ife (.cmp .notN (.var 2) (.con .non)) (.call (I N.poly_of) (.cons (.var 0) (.cons (.var 2) .nil))) (.con .non))
def p_polys_of (I : Nat → Nat) : FD := { np := 2, ns := 3, body := (.ret (.b1 .tuple (.lc (c_polys_of_1 I) (.one 2) (.wk .seq (.var 1) .nil) (.con (.bl true)) [2]))) }
-- slots of polys_of: 0:setting 1:found 2:row
structure H_polys_of (T : Nat → Option FD) (I : Nat → Nat) : Prop where
  at_ : T (I N.polys_of) = some (p_polys_of I)
  poly_of : H_poly_of T I
def c_sent_1 (I : Nat → Nat) : DE := (.tup (.cons (.var 5) (.cons (.ix (.ix (.ix (.var 1) (.con (.int 1))) (.var 5)) (.con (.int 2))) (.cons (.ix (.var 4) (.ix (.ix (.ix (.var 1) (.con (.int 1))) (.var 5)) (.con (.int 1)))) .nil))))
def p_sent (I : Nat → Nat) : FD := { np := 4, ns := 6, body := (.seq (.set 4 false (.call (I N.run) (.cons (.var 0) (.cons (.var 1) (.cons (.var 2) (.cons (.var 3) .nil))))))
    (.ret (.b1 .tuple (.lc (c_sent_1 I) (.one 5) (.wk .seq (.call (I N.output_rows) (.cons (.var 1) .nil)) .nil) (.con (.bl true)) [5])))) }
-- slots of sent: 0:setting 1:program 2:inputs 3:coins 4:found 5:k
structure H_sent (T : Nat → Option FD) (I : Nat → Nat) : Prop where
  at_ : T (I N.sent) = some (p_sent I)
  run : H_run T I
  output_rows : H_output_rows T I
def c__law_coins_of_1 (I : Nat → Nat) : DE := (.bin .mul (.ix (.var 0) (.con (.int 3))) (.dgt (.var 2) (.ix (.var 3) (.con (.int 0))) (.con (.int 0))))
def p__law_coins_of (I : Nat → Nat) : FD := { np := 2, ns := 4, body := (.seq (.set 2 false (.dis [Str.ofString "in", Str.ofString "product", Str.ofString "kept"] (.cons (.con (.int 1)) (.cons (.ix (.var 0) (.con (.int 2))) (.cons (.ix (.var 0) (.con (.int 2))) .nil)))))
    (.ret (.b1 .sum (.lc (c__law_coins_of_1 I) (.one 3) (.wk .seq (.ix (.var 1) (.con (.int 1))) .nil) (.con (.bl true)) [3])))) }
-- slots of _law_coins_of: 0:_law_setting_here 1:_law_program_here 2:_law_each 3:_law_row
structure H__law_coins_of (T : Nat → Option FD) (I : Nat → Nat) : Prop where
  at_ : T (I N._law_coins_of) = some (p__law_coins_of I)
def b__law_coins_1 (I : Nat → Nat) : DS := (.seq (.set 3 false (.bin .mod (.b1 .int (.bin .add (.bin .mul (.var 3) (.con (.int 16807))) (.con (.int 7)))) (.con (.int 2147483647))))
    (.expr (.m1 .append (.var 4) (.bin .mod (.b1 .int (.bin .fdiv (.var 3) (.con (.int 997)))) (.ix (.var 1) (.con (.int 1)))))))
def p__law_coins (I : Nat → Nat) : FD := { np := 3, ns := 6, body := (.seq (.set 3 false (.bin .add (.bin .add (.con (.int 1)) (.bin .mul (.call (I N._law_draw) (.cons (.var 0) (.cons (.con (.int 1000)) .nil))) (.con (.int 1000)))) (.call (I N._law_draw) (.cons (.var 0) (.cons (.con (.int 1000)) .nil)))))
    (.seq (.set 4 true (.lst .nil))
    (.seq (.for_ (.one 5) (.wk .rng1 (.call (I N._law_coins_of) (.cons (.var 1) (.cons (.var 2) .nil))) .nil)
    (b__law_coins_1 I))
    (.ret (.b1 .tuple (.var 4)))))) }
-- slots of _law_coins: 0:_law_box 1:_law_setting_here 2:_law_program_here 3:_law_seed 4:_law_coins_here 5:_law_k
structure H__law_coins (T : Nat → Option FD) (I : Nat → Nat) : Prop where
  at_ : T (I N._law_coins) = some (p__law_coins I)
  _law_draw : H__law_draw T I
  _law_coins_of : H__law_coins_of T I
def c__law_poly_sum_1 (I : Nat → Nat) : DE := (.bin .mul (.ix (.var 2) (.var 3)) (.ix (.ix (.var 1) (.var 3)) (.var 4)))
def c__law_poly_sum_2 (I : Nat → Nat) : DE := (.bin .mod (.b1 .int (.b1 .sum (.lc (c__law_poly_sum_1 I) (.one 3) (.wk .rng1 (.b1 .len (.var 1)) .nil) (.con (.bl true)) [3]))) (.var 0))
def p__law_poly_sum (I : Nat → Nat) : FD := { np := 3, ns := 5, body := (.ret (.b1 .tuple (.lc (c__law_poly_sum_2 I) (.one 4) (.wk .rng1 (.b1 .len (.ix (.var 1) (.con (.int 0)))) .nil) (.con (.bl true)) [4]))) }
-- slots of _law_poly_sum: 0:_law_p 1:_law_rows 2:_law_weighed 3:_law_k 4:_law_j
structure H__law_poly_sum (T : Nat → Option FD) (I : Nat → Nat) : Prop where
  at_ : T (I N._law_poly_sum) = some (p__law_poly_sum I)
def b__law_run_1 (I : Nat → Nat) : DS := (.seq (.set 16 false (.con (.int 0)))
    (.seq (.ife (.cmp .eq (.var 12) (.con (.str (Str.ofString "product"))))
    (.set 16 false (.bin .mod (.b1 .int (.bin .mul (.call (I N._law_at) (.cons (.var 4) (.cons (.ix (.var 7) (.ix (.var 11) (.con (.int 1)))) (.cons (.bin .add (.var 15) (.con (.int 1))) .nil)))) (.call (I N._law_at) (.cons (.var 4) (.cons (.ix (.var 7) (.ix (.var 11) (.con (.int 2)))) (.cons (.bin .add (.var 15) (.con (.int 1))) .nil)))))) (.var 4)))
    .skip)
    (.expr (.m1 .append (.var 14) (.bin .add (.tup (.cons (.var 16) .nil)) (.sl (.var 3) (.cons (.bin .add (.var 10) (.bin .mul (.var 6) (.var 15))) .nil) (.cons (.bin .add (.bin .add (.var 10) (.bin .mul (.var 6) (.var 15))) (.var 6)) .nil)))))))
def b__law_run_2 (I : Nat → Nat) : DS := (.seq (.set 12 false (.ix (.var 11) (.con (.int 0))))
    (.seq (.set 13 false (.con .non))
    (.seq (.set 14 true (.lst .nil))
    (.seq (.ife (.cmp .eq (.var 12) (.con (.str (Str.ofString "in"))))
    (.seq (.set 13 false (.bin .add (.tup (.cons (.ix (.var 2) (.var 9)) .nil)) (.sl (.var 3) (.cons (.var 10) .nil) (.cons (.bin .add (.var 10) (.var 6)) .nil))))
    (.seq (.set 14 true (.lst (.cons (.var 13) .nil)))
    (.set 9 false (.bin .add (.var 9) (.con (.int 1))))))
    (.ife (.cmp .eq (.var 12) (.con (.str (Str.ofString "const"))))
    (.set 13 false (.bin .add (.tup (.cons (.ix (.var 11) (.con (.int 1))) .nil)) (.bin .mul (.tup (.cons (.con (.int 0)) .nil)) (.var 6))))
    (.ife (.cmp .eq (.var 12) (.con (.str (Str.ofString "times"))))
    (.set 13 false (.call (I N._law_poly_sum) (.cons (.var 4) (.cons (.lst (.cons (.ix (.var 7) (.ix (.var 11) (.con (.int 2)))) .nil)) (.cons (.lst (.cons (.ix (.var 11) (.con (.int 1))) .nil)) .nil)))))
    (.ife (.cmp .in_ (.var 12) (.tup (.cons (.con (.str (Str.ofString "sum"))) (.cons (.con (.str (Str.ofString "less"))) .nil))))
    (.set 13 false (.call (I N._law_poly_sum) (.cons (.var 4) (.cons (.lst (.cons (.ix (.var 7) (.ix (.var 11) (.con (.int 1)))) (.cons (.ix (.var 7) (.ix (.var 11) (.con (.int 2)))) .nil))) (.cons (.lst (.cons (.con (.int 1)) (.cons (.ix (.lst (.cons (.neg (.con (.int 1))) (.cons (.con (.int 1)) .nil))) (.b1 .int (.cmp .eq (.var 12) (.con (.str (Str.ofString "sum")))))) .nil))) .nil)))))
    (.ife (.or (.cmp .eq (.var 12) (.con (.str (Str.ofString "product")))) (.cmp .eq (.var 12) (.con (.str (Str.ofString "kept")))))
    (.seq (.for_ (.one 15) (.wk .rng1 (.var 5) .nil)
    (b__law_run_1 I))
    (.ife (.cmp .eq (.var 12) (.con (.str (Str.ofString "product"))))
    (.set 13 false (.call (I N._law_poly_sum) (.cons (.var 4) (.cons (.var 14) (.cons (.call (I N._law_weights) (.cons (.var 4) (.cons (.trng true (.con (.int 1)) (.bin .add (.var 5) (.con (.int 1)))) (.cons (.con (.int 0)) .nil)))) .nil)))))
    (.set 13 false (.call (I N._law_poly_sum) (.cons (.var 4) (.cons (.bin .add (.lst (.cons (.ix (.var 7) (.ix (.var 11) (.con (.int 1)))) .nil)) (.var 14)) (.cons (.bin .mul (.lst (.cons (.con (.int 1)) .nil)) (.bin .add (.var 5) (.con (.int 1)))) .nil)))))))
    .skip)))))
    (.seq (.set 10 false (.bin .add (.var 10) (.bin .mul (.var 6) (.b1 .len (.var 14)))))
    (.seq (.expr (.m1 .append (.var 7) (.var 13)))
    (.expr (.m1 .append (.var 8) (.var 14)))))))))
def p__law_run (I : Nat → Nat) : FD := { np := 4, ns := 17, body := (.seq (.unp [4, 5, 6] (.sl (.var 0) (.cons (.con (.int 1)) .nil) .nil))
    (.seq (.set 7 true (.lst .nil))
    (.seq (.set 8 true (.lst .nil))
    (.seq (.set 9 false (.con (.int 0)))
    (.seq (.set 10 false (.con (.int 0)))
    (.seq (.for_ (.one 11) (.wk .seq (.ix (.var 1) (.con (.int 1))) .nil)
    (b__law_run_2 I))
    (.ret (.lst (.cons (.var 7) (.cons (.var 8) .nil)))))))))) }
-- slots of _law_run: 0:_law_setting_here 1:_law_program_here 2:_law_inputs_here 3:_law_coins_here 4:_law_p 5:_law_n 6:_law_t 7:_law_polys 8:_law_dealt 9:_law_used 10:_law_at_here 11:_law_row 12:_law_kind 13:_law_poly 14:_law_many 15:_law_k 16:_law_first
structure H__law_run (T : Nat → Option FD) (I : Nat → Nat) : Prop where
  at_ : T (I N._law_run) = some (p__law_run I)
  _law_poly_sum : H__law_poly_sum T I
  _law_weights : H__law_weights T I
  _law_at : H__law_at T I
def c__law_shares_1 (I : Nat → Nat) : DE := (.call (I N._law_at) (.cons (.ix (.var 0) (.con (.int 1))) (.cons (.var 1) (.cons (.var 2) .nil))))
def p__law_shares (I : Nat → Nat) : FD := { np := 2, ns := 3, body := (.ret (.b1 .tuple (.lc (c__law_shares_1 I) (.one 2) (.wk .rng2 (.con (.int 1)) (.bin .add (.ix (.var 0) (.con (.int 2))) (.con (.int 1)))) (.con (.bl true)) [2]))) }
-- slots of _law_shares: 0:_law_setting_here 1:_law_poly 2:_law_party
structure H__law_shares (T : Nat → Option FD) (I : Nat → Nat) : Prop where
  at_ : T (I N._law_shares) = some (p__law_shares I)
  _law_at : H__law_at T I
def b_law_k12_1 (I : Nat → Nat) : DS := (.expr (.m1 .append (.var 10) (.ife (.cmp .isN (.var 11) (.con .non)) (.con .non) (.call (I N._law_shares) (.cons (.var 2) (.cons (.var 11) .nil))))))
def c_law_k12_2 (I : Nat → Nat) : DE := (.ife (.cmp .isN (.var 11) (.con .non)) (.con .non) (.ix (.var 11) (.con (.int 0))))
def c_law_k12_3 (I : Nat → Nat) : DE := (.tup (.cons (.var 15) (.cons (.ix (.ix (.var 13) (.var 15)) (.con (.int 2))) (.cons (.ix (.var 10) (.ix (.ix (.var 13) (.var 15)) (.con (.int 1)))) .nil))))
def c_law_k12_4 (I : Nat → Nat) : DE := (.cmp .eq (.ix (.ix (.var 13) (.var 15)) (.con (.int 0))) (.con (.str (Str.ofString "out"))))
def b_law_k12_5 (I : Nat → Nat) : DS := (.seq (.set 7 false (.call (I N._law_coins) (.cons (.var 1) (.cons (.var 2) (.cons (.var 3) .nil)))))
    (.seq (.unp [8, 9] (.call (I N._law_run) (.cons (.var 2) (.cons (.var 3) (.cons (.var 4) (.cons (.var 7) .nil))))))
    (.seq (.set 10 true (.lst .nil))
    (.seq (.for_ (.one 11) (.wk .seq (.var 8) .nil)
    (b_law_k12_1 I))
    (.seq (.set 12 false (.call (I N.run) (.cons (.var 2) (.cons (.var 3) (.cons (.var 4) (.cons (.var 7) .nil))))))
    (.seq (.ife (.or (.not (.call (I N._law_same) (.cons (.var 12) (.cons (.b1 .tuple (.var 10)) .nil)))) (.not (.call (I N._law_same) (.cons (.call (I N.polys_of) (.cons (.var 2) (.cons (.var 12) .nil))) (.cons (.b1 .tuple (.var 8)) .nil)))))
    (.ret (.con (.bl false)))
    .skip)
    (.seq (.ife (.cmp .ne (.lc (c_law_k12_2 I) (.one 11) (.wk .seq (.var 8) .nil) (.con (.bl true)) [11]) (.var 5))
    (.ret (.con (.bl false)))
    .skip)
    (.seq (.set 13 false (.ix (.var 3) (.con (.int 1))))
    (.seq (.set 14 false (.b1 .tuple (.lc (c_law_k12_3 I) (.one 15) (.wk .rng1 (.b1 .len (.var 13)) .nil) (c_law_k12_4 I) [15])))
    (.ife (.not (.call (I N._law_same) (.cons (.call (I N.sent) (.cons (.var 2) (.cons (.var 3) (.cons (.var 4) (.cons (.var 7) .nil))))) (.cons (.var 14) .nil))))
    (.ret (.con (.bl false)))
    .skip))))))))))
def p_law_k12 (I : Nat → Nat) : FD := { np := 1, ns := 16, body := (.seq (.set 1 true (.lst (.cons (.call (I N._law_digits) (.cons (.var 0) (.cons (.con (.int 0)) (.cons (.con (.int 63)) .nil)))) (.cons (.con (.int 0)) .nil))))
    (.seq (.set 2 false (.call (I N._law_setting) (.cons (.var 1) .nil)))
    (.seq (.set 3 false (.call (I N._law_program) (.cons (.var 1) (.cons (.var 2) (.cons (.con (.int 16)) (.cons (.con (.int 2)) .nil))))))
    (.seq (.set 4 false (.call (I N._law_inputs) (.cons (.var 1) (.cons (.var 2) (.cons (.var 3) .nil)))))
    (.seq (.set 5 false (.call (I N._law_values) (.cons (.var 2) (.cons (.var 3) (.cons (.var 4) .nil)))))
    (.seq (.for_ (.one 6) (.wk .rng1 (.con (.int 2)) .nil)
    (b_law_k12_5 I))
    (.ret (.con (.bl true))))))))) }
-- slots of law_k12: 0:_law_script 1:_law_box 2:_law_setting_here 3:_law_program_here 4:_law_inputs_here 5:_law_plain 6:_law_turn 7:_law_coins_here 8:_law_polys 9:_law_dealt 10:_law_due 11:_law_poly 12:_law_told 13:_law_rows 14:_law_outs 15:_law_k
structure H_law_k12 (T : Nat → Option FD) (I : Nat → Nat) : Prop where
  at_ : T (I N.law_k12) = some (p_law_k12 I)
  _law_setting : H__law_setting T I
  _law_program : H__law_program T I
  _law_inputs : H__law_inputs T I
  _law_values : H__law_values T I
  _law_digits : H__law_digits T I
  _law_coins : H__law_coins T I
  _law_run : H__law_run T I
  run : H_run T I
  _law_same : H__law_same T I
  sent : H_sent T I
  _law_shares : H__law_shares T I
  polys_of : H_polys_of T I
end U

set_option maxHeartbeats 2000000
/-! URun: runs, typed: the polynomial of each wire, and what was dealt. -/
namespace U
open PySem
structure RS where
  polys : List (Option (List Int))
  dealt : List (List (List Int))
  left : List Int
  at_ : Nat
def cn (coins : List Int) (t at_ k : Nat) : List Int := (coins.drop (at_ + t * k)).take t
def gp (polys : List (Option (List Int))) (a : Nat) : List Int := ((polys[a]?).getD none).getD []
def wts (p : Int) (q : Nat) : List Int := wtV p (ptI q) 0
def manyP (p : Int) (q t : Nat) (coins : List Int) (st : RS) : Row → List (List Int)
  | .inp _ => [st.left.headD 0 :: cn coins t st.at_ 0]
  | .prod a b => (List.range q).map fun (k : Nat) => ((pe ((k : Int) + 1) (gp st.polys a) % p) * (pe ((k : Int) + 1) (gp st.polys b) % p) % p) :: cn coins t st.at_ k
  | .kept _ => (List.range q).map fun (k : Nat) => 0 :: cn coins t st.at_ k
  | _ => []
def polyP (p : Int) (q t : Nat) (coins : List Int) (st : RS) : Row → Option (List Int)
  | .inp _ => some (st.left.headD 0 :: cn coins t st.at_ 0)
  | .cst c => some (c :: List.replicate t 0)
  | .times c a => some (psum p [gp st.polys a] [c])
  | .sum a b => some (psum p [gp st.polys a, gp st.polys b] [1, 1])
  | .less a b => some (psum p [gp st.polys a, gp st.polys b] [1, -1])
  | .prod a b => some (psum p (manyP p q t coins st (.prod a b)) (wts p q))
  | .kept a => some (psum p (gp st.polys a :: manyP p q t coins st (.kept a)) (List.replicate (q + 1) 1))
  | _ => none
def rstep (p : Int) (q t : Nat) (coins : List Int) (st : RS) (r : Row) : RS :=
  ⟨st.polys ++ [polyP p q t coins st r], st.dealt ++ [manyP p q t coins st r], if r.isIn then st.left.tail else st.left, st.at_ + t * manyR q r⟩
def runV (p : Int) (q t : Nat) (coins inputs : List Int) (rows : List Row) : RS := rows.foldl (rstep p q t coins) ⟨[], [], inputs, 0⟩
def needs (q t : Nat) (rows : List Row) : Nat := (rows.map fun r => t * manyR q r).sum
theorem many_len {p : Int} {q t : Nat} {coins : List Int} {st : RS} {r : Row} : (manyP p q t coins st r).length = manyR q r := by
  cases r <;> simp [manyP, manyR]
structure RI (p q t : Nat) (coins : List Int) (pre suf : List Row) (st : RS) : Prop where
  prog : Prog p q (pre ++ suf)
  len : st.polys.length = pre.length
  dlen : st.dealt.length = pre.length
  wire : ∀ (a : Nat) (r : Row), pre[a]? = some r → r.wire = true → ∃ f, st.polys[a]? = some (some f) ∧ f.length = t + 1 ∧ InR p f
  none : ∀ (a : Nat) (r : Row), pre[a]? = some r → r.wire = false → st.polys[a]? = some none
  inr : InR p st.left
  left : st.left.length = nIn suf
  co : InR p coins
  room : st.at_ + needs q t suf ≤ coins.length
theorem RI.gp {p q t : Nat} {coins : List Int} {pre suf : List Row} {st : RS} (h : RI p q t coins pre suf st) {e a : Nat} (hw : Wire pre e a) : st.polys[a]? = some (some (gp st.polys a)) ∧ (gp st.polys a).length = t + 1 ∧ InR p (gp st.polys a) := by
  obtain ⟨r, h1, h2, _⟩ := hw
  obtain ⟨f, h3, h4, h5⟩ := h.wire a r h1 h2
  have : U.gp st.polys a = f := by unfold U.gp; rw [h3]; rfl
  rw [this]
  exact ⟨h3, h4, h5⟩
theorem cn_len {coins : List Int} {t at_ k : Nat} (h : at_ + t * (k + 1) ≤ coins.length) : (cn coins t at_ k).length = t := by
  unfold cn
  rw [List.length_take, List.length_drop]
  rw [Nat.mul_succ] at h
  omega
theorem cn_in {p : Int} {coins : List Int} (h : InR p coins) {t at_ k : Nat} : InR p (cn coins t at_ k) := fun c hc => h c (List.mem_of_mem_drop (List.mem_of_mem_take hc))
theorem RI.room1 {p q t : Nat} {coins : List Int} {pre suf : List Row} {r : Row} {st : RS} (h : RI p q t coins pre (r :: suf) st) {k : Nat} (hk : k < manyR q r) : st.at_ + t * (k + 1) ≤ coins.length := by
  have := h.room
  unfold needs at this
  rw [List.map_cons, List.sum_cons] at this
  have h2 := Nat.mul_le_mul_left t (show k + 1 ≤ manyR q r from hk)
  omega
theorem RI.many {p q t : Nat} {coins : List Int} {pre suf : List Row} {r : Row} {st : RS} (h : RI p q t coins pre (r :: suf) st) (hp : 0 < p) : ∀ f ∈ manyP p q t coins st r, f.length = t + 1 ∧ InR p f := fun f hf => by
  have hr := h.prog.at rfl
  have p0 : (0 : Int) < p := by omega
  cases r with
  | inp j =>
    have hf : f = st.left.headD 0 :: cn coins t st.at_ 0 := by simpa [manyP] using hf
    subst hf
    refine ⟨by rw [List.length_cons, cn_len (h.room1 (k := 0) (by simp [manyR]))], fun c hc => ?_⟩
    rcases List.mem_cons.mp hc with rfl | hc
    · have hl := h.left
      cases hs : st.left with
      | nil => rw [hs] at hl; simp [nIn, List.filter_cons, Row.isIn] at hl
      | cons x xs => exact h.inr x (by rw [hs]; simp)
    · exact cn_in h.co c hc
  | prod a b =>
    obtain ⟨k, hk, rfl⟩ := List.mem_map.mp hf
    refine ⟨by rw [List.length_cons, cn_len (h.room1 (k := k) (List.mem_range.mp hk))], fun c hc => ?_⟩
    rcases List.mem_cons.mp hc with rfl | hc
    · exact ⟨mod_nn p0, mod_lt p0⟩
    · exact cn_in h.co c hc
  | kept a =>
    obtain ⟨k, hk, rfl⟩ := List.mem_map.mp hf
    refine ⟨by rw [List.length_cons, cn_len (h.room1 (k := k) (List.mem_range.mp hk))], fun c hc => ?_⟩
    rcases List.mem_cons.mp hc with rfl | hc
    · omega
    · exact cn_in h.co c hc
  | _ => simp [manyP] at hf
theorem headD_len {rows : List (List Int)} {m : Nat} (h : ∀ r ∈ rows, r.length = m) (hne : rows ≠ []) : (rows.headD []).length = m := by
  cases rows with
  | nil => exact absurd rfl hne
  | cons r rs => exact h r List.mem_cons_self
theorem RI.poly {p q t : Nat} {coins : List Int} {pre suf : List Row} {r : Row} {st : RS} (h : RI p q t coins pre (r :: suf) st) (hp : 0 < p) (hq : 1 ≤ q) (hw : r.wire = true) : ∃ f, polyP p q t coins st r = some f ∧ f.length = t + 1 ∧ InR p f := by
  have hr := h.prog.at rfl
  have hm := h.many hp
  have p0 : (0 : Int) < p := by omega
  cases r with
  | inp j =>
    have := hm _ (List.mem_singleton.mpr rfl)
    exact ⟨_, rfl, this⟩
  | cst c =>
    refine ⟨_, rfl, by simp, fun x hx => ?_⟩
    rcases List.mem_cons.mp hx with rfl | hx
    · exact hr
    · rw [(List.mem_replicate.mp hx).2]; omega
  | times c a =>
    obtain ⟨_, g2, g3⟩ := h.gp hr.2
    exact ⟨_, rfl, by rw [psum_len]; exact g2, psum_in p0⟩
  | sum a b =>
    obtain ⟨_, g2, g3⟩ := h.gp hr.1
    exact ⟨_, rfl, by rw [psum_len]; exact g2, psum_in p0⟩
  | less a b =>
    obtain ⟨_, g2, g3⟩ := h.gp hr.1
    exact ⟨_, rfl, by rw [psum_len]; exact g2, psum_in p0⟩
  | prod a b =>
    refine ⟨_, rfl, ?_, psum_in p0⟩
    rw [psum_len]
    refine headD_len (fun f hf => (hm f hf).1) (fun z => ?_)
    have := congrArg List.length z
    rw [many_len] at this
    simp [manyR] at this
    omega
  | kept a =>
    obtain ⟨e, _, hwk⟩ := hr
    obtain ⟨_, g2, g3⟩ := h.gp hwk
    exact ⟨_, rfl, by rw [psum_len]; exact g2, psum_in p0⟩
  | out _ _ => simp [Row.wire] at hw
  | next => simp [Row.wire] at hw
theorem poly_none {p : Int} {q t : Nat} {coins : List Int} {st : RS} {r : Row} (hw : r.wire = false) : polyP p q t coins st r = none := by
  cases r <;> simp [Row.wire] at hw <;> rfl
theorem RI.step {p q t : Nat} {coins : List Int} {pre suf : List Row} {r : Row} {st : RS} (h : RI p q t coins pre (r :: suf) st) (hp : 0 < p) (hq : 1 ≤ q) : RI p q t coins (pre ++ [r]) suf (rstep p q t coins st r) := by
  have at_last : ∀ {a : Nat} {r' : Row}, (pre ++ [r])[a]? = some r' → ¬ a < pre.length → a = pre.length ∧ r' = r := fun {a r'} ha hl => by
    have := (List.getElem?_eq_some_iff.mp ha).1
    rw [List.length_append] at this
    simp at this
    have hl2 : a = pre.length := by omega
    subst hl2
    rw [List.getElem?_append_right (Nat.le_refl _)] at ha
    simp at ha
    exact ⟨rfl, ha.symm⟩
  refine ⟨by rw [List.append_assoc]; exact h.prog, by unfold rstep; rw [List.length_append, List.length_append, h.len]; rfl, by unfold rstep; rw [List.length_append, List.length_append, h.dlen]; rfl, fun a r' ha hw => ?_, fun a r' ha hw => ?_, fun c hc => ?_, ?_, h.co, ?_⟩
  · unfold rstep
    by_cases hl : a < pre.length
    · rw [List.getElem?_append_left hl] at ha
      obtain ⟨v, h1, h2⟩ := h.wire a r' ha hw
      exact ⟨v, by rw [List.getElem?_append_left (by rw [h.len]; exact hl)]; exact h1, h2⟩
    · obtain ⟨rfl, rfl⟩ := at_last ha hl
      obtain ⟨v, h1, h2⟩ := h.poly hp hq hw
      exact ⟨v, by rw [List.getElem?_append_right (by rw [h.len]; exact Nat.le_refl _), h.len, h1]; simp, h2⟩
  · unfold rstep
    by_cases hl : a < pre.length
    · rw [List.getElem?_append_left hl] at ha
      rw [List.getElem?_append_left (by rw [h.len]; exact hl)]
      exact h.none a r' ha hw
    · obtain ⟨rfl, rfl⟩ := at_last ha hl
      rw [List.getElem?_append_right (by rw [h.len]; exact Nat.le_refl _), h.len, poly_none hw]
      simp
  · unfold rstep at hc
    dsimp only at hc
    split at hc
    · exact h.inr c (List.mem_of_mem_tail hc)
    · exact h.inr c hc
  · have := h.left
    unfold rstep nIn at *
    rw [List.filter_cons] at this
    cases hi : r.isIn with
    | true => rw [hi] at this; simp at this; simp [this]
    | false => rw [hi] at this; simpa using this
  · have := h.room
    unfold needs at this ⊢
    rw [List.map_cons, List.sum_cons] at this
    unfold rstep
    dsimp only
    omega
theorem RI.start {p q t : Nat} {coins inputs : List Int} {rows : List Row} (hP : Prog p q rows) (hi : InR p inputs) (hn : inputs.length = nIn rows) (hc : InR p coins) (hl : needs q t rows ≤ coins.length) : RI p q t coins [] rows ⟨[], [], inputs, 0⟩ :=
  ⟨hP, rfl, rfl, fun a r h => (by simp at h), fun a r h => (by simp at h), hi, hn, hc, by simpa using hl⟩
theorem RI.run {p q t : Nat} {coins : List Int} (hp : 0 < p) (hq : 1 ≤ q) : ∀ {suf pre : List Row} {st : RS}, RI p q t coins pre suf st → RI p q t coins (pre ++ suf) [] (suf.foldl (rstep p q t coins) st)
  | [], pre, st, h => by rw [List.append_nil]; exact h
  | r :: suf, pre, st, h => by
    have := (h.step hp hq).run hp hq
    rw [List.append_assoc] at this
    exact this
theorem pln_needs {q t : Nat} : ∀ (rows : List Row) (st : List (List (List Int)) × Nat), (rows.foldl (plstep q t) st).2 = st.2 + needs q t rows
  | [], st => by simp [needs]
  | r :: rows, st => by
    rw [List.foldl_cons, pln_needs rows]
    unfold needs plstep
    rw [List.map_cons, List.sum_cons]
    dsimp only
    omega
/-! shares of the polynomials -/
def oshD (p : Int) (q : Nat) : Option (List Int) → D
  | none => .non
  | some f => ti (sharesV p q f)
def opD : Option (List Int) → D
  | none => .non
  | some f => ti f
@[simp] theorem oshD_none {p : Int} {q : Nat} : oshD p q none = .non := (rfl)
@[simp] theorem oshD_some {p : Int} {q : Nat} {f : List Int} : oshD p q (some f) = ti (sharesV p q f) := (rfl)
@[simp] theorem opD_none : opD none = .non := (rfl)
@[simp] theorem opD_some {f : List Int} : opD (some f) = ti f := (rfl)
theorem shares_map {p : Int} {q : Nat} {f : List Int} : sharesV p q f = (List.range q).map fun (k : Nat) => pe ((k : Int) + 1) f % p := by
  unfold sharesV
  rw [pt_map, List.map_map]
  rfl
theorem shares_cg {p : Int} {q : Nat} {f : List Int} {g : Nat → Int} (h : ∀ k, k < q → cg p (pe ((k : Int) + 1) f) (g k)) : sharesV p q f = (List.range q).map fun (k : Nat) => g k % p := by
  rw [shares_map]
  refine List.map_congr_left fun k hk => ?_
  exact h k (List.mem_range.mp hk)
theorem sh_sum {p : Int} {q t : Nat} {f g : List Int} (hf : f.length = t + 1) (hg : g.length = t + 1) : sharesV p q (psum p [f, g] [1, 1]) = (List.range q).map fun (k : Nat) => ((sharesV p q f).getD k 0 + (sharesV p q g).getD k 0) % p := by
  refine shares_cg fun (k : Nat) hk => ?_
  refine (psum_pe (m := t + 1) (by simp [hf, hg]) (by simp) _).trans ?_
  rw [List.getD_eq_getElem?_getD, shares_get hk, List.getD_eq_getElem?_getD, shares_get hk]
  simp only [List.length_cons, List.length_nil, Nat.zero_add, Option.getD_some]
  have h1 : sumI (fun k_1 => ([1, 1] : List Int).getD k_1 0 * pe ((k : Int) + 1) (([f, g] : List (List Int)).getD k_1 [])) (List.range (1 + 1)) = pe ((k : Int) + 1) f + pe ((k : Int) + 1) g := by
    simp [List.range_succ, sumI]
  rw [h1]
  exact (cg.mod.add cg.mod).symm
theorem sh_less {p : Int} {q t : Nat} {f g : List Int} (hf : f.length = t + 1) (hg : g.length = t + 1) : sharesV p q (psum p [f, g] [1, -1]) = (List.range q).map fun (k : Nat) => ((sharesV p q f).getD k 0 - (sharesV p q g).getD k 0) % p := by
  refine shares_cg fun (k : Nat) hk => ?_
  refine (psum_pe (m := t + 1) (by simp [hf, hg]) (by simp) _).trans ?_
  rw [List.getD_eq_getElem?_getD, shares_get hk, List.getD_eq_getElem?_getD, shares_get hk]
  simp only [List.length_cons, List.length_nil, Nat.zero_add, Option.getD_some]
  have h1 : sumI (fun k_1 => ([1, -1] : List Int).getD k_1 0 * pe ((k : Int) + 1) (([f, g] : List (List Int)).getD k_1 [])) (List.range (1 + 1)) = pe ((k : Int) + 1) f - pe ((k : Int) + 1) g := by
    simp [List.range_succ, sumI]
    omega
  rw [h1]
  exact (cg.mod.sub cg.mod).symm
theorem sh_times {p c : Int} {q t : Nat} {f : List Int} (hf : f.length = t + 1) : sharesV p q (psum p [f] [c]) = (sharesV p q f).map fun s => c * s % p := by
  rw [shares_map (f := f), List.map_map]
  refine shares_cg fun (k : Nat) hk => ?_
  refine (psum_pe (m := t + 1) (by simp [hf]) (by simp) _).trans ?_
  have h1 : sumI (fun k_1 => ([c] : List Int).getD k_1 0 * pe ((k : Int) + 1) (([f] : List (List Int)).getD k_1 [])) (List.range ([f] : List (List Int)).length) = c * pe ((k : Int) + 1) f := by
    simp [List.range_succ, sumI]
  rw [h1]
  exact (cg.refl.mul cg.mod).symm
theorem sh_cst {p c : Int} {q t : Nat} (h0 : 0 ≤ c) (h1 : c < p) : sharesV p q (c :: List.replicate t 0) = List.replicate q c := by
  rw [shares_map]
  have : (List.range q).map (fun k : Nat => pe ((k : Int) + 1) (c :: List.replicate t 0) % p) = (List.range q).map fun _ => c := List.map_congr_left fun k _ => by
    rw [show pe ((k : Int) + 1) (c :: List.replicate t 0) = c + ((k : Int) + 1) * pe ((k : Int) + 1) (List.replicate t 0) from rfl, pe_rep]
    simp
    exact Int.emod_eq_of_lt h0 h1
  rw [this, List.map_const', List.length_range]
theorem sh_join {p : Int} {q t : Nat} {rows : List (List Int)} {w : List Int} (hm : ∀ r ∈ rows, r.length = t + 1) (hne : rows ≠ []) : sharesV p q (psum p rows w) = (List.range q).map fun (k : Nat) => sumI (fun i => w.getD i 0 * (pe ((k : Int) + 1) (rows.getD i []) % p)) (List.range rows.length) % p := by
  refine shares_cg fun (k : Nat) hk => ?_
  refine (psum_pe (m := t + 1) hm hne _).trans ?_
  exact sumI_cg fun i _ => cg.refl.mul cg.mod.symm
theorem sh_kept {p : Int} {q t : Nat} {f : List Int} {rows : List (List Int)} (hf : f.length = t + 1) (hm : ∀ r ∈ rows, r.length = t + 1) (hl : rows.length = q) : sharesV p q (psum p (f :: rows) (List.replicate (q + 1) 1)) = (List.range q).map fun (k : Nat) => (sumI (fun i => 1 * (pe ((k : Int) + 1) (rows.getD i []) % p)) (List.range rows.length) + (sharesV p q f).getD k 0) % p := by
  refine shares_cg fun (k : Nat) hk => ?_
  refine (psum_pe (m := t + 1) (fun r hr => (List.mem_cons.mp hr).elim (fun z => z ▸ hf) (hm r)) (by simp) _).trans ?_
  rw [List.getD_eq_getElem?_getD, shares_get hk]
  have h1 : sumI (fun i => (List.replicate (q + 1) (1 : Int)).getD i 0 * pe ((k : Int) + 1) ((f :: rows).getD i [])) (List.range (f :: rows).length) = pe ((k : Int) + 1) f + sumI (fun i => 1 * pe ((k : Int) + 1) (rows.getD i [])) (List.range rows.length) := by
    rw [List.length_cons, List.range_succ_eq_map, sumI]
    have e : ∀ (g : Nat → Int) (is : List Nat), sumI g (is.map Nat.succ) = sumI (fun i => g (i + 1)) is := by
      intro g is
      induction is with
      | nil => rfl
      | cons a is ih => rw [List.map_cons, sumI, sumI, ih]
    rw [e]
    congr 1
    · simp
    · refine sumI_congr fun i hi => ?_
      have hi := List.mem_range.mp hi
      rw [List.getD_eq_getElem?_getD, List.getElem?_replicate, if_pos (by omega)]
      simp
  rw [h1, Int.add_comm]
  exact (sumI_cg fun i _ => cg.refl.mul cg.mod.symm).add cg.mod.symm
end U

set_option maxHeartbeats 2000000
/-! URunS: the program's run, walked. -/
namespace U
open PySem
variable {T : Nat → Option FD} {I : Nat → Nat} {n : Nat} {S : St}
def cnM (coins : List Int) (t at_ m : Nat) : List (List Int) := (List.range m).map fun (k : Nat) => cn coins t at_ k
theorem cn_range {coins : List Int} {t lo : Nat} (h : lo + t ≤ coins.length) : (coins.drop lo).take t = (List.range' lo t).map fun (j : Nat) => coins.getD j 0 := by
  apply List.ext_getElem
  · simp; omega
  · intro i h1 h2
    simp at h1 h2 ⊢
    rw [List.getElem?_eq_getElem (by omega)]
    rfl
theorem tis_ix {l : List (List Int)} {k : Nat} {f : List Int} (h : l[k]? = some f) : ixV (.d (ttD l)) (.d (.int k)) S = .ok (.d (ti f)) S := ix_tup (by rw [List.getElem?_map, h]; rfl)
theorem cnM_get {coins : List Int} {t at_ m k : Nat} (h : k < m) : (cnM coins t at_ m)[k]? = some (cn coins t at_ k) := by
  unfold cnM
  rw [List.getElem?_map, List.getElem?_range h]
  rfl
theorem cnM_len {coins : List Int} {t at_ m : Nat} : (cnM coins t at_ m).length = m := by unfold cnM; rw [List.length_map, List.length_range]
theorem s_taken (hT : H_taken T I) {coins : List Int} {t at_ m : Nat} (hm : m ≤ 100) (ht : t ≤ 100) (hl : at_ + t * m ≤ coins.length) :
    callN T (n + 1) (I N.taken) [.d (ti coins), .d (ttD (plR t at_ m))] S = .ok (.d (ttD (cnM coins t at_ m))) S := by
  rw [call_eq hT.at_ rfl]
  simp only [p_taken, S_ret, E_b1]
  rw [lc_map (enc := fun (k : Nat) => ti (rngI (at_ + t * k) t)) (l := List.range m) (g := fun (k : Nat) => ti (cn coins t at_ k)) (v := fun (k : Nat) => .d (ti (cn coins t at_ k))) (at_ := none) ?hw rfl ?hl (fun k hk => ⟨rfl, ?hc, rfl⟩)]
  · simp [cnM, List.map_map]
  case hw => simp [varV, plR, List.map_map]
  case hl => rw [List.length_range]; omega
  case hc =>
    have hk := List.mem_range.mp hk
    have hb : t * k + t ≤ t * m := by rw [← Nat.mul_succ]; exact Nat.mul_le_mul_left t hk
    simp only [c_taken_2, E_b1]
    rw [lc_map (enc := fun (j : Nat) => D.int (j : Int)) (l := List.range' (at_ + t * k) t) (g := fun (j : Nat) => .int (coins.getD j 0)) (v := fun (j : Nat) => .d (.int (coins.getD j 0))) (at_ := none) ?hw2 rfl ?hl2 (fun j hj => ⟨rfl, ?hc2, rfl⟩)]
    · rw [cn, cn_range (by omega)]
      simp [List.map_map]
    case hw2 => simp [Env.put, wipeE, varV, rngI, List.map_map]
    case hl2 => rw [List.length_range']; omega
    case hc2 =>
      rw [List.mem_range'_1] at hj
      have ei : ∀ S : St, ixV (.d (ti coins)) (.d (.int j)) S = .ok (.d (.int (coins.getD j 0))) S := fun S => by
        refine ix_tup ?_
        rw [List.getElem?_map, List.getElem?_eq_getElem (by omega)]
        simp [List.getD_eq_getElem?_getD, List.getElem?_eq_getElem (show j < coins.length by omega)]
      simp [Env.put, wipeE, c_taken_1, varV, ei]
theorem s_shares (hT : H_shares T I) {p t : Int} {q : Nat} (hp : 0 < p ∧ p ≤ 1000000) (hq : q ≤ 1000) {s : Int} {f : List Int} (hf : f.length ≤ 100000) : callN T (n + 3) (I N.shares) [.d (setD p q t), .d (.int s), .d (ti f)] S = .ok (.d (ti (sharesV p q (s :: f)))) S := by
  have e1 := s_sharesof (n := n) (S := S.call) hT.shares_of.at_ hT.shares_of.value_at.at_ hT.shares_of.parties.at_ (t := t) hp hq (s :: f)
  have eb : ∀ S : St, binV .add (.d (.tup [D.int s])) (.d (ti f)) S = .ok (.d (ti (s :: f))) S := fun S => bin_tup (by simp; omega)
  rw [call_eq hT.at_ rfl]
  have z1 : sz 1 = true := rfl
  simp [p_shares, varV, z1, eb, e1]
section
variable {p q t : Nat} {coins : List Int} {pre suf : List Row} {st : RS} {r : Row} {u i : Nat}
theorem RI.ixf (h : RI p q t coins pre suf st) (g1 : S.get u i = some ⟨false, .lst (st.polys.map (oshD p q))⟩) {e a : Nat} (hw : Wire pre e a) : ixV (.loc u i) (.d (.int (a : Nat))) S = .ok (.d (ti (sharesV p q (U.gp st.polys a)))) S := by
  refine ix_loc g1 ?_
  rw [List.getElem?_map, (h.gp hw).1]
  rfl
theorem shv_ix {p : Int} {q k : Nat} {f : List Int} (hk : k < q) : ixV (.d (ti (sharesV p q f))) (.d (.int k)) S = .ok (.d (.int (pe ((k : Int) + 1) f % p))) S := ix_tup (by rw [List.getElem?_map, shares_get hk]; rfl)
theorem s_dealtV {v : SV} (hT : H_dealt T I) (h : RI p q t coins pre (r :: suf) st) (hs : SetOk p q t) (hd : (∃ a b, r = .prod a b) ∨ (∃ a, r = .kept a)) (gx : ∀ {e a : Nat}, Wire pre e a → ixV (shift v).rv (.d (.int (a : Nat))) S.call = .ok (.d (ti (sharesV p q (gp st.polys a)))) S.call) :
    callN T (n + 1) (I N.dealt) [.d (setD p q t), .d r.enc, v, .d (ttD (cnM coins t st.at_ (manyR q r)))] S = .ok (.d (ttD (manyP p q t coins st r))) S := by
  have plo := hs.pr.lo
  have phi := hs.hp
  have hq9 := hs.q9
  have htq := hs.tq
  have hr := h.prog.at rfl
  have ck : ∀ k, k < q → (cn coins t st.at_ k).length ≤ 100 := fun k hk => by
    unfold cn
    rw [List.length_take]
    omega
  rw [call_eq hT.at_ rfl]
  rcases hd with ⟨a, b, rfl⟩ | ⟨a, rfl⟩
  · have x1 := gx hr.1
    have x2 := gx hr.2
    simp [-E_lc, p_dealt, varV, set_ix1, x1, x2]
    rw [lc_map (enc := fun (k : Nat) => D.int (k : Int)) (l := List.range q) (g := fun (k : Nat) => ti (((pe ((k : Int) + 1) (gp st.polys a) % p) * (pe ((k : Int) + 1) (gp st.polys b) % p) % p) :: cn coins t st.at_ k)) (v := fun (k : Nat) => .d (ti (((pe ((k : Int) + 1) (gp st.polys a) % p) * (pe ((k : Int) + 1) (gp st.polys b) % p) % p) :: cn coins t st.at_ k))) (at_ := none) ?hw rfl ?hl (fun k hk => ⟨rfl, ?hc, rfl⟩)]
    · simp [manyP, List.map_map]
    case hw => simp [varV, cnM_len, manyR, rng1_nat (q := q) (by omega)]
    case hl => rw [List.length_range]; omega
    case hc =>
      have hk := List.mem_range.mp hk
      have y1 := shv_ix (S := S.call) (p := (p : Int)) (f := gp st.polys a) hk
      have y2 := shv_ix (S := S.call) (p := (p : Int)) (f := gp st.polys b) hk
      have y3 := tis_ix (S := S.call) (cnM_get (coins := coins) (t := t) (at_ := st.at_) (m := manyR q (.prod a b)) (k := k) hk)
      have z1 := mod_nn (i := pe ((k : Int) + 1) (gp st.polys a)) (show (0 : Int) < p by omega)
      have z2 := mod_lt (i := pe ((k : Int) + 1) (gp st.polys a)) (show (0 : Int) < p by omega)
      generalize pe ((k : Int) + 1) (gp st.polys a) % (p : Int) = xa at *
      generalize pe ((k : Int) + 1) (gp st.polys b) % (p : Int) = xb at *
      have eb : ∀ (S : St) (c : Int), binV .add (.d (.tup [D.int c])) (.d (ti (cn coins t st.at_ k))) S = .ok (.d (ti (c :: cn coins t st.at_ k))) S := fun S c => bin_tup (by have := ck k hk; simp; omega)
      have z0 : sz 1 = true := rfl
      simp [z0, Env.put, wipeE, c_dealt_2, varV, y1, y2, y3, mul_l (i := xa) (j := xb) (by omega) (by omega), bop_mod (j := (p : Int)) (by omega), eb]
  · simp [-E_lc, p_dealt, varV, set_ix1]
    rw [lc_map (enc := fun (k : Nat) => ti (cn coins t st.at_ k)) (l := List.range q) (g := fun (k : Nat) => ti (0 :: cn coins t st.at_ k)) (v := fun (k : Nat) => .d (ti (0 :: cn coins t st.at_ k))) (at_ := none) ?hw rfl ?hl (fun k hk => ⟨rfl, ?hc, rfl⟩)]
    · simp [manyP, List.map_map]
    case hw => simp [varV, cnM, manyR, List.map_map]
    case hl => rw [List.length_range]; omega
    case hc =>
      have hk := List.mem_range.mp hk
      have eb : ∀ (S : St) (c : Int), binV .add (.d (.tup [D.int c])) (.d (ti (cn coins t st.at_ k))) S = .ok (.d (ti (c :: cn coins t st.at_ k))) S := fun S c => bin_tup (by have := ck k hk; simp; omega)
      have z1 : sz 1 = true := rfl
      simp [z1, Env.put, wipeE, c_dealt_1, varV, eb]

theorem s_dealt (hT : H_dealt T I) (h : RI p q t coins pre (r :: suf) st) (hs : SetOk p q t) (hd : (∃ a b, r = .prod a b) ∨ (∃ a, r = .kept a)) (g1 : S.get u i = some ⟨false, .lst (st.polys.map (oshD p q))⟩) :
    callN T (n + 1) (I N.dealt) [.d (setD p q t), .d r.enc, .loc u i, .d (ttD (cnM coins t st.at_ (manyR q r)))] S = .ok (.d (ttD (manyP p q t coins st r))) S :=
  s_dealtV (v := .loc u i) hT h hs hd fun hw => h.ixf (by rw [call_get]; exact g1) hw
def wgt (p : Int) (q : Nat) (r : Row) (m : Nat) : List Int := match r with
  | .prod _ _ => wts p q
  | _ => List.replicate m 1
theorem wts_len {p : Int} {q : Nat} : (wts p q).length = q := by
  unfold wts wtV
  rw [List.length_map, List.length_range, pt_len]
theorem wts_in {p : Int} (hp : 0 < p) {q : Nat} : InR p (wts p q) := fun c hc => by
  unfold wts wtV at hc
  obtain ⟨j, _, rfl⟩ := List.mem_map.mp hc
  exact ⟨mod_nn hp, mod_lt hp⟩
theorem rep_c {c : Int} (k : Nat) : rep k [D.int c] = (List.replicate k c).map D.int := by
  unfold rep
  induction k with
  | zero => rfl
  | succ k ih => rw [List.replicate_succ, List.flatten_cons, ih, List.replicate_succ, List.map_cons]; rfl
theorem mul_ones {k : Nat} (h : k ≤ 1000) : binV .mul (.d (.tup [.int 1])) (.d (.int (k : Int))) S = .ok (.d (ti (List.replicate k 1))) S := by
  rw [mul_tup (by omega) (by omega) (by simp), show ((k : Int)).toNat = k from rfl]
  have : rep k [D.int 1] = (List.replicate k (1 : Int)).map D.int := by
    unfold rep
    induction k with
    | zero => rfl
    | succ k ih => rw [List.replicate_succ, List.flatten_cons, ih (by omega), List.replicate_succ, List.map_cons]; rfl
  rw [this]
theorem polyT (hT : H_bases T I) : PolyT T (I N.power) (I N.inverse) (I N.value_at) (I N.added) (I N.scaled) (I N.with_root) (I N.roots_at) := by
  constructor
  all_goals first
    | exact hT.inverse.power.at_
    | exact hT.inverse.at_
    | exact hT.value_at.at_
    | exact hT.roots_at.with_root.added.at_
    | exact hT.scaled.at_
    | exact hT.roots_at.with_root.at_
    | exact hT.roots_at.at_
theorem j_sum {C : Nat → List SV → M RV} {ρ : Env} {m : Nat} {ys : List (List Int)} {w : List Int} {p x : Int} (hp : 0 < p ∧ p ≤ 1000000) (hC : ∀ f : List Int, C (I N.value_at) [.d (.int p), .d (ti f), .d (.int x)] S = .ok (.d (.int (pe x f % p))) S)
    (hw : w.length = ys.length) (hwr : ∀ c ∈ w, -1000000 ≤ c ∧ c ≤ 1000000) (hl : ys.length ≤ 1000) {a0 a1 a2 a8 : Option SV} {a6 : SV} :
    evE C (.b1 .sum (.lc (c_joined_1 I) (.one 9) (.wk .rng1 (.b1 .len (.var 3)) .nil) (.con (.bl true)) [9])) [a0, a1, a2, some (.d (ttD ys)), some (.d (.int p)), some (.d (ti w)), some a6, some (.d (.int x)), a8, none] S =
      .ok (.d (.int (sumI (fun i => w.getD i 0 * (pe x (ys.getD i []) % p)) (List.range ys.length)))) S := by
  rw [E_b1, lc_map (enc := fun (k : Nat) => D.int (k : Int)) (l := List.range ys.length) (g := fun (k : Nat) => .int (w.getD k 0 * (pe x (ys.getD k []) % p))) (v := fun (k : Nat) => .d (.int (w.getD k 0 * (pe x (ys.getD k []) % p)))) (at_ := none) ?hw rfl ?hl (fun k hk => ⟨rfl, ?hc, rfl⟩)]
  · have := sum_new (S := S) (f := (List.range ys.length).map fun (k : Nat) => w.getD k 0 * (pe x (ys.getD k []) % p))
    rw [List.map_map, sum_sumI] at this
    rw [go_ok]
    exact this
  case hw => simp [varV, rng1_nat (q := ys.length) (by omega)]
  case hl => rw [List.length_range]; omega
  case hc =>
    have hk := List.mem_range.mp hk
    have y1 : ixV (.d (ti w)) (.d (.int k)) S = .ok (.d (.int (w.getD k 0))) S := by
      refine ix_tup ?_
      rw [List.getElem?_map, List.getElem?_eq_getElem (by omega)]
      simp [List.getD_eq_getElem?_getD, List.getElem?_eq_getElem (show k < w.length by omega)]
    have y2 : ixV (.d (ttD ys)) (.d (.int k)) S = .ok (.d (ti (ys.getD k []))) S := by
      refine tis_ix ?_
      rw [List.getElem?_eq_getElem hk]
      simp [List.getD_eq_getElem?_getD, List.getElem?_eq_getElem hk]
    have e1 := hC (ys.getD k [])
    have z1 : -1000000 ≤ w.getD k 0 ∧ w.getD k 0 ≤ 1000000 := by
      rw [List.getD_eq_getElem?_getD, List.getElem?_eq_getElem (by omega)]
      exact hwr _ (List.getElem_mem _)
    have z2 := mod_nn (i := pe x (ys.getD k [])) hp.1
    have z3 := mod_lt (i := pe x (ys.getD k [])) hp.1
    generalize ys.getD k [] = f at *
    generalize w.getD k 0 = c at *
    simp [Env.put, wipeE, c_joined_1, varV, y1, y2, e1, mul_l (i := c) (j := pe x f % p) (by omega) (by omega)]
/-- what one party gets -/
def jnA (p : Int) (q : Nat) (st : RS) (r : Row) (k : Nat) : Int := match r with
  | .kept a => (sharesV p q (gp st.polys a)).getD k 0
  | _ => 0
def jnV (p : Int) (q : Nat) (st : RS) (r : Row) (ys : List (List Int)) (k : Nat) : Int :=
  (sumI (fun i => (wgt p q r ys.length).getD i 0 * (pe ((k : Int) + 1) (ys.getD i []) % p)) (List.range ys.length) + jnA p q st r k) % p
theorem j_shares {p q t : Nat} {coins : List Int} {pre suf : List Row} {st : RS} {r : Row} (h : RI p q t coins pre (r :: suf) st) (hp : 0 < p) (hq : 1 ≤ q) (hd : (∃ a b, r = .prod a b) ∨ (∃ a, r = .kept a)) : ∃ f, polyP p q t coins st r = some f ∧ sharesV p q f = (List.range q).map fun (k : Nat) => jnV p q st r (manyP p q t coins st r) k := by
  have hm := h.many hp
  have hr := h.prog.at rfl
  rcases hd with ⟨a, b, rfl⟩ | ⟨a, rfl⟩
  · refine ⟨_, rfl, ?_⟩
    rw [sh_join (t := t) (fun f hf => (hm f hf).1) (fun z => by have := congrArg List.length z; rw [many_len] at this; simp [manyR] at this; omega)]
    refine List.map_congr_left fun k hk => ?_
    simp [jnV, wgt, jnA]
  · obtain ⟨e, _, hw⟩ := hr
    refine ⟨_, rfl, ?_⟩
    rw [sh_kept (t := t) (h.gp hw).2.1 (fun f hf => (hm f hf).1) (by rw [many_len]; rfl)]
    refine List.map_congr_left fun k hk => ?_
    unfold jnV wgt jnA
    dsimp only
    congr 2
    refine sumI_congr fun i hi => ?_
    have hi := List.mem_range.mp hi
    rw [List.getD_eq_getElem?_getD (l := List.replicate _ _), List.getElem?_replicate, if_pos hi]
    rfl
theorem s_joined (hT : H_joined T I) (h : RI p q t coins pre (r :: suf) st) (hs : SetOk p q t) (hd : (∃ a b, r = .prod a b) ∨ (∃ a, r = .kept a)) (g1 : S.get u i = some ⟨false, .lst (st.polys.map (oshD p q))⟩) :
    callN T (n + 6) (I N.joined) [.d (setD p q t), .d r.enc, .loc u i, .d (ttD (manyP p q t coins st r))] S = .ok (.d (oshD p q (polyP p q t coins st r))) S := by
  have plo := hs.pr.lo
  have phi := hs.hp
  have hq9 := hs.q9
  have htq := hs.tq
  obtain ⟨f, hf, hsh⟩ := j_shares h (by omega) hs.q1 hd
  rw [hf, oshD_some, hsh]
  have hml := many_len (p := (p : Int)) (q := q) (t := t) (coins := coins) (st := st) (r := r)
  have hmq := many_le (q := q) (r := r) hs.q1
  have gm : ∀ xs : List D, (bagS S xs).get (u + 1) i = some ⟨false, .lst (st.polys.map (oshD p q))⟩ := fun xs => by
    rw [← g1]
    cases u <;> rfl
  have wl : (wgt p q r (manyP p q t coins st r).length).length = (manyP p q t coins st r).length := by
    rcases hd with ⟨a, b, rfl⟩ | ⟨a, rfl⟩
    · rw [hml]; exact wts_len
    · exact List.length_replicate
  have wr : ∀ c ∈ wgt p q r (manyP p q t coins st r).length, -1000000 ≤ c ∧ c ≤ 1000000 := fun c hc => by
    rcases hd with ⟨a, b, rfl⟩ | ⟨a, rfl⟩
    · have := wts_in (p := (p : Int)) (by omega) c hc
      omega
    · rw [(List.mem_replicate.mp hc).2]; omega
  generalize hW : wgt p q r (manyP p q t coins st r).length = W at *
  generalize hY : manyP p q t coins st r = Y at *
  have el := forL_fold (enc := fun (k : Nat) => D.int ((k : Int) + 1)) (chk := fun _ => true) (put := putT (.one 7)) (body := evS (callN T (n + 5)) (b_joined_2 I)) (n0 := 1)
    (ρ0 := [some (.d (setD p q t)), some (.d r.enc), some (.loc (u + 1) i), some (.d (ttD Y)), some (.d (.int p)), some (.d (ti W)), some (.loc 0 0), none, none, none])
    (fun _ => [some (.d (setD p q t)), some (.d r.enc), some (.loc (u + 1) i), some (.d (ttD Y)), some (.d (.int p)), some (.d (ti W)), some (.loc 0 0), none, none, none]) (fun m => bagS S ((m : List Int).map D.int)) (fun m k => m ++ [jnV p q st r Y k])
    (fun l m => m.length + l.length ≤ 1000 ∧ ∀ k ∈ l, k < q)
    (fun k l m hi => by
      obtain ⟨h1, h2⟩ := hi
      rw [List.length_cons] at h1
      have hk := h2 k List.mem_cons_self
      have e1 := j_sum (I := I) (C := callN T (n + 5)) (S := bagS S (m.map D.int)) (ρ := []) (m := 0) (ys := Y) (w := W) (p := (p : Int)) (x := (k : Int) + 1) (by omega) (fun f => s_value (n := n + 4) hT.value_at.at_ (by omega) f) wl wr (by omega) (a0 := some (.d (setD p q t))) (a1 := some (.d r.enc)) (a2 := some (.loc (u + 1) i)) (a6 := .loc 0 0) (a8 := none)
      have ea := bag_app (S0 := S) (xs := m.map D.int) (d := .int (jnV p q st r Y k)) (by rw [List.length_map]; omega)
      refine ⟨rfl, _, [some (.d (setD p q t)), some (.d r.enc), some (.loc (u + 1) i), some (.d (ttD Y)), some (.d (.int p)), some (.d (ti W)), some (.loc 0 0), some (.d (.int ((k : Int) + 1))), some (.d (.int (sumI (fun i => W.getD i 0 * (pe ((k : Int) + 1) (Y.getD i []) % p)) (List.range Y.length) + jnA p q st r k))), none], bagS S ((m ++ [jnV p q st r Y k]).map D.int), rfl, ?_, rfl, ownFree_take rfl, by rw [List.length_append]; simp; omega, fun j hj => h2 j (List.mem_cons_of_mem _ hj)⟩
      have ev : jnV p q st r Y k = (sumI (fun i => W.getD i 0 * (pe ((k : Int) + 1) (Y.getD i []) % p)) (List.range Y.length) + jnA p q st r k) % p := by
        unfold jnV
        rw [hW]
      rw [ev] at ea ⊢
      rw [List.map_append]
      unfold b_joined_2
      rw [S_seq, S_set]
      simp only [putT, Env.put, List.set_cons_succ, List.set_cons_zero]
      rw [e1]
      generalize sumI (fun i => W.getD i 0 * (pe ((k : Int) + 1) (Y.getD i []) % p)) (List.range Y.length) = tot at ea ⊢
      rcases hd with ⟨a, b, rfl⟩ | ⟨a, rfl⟩
      · unfold jnA at ea ⊢
        dsimp only at ea ⊢
        rw [Int.add_zero] at ea ⊢
        simp [varV, bag_recv, bop_mod (j := (p : Int)) (by omega), ea]
      · obtain ⟨e, _, hw⟩ := h.prog.at rfl
        unfold jnA at ea ⊢
        dsimp only at ea ⊢
        have x1 := h.ixf (S := bagS S (m.map D.int)) (gm _) hw
        have x2 : ixV (.d (ti (sharesV p q (gp st.polys a)))) (.d (.int k)) (bagS S (m.map D.int)) = .ok (.d (.int ((sharesV p q (gp st.polys a)).getD k 0))) (bagS S (m.map D.int)) := by
          rw [shv_ix hk, List.getD_eq_getElem?_getD, shares_get hk]
          rfl
        generalize (sharesV (p : Int) q (gp st.polys a)).getD k 0 = y at *
        simp [varV, x1, x2, bag_recv, bop_mod (j := (p : Int)) (by omega), ea])
    (fun s _ => rfl) (List.range q) [] (by simp; omega)
  have e1 := el.1
  have hres : (List.range q).foldl (fun m k => m ++ [jnV p q st r Y k]) ([] : List Int) = (List.range q).map fun (k : Nat) => jnV p q st r Y k := by
    have : ∀ (l : List Nat) (m : List Int), l.foldl (fun m k => m ++ [jnV p q st r Y k]) m = m ++ l.map fun (k : Nat) => jnV p q st r Y k := by
      intro l
      induction l with
      | nil => intro m; simp
      | cons a l ih => intro m; rw [List.foldl_cons, ih]; simp
    rw [this]
    simp
  have hpt : (List.range q).map (fun k : Nat => D.int ((k : Int) + 1)) = (ptI q).map D.int := by rw [pt_map, List.map_map]; rfl
  rw [hres, hpt] at e1
  generalize (List.range q).map (fun (k : Nat) => jnV p q st r Y k) = res at *
  have et := tuple_loc (S := bagS S (res.map D.int)) (u := 0) (l := 0) (z := false) (ds := res.map D.int) rfl
  have ep := fun S : St => s_parties (n := n + 4) (S := S) hT.parties.at_ (p := p) (t := t) (q := q) (by omega)
  have hb0 : (⟨[⟨false, .lst []⟩], S.own :: S.out, S.gl⟩ : St) = bagS S [] := rfl
  have ol : (bagS S []).own.length = 1 := rfl
  have z0 : sz 0 = true := rfl
  have z1 : sz 1 = true := rfl
  have e1' : forL (⟨(ptI q).map D.int, none⟩ : Walk).chk (putT (.one 7)) (evS (callN T (n + 5)) (b_joined_2 I)) _ 1 _ _ (bagS S []) = _ := e1
  rw [call_eq hT.at_ rfl]
  have em := fun S : St => mul_ones (S := S) (k := Y.length) (by omega)
  rcases hd with ⟨a, b, rfl⟩ | ⟨a, rfl⟩
  · have ew := fun S : St => s_weights (n := n) (S := S) (polyT hT.weights.bases) hT.weights.bases.at_ hT.weights.at_ (p := p) (x := 0) (by omega) (ptI q) (pt_sm (by omega)) (by rw [pt_len]; omega)
    have ew' : ∀ S : St, callN T (n + 5) (I N.weights) [.d (.int p), .d (ti (ptI q)), .d (.int 0)] S = .ok (.d (ti W)) S := fun S => by rw [ew, ← hW]; rfl
    simp only [enc_prod] at e1'
    simp [p_joined, varV, set_ix1, z0, z1, em, ep, ew', St.call, hb0, ol, e1', et]
    rfl
  · have hW' : W = List.replicate Y.length 1 := by rw [← hW]; rfl
    subst hW'
    simp only [enc_kept] at e1'
    simp [-List.map_replicate, p_joined, varV, set_ix1, z0, z1, em, ep, St.call, hb0, ol, e1', et]
    rfl
theorem s_plainshares (hT : H_plain_shares T I) (h : RI p q t coins pre (r :: suf) st) (hs : SetOk p q t) (hd : ¬ ((∃ j, r = .inp j) ∨ (∃ a b, r = .prod a b) ∨ (∃ a, r = .kept a))) (g1 : S.get u i = some ⟨false, .lst (st.polys.map (oshD p q))⟩) :
    callN T (n + 1) (I N.plain_shares) [.d (setD p q t), .d r.enc, .loc u i] S = .ok (.d (oshD p q (polyP p q t coins st r))) S := by
  have plo := hs.pr.lo
  have phi := hs.hp
  have hq9 := hs.q9
  have htq := hs.tq
  have k1 : S.call.get (u + 1) i = some ⟨false, .lst (st.polys.map (oshD p q))⟩ := by rw [call_get]; exact g1
  have hr := h.prog.at rfl
  have z1 : sz 1 = true := rfl
  rw [call_eq hT.at_ rfl]
  cases r with
  | inp j => exact absurd (.inl ⟨j, rfl⟩) hd
  | prod a b => exact absurd (.inr (.inl ⟨a, b, rfl⟩)) hd
  | kept a => exact absurd (.inr (.inr ⟨a, rfl⟩)) hd
  | out a j => simp [p_plain_shares, varV, set_ix1, polyP]
  | next => simp [p_plain_shares, varV, set_ix1, polyP]
  | cst c =>
    have em : binV .mul (.d (.tup [.int c])) (.d (.int (q : Int))) S.call = .ok (.d (ti (List.replicate q c))) S.call := by
      rw [mul_tup (by omega) (by omega) (by simp), show ((q : Int)).toNat = q from rfl]
      rw [rep_c]
    simp [-List.map_replicate, p_plain_shares, varV, set_ix1, set_ix2, polyP, z1, em, sh_cst hr.1 hr.2]
  | times c a =>
    have x1 := h.ixf k1 hr.2
    have hc := hr.1
    simp [-E_lc, p_plain_shares, varV, set_ix1, x1, polyP, sh_times (h.gp hr.2).2.1]
    rw [lc_map (enc := D.int) (l := sharesV p q (gp st.polys a)) (g := fun s => .int (c * s % p)) (v := fun s => .d (.int (c * s % p))) (at_ := none) ?hw rfl ?hl (fun s hk => ⟨rfl, ?hc, rfl⟩)]
    · simp
    case hw => simp [varV, x1]
    case hl => rw [shares_len]; omega
    case hc => simp [Env.put, wipeE, c_plain_shares_1, varV, mul_l (i := c) (j := s) (by omega) (by omega), bop_mod (j := (p : Int)) (by omega)]
  | sum a b =>
    have x1 := h.ixf k1 hr.1
    have x2 := h.ixf k1 hr.2
    simp [-E_lc, p_plain_shares, varV, set_ix1, polyP, sh_sum (h.gp hr.1).2.1 (h.gp hr.2).2.1]
    rw [lc_map (enc := fun (k : Nat) => D.int (k : Int)) (l := List.range q) (g := fun k => .int (((sharesV p q (gp st.polys a)).getD k 0 + (sharesV p q (gp st.polys b)).getD k 0) % p)) (v := fun k => .d (.int (((sharesV p q (gp st.polys a)).getD k 0 + (sharesV p q (gp st.polys b)).getD k 0) % p))) (at_ := none) ?hw rfl ?hl (fun k hk => ⟨rfl, ?hc, rfl⟩)]
    · simp
    case hw => simp [varV, set_ix2, rng1_nat (q := q) (by omega)]
    case hl => rw [List.length_range]; omega
    case hc =>
      have hk := List.mem_range.mp hk
      have y1 := shv_ix (S := S.call) (p := (p : Int)) (f := gp st.polys a) hk
      have y2 := shv_ix (S := S.call) (p := (p : Int)) (f := gp st.polys b) hk
      simp [List.getD_eq_getElem?_getD, shares_get hk, Env.put, wipeE, c_plain_shares_2, varV, x1, x2, y1, y2, bop_mod (j := (p : Int)) (by omega)]
  | less a b =>
    have x1 := h.ixf k1 hr.1
    have x2 := h.ixf k1 hr.2
    simp [-E_lc, p_plain_shares, varV, set_ix1, polyP, sh_less (h.gp hr.1).2.1 (h.gp hr.2).2.1]
    rw [lc_map (enc := fun (k : Nat) => D.int (k : Int)) (l := List.range q) (g := fun k => .int (((sharesV p q (gp st.polys a)).getD k 0 - (sharesV p q (gp st.polys b)).getD k 0) % p)) (v := fun k => .d (.int (((sharesV p q (gp st.polys a)).getD k 0 - (sharesV p q (gp st.polys b)).getD k 0) % p))) (at_ := none) ?hw rfl ?hl (fun k hk => ⟨rfl, ?hc, rfl⟩)]
    · simp
    case hw => simp [varV, set_ix2, rng1_nat (q := q) (by omega)]
    case hl => rw [List.length_range]; omega
    case hc =>
      have hk := List.mem_range.mp hk
      have y1 := shv_ix (S := S.call) (p := (p : Int)) (f := gp st.polys a) hk
      have y2 := shv_ix (S := S.call) (p := (p : Int)) (f := gp st.polys b) hk
      simp [List.getD_eq_getElem?_getD, shares_get hk, Env.put, wipeE, c_plain_shares_3, varV, x1, x2, y1, y2, bop_mod (j := (p : Int)) (by omega)]
end
end U

set_option maxHeartbeats 4000000
/-! URunT: the program's run, whole; polynomials of shares. -/
namespace U
open PySem
variable {T : Nat → Option FD} {I : Nat → Nat} {n : Nat} {S : St}
theorem rows_range (rows : List Row) : (List.range rows.length).map (rowAt rows) = rows := by
  apply List.ext_getElem
  · simp
  · intro i h1 h2
    simp only [List.getElem_map, List.getElem_range, rowAt]
    rw [List.getElem?_eq_getElem h2]
    rfl
theorem fold_range {σ : Type} (f : σ → Row → σ) (rows : List Row) (s : σ) : (List.range rows.length).foldl (fun s k => f s (rowAt rows k)) s = rows.foldl f s := by
  conv => rhs; rw [← rows_range rows]
  rw [List.foldl_map]
theorem pl_keep {q t : Nat} : ∀ (rows : List Row) (st : List (List (List Int)) × Nat) {i : Nat}, i < st.1.length → (rows.foldl (plstep q t) st).1[i]? = st.1[i]?
  | [], st, i, h => rfl
  | r :: rows, st, i, h => by
    rw [List.foldl_cons, pl_keep rows _ (by unfold plstep; rw [List.length_append]; omega)]
    unfold plstep
    rw [List.getElem?_append_left h]
theorem pl_flen {q t : Nat} : ∀ (rows : List Row) (st : List (List (List Int)) × Nat), (rows.foldl (plstep q t) st).1.length = st.1.length + rows.length
  | [], st => rfl
  | r :: rows, st => by
    rw [List.foldl_cons, pl_flen rows, List.length_cons]
    unfold plstep
    rw [List.length_append]
    simp
    omega
theorem pl_at {q t : Nat} {pre suf : List Row} {r : Row} : (plV q t (pre ++ r :: suf))[pre.length]? = some (plR t (needs q t pre) (manyR q r)) := by
  unfold plV
  rw [List.foldl_append, List.foldl_cons]
  have h1 := pl_flen (q := q) (t := t) pre ([], 0)
  have h2 := pln_needs (q := q) (t := t) pre ([], 0)
  generalize pre.foldl (plstep q t) ([], 0) = st at *
  rw [pl_keep suf _ (by unfold plstep; rw [List.length_append]; simp at h1 ⊢; omega)]
  unfold plstep
  dsimp only at h1 h2 ⊢
  rw [List.getElem?_append_right (by simp at h1; omega), h1, h2]
  simp
theorem fold_at {p : Int} {q t : Nat} {coins : List Int} : ∀ (rows : List Row) (st : RS), (rows.foldl (rstep p q t coins) st).at_ = st.at_ + needs q t rows
  | [], st => by simp [needs]
  | r :: rows, st => by
    rw [List.foldl_cons, fold_at rows]
    unfold needs rstep
    rw [List.map_cons, List.sum_cons]
    dsimp only
    omega
theorem needs_snoc {q t : Nat} {pre : List Row} {r : Row} : needs q t (pre ++ [r]) = needs q t pre + t * manyR q r := by unfold needs; simp
theorem in_pk (a : String) : cmpV .in_ (.d (sD a)) (.d (.tup [sD "product", sD "kept"])) S = .ok (.d (.bl (decide (a ∈ ["product", "kept"])))) S := in_strs a ["product", "kept"]
section
variable {p q t : Nat} {coins : List Int} {pre suf : List Row} {st : RS} {r : Row} {u i : Nat}
theorem run_body (hT : H_run T I) (h : RI p q t coins pre (r :: suf) st) (hs : SetOk p q t) (hl : pre.length ≤ 1000) (ha : st.at_ = needs q t pre) {rows : List Row} (hr : rows = pre ++ r :: suf) {a2 : SV} :
    ∃ a9, evS (callN T (n + 6)) (b_run_1 I) [some (.d (setD p q t)), some (.d (progD rows)), some a2, some (.d (ti coins)), some (.loc 0 0), some (.loc 0 1), some (.d (.tup ((plV q t rows).map ttD))), some (.d (.int pre.length)), none, none] (bag2 S (st.polys.map (oshD p q)) (st.left.map D.int)) =
      .ok (.next [some (.d (setD p q t)), some (.d (progD rows)), some a2, some (.d (ti coins)), some (.loc 0 0), some (.loc 0 1), some (.d (.tup ((plV q t rows).map ttD))), some (.d (.int pre.length)), some (.d r.enc), some a9]) (bag2 S ((rstep p q t coins st r).polys.map (oshD p q)) ((rstep p q t coins st r).left.map D.int)) := by
  have plo := hs.pr.lo
  have phi := hs.hp
  have hq9 := hs.q9
  have htq := hs.tq
  have hmq := many_le (q := q) (r := r) hs.q1
  have hrow : rows[pre.length]? = some r := by rw [hr, List.getElem?_append_right (Nat.le_refl _)]; simp
  have ix1 : ∀ S : St, ixV (.d (.tup (rows.map Row.enc))) (.d (.int pre.length)) S = .ok (.d r.enc) S := fun S => row_ix hrow
  have ix2 : ∀ S : St, ixV (.d (.tup ((plV q t rows).map ttD))) (.d (.int pre.length)) S = .ok (.d (ttD (plR t st.at_ (manyR q r)))) S := fun S => by
    refine ix_tup ?_
    rw [List.getElem?_map, hr, pl_at, ha]
    rfl
  have hroom : st.at_ + t * manyR q r ≤ coins.length := by
    have := h.room
    unfold needs at this
    rw [List.map_cons, List.sum_cons] at this
    omega
  have e1 := fun S : St => s_taken (n := n + 5) (S := S) hT.taken (coins := coins) (t := t) (at_ := st.at_) (m := manyR q r) (by omega) (by omega) hroom
  have z2 : sz 2 = true := rfl
  refine ⟨.d (ttD (cnM coins t st.at_ (manyR q r))), ?_⟩
  have g1 : (bag2 S (st.polys.map (oshD p q)) (st.left.map D.int)).get 0 0 = some ⟨false, .lst (st.polys.map (oshD p q))⟩ := rfl
  have g2 : (bag2 S (st.polys.map (oshD p q)) (st.left.map D.int)).get 0 1 = some ⟨false, .lst (st.left.map D.int)⟩ := rfl
  have er : ∀ ys : List D, recvOk .append (view (bag2 S (st.polys.map (oshD p q)) ys) (.loc 0 0)) = true := fun ys => recv_loc (ds := st.polys.map (oshD p q)) (z := false) (by simp) rfl
  have ea : ∀ ys : List D, meth1 .append (.loc 0 0) (.d (oshD p q (polyP p q t coins st r))) (bag2 S (st.polys.map (oshD p q)) ys) = .ok (.d .non) (bag2 S ((rstep p q t coins st r).polys.map (oshD p q)) ys) := fun ys => by
    rw [app_d (u := 0) (i := 0) (ds := st.polys.map (oshD p q)) rfl (by rw [List.length_map, h.len]; omega)]
    unfold rstep
    rw [List.map_append]
    rfl
  have same : r.isIn = false → (rstep p q t coins st r).left = st.left := fun hi => by
    unfold rstep
    rw [hi]
    rfl
  by_cases hin : ∃ j, r = .inp j
  · obtain ⟨j, rfl⟩ := hin
    have hl0 : 0 < st.left.length := by rw [h.left]; simp [nIn, List.filter_cons, Row.isIn]
    cases hleft : st.left with
    | nil => rw [hleft] at hl0; simp at hl0
    | cons x xs =>
      have ep := pop0 (S := bag2 S (st.polys.map (oshD p q)) (D.int x :: xs.map D.int)) (u := 0) (i := 1) (x := .int x) (xs := xs.map D.int) rfl
      have ep2 : recvOk .popAt (view (bag2 S (st.polys.map (oshD p q)) (D.int x :: xs.map D.int)) (.loc 0 1)) = true := recv_loc (m := .popAt) (ds := D.int x :: xs.map D.int) (z := false) (by simp) rfl
      have hb : (bag2 S (st.polys.map (oshD p q)) (D.int x :: xs.map D.int)).set 0 1 ⟨false, .lst (xs.map D.int)⟩ = bag2 S (st.polys.map (oshD p q)) (xs.map D.int) := rfl
      rw [hb] at ep
      have e2 := fun S : St => s_shares (n := n + 3) (S := S) hT.shares (p := (p : Int)) (t := (t : Int)) (q := q) (by omega) (by omega) (s := x) (f := cn coins t st.at_ 0) (by unfold cn; rw [List.length_take]; omega)
      have y1 : ∀ S : St, ixV (.d (ttD (cnM coins t st.at_ 1))) (.d (.int 0)) S = .ok (.d (ti (cn coins t st.at_ 0))) S := fun S => tis_ix (k := 0) (cnM_get (by omega))
      have hpoly : polyP p q t coins st (.inp j) = some (x :: cn coins t st.at_ 0) := by unfold polyP; rw [hleft]; rfl
      have hlr : (rstep p q t coins st (.inp j)).left = xs := by unfold rstep; rw [hleft]; rfl
      have ea := ea (xs.map D.int)
      have er := er (D.int x :: xs.map D.int)
      rw [hpoly, oshD_some] at ea
      rw [hlr]
      generalize (rstep p q t coins st (.inp j)).polys.map (oshD p q) = res at *
      have e1' : ∀ S : St, callN T (n + 6) (I N.taken) [.d (ti coins), .d (ttD (plR t st.at_ 1))] S = .ok (.d (ttD (cnM coins t st.at_ 1))) S := e1
      have ix2' : ∀ S : St, ixV (.d (.tup ((plV q t rows).map ttD))) (.d (.int pre.length)) S = .ok (.d (ttD (plR t st.at_ 1))) S := ix2
      have hm1 : manyR q (.inp j) = 1 := rfl
      rw [hm1]
      simp [b_run_1, varV, pr_ix1, ix1, ix2', e1', er, y1, ep2, ep, e2, ea]
  · have hni : r.isIn = false := by cases r <;> simp [Row.isIn] at hin ⊢
    rw [same hni]
    have ea := ea (st.left.map D.int)
    have er := er (st.left.map D.int)
    by_cases hd : (∃ a b, r = .prod a b) ∨ (∃ a, r = .kept a)
    · have e2 := s_dealt (n := n + 5) hT.dealt h hs hd g1
      have e3 := s_joined (n := n) hT.joined h hs hd g1
      generalize (rstep p q t coins st r).polys.map (oshD p q) = res at *
      generalize st.left.map D.int = lft at *
      rcases hd with ⟨a, b, rfl⟩ | ⟨a, rfl⟩
      · simp only [enc_prod] at *
        simp [b_run_1, varV, pr_ix1, ix1, ix2, e1, er, e2, e3, ea, in_pk, z2]
      · simp only [enc_kept] at *
        simp [b_run_1, varV, pr_ix1, ix1, ix2, e1, er, e2, e3, ea, in_pk, z2]
    · have e2 := s_plainshares (n := n + 5) hT.plain_shares h hs (fun z => z.elim (fun z => hin z) (fun z => hd z)) g1
      generalize (rstep p q t coins st r).polys.map (oshD p q) = res at *
      generalize st.left.map D.int = lft at *
      cases r with
      | inp j => exact absurd ⟨j, rfl⟩ hin
      | prod a b => exact absurd (.inl ⟨a, b, rfl⟩) hd
      | kept a => exact absurd (.inr ⟨a, rfl⟩) hd
      | cst c =>
        simp only [enc_cst] at *
        simp [b_run_1, varV, pr_ix1, ix1, ix2, e1, er, e2, ea, in_pk, z2]
      | sum a b =>
        simp only [enc_sum] at *
        simp [b_run_1, varV, pr_ix1, ix1, ix2, e1, er, e2, ea, in_pk, z2]
      | less a b =>
        simp only [enc_less] at *
        simp [b_run_1, varV, pr_ix1, ix1, ix2, e1, er, e2, ea, in_pk, z2]
      | times a b =>
        simp only [enc_times] at *
        simp [b_run_1, varV, pr_ix1, ix1, ix2, e1, er, e2, ea, in_pk, z2]
      | out a b =>
        simp only [enc_out] at *
        simp [b_run_1, varV, pr_ix1, ix1, ix2, e1, er, e2, ea, in_pk, z2]
      | next =>
        simp only [enc_next] at *
        simp [b_run_1, varV, pr_ix1, ix1, ix2, e1, er, e2, ea, in_pk, z2]
theorem s_run (hT : H_run T I) (hs : SetOk p q t) {rows : List Row} (hP : Prog p q rows) (hl : rows.length ≤ 1000) {inputs : List Int} (hi : InR p inputs) (hn : inputs.length = nIn rows) (hc : InR p coins) (hcl : needs q t rows ≤ coins.length) :
    callN T (n + 7) (I N.run) [.d (setD p q t), .d (progD rows), .d (ti inputs), .d (ti coins)] S = .ok (.d (.tup ((runV p q t coins inputs rows).polys.map (oshD p q)))) S := by
  have plo := hs.pr.lo
  have phi := hs.hp
  have el := forL_fold (enc := fun (k : Nat) => D.int (k : Int)) (chk := (⟨(List.range rows.length).map fun k => D.int (k : Nat), none⟩ : Walk).chk) (put := putT (.one 7)) (body := evS (callN T (n + 6)) (b_run_1 I)) (n0 := 2)
    (ρ0 := [some (.d (setD p q t)), some (.d (progD rows)), some (.d (ti inputs)), some (.d (ti coins)), some (.loc 0 0), some (.loc 0 1), some (.d (.tup ((plV q t rows).map ttD))), none, none, none])
    (fun _ => [some (.d (setD p q t)), some (.d (progD rows)), some (.d (ti inputs)), some (.d (ti coins)), some (.loc 0 0), some (.loc 0 1), some (.d (.tup ((plV q t rows).map ttD))), none, none, none]) (fun (st : RS) => bag2 S (st.polys.map (oshD p q)) (st.left.map D.int)) (fun st k => rstep p q t coins st (rowAt rows k))
    (fun l st => ∃ pre suf, rows = pre ++ suf ∧ l = List.range' pre.length suf.length ∧ RI p q t coins pre suf st ∧ st.at_ = needs q t pre)
    (fun k l st hi => by
      obtain ⟨pre, suf, h1, h2, h3, h4⟩ := hi
      cases suf with
      | nil => simp at h2
      | cons r suf =>
        rw [List.length_cons, List.range'_succ] at h2
        obtain ⟨h5, h6⟩ := List.cons.inj h2
        subst h5
        obtain ⟨a9, e1⟩ := run_body (n := n) (S := S) hT h3 hs (by rw [h1] at hl; simp at hl; omega) h4 h1 (a2 := .d (ti inputs))
        have hra : rowAt rows pre.length = r := by unfold rowAt; rw [h1, List.getElem?_append_right (Nat.le_refl _)]; simp
        rw [hra]
        refine ⟨rfl, _, _, _, rfl, e1, rfl, ownFree_take rfl, pre ++ [r], suf, by rw [List.append_assoc]; exact h1, ?_, h3.step (by omega) hs.q1, ?_⟩
        · rw [h6, List.length_append]; rfl
        · rw [needs_snoc, ← h4]; rfl)
    (fun s _ => rfl) (List.range rows.length) ⟨[], [], inputs, 0⟩ ⟨[], rows, rfl, by rw [List.range_eq_range']; rfl, RI.start hP hi hn hc hcl, rfl⟩
  have e1 := el.1
  rw [fold_range] at e1
  have hb0 : (⟨[⟨false, .lst []⟩, ⟨false, .lst (inputs.map D.int)⟩], S.own :: S.out, S.gl⟩ : St) = bag2 S [] (inputs.map D.int) := rfl
  have ol : (bag2 S [] (inputs.map D.int)).own.length = 2 := rfl
  simp only [List.map_nil] at e1
  have z0 : sz 0 = true := rfl
  have ep := fun S : St => s_places (n := n + 5) (S := S) hT.places hs (rows := rows) hl
  have hr := fun S : St => rng1_nat (S := S) (q := rows.length) (by omega)
  have et : b1V .tuple (.loc 0 0) (bag2 S ((rows.foldl (rstep p q t coins) ⟨[], [], inputs, 0⟩).polys.map (oshD p q)) ((rows.foldl (rstep p q t coins) ⟨[], [], inputs, 0⟩).left.map D.int)) = _ := tuple_loc (ds := (rows.foldl (rstep p q t coins) ⟨[], [], inputs, 0⟩).polys.map (oshD p q)) (z := false) rfl
  rw [call_eq hT.at_ rfl]
  unfold runV
  generalize rows.foldl (rstep p q t coins) ⟨[], [], inputs, 0⟩ = fin at *
  simp [-b1_list_tup, p_run, varV, z0, St.call, hb0, ol]
  simp [hb0, ol, varV, ep, pr_ix1, hr, e1, et]
  rfl
end
end U

set_option maxHeartbeats 4000000
/-! URunL: the law's own run, walked. -/
namespace U
open PySem
variable {T : Nat → Option FD} {I : Nat → Nat} {n : Nat} {S : St}
theorem s_psum (hT : H__law_poly_sum T I) {p : Int} (hp : 0 < p) {v : SV} {rows : List (List Int)} {w : List Int} {m : Nat} (hv : view S v.rv = some (.lst (rows.map ti))) (hv2 : view S.call (shift v).rv = some (.lst (rows.map ti)))
    (hm : ∀ r ∈ rows, r.length = m) (hne : rows ≠ []) (hl : rows.length ≤ 1000) (hml : m ≤ 1000) (hw : w.length = rows.length) (hwr : ∀ c ∈ w, -1000000 ≤ c ∧ c ≤ 1000000) :
    callN T (n + 1) (I N._law_poly_sum) [.d (.int p), v, .d (.lst (w.map D.int))] S = .ok (.d (ti (psum p rows w))) S := by
  have hh : (rows.headD []).length = m := headD_len hm hne
  have gx : ∀ k : Nat, k < rows.length → ixV (shift v).rv (.d (.int k)) S.call = .ok (.d (ti (rows.getD k []))) S.call := fun k hk => by
    unfold ixV
    have hvh : view S.call (hold (shift v).rv).rv = some (.lst (rows.map ti)) := by
      rw [← hv2]
      cases v <;> rfl
    rw [hvh]
    have := ix_lst (S := S.call) (ds := rows.map ti) (k := k) (d := ti (rows.getD k [])) (by rw [List.getElem?_map, List.getElem?_eq_getElem hk]; simp [List.getD_eq_getElem?_getD, List.getElem?_eq_getElem hk])
    unfold ixV at this
    exact this
  have gl : b1V .len (shift v).rv S.call = .ok (.d (.int rows.length)) S.call := by
    unfold b1V
    rw [hv2]
    show _ = _
    have := b1_len_lst (S := S.call) (ds := rows.map ti)
    unfold b1V at this
    rw [List.length_map] at this
    exact this
  have hlen0 : 0 < rows.length := List.length_pos_iff.mpr hne
  rw [call_eq hT.at_ rfl]
  simp only [p__law_poly_sum, S_ret, E_b1]
  rw [lc_map (enc := fun (j : Nat) => D.int (j : Int)) (l := List.range m) (g := fun (j : Nat) => .int (sumI (fun k => w.getD k 0 * (rows.getD k []).getD j 0) (List.range rows.length) % p)) (v := fun (j : Nat) => .d (.int (sumI (fun k => w.getD k 0 * (rows.getD k []).getD j 0) (List.range rows.length) % p))) (at_ := none) ?hw rfl ?hl (fun j hj => ⟨rfl, ?hc, rfl⟩)]
  · have hps : psum p rows w = (List.range m).map fun (j : Nat) => sumI (fun k => w.getD k 0 * (rows.getD k []).getD j 0) (List.range rows.length) % p := by
      unfold psum
      rw [hh]
    rw [hps, ti, List.map_map]
    rfl
  case hw =>
    have hg : (rows.getD 0 []).length = m := by
      rw [List.getD_eq_getElem?_getD, List.getElem?_eq_getElem hlen0]
      exact hm _ (List.getElem_mem _)
    have g0 := gx 0 hlen0
    simp [varV] at g0 ⊢
    rw [g0]
    rw [List.getD_eq_getElem?_getD] at hg
    simp [hg, rng1_nat (q := m) (by omega)]
  case hl => rw [List.length_range]; omega
  case hc =>
    have hj := List.mem_range.mp hj
    have ec := lc_map (S := S.call) (C := callN T n) (ρ := [some (.d (.int p)), some (shift v), some (.d (.lst (w.map D.int))), none, some (.d (.int (j : Int)))]) (enc := fun (k : Nat) => D.int (k : Int)) (l := List.range rows.length) (g := fun (k : Nat) => .int (w.getD k 0 * (rows.getD k []).getD j 0)) (v := fun (k : Nat) => .d (.int (w.getD k 0 * (rows.getD k []).getD j 0))) (r := fun (k : Nat) => [some (.d (.int p)), some (shift v), some (.d (.lst (w.map D.int))), some (.d (.int (k : Int))), some (.d (.int (j : Int)))]) (elt := c__law_poly_sum_1 I) (it := .wk .rng1 (.b1 .len (.var 1)) .nil) (tg := .one 3) (vs := [3]) (at_ := none) (by
        simp [varV, gl, rng1_nat (q := rows.length) (by omega)]) rfl (by rw [List.length_range]; omega) (fun k hk => ⟨rfl, by
        have hk := List.mem_range.mp hk
        have y1 : ixV (.d (.lst (w.map D.int))) (.d (.int k)) S.call = .ok (.d (.int (w.getD k 0))) S.call := by
          refine ix_lst ?_
          rw [List.getElem?_map, List.getElem?_eq_getElem (by omega)]
          simp [List.getD_eq_getElem?_getD, List.getElem?_eq_getElem (show k < w.length by omega)]
        have hrl : (rows.getD k []).length = m := by
          rw [List.getD_eq_getElem?_getD, List.getElem?_eq_getElem hk]
          exact hm _ (List.getElem_mem _)
        have y2 : ixV (.d (ti (rows.getD k []))) (.d (.int j)) S.call = .ok (.d (.int ((rows.getD k []).getD j 0))) S.call := by
          refine ix_tup ?_
          rw [List.getElem?_map, List.getElem?_eq_getElem (by omega)]
          simp [List.getD_eq_getElem?_getD, List.getElem?_eq_getElem (show j < (rows[k]?.getD []).length by rw [← List.getD_eq_getElem?_getD]; omega)]
        have y3 := gx k hk
        have z1 : -1000000 ≤ w.getD k 0 ∧ w.getD k 0 ≤ 1000000 := by
          rw [List.getD_eq_getElem?_getD, List.getElem?_eq_getElem (by omega)]
          exact hwr _ (List.getElem_mem _)
        generalize (rows.getD k []).getD j 0 = b at *
        generalize rows.getD k [] = f at *
        generalize w.getD k 0 = c at *
        simp [c__law_poly_sum_1, varV, y1, y3, y2, mul_l (i := c) (j := b) (by omega) (by omega)], rfl⟩)
    have es := sum_new (S := S.call) (f := (List.range rows.length).map fun (k : Nat) => w.getD k 0 * (rows.getD k []).getD j 0)
    rw [List.map_map, sum_sumI] at es
    have es' : b1V .sum (.new (.lst ((List.range rows.length).map fun (k : Nat) => .int (w.getD k 0 * (rows.getD k []).getD j 0)))) S.call = _ := es
    generalize sumI (fun k => w.getD k 0 * (rows.getD k []).getD j 0) (List.range rows.length) = tot at *
    simp only [c__law_poly_sum_2, Env.put, wipeE, List.foldl_cons, List.foldl_nil, List.set_cons_succ, List.set_cons_zero, E_bin, E_b1]
    simp [-E_lc, -List.getD_eq_getElem?_getD]
    rw [ec, go_ok, es', go_ok]
    simp [varV, bop_mod (j := p) hp]
def dlD (l : List (List Int)) : D := .lst (l.map ti)
theorem cut_mid {xs : List D} {a b : Nat} (h : a + b ≤ xs.length) : cut xs (some (a : Int)) (some ((a : Int) + b)) = (xs.drop a).take b := by
  unfold cut
  have h1 : sIx xs.length 0 (some (a : Int)) = a := by
    unfold sIx
    dsimp only
    rw [if_neg (by omega)]
    show min a xs.length = a
    omega
  have h2 : sIx xs.length xs.length (some ((a : Int) + b)) = a + b := by
    rw [show ((a : Int) + b) = ((a + b : Nat) : Int) by push_cast; rfl]
    unfold sIx
    dsimp only
    rw [if_neg (by omega)]
    show min (a + b) xs.length = a + b
    omega
  rw [h1, h2]
  congr 1
  omega

/-! the law's weights of a new list -/
@[simp] theorem walk_lst {ds : List D} : walkSeq (.d (.lst ds)) S = .ok ⟨ds, none⟩ S := (rfl)
theorem l_w2D {ili ira : Nat} (h1 : T ili = some (hInverse ira)) (h2 : T ira = some hRaised) {p x : Int} (hp : 2 ≤ p ∧ p ≤ 1000000) {pts : List Int} : ∀ (os : List Int) (xs : List Int), xs.length + os.length < 1000000 →
    forL (fun _ => true) (putT (.one 4)) (evS (callN T (n + 2)) (hW2 ili)) [some (.d (.int p)), some (.d (.lst (pts.map D.int))), some (.d (.int x)), some (.loc 0 0), none, none, none, none] 1 (os.map D.int) [some (.d (.int p)), some (.d (.lst (pts.map D.int))), some (.d (.int x)), some (.loc 0 0), none, none, none, none] (bagS S (xs.map D.int)) =
      .ok (.next [some (.d (.int p)), some (.d (.lst (pts.map D.int))), some (.d (.int x)), some (.loc 0 0), none, none, none, none]) (bagS S ((xs ++ os.map (lwV p pts x)).map D.int)) := by
  intro os
  induction os with
  | nil =>
    intro xs _
    rw [List.map_nil, forL]
    dsimp only
    rw [if_pos rfl, List.map_nil, List.append_nil]
  | cons o os ih =>
    intro xs hx
    rw [List.length_cons] at hx
    have p0 : 0 < p := by omega
    have ih := ih (xs ++ [lwV p pts x o]) (by rw [List.length_append]; simp; omega)
    have r1 := top_range (x := x) (one := o) p0 pts 1 (by omega) (by omega)
    have r2 := top_range (x := o) (one := o) p0 pts 1 (by omega) (by omega)
    have r3 := linv_range (a := topV p o o pts 1) hp.1
    have e1 := l_w1 (S := bagS S (xs.map D.int)) (C := callN T (n + 2)) (x := x) (one := o) (a1 := .d (.lst (pts.map D.int))) (a3 := .loc 0 0) (q5 := .d (.int 1)) (q6 := .d (.int 1)) hp (chk := (⟨pts.map D.int, none⟩ : Walk).chk) rfl (n0 := 1) rfl pts 1 1 (by omega) (by omega) (by omega) (by omega)
    have e2 := s_linv (n := n) (S := bagS S (xs.map D.int)) h1 h2 (a := topV p o o pts 1) hp
    have e3 : meth1 .append (.loc 0 0) (.d (.int (lwV p pts x o))) (bagS S (xs.map D.int)) = .ok (.d .non) (bagS S ((xs ++ [lwV p pts x o]).map D.int)) := by
      rw [bag_app (by rw [List.length_map]; omega), List.map_append]
      rfl
    rw [List.map_cons, forL]
    dsimp only
    rw [if_pos rfl]
    have ol : (bagS S (xs.map D.int)).own.length = 1 := rfl
    simp [putT, Env.put, hW2, varV, ol, e1, bag_recv, e2, mul_l (i := topV p x o pts 1) (j := linv p (topV p o o pts 1)) (by omega) (by omega), bop_mod p0]
    rw [show topV p x o pts 1 * linv p (topV p o o pts 1) % p = lwV p pts x o from rfl, e3]
    simp
    rw [ownFree_take (n := 1) rfl]
    simp at ih
    exact ih
theorem s_lweightsD {i ili ira : Nat} (h : T i = some (hWeights ili)) (h1 : T ili = some (hInverse ira)) (h2 : T ira = some hRaised) {p x : Int} (hp : 2 ≤ p ∧ p ≤ 1000000) {pts : List Int} (hl : pts.length < 1000000) :
    callN T (n + 3) i [.d (.int p), .d (.lst (pts.map D.int)), .d (.int x)] S = .ok (.new (.lst ((pts.map (lwV p pts x)).map D.int))) S := by
  have e := l_w2D (n := n) (S := S) h1 h2 (x := x) hp (pts := pts) pts [] (by simpa using hl)
  rw [List.nil_append] at e
  have hb : (⟨[⟨false, .lst []⟩], S.own :: S.out, S.gl⟩ : St) = bagS S [] := rfl
  have hb2 : (⟨[⟨false, .lst ((pts.map (lwV p pts x)).map D.int)⟩], S.own :: S.out, S.gl⟩ : St) = bagS S ((pts.map (lwV p pts x)).map D.int) := rfl
  have ol : (bagS S []).own.length = 1 := rfl
  rw [List.map_nil] at e
  have e' : forL (⟨pts.map D.int, none⟩ : Walk).chk (putT (.one 4)) (evS (callN T (n + 2)) (hW2 ili)) _ 1 _ _ (bagS S []) = _ := e
  rw [call_eq h rfl]
  simp only [List.map_map] at e'
  simp [hWeights, varV, St.call, sz, hb, ol, e']
  rfl
/-! one row of the law's run -/
def lrS (S0 : St) (po dl : List D) (rest : List LO) : St := ⟨⟨false, .lst po⟩ :: ⟨false, .lst dl⟩ :: rest, S0.own :: S0.out, S0.gl⟩
section
variable {p q t : Nat} {coins : List Int} {pre suf : List Row} {st : RS} {r : Row} {u i : Nat}
theorem coin_sl {coins : List Int} {t at_ k : Nat} (h : at_ + t * k + t ≤ coins.length) : slV (.d (ti coins)) (some ((at_ : Int) + t * k)) (some ((at_ : Int) + t * k + t)) S = .ok (.d (ti (cn coins t at_ k))) S := by
  rw [sl_tup, show ((at_ : Int) + t * k) = ((at_ + t * k : Nat) : Int) by push_cast; rfl, cut_mid (by rw [List.length_map]; exact h)]
  unfold cn
  rw [ti, List.map_take, List.map_drop]
theorem RI.ixp (h : RI p q t coins pre suf st) {dl : List D} {rest : List LO} {e a : Nat} (hw : Wire pre e a) : ixV (.loc 0 0) (.d (.int (a : Nat))) (lrS S (st.polys.map opD) dl rest) = .ok (.d (ti (U.gp st.polys a))) (lrS S (st.polys.map opD) dl rest) := by
  refine ix_loc (ds := st.polys.map opD) (z := false) rfl ?_
  rw [List.getElem?_map, (h.gp hw).1]
  rfl
/-- the first number of what a party deals -/
def dFst (p : Int) (st : RS) (r : Row) (k : Nat) : Int := match r with
  | .prod a b => (pe ((k : Int) + 1) (gp st.polys a) % p) * (pe ((k : Int) + 1) (gp st.polys b) % p) % p
  | _ => 0
theorem many_eq {p : Int} (hd : (∃ a b, r = .prod a b) ∨ (∃ a, r = .kept a)) : manyP p q t coins st r = (List.range q).map fun (k : Nat) => dFst p st r k :: cn coins t st.at_ k := by
  rcases hd with ⟨a, b, rfl⟩ | ⟨a, rfl⟩ <;> rfl
theorem lr_inner (hT : H__law_run T I) (h : RI p q t coins pre (r :: suf) st) (hs : SetOk p q t) (hd : (∃ a b, r = .prod a b) ∨ (∃ a, r = .kept a)) {K : String} (hK : (K = "product" ∧ ∃ a b, r = .prod a b) ∨ (K = "kept" ∧ ∃ a, r = .kept a)) {dl : List D} {a0 a1 a2 a9 a13 : SV} :
    forL (fun _ => true) (putT (.one 15)) (evS (callN T (n + 1)) (b__law_run_1 I)) [some a0, some a1, some a2, some (.d (ti coins)), some (.d (.int p)), some (.d (.int q)), some (.d (.int t)), some (.loc 0 0), some (.loc 0 1), some a9, some (.d (.int st.at_)), some (.d r.enc), some (.d (sD K)), some a13, some (.loc 0 2), none, none] 3 ((List.range q).map fun k => D.int (k : Nat)) [some a0, some a1, some a2, some (.d (ti coins)), some (.d (.int p)), some (.d (.int q)), some (.d (.int t)), some (.loc 0 0), some (.loc 0 1), some a9, some (.d (.int st.at_)), some (.d r.enc), some (.d (sD K)), some a13, some (.loc 0 2), none, none] (lrS S (st.polys.map opD) dl [⟨false, .lst []⟩]) =
      .ok (.next [some a0, some a1, some a2, some (.d (ti coins)), some (.d (.int p)), some (.d (.int q)), some (.d (.int t)), some (.loc 0 0), some (.loc 0 1), some a9, some (.d (.int st.at_)), some (.d r.enc), some (.d (sD K)), some a13, some (.loc 0 2), none, none]) (lrS S (st.polys.map opD) dl [⟨false, .lst ((manyP p q t coins st r).map ti)⟩]) := by
  have plo := hs.pr.lo
  have phi := hs.hp
  have hq9 := hs.q9
  have htq := hs.tq
  have hmr : manyR q r = q := by rcases hd with ⟨a, b, rfl⟩ | ⟨a, rfl⟩ <;> rfl
  have el := forL_fold (enc := fun (k : Nat) => D.int (k : Int)) (chk := fun _ => true) (put := putT (.one 15)) (body := evS (callN T (n + 1)) (b__law_run_1 I)) (n0 := 3)
    (ρ0 := [some a0, some a1, some a2, some (.d (ti coins)), some (.d (.int p)), some (.d (.int q)), some (.d (.int t)), some (.loc 0 0), some (.loc 0 1), some a9, some (.d (.int st.at_)), some (.d r.enc), some (.d (sD K)), some a13, some (.loc 0 2), none, none])
    (fun _ => [some a0, some a1, some a2, some (.d (ti coins)), some (.d (.int p)), some (.d (.int q)), some (.d (.int t)), some (.loc 0 0), some (.loc 0 1), some a9, some (.d (.int st.at_)), some (.d r.enc), some (.d (sD K)), some a13, some (.loc 0 2), none, none]) (fun (m : List (List Int)) => lrS S (st.polys.map opD) dl [⟨false, .lst (m.map ti)⟩]) (fun m k => m ++ [dFst p st r k :: cn coins t st.at_ k])
    (fun l m => m.length + l.length ≤ 1000 ∧ ∀ k ∈ l, k < q)
    (fun k l m hi => by
      obtain ⟨h1, h2⟩ := hi
      rw [List.length_cons] at h1
      have hk := h2 k List.mem_cons_self
      have hroom := h.room1 (k := k) (by rw [hmr]; exact hk)
      rw [Nat.mul_succ] at hroom
      refine ⟨rfl, _, [some a0, some a1, some a2, some (.d (ti coins)), some (.d (.int p)), some (.d (.int q)), some (.d (.int t)), some (.loc 0 0), some (.loc 0 1), some a9, some (.d (.int st.at_)), some (.d r.enc), some (.d (sD K)), some a13, some (.loc 0 2), some (.d (.int k)), some (.d (.int (dFst p st r k)))], lrS S (st.polys.map opD) dl [⟨false, .lst ((m ++ [dFst p st r k :: cn coins t st.at_ k]).map ti)⟩], rfl, ?_, rfl, ownFree_take rfl, by rw [List.length_append]; simp; omega, fun j hj => h2 j (List.mem_cons_of_mem _ hj)⟩
      have er : recvOk .append (view (lrS S (st.polys.map opD) dl [⟨false, .lst (m.map ti)⟩]) (.loc 0 2)) = true := recv_loc (ds := m.map ti) (z := false) (by simp) rfl
      have ea : meth1 .append (.loc 0 2) (.d (ti (dFst p st r k :: cn coins t st.at_ k))) (lrS S (st.polys.map opD) dl [⟨false, .lst (m.map ti)⟩]) = .ok (.d .non) (lrS S (st.polys.map opD) dl [⟨false, .lst ((m ++ [dFst p st r k :: cn coins t st.at_ k]).map ti)⟩]) := by
        rw [app_d (u := 0) (i := 2) (ds := m.map ti) rfl (by rw [List.length_map]; omega), List.map_append]
        rfl
      generalize (m ++ [dFst p st r k :: cn coins t st.at_ k]).map ti = res at ea ⊢
      have e3 := coin_sl (S := lrS S (st.polys.map opD) dl [⟨false, .lst (m.map ti)⟩]) (coins := coins) (t := t) (at_ := st.at_) (k := k) (by omega)
      have eb : ∀ (S : St) (c : Int), binV .add (.d (.tup [D.int c])) (.d (ti (cn coins t st.at_ k))) S = .ok (.d (ti (c :: cn coins t st.at_ k))) S := fun S c => bin_tup (by
        have : (cn coins t st.at_ k).length ≤ t := by unfold cn; rw [List.length_take]; omega
        simp; omega)
      have z1 : sz 1 = true := rfl
      have z2 : sz 2 = true := rfl
      rcases hK with ⟨rfl, a, b, rfl⟩ | ⟨rfl, a, rfl⟩
      · obtain ⟨w1, w2⟩ := h.prog.at rfl
        have x1 := h.ixp (S := S) (dl := dl) (rest := [⟨false, .lst (m.map ti)⟩]) w1
        have x2 := h.ixp (S := S) (dl := dl) (rest := [⟨false, .lst (m.map ti)⟩]) w2
        have y1 := s_at (n := n) (S := lrS S (st.polys.map opD) dl [⟨false, .lst (m.map ti)⟩]) hT._law_at.at_ (p := (p : Int)) (x := (k : Int) + 1) (by omega) (U.gp st.polys a)
        have y2 := s_at (n := n) (S := lrS S (st.polys.map opD) dl [⟨false, .lst (m.map ti)⟩]) hT._law_at.at_ (p := (p : Int)) (x := (k : Int) + 1) (by omega) (U.gp st.polys b)
        have z3 := mod_nn (i := pe ((k : Int) + 1) (U.gp st.polys a)) (show (0 : Int) < p by omega)
        have z4 := mod_lt (i := pe ((k : Int) + 1) (U.gp st.polys a)) (show (0 : Int) < p by omega)
        simp only [dFst] at ea ⊢
        generalize pe ((k : Int) + 1) (U.gp st.polys a) % (p : Int) = xa at *
        generalize pe ((k : Int) + 1) (U.gp st.polys b) % (p : Int) = xb at *
        simp [Env.put, b__law_run_1, varV, x1, x2, y1, y2, z1, mul_l (i := xa) (j := xb) (by omega) (by omega), bop_mod (j := (p : Int)) (by omega), er, mul_l (i := (t : Int)) (j := (k : Int)) (by omega) (by omega), e3, eb, ea]
      · simp only [dFst] at ea ⊢
        simp [Env.put, b__law_run_1, varV, z1, er, mul_l (i := (t : Int)) (j := (k : Int)) (by omega) (by omega), e3, eb, ea])
    (fun s _ => rfl) (List.range q) [] (by simp; omega)
  have e1 := el.1
  have hres : (List.range q).foldl (fun m k => m ++ [dFst p st r k :: cn coins t st.at_ k]) ([] : List (List Int)) = manyP p q t coins st r := by
    have : ∀ (l : List Nat) (m : List (List Int)), l.foldl (fun m k => m ++ [dFst p st r k :: cn coins t st.at_ k]) m = m ++ l.map fun (k : Nat) => dFst p st r k :: cn coins t st.at_ k := by
      intro l
      induction l with
      | nil => intro m; simp
      | cons a l ih => intro m; rw [List.foldl_cons, ih]; simp
    rw [this, many_eq hd]
    rfl
  rw [hres] at e1
  exact e1
end
end U

set_option maxHeartbeats 4000000
/-! URunL2: the law's own run, whole. -/
namespace U
open PySem
variable {T : Nat → Option FD} {I : Nat → Nat} {n : Nat} {S : St}
theorem wt_sameU {p : Int} (h : Pr p) {pts : List Int} (ap : Apart p pts) (nd : pts.Nodup) (x : Int) : wtV p pts x = pts.map (lwV p pts x) := by
  unfold wtV
  apply List.ext_getElem
  · rw [List.length_map, List.length_map, List.length_range]
  · intro i h1 h2
    rw [List.length_map] at h2
    rw [List.getElem_map, List.getElem_map, List.getElem_range]
    exact weight_same h ap nd h2 x
theorem pt_nodup (q : Nat) : (ptI q).Nodup := by
  rw [pt_map, List.nodup_iff_pairwise_ne, List.pairwise_map]
  exact (List.nodup_iff_pairwise_ne.mp List.nodup_range).imp fun h z => h (by omega)
theorem wts_law {p q : Nat} {t : Nat} (hs : SetOk p q t) : (ptI q).map (lwV p (ptI q) 0) = wts p q := (wt_sameU hs.pr (apart_pt (by have := hs.qp; omega)) (pt_nodup q) 0).symm
def kindS : Row → String
  | .inp _ => "in" | .cst _ => "const" | .sum _ _ => "sum" | .less _ _ => "less" | .prod _ _ => "product" | .times _ _ => "times" | .out _ _ => "out" | .next => "next" | .kept _ => "kept"
theorem in_sl (a : String) : cmpV .in_ (.d (sD a)) (.d (.tup [sD "sum", sD "less"])) S = .ok (.d (.bl (decide (a ∈ ["sum", "less"])))) S := in_strs a ["sum", "less"]
theorem app_loc {u i j : Nat} {ds : List D} {c : CO} {z : Bool} (h : S.get u i = some ⟨z, c⟩) (h2 : (S.set u i ⟨true, c⟩).get u j = some ⟨false, .lst ds⟩) (hl : ds.length < 16777216) : meth1 .append (.loc u j) (.loc u i) S = .ok (.d .non) ((S.set u i ⟨true, c⟩).set u j ⟨false, .lst (ds ++ [c.dat])⟩) := by
  unfold meth1 M.bind keep
  dsimp only
  rw [h]
  dsimp only
  rw [h2]
  dsimp only
  rw [if_pos hl]
@[simp] theorem b1_int_bl {b : Bool} : b1V .int (.d (.bl b)) S = .ok (.d (.int (if b then 1 else 0))) S := by cases b <;> rfl
theorem ixm0 {a b : D} : ixV (.new (.lst [a, b])) (.d (.int 0)) S = .ok (.d a) S := ix_new (k := 0) rfl
theorem ixm1 {a b : D} : ixV (.new (.lst [a, b])) (.d (.int 1)) S = .ok (.d b) S := ix_new (k := 1) rfl
section
variable {p q t : Nat} {coins : List Int} {pre suf : List Row} {st : RS} {r : Row} {u i : Nat}
theorem lr_body (hT : H__law_run T I) (h : RI p q t coins pre (r :: suf) st) (hs : SetOk p q t) (hl : pre.length ≤ 1000) {inputs : List Int} {used : Nat} (hu : st.left = inputs.drop used) {a0 a1 : SV} :
    ∃ a13 a14 a15 a16 rest, evS (callN T (n + 4)) (b__law_run_2 I) [some a0, some a1, some (.d (ti inputs)), some (.d (ti coins)), some (.d (.int p)), some (.d (.int q)), some (.d (.int t)), some (.loc 0 0), some (.loc 0 1), some (.d (.int used)), some (.d (.int st.at_)), some (.d r.enc), none, none, none, none, none] (lrS S (st.polys.map opD) (st.dealt.map dlD) []) =
      .ok (.next [some a0, some a1, some (.d (ti inputs)), some (.d (ti coins)), some (.d (.int p)), some (.d (.int q)), some (.d (.int t)), some (.loc 0 0), some (.loc 0 1), some (.d (.int (if r.isIn then used + 1 else used : Nat))), some (.d (.int (rstep p q t coins st r).at_)), some (.d r.enc), some (.d (sD (kindS r))), a13, a14, a15, a16]) (lrS S ((rstep p q t coins st r).polys.map opD) ((rstep p q t coins st r).dealt.map dlD) rest) := by
  have plo := hs.pr.lo
  have phi := hs.hp
  have hq9 := hs.q9
  have hq1 := hs.q1
  have htq := hs.tq
  have hr := h.prog.at rfl
  have z0 : sz 0 = true := rfl
  have z1 : sz 1 = true := rfl
  have z2 : sz 2 = true := rfl
  have hpl : (rstep p q t coins st r).polys.map opD = st.polys.map opD ++ [opD (polyP p q t coins st r)] := by unfold rstep; rw [List.map_append]; rfl
  have hdl : (rstep p q t coins st r).dealt.map dlD = st.dealt.map dlD ++ [dlD (manyP p q t coins st r)] := by unfold rstep; rw [List.map_append]; rfl
  have hat : (((rstep p q t coins st r).at_ : Nat) : Int) = (st.at_ : Int) + t * (manyR q r : Nat) := by unfold rstep; push_cast; rfl
  have hb : ∀ (c : CO), (⟨(lrS S (st.polys.map opD) (st.dealt.map dlD) []).own ++ [⟨false, c⟩], (lrS S (st.polys.map opD) (st.dealt.map dlD) []).out, (lrS S (st.polys.map opD) (st.dealt.map dlD) []).gl⟩ : St) = lrS S (st.polys.map opD) (st.dealt.map dlD) [⟨false, c⟩] := fun _ => rfl
  have hb2 : ∀ (c d : CO), (⟨(lrS S (st.polys.map opD) (st.dealt.map dlD) [⟨false, c⟩]).own ++ [⟨false, d⟩], (lrS S (st.polys.map opD) (st.dealt.map dlD) [⟨false, c⟩]).out, (lrS S (st.polys.map opD) (st.dealt.map dlD) [⟨false, c⟩]).gl⟩ : St) = lrS S (st.polys.map opD) (st.dealt.map dlD) [⟨false, c⟩, ⟨false, d⟩] := fun _ _ => rfl
  have ol : (lrS S (st.polys.map opD) (st.dealt.map dlD) []).own.length = 2 := rfl
  have ol3 : ∀ c : LO, (lrS S (st.polys.map opD) (st.dealt.map dlD) [c]).own.length = 3 := fun _ => rfl
  have er1 : ∀ rest : List LO, recvOk .append (view (lrS S (st.polys.map opD) (st.dealt.map dlD) rest) (.loc 0 0)) = true := fun rest => recv_loc (ds := st.polys.map opD) (z := false) (by simp) rfl
  have ea1 : ∀ rest : List LO, meth1 .append (.loc 0 0) (.d (opD (polyP p q t coins st r))) (lrS S (st.polys.map opD) (st.dealt.map dlD) rest) = .ok (.d .non) (lrS S ((rstep p q t coins st r).polys.map opD) (st.dealt.map dlD) rest) := fun rest => by
    rw [app_d (u := 0) (i := 0) (ds := st.polys.map opD) rfl (by rw [List.length_map, h.len]; omega), hpl]
    rfl
  have er2 : ∀ rest : List LO, recvOk .append (view (lrS S ((rstep p q t coins st r).polys.map opD) (st.dealt.map dlD) rest) (.loc 0 1)) = true := fun rest => recv_loc (ds := st.dealt.map dlD) (z := false) (by simp) rfl
  have ea2 : meth1 .append (.loc 0 1) (.loc 0 2) (lrS S ((rstep p q t coins st r).polys.map opD) (st.dealt.map dlD) [⟨false, .lst ((manyP p q t coins st r).map ti)⟩]) = .ok (.d .non) (lrS S ((rstep p q t coins st r).polys.map opD) ((rstep p q t coins st r).dealt.map dlD) [⟨true, .lst ((manyP p q t coins st r).map ti)⟩]) := by
    rw [app_loc (c := .lst ((manyP p q t coins st r).map ti)) (z := false) (ds := st.dealt.map dlD) rfl rfl (by rw [List.length_map, h.dlen]; omega), hdl]
    rfl
  have eln := len_loc (S := lrS S (st.polys.map opD) (st.dealt.map dlD) [⟨false, .lst ((manyP p q t coins st r).map ti)⟩]) (u := 0) (l := 2) (z := false) (ds := (manyP p q t coins st r).map ti) rfl
  rw [List.length_map, many_len] at eln
  have hmq := many_le (q := q) (r := r) hs.q1
  have em : bop .mul (.int (t : Int)) (.int ((manyR q r : Nat) : Int)) = some (.d (.int ((t : Int) * (manyR q r : Nat)))) := mul_l (by omega) (by omega)
  have em0 : bop .mul (.int (t : Int)) (.int 0) = some (.d (.int 0)) := by
    have := mul_l (i := (t : Int)) (j := 0) (by omega) (by omega)
    simpa using this
  rw [hat]
  generalize hres1 : (rstep p q t coins st r).polys.map opD = res1 at *
  generalize hres2 : (rstep p q t coins st r).dealt.map dlD = res2 at *
  cases r with
  | cst c =>
    refine ⟨some (.d (ti (c :: List.replicate t 0))), some (.loc 0 2), none, none, [⟨true, .lst []⟩], ?_⟩
    have ezs := mul_zeros (S := lrS S (st.polys.map opD) (st.dealt.map dlD) [⟨false, .lst []⟩]) (k := t) (by omega)
    have eb : ∀ (S : St), binV .add (.d (.tup [D.int c])) (.d (ti (List.replicate t 0))) S = .ok (.d (ti (c :: List.replicate t 0))) S := fun S => bin_tup (by simp; omega)
    simp only [polyP, opD_some] at ea1
    simp only [manyP, List.map_nil, manyR] at ea2 eln em
    generalize List.replicate t (0 : Int) = zs at *
    simp [b__law_run_2, varV, z0, z1, hb, ol, ezs, eb, eln, em0, er1, ea1, er2, ea2, Row.isIn, kindS, manyR]
  | times c a =>
    have hc := hr.1
    refine ⟨some (.d (ti (psum p [gp st.polys a] [c]))), some (.loc 0 2), none, none, [⟨true, .lst []⟩], ?_⟩
    have x1 := h.ixp (S := S) (dl := st.dealt.map dlD) (rest := [⟨false, .lst []⟩]) hr.2
    have eps := s_psum (n := n + 3) (S := lrS S (st.polys.map opD) (st.dealt.map dlD) [⟨false, .lst []⟩]) hT._law_poly_sum (p := (p : Int)) (by omega) (v := .d (.lst [ti (gp st.polys a)])) (rows := [gp st.polys a]) (w := [c]) (m := t + 1) rfl rfl (by simpa using (h.gp hr.2).2.1) (by simp) (by simp) (by omega) (by simp) (by simp; omega)
    simp only [List.map_cons, List.map_nil] at eps
    simp only [polyP, opD_some] at ea1
    simp only [manyP, List.map_nil, manyR] at ea2 eln em
    simp [b__law_run_2, varV, z0, z1, hb, ol, x1, eps, eln, em0, er1, ea1, er2, ea2, Row.isIn, kindS, manyR]
  | sum a b =>
    refine ⟨some (.d (ti (psum p [gp st.polys a, gp st.polys b] [1, 1]))), some (.loc 0 2), none, none, [⟨true, .lst []⟩], ?_⟩
    have x1 := h.ixp (S := S) (dl := st.dealt.map dlD) (rest := [⟨false, .lst []⟩]) hr.1
    have x2 := h.ixp (S := S) (dl := st.dealt.map dlD) (rest := [⟨false, .lst []⟩]) hr.2
    have eps := s_psum (n := n + 3) (S := lrS S (st.polys.map opD) (st.dealt.map dlD) [⟨false, .lst []⟩]) hT._law_poly_sum (p := (p : Int)) (by omega) (v := .d (.lst [ti (gp st.polys a), ti (gp st.polys b)])) (rows := [gp st.polys a, gp st.polys b]) (w := [1, 1]) (m := t + 1) rfl rfl (by simp [(h.gp hr.1).2.1, (h.gp hr.2).2.1]) (by simp) (by simp) (by omega) (by simp) (by simp)
    simp only [List.map_cons, List.map_nil] at eps
    simp only [polyP, opD_some] at ea1
    simp only [manyP, List.map_nil, manyR] at ea2 eln em
    simp [b__law_run_2, varV, z0, z1, z2, hb, ol, x1, x2, in_sl, ixm0, ixm1, eps, eln, em0, er1, ea1, er2, ea2, Row.isIn, kindS, manyR]
  | less a b =>
    refine ⟨some (.d (ti (psum p [gp st.polys a, gp st.polys b] [1, -1]))), some (.loc 0 2), none, none, [⟨true, .lst []⟩], ?_⟩
    have x1 := h.ixp (S := S) (dl := st.dealt.map dlD) (rest := [⟨false, .lst []⟩]) hr.1
    have x2 := h.ixp (S := S) (dl := st.dealt.map dlD) (rest := [⟨false, .lst []⟩]) hr.2
    have eps := s_psum (n := n + 3) (S := lrS S (st.polys.map opD) (st.dealt.map dlD) [⟨false, .lst []⟩]) hT._law_poly_sum (p := (p : Int)) (by omega) (v := .d (.lst [ti (gp st.polys a), ti (gp st.polys b)])) (rows := [gp st.polys a, gp st.polys b]) (w := [1, -1]) (m := t + 1) rfl rfl (by simp [(h.gp hr.1).2.1, (h.gp hr.2).2.1]) (by simp) (by simp) (by omega) (by simp) (by simp)
    simp only [List.map_cons, List.map_nil] at eps
    simp only [polyP, opD_some] at ea1
    simp only [manyP, List.map_nil, manyR] at ea2 eln em
    simp [b__law_run_2, varV, z0, z1, z2, hb, ol, x1, x2, in_sl, ixm0, ixm1, eps, eln, em0, er1, ea1, er2, ea2, Row.isIn, kindS, manyR]
  | inp j =>
    have hlen : 0 < st.left.length := by rw [h.left]; simp [nIn, List.filter_cons, Row.isIn]
    have hu2 : used < inputs.length := by rw [hu, List.length_drop] at hlen; omega
    have ei : ∀ S : St, ixV (.d (ti inputs)) (.d (.int used)) S = .ok (.d (.int inputs[used])) S := fun S => ix_tup (getI hu2)
    have hh : st.left.headD 0 = inputs[used] := by rw [hu, List.drop_eq_getElem_cons hu2]; rfl
    have hroom := h.room1 (k := 0) (by simp [manyR])
    refine ⟨some (.d (ti (inputs[used] :: cn coins t st.at_ 0))), some (.loc 0 3), none, none, [⟨false, .lst []⟩, ⟨true, .lst [ti (inputs[used] :: cn coins t st.at_ 0)]⟩], ?_⟩
    have e3 : slV (.d (ti coins)) (some (st.at_ : Int)) (some ((st.at_ : Int) + t)) (lrS S (st.polys.map opD) (st.dealt.map dlD) [⟨false, .lst []⟩]) = .ok (.d (ti (cn coins t st.at_ 0))) (lrS S (st.polys.map opD) (st.dealt.map dlD) [⟨false, .lst []⟩]) := by
      have := coin_sl (S := lrS S (st.polys.map opD) (st.dealt.map dlD) [⟨false, .lst []⟩]) (coins := coins) (t := t) (at_ := st.at_) (k := 0) (by simp at hroom; simpa using hroom)
      simpa using this
    have eb : ∀ (S : St), binV .add (.d (.tup [D.int inputs[used]])) (.d (ti (cn coins t st.at_ 0))) S = .ok (.d (ti (inputs[used] :: cn coins t st.at_ 0))) S := fun S => bin_tup (by
      have : (cn coins t st.at_ 0).length ≤ t := by unfold cn; rw [List.length_take]; omega
      simp; omega)
    have em1 : bop .mul (.int (t : Int)) (.int 1) = some (.d (.int t)) := by
      have := mul_l (i := (t : Int)) (j := 1) (by omega) (by omega)
      simpa using this
    simp only [polyP, opD_some, hh] at ea1
    simp only [manyP, hh, dlD, List.map_cons, List.map_nil] at hdl
    generalize ti (inputs[used] :: cn coins t st.at_ 0) = f at *
    have ea3 : meth1 .append (.loc 0 1) (.loc 0 3) (lrS S res1 (st.dealt.map dlD) [⟨false, .lst []⟩, ⟨false, .lst [f]⟩]) = .ok (.d .non) (lrS S res1 res2 [⟨false, .lst []⟩, ⟨true, .lst [f]⟩]) := by
      rw [app_loc (c := .lst [f]) (z := false) (ds := st.dealt.map dlD) rfl rfl (by rw [List.length_map, h.dlen]; omega), hdl]
      rfl
    have eln3 := len_loc (S := lrS S (st.polys.map opD) (st.dealt.map dlD) [⟨false, .lst []⟩, ⟨false, .lst [f]⟩]) (u := 0) (l := 3) (z := false) (ds := [f]) rfl
    simp at eln3
    simp [b__law_run_2, varV, z0, z1, hb, hb2, ol, ol3, ei, e3, eb, eln3, em1, er1, ea1, er2, ea3, Row.isIn, kindS, manyR]
  | prod a b =>
    refine ⟨some (.d (opD (polyP p q t coins st (.prod a b)))), some (.loc 0 2), none, none, [⟨true, .lst ((manyP p q t coins st (.prod a b)).map ti)⟩], ?_⟩
    have hm := h.many (show 0 < p by omega)
    have hml := many_len (p := (p : Int)) (q := q) (t := t) (coins := coins) (st := st) (r := .prod a b)
    have ei := lr_inner (n := n + 3) (S := S) hT h hs (.inl ⟨a, b, rfl⟩) (K := "product") (.inl ⟨rfl, a, b, rfl⟩) (dl := st.dealt.map dlD) (a0 := a0) (a1 := a1) (a2 := .d (ti inputs)) (a9 := .d (.int used)) (a13 := .d .non)
    have ei' : forL (⟨(List.range q).map fun k => D.int (k : Nat), none⟩ : Walk).chk (putT (.one 15)) (evS (callN T (n + 4)) (b__law_run_1 I)) _ 3 _ _ (lrS S (st.polys.map opD) (st.dealt.map dlD) [⟨false, .lst []⟩]) = _ := ei
    have hps : opD (polyP p q t coins st (.prod a b)) = ti (psum p (manyP p q t coins st (.prod a b)) (wts p q)) := rfl
    generalize hS2 : lrS S (st.polys.map opD) (st.dealt.map dlD) [⟨false, .lst ((manyP p q t coins st (.prod a b)).map ti)⟩] = S2 at *
    have ew := s_lweightsD (n := n + 1) (S := S2) hT._law_weights.at_ hT._law_weights._law_inverse.at_ hT._law_weights._law_inverse._law_raised.at_ (p := (p : Int)) (x := 0) (by omega) (pts := ptI q) (by rw [pt_len]; omega)
    rw [wts_law hs] at ew
    have eps := s_psum (n := n + 3) (S := S2) hT._law_poly_sum (p := (p : Int)) (by omega) (v := .loc 0 2) (rows := manyP p q t coins st (.prod a b)) (w := wts p q) (m := t + 1) (by rw [← hS2]; rfl) (by rw [← hS2]; rfl) (fun f hf => (hm f hf).1) (fun z => by rw [z] at hml; simp [manyR] at hml; omega) (by rw [hml]; simp [manyR]; omega) (by omega) (by rw [wts_len, hml]; rfl) (fun c hc => by have := wts_in (p := (p : Int)) (by omega) c hc; omega)
    rw [← hps] at eps
    have er : trngV true (.d (.int 1)) (.d (.int ((q : Int) + 1))) S2 = .ok (.new (.lst ((ptI q).map D.int))) S2 := by
      rw [trng_int (by omega) (by omega) (by omega) (by omega) (by omega), show ((q : Int) + 1 - 1).toNat = q by omega]
      rw [pt_rng]
      rfl
    have hrg := rng1_nat (S := lrS S (st.polys.map opD) (st.dealt.map dlD) [⟨false, .lst []⟩]) (q := q) (by omega)
    have er1 := er1 [⟨false, .lst ((manyP p q t coins st (.prod a b)).map ti)⟩]
    have ea1 := ea1 [⟨false, .lst ((manyP p q t coins st (.prod a b)).map ti)⟩]
    have er2 := er2 [⟨false, .lst ((manyP p q t coins st (.prod a b)).map ti)⟩]
    rw [hS2] at er1 ea1
    generalize lrS S res1 (st.dealt.map dlD) [⟨false, .lst ((manyP p q t coins st (.prod a b)).map ti)⟩] = S3 at *
    generalize opD (polyP p q t coins st (.prod a b)) = f at *
    simp only [enc_prod] at ei'
    simp only [manyR] at em eln
    simp [b__law_run_2, varV, z0, z1, z2, hb, ol, ol3, hrg, ei', in_sl, er, ew, eps, eln, em, er1, ea1, er2, ea2, Row.isIn, kindS, manyR]
  | kept a =>
    obtain ⟨e, _, hw⟩ := hr
    refine ⟨some (.d (opD (polyP p q t coins st (.kept a)))), some (.loc 0 2), none, none, [⟨true, .lst ((manyP p q t coins st (.kept a)).map ti)⟩], ?_⟩
    have hm := h.many (show 0 < p by omega)
    have hml := many_len (p := (p : Int)) (q := q) (t := t) (coins := coins) (st := st) (r := .kept a)
    have ei := lr_inner (n := n + 3) (S := S) hT h hs (.inr ⟨a, rfl⟩) (K := "kept") (.inr ⟨rfl, a, rfl⟩) (dl := st.dealt.map dlD) (a0 := a0) (a1 := a1) (a2 := .d (ti inputs)) (a9 := .d (.int used)) (a13 := .d .non)
    have ei' : forL (⟨(List.range q).map fun k => D.int (k : Nat), none⟩ : Walk).chk (putT (.one 15)) (evS (callN T (n + 4)) (b__law_run_1 I)) _ 3 _ _ (lrS S (st.polys.map opD) (st.dealt.map dlD) [⟨false, .lst []⟩]) = _ := ei
    have hps : opD (polyP p q t coins st (.kept a)) = ti (psum p (gp st.polys a :: manyP p q t coins st (.kept a)) (List.replicate (q + 1) 1)) := rfl
    have x1 := h.ixp (S := S) (dl := st.dealt.map dlD) (rest := [⟨false, .lst ((manyP p q t coins st (.kept a)).map ti)⟩]) hw
    generalize hS2 : lrS S (st.polys.map opD) (st.dealt.map dlD) [⟨false, .lst ((manyP p q t coins st (.kept a)).map ti)⟩] = S2 at *
    have eps := s_psum (n := n + 3) (S := S2) hT._law_poly_sum (p := (p : Int)) (by omega) (v := .d (.lst (ti (gp st.polys a) :: (manyP p q t coins st (.kept a)).map ti))) (rows := gp st.polys a :: manyP p q t coins st (.kept a)) (w := List.replicate (q + 1) 1) (m := t + 1) rfl rfl (fun f hf => (List.mem_cons.mp hf).elim (fun z => z ▸ (h.gp hw).2.1) (fun hf => (hm f hf).1)) (by simp) (by rw [List.length_cons, hml]; simp [manyR]; omega) (by omega) (by rw [List.length_replicate, List.length_cons, hml]; rfl) (fun c hc => by rw [(List.mem_replicate.mp hc).2]; omega)
    rw [← hps] at eps
    have ebn : binV .add (.new (.lst [ti (gp st.polys a)])) (.loc 0 2) S2 = .ok (.new (.lst (ti (gp st.polys a) :: (manyP p q t coins st (.kept a)).map ti))) S2 := bin_lst (s := [ti (gp st.polys a)]) (t := (manyP p q t coins st (.kept a)).map ti) (by rw [List.length_map, hml]; simp [manyR]; omega) rfl (by rw [← hS2]; rfl)
    have emu : binV .mul (.new (.lst [D.int 1])) (.d (.int ((q : Int) + 1))) S2 = .ok (.new (.lst ((List.replicate (q + 1) (1 : Int)).map D.int))) S2 := by
      rw [mul_lst (by omega) (by omega) (by simp), show ((q : Int) + 1).toNat = q + 1 by omega, rep_c]
    have hrg := rng1_nat (S := lrS S (st.polys.map opD) (st.dealt.map dlD) [⟨false, .lst []⟩]) (q := q) (by omega)
    have er1 := er1 [⟨false, .lst ((manyP p q t coins st (.kept a)).map ti)⟩]
    have ea1 := ea1 [⟨false, .lst ((manyP p q t coins st (.kept a)).map ti)⟩]
    have er2 := er2 [⟨false, .lst ((manyP p q t coins st (.kept a)).map ti)⟩]
    rw [hS2] at er1 ea1
    generalize lrS S res1 (st.dealt.map dlD) [⟨false, .lst ((manyP p q t coins st (.kept a)).map ti)⟩] = S3 at *
    generalize opD (polyP p q t coins st (.kept a)) = f at *
    generalize List.replicate (q + 1) (1 : Int) = ones at *
    simp only [enc_kept] at ei'
    simp only [manyR] at em eln
    simp [b__law_run_2, varV, z0, z1, z2, hb, ol, ol3, hrg, ei', in_sl, x1, ebn, emu, eps, eln, em, er1, ea1, er2, ea2, Row.isIn, kindS, manyR]
  | out a j =>
    refine ⟨some (.d .non), some (.loc 0 2), none, none, [⟨true, .lst []⟩], ?_⟩
    simp only [polyP, opD_none] at ea1
    simp only [manyP, List.map_nil, manyR] at ea2 eln em
    simp [b__law_run_2, varV, z0, z1, z2, hb, ol, in_sl, eln, em0, er1, ea1, er2, ea2, Row.isIn, kindS, manyR]
  | next =>
    refine ⟨some (.d .non), some (.loc 0 2), none, none, [⟨true, .lst []⟩], ?_⟩
    simp only [polyP, opD_none] at ea1
    simp only [manyP, List.map_nil, manyR] at ea2 eln em
    simp [b__law_run_2, varV, z0, z1, z2, hb, ol, in_sl, eln, em0, er1, ea1, er2, ea2, Row.isIn, kindS, manyR]
theorem used_step (h : RI p q t coins pre (r :: suf) st) {inputs : List Int} {used : Nat} (hu : st.left = inputs.drop used) (hu2 : used ≤ inputs.length) : (rstep p q t coins st r).left = inputs.drop (if r.isIn then used + 1 else used) ∧ (if r.isIn then used + 1 else used) ≤ inputs.length := by
  unfold rstep
  dsimp only
  cases hin : r.isIn with
  | true =>
    have hleft := h.left
    have : 0 < st.left.length := by rw [hleft]; simp [nIn, List.filter_cons, hin]
    rw [hu, List.length_drop] at this
    rw [if_pos rfl, if_pos rfl, hu, List.tail_drop]
    exact ⟨rfl, by omega⟩
  | false => exact ⟨hu, hu2⟩
theorem s_lrun (hT : H__law_run T I) (hs : SetOk p q t) {rows : List Row} (hP : Prog p q rows) (hl : rows.length ≤ 1000) {inputs : List Int} (hi : InR p inputs) (hn : inputs.length = nIn rows) (hc : InR p coins) (hcl : needs q t rows ≤ coins.length) :
    callN T (n + 5) (I N._law_run) [.d (setD p q t), .d (progD rows), .d (ti inputs), .d (ti coins)] S = .ok (.new (.lst [.lst ((runV p q t coins inputs rows).polys.map opD), .lst ((runV p q t coins inputs rows).dealt.map dlD)])) S := by
  have plo := hs.pr.lo
  have phi := hs.hp
  have el := forL_fold (enc := Row.enc) (chk := (⟨rows.map Row.enc, none⟩ : Walk).chk) (put := putT (.one 11)) (body := evS (callN T (n + 4)) (b__law_run_2 I)) (n0 := 2)
    (ρ0 := [some (.d (setD p q t)), some (.d (progD rows)), some (.d (ti inputs)), some (.d (ti coins)), some (.d (.int p)), some (.d (.int q)), some (.d (.int t)), some (.loc 0 0), some (.loc 0 1), some (.d (.int 0)), some (.d (.int 0)), none, none, none, none, none, none])
    (fun (st : RS) => [some (.d (setD p q t)), some (.d (progD rows)), some (.d (ti inputs)), some (.d (ti coins)), some (.d (.int p)), some (.d (.int q)), some (.d (.int t)), some (.loc 0 0), some (.loc 0 1), some (.d (.int (inputs.length - st.left.length : Nat))), some (.d (.int (st.at_ : Nat))), none, none, none, none, none, none]) (fun (st : RS) => lrS S (st.polys.map opD) (st.dealt.map dlD) []) (rstep p q t coins)
    (fun l st => ∃ pre, RI p q t coins pre l st ∧ pre.length + l.length ≤ 1000 ∧ ∃ used, st.left = inputs.drop used ∧ used ≤ inputs.length)
    (fun r l st hi => by
      obtain ⟨pre, hv, hlen, used, hu, hu2⟩ := hi
      rw [List.length_cons] at hlen
      have he : inputs.length - st.left.length = used := by rw [hu, List.length_drop]; omega
      obtain ⟨a13, a14, a15, a16, rest, e1⟩ := lr_body (n := n) (S := S) hT hv hs (by omega) hu (a0 := .d (setD p q t)) (a1 := .d (progD rows))
      obtain ⟨k1, k2⟩ := used_step hv hu hu2
      have hn' : inputs.length - (rstep p q t coins st r).left.length = if r.isIn then used + 1 else used := by rw [k1, List.length_drop]; omega
      rw [he]
      refine ⟨rfl, _, _, _, rfl, e1, ?_, ?_, pre ++ [r], hv.step (by omega) hs.q1, by rw [List.length_append]; simp; omega, _, k1, k2⟩
      · rw [hn']
        rfl
      · rfl)
    (fun s _ => rfl) rows ⟨[], [], inputs, 0⟩ ⟨[], RI.start hP hi hn hc hcl, by simpa using hl, 0, rfl, by omega⟩
  have e1 := el.1
  have hb0 : ∀ c : CO, (⟨[⟨false, .lst []⟩, ⟨false, .lst []⟩], S.own :: S.out, S.gl⟩ : St) = lrS S [] [] [] := fun _ => rfl
  have ol : (lrS S [] [] []).own.length = 2 := rfl
  simp only [List.map_nil, Nat.sub_self] at e1
  have z0 : sz 0 = true := rfl
  have z2 : sz 2 = true := rfl
  have e1' : forL (⟨rows.map Row.enc, none⟩ : Walk).chk (putT (.one 11)) (evS (callN T (n + 4)) (b__law_run_2 I)) _ 2 _ [some (.d (setD p q t)), some (.d (progD rows)), some (.d (ti inputs)), some (.d (ti coins)), some (.d (.int p)), some (.d (.int q)), some (.d (.int t)), some (.loc 0 0), some (.loc 0 1), some (.d (.int 0)), some (.d (.int 0)), none, none, none, none, none, none] (lrS S [] [] []) = _ := e1
  rw [call_eq hT.at_ rfl]
  unfold runV
  generalize rows.foldl (rstep p q t coins) ⟨[], [], inputs, 0⟩ = fin at *
  have ek : evK (callN T (n + 4)) (.cons (.var 7) (.cons (.var 8) .nil)) [some (.d (setD p q t)), some (.d (progD rows)), some (.d (ti inputs)), some (.d (ti coins)), some (.d (.int p)), some (.d (.int q)), some (.d (.int t)), some (.loc 0 0), some (.loc 0 1), some (.d (.int (inputs.length - fin.left.length : Nat))), some (.d (.int (fin.at_ : Nat))), none, none, none, none, none, none] (lrS S (fin.polys.map opD) (fin.dealt.map dlD) []) = .ok [.lst (fin.polys.map opD), .lst (fin.dealt.map dlD)] ⟨[⟨true, .lst (fin.polys.map opD)⟩, ⟨true, .lst (fin.dealt.map dlD)⟩], S.own :: S.out, S.gl⟩ := rfl
  simp [-K_cons, p__law_run, varV, z0, z2, St.call, unpV, cut_set, puts, Env.put, hb0 (.lst []), ol, pr_ix1, e1']
  rw [ek]
  simp [z2]
end
end U

set_option maxHeartbeats 4000000
/-! URunP: polynomials of shares, sent, the law's coins; heads are the plain values. -/
namespace U
open PySem
variable {T : Nat → Option FD} {I : Nat → Nat} {n : Nat} {S : St}
theorem notN_non {x : RV} {d : D} (h : view S (hold x).rv = some d) : cmpV .notN x (.d .non) S = .ok (.d (.bl (!isNonB d))) S := by
  unfold cmpV
  rw [h]
  rfl
theorem cut_t1 {xs : List D} {t : Nat} (h : t + 1 ≤ xs.length) : cut xs none (some ((t : Int) + 1)) = xs.take (t + 1) := cut_take (k := t + 1) h
theorem pt_take {q m : Nat} (h : m ≤ q) : (ptI q).take m = ptI m := by
  rw [pt_map, pt_map, ← List.map_take, List.take_range, Nat.min_eq_left h]
section
variable {p q t : Nat} {coins : List Int} {pre suf : List Row} {st : RS} {r : Row} {u i : Nat}
theorem s_polyof (hT : H_poly_of T I) (hs : SetOk p q t) {f : List Int} (hf : f.length = t + 1) (hr : InR p f) : callN T (n + 6) (I N.poly_of) [.d (setD p q t), .d (ti (sharesV p q f))] S = .ok (.d (ti f)) S := by
  have plo := hs.pr.lo
  have phi := hs.hp
  have hq9 := hs.q9
  have htq := hs.tq
  have e1 := s_parties (n := n + 4) (S := S.call) hT.parties.at_ (p := p) (t := t) (q := q) (by omega)
  have h1 : ((ptI q).map D.int).take (t + 1) = (ptI (t + 1)).map D.int := by rw [← List.map_take, pt_take (by omega)]
  have h2 : ((sharesV p q f).map D.int).take (t + 1) = ((ptI (t + 1)).map fun a => pe a f % p).map D.int := by
    unfold sharesV
    rw [← List.map_take, ← List.map_take, pt_take (by omega)]
  have e2 := s_through (n := n) (S := S.call) (polyT hT.through.bases) hT.through.bases.at_ hT.through.at_ (p := (p : Int)) (by omega) (ptI (t + 1)) ((ptI (t + 1)).map fun a => pe a f % p) (pt_sm (by omega)) (fun a ha => by
    obtain ⟨b, _, rfl⟩ := List.mem_map.mp ha
    have := mod_nn (i := pe b f) (show (0 : Int) < p by omega)
    have := mod_lt (i := pe b f) (show (0 : Int) < p by omega)
    omega) (by rw [List.length_map]) (by rw [pt_len]; omega)
  rw [thr_self hs.pr (apart_pt (by have := hs.qp; omega)) (by rw [pt_len]; exact hf) hr] at e2
  have c1 := cut_t1 (xs := (ptI q).map D.int) (t := t) (by rw [List.length_map, pt_len]; omega)
  have c2 := cut_t1 (xs := (sharesV p q f).map D.int) (t := t) (by rw [List.length_map, shares_len]; omega)
  rw [h1] at c1
  rw [h2] at c2
  generalize hv : (ptI (t + 1)).map (fun a => pe a f % p) = vals at *
  rw [call_eq hT.at_ rfl]
  simp [p_poly_of, varV, e1, set_ix1, set_ix3, c1, c2, e2]
theorem s_polysof (hT : H_polys_of T I) (hs : SetOk p q t) {polys : List (Option (List Int))} (hl : polys.length ≤ 1000) (h : ∀ f, some f ∈ polys → f.length = t + 1 ∧ InR p f) :
    callN T (n + 7) (I N.polys_of) [.d (setD p q t), .d (.tup (polys.map (oshD p q)))] S = .ok (.d (.tup (polys.map opD))) S := by
  rw [call_eq hT.at_ rfl]
  simp only [p_polys_of, S_ret, E_b1]
  rw [lc_map (enc := oshD p q) (l := polys) (g := opD) (v := fun o => .d (opD o)) (at_ := none) ?hw rfl ?hl (fun o ho => ⟨rfl, ?hc, rfl⟩)]
  · simp
  case hw => simp [varV]
  case hl => omega
  case hc =>
    cases o with
    | none =>
      have e1 : cmpV .notN (.d .non) (.d .non) S.call = .ok (.d (.bl false)) S.call := notN_non (S := S.call) (x := .d .non) (d := .non) rfl
      simp [Env.put, wipeE, c_polys_of_1, varV, e1]
    | some f =>
      obtain ⟨h1, h2⟩ := h f ho
      have e1 : cmpV .notN (.d (ti (sharesV p q f))) (.d .non) S.call = .ok (.d (.bl true)) S.call := notN_non (S := S.call) (x := .d (ti (sharesV p q f))) (d := ti (sharesV p q f)) rfl
      have e2 := s_polyof (n := n) (S := S.call) hT.poly_of hs h1 h2
      simp [Env.put, wipeE, c_polys_of_1, varV, e1, e2]
/-- all polynomials of a run -/
theorem run_all (hs : SetOk p q t) {rows : List Row} (hP : Prog p q rows) {inputs : List Int} (hi : InR p inputs) (hn : inputs.length = nIn rows) (hc : InR p coins) (hcl : needs q t rows ≤ coins.length) : RI p q t coins rows [] (runV p q t coins inputs rows) := by
  have := (RI.start hP hi hn hc hcl).run (by have := hs.pr.lo; omega) hs.q1
  simpa [runV] using this
theorem RI.all (h : RI p q t coins pre [] st) {f : List Int} (hf : some f ∈ st.polys) : f.length = t + 1 ∧ InR p f := by
  obtain ⟨a, ha, e⟩ := List.getElem_of_mem hf
  have hp : a < pre.length := by rw [← h.len]; exact ha
  have e2 : st.polys[a]? = some (some f) := by rw [List.getElem?_eq_getElem ha, e]
  cases hw : pre[a].wire with
  | true =>
    obtain ⟨g, h1, h2⟩ := h.wire a pre[a] (List.getElem?_eq_getElem hp) hw
    rw [e2] at h1
    cases h1
    exact h2
  | false =>
    have := h.none a pre[a] (List.getElem?_eq_getElem hp) hw
    rw [e2] at this
    cases this
/-! sent -/
def sentD (p q : Nat) (rows : List Row) (polys : List (Option (List Int))) (k : Nat) : D := .tup [.int k, .int (outJ (rowAt rows k)), ti (sharesV p q (gp polys (outW (rowAt rows k))))]
theorem RI.out (h : RI p q t coins rows [] st) {k a j : Nat} (hk : k < rows.length) (hr : rowAt rows k = .out a j) : st.polys[a]? = some (some (U.gp st.polys a)) ∧ (U.gp st.polys a).length = t + 1 ∧ InR p (U.gp st.polys a) ∧ 1 ≤ j ∧ j ≤ q := by
  have hP := h.prog
  rw [List.append_nil] at hP
  have := hP.row (k := k) (r := .out a j) (by rw [rowAt_some hk, hr])
  obtain ⟨r, h1, h2, h3, h4⟩ := this.1.up
  have hw := h.gp (e := epo rows a) (a := a) ⟨r, h1, h2, rfl⟩
  exact ⟨hw.1, hw.2.1, hw.2.2, this.2⟩
theorem s_sent (hT : H_sent T I) (hs : SetOk p q t) {rows : List Row} (hP : Prog p q rows) (hl : rows.length ≤ 1000) {inputs : List Int} (hi : InR p inputs) (hn : inputs.length = nIn rows) (hc : InR p coins) (hcl : needs q t rows ≤ coins.length) :
    callN T (n + 8) (I N.sent) [.d (setD p q t), .d (progD rows), .d (ti inputs), .d (ti coins)] S = .ok (.d (.tup ((outsV rows).map (sentD p q rows (runV p q t coins inputs rows).polys)))) S := by
  have e1 := s_run (n := n) (S := S.call) hT.run hs hP hl hi hn hc hcl
  have e2 := s_outs (n := n + 6) (S := S.call) hT.output_rows hl
  have hR := run_all hs hP hi hn hc hcl
  generalize runV p q t coins inputs rows = fin at *
  rw [call_eq hT.at_ rfl]
  simp [-E_lc, p_sent, varV, e1]
  rw [lc_map (enc := fun (k : Nat) => D.int (k : Int)) (l := outsV rows) (g := sentD p q rows fin.polys) (v := fun k => .d (sentD p q rows fin.polys k)) (at_ := none) ?hw rfl ?hl (fun k hk => ⟨rfl, ?hc, rfl⟩)]
  · simp
  case hw => simp [varV, e2]
  case hl => exact Nat.le_trans (List.length_filter_le _ _) (by rw [List.length_range]; omega)
  case hc =>
    obtain ⟨h1, a, j, h2⟩ := outs_mem hk
    have hrow : rows[k]? = some (.out a j) := by rw [rowAt_some h1, h2]
    have ix1 : ∀ S : St, ixV (.d (.tup (rows.map Row.enc))) (.d (.int k)) S = .ok (.d (Row.out a j).enc) S := fun S => row_ix hrow
    have hg := hR.out h1 h2
    have ix2 : ∀ S : St, ixV (.d (.tup (fin.polys.map (oshD p q)))) (.d (.int a)) S = .ok (.d (ti (sharesV p q (gp fin.polys a)))) S := fun S => ix_tup (by rw [List.getElem?_map, hg.1]; rfl)
    have z3 : sz 3 = true := rfl
    simp [Env.put, wipeE, c_sent_1, varV, pr_ix1, ix1, ix2, z3, sentD, h2, outJ, outW]
/-! the law's coins -/
theorem s_lcoinsof (hT : H__law_coins_of T I) (hs : SetOk p q t) {rows : List Row} (hl : rows.length ≤ 1000) : callN T (n + 1) (I N._law_coins_of) [.d (setD p q t), .d (progD rows)] S = .ok (.d (.int (needs q t rows))) S := by
  have htq := hs.tq
  have hq9 := hs.q9
  have z : zipK [Str.ofString "in", Str.ofString "product", Str.ofString "kept"] [D.int 1, .int q, .int q] = [(sD "in", .int 1), (sD "product", .int q), (sD "kept", .int q)] := by simp
  rw [call_eq hT.at_ rfl]
  simp [-E_lc, p__law_coins_of, varV, set_ix2, disOk3, z]
  rw [lc_map (enc := Row.enc) (l := rows) (g := fun r => .int (((t * manyR q r : Nat) : Int))) (v := fun r => .d (.int ((t * manyR q r : Nat) : Int))) (at_ := none) ?hw rfl ?hl (fun r hr => ⟨rfl, ?hc, rfl⟩)]
  · have e2 := sum_new (S := S.call) (f := rows.map fun r => ((t * manyR q r : Nat) : Int))
    rw [List.map_map] at e2
    have e3 : ∀ rows : List Row, (rows.map fun r => ((t * manyR q r : Nat) : Int)).sum = (needs q t rows : Int) := by
      intro rows
      unfold needs
      induction rows with
      | nil => rfl
      | cons a l ih => rw [List.map_cons, List.sum_cons, ih, List.map_cons, List.sum_cons]; push_cast; rfl
    rw [e3] at e2
    have e2' : b1V .sum (.new (.lst (rows.map fun r => .int ((t * manyR q r : Nat) : Int)))) S.call = _ := e2
    rw [go_ok, e2']
    simp
  case hw => simp [varV, pr_ix1]
  case hl => omega
  case hc =>
    have hb := many_le (q := q) (r := r) hs.q1
    have hm := mul_l (i := (t : Int)) (j := (manyR q r : Int)) (by omega) (by omega)
    cases r <;> simp [manyR] at hm <;> simp [Env.put, wipeE, c__law_coins_of_1, varV, set_ix3, manyR, hm]
def cnext (x : Int) : Int := (x * 16807 + 7) % 2147483647
def cstep (p : Int) (st : List Int × Int) (_ : Nat) : List Int × Int := (st.1 ++ [cnext st.2 / 997 % p], cnext st.2)
theorem s_lcoins (hT : H__law_coins T I) {u j : Nat} {ds : List Int} {k : Nat} (hb : S.get u j = some (boxO ds k)) (hs : SetOk p q t) {rows : List Row} (hl : rows.length ≤ 1000) :
    ∃ coins : List Int, InR p coins ∧ coins.length = needs q t rows ∧ callN T (n + 2) (I N._law_coins) [.loc u j, .d (setD p q t), .d (progD rows)] S = .ok (.d (ti coins)) (S.set u j (boxO ds (k + 2))) := by
  have plo := hs.pr.lo
  have phi := hs.hp
  have hq9 := hs.q9
  have htq := hs.tq
  have g0 : S.call.get (u + 1) j = some (boxO ds k) := by rw [call_get]; exact hb
  have e1 := s_draw (n := n) (m := 1000) hT._law_draw.at_ g0 (by omega)
  have d1 := drw_nn (ds := ds) (k := k) (m := 1000) (by omega)
  have d2 := drw_lt (ds := ds) (k := k) (m := 1000) (by omega)
  generalize drw ds k 1000 = x at *
  rw [call_set] at e1
  have g1 : (S.set u j (boxO ds (k + 1))).call.get (u + 1) j = some (boxO ds (k + 1)) := by rw [call_get]; exact get_set hb
  have e2 := s_draw (n := n) (m := 1000) hT._law_draw.at_ g1 (by omega)
  have d3 := drw_nn (ds := ds) (k := k + 1) (m := 1000) (by omega)
  have d4 := drw_lt (ds := ds) (k := k + 1) (m := 1000) (by omega)
  generalize drw ds (k + 1) 1000 = y at *
  rw [call_set, set_set] at e2
  have hnl : needs q t rows ≤ 100 * rows.length := by
    unfold needs
    clear e1 e2 g0 g1 hb hl
    induction rows with
    | nil => simp
    | cons r rows ih =>
      rw [List.map_cons, List.sum_cons, List.length_cons]
      have := many_le (q := q) (r := r) hs.q1
      have hb : t * manyR q r ≤ 9 * 9 := Nat.mul_le_mul (by omega) (by omega)
      omega
  have e3 := fun S : St => s_lcoinsof (n := n) (S := S) hT._law_coins_of hs hl
  generalize hm : needs q t rows = m at *
  generalize hS2 : S.set u j (boxO ds (k + 2)) = S2 at *
  have el := forL_fold (enc := fun (k : Nat) => D.int (k : Int)) (chk := (⟨(List.range m).map fun k => D.int (k : Nat), none⟩ : Walk).chk) (put := putT (.one 5)) (body := evS (callN T (n + 1)) (b__law_coins_1 I)) (n0 := 1)
    (ρ0 := [some (.loc (u + 1) j), some (.d (setD p q t)), some (.d (progD rows)), some (.d (.int (1 + x * 1000 + y))), some (.loc 0 0), none])
    (fun st => [some (.loc (u + 1) j), some (.d (setD p q t)), some (.d (progD rows)), some (.d (.int st.2)), some (.loc 0 0), none]) (fun st => bagS S2 (st.1.map D.int)) (cstep p)
    (fun l st => st.1.length + l.length = m ∧ InR p st.1 ∧ 0 ≤ st.2 ∧ st.2 < 2147483647)
    (fun k l st hi => by
      obtain ⟨h1, h2, h3, h4⟩ := hi
      rw [List.length_cons] at h1
      have q1 := mod_nn (i := st.2 * 16807 + 7) (j := 2147483647) (by omega)
      have q2 := mod_lt (i := st.2 * 16807 + 7) (j := 2147483647) (by omega)
      have ea := bag_app (S0 := S2) (xs := st.1.map D.int) (d := .int (cnext st.2 / 997 % p)) (by rw [List.length_map]; omega)
      have ed : bop .fdiv (.int (cnext st.2)) (.int 997) = some (.d (.int (cnext st.2 / 997))) := bop_div (by omega) (by omega)
      refine ⟨rfl, _, [some (.loc (u + 1) j), some (.d (setD p q t)), some (.d (progD rows)), some (.d (.int (cnext st.2))), some (.loc 0 0), some (.d (.int k))], bagS S2 ((st.1 ++ [cnext st.2 / 997 % p]).map D.int), rfl, ?_, rfl, ownFree_take rfl, ?_, ?_, q1, q2⟩
      · rw [List.map_append]
        have hn : (st.2 * 16807 + 7) % 2147483647 = cnext st.2 := rfl
        simp [Env.put, b__law_coins_1, varV, mul_l (i := st.2) (j := 16807) (by omega) (by omega), bop_mod (j := 2147483647) (by omega), hn]
        simp [Env.put, varV, bag_recv, ed, set_ix1, bop_mod (j := (p : Int)) (by omega), ea]
      · unfold cstep; rw [List.length_append]; simp; omega
      · intro c hc
        unfold cstep at hc
        rcases List.mem_append.mp hc with hc | hc
        · exact h2 c hc
        · rw [List.mem_singleton.mp hc]
          exact ⟨mod_nn (by omega), mod_lt (by omega)⟩)
    (fun s _ => rfl) (List.range m) ([], 1 + x * 1000 + y) ⟨by simp, fun c hc => (by cases hc), by simp; omega, by simp; omega⟩
  have e4 := el.1
  obtain ⟨k1, k2, _, _⟩ := el.2
  generalize (List.range m).foldl (cstep p) ([], 1 + x * 1000 + y) = fin at *
  refine ⟨fin.1, k2, by simpa using k1, ?_⟩
  have hb0 : (⟨[⟨false, .lst []⟩], S2.own :: S2.out, S2.gl⟩ : St) = bagS S2 [] := rfl
  have ol : (bagS S2 []).own.length = 1 := rfl
  have z0 : sz 0 = true := rfl
  have hr := fun S : St => rng1_nat (S := S) (q := m) (by omega)
  have et := tuple_loc (S := bagS S2 (fin.1.map D.int)) (u := 0) (l := 0) (z := false) (ds := fin.1.map D.int) rfl
  have hc2 : (⟨S2.call.own ++ [⟨false, .lst []⟩], S2.call.out, S2.call.gl⟩ : St) = bagS S2 [] := rfl
  have hcl : S2.call.own.length = 0 := rfl
  simp only [List.map_nil] at e4
  rw [call_eq hT.at_ rfl]
  simp [p__law_coins, varV, e1, e2, mul_l (i := x) (j := 1000) (by omega) (by omega), z0, hb0, hc2, hcl, ol, e3, hr]
  simp [hb0, ol, hr, e4, varV, et]
  rfl
theorem s_lshares (hT : H__law_shares T I) {p t : Int} {q : Nat} (hp : 2 ≤ p ∧ p ≤ 1000000) (hq : q ≤ 1000) (f : List Int) : callN T (n + 2) (I N._law_shares) [.d (setD p q t), .d (ti f)] S = .ok (.d (ti (sharesV p q f))) S := by
  rw [call_eq hT.at_ rfl]
  simp only [p__law_shares, S_ret, E_b1]
  rw [lc_map (enc := D.int) (l := ptI q) (g := fun a => .int (pe a f % p)) (v := fun a => .d (.int (pe a f % p))) (at_ := none) ?hw rfl ?hl (fun a ha => ⟨rfl, ?hc, rfl⟩)]
  · simp [sharesV]
  case hw =>
    have := rng2_int (S := S.call) (i := 1) (j := (q : Int) + 1) (by omega) (by omega) (by omega) (by omega)
    rw [show ((q : Int) + 1 - 1).toNat = q by omega, pt_rng] at this
    simp [varV, set_ix2, this]
  case hl => rw [pt_len]; omega
  case hc =>
    have e2 := s_at (n := n) (S := S.call) hT._law_at.at_ (x := a) hp f
    simp [Env.put, wipeE, c__law_shares_1, varV, set_ix1, e2]
/-! heads are the plain values -/
structure HV (st : RS) (vs : List (Option Int) × List Int) : Prop where
  hd : st.polys.map (Option.map fun f => f.getD 0 0) = vs.1
  lf : st.left = vs.2
theorem HV.gv {st : RS} {vs : List (Option Int) × List Int} (h : HV st vs) (a : Nat) : (gp st.polys a).getD 0 0 = U.gv vs.1 a := by
  unfold gp U.gv
  rw [← h.hd, List.getElem?_map]
  cases st.polys[a]? with
  | none => rfl
  | some o => cases o <;> rfl
theorem prod_head {p q t : Nat} (hs : SetOk p q t) {f g : List Int} (hf : f.length = t + 1) (hg : g.length = t + 1) {M : Nat → List Int} :
    sumI (fun k => (wts p q).getD k 0 * (((List.range q).map fun (k : Nat) => ((pe ((k : Int) + 1) f % p) * (pe ((k : Int) + 1) g % p) % p) :: M k).getD k []).getD 0 0) (List.range q) % p = (f.getD 0 0 * g.getD 0 0) % p := by
  have htq := hs.tq
  have hg0 : g ≠ [] := fun z => by rw [z] at hg; simp at hg
  have h1 := wt_val hs.pr (pts := ptI q) (f := pMul f g) (apart_pt (by have := hs.qp; omega)) (by have := pMul_len f g hg0; rw [pt_len]; omega) 0
  rw [pMul_pe, pe_zero_head, pe_zero_head, pt_len] at h1
  refine cg.trans (sumI_cg fun k hk => ?_) h1
  have hk := List.mem_range.mp hk
  have e1 : (ptI q).getD k 0 = (k : Int) + 1 := by
    rw [List.getD_eq_getElem?_getD, List.getElem?_eq_getElem (by rw [pt_len]; exact hk), pt_get]
    rfl
  have e2 : (((List.range q).map fun (k : Nat) => ((pe ((k : Int) + 1) f % p) * (pe ((k : Int) + 1) g % p) % p) :: M k).getD k []).getD 0 0 = (pe ((k : Int) + 1) f % p) * (pe ((k : Int) + 1) g % p) % p := by
    show ((((List.range q).map _)[k]?.getD [])[0]?.getD 0) = _
    rw [List.getElem?_map, List.getElem?_range hk]
    rfl
  rw [e1, e2, pMul_pe]
  exact cg.refl.mul (cg.mod.trans (cg.mod.mul cg.mod))
theorem HV.step (hs : SetOk p q t) (h : RI p q t coins pre (r :: suf) st) {vs : List (Option Int) × List Int} (hv : VI p q pre (r :: suf) vs) (hh : HV st vs) : HV (rstep p q t coins st r) (vstep p vs r) := by
  have plo := hs.pr.lo
  have hr := h.prog.at rfl
  have hq1 := hs.q1
  refine ⟨?_, ?_⟩
  · have hgoal : (polyP p q t coins st r).map (fun f => f.getD 0 0) = rowVal p vs.1 vs.2 r := by
      cases r with
      | inp j => simp [polyP, rowVal, hh.lf]
      | cst c => simp [polyP, rowVal]
      | sum a b =>
        have := (h.gp hr.1).2.1
        simp only [polyP, rowVal, Option.map_some]
        rw [psum_head (by simp [this]), ← hh.gv a, ← hh.gv b]
        simp [sumI, List.range_succ]
      | less a b =>
        have := (h.gp hr.1).2.1
        simp only [polyP, rowVal, Option.map_some]
        rw [psum_head (by simp [this]), ← hh.gv a, ← hh.gv b]
        simp [sumI, List.range_succ]
        rw [Int.sub_eq_add_neg]
      | times c a =>
        have := (h.gp hr.2).2.1
        simp only [polyP, rowVal, Option.map_some]
        rw [psum_head (by simp [this]), ← hh.gv a]
        simp [sumI, List.range_succ]
      | prod a b =>
        have hm := h.many (show 0 < p by omega)
        have hml := many_len (p := (p : Int)) (q := q) (t := t) (coins := coins) (st := st) (r := .prod a b)
        have hne : manyP p q t coins st (.prod a b) ≠ [] := fun z => by rw [z] at hml; simp [manyR] at hml; omega
        have hl : ((manyP p q t coins st (.prod a b)).headD []).length = t + 1 := headD_len (fun f hf => (hm f hf).1) hne
        simp only [polyP, rowVal, Option.map_some]
        rw [psum_head (by omega), ← hh.gv a, ← hh.gv b, hml]
        exact congrArg some (prod_head hs (h.gp hr.1).2.1 (h.gp hr.2).2.1 (M := fun k => cn coins t st.at_ k))
      | kept a =>
        obtain ⟨e, _, hw⟩ := hr
        have hml := many_len (p := (p : Int)) (q := q) (t := t) (coins := coins) (st := st) (r := .kept a)
        simp only [polyP, rowVal, Option.map_some]
        rw [psum_head (by simp [(h.gp hw).2.1]), ← hh.gv a, List.length_cons, hml, List.range_succ_eq_map, sumI]
        have hz : sumI (fun k => (List.replicate (q + 1) (1 : Int)).getD k 0 * ((gp st.polys a :: manyP p q t coins st (.kept a)).getD k []).getD 0 0) (List.map Nat.succ (List.range (manyR q (.kept a)))) = 0 := by
          refine (sumI_congr (g := fun _ => 0) fun k hk => ?_).trans (sumI_zero _)
          obtain ⟨i, hi, rfl⟩ := List.mem_map.mp hk
          have hi := List.mem_range.mp hi
          have : ((gp st.polys a :: manyP p q t coins st (.kept a)).getD (Nat.succ i) []).getD 0 0 = 0 := by
            rw [List.getD_cons_succ]
            show ((((List.range q).map fun (k : Nat) => 0 :: cn coins t st.at_ k)[i]?.getD [])[0]?.getD 0) = _
            rw [List.getElem?_map, List.getElem?_range (show i < q from hi)]
            rfl
          rw [this, Int.mul_zero]
        rw [hz]
        have hin : 0 ≤ (gp st.polys a).getD 0 0 ∧ (gp st.polys a).getD 0 0 < p := by
          rw [hh.gv a]
          exact (hv.gv hw).2
        show some (((1 : Int) * (gp st.polys a).getD 0 0 + 0) % p) = _
        rw [Int.one_mul, Int.add_zero, Int.emod_eq_of_lt hin.1 hin.2]
      | out a j => rfl
      | next => rfl
    unfold rstep vstep
    rw [List.map_append, hh.hd, ← hgoal]
    rfl
  · unfold rstep vstep
    rw [hh.lf]
theorem HV.run (hs : SetOk p q t) : ∀ {suf pre : List Row} {st : RS} {vs : List (Option Int) × List Int}, RI p q t coins pre suf st → VI p q pre suf vs → HV st vs → HV (suf.foldl (rstep p q t coins) st) (suf.foldl (vstep p) vs)
  | [], pre, st, vs, _, _, hh => hh
  | r :: suf, pre, st, vs, h, hv, hh => HV.run (suf := suf) (pre := pre ++ [r]) (st := rstep p q t coins st r) (vs := vstep p vs r) hs (h.step (by have := hs.pr.lo; omega) hs.q1) hv.step (hh.step hs h hv)
theorem run_heads (hs : SetOk p q t) {rows : List Row} (hP : Prog p q rows) {inputs : List Int} (hi : InR p inputs) (hn : inputs.length = nIn rows) (hc : InR p coins) (hcl : needs q t rows ≤ coins.length) :
    (runV p q t coins inputs rows).polys.map (Option.map fun f => f.getD 0 0) = valsV p inputs rows := (HV.run hs (RI.start hP hi hn hc hcl) (VI.start hP hi hn) (vs := ([], inputs)) ⟨rfl, rfl⟩).hd
end
end U

/-! UTrD: trees of shared defs (printed by lib.py). -/
namespace U
open PySem
abbrev N.told_row : Nat := 122
abbrev N.read_out : Nat := 123
abbrev N._law_sets : Nat := 124
abbrev N._law_read : Nat := 125
abbrev N.law_k18 : Nat := 126
def b_told_row_1 (I : Nat → Nat) : DS := (.ife (.cmp .eq (.var 4) (.var 1))
    (.setIx (.var 3) (.bin .sub (.var 5) (.con (.int 1))) (.var 6))
    .skip)
def p_told_row (I : Nat → Nat) : FD := { np := 3, ns := 7, body := (.seq (.set 3 true (.b1 .list (.var 0)))
    (.seq (.for_ (.many [4, 5, 6]) (.wk .seq (.var 2) .nil)
    (b_told_row_1 I))
    (.ret (.b1 .tuple (.var 3))))) }
-- slots of told_row: 0:row 1:k 2:lies 3:found 4:line 5:party 6:number
structure H_told_row (T : Nat → Option FD) (I : Nat → Nat) : Prop where
  at_ : T (I N.told_row) = some (p_told_row I)
def c_read_out_1 (I : Nat → Nat) : DE := (.tup (.cons (.var 6) (.cons (.var 7) (.cons (.call (I N.read) (.cons (.var 0) (.cons (.call (I N.told_row) (.cons (.var 8) (.cons (.var 6) (.cons (.var 4) .nil)))) .nil))) .nil))))
def p_read_out (I : Nat → Nat) : FD := { np := 5, ns := 9, body := (.seq (.set 5 false (.call (I N.sent) (.cons (.var 0) (.cons (.var 1) (.cons (.var 2) (.cons (.var 3) .nil))))))
    (.ret (.b1 .tuple (.lc (c_read_out_1 I) (.many [6, 7, 8]) (.wk .seq (.var 5) .nil) (.con (.bl true)) [6, 7, 8])))) }
-- slots of read_out: 0:setting 1:program 2:inputs 3:coins 4:lies 5:rows 6:k 7:party 8:row
structure H_read_out (T : Nat → Option FD) (I : Nat → Nat) : Prop where
  at_ : T (I N.read_out) = some (p_read_out I)
  sent : H_sent T I
  read : H_read T I
  told_row : H_told_row T I
def c__law_sets_1 (I : Nat → Nat) : DE := (.bin .add (.var 4) (.tup (.cons (.var 3) .nil)))
def c__law_sets_2 (I : Nat → Nat) : DE := (.cmp .lt (.b1 .len (.var 4)) (.var 1))
def b__law_sets_3 (I : Nat → Nat) : DS := (.set 2 false (.bin .add (.var 2) (.lc (c__law_sets_1 I) (.one 4) (.wk .seq (.var 2) .nil) (c__law_sets_2 I) [4])))
def c__law_sets_4 (I : Nat → Nat) : DE := (.var 4)
def c__law_sets_5 (I : Nat → Nat) : DE := (.cmp .eq (.b1 .len (.var 4)) (.var 1))
def p__law_sets (I : Nat → Nat) : FD := { np := 2, ns := 5, body := (.seq (.set 2 false (.lst (.cons (.tup .nil) .nil)))
    (.seq (.for_ (.one 3) (.wk .rng2 (.con (.int 1)) (.bin .add (.var 0) (.con (.int 1))))
    (b__law_sets_3 I))
    (.ret (.lc (c__law_sets_4 I) (.one 4) (.wk .seq (.var 2) .nil) (c__law_sets_5 I) [4])))) }
-- slots of _law_sets: 0:_law_many 1:_law_size 2:_law_rows 3:_law_party 4:_law_row
structure H__law_sets (T : Nat → Option FD) (I : Nat → Nat) : Prop where
  at_ : T (I N._law_sets) = some (p__law_sets I)
def c__law_read_1 (I : Nat → Nat) : DE := (.bin .mul (.ix (.var 8) (.var 10)) (.ix (.var 1) (.bin .sub (.ix (.var 5) (.var 10)) (.con (.int 1)))))
def b__law_read_2 (I : Nat → Nat) : DS := (.seq (.set 8 false (.call (I N._law_weights) (.cons (.var 2) (.cons (.b1 .list (.var 5)) (.cons (.var 7) .nil)))))
    (.seq (.set 9 false (.bin .mod (.b1 .int (.b1 .sum (.lc (c__law_read_1 I) (.one 10) (.wk .rng1 (.bin .add (.var 4) (.con (.int 1))) .nil) (.con (.bl true)) [10]))) (.var 2)))
    (.set 6 false (.bin .add (.var 6) (.b1 .int (.cmp .eq (.var 9) (.ix (.var 1) (.bin .sub (.var 7) (.con (.int 1))))))))))
def c__law_read_3 (I : Nat → Nat) : DE := (.bin .mul (.ix (.var 8) (.var 10)) (.ix (.var 1) (.bin .sub (.ix (.var 5) (.var 10)) (.con (.int 1)))))
def b__law_read_4 (I : Nat → Nat) : DS := (.seq (.set 6 false (.con (.int 0)))
    (.seq (.for_ (.one 7) (.wk .rng2 (.con (.int 1)) (.bin .add (.var 3) (.con (.int 1))))
    (b__law_read_2 I))
    (.ife (.cmp .ge (.var 6) (.bin .sub (.var 3) (.bin .fdiv (.bin .sub (.bin .sub (.var 3) (.var 4)) (.con (.int 1))) (.con (.int 2)))))
    (.seq (.set 8 false (.call (I N._law_weights) (.cons (.var 2) (.cons (.b1 .list (.var 5)) (.cons (.con (.int 0)) .nil)))))
    (.ret (.bin .mod (.b1 .int (.b1 .sum (.lc (c__law_read_3 I) (.one 10) (.wk .rng1 (.bin .add (.var 4) (.con (.int 1))) .nil) (.con (.bl true)) [10]))) (.var 2))))
    .skip)))
def p__law_read (I : Nat → Nat) : FD := { np := 2, ns := 11, body := (.seq (.unp [2, 3, 4] (.sl (.var 0) (.cons (.con (.int 1)) .nil) .nil))
    (.seq (.for_ (.one 5) (.wk .seq (.call (I N._law_sets) (.cons (.var 3) (.cons (.bin .add (.var 4) (.con (.int 1))) .nil))) .nil)
    (b__law_read_4 I))
    (.ret (.con .non)))) }
-- slots of _law_read: 0:_law_setting 1:_law_row 2:_law_p 3:_law_n 4:_law_t 5:_law_some 6:_law_near 7:_law_party 8:_law_weighed 9:_law_value 10:_law_k
structure H__law_read (T : Nat → Option FD) (I : Nat → Nat) : Prop where
  at_ : T (I N._law_read) = some (p__law_read I)
  _law_sets : H__law_sets T I
  _law_weights : H__law_weights T I
def b_law_k18_1 (I : Nat → Nat) : DS := (.seq (.set 20 false (.bin .add (.con (.int 1)) (.call (I N._law_draw) (.cons (.var 1) (.cons (.var 3) .nil)))))
    (.ife (.cmp .notIn (.var 20) (.var 18))
    (.expr (.m1 .append (.var 18) (.var 20)))
    .skip))
def b_law_k18_2 (I : Nat → Nat) : DS := (.seq (.expr (.m1 .append (.var 11) (.tup (.cons (.var 13) (.cons (.var 20) (.cons (.call (I N._law_number) (.cons (.var 1) (.cons (.var 2) .nil))) .nil))))))
    (.setIx (.var 16) (.bin .sub (.var 20) (.con (.int 1))) (.ix (.ix (.var 11) (.neg (.con (.int 1)))) (.con (.int 2)))))
def b_law_k18_3 (I : Nat → Nat) : DS := (.seq (.set 16 true (.b1 .list (.call (I N._law_shares) (.cons (.var 5) (.cons (.ix (.var 9) (.ix (.ix (.ix (.var 6) (.con (.int 1))) (.var 13)) (.con (.int 1)))) .nil)))))
    (.seq (.set 17 false (.bin .add (.bin .fdiv (.bin .sub (.bin .sub (.var 3) (.var 4)) (.con (.int 1))) (.con (.int 2))) (.bin .mul (.call (I N._law_draw) (.cons (.var 1) (.cons (.con (.int 3)) .nil))) (.b1 .int (.cmp .eq (.call (I N._law_draw) (.cons (.var 1) (.cons (.con (.int 3)) .nil))) (.con (.int 0)))))))
    (.seq (.set 18 true (.lst .nil))
    (.seq (.for_ (.one 19) (.wk .rng1 (.b2 .min (.var 3) (.var 17)) .nil)
    (b_law_k18_1 I))
    (.seq (.for_ (.one 20) (.wk .seq (.b1 .sorted (.var 18)) .nil)
    (b_law_k18_2 I))
    (.seq (.set 21 false (.call (I N._law_read) (.cons (.var 5) (.cons (.var 16) .nil))))
    (.seq (.ife (.and (.cmp .le (.b1 .len (.var 18)) (.bin .fdiv (.bin .sub (.bin .sub (.var 3) (.var 4)) (.con (.int 1))) (.con (.int 2)))) (.cmp .ne (.var 21) (.var 15)))
    (.ret (.con (.bl false)))
    .skip)
    (.expr (.m1 .append (.var 12) (.tup (.cons (.var 13) (.cons (.var 14) (.cons (.var 21) .nil)))))))))))))
def p_law_k18 (I : Nat → Nat) : FD := { np := 1, ns := 22, body := (.seq (.set 1 true (.lst (.cons (.call (I N._law_digits) (.cons (.var 0) (.cons (.con (.int 0)) (.cons (.con (.int 63)) .nil)))) (.cons (.con (.int 0)) .nil))))
    (.seq (.set 2 false (.call (I N._law_pick) (.cons (.var 1) (.cons (.lst (.cons (.con (.int 5)) (.cons (.con (.int 7)) (.cons (.con (.int 11)) (.cons (.con (.int 101)) (.cons (.con (.int 10007)) .nil)))))) .nil))))
    (.seq (.set 3 false (.bin .add (.con (.int 1)) (.call (I N._law_draw) (.cons (.var 1) (.cons (.b2 .min (.con (.int 6)) (.bin .sub (.var 2) (.con (.int 1)))) .nil)))))
    (.seq (.set 4 false (.call (I N._law_draw) (.cons (.var 1) (.cons (.bin .fdiv (.bin .add (.var 3) (.con (.int 1))) (.con (.int 2))) .nil))))
    (.seq (.set 5 false (.tup (.cons (.con (.str (Str.ofString "setting"))) (.cons (.var 2) (.cons (.var 3) (.cons (.var 4) .nil))))))
    (.seq (.set 6 false (.call (I N._law_program) (.cons (.var 1) (.cons (.var 5) (.cons (.con (.int 12)) (.cons (.con (.int 1)) .nil))))))
    (.seq (.set 7 false (.call (I N._law_inputs) (.cons (.var 1) (.cons (.var 5) (.cons (.var 6) .nil)))))
    (.seq (.set 8 false (.call (I N._law_coins) (.cons (.var 1) (.cons (.var 5) (.cons (.var 6) .nil)))))
    (.seq (.set 9 false (.ix (.call (I N._law_run) (.cons (.var 5) (.cons (.var 6) (.cons (.var 7) (.cons (.var 8) .nil))))) (.con (.int 0))))
    (.seq (.set 10 false (.call (I N._law_shown) (.cons (.var 5) (.cons (.var 6) (.cons (.var 7) .nil)))))
    (.seq (.set 11 true (.lst .nil))
    (.seq (.set 12 true (.lst .nil))
    (.seq (.for_ (.many [13, 14, 15]) (.wk .seq (.var 10) .nil)
    (b_law_k18_3 I))
    (.ret (.call (I N._law_same) (.cons (.call (I N.read_out) (.cons (.var 5) (.cons (.var 6) (.cons (.var 7) (.cons (.var 8) (.cons (.b1 .tuple (.var 11)) .nil)))))) (.cons (.b1 .tuple (.var 12)) .nil))))))))))))))))) }
-- slots of law_k18: 0:_law_script 1:_law_box 2:_law_p 3:_law_n 4:_law_t 5:_law_setting 6:_law_program_here 7:_law_inputs_here 8:_law_coins_here 9:_law_polys 10:_law_plain 11:_law_lies 12:_law_due 13:_law_k 14:_law_party 15:_law_value 16:_law_row 17:_law_most 18:_law_liars 19:_law_turn 20:_law_liar 21:_law_read_here
structure H_law_k18 (T : Nat → Option FD) (I : Nat → Nat) : Prop where
  at_ : T (I N.law_k18) = some (p_law_k18 I)
  _law_pick : H__law_pick T I
  _law_draw : H__law_draw T I
  _law_program : H__law_program T I
  _law_inputs : H__law_inputs T I
  _law_coins : H__law_coins T I
  _law_shown : H__law_shown T I
  _law_same : H__law_same T I
  _law_digits : H__law_digits T I
  _law_run : H__law_run T I
  _law_read : H__law_read T I
  read_out : H_read_out T I
  _law_shares : H__law_shares T I
  _law_number : H__law_number T I
end U

set_option maxHeartbeats 2000000
/-! ULie: reading through lies, the plain law. -/
namespace U
open PySem
/-! the law's sets -/
def lsStep (m : Nat) (rows : List (List Int)) (a : Int) : List (List Int) := rows ++ (rows.filter fun r => decide (r.length < m)).map fun r => r ++ [a]
def lsV (m : Nat) (xs : List Int) : List (List Int) := (xs.foldl (lsStep m) [[]]).filter fun r => decide (r.length = m)
theorem ls_gen (m : Nat) : ∀ (xs pre : List Int) (R : List (List Int)), (∀ s, s ∈ R ↔ s.Sublist pre ∧ s.length ≤ m) → ∀ s, s ∈ xs.foldl (lsStep m) R ↔ s.Sublist (pre ++ xs) ∧ s.length ≤ m
  | [], pre, R, h, s => by rw [List.append_nil]; exact h s
  | a :: xs, pre, R, h, s => by
    rw [List.foldl_cons, ls_gen m xs (pre ++ [a]) (lsStep m R a) (fun s => ?_) s, List.append_assoc]
    · rfl
    · unfold lsStep
      rw [List.mem_append, List.mem_map, h s]
      constructor
      · rintro (⟨h1, h2⟩ | ⟨r, hr, rfl⟩)
        · exact ⟨h1.trans (List.sublist_append_left _ _), h2⟩
        · obtain ⟨h1, h2⟩ := List.mem_filter.mp hr
          have h2 := of_decide_eq_true h2
          exact ⟨((h r).mp h1).1.append (List.Sublist.refl _), by rw [List.length_append]; simp; omega⟩
      · rintro ⟨h1, h2⟩
        obtain ⟨l1, l2, rfl, h3, h4⟩ := List.sublist_append_iff.mp h1
        cases l2 with
        | nil => rw [List.append_nil] at h2 ⊢; exact .inl ⟨h3, h2⟩
        | cons b l2 =>
          have hl := h4.length_le
          simp at hl
          subst hl
          have hb : b = a := by
            have := h4.subset (List.mem_singleton.mpr rfl)
            exact List.mem_singleton.mp this
          subst hb
          rw [List.length_append] at h2
          simp at h2
          exact .inr ⟨l1, List.mem_filter.mpr ⟨(h l1).mpr ⟨h3, by omega⟩, decide_eq_true (by omega)⟩, rfl⟩
theorem mem_ls {m : Nat} {xs s : List Int} : s ∈ lsV m xs ↔ s.Sublist xs ∧ s.length = m := by
  unfold lsV
  rw [List.mem_filter, ls_gen m xs [] [[]] (fun s => ?_) s, List.nil_append]
  · constructor
    · rintro ⟨⟨h1, _⟩, h3⟩
      exact ⟨h1, of_decide_eq_true h3⟩
    · rintro ⟨h1, h2⟩
      exact ⟨⟨h1, by omega⟩, decide_eq_true h2⟩
  · rw [List.mem_singleton]
    constructor
    · rintro rfl
      exact ⟨List.Sublist.refl _, by simp⟩
    · rintro ⟨h, _⟩
      exact List.eq_nil_of_sublist_nil h
theorem ls_len (m : Nat) : ∀ (xs : List Int) (R : List (List Int)), (xs.foldl (lsStep m) R).length ≤ R.length * 2 ^ xs.length
  | [], R => by simp
  | a :: xs, R => by
    rw [List.foldl_cons, List.length_cons]
    refine Nat.le_trans (ls_len m xs _) ?_
    unfold lsStep
    rw [List.length_append, List.length_map]
    have := List.length_filter_le (fun r : List Int => decide (r.length < m)) R
    rw [Nat.pow_succ, Nat.mul_comm (2 ^ xs.length) 2, ← Nat.mul_assoc]
    exact Nat.mul_le_mul_right _ (by omega)
/-! the law's reading -/
def rightV (p : Int) (q : Nat) (row f : List Int) : List Int := (ptI q).filter fun a => decide (pe a f % p = shr row a)
theorem right_len {p : Int} {q : Nat} {row f : List Int} : (rightV p q row f).length + (wrongV p q row f).length = q := by
  have := filter_not (fun a => decide (pe a f % p = shr row a)) (ptI q)
  rw [pt_len] at this
  have e : wrongV p q row f = (ptI q).filter fun a => !decide (pe a f % p = shr row a) := by
    unfold wrongV
    congr 1
    funext a
    by_cases h : pe a f % p = shr row a
    · simp [h]
    · have h2 : ¬ shr row a = pe a f % p := fun z => h z.symm
      simp [h, h2]
  rw [e]
  exact this
def lreadV (p : Int) (q m e : Nat) (row : List Int) : Option Int := ((lsV m (ptI q)).find? fun s => decide (q - e ≤ (rightV p q row (polyAt p row s)).length)).map fun s => pe 0 (polyAt p row s) % p
theorem head_zero {p : Int} {f : List Int} (hf : InR p f) : pe 0 f % p = f.getD 0 0 := by
  rw [pe_zero_head]
  cases f with
  | nil => simp
  | cons c f =>
    have := hf c List.mem_cons_self
    exact Int.emod_eq_of_lt this.1 this.2
theorem near_in {p : Int} (hp : Pr p) {q m e : Nat} (hq : (q : Int) < p) (hme : m + e ≤ q) {row s : List Int} (hr : InR p row) (hs : s ∈ lsV m (ptI q)) (hn : q - e ≤ (rightV p q row (polyAt p row s)).length) : polyAt p row s ∈ rdV p q m e row := by
  obtain ⟨h1, h2⟩ := mem_ls.mp hs
  refine (rd_all hp hq hme hr _).mpr ⟨by unfold polyAt; rw [thrV_len, h2], thrV_in hp.pos, ?_⟩
  have := right_len (p := p) (q := q) (row := row) (f := polyAt p row s)
  omega
theorem read_same {p : Int} (hp : Pr p) {q m e : Nat} (hq : (q : Int) < p) (hme : m + 2 * e ≤ q) {row : List Int} (hr : InR p row) :
    (lreadV p q m e row = none ∧ rdV p q m e row = []) ∨ ∃ f, rdV p q m e row = [f] ∧ lreadV p q m e row = some (f.getD 0 0) := by
  have hme' : m + e ≤ q := by omega
  cases hl : rdV p q m e row with
  | nil =>
    refine .inl ⟨?_, rfl⟩
    unfold lreadV
    rw [List.find?_eq_none.mpr fun s hs hn => ?_]
    · rfl
    · have := near_in hp hq hme' hr hs (of_decide_eq_true hn)
      rw [hl] at this
      cases this
  | cons f rest =>
    have hf : f ∈ rdV p q m e row := by rw [hl]; exact List.mem_cons_self
    have hone : ∀ g ∈ rdV p q m e row, g = f := fun g hg => by
      obtain ⟨a1, a2, a3⟩ := (rd_all hp hq hme' hr g).mp hg
      obtain ⟨b1, b2, b3⟩ := (rd_all hp hq hme' hr f).mp hf
      exact near_one hp.fld hq (by omega) a2 b2 a3 b3 (by omega)
    have hrest : rest = [] := by
      cases rest with
      | nil => rfl
      | cons g rest =>
        have hnd := rd_nd (p := p) (q := q) (m := m) (e := e) (row := row)
        rw [hl] at hnd
        have : g = f := hone g (by rw [hl]; simp)
        subst this
        simp at hnd
    subst hrest
    refine .inr ⟨f, rfl, ?_⟩
    obtain ⟨b1, b2, b3⟩ := (rd_all hp hq hme' hr f).mp hf
    have hrl := right_len (p := p) (q := q) (row := row) (f := f)
    have hs1 : ((rightV p q row f).take m).Sublist (ptI q) := (List.take_sublist _ _).trans List.filter_sublist
    have hs2 : ((rightV p q row f).take m).length = m := by rw [List.length_take]; omega
    have hsm := mem_ls.mpr ⟨hs1, hs2⟩
    have hpf : polyAt p row ((rightV p q row f).take m) = f := by
      have ap := apart_sub (apart_pt hq) hs1
      refine poly_eq hp.fld ap (by unfold polyAt; rw [thrV_len]; exact Nat.le_refl _) (by unfold polyAt; rw [thrV_len, hs2, b1]) (fun a ha => ?_) (thrV_in hp.pos) b2
      have h1 := polyAt_val hp hr ap ha
      have h2 := of_decide_eq_true (List.mem_filter.mp (List.mem_of_mem_take ha)).2
      unfold cg
      rw [h1, h2]
    unfold lreadV
    cases hfd : (lsV m (ptI q)).find? fun s => decide (q - e ≤ (rightV p q row (polyAt p row s)).length) with
    | none =>
      have := List.find?_eq_none.mp hfd _ hsm
      rw [hpf] at this
      exact absurd (decide_eq_true (by omega)) this
    | some s =>
      have h1 := List.find?_some hfd
      have h2 := List.mem_of_find?_eq_some hfd
      have h3 := hone _ (near_in hp hq hme' hr h2 (of_decide_eq_true h1))
      show some (pe 0 (polyAt p row s) % p) = _
      rw [h3, head_zero b2]
theorem sort_one {f : List Int} : sortT [f] = [f] := rfl
/-- few lies: the number itself -/
theorem read_few {p : Int} (hp : Pr p) {q m e : Nat} (hq : (q : Int) < p) (hme : m + 2 * e ≤ q) {row f : List Int} (hr : InR p row) (hfl : f.length = m) (hf : InR p f) (hw : (wrongV p q row f).length ≤ e) : lreadV p q m e row = some (f.getD 0 0) := by
  have hm := (rd_all hp hq (by omega) hr f).mpr ⟨hfl, hf, hw⟩
  rcases read_same hp hq hme hr with ⟨_, h⟩ | ⟨g, h1, h2⟩
  · rw [h] at hm; cases hm
  · rw [h1, List.mem_singleton] at hm
    rw [h2, hm]
/-! what is told -/
def toldV (k : Nat) (lies : List (Nat × Nat × Int)) (row : List Int) : List Int := lies.foldl (fun row z => if z.1 = k then row.set z.2.1 z.2.2 else row) row
theorem told_app {k : Nat} {a b : List (Nat × Nat × Int)} {row : List Int} : toldV k (a ++ b) row = toldV k b (toldV k a row) := by unfold toldV; rw [List.foldl_append]
theorem told_none {k : Nat} : ∀ {a : List (Nat × Nat × Int)} {row : List Int}, (∀ z ∈ a, z.1 ≠ k) → toldV k a row = row
  | [], row, h => rfl
  | z :: a, row, h => by
    unfold toldV
    rw [List.foldl_cons, if_neg (h z List.mem_cons_self)]
    exact told_none fun y hy => h y (List.mem_cons_of_mem _ hy)
theorem told_len {k : Nat} : ∀ {a : List (Nat × Nat × Int)} {row : List Int}, (toldV k a row).length = row.length
  | [], row => rfl
  | z :: a, row => by
    unfold toldV
    rw [List.foldl_cons]
    have := told_len (k := k) (a := a) (row := if z.1 = k then row.set z.2.1 z.2.2 else row)
    unfold toldV at this
    rw [this]
    split <;> simp
theorem told_in {p : Int} {k : Nat} : ∀ {a : List (Nat × Nat × Int)} {row : List Int}, (∀ z ∈ a, 0 ≤ z.2.2 ∧ z.2.2 < p) → InR p row → InR p (toldV k a row)
  | [], row, _, h => h
  | z :: a, row, ha, h => by
    unfold toldV
    rw [List.foldl_cons]
    refine told_in (a := a) (fun y hy => ha y (List.mem_cons_of_mem _ hy)) ?_
    split
    · intro c hc
      rcases List.mem_or_eq_of_mem_set hc with hc | rfl
      · exact h c hc
      · exact ha z List.mem_cons_self
    · exact h
theorem told_get {k : Nat} : ∀ {a : List (Nat × Nat × Int)} {row : List Int} {i : Nat}, (∀ z ∈ a, z.2.1 ≠ i) → (toldV k a row)[i]? = row[i]?
  | [], row, i, h => rfl
  | z :: a, row, i, h => by
    unfold toldV
    rw [List.foldl_cons]
    refine (told_get (a := a) (fun y hy => h y (List.mem_cons_of_mem _ hy))).trans ?_
    split
    · rw [List.getElem?_set_ne (h z List.mem_cons_self)]
    · rfl
theorem told_wrong {p : Int} {q k : Nat} {a : List (Nat × Nat × Int)} {f : List Int} {js : List Nat} (hj : ∀ z ∈ a, z.2.1 ∈ js) : (wrongV p q (toldV k a (sharesV p q f)) f).length ≤ js.length := by
  have hn : (wrongV p q (toldV k a (sharesV p q f)) f).Nodup := List.Pairwise.filter _ pt_nd
  have hs : wrongV p q (toldV k a (sharesV p q f)) f ⊆ js.map fun (j : Nat) => (j : Int) + 1 := fun b hb => by
    obtain ⟨h1, h2⟩ := List.mem_filter.mp hb
    have h1 := pt_mem.mp h1
    refine Classical.byContradiction fun hx => ?_
    have hx2 : ∀ z ∈ a, z.2.1 ≠ (b - 1).toNat := fun z hz e => hx (List.mem_map.mpr ⟨z.2.1, hj z hz, by omega⟩)
    have hg := told_get (k := k) (row := sharesV p q f) hx2
    rw [shares_get (by omega)] at hg
    have e : shr (toldV k a (sharesV p q f)) b = pe b f % p := by
      unfold shr
      rw [List.getD_eq_getElem?_getD, hg, show (((b - 1).toNat : Nat) : Int) + 1 = b by omega]
      rfl
    have := of_decide_eq_true h2
    exact this e
  have := hn.length_le_of_subset hs
  rwa [List.length_map] at this
end U

set_option maxHeartbeats 4000000
namespace U
open PySem
variable {T : Nat → Option FD} {I : Nat → Nat} {n : Nat} {S : St}
theorem pl_sum {q t : Nat} : ∀ (rows : List Row) (st : List (List (List Int)) × Nat), (st.1.map fun row => t * row.length).sum = st.2 → ((rows.foldl (plstep q t) st).1.map fun row => t * row.length).sum = (rows.foldl (plstep q t) st).2
  | [], st, h => h
  | r :: rows, st, h => by
    refine pl_sum rows _ ?_
    unfold plstep plR
    rw [List.map_append, List.sum_append, h]
    simp
theorem pl_len {q t : Nat} : ∀ (rows : List Row) (st : List (List (List Int)) × Nat), (rows.foldl (plstep q t) st).1.length = st.1.length + rows.length
  | [], st => rfl
  | r :: rows, st => by
    rw [List.foldl_cons, pl_len rows, List.length_cons]
    unfold plstep
    rw [List.length_append]
    simp
    omega
theorem plV_len {q t : Nat} {rows : List Row} : (plV q t rows).length = rows.length := by
  unfold plV
  rw [pl_len]
  simp
theorem pl_item {q t : Nat} (hq : 1 ≤ q) : ∀ (rows : List Row) (st : List (List (List Int)) × Nat), (∀ row ∈ st.1, row.length ≤ q ∧ ∀ f ∈ row, f.length = t) → ∀ row ∈ (rows.foldl (plstep q t) st).1, row.length ≤ q ∧ ∀ f ∈ row, f.length = t
  | [], st, h => h
  | r :: rows, st, h => pl_item hq rows _ fun row hrow => by
    unfold plstep at hrow
    rcases List.mem_append.mp hrow with hrow | hrow
    · exact h row hrow
    · rw [List.mem_singleton.mp hrow]
      unfold plR
      refine ⟨by rw [List.length_map, List.length_range]; exact many_le hq, fun f hf => ?_⟩
      obtain ⟨k, _, rfl⟩ := List.mem_map.mp hf
      exact rngI_len
theorem pl_bound {q t : Nat} (hq : 1 ≤ q) : ∀ (rows : List Row) (st : List (List (List Int)) × Nat), (∀ row ∈ st.1, ∀ f ∈ row, ∀ c ∈ f, 0 ≤ c ∧ c < (st.2 : Int)) → ∀ row ∈ (rows.foldl (plstep q t) st).1, ∀ f ∈ row, ∀ c ∈ f, 0 ≤ c ∧ c < ((rows.foldl (plstep q t) st).2 : Int)
  | [], st, h => h
  | r :: rows, st, h => pl_bound hq rows _ fun row hrow f hf c hc => by
    unfold plstep at hrow ⊢
    dsimp only at hrow ⊢
    rcases List.mem_append.mp hrow with hrow | hrow
    · have := h row hrow f hf c hc
      push_cast
      have h2 : 0 ≤ (t : Int) * (manyR q r : Int) := Int.mul_nonneg (by omega) (by omega)
      omega
    · rw [List.mem_singleton.mp hrow] at hf
      unfold plR at hf
      obtain ⟨k, hk, rfl⟩ := List.mem_map.mp hf
      unfold rngI at hc
      obtain ⟨j, hj, rfl⟩ := List.mem_map.mp hc
      rw [List.mem_range'_1] at hj
      have hk := List.mem_range.mp hk
      have : t * k + t ≤ t * manyR q r := by rw [← Nat.mul_succ]; exact Nat.mul_le_mul_left t hk
      push_cast
      omega
theorem pln_le {q t : Nat} (hq : 1 ≤ q ∧ q ≤ 9) (ht : t ≤ 9) : ∀ (rows : List Row) (st : List (List (List Int)) × Nat), (rows.foldl (plstep q t) st).2 ≤ st.2 + 81 * rows.length
  | [], st => by simp
  | r :: rows, st => by
    rw [List.foldl_cons, List.length_cons]
    refine Nat.le_trans (pln_le hq ht rows _) ?_
    unfold plstep
    have := Nat.mul_le_mul ht (Nat.le_trans (many_le (q := q) (r := r) hq.1) hq.2)
    omega
theorem s_coinsof (hT : H_coins_of T I) {p q t : Nat} (hs : SetOk p q t) {rows : List Row} (hl : rows.length ≤ 1000) : callN T (n + 2) (I N.coins_of) [.d (setD p q t), .d (progD rows)] S = .ok (.d (.int (plN q t rows))) S := by
  have htq := hs.tq
  have hq9 := hs.q9
  have e1 := s_places (n := n) (S := S.call) hT.places hs hl
  rw [call_eq hT.at_ rfl]
  simp only [p_coins_of, S_ret, E_b1]
  rw [lc_map (enc := ttD) (l := plV q t rows) (g := fun row => .int ((t * row.length : Nat) : Int)) (v := fun row => .d (.int ((t * row.length : Nat) : Int))) (at_ := none) ?hw rfl ?hl (fun row hr => ⟨rfl, ?hc, rfl⟩)]
  · have e2 := sum_new (S := S.call) (f := (plV q t rows).map fun row => ((t * row.length : Nat) : Int))
    rw [List.map_map] at e2
    have e3 : ((plV q t rows).map fun row => ((t * row.length : Nat) : Int)).sum = (plN q t rows : Int) := by
      have := pl_sum (q := q) (t := t) rows ([], 0) rfl
      unfold plN plV
      rw [← this]
      generalize (rows.foldl (plstep q t) ([], 0)).1 = l
      induction l with
      | nil => rfl
      | cons a l ih => rw [List.map_cons, List.sum_cons, ih, List.map_cons, List.sum_cons]; push_cast; rfl
    rw [e3] at e2
    have e2' : b1V .sum (.new (.lst ((plV q t rows).map fun row => .int ((t * row.length : Nat) : Int)))) S.call = _ := e2
    rw [go_ok, e2']
    simp
  case hw => simp [varV, e1]
  case hl => rw [plV_len]; omega
  case hc =>
    have hb := (pl_item hs.q1 rows ([], 0) (fun row h => by cases h) row hr).1
    have : t * row.length ≤ 9 * 9 := Nat.mul_le_mul (by omega) (by omega)
    simp [Env.put, wipeE, c_coins_of_1, varV, mul_l (i := (t : Int)) (j := (row.length : Int)) (by omega) (by omega)]
/-! the law's own places -/
theorem k9_inner {q0 q2 q3 q5 q6 : SV} {ds : List Int} {k t at0 : Nat} {due : List D} (ht : t ≤ 9) (ha : at0 ≤ 200000) {m : Nat} (hm : m ≤ 9) {x9 : SV} :
    forL (fun _ => true) (putT (.one 11)) (evS (callN T n) (b_law_k09_1 I)) [some q0, some (.loc 0 0), some q2, some q3, some (.d (.int t)), some q5, some q6, some (.d (.int at0)), some (.loc 0 1), some x9, some (.loc 0 2), none] 3 ((List.range m).map fun k => D.int (k : Nat)) [some q0, some (.loc 0 0), some q2, some q3, some (.d (.int t)), some q5, some q6, some (.d (.int at0)), some (.loc 0 1), some x9, some (.loc 0 2), none] (bx ds k [⟨false, .lst due⟩, ⟨false, .lst []⟩] [[]] []) =
      .ok (.next [some q0, some (.loc 0 0), some q2, some q3, some (.d (.int t)), some q5, some q6, some (.d (.int (at0 + t * m : Nat))), some (.loc 0 1), some x9, some (.loc 0 2), none]) (bx ds k [⟨false, .lst due⟩, ⟨false, .lst ((plR t at0 m).map ti)⟩] [[]] []) := by
  have el := forL_fold (enc := fun (k : Nat) => D.int (k : Int)) (chk := fun _ => true) (put := putT (.one 11)) (body := evS (callN T n) (b_law_k09_1 I)) (n0 := 3)
    (ρ0 := [some q0, some (.loc 0 0), some q2, some q3, some (.d (.int t)), some q5, some q6, some (.d (.int at0)), some (.loc 0 1), some x9, some (.loc 0 2), none])
    (fun i => [some q0, some (.loc 0 0), some q2, some q3, some (.d (.int t)), some q5, some q6, some (.d (.int (at0 + t * i : Nat))), some (.loc 0 1), some x9, some (.loc 0 2), none]) (fun i => bx ds k [⟨false, .lst due⟩, ⟨false, .lst ((plR t at0 i).map ti)⟩] [[]] []) (fun i _ => i + 1)
    (fun l i => i + l.length ≤ 9)
    (fun x l i hi => by
      rw [List.length_cons] at hi
      have hb : t * i ≤ 9 * 9 := Nat.mul_le_mul ht (by omega)
      have e1 := trng_int (S := bx ds k [⟨false, .lst due⟩, ⟨false, .lst ((plR t at0 i).map ti)⟩] [[]] []) (l := false) (i := ((at0 + t * i : Nat) : Int)) (j := ((at0 + t * i : Nat) : Int) + t) (by omega) (by omega) (by omega) (by omega) (by omega)
      rw [show (((at0 + t * i : Nat) : Int) + t - ((at0 + t * i : Nat) : Int)).toNat = t by omega, rngI_up] at e1
      have er : recvOk .append (view (bx ds k [⟨false, .lst due⟩, ⟨false, .lst ((plR t at0 i).map ti)⟩] [[]] []) (.loc 0 2)) = true := recv_loc (ds := (plR t at0 i).map ti) (z := false) (by simp) rfl
      have ea : meth1 .append (.loc 0 2) (.d (ti (rngI (at0 + t * i) t))) (bx ds k [⟨false, .lst due⟩, ⟨false, .lst ((plR t at0 i).map ti)⟩] [[]] []) = .ok (.d .non) (bx ds k [⟨false, .lst due⟩, ⟨false, .lst ((plR t at0 (i + 1)).map ti)⟩] [[]] []) := by
        rw [app_d (u := 0) (i := 2) (ds := (plR t at0 i).map ti) rfl (by rw [List.length_map]; unfold plR; rw [List.length_map, List.length_range]; omega)]
        unfold plR
        rw [List.range_succ, List.map_append, List.map_append]
        rfl
      have e2 : (((at0 + t * i : Nat) : Int) + t) = ((at0 + t * (i + 1) : Nat) : Int) := by rw [Nat.mul_succ]; push_cast; omega
      simp only [Bool.false_eq_true, if_false] at e1
      generalize ((at0 + t * i : Nat) : Int) = z at e1 e2 ⊢
      refine ⟨rfl, _, [some q0, some (.loc 0 0), some q2, some q3, some (.d (.int t)), some q5, some q6, some (.d (.int (at0 + t * (i + 1) : Nat))), some (.loc 0 1), some x9, some (.loc 0 2), some (.d (.int x))], _, rfl, ?_, rfl, ownFree_take rfl, by omega⟩
      unfold b_law_k09_1
      rw [S_seq, S_expr]
      simp [-S_set, -bx_set1, Env.put, varV, er, e1, ea]
      rw [S_set]
      simp [varV, -Int.natCast_add]
      rw [e2]
      rfl)
    (fun s _ => rfl) (List.range m) 0 (by rw [List.length_range]; omega)
  have e1 := el.1
  have hf : (List.range m).foldl (fun i _ => i + 1) 0 = m := by
    have : ∀ (l : List Nat) (i : Nat), l.foldl (fun i _ => i + 1) i = i + l.length := by
      intro l
      induction l with
      | nil => intro i; rfl
      | cons a l ih => intro i; rw [List.foldl_cons, ih, List.length_cons]; omega
    rw [this, List.length_range]
    omega
  rw [hf] at e1
  exact e1
end U

set_option maxHeartbeats 4000000
namespace U
open PySem
variable {T : Nat → Option FD} {I : Nat → Nat} {n : Nat} {S : St}
theorem k9_body {q0 q2 q5 q6 : SV} {ds : List Int} {k q t : Nat} (hq : 1 ≤ q ∧ q ≤ 9) (ht : t ≤ 9) {st : List (List (List Int)) × Nat} {r : Row} (hl : st.1.length ≤ 1000) (ha : st.2 ≤ 100 * st.1.length) :
    ∃ a10 a11, evS (callN T n) (b_law_k09_2 I) [some q0, some (.loc 0 0), some q2, some (.d (.int q)), some (.d (.int t)), some q5, some q6, some (.d (.int st.2)), some (.loc 0 1), some (.d r.enc), none, none] (bx ds k [⟨false, .lst (st.1.map ttD)⟩] [[]] []) =
      .ok (.next [some q0, some (.loc 0 0), some q2, some (.d (.int q)), some (.d (.int t)), some q5, some q6, some (.d (.int (plstep q t st r).2)), some (.loc 0 1), some (.d r.enc), a10, a11]) (bx ds k [⟨false, .lst ((plstep q t st r).1.map ttD)⟩, ⟨false, .lst ((plR t st.2 (manyR q r)).map ti)⟩] [[]] []) := by
  have hm := many_le (q := q) (r := r) hq.1
  refine ⟨some (.loc 0 2), none, ?_⟩
  have e1 := many_get (q := q) (r := r) (C := callN T n) (S := bx ds k [⟨false, .lst (st.1.map ttD)⟩, ⟨false, .lst []⟩] [[]] []) (ρ := [some q0, some (.loc 0 0), some q2, some (.d (.int q)), some (.d (.int t)), some q5, some q6, some (.d (.int st.2)), some (.loc 0 1), some (.d r.enc), some (.loc 0 2), none]) (vs := .cons (.con (.int 1)) (.cons (.var 3) (.cons (.var 3) .nil))) (kx := .var 9) (by simp [varV]) (by simp [varV])
  have e2 := k9_inner (T := T) (I := I) (n := n) (q0 := q0) (q2 := q2) (q3 := .d (.int q)) (q5 := q5) (q6 := q6) (ds := ds) (k := k) (t := t) (at0 := st.2) (due := st.1.map ttD) ht (by omega) (m := manyR q r) (by omega) (x9 := .d r.enc)
  have e2' : forL (⟨(List.range (manyR q r)).map fun k => D.int (k : Nat), none⟩ : Walk).chk (putT (.one 11)) (evS (callN T n) (b_law_k09_1 I)) _ 3 _ _ (bx ds k [⟨false, .lst (st.1.map ttD)⟩, ⟨false, .lst []⟩] [[]] []) = _ := e2
  have e3 := rng1_nat (S := bx ds k [⟨false, .lst (st.1.map ttD)⟩, ⟨false, .lst []⟩] [[]] []) (q := manyR q r) (by omega)
  have er : recvOk .append (view (bx ds k [⟨false, .lst (st.1.map ttD)⟩, ⟨false, .lst ((plR t st.2 (manyR q r)).map ti)⟩] [[]] []) (.loc 0 1)) = true := recv_loc (ds := st.1.map ttD) (z := false) (by simp) rfl
  have et := tuple_loc (S := bx ds k [⟨false, .lst (st.1.map ttD)⟩, ⟨false, .lst ((plR t st.2 (manyR q r)).map ti)⟩] [[]] []) (u := 0) (l := 2) (z := false) (ds := (plR t st.2 (manyR q r)).map ti) rfl
  have ea : meth1 .append (.loc 0 1) (.d (ttD (plR t st.2 (manyR q r)))) (bx ds k [⟨false, .lst (st.1.map ttD)⟩, ⟨false, .lst ((plR t st.2 (manyR q r)).map ti)⟩] [[]] []) = .ok (.d .non) (bx ds k [⟨false, .lst ((plstep q t st r).1.map ttD)⟩, ⟨false, .lst ((plR t st.2 (manyR q r)).map ti)⟩] [[]] []) := by
    rw [app_d (u := 0) (i := 1) (ds := st.1.map ttD) rfl (by rw [List.length_map]; omega)]
    unfold plstep
    rw [List.map_append]
    rfl
  have z0 : sz 0 = true := rfl
  have hp : (plstep q t st r).2 = st.2 + t * manyR q r := rfl
  rw [hp]
  generalize hres : (plstep q t st r).1.map ttD = res at ea ⊢
  have ol : (bx ds k [⟨false, .lst (st.1.map ttD)⟩, ⟨false, .lst []⟩] [[]] []).own.length = 3 := rfl
  have hb : (⟨(bx ds k [⟨false, .lst (st.1.map ttD)⟩] [[]] []).own ++ [⟨false, .lst []⟩], (bx ds k [⟨false, .lst (st.1.map ttD)⟩] [[]] []).out, (bx ds k [⟨false, .lst (st.1.map ttD)⟩] [[]] []).gl⟩ : St) = bx ds k [⟨false, .lst (st.1.map ttD)⟩, ⟨false, .lst []⟩] [[]] [] := rfl
  have ol2 : (bx ds k [⟨false, .lst (st.1.map ttD)⟩] [[]] []).own.length = 2 := rfl
  unfold b_law_k09_2
  rw [S_seq, S_set]
  simp only [E_lst, K_nil, go_ok, List.length_nil, z0, if_true, set_newt, ol2, List.set_cons_succ, List.set_cons_zero, fg_next, hb]
  rw [S_seq, S_for, W_rng1, e1, go_ok, e3, go_ok, ol, e2']
  simp only [fg_next, S_expr, E_m1, E_var, varV, List.getElem?_cons_succ, List.getElem?_cons_zero, go_ok, rv_loc, er, if_true, E_b1, et, hold_locR]
  rw [ea, go_ok]
theorem pl_shB {q t : Nat} (hq : 1 ≤ q ∧ q ≤ 9) (ht : t ≤ 9) {rows : List Row} (hl : rows.length ≤ 1000) : Sh 20 (1000 * ((9 * ((9 * 25 + 4) + 2) + 4) + 2) + 4) (.tup ((plV q t rows).map ttD)) := by
  refine Sh.tup (B := 9 * ((9 * 25 + 4) + 2) + 4) (Sh.map fun row hrow => ?_) (by rw [List.length_map, plV_len]; exact hl)
  have h1 := pl_item hq.1 rows ([], 0) (fun row h => by cases h) row hrow
  have h2 := pl_bound hq.1 rows ([], 0) (fun row h => by cases h) row hrow
  have h3 := pln_le (t := t) hq ht rows ([], 0)
  refine Sh.tup (B := 9 * 25 + 4) (Sh.map fun f hf => ?_) (by rw [List.length_map]; omega)
  exact Sh.ti (fun c hc => by have := h2 f hf c hc; omega) (by rw [h1.2 f hf]; exact ht)
theorem vals_sh {p q : Nat} (hp : p ≤ 1000000) {rows : List Row} {inputs : List Int} (hP : Prog p q rows) (hi : InR p inputs) (hn : inputs.length = nIn rows) (hl : rows.length ≤ 1000) : Sh 20 (1000 * (23 + 2) + 4) (.tup ((valsV p inputs rows).map od)) := by
  refine Sh.tup (B := 23) (Sh.map fun o ho => ?_) (by rw [List.length_map, vals_len hP hi hn]; exact hl)
  cases o with
  | none => exact Sh.non.mono (by omega)
  | some v =>
    have h := (VI.start hP hi hn).run
    obtain ⟨a, ha, e⟩ := List.getElem_of_mem ho
    have hv : ∀ (suf pre : List Row) (st : List (Option Int) × List Int), VI p q pre suf st → (∀ x : Int, some x ∈ st.1 → 0 ≤ x ∧ x < p) → ∀ x : Int, some x ∈ (suf.foldl (vstep p) st).1 → 0 ≤ x ∧ x < p := by
      intro suf
      induction suf with
      | nil => intro pre st _ h; exact h
      | cons r suf ih =>
        intro pre st hvi h
        refine ih _ _ hvi.step fun x hx => ?_
        unfold vstep at hx
        rcases List.mem_append.mp hx with hx | hx
        · exact h x hx
        · rw [List.mem_singleton] at hx
          cases hw : r.wire with
          | true =>
            obtain ⟨y, h1, h2⟩ := hvi.val hw
            rw [h1] at hx
            cases hx
            exact h2
          | false => cases r <;> simp [Row.wire] at hw <;> simp [rowVal] at hx
    have := hv rows [] ([], inputs) (VI.start hP hi hn) (fun x hx => by cases hx) v ho
    exact Sh.int (by omega)
theorem shown_sh {p q : Nat} (hp : p ≤ 1000000) (hq : q ≤ 1000000) {rows : List Row} {inputs : List Int} (hP : Prog p q rows) (hi : InR p inputs) (hn : inputs.length = nIn rows) (hl : rows.length ≤ 1000) : Sh 20 (1000 * ((3 * (23 + 2) + 4) + 2) + 4) (.tup (shownV rows (valsV p inputs rows))) := by
  refine Sh.tup (B := 3 * (23 + 2) + 4) (Sh.map fun k hk => ?_) (by unfold shownV outsV; rw [List.length_map]; exact Nat.le_trans (List.length_filter_le _ _) (by rw [List.length_range]; exact hl))
  obtain ⟨h1, a, j, h2⟩ := outs_mem hk
  have h4 := out_val hP hi hn h1 h2
  unfold showD
  rw [h2]
  refine Sh.tup (B := 23) (fun d hd => ?_) (by simp)
  simp at hd
  rcases hd with rfl | rfl | rfl
  · exact Sh.int (by omega)
  · show Sh _ _ (.int ((j : Nat) : Int))
    exact Sh.int (by omega)
  · show Sh _ _ (.int (gv _ a))
    exact Sh.int (by omega)
theorem law09 (h : H_law_k09 T I) (ns : List Int) (hl : ns.length ≤ 63) : ∃ S', callN T 20 (I N.law_k09) [.d (.rol (ns.map D.int))] ⟨[], [], []⟩ = .ok (.d (.bl true)) S' := by
  obtain ⟨ds, hd, hdl, e⟩ := s_digits (n := 17) (S := ⟨[], [[]], []⟩) h._law_digits.at_ h._law_digits._law_cell.at_ ns 0 63 (by omega) (by omega) (by omega)
  obtain ⟨p, q, t, hs, e2⟩ := x_setting (n := 16) (ds := ds) (k := 0) (r := []) (o := [[]]) (g := []) h._law_setting.at_ h._law_setting._law_pick.at_ h._law_setting._law_draw.at_
  have htq := hs.tq
  have hq9 := hs.q9
  have hq1 := hs.q1
  obtain ⟨k1, rows, hP, hr1, hr2, hep, e3⟩ := s_program (n := 15) h._law_program (S := bx ds 3 [] [[]] []) (u := 0) (j := 0) rfl hs (most := 30) (turns := 2) (by omega) (by omega)
  rw [bx_set] at e3
  change callN T 19 _ [.loc 0 0, _, .d (.int 30), .d (.int 2)] _ = _ at e3
  obtain ⟨k2, inputs, hi, hn, e4⟩ := s_inputs (n := 15) h._law_inputs (S := bx ds k1 [] [[]] []) (u := 0) (j := 0) rfl hs (rows := rows) (by omega)
  rw [bx_set] at e4
  have e5 := s_values (n := 17) (S := bx ds k2 [] [[]] []) h.values hs hP (by omega) hi hn
  have e6 := s_lvalues (n := 18) (S := bx ds k2 [] [[]] []) h._law_values hs hP (by omega) hi hn
  have e7 := s_sameS (n := 18) (S := bx ds k2 [] [[]] []) h._law_same.at_ (vals_sh (by have := hs.hp; omega) hP hi hn (by omega)) (by omega)
  have e8 := s_shown (n := 16) (S := bx ds k2 [] [[]] []) h.shown hs hP (by omega) hi hn
  have e9 := s_lshown (n := 17) (S := bx ds k2 [] [[]] []) h._law_shown hs hP (by omega) hi hn
  have e10 := s_sameS (n := 18) (S := bx ds k2 [] [[]] []) h._law_same.at_ (shown_sh (by have := hs.hp; omega) (by omega) hP hi hn (by omega)) (by omega)
  have el := forL_fold (enc := Row.enc) (chk := (⟨rows.map Row.enc, none⟩ : Walk).chk) (put := putT (.one 9)) (body := evS (callN T 19) (b_law_k09_2 I)) (n0 := 2)
    (ρ0 := [some (.d (.rol (ns.map D.int))), some (.loc 0 0), some (.d (setD p q t)), some (.d (.int q)), some (.d (.int t)), some (.d (progD rows)), some (.d (ti inputs)), some (.d (.int 0)), some (.loc 0 1), none, none, none])
    (fun st => [some (.d (.rol (ns.map D.int))), some (.loc 0 0), some (.d (setD p q t)), some (.d (.int q)), some (.d (.int t)), some (.d (progD rows)), some (.d (ti inputs)), some (.d (.int (st.2 : Nat))), some (.loc 0 1), none, none, none]) (fun st => bx ds k2 [⟨false, .lst (st.1.map ttD)⟩] [[]] []) (plstep q t)
    (fun l st => st.1.length + l.length ≤ 1000 ∧ st.2 ≤ 100 * st.1.length)
    (fun r l st hi => by
      obtain ⟨h1, h2⟩ := hi
      rw [List.length_cons] at h1
      obtain ⟨a10, a11, e1⟩ := k9_body (T := T) (I := I) (n := 19) (q := q) (t := t) ⟨hs.q1, hq9⟩ (by omega) (st := st) (r := r) (by omega) h2 (q0 := .d (.rol (ns.map D.int))) (q2 := .d (setD p q t)) (q5 := .d (progD rows)) (q6 := .d (ti inputs)) (ds := ds) (k := k2)
      have hm := many_le (q := q) (r := r) hs.q1
      have hb : t * manyR q r ≤ 9 * 9 := Nat.mul_le_mul (by omega) (by omega)
      refine ⟨rfl, _, _, _, rfl, e1, rfl, ?_, ?_, ?_⟩
      · rfl
      · unfold plstep; rw [List.length_append]; simp; omega
      · unfold plstep; rw [List.length_append]; simp; omega)
    (fun s _ => rfl) rows ([], 0) ⟨by simp; omega, by simp⟩
  have e11 := el.1
  simp only [List.map_nil] at e11
  have e11' : forL (⟨rows.map Row.enc, none⟩ : Walk).chk (putT (.one 9)) (evS (callN T 19) (b_law_k09_2 I)) _ 2 _ [some (.d (.rol (ns.map D.int))), some (.loc 0 0), some (.d (setD p q t)), some (.d (.int q)), some (.d (.int t)), some (.d (progD rows)), some (.d (ti inputs)), some (.d (.int 0)), some (.loc 0 1), none, none, none] (bx ds k2 [⟨false, .lst []⟩] [[]] []) = .ok (.next [_, _, _, _, _, _, _, some (.d (.int (plN q t rows))), _, _, _, _]) (bx ds k2 [⟨false, .lst ((plV q t rows).map ttD)⟩] [[]] []) := e11
  have e12 := s_coinsof (n := 17) (S := bx ds k2 [⟨false, .lst ((plV q t rows).map ttD)⟩] [[]] []) h.coins_of hs (rows := rows) (by omega)
  have e13 := s_places (n := 18) (S := bx ds k2 [⟨false, .lst ((plV q t rows).map ttD)⟩] [[]] []) h.places hs (rows := rows) (by omega)
  have et := tuple_loc (S := bx ds k2 [⟨false, .lst ((plV q t rows).map ttD)⟩] [[]] []) (u := 0) (l := 1) (z := false) (ds := (plV q t rows).map ttD) rfl
  have e14 := s_sameS (n := 18) (S := bx ds k2 [⟨false, .lst ((plV q t rows).map ttD)⟩] [[]] []) h._law_same.at_ (pl_shB (t := t) ⟨hs.q1, hq9⟩ (by omega) (rows := rows) (by omega)) (by omega)
  have hb : (⟨[⟨false, .lst [.lst (ds.map D.int), .int 0]⟩], [[]], []⟩ : St) = bx ds 0 [] [[]] [] := rfl
  have hb2 : (⟨(bx ds k2 [] [[]] []).own ++ [⟨false, .lst []⟩], (bx ds k2 [] [[]] []).out, (bx ds k2 [] [[]] []).gl⟩ : St) = bx ds k2 [⟨false, .lst []⟩] [[]] [] := rfl
  have ol : (bx ds k2 [] [[]] []).own.length = 1 := rfl
  have ol2 : (bx ds k2 [⟨false, .lst []⟩] [[]] []).own.length = 2 := rfl
  have z0 : sz 0 = true := rfl
  have z2 : sz 2 = true := rfl
  refine ⟨⟨[], [], []⟩, ?_⟩
  show callN T (19 + 1) _ _ _ = _
  rw [call_eq h.at_ rfl]
  simp [p_law_k09, varV, St.call, e, z0, z2, hb, e2, unpV, cut_set2, puts, Env.put, e3, e4, e5, e6, e7, e8, e9, e10, pr_ix1, hb2, ol, ol2, e11', e12, e13, et, e14]
  rfl
end U

set_option maxHeartbeats 4000000
namespace U
open PySem
variable {T : Nat → Option FD} {I : Nat → Nat} {n : Nat} {S : St}
theorem ne_same {x y : RV} {d : D} (hx : view S (hold x).rv = some d) (hy : view S y = some d) (hp : plainB 20 d = true) : cmpV .ne x y S = .ok (.d (.bl false)) S := by
  have he : eqOk d d = true := by
    cases d with
    | bl b => cases (show false = true from hp)
    | _ =>
      unfold eqOk
      dsimp only
      rw [hp]; simp
  unfold cmpV
  rw [hx, hy]
  show (match (if eqOk d d = true then some (!D.beq d d) else none) with
    | some b => (.ok (.d (.bl b)) S : Res RV)
    | none => .bad) = _
  rw [if_pos he, beq_self]
  rfl
theorem plain_ods (k : Nat) : ∀ l : List (Option Int), plainBs k (l.map od) = true
  | [] => by unfold plainBs; rfl
  | c :: f => by
    rw [List.map_cons]
    show (plainB k (od c) && plainBs k (f.map od)) = true
    rw [plain_ods k f]
    cases c <;> cases k <;> rfl
theorem b1_tuple_lst {ds : List D} : b1V .tuple (.d (.lst ds)) S = .ok (.d (.tup ds)) S := (rfl)
theorem inr_sz2 {p : Nat} (hp : p ≤ 1000000) {f : List Int} (h : InR p f) : Sz f := fun c hc => by have := h c hc; omega
theorem osh_sh {p q : Nat} (hp : 2 ≤ p ∧ p ≤ 1000000) (hq : q ≤ 9) {polys : List (Option (List Int))} (hl : polys.length ≤ 1000) : Sh 20 (1000 * ((9 * 25 + 4) + 2) + 4) (.tup (polys.map (oshD p q))) := by
  refine Sh.tup (B := 9 * 25 + 4) (Sh.map fun o ho => ?_) (by rw [List.length_map]; exact hl)
  cases o with
  | none => exact Sh.non.mono (by omega)
  | some f => exact Sh.ti (inr_sz2 hp.2 (shares_in (by omega))) (by rw [shares_len]; exact hq)
theorem op_sh {p q t : Nat} (hp : 2 ≤ p ∧ p ≤ 1000000) (ht : t + 1 ≤ 9) {polys : List (Option (List Int))} (hl : polys.length ≤ 1000) (h : ∀ f, some f ∈ polys → f.length = t + 1 ∧ InR p f) : Sh 20 (1000 * ((9 * 25 + 4) + 2) + 4) (.tup (polys.map opD)) := by
  refine Sh.tup (B := 9 * 25 + 4) (Sh.map fun o ho => ?_) (by rw [List.length_map]; exact hl)
  cases o with
  | none => exact Sh.non.mono (by omega)
  | some f => exact Sh.ti (inr_sz2 hp.2 (h f ho).2) (by rw [(h f ho).1]; exact ht)
theorem sent_sh {p q : Nat} (hp : 2 ≤ p ∧ p ≤ 1000000) (hq : q ≤ 9) {rows : List Row} (hP : Prog p q rows) (hl : rows.length ≤ 1000) {polys : List (Option (List Int))} : Sh 20 (1000 * ((3 * ((9 * 25 + 4) + 2) + 4) + 2) + 4) (.tup ((outsV rows).map (sentD p q rows polys))) := by
  refine Sh.tup (B := 3 * ((9 * 25 + 4) + 2) + 4) (Sh.map fun k hk => ?_) (by rw [List.length_map]; exact Nat.le_trans (List.length_filter_le _ _) (by rw [List.length_range]; exact hl))
  obtain ⟨h1, a, j, h2⟩ := outs_mem hk
  have hj := (hP.row (k := k) (r := .out a j) (by rw [rowAt_some h1, h2])).2
  unfold sentD
  rw [h2]
  refine Sh.tup (B := 9 * 25 + 4) (fun d hd => ?_) (by simp)
  simp only [List.mem_cons, List.not_mem_nil, or_false] at hd
  rcases hd with rfl | rfl | rfl
  · exact (Sh.int (by omega)).mono (by omega)
  · show Sh _ _ (.int ((j : Nat) : Int))
    exact (Sh.int (by omega)).mono (by omega)
  · exact Sh.ti (inr_sz2 hp.2 (shares_in (by omega))) (by rw [shares_len]; exact hq)
section
variable {p q t : Nat} {ds : List Int} {k : Nat}
theorem k12_due (hT : H__law_shares T I) (hs : SetOk p q t) {a0 a3 a4 a5 a6 a7 a8 a9 : SV} {polys : List (Option (List Int))} (hl : polys.length ≤ 1000) :
    forL (fun _ => true) (putT (.one 11)) (evS (callN T (n + 2)) (b_law_k12_1 I)) [some a0, some (.loc 0 0), some (.d (setD p q t)), some a3, some a4, some a5, some a6, some a7, some a8, some a9, some (.loc 0 1), none, none, none, none, none] 2 (polys.map opD) [some a0, some (.loc 0 0), some (.d (setD p q t)), some a3, some a4, some a5, some a6, some a7, some a8, some a9, some (.loc 0 1), none, none, none, none, none] (bx ds k [⟨false, .lst []⟩] [[]] []) =
      .ok (.next [some a0, some (.loc 0 0), some (.d (setD p q t)), some a3, some a4, some a5, some a6, some a7, some a8, some a9, some (.loc 0 1), none, none, none, none, none]) (bx ds k [⟨false, .lst (polys.map (oshD p q))⟩] [[]] []) := by
  have plo := hs.pr.lo
  have phi := hs.hp
  have hq9 := hs.q9
  have el := forL_fold (enc := opD) (chk := fun _ => true) (put := putT (.one 11)) (body := evS (callN T (n + 2)) (b_law_k12_1 I)) (n0 := 2)
    (ρ0 := [some a0, some (.loc 0 0), some (.d (setD p q t)), some a3, some a4, some a5, some a6, some a7, some a8, some a9, some (.loc 0 1), none, none, none, none, none])
    (fun _ => [some a0, some (.loc 0 0), some (.d (setD p q t)), some a3, some a4, some a5, some a6, some a7, some a8, some a9, some (.loc 0 1), none, none, none, none, none]) (fun (m : List (Option (List Int))) => bx ds k [⟨false, .lst (m.map (oshD p q))⟩] [[]] []) (fun m o => m ++ [o])
    (fun l m => m.length + l.length ≤ 1000)
    (fun o l m hi => by
      rw [List.length_cons] at hi
      have er : recvOk .append (view (bx ds k [⟨false, .lst (m.map (oshD p q))⟩] [[]] []) (.loc 0 1)) = true := recv_loc (ds := m.map (oshD p q)) (z := false) (by simp) rfl
      have ea : meth1 .append (.loc 0 1) (.d (oshD p q o)) (bx ds k [⟨false, .lst (m.map (oshD p q))⟩] [[]] []) = .ok (.d .non) (bx ds k [⟨false, .lst ((m ++ [o]).map (oshD p q))⟩] [[]] []) := by
        rw [app_d (u := 0) (i := 1) (ds := m.map (oshD p q)) rfl (by rw [List.length_map]; omega), List.map_append]
        rfl
      generalize hS1 : bx ds k [⟨false, .lst (m.map (oshD p q))⟩] [[]] [] = S1 at *
      generalize hS2 : bx ds k [⟨false, .lst ((m ++ [o]).map (oshD p q))⟩] [[]] [] = S2 at *
      refine ⟨rfl, _, [some a0, some (.loc 0 0), some (.d (setD p q t)), some a3, some a4, some a5, some a6, some a7, some a8, some a9, some (.loc 0 1), some (.d (opD o)), none, none, none, none], S2, rfl, ?_, rfl, ?_, by rw [List.length_append]; simp; omega⟩
      · cases o with
        | none =>
          have e1 : cmpV .isN (.d .non) (.d .non) S1 = .ok (.d (.bl true)) S1 := isN_non (x := .d .non) (d := .non) rfl
          rw [oshD_none] at ea
          simp [Env.put, b_law_k12_1, varV, er, e1, ea]
        | some f =>
          have e1 : cmpV .isN (.d (ti f)) (.d .non) S1 = .ok (.d (.bl false)) S1 := isN_non (x := .d (ti f)) (d := ti f) rfl
          have e2 := s_lshares (n := n) (S := S1) hT (p := (p : Int)) (t := (t : Int)) (q := q) (by omega) (by omega) f
          rw [oshD_some] at ea
          simp [Env.put, b_law_k12_1, varV, er, e1, e2, ea]
      · rw [← hS2]; exact ownFree_take rfl)
    (fun s _ => rfl) polys [] (by simpa using hl)
  have e1 := el.1
  have hres : ∀ (l m : List (Option (List Int))), l.foldl (fun m o => m ++ [o]) m = m ++ l := by
    intro l
    induction l with
    | nil => intro m; simp
    | cons a l ih => intro m; rw [List.foldl_cons, ih]; simp
  rw [hres] at e1
  exact e1
theorem k12_body (h : H_law_k12 T I) (hs : SetOk p q t) {rows : List Row} (hP : Prog p q rows) (hl : rows.length ≤ 1000) {inputs : List Int} (hi : InR p inputs) (hn : inputs.length = nIn rows) {a0 : SV} (x : D) :
    ∃ ρ dl, evS (callN T 19) (b_law_k12_5 I) [some a0, some (.loc 0 0), some (.d (setD p q t)), some (.d (progD rows)), some (.d (ti inputs)), some (.d (.lst ((valsV p inputs rows).map od))), some (.d x), none, none, none, none, none, none, none, none, none] (bx ds k [] [[]] []) =
      .ok (.next (some a0 :: some (.loc 0 0) :: some (.d (setD p q t)) :: some (.d (progD rows)) :: some (.d (ti inputs)) :: some (.d (.lst ((valsV p inputs rows).map od))) :: some (.d x) :: ρ)) (bx ds (k + 2) dl [[]] []) ∧ ρ.length = 9 := by
  have plo := hs.pr.lo
  have phi := hs.hp
  have hq9 := hs.q9
  have htq := hs.tq
  obtain ⟨coins, hc, hcl, e1⟩ := s_lcoins (n := 17) (S := bx ds k [] [[]] []) h._law_coins (u := 0) (j := 0) (ds := ds) (k := k) rfl hs hl
  rw [bx_set] at e1
  have hcl' : needs q t rows ≤ coins.length := by omega
  have e2 := s_lrun (n := 14) (S := bx ds (k + 2) [] [[]] []) h._law_run hs hP hl hi hn hc hcl'
  have hR := run_all hs hP hi hn hc hcl'
  have hH := run_heads hs hP hi hn hc hcl'
  have e3 := fun S : St => s_run (n := 12) (S := S) h.run hs hP hl hi hn hc hcl'
  have e4 := fun S : St => s_sent (n := 11) (S := S) h.sent hs hP hl hi hn hc hcl'
  have e8 := fun S : St => s_sameS (n := 18) (S := S) h._law_same.at_ (sent_sh (polys := (runV p q t coins inputs rows).polys) (p := p) (q := q) (by omega) hq9 hP hl) (by omega)
  generalize runV p q t coins inputs rows = fin at *
  have hpl : fin.polys.length ≤ 1000 := by rw [hR.len]; exact hl
  have e5 := fun S : St => s_polysof (n := 12) (S := S) h.polys_of hs hpl (fun f hf => hR.all hf)
  have e6 := fun S : St => s_sameS (n := 18) (S := S) h._law_same.at_ (osh_sh (p := p) (q := q) (polys := fin.polys) (by omega) hq9 hpl) (by omega)
  have e7 := fun S : St => s_sameS (n := 18) (S := S) h._law_same.at_ (op_sh (p := p) (q := q) (t := t) (polys := fin.polys) (by omega) (by omega) hpl (fun f hf => hR.all hf)) (by omega)
  have ed := k12_due (T := T) (I := I) (n := 17) (ds := ds) (k := k + 2) h._law_shares hs (a0 := a0) (a3 := .d (progD rows)) (a4 := .d (ti inputs)) (a5 := .d (.lst ((valsV p inputs rows).map od))) (a6 := .d x) (a7 := .d (ti coins)) (a8 := .d (.lst (fin.polys.map opD))) (a9 := .d (.lst (fin.dealt.map dlD))) hpl
  have ed' : forL (⟨fin.polys.map opD, none⟩ : Walk).chk (putT (.one 11)) (evS (callN T 19) (b_law_k12_1 I)) _ 2 _ _ (bx ds (k + 2) [⟨false, .lst []⟩] [[]] []) = _ := ed
  have et := tuple_loc (S := bx ds (k + 2) [⟨false, .lst (fin.polys.map (oshD p q))⟩] [[]] []) (u := 0) (l := 1) (z := false) (ds := fin.polys.map (oshD p q)) rfl
  have gx : ∀ {kk a j : Nat}, kk < rows.length → rowAt rows kk = .out a j → ixV (.loc 0 1) (.d (.int a)) (bx ds (k + 2) [⟨false, .lst (fin.polys.map (oshD p q))⟩] [[]] []) = .ok (.d (ti (sharesV p q (gp fin.polys a)))) (bx ds (k + 2) [⟨false, .lst (fin.polys.map (oshD p q))⟩] [[]] []) := fun {kk a j} h1 h2 => by
    refine ix_loc (ds := fin.polys.map (oshD p q)) (z := false) rfl ?_
    rw [List.getElem?_map, (hR.out h1 h2).1]
    rfl
  have hb2 : (⟨(bx ds (k + 2) [] [[]] []).own ++ [⟨false, .lst []⟩], (bx ds (k + 2) [] [[]] []).out, (bx ds (k + 2) [] [[]] []).gl⟩ : St) = bx ds (k + 2) [⟨false, .lst []⟩] [[]] [] := rfl
  have ol : (bx ds (k + 2) [] [[]] []).own.length = 1 := rfl
  have ol2 : ∀ c : LO, (bx ds (k + 2) [c] [[]] []).own.length = 2 := fun _ => rfl
  have z0 : sz 0 = true := rfl
  refine ⟨[some (.d (ti coins)), some (.d (.lst (fin.polys.map opD))), some (.d (.lst (fin.dealt.map dlD))), some (.loc 0 1), none, some (.d (.tup (fin.polys.map (oshD p q)))), some (.d (.tup (rows.map Row.enc))), some (.d (.tup ((outsV rows).map (sentD p q rows fin.polys)))), none], [⟨false, .lst (fin.polys.map (oshD p q))⟩], ?_, rfl⟩
  generalize hS3 : bx ds (k + 2) [⟨false, .lst (fin.polys.map (oshD p q))⟩] [[]] [] = S3 at *
  have ec1 := lc_map (S := S3) (C := callN T 19) (ρ := [some a0, some (.loc 0 0), some (.d (setD p q t)), some (.d (progD rows)), some (.d (ti inputs)), some (.d (.lst ((valsV p inputs rows).map od))), some (.d x), some (.d (ti coins)), some (.d (.lst (fin.polys.map opD))), some (.d (.lst (fin.dealt.map dlD))), some (.loc 0 1), none, some (.d (.tup (fin.polys.map (oshD p q)))), none, none, none]) (enc := opD) (l := fin.polys) (g := fun o => od (o.map fun f => f.getD 0 0)) (v := fun o => .d (od (o.map fun f => f.getD 0 0))) (r := fun o => [some a0, some (.loc 0 0), some (.d (setD p q t)), some (.d (progD rows)), some (.d (ti inputs)), some (.d (.lst ((valsV p inputs rows).map od))), some (.d x), some (.d (ti coins)), some (.d (.lst (fin.polys.map opD))), some (.d (.lst (fin.dealt.map dlD))), some (.loc 0 1), some (.d (opD o)), some (.d (.tup (fin.polys.map (oshD p q)))), none, none, none]) (elt := c_law_k12_2 I) (it := .wk .seq (.var 8) .nil) (tg := .one 11) (vs := [11]) (at_ := none) (by simp [varV]) rfl (by omega) (fun o ho => ⟨rfl, by
    cases o with
    | none =>
      have e1 : cmpV .isN (.d .non) (.d .non) S3 = .ok (.d (.bl true)) S3 := isN_non (x := .d .non) (d := .non) rfl
      simp [c_law_k12_2, varV, e1]
    | some f =>
      have e1 : cmpV .isN (.d (ti f)) (.d .non) S3 = .ok (.d (.bl false)) S3 := isN_non (x := .d (ti f)) (d := ti f) rfl
      have hf := (hR.all ho).1
      have e2 : ixV (.d (ti f)) (.d (.int 0)) S3 = .ok (.d (.int (f.getD 0 0))) S3 := by
        cases f with
        | nil => simp at hf
        | cons c f => exact ix_tup (k := 0) rfl
      simp [-List.getD_eq_getElem?_getD, c_law_k12_2, varV, e1, e2], rfl⟩)
  have hH2 : fin.polys.map (fun o => od (o.map fun f => f.getD 0 0)) = (valsV p inputs rows).map od := by rw [← hH, List.map_map]; rfl
  rw [hH2] at ec1
  have ene := ne_same (S := S3) (x := .new (.lst ((valsV p inputs rows).map od))) (y := .d (.lst ((valsV p inputs rows).map od))) (d := .lst ((valsV p inputs rows).map od)) rfl rfl (plain_ods 19 _)
  have ec2 := lc_ty (S := S3) (C := callN T 19) (ρ := [some a0, some (.loc 0 0), some (.d (setD p q t)), some (.d (progD rows)), some (.d (ti inputs)), some (.d (.lst ((valsV p inputs rows).map od))), some (.d x), some (.d (ti coins)), some (.d (.lst (fin.polys.map opD))), some (.d (.lst (fin.dealt.map dlD))), some (.loc 0 1), none, some (.d (.tup (fin.polys.map (oshD p q)))), some (.d (.tup (rows.map Row.enc))), none, none]) (enc := fun (k : Nat) => D.int (k : Int)) (l := List.range rows.length) (c := fun k => (rowAt rows k).isOut) (g := sentD p q rows fin.polys) (v := fun k => .d (sentD p q rows fin.polys k)) (r := fun (k : Nat) => [some a0, some (.loc 0 0), some (.d (setD p q t)), some (.d (progD rows)), some (.d (ti inputs)), some (.d (.lst ((valsV p inputs rows).map od))), some (.d x), some (.d (ti coins)), some (.d (.lst (fin.polys.map opD))), some (.d (.lst (fin.dealt.map dlD))), some (.loc 0 1), none, some (.d (.tup (fin.polys.map (oshD p q)))), some (.d (.tup (rows.map Row.enc))), none, some (.d (.int k))]) (elt := c_law_k12_3 I) (cond := c_law_k12_4 I) (it := .wk .rng1 (.b1 .len (.var 13)) .nil) (tg := .one 15) (vs := [15]) (at_ := none) (by simp [varV, rng1_nat (q := rows.length) (by omega)]) rfl (by rw [List.length_range]; omega) (fun k hk => ⟨rfl, by
      have hk := List.mem_range.mp hk
      have ix1 : ixV (.d (.tup (rows.map Row.enc))) (.d (.int k)) S3 = .ok (.d (rowAt rows k).enc) S3 := row_ix (rowAt_some hk)
      simp only [c_law_k12_4, E_cmp, E_ix, E_var, varV, List.getElem?_cons_succ, List.getElem?_cons_zero, go_ok, rv_d, ix1, E_con]
      cases rowAt rows k <;> simp [Row.isOut], fun ho => ⟨by
        have hk := List.mem_range.mp hk
        obtain ⟨a, j, h2⟩ : ∃ a j, rowAt rows k = .out a j := by
          cases hr : rowAt rows k <;> rw [hr] at ho <;> simp [Row.isOut] at ho
          exact ⟨_, _, rfl⟩
        have ix1 : ixV (.d (.tup (rows.map Row.enc))) (.d (.int k)) S3 = .ok (.d (Row.out a j).enc) S3 := row_ix (by rw [rowAt_some hk, h2])
        have g1 := gx hk h2
        have z3 : sz 3 = true := rfl
        simp [c_law_k12_3, varV, ix1, g1, z3, sentD, h2, outJ, outW], rfl⟩⟩)
  have hout : (List.range rows.length).filter (fun k => (rowAt rows k).isOut) = outsV rows := rfl
  rw [hout] at ec2
  have e1' := e1
  simp only [Nat.reduceAdd] at *
  unfold b_law_k12_5
  rw [S_seq, S_set, E_call]
  simp [-E_lc, varV, e1, e2, unpV, unpD, puts, Env.put, z0, hb2, ol, ol2, ed', hS3, e3, et, e6, e5, b1_tuple_lst, e7]
  rw [ec1]
  simp [-E_lc, varV, ene, pr_ix1]
  rw [ec2]
  simp [varV, e4, e8]
end
theorem law12 (h : H_law_k12 T I) (ns : List Int) (hl : ns.length ≤ 63) : ∃ S', callN T 20 (I N.law_k12) [.d (.rol (ns.map D.int))] ⟨[], [], []⟩ = .ok (.d (.bl true)) S' := by
  obtain ⟨ds, hd, hdl, e⟩ := s_digits (n := 17) (S := ⟨[], [[]], []⟩) h._law_digits.at_ h._law_digits._law_cell.at_ ns 0 63 (by omega) (by omega) (by omega)
  obtain ⟨p, q, t, hs, e2⟩ := x_setting (n := 16) (ds := ds) (k := 0) (r := []) (o := [[]]) (g := []) h._law_setting.at_ h._law_setting._law_pick.at_ h._law_setting._law_draw.at_
  have htq := hs.tq
  have hq9 := hs.q9
  have hq1 := hs.q1
  obtain ⟨k1, rows, hP, hr1, hr2, hep, e3⟩ := s_program (n := 15) h._law_program (S := bx ds 3 [] [[]] []) (u := 0) (j := 0) rfl hs (most := 16) (turns := 2) (by omega) (by omega)
  rw [bx_set] at e3
  change callN T 19 _ [.loc 0 0, _, .d (.int 16), .d (.int 2)] _ = _ at e3
  obtain ⟨k2, inputs, hi, hn, e4⟩ := s_inputs (n := 15) h._law_inputs (S := bx ds k1 [] [[]] []) (u := 0) (j := 0) rfl hs (rows := rows) (by omega)
  rw [bx_set] at e4
  have e5 := s_lvalues (n := 18) (S := bx ds k2 [] [[]] []) h._law_values hs hP (by omega) hi hn
  have el := forL_fold (enc := fun (k : Nat) => D.int (k : Int)) (chk := (⟨(List.range 2).map fun k => D.int (k : Nat), none⟩ : Walk).chk) (put := putT (.one 6)) (body := evS (callN T 19) (b_law_k12_5 I)) (n0 := 1)
    (ρ0 := [some (.d (.rol (ns.map D.int))), some (.loc 0 0), some (.d (setD p q t)), some (.d (progD rows)), some (.d (ti inputs)), some (.d (.lst ((valsV p inputs rows).map od))), none, none, none, none, none, none, none, none, none, none])
    (fun _ => [some (.d (.rol (ns.map D.int))), some (.loc 0 0), some (.d (setD p q t)), some (.d (progD rows)), some (.d (ti inputs)), some (.d (.lst ((valsV p inputs rows).map od))), none, none, none, none, none, none, none, none, none, none]) (fun (k : Nat) => bx ds k [] [[]] []) (fun k _ => k + 2)
    (fun l k => True)
    (fun r l k _ => by
      obtain ⟨ρ, dl, e1, hρ⟩ := k12_body (k := k) (ds := ds) h hs hP (by omega) hi hn (a0 := .d (.rol (ns.map D.int))) (.int (r : Nat))
      refine ⟨rfl, _, _, _, rfl, e1, ?_, ?_, trivial⟩
      · match ρ, hρ with
        | [_, _, _, _, _, _, _, _, _], _ => rfl
      · match ρ, hρ with
        | [_, _, _, _, _, _, _, _, _], _ => rfl)
    (fun s _ => rfl) (List.range 2) k2 trivial
  have e11 := el.1
  have hb : (⟨[⟨false, .lst [.lst (ds.map D.int), .int 0]⟩], [[]], []⟩ : St) = bx ds 0 [] [[]] [] := rfl
  have ol : (bx ds k2 [] [[]] []).own.length = 1 := rfl
  have z2 : sz 2 = true := rfl
  have hrg : rng1V (.d (.int 2)) (bx ds k2 [] [[]] []) = .ok ⟨(List.range 2).map fun k => D.int (k : Nat), none⟩ (bx ds k2 [] [[]] []) := rng1_nat (q := 2) (by omega)
  generalize (List.range 2).map (fun k => D.int (k : Nat)) = two at *
  refine ⟨⟨[], [], []⟩, ?_⟩
  show callN T (19 + 1) _ _ _ = _
  rw [call_eq h.at_ rfl]
  simp [p_law_k12, varV, St.call, e, z2, hb, e2, e3, e4, e5, hrg, ol, e11]
  rfl
end U

set_option maxHeartbeats 4000000
/-! ULie2: reading through lies, walked. -/
namespace U
open PySem
variable {T : Nat → Option FD} {I : Nat → Nat} {n : Nat} {S : St}
def lieD (z : Nat × Nat × Int) : D := .tup [.int z.1, .int ((z.2.1 : Int) + 1), .int z.2.2]
theorem s_told (hT : H_told_row T I) {k : Nat} {lies : List (Nat × Nat × Int)} {row : List Int} (hj : ∀ z ∈ lies, z.2.1 < row.length) (hl : row.length ≤ 1000) : callN T (n + 1) (I N.told_row) [.d (ti row), .d (.int k), .d (.tup (lies.map lieD))] S = .ok (.d (ti (toldV k lies row))) S := by
  have el := forL_fold (enc := lieD) (chk := (⟨lies.map lieD, none⟩ : Walk).chk) (put := putT (.many [4, 5, 6])) (body := evS (callN T n) (b_told_row_1 I)) (n0 := 1)
    (ρ0 := [some (.d (ti row)), some (.d (.int k)), some (.d (.tup (lies.map lieD))), some (.loc 0 0), none, none, none])
    (fun _ => [some (.d (ti row)), some (.d (.int k)), some (.d (.tup (lies.map lieD))), some (.loc 0 0), none, none, none]) (fun (m : List Int) => bagS S (m.map D.int)) (fun m z => if z.1 = k then m.set z.2.1 z.2.2 else m)
    (fun l m => m.length = row.length ∧ ∀ z ∈ l, z.2.1 < row.length)
    (fun z l m hi => by
      obtain ⟨h1, h2⟩ := hi
      have hz := h2 z List.mem_cons_self
      refine ⟨rfl, [some (.d (ti row)), some (.d (.int k)), some (.d (.tup (lies.map lieD))), some (.loc 0 0), some (.d (.int z.1)), some (.d (.int ((z.2.1 : Int) + 1))), some (.d (.int z.2.2))], [some (.d (ti row)), some (.d (.int k)), some (.d (.tup (lies.map lieD))), some (.loc 0 0), some (.d (.int z.1)), some (.d (.int ((z.2.1 : Int) + 1))), some (.d (.int z.2.2))], bagS S ((if z.1 = k then m.set z.2.1 z.2.2 else m).map D.int), rfl, ?_, rfl, ownFree_take rfl, by split <;> simp [h1], fun y hy => h2 y (List.mem_cons_of_mem _ hy)⟩
      have es := fun ρ : Env => st_loc (ρ := ρ) (S := bagS S (m.map D.int)) (u := 0) (l := 0) (k := z.2.1) (d := .int z.2.2) (ds := m.map D.int) rfl (by rw [List.length_map, h1]; exact hz)
      have hb : (bagS S (m.map D.int)).set 0 0 ⟨false, .lst ((m.map D.int).set z.2.1 (.int z.2.2))⟩ = bagS S ((m.set z.2.1 z.2.2).map D.int) := by rw [List.map_set]; rfl
      rw [hb] at es
      by_cases hk : z.1 = k
      · have hk2 : ((z.1 : Int) = (k : Int)) := by omega
        rw [if_pos hk]
        simp [b_told_row_1, varV, hk2, es]
      · have hk2 : ¬ ((z.1 : Int) = (k : Int)) := by omega
        rw [if_neg hk]
        simp [b_told_row_1, varV, hk2])
    (fun s _ => rfl) lies row ⟨rfl, hj⟩
  have e1 := el.1
  have hb0 : (⟨[⟨false, .lst (row.map D.int)⟩], S.own :: S.out, S.gl⟩ : St) = bagS S (row.map D.int) := rfl
  have ol : (bagS S (row.map D.int)).own.length = 1 := rfl
  have et := tuple_loc (S := bagS S ((toldV k lies row).map D.int)) (u := 0) (l := 0) (z := false) (ds := (toldV k lies row).map D.int) rfl
  unfold toldV at et ⊢
  generalize lies.foldl (fun m z => if z.1 = k then m.set z.2.1 z.2.2 else m) row = fin at *
  rw [call_eq hT.at_ rfl]
  simp [p_told_row, varV, St.call, hb0, ol, e1, et]
  rfl
/-! the law's sets -/
theorem s_lsets (hT : H__law_sets T I) {q m : Nat} (hq : q ≤ 9) (hm : m ≤ 100) : callN T (n + 1) (I N._law_sets) [.d (.int q), .d (.int m)] S = .ok (.new (.lst ((lsV m (ptI q)).map ti))) S := by
  have hr2 : rng2V (.d (.int 1)) (.d (.int ((q : Int) + 1))) S.call = .ok ⟨(ptI q).map D.int, none⟩ S.call := by
    rw [rng2_int (by omega) (by omega) (by omega) (by omega), show ((q : Int) + 1 - 1).toNat = q by omega, pt_rng]
  have hcond : ∀ (r : List Int), decide (((r.length : Int)) < (m : Int)) = decide (r.length < m) := fun r => decide_eq_decide.mpr (by omega)
  have hcond2 : ∀ (r : List Int), decide (((r.length : Int)) = (m : Int)) = decide (r.length = m) := fun r => decide_eq_decide.mpr (by omega)
  have el := forL_fold (enc := D.int) (chk := (⟨(ptI q).map D.int, none⟩ : Walk).chk) (put := putT (.one 3)) (body := evS (callN T n) (b__law_sets_3 I)) (n0 := 0)
    (ρ0 := [some (.d (.int q)), some (.d (.int m)), some (.d (.lst [.tup []])), none, none])
    (fun R => [some (.d (.int q)), some (.d (.int m)), some (.d (.lst ((R : List (List Int)).map ti))), none, none]) (fun _ => S.call) (lsStep m)
    (fun l R => R.length * 2 ^ l.length ≤ 512 ∧ ∀ r ∈ R, r.length + l.length ≤ 9)
    (fun a l R hi => by
      obtain ⟨h1, h2⟩ := hi
      have hp : 2 ^ l.length ≥ 1 := Nat.one_le_two_pow
      have hR : R.length * 2 ≤ 512 := by
        rw [List.length_cons, Nat.pow_succ, Nat.mul_comm (2 ^ l.length) 2, ← Nat.mul_assoc] at h1
        exact Nat.le_trans (Nat.le_mul_of_pos_right _ hp) h1
      have hsl : (lsStep m R a).length ≤ R.length * 2 := by
        unfold lsStep
        rw [List.length_append, List.length_map]
        have := List.length_filter_le (fun r : List Int => decide (r.length < m)) R
        omega
      refine ⟨rfl, _, [some (.d (.int q)), some (.d (.int m)), some (.d (.lst ((lsStep m R a).map ti))), some (.d (.int a)), none], _, rfl, ?_, rfl, ownFree_take rfl, ?_, ?_⟩
      · simp only [Env.put, List.set_cons_succ, List.set_cons_zero]
        unfold b__law_sets_3
        rw [S_set, E_bin, E_var]
        rw [show varV [some (.d (.int q)), some (.d (.int m)), some (.d (.lst (R.map ti))), some (.d (.int a)), none] 2 S.call = .ok (.d (.lst (R.map ti))) S.call from rfl, go_ok]
        rw [lc_ty (enc := ti) (l := R) (c := fun r => decide (r.length < m)) (g := fun r => ti (r ++ [a])) (v := fun r => .d (ti (r ++ [a]))) (at_ := none) ?hw rfl ?hl (fun r hr => ⟨rfl, ?hc, fun _ => ⟨?he, rfl⟩⟩)]
        · have hb := bin_lst (S := S.call) (s := R.map ti) (t := (R.filter fun r => decide (r.length < m)).map fun r => ti (r ++ [a])) (x := .d (.lst (R.map ti))) (y := .new (.lst ((R.filter fun r => decide (r.length < m)).map fun r => ti (r ++ [a])))) (by
            rw [List.length_map, List.length_map]
            have := List.length_filter_le (fun r : List Int => decide (r.length < m)) R
            omega) rfl rfl
          have hres : R.map ti ++ ((R.filter fun r => decide (r.length < m)).map fun r => ti (r ++ [a])) = (lsStep m R a).map ti := by
            unfold lsStep
            rw [List.map_append, List.map_map]
            rfl
          rw [hres] at hb
          rw [go_ok, hb]
          simp
        case hw => simp [varV]
        case hl => omega
        case hc => simp [Env.put, wipeE, c__law_sets_2, varV]
        case he =>
          have z1 : sz 1 = true := rfl
          have hb : binV .add (.d (ti r)) (.d (.tup [.int a])) S.call = .ok (.d (ti (r ++ [a]))) S.call := by
            have := h2 r hr
            rw [bin_tup (by rw [List.length_map]; simp; omega), ti, List.map_append]
            rfl
          simp [Env.put, wipeE, c__law_sets_1, varV, z1, hb]
      · rw [List.length_cons, Nat.pow_succ, Nat.mul_comm (2 ^ l.length) 2, ← Nat.mul_assoc] at h1
        exact Nat.le_trans (Nat.mul_le_mul_right _ hsl) h1
      · intro r hr
        unfold lsStep at hr
        rw [List.length_cons] at h2
        rcases List.mem_append.mp hr with hr | hr
        · have := h2 r hr; omega
        · obtain ⟨r', hr', rfl⟩ := List.mem_map.mp hr
          have := h2 r' (List.mem_filter.mp hr').1
          rw [List.length_append]
          simp
          omega)
    (fun s _ => rfl) (ptI q) [[]] ⟨by
      rw [pt_len]
      have : 2 ^ q ≤ 2 ^ 9 := Nat.pow_le_pow_right (by omega) hq
      simp; omega, fun r hr => by rw [List.mem_singleton.mp hr, pt_len]; simp; omega⟩
  have e1 := el.1
  have hlen := ls_len m (ptI q) [[]]
  rw [pt_len] at hlen
  have hlen2 : 2 ^ q ≤ 2 ^ 9 := Nat.pow_le_pow_right (by omega) hq
  simp at hlen
  unfold lsV
  change forL _ _ _ _ _ _ [_, _, some (.d (.lst [.tup []])), _, _] _ = _ at e1
  generalize (ptI q).foldl (lsStep m) [[]] = fin at *
  have z0 : sz 0 = true := rfl
  have z1 : sz 1 = true := rfl
  have ol : S.call.own.length = 0 := rfl
  rw [call_eq hT.at_ rfl]
  simp [-E_lc, p__law_sets, varV, z0, z1, hr2, ol, e1]
  rw [lc_ty (enc := ti) (l := fin) (c := fun r => decide (r.length = m)) (g := ti) (v := fun r => .d (ti r)) (at_ := none) ?hw2 rfl ?hl2 (fun r hr => ⟨rfl, ?hc2, fun _ => ⟨?he2, rfl⟩⟩)]
  · simp
  case hw2 => simp [varV]
  case hl2 => omega
  case hc2 =>
    simp [Env.put, wipeE, c__law_sets_5, varV]
    try omega
  case he2 => simp [Env.put, wipeE, c__law_sets_4, varV]
theorem sum_okU {p x : Int} {pts vals : List Int} : cg p (sumI (fun i => (wtV p pts x).getD i 0 * vals.getD i 0) (List.range pts.length)) (pe x (thrV p pts vals)) := by
  refine ((sumI_cg (p := p) (g := fun i => vals.getD i 0 * pe x (baseV p pts i)) fun i hi => ?_).trans (thrV_pe x).symm)
  have hi := List.mem_range.mp hi
  have e : (wtV p pts x).getD i 0 = pe x (baseV p pts i) % p := by
    rw [List.getD_eq_getElem?_getD]
    unfold wtV
    rw [List.getElem?_map, List.getElem?_range hi]
    rfl
  rw [e, Int.mul_comm]
  exact cg.refl.mul cg.mod
end U

set_option maxHeartbeats 4000000
/-! ULie3: the law's reading, walked. -/
namespace U
open PySem
variable {T : Nat → Option FD} {I : Nat → Nat} {n : Nat} {S : St}
theorem forL_ret {chk : St → Bool} {put : D → Env → Option Env} {body : Env → M Flow} {ρ ρ0 ρ1 : Env} {n0 : Nat} {x : D} {xs : List D} {S2 : St} {r : RV} (hk : chk S = true) (hp : put x ρ = some ρ1) (hb : body ρ1 S = .ok (.ret r) S2) : forL chk put body ρ0 n0 (x :: xs) ρ S = .ok (.ret r) S2 := by
  rw [forL]
  dsimp only
  rw [if_pos hk, hp]
  dsimp only
  rw [hb]
section
variable {p q t : Nat} {row s : List Int} {u i : Nat} {z : Bool}
theorem shr_loc (hg : S.get u i = some ⟨z, .lst (row.map D.int)⟩) {a : Int} (h1 : 1 ≤ a) (h2 : a ≤ row.length) : ixV (.loc u i) (.d (.int (a - 1))) S = .ok (.d (.int (shr row a))) S := by
  obtain ⟨j, hj⟩ : ∃ j : Nat, a - 1 = (j : Int) := ⟨(a - 1).toNat, by omega⟩
  rw [hj]
  have hjl : j < row.length := by omega
  refine ix_loc hg ?_
  unfold shr
  rw [show (a - 1).toNat = j by omega, List.getElem?_map, List.getElem?_eq_getElem hjl, List.getD_eq_getElem?_getD, List.getElem?_eq_getElem hjl]
  rfl
theorem e_ws {C : Nat → List SV → M RV} {w : List Int} (hg : S.get u i = some ⟨z, .lst (row.map D.int)⟩) (hp : 0 < p ∧ p ≤ 1000000) (hr : InR p row) (hs : ∀ a ∈ s, 1 ≤ a ∧ a ≤ row.length) (hsl : s.length = t + 1) (ht : t ≤ 100) (hw : w.length = s.length) (hwr : InR p w) {a0 a2 a3 a6 a7 a9 : Option SV} :
    evE C (.lc (c__law_read_1 I) (.one 10) (.wk .rng1 (.bin .add (.var 4) (.con (.int 1))) .nil) (.con (.bl true)) [10]) [a0, some (.loc u i), a2, a3, some (.d (.int t)), some (.d (ti s)), a6, a7, some (.d (.lst (w.map D.int))), a9, none] S = .ok (.new (.lst (((List.range s.length).map fun (k : Nat) => w.getD k 0 * (s.map (shr row)).getD k 0).map D.int))) S := by
  rw [List.map_map]
  refine lc_map (enc := fun (k : Nat) => D.int (k : Int)) (l := List.range s.length) (g := fun (k : Nat) => .int (w.getD k 0 * (s.map (shr row)).getD k 0)) (v := fun (k : Nat) => .d (.int (w.getD k 0 * (s.map (shr row)).getD k 0))) (at_ := none) (r := fun (k : Nat) => [a0, some (.loc u i), a2, a3, some (.d (.int t)), some (.d (ti s)), a6, a7, some (.d (.lst (w.map D.int))), a9, some (.d (.int k))]) ?_ rfl (by rw [List.length_range]; omega) (fun k hk => ⟨rfl, ?_, rfl⟩)
  · have hrg := rng1_nat (S := S) (q := t + 1) (by omega)
    rw [hsl]
    simp [varV]
    exact hrg
  · have hk := List.mem_range.mp hk
    have hsk := hs _ (List.getElem_mem hk)
    have e1 : ixV (.d (ti s)) (.d (.int k)) S = .ok (.d (.int s[k])) S := ix_tup (by rw [List.getElem?_map, List.getElem?_eq_getElem hk]; rfl)
    have e2 := shr_loc hg hsk.1 hsk.2
    have e3 : ixV (.d (.lst (w.map D.int))) (.d (.int k)) S = .ok (.d (.int (w.getD k 0))) S := by
      refine ix_lst ?_
      rw [List.getElem?_map, List.getElem?_eq_getElem (by omega)]
      simp [List.getD_eq_getElem?_getD, List.getElem?_eq_getElem (show k < w.length by omega)]
    have e4 : (s.map (shr row)).getD k 0 = shr row s[k] := by
      rw [List.getD_eq_getElem?_getD, List.getElem?_map, List.getElem?_eq_getElem hk]
      rfl
    have z1 : 0 ≤ w.getD k 0 ∧ w.getD k 0 < p := by
      rw [List.getD_eq_getElem?_getD, List.getElem?_eq_getElem (by omega)]
      exact hwr _ (List.getElem_mem _)
    rw [e4]
    generalize shr row s[k] = b at *
    generalize w.getD k 0 = c at *
    generalize s[k] = a at *
    simp [c__law_read_1, varV, e3, e1, e2, mul_l (i := c) (j := b) (by omega) (by omega)]
theorem lread_at (hs : SetOk p q t) (hsub : s.Sublist (ptI q)) (x : Int) : ((List.range s.length).map fun (k : Nat) => ((s.map (lwV p s x)).getD k 0) * (s.map (shr row)).getD k 0).sum % (p : Int) = pe x (polyAt p row s) % p := by
  have ap := apart_sub (apart_pt (p := (p : Int)) (by have := hs.qp; omega)) hsub
  have nd : s.Nodup := (pt_nd (q := q)).sublist hsub
  rw [sum_sumI, ← wt_sameU hs.pr ap nd x]
  exact sum_okU
theorem lw_in {p : Int} (hp : 0 < p) {pts : List Int} {x : Int} : InR p (pts.map (lwV p pts x)) := fun c hc => by
  obtain ⟨a, _, rfl⟩ := List.mem_map.mp hc
  exact ⟨mod_nn hp, mod_lt hp⟩
theorem lread_set (hT : H__law_read T I) (hs : SetOk p q t) (hg : S.get u i = some ⟨z, .lst (row.map D.int)⟩) (hr : InR p row) (hrl : row.length = q) (hsub : s.Sublist (ptI q)) (hsl : s.length = t + 1) {a0 : SV} :
    evS (callN T (n + 3)) (b__law_read_4 I) [some a0, some (.loc u i), some (.d (.int p)), some (.d (.int q)), some (.d (.int t)), some (.d (ti s)), none, none, none, none, none] S =
      if q - (q - t - 1) / 2 ≤ (rightV p q row (polyAt p row s)).length then .ok (.ret (.d (.int (pe 0 (polyAt p row s) % p)))) S else .ok (.next [some a0, some (.loc u i), some (.d (.int p)), some (.d (.int q)), some (.d (.int t)), some (.d (ti s)), some (.d (.int (rightV p q row (polyAt p row s)).length)), none, none, none, none]) S := by
  have plo := hs.pr.lo
  have phi := hs.hp
  have hq9 := hs.q9
  have htq := hs.tq
  have hsb : ∀ a ∈ s, 1 ≤ a ∧ a ≤ row.length := fun a ha => by
    have := pt_mem.mp (hsub.subset ha)
    omega
  have ew := fun (x : Int) => s_lweightsD (n := n) (S := S) hT._law_weights.at_ hT._law_weights._law_inverse.at_ hT._law_weights._law_inverse._law_raised.at_ (p := (p : Int)) (x := x) (by omega) (pts := s) (by omega)
  have hr2 : rng2V (.d (.int 1)) (.d (.int ((q : Int) + 1))) S = .ok ⟨(ptI q).map D.int, none⟩ S := by
    rw [rng2_int (by omega) (by omega) (by omega) (by omega), show ((q : Int) + 1 - 1).toNat = q by omega, pt_rng]
  have es := fun (x : Int) => sum_new (S := S) (f := (List.range s.length).map fun (k : Nat) => ((s.map (lwV p s x)).getD k 0) * (s.map (shr row)).getD k 0)
  have hat := fun (x : Int) => lread_at (row := row) hs hsub x
  have hE := fun (x : Int) (a0 a2 a3 a6 a7 a9 : Option SV) => e_ws (a0 := a0) (a2 := a2) (a3 := a3) (a6 := a6) (a7 := a7) (a9 := a9) (I := I) (C := callN T (n + 3)) (w := s.map (lwV p s x)) (t := t) hg (by omega : 0 < p ∧ p ≤ 1000000) hr hsb hsl (by omega) (by rw [List.length_map]) (lw_in (by omega))
  have el := forL_fold (enc := D.int) (chk := (⟨(ptI q).map D.int, none⟩ : Walk).chk) (put := putT (.one 7)) (body := evS (callN T (n + 3)) (b__law_read_2 I)) (n0 := S.own.length)
    (ρ0 := [some a0, some (.loc u i), some (.d (.int p)), some (.d (.int q)), some (.d (.int t)), some (.d (ti s)), some (.d (.int 0)), none, none, none, none])
    (fun (m : Nat) => [some a0, some (.loc u i), some (.d (.int p)), some (.d (.int q)), some (.d (.int t)), some (.d (ti s)), some (.d (.int m)), none, none, none, none]) (fun _ => S) (fun m a => m + if pe a (polyAt p row s) % p = shr row a then 1 else 0)
    (fun l _ => ∀ a ∈ l, a ∈ ptI q)
    (fun a l m hi => by
      have ha := pt_mem.mp (hi a List.mem_cons_self)
      have e3 := shr_loc hg (a := a) ha.1 (by omega)
      refine ⟨rfl, _, [some a0, some (.loc u i), some (.d (.int p)), some (.d (.int q)), some (.d (.int t)), some (.d (ti s)), some (.d (.int ((m + if pe a (polyAt p row s) % p = shr row a then 1 else 0 : Nat)))), some (.d (.int a)), some (.d (.lst ((s.map (lwV p s a)).map D.int))), some (.d (.int (pe a (polyAt p row s) % p))), none], _, rfl, ?_, rfl, ownFree_take rfl, fun b hb => hi b (List.mem_cons_of_mem _ hb)⟩
      have ew := ew a
      have es := es a
      have hat := hat a
      have hE := hE a (some a0) (some (.d (.int p))) (some (.d (.int q))) (some (.d (.int m))) (some (.d (.int a))) none
      generalize hW : s.map (lwV p s a) = W at *
      generalize (List.range s.length).map (fun (k : Nat) => (W.getD k 0) * (s.map (shr row)).getD k 0) = L at *
      generalize pe a (polyAt p row s) % (p : Int) = v at *
      simp [-E_lc, Env.put, b__law_read_2, varV, ew]
      rw [hE]
      have hbm := bop_mod (i := L.sum) (j := (p : Int)) (by omega)
      rw [hat] at hbm
      by_cases hv : v = shr row a
      · simp [varV, es, hbm, e3, hv]
      · simp [varV, es, hbm, e3, hv])
    (fun s _ => rfl) (ptI q) 0 (fun a ha => ha)
  have e1 := el.1
  have hcnt : (ptI q).foldl (fun m a => m + if pe a (polyAt p row s) % p = shr row a then 1 else 0) 0 = (rightV p q row (polyAt p row s)).length := by
    have : ∀ (l : List Int) (m : Nat), l.foldl (fun m a => m + if pe a (polyAt p row s) % p = shr row a then 1 else 0) m = m + (l.filter fun a => decide (pe a (polyAt p row s) % p = shr row a)).length := by
      intro l
      induction l with
      | nil => intro m; simp
      | cons a l ih =>
        intro m
        rw [List.foldl_cons, ih, List.filter_cons]
        by_cases h : pe a (polyAt p row s) % p = shr row a
        · simp [h]; omega
        · simp [h]
    rw [this]
    unfold rightV
    omega
  rw [hcnt] at e1
  have hE0 := hE 0 (some a0) (some (.d (.int p))) (some (.d (.int q))) (some (.d (.int ((rightV p q row (polyAt p row s)).length)))) none none
  have ew0 := ew 0
  have es0 := es 0
  have hat0 := hat 0
  have hdiv : ((q : Int) - t - 1) / 2 = ((q - t - 1) / 2 : Nat) := by omega
  have hdec : decide ((q : Int) - (((q - t - 1) / 2 : Nat) : Int) ≤ ((rightV p q row (polyAt p row s)).length : Int)) = decide (q - (q - t - 1) / 2 ≤ (rightV p q row (polyAt p row s)).length) := decide_eq_decide.mpr (by omega)
  generalize (rightV p q row (polyAt p row s)).length = near at *
  generalize hW : s.map (lwV p s 0) = W at *
  generalize (List.range s.length).map (fun (k : Nat) => (W.getD k 0) * (s.map (shr row)).getD k 0) = L at *
  generalize pe 0 (polyAt p row s) % (p : Int) = v at *
  have hbm := bop_mod (i := L.sum) (j := (p : Int)) (by omega)
  rw [hat0] at hbm
  have hbd := bop_div (i := (q : Int) - t - 1) (j := 2) (by omega) (by omega)
  rw [hdiv] at hbd
  have hc13 : c__law_read_3 I = c__law_read_1 I := rfl
  generalize hee : (((q - t - 1) / 2 : Nat) : Int) = ee at *
  change forL _ _ _ _ _ _ [_, _, _, _, _, _, some (.d (.int 0)), _, _, _, _] _ = _ at e1
  by_cases hn : q - (q - t - 1) / 2 ≤ near
  · rw [if_pos hn]
    rw [decide_eq_true hn] at hdec
    have hdec2 : (q : Int) - ee ≤ near := of_decide_eq_true hdec
    unfold b__law_read_4
    rw [S_seq, S_set]
    simp [-E_lc, varV, hr2, e1, hbd, hdec2, hdec, hc13, ew0]
    rw [hE0]
    simp [varV, es0, hbm]
  · rw [if_neg hn]
    rw [decide_eq_false hn] at hdec
    have hdec2 : ¬ (q : Int) - ee ≤ near := of_decide_eq_false hdec
    unfold b__law_read_4
    rw [S_seq, S_set]
    simp [-E_lc, varV, hr2, e1, hbd, hdec2, hdec, hc13, ew0]
theorem s_lread (hT : H__law_read T I) (hs : SetOk p q t) (hg : S.get u i = some ⟨z, .lst (row.map D.int)⟩) (hr : InR p row) (hrl : row.length = q) :
    callN T (n + 4) (I N._law_read) [.d (setD p q t), .loc u i] S = .ok (.d (od (lreadV p q (t + 1) ((q - t - 1) / 2) row))) S := by
  have hq9 := hs.q9
  have htq := hs.tq
  have g1 : S.call.get (u + 1) i = some ⟨z, .lst (row.map D.int)⟩ := by rw [call_get]; exact hg
  have e1 := s_lsets (n := n + 2) (S := S.call) hT._law_sets (q := q) (m := t + 1) hq9 (by omega)
  change callN T (n + 3) _ [.d (.int q), .d (.int ((t : Int) + 1))] _ = _ at e1
  have hl : ∀ l : List (List Int), (∀ s ∈ l, s.Sublist (ptI q) ∧ s.length = t + 1) → forL (fun _ => true) (putT (.one 5)) (evS (callN T (n + 3)) (b__law_read_4 I)) [some (.d (setD p q t)), some (.loc (u + 1) i), some (.d (.int p)), some (.d (.int q)), some (.d (.int t)), none, none, none, none, none, none] 0 (l.map ti) [some (.d (setD p q t)), some (.loc (u + 1) i), some (.d (.int p)), some (.d (.int q)), some (.d (.int t)), none, none, none, none, none, none] S.call =
      match l.find? (fun s => decide (q - (q - t - 1) / 2 ≤ (rightV p q row (polyAt p row s)).length)) with
      | none => .ok (.next [some (.d (setD p q t)), some (.loc (u + 1) i), some (.d (.int p)), some (.d (.int q)), some (.d (.int t)), none, none, none, none, none, none]) S.call
      | some s => .ok (.ret (.d (.int (pe 0 (polyAt p row s) % p)))) S.call := by
    intro l
    induction l with
    | nil => intro _; exact forL_end rfl
    | cons s l ih =>
      intro h
      obtain ⟨h1, h2⟩ := h s List.mem_cons_self
      have eb := lread_set (n := n) hT hs g1 hr hrl h1 h2 (a0 := .d (setD p q t))
      rw [List.map_cons, List.find?_cons]
      by_cases hn : q - (q - t - 1) / 2 ≤ (rightV p q row (polyAt p row s)).length
      · rw [if_pos hn] at eb
        rw [decide_eq_true hn]
        exact forL_ret rfl rfl eb
      · rw [if_neg hn] at eb
        rw [decide_eq_false hn]
        refine (forL_next rfl rfl eb).trans ?_
        exact (congrArg _ (ownFree_take rfl)).trans (ih fun y hy => h y (List.mem_cons_of_mem _ hy))
  have hl := hl (lsV (t + 1) (ptI q)) (fun s hs => mem_ls.mp hs)
  unfold lreadV
  generalize lsV (t + 1) (ptI q) = L at *
  have hl' : forL (⟨L.map ti, none⟩ : Walk).chk (putT (.one 5)) (evS (callN T (n + 3)) (b__law_read_4 I)) _ 0 _ _ S.call = _ := hl
  have ol : S.call.own.length = 0 := rfl
  rw [call_eq hT.at_ rfl]
  cases hf : L.find? (fun s => decide (q - (q - t - 1) / 2 ≤ (rightV p q row (polyAt p row s)).length)) with
  | none =>
    rw [hf] at hl'
    simp [p__law_read, varV, unpV, cut_set, puts, Env.put, e1, ol, hl']
  | some s =>
    rw [hf] at hl'
    simp [p__law_read, varV, unpV, cut_set, puts, Env.put, e1, ol, hl']
end
end U

set_option maxHeartbeats 4000000
namespace U
open PySem
variable {T : Nat → Option FD} {I : Nat → Nat} {n : Nat} {S : St}
section
variable {p q t : Nat} {coins inputs row : List Int} {rows : List Row} {ds : List Int} {k : Nat}
def eV (q t : Nat) : Nat := (q - t - 1) / 2
theorem s_readP (hT : H_read T I) (hs : SetOk p q t) (hr : InR p row) (hrl : row.length = q) : callN T (n + t + 8) (I N.read) [.d (setD p q t), .d (ti row)] S = .ok (.d (od (lreadV p q (t + 1) (eV q t) row))) S := by
  have plo := hs.pr.lo
  have phi := hs.hp
  have hq9 := hs.q9
  have htq := hs.tq
  have hqp := hs.qp
  have hme : t + 1 + 2 * eV q t ≤ q := by unfold eV; omega
  have hdiv : ((q : Int) - t - 1) / 2 = ((eV q t : Nat) : Int) := by unfold eV; omega
  have hpw : (q + 1) ^ (t + 1) ≤ 1000000 := by
    have h1 : (q + 1) ^ (t + 1) ≤ 10 ^ (t + 1) := Nat.pow_le_pow_left (by omega) _
    have h2 : 10 ^ (t + 1) ≤ 10 ^ 5 := Nat.pow_le_pow_right (by omega) (by omega)
    omega
  have hcase := read_same hs.pr (q := q) (m := t + 1) (e := eV q t) (by omega) hme hr
  have hcnt : (rdV p q (t + 1) (eV q t) row).length < 64 := by
    rcases hcase with ⟨_, h⟩ | ⟨f, h, _⟩ <;> rw [h] <;> simp
  have e1 := fun S : St => s_readings (n := n) (S := S) (polyT hT.readings.through.bases) hT.readings.through.bases.at_ hT.readings.through.at_ hT.readings.wrong.at_ hT.readings.sets_of.at_ hT.readings.parties.at_ hT.readings.at_ hs.pr (q := q) (t := t) (e := eV q t) hq9 (by omega) (by omega) hr hrl hcnt hpw
  have hl : ∀ f ∈ sortT (rdV p q (t + 1) (eV q t) row), f ≠ [] := fun f hf => by
    have := (rd_bound hs.pr (by omega) (by omega) hr f ((sortT_perm _).mem_iff.mp hf)).1
    intro z
    rw [z] at this
    simp at this
  have e2 := s_read (N := n + t + 6) (S := S) hT.at_ hT.most_wrong.at_ (p := p) (q := q) (t := t) (row := row) hl (fun S => by rw [hdiv]; exact e1 S)
  rw [e2]
  rcases hcase with ⟨h1, h2⟩ | ⟨f, h1, h2⟩
  · rw [h1, h2]; rfl
  · rw [h1, h2]; rfl
def rdD (p q t : Nat) (rows : List Row) (polys : List (Option (List Int))) (lies : List (Nat × Nat × Int)) (k : Nat) : D := .tup [.int k, .int (outJ (rowAt rows k)), od (lreadV p q (t + 1) (eV q t) (toldV k lies (sharesV p q (gp polys (outW (rowAt rows k))))))]
theorem s_readout (hT : H_read_out T I) (hs : SetOk p q t) (hP : Prog p q rows) (hl : rows.length ≤ 1000) (hi : InR p inputs) (hn : inputs.length = nIn rows) (hc : InR p coins) (hcl : needs q t rows ≤ coins.length) {lies : List (Nat × Nat × Int)} (hj : ∀ z ∈ lies, z.2.1 < q ∧ 0 ≤ z.2.2 ∧ z.2.2 < p) :
    callN T (n + t + 9) (I N.read_out) [.d (setD p q t), .d (progD rows), .d (ti inputs), .d (ti coins), .d (.tup (lies.map lieD))] S = .ok (.d (.tup ((outsV rows).map (rdD p q t rows (runV p q t coins inputs rows).polys lies)))) S := by
  have plo := hs.pr.lo
  have hq9 := hs.q9
  have e1 := s_sent (n := n + t) (S := S.call) hT.sent hs hP hl hi hn hc hcl
  generalize runV p q t coins inputs rows = fin at *
  rw [call_eq hT.at_ rfl]
  simp [-E_lc, p_read_out, varV, e1]
  rw [lc_map (enc := sentD p q rows fin.polys) (l := outsV rows) (g := rdD p q t rows fin.polys lies) (v := fun k => .d (rdD p q t rows fin.polys lies k)) (at_ := none) ?hw rfl ?hl (fun k hk => ⟨rfl, ?hc, rfl⟩)]
  · simp
  case hw => simp [varV]
  case hl => exact Nat.le_trans (List.length_filter_le _ _) (by rw [List.length_range]; omega)
  case hc =>
    have hlen : (sharesV p q (gp fin.polys (outW (rowAt rows k)))).length = q := shares_len
    have e2 := s_told (n := n + t + 7) (S := S.call) hT.told_row (k := k) (lies := lies) (row := sharesV p q (gp fin.polys (outW (rowAt rows k)))) (fun z hz => by rw [hlen]; exact (hj z hz).1) (by omega)
    have e3 := s_readP (n := n) (S := S.call) hT.read hs (row := toldV k lies (sharesV p q (gp fin.polys (outW (rowAt rows k))))) (told_in (fun z hz => (hj z hz).2) (shares_in (by omega))) (by rw [told_len]; exact hlen)
    have z3 : sz 3 = true := rfl
    unfold rdD
    generalize toldV k lies (sharesV p q (gp fin.polys (outW (rowAt rows k)))) = tr at *
    generalize sharesV p q (gp fin.polys (outW (rowAt rows k))) = sr at *
    generalize lreadV p q (t + 1) (eV q t) tr = o at *
    simp [Env.put, wipeE, c_read_out_1, varV, e2, e3, z3]
/-- the frame within -/
def S5 (ds : List Int) (k : Nat) (Ls : List (Nat × Nat × Int)) (du : List D) (row js : List Int) : St := bx ds k [⟨false, .lst (Ls.map lieD)⟩, ⟨false, .lst du⟩, ⟨false, .lst (row.map D.int)⟩, ⟨false, .lst (js.map D.int)⟩] [[]] []
theorem l18_1 (h : H_law_k18 T I) (hq : 1 ≤ q ∧ q ≤ 9) {Ls : List (Nat × Nat × Int)} {du : List D} {ρ : Env} {a0 a2 a4 a5 a6 a7 a8 a9 a10 a13 a14 a15 a17 : SV} (hρ : ρ = [some a0, some (.loc 0 0), some a2, some (.d (.int q)), some a4, some a5, some a6, some a7, some a8, some a9, some a10, some (.loc 0 1), some (.loc 0 2), some a13, some a14, some a15, some (.loc 0 3), some a17, some (.loc 0 4), none, none, none]) : ∀ (xs : List D) (k : Nat) (js : List Int), (∀ a ∈ js, 1 ≤ a ∧ a ≤ q) → js.length + xs.length ≤ 1000 →
    ∃ k' js', (∀ a ∈ js', 1 ≤ a ∧ a ≤ (q : Int)) ∧ js'.length ≤ js.length + xs.length ∧ forL (fun _ => true) (putT (.one 19)) (evS (callN T 19) (b_law_k18_1 I)) ρ 5 xs ρ (S5 ds k Ls du row js) = .ok (.next ρ) (S5 ds k' Ls du row js')
  | [], k, js, hj, _ => ⟨k, js, hj, by simp, forL_end rfl⟩
  | x :: xs, k, js, hj, hm => by
    rw [List.length_cons] at hm
    have e1 := x_draw (n := 18) (ds := ds) (k := k) (r := [⟨false, .lst (Ls.map lieD)⟩, ⟨false, .lst du⟩, ⟨false, .lst (row.map D.int)⟩, ⟨false, .lst (js.map D.int)⟩]) (o := [[]]) (g := []) h._law_draw.at_ (m := q) (by omega)
    have d0 := drw_nn (ds := ds) (k := k) (m := q) (by omega)
    have d1 := drw_lt (ds := ds) (k := k) (m := q) (by omega)
    generalize drw ds k q = d at e1 d0 d1
    have e2 := notin_loc (S := S5 ds (k + 1) Ls du row js) (u := 0) (l := 4) (a := 1 + d) (z := false) (f := js) rfl
    unfold S5 at e2
    by_cases hc : 1 + d ∈ js
    · obtain ⟨k', js', h1, h2, h3⟩ := l18_1 h hq hρ xs (k + 1) js hj (by omega)
      refine ⟨k', js', h1, by rw [List.length_cons]; omega, ?_⟩
      have eb : evS (callN T 19) (b_law_k18_1 I) (ρ.set 19 (some (.d x))) (S5 ds k Ls du row js) = .ok (.next ((ρ.set 19 (some (.d x))).set 20 (some (.d (.int (1 + d)))))) (S5 ds (k + 1) Ls du row js) := by
        subst hρ
        unfold S5
        simp [b_law_k18_1, varV, e1, e2, hc]
      rw [forL_next rfl (by rfl) eb]
      subst hρ
      simp only [List.set_cons_succ, List.set_cons_zero, mask_some, mask_none, mask_nil]
      rw [ownFree_take (n := 5) rfl]
      exact h3
    · obtain ⟨k', js', h1, h2, h3⟩ := l18_1 h hq hρ xs (k + 1) (js ++ [1 + d]) (fun a ha => by
        rcases List.mem_append.mp ha with ha | ha
        · exact hj a ha
        · rw [List.mem_singleton.mp ha]; omega) (by rw [List.length_append]; simp; omega)
      refine ⟨k', js', h1, by rw [List.length_append] at h2; simp at h2; rw [List.length_cons]; omega, ?_⟩
      have er : recvOk .append (view (S5 ds (k + 1) Ls du row js) (.loc 0 4)) = true := recv_loc (ds := js.map D.int) (z := false) (by simp) rfl
      have ea : meth1 .append (.loc 0 4) (.d (.int (1 + d))) (S5 ds (k + 1) Ls du row js) = .ok (.d .non) (S5 ds (k + 1) Ls du row (js ++ [1 + d])) := by
        rw [app_d (u := 0) (i := 4) (ds := js.map D.int) rfl (by rw [List.length_map]; omega)]
        unfold S5
        rw [List.map_append]
        rfl
      have eb : evS (callN T 19) (b_law_k18_1 I) (ρ.set 19 (some (.d x))) (S5 ds k Ls du row js) = .ok (.next ((ρ.set 19 (some (.d x))).set 20 (some (.d (.int (1 + d)))))) (S5 ds (k + 1) Ls du row (js ++ [1 + d])) := by
        subst hρ
        generalize S5 ds (k + 1) Ls du row (js ++ [1 + d]) = S2 at ea ⊢
        unfold S5 at er ea ⊢
        simp [b_law_k18_1, varV, e1, e2, hc, er, ea]
      rw [forL_next rfl (by rfl) eb]
      subst hρ
      simp only [List.set_cons_succ, List.set_cons_zero, mask_some, mask_none, mask_nil]
      rw [ownFree_take (n := 5) rfl]
      exact h3
theorem ix_last {u i : Nat} {z : Bool} {xs : List D} {d : D} (hg : S.get u i = some ⟨z, .lst (xs ++ [d])⟩) : ixV (.loc u i) (.d (.int (-1))) S = .ok (.d d) S := by
  unfold ixV
  have hv : view S (hold (.loc u i)).rv = some (.lst (xs ++ [d])) := view_loc hg
  rw [hv]
  have hn : ixN (xs ++ [d]).length (-1) = some xs.length := by
    unfold ixN
    rw [if_neg (by omega), if_pos (by rw [List.length_append]; simp; omega)]
    congr 1
    rw [List.length_append]
    simp
    omega
  have hget : getIx (.lst (xs ++ [d])) (.int (-1)) = some d := by
    show (match ixN (xs ++ [d]).length (-1) with
      | some k => (xs ++ [d])[k]?
      | none => none) = _
    rw [hn]
    simp
  show (match getIx (.lst (xs ++ [d])) (.int (-1)) with
    | some v => (.ok (.d v) S : Res RV)
    | none => .bad) = _
  rw [hget]
theorem l18_2 (h : H_law_k18 T I) (hp : 2 ≤ p) (hq : 1 ≤ q ∧ q ≤ 9) {kk : Nat} {du : List D} {js : List Int} {ρ : Env} {a0 a3 a4 a5 a6 a7 a8 a9 a10 a14 a15 a17 : SV} (hρ : ρ = [some a0, some (.loc 0 0), some (.d (.int p)), some a3, some a4, some a5, some a6, some a7, some a8, some a9, some a10, some (.loc 0 1), some (.loc 0 2), some (.d (.int kk)), some a14, some a15, some (.loc 0 3), some a17, some (.loc 0 4), none, none, none]) : ∀ (xs : List Int) (k : Nat) (Ls : List (Nat × Nat × Int)) (row : List Int), row.length = q → (∀ a ∈ xs, 1 ≤ a ∧ a ≤ q) → Ls.length + xs.length ≤ 100000 →
    ∃ k' new, (∀ z ∈ new, z.1 = kk ∧ (z.2.1 : Int) + 1 ∈ xs ∧ z.2.1 < q ∧ 0 ≤ z.2.2 ∧ z.2.2 < (p : Int)) ∧ new.length = xs.length ∧ forL (fun _ => true) (putT (.one 20)) (evS (callN T 19) (b_law_k18_2 I)) ρ 5 (xs.map D.int) ρ (S5 ds k Ls du row js) = .ok (.next ρ) (S5 ds k' (Ls ++ new) du (toldV kk new row) js)
  | [], k, Ls, row, _, _, _ => ⟨k, [], fun z hz => (by cases hz), rfl, by rw [List.append_nil]; exact forL_end rfl⟩
  | x :: xs, k, Ls, row, hrl, hx, hm => by
    rw [List.length_cons] at hm
    have hx1 := hx x List.mem_cons_self
    obtain ⟨j, hj⟩ : ∃ j : Nat, x = (j : Int) + 1 := ⟨(x - 1).toNat, by omega⟩
    subst hj
    have hjq : j < q := by omega
    have e1 := x_number (n := 17) (ds := ds) (k := k) (r := [⟨false, .lst (Ls.map lieD)⟩, ⟨false, .lst du⟩, ⟨false, .lst (row.map D.int)⟩, ⟨false, .lst (js.map D.int)⟩]) (o := [[]]) (g := []) h._law_number.at_ h._law_number._law_draw.at_ (p := (p : Int)) (by omega)
    have n0 := num_nn (ds := ds) (k := k) (p := (p : Int)) (by omega)
    have n1 := num_lt (ds := ds) (k := k) (p := (p : Int)) (by omega)
    generalize num ds k (p : Int) = v at e1 n0 n1
    obtain ⟨k', new, h1, h2, h3⟩ := l18_2 h hp hq hρ xs (k + 2) (Ls ++ [(kk, j, v)]) (row.set j v) (by rw [List.length_set]; exact hrl) (fun a ha => hx a (List.mem_cons_of_mem _ ha)) (by rw [List.length_append]; simp; omega)
    refine ⟨k', (kk, j, v) :: new, fun z hz => ?_, by rw [List.length_cons, h2, List.length_cons], ?_⟩
    · rcases List.mem_cons.mp hz with rfl | hz
      · exact ⟨rfl, List.mem_cons_self, hjq, n0, n1⟩
      · obtain ⟨b1, b2, b3⟩ := h1 z hz
        exact ⟨b1, List.mem_cons_of_mem _ b2, b3⟩
    · have er : recvOk .append (view (S5 ds k Ls du row js) (.loc 0 1)) = true := recv_loc (ds := Ls.map lieD) (z := false) (by simp) rfl
      have ea : meth1 .append (.loc 0 1) (.d (lieD (kk, j, v))) (S5 ds (k + 2) Ls du row js) = .ok (.d .non) (S5 ds (k + 2) (Ls ++ [(kk, j, v)]) du row js) := by
        rw [app_d (u := 0) (i := 1) (ds := Ls.map lieD) rfl (by rw [List.length_map]; omega)]
        unfold S5
        rw [List.map_append]
        rfl
      have eil : ixV (.loc 0 1) (.d (.int (-1))) (S5 ds (k + 2) (Ls ++ [(kk, j, v)]) du row js) = .ok (.d (lieD (kk, j, v))) (S5 ds (k + 2) (Ls ++ [(kk, j, v)]) du row js) := ix_last (xs := Ls.map lieD) (z := false) (by unfold S5; rw [List.map_append]; rfl)
      have es := fun ρ : Env => st_loc (ρ := ρ) (S := S5 ds (k + 2) (Ls ++ [(kk, j, v)]) du row js) (u := 0) (l := 3) (k := j) (d := .int v) (ds := row.map D.int) rfl (by rw [List.length_map, hrl]; exact hjq)
      have hb : (S5 ds (k + 2) (Ls ++ [(kk, j, v)]) du row js).set 0 3 ⟨false, .lst ((row.map D.int).set j (.int v))⟩ = S5 ds (k + 2) (Ls ++ [(kk, j, v)]) du (row.set j v) js := by rw [← List.map_set]; rfl
      rw [hb] at es
      have z3 : sz 3 = true := rfl
      have eb : evS (callN T 19) (b_law_k18_2 I) (ρ.set 20 (some (.d (.int ((j : Int) + 1))))) (S5 ds k Ls du row js) = .ok (.next (ρ.set 20 (some (.d (.int ((j : Int) + 1)))))) (S5 ds (k + 2) (Ls ++ [(kk, j, v)]) du (row.set j v) js) := by
        subst hρ
        unfold lieD at ea eil
        generalize S5 ds (k + 2) (Ls ++ [(kk, j, v)]) du (row.set j v) js = S4 at *
        generalize S5 ds (k + 2) (Ls ++ [(kk, j, v)]) du row js = S3 at *
        unfold S5 at er ea ⊢
        simp [b_law_k18_2, varV, er, e1, z3, ea, eil, es]
      rw [List.map_cons, forL_next rfl (by rfl) eb]
      have hmask : mask ρ (ρ.set 20 (some (.d (.int ((j : Int) + 1))))) = ρ := by subst hρ; rfl
      rw [hmask, ownFree_take (n := 5) rfl, h3, List.append_assoc]
      have ht : toldV kk ((kk, j, v) :: new) row = toldV kk new (row.set j v) := by
        unfold toldV
        rw [List.foldl_cons, if_pos rfl]
      rw [ht]
      rfl
end
end U

set_option maxHeartbeats 4000000
namespace U
open PySem
variable {T : Nat → Option FD} {I : Nat → Nat} {n : Nat} {S : St}
theorem sorted_ints {S : St} {u j : Nat} {z : Bool} {l : List Int} (hg : S.get u j = some ⟨z, .lst (l.map D.int)⟩) : b1V .sorted (.loc u j) S = .ok (.new (.lst ((sortI l).map D.int))) S := by
  unfold b1V
  rw [view_loc hg]
  show lift1 (sortedD (l.map D.int)) S = _
  unfold sortedD
  rw [intsD_map]
  rfl

section
variable {p q t : Nat} {coins inputs row : List Int} {rows : List Row} {ds : List Int} {k : Nat}
theorem heads_gv {polys : List (Option (List Int))} {vs : List (Option Int)} (h : polys.map (Option.map fun f => f.getD 0 0) = vs) (a : Nat) : (gp polys a).getD 0 0 = gv vs a := by
  unfold gp gv
  rw [← h, List.getElem?_map]
  cases polys[a]? with
  | none => rfl
  | some o => cases o <;> rfl
theorem k18_body (h : H_law_k18 T I) (hs : SetOk p q t) {fin : RS} (hR : RI p q t coins rows [] fin) (hH : fin.polys.map (Option.map fun f => f.getD 0 0) = valsV p inputs rows) {kk : Nat} (hk : kk ∈ outsV rows) {Ls : List (Nat × Nat × Int)} {du : List D} (hL : Ls.length ≤ 10000) (hd : du.length ≤ 10000) {a0 a7 a8 a10 : SV} :
    ∃ k' new ρ r2, (∀ z ∈ new, z.1 = kk ∧ z.2.1 < q ∧ 0 ≤ z.2.2 ∧ z.2.2 < (p : Int)) ∧ new.length ≤ 9 ∧ ρ.length = 6 ∧
      evS (callN T 19) (b_law_k18_3 I) [some a0, some (.loc 0 0), some (.d (.int p)), some (.d (.int q)), some (.d (.int t)), some (.d (setD p q t)), some (.d (progD rows)), some a7, some a8, some (.d (.lst (fin.polys.map opD))), some a10, some (.loc 0 1), some (.loc 0 2), some (.d (.int kk)), some (.d (.int (outJ (rowAt rows kk)))), some (.d (.int (gv (valsV p inputs rows) (outW (rowAt rows kk))))), none, none, none, none, none, none] (bx ds k [⟨false, .lst (Ls.map lieD)⟩, ⟨false, .lst du⟩] [[]] []) =
        .ok (.next (some a0 :: some (.loc 0 0) :: some (.d (.int p)) :: some (.d (.int q)) :: some (.d (.int t)) :: some (.d (setD p q t)) :: some (.d (progD rows)) :: some a7 :: some a8 :: some (.d (.lst (fin.polys.map opD))) :: some a10 :: some (.loc 0 1) :: some (.loc 0 2) :: some (.d (.int kk)) :: some (.d (.int (outJ (rowAt rows kk)))) :: some (.d (.int (gv (valsV p inputs rows) (outW (rowAt rows kk))))) :: ρ)) (bx ds k' (⟨false, .lst ((Ls ++ new).map lieD)⟩ :: ⟨false, .lst (du ++ [rdD p q t rows fin.polys new kk])⟩ :: r2) [[]] []) := by
  have plo := hs.pr.lo
  have phi := hs.hp
  have hq9 := hs.q9
  have hq1 := hs.q1
  have htq := hs.tq
  have hqp := hs.qp
  obtain ⟨h1, a, j, h2⟩ := outs_mem hk
  have ho := hR.out h1 h2
  have ix1 : ∀ S : St, ixV (.d (.tup (rows.map Row.enc))) (.d (.int kk)) S = .ok (.d (Row.out a j).enc) S := fun S => row_ix (by rw [rowAt_some h1, h2])
  have ix2 : ∀ S : St, ixV (.d (.lst (fin.polys.map opD))) (.d (.int a)) S = .ok (.d (ti (gp fin.polys a))) S := fun S => ix_lst (by rw [List.getElem?_map, ho.1]; rfl)
  have e1 := s_lshares (n := 17) (S := bx ds k [⟨false, .lst (Ls.map lieD)⟩, ⟨false, .lst du⟩] [[]] []) h._law_shares (p := (p : Int)) (t := (t : Int)) (q := q) (by omega) (by omega) (gp fin.polys a)
  have hvg := heads_gv hH a
  have hrd : rdD p q t rows fin.polys = fun lies k => rdD p q t rows fin.polys lies k := rfl
  have hrow0 : InR p (sharesV p q (gp fin.polys a)) := shares_in (by omega)
  have hlen0 : (sharesV (p : Int) q (gp fin.polys a)).length = q := shares_len
  -- how many lies
  have ed1 := x_draw (n := 18) (ds := ds) (k := k) (r := [⟨false, .lst (Ls.map lieD)⟩, ⟨false, .lst du⟩, ⟨false, .lst ((sharesV (p : Int) q (gp fin.polys a)).map D.int)⟩]) (o := [[]]) (g := []) h._law_draw.at_ (m := 3) (by omega)
  have d1 := drw_nn (ds := ds) (k := k) (m := 3) (by omega)
  have d2 := drw_lt (ds := ds) (k := k) (m := 3) (by omega)
  have ed2 := x_draw (n := 18) (ds := ds) (k := k + 1) (r := [⟨false, .lst (Ls.map lieD)⟩, ⟨false, .lst du⟩, ⟨false, .lst ((sharesV (p : Int) q (gp fin.polys a)).map D.int)⟩]) (o := [[]]) (g := []) h._law_draw.at_ (m := 3) (by omega)
  generalize drw ds k 3 = x at ed1 d1 d2
  generalize drw ds (k + 1) 3 = y at ed2
  have hbd : bop .fdiv (.int ((q : Int) - t - 1)) (.int 2) = some (.d (.int (eV q t : Nat))) := by
    rw [bop_div (by omega) (by omega)]
    have : ((q : Int) - t - 1) / 2 = ((eV q t : Nat) : Int) := by unfold eV; omega
    rw [this]
  obtain ⟨X, hX0, hX1, hmul⟩ : ∃ X : Int, 0 ≤ X ∧ X ≤ 2 ∧ bop .mul (.int x) (.int (if y = 0 then 1 else 0)) = some (.d (.int X)) := by
    refine ⟨x * (if y = 0 then 1 else 0), ?_, ?_, mul_l (by omega) (by omega)⟩
    · split <;> omega
    · split <;> omega
  obtain ⟨M, hM⟩ : ∃ M : Nat, ((eV q t : Nat) : Int) + X = (M : Int) := ⟨(((eV q t : Nat) : Int) + X).toNat, by omega⟩
  obtain ⟨W, hW, hW9⟩ : ∃ W : Nat, (if M < q then ((M : Nat) : Int) else (q : Int)) = (W : Int) ∧ W ≤ 9 := by
    by_cases hMq : M < q
    · exact ⟨M, by rw [if_pos hMq], by omega⟩
    · exact ⟨q, by rw [if_neg hMq], hq9⟩
  have hrg := rng1_nat (S := S5 ds (k + 2) Ls du (sharesV (p : Int) q (gp fin.polys a)) []) (q := W) (by omega)
  obtain ⟨k1, js, hj1, hj2, el1⟩ := l18_1 (ds := ds) (row := sharesV (p : Int) q (gp fin.polys a)) (Ls := Ls) (du := du) h (q := q) ⟨hq1, hq9⟩ (a0 := a0) (a2 := .d (.int p)) (a4 := .d (.int t)) (a5 := .d (setD p q t)) (a6 := .d (progD rows)) (a7 := a7) (a8 := a8) (a9 := .d (.lst (fin.polys.map opD))) (a10 := a10) (a13 := .d (.int kk)) (a14 := .d (.int (outJ (rowAt rows kk)))) (a15 := .d (.int (gv (valsV p inputs rows) (outW (rowAt rows kk))))) (a17 := .d (.int M)) rfl ((List.range W).map fun k => D.int (k : Nat)) (k + 2) [] (fun a ha => by cases ha) (by simp; omega)
  have hj3 : js.length ≤ 9 := by simp at hj2; omega
  have el1' : forL (⟨(List.range W).map fun k => D.int (k : Nat), none⟩ : Walk).chk (putT (.one 19)) (evS (callN T 19) (b_law_k18_1 I)) _ 5 _ _ (S5 ds (k + 2) Ls du (sharesV (p : Int) q (gp fin.polys a)) []) = _ := el1
  have eso := sorted_ints (S := S5 ds k1 Ls du (sharesV (p : Int) q (gp fin.polys a)) js) (u := 0) (j := 4) (z := false) (l := js) rfl
  have hsp := sortI_perm js
  obtain ⟨k2, new, hn1, hn2, el2⟩ := l18_2 (ds := ds) (kk := kk) (du := du) (js := js) h (p := p) (by omega) (q := q) ⟨hq1, hq9⟩ (a0 := a0) (a3 := .d (.int q)) (a4 := .d (.int t)) (a5 := .d (setD p q t)) (a6 := .d (progD rows)) (a7 := a7) (a8 := a8) (a9 := .d (.lst (fin.polys.map opD))) (a10 := a10) (a14 := .d (.int (outJ (rowAt rows kk)))) (a15 := .d (.int (gv (valsV p inputs rows) (outW (rowAt rows kk))))) (a17 := .d (.int M)) rfl (sortI js) k1 Ls (sharesV (p : Int) q (gp fin.polys a)) hlen0 (fun a ha => hj1 a (hsp.mem_iff.mp ha)) (by rw [hsp.length_eq]; omega)
  have el2' : forL (⟨(sortI js).map D.int, none⟩ : Walk).chk (putT (.one 20)) (evS (callN T 19) (b_law_k18_2 I)) _ 5 _ _ (S5 ds k1 Ls du (sharesV (p : Int) q (gp fin.polys a)) js) = _ := el2
  have htr : InR p (toldV kk new (sharesV (p : Int) q (gp fin.polys a))) := told_in (fun z hz => (hn1 z hz).2.2.2) hrow0
  have htl : (toldV kk new (sharesV (p : Int) q (gp fin.polys a))).length = q := by rw [told_len]; exact hlen0
  have er0 := s_lread (n := 15) (S := S5 ds k2 (Ls ++ new) du (toldV kk new (sharesV (p : Int) q (gp fin.polys a))) js) (u := 0) (i := 3) (z := false) h._law_read hs (row := toldV kk new (sharesV (p : Int) q (gp fin.polys a))) rfl htr htl
  have er : callN T 19 (I N._law_read) [.d (setD p q t), .loc 0 3] (S5 ds k2 (Ls ++ new) du (toldV kk new (sharesV (p : Int) q (gp fin.polys a))) js) = .ok (.d (od (lreadV p q (t + 1) (eV q t) (toldV kk new (sharesV (p : Int) q (gp fin.polys a)))))) (S5 ds k2 (Ls ++ new) du (toldV kk new (sharesV (p : Int) q (gp fin.polys a))) js) := er0
  clear er0
  have hlenj := len_loc (S := S5 ds k2 (Ls ++ new) du (toldV kk new (sharesV (p : Int) q (gp fin.polys a))) js) (u := 0) (l := 4) (z := false) (ds := js.map D.int) rfl
  rw [List.length_map] at hlenj
  have hfew : js.length ≤ eV q t → lreadV p q (t + 1) (eV q t) (toldV kk new (sharesV (p : Int) q (gp fin.polys a))) = some ((gp fin.polys a).getD 0 0) := fun hle => by
    refine read_few hs.pr (by omega) (by unfold eV; omega) htr ho.2.1 ho.2.2.1 ?_
    have := told_wrong (p := (p : Int)) (q := q) (k := kk) (a := new) (f := gp fin.polys a) (js := js.map fun b => (b - 1).toNat) (fun z hz => by
      obtain ⟨_, hm, _⟩ := hn1 z hz
      exact List.mem_map.mpr ⟨(z.2.1 : Int) + 1, hsp.mem_iff.mp hm, by omega⟩)
    rw [List.length_map] at this
    omega
  have hrdv : rdD p q t rows fin.polys new kk = .tup [.int kk, .int (outJ (rowAt rows kk)), od (lreadV p q (t + 1) (eV q t) (toldV kk new (sharesV (p : Int) q (gp fin.polys a))))] := by
    unfold rdD
    rw [h2]
    rfl
  have ec : ∀ S : St, evE (callN T 19) (.and (.cmp .le (.b1 .len (.var 18)) (.con (.int 0))) (.con (.bl true))) [] S = evE (callN T 19) (.and (.cmp .le (.b1 .len (.var 18)) (.con (.int 0))) (.con (.bl true))) [] S := fun _ => rfl
  clear ec
  have erc : recvOk .append (view (S5 ds k2 (Ls ++ new) du (toldV kk new (sharesV (p : Int) q (gp fin.polys a))) js) (.loc 0 2)) = true := recv_loc (ds := du) (z := false) (by simp) rfl
  have ea : meth1 .append (.loc 0 2) (.d (rdD p q t rows fin.polys new kk)) (S5 ds k2 (Ls ++ new) du (toldV kk new (sharesV (p : Int) q (gp fin.polys a))) js) = .ok (.d .non) (S5 ds k2 (Ls ++ new) (du ++ [rdD p q t rows fin.polys new kk]) (toldV kk new (sharesV (p : Int) q (gp fin.polys a))) js) := by
    rw [app_d (u := 0) (i := 2) (ds := du) rfl (by omega)]
    rfl
  have hS0 : (⟨(bx ds k [⟨false, .lst (Ls.map lieD)⟩, ⟨false, .lst du⟩] [[]] []).own ++ [⟨false, .lst ((sharesV (p : Int) q (gp fin.polys a)).map D.int)⟩], (bx ds k [⟨false, .lst (Ls.map lieD)⟩, ⟨false, .lst du⟩] [[]] []).out, (bx ds k [⟨false, .lst (Ls.map lieD)⟩, ⟨false, .lst du⟩] [[]] []).gl⟩ : St) = bx ds k [⟨false, .lst (Ls.map lieD)⟩, ⟨false, .lst du⟩, ⟨false, .lst ((sharesV (p : Int) q (gp fin.polys a)).map D.int)⟩] [[]] [] := rfl
  have hS1 : (⟨(bx ds (k + 1 + 1) [⟨false, .lst (Ls.map lieD)⟩, ⟨false, .lst du⟩, ⟨false, .lst ((sharesV (p : Int) q (gp fin.polys a)).map D.int)⟩] [[]] []).own ++ [⟨false, .lst []⟩], (bx ds (k + 1 + 1) [⟨false, .lst (Ls.map lieD)⟩, ⟨false, .lst du⟩, ⟨false, .lst ((sharesV (p : Int) q (gp fin.polys a)).map D.int)⟩] [[]] []).out, (bx ds (k + 1 + 1) [⟨false, .lst (Ls.map lieD)⟩, ⟨false, .lst du⟩, ⟨false, .lst ((sharesV (p : Int) q (gp fin.polys a)).map D.int)⟩] [[]] []).gl⟩ : St) = S5 ds (k + 2) Ls du (sharesV (p : Int) q (gp fin.polys a)) [] := rfl
  have ol0 : (bx ds k [⟨false, .lst (Ls.map lieD)⟩, ⟨false, .lst du⟩] [[]] []).own.length = 3 := rfl
  have ol1 : (bx ds (k + 1 + 1) [⟨false, .lst (Ls.map lieD)⟩, ⟨false, .lst du⟩, ⟨false, .lst ((sharesV (p : Int) q (gp fin.polys a)).map D.int)⟩] [[]] []).own.length = 4 := rfl
  have ol2 : ∀ k du Ls row js, (S5 ds k Ls du row js).own.length = 5 := fun _ _ _ _ _ => rfl
  refine ⟨k2, new, [some (.loc 0 3), some (.d (.int M)), some (.loc 0 4), none, none, some (.d (od (lreadV p q (t + 1) (eV q t) (toldV kk new (sharesV (p : Int) q (gp fin.polys a))))))], [⟨false, .lst ((toldV kk new (sharesV (p : Int) q (gp fin.polys a))).map D.int)⟩, ⟨false, .lst (js.map D.int)⟩], fun z hz => ⟨(hn1 z hz).1, (hn1 z hz).2.2⟩, by rw [hn2, hsp.length_eq]; exact hj3, rfl, ?_⟩
  show _ = Res.ok _ (S5 ds k2 (Ls ++ new) (du ++ [rdD p q t rows fin.polys new kk]) (toldV kk new (sharesV (p : Int) q (gp fin.polys a))) js)
  have hgv2 : gv (valsV p inputs rows) (outW (rowAt rows kk)) = (gp fin.polys a).getD 0 0 := by rw [h2, hvg]; rfl
  rw [hrdv] at ea ⊢
  rw [hgv2] at el1' el2' ⊢
  generalize (gp fin.polys a).getD 0 0 = val at *
  generalize hlr : lreadV p q (t + 1) (eV q t) (toldV kk new (sharesV (p : Int) q (gp fin.polys a))) = o at *
  have z3 : sz 3 = true := rfl
  have z0 : sz 0 = true := rfl
  generalize hSf : S5 ds k2 (Ls ++ new) (du ++ [.tup [.int kk, .int (outJ (rowAt rows kk)), od o]]) (toldV kk new (sharesV (p : Int) q (gp fin.polys a))) js = Sf at *
  have hol2 := ol2 k2 du (Ls ++ new) (toldV kk new (sharesV (p : Int) q (gp fin.polys a))) js
  generalize S5 ds k2 (Ls ++ new) du (toldV kk new (sharesV (p : Int) q (gp fin.polys a))) js = Se at *
  generalize toldV kk new (sharesV (p : Int) q (gp fin.polys a)) = tr at *
  have hol1 := ol2 k1 du Ls (sharesV (p : Int) q (gp fin.polys a)) js
  have hol0 := ol2 (k + 2) du Ls (sharesV (p : Int) q (gp fin.polys a)) []
  generalize S5 ds k1 Ls du (sharesV (p : Int) q (gp fin.polys a)) js = Sd at *
  generalize S5 ds (k + 2) Ls du (sharesV (p : Int) q (gp fin.polys a)) [] = Sc at *
  generalize sharesV (p : Int) q (gp fin.polys a) = sh at *
  generalize outJ (rowAt rows kk) = oj at *
  unfold b_law_k18_3
  rw [S_seq, S_set]
  simp [-b1_list_tup, varV, pr_ix1, ix1, ix2, e1]
  simp [varV, hS0, ol0, ed1, ed2, hbd, hmul, hM, z0, hS1, ol1, hW, hrg, hol0, el1', eso, hol1, el2', er, hlenj]
  by_cases hle : js.length ≤ eV q t
  · have ho := hfew hle
    subst ho
    have ea := ea
    simp only [od_some] at ea erc ⊢
    simp [varV, hlenj, hbd, hle, z3, erc, ea]
  · simp [varV, hlenj, hbd, hle, z3, erc, ea]
end
end U

set_option maxHeartbeats 4000000
namespace U
open PySem
variable {T : Nat → Option FD} {I : Nat → Nat} {n : Nat} {S : St}
section
variable {p q t : Nat} {coins inputs row : List Int} {rows : List Row} {ds : List Int} {k : Nat}
theorem k18_loop (h : H_law_k18 T I) (hs : SetOk p q t) {fin : RS} (hR : RI p q t coins rows [] fin) (hH : fin.polys.map (Option.map fun f => f.getD 0 0) = valsV p inputs rows) {ρ : Env} {d0 d7 d8 d10 : D} (hρ : ρ = [some (.d d0), some (.loc 0 0), some (.d (.int p)), some (.d (.int q)), some (.d (.int t)), some (.d (setD p q t)), some (.d (progD rows)), some (.d d7), some (.d d8), some (.d (.lst (fin.polys.map opD))), some (.d d10), some (.loc 0 1), some (.loc 0 2), none, none, none, none, none, none, none, none, none]) : ∀ (O : List Nat) (k : Nat) (Ls : List (Nat × Nat × Int)) (du : List D), (∀ kk ∈ O, kk ∈ outsV rows) → O.Nodup → Ls.length + 9 * O.length ≤ 9000 → du.length + O.length ≤ 9000 →
    ∃ k' new, (∀ z ∈ new, z.1 ∈ O ∧ z.2.1 < q ∧ 0 ≤ z.2.2 ∧ z.2.2 < (p : Int)) ∧
      forL (fun _ => true) (putT (.many [13, 14, 15])) (evS (callN T 19) (b_law_k18_3 I)) ρ 3 (O.map (showD rows (valsV p inputs rows))) ρ (bx ds k [⟨false, .lst (Ls.map lieD)⟩, ⟨false, .lst du⟩] [[]] []) =
        .ok (.next ρ) (bx ds k' [⟨false, .lst ((Ls ++ new).map lieD)⟩, ⟨false, .lst (du ++ O.map (rdD p q t rows fin.polys new))⟩] [[]] [])
  | [], k, Ls, du, _, _, _, _ => ⟨k, [], fun z hz => (by cases hz), by rw [List.append_nil, List.map_nil, List.map_nil, List.append_nil]; exact forL_end rfl⟩
  | kk :: O, k, Ls, du, hO, hnd, hL, hd => by
    rw [List.length_cons] at hL hd
    obtain ⟨hnk, hnd2⟩ := List.nodup_cons.mp hnd
    obtain ⟨k1, B, ρ', r2, hB1, hB2, hρl, eb⟩ := k18_body (ds := ds) (k := k) h hs hR hH (hO kk List.mem_cons_self) (Ls := Ls) (du := du) (by omega) (by omega) (a0 := .d d0) (a7 := .d d7) (a8 := .d d8) (a10 := .d d10)
    obtain ⟨k2, C, hC, ec⟩ := k18_loop h hs hR hH hρ O k1 (Ls ++ B) (du ++ [rdD p q t rows fin.polys B kk]) (fun x hx => hO x (List.mem_cons_of_mem _ hx)) hnd2 (by rw [List.length_append]; omega) (by rw [List.length_append]; simp; omega)
    refine ⟨k2, B ++ C, fun z hz => ?_, ?_⟩
    · rcases List.mem_append.mp hz with hz | hz
      · obtain ⟨b1, b2⟩ := hB1 z hz
        exact ⟨by rw [b1]; exact List.mem_cons_self, b2⟩
      · obtain ⟨b1, b2⟩ := hC z hz
        exact ⟨List.mem_cons_of_mem _ b1, b2⟩
    · have hr1 : rdD p q t rows fin.polys (B ++ C) kk = rdD p q t rows fin.polys B kk := by
        unfold rdD
        rw [told_app, told_none (a := C) fun z hz e => hnk (by rw [← e]; exact (hC z hz).1)]
      have hr2 : O.map (rdD p q t rows fin.polys (B ++ C)) = O.map (rdD p q t rows fin.polys C) := by
        refine List.map_congr_left fun x hx => ?_
        unfold rdD
        rw [told_app, told_none (a := B) fun z hz e => hnk (by rw [← (hB1 z hz).1, e]; exact hx)]
      rw [List.map_cons, List.map_cons, hr1, hr2]
      rw [forL_next (S := bx ds k [⟨false, .lst (Ls.map lieD)⟩, ⟨false, .lst du⟩] [[]] []) rfl (by subst hρ; rfl) eb]
      have hmask : mask ρ (some (.d d0) :: some (.loc 0 0) :: some (.d (.int p)) :: some (.d (.int q)) :: some (.d (.int t)) :: some (.d (setD p q t)) :: some (.d (progD rows)) :: some (.d d7) :: some (.d d8) :: some (.d (.lst (fin.polys.map opD))) :: some (.d d10) :: some (.loc 0 1) :: some (.loc 0 2) :: some (.d (.int kk)) :: some (.d (.int (outJ (rowAt rows kk)))) :: some (.d (.int (gv (valsV p inputs rows) (outW (rowAt rows kk))))) :: ρ') = ρ := by
        subst hρ
        match ρ', hρl with
        | [_, _, _, _, _, _], _ => rfl
      rw [hmask]
      have htrim : trim 3 ρ (bx ds k1 (⟨false, .lst ((Ls ++ B).map lieD)⟩ :: ⟨false, .lst (du ++ [rdD p q t rows fin.polys B kk])⟩ :: r2) [[]] []) = bx ds k1 [⟨false, .lst ((Ls ++ B).map lieD)⟩, ⟨false, .lst (du ++ [rdD p q t rows fin.polys B kk])⟩] [[]] [] := by
        subst hρ
        rfl
      rw [htrim, ec, List.append_assoc, List.append_assoc]
      rfl
end
theorem law18 (h : H_law_k18 T I) (ns : List Int) (hl : ns.length ≤ 63) : ∃ S', callN T 20 (I N.law_k18) [.d (.rol (ns.map D.int))] ⟨[], [], []⟩ = .ok (.d (.bl true)) S' := by
  obtain ⟨ds, hd, hdl, e⟩ := s_digits (n := 17) (S := ⟨[], [[]], []⟩) h._law_digits.at_ h._law_digits._law_cell.at_ ns 0 63 (by omega) (by omega) (by omega)
  obtain ⟨x, hx, e1⟩ := x_pick (n := 17) (ds := ds) (k := 0) (r := []) (o := [[]]) (g := []) h._law_pick.at_ h._law_draw.at_ [D.int 5, .int 7, .int 11, .int 101, .int 10007] (by simp)
  obtain ⟨p, rfl, hp, hp2⟩ := primesA (x := x) (by simp at hx ⊢; rcases hx with rfl | rfl | rfl | rfl | rfl <;> simp)
  obtain ⟨p, rfl⟩ := Int.eq_ofNat_of_zero_le (show 0 ≤ p by have := hp.lo; omega)
  have plo := hp.lo
  generalize hw : (if (p : Int) - 1 < 6 then (p : Int) - 1 else 6) = w
  have w0 : 0 < w ∧ w ≤ 6 ∧ w ≤ p - 1 := by split at hw <;> omega
  have e2 := x_draw (n := 18) (ds := ds) (k := 0 + 1) (r := []) (o := [[]]) (g := []) h._law_draw.at_ (m := w) w0.1
  have q0 := drw_nn (ds := ds) (k := 0 + 1) (m := w) w0.1
  have q1 := drw_lt (ds := ds) (k := 0 + 1) (m := w) w0.1
  generalize drw ds (0 + 1) w = d at e2 q0 q1
  obtain ⟨q, hq⟩ : ∃ q : Nat, 1 + d = (q : Int) := ⟨(1 + d).toNat, by omega⟩
  have e3 := x_draw (n := 18) (ds := ds) (k := 0 + 1 + 1) (r := []) (o := [[]]) (g := []) h._law_draw.at_ (m := ((q : Int) + 1) / 2) (by omega)
  have t0 := drw_nn (ds := ds) (k := 0 + 1 + 1) (m := ((q : Int) + 1) / 2) (by omega)
  have t1 := drw_lt (ds := ds) (k := 0 + 1 + 1) (m := ((q : Int) + 1) / 2) (by omega)
  generalize drw ds (0 + 1 + 1) (((q : Int) + 1) / 2) = t at e3 t0 t1
  obtain ⟨t, rfl⟩ := Int.eq_ofNat_of_zero_le t0
  have hs : SetOk p q t := ⟨hp, by omega, by omega, by omega, by omega, by omega⟩
  have eb5 : bop .fdiv (.int ((q : Int) + 1)) (.int 2) = some (.d (.int (((q : Int) + 1) / 2))) := bop_div (by omega) (by omega)
  have htq := hs.tq
  have hq9 := hs.q9
  have hq1 := hs.q1
  obtain ⟨k1, rows, hP, hr1, hr2, hep, e4⟩ := s_program (n := 15) h._law_program (S := bx ds (0 + 1 + 1 + 1) [] [[]] []) (u := 0) (j := 0) rfl hs (most := 12) (turns := 1) (by omega) (by omega)
  rw [bx_set] at e4
  change callN T 19 _ [.loc 0 0, _, .d (.int 12), .d (.int 1)] _ = _ at e4
  obtain ⟨k2, inputs, hi, hn, e5⟩ := s_inputs (n := 15) h._law_inputs (S := bx ds k1 [] [[]] []) (u := 0) (j := 0) rfl hs (rows := rows) (by omega)
  rw [bx_set] at e5
  obtain ⟨coins, hc, hcl, e6⟩ := s_lcoins (n := 17) (S := bx ds k2 [] [[]] []) h._law_coins (u := 0) (j := 0) (ds := ds) (k := k2) rfl hs (rows := rows) (by omega)
  rw [bx_set] at e6
  have hcl' : needs q t rows ≤ coins.length := by omega
  have e7 := s_lrun (n := 14) (S := bx ds (k2 + 2) [] [[]] []) h._law_run hs hP (by omega) hi hn hc hcl'
  have e8 := s_lshown (n := 17) (S := bx ds (k2 + 2) [] [[]] []) h._law_shown hs hP (by omega) hi hn
  have hR := run_all hs hP hi hn hc hcl'
  have hH := run_heads hs hP hi hn hc hcl'
  have ol : (outsV rows).length ≤ rows.length := Nat.le_trans (List.length_filter_le _ _) (by rw [List.length_range]; exact Nat.le_refl _)
  have hro := fun (lies : List (Nat × Nat × Int)) (hj : ∀ z ∈ lies, z.2.1 < q ∧ 0 ≤ z.2.2 ∧ z.2.2 < (p : Int)) (S : St) => s_readout (n := 10 - t) (S := S) h.read_out hs hP (by omega) hi hn hc hcl' hj
  rw [show 10 - t + t + 9 = 19 by omega] at hro
  generalize runV p q t coins inputs rows = fin at *
  obtain ⟨k3, new, hn1, el⟩ := k18_loop (ds := ds) h hs hR hH (d0 := .rol (ns.map D.int)) (d7 := ti inputs) (d8 := ti coins) (d10 := .tup (shownV rows (valsV p inputs rows))) rfl (outsV rows) (k2 + 2) [] [] (fun x hx => hx) (List.Pairwise.filter _ List.nodup_range) (by simp; omega) (by simp; omega)
  have el' : forL (⟨shownV rows (valsV p inputs rows), none⟩ : Walk).chk (putT (.many [13, 14, 15])) (evS (callN T 19) (b_law_k18_3 I)) _ 3 (shownV rows (valsV p inputs rows)) _ (bx ds (k2 + 2) [⟨false, .lst []⟩, ⟨false, .lst []⟩] [[]] []) = _ := el
  rw [List.nil_append, List.nil_append] at el'
  have hro := hro new (fun z hz => (hn1 z hz).2)
  have et1 := tuple_loc (S := bx ds k3 [⟨false, .lst (new.map lieD)⟩, ⟨false, .lst ((outsV rows).map (rdD p q t rows fin.polys new))⟩] [[]] []) (u := 0) (l := 1) (z := false) (ds := new.map lieD) rfl
  have et2 := tuple_loc (S := bx ds k3 [⟨false, .lst (new.map lieD)⟩, ⟨false, .lst ((outsV rows).map (rdD p q t rows fin.polys new))⟩] [[]] []) (u := 0) (l := 2) (z := false) (ds := (outsV rows).map (rdD p q t rows fin.polys new)) rfl
  have hsh : Sh 20 (1000 * ((3 * (23 + 2) + 4) + 2) + 4) (.tup ((outsV rows).map (rdD p q t rows fin.polys new))) := by
    refine Sh.tup (B := 3 * (23 + 2) + 4) (Sh.map fun k hk => ?_) (by rw [List.length_map]; omega)
    obtain ⟨h1, a, j, h2⟩ := outs_mem hk
    have hj := (hP.row (k := k) (r := .out a j) (by rw [rowAt_some h1, h2])).2
    have hrange : ∀ row, od (lreadV p q (t + 1) (eV q t) row) = .non ∨ ∃ v : Int, od (lreadV p q (t + 1) (eV q t) row) = .int v ∧ 0 ≤ v ∧ v < p := fun row => by
      unfold lreadV
      cases (lsV (t + 1) (ptI q)).find? fun s => decide (q - eV q t ≤ (rightV p q row (polyAt p row s)).length) with
      | none => exact .inl rfl
      | some s => exact .inr ⟨_, rfl, mod_nn (by omega), mod_lt (by omega)⟩
    unfold rdD
    have hrg := hrange (toldV k new (sharesV p q (gp fin.polys (outW (rowAt rows k)))))
    generalize od (lreadV p q (t + 1) (eV q t) (toldV k new (sharesV p q (gp fin.polys (outW (rowAt rows k)))))) = o at *
    rw [h2]
    refine Sh.tup (B := 23) (fun d hd => ?_) (by simp)
    simp only [List.mem_cons, List.not_mem_nil, or_false] at hd
    rcases hd with rfl | rfl | rfl
    · exact Sh.int (by omega)
    · show Sh _ _ (.int ((j : Nat) : Int))
      exact Sh.int (by omega)
    · rcases hrg with rfl | ⟨v, rfl, h3, h4⟩
      · exact Sh.non.mono (by omega)
      · exact Sh.int (by omega)
  have e9 := s_sameS (n := 18) (S := bx ds k3 [⟨false, .lst (new.map lieD)⟩, ⟨false, .lst ((outsV rows).map (rdD p q t rows fin.polys new))⟩] [[]] []) h._law_same.at_ hsh (by omega)
  have hb : (⟨[⟨false, .lst [.lst (ds.map D.int), .int 0]⟩], [[]], []⟩ : St) = bx ds 0 [] [[]] [] := rfl
  have hb2 : (⟨(bx ds (k2 + 2) [] [[]] []).own ++ [⟨false, .lst []⟩], (bx ds (k2 + 2) [] [[]] []).out, (bx ds (k2 + 2) [] [[]] []).gl⟩ : St) = bx ds (k2 + 2) [⟨false, .lst []⟩] [[]] [] := rfl
  have hb3 : (⟨(bx ds (k2 + 2) [⟨false, .lst []⟩] [[]] []).own ++ [⟨false, .lst []⟩], (bx ds (k2 + 2) [⟨false, .lst []⟩] [[]] []).out, (bx ds (k2 + 2) [⟨false, .lst []⟩] [[]] []).gl⟩ : St) = bx ds (k2 + 2) [⟨false, .lst []⟩, ⟨false, .lst []⟩] [[]] [] := rfl
  have ol1 : (bx ds (k2 + 2) [] [[]] []).own.length = 1 := rfl
  have ol2 : (bx ds (k2 + 2) [⟨false, .lst []⟩] [[]] []).own.length = 2 := rfl
  have ol3 : (bx ds (k2 + 2) [⟨false, .lst []⟩, ⟨false, .lst []⟩] [[]] []).own.length = 3 := rfl
  have z0 : sz 0 = true := rfl
  have z2 : sz 2 = true := rfl
  have z4 : sz 4 = true := rfl
  have z5 : sz 5 = true := rfl
  generalize (outsV rows).map (rdD p q t rows fin.polys new) = due at *
  generalize new.map lieD = lies at *
  generalize shownV rows (valsV p inputs rows) = sv at *
  refine ⟨⟨[], [], []⟩, ?_⟩
  show callN T (19 + 1) _ _ _ = _
  rw [call_eq h.at_ rfl]
  have hset : D.tup [D.str (Str.ofString "setting"), .int p, .int q, .int t] = setD p q t := rfl
  simp [p_law_k18, varV, St.call, e, z2, hb, z5, e1, hw, e2, hq, eb5, e3, z4]
  simp only [hset]
  simp [varV, e4, e5, e6, e7, ixm0, e8, z0, hb2, hb3, ol1, ol2, ol3, el', et1, et2, hro, e9]
  rfl
end U

/-! k18_lies_are_read_through: the defs as trees (printed by mklaw.py). -/
namespace U.L_k18
open PySem PySem.Spec PyProof.Rows L2 U
abbrev P : Program := PySem.Challenge.pw_untold_k18_lies_are_read_through
def top (i : Nat) : Stmt := P.main.body.getD i (.Pass ⟨0, 0, 0, 0⟩)
def dd (x : Str) (i : Nat) : He.DefD := ⟨(x, none), x, x, defArgs (top i), defBody (top i), defScope (top i), [], []⟩
namespace F
abbrev power : Nat := 0
abbrev inverse : Nat := 1
abbrev value_at : Nat := 2
abbrev added : Nat := 3
abbrev scaled : Nat := 4
abbrev with_root : Nat := 5
abbrev roots_at : Nat := 6
abbrev bases : Nat := 7
abbrev through : Nat := 8
abbrev weights : Nat := 9
abbrev parties : Nat := 10
abbrev shares_of : Nat := 11
abbrev shares : Nat := 12
abbrev sets_of : Nat := 13
abbrev wrong : Nat := 14
abbrev readings : Nat := 15
abbrev most_wrong : Nat := 16
abbrev read : Nat := 17
abbrev places : Nat := 18
abbrev taken : Nat := 19
abbrev output_rows : Nat := 20
abbrev dealt : Nat := 21
abbrev joined : Nat := 22
abbrev plain_shares : Nat := 23
abbrev run : Nat := 24
abbrev sent : Nat := 25
abbrev told_row : Nat := 26
abbrev read_out : Nat := 27
abbrev _law_cell : Nat := 28
abbrev _law_digits : Nat := 29
abbrev _law_draw : Nat := 30
abbrev _law_pick : Nat := 31
abbrev _law_same : Nat := 32
abbrev _law_number : Nat := 33
abbrev _law_numbers : Nat := 34
abbrev _law_at : Nat := 35
abbrev _law_raised : Nat := 36
abbrev _law_inverse : Nat := 37
abbrev _law_weights : Nat := 38
abbrev _law_program : Nat := 39
abbrev _law_inputs : Nat := 40
abbrev _law_values : Nat := 41
abbrev _law_shown : Nat := 42
abbrev _law_coins_of : Nat := 43
abbrev _law_coins : Nat := 44
abbrev _law_poly_sum : Nat := 45
abbrev _law_run : Nat := 46
abbrev _law_shares : Nat := 47
abbrev _law_sets : Nat := 48
abbrev _law_read : Nat := 49
abbrev law : Nat := 50
end F
def fns : List (Str × Nat) := ([("power", 0), ("inverse", 1), ("value_at", 2), ("added", 3), ("scaled", 4), ("with_root", 5), ("roots_at", 6), ("bases", 7), ("through", 8), ("weights", 9), ("parties", 10), ("shares_of", 11), ("shares", 12), ("sets_of", 13), ("wrong", 14), ("readings", 15), ("most_wrong", 16), ("read", 17), ("places", 18), ("taken", 19)] : List (Str × Nat)) ++ ([("output_rows", 20), ("dealt", 21), ("joined", 22), ("plain_shares", 23), ("run", 24), ("sent", 25), ("told_row", 26), ("read_out", 27), ("_law_cell", 28), ("_law_digits", 29), ("_law_draw", 30), ("_law_pick", 31), ("_law_same", 32), ("_law_number", 33), ("_law_numbers", 34), ("_law_at", 35), ("_law_raised", 36), ("_law_inverse", 37), ("_law_weights", 38), ("_law_program", 39)] : List (Str × Nat)) ++ ([("_law_inputs", 40), ("_law_values", 41), ("_law_shown", 42), ("_law_coins_of", 43), ("_law_coins", 44), ("_law_poly_sum", 45), ("_law_run", 46), ("_law_shares", 47), ("_law_sets", 48), ("_law_read", 49), ("law", 50)] : List (Str × Nat))
def kon : List (Str × D) := ([] : List (Str × D))
def blt : List Str := ["int", "len", "list", "min", "range", "repr", "reversed", "sorted", "sum", "tuple"]
def c_power_1 : DE := (.cmp .gt (.var 2) (.con (.int 0)))
def b_power_2 : DS := (.seq (.ife (.cmp .eq (.bin .mod (.b1 .int (.var 2)) (.con (.int 2))) (.con (.int 1)))
    (.set 3 false (.bin .mod (.b1 .int (.bin .mul (.var 3) (.var 4))) (.var 0)))
    .skip)
    (.seq (.set 4 false (.bin .mod (.b1 .int (.bin .mul (.var 4) (.var 4))) (.var 0)))
    (.set 2 false (.bin .fdiv (.var 2) (.con (.int 2))))))
def d_power : FD := { np := 3, ns := 5, body := (.seq (.set 3 false (.bin .mod (.b1 .int (.con (.int 1))) (.var 0)))
    (.seq (.set 4 false (.bin .mod (.b1 .int (.var 1)) (.var 0)))
    (.seq (.whl c_power_1
    b_power_2)
    (.ret (.var 3))))) }
def u_power : UDef := ⟨dd "power" 1, ["p", "a", "k"], ["p", "a", "k", "found", "square"], [], d_power⟩
theorem ok_power : UOk fns kon blt u_power := { at_ := rfl, sc := C8.fnScope_by (by decide +kernel), body := by kernel_rfl, binds := fun _ _ _ _ _ _ us hl => match us, hl with | [_, _, _], _ => rfl }
def d_inverse : FD := { np := 2, ns := 2, body := (.ret (.ife (.cmp .gt (.var 0) (.con (.int 2))) (.call F.power (.cons (.var 0) (.cons (.var 1) (.cons (.bin .sub (.var 0) (.con (.int 2))) .nil)))) (.var 1))) }
def u_inverse : UDef := ⟨dd "inverse" 2, ["p", "a"], ["p", "a"], [], d_inverse⟩
theorem ok_inverse : UOk fns kon blt u_inverse := { at_ := rfl, sc := C8.fnScope_by (by decide +kernel), body := by kernel_rfl, binds := fun _ _ _ _ _ _ us hl => match us, hl with | [_, _], _ => rfl }
def b_value_at_1 : DS := (.set 3 false (.bin .mod (.b1 .int (.bin .add (.bin .mul (.var 3) (.var 2)) (.var 4))) (.var 0)))
def d_value_at : FD := { np := 3, ns := 5, body := (.seq (.set 3 false (.con (.int 0)))
    (.seq (.for_ (.one 4) (.wk .rev (.var 1) .nil)
    b_value_at_1)
    (.ret (.var 3)))) }
def u_value_at : UDef := ⟨dd "value_at" 4, ["p", "poly", "x"], ["p", "poly", "x", "found", "number"], [], d_value_at⟩
theorem ok_value_at : UOk fns kon blt u_value_at := { at_ := rfl, sc := C8.fnScope_by (by decide +kernel), body := by kernel_rfl, binds := fun _ _ _ _ _ _ us hl => match us, hl with | [_, _, _], _ => rfl }
def c_added_1 : DE := (.bin .mod (.b1 .int (.bin .add (.ix (.var 1) (.var 3)) (.ix (.var 2) (.var 3)))) (.var 0))
def d_added : FD := { np := 3, ns := 4, body := (.ret (.b1 .tuple (.lc c_added_1 (.one 3) (.wk .rng1 (.b1 .len (.var 1)) .nil) (.con (.bl true)) [3]))) }
def u_added : UDef := ⟨dd "added" 5, ["p", "one", "other"], ["p", "one", "other", "k"], [], d_added⟩
theorem ok_added : UOk fns kon blt u_added := { at_ := rfl, sc := C8.fnScope_by (by decide +kernel), body := by kernel_rfl, binds := fun _ _ _ _ _ _ us hl => match us, hl with | [_, _, _], _ => rfl }
def c_scaled_1 : DE := (.bin .mod (.b1 .int (.bin .mul (.var 1) (.var 3))) (.var 0))
def d_scaled : FD := { np := 3, ns := 4, body := (.ret (.b1 .tuple (.lc c_scaled_1 (.one 3) (.wk .seq (.var 2) .nil) (.con (.bl true)) [3]))) }
def u_scaled : UDef := ⟨dd "scaled" 6, ["p", "c", "poly"], ["p", "c", "poly", "number"], [], d_scaled⟩
theorem ok_scaled : UOk fns kon blt u_scaled := { at_ := rfl, sc := C8.fnScope_by (by decide +kernel), body := by kernel_rfl, binds := fun _ _ _ _ _ _ us hl => match us, hl with | [_, _, _], _ => rfl }
def d_with_root : FD := { np := 3, ns := 5, body := (.seq (.set 3 false (.bin .add (.tup (.cons (.con (.int 0)) .nil)) (.var 1)))
    (.seq (.set 4 false (.bin .add (.call F.scaled (.cons (.var 0) (.cons (.bin .sub (.con (.int 0)) (.var 2)) (.cons (.var 1) .nil)))) (.tup (.cons (.con (.int 0)) .nil))))
    (.ret (.call F.added (.cons (.var 0) (.cons (.var 3) (.cons (.var 4) .nil))))))) }
def u_with_root : UDef := ⟨dd "with_root" 7, ["p", "poly", "point"], ["p", "poly", "point", "up", "down"], [], d_with_root⟩
theorem ok_with_root : UOk fns kon blt u_with_root := { at_ := rfl, sc := C8.fnScope_by (by decide +kernel), body := by kernel_rfl, binds := fun _ _ _ _ _ _ us hl => match us, hl with | [_, _, _], _ => rfl }
def b_roots_at_1 : DS := (.set 2 false (.call F.with_root (.cons (.var 0) (.cons (.var 2) (.cons (.var 3) .nil)))))
def d_roots_at : FD := { np := 2, ns := 4, body := (.seq (.set 2 false (.tup (.cons (.bin .mod (.b1 .int (.con (.int 1))) (.var 0)) .nil)))
    (.seq (.for_ (.one 3) (.wk .seq (.var 1) .nil)
    b_roots_at_1)
    (.ret (.var 2)))) }
def u_roots_at : UDef := ⟨dd "roots_at" 8, ["p", "points"], ["p", "points", "poly", "point"], [], d_roots_at⟩
theorem ok_roots_at : UOk fns kon blt u_roots_at := { at_ := rfl, sc := C8.fnScope_by (by decide +kernel), body := by kernel_rfl, binds := fun _ _ _ _ _ _ us hl => match us, hl with | [_, _], _ => rfl }
def b_bases_1 : DS := (.seq (.set 4 false (.call F.roots_at (.cons (.var 0) (.cons (.bin .add (.sl (.var 1) .nil (.cons (.var 3) .nil)) (.sl (.var 1) (.cons (.bin .add (.var 3) (.con (.int 1))) .nil) .nil)) .nil))))
    (.expr (.m1 .append (.var 2) (.call F.scaled (.cons (.var 0) (.cons (.call F.inverse (.cons (.var 0) (.cons (.call F.value_at (.cons (.var 0) (.cons (.var 4) (.cons (.ix (.var 1) (.var 3)) .nil)))) .nil))) (.cons (.var 4) .nil)))))))
def d_bases : FD := { np := 2, ns := 5, body := (.seq (.set 2 true (.lst .nil))
    (.seq (.for_ (.one 3) (.wk .rng1 (.b1 .len (.var 1)) .nil)
    b_bases_1)
    (.ret (.var 2)))) }
def u_bases : UDef := ⟨dd "bases" 9, ["p", "points"], ["p", "points", "found", "place", "poly"], ["found"], d_bases⟩
theorem ok_bases : UOk fns kon blt u_bases := { at_ := rfl, sc := C8.fnScope_by (by decide +kernel), body := by kernel_rfl, binds := fun _ _ _ _ _ _ us hl => match us, hl with | [_, _], _ => rfl }
def b_through_1 : DS := (.set 3 false (.call F.added (.cons (.var 0) (.cons (.var 3) (.cons (.call F.scaled (.cons (.var 0) (.cons (.ix (.var 2) (.var 5)) (.cons (.ix (.var 4) (.var 5)) .nil)))) .nil)))))
def d_through : FD := { np := 3, ns := 6, body := (.seq (.set 3 false (.bin .mul (.tup (.cons (.con (.int 0)) .nil)) (.b1 .len (.var 1))))
    (.seq (.set 4 false (.call F.bases (.cons (.var 0) (.cons (.var 1) .nil))))
    (.seq (.for_ (.one 5) (.wk .rng1 (.b1 .len (.var 1)) .nil)
    b_through_1)
    (.ret (.var 3))))) }
def u_through : UDef := ⟨dd "through" 10, ["p", "points", "values"], ["p", "points", "values", "poly", "rows", "place"], [], d_through⟩
theorem ok_through : UOk fns kon blt u_through := { at_ := rfl, sc := C8.fnScope_by (by decide +kernel), body := by kernel_rfl, binds := fun _ _ _ _ _ _ us hl => match us, hl with | [_, _, _], _ => rfl }
def c_weights_1 : DE := (.call F.value_at (.cons (.var 0) (.cons (.var 3) (.cons (.var 2) .nil))))
def d_weights : FD := { np := 3, ns := 4, body := (.ret (.b1 .tuple (.lc c_weights_1 (.one 3) (.wk .seq (.call F.bases (.cons (.var 0) (.cons (.var 1) .nil))) .nil) (.con (.bl true)) [3]))) }
def u_weights : UDef := ⟨dd "weights" 11, ["p", "points", "x"], ["p", "points", "x", "poly"], [], d_weights⟩
theorem ok_weights : UOk fns kon blt u_weights := { at_ := rfl, sc := C8.fnScope_by (by decide +kernel), body := by kernel_rfl, binds := fun _ _ _ _ _ _ us hl => match us, hl with | [_, _, _], _ => rfl }
def d_parties : FD := { np := 1, ns := 1, body := (.ret (.trng false (.con (.int 1)) (.bin .add (.ix (.var 0) (.con (.int 2))) (.con (.int 1))))) }
def u_parties : UDef := ⟨dd "parties" 13, ["setting"], ["setting"], [], d_parties⟩
theorem ok_parties : UOk fns kon blt u_parties := { at_ := rfl, sc := C8.fnScope_by (by decide +kernel), body := by kernel_rfl, binds := fun _ _ _ _ _ _ us hl => match us, hl with | [_], _ => rfl }
def c_shares_of_1 : DE := (.call F.value_at (.cons (.ix (.var 0) (.con (.int 1))) (.cons (.var 1) (.cons (.var 2) .nil))))
def d_shares_of : FD := { np := 2, ns := 3, body := (.ret (.b1 .tuple (.lc c_shares_of_1 (.one 2) (.wk .seq (.call F.parties (.cons (.var 0) .nil)) .nil) (.con (.bl true)) [2]))) }
def u_shares_of : UDef := ⟨dd "shares_of" 14, ["setting", "poly"], ["setting", "poly", "party"], [], d_shares_of⟩
theorem ok_shares_of : UOk fns kon blt u_shares_of := { at_ := rfl, sc := C8.fnScope_by (by decide +kernel), body := by kernel_rfl, binds := fun _ _ _ _ _ _ us hl => match us, hl with | [_, _], _ => rfl }
def d_shares : FD := { np := 3, ns := 3, body := (.ret (.call F.shares_of (.cons (.var 0) (.cons (.bin .add (.tup (.cons (.var 1) .nil)) (.var 2)) .nil)))) }
def u_shares : UDef := ⟨dd "shares" 15, ["setting", "s", "coins"], ["setting", "s", "coins"], [], d_shares⟩
theorem ok_shares : UOk fns kon blt u_shares := { at_ := rfl, sc := C8.fnScope_by (by decide +kernel), body := by kernel_rfl, binds := fun _ _ _ _ _ _ us hl => match us, hl with | [_, _, _], _ => rfl }
def b_sets_of_1 : DS := (.expr (.m1 .append (.var 2) (.bin .add (.tup (.cons (.ix (.var 0) (.var 3)) .nil)) (.var 4))))
def b_sets_of_2 : DS := (.for_ (.one 4) (.wk .seq (.call F.sets_of (.cons (.sl (.var 0) (.cons (.bin .add (.var 3) (.con (.int 1))) .nil) .nil) (.cons (.bin .sub (.var 1) (.con (.int 1))) .nil))) .nil)
    b_sets_of_1)
def d_sets_of : FD := { np := 2, ns := 5, body := (.seq (.ife (.cmp .eq (.var 1) (.con (.int 0)))
    (.ret (.lst (.cons (.tup .nil) .nil)))
    .skip)
    (.seq (.set 2 true (.lst .nil))
    (.seq (.for_ (.one 3) (.wk .rng1 (.b1 .len (.var 0)) .nil)
    b_sets_of_2)
    (.ret (.var 2))))) }
def u_sets_of : UDef := ⟨dd "sets_of" 17, ["things", "many"], ["things", "many", "found", "place", "rest"], ["found"], d_sets_of⟩
theorem ok_sets_of : UOk fns kon blt u_sets_of := { at_ := rfl, sc := C8.fnScope_by (by decide +kernel), body := by kernel_rfl, binds := fun _ _ _ _ _ _ us hl => match us, hl with | [_, _], _ => rfl }
def c_wrong_1 : DE := (.var 3)
def c_wrong_2 : DE := (.cmp .ne (.ix (.var 1) (.bin .sub (.var 3) (.con (.int 1)))) (.call F.value_at (.cons (.ix (.var 0) (.con (.int 1))) (.cons (.var 2) (.cons (.var 3) .nil)))))
def d_wrong : FD := { np := 3, ns := 4, body := (.ret (.b1 .tuple (.lc c_wrong_1 (.one 3) (.wk .seq (.call F.parties (.cons (.var 0) .nil)) .nil) c_wrong_2 [3]))) }
def u_wrong : UDef := ⟨dd "wrong" 18, ["setting", "row", "poly"], ["setting", "row", "poly", "party"], [], d_wrong⟩
theorem ok_wrong : UOk fns kon blt u_wrong := { at_ := rfl, sc := C8.fnScope_by (by decide +kernel), body := by kernel_rfl, binds := fun _ _ _ _ _ _ us hl => match us, hl with | [_, _, _], _ => rfl }
def c_readings_1 : DE := (.ix (.var 1) (.bin .sub (.var 6) (.con (.int 1))))
def b_readings_2 : DS := (.seq (.set 5 false (.call F.through (.cons (.ix (.var 0) (.con (.int 1))) (.cons (.var 4) (.cons (.b1 .tuple (.lc c_readings_1 (.one 6) (.wk .seq (.var 4) .nil) (.con (.bl true)) [6])) .nil)))))
    (.ife (.and (.cmp .notIn (.var 5) (.var 3)) (.cmp .le (.b1 .len (.call F.wrong (.cons (.var 0) (.cons (.var 1) (.cons (.var 5) .nil))))) (.var 2)))
    (.expr (.m1 .append (.var 3) (.var 5)))
    .skip))
def d_readings : FD := { np := 3, ns := 7, body := (.seq (.set 3 true (.lst .nil))
    (.seq (.for_ (.one 4) (.wk .seq (.call F.sets_of (.cons (.call F.parties (.cons (.var 0) .nil)) (.cons (.bin .add (.ix (.var 0) (.con (.int 3))) (.con (.int 1))) .nil))) .nil)
    b_readings_2)
    (.ret (.b1 .tuple (.b1 .sorted (.var 3)))))) }
def u_readings : UDef := ⟨dd "readings" 19, ["setting", "row", "e"], ["setting", "row", "e", "found", "points", "poly", "party"], ["found"], d_readings⟩
theorem ok_readings : UOk fns kon blt u_readings := { at_ := rfl, sc := C8.fnScope_by (by decide +kernel), body := by kernel_rfl, binds := fun _ _ _ _ _ _ us hl => match us, hl with | [_, _, _], _ => rfl }
def d_most_wrong : FD := { np := 1, ns := 1, body := (.ret (.bin .fdiv (.bin .sub (.bin .sub (.ix (.var 0) (.con (.int 2))) (.ix (.var 0) (.con (.int 3)))) (.con (.int 1))) (.con (.int 2)))) }
def u_most_wrong : UDef := ⟨dd "most_wrong" 20, ["setting"], ["setting"], [], d_most_wrong⟩
theorem ok_most_wrong : UOk fns kon blt u_most_wrong := { at_ := rfl, sc := C8.fnScope_by (by decide +kernel), body := by kernel_rfl, binds := fun _ _ _ _ _ _ us hl => match us, hl with | [_], _ => rfl }
def d_read : FD := { np := 2, ns := 3, body := (.seq (.set 2 false (.call F.readings (.cons (.var 0) (.cons (.var 1) (.cons (.call F.most_wrong (.cons (.var 0) .nil)) .nil)))))
    (.seq (.ife (.cmp .eq (.var 2) (.tup .nil))
    (.ret (.con .non))
    .skip)
    (.ret (.ix (.ix (.var 2) (.con (.int 0))) (.con (.int 0)))))) }
def u_read : UDef := ⟨dd "read" 21, ["setting", "row"], ["setting", "row", "found"], [], d_read⟩
theorem ok_read : UOk fns kon blt u_read := { at_ := rfl, sc := C8.fnScope_by (by decide +kernel), body := by kernel_rfl, binds := fun _ _ _ _ _ _ us hl => match us, hl with | [_, _], _ => rfl }
def c_places_1 : DE := (.trng false (.bin .add (.var 5) (.bin .mul (.var 3) (.var 8))) (.bin .add (.bin .add (.var 5) (.bin .mul (.var 3) (.var 8))) (.var 3)))
def b_places_2 : DS := (.seq (.set 7 false (.dgt (.dis [Str.ofString "in", Str.ofString "product", Str.ofString "kept"] (.cons (.con (.int 1)) (.cons (.var 2) (.cons (.var 2) .nil)))) (.ix (.var 6) (.con (.int 0))) (.con (.int 0))))
    (.seq (.expr (.m1 .append (.var 4) (.b1 .tuple (.lc c_places_1 (.one 8) (.wk .rng1 (.var 7) .nil) (.con (.bl true)) [8]))))
    (.set 5 false (.bin .add (.var 5) (.bin .mul (.var 3) (.var 7))))))
def d_places : FD := { np := 2, ns := 9, body := (.seq (.unp [2, 3] (.sl (.var 0) (.cons (.con (.int 2)) .nil) .nil))
    (.seq (.set 4 true (.lst .nil))
    (.seq (.set 5 false (.con (.int 0)))
    (.seq (.for_ (.one 6) (.wk .seq (.ix (.var 1) (.con (.int 1))) .nil)
    b_places_2)
    (.ret (.b1 .tuple (.var 4))))))) }
def u_places : UDef := ⟨dd "places" 23, ["setting", "program"], ["setting", "program", "n", "t", "found", "at", "row", "many", "k"], ["found"], d_places⟩
theorem ok_places : UOk fns kon blt u_places := { at_ := rfl, sc := C8.fnScope_by (by decide +kernel), body := by kernel_rfl, binds := fun _ _ _ _ _ _ us hl => match us, hl with | [_, _], _ => rfl }
def c_taken_1 : DE := (.ix (.var 0) (.var 2))
def c_taken_2 : DE := (.b1 .tuple (.lc c_taken_1 (.one 2) (.wk .seq (.var 3) .nil) (.con (.bl true)) [2]))
def d_taken : FD := { np := 2, ns := 4, body := (.ret (.b1 .tuple (.lc c_taken_2 (.one 3) (.wk .seq (.var 1) .nil) (.con (.bl true)) [3]))) }
def u_taken : UDef := ⟨dd "taken" 24, ["coins", "row"], ["coins", "row", "place", "some"], [], d_taken⟩
theorem ok_taken : UOk fns kon blt u_taken := { at_ := rfl, sc := C8.fnScope_by (by decide +kernel), body := by kernel_rfl, binds := fun _ _ _ _ _ _ us hl => match us, hl with | [_, _], _ => rfl }
def c_output_rows_1 : DE := (.var 1)
def c_output_rows_2 : DE := (.cmp .eq (.ix (.ix (.ix (.var 0) (.con (.int 1))) (.var 1)) (.con (.int 0))) (.con (.str (Str.ofString "out"))))
def d_output_rows : FD := { np := 1, ns := 2, body := (.ret (.b1 .tuple (.lc c_output_rows_1 (.one 1) (.wk .rng1 (.b1 .len (.ix (.var 0) (.con (.int 1)))) .nil) c_output_rows_2 [1]))) }
def u_output_rows : UDef := ⟨dd "output_rows" 26, ["program"], ["program", "k"], [], d_output_rows⟩
theorem ok_output_rows : UOk fns kon blt u_output_rows := { at_ := rfl, sc := C8.fnScope_by (by decide +kernel), body := by kernel_rfl, binds := fun _ _ _ _ _ _ us hl => match us, hl with | [_], _ => rfl }
def c_dealt_1 : DE := (.bin .add (.tup (.cons (.con (.int 0)) .nil)) (.var 5))
def c_dealt_2 : DE := (.bin .add (.tup (.cons (.bin .mod (.b1 .int (.bin .mul (.ix (.var 6) (.var 8)) (.ix (.var 7) (.var 8)))) (.var 4)) .nil)) (.ix (.var 3) (.var 8)))
def d_dealt : FD := { np := 4, ns := 9, body := (.seq (.set 4 false (.ix (.var 0) (.con (.int 1))))
    (.seq (.ife (.cmp .eq (.ix (.var 1) (.con (.int 0))) (.con (.str (Str.ofString "kept"))))
    (.ret (.b1 .tuple (.lc c_dealt_1 (.one 5) (.wk .seq (.var 3) .nil) (.con (.bl true)) [5])))
    .skip)
    (.seq (.set 6 false (.ix (.var 2) (.ix (.var 1) (.con (.int 1)))))
    (.seq (.set 7 false (.ix (.var 2) (.ix (.var 1) (.con (.int 2)))))
    (.ret (.b1 .tuple (.lc c_dealt_2 (.one 8) (.wk .rng1 (.b1 .len (.var 3)) .nil) (.con (.bl true)) [8]))))))) }
def u_dealt : UDef := ⟨dd "dealt" 28, ["setting", "row", "found", "coins"], ["setting", "row", "found", "coins", "p", "some", "one", "other", "k"], [], d_dealt⟩
theorem ok_dealt : UOk fns kon blt u_dealt := { at_ := rfl, sc := C8.fnScope_by (by decide +kernel), body := by kernel_rfl, binds := fun _ _ _ _ _ _ us hl => match us, hl with | [_, _, _, _], _ => rfl }
def c_joined_1 : DE := (.bin .mul (.ix (.var 5) (.var 9)) (.call F.value_at (.cons (.var 4) (.cons (.ix (.var 3) (.var 9)) (.cons (.var 7) .nil)))))
def b_joined_2 : DS := (.seq (.set 8 false (.b1 .sum (.lc c_joined_1 (.one 9) (.wk .rng1 (.b1 .len (.var 3)) .nil) (.con (.bl true)) [9])))
    (.seq (.ife (.cmp .eq (.ix (.var 1) (.con (.int 0))) (.con (.str (Str.ofString "kept"))))
    (.set 8 false (.bin .add (.var 8) (.ix (.ix (.var 2) (.ix (.var 1) (.con (.int 1)))) (.bin .sub (.var 7) (.con (.int 1))))))
    .skip)
    (.expr (.m1 .append (.var 6) (.bin .mod (.b1 .int (.var 8)) (.var 4))))))
def d_joined : FD := { np := 4, ns := 10, body := (.seq (.set 4 false (.ix (.var 0) (.con (.int 1))))
    (.seq (.set 5 false (.bin .mul (.tup (.cons (.con (.int 1)) .nil)) (.b1 .len (.var 3))))
    (.seq (.ife (.cmp .eq (.ix (.var 1) (.con (.int 0))) (.con (.str (Str.ofString "product"))))
    (.set 5 false (.call F.weights (.cons (.var 4) (.cons (.call F.parties (.cons (.var 0) .nil)) (.cons (.con (.int 0)) .nil)))))
    .skip)
    (.seq (.set 6 true (.lst .nil))
    (.seq (.for_ (.one 7) (.wk .seq (.call F.parties (.cons (.var 0) .nil)) .nil)
    b_joined_2)
    (.ret (.b1 .tuple (.var 6)))))))) }
def u_joined : UDef := ⟨dd "joined" 29, ["setting", "row", "found", "polys"], ["setting", "row", "found", "polys", "p", "weighed", "made", "party", "total", "k"], ["made"], d_joined⟩
theorem ok_joined : UOk fns kon blt u_joined := { at_ := rfl, sc := C8.fnScope_by (by decide +kernel), body := by kernel_rfl, binds := fun _ _ _ _ _ _ us hl => match us, hl with | [_, _, _, _], _ => rfl }
def c_plain_shares_1 : DE := (.bin .mod (.b1 .int (.bin .mul (.ix (.var 1) (.con (.int 1))) (.var 4))) (.var 3))
def c_plain_shares_2 : DE := (.bin .mod (.b1 .int (.bin .add (.ix (.ix (.var 2) (.ix (.var 1) (.con (.int 1)))) (.var 5)) (.ix (.ix (.var 2) (.ix (.var 1) (.con (.int 2)))) (.var 5)))) (.var 3))
def c_plain_shares_3 : DE := (.bin .mod (.b1 .int (.bin .sub (.ix (.ix (.var 2) (.ix (.var 1) (.con (.int 1)))) (.var 5)) (.ix (.ix (.var 2) (.ix (.var 1) (.con (.int 2)))) (.var 5)))) (.var 3))
def d_plain_shares : FD := { np := 3, ns := 6, body := (.seq (.set 3 false (.ix (.var 0) (.con (.int 1))))
    (.seq (.ife (.cmp .eq (.ix (.var 1) (.con (.int 0))) (.con (.str (Str.ofString "const"))))
    (.ret (.bin .mul (.tup (.cons (.ix (.var 1) (.con (.int 1))) .nil)) (.ix (.var 0) (.con (.int 2)))))
    .skip)
    (.seq (.ife (.cmp .eq (.ix (.var 1) (.con (.int 0))) (.con (.str (Str.ofString "times"))))
    (.ret (.b1 .tuple (.lc c_plain_shares_1 (.one 4) (.wk .seq (.ix (.var 2) (.ix (.var 1) (.con (.int 2)))) .nil) (.con (.bl true)) [4])))
    .skip)
    (.seq (.ife (.cmp .eq (.ix (.var 1) (.con (.int 0))) (.con (.str (Str.ofString "sum"))))
    (.ret (.b1 .tuple (.lc c_plain_shares_2 (.one 5) (.wk .rng1 (.ix (.var 0) (.con (.int 2))) .nil) (.con (.bl true)) [5])))
    .skip)
    (.seq (.ife (.cmp .eq (.ix (.var 1) (.con (.int 0))) (.con (.str (Str.ofString "less"))))
    (.ret (.b1 .tuple (.lc c_plain_shares_3 (.one 5) (.wk .rng1 (.ix (.var 0) (.con (.int 2))) .nil) (.con (.bl true)) [5])))
    .skip)
    (.ret (.con .non))))))) }
def u_plain_shares : UDef := ⟨dd "plain_shares" 30, ["setting", "row", "found"], ["setting", "row", "found", "p", "share", "k"], [], d_plain_shares⟩
theorem ok_plain_shares : UOk fns kon blt u_plain_shares := { at_ := rfl, sc := C8.fnScope_by (by decide +kernel), body := by kernel_rfl, binds := fun _ _ _ _ _ _ us hl => match us, hl with | [_, _, _], _ => rfl }
def b_run_1 : DS := (.seq (.set 8 false (.ix (.ix (.var 1) (.con (.int 1))) (.var 7)))
    (.seq (.set 9 false (.call F.taken (.cons (.var 3) (.cons (.ix (.var 6) (.var 7)) .nil))))
    (.ife (.cmp .eq (.ix (.var 8) (.con (.int 0))) (.con (.str (Str.ofString "in"))))
    (.expr (.m1 .append (.var 4) (.call F.shares (.cons (.var 0) (.cons (.m1 .popAt (.var 5) (.con (.int 0))) (.cons (.ix (.var 9) (.con (.int 0))) .nil))))))
    (.ife (.cmp .in_ (.ix (.var 8) (.con (.int 0))) (.tup (.cons (.con (.str (Str.ofString "product"))) (.cons (.con (.str (Str.ofString "kept"))) .nil))))
    (.expr (.m1 .append (.var 4) (.call F.joined (.cons (.var 0) (.cons (.var 8) (.cons (.var 4) (.cons (.call F.dealt (.cons (.var 0) (.cons (.var 8) (.cons (.var 4) (.cons (.var 9) .nil))))) .nil)))))))
    (.expr (.m1 .append (.var 4) (.call F.plain_shares (.cons (.var 0) (.cons (.var 8) (.cons (.var 4) .nil))))))))))
def d_run : FD := { np := 4, ns := 10, body := (.seq (.set 4 true (.lst .nil))
    (.seq (.set 5 true (.b1 .list (.var 2)))
    (.seq (.set 6 false (.call F.places (.cons (.var 0) (.cons (.var 1) .nil))))
    (.seq (.for_ (.one 7) (.wk .rng1 (.b1 .len (.ix (.var 1) (.con (.int 1)))) .nil)
    b_run_1)
    (.ret (.b1 .tuple (.var 4))))))) }
def u_run : UDef := ⟨dd "run" 31, ["setting", "program", "inputs", "coins"], ["setting", "program", "inputs", "coins", "found", "left", "rows", "k", "row", "mine"], ["found", "left"], d_run⟩
theorem ok_run : UOk fns kon blt u_run := { at_ := rfl, sc := C8.fnScope_by (by decide +kernel), body := by kernel_rfl, binds := fun _ _ _ _ _ _ us hl => match us, hl with | [_, _, _, _], _ => rfl }
def c_sent_1 : DE := (.tup (.cons (.var 5) (.cons (.ix (.ix (.ix (.var 1) (.con (.int 1))) (.var 5)) (.con (.int 2))) (.cons (.ix (.var 4) (.ix (.ix (.ix (.var 1) (.con (.int 1))) (.var 5)) (.con (.int 1)))) .nil))))
def d_sent : FD := { np := 4, ns := 6, body := (.seq (.set 4 false (.call F.run (.cons (.var 0) (.cons (.var 1) (.cons (.var 2) (.cons (.var 3) .nil))))))
    (.ret (.b1 .tuple (.lc c_sent_1 (.one 5) (.wk .seq (.call F.output_rows (.cons (.var 1) .nil)) .nil) (.con (.bl true)) [5])))) }
def u_sent : UDef := ⟨dd "sent" 32, ["setting", "program", "inputs", "coins"], ["setting", "program", "inputs", "coins", "found", "k"], [], d_sent⟩
theorem ok_sent : UOk fns kon blt u_sent := { at_ := rfl, sc := C8.fnScope_by (by decide +kernel), body := by kernel_rfl, binds := fun _ _ _ _ _ _ us hl => match us, hl with | [_, _, _, _], _ => rfl }
def b_told_row_1 : DS := (.ife (.cmp .eq (.var 4) (.var 1))
    (.setIx (.var 3) (.bin .sub (.var 5) (.con (.int 1))) (.var 6))
    .skip)
def d_told_row : FD := { np := 3, ns := 7, body := (.seq (.set 3 true (.b1 .list (.var 0)))
    (.seq (.for_ (.many [4, 5, 6]) (.wk .seq (.var 2) .nil)
    b_told_row_1)
    (.ret (.b1 .tuple (.var 3))))) }
def u_told_row : UDef := ⟨dd "told_row" 34, ["row", "k", "lies"], ["row", "k", "lies", "found", "line", "party", "number"], ["found"], d_told_row⟩
theorem ok_told_row : UOk fns kon blt u_told_row := { at_ := rfl, sc := C8.fnScope_by (by decide +kernel), body := by kernel_rfl, binds := fun _ _ _ _ _ _ us hl => match us, hl with | [_, _, _], _ => rfl }
def c_read_out_1 : DE := (.tup (.cons (.var 6) (.cons (.var 7) (.cons (.call F.read (.cons (.var 0) (.cons (.call F.told_row (.cons (.var 8) (.cons (.var 6) (.cons (.var 4) .nil)))) .nil))) .nil))))
def d_read_out : FD := { np := 5, ns := 9, body := (.seq (.set 5 false (.call F.sent (.cons (.var 0) (.cons (.var 1) (.cons (.var 2) (.cons (.var 3) .nil))))))
    (.ret (.b1 .tuple (.lc c_read_out_1 (.many [6, 7, 8]) (.wk .seq (.var 5) .nil) (.con (.bl true)) [6, 7, 8])))) }
def u_read_out : UDef := ⟨dd "read_out" 35, ["setting", "program", "inputs", "coins", "lies"], ["setting", "program", "inputs", "coins", "lies", "rows", "k", "party", "row"], [], d_read_out⟩
theorem ok_read_out : UOk fns kon blt u_read_out := { at_ := rfl, sc := C8.fnScope_by (by decide +kernel), body := by kernel_rfl, binds := fun _ _ _ _ _ _ us hl => match us, hl with | [_, _, _, _, _], _ => rfl }
def d__law_cell : FD := { np := 2, ns := 2, body := (.seq (.ife (.cmp .lt (.var 1) (.b1 .len (.var 0)))
    (.ret (.ix (.var 0) (.var 1)))
    .skip)
    (.ret (.con (.int 0)))) }
def u__law_cell : UDef := ⟨dd "_law_cell" 37, ["_law_script", "_law_k"], ["_law_script", "_law_k"], [], d__law_cell⟩
theorem ok__law_cell : UOk fns kon blt u__law_cell := { at_ := rfl, sc := C8.fnScope_by (by decide +kernel), body := by kernel_rfl, binds := fun _ _ _ _ _ _ us hl => match us, hl with | [_, _], _ => rfl }
def b__law_digits_1 : DS := (.ife (.cmp .gt (.var 5) (.con (.int 0)))
    (.seq (.expr (.m1 .append (.var 3) (.bin .mod (.b1 .int (.var 5)) (.con (.int 1000)))))
    (.set 5 false (.bin .fdiv (.var 5) (.con (.int 1000)))))
    .skip)
def b__law_digits_2 : DS := (.seq (.set 7 false (.bin .mod (.b1 .int (.bin .add (.bin .add (.bin .mul (.var 7) (.con (.int 16807))) (.bin .mul (.con (.int 7)) (.var 6))) (.con (.int 1)))) (.con (.int 2147483647))))
    (.expr (.m1 .append (.var 3) (.bin .mod (.b1 .int (.bin .fdiv (.var 7) (.con (.int 997)))) (.con (.int 1000))))))
def b__law_digits_3 : DS := (.seq (.set 5 false (.call F._law_cell (.cons (.var 0) (.cons (.var 4) .nil))))
    (.seq (.ife (.cmp .lt (.var 5) (.con (.int 0)))
    (.set 5 false (.bin .sub (.con (.int 1)) (.bin .mul (.con (.int 2)) (.var 5))))
    .skip)
    (.ife (.cmp .ge (.var 5) (.bin .pow (.con (.int 10)) (.con (.int 18))))
    (.for_ (.one 6) (.wk .rng1 (.con (.int 60)) .nil)
    b__law_digits_1)
    (.seq (.set 7 false (.bin .mod (.b1 .int (.bin .add (.bin .add (.bin .mul (.var 5) (.con (.int 48271))) (.bin .mul (.var 4) (.con (.int 69621)))) (.con (.int 11)))) (.con (.int 2147483647))))
    (.for_ (.one 6) (.wk .rng1 (.con (.int 12)) .nil)
    b__law_digits_2)))))
def d__law_digits : FD := { np := 3, ns := 8, body := (.seq (.set 3 true (.lst .nil))
    (.seq (.for_ (.one 4) (.wk .rng2 (.var 1) (.var 2))
    b__law_digits_3)
    (.ret (.var 3)))) }
def u__law_digits : UDef := ⟨dd "_law_digits" 38, ["_law_script", "_law_first", "_law_last"], ["_law_script", "_law_first", "_law_last", "_law_digits_here", "_law_k", "_law_cell_here", "_law_turn", "_law_seed"], ["_law_digits_here"], d__law_digits⟩
theorem ok__law_digits : UOk fns kon blt u__law_digits := { at_ := rfl, sc := C8.fnScope_by (by decide +kernel), body := by kernel_rfl, binds := fun _ _ _ _ _ _ us hl => match us, hl with | [_, _, _], _ => rfl }
def d__law_draw : FD := { np := 2, ns := 3, body := (.seq (.set 2 false (.ix (.var 0) (.con (.int 1))))
    (.seq (.setIx (.var 0) (.con (.int 1)) (.bin .add (.var 2) (.con (.int 1))))
    (.seq (.ife (.cmp .lt (.var 2) (.b1 .len (.ix (.var 0) (.con (.int 0)))))
    (.ret (.bin .mod (.b1 .int (.ix (.ix (.var 0) (.con (.int 0))) (.var 2))) (.var 1)))
    .skip)
    (.ret (.con (.int 0)))))) }
def u__law_draw : UDef := ⟨dd "_law_draw" 39, ["_law_box", "_law_many"], ["_law_box", "_law_many", "_law_at_here"], ["_law_box"], d__law_draw⟩
theorem ok__law_draw : UOk fns kon blt u__law_draw := { at_ := rfl, sc := C8.fnScope_by (by decide +kernel), body := by kernel_rfl, binds := fun _ _ _ _ _ _ us hl => match us, hl with | [_, _], _ => rfl }
def d__law_pick : FD := { np := 2, ns := 2, body := (.ret (.ix (.var 1) (.bin .mod (.b1 .int (.call F._law_draw (.cons (.var 0) (.cons (.con (.int 900)) .nil)))) (.b1 .len (.var 1))))) }
def u__law_pick : UDef := ⟨dd "_law_pick" 40, ["_law_box", "_law_things"], ["_law_box", "_law_things"], ["_law_box"], d__law_pick⟩
theorem ok__law_pick : UOk fns kon blt u__law_pick := { at_ := rfl, sc := C8.fnScope_by (by decide +kernel), body := by kernel_rfl, binds := fun _ _ _ _ _ _ us hl => match us, hl with | [_, _], _ => rfl }
def d__law_same : FD := { np := 2, ns := 2, body := (.ret (.cmp .eq (.b1 .repr (.var 0)) (.b1 .repr (.var 1)))) }
def u__law_same : UDef := ⟨dd "_law_same" 41, ["_law_actual", "_law_due"], ["_law_actual", "_law_due"], [], d__law_same⟩
theorem ok__law_same : UOk fns kon blt u__law_same := { at_ := rfl, sc := C8.fnScope_by (by decide +kernel), body := by kernel_rfl, binds := fun _ _ _ _ _ _ us hl => match us, hl with | [_, _], _ => rfl }
def d__law_number : FD := { np := 2, ns := 2, body := (.ret (.bin .mod (.b1 .int (.bin .add (.bin .mul (.call F._law_draw (.cons (.var 0) (.cons (.con (.int 1000)) .nil))) (.con (.int 1009))) (.call F._law_draw (.cons (.var 0) (.cons (.con (.int 1000)) .nil))))) (.var 1))) }
def u__law_number : UDef := ⟨dd "_law_number" 42, ["_law_box", "_law_p"], ["_law_box", "_law_p"], ["_law_box"], d__law_number⟩
theorem ok__law_number : UOk fns kon blt u__law_number := { at_ := rfl, sc := C8.fnScope_by (by decide +kernel), body := by kernel_rfl, binds := fun _ _ _ _ _ _ us hl => match us, hl with | [_, _], _ => rfl }
def c__law_numbers_1 : DE := (.call F._law_number (.cons (.var 0) (.cons (.var 1) .nil)))
def d__law_numbers : FD := { np := 3, ns := 4, body := (.ret (.b1 .tuple (.lc c__law_numbers_1 (.one 3) (.wk .rng1 (.var 2) .nil) (.con (.bl true)) [3]))) }
def u__law_numbers : UDef := ⟨dd "_law_numbers" 43, ["_law_box", "_law_p", "_law_many"], ["_law_box", "_law_p", "_law_many", "_law_k"], ["_law_box"], d__law_numbers⟩
theorem ok__law_numbers : UOk fns kon blt u__law_numbers := { at_ := rfl, sc := C8.fnScope_by (by decide +kernel), body := by kernel_rfl, binds := fun _ _ _ _ _ _ us hl => match us, hl with | [_, _, _], _ => rfl }
def b__law_at_1 : DS := (.seq (.set 3 false (.bin .mod (.b1 .int (.bin .add (.var 3) (.bin .mul (.var 5) (.var 4)))) (.var 0)))
    (.set 4 false (.bin .mod (.b1 .int (.bin .mul (.var 4) (.var 2))) (.var 0))))
def d__law_at : FD := { np := 3, ns := 6, body := (.seq (.set 3 false (.con (.int 0)))
    (.seq (.set 4 false (.con (.int 1)))
    (.seq (.for_ (.one 5) (.wk .seq (.var 1) .nil)
    b__law_at_1)
    (.ret (.var 3))))) }
def u__law_at : UDef := ⟨dd "_law_at" 44, ["_law_p", "_law_poly", "_law_x"], ["_law_p", "_law_poly", "_law_x", "_law_total", "_law_power", "_law_number_here"], [], d__law_at⟩
theorem ok__law_at : UOk fns kon blt u__law_at := { at_ := rfl, sc := C8.fnScope_by (by decide +kernel), body := by kernel_rfl, binds := fun _ _ _ _ _ _ us hl => match us, hl with | [_, _, _], _ => rfl }
def b__law_raised_1 : DS := (.seq (.ife (.cmp .eq (.bin .mod (.b1 .int (.var 2)) (.con (.int 2))) (.con (.int 1)))
    (.set 3 false (.bin .mod (.b1 .int (.bin .mul (.var 3) (.var 1))) (.var 0)))
    .skip)
    (.seq (.set 1 false (.bin .mod (.b1 .int (.bin .mul (.var 1) (.var 1))) (.var 0)))
    (.set 2 false (.bin .fdiv (.var 2) (.con (.int 2))))))
def d__law_raised : FD := { np := 3, ns := 5, body := (.seq (.set 3 false (.bin .mod (.b1 .int (.con (.int 1))) (.var 0)))
    (.seq (.for_ (.one 4) (.wk .rng1 (.con (.int 40)) .nil)
    b__law_raised_1)
    (.ret (.var 3)))) }
def u__law_raised : UDef := ⟨dd "_law_raised" 45, ["_law_p", "_law_a", "_law_k"], ["_law_p", "_law_a", "_law_k", "_law_found", "_law_turn"], [], d__law_raised⟩
theorem ok__law_raised : UOk fns kon blt u__law_raised := { at_ := rfl, sc := C8.fnScope_by (by decide +kernel), body := by kernel_rfl, binds := fun _ _ _ _ _ _ us hl => match us, hl with | [_, _, _], _ => rfl }
def d__law_inverse : FD := { np := 2, ns := 2, body := (.ret (.call F._law_raised (.cons (.var 0) (.cons (.bin .mod (.b1 .int (.var 1)) (.var 0)) (.cons (.bin .sub (.var 0) (.con (.int 2))) .nil))))) }
def u__law_inverse : UDef := ⟨dd "_law_inverse" 46, ["_law_p", "_law_a"], ["_law_p", "_law_a"], [], d__law_inverse⟩
theorem ok__law_inverse : UOk fns kon blt u__law_inverse := { at_ := rfl, sc := C8.fnScope_by (by decide +kernel), body := by kernel_rfl, binds := fun _ _ _ _ _ _ us hl => match us, hl with | [_, _], _ => rfl }
def b__law_weights_1 : DS := (.ife (.cmp .ne (.var 7) (.var 4))
    (.seq (.set 5 false (.bin .mod (.b1 .int (.bin .mul (.var 5) (.bin .sub (.var 2) (.var 7)))) (.var 0)))
    (.set 6 false (.bin .mod (.b1 .int (.bin .mul (.var 6) (.bin .sub (.var 4) (.var 7)))) (.var 0))))
    .skip)
def b__law_weights_2 : DS := (.seq (.set 5 false (.con (.int 1)))
    (.seq (.set 6 false (.con (.int 1)))
    (.seq (.for_ (.one 7) (.wk .seq (.var 1) .nil)
    b__law_weights_1)
    (.expr (.m1 .append (.var 3) (.bin .mod (.b1 .int (.bin .mul (.var 5) (.call F._law_inverse (.cons (.var 0) (.cons (.var 6) .nil))))) (.var 0)))))))
def d__law_weights : FD := { np := 3, ns := 8, body := (.seq (.set 3 true (.lst .nil))
    (.seq (.for_ (.one 4) (.wk .seq (.var 1) .nil)
    b__law_weights_2)
    (.ret (.var 3)))) }
def u__law_weights : UDef := ⟨dd "_law_weights" 47, ["_law_p", "_law_points", "_law_x"], ["_law_p", "_law_points", "_law_x", "_law_found", "_law_one", "_law_top", "_law_low", "_law_other"], ["_law_found"], d__law_weights⟩
theorem ok__law_weights : UOk fns kon blt u__law_weights := { at_ := rfl, sc := C8.fnScope_by (by decide +kernel), body := by kernel_rfl, binds := fun _ _ _ _ _ _ us hl => match us, hl with | [_, _, _], _ => rfl }
def b__law_program_1 : DS := (.seq (.set 11 false (.call F._law_draw (.cons (.var 0) (.cons (.con (.int 13)) .nil))))
    (.seq (.set 12 false (.tup (.cons (.con (.str (Str.ofString "in"))) (.cons (.bin .add (.con (.int 1)) (.call F._law_draw (.cons (.var 0) (.cons (.var 5) .nil)))) .nil))))
    (.seq (.ife (.cmp .eq (.var 11) (.con (.int 3)))
    (.set 12 false (.tup (.cons (.con (.str (Str.ofString "const"))) (.cons (.call F._law_number (.cons (.var 0) (.cons (.var 4) .nil))) .nil))))
    .skip)
    (.seq (.ife (.and (.cmp .ne (.var 9) (.lst .nil)) (.cmp .in_ (.var 11) (.tup (.cons (.con (.int 4)) (.cons (.con (.int 5)) (.cons (.con (.int 12)) .nil))))))
    (.set 12 false (.tup (.cons (.con (.str (Str.ofString "kept"))) (.cons (.call F._law_pick (.cons (.var 0) (.cons (.var 9) .nil))) .nil))))
    (.ife (.cmp .ne (.var 8) (.lst .nil))
    (.seq (.set 13 false (.call F._law_pick (.cons (.var 0) (.cons (.var 8) .nil))))
    (.seq (.set 14 false (.call F._law_pick (.cons (.var 0) (.cons (.var 8) .nil))))
    (.seq (.ife (.cmp .in_ (.var 11) (.tup (.cons (.con (.int 4)) (.cons (.con (.int 5)) (.cons (.con (.int 6)) .nil)))))
    (.set 12 false (.tup (.cons (.con (.str (Str.ofString "product"))) (.cons (.var 13) (.cons (.var 14) .nil)))))
    .skip)
    (.seq (.ife (.cmp .eq (.var 11) (.con (.int 7)))
    (.set 12 false (.tup (.cons (.con (.str (Str.ofString "sum"))) (.cons (.var 13) (.cons (.var 14) .nil)))))
    .skip)
    (.seq (.ife (.cmp .eq (.var 11) (.con (.int 8)))
    (.set 12 false (.tup (.cons (.con (.str (Str.ofString "less"))) (.cons (.var 13) (.cons (.var 14) .nil)))))
    .skip)
    (.seq (.ife (.cmp .eq (.var 11) (.con (.int 9)))
    (.set 12 false (.tup (.cons (.con (.str (Str.ofString "times"))) (.cons (.call F._law_number (.cons (.var 0) (.cons (.var 4) .nil))) (.cons (.var 13) .nil)))))
    .skip)
    (.ife (.cmp .eq (.var 11) (.con (.int 10)))
    (.set 12 false (.tup (.cons (.con (.str (Str.ofString "out"))) (.cons (.var 13) (.cons (.bin .add (.con (.int 1)) (.call F._law_draw (.cons (.var 0) (.cons (.var 5) .nil)))) .nil)))))
    .skip)))))))
    .skip))
    (.seq (.ife (.and (.cmp .eq (.var 11) (.con (.int 11))) (.cmp .gt (.var 3) (.con (.int 0))))
    (.seq (.set 12 false (.tup (.cons (.con (.str (Str.ofString "next"))) .nil)))
    (.seq (.set 3 false (.bin .sub (.var 3) (.con (.int 1))))
    (.seq (.set 9 false (.var 8))
    (.set 8 false (.lst .nil)))))
    (.ife (.cmp .ne (.ix (.var 12) (.con (.int 0))) (.con (.str (Str.ofString "out"))))
    (.set 8 false (.bin .add (.var 8) (.lst (.cons (.var 10) .nil))))
    .skip))
    (.expr (.m1 .append (.var 7) (.var 12))))))))
def d__law_program : FD := { np := 4, ns := 15, body := (.seq (.unp [4, 5, 6] (.sl (.var 1) (.cons (.con (.int 1)) .nil) .nil))
    (.seq (.set 7 true (.lst .nil))
    (.seq (.set 8 false (.lst .nil))
    (.seq (.set 9 false (.lst .nil))
    (.seq (.for_ (.one 10) (.wk .rng1 (.bin .add (.con (.int 1)) (.call F._law_draw (.cons (.var 0) (.cons (.var 2) .nil)))) .nil)
    b__law_program_1)
    (.ret (.tup (.cons (.con (.str (Str.ofString "program"))) (.cons (.b1 .tuple (.var 7)) .nil))))))))) }
def u__law_program : UDef := ⟨dd "_law_program" 48, ["_law_box", "_law_setting", "_law_most", "_law_turns"], ["_law_box", "_law_setting", "_law_most", "_law_turns", "_law_p", "_law_n", "_law_t", "_law_rows", "_law_wires", "_law_before", "_law_k", "_law_kind", "_law_row", "_law_a", "_law_b"], ["_law_box", "_law_rows"], d__law_program⟩
theorem ok__law_program : UOk fns kon blt u__law_program := { at_ := rfl, sc := C8.fnScope_by (by decide +kernel), body := by kernel_rfl, binds := fun _ _ _ _ _ _ us hl => match us, hl with | [_, _, _, _], _ => rfl }
def c__law_inputs_1 : DE := (.var 3)
def c__law_inputs_2 : DE := (.cmp .eq (.ix (.var 3) (.con (.int 0))) (.con (.str (Str.ofString "in"))))
def d__law_inputs : FD := { np := 3, ns := 4, body := (.ret (.call F._law_numbers (.cons (.var 0) (.cons (.ix (.var 1) (.con (.int 1))) (.cons (.b1 .len (.lc c__law_inputs_1 (.one 3) (.wk .seq (.ix (.var 2) (.con (.int 1))) .nil) c__law_inputs_2 [3])) .nil))))) }
def u__law_inputs : UDef := ⟨dd "_law_inputs" 49, ["_law_box", "_law_setting", "_law_program_here"], ["_law_box", "_law_setting", "_law_program_here", "_law_row"], ["_law_box"], d__law_inputs⟩
theorem ok__law_inputs : UOk fns kon blt u__law_inputs := { at_ := rfl, sc := C8.fnScope_by (by decide +kernel), body := by kernel_rfl, binds := fun _ _ _ _ _ _ us hl => match us, hl with | [_, _, _], _ => rfl }
def b__law_values_1 : DS := (.seq (.set 7 false (.ix (.var 6) (.con (.int 0))))
    (.seq (.set 8 false (.con .non))
    (.seq (.ife (.cmp .eq (.var 7) (.con (.str (Str.ofString "in"))))
    (.seq (.set 8 false (.ix (.var 2) (.var 5)))
    (.set 5 false (.bin .add (.var 5) (.con (.int 1)))))
    (.ife (.cmp .eq (.var 7) (.con (.str (Str.ofString "const"))))
    (.set 8 false (.ix (.var 6) (.con (.int 1))))
    (.ife (.cmp .eq (.var 7) (.con (.str (Str.ofString "kept"))))
    (.set 8 false (.ix (.var 4) (.ix (.var 6) (.con (.int 1)))))
    (.ife (.cmp .eq (.var 7) (.con (.str (Str.ofString "times"))))
    (.set 8 false (.bin .mod (.b1 .int (.bin .mul (.ix (.var 6) (.con (.int 1))) (.ix (.var 4) (.ix (.var 6) (.con (.int 2)))))) (.var 3)))
    (.ife (.cmp .in_ (.var 7) (.tup (.cons (.con (.str (Str.ofString "sum"))) (.cons (.con (.str (Str.ofString "less"))) (.cons (.con (.str (Str.ofString "product"))) .nil)))))
    (.seq (.set 9 false (.ix (.var 4) (.ix (.var 6) (.con (.int 1)))))
    (.seq (.set 10 false (.ix (.var 4) (.ix (.var 6) (.con (.int 2)))))
    (.set 8 false (.bin .mod (.b1 .int (.ix (.lst (.cons (.bin .add (.var 9) (.var 10)) (.cons (.bin .sub (.var 9) (.var 10)) (.cons (.bin .mul (.var 9) (.var 10)) .nil)))) (.m1 .index (.lst (.cons (.con (.str (Str.ofString "sum"))) (.cons (.con (.str (Str.ofString "less"))) (.cons (.con (.str (Str.ofString "product"))) .nil)))) (.var 7)))) (.var 3)))))
    .skip)))))
    (.expr (.m1 .append (.var 4) (.var 8))))))
def d__law_values : FD := { np := 3, ns := 11, body := (.seq (.set 3 false (.ix (.var 0) (.con (.int 1))))
    (.seq (.set 4 true (.lst .nil))
    (.seq (.set 5 false (.con (.int 0)))
    (.seq (.for_ (.one 6) (.wk .seq (.ix (.var 1) (.con (.int 1))) .nil)
    b__law_values_1)
    (.ret (.var 4)))))) }
def u__law_values : UDef := ⟨dd "_law_values" 50, ["_law_setting", "_law_program_here", "_law_inputs_here"], ["_law_setting", "_law_program_here", "_law_inputs_here", "_law_p", "_law_found", "_law_used", "_law_row", "_law_kind", "_law_value", "_law_a", "_law_b"], ["_law_found"], d__law_values⟩
theorem ok__law_values : UOk fns kon blt u__law_values := { at_ := rfl, sc := C8.fnScope_by (by decide +kernel), body := by kernel_rfl, binds := fun _ _ _ _ _ _ us hl => match us, hl with | [_, _, _], _ => rfl }
def c__law_shown_1 : DE := (.tup (.cons (.var 5) (.cons (.ix (.ix (.var 4) (.var 5)) (.con (.int 2))) (.cons (.ix (.var 3) (.ix (.ix (.var 4) (.var 5)) (.con (.int 1)))) .nil))))
def c__law_shown_2 : DE := (.cmp .eq (.ix (.ix (.var 4) (.var 5)) (.con (.int 0))) (.con (.str (Str.ofString "out"))))
def d__law_shown : FD := { np := 3, ns := 6, body := (.seq (.set 3 false (.call F._law_values (.cons (.var 0) (.cons (.var 1) (.cons (.var 2) .nil)))))
    (.seq (.set 4 false (.ix (.var 1) (.con (.int 1))))
    (.ret (.b1 .tuple (.lc c__law_shown_1 (.one 5) (.wk .rng1 (.b1 .len (.var 4)) .nil) c__law_shown_2 [5]))))) }
def u__law_shown : UDef := ⟨dd "_law_shown" 51, ["_law_setting", "_law_program_here", "_law_inputs_here"], ["_law_setting", "_law_program_here", "_law_inputs_here", "_law_found", "_law_rows", "_law_k"], [], d__law_shown⟩
theorem ok__law_shown : UOk fns kon blt u__law_shown := { at_ := rfl, sc := C8.fnScope_by (by decide +kernel), body := by kernel_rfl, binds := fun _ _ _ _ _ _ us hl => match us, hl with | [_, _, _], _ => rfl }
def c__law_coins_of_1 : DE := (.bin .mul (.ix (.var 0) (.con (.int 3))) (.dgt (.var 2) (.ix (.var 3) (.con (.int 0))) (.con (.int 0))))
def d__law_coins_of : FD := { np := 2, ns := 4, body := (.seq (.set 2 false (.dis [Str.ofString "in", Str.ofString "product", Str.ofString "kept"] (.cons (.con (.int 1)) (.cons (.ix (.var 0) (.con (.int 2))) (.cons (.ix (.var 0) (.con (.int 2))) .nil)))))
    (.ret (.b1 .sum (.lc c__law_coins_of_1 (.one 3) (.wk .seq (.ix (.var 1) (.con (.int 1))) .nil) (.con (.bl true)) [3])))) }
def u__law_coins_of : UDef := ⟨dd "_law_coins_of" 52, ["_law_setting", "_law_program_here"], ["_law_setting", "_law_program_here", "_law_each", "_law_row"], [], d__law_coins_of⟩
theorem ok__law_coins_of : UOk fns kon blt u__law_coins_of := { at_ := rfl, sc := C8.fnScope_by (by decide +kernel), body := by kernel_rfl, binds := fun _ _ _ _ _ _ us hl => match us, hl with | [_, _], _ => rfl }
def b__law_coins_1 : DS := (.seq (.set 3 false (.bin .mod (.b1 .int (.bin .add (.bin .mul (.var 3) (.con (.int 16807))) (.con (.int 7)))) (.con (.int 2147483647))))
    (.expr (.m1 .append (.var 4) (.bin .mod (.b1 .int (.bin .fdiv (.var 3) (.con (.int 997)))) (.ix (.var 1) (.con (.int 1)))))))
def d__law_coins : FD := { np := 3, ns := 6, body := (.seq (.set 3 false (.bin .add (.bin .add (.con (.int 1)) (.bin .mul (.call F._law_draw (.cons (.var 0) (.cons (.con (.int 1000)) .nil))) (.con (.int 1000)))) (.call F._law_draw (.cons (.var 0) (.cons (.con (.int 1000)) .nil)))))
    (.seq (.set 4 true (.lst .nil))
    (.seq (.for_ (.one 5) (.wk .rng1 (.call F._law_coins_of (.cons (.var 1) (.cons (.var 2) .nil))) .nil)
    b__law_coins_1)
    (.ret (.b1 .tuple (.var 4)))))) }
def u__law_coins : UDef := ⟨dd "_law_coins" 53, ["_law_box", "_law_setting", "_law_program_here"], ["_law_box", "_law_setting", "_law_program_here", "_law_seed", "_law_coins_here", "_law_k"], ["_law_box", "_law_coins_here"], d__law_coins⟩
theorem ok__law_coins : UOk fns kon blt u__law_coins := { at_ := rfl, sc := C8.fnScope_by (by decide +kernel), body := by kernel_rfl, binds := fun _ _ _ _ _ _ us hl => match us, hl with | [_, _, _], _ => rfl }
def c__law_poly_sum_1 : DE := (.bin .mul (.ix (.var 2) (.var 3)) (.ix (.ix (.var 1) (.var 3)) (.var 4)))
def c__law_poly_sum_2 : DE := (.bin .mod (.b1 .int (.b1 .sum (.lc c__law_poly_sum_1 (.one 3) (.wk .rng1 (.b1 .len (.var 1)) .nil) (.con (.bl true)) [3]))) (.var 0))
def d__law_poly_sum : FD := { np := 3, ns := 5, body := (.ret (.b1 .tuple (.lc c__law_poly_sum_2 (.one 4) (.wk .rng1 (.b1 .len (.ix (.var 1) (.con (.int 0)))) .nil) (.con (.bl true)) [4]))) }
def u__law_poly_sum : UDef := ⟨dd "_law_poly_sum" 54, ["_law_p", "_law_rows", "_law_weighed"], ["_law_p", "_law_rows", "_law_weighed", "_law_k", "_law_j"], [], d__law_poly_sum⟩
theorem ok__law_poly_sum : UOk fns kon blt u__law_poly_sum := { at_ := rfl, sc := C8.fnScope_by (by decide +kernel), body := by kernel_rfl, binds := fun _ _ _ _ _ _ us hl => match us, hl with | [_, _, _], _ => rfl }
def b__law_run_1 : DS := (.seq (.set 16 false (.con (.int 0)))
    (.seq (.ife (.cmp .eq (.var 12) (.con (.str (Str.ofString "product"))))
    (.set 16 false (.bin .mod (.b1 .int (.bin .mul (.call F._law_at (.cons (.var 4) (.cons (.ix (.var 7) (.ix (.var 11) (.con (.int 1)))) (.cons (.bin .add (.var 15) (.con (.int 1))) .nil)))) (.call F._law_at (.cons (.var 4) (.cons (.ix (.var 7) (.ix (.var 11) (.con (.int 2)))) (.cons (.bin .add (.var 15) (.con (.int 1))) .nil)))))) (.var 4)))
    .skip)
    (.expr (.m1 .append (.var 14) (.bin .add (.tup (.cons (.var 16) .nil)) (.sl (.var 3) (.cons (.bin .add (.var 10) (.bin .mul (.var 6) (.var 15))) .nil) (.cons (.bin .add (.bin .add (.var 10) (.bin .mul (.var 6) (.var 15))) (.var 6)) .nil)))))))
def b__law_run_2 : DS := (.seq (.set 12 false (.ix (.var 11) (.con (.int 0))))
    (.seq (.set 13 false (.con .non))
    (.seq (.set 14 true (.lst .nil))
    (.seq (.ife (.cmp .eq (.var 12) (.con (.str (Str.ofString "in"))))
    (.seq (.set 13 false (.bin .add (.tup (.cons (.ix (.var 2) (.var 9)) .nil)) (.sl (.var 3) (.cons (.var 10) .nil) (.cons (.bin .add (.var 10) (.var 6)) .nil))))
    (.seq (.set 14 true (.lst (.cons (.var 13) .nil)))
    (.set 9 false (.bin .add (.var 9) (.con (.int 1))))))
    (.ife (.cmp .eq (.var 12) (.con (.str (Str.ofString "const"))))
    (.set 13 false (.bin .add (.tup (.cons (.ix (.var 11) (.con (.int 1))) .nil)) (.bin .mul (.tup (.cons (.con (.int 0)) .nil)) (.var 6))))
    (.ife (.cmp .eq (.var 12) (.con (.str (Str.ofString "times"))))
    (.set 13 false (.call F._law_poly_sum (.cons (.var 4) (.cons (.lst (.cons (.ix (.var 7) (.ix (.var 11) (.con (.int 2)))) .nil)) (.cons (.lst (.cons (.ix (.var 11) (.con (.int 1))) .nil)) .nil)))))
    (.ife (.cmp .in_ (.var 12) (.tup (.cons (.con (.str (Str.ofString "sum"))) (.cons (.con (.str (Str.ofString "less"))) .nil))))
    (.set 13 false (.call F._law_poly_sum (.cons (.var 4) (.cons (.lst (.cons (.ix (.var 7) (.ix (.var 11) (.con (.int 1)))) (.cons (.ix (.var 7) (.ix (.var 11) (.con (.int 2)))) .nil))) (.cons (.lst (.cons (.con (.int 1)) (.cons (.ix (.lst (.cons (.neg (.con (.int 1))) (.cons (.con (.int 1)) .nil))) (.b1 .int (.cmp .eq (.var 12) (.con (.str (Str.ofString "sum")))))) .nil))) .nil)))))
    (.ife (.or (.cmp .eq (.var 12) (.con (.str (Str.ofString "product")))) (.cmp .eq (.var 12) (.con (.str (Str.ofString "kept")))))
    (.seq (.for_ (.one 15) (.wk .rng1 (.var 5) .nil)
    b__law_run_1)
    (.ife (.cmp .eq (.var 12) (.con (.str (Str.ofString "product"))))
    (.set 13 false (.call F._law_poly_sum (.cons (.var 4) (.cons (.var 14) (.cons (.call F._law_weights (.cons (.var 4) (.cons (.trng true (.con (.int 1)) (.bin .add (.var 5) (.con (.int 1)))) (.cons (.con (.int 0)) .nil)))) .nil)))))
    (.set 13 false (.call F._law_poly_sum (.cons (.var 4) (.cons (.bin .add (.lst (.cons (.ix (.var 7) (.ix (.var 11) (.con (.int 1)))) .nil)) (.var 14)) (.cons (.bin .mul (.lst (.cons (.con (.int 1)) .nil)) (.bin .add (.var 5) (.con (.int 1)))) .nil)))))))
    .skip)))))
    (.seq (.set 10 false (.bin .add (.var 10) (.bin .mul (.var 6) (.b1 .len (.var 14)))))
    (.seq (.expr (.m1 .append (.var 7) (.var 13)))
    (.expr (.m1 .append (.var 8) (.var 14)))))))))
def d__law_run : FD := { np := 4, ns := 17, body := (.seq (.unp [4, 5, 6] (.sl (.var 0) (.cons (.con (.int 1)) .nil) .nil))
    (.seq (.set 7 true (.lst .nil))
    (.seq (.set 8 true (.lst .nil))
    (.seq (.set 9 false (.con (.int 0)))
    (.seq (.set 10 false (.con (.int 0)))
    (.seq (.for_ (.one 11) (.wk .seq (.ix (.var 1) (.con (.int 1))) .nil)
    b__law_run_2)
    (.ret (.lst (.cons (.var 7) (.cons (.var 8) .nil)))))))))) }
def u__law_run : UDef := ⟨dd "_law_run" 55, ["_law_setting", "_law_program_here", "_law_inputs_here", "_law_coins_here"], ["_law_setting", "_law_program_here", "_law_inputs_here", "_law_coins_here", "_law_p", "_law_n", "_law_t", "_law_polys", "_law_dealt", "_law_used", "_law_at_here", "_law_row", "_law_kind", "_law_poly", "_law_many", "_law_k", "_law_first"], ["_law_polys", "_law_dealt", "_law_many"], d__law_run⟩
theorem ok__law_run : UOk fns kon blt u__law_run := { at_ := rfl, sc := C8.fnScope_by (by decide +kernel), body := by kernel_rfl, binds := fun _ _ _ _ _ _ us hl => match us, hl with | [_, _, _, _], _ => rfl }
def c__law_shares_1 : DE := (.call F._law_at (.cons (.ix (.var 0) (.con (.int 1))) (.cons (.var 1) (.cons (.var 2) .nil))))
def d__law_shares : FD := { np := 2, ns := 3, body := (.ret (.b1 .tuple (.lc c__law_shares_1 (.one 2) (.wk .rng2 (.con (.int 1)) (.bin .add (.ix (.var 0) (.con (.int 2))) (.con (.int 1)))) (.con (.bl true)) [2]))) }
def u__law_shares : UDef := ⟨dd "_law_shares" 56, ["_law_setting", "_law_poly"], ["_law_setting", "_law_poly", "_law_party"], [], d__law_shares⟩
theorem ok__law_shares : UOk fns kon blt u__law_shares := { at_ := rfl, sc := C8.fnScope_by (by decide +kernel), body := by kernel_rfl, binds := fun _ _ _ _ _ _ us hl => match us, hl with | [_, _], _ => rfl }
def c__law_sets_1 : DE := (.bin .add (.var 4) (.tup (.cons (.var 3) .nil)))
def c__law_sets_2 : DE := (.cmp .lt (.b1 .len (.var 4)) (.var 1))
def b__law_sets_3 : DS := (.set 2 false (.bin .add (.var 2) (.lc c__law_sets_1 (.one 4) (.wk .seq (.var 2) .nil) c__law_sets_2 [4])))
def c__law_sets_4 : DE := (.var 4)
def c__law_sets_5 : DE := (.cmp .eq (.b1 .len (.var 4)) (.var 1))
def d__law_sets : FD := { np := 2, ns := 5, body := (.seq (.set 2 false (.lst (.cons (.tup .nil) .nil)))
    (.seq (.for_ (.one 3) (.wk .rng2 (.con (.int 1)) (.bin .add (.var 0) (.con (.int 1))))
    b__law_sets_3)
    (.ret (.lc c__law_sets_4 (.one 4) (.wk .seq (.var 2) .nil) c__law_sets_5 [4])))) }
def u__law_sets : UDef := ⟨dd "_law_sets" 57, ["_law_many", "_law_size"], ["_law_many", "_law_size", "_law_rows", "_law_party", "_law_row"], [], d__law_sets⟩
theorem ok__law_sets : UOk fns kon blt u__law_sets := { at_ := rfl, sc := C8.fnScope_by (by decide +kernel), body := by kernel_rfl, binds := fun _ _ _ _ _ _ us hl => match us, hl with | [_, _], _ => rfl }
def c__law_read_1 : DE := (.bin .mul (.ix (.var 8) (.var 10)) (.ix (.var 1) (.bin .sub (.ix (.var 5) (.var 10)) (.con (.int 1)))))
def b__law_read_2 : DS := (.seq (.set 8 false (.call F._law_weights (.cons (.var 2) (.cons (.b1 .list (.var 5)) (.cons (.var 7) .nil)))))
    (.seq (.set 9 false (.bin .mod (.b1 .int (.b1 .sum (.lc c__law_read_1 (.one 10) (.wk .rng1 (.bin .add (.var 4) (.con (.int 1))) .nil) (.con (.bl true)) [10]))) (.var 2)))
    (.set 6 false (.bin .add (.var 6) (.b1 .int (.cmp .eq (.var 9) (.ix (.var 1) (.bin .sub (.var 7) (.con (.int 1))))))))))
def c__law_read_3 : DE := (.bin .mul (.ix (.var 8) (.var 10)) (.ix (.var 1) (.bin .sub (.ix (.var 5) (.var 10)) (.con (.int 1)))))
def b__law_read_4 : DS := (.seq (.set 6 false (.con (.int 0)))
    (.seq (.for_ (.one 7) (.wk .rng2 (.con (.int 1)) (.bin .add (.var 3) (.con (.int 1))))
    b__law_read_2)
    (.ife (.cmp .ge (.var 6) (.bin .sub (.var 3) (.bin .fdiv (.bin .sub (.bin .sub (.var 3) (.var 4)) (.con (.int 1))) (.con (.int 2)))))
    (.seq (.set 8 false (.call F._law_weights (.cons (.var 2) (.cons (.b1 .list (.var 5)) (.cons (.con (.int 0)) .nil)))))
    (.ret (.bin .mod (.b1 .int (.b1 .sum (.lc c__law_read_3 (.one 10) (.wk .rng1 (.bin .add (.var 4) (.con (.int 1))) .nil) (.con (.bl true)) [10]))) (.var 2))))
    .skip)))
def d__law_read : FD := { np := 2, ns := 11, body := (.seq (.unp [2, 3, 4] (.sl (.var 0) (.cons (.con (.int 1)) .nil) .nil))
    (.seq (.for_ (.one 5) (.wk .seq (.call F._law_sets (.cons (.var 3) (.cons (.bin .add (.var 4) (.con (.int 1))) .nil))) .nil)
    b__law_read_4)
    (.ret (.con .non)))) }
def u__law_read : UDef := ⟨dd "_law_read" 58, ["_law_setting", "_law_row"], ["_law_setting", "_law_row", "_law_p", "_law_n", "_law_t", "_law_some", "_law_near", "_law_party", "_law_weighed", "_law_value", "_law_k"], [], d__law_read⟩
theorem ok__law_read : UOk fns kon blt u__law_read := { at_ := rfl, sc := C8.fnScope_by (by decide +kernel), body := by kernel_rfl, binds := fun _ _ _ _ _ _ us hl => match us, hl with | [_, _], _ => rfl }
def b_law_1 : DS := (.seq (.set 20 false (.bin .add (.con (.int 1)) (.call F._law_draw (.cons (.var 1) (.cons (.var 3) .nil)))))
    (.ife (.cmp .notIn (.var 20) (.var 18))
    (.expr (.m1 .append (.var 18) (.var 20)))
    .skip))
def b_law_2 : DS := (.seq (.expr (.m1 .append (.var 11) (.tup (.cons (.var 13) (.cons (.var 20) (.cons (.call F._law_number (.cons (.var 1) (.cons (.var 2) .nil))) .nil))))))
    (.setIx (.var 16) (.bin .sub (.var 20) (.con (.int 1))) (.ix (.ix (.var 11) (.neg (.con (.int 1)))) (.con (.int 2)))))
def b_law_3 : DS := (.seq (.set 16 true (.b1 .list (.call F._law_shares (.cons (.var 5) (.cons (.ix (.var 9) (.ix (.ix (.ix (.var 6) (.con (.int 1))) (.var 13)) (.con (.int 1)))) .nil)))))
    (.seq (.set 17 false (.bin .add (.bin .fdiv (.bin .sub (.bin .sub (.var 3) (.var 4)) (.con (.int 1))) (.con (.int 2))) (.bin .mul (.call F._law_draw (.cons (.var 1) (.cons (.con (.int 3)) .nil))) (.b1 .int (.cmp .eq (.call F._law_draw (.cons (.var 1) (.cons (.con (.int 3)) .nil))) (.con (.int 0)))))))
    (.seq (.set 18 true (.lst .nil))
    (.seq (.for_ (.one 19) (.wk .rng1 (.b2 .min (.var 3) (.var 17)) .nil)
    b_law_1)
    (.seq (.for_ (.one 20) (.wk .seq (.b1 .sorted (.var 18)) .nil)
    b_law_2)
    (.seq (.set 21 false (.call F._law_read (.cons (.var 5) (.cons (.var 16) .nil))))
    (.seq (.ife (.and (.cmp .le (.b1 .len (.var 18)) (.bin .fdiv (.bin .sub (.bin .sub (.var 3) (.var 4)) (.con (.int 1))) (.con (.int 2)))) (.cmp .ne (.var 21) (.var 15)))
    (.ret (.con (.bl false)))
    .skip)
    (.expr (.m1 .append (.var 12) (.tup (.cons (.var 13) (.cons (.var 14) (.cons (.var 21) .nil)))))))))))))
def d_law : FD := { np := 1, ns := 22, body := (.seq (.set 1 true (.lst (.cons (.call F._law_digits (.cons (.var 0) (.cons (.con (.int 0)) (.cons (.con (.int 63)) .nil)))) (.cons (.con (.int 0)) .nil))))
    (.seq (.set 2 false (.call F._law_pick (.cons (.var 1) (.cons (.lst (.cons (.con (.int 5)) (.cons (.con (.int 7)) (.cons (.con (.int 11)) (.cons (.con (.int 101)) (.cons (.con (.int 10007)) .nil)))))) .nil))))
    (.seq (.set 3 false (.bin .add (.con (.int 1)) (.call F._law_draw (.cons (.var 1) (.cons (.b2 .min (.con (.int 6)) (.bin .sub (.var 2) (.con (.int 1)))) .nil)))))
    (.seq (.set 4 false (.call F._law_draw (.cons (.var 1) (.cons (.bin .fdiv (.bin .add (.var 3) (.con (.int 1))) (.con (.int 2))) .nil))))
    (.seq (.set 5 false (.tup (.cons (.con (.str (Str.ofString "setting"))) (.cons (.var 2) (.cons (.var 3) (.cons (.var 4) .nil))))))
    (.seq (.set 6 false (.call F._law_program (.cons (.var 1) (.cons (.var 5) (.cons (.con (.int 12)) (.cons (.con (.int 1)) .nil))))))
    (.seq (.set 7 false (.call F._law_inputs (.cons (.var 1) (.cons (.var 5) (.cons (.var 6) .nil)))))
    (.seq (.set 8 false (.call F._law_coins (.cons (.var 1) (.cons (.var 5) (.cons (.var 6) .nil)))))
    (.seq (.set 9 false (.ix (.call F._law_run (.cons (.var 5) (.cons (.var 6) (.cons (.var 7) (.cons (.var 8) .nil))))) (.con (.int 0))))
    (.seq (.set 10 false (.call F._law_shown (.cons (.var 5) (.cons (.var 6) (.cons (.var 7) .nil)))))
    (.seq (.set 11 true (.lst .nil))
    (.seq (.set 12 true (.lst .nil))
    (.seq (.for_ (.many [13, 14, 15]) (.wk .seq (.var 10) .nil)
    b_law_3)
    (.ret (.call F._law_same (.cons (.call F.read_out (.cons (.var 5) (.cons (.var 6) (.cons (.var 7) (.cons (.var 8) (.cons (.b1 .tuple (.var 11)) .nil)))))) (.cons (.b1 .tuple (.var 12)) .nil))))))))))))))))) }
def u_law : UDef := ⟨dd "law" 59, ["_law_script"], ["_law_script", "_law_box", "_law_p", "_law_n", "_law_t", "_law_setting", "_law_program_here", "_law_inputs_here", "_law_coins_here", "_law_polys", "_law_plain", "_law_lies", "_law_due", "_law_k", "_law_party", "_law_value", "_law_row", "_law_most", "_law_liars", "_law_turn", "_law_liar", "_law_read_here"], ["_law_box", "_law_lies", "_law_due", "_law_row", "_law_liars"], d_law⟩
theorem ok_law : UOk fns kon blt u_law := { at_ := rfl, sc := C8.fnScope_by (by decide +kernel), body := by kernel_rfl, binds := fun _ _ _ _ _ _ us hl => match us, hl with | [_], _ => rfl }
def us0 : List UDef := [u_power, u_inverse, u_value_at, u_added, u_scaled, u_with_root, u_roots_at, u_bases, u_through, u_weights, u_parties, u_shares_of, u_shares, u_sets_of, u_wrong, u_readings, u_most_wrong, u_read, u_places, u_taken]
theorem all_ok0 : ∀ u ∈ us0, UOk fns kon blt u := by
  intro u h
  simp only [us0, List.mem_cons, List.not_mem_nil, or_false] at h
  rcases h with rfl | rfl | rfl | rfl | rfl | rfl | rfl | rfl | rfl | rfl | rfl | rfl | rfl | rfl | rfl | rfl | rfl | rfl | rfl | rfl
  · exact ok_power
  · exact ok_inverse
  · exact ok_value_at
  · exact ok_added
  · exact ok_scaled
  · exact ok_with_root
  · exact ok_roots_at
  · exact ok_bases
  · exact ok_through
  · exact ok_weights
  · exact ok_parties
  · exact ok_shares_of
  · exact ok_shares
  · exact ok_sets_of
  · exact ok_wrong
  · exact ok_readings
  · exact ok_most_wrong
  · exact ok_read
  · exact ok_places
  · exact ok_taken
def us1 : List UDef := [u_output_rows, u_dealt, u_joined, u_plain_shares, u_run, u_sent, u_told_row, u_read_out, u__law_cell, u__law_digits, u__law_draw, u__law_pick, u__law_same, u__law_number, u__law_numbers, u__law_at, u__law_raised, u__law_inverse, u__law_weights, u__law_program]
theorem all_ok1 : ∀ u ∈ us1, UOk fns kon blt u := by
  intro u h
  simp only [us1, List.mem_cons, List.not_mem_nil, or_false] at h
  rcases h with rfl | rfl | rfl | rfl | rfl | rfl | rfl | rfl | rfl | rfl | rfl | rfl | rfl | rfl | rfl | rfl | rfl | rfl | rfl | rfl
  · exact ok_output_rows
  · exact ok_dealt
  · exact ok_joined
  · exact ok_plain_shares
  · exact ok_run
  · exact ok_sent
  · exact ok_told_row
  · exact ok_read_out
  · exact ok__law_cell
  · exact ok__law_digits
  · exact ok__law_draw
  · exact ok__law_pick
  · exact ok__law_same
  · exact ok__law_number
  · exact ok__law_numbers
  · exact ok__law_at
  · exact ok__law_raised
  · exact ok__law_inverse
  · exact ok__law_weights
  · exact ok__law_program
def us2 : List UDef := [u__law_inputs, u__law_values, u__law_shown, u__law_coins_of, u__law_coins, u__law_poly_sum, u__law_run, u__law_shares, u__law_sets, u__law_read, u_law]
theorem all_ok2 : ∀ u ∈ us2, UOk fns kon blt u := by
  intro u h
  simp only [us2, List.mem_cons, List.not_mem_nil, or_false] at h
  rcases h with rfl | rfl | rfl | rfl | rfl | rfl | rfl | rfl | rfl | rfl | rfl
  · exact ok__law_inputs
  · exact ok__law_values
  · exact ok__law_shown
  · exact ok__law_coins_of
  · exact ok__law_coins
  · exact ok__law_poly_sum
  · exact ok__law_run
  · exact ok__law_shares
  · exact ok__law_sets
  · exact ok__law_read
  · exact ok_law
def us : List UDef := us0 ++ us1 ++ us2
theorem all_ok : ∀ u ∈ us, UOk fns kon blt u := by
  intro u h
  simp only [us, List.mem_append] at h
  rcases h with ((h | h) | h)
  · exact all_ok0 u h
  · exact all_ok1 u h
  · exact all_ok2 u h
theorem fo : fnsOk us fns := fnsC_ok (by decide +kernel)
abbrev T : Nat → Option FD := tbl us
theorem T_0 : T 0 = some d_power := rfl
theorem T_1 : T 1 = some d_inverse := rfl
theorem T_2 : T 2 = some d_value_at := rfl
theorem T_3 : T 3 = some d_added := rfl
theorem T_4 : T 4 = some d_scaled := rfl
theorem T_5 : T 5 = some d_with_root := rfl
theorem T_6 : T 6 = some d_roots_at := rfl
theorem T_7 : T 7 = some d_bases := rfl
theorem T_8 : T 8 = some d_through := rfl
theorem T_9 : T 9 = some d_weights := rfl
theorem T_10 : T 10 = some d_parties := rfl
theorem T_11 : T 11 = some d_shares_of := rfl
theorem T_12 : T 12 = some d_shares := rfl
theorem T_13 : T 13 = some d_sets_of := rfl
theorem T_14 : T 14 = some d_wrong := rfl
theorem T_15 : T 15 = some d_readings := rfl
theorem T_16 : T 16 = some d_most_wrong := rfl
theorem T_17 : T 17 = some d_read := rfl
theorem T_18 : T 18 = some d_places := rfl
theorem T_19 : T 19 = some d_taken := rfl
theorem T_20 : T 20 = some d_output_rows := rfl
theorem T_21 : T 21 = some d_dealt := rfl
theorem T_22 : T 22 = some d_joined := rfl
theorem T_23 : T 23 = some d_plain_shares := rfl
theorem T_24 : T 24 = some d_run := rfl
theorem T_25 : T 25 = some d_sent := rfl
theorem T_26 : T 26 = some d_told_row := rfl
theorem T_27 : T 27 = some d_read_out := rfl
theorem T_28 : T 28 = some d__law_cell := rfl
theorem T_29 : T 29 = some d__law_digits := rfl
theorem T_30 : T 30 = some d__law_draw := rfl
theorem T_31 : T 31 = some d__law_pick := rfl
theorem T_32 : T 32 = some d__law_same := rfl
theorem T_33 : T 33 = some d__law_number := rfl
theorem T_34 : T 34 = some d__law_numbers := rfl
theorem T_35 : T 35 = some d__law_at := rfl
theorem T_36 : T 36 = some d__law_raised := rfl
theorem T_37 : T 37 = some d__law_inverse := rfl
theorem T_38 : T 38 = some d__law_weights := rfl
theorem T_39 : T 39 = some d__law_program := rfl
theorem T_40 : T 40 = some d__law_inputs := rfl
theorem T_41 : T 41 = some d__law_values := rfl
theorem T_42 : T 42 = some d__law_shown := rfl
theorem T_43 : T 43 = some d__law_coins_of := rfl
theorem T_44 : T 44 = some d__law_coins := rfl
theorem T_45 : T 45 = some d__law_poly_sum := rfl
theorem T_46 : T 46 = some d__law_run := rfl
theorem T_47 : T 47 = some d__law_shares := rfl
theorem T_48 : T 48 = some d__law_sets := rfl
theorem T_49 : T 49 = some d__law_read := rfl
theorem T_50 : T 50 = some d_law := rfl
end U.L_k18

set_option maxHeartbeats 4000000
namespace U.L_k18
open PySem U
def I : Nat → Nat := fun k => ([999, 0, 1, 28, 29, 30, 31, 33, 36, 32, 999, 999, 2, 3, 4, 5, 6, 999, 7, 8, 9, 34, 35, 37, 38, 999, 999, 10, 11, 12, 999, 999, 999, 999, 13, 14, 15, 16, 17, 999, 999, 999, 999, 999, 999, 999, 999, 999, 20, 39, 999, 999, 999, 999, 999, 999, 999, 999, 999, 999, 999, 999, 999, 999, 18, 999, 40, 41, 42, 999, 999, 999, 999, 999, 999, 999, 999, 999, 999, 999, 999, 999, 19, 21, 22, 23, 24, 999, 999, 25, 43, 44, 45, 46, 47, 999, 999, 999, 999, 999, 999, 999, 999, 999, 999, 999, 999, 999, 999, 999, 999, 999, 999, 999, 999, 999, 999, 999, 999, 999, 999, 999, 26, 27, 48, 49, 50] : List Nat).getD k 999
theorem hf__law_draw : H__law_draw T I := ⟨rfl⟩
theorem hf__law_pick : H__law_pick T I := ⟨rfl, hf__law_draw⟩
theorem hf__law_number : H__law_number T I := ⟨rfl, hf__law_draw⟩
theorem hf__law_program : H__law_program T I := ⟨rfl, hf__law_draw, hf__law_number, hf__law_pick⟩
theorem hf__law_numbers : H__law_numbers T I := ⟨rfl, hf__law_number⟩
theorem hf__law_inputs : H__law_inputs T I := ⟨rfl, hf__law_numbers⟩
theorem hf__law_coins_of : H__law_coins_of T I := ⟨rfl⟩
theorem hf__law_coins : H__law_coins T I := ⟨rfl, hf__law_draw, hf__law_coins_of⟩
theorem hf__law_values : H__law_values T I := ⟨rfl⟩
theorem hf__law_shown : H__law_shown T I := ⟨rfl, hf__law_values⟩
theorem hf__law_same : H__law_same T I := ⟨rfl⟩
theorem hf__law_cell : H__law_cell T I := ⟨rfl⟩
theorem hf__law_digits : H__law_digits T I := ⟨rfl, hf__law_cell⟩
theorem hf__law_poly_sum : H__law_poly_sum T I := ⟨rfl⟩
theorem hf__law_raised : H__law_raised T I := ⟨rfl⟩
theorem hf__law_inverse : H__law_inverse T I := ⟨rfl, hf__law_raised⟩
theorem hf__law_weights : H__law_weights T I := ⟨rfl, hf__law_inverse⟩
theorem hf__law_at : H__law_at T I := ⟨rfl⟩
theorem hf__law_run : H__law_run T I := ⟨rfl, hf__law_poly_sum, hf__law_weights, hf__law_at⟩
theorem hf__law_sets : H__law_sets T I := ⟨rfl⟩
theorem hf__law_read : H__law_read T I := ⟨rfl, hf__law_sets, hf__law_weights⟩
theorem hf_places : H_places T I := ⟨rfl⟩
theorem hf_taken : H_taken T I := ⟨rfl⟩
theorem hf_value_at : H_value_at T I := ⟨rfl⟩
theorem hf_parties : H_parties T I := ⟨rfl⟩
theorem hf_shares_of : H_shares_of T I := ⟨rfl, hf_value_at, hf_parties⟩
theorem hf_shares : H_shares T I := ⟨rfl, hf_shares_of⟩
theorem hf_added : H_added T I := ⟨rfl⟩
theorem hf_scaled : H_scaled T I := ⟨rfl⟩
theorem hf_with_root : H_with_root T I := ⟨rfl, hf_scaled, hf_added⟩
theorem hf_roots_at : H_roots_at T I := ⟨rfl, hf_with_root⟩
theorem hf_power : H_power T I := ⟨rfl⟩
theorem hf_inverse : H_inverse T I := ⟨rfl, hf_power⟩
theorem hf_bases : H_bases T I := ⟨rfl, hf_roots_at, hf_scaled, hf_inverse, hf_value_at⟩
theorem hf_weights : H_weights T I := ⟨rfl, hf_value_at, hf_bases⟩
theorem hf_joined : H_joined T I := ⟨rfl, hf_parties, hf_weights, hf_value_at⟩
theorem hf_plain_shares : H_plain_shares T I := ⟨rfl⟩
theorem hf_dealt : H_dealt T I := ⟨rfl⟩
theorem hf_run : H_run T I := ⟨rfl, hf_places, hf_taken, hf_shares, hf_joined, hf_plain_shares, hf_dealt⟩
theorem hf_output_rows : H_output_rows T I := ⟨rfl⟩
theorem hf_sent : H_sent T I := ⟨rfl, hf_run, hf_output_rows⟩
theorem hf_sets_of : H_sets_of T I := ⟨rfl⟩
theorem hf_through : H_through T I := ⟨rfl, hf_added, hf_scaled, hf_bases⟩
theorem hf_wrong : H_wrong T I := ⟨rfl, hf_parties, hf_value_at⟩
theorem hf_readings : H_readings T I := ⟨rfl, hf_sets_of, hf_parties, hf_through, hf_wrong⟩
theorem hf_most_wrong : H_most_wrong T I := ⟨rfl⟩
theorem hf_read : H_read T I := ⟨rfl, hf_readings, hf_most_wrong⟩
theorem hf_told_row : H_told_row T I := ⟨rfl⟩
theorem hf_read_out : H_read_out T I := ⟨rfl, hf_sent, hf_read, hf_told_row⟩
theorem hf__law_shares : H__law_shares T I := ⟨rfl, hf__law_at⟩
theorem hf_law_k18 : H_law_k18 T I := ⟨rfl, hf__law_pick, hf__law_draw, hf__law_program, hf__law_inputs, hf__law_coins, hf__law_shown, hf__law_same, hf__law_digits, hf__law_run, hf__law_read, hf_read_out, hf__law_shares, hf__law_number⟩
theorem plain (ns : List Int) (h : ns.length ≤ 63) : ∃ S', callN (tbl us) 20 F.law [.d (.rol (ns.map D.int))] ⟨[], [], []⟩ = .ok (.d (.bl true)) S' := law18 hf_law_k18 ns h
end U.L_k18

namespace U.L_k18
open PySem PySem.Spec PyProof.Rows L2 U
abbrev R : PySem.W.OpenRow := PySem.W.OpenLaw.row PySem.Challenge.rw_untold_k18_lies_are_read_through
def dsU : List He.DefD := us.map fun u => u.d
abbrev hk : PySem.W.Hook := hookU 4 dsU (exB fns kon blt)
def ob (t : PySem.W.SharedT) : AlU := obsU 4 dsU (exB fns kon blt) (HandSHeadRun.getT t)
theorem ob_eq (t : PySem.W.SharedT) : ob t = hk.obs t.abs := obsU_eq (HandSHeadRun.getT_eq t)
def loose : List Str := (["power", "inverse", "value_at", "added", "scaled", "with_root", "roots_at", "bases", "through", "weights", "parties", "shares_of", "shares", "sets_of", "wrong", "readings", "most_wrong", "read", "places", "taken", "output_rows", "dealt", "joined", "plain_shares", "run", "sent", "told_row", "read_out", "_law_cell", "_law_digits"] : List Str) ++ (["_law_draw", "_law_pick", "_law_same", "_law_number", "_law_numbers", "_law_at", "_law_raised", "_law_inverse", "_law_weights", "_law_program", "_law_inputs", "_law_values", "_law_shown", "_law_coins_of", "_law_coins", "_law_poly_sum", "_law_run", "_law_shares", "_law_sets", "_law_read"] : List Str)
set_option maxHeartbeats 0 in
theorem run (w : World) : HandSHeadRun.RunEq R (PySem.W.view R.prog [59]) hk ob 4000 loose w := by
  intro os
  kernel_rfl
end U.L_k18
open PySem PySem.W PySem.Calls PyProof.Rows
set_option maxHeartbeats 0 in
theorem PySem.Challenge.cw_untold_k18_lies_are_read_through_holds : PySem.Challenge.rw_untold_k18_lies_are_read_through.Holds := by
  w_on; o_law
  refine HandSHeadRun.head_any (r := U.L_k18.R) (q := view U.L_k18.R.prog [59]) (H := U.L_k18.hk) (ob := U.L_k18.ob) (M := 4000) (loose := U.L_k18.loose) (d := HandSHeadRun.topDef U.L_k18.R.prog 59) (kwd := []) U.L_k18.ob_eq
    (by kernel_rfl) (fun t => by kernel_rfl) U.L_k18.run (by kernel_rfl) (by kernel_rfl) (by kernel_rfl) (by rfl) (by first | assumption | decide +kernel) (by decide +kernel) ⟨rfl, rfl, rfl, rfl, rfl, by decide +kernel⟩ ?hw ?hc
  case hw => w_witness2
  case hc => exact U.law_U (l := PySem.Challenge.rw_untold_k18_lies_are_read_through) (n := 63) (k := 20) (i := U.L_k18.F.law) (us := U.L_k18.us) (u := U.L_k18.u_law) rfl (by decide) (by kernel_rfl) ⟨rfl, by decide, by decide⟩ rfl rfl (by kernel_rfl) (by kernel_rfl) U.L_k18.all_ok U.L_k18.fo U.L_k18.plain
